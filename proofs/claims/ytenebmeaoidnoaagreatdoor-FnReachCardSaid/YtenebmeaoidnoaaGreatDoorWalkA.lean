/- Contracts of the small functions: ranges, checks of lists, copies and comparisons of lists. -/
import Derived.Test.YtenebmeaoidnoaaGreatDoorBase
import Derived.Test.YtenebmeaoidnoaaGreatDoorKY
namespace Go.Proofs.YtenebmeaoidnoaaGreatDoor
open Go.RowKit
theorem l6In_c (n lo hi:Int) (w:World):Calls Tryz.prog 90 #[.int .i64 n,.int .i64 lo,.int .i64 hi] w fun e w'=>e=.returned (.bool (inR n lo hi))∧w=w':=by
  by_cases h1:lo≤n
  · by_cases h2:n≤hi
    · go_enter Tryz.func90,Tryz.ntmps90;go_wp2;go_ret;exact ⟨ret_bool (by simp [inR,h1,h2]),rfl⟩
    · go_enter Tryz.func90,Tryz.ntmps90;go_wp2;go_ret;exact ⟨ret_bool (by simp [inR,h1,h2]),rfl⟩
  · go_enter Tryz.func90,Tryz.ntmps90;go_wp2;go_ret;exact ⟨ret_bool (by simp [inR];omega),rfl⟩
set_option maxHeartbeats 400000 in
theorem sameInts_c (xs ys:List Int) (v u:Value) (w:World) (hx:RI w v xs) (hy:RI w u ys) :
    Calls Tryz.prog 25 #[v,u] w fun e w'=>e=.returned (.bool (decide (xs=ys)))∧Below w.heap.size w w':=by
  obtain ⟨a,cap,rfl⟩:=hx.val;obtain ⟨a',cap',rfl⟩:=hy.val;have hl:=hx.1;have hl':=hy.1;have Hx:=hI_ hx;clear hx;have Hy:=hI_ hy;clear hy
  by_cases hne:xs.length=ys.length
  · have hnb:((xs.length:Int) != (ys.length:Int))=false:=by simp [hne]
    have Hne:=hI_ hne;clear hne;go_enter Tryz.func25,Tryz.ntmps25;go_wp2_with fail;clear hnb;go_loopw [5] (fun i wr=>∃ k:Nat,i=.int .i64 k∧k≤xs.length∧Hid (xs.take k=ys.take k)∧Hid (Below w.heap.size w wr)) (fun i _=>xs.length - (intOf i).toNat)
    case atStart=>exact ⟨0,rfl,Nat.zero_le _,by simp [Hid],Below.refl _ _⟩
    case round =>
      obtain ⟨k,rfl,hk,ht,hb⟩:=hrel
      by_cases hlt:k<xs.length
      · have hlt':k<ys.length:=by rw [←Hne.out];exact hlt
        obtain ⟨b,off,cap1,e,_,hc⟩:=(Hx.out.below hb.out).at hlt;simp only [Value.slice.injEq] at e;obtain ⟨rfl,_,rfl⟩:=e;obtain ⟨b',off',cap1,e,_,hc'⟩:=(Hy.out.below hb.out).at hlt';simp only [Value.slice.injEq] at e;obtain ⟨rfl,_,rfl⟩:=e;have H1:=hI_ (List.take_succ_eq_append_getElem hlt);have H2:=hI_ (List.take_succ_eq_append_getElem hlt');have hlI:(k:Int)<(xs.length:Int):=by omega
        have hlI':(k:Int)<(ys.length:Int):=by omega
        have H3:Hid (xs[k]≠ys[k]→xs≠ys):=fun h e=>h (by subst e;rfl)
        generalize xs[k]=x at hc H1 H3;generalize ys[k]=y at hc' H2 H3
        by_cases hxy:x=y
        · subst hxy;go_wp2_with fail;go_quiet (fail);go_wp2_with fail;go_roundw
          case rel=>exact ⟨k+1,by go_num,by omega,by show xs.take (k+1)=ys.take (k+1);rw [H1.out,H2.out,ht.out],below_drewN hb.out _⟩
          case measure=>simp [intOf];omega
        · have hxb:(x != y)=true:=by simpa using hxy
          have H4:=hI_ (H3.out hxy);clear hxy;go_wp2_with fail;go_quiet (fail);go_wp2_with fail;go_ret;exact ⟨ret_bool (by simpa using H4.out),below_drewN hb.out _⟩
      · go_wp2_with fail;go_ret;refine ⟨ret_bool ?_,hb.out⟩;have h1:=ht.out;rw [List.take_of_length_le (by omega),List.take_of_length_le (by rw [←Hne.out];omega)] at h1;simp [h1]
  · have hnb:((xs.length:Int) != (ys.length:Int))=true:=by simp;omega
    have Hne:=hI_ hne;clear hne;go_enter Tryz.func25,Tryz.ntmps25;go_wp2_with fail;go_ret;exact ⟨ret_bool (by simp;intro e;exact Hne.out (by rw [e])),Below.refl _ _⟩
theorem within_c (n lo hi:Int) (w:World):Calls Tryz.prog 78 #[.int .i64 n,.int .i64 lo,.int .i64 hi] w fun e w'=>e=.returned (.bool (inR n lo hi))∧w=w':=by
  by_cases h1:lo≤n
  · by_cases h2:n≤hi
    · go_enter Tryz.func78,Tryz.ntmps78;go_wp2;go_ret;exact ⟨ret_bool (by simp [inR,h1,h2]),rfl⟩
    · go_enter Tryz.func78,Tryz.ntmps78;go_wp2;go_ret;exact ⟨ret_bool (by simp [inR,h1,h2]),rfl⟩
  · go_enter Tryz.func78,Tryz.ntmps78;go_wp2;go_ret;exact ⟨ret_bool (by simp [inR];omega),rfl⟩
theorem isPage_c (n:Int) (w:World):Calls Tryz.prog 118 #[.int .i64 n] w fun e w'=>e=.returned (.bool (inR n 0 15))∧w=w':=by
  go_enter Tryz.func118,Tryz.ntmps118;go_wp2_with (go_at_call 78;refine (within_c _ _ _ _).mono ?_;rintro e w' ⟨rfl,rfl⟩);go_ret;exact ⟨rfl,rfl⟩
theorem isWord_c (n:Int) (w:World):Calls Tryz.prog 116 #[.int .i64 n] w fun e w'=>e=.returned (.bool (inR n 0 9999))∧w=w':=by
  go_enter Tryz.func116,Tryz.ntmps116;go_wp2_with (go_at_call 78;refine (within_c _ _ _ _).mono ?_;rintro e w' ⟨rfl,rfl⟩);go_ret;exact ⟨rfl,rfl⟩
theorem isWords1_c (n:Int) (w:World):Calls Tryz.prog 115 #[.int .i64 n] w fun e w'=>e=.returned (.bool (!inR n 0 9999))∧w=w':=by
  go_enter Tryz.func115,Tryz.ntmps115;go_wp2_with (go_at_call 116;refine (isWord_c _ _).mono ?_;rintro e w' ⟨rfl,rfl⟩);go_ret;exact ⟨rfl,rfl⟩
/-- the first place at which p holds, or -1 -/
def firstAt (p:Int→Bool) (xs:List Int):Int:=if xs.any p then (xs.findIdx p:Nat) else -1
theorem firstAt_hit {p:Int→Bool} {xs:List Int} {k:Nat} (hk:k<xs.length) (h:p xs[k]=true) (hn:∀ j (hj:j<xs.length),j<k→p xs[j]=false):firstAt p xs=k:=by
  unfold firstAt
  have ha:xs.any p=true:=List.any_eq_true.2 ⟨xs[k],List.getElem_mem hk,h⟩;rw [if_pos ha];have:xs.findIdx p=k:=by
    rw [List.findIdx_eq hk];exact ⟨h,fun j hj=>by simp [hn j (by omega) hj]⟩
  rw [this]
theorem firstAt_none {p:Int→Bool} {xs:List Int} (h:∀ j (hj:j<xs.length),p xs[j]=false):firstAt p xs=-1:=by
  unfold firstAt
  have ha:xs.any p=false:=by
    rw [List.any_eq_false];intro x hx;obtain ⟨j,hj,rfl⟩:=List.mem_iff_getElem.1 hx;simp [h j hj]
  rw [if_neg (by simp [ha])]
theorem firstAt_nonneg (p:Int→Bool) (xs:List Int):decide (0≤firstAt p xs)=xs.any p:=by
  unfold firstAt
  cases h:xs.any p <;> simp
/-- A predicate on integers, as a function value: it says p, and turns nothing that was there. -/
def Pred (g:Nat) (lb:Array Value) (p:Int→Bool) (w:World):Prop:=
  (∀ args W,(callFunc g args).run Tryz.prog W=.ok (.enter g args) W) ∧
  ∀ x W,Below w.heap.size w W→Calls Tryz.prog g (#[.int .i64 x] ++ lb) W fun e w'=>e=.returned (.bool (p x))∧Below W.heap.size W w'
theorem Pred.pure {g:Nat} {p:Int→Bool} {w:World} (h:∀ args W,(callFunc g args).run Tryz.prog W=.ok (.enter g args) W)
    (hg:∀ x W,Calls Tryz.prog g #[.int .i64 x] W fun e w'=>e=.returned (.bool (p x))∧W=w'):Pred g #[] p w:=
  ⟨h,fun x W _=>(hg x W).mono fun _ _ ⟨he,hw⟩=>⟨he,hw ▸ Below.refl _ _⟩⟩
set_option maxHeartbeats 400000 in
theorem IndexFunc_c (g:Nat) (lb:Array Value) (p:Int→Bool) (xs:List Int) (v:Value) (w:World) (h:RI w v xs) (hp:Pred g lb p w) :
    Calls Tryz.prog 121 #[v,.func (.func g) #[] lb] w fun e w'=>e=.returned (.int .i64 (firstAt p xs))∧Below w.heap.size w w':=by
  obtain ⟨a,cap,rfl⟩:=h.val;obtain ⟨eg,hg⟩:=hp;have hl:=h.1;have H:=hI_ h;clear h;have Hg:=hI_ hg;clear hg;go_enter Tryz.func121,Tryz.ntmps121;go_wp2_with fail;go_loopw [8] (fun i wr=>∃ k:Nat,i=.int .i64 k∧k≤xs.length∧Hid (∀ j (hj:j<xs.length),j<k→p xs[j]=false)∧Hid (Below w.heap.size w wr)) (fun i _=>xs.length - (intOf i).toNat)
  case atStart=>exact ⟨0,rfl,Nat.zero_le _,fun j _ hj=>absurd hj (Nat.not_lt_zero _),Below.refl _ _⟩
  case round =>
    obtain ⟨k,rfl,hk,hn,hb⟩:=hrel
    by_cases hlt:k<xs.length
    · obtain ⟨b,off,cap1,e,_,hc⟩:=(H.out.below hb.out).at hlt;simp only [Value.slice.injEq] at e;obtain ⟨rfl,_,rfl⟩:=e;have hlI:(k:Int)<(xs.length:Int):=by omega
      have hcall:=hI_ (Hg.out xs[k] wr hb.out);have hit:Hid (p xs[k]=true→firstAt p xs=k):=fun h=>firstAt_hit hlt h hn.out
      have miss:Hid (p xs[k]=false→∀ j (hj:j<xs.length),j<k+1→p xs[j]=false):=fun h j hj hjk=>by
        by_cases e:j=k
        · subst e;exact h
        · exact hn.out j hj (by omega)
      generalize xs[k]=x at hc hcall hit miss
      cases hq:p x with
      | true =>
        have Hit:=hI_ (hit.out hq);rw [hq] at hcall;clear hit miss hq;go_wp2_with (go_at_fn g;refine hcall.out.mono ?_;rintro e w' ⟨rfl,hb'⟩;have Hb':=hI_ hb';clear hb');go_ret;exact ⟨ret_int Hit.out.symm,hb.out.trans (Hb'.out.mono hb.out.size)⟩
      | false =>
        have Miss:=hI_ (miss.out hq);rw [hq] at hcall;clear hit miss hq;go_wp2_with (go_at_fn g;refine hcall.out.mono ?_;rintro e w' ⟨rfl,hb'⟩;have Hb':=hI_ hb';clear hb');go_roundw
        case rel=>exact ⟨k+1,by go_num,by omega,Miss.out,hb.out.trans (Hb'.out.mono hb.out.size)⟩
        case measure=>simp [intOf];omega
    · have:k=xs.length:=by omega
      subst this;go_wp2_with fail;go_ret;exact ⟨ret_int (firstAt_none (fun j hj=>hn.out j hj hj)).symm,hb.out⟩
theorem ContainsFunc_c (g:Nat) (lb:Array Value) (p:Int→Bool) (xs:List Int) (v:Value) (w:World) (h:RI w v xs) (hp:Pred g lb p w) :
    Calls Tryz.prog 79 #[v,.func (.func g) #[] lb] w fun e w'=>e=.returned (.bool (xs.any p))∧Below w.heap.size w w':=by
  have hc:=IndexFunc_c g lb p xs v w h hp;have hn:=hI_ (firstAt_nonneg p xs);have Hc:=hI_ hc;clear hc h hp;generalize firstAt p xs=n at hn Hc
  go_enter Tryz.func79,Tryz.ntmps79;go_wp2_with (go_at_call 121;refine Hc.out.mono ?_;rintro e w' ⟨rfl,hb'⟩;have Hb':=hI_ hb';clear hb');go_ret;exact ⟨ret_bool hn.out,Hb'.out⟩
/-- the words of a page: four, each in range -/
def pageOk (xs:List Int):Bool:=xs.all (fun x=>inR x 0 9999)&&decide (xs.length=4)
theorem pageOk_iff {xs:List Int}:pageOk xs=true↔(∀ x ∈ xs,0≤x∧x≤9999)∧xs.length=4:=by
  simp [pageOk,inR]
set_option maxHeartbeats 400000 in
theorem l2Words_c (xs:List Int) (v:Value) (w:World) (h:RI w v xs) :
    Calls Tryz.prog 85 #[v] w fun e w'=>e=.returned (.bool (pageOk xs))∧w=w':=by
  obtain ⟨a,cap,rfl⟩:=h.val;have hl:=h.1;have H:=hI_ h;clear h;go_enter Tryz.func85,Tryz.ntmps85;go_wp2_with fail;go_loop [3] (fun i=>∃ k:Nat,i=.int .i64 k∧k≤xs.length∧Hid (∀ x ∈ xs.take k,inR x 0 9999=true)) (fun i=>xs.length - (intOf i).toNat)
  case atStart=>exact ⟨0,rfl,Nat.zero_le _,by simp [Hid]⟩
  case round =>
    obtain ⟨k,rfl,hk,hall⟩:=hrel
    by_cases hlt:k<xs.length
    · obtain ⟨b,off,cap',e,_,hc⟩:=H.out.at hlt;simp only [Value.slice.injEq] at e;obtain ⟨rfl,_,rfl⟩:=e;have hx:xs[k] ∈ xs:=List.getElem_mem hlt;have htk:xs.take (k+1)=xs.take k ++ [xs[k]]:=by rw [List.take_succ_eq_append_getElem hlt]
      generalize xs[k]=x at hc hx htk;have Ht:=hI_ htk;clear htk;have Hx:=hI_ hx;clear hx
      cases hin:inR x 0 9999
      · have Hin:=hI_ hin;clear hin;have hF:pageOk xs=false:=by
          simp only [pageOk,Bool.and_eq_false_iff,List.all_eq_false];exact .inl ⟨x,Hx.out,by simp [Hin.out]⟩
        have HF:=hI_ hF;clear hF;go_wp2_with (go_at_call 90;refine (l6In_c _ _ _ _).mono ?_;rintro e w' ⟨rfl,rfl⟩;rw [Hin.out]);go_ret;exact ⟨ret_bool HF.out.symm,rfl⟩
      · have Hin:=hI_ hin;clear hin;go_wp2_with (go_at_call 90;refine (l6In_c _ _ _ _).mono ?_;rintro e w' ⟨rfl,rfl⟩;rw [Hin.out]);go_round
        case rel =>
          refine ⟨k+1,by go_num,by omega,?_⟩;show ∀ y ∈ xs.take (k+1),inR y 0 9999=true;rw [Ht.out];intro y hy;rcases List.mem_append.1 hy with hy | hy
          · exact hall y hy
          · simp at hy;rw [hy];exact Hin.out
        case measure=>simp [intOf];omega
    · go_wp2_with fail;go_ret;refine ⟨ret_bool ?_,rfl⟩;have:xs.all (fun x=>inR x 0 9999)=true:=by
        rw [List.all_eq_true];intro x hx;refine hall x ?_;rw [List.take_of_length_le (by omega)];exact hx
      rw [pageOk,this];exact Bool.eq_iff_iff.2 (by simp;omega)
theorem isWords_c (xs:List Int) (v:Value) (w:World) (h:RI w v xs) :
    Calls Tryz.prog 71 #[v] w fun e w'=>e=.returned (.bool (pageOk xs))∧Below w.heap.size w w':=by
  obtain ⟨a,cap,rfl⟩:=h.val;have hl:=h.1;have hc:=ContainsFunc_c 115 #[] (fun x=>!inR x 0 9999) xs _ w h (Pred.pure (Proofs.enters_of Tryz.func115 (by kernel_rfl) rfl) isWords1_c);have e:(xs.any fun x=>!inR x 0 9999)=!(xs.all fun x=>inR x 0 9999):=by
    rw [List.not_all_eq_any_not]
  rw [e] at hc;have Hc:=hI_ hc;clear hc h e;unfold pageOk;generalize (xs.all fun x=>inR x 0 9999)=t at Hc
  by_cases h4:xs.length=4
  · have hb:((xs.length:Int)==4)=true:=by simp;omega
    have H4:=hI_ h4;clear h4;go_enter Tryz.func71,Tryz.ntmps71;go_wp2_with (go_at_call 79;refine Hc.out.mono ?_;rintro e w' ⟨rfl,hb'⟩;have Hb':=hI_ hb';clear hb');go_ret;exact ⟨ret_bool (by simp [H4.out]),Hb'.out⟩
  · have hb:((xs.length:Int)==4)=false:=by simp;omega
    have H4:=hI_ h4;clear h4;go_enter Tryz.func71,Tryz.ntmps71;go_wp2_with fail;go_ret;exact ⟨ret_bool (by simp [H4.out]),Below.refl _ _⟩
/-- the sum of words -/
def sumOf (xs:List Int):Int:=xs.foldl (fun n x=>(31*n+x) % 9973) 1
theorem sumOf_snoc (xs:List Int) (x:Int):sumOf (xs ++ [x])=(31*sumOf xs+x) % 9973:=by simp [sumOf]
theorem sumOf_rng:∀ xs:List Int,0≤sumOf xs∧sumOf xs<9973:=by
  intro xs;rcases List.eq_nil_or_concat xs with rfl | ⟨l,x,rfl⟩
  · decide
  · rw [List.concat_eq_append,sumOf_snoc];exact ⟨Int.emod_nonneg _ (by decide),Int.emod_lt_of_pos _ (by decide)⟩
/-- what PageSum hands back -/
def pageSum (xs:List Int):Int:=if pageOk xs then sumOf xs else -1
end Go.Proofs.YtenebmeaoidnoaaGreatDoor
