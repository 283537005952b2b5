/- Contracts of the small functions: ranges, checks of lists, copies and comparisons of lists. -/
import Derived.Test.YtliebkfligagnaaGreatDoorBase
set_option maxHeartbeats 400000
set_option linter.all false
namespace Go.Proofs.YtliebkfligagnaaGreatDoor
open Go.RowKit
theorem tq (n lo hi:Int) (w:World):Calls Tryz.prog 99 #[.int .i64 n,.int .i64 lo,.int .i64 hi] w fun e w'=>e=.returned (.bool (bK n lo hi))∧w=w':=by
 by_cases h1:lo≤n
 ·by_cases h2:n≤hi
  ·go_enter Tryz.func99,Tryz.ntmps99;go_wp2;go_ret;exact ⟨ak (by simp [bK,h1,h2]),rfl⟩
  go_enter Tryz.func99,Tryz.ntmps99;go_wp2;go_ret;exact ⟨ak (by simp [bK,h1,h2]),rfl⟩
 go_enter Tryz.func99,Tryz.ntmps99;go_wp2;go_ret;exact ⟨ak (by simp [bK];omega),rfl⟩
theorem KZ (xs:List Int) (v:Value) (w:World) (h:RI w v xs):Calls Tryz.prog 101 #[v] w (mZ w xs):=by
 obtain ⟨a,cap,rfl⟩:=h.val;have hl:=h.1;have H:=af h;clear h;obtain ⟨i0,hi,hz0,hz1,hz2⟩:=info_parts info3;have hc1:i0.bytes*xs.length≤281474976710656:=by rw [hz2];omega
 have hc2:xs.length≤maxLen:=by unfold maxLen;omega
 go_enter Tryz.func101,Tryz.ntmps101;go_wp2_with (at_make;refine wpList_make_full _ rfl _ _ 47 rfl w.heap.size 3 i0 (.int .i64 0) 1 u22 hi hz0 hz1 .i64 .i64 _ _ xs.length rfl rfl rfl rfl hc1 hc2 aW ?_;intro w1 hown hgrow);have hb1:Below w.heap.size w w1:=Below.lC hgrow;clear hi hz0 hz1 hz2 hgrow;go_loopw [4] (fun i wr=>∃ k:Nat,i=.int .i64 k∧k≤xs.length∧Hid (wr.ownsRow w.heap.size 3 1 (.slice (some ⟨w.heap.size,0,none⟩) xs.length xs.length) xs.length (ints (xs.take k) ++ List.replicate (xs.length - k) (.int .i64 0)))∧Hid (Below w.heap.size w wr))
  (fun i _=>xs.length - (intOf i).toNat)
 case atStart=>exact ⟨0,rfl,Nat.zero_le _,by simpa [Hid,ints,Value.cells,toList_madeCells_one] using hown,hb1⟩
 case round =>
  clear hown hb1;obtain ⟨k,rfl,hk,ho,hb⟩:=hrel
  by_cases hlt:k<xs.length
  ·obtain ⟨b,off,cap',e,hbl,hc⟩:=H.out.at hlt;simp only [Value.slice.injEq] at e;obtain ⟨rfl,_,rfl⟩:=e;have hc1:=(hb.out.cell (p:=⟨b,off+k,none⟩) hbl).trans hc;have hf:=ho.out.frozenAt k;have ho2:=(ho.out.stored k (.int .i64 xs[k])).1;rw [zS xs k hlt] at ho2;have hs:=ho.out.cellAt k (by omega);obtain ⟨z,hz⟩:∃ z,(ints (xs.take k) ++ List.replicate (xs.length - k) (Value.int .i64 0))[k]?=some z:=⟨_,List.getElem?_eq_getElem (by simp [ints];omega)⟩;rw [hz] at hs;have Ho:=af ho2;clear hz hc ho2;generalize xs[k]=x at hc1 Ho;go_wp2;go_roundw
   case rel=>exact ⟨k+1,by go_num,by omega,Ho.out,hb.out.setCell (by simp) _⟩
   case measure=>simp [intOf];omega
  go_wp2;go_ret;have hk':k=xs.length:=by omega
  subst hk';exact ⟨_,rfl,OI.B_ ho.out (by simp) rfl hl,hb.out⟩
theorem Ug (xs ys:List Int) (v u:Value) (w:World) (hx:RI w v xs) (hy:RI w u ys) :
  Calls Tryz.prog 21 #[v,u] w fun e w'=>e=.returned (.bool (decide (xs=ys)))∧Below w.heap.size w w':=by
 obtain ⟨a,cap,rfl⟩:=hx.val;obtain ⟨a',cap',rfl⟩:=hy.val;have hl:=hx.1;have hl':=hy.1;have Hx:=af hx;clear hx;have Hy:=af hy;clear hy
 by_cases hne:xs.length=ys.length
 ·have hnb:((xs.length:Int) != (ys.length:Int))=false:=by simp [hne]
  have xQ:=af hne;clear hne;go_enter Tryz.func21,Tryz.ntmps21;go_wp2_with fail;clear hnb;go_loopw [5] (fun i wr=>∃ k:Nat,i=.int .i64 k∧k≤xs.length∧Hid (xs.take k=ys.take k)∧Hid (Below w.heap.size w wr)) (fun i _=>xs.length - (intOf i).toNat)
  case atStart=>exact ⟨0,rfl,Nat.zero_le _,by simp [Hid],Below.refl _ _⟩
  case round =>
   obtain ⟨k,rfl,hk,ht,hb⟩:=hrel
   by_cases hlt:k<xs.length
   ·have hlt':k<ys.length:=by rw [←xQ.out];exact hlt
    obtain ⟨b,off,cap1,e,_,hc⟩:=(Hx.out.below hb.out).at hlt;simp only [Value.slice.injEq] at e;obtain ⟨rfl,_,rfl⟩:=e;obtain ⟨b',off',cap1,e,_,hc'⟩:=(Hy.out.below hb.out).at hlt';simp only [Value.slice.injEq] at e;obtain ⟨rfl,_,rfl⟩:=e;have H1:=af (List.take_succ_eq_append_getElem hlt);have H2:=af (List.take_succ_eq_append_getElem hlt');have kQ:(k:Int)<(xs.length:Int):=by omega
    have XG:(k:Int)<(ys.length:Int):=by omega
    have H3:Hid (xs[k]≠ys[k]→xs≠ys):=fun h e=>h (by subst e;rfl)
    generalize xs[k]=x at hc H1 H3;generalize ys[k]=y at hc' H2 H3
    by_cases hxy:x=y
    ·subst hxy;go_wp2_with fail;go_quiet (fail);go_wp2_with fail;go_roundw
     case rel=>exact ⟨k+1,by go_num,by omega,by show xs.take (k+1)=ys.take (k+1);rw [H1.out,H2.out,ht.out],below_drewN hb.out _⟩
     case measure=>simp [intOf];omega
    have hxb:(x != y)=true:=by simpa using hxy
    have H4:=af (H3.out hxy);clear hxy;go_wp2_with fail;go_quiet (fail);go_wp2_with fail;go_ret;exact ⟨ak (by simpa using H4.out),below_drewN hb.out _⟩
   go_wp2_with fail;go_ret;refine ⟨ak ?_,hb.out⟩;have h1:=ht.out;rw [List.take_of_length_le (by omega),List.take_of_length_le (by rw [←xQ.out];omega)] at h1;simp [h1]
 have hnb:((xs.length:Int) != (ys.length:Int))=true:=by simp;omega
 have xQ:=af hne;clear hne;go_enter Tryz.func21,Tryz.ntmps21;go_wp2_with fail;go_ret;exact ⟨ak (by simp;intro e;exact xQ.out (by rw [e])),Below.refl _ _⟩
theorem QB (xs ys:List Int) (v u:Value) (w:World) (hx:RI w v xs) (hy:RI w u ys) :
  Calls Tryz.prog 146 #[v,u] w fun e w'=>e=.returned (.bool (decide (xs=ys)))∧Below w.heap.size w w':=by
 obtain ⟨a,cap,rfl⟩:=hx.val;obtain ⟨a',cap',rfl⟩:=hy.val;have hl:=hx.1;have hl':=hy.1;have Hx:=af hx;clear hx;have Hy:=af hy;clear hy
 by_cases hne:xs.length=ys.length
 ·have hnb:((xs.length:Int) != (ys.length:Int))=false:=by simp [hne]
  have xQ:=af hne;clear hne;go_enter Tryz.func146,Tryz.ntmps146;go_wp2_with fail;clear hnb;go_loopw [5] (fun i wr=>∃ k:Nat,i=.int .i64 k∧k≤xs.length∧Hid (xs.take k=ys.take k)∧Hid (Below w.heap.size w wr)) (fun i _=>xs.length - (intOf i).toNat)
  case atStart=>exact ⟨0,rfl,Nat.zero_le _,by simp [Hid],Below.refl _ _⟩
  case round =>
   obtain ⟨k,rfl,hk,ht,hb⟩:=hrel
   by_cases hlt:k<xs.length
   ·have hlt':k<ys.length:=by rw [←xQ.out];exact hlt
    obtain ⟨b,off,cap1,e,_,hc⟩:=(Hx.out.below hb.out).at hlt;simp only [Value.slice.injEq] at e;obtain ⟨rfl,_,rfl⟩:=e;obtain ⟨b',off',cap1,e,_,hc'⟩:=(Hy.out.below hb.out).at hlt';simp only [Value.slice.injEq] at e;obtain ⟨rfl,_,rfl⟩:=e;have H1:=af (List.take_succ_eq_append_getElem hlt);have H2:=af (List.take_succ_eq_append_getElem hlt');have kQ:(k:Int)<(xs.length:Int):=by omega
    have XG:(k:Int)<(ys.length:Int):=by omega
    have H3:Hid (xs[k]≠ys[k]→xs≠ys):=fun h e=>h (by subst e;rfl)
    generalize xs[k]=x at hc H1 H3;generalize ys[k]=y at hc' H2 H3
    by_cases hxy:x=y
    ·subst hxy;go_wp2_with fail;go_quiet (fail);go_wp2_with fail;go_roundw
     case rel=>exact ⟨k+1,by go_num,by omega,by show xs.take (k+1)=ys.take (k+1);rw [H1.out,H2.out,ht.out],below_drewN hb.out _⟩
     case measure=>simp [intOf];omega
    have hxb:(x != y)=true:=by simpa using hxy
    have H4:=af (H3.out hxy);clear hxy;go_wp2_with fail;go_quiet (fail);go_wp2_with fail;go_ret;exact ⟨ak (by simpa using H4.out),below_drewN hb.out _⟩
   go_wp2_with fail;go_ret;refine ⟨ak ?_,hb.out⟩;have h1:=ht.out;rw [List.take_of_length_le (by omega),List.take_of_length_le (by rw [←xQ.out];omega)] at h1;simp [h1]
 have hnb:((xs.length:Int) != (ys.length:Int))=true:=by simp;omega
 have xQ:=af hne;clear hne;go_enter Tryz.func146,Tryz.ntmps146;go_wp2_with fail;go_ret;exact ⟨ak (by simp;intro e;exact xQ.out (by rw [e])),Below.refl _ _⟩
theorem y_ (n lo hi:Int) (w:World):Calls Tryz.prog 105 #[.int .i64 n,.int .i64 lo,.int .i64 hi] w fun e w'=>e=.returned (.bool (bK n lo hi))∧w=w':=by
 by_cases h1:lo≤n
 ·by_cases h2:n≤hi
  ·go_enter Tryz.func105,Tryz.ntmps105;go_wp2;go_ret;exact ⟨ak (by simp [bK,h1,h2]),rfl⟩
  go_enter Tryz.func105,Tryz.ntmps105;go_wp2;go_ret;exact ⟨ak (by simp [bK,h1,h2]),rfl⟩
 go_enter Tryz.func105,Tryz.ntmps105;go_wp2;go_ret;exact ⟨ak (by simp [bK];omega),rfl⟩
theorem Uh (n:Int) (w:World):Calls Tryz.prog 200 #[.int .i64 n] w fun e w'=>e=.returned (.bool (bK n 0 15))∧w=w':=by
 go_enter Tryz.func200,Tryz.ntmps200;go_wp2_with (go_at_call 105;refine (y_ _ _ _ _).mono ?_;rintro e w' ⟨rfl,rfl⟩);go_ret;exact ⟨rfl,rfl⟩
theorem K_ (n:Int) (w:World):Calls Tryz.prog 196 #[.int .i64 n] w fun e w'=>e=.returned (.bool (bK n 0 9999))∧w=w':=by
 go_enter Tryz.func196,Tryz.ntmps196;go_wp2_with (go_at_call 105;refine (y_ _ _ _ _).mono ?_;rintro e w' ⟨rfl,rfl⟩);go_ret;exact ⟨rfl,rfl⟩
theorem FW (n:Int) (w:World):Calls Tryz.prog 195 #[.int .i64 n] w fun e w'=>e=.returned (.bool (!bK n 0 9999))∧w=w':=by
 go_enter Tryz.func195,Tryz.ntmps195;go_wp2_with (go_at_call 196;refine (K_ _ _).mono ?_;rintro e w' ⟨rfl,rfl⟩);go_ret;exact ⟨rfl,rfl⟩
def l_ (p:Int→Bool) (xs:List Int):Int:=if xs.any p then (xs.findIdx p:Nat) else -1
theorem Ef {p:Int→Bool} {xs:List Int} {k:Nat} (hk:k<xs.length) (h:p xs[k]=true) (hn:∀ j (hj:j<xs.length),j<k→p xs[j]=false):l_ p xs=k:=by
 unfold l_
 have ha:xs.any p=true:=List.any_eq_true.2 ⟨xs[k],List.getElem_mem hk,h⟩;rw [if_pos ha];have:xs.findIdx p=k:=by
  rw [List.findIdx_eq hk];exact ⟨h,fun j hj=>by simp [hn j (by omega) hj]⟩
 rw [this]
theorem CE {p:Int→Bool} {xs:List Int} (h:∀ j (hj:j<xs.length),p xs[j]=false):l_ p xs=-1:=by
 unfold l_
 have ha:xs.any p=false:=by
  rw [List.any_eq_false];intro x hx;obtain ⟨j,hj,rfl⟩:=List.mem_iff_getElem.1 hx;simp [h j hj]
 rw [if_neg (by simp [ha])]
theorem zg (p:Int→Bool) (xs:List Int):decide (0≤l_ p xs)=xs.any p:=by
 unfold l_
 cases h:xs.any p <;> simp
def Pred (g:Nat) (lb:Array Value) (p:Int→Bool) (w:World):Prop:=
 (∀ args W,(callFunc g args).run Tryz.prog W=.ok (.enter g args) W) ∧
 ∀ x W,Below w.heap.size w W→Calls Tryz.prog g (#[.int .i64 x] ++ lb) W fun e w'=>e=.returned (.bool (p x))∧Below W.heap.size W w'
theorem Pred.pure {g:Nat} {p:Int→Bool} {w:World} (h:∀ args W,(callFunc g args).run Tryz.prog W=.ok (.enter g args) W)
  (hg:∀ x W,Calls Tryz.prog g #[.int .i64 x] W fun e w'=>e=.returned (.bool (p x))∧W=w'):Pred g #[] p w:=
 ⟨h,fun x W _=>(hg x W).mono fun _ _ ⟨he,hw⟩=>⟨he,hw ▸ Below.refl _ _⟩⟩
theorem Eh (g:Nat) (lb:Array Value) (p:Int→Bool) (xs:List Int) (v:Value) (w:World) (h:RI w v xs) (hp:Pred g lb p w) :
  Calls Tryz.prog 204 #[v,.func (.func g) #[] lb] w fun e w'=>e=.returned (.int .i64 (l_ p xs))∧Below w.heap.size w w':=by
 obtain ⟨a,cap,rfl⟩:=h.val;obtain ⟨eg,hg⟩:=hp;have hl:=h.1;have H:=af h;clear h;have Hg:=af hg;clear hg;go_enter Tryz.func204,Tryz.ntmps204;go_wp2_with fail;go_loopw [8] (fun i wr=>∃ k:Nat,i=.int .i64 k∧k≤xs.length∧Hid (∀ j (hj:j<xs.length),j<k→p xs[j]=false)∧Hid (Below w.heap.size w wr)) (fun i _=>xs.length - (intOf i).toNat)
 case atStart=>exact ⟨0,rfl,Nat.zero_le _,fun j _ hj=>absurd hj (Nat.not_lt_zero _),Below.refl _ _⟩
 case round =>
  obtain ⟨k,rfl,hk,hn,hb⟩:=hrel
  by_cases hlt:k<xs.length
  ·obtain ⟨b,off,cap1,e,_,hc⟩:=(H.out.below hb.out).at hlt;simp only [Value.slice.injEq] at e;obtain ⟨rfl,_,rfl⟩:=e;have kQ:(k:Int)<(xs.length:Int):=by omega
   have hcall:=af (Hg.out xs[k] wr hb.out);have hit:Hid (p xs[k]=true→l_ p xs=k):=fun h=>Ef hlt h hn.out
   have miss:Hid (p xs[k]=false→∀ j (hj:j<xs.length),j<k+1→p xs[j]=false):=fun h j hj hjk=>by
    by_cases e:j=k
    ·subst e;exact h
    exact hn.out j hj (by omega)
   generalize xs[k]=x at hc hcall hit miss
   cases hq:p x with
   | true =>
    have BC:=af (hit.out hq);rw [hq] at hcall;clear hit miss hq;go_wp2_with (go_at_fn g;refine hcall.out.mono ?_;rintro e w' ⟨rfl,hb'⟩;have kR:=af hb';clear hb');go_ret;exact ⟨aZ BC.out.symm,hb.out.trans (kR.out.mono hb.out.size)⟩
   | false =>
    have PH:=af (miss.out hq);rw [hq] at hcall;clear hit miss hq;go_wp2_with (go_at_fn g;refine hcall.out.mono ?_;rintro e w' ⟨rfl,hb'⟩;have kR:=af hb';clear hb');go_roundw
    case rel=>exact ⟨k+1,by go_num,by omega,PH.out,hb.out.trans (kR.out.mono hb.out.size)⟩
    case measure=>simp [intOf];omega
  have:k=xs.length:=by omega
  subst this;go_wp2_with fail;go_ret;exact ⟨aZ (CE (fun j hj=>hn.out j hj hj)).symm,hb.out⟩
theorem zh (g:Nat) (lb:Array Value) (p:Int→Bool) (xs:List Int) (v:Value) (w:World) (h:RI w v xs) (hp:Pred g lb p w) :
  Calls Tryz.prog 154 #[v,.func (.func g) #[] lb] w fun e w'=>e=.returned (.bool (xs.any p))∧Below w.heap.size w w':=by
 have hc:=Eh g lb p xs v w h hp;have hn:=af (zg p xs);have Hc:=af hc;clear hc h hp;generalize l_ p xs=n at hn Hc
 go_enter Tryz.func154,Tryz.ntmps154;go_wp2_with (go_at_call 204;refine Hc.out.mono ?_;rintro e w' ⟨rfl,hb'⟩;have kR:=af hb';clear hb');go_ret;exact ⟨ak hn.out,kR.out⟩
def dC (xs:List Int):Bool:=xs.all (fun x=>bK x 0 9999)&&decide (xs.length=4)
theorem QC {xs:List Int}:dC xs=true↔(∀ x ∈ xs,0≤x∧x≤9999)∧xs.length=4:=by
 simp [dC,bK]
theorem oJ (xs:List Int) (v:Value) (w:World) (h:RI w v xs) :
  Calls Tryz.prog 126 #[v] w fun e w'=>e=.returned (.bool (dC xs))∧w=w':=by
 obtain ⟨a,cap,rfl⟩:=h.val;have hl:=h.1;have H:=af h;clear h;go_enter Tryz.func126,Tryz.ntmps126;go_wp2_with fail;go_loop [3] (fun i=>∃ k:Nat,i=.int .i64 k∧k≤xs.length∧Hid (∀ x ∈ xs.take k,bK x 0 9999=true)) (fun i=>xs.length - (intOf i).toNat)
 case atStart=>exact ⟨0,rfl,Nat.zero_le _,by simp [Hid]⟩
 case round =>
  obtain ⟨k,rfl,hk,hall⟩:=hrel
  by_cases hlt:k<xs.length
  ·obtain ⟨b,off,cap',e,_,hc⟩:=H.out.at hlt;simp only [Value.slice.injEq] at e;obtain ⟨rfl,_,rfl⟩:=e;have hx:xs[k] ∈ xs:=List.getElem_mem hlt;have htk:xs.take (k+1)=xs.take k ++ [xs[k]]:=by rw [List.take_succ_eq_append_getElem hlt]
   generalize xs[k]=x at hc hx htk;have Ht:=af htk;clear htk;have Hx:=af hx;clear hx
   cases hin:bK x 0 9999
   ·have jR:=af hin;clear hin;have hF:dC xs=false:=by
     simp only [dC,Bool.and_eq_false_iff,List.all_eq_false];exact .inl ⟨x,Hx.out,by simp [jR.out]⟩
    have HF:=af hF;clear hF;go_wp2_with (go_at_call 99;refine (tq _ _ _ _).mono ?_;rintro e w' ⟨rfl,rfl⟩;rw [jR.out]);go_ret;exact ⟨ak HF.out.symm,rfl⟩
   have jR:=af hin;clear hin;go_wp2_with (go_at_call 99;refine (tq _ _ _ _).mono ?_;rintro e w' ⟨rfl,rfl⟩;rw [jR.out]);go_round
   case rel =>
    refine ⟨k+1,by go_num,by omega,?_⟩;show ∀ y ∈ xs.take (k+1),bK y 0 9999=true;rw [Ht.out];intro y hy;rcases List.mem_append.1 hy with hy | hy
    ·exact hall y hy
    simp at hy;rw [hy];exact jR.out
   case measure=>simp [intOf];omega
  go_wp2_with fail;go_ret;refine ⟨ak ?_,rfl⟩;have:xs.all (fun x=>bK x 0 9999)=true:=by
   rw [List.all_eq_true];intro x hx;refine hall x ?_;rw [List.take_of_length_le (by omega)];exact hx
  rw [dC,this];exact Bool.eq_iff_iff.2 (by simp;omega)
theorem IU (xs:List Int) (v:Value) (w:World) (h:RI w v xs) :
  Calls Tryz.prog 138 #[v] w fun e w'=>e=.returned (.bool (dC xs))∧Below w.heap.size w w':=by
 obtain ⟨a,cap,rfl⟩:=h.val;have hl:=h.1;have hc:=zh 195 #[] (fun x=>!bK x 0 9999) xs _ w h (Pred.pure (Proofs.enters_of Tryz.func195 (by kernel_rfl) rfl) FW);have e:(xs.any fun x=>!bK x 0 9999)=!(xs.all fun x=>bK x 0 9999):=by
  rw [List.not_all_eq_any_not]
 rw [e] at hc;have Hc:=af hc;clear hc h e;unfold dC;generalize (xs.all fun x=>bK x 0 9999)=t at Hc
 by_cases h4:xs.length=4
 ·have hb:((xs.length:Int)==4)=true:=by simp;omega
  have H4:=af h4;clear h4;go_enter Tryz.func138,Tryz.ntmps138;go_wp2_with (go_at_call 154;refine Hc.out.mono ?_;rintro e w' ⟨rfl,hb'⟩;have kR:=af hb';clear hb');go_ret;exact ⟨ak (by simp [H4.out]),kR.out⟩
 have hb:((xs.length:Int)==4)=false:=by simp;omega
 have H4:=af h4;clear h4;go_enter Tryz.func138,Tryz.ntmps138;go_wp2_with fail;go_ret;exact ⟨ak (by simp [H4.out]),Below.refl _ _⟩
def sumOf (xs:List Int):Int:=xs.foldl (fun n x=>(31*n+x) % 9973) 1
theorem FX (xs:List Int) (x:Int):sumOf (xs ++ [x])=(31*sumOf xs+x) % 9973:=by simp [sumOf]
theorem Rk:∀ xs:List Int,0≤sumOf xs∧sumOf xs<9973:=by
 intro xs;rcases List.eq_nil_or_concat xs with rfl | ⟨l,x,rfl⟩
 ·decide
 rw [List.concat_eq_append,FX];exact ⟨Int.emod_nonneg _ (by decide),Int.emod_lt_of_pos _ (by decide)⟩
def Vg (xs:List Int):Int:=if dC xs then sumOf xs else -1
end Go.Proofs.YtliebkfligagnaaGreatDoor
