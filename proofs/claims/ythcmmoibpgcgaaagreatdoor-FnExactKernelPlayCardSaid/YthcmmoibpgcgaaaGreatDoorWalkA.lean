/- Contracts of the small functions: ranges, checks of lists, copies and comparisons of lists. -/
import Derived.Test.YthcmmoibpgcgaaaGreatDoorBase
set_option maxHeartbeats 400000
set_option linter.all false
open List renaming take_succ_eq_append_getElem->A1,getElem_mem->A2
open Nat renaming zero_le->A3
open Go.Proofs.Tryz
namespace Go.Proofs.YthcmmoibpgcgaaaGreatDoor
open Go.RowKit
variable {xs:List Int}
theorem tq (n lo hi:Int) (w:World):Calls prog 56 #[I_ n,I_ lo,I_ hi] w fun e w'=>e=.returned (.bool (bK n lo hi))/\w=w':=by
 by_cases h1:lo<=n
 ·by_cases h2:n<=hi
  ·go_enter func56,ntmps56;go_wp2;go_ret;exact ⟨ak (by simp [bK,h1,h2]),rfl⟩
  go_enter func56,ntmps56;go_wp2;go_ret;exact ⟨ak (by simp [bK,h1,h2]),rfl⟩
 go_enter func56,ntmps56;go_wp2;go_ret;exact ⟨ak (by simp [bK];omega),rfl⟩
theorem QB (xs ys:List Int) (v u:Value) (w:World) (hx:RI w v xs) (hy:RI w u ys) :
  Calls prog 25 #[v,u] w fun e w'=>e=.returned (.bool (decide (xs=ys)))/\Below w.heap.size w w':=by
 obtain ⟨a,cap,rfl⟩:=hx.val;obtain ⟨a',cap',rfl⟩:=hy.val;have hl:=hx.1;have hl':=hy.1;have Hx:=af hx;clear hx;have Hy:=af hy;clear hy
 by_cases hne:xs.length=ys.length
 ·have hnb:((xs.length:Int) != (ys.length:Int))=false:=by simp [hne]
  have xQ:=af hne;clear hne;go_enter func25,ntmps25;go_wp2_with fail;clear hnb;go_loopw [5] (fun i wr=>∃ k:Nat,i=I_ k/\k<=xs.length/\TI (xs.take k=ys.take k)/\TI (Below w.heap.size w wr)) (fun i _=>xs.length - (intOf i).toNat)
  case atStart=>exact ⟨0,rfl,A3 _,by simp [TI],Below.refl _ _⟩
  case round =>
   obtain ⟨k,rfl,hk,ht,hb⟩:=hrel
   by_cases hlt:k<xs.length
   ·have hlt':k<ys.length:=by rw [<-xQ.o];exact hlt
    obtain ⟨b,off,cap1,e,_,hc⟩:=(Hx.o.below hb.o).at hlt;obtain ⟨rfl,_,rfl⟩:=Za e;clear e;obtain ⟨b',off',cap1,e,_,hc'⟩:=(Hy.o.below hb.o).at hlt';obtain ⟨rfl,_,rfl⟩:=Za e;clear e;have H1:=af (A1 hlt);have H2:=af (A1 hlt');have kQ:(k:Int)<(xs.length:Int):=by omega
    have XG:(k:Int)<(ys.length:Int):=by omega
    have H3:TI (xs[k]≠ys[k]->xs≠ys):=fun h e=>h (by subst e;rfl)
    generalize xs[k]=x at hc H1 H3;generalize ys[k]=y at hc' H2 H3
    by_cases hxy:x=y
    ·subst hxy;go_wp2_with fail;go_quiet (fail);go_wp2_with fail;go_roundw
     case rel=>exact ⟨k+1,by go_num,by omega,by show xs.take (k+1)=ys.take (k+1);rw [H1.o,H2.o,ht.o],below_drewN hb.o _⟩
     case measure=>simp [intOf];omega
    have hxb:(x != y)=true:=by simpa using hxy
    have H4:=af (H3.o hxy);clear hxy;go_wp2_with fail;go_quiet (fail);go_wp2_with fail;go_ret;exact ⟨ak (by simpa using H4.o),below_drewN hb.o _⟩
   go_wp2_with fail;go_ret;refine ⟨ak ?_,hb.o⟩;have h1:=ht.o;rw [List.take_of_length_le (by omega),List.take_of_length_le (by rw [<-xQ.o];omega)] at h1;simp [h1]
 have hnb:((xs.length:Int) != (ys.length:Int))=true:=by simp;omega
 have xQ:=af hne;clear hne;go_enter func25,ntmps25;go_wp2_with fail;go_ret;exact ⟨ak (by simp;intro e;exact xQ.o (by rw [e])),Below.refl _ _⟩
theorem y_ (n lo hi:Int) (w:World):Calls prog 49 #[I_ n,I_ lo,I_ hi] w fun e w'=>e=.returned (.bool (bK n lo hi))/\w=w':=by
 by_cases h1:lo<=n
 ·by_cases h2:n<=hi
  ·go_enter func49,ntmps49;go_wp2;go_ret;exact ⟨ak (by simp [bK,h1,h2]),rfl⟩
  go_enter func49,ntmps49;go_wp2;go_ret;exact ⟨ak (by simp [bK,h1,h2]),rfl⟩
 go_enter func49,ntmps49;go_wp2;go_ret;exact ⟨ak (by simp [bK];omega),rfl⟩
theorem K_ (n:Int) (w:World):Calls prog 152 #[I_ n] w fun e w'=>e=.returned (.bool (bK n 0 9999))/\w=w':=by
 go_enter func152,ntmps152;go_wp2_with (go_at_call 49;refine (y_ _ _ _ _).mono ?_;rintro e w' ⟨rfl,rfl⟩);go_ret;exact ⟨rfl,rfl⟩
theorem FW (n:Int) (w:World):Calls prog 151 #[I_ n] w fun e w'=>e=.returned (.bool (!bK n 0 9999))/\w=w':=by
 go_enter func151,ntmps151;go_wp2_with (go_at_call 152;refine (K_ _ _).mono ?_;rintro e w' ⟨rfl,rfl⟩);go_ret;exact ⟨rfl,rfl⟩
def l_ (p:Int->Bool) (xs:List Int):Int:=if xs.any p then (xs.findIdx p:Nat) else -1
theorem Ef {p:Int->Bool} {k:Nat} (hk:k<xs.length) (h:p xs[k]=true) (hn:∀ j (hj:j<xs.length),j<k->p xs[j]=false):l_ p xs=k:=by
 unfold l_
 have ha:xs.any p=true:=List.any_eq_true.2 ⟨xs[k],A2 hk,h⟩;rw [if_pos ha];have:xs.findIdx p=k:=by
  rw [List.findIdx_eq hk];exact ⟨h,fun j hj=>by simp [hn j (by omega) hj]⟩
 rw [this]
theorem CE {p:Int->Bool} (h:∀ j (hj:j<xs.length),p xs[j]=false):l_ p xs=-1:=by
 unfold l_
 have ha:xs.any p=false:=by
  rw [List.any_eq_false];intro x hx;obtain ⟨j,hj,rfl⟩:=List.mem_iff_getElem.1 hx;simp [h j hj]
 rw [if_neg (by simp [ha])]
theorem zg (p:Int->Bool) (xs:List Int):decide (0<=l_ p xs)=xs.any p:=by
 unfold l_
 cases h:xs.any p <;> simp
def Pred (g:Nat) (lb:Array Value) (p:Int->Bool) (w:World):Prop:=
 (∀ args W,(callFunc g args).run prog W=.ok (.enter g args) W) /\
 ∀ x W,Below w.heap.size w W->Calls prog g (#[I_ x] ++ lb) W fun e w'=>e=.returned (.bool (p x))/\Below W.heap.size W w'
theorem Pred.pure {g:Nat} {p:Int->Bool} {w:World} (h:∀ args W,(callFunc g args).run prog W=.ok (.enter g args) W)
  (hg:∀ x W,Calls prog g #[I_ x] W fun e w'=>e=.returned (.bool (p x))/\W=w'):Pred g #[] p w:=
 ⟨h,fun x W _=>(hg x W).mono fun _ _ ⟨he,hw⟩=>⟨he,hw ▸ Below.refl _ _⟩⟩
theorem Eh (g:Nat) (lb:Array Value) (p:Int->Bool) (xs:List Int) (v:Value) (w:World) (h:RI w v xs) (hp:Pred g lb p w) :
  Calls prog 205 #[v,.func (.func g) #[] lb] w fun e w'=>e=.returned (I_ (l_ p xs))/\Below w.heap.size w w':=by
 obtain ⟨a,cap,rfl⟩:=h.val;obtain ⟨eg,hg⟩:=hp;have hl:=h.1;have H:=af h;clear h;have Hg:=af hg;clear hg;go_enter func205,ntmps205;go_wp2_with fail;go_loopw [8] (fun i wr=>∃ k:Nat,i=I_ k/\k<=xs.length/\TI (∀ j (hj:j<xs.length),j<k->p xs[j]=false)/\TI (Below w.heap.size w wr)) (fun i _=>xs.length - (intOf i).toNat)
 case atStart=>exact ⟨0,rfl,A3 _,fun j _ hj=>absurd hj (Nat.not_lt_zero _),Below.refl _ _⟩
 case round =>
  obtain ⟨k,rfl,hk,hn,hb⟩:=hrel
  by_cases hlt:k<xs.length
  ·obtain ⟨b,off,cap1,e,_,hc⟩:=(H.o.below hb.o).at hlt;obtain ⟨rfl,_,rfl⟩:=Za e;clear e;have kQ:(k:Int)<(xs.length:Int):=by omega
   have hcall:=af (Hg.o xs[k] wr hb.o);have hit:TI (p xs[k]=true->l_ p xs=k):=fun h=>Ef hlt h hn.o
   have miss:TI (p xs[k]=false->∀ j (hj:j<xs.length),j<k+1->p xs[j]=false):=fun h j hj hjk=>by
    by_cases e:j=k
    ·subst e;exact h
    exact hn.o j hj (by omega)
   generalize xs[k]=x at hc hcall hit miss
   cases hq:p x with
   | true =>
    have BC:=af (hit.o hq);rw [hq] at hcall;clear hit miss hq;go_wp2_with (go_at_fn g;refine hcall.o.mono ?_;rintro e w' ⟨rfl,hb'⟩;have kR:=af hb';clear hb');go_ret;exact ⟨aZ BC.o.symm,hb.o.trans (kR.o.mono hb.o.size)⟩
   | false =>
    have PH:=af (miss.o hq);rw [hq] at hcall;clear hit miss hq;go_wp2_with (go_at_fn g;refine hcall.o.mono ?_;rintro e w' ⟨rfl,hb'⟩;have kR:=af hb';clear hb');go_roundw
    case rel=>exact ⟨k+1,by go_num,by omega,PH.o,hb.o.trans (kR.o.mono hb.o.size)⟩
    case measure=>simp [intOf];omega
  have:k=xs.length:=by omega
  subst this;go_wp2_with fail;go_ret;exact ⟨aZ (CE (fun j hj=>hn.o j hj hj)).symm,hb.o⟩
theorem zh (g:Nat) (lb:Array Value) (p:Int->Bool) (xs:List Int) (v:Value) (w:World) (h:RI w v xs) (hp:Pred g lb p w) :
  Calls prog 142 #[v,.func (.func g) #[] lb] w fun e w'=>e=.returned (.bool (xs.any p))/\Below w.heap.size w w':=by
 have hc:=Eh g lb p xs v w h hp;have hn:=af (zg p xs);have Hc:=af hc;clear hc h hp;generalize l_ p xs=n at hn Hc
 go_enter func142,ntmps142;go_wp2_with (go_at_call 205;refine Hc.o.mono ?_;rintro e w' ⟨rfl,hb'⟩;have kR:=af hb';clear hb');go_ret;exact ⟨ak hn.o,kR.o⟩
def dC (xs:List Int):Bool:=xs.all (fun x=>bK x 0 9999)&&decide (xs.length=4)
theorem oJ (xs:List Int) (v:Value) (w:World) (h:RI w v xs) :
  Calls prog 129 #[v] w fun e w'=>e=.returned (.bool (dC xs))/\w=w':=by
 obtain ⟨a,cap,rfl⟩:=h.val;have hl:=h.1;have H:=af h;clear h;go_enter func129,ntmps129;go_wp2_with fail;go_loop [3] (fun i=>∃ k:Nat,i=I_ k/\k<=xs.length/\TI (∀ x ∈ xs.take k,bK x 0 9999=true)) (fun i=>xs.length - (intOf i).toNat)
 case atStart=>exact ⟨0,rfl,A3 _,by simp [TI]⟩
 case round =>
  obtain ⟨k,rfl,hk,hall⟩:=hrel
  by_cases hlt:k<xs.length
  ·obtain ⟨b,off,cap',e,_,hc⟩:=H.o.at hlt;obtain ⟨rfl,_,rfl⟩:=Za e;clear e;have hx:xs[k] ∈ xs:=A2 hlt;have htk:xs.take (k+1)=xs.take k ++ [xs[k]]:=by rw [A1 hlt]
   generalize xs[k]=x at hc hx htk;have Ht:=af htk;clear htk;have Hx:=af hx;clear hx
   cases hin:bK x 0 9999
   ·have jR:=af hin;clear hin;have hF:dC xs=false:=by
     simp only [dC,Bool.and_eq_false_iff,List.all_eq_false];exact .inl ⟨x,Hx.o,by simp [jR.o]⟩
    have HF:=af hF;clear hF;go_wp2_with (go_at_call 56;refine (tq _ _ _ _).mono ?_;rintro e w' ⟨rfl,rfl⟩;rw [jR.o]);go_ret;exact ⟨ak HF.o.symm,rfl⟩
   have jR:=af hin;clear hin;go_wp2_with (go_at_call 56;refine (tq _ _ _ _).mono ?_;rintro e w' ⟨rfl,rfl⟩;rw [jR.o]);go_round
   case rel =>
    refine ⟨k+1,by go_num,by omega,?_⟩;show ∀ y ∈ xs.take (k+1),bK y 0 9999=true;rw [Ht.o];intro y hy;rcases List.mem_append.1 hy with hy | hy
    ·exact hall y hy
    simp at hy;rw [hy];exact jR.o
   case measure=>simp [intOf];omega
  go_wp2_with fail;go_ret;refine ⟨ak ?_,rfl⟩;have:xs.all (fun x=>bK x 0 9999)=true:=by
   rw [List.all_eq_true];intro x hx;refine hall x ?_;rw [List.take_of_length_le (by omega)];exact hx
  rw [dC,this];exact Bool.eq_iff_iff.2 (by simp;omega)
theorem IU (xs:List Int) (v:Value) (w:World) (h:RI w v xs) :
  Calls prog 71 #[v] w fun e w'=>e=.returned (.bool (dC xs))/\Below w.heap.size w w':=by
 obtain ⟨a,cap,rfl⟩:=h.val;have hl:=h.1;have hc:=zh 151 #[] (fun x=>!bK x 0 9999) xs _ w h (Pred.pure (Proofs.enters_of func151 (by kernel_rfl) rfl) FW);have e:(xs.any fun x=>!bK x 0 9999)=!(xs.all fun x=>bK x 0 9999):=by
  rw [List.not_all_eq_any_not]
 rw [e] at hc;have Hc:=af hc;clear hc h e;unfold dC;generalize (xs.all fun x=>bK x 0 9999)=t at Hc
 by_cases h4:xs.length=4
 ·have hb:((xs.length:Int)==4)=true:=by simp;omega
  have H4:=af h4;clear h4;go_enter func71,ntmps71;go_wp2_with (go_at_call 142;refine Hc.o.mono ?_;rintro e w' ⟨rfl,hb'⟩;have kR:=af hb';clear hb');go_ret;exact ⟨ak (by simp [H4.o]),kR.o⟩
 have hb:((xs.length:Int)==4)=false:=by simp;omega
 have H4:=af h4;clear h4;go_enter func71,ntmps71;go_wp2_with fail;go_ret;exact ⟨ak (by simp [H4.o]),Below.refl _ _⟩
end Go.Proofs.YthcmmoibpgcgaaaGreatDoor
