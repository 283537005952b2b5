/- KI5, KI6, KI7, KI8, joined. -/
import Derived.Test.YthcmmoibpgcgaaaGreatDoorKWa
import Derived.Test.YthcmmoibpgcgaaaGreatDoorShelf
set_option maxHeartbeats 4000000
set_option linter.all false
open List renaming getElem_of_mem->A1,getElem_mem->A2,all_eq_true->A3,all_eq_false->A4,any_eq_true->A5,range->A6
open Nat renaming not_lt_zero->A9,lt_of_lt_of_le->A',le_refl->Ab
open Bool renaming not_eq_true'->Al,and_eq_false_iff->An,eq_iff_iff->Ao
open ByteArray renaming empty->As
open Go.Value renaming slice->A0
open Go.Proofs.Tryz
namespace Go.Proofs.YthcmmoibpgcgaaaGreatDoor
open Go.RowKit Kx
theorem dropWhile_nil {α:Type} (p:α->Bool):∀ l:List α,l.dropWhile p=[]↔∀ x ∈ l,p x=true
 | []=>by simp
 | a :: l=>by
  cases h:p a with
  | true=>rw [List.dropWhile_cons_of_pos h,dropWhile_nil p l];simp [h]
  | false=>rw [List.dropWhile_cons_of_neg (by simp [h])];simp [h]
theorem IJ (l cs:List UInt8):Lib.trimS l cs=[]↔∀ b ∈ l,cs.contains b=true:=by
 unfold Lib.trimS Lib.trimLeftS;rw [dropWhile_nil];constructor
 ·intro h b hb;have hn:l.reverse.dropWhile (cs.contains ·)=[]:=by
   cases hd:l.reverse.dropWhile (cs.contains ·) with
   | nil=>rfl
   | cons x t =>
    have h1:=List.head_dropWhile_not (cs.contains ·) (l:=l.reverse) (by rw [hd];simp);simp only [hd,List.head_cons] at h1;have h2:=h x (by unfold Lib.trimRightS;rw [hd];simp);rw [h1] at h2;cases h2
  exact (dropWhile_nil _ _).1 hn b (by simpa using hb)
 intro h x hx;unfold Lib.trimRightS at hx;have:=(List.dropWhile_sublist (cs.contains ·)).mem (List.mem_reverse.1 hx);exact h x (List.mem_reverse.1 this)
theorem FQ (b:UInt8):([97,98,99]:List UInt8).contains b=letter b:=by
 rw [Ao,yP];simp only [List.contains_iff_mem,List.mem_cons,List.not_mem_nil,or_false,<-UInt8.toNat_inj,show (97:UInt8).toNat=97 from rfl,show (98:UInt8).toNat=98 from rfl,show (99:UInt8).toNat=99 from rfl];omega
theorem Cb (s:Kx.Str) (h4:s.size<=4):(Lib.trimS s.data.toList [97,98,99]=[])↔bT s=true:=by
 rw [IJ,pK,Bool.and_eq_true,A3];simp only [FQ];exact ⟨fun h=>⟨h,by simpa using h4⟩,fun h=>h.1⟩
theorem oM (s:Kx.Str) (w:World) (hs:s.size<=9223372036854775807):Calls prog 141 #[.string s] w fun e w'=>e=.returned (.bool (bT s))/\Below w.heap.size w w':=by
 by_cases h4:s.size<=4
 ·have hcon:=Any.strings_Trim_laid lays160 (by kernel_rfl) s ⟨#[97,98,99]⟩ w hs (by decide) (ascii_of_all (by decide));change Calls prog 204 _ _ (fun e w'=>e=.returned (.string ⟨(Lib.trimS s.data.toList [97,98,99]).toArray⟩)/\Below w.heap.size w w') at hcon
  have ht:=Cb s h4;have UM:decide ((s.size:Int)<=4)=true:=by simp;omega
  cases hr:bT s with
  | true =>
   rw [ht.2 hr] at hcon;have Hc:=af hcon;clear hcon ht h4 hr;go_enter func141,ntmps141;go_wp2_with (go_at_call 204;refine Hc.o.mono ?_;rintro e w' ⟨rfl,hb'⟩;have kR:=af hb';clear hb');go_ret;exact ⟨by rfl,kR.o⟩
  | false =>
   have hne:Lib.trimS s.data.toList [97,98,99]≠[]:=fun e=>by have:=ht.1 e;rw [hr] at this;cases this
   have hne2:¬ ByteArray.toList ⟨(Lib.trimS s.data.toList [97,98,99]).toArray⟩=[]:=by rw [toList_data];exact hne
   generalize (⟨(Lib.trimS s.data.toList [97,98,99]).toArray⟩:ByteArray)=r at hcon hne2;have Hc:=af hcon;clear hcon ht h4 hr hne;go_enter func141,ntmps141;go_wp2_with (go_at_call 204;refine Hc.o.mono ?_;rintro e w' ⟨rfl,hb'⟩;have kR:=af hb';clear hb');go_ret;exact ⟨by simp [hne2],kR.o⟩
 have HF:=af (show bT s=false by rw [pK,An];right;simpa using h4);have UM:decide ((s.size:Int)<=4)=false:=by simp;omega
 clear h4;go_enter func141,ntmps141;go_wp2_with fail;go_ret;exact ⟨ak HF.o.symm,Below.refl _ _⟩
theorem D6 (a b:Kx.Str) (w:World):Calls prog 127 #[.string b,.string a] w fun e w'=>e=.returned (.bool (Kx.pre a b))/\w=w':=by
 by_cases h:a.size<=b.size
 ·have H:=af (wW (a:=a) (b:=b));go_enter func127,ntmps127;go_wp2_with go_in;go_ret;exact ⟨ak H.o,rfl⟩
 have H:=af (D7 h);go_enter func127,ntmps127;go_wp2_with go_in;go_ret;exact ⟨ak H.o.symm,rfl⟩
theorem Qk (s g:Kx.Str) (b1:Nat) (w:World) (h1:w.cell? ⟨b1,0,none⟩=some (.string g)) :
  Calls prog 126 #[.string s,.pointer (some ⟨b1,0,none⟩)] w fun en w'=>en=.returned (.bool (Kx.pre s g))/\Below w.heap.size w w':=by
 go_enter func126,ntmps126;go_wp2_with fail;refine (D6 _ _ _).mono ?_;rintro e w' ⟨rfl,rfl⟩;go_wp2_with fail;go_ret;exact ⟨rfl,Below.refl _ _⟩
theorem Nz (l:List Kx.Str) (g:Kx.Str):((A6 l.length).any fun k=>Kx.pre (l.getD k As) g)=Kx.may l g:=by
 unfold Kx.may;rw [Ao,A5,A5];constructor
 ·rintro ⟨k,hk,hq⟩;have hk:k<l.length:=by simpa using hk
  exact ⟨l[k],A2 hk,by simpa [hk] using hq⟩
 rintro ⟨x,hx,hq⟩;obtain ⟨k,hk,rfl⟩:=A1 hx;exact ⟨k,by simpa using hk,by simpa [hk] using hq⟩
theorem AP (l:List Kx.Str) (g:Kx.Str) (v:Value) (w:World) (h:dK w v l) :
  Calls prog 47 #[v,.string g] w fun e w'=>e=.returned (.bool (Kx.may l g))/\Below w.heap.size w w':=by
 obtain ⟨w1,hw1⟩:=XP (w.alloc (.cells #[.string g] 9));have B1:=af (show Below w.heap.size w w1 from hw1 ▸ dm);have hc1:w1.cell? ⟨w.heap.size,0,none⟩=some (.string g)/\w.heap.size<w1.heap.size:=by
  subst hw1;have h:(w.alloc (.cells #[.string g] 9)).heap[w.heap.size]?=some (.cells #[.string g] 9 (0,0)):=heap_alloc_new w _;exact ⟨cell_of_row _ _ 0 _ _ _ h,by simp⟩
 have hc:=zU 126 #[.pointer (some ⟨w.heap.size,0,none⟩)] (fun k=>Kx.pre (l.getD k As) g) l v w1 (RS.below h B1.o)
  ⟨Proofs.enters_of func126 (by kernel_rfl) rfl,fun k W hk hb=>Qk _ g _ W ((hb.cell (p:=⟨w.heap.size,0,none⟩) hc1.2).trans hc1.1)⟩
 rw [Nz] at hc;have HC:=af hc;obtain ⟨a,cap,rfl,_,_⟩:=RS.val h;clear hc hc1 h;go_enter func47,ntmps47;go_wp2_with (go_at_call 125;refine HC.o.mono ?_;rintro en w' ⟨rfl,hb'⟩;have kR:=af hb';clear hb');go_ret;exact ⟨rfl,B1.o.trans (kR.o.mono B1.o.size)⟩
theorem Kz (x:aG) (h0:x.kind=0):x=aG.zero↔x.guard.toList=[]/\x.refs=0:=by
 constructor
 ·intro e;rw [e];exact ⟨by decide +kernel,rfl⟩
 rintro ⟨e1,e2⟩;have:x.guard=As:=Kx.toList_inj (by rw [e1];decide +kernel)
 cases x;simp_all [aG.zero]
theorem Cc (x:aG) (w:World) (hs:x.guard.size<=9223372036854775807):Calls prog 137 #[kN x] w fun e w'=>e=.returned (.bool (cZ x))/\Below w.heap.size w w':=by
 obtain ⟨w0,hw0⟩:=XP (w.alloc (.cells #[I_ x.kind,.string x.guard,I_ x.refs] 98));have hb:=af (show Below w.heap.size w w0 from hw0 ▸ fZ.alloc aW _);have hlt:=af (show w.heap.size<w0.heap.size by subst hw0;simp);obtain ⟨c0,c1,c2⟩:=(show w0.cell? ⟨w.heap.size,0,none⟩=some (I_ x.kind)/\w0.cell? ⟨w.heap.size,1,none⟩=some (.string x.guard)/\w0.cell? ⟨w.heap.size,2,none⟩=some (I_ x.refs) from hw0 ▸ Dh.new w _ _ _ _);unfold kN
 by_cases h0:x.kind=0
 ·have hk:(x.kind==0)=true:=by simpa using h0
  have hv:=af (show cZ x=decide (x=aG.zero) by unfold cZ;rw [if_pos h0];rfl);have hz:=af (Kz x h0);have hi:=af (show Kx.bK x.kind 1 3=false by rw [h0];rfl);clear h0
  by_cases hg:x.guard.toList=[]
  ·by_cases hr:x.refs=0
   ·have hF:=af (show cZ x=true by rw [hv.o,decide_eq_true_eq,hz.o];exact ⟨hg,hr⟩);have hrb:(x.refs==0)=true:=by simpa using hr
    clear hr;go_enter func137,ntmps137;go_wp2_with fail;go_ret;exact ⟨ak hF.o.symm,hb.o⟩
   have hF:=af (show cZ x=false by rw [hv.o,decide_eq_false_iff_not,hz.o];exact fun h=>hr h.2);have hrb:(x.refs==0)=false:=by simpa using hr
   clear hr;go_enter func137,ntmps137;go_wp2_with (go_at_call 49;refine (jD _ _ _ _).mono ?_;rintro e w' ⟨rfl,rfl⟩;rw [hi.o]);go_ret;exact ⟨ak hF.o.symm,hb.o⟩
  have hF:=af (show cZ x=false by rw [hv.o,decide_eq_false_iff_not,hz.o];exact fun h=>hg h.1);go_enter func137,ntmps137;go_wp2_with (go_at_call 49;refine (jD _ _ _ _).mono ?_;rintro e w' ⟨rfl,rfl⟩;rw [hi.o]);go_ret;exact ⟨ak hF.o.symm,hb.o⟩
 have hk:(x.kind==0)=false:=by simpa using h0
 have hv:=af (show cZ x=(Kx.bK x.kind 1 3&&bT x.guard&&Kx.bK x.refs 0 50) by unfold cZ;rw [if_neg h0]);clear h0;go_enter func137,ntmps137;go_wp2_with fail;refine (jD _ _ _ _).mono ?_;rintro e w' ⟨rfl,rfl⟩
 cases h1:Kx.bK x.kind 1 3
 ·rw [h1] at hv;clear h1;go_wp2_with fail;go_ret;exact ⟨ak (by rw [hv.o];rfl),hb.o⟩
 rw [h1] at hv;clear h1;go_wp2_with fail;refine (oM _ _ hs).mono ?_;rintro e w' ⟨rfl,hb'⟩;have kR:=af hb';have k2:w'.cell? ⟨w.heap.size,2,none⟩=some (I_ x.refs):=(hb'.cell (p:=⟨w.heap.size,2,none⟩) hlt.o).trans c2;clear hb'
 cases h1:bT x.guard
 ·rw [h1] at hv;clear h1;go_wp2_with fail;go_ret;exact ⟨ak (by rw [hv.o];rfl),hb.o.trans (kR.o.mono hb.o.size)⟩
 rw [h1] at hv;clear h1;go_wp2_with fail;refine (jD _ _ _ _).mono ?_;rintro e w' ⟨rfl,rfl⟩;go_wp2_with fail;go_ret;exact ⟨ak (by rw [hv.o];rfl),hb.o.trans (kR.o.mono hb.o.size)⟩
theorem zV (x:aG) (w:World) (hs:x.guard.size<=9223372036854775807):Calls prog 136 #[kN x] w fun e w'=>e=.returned (.bool (!cZ x))/\Below w.heap.size w w':=by
 obtain ⟨w0,hw0⟩:=XP (w.alloc (.cells #[I_ x.kind,.string x.guard,I_ x.refs] 98));have hb:=af (show Below w.heap.size w w0 from hw0 ▸ fZ.alloc aW _);obtain ⟨c0,c1,c2⟩:=(show w0.cell? ⟨w.heap.size,0,none⟩=some (I_ x.kind)/\w0.cell? ⟨w.heap.size,1,none⟩=some (.string x.guard)/\w0.cell? ⟨w.heap.size,2,none⟩=some (I_ x.refs) from hw0 ▸ Dh.new w _ _ _ _);have HC:=af (Cc x w0 hs);unfold kN at *;go_enter func136,ntmps136;go_wp2_with (go_at_call 137;refine HC.o.mono ?_;rintro e w' ⟨rfl,hb'⟩;have kR:=af hb';clear hb');go_ret;exact ⟨rfl,hb.o.trans (kR.o.mono hb.o.size)⟩
theorem NC (l:List aG):((A6 l.length).any fun k=>!cZ (Kx.inf l k))=!(l.all cZ):=by
 rw [Ao,A5,Al,A4];constructor
 ·rintro ⟨k,hk,hq⟩;have hk:k<l.length:=by simpa using hk
  exact ⟨l[k],A2 hk,by simpa [Kx.inf,hk] using hq⟩
 rintro ⟨x,hx,hq⟩;obtain ⟨k,hk,rfl⟩:=A1 hx;exact ⟨k,by simpa using hk,by simpa [Kx.inf,hk] using hq⟩
theorem uY (l:List aG) (v:Value) (w:World) (h:bV w v l) (hs:jo l) :
  Calls prog 59 #[v] w fun e w'=>e=.returned (.bool (bC l))/\Below w.heap.size w w':=by
 have hc:=yQ 136 #[] (fun k=>!cZ (Kx.inf l k)) l v w h
  ⟨Proofs.enters_of func136 (by kernel_rfl) rfl,fun k W hk hb=>zV _ W (hs _ (by rw [show Kx.inf l k=l[k] from by simp [Kx.inf,hk]];exact A2 hk))⟩
 rw [NC] at hc;obtain ⟨a,cap,rfl,_,_⟩:=RS.val h;have Hc:=af hc;have HM:=af (show bC l=(l.all cZ&&l.length==12) from rfl);clear hc h;generalize l.all cZ=t at Hc HM
 by_cases h12:l.length=12
 ·have hb:((l.length:Int)==12)=true:=by simp;omega
  have fJ:=af h12;clear h12;go_enter func59,ntmps59;go_wp2_with (go_at_call 135;refine Hc.o.mono ?_;rintro e w' ⟨rfl,hb'⟩;have kR:=af hb';clear hb');go_ret;exact ⟨ak (by rw [HM.o,fJ.o];simp),kR.o⟩
 have hb:((l.length:Int)==12)=false:=by simp;omega
 have fJ:=af h12;clear h12;go_enter func59,ntmps59;go_wp2_with fail;go_ret;exact ⟨ak (by rw [HM.o];simp [fJ.o]),Below.refl _ _⟩
theorem eG (l:List Kx.Str) (v:Value) (w:World) (h:dK w v l) (hsz:∀ s ∈ l,s.size<=9223372036854775807) :
  Calls prog 62 #[v] w fun e w'=>e=.returned (.bool (aS l))/\Below w.heap.size w w':=by
 obtain ⟨a,cap,rfl,_,_⟩:=RS.val h;have hl:=h.1;have H:=af h;clear h;have uf:=af hsz;clear hsz;go_enter func62,ntmps62;go_wp2_with fail;go_loopw [7] (fun i wr=>∃ k:Nat,i=I_ k/\k<=l.length/\TI (∀ j (hj:j<l.length),j<k->bT l[j]=true)/\TI (∀ j (hj:j+1<l.length),j+1<k->Kx.lt l[j] l[j+1]=true)/\TI (Below w.heap.size w wr)) (fun i _=>l.length - (intOf i).toNat)
 case atStart=>exact ⟨0,rfl,Nat.zero_le _,fun j _ hj=>absurd hj (A9 _),fun j _ hj=>absurd hj (A9 _),Below.refl _ _⟩
 case round =>
  obtain ⟨k,rfl,hk,hall,hasc,hb⟩:=hrel;have Hr:=af (RS.below H.o hb.o)
  by_cases hlt:k<l.length
  ·obtain ⟨b,off,cap',e,hbl,hc⟩:=dK.at Hr.o hlt;have D8:∀ (W:World) (hB:Below wr.heap.size wr W) (hk0:0<k),W.cell? ⟨b,off+(k - 1),none⟩=some (.string (l[k - 1]'(by omega))):=fun W hB hk0=>by
    obtain ⟨b',off',cap'',e',_,hc'⟩:=dK.at Hr.o (k:=k - 1) (by omega);rw [e] at e';obtain ⟨⟨rfl,rfl,_⟩,_⟩:=Zb e';clear e';exact (hB.cell (p:=⟨b,off+(k - 1),none⟩) hbl).trans hc'
   have KA:=af D8;clear D8;obtain ⟨rfl,_,rfl⟩:=Za e;clear e;have kQ:(k:Int)<(l.length:Int):=by omega
   have nZ:=af (oM l[k] wr (uf.o _ (A2 hlt)))
   cases hq:bT l[k] with
   | false =>
    have HF:=af (show aS l=false by
     unfold aS;rw [An,An,A4];exact .inl (.inl ⟨_,A2 hlt,by rw [hq];simp⟩))
    rw [hq] at nZ;clear hq;generalize l[k]=s at hc nZ;go_wp2_with (go_at_call 141;refine nZ.o.mono ?_;rintro e w2 ⟨rfl,hb2⟩;have Hb2:=af hb2;clear hb2);go_ret;exact ⟨ak HF.o.symm,hb.o.trans (Hb2.o.mono hb.o.size)⟩
   | true =>
    have Hk:=af hq;rw [hq] at nZ;clear hq
    by_cases hk0:k=0
    ·have hg:decide (0<k)=false:=by simp;omega
     have oV:=af hk0;clear hk0;generalize l[k]=s at hc nZ;go_wp2_with (go_at_call 141;refine nZ.o.mono ?_;rintro e w2 ⟨rfl,hb2⟩;have Hb2:=af hb2;clear hb2);go_roundw
     case rel =>
      refine ⟨k+1,by go_num,by omega,?_,?_,hb.o.trans (Hb2.o.mono hb.o.size)⟩
      ·show ∀ j (hj:j<l.length),j<k+1->_
       intro j hj hjk;have:=oV.o;obtain rfl:j=k:=by omega
       exact Hk.o
      show ∀ j (hj:j+1<l.length),j+1<k+1->_
      intro j hj hjk;have:=oV.o;omega
     case measure=>simp [intOf];omega
    have hg:decide (0<k)=true:=by simp;omega
    have Hp:=af (fun W hB=>KA.o W hB (by omega))
    have eI:IntKind.i64.wrap ((k:Int) - 1)=((k - 1:Nat):Int):=by rw [IntWalk.i64_in _ (by omega)];omega
    have eJ:(k:Int) - 1=((k - 1:Nat):Int):=by omega
    have hk1:((k - 1:Nat):Int)<(l.length:Int):=by omega
    have KC:k - 1+1<l.length:=by omega
    have ek:k - 1+1=k:=by omega
    cases hq2:Kx.lt (l[k - 1]'(by omega)) l[k] with
    | false =>
     have HF:=af (show aS l=false by
      unfold aS;rw [An,An];exact .inl (.inr (qL l (k - 1) KC (by simp only [ek];exact hq2))))
     unfold Kx.lt at hq2;generalize l[k - 1]'(by omega)=s' at Hp hq2;generalize l[k]=s at hc nZ hq2;clear ek KC;go_wp2_with (go_at_call 141;refine nZ.o.mono ?_;rintro e w2 ⟨rfl,hb2⟩;have Hb2:=af hb2;have hp2:=Hp.o w2 hb2;clear hb2);go_ret;exact ⟨ak HF.o.symm,hb.o.trans (Hb2.o.mono hb.o.size)⟩
    | true =>
     have WZ:=af hq2;unfold Kx.lt at hq2;generalize l[k - 1]'(by omega)=s' at Hp hq2;generalize l[k]=s at hc nZ hq2;have Tz:=af ek;clear ek;go_wp2_with (go_at_call 141;refine nZ.o.mono ?_;rintro e w2 ⟨rfl,hb2⟩;have Hb2:=af hb2;have hp2:=Hp.o w2 hb2;clear hb2);go_roundw
     case rel =>
      refine ⟨k+1,by go_num,by omega,?_,?_,hb.o.trans (Hb2.o.mono hb.o.size)⟩
      ·show ∀ j (hj:j<l.length),j<k+1->_
       intro j hj hjk
       by_cases e:j=k
       ·subst e;exact Hk.o
       exact hall.o j hj (by omega)
      show ∀ j (hj:j+1<l.length),j+1<k+1->_
      intro j hj hjk
      by_cases e:j=k - 1
      ·subst e;have e2:=Tz.o;simp only [e2];exact WZ.o
      exact hasc.o j hj (by omega)
     case measure=>simp [intOf];omega
  have HT:=af (show aS l=decide (l.length<=6) by
   unfold aS;have h1:l.all bT=true:=by
    rw [A3];intro s hs;obtain ⟨j,hj,rfl⟩:=A1 hs;exact hall.o j hj (by omega)
   rw [h1,pM l k hasc.o (by omega)];simp)
  go_wp2_with fail;go_ret;refine ⟨ak ?_,hb.o⟩;rw [HT.o];exact Bool.eq_iff_iff.2 (by simp;omega)
theorem Ce (ad q r s:Nat) (w:World) (ha:ad<64) (hq:ad / 16=q) (hr:ad / 4 % 4=r) (hs:ad % 4=s) :
  Calls prog 149 #[I_ ad] w fun e w'=>e=.returned (.tuple #[I_ q,I_ r,I_ s,.bool true])/\w=w':=by
 have Hv:=af (show Kx.bK (ad:Int) 0 63=true by rw [Kx.ay];omega);have eq:(ad:Int) / 16=(q:Int):=by omega
 have er:(ad:Int) / 4 % 4=(r:Int):=by omega
 have es:(ad:Int) % 4=(s:Int):=by omega
 have Oo:(ad:Int)<64:=by omega
 clear hq hr hs;go_enter func149,ntmps149;go_wp2_with (go_at_call 73;refine (qI _ _).mono ?_;rintro e w' ⟨rfl,rfl⟩;rw [Hv.o]);refine af7 (by simp [results,results149,go_sem,er,es]<;>rfl) ⟨rfl,rfl⟩
theorem o_ (m:List (List Int)) (root ad:Nat) (v:Value) (w:World) (h:RM w v m) (hm:bW m=true) (hr:root<12) (ha:ad<64) :
  Calls prog 68 #[v,I_ root,I_ ad] w fun e w'=>e=.returned (kM (Kx.walk m root ad))/\Below w.heap.size w w':=by
 obtain ⟨q,hq⟩:=XP (ad / 16);obtain ⟨r,hr'⟩:=XP (ad / 4 % 4);obtain ⟨s,hs⟩:=XP (ad % 4);have hal:=(Below.refl w.heap.size w).alloc aW (.cells #[I_ 0,I_ 0,.bool false] 105);have hb3:TI (∀ c,Below w.heap.size w (w.alloc (.cells c 105))):=fun c=>(Below.refl w.heap.size w).alloc aW _
 obtain ⟨b,off,cap,b',off',cap',rfl,h1,h2,h3,h4⟩:=(h.below hal).word hm hr (a:=q) (by omega);have hq4:(q:Int)<4:=by omega
 have hr4:(r:Int)<4:=by omega
 have Me:(root:Int)<12:=by omega
 have Ha:=af (fun w=>Ce ad q r s w ha hq hr' hs)
 cases he:Kx.entry (Kx.word m root q) with
 | none =>
  have hw:Kx.walk m root ad=((0,0,false),1):=by unfold Kx.walk;rw [hq,he]
  have He:=af he;have Hw:=af hw;clear he hw hq hr' hs h hal;generalize Kx.word m root q=x at h2 h3 h4 He;go_enter func68,ntmps68;go_wp2_with fail;refine (Ha.o _).mono ?_;rintro e w' ⟨rfl,rfl⟩;go_wp2_with fail;refine (bZ _ _ (by omega)).mono ?_;rintro e w' ⟨rfl,rfl⟩;rw [G7 He.o];go_wp2_with fail;refine af7 (by simp [results,results68,go_sem]<;>rfl) ⟨?_,hb3.o _⟩;rw [Hw.o];rfl
 | some p =>
  obtain ⟨t,a⟩:=p;have ht:=Kx.dU he;obtain ⟨b1,FI,cap1,b2,mP,cap2,e1,g1,g2,g3,g4⟩:=(h.below hal).word hm ht (a:=r) (by omega);obtain ⟨⟨rfl,rfl,_⟩,_,rfl⟩:=Zb e1;clear e1;have UK:(t:Int)<12:=by omega
  cases he2:Kx.entry (Kx.word m t r) with
  | none =>
   have hw:Kx.walk m root ad=((0,0,false),2):=by unfold Kx.walk;rw [hq,he];simp only [hr',he2]
   have He:=af he;have Hw:=af hw;have KD:=af he2;clear he hw he2 hq hr' hs h hal;generalize Kx.word m root q=x at h2 h3 h4 He;generalize Kx.word m t r=y at g2 g3 g4 KD;go_enter func68,ntmps68;go_wp2_with fail;refine (Ha.o _).mono ?_;rintro e w' ⟨rfl,rfl⟩;go_wp2_with fail;refine (bZ _ _ (by omega)).mono ?_;rintro e w' ⟨rfl,rfl⟩;rw [C_ He.o];go_wp2_with fail;refine (bZ _ _ (by omega)).mono ?_;rintro e w' ⟨rfl,rfl⟩;rw [G7 KD.o];go_wp2_with fail;refine af7 (by simp [results,results68,go_sem]<;>rfl) ⟨?_,hb3.o _⟩;rw [Hw.o];rfl
  | some p =>
   obtain ⟨f,c⟩:=p;have hw:Kx.walk m root ad=(((f:Int),((s:Nat):Int),a&&c),0):=by unfold Kx.walk;rw [hq,he,<-hs];simp only [hr',he2]
   have He:=af he;have Hw:=af hw;have KD:=af he2;clear he hw he2 hq hr' hs h hal;generalize Kx.word m root q=x at h2 h3 h4 He;generalize Kx.word m t r=y at g2 g3 g4 KD;go_enter func68,ntmps68;go_wp2_with fail;refine (Ha.o _).mono ?_;rintro e w' ⟨rfl,rfl⟩;go_wp2_with fail;refine (bZ _ _ (by omega)).mono ?_;rintro e w' ⟨rfl,rfl⟩;rw [C_ He.o];go_wp2_with fail;refine (bZ _ _ (by omega)).mono ?_;rintro e w' ⟨rfl,rfl⟩;rw [C_ KD.o]
   cases a
   ·go_wp2_with fail;refine af7 (by simp [results,results68,go_sem]<;>rfl) ⟨?_,hb3.o _⟩;rw [Hw.o];simp [kM]
   go_wp2_with fail;refine af7 (by simp [results,results68,go_sem]<;>rfl) ⟨?_,hb3.o _⟩;rw [Hw.o];simp [kM]
theorem D9 (g:Nat) (lb:Array Value) (p:Nat->Bool) (l:List Int) (v:Value) (w:World) (h:RI w v l) (hp:uF g lb l.length (fun k=>I_ (l.getD k 0)) p w) :
  Calls prog 205 #[v,.func (.func g) #[] lb] w (uG l.length p w):=by
 obtain ⟨a,cap,rfl⟩:=h.val;obtain ⟨eg,hg⟩:=hp;have hl:=h.1;have H:=af h;clear h;have Hg:=af hg;clear hg;go_enter func205,ntmps205;go_wp2_with fail;go_loopw [8] (fun i wr=>∃ k:Nat,i=I_ k/\k<=l.length/\TI (∀ j,j<k->p j=false)/\TI (Below w.heap.size w wr)) (fun i _=>l.length - (intOf i).toNat)
 case atStart=>exact ⟨0,rfl,Nat.zero_le _,fun j hj=>absurd hj (A9 _),Below.refl _ _⟩
 case round =>
  obtain ⟨k,rfl,hk,hn,hb⟩:=hrel
  by_cases hlt:k<l.length
  ·obtain ⟨b,off,cap1,e,_,h1⟩:=(H.o.below hb.o).at hlt;obtain ⟨rfl,_,rfl⟩:=Za e;clear e;have kQ:(k:Int)<(l.length:Int):=by omega
   have hcall:=af (Hg.o k wr hlt hb.o);rw [show l.getD k 0=l[k] from by simp [hlt]] at hcall;generalize l[k]=x at h1 hcall
   cases hq:p k with
   | true =>
    rw [hq] at hcall;have Hq:=af hq;clear hq;go_wp2_with (go_at_fn g;refine hcall.o.mono ?_;rintro e w' ⟨rfl,hb'⟩;have kR:=af hb';clear hb');go_ret;exact ⟨_,rfl,.inl ⟨k,hlt,Hq.o,hn.o,rfl⟩,hb.o.trans (kR.o.mono hb.o.size)⟩
   | false =>
    rw [hq] at hcall;have Hq:=af hq;clear hq;go_wp2_with (go_at_fn g;refine hcall.o.mono ?_;rintro e w' ⟨rfl,hb'⟩;have kR:=af hb';clear hb');go_roundw
    case rel =>
     refine ⟨k+1,by go_num,by omega,?_,hb.o.trans (kR.o.mono hb.o.size)⟩;show ∀ j,j<k+1->p j=false;intro j hj
     by_cases e:j=k
     ·subst e;exact Hq.o
     exact hn.o j (by omega)
    case measure=>simp [intOf];omega
  have:k=l.length:=by omega
  subst this;go_wp2_with fail;go_ret;exact ⟨_,rfl,.inr ⟨hn.o,rfl⟩,hb.o⟩
theorem qF (g:Nat) (lb:Array Value) (p:Nat->Bool) (l:List Int) (v:Value) (w:World) (h:RI w v l) (hp:uF g lb l.length (fun k=>I_ (l.getD k 0)) p w) :
  Calls prog 142 #[v,.func (.func g) #[] lb] w fun e w'=>e=.returned (.bool ((A6 l.length).any p))/\Below w.heap.size w w':=by
 have Hc:=af (D9 g lb p l v w h hp);clear h hp;go_enter func142,ntmps142;go_wp2_with (go_at_call 205;refine Hc.o.mono ?_;rintro e w' ⟨r,rfl,hf,hb'⟩;have kR:=af hb';have Hf:=af hf;clear hb' hf);go_ret;exact ⟨ak Hf.o.any,kR.o⟩
theorem uA (x:Int) (w:World):Calls prog 148 #[I_ x] w fun e w'=>e=.returned (I_ (Kx.needs x))/\w=w':=by
 by_cases h3:x=3
 ·subst h3;go_enter func148,ntmps148;go_wp2_with fail;go_ret;exact ⟨rfl,rfl⟩
 have hb3:(x==3)=false:=by simpa using h3
 by_cases h2:x=2
 ·subst h2;go_enter func148,ntmps148;go_wp2_with fail;go_ret;exact ⟨rfl,rfl⟩
 have hb2:(x==2)=false:=by simpa using h2
 have H:=af (show Kx.needs x=0 by simp [Kx.needs,aX,h2,h3]);clear h2 h3;go_enter func148,ntmps148;go_wp2_with fail;go_ret;exact ⟨aZ H.o.symm,rfl⟩
theorem Ih.new (w:World) (v0:Value) (e:TypeId):(w.alloc (.cells #[v0] e)).cell? ⟨w.heap.size,0,none⟩=some v0/\w.heap.size<(w.alloc (.cells #[v0] e)).heap.size:=by
 have h:(w.alloc (.cells #[v0] e)).heap[w.heap.size]?=some (.cells #[v0] e (0,0)):=heap_alloc_new w _;exact ⟨cell_of_row _ _ 0 _ _ _ h,by simp⟩
theorem FC (l:List aG) (f:Nat) (r:List Kx.Str) (b1 b2 kb:Nat) (u ui:Value) (w:World) (hI:bV w ui l) (hf:f<l.length) (hr:dK w u r)
  (h1:w.cell? ⟨b1,0,none⟩=some u) (h2:w.cell? ⟨b2,0,none⟩=some (.pointer (some ⟨kb,0,none⟩))) (h3:w.cell? ⟨kb,1,none⟩=some ui) :
  Calls prog 143 #[I_ f,.pointer (some ⟨b1,0,none⟩),.pointer (some ⟨b2,0,none⟩)] w fun en w'=>en=.returned (.bool (!Kx.may r (Kx.inf l f).guard))/\Below w.heap.size w w':=by
 obtain ⟨bi,oi,ci,rfl,_,_,g1,_⟩:=bV.at hI hf;have hin:=af (show b1<w.heap.size/\b2<w.heap.size/\kb<w.heap.size/\bi<w.heap.size from ⟨World.block_lt_of_cell? w _ h1,World.block_lt_of_cell? w _ h2,World.block_lt_of_cell? w _ h3,World.block_lt_of_cell? w _ g1⟩);have wJ:(f:Int)<(l.length:Int):=by omega
 have Hr:=af hr;clear hr hI;generalize (Kx.inf l f).guard=g at g1;have S1:w.cell? ⟨b1,0,none⟩=some u/\w.cell? ⟨b2,0,none⟩=some (.pointer (some ⟨kb,0,none⟩))/\w.cell? ⟨kb,1,none⟩=some (A0 (some ⟨bi,oi,none⟩) l.length ci)/\w.cell? ⟨bi,oi+f*3+1,none⟩=some (.string g):=⟨h1,h2,h3,g1⟩;go_enter func143,ntmps143;go_wp2_with fail;refine wp_region_held_drew (S:=(fun wz=>wz.cell? ⟨b1,0,none⟩=some u/\wz.cell? ⟨b2,0,none⟩=some (.pointer (some ⟨kb,0,none⟩))/\wz.cell? ⟨kb,1,none⟩=some (A0 (some ⟨bi,oi,none⟩) l.length ci)/\wz.cell? ⟨bi,oi+f*3+1,none⟩=some (.string g))) (by kernel_rfl) (by first | assumption | (exact ⟨(hb3.cell (p:=⟨b1,0,none⟩) hin.o.1).trans h1,(hb3.cell (p:=⟨b2,0,none⟩) hin.o.2.1).trans h2,(hb3.cell (p:=⟨kb,1,none⟩) hin.o.2.2.1).trans h3,(hb3.cell (p:=⟨bi,oi+f*3+1,none⟩) hin.o.2.2.2).trans g1⟩) | go_keep) (fun hHeld=>?_)
 refine afW 0 ?_;refine tH 8 ?_;refine ahk 9 fun K hK=>?_
 (go_simp;go_at_call 47;refine (AP r g u _ (show dK w.drew _ _ from Hr.o)).mono ?_;rintro e w2 ⟨rfl,hb2⟩;have hb3:=Below.gG hb2;go_wp2_with fail)
 refine hK.out _ _ ?_ (fun hHeld=>?_)
 ·first | assumption | (exact ⟨(hb3.cell (p:=⟨b1,0,none⟩) hin.o.1).trans h1,(hb3.cell (p:=⟨b2,0,none⟩) hin.o.2.1).trans h2,(hb3.cell (p:=⟨kb,1,none⟩) hin.o.2.2.1).trans h3,(hb3.cell (p:=⟨bi,oi+f*3+1,none⟩) hin.o.2.2.2).trans g1⟩) | go_keep
 clear hK K;refine nH ?_;refine afU 10 ?_;refine wpAnyH_done (by kernel_rfl) ?_ _;go_wp2_with fail;go_ret;exact ⟨rfl,hb3⟩
theorem DU (l:List aG) (fs:List Nat) (r:List Kx.Str):((A6 (fU fs).length).any fun k=>!Kx.may r (Kx.inf l (fs.getD k 0)).guard)=!Kx.allowed l fs r:=by
 unfold Kx.allowed;rw [aQ,Ao,A5,Al,A4];constructor
 ·rintro ⟨k,hk,hq⟩;have hk:k<fs.length:=by simpa using hk
  exact ⟨fs[k],A2 hk,by simpa [hk] using hq⟩
 rintro ⟨x,hx,hq⟩;obtain ⟨k,hk,rfl⟩:=A1 hx;exact ⟨k,by simpa using hk,by simpa [hk] using hq⟩
theorem JZ (fs:List Nat) (k:Nat):(fU fs).getD k 0=((fs.getD k 0:Nat):Int):=by
 unfold fU
 by_cases h:k<fs.length <;> simp [List.getD,h]
theorem lH (l:List aG) (fs:List Nat) (r:List Kx.Str) (kb:Nat) (u v ui:Value) (w:World) (hI:bV w ui l) (hfs:RI w v (fU fs)) (hr:dK w u r) (hlt:∀ f ∈ fs,f<l.length) (h3:w.cell? ⟨kb,1,none⟩=some ui) :
  Calls prog 64 #[.pointer (some ⟨kb,0,none⟩),u,v] w fun en w'=>en=.returned (.bool (Kx.allowed l fs r))/\Below w.heap.size w w':=by
 obtain ⟨w1,hw1⟩:=XP (w.alloc (.cells #[.pointer (some ⟨kb,0,none⟩)] 149));have B1:=af (show Below w.heap.size w w1 from hw1 ▸ dm);obtain ⟨c1,l1⟩:=(show w1.cell? ⟨w.heap.size,0,none⟩=some (.pointer (some ⟨kb,0,none⟩))/\w.heap.size<w1.heap.size from hw1 ▸ Ih.new w _ _);obtain ⟨w2,hw2⟩:=XP (w1.alloc (.cells #[u] 84));have B2:=af (show Below w1.heap.size w1 w2 from hw2 ▸ dm);obtain ⟨c2,l2⟩:=(show w2.cell? ⟨w1.heap.size,0,none⟩=some u/\w1.heap.size<w2.heap.size from hw2 ▸ Ih.new w1 _ _)
 have FD:=af (B1.o.trans (B2.o.mono B1.o.size));have c1':=(B2.o.cell (p:=⟨w.heap.size,0,none⟩) l1).trans c1;have hkb:=World.block_lt_of_cell? w _ h3;have k3:=(FD.o.cell (p:=⟨kb,1,none⟩) hkb).trans h3;have hkb2:kb<w2.heap.size:=A' hkb FD.o.size;have Yw:w.heap.size<w2.heap.size:=A' l1 B2.o.size;have hc:=qF 143 #[.pointer (some ⟨w1.heap.size,0,none⟩),.pointer (some ⟨w.heap.size,0,none⟩)] (fun k=>!Kx.may r (Kx.inf l (fs.getD k 0)).guard) (fU fs) v w2 (hfs.below FD.o)
  ⟨Proofs.enters_of func143 (by kernel_rfl) rfl,fun k W hk hb=>by
   have hk':k<fs.length:=by rw [aQ] at hk;exact hk
   have hm:fs.getD k 0<l.length:=hlt _ (by rw [show fs.getD k 0=fs[k] from by simp [hk']];exact A2 hk');have hbw:=FD.o.trans (hb.mono FD.o.size);show Calls prog 143 #[I_ ((fU fs).getD k 0),_,_] W _;rw [JZ];exact FC l (fs.getD k 0) r w1.heap.size w.heap.size kb u ui W (RS.below hI hbw) hm (RS.below hr hbw) ((hb.cell (p:=⟨w1.heap.size,0,none⟩) l2).trans c2) ((hb.cell (p:=⟨w.heap.size,0,none⟩) Yw).trans c1') ((hb.cell (p:=⟨kb,1,none⟩) hkb2).trans k3)⟩
 rw [DU] at hc;have HC:=af hc;clear hc c1 c2 c1' k3 hkb hkb2 Yw l1 l2 h3 hlt;obtain ⟨a,cap,rfl⟩:=hfs.val;obtain ⟨a2,cap2,rfl,_,_⟩:=RS.val hr;clear hfs hr hI;go_enter func64,ntmps64;go_wp2_with (go_at_call 142;refine HC.o.mono ?_;rintro en w' ⟨rfl,hb'⟩;have kR:=af hb';clear hb');go_ret;exact ⟨ak (by simp),FD.o.trans (kR.o.mono FD.o.size)⟩
theorem Nh (l:List aG) (t:Nat) (x kind:Int) (r:List Kx.Str) (b1 b2 b3 b4:Nat) (v u:Value) (w:World) (h:bV w v l) (h12:l.length=12) (hr:dK w u r) (hk:kind=2\/kind=3) (hx:x<=9223372036854775807)
  (c1:w.cell? ⟨b1,0,none⟩=some (I_ t)) (c2:w.cell? ⟨b2,0,none⟩=some v) (c3:w.cell? ⟨b3,0,none⟩=some (I_ kind)) (c4:w.cell? ⟨b4,0,none⟩=some u) :
  Calls prog 147 #[I_ x,.pointer (some ⟨b1,0,none⟩),.pointer (some ⟨b2,0,none⟩),.pointer (some ⟨b3,0,none⟩),.pointer (some ⟨b4,0,none⟩)] w fun e w'=>e=.returned (.bool (!gK l t x kind r))/\Below w.heap.size w w':=by
 have hin:=af (show b1<w.heap.size/\b2<w.heap.size/\b3<w.heap.size/\b4<w.heap.size from ⟨World.block_lt_of_cell? w _ c1,World.block_lt_of_cell? w _ c2,World.block_lt_of_cell? w _ c3,World.block_lt_of_cell? w _ c4⟩)
 cases he:Kx.entry x with
 | none =>
  have HF:=af (show gK l t x kind r=(x==0) by unfold gK;rw [he]);have He:=af he;clear he hk h h12 hr;have S1:w.cell? ⟨b1,0,none⟩=some (I_ t)/\w.cell? ⟨b2,0,none⟩=some v/\w.cell? ⟨b3,0,none⟩=some (I_ kind)/\w.cell? ⟨b4,0,none⟩=some u:=⟨c1,c2,c3,c4⟩
  by_cases h0:x=0
  ·subst h0;go_enter func147,ntmps147;go_wp2_with fail;refine (bZ _ _ (by omega)).mono ?_;rintro e w' ⟨rfl,rfl⟩;rw [G7 He.o];go_wp2_with fail;refine afT (S:=(fun wz=>wz.cell? ⟨b1,0,none⟩=some (I_ t)/\wz.cell? ⟨b2,0,none⟩=some v/\wz.cell? ⟨b3,0,none⟩=some (I_ kind)/\wz.cell? ⟨b4,0,none⟩=some u)) fun hHeld=>?_
   refine afW 0 ?_;refine afW 8 ?_;refine afW 16 ?_;refine afW 24 ?_;refine wpAnyH_done (by kernel_rfl) ?_ _;go_wp2_with fail;go_ret;exact ⟨ak (by rw [HF.o];rfl),⟨rfl,rfl,rfl,Ab _,fun _ _=>rfl⟩⟩
  have hb:(x==0)=false:=by simpa using h0
  have hbn:(x != 0)=true:=by simpa using h0
  rw [hb] at HF;clear h0;go_enter func147,ntmps147;go_wp2_with fail;refine (bZ _ _ (by omega)).mono ?_;rintro e w' ⟨rfl,rfl⟩;rw [G7 He.o];go_wp2_with fail;refine afT (S:=(fun wz=>wz.cell? ⟨b1,0,none⟩=some (I_ t)/\wz.cell? ⟨b2,0,none⟩=some v/\wz.cell? ⟨b3,0,none⟩=some (I_ kind)/\wz.cell? ⟨b4,0,none⟩=some u)) fun hHeld=>?_
  refine afW 0 ?_;refine afW 8 ?_;refine afW 16 ?_;refine afW 24 ?_;refine wpAnyH_done (by kernel_rfl) ?_ _;go_wp2_with fail;go_ret;exact ⟨ak (by rw [HF.o];rfl),⟨rfl,rfl,rfl,Ab _,fun _ _=>rfl⟩⟩
 | some p =>
  obtain ⟨g,c⟩:=p;have hg:=Kx.dU he;have hx0:x≠0:=fun e=>by subst e;have:Kx.entry 0=none:=rfl;rw [this] at he;cases he
  have hbn:(x != 0)=true:=by simpa using hx0
  have HF:=af (show gK l t x kind r=(g != t&&(Kx.inf l g).kind==kind - 1&&Kx.may r (Kx.inf l g).guard) by unfold gK;rw [he]);have He:=af he;clear he;obtain ⟨b,off,cap1,rfl,hbw,h1,h2,h3⟩:=bV.at h (k:=g) (by omega);have Vt:(g:Int)<(l.length:Int):=by omega
  have Hn:=af (show Kx.needs kind=kind - 1 by rcases hk with rfl | rfl <;> rfl)
  have Hr:=af hr;have Q4:=af hbw;clear h hr h12 hx0 hk hbw;generalize Kx.inf l g=y at h1 h2 h3 HF;have S1:w.cell? ⟨b1,0,none⟩=some (I_ t)/\w.cell? ⟨b2,0,none⟩=some (A0 (some ⟨b,off,none⟩) l.length cap1)/\w.cell? ⟨b3,0,none⟩=some (I_ kind)/\w.cell? ⟨b4,0,none⟩=some u/\w.cell? ⟨b,off+g*3,none⟩=some (I_ y.kind)/\w.cell? ⟨b,off+g*3+1,none⟩=some (.string y.guard):=⟨c1,c2,c3,c4,h1,h2⟩
  by_cases ht:g=t
  ·subst ht;have HF2:=af (HF.o.trans (show _=false by simp));have hgg:((g:Int)==(g:Int))=true:=by simp
   clear HF;go_enter func147,ntmps147;go_wp2_with fail;refine (bZ _ _ (by omega)).mono ?_;rintro e w' ⟨rfl,rfl⟩;rw [C_ He.o];go_wp2_with fail;refine afT (S:=(fun wz=>wz.cell? ⟨b1,0,none⟩=some (I_ g)/\wz.cell? ⟨b2,0,none⟩=some (A0 (some ⟨b,off,none⟩) l.length cap1)/\wz.cell? ⟨b3,0,none⟩=some (I_ kind)/\wz.cell? ⟨b4,0,none⟩=some u/\wz.cell? ⟨b,off+g*3,none⟩=some (I_ y.kind)/\wz.cell? ⟨b,off+g*3+1,none⟩=some (.string y.guard))) fun hHeld=>?_
   refine afW 0 ?_;refine afW 8 ?_;refine afW 16 ?_;refine afW 24 ?_;refine wpAnyH_done (by kernel_rfl) ?_ _;go_wp2_with fail;go_ret;exact ⟨ak (by rw [HF2.o];rfl),⟨rfl,rfl,rfl,Ab _,fun _ _=>rfl⟩⟩
  have htb:(g != t)=true:=by simpa using ht
  have UK:((g:Int)==(t:Int))=false:=by rw [beq_eq_false_iff_ne];omega
  rw [htb] at HF;clear ht htb
  by_cases hky:y.kind=kind - 1
  ·have hkb:(y.kind==kind - 1)=true:=by simpa using hky
   have hkb2:(y.kind != kind - 1)=false:=by simpa using hky
   rw [hkb] at HF;clear hky hkb;go_enter func147,ntmps147;go_wp2_with fail;refine (bZ _ _ (by omega)).mono ?_;rintro e w' ⟨rfl,rfl⟩;rw [C_ He.o];go_wp2_with fail;refine wp_region_held_drew (S:=(fun wz=>wz.cell? ⟨b1,0,none⟩=some (I_ t)/\wz.cell? ⟨b2,0,none⟩=some (A0 (some ⟨b,off,none⟩) l.length cap1)/\wz.cell? ⟨b3,0,none⟩=some (I_ kind)/\wz.cell? ⟨b4,0,none⟩=some u/\wz.cell? ⟨b,off+g*3,none⟩=some (I_ y.kind)/\wz.cell? ⟨b,off+g*3+1,none⟩=some (.string y.guard))) (by kernel_rfl) (by first | assumption | (exact ⟨(hb3.cell (p:=⟨b1,0,none⟩) hin.o.1).trans c1,(hb3.cell (p:=⟨b2,0,none⟩) hin.o.2.1).trans c2,(hb3.cell (p:=⟨b3,0,none⟩) hin.o.2.2.1).trans c3,(hb3.cell (p:=⟨b4,0,none⟩) hin.o.2.2.2).trans c4,(hb3.cell (p:=⟨b,off+g*3,none⟩) Q4.o).trans h1,(hb3.cell (p:=⟨b,off+g*3+1,none⟩) Q4.o).trans h2⟩) | go_keep) (fun hHeld=>?_)
   refine afW 0 ?_;refine afW 8 ?_;refine tH 16 ?_;refine ahk 17 fun K hK=>?_
   (go_simp;go_at_call 148;refine (uA _ _).mono ?_;rintro e w' ⟨rfl,rfl⟩;rw [Hn.o];go_wp2_with fail)
   refine hK.out _ _ ?_ (fun hHeld=>?_)
   ·first | assumption | (exact ⟨(hb3.cell (p:=⟨b1,0,none⟩) hin.o.1).trans c1,(hb3.cell (p:=⟨b2,0,none⟩) hin.o.2.1).trans c2,(hb3.cell (p:=⟨b3,0,none⟩) hin.o.2.2.1).trans c3,(hb3.cell (p:=⟨b4,0,none⟩) hin.o.2.2.2).trans c4,(hb3.cell (p:=⟨b,off+g*3,none⟩) Q4.o).trans h1,(hb3.cell (p:=⟨b,off+g*3+1,none⟩) Q4.o).trans h2⟩) | go_keep
   clear hK K;refine nH ?_;refine afW 18 ?_;refine tH 26 ?_;refine ahk 27 fun K hK=>?_
   (go_simp;go_at_call 47;refine (AP r y.guard u _ (show dK w.drew _ _ from Hr.o)).mono ?_;rintro e w2 ⟨rfl,hb2⟩;have hb3:Below w.heap.size w w2:=⟨hb2.os,hb2.tape,hb2.output,hb2.size,hb2.block⟩;go_wp2_with fail)
   refine hK.out _ _ ?_ (fun hHeld=>?_)
   ·first | assumption | (exact ⟨(hb3.cell (p:=⟨b1,0,none⟩) hin.o.1).trans c1,(hb3.cell (p:=⟨b2,0,none⟩) hin.o.2.1).trans c2,(hb3.cell (p:=⟨b3,0,none⟩) hin.o.2.2.1).trans c3,(hb3.cell (p:=⟨b4,0,none⟩) hin.o.2.2.2).trans c4,(hb3.cell (p:=⟨b,off+g*3,none⟩) Q4.o).trans h1,(hb3.cell (p:=⟨b,off+g*3+1,none⟩) Q4.o).trans h2⟩) | go_keep
   clear hK K;refine nH ?_;refine afV 28 ?_;refine wpAnyH_done (by kernel_rfl) ?_ _;go_wp2_with fail;go_ret;exact ⟨ak (by rw [HF.o];rfl),hb3⟩
  have hkb:(y.kind==kind - 1)=false:=by simpa using hky
  have hkb2:(y.kind != kind - 1)=true:=by simpa using hky
  rw [hkb] at HF;clear hky hkb;go_enter func147,ntmps147;go_wp2_with fail;refine (bZ _ _ (by omega)).mono ?_;rintro e w' ⟨rfl,rfl⟩;rw [C_ He.o];go_wp2_with fail;refine afT (S:=(fun wz=>wz.cell? ⟨b1,0,none⟩=some (I_ t)/\wz.cell? ⟨b2,0,none⟩=some (A0 (some ⟨b,off,none⟩) l.length cap1)/\wz.cell? ⟨b3,0,none⟩=some (I_ kind)/\wz.cell? ⟨b4,0,none⟩=some u/\wz.cell? ⟨b,off+g*3,none⟩=some (I_ y.kind)/\wz.cell? ⟨b,off+g*3+1,none⟩=some (.string y.guard))) fun hHeld=>?_
  refine afW 0 ?_;refine afW 8 ?_;refine tH 16 ?_;refine ahk 17 fun K hK=>?_
  (go_simp;go_at_call 148;refine (uA _ _).mono ?_;rintro e w' ⟨rfl,rfl⟩;rw [Hn.o];go_wp2_with fail)
  refine afS hK fun hHeld=>?_
  clear hK K;refine afW 18 ?_;refine afV 26 ?_;refine afU 30 ?_;refine wpAnyH_done (by kernel_rfl) ?_ _;go_wp2_with fail;go_ret;exact ⟨ak (by rw [HF.o];rfl),⟨rfl,rfl,rfl,Ab _,fun _ _=>rfl⟩⟩
theorem Nj (m:List (List Int)) (l:List aG) (f:Nat) (kind:Int) (r:List Kx.Str):((A6 (Kx.row m f).length).any fun k=>!gK l f ((Kx.row m f).getD k 0) kind r)=!Kx.rowOk m l f kind r:=by
 unfold Kx.rowOk;rw [Ao,A5,Al,A4];constructor
 ·rintro ⟨k,hk,hq⟩;have hk:k<(Kx.row m f).length:=by simpa using hk
  exact ⟨(Kx.row m f)[k],A2 hk,by simpa [hk] using hq⟩
 rintro ⟨x,hx,hq⟩;obtain ⟨k,hk,rfl⟩:=A1 hx;exact ⟨k,by simpa using hk,by simpa [hk] using hq⟩
theorem BA (m:List (List Int)) (l:List aG) (f:Nat) (kind:Int) (r:List Kx.Str) (vm v u:Value) (w:World) (hm:RM w vm m) (hmo:bW m=true) (h:bV w v l) (h12:l.length=12) (hr:dK w u r) (hk:kind=2\/kind=3) (hf:f<12) :
  Calls prog 67 #[vm,v,I_ f,I_ kind,u] w fun e w'=>e=.returned (.bool (Kx.rowOk m l f kind r))/\Below w.heap.size w w':=by
 obtain ⟨w1,hw1⟩:=XP (w.alloc (.cells #[v] 24));have B1:=af (show Below w.heap.size w w1 from hw1 ▸ dm);obtain ⟨c1,l1⟩:=(show w1.cell? ⟨w.heap.size,0,none⟩=some v/\w.heap.size<w1.heap.size from hw1 ▸ Ih.new w _ _)
 obtain ⟨w2,hw2⟩:=XP (w1.alloc (.cells #[I_ (f:Int)] 3));have B2:=af (show Below w1.heap.size w1 w2 from hw2 ▸ dm);obtain ⟨c2,l2⟩:=(show w2.cell? ⟨w1.heap.size,0,none⟩=some (I_ (f:Int))/\w1.heap.size<w2.heap.size from hw2 ▸ Ih.new w1 _ _);obtain ⟨w3,hw3⟩:=XP (w2.alloc (.cells #[I_ kind] 3));have B3:=af (show Below w2.heap.size w2 w3 from hw3 ▸ dm);obtain ⟨c3,l3⟩:=(show w3.cell? ⟨w2.heap.size,0,none⟩=some (I_ kind)/\w2.heap.size<w3.heap.size from hw3 ▸ Ih.new w2 _ _);obtain ⟨w4,hw4⟩:=XP (w3.alloc (.cells #[u] 84));have B4:=af (show Below w3.heap.size w3 w4 from hw4 ▸ dm);obtain ⟨c4,l4⟩:=(show w4.cell? ⟨w3.heap.size,0,none⟩=some u/\w3.heap.size<w4.heap.size from hw4 ▸ Ih.new w3 _ _)
 have VR:=af (B3.o.trans (B4.o.mono B3.o.size));have VS:=af (B2.o.trans (VR.o.mono B2.o.size));have Ti:=af (B1.o.trans (VS.o.mono B1.o.size));have d1:=af ((VS.o.cell (p:=⟨w.heap.size,0,none⟩) l1).trans c1);have d2:=af ((VR.o.cell (p:=⟨w1.heap.size,0,none⟩) l2).trans c2);have d3:=af ((B4.o.cell (p:=⟨w2.heap.size,0,none⟩) l3).trans c3);have d4:=af c4;have L:=af (show w.heap.size<w4.heap.size/\w1.heap.size<w4.heap.size/\w2.heap.size<w4.heap.size/\w3.heap.size<w4.heap.size from ⟨A' l1 VS.o.size,A' l2 VR.o.size,A' l3 B4.o.size,l4⟩);obtain ⟨b,off,cap,ur,rfl,hcell,hrow⟩:=(hm.below Ti.o).row hmo hf;have wJ:(f:Int)<12:=by omega
 have vW:=af (mem_row hmo hf).2.2;have hc:=qF 147 #[.pointer (some ⟨w1.heap.size,0,none⟩),.pointer (some ⟨w.heap.size,0,none⟩),.pointer (some ⟨w2.heap.size,0,none⟩),.pointer (some ⟨w3.heap.size,0,none⟩)] (fun k=>!gK l f ((Kx.row m f).getD k 0) kind r) (Kx.row m f) ur w4 hrow
  ⟨Proofs.enters_of func147 (by kernel_rfl) rfl,fun k W hkl hb=>by
   have hbw:=Ti.o.trans (hb.mono Ti.o.size);have hxm:(Kx.row m f).getD k 0 ∈ Kx.row m f:=by rw [show (Kx.row m f).getD k 0=(Kx.row m f)[k] from by simp [hkl]];exact A2 hkl
   have Oq:=(vW.o _ hxm).2;exact Nh l f _ kind r w1.heap.size w.heap.size w2.heap.size w3.heap.size v u W (RS.below h hbw) h12 (RS.below hr hbw) hk (by omega)
    ((hb.cell (p:=⟨w1.heap.size,0,none⟩) L.o.2.1).trans d2.o) ((hb.cell (p:=⟨w.heap.size,0,none⟩) L.o.1).trans d1.o) ((hb.cell (p:=⟨w2.heap.size,0,none⟩) L.o.2.2.1).trans d3.o) ((hb.cell (p:=⟨w3.heap.size,0,none⟩) L.o.2.2.2).trans d4.o)⟩
 rw [Nj] at hc;have HC:=af hc;have e2:=d2.o;obtain ⟨a1,cp1,rfl,_,_⟩:=RS.val h;obtain ⟨a2,cp2,rfl,_,_⟩:=RS.val hr;clear hc c1 c2 c3 c4 l1 l2 l3 l4 hm h hr hrow h12 hmo;go_enter func67,ntmps67;go_wp2_with (go_at_call 142;refine HC.o.mono ?_;rintro en w' ⟨rfl,hb'⟩;have kR:=af hb';clear hb');go_ret;exact ⟨ak (by simp),Ti.o.trans (kR.o.mono Ti.o.size)⟩
end Go.Proofs.YthcmmoibpgcgaaaGreatDoor
