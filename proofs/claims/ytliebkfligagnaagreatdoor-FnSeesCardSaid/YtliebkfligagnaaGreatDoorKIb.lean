/- KI5, KI6, KI7, joined. -/
import Derived.Test.YtliebkfligagnaaGreatDoorKIa
import Derived.Test.YtliebkfligagnaaGreatDoorShelf
set_option maxHeartbeats 1000000
set_option linter.all false
namespace Go.Proofs.YtliebkfligagnaaGreatDoor
open Go.RowKit
theorem dropWhile_nil {α:Type} (p:α→Bool):∀ l:List α,l.dropWhile p=[]↔∀ x ∈ l,p x=true
 | []=>by simp
 | a :: l=>by
  cases h:p a with
  | true=>rw [List.dropWhile_cons_of_pos h,dropWhile_nil p l];simp [h]
  | false=>rw [List.dropWhile_cons_of_neg (by simp [h])];simp [h]
theorem IJ (l cs:List UInt8):Lib.trimS l cs=[]↔∀ b ∈ l,cs.contains b=true:=by
 unfold Lib.trimS Lib.trimLeftS;rw [dropWhile_nil];constructor
 ·intro h b hb;have hn:l.reverse.dropWhile (cs.contains ·)=[]:=by
   cases hd:l.reverse.dropWhile (cs.contains ·) with
   | nil=>rfl
   | cons x t =>
    have h1:=List.head_dropWhile_not (cs.contains ·) (l:=l.reverse) (by rw [hd];simp);simp only [hd,List.head_cons] at h1;have h2:=h x (by unfold Lib.trimRightS;rw [hd];simp);rw [h1] at h2;cases h2
  exact (dropWhile_nil _ _).1 hn b (by simpa using hb)
 intro h x hx;unfold Lib.trimRightS at hx;have:=(List.dropWhile_sublist (cs.contains ·)).mem (List.mem_reverse.1 hx);exact h x (List.mem_reverse.1 this)
theorem FQ (b:UInt8):([97,98,99]:List UInt8).contains b=letter b:=by
 rw [Bool.eq_iff_iff,yP];simp only [List.contains_iff_mem,List.mem_cons,List.not_mem_nil,or_false,←UInt8.toNat_inj,show (97:UInt8).toNat=97 from rfl,show (98:UInt8).toNat=98 from rfl,show (99:UInt8).toNat=99 from rfl];omega
theorem Cb (s:Kx.Str) (h4:s.size≤4):(Lib.trimS s.data.toList [97,98,99]=[])↔Kx.bT s=true:=by
 rw [IJ,pK,Bool.and_eq_true,List.all_eq_true];simp only [FQ];exact ⟨fun h=>⟨h,by simpa using h4⟩,fun h=>h.1⟩
theorem oM (s:Kx.Str) (w:World) (hs:s.size≤9223372036854775807):Calls Tryz.prog 153 #[.string s] w fun e w'=>e=.returned (.bool (Kx.bT s))∧Below w.heap.size w w':=by
 by_cases h4:s.size≤4
 ·have hcon:=Any.strings_Trim_laid lays160 (by kernel_rfl) s ⟨#[97,98,99]⟩ w hs (by decide) (ascii_of_all (by decide));change Calls Tryz.prog 203 _ _ (fun e w'=>e=.returned (.string ⟨(Lib.trimS s.data.toList [97,98,99]).toArray⟩)∧Below w.heap.size w w') at hcon
  have ht:=Cb s h4;have UM:decide ((s.size:Int)≤4)=true:=by simp;omega
  cases hr:Kx.bT s with
  | true =>
   rw [ht.2 hr] at hcon;have Hc:=af hcon;clear hcon ht h4 hr;go_enter Tryz.func153,Tryz.ntmps153;go_wp2_with (go_at_call 203;refine Hc.out.mono ?_;rintro e w' ⟨rfl,hb'⟩;have kR:=af hb';clear hb');go_ret;exact ⟨by rfl,kR.out⟩
  | false =>
   have hne:Lib.trimS s.data.toList [97,98,99]≠[]:=fun e=>by have:=ht.1 e;rw [hr] at this;cases this
   have hne2:¬ ByteArray.toList ⟨(Lib.trimS s.data.toList [97,98,99]).toArray⟩=[]:=by rw [toList_data];exact hne
   generalize (⟨(Lib.trimS s.data.toList [97,98,99]).toArray⟩:ByteArray)=r at hcon hne2;have Hc:=af hcon;clear hcon ht h4 hr hne;go_enter Tryz.func153,Tryz.ntmps153;go_wp2_with (go_at_call 203;refine Hc.out.mono ?_;rintro e w' ⟨rfl,hb'⟩;have kR:=af hb';clear hb');go_ret;exact ⟨by simp [hne2],kR.out⟩
 have HF:=af (show Kx.bT s=false by rw [pK,Bool.and_eq_false_iff];right;simpa using h4);have UM:decide ((s.size:Int)≤4)=false:=by simp;omega
 clear h4;go_enter Tryz.func153,Tryz.ntmps153;go_wp2_with fail;go_ret;exact ⟨ak HF.out.symm,Below.refl _ _⟩
theorem D6 (a b:Kx.Str) (w:World):Calls Tryz.prog 207 #[.string b,.string a] w fun e w'=>e=.returned (.bool (Kx.pre a b))∧w=w':=by
 by_cases h:a.size≤b.size
 ·have H:=af (wW (a:=a) (b:=b));go_enter Tryz.func207,Tryz.ntmps207;go_wp2_with go_in;go_ret;exact ⟨ak H.out,rfl⟩
 have H:=af (D7 h);go_enter Tryz.func207,Tryz.ntmps207;go_wp2_with go_in;go_ret;exact ⟨ak H.out.symm,rfl⟩
theorem Qk (s g:Kx.Str) (b1:Nat) (w:World) (h1:w.cell? ⟨b1,0,none⟩=some (.string g)) :
  Calls Tryz.prog 206 #[.string s,.pointer (some ⟨b1,0,none⟩)] w fun en w'=>en=.returned (.bool (Kx.pre s g))∧Below w.heap.size w w':=by
 go_enter Tryz.func206,Tryz.ntmps206;go_wp2_with fail;refine (D6 _ _ _).mono ?_;rintro e w' ⟨rfl,rfl⟩;go_wp2_with fail;go_ret;exact ⟨rfl,Below.refl _ _⟩
theorem Nz (l:List Kx.Str) (g:Kx.Str):((List.range l.length).any fun k=>Kx.pre (l.getD k ByteArray.empty) g)=Kx.may l g:=by
 unfold Kx.may;rw [Bool.eq_iff_iff,List.any_eq_true,List.any_eq_true];constructor
 ·rintro ⟨k,hk,hq⟩;have hk:k<l.length:=by simpa using hk
  exact ⟨l[k],List.getElem_mem hk,by simpa [hk] using hq⟩
 rintro ⟨x,hx,hq⟩;obtain ⟨k,hk,rfl⟩:=List.getElem_of_mem hx;exact ⟨k,by simpa using hk,by simpa [hk] using hq⟩
theorem AP (l:List Kx.Str) (g:Kx.Str) (v:Value) (w:World) (h:dK w v l) :
  Calls Tryz.prog 156 #[v,.string g] w fun e w'=>e=.returned (.bool (Kx.may l g))∧Below w.heap.size w w':=by
 obtain ⟨w1,hw1⟩:∃ w1,w.alloc (.cells #[.string g] 9)=w1:=⟨_,rfl⟩;have B1:=af (show Below w.heap.size w w1 from hw1 ▸ dm);have hc1:w1.cell? ⟨w.heap.size,0,none⟩=some (.string g)∧w.heap.size<w1.heap.size:=by
  subst hw1;have h:(w.alloc (.cells #[.string g] 9)).heap[w.heap.size]?=some (.cells #[.string g] 9 (0,0)):=heap_alloc_new w _;exact ⟨cell_of_row _ _ 0 _ _ _ h,by simp⟩
 have hc:=zU 206 #[.pointer (some ⟨w.heap.size,0,none⟩)] (fun k=>Kx.pre (l.getD k ByteArray.empty) g) l v w1 (RS.below h B1.out)
  ⟨Proofs.enters_of Tryz.func206 (by kernel_rfl) rfl,fun k W hk hb=>Qk _ g _ W ((hb.cell (p:=⟨w.heap.size,0,none⟩) hc1.2).trans hc1.1)⟩
 rw [Nz] at hc;have HC:=af hc;obtain ⟨a,cap,rfl,_,_⟩:=RS.val h;clear hc hc1 h;go_enter Tryz.func156,Tryz.ntmps156;go_wp2_with (go_at_call 205;refine HC.out.mono ?_;rintro en w' ⟨rfl,hb'⟩;have kR:=af hb';clear hb');go_ret;exact ⟨rfl,B1.out.trans (kR.out.mono B1.out.size)⟩
theorem Kz (x:Kx.aG) (h0:x.kind=0):x=Kx.aG.zero↔x.guard.toList=[]∧x.refs=0:=by
 constructor
 ·intro e;rw [e];exact ⟨by decide +kernel,rfl⟩
 rintro ⟨e1,e2⟩;have:x.guard=ByteArray.empty:=Kx.toList_inj (by rw [e1];decide +kernel)
 cases x;simp_all [Kx.aG.zero]
theorem Cc (x:Kx.aG) (w:World) (hs:x.guard.size≤9223372036854775807):Calls Tryz.prog 150 #[kN x] w fun e w'=>e=.returned (.bool (Kx.cZ x))∧Below w.heap.size w w':=by
 obtain ⟨w0,hw0⟩:∃ w0,w.alloc (.cells #[.int .i64 x.kind,.string x.guard,.int .i64 x.refs] 108)=w0:=⟨_,rfl⟩;have hb:=af (show Below w.heap.size w w0 from hw0 ▸ fZ.alloc aW _);have hlt:=af (show w.heap.size<w0.heap.size by subst hw0;simp);obtain ⟨c0,c1,c2⟩:=(show w0.cell? ⟨w.heap.size,0,none⟩=some (.int .i64 x.kind)∧w0.cell? ⟨w.heap.size,1,none⟩=some (.string x.guard)∧w0.cell? ⟨w.heap.size,2,none⟩=some (.int .i64 x.refs) from hw0 ▸ Dh.new w _ _ _ _);unfold kN
 by_cases h0:x.kind=0
 ·have hk:(x.kind==0)=true:=by simpa using h0
  have hv:=af (show Kx.cZ x=decide (x=Kx.aG.zero) by unfold Kx.cZ;rw [if_pos h0];rfl);have hz:=af (Kz x h0);have hi:=af (show Kx.bK x.kind 1 3=false by rw [h0];rfl);clear h0
  by_cases hg:x.guard.toList=[]
  ·by_cases hr:x.refs=0
   ·have hF:=af (show Kx.cZ x=true by rw [hv.out,decide_eq_true_eq,hz.out];exact ⟨hg,hr⟩);have hrb:(x.refs==0)=true:=by simpa using hr
    clear hr;go_enter Tryz.func150,Tryz.ntmps150;go_wp2_with fail;go_ret;exact ⟨ak hF.out.symm,hb.out⟩
   have hF:=af (show Kx.cZ x=false by rw [hv.out,decide_eq_false_iff_not,hz.out];exact fun h=>hr h.2);have hrb:(x.refs==0)=false:=by simpa using hr
   clear hr;go_enter Tryz.func150,Tryz.ntmps150;go_wp2_with (go_at_call 105;refine (jD _ _ _ _).mono ?_;rintro e w' ⟨rfl,rfl⟩;rw [hi.out]);go_ret;exact ⟨ak hF.out.symm,hb.out⟩
  have hF:=af (show Kx.cZ x=false by rw [hv.out,decide_eq_false_iff_not,hz.out];exact fun h=>hg h.1);go_enter Tryz.func150,Tryz.ntmps150;go_wp2_with (go_at_call 105;refine (jD _ _ _ _).mono ?_;rintro e w' ⟨rfl,rfl⟩;rw [hi.out]);go_ret;exact ⟨ak hF.out.symm,hb.out⟩
 have hk:(x.kind==0)=false:=by simpa using h0
 have hv:=af (show Kx.cZ x=(Kx.bK x.kind 1 3&&Kx.bT x.guard&&Kx.bK x.refs 0 50) by unfold Kx.cZ;rw [if_neg h0]);clear h0;go_enter Tryz.func150,Tryz.ntmps150;go_wp2_with fail;refine (jD _ _ _ _).mono ?_;rintro e w' ⟨rfl,rfl⟩
 cases h1:Kx.bK x.kind 1 3
 ·rw [h1] at hv;clear h1;go_wp2_with fail;go_ret;exact ⟨ak (by rw [hv.out];rfl),hb.out⟩
 rw [h1] at hv;clear h1;go_wp2_with fail;refine (oM _ _ hs).mono ?_;rintro e w' ⟨rfl,hb'⟩;have kR:=af hb';have k2:w'.cell? ⟨w.heap.size,2,none⟩=some (.int .i64 x.refs):=(hb'.cell (p:=⟨w.heap.size,2,none⟩) hlt.out).trans c2;clear hb'
 cases h1:Kx.bT x.guard
 ·rw [h1] at hv;clear h1;go_wp2_with fail;go_ret;exact ⟨ak (by rw [hv.out];rfl),hb.out.trans (kR.out.mono hb.out.size)⟩
 rw [h1] at hv;clear h1;go_wp2_with fail;refine (jD _ _ _ _).mono ?_;rintro e w' ⟨rfl,rfl⟩;go_wp2_with fail;go_ret;exact ⟨ak (by rw [hv.out];rfl),hb.out.trans (kR.out.mono hb.out.size)⟩
theorem zV (x:Kx.aG) (w:World) (hs:x.guard.size≤9223372036854775807):Calls Tryz.prog 149 #[kN x] w fun e w'=>e=.returned (.bool (!Kx.cZ x))∧Below w.heap.size w w':=by
 obtain ⟨w0,hw0⟩:∃ w0,w.alloc (.cells #[.int .i64 x.kind,.string x.guard,.int .i64 x.refs] 108)=w0:=⟨_,rfl⟩;have hb:=af (show Below w.heap.size w w0 from hw0 ▸ fZ.alloc aW _);obtain ⟨c0,c1,c2⟩:=(show w0.cell? ⟨w.heap.size,0,none⟩=some (.int .i64 x.kind)∧w0.cell? ⟨w.heap.size,1,none⟩=some (.string x.guard)∧w0.cell? ⟨w.heap.size,2,none⟩=some (.int .i64 x.refs) from hw0 ▸ Dh.new w _ _ _ _);have HC:=af (Cc x w0 hs);unfold kN at *;go_enter Tryz.func149,Tryz.ntmps149;go_wp2_with (go_at_call 150;refine HC.out.mono ?_;rintro e w' ⟨rfl,hb'⟩;have kR:=af hb';clear hb');go_ret;exact ⟨rfl,hb.out.trans (kR.out.mono hb.out.size)⟩
theorem NC (l:List Kx.aG):((List.range l.length).any fun k=>!Kx.cZ (Kx.inf l k))=!(l.all Kx.cZ):=by
 rw [Bool.eq_iff_iff,List.any_eq_true,Bool.not_eq_true',List.all_eq_false];constructor
 ·rintro ⟨k,hk,hq⟩;have hk:k<l.length:=by simpa using hk
  exact ⟨l[k],List.getElem_mem hk,by simpa [Kx.inf,hk] using hq⟩
 rintro ⟨x,hx,hq⟩;obtain ⟨k,hk,rfl⟩:=List.getElem_of_mem hx;exact ⟨k,by simpa using hk,by simpa [Kx.inf,hk] using hq⟩
theorem uY (l:List Kx.aG) (v:Value) (w:World) (h:bV w v l) (hs:jo l) :
  Calls Tryz.prog 89 #[v] w fun e w'=>e=.returned (.bool (Kx.bC l))∧Below w.heap.size w w':=by
 have hc:=yQ 149 #[] (fun k=>!Kx.cZ (Kx.inf l k)) l v w h
  ⟨Proofs.enters_of Tryz.func149 (by kernel_rfl) rfl,fun k W hk hb=>zV _ W (hs _ (by rw [show Kx.inf l k=l[k] from by simp [Kx.inf,hk]];exact List.getElem_mem hk))⟩
 rw [NC] at hc;obtain ⟨a,cap,rfl,_,_⟩:=RS.val h;have Hc:=af hc;have HM:=af (show Kx.bC l=(l.all Kx.cZ&&l.length==12) from rfl);clear hc h;generalize l.all Kx.cZ=t at Hc HM
 by_cases h12:l.length=12
 ·have hb:((l.length:Int)==12)=true:=by simp;omega
  have fJ:=af h12;clear h12;go_enter Tryz.func89,Tryz.ntmps89;go_wp2_with (go_at_call 148;refine Hc.out.mono ?_;rintro e w' ⟨rfl,hb'⟩;have kR:=af hb';clear hb');go_ret;exact ⟨ak (by rw [HM.out,fJ.out];simp),kR.out⟩
 have hb:((l.length:Int)==12)=false:=by simp;omega
 have fJ:=af h12;clear h12;go_enter Tryz.func89,Tryz.ntmps89;go_wp2_with fail;go_ret;exact ⟨ak (by rw [HM.out];simp [fJ.out]),Below.refl _ _⟩
theorem eG (l:List Kx.Str) (v:Value) (w:World) (h:dK w v l) (hsz:∀ s ∈ l,s.size≤9223372036854775807) :
  Calls Tryz.prog 92 #[v] w fun e w'=>e=.returned (.bool (Kx.aS l))∧Below w.heap.size w w':=by
 obtain ⟨a,cap,rfl,_,_⟩:=RS.val h;have hl:=h.1;have H:=af h;clear h;have uf:=af hsz;clear hsz;go_enter Tryz.func92,Tryz.ntmps92;go_wp2_with fail;go_loopw [7] (fun i wr=>∃ k:Nat,i=.int .i64 k∧k≤l.length∧Hid (∀ j (hj:j<l.length),j<k→Kx.bT l[j]=true)∧Hid (∀ j (hj:j+1<l.length),j+1<k→Kx.lt l[j] l[j+1]=true)∧Hid (Below w.heap.size w wr)) (fun i _=>l.length - (intOf i).toNat)
 case atStart=>exact ⟨0,rfl,Nat.zero_le _,fun j _ hj=>absurd hj (Nat.not_lt_zero _),fun j _ hj=>absurd hj (Nat.not_lt_zero _),Below.refl _ _⟩
 case round =>
  obtain ⟨k,rfl,hk,hall,hasc,hb⟩:=hrel;have Hr:=af (RS.below H.out hb.out)
  by_cases hlt:k<l.length
  ·obtain ⟨b,off,cap',e,hbl,hc⟩:=dK.at Hr.out hlt;have D8:∀ (W:World) (hB:Below wr.heap.size wr W) (hk0:0<k),W.cell? ⟨b,off+(k - 1),none⟩=some (.string (l[k - 1]'(by omega))):=fun W hB hk0=>by
    obtain ⟨b',off',cap'',e',_,hc'⟩:=dK.at Hr.out (k:=k - 1) (by omega);rw [e] at e';simp only [Value.slice.injEq,Option.some.injEq,Addr.mk.injEq] at e';obtain ⟨⟨rfl,rfl,_⟩,_⟩:=e';exact (hB.cell (p:=⟨b,off+(k - 1),none⟩) hbl).trans hc'
   have KA:=af D8;clear D8;simp only [Value.slice.injEq] at e;obtain ⟨rfl,_,rfl⟩:=e;have kQ:(k:Int)<(l.length:Int):=by omega
   have nZ:=af (oM l[k] wr (uf.out _ (List.getElem_mem hlt)))
   cases hq:Kx.bT l[k] with
   | false =>
    have HF:=af (show Kx.aS l=false by
     unfold Kx.aS;rw [Bool.and_eq_false_iff,Bool.and_eq_false_iff,List.all_eq_false];exact .inl (.inl ⟨_,List.getElem_mem hlt,by rw [hq];simp⟩))
    rw [hq] at nZ;clear hq;generalize l[k]=s at hc nZ;go_wp2_with (go_at_call 153;refine nZ.out.mono ?_;rintro e w2 ⟨rfl,hb2⟩;have Hb2:=af hb2;clear hb2);go_ret;exact ⟨ak HF.out.symm,hb.out.trans (Hb2.out.mono hb.out.size)⟩
   | true =>
    have Hk:=af hq;rw [hq] at nZ;clear hq
    by_cases hk0:k=0
    ·have hg:decide (0<k)=false:=by simp;omega
     have oV:=af hk0;clear hk0;generalize l[k]=s at hc nZ;go_wp2_with (go_at_call 153;refine nZ.out.mono ?_;rintro e w2 ⟨rfl,hb2⟩;have Hb2:=af hb2;clear hb2);go_roundw
     case rel =>
      refine ⟨k+1,by go_num,by omega,?_,?_,hb.out.trans (Hb2.out.mono hb.out.size)⟩
      ·show ∀ j (hj:j<l.length),j<k+1→_
       intro j hj hjk;have:=oV.out;obtain rfl:j=k:=by omega
       exact Hk.out
      show ∀ j (hj:j+1<l.length),j+1<k+1→_
      intro j hj hjk;have:=oV.out;omega
     case measure=>simp [intOf];omega
    have hg:decide (0<k)=true:=by simp;omega
    have Hp:=af (fun W hB=>KA.out W hB (by omega))
    have eI:IntKind.i64.wrap ((k:Int) - 1)=((k - 1:Nat):Int):=by rw [IntWalk.i64_in _ (by omega)];omega
    have eJ:(k:Int) - 1=((k - 1:Nat):Int):=by omega
    have hk1:((k - 1:Nat):Int)<(l.length:Int):=by omega
    have KC:k - 1+1<l.length:=by omega
    have ek:k - 1+1=k:=by omega
    cases hq2:Kx.lt (l[k - 1]'(by omega)) l[k] with
    | false =>
     have HF:=af (show Kx.aS l=false by
      unfold Kx.aS;rw [Bool.and_eq_false_iff,Bool.and_eq_false_iff];exact .inl (.inr (qL l (k - 1) KC (by simp only [ek];exact hq2))))
     unfold Kx.lt at hq2;generalize l[k - 1]'(by omega)=s' at Hp hq2;generalize l[k]=s at hc nZ hq2;clear ek KC;go_wp2_with (go_at_call 153;refine nZ.out.mono ?_;rintro e w2 ⟨rfl,hb2⟩;have Hb2:=af hb2;have hp2:=Hp.out w2 hb2;clear hb2);go_ret;exact ⟨ak HF.out.symm,hb.out.trans (Hb2.out.mono hb.out.size)⟩
    | true =>
     have WZ:=af hq2;unfold Kx.lt at hq2;generalize l[k - 1]'(by omega)=s' at Hp hq2;generalize l[k]=s at hc nZ hq2;have Tz:=af ek;clear ek;go_wp2_with (go_at_call 153;refine nZ.out.mono ?_;rintro e w2 ⟨rfl,hb2⟩;have Hb2:=af hb2;have hp2:=Hp.out w2 hb2;clear hb2);go_roundw
     case rel =>
      refine ⟨k+1,by go_num,by omega,?_,?_,hb.out.trans (Hb2.out.mono hb.out.size)⟩
      ·show ∀ j (hj:j<l.length),j<k+1→_
       intro j hj hjk
       by_cases e:j=k
       ·subst e;exact Hk.out
       exact hall.out j hj (by omega)
      show ∀ j (hj:j+1<l.length),j+1<k+1→_
      intro j hj hjk
      by_cases e:j=k - 1
      ·subst e;have e2:=Tz.out;simp only [e2];exact WZ.out
      exact hasc.out j hj (by omega)
     case measure=>simp [intOf];omega
  have HT:=af (show Kx.aS l=decide (l.length≤6) by
   unfold Kx.aS;have h1:l.all Kx.bT=true:=by
    rw [List.all_eq_true];intro s hs;obtain ⟨j,hj,rfl⟩:=List.getElem_of_mem hs;exact hall.out j hj (by omega)
   rw [h1,pM l k hasc.out (by omega)];simp)
  go_wp2_with fail;go_ret;refine ⟨ak ?_,hb.out⟩;rw [HT.out];exact Bool.eq_iff_iff.2 (by simp;omega)
theorem Ce (ad q r s:Nat) (w:World) (ha:ad<64) (hq:ad / 16=q) (hr:ad / 4 % 4=r) (hs:ad % 4=s) :
  Calls Tryz.prog 123 #[.int .i64 ad] w fun e w'=>e=.returned (.tuple #[.int .i64 q,.int .i64 r,.int .i64 s,.bool true])∧w=w':=by
 have Hv:=af (show Kx.bK (ad:Int) 0 63=true by rw [Kx.ay];omega);have eq:(ad:Int) / 16=(q:Int):=by omega
 have er:(ad:Int) / 4 % 4=(r:Int):=by omega
 have es:(ad:Int) % 4=(s:Int):=by omega
 have Oo:(ad:Int)<64:=by omega
 clear hq hr hs;go_enter Tryz.func123,Tryz.ntmps123;go_wp2_with (go_at_call 69;refine (qI _ _).mono ?_;rintro e w' ⟨rfl,rfl⟩;rw [Hv.out]);refine bodyPost_ret (v:=.tuple #[.int .i64 q,.int .i64 r,.int .i64 s,.bool true]) (by simp [results,Tryz.results123,go_sem,er,es]) rfl ⟨rfl,rfl⟩
theorem o_ (m:List (List Int)) (root ad:Nat) (v:Value) (w:World) (h:RM w v m) (hm:Kx.bW m=true) (hr:root<12) (ha:ad<64) :
  Calls Tryz.prog 70 #[v,.int .i64 root,.int .i64 ad] w fun e w'=>e=.returned (kM (Kx.walk m root ad))∧Below w.heap.size w w':=by
 obtain ⟨q,hq⟩:∃ q,ad / 16=q:=⟨_,rfl⟩;obtain ⟨r,hr'⟩:∃ r,ad / 4 % 4=r:=⟨_,rfl⟩;obtain ⟨s,hs⟩:∃ s,ad % 4=s:=⟨_,rfl⟩;have hal:=(Below.refl w.heap.size w).alloc aW (.cells #[.int .i64 0,.int .i64 0,.bool false] 66);have hb3:Hid (∀ c,Below w.heap.size w (w.alloc (.cells c 66))):=fun c=>(Below.refl w.heap.size w).alloc aW _
 obtain ⟨b,off,cap,b',off',cap',rfl,h1,h2,h3,h4⟩:=(h.below hal).word hm hr (a:=q) (by omega);have hq4:(q:Int)<4:=by omega
 have hr4:(r:Int)<4:=by omega
 have Me:(root:Int)<12:=by omega
 have Ha:=af (fun w=>Ce ad q r s w ha hq hr' hs)
 cases he:Kx.entry (Kx.word m root q) with
 | none =>
  have hw:Kx.walk m root ad=((0,0,false),1):=by unfold Kx.walk;rw [hq,he]
  have He:=af he;have Hw:=af hw;clear he hw hq hr' hs h hal;generalize Kx.word m root q=x at h2 h3 h4 He;go_enter Tryz.func70,Tryz.ntmps70;go_wp2_with fail;refine (Ha.out _).mono ?_;rintro e w' ⟨rfl,rfl⟩;go_wp2_with fail;refine (bZ _ _ (by omega)).mono ?_;rintro e w' ⟨rfl,rfl⟩;rw [G7 He.out];go_wp2_with fail;refine bodyPost_ret (v:=.tuple #[.agg #[.int .i64 0,.int .i64 0,.bool false],.int .i64 1]) (by simp [results,Tryz.results70,go_sem]) rfl ⟨?_,hb3.out _⟩;rw [Hw.out];rfl
 | some p =>
  obtain ⟨t,a⟩:=p;have ht:=Kx.dU he;obtain ⟨b1,FI,cap1,b2,mP,cap2,e1,g1,g2,g3,g4⟩:=(h.below hal).word hm ht (a:=r) (by omega);simp only [Value.slice.injEq,Option.some.injEq,Addr.mk.injEq] at e1;obtain ⟨⟨rfl,rfl,_⟩,_,rfl⟩:=e1;have UK:(t:Int)<12:=by omega
  cases he2:Kx.entry (Kx.word m t r) with
  | none =>
   have hw:Kx.walk m root ad=((0,0,false),2):=by unfold Kx.walk;rw [hq,he];simp only [hr',he2]
   have He:=af he;have Hw:=af hw;have KD:=af he2;clear he hw he2 hq hr' hs h hal;generalize Kx.word m root q=x at h2 h3 h4 He;generalize Kx.word m t r=y at g2 g3 g4 KD;go_enter Tryz.func70,Tryz.ntmps70;go_wp2_with fail;refine (Ha.out _).mono ?_;rintro e w' ⟨rfl,rfl⟩;go_wp2_with fail;refine (bZ _ _ (by omega)).mono ?_;rintro e w' ⟨rfl,rfl⟩;rw [C_ He.out];go_wp2_with fail;refine (bZ _ _ (by omega)).mono ?_;rintro e w' ⟨rfl,rfl⟩;rw [G7 KD.out];go_wp2_with fail;refine bodyPost_ret (v:=.tuple #[.agg #[.int .i64 0,.int .i64 0,.bool false],.int .i64 2]) (by simp [results,Tryz.results70,go_sem]) rfl ⟨?_,hb3.out _⟩;rw [Hw.out];rfl
  | some p =>
   obtain ⟨f,c⟩:=p;have hw:Kx.walk m root ad=(((f:Int),((s:Nat):Int),a&&c),0):=by unfold Kx.walk;rw [hq,he,←hs];simp only [hr',he2]
   have He:=af he;have Hw:=af hw;have KD:=af he2;clear he hw he2 hq hr' hs h hal;generalize Kx.word m root q=x at h2 h3 h4 He;generalize Kx.word m t r=y at g2 g3 g4 KD;go_enter Tryz.func70,Tryz.ntmps70;go_wp2_with fail;refine (Ha.out _).mono ?_;rintro e w' ⟨rfl,rfl⟩;go_wp2_with fail;refine (bZ _ _ (by omega)).mono ?_;rintro e w' ⟨rfl,rfl⟩;rw [C_ He.out];go_wp2_with fail;refine (bZ _ _ (by omega)).mono ?_;rintro e w' ⟨rfl,rfl⟩;rw [C_ KD.out]
   cases a
   ·go_wp2_with fail;refine bodyPost_ret (v:=.tuple #[.agg #[.int .i64 f,.int .i64 s,.bool false],.int .i64 0]) (by simp [results,Tryz.results70,go_sem]) rfl ⟨?_,hb3.out _⟩;rw [Hw.out];simp [kM]
   go_wp2_with fail;refine bodyPost_ret (v:=.tuple #[.agg #[.int .i64 f,.int .i64 s,.bool c],.int .i64 0]) (by simp [results,Tryz.results70,go_sem]) rfl ⟨?_,hb3.out _⟩;rw [Hw.out];simp [kM]
theorem D9 (g:Nat) (lb:Array Value) (p:Nat→Bool) (l:List Int) (v:Value) (w:World) (h:RI w v l) (hp:uF g lb l.length (fun k=>.int .i64 (l.getD k 0)) p w) :
  Calls Tryz.prog 204 #[v,.func (.func g) #[] lb] w (uG l.length p w):=by
 obtain ⟨a,cap,rfl⟩:=h.val;obtain ⟨eg,hg⟩:=hp;have hl:=h.1;have H:=af h;clear h;have Hg:=af hg;clear hg;go_enter Tryz.func204,Tryz.ntmps204;go_wp2_with fail;go_loopw [8] (fun i wr=>∃ k:Nat,i=.int .i64 k∧k≤l.length∧Hid (∀ j,j<k→p j=false)∧Hid (Below w.heap.size w wr)) (fun i _=>l.length - (intOf i).toNat)
 case atStart=>exact ⟨0,rfl,Nat.zero_le _,fun j hj=>absurd hj (Nat.not_lt_zero _),Below.refl _ _⟩
 case round =>
  obtain ⟨k,rfl,hk,hn,hb⟩:=hrel
  by_cases hlt:k<l.length
  ·obtain ⟨b,off,cap1,e,_,h1⟩:=(H.out.below hb.out).at hlt;simp only [Value.slice.injEq] at e;obtain ⟨rfl,_,rfl⟩:=e;have kQ:(k:Int)<(l.length:Int):=by omega
   have hcall:=af (Hg.out k wr hlt hb.out);rw [show l.getD k 0=l[k] from by simp [hlt]] at hcall;generalize l[k]=x at h1 hcall
   cases hq:p k with
   | true =>
    rw [hq] at hcall;have Hq:=af hq;clear hq;go_wp2_with (go_at_fn g;refine hcall.out.mono ?_;rintro e w' ⟨rfl,hb'⟩;have kR:=af hb';clear hb');go_ret;exact ⟨_,rfl,.inl ⟨k,hlt,Hq.out,hn.out,rfl⟩,hb.out.trans (kR.out.mono hb.out.size)⟩
   | false =>
    rw [hq] at hcall;have Hq:=af hq;clear hq;go_wp2_with (go_at_fn g;refine hcall.out.mono ?_;rintro e w' ⟨rfl,hb'⟩;have kR:=af hb';clear hb');go_roundw
    case rel =>
     refine ⟨k+1,by go_num,by omega,?_,hb.out.trans (kR.out.mono hb.out.size)⟩;show ∀ j,j<k+1→p j=false;intro j hj
     by_cases e:j=k
     ·subst e;exact Hq.out
     exact hn.out j (by omega)
    case measure=>simp [intOf];omega
  have:k=l.length:=by omega
  subst this;go_wp2_with fail;go_ret;exact ⟨_,rfl,.inr ⟨hn.out,rfl⟩,hb.out⟩
theorem qF (g:Nat) (lb:Array Value) (p:Nat→Bool) (l:List Int) (v:Value) (w:World) (h:RI w v l) (hp:uF g lb l.length (fun k=>.int .i64 (l.getD k 0)) p w) :
  Calls Tryz.prog 154 #[v,.func (.func g) #[] lb] w fun e w'=>e=.returned (.bool ((List.range l.length).any p))∧Below w.heap.size w w':=by
 have Hc:=af (D9 g lb p l v w h hp);clear h hp;go_enter Tryz.func154,Tryz.ntmps154;go_wp2_with (go_at_call 204;refine Hc.out.mono ?_;rintro e w' ⟨r,rfl,hf,hb'⟩;have kR:=af hb';have Hf:=af hf;clear hb' hf);go_ret;exact ⟨ak Hf.out.any,kR.out⟩
theorem uA (x:Int) (w:World):Calls Tryz.prog 158 #[.int .i64 x] w fun e w'=>e=.returned (.int .i64 (Kx.needs x))∧w=w':=by
 by_cases h3:x=3
 ·subst h3;go_enter Tryz.func158,Tryz.ntmps158;go_wp2_with fail;go_ret;exact ⟨rfl,rfl⟩
 have hb3:(x==3)=false:=by simpa using h3
 by_cases h2:x=2
 ·subst h2;go_enter Tryz.func158,Tryz.ntmps158;go_wp2_with fail;go_ret;exact ⟨rfl,rfl⟩
 have hb2:(x==2)=false:=by simpa using h2
 have H:=af (show Kx.needs x=0 by simp [Kx.needs,Kx.aX,h2,h3]);clear h2 h3;go_enter Tryz.func158,Tryz.ntmps158;go_wp2_with fail;go_ret;exact ⟨aZ H.out.symm,rfl⟩
end Go.Proofs.YtliebkfligagnaaGreatDoor
