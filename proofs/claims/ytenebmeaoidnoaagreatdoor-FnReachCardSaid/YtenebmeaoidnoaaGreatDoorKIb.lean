/- KI5, KI6, KI7, joined. -/
import Derived.Test.YtenebmeaoidnoaaGreatDoorKIa
import Derived.Test.YtenebmeaoidnoaaGreatDoorShelf
import Derived.Test.YtenebmeaoidnoaaGreatDoorKY
namespace Go.Proofs.YtenebmeaoidnoaaGreatDoor
open Go.RowKit
theorem dropWhile_nil {α:Type} (p:α→Bool):∀ l:List α,l.dropWhile p=[]↔∀ x ∈ l,p x=true
  | []=>by simp
  | a :: l=>by
    cases h:p a with
    | true=>rw [List.dropWhile_cons_of_pos h,dropWhile_nil p l];simp [h]
    | false=>rw [List.dropWhile_cons_of_neg (by simp [h])];simp [h]
theorem trimS_nil (l cs:List UInt8):Lib.trimS l cs=[]↔∀ b ∈ l,cs.contains b=true:=by
  unfold Lib.trimS Lib.trimLeftS;rw [dropWhile_nil];constructor
  · intro h b hb;have hn:l.reverse.dropWhile (cs.contains ·)=[]:=by
      cases hd:l.reverse.dropWhile (cs.contains ·) with
      | nil=>rfl
      | cons x t =>
        have h1:=List.head_dropWhile_not (cs.contains ·) (l:=l.reverse) (by rw [hd];simp);simp only [hd,List.head_cons] at h1;have h2:=h x (by unfold Lib.trimRightS;rw [hd];simp);rw [h1] at h2;cases h2
    exact (dropWhile_nil _ _).1 hn b (by simpa using hb)
  · intro h x hx;unfold Lib.trimRightS at hx;have:=(List.dropWhile_sublist (cs.contains ·)).mem (List.mem_reverse.1 hx);exact h x (List.mem_reverse.1 this)
theorem abc_letter (b:UInt8):([97,98,99]:List UInt8).contains b=letter b:=by
  rw [Bool.eq_iff_iff,letter_iff];simp only [List.contains_iff_mem,List.mem_cons,List.not_mem_nil,or_false,←UInt8.toNat_inj,show (97:UInt8).toNat=97 from rfl,show (98:UInt8).toNat=98 from rfl,show (99:UInt8).toNat=99 from rfl];omega
theorem trim_rightOk (s:Kx.Str) (h4:s.size≤4):(Lib.trimS s.data.toList [97,98,99]=[])↔Kx.rightOk s=true:=by
  rw [trimS_nil,rightOk_eq,Bool.and_eq_true,List.all_eq_true];simp only [abc_letter];exact ⟨fun h=>⟨h,by simpa using h4⟩,fun h=>h.1⟩
set_option maxHeartbeats 1000000 in
theorem implRightValid_c (s:Kx.Str) (w:World) (hs:s.size≤9223372036854775807):Calls Tryz.prog 53 #[.string s] w fun e w'=>e=.returned (.bool (Kx.rightOk s))∧Below w.heap.size w w':=by
  by_cases h4:s.size≤4
  · have hcon:=Any.strings_Trim_laid lays160 (by kernel_rfl) s ⟨#[97,98,99]⟩ w hs (by decide) (ascii_of_all (by decide));change Calls Tryz.prog 95 _ _ (fun e w'=>e=.returned (.string ⟨(Lib.trimS s.data.toList [97,98,99]).toArray⟩)∧Below w.heap.size w w') at hcon
    have ht:=trim_rightOk s h4;have h4b:decide ((s.size:Int)≤4)=true:=by simp;omega
    cases hr:Kx.rightOk s with
    | true =>
      rw [ht.2 hr] at hcon;have Hc:=hI_ hcon;clear hcon ht h4 hr;go_enter Tryz.func53,Tryz.ntmps53;go_wp2_with (go_at_call 95;refine Hc.out.mono ?_;rintro e w' ⟨rfl,hb'⟩;have Hb':=hI_ hb';clear hb');go_ret;exact ⟨by rfl,Hb'.out⟩
    | false =>
      have hne:Lib.trimS s.data.toList [97,98,99]≠[]:=fun e=>by have:=ht.1 e;rw [hr] at this;cases this
      have hne2:¬ ByteArray.toList ⟨(Lib.trimS s.data.toList [97,98,99]).toArray⟩=[]:=by rw [toList_data];exact hne
      generalize (⟨(Lib.trimS s.data.toList [97,98,99]).toArray⟩:ByteArray)=r at hcon hne2;have Hc:=hI_ hcon;clear hcon ht h4 hr hne;go_enter Tryz.func53,Tryz.ntmps53;go_wp2_with (go_at_call 95;refine Hc.out.mono ?_;rintro e w' ⟨rfl,hb'⟩;have Hb':=hI_ hb';clear hb');go_ret;exact ⟨by simp [hne2],Hb'.out⟩
  · have HF:=hI_ (show Kx.rightOk s=false by rw [rightOk_eq,Bool.and_eq_false_iff];right;simpa using h4);have h4b:decide ((s.size:Int)≤4)=false:=by simp;omega
    clear h4;go_enter Tryz.func53,Tryz.ntmps53;go_wp2_with fail;go_ret;exact ⟨ret_bool HF.out.symm,Below.refl _ _⟩
set_option maxHeartbeats 1000000 in
theorem HasPrefix_c (a b:Kx.Str) (w:World):Calls Tryz.prog 98 #[.string b,.string a] w fun e w'=>e=.returned (.bool (Kx.pre a b))∧w=w':=by
  by_cases h:a.size≤b.size
  · have H:=hI_ (pre_extract (a:=a) (b:=b));go_enter Tryz.func98,Tryz.ntmps98;go_wp2_with go_in;go_ret;exact ⟨ret_bool H.out,rfl⟩
  · have H:=hI_ (pre_long h);go_enter Tryz.func98,Tryz.ntmps98;go_wp2_with go_in;go_ret;exact ⟨ret_bool H.out.symm,rfl⟩
set_option maxHeartbeats 1000000 in
theorem may1_c (s g:Kx.Str) (b1:Nat) (w:World) (h1:w.cell? ⟨b1,0,none⟩=some (.string g)) :
    Calls Tryz.prog 97 #[.string s,.pointer (some ⟨b1,0,none⟩)] w fun en w'=>en=.returned (.bool (Kx.pre s g))∧Below w.heap.size w w':=by
  go_enter Tryz.func97,Tryz.ntmps97;go_wp2_with fail;refine (HasPrefix_c _ _ _).mono ?_;rintro e w' ⟨rfl,rfl⟩;go_wp2_with fail;go_ret;exact ⟨rfl,Below.refl _ _⟩
theorem may_any (l:List Kx.Str) (g:Kx.Str):((List.range l.length).any fun k=>Kx.pre (l.getD k ByteArray.empty) g)=Kx.may l g:=by
  unfold Kx.may;rw [Bool.eq_iff_iff,List.any_eq_true,List.any_eq_true];constructor
  · rintro ⟨k,hk,hq⟩;have hk:k<l.length:=by simpa using hk
    exact ⟨l[k],List.getElem_mem hk,by simpa [hk] using hq⟩
  · rintro ⟨x,hx,hq⟩;obtain ⟨k,hk,rfl⟩:=List.getElem_of_mem hx;exact ⟨k,by simpa using hk,by simpa [hk] using hq⟩
set_option maxHeartbeats 1000000 in
theorem implMay_c (l:List Kx.Str) (g:Kx.Str) (v:Value) (w:World) (h:RStr w v l) :
    Calls Tryz.prog 54 #[v,.string g] w fun e w'=>e=.returned (.bool (Kx.may l g))∧Below w.heap.size w w':=by
  obtain ⟨w1,hw1⟩:∃ w1,w.alloc (.cells #[.string g] 9)=w1:=⟨_,rfl⟩;have B1:=hI_ (show Below w.heap.size w w1 from hw1 ▸ bL_);have hc1:w1.cell? ⟨w.heap.size,0,none⟩=some (.string g)∧w.heap.size<w1.heap.size:=by
    subst hw1;have h:(w.alloc (.cells #[.string g] 9)).heap[w.heap.size]?=some (.cells #[.string g] 9 (0,0)):=heap_alloc_new w _;exact ⟨cell_of_row _ _ 0 _ _ _ h,by simp⟩
  have hc:=ContainsStr_c 97 #[.pointer (some ⟨w.heap.size,0,none⟩)] (fun k=>Kx.pre (l.getD k ByteArray.empty) g) l v w1 (RS.below h B1.out)
    ⟨Proofs.enters_of Tryz.func97 (by kernel_rfl) rfl,fun k W hk hb=>may1_c _ g _ W ((hb.cell (p:=⟨w.heap.size,0,none⟩) hc1.2).trans hc1.1)⟩
  rw [may_any] at hc;have HC:=hI_ hc;obtain ⟨a,cap,rfl,_,_⟩:=RS.val h;clear hc hc1 h;go_enter Tryz.func54,Tryz.ntmps54;go_wp2_with (go_at_call 96;refine HC.out.mono ?_;rintro en w' ⟨rfl,hb'⟩;have Hb':=hI_ hb';clear hb');go_ret;exact ⟨rfl,B1.out.trans (Hb'.out.mono B1.out.size)⟩
theorem zero_iff (x:Kx.Info) (h0:x.kind=0):x=Kx.Info.zero↔x.guard.toList=[]∧x.refs=0:=by
  constructor
  · intro e;rw [e];exact ⟨by decide +kernel,rfl⟩
  · rintro ⟨e1,e2⟩;have:x.guard=ByteArray.empty:=Kx.toList_inj (by rw [e1];decide +kernel)
    cases x;simp_all [Kx.Info.zero]
set_option maxHeartbeats 1000000 in
theorem implInfoOk_c (x:Kx.Info) (w:World) (hs:x.guard.size≤9223372036854775807):Calls Tryz.prog 74 #[infoV x] w fun e w'=>e=.returned (.bool (Kx.infoOk x))∧Below w.heap.size w w':=by
  obtain ⟨w0,hw0⟩:∃ w0,w.alloc (.cells #[.int .i64 x.kind,.string x.guard,.int .i64 x.refs] 45)=w0:=⟨_,rfl⟩;have hb:=hI_ (show Below w.heap.size w w0 from hw0 ▸ bR_.alloc nR_ _);have hlt:=hI_ (show w.heap.size<w0.heap.size by subst hw0;simp);obtain ⟨c0,c1,c2⟩:=(show w0.cell? ⟨w.heap.size,0,none⟩=some (.int .i64 x.kind)∧w0.cell? ⟨w.heap.size,1,none⟩=some (.string x.guard)∧w0.cell? ⟨w.heap.size,2,none⟩=some (.int .i64 x.refs) from hw0 ▸ Box3.new w _ _ _ _);unfold infoV
  by_cases h0:x.kind=0
  · have hk:(x.kind==0)=true:=by simpa using h0
    have hv:=hI_ (show Kx.infoOk x=decide (x=Kx.Info.zero) by unfold Kx.infoOk;rw [if_pos h0];rfl);have hz:=hI_ (zero_iff x h0);have hi:=hI_ (show Kx.inR x.kind 1 3=false by rw [h0];rfl);clear h0
    by_cases hg:x.guard.toList=[]
    · by_cases hr:x.refs=0
      · have hF:=hI_ (show Kx.infoOk x=true by rw [hv.out,decide_eq_true_eq,hz.out];exact ⟨hg,hr⟩);have hrb:(x.refs==0)=true:=by simpa using hr
        clear hr;go_enter Tryz.func74,Tryz.ntmps74;go_wp2_with fail;go_ret;exact ⟨ret_bool hF.out.symm,hb.out⟩
      · have hF:=hI_ (show Kx.infoOk x=false by rw [hv.out,decide_eq_false_iff_not,hz.out];exact fun h=>hr h.2);have hrb:(x.refs==0)=false:=by simpa using hr
        clear hr;go_enter Tryz.func74,Tryz.ntmps74;go_wp2_with (go_at_call 78;refine (withinK_c _ _ _ _).mono ?_;rintro e w' ⟨rfl,rfl⟩;rw [hi.out]);go_ret;exact ⟨ret_bool hF.out.symm,hb.out⟩
    · have hF:=hI_ (show Kx.infoOk x=false by rw [hv.out,decide_eq_false_iff_not,hz.out];exact fun h=>hg h.1);go_enter Tryz.func74,Tryz.ntmps74;go_wp2_with (go_at_call 78;refine (withinK_c _ _ _ _).mono ?_;rintro e w' ⟨rfl,rfl⟩;rw [hi.out]);go_ret;exact ⟨ret_bool hF.out.symm,hb.out⟩
  · have hk:(x.kind==0)=false:=by simpa using h0
    have hv:=hI_ (show Kx.infoOk x=(Kx.inR x.kind 1 3&&Kx.rightOk x.guard&&Kx.inR x.refs 0 50) by unfold Kx.infoOk;rw [if_neg h0]);clear h0;go_enter Tryz.func74,Tryz.ntmps74;go_wp2_with fail;refine (withinK_c _ _ _ _).mono ?_;rintro e w' ⟨rfl,rfl⟩
    cases h1:Kx.inR x.kind 1 3
    · rw [h1] at hv;clear h1;go_wp2_with fail;go_ret;exact ⟨ret_bool (by rw [hv.out];rfl),hb.out⟩
    · rw [h1] at hv;clear h1;go_wp2_with fail;refine (implRightValid_c _ _ hs).mono ?_;rintro e w' ⟨rfl,hb'⟩;have Hb':=hI_ hb';have k2:w'.cell? ⟨w.heap.size,2,none⟩=some (.int .i64 x.refs):=(hb'.cell (p:=⟨w.heap.size,2,none⟩) hlt.out).trans c2;clear hb'
      cases h1:Kx.rightOk x.guard
      · rw [h1] at hv;clear h1;go_wp2_with fail;go_ret;exact ⟨ret_bool (by rw [hv.out];rfl),hb.out.trans (Hb'.out.mono hb.out.size)⟩
      · rw [h1] at hv;clear h1;go_wp2_with fail;refine (withinK_c _ _ _ _).mono ?_;rintro e w' ⟨rfl,rfl⟩;go_wp2_with fail;go_ret;exact ⟨ret_bool (by rw [hv.out];rfl),hb.out.trans (Hb'.out.mono hb.out.size)⟩
set_option maxHeartbeats 1000000 in
theorem InfosValid1_c (x:Kx.Info) (w:World) (hs:x.guard.size≤9223372036854775807):Calls Tryz.prog 73 #[infoV x] w fun e w'=>e=.returned (.bool (!Kx.infoOk x))∧Below w.heap.size w w':=by
  obtain ⟨w0,hw0⟩:∃ w0,w.alloc (.cells #[.int .i64 x.kind,.string x.guard,.int .i64 x.refs] 45)=w0:=⟨_,rfl⟩;have hb:=hI_ (show Below w.heap.size w w0 from hw0 ▸ bR_.alloc nR_ _);obtain ⟨c0,c1,c2⟩:=(show w0.cell? ⟨w.heap.size,0,none⟩=some (.int .i64 x.kind)∧w0.cell? ⟨w.heap.size,1,none⟩=some (.string x.guard)∧w0.cell? ⟨w.heap.size,2,none⟩=some (.int .i64 x.refs) from hw0 ▸ Box3.new w _ _ _ _);have HC:=hI_ (implInfoOk_c x w0 hs);unfold infoV at *;go_enter Tryz.func73,Tryz.ntmps73;go_wp2_with (go_at_call 74;refine HC.out.mono ?_;rintro e w' ⟨rfl,hb'⟩;have Hb':=hI_ hb';clear hb');go_ret;exact ⟨rfl,hb.out.trans (Hb'.out.mono hb.out.size)⟩
theorem inf_any (l:List Kx.Info):((List.range l.length).any fun k=>!Kx.infoOk (Kx.inf l k))=!(l.all Kx.infoOk):=by
  rw [Bool.eq_iff_iff,List.any_eq_true,Bool.not_eq_true',List.all_eq_false];constructor
  · rintro ⟨k,hk,hq⟩;have hk:k<l.length:=by simpa using hk
    exact ⟨l[k],List.getElem_mem hk,by simpa [Kx.inf,hk] using hq⟩
  · rintro ⟨x,hx,hq⟩;obtain ⟨k,hk,rfl⟩:=List.getElem_of_mem hx;exact ⟨k,by simpa using hk,by simpa [Kx.inf,hk] using hq⟩
set_option maxHeartbeats 1000000 in
theorem implInfosValid_c (l:List Kx.Info) (v:Value) (w:World) (h:RInfo w v l) (hs:SaneI l) :
    Calls Tryz.prog 34 #[v] w fun e w'=>e=.returned (.bool (Kx.infosOk l))∧Below w.heap.size w w':=by
  have hc:=ContainsInfo_c 73 #[] (fun k=>!Kx.infoOk (Kx.inf l k)) l v w h
    ⟨Proofs.enters_of Tryz.func73 (by kernel_rfl) rfl,fun k W hk hb=>InfosValid1_c _ W (hs _ (by rw [show Kx.inf l k=l[k] from by simp [Kx.inf,hk]];exact List.getElem_mem hk))⟩
  rw [inf_any] at hc;obtain ⟨a,cap,rfl,_,_⟩:=RS.val h;have Hc:=hI_ hc;have HM:=hI_ (show Kx.infosOk l=(l.all Kx.infoOk&&l.length==12) from rfl);clear hc h;generalize l.all Kx.infoOk=t at Hc HM
  by_cases h12:l.length=12
  · have hb:((l.length:Int)==12)=true:=by simp;omega
    have H12:=hI_ h12;clear h12;go_enter Tryz.func34,Tryz.ntmps34;go_wp2_with (go_at_call 72;refine Hc.out.mono ?_;rintro e w' ⟨rfl,hb'⟩;have Hb':=hI_ hb';clear hb');go_ret;exact ⟨ret_bool (by rw [HM.out,H12.out];simp),Hb'.out⟩
  · have hb:((l.length:Int)==12)=false:=by simp;omega
    have H12:=hI_ h12;clear h12;go_enter Tryz.func34,Tryz.ntmps34;go_wp2_with fail;go_ret;exact ⟨ret_bool (by rw [HM.out];simp [H12.out]),Below.refl _ _⟩
set_option maxHeartbeats 1000000 in
theorem implRightsValid_c (l:List Kx.Str) (v:Value) (w:World) (h:RStr w v l) (hsz:∀ s ∈ l,s.size≤9223372036854775807) :
    Calls Tryz.prog 37 #[v] w fun e w'=>e=.returned (.bool (Kx.rightsOk l))∧Below w.heap.size w w':=by
  obtain ⟨a,cap,rfl,_,_⟩:=RS.val h;have hl:=h.1;have H:=hI_ h;clear h;have Hsz:=hI_ hsz;clear hsz;go_enter Tryz.func37,Tryz.ntmps37;go_wp2_with fail;go_loopw [7] (fun i wr=>∃ k:Nat,i=.int .i64 k∧k≤l.length∧Hid (∀ j (hj:j<l.length),j<k→Kx.rightOk l[j]=true)∧Hid (∀ j (hj:j+1<l.length),j+1<k→Kx.lt l[j] l[j+1]=true)∧Hid (Below w.heap.size w wr)) (fun i _=>l.length - (intOf i).toNat)
  case atStart=>exact ⟨0,rfl,Nat.zero_le _,fun j _ hj=>absurd hj (Nat.not_lt_zero _),fun j _ hj=>absurd hj (Nat.not_lt_zero _),Below.refl _ _⟩
  case round =>
    obtain ⟨k,rfl,hk,hall,hasc,hb⟩:=hrel;have Hr:=hI_ (RS.below H.out hb.out)
    by_cases hlt:k<l.length
    · obtain ⟨b,off,cap',e,hbl,hc⟩:=RStr.at Hr.out hlt;have hprev:∀ (W:World) (hB:Below wr.heap.size wr W) (hk0:0<k),W.cell? ⟨b,off+(k - 1),none⟩=some (.string (l[k - 1]'(by omega))):=fun W hB hk0=>by
        obtain ⟨b',off',cap'',e',_,hc'⟩:=RStr.at Hr.out (k:=k - 1) (by omega);rw [e] at e';simp only [Value.slice.injEq,Option.some.injEq,Addr.mk.injEq] at e';obtain ⟨⟨rfl,rfl,_⟩,_⟩:=e';exact (hB.cell (p:=⟨b,off+(k - 1),none⟩) hbl).trans hc'
      have Hprev:=hI_ hprev;clear hprev;simp only [Value.slice.injEq] at e;obtain ⟨rfl,_,rfl⟩:=e;have hlI:(k:Int)<(l.length:Int):=by omega
      have Hrv:=hI_ (implRightValid_c l[k] wr (Hsz.out _ (List.getElem_mem hlt)))
      cases hq:Kx.rightOk l[k] with
      | false =>
        have HF:=hI_ (show Kx.rightsOk l=false by
          unfold Kx.rightsOk;rw [Bool.and_eq_false_iff,Bool.and_eq_false_iff,List.all_eq_false];exact .inl (.inl ⟨_,List.getElem_mem hlt,by rw [hq];simp⟩))
        rw [hq] at Hrv;clear hq;generalize l[k]=s at hc Hrv;go_wp2_with (go_at_call 53;refine Hrv.out.mono ?_;rintro e w2 ⟨rfl,hb2⟩;have Hb2:=hI_ hb2;clear hb2);go_ret;exact ⟨ret_bool HF.out.symm,hb.out.trans (Hb2.out.mono hb.out.size)⟩
      | true =>
        have Hk:=hI_ hq;rw [hq] at Hrv;clear hq
        by_cases hk0:k=0
        · have hg:decide (0<k)=false:=by simp;omega
          have Hk0:=hI_ hk0;clear hk0;generalize l[k]=s at hc Hrv;go_wp2_with (go_at_call 53;refine Hrv.out.mono ?_;rintro e w2 ⟨rfl,hb2⟩;have Hb2:=hI_ hb2;clear hb2);go_roundw
          case rel =>
            refine ⟨k+1,by go_num,by omega,?_,?_,hb.out.trans (Hb2.out.mono hb.out.size)⟩
            · show ∀ j (hj:j<l.length),j<k+1→_
              intro j hj hjk;have:=Hk0.out;obtain rfl:j=k:=by omega
              exact Hk.out
            · show ∀ j (hj:j+1<l.length),j+1<k+1→_
              intro j hj hjk;have:=Hk0.out;omega
          case measure=>simp [intOf];omega
        · have hg:decide (0<k)=true:=by simp;omega
          have Hp:=hI_ (fun W hB=>Hprev.out W hB (by omega))
          have eI:IntKind.i64.wrap ((k:Int) - 1)=((k - 1:Nat):Int):=by rw [IntWalk.i64_in _ (by omega)];omega
          have eJ:(k:Int) - 1=((k - 1:Nat):Int):=by omega
          have hk1:((k - 1:Nat):Int)<(l.length:Int):=by omega
          have hltk:k - 1+1<l.length:=by omega
          have ek:k - 1+1=k:=by omega
          cases hq2:Kx.lt (l[k - 1]'(by omega)) l[k] with
          | false =>
            have HF:=hI_ (show Kx.rightsOk l=false by
              unfold Kx.rightsOk;rw [Bool.and_eq_false_iff,Bool.and_eq_false_iff];exact .inl (.inr (ascends_bad l (k - 1) hltk (by simp only [ek];exact hq2))))
            unfold Kx.lt at hq2;generalize l[k - 1]'(by omega)=s' at Hp hq2;generalize l[k]=s at hc Hrv hq2;clear ek hltk;go_wp2_with (go_at_call 53;refine Hrv.out.mono ?_;rintro e w2 ⟨rfl,hb2⟩;have Hb2:=hI_ hb2;have hp2:=Hp.out w2 hb2;clear hb2);go_ret;exact ⟨ret_bool HF.out.symm,hb.out.trans (Hb2.out.mono hb.out.size)⟩
          | true =>
            have Hk2:=hI_ hq2;unfold Kx.lt at hq2;generalize l[k - 1]'(by omega)=s' at Hp hq2;generalize l[k]=s at hc Hrv hq2;have Hek:=hI_ ek;clear ek;go_wp2_with (go_at_call 53;refine Hrv.out.mono ?_;rintro e w2 ⟨rfl,hb2⟩;have Hb2:=hI_ hb2;have hp2:=Hp.out w2 hb2;clear hb2);go_roundw
            case rel =>
              refine ⟨k+1,by go_num,by omega,?_,?_,hb.out.trans (Hb2.out.mono hb.out.size)⟩
              · show ∀ j (hj:j<l.length),j<k+1→_
                intro j hj hjk
                by_cases e:j=k
                · subst e;exact Hk.out
                · exact hall.out j hj (by omega)
              · show ∀ j (hj:j+1<l.length),j+1<k+1→_
                intro j hj hjk
                by_cases e:j=k - 1
                · subst e;have e2:=Hek.out;simp only [e2];exact Hk2.out
                · exact hasc.out j hj (by omega)
            case measure=>simp [intOf];omega
    · have HT:=hI_ (show Kx.rightsOk l=decide (l.length≤6) by
        unfold Kx.rightsOk;have h1:l.all Kx.rightOk=true:=by
          rw [List.all_eq_true];intro s hs;obtain ⟨j,hj,rfl⟩:=List.getElem_of_mem hs;exact hall.out j hj (by omega)
        rw [h1,ascends_step l k hasc.out (by omega)];simp)
      go_wp2_with fail;go_ret;refine ⟨ret_bool ?_,hb.out⟩;rw [HT.out];exact Bool.eq_iff_iff.2 (by simp;omega)
set_option maxHeartbeats 1000000 in
theorem AddressCut_c (ad q r s:Nat) (w:World) (ha:ad<64) (hq:ad / 16=q) (hr:ad / 4 % 4=r) (hs:ad % 4=s) :
    Calls Tryz.prog 84 #[.int .i64 ad] w fun e w'=>e=.returned (.tuple #[.int .i64 q,.int .i64 r,.int .i64 s,.bool true])∧w=w':=by
  have Hv:=hI_ (show Kx.inR (ad:Int) 0 63=true by rw [Kx.inR_true];omega);have eq:(ad:Int) / 16=(q:Int):=by omega
  have er:(ad:Int) / 4 % 4=(r:Int):=by omega
  have es:(ad:Int) % 4=(s:Int):=by omega
  have haI:(ad:Int)<64:=by omega
  clear hq hr hs;go_enter Tryz.func84,Tryz.ntmps84;go_wp2_with (go_at_call 51;refine (isAddress_c _ _).mono ?_;rintro e w' ⟨rfl,rfl⟩;rw [Hv.out]);refine bodyPost_ret (v:=.tuple #[.int .i64 q,.int .i64 r,.int .i64 s,.bool true]) (by simp [results,Tryz.results84,go_sem,er,es]) rfl ⟨rfl,rfl⟩
set_option maxHeartbeats 1000000 in
theorem implWalk_c (m:List (List Int)) (root ad:Nat) (v:Value) (w:World) (h:RM w v m) (hm:Kx.memOk m=true) (hr:root<12) (ha:ad<64) :
    Calls Tryz.prog 43 #[v,.int .i64 root,.int .i64 ad] w fun e w'=>e=.returned (walkV (Kx.walk m root ad))∧Below w.heap.size w w':=by
  obtain ⟨q,hq⟩:∃ q,ad / 16=q:=⟨_,rfl⟩;obtain ⟨r,hr'⟩:∃ r,ad / 4 % 4=r:=⟨_,rfl⟩;obtain ⟨s,hs⟩:∃ s,ad % 4=s:=⟨_,rfl⟩;have hal:=(Below.refl w.heap.size w).alloc nR_ (.cells #[.int .i64 0,.int .i64 0,.bool false] 35);have hb3:Hid (∀ c,Below w.heap.size w (w.alloc (.cells c 35))):=fun c=>(Below.refl w.heap.size w).alloc nR_ _
  obtain ⟨b,off,cap,b',off',cap',rfl,h1,h2,h3,h4⟩:=(h.below hal).word hm hr (a:=q) (by omega);have hq4:(q:Int)<4:=by omega
  have hr4:(r:Int)<4:=by omega
  have hrI:(root:Int)<12:=by omega
  have Ha:=hI_ (fun w=>AddressCut_c ad q r s w ha hq hr' hs)
  cases he:Kx.entry (Kx.word m root q) with
  | none =>
    have hw:Kx.walk m root ad=((0,0,false),1):=by unfold Kx.walk;rw [hq,he]
    have He:=hI_ he;have Hw:=hI_ hw;clear he hw hq hr' hs h hal;generalize Kx.word m root q=x at h2 h3 h4 He;go_enter Tryz.func43,Tryz.ntmps43;go_wp2_with fail;refine (Ha.out _).mono ?_;rintro e w' ⟨rfl,rfl⟩;go_wp2_with fail;refine (implEntryGet_c _ _ (by omega)).mono ?_;rintro e w' ⟨rfl,rfl⟩;rw [EgN He.out];go_wp2_with fail;refine bodyPost_ret (v:=.tuple #[.agg #[.int .i64 0,.int .i64 0,.bool false],.int .i64 1]) (by simp [results,Tryz.results43,go_sem]) rfl ⟨?_,hb3.out _⟩;rw [Hw.out];rfl
  | some p =>
    obtain ⟨t,a⟩:=p;have ht:=Kx.entry_lt he;obtain ⟨b1,off1,cap1,b2,off2,cap2,e1,g1,g2,g3,g4⟩:=(h.below hal).word hm ht (a:=r) (by omega);simp only [Value.slice.injEq,Option.some.injEq,Addr.mk.injEq] at e1;obtain ⟨⟨rfl,rfl,_⟩,_,rfl⟩:=e1;have htI:(t:Int)<12:=by omega
    cases he2:Kx.entry (Kx.word m t r) with
    | none =>
      have hw:Kx.walk m root ad=((0,0,false),2):=by unfold Kx.walk;rw [hq,he];simp only [hr',he2]
      have He:=hI_ he;have Hw:=hI_ hw;have He2:=hI_ he2;clear he hw he2 hq hr' hs h hal;generalize Kx.word m root q=x at h2 h3 h4 He;generalize Kx.word m t r=y at g2 g3 g4 He2;go_enter Tryz.func43,Tryz.ntmps43;go_wp2_with fail;refine (Ha.out _).mono ?_;rintro e w' ⟨rfl,rfl⟩;go_wp2_with fail;refine (implEntryGet_c _ _ (by omega)).mono ?_;rintro e w' ⟨rfl,rfl⟩;rw [EgS He.out];go_wp2_with fail;refine (implEntryGet_c _ _ (by omega)).mono ?_;rintro e w' ⟨rfl,rfl⟩;rw [EgN He2.out];go_wp2_with fail;refine bodyPost_ret (v:=.tuple #[.agg #[.int .i64 0,.int .i64 0,.bool false],.int .i64 2]) (by simp [results,Tryz.results43,go_sem]) rfl ⟨?_,hb3.out _⟩;rw [Hw.out];rfl
    | some p =>
      obtain ⟨f,c⟩:=p;have hw:Kx.walk m root ad=(((f:Int),((s:Nat):Int),a&&c),0):=by unfold Kx.walk;rw [hq,he,←hs];simp only [hr',he2]
      have He:=hI_ he;have Hw:=hI_ hw;have He2:=hI_ he2;clear he hw he2 hq hr' hs h hal;generalize Kx.word m root q=x at h2 h3 h4 He;generalize Kx.word m t r=y at g2 g3 g4 He2;go_enter Tryz.func43,Tryz.ntmps43;go_wp2_with fail;refine (Ha.out _).mono ?_;rintro e w' ⟨rfl,rfl⟩;go_wp2_with fail;refine (implEntryGet_c _ _ (by omega)).mono ?_;rintro e w' ⟨rfl,rfl⟩;rw [EgS He.out];go_wp2_with fail;refine (implEntryGet_c _ _ (by omega)).mono ?_;rintro e w' ⟨rfl,rfl⟩;rw [EgS He2.out]
      cases a
      · go_wp2_with fail;refine bodyPost_ret (v:=.tuple #[.agg #[.int .i64 f,.int .i64 s,.bool false],.int .i64 0]) (by simp [results,Tryz.results43,go_sem]) rfl ⟨?_,hb3.out _⟩;rw [Hw.out];simp [walkV]
      · go_wp2_with fail;refine bodyPost_ret (v:=.tuple #[.agg #[.int .i64 f,.int .i64 s,.bool c],.int .i64 0]) (by simp [results,Tryz.results43,go_sem]) rfl ⟨?_,hb3.out _⟩;rw [Hw.out];simp [walkV]
set_option maxHeartbeats 400000 in
theorem IndexIntK_c (g:Nat) (lb:Array Value) (p:Nat→Bool) (l:List Int) (v:Value) (w:World) (h:RI w v l) (hp:PredK g lb l.length (fun k=>.int .i64 (l.getD k 0)) p w) :
    Calls Tryz.prog 121 #[v,.func (.func g) #[] lb] w (FoundAt l.length p w):=by
  obtain ⟨a,cap,rfl⟩:=h.val;obtain ⟨eg,hg⟩:=hp;have hl:=h.1;have H:=hI_ h;clear h;have Hg:=hI_ hg;clear hg;go_enter Tryz.func121,Tryz.ntmps121;go_wp2_with fail;go_loopw [8] (fun i wr=>∃ k:Nat,i=.int .i64 k∧k≤l.length∧Hid (∀ j,j<k→p j=false)∧Hid (Below w.heap.size w wr)) (fun i _=>l.length - (intOf i).toNat)
  case atStart=>exact ⟨0,rfl,Nat.zero_le _,fun j hj=>absurd hj (Nat.not_lt_zero _),Below.refl _ _⟩
  case round =>
    obtain ⟨k,rfl,hk,hn,hb⟩:=hrel
    by_cases hlt:k<l.length
    · obtain ⟨b,off,cap1,e,_,h1⟩:=(H.out.below hb.out).at hlt;simp only [Value.slice.injEq] at e;obtain ⟨rfl,_,rfl⟩:=e;have hlI:(k:Int)<(l.length:Int):=by omega
      have hcall:=hI_ (Hg.out k wr hlt hb.out);rw [show l.getD k 0=l[k] from by simp [hlt]] at hcall;generalize l[k]=x at h1 hcall
      cases hq:p k with
      | true =>
        rw [hq] at hcall;have Hq:=hI_ hq;clear hq;go_wp2_with (go_at_fn g;refine hcall.out.mono ?_;rintro e w' ⟨rfl,hb'⟩;have Hb':=hI_ hb';clear hb');go_ret;exact ⟨_,rfl,.inl ⟨k,hlt,Hq.out,hn.out,rfl⟩,hb.out.trans (Hb'.out.mono hb.out.size)⟩
      | false =>
        rw [hq] at hcall;have Hq:=hI_ hq;clear hq;go_wp2_with (go_at_fn g;refine hcall.out.mono ?_;rintro e w' ⟨rfl,hb'⟩;have Hb':=hI_ hb';clear hb');go_roundw
        case rel =>
          refine ⟨k+1,by go_num,by omega,?_,hb.out.trans (Hb'.out.mono hb.out.size)⟩;show ∀ j,j<k+1→p j=false;intro j hj
          by_cases e:j=k
          · subst e;exact Hq.out
          · exact hn.out j (by omega)
        case measure=>simp [intOf];omega
    · have:k=l.length:=by omega
      subst this;go_wp2_with fail;go_ret;exact ⟨_,rfl,.inr ⟨hn.out,rfl⟩,hb.out⟩
theorem ContainsIntK_c (g:Nat) (lb:Array Value) (p:Nat→Bool) (l:List Int) (v:Value) (w:World) (h:RI w v l) (hp:PredK g lb l.length (fun k=>.int .i64 (l.getD k 0)) p w) :
    Calls Tryz.prog 79 #[v,.func (.func g) #[] lb] w fun e w'=>e=.returned (.bool ((List.range l.length).any p))∧Below w.heap.size w w':=by
  have Hc:=hI_ (IndexIntK_c g lb p l v w h hp);clear h hp;go_enter Tryz.func79,Tryz.ntmps79;go_wp2_with (go_at_call 121;refine Hc.out.mono ?_;rintro e w' ⟨r,rfl,hf,hb'⟩;have Hb':=hI_ hb';have Hf:=hI_ hf;clear hb' hf);go_ret;exact ⟨ret_bool Hf.out.any,Hb'.out⟩
theorem TableNeeds_c (x:Int) (w:World):Calls Tryz.prog 18 #[.int .i64 x] w fun e w'=>e=.returned (.int .i64 (Kx.needs x))∧w=w':=by
  by_cases h3:x=3
  · subst h3;go_enter Tryz.func18,Tryz.ntmps18;go_wp2_with fail;go_ret;exact ⟨rfl,rfl⟩
  · have hb3:(x==3)=false:=by simpa using h3
    by_cases h2:x=2
    · subst h2;go_enter Tryz.func18,Tryz.ntmps18;go_wp2_with fail;go_ret;exact ⟨rfl,rfl⟩
    · have hb2:(x==2)=false:=by simpa using h2
      have H:=hI_ (show Kx.needs x=0 by simp [Kx.needs,Kx.isTab,h2,h3]);clear h2 h3;go_enter Tryz.func18,Tryz.ntmps18;go_wp2_with fail;go_ret;exact ⟨ret_int H.out.symm,rfl⟩
end Go.Proofs.YtenebmeaoidnoaaGreatDoor
