/- KE, WalkE, WalkF, WalkX, joined. -/
import Derived.IntWalk
import Derived.Test.YthcmmoibpgcgaaaGreatDoorBase
set_option maxHeartbeats 2000000
set_option linter.all false
open Go.Value renaming slice->A0
open Go.Proofs.Tryz
namespace Go.Proofs.YthcmmoibpgcgaaaGreatDoor
open Go.RowKit
variable {w w':World}{p:Nat}
def aez (w:World) (e:Ending) (w':World):Prop:=e=.returned (.bool true)/\Below w.heap.size w w'
def RB (w:World) (v:Value) (n:Nat):Prop:=
 ∃ a cap,v=A0 a n cap/\n<=cap/\cap<=maxLen/\(n=0\/∃ b off,a=some ⟨b,off,none⟩/\b<w.heap.size/\∀ i,i<n->∃ x:Nat,x<=255/\w.cell? ⟨b,off+i,none⟩=some (.int .u8 x))
def RD (w:World) (rb:Nat) (p:Nat):Prop:=
 ∃ v n,w.heap[rb]?=some (.cells #[v,I_ p] 136 (0,0))/\n<=2000/\∃ a cap,v=A0 a n cap /\
  (n=0\/∃ b off,a=some ⟨b,off,none⟩/\b<rb/\∀ i,i<n->∃ x:Nat,x<=255/\w.cell? ⟨b,off+i,none⟩=some (.int .u8 x))
def Qq (rb:Nat) (p:Nat) (n:Int) (w:World) (e:Ending) (w':World):Prop:=
 ∃ x:Int,e=.returned (I_ x)/\0<=x/\x<n/\RD w' rb (p+1)/\w.grownBy w' (some rb)
theorem FT (x y:Int) (hx:0<=x) (hx2:x<4611686018427387904) (hy:0<=y) (hy2:y<4611686018427387904):0<=bits .xor .i64 x y/\bits .xor .i64 x y<4611686018427387904:=by
 obtain ⟨a,rfl⟩:=Int.eq_ofNat_of_zero_le hx;obtain ⟨b,rfl⟩:=Int.eq_ofNat_of_zero_le hy;have hab:a ^^^ b<2 ^ 62:=Nat.xor_lt_two_pow (by omega) (by omega);have h1:(BitVec.ofInt 64 (a:Int)).toNat=a:=by
  rw [BitVec.ofInt_natCast,BitVec.toNat_ofNat];exact Nat.mod_eq_of_lt (by omega)
 have h2:(BitVec.ofInt 64 (b:Int)).toNat=b:=by
  rw [BitVec.ofInt_natCast,BitVec.toNat_ofNat];exact Nat.mod_eq_of_lt (by omega)
 have e:bits .xor .i64 (a:Int) (b:Int)=((a ^^^ b:Nat):Int):=by
  show IntKind.i64.wrap ((BitVec.ofInt 64 (a:Int) ^^^ BitVec.ofInt 64 (b:Int)).toNat:Int)=_
  rw [BitVec.toNat_xor,h1,h2];generalize a ^^^ b=c at hab;simp [IntKind.wrap,IntKind.bits,IntKind.signed];omega
 rw [e];omega
theorem RD.step {rb:Nat} (h:RD w rb p):RD (w.setCell ⟨rb,1,none⟩ (I_ ((p:Int)+1))) rb (p+1)/\w.grownBy (w.setCell ⟨rb,1,none⟩ (I_ ((p:Int)+1))) (some rb):=by
 obtain ⟨v,n,hh,hn,a,cap,hv,hb⟩:=h;have ho:∀ k,k≠rb->(w.setCell ⟨rb,1,none⟩ (I_ ((p:Int)+1))).heap[k]?=w.heap[k]?:=fun k hk=>Below.heap_setCell _ _ _ _ hk
 refine ⟨⟨v,n,?_,hn,a,cap,hv,?_⟩,⟨rfl,rfl,rfl,by simp [World.setCell],fun k _ hk=>ho k (fun e=>hk (by rw [e]))⟩⟩
 ·simp [World.setCell,Array.getElem?_modify,hh]
 rcases hb with hb | ⟨b,off,ha,hlt,hc⟩
 ·exact .inl hb
 refine .inr ⟨b,off,ha,hlt,fun i hi=>?_⟩
 obtain ⟨x,hx,hcx⟩:=hc i hi;exact ⟨x,hx,(World.cell?_of_block (ho b (by omega))).trans hcx⟩
theorem zX {a:World} {r:Option Nat} (h:a.grownBy w r) (n:Nat):a.grownBy (w.drewN n) r:=⟨h.os,h.tape,h.output,h.size,h.block⟩
theorem RD.keep {rb:Nat} (h:RD w rb p) (hb:Below w.heap.size w w'):RD w' rb p:=by
 obtain ⟨v,n,hh,hn,a,cap,hv,hx⟩:=h;have hlt:rb<w.heap.size:=(Array.getElem?_eq_some_iff.1 hh).1;refine ⟨v,n,(hb.block rb hlt).trans hh,hn,a,cap,hv,?_⟩;rcases hx with hx | ⟨b,off,ha,hl,hc⟩
 ·exact .inl hx
 refine .inr ⟨b,off,ha,hl,fun i hi=>?_⟩
 obtain ⟨x,h1,h2⟩:=hc i hi;exact ⟨x,h1,(hb.cell (p:=⟨b,off+i,none⟩) (by show b < _;omega)).trans h2⟩
theorem RD.grown {rb:Nat} {r:Option Nat} (h:RD w rb p) (hg:w.grownBy w' r) (hr:∀ k,r=some k->rb<k):RD w' rb p:=by
 obtain ⟨v,n,hh,hn,a,cap,hv,hx⟩:=h;have hlt:rb<w.heap.size:=(Array.getElem?_eq_some_iff.1 hh).1;refine ⟨v,n,(hg.block rb hlt (fun e=>by have:=hr rb e.symm;omega)).trans hh,hn,a,cap,hv,?_⟩;rcases hx with hx | ⟨b,off,ha,hl,hc⟩
 ·exact .inl hx
 refine .inr ⟨b,off,ha,hl,fun i hi=>?_⟩
 obtain ⟨x,h1,h2⟩:=hc i hi;exact ⟨x,h1,(World.cell?_of_block (hg.block b (by omega) (fun e=>by have:=hr b e.symm;omega))).trans h2⟩
theorem RD.lt {rb:Nat} (h:RD w rb p):rb<w.heap.size:=by
 obtain ⟨v,n,hh,_⟩:=h;exact (Array.getElem?_eq_some_iff.1 hh).1
theorem RD.drewN {rb:Nat} (h:RD w rb p) (n:Nat):RD (w.drewN n) rb p:=h
theorem aN (rb p:Nat) (n:Int) (w:World) (h:RD w rb p) (hp:p<=1000000) (hn:1<=n) (hn2:n<=1000000) :
  Calls prog 81 #[.pointer (some ⟨rb,0,none⟩),I_ n] w (Qq rb p n w):=by
 have hst:=af h.step;obtain ⟨v,bl,hh,hbl,a,cap,rfl,hb⟩:=h;have c0:w.cell? ⟨rb,0,none⟩=some (A0 a bl cap):=by simp [World.cell?,hh]
 have c1:w.cell? ⟨rb,1,none⟩=some (I_ p):=by simp [World.cell?,hh]
 have f1:w.frozen? ⟨rb,1,none⟩=false:=by simp [World.frozen?,hh]
 have YV:(0:Int)<=(p:Int):=by omega
 clear hh
 by_cases h0:bl=0
 ·subst h0;clear hb;go_enter func81,ntmps81;go_wp2_with fail;go_ret;exact ⟨0,rfl,by omega,by omega,hst.o.1,hst.o.2⟩
 obtain ⟨b,off,rfl,hlt,hc⟩:=hb.resolve_left h0;have aaI:((bl:Int)==0)=false:=by simpa using h0
 have hb1:1<=(bl:Int):=by omega
 have Hc:=af hc;clear hc hb;have hc':∀ i,i<bl->∃ x:Nat,x<=255/\(w.setCell ⟨rb,1,none⟩ (I_ ((p:Int)+1))).cell? ⟨b,off+i,none⟩=some (.int .u8 x):=fun i hi=>by
  obtain ⟨x,hx,hcx⟩:=Hc.o i hi;exact ⟨x,hx,(World.cell?_of_block (Below.heap_setCell _ _ _ _ (by show b≠rb;omega))).trans hcx⟩
 have hne:b≠rb:=by omega
 by_cases hpl:p<bl
 ·obtain ⟨x,hx,hcx⟩:=Hc.o p hpl;have hx0:(0:Int)<=(x:Int):=by omega
  have hx1:(x:Int)<=255:=by omega
  clear hc';go_enter func81,ntmps81;go_wp2_with fail;go_ret;exact ⟨_,rfl,Int.emod_nonneg _ (by omega),Int.emod_lt_of_pos _ (by omega),hst.o.1,hst.o.2⟩
 have hm1:p % bl<bl:=Nat.mod_lt _ (by omega);have hm2:(p*7+3) % bl<bl:=Nat.mod_lt _ (by omega);obtain ⟨x,hx,hcx⟩:=Hc.o (p % bl) hm1;obtain ⟨y,hy,hcy⟩:=Hc.o ((p*7+3) % bl) hm2;have hx0:(0:Int)<=(x:Int):=by omega
 have hx1:(x:Int)<=255:=by omega
 have hy0:(0:Int)<=(y:Int):=by omega
 have hy1:(y:Int)<=255:=by omega
 have hd0:0<=(p:Int) / (bl:Int):=Int.ediv_nonneg YV (by omega);have hd1:(p:Int) / (bl:Int)<=1000000:=Int.le_trans (Int.ediv_le_self _ YV) (by omega);have aaJ:(p:Int) % (bl:Int)<(bl:Int):=Int.emod_lt_of_pos _ (by omega);have aaK:0<=(p:Int) % (bl:Int):=Int.emod_nonneg _ (by omega);have aaL:((p:Int)*7+3) % (bl:Int)<(bl:Int):=Int.emod_lt_of_pos _ (by omega);have aaM:0<=((p:Int)*7+3) % (bl:Int):=Int.emod_nonneg _ (by omega);clear hc' ;go_enter func81,ntmps81;go_wp2_with fail;go_quiet (fail);have hX:∃ X:Int,X=(x:Int)*131+(y:Int)*1117+(p:Int)*29+(p:Int) / (bl:Int)*53:=⟨_,rfl⟩;obtain ⟨X,hX⟩:=hX;rw [<-hX];have hX0:0<=X:=by omega
 have hX1:X<=100000000:=by omega
 have HX:=af hX;clear hX;have hz:0<=bits .xor .i64 X (X / 64):=(FT X (X / 64) hX0 (by omega) (by omega) (by omega)).1;go_wp2_with fail;go_ret;exact ⟨_,rfl,Int.emod_nonneg _ (by omega),Int.emod_lt_of_pos _ (by omega),hst.o.1.drewN _,zX hst.o.2 _⟩
theorem abT.rb {a:Option Addr} {len cap:Nat} {zs:List Int} (h:abT .u8 w a len cap zs):RB w (A0 a len cap) len:=by
 rcases h with ⟨rfl,rfl,rfl,rfl⟩ | ⟨⟨b,off,spot⟩,rfl,hlc,hcm,hz,hc,hw⟩
 ·exact ⟨_,_,rfl,Nat.le_refl _,by unfold maxLen;omega,.inl rfl⟩
 refine ⟨_,_,rfl,hlc,hcm,?_⟩
 by_cases h0:len=0
 ·exact .inl h0
 right
 have hs:spot=none:=by simpa [Addr.add] using World.cell?_spot (hc 0 (by omega))
 subst hs;have hb:b<w.heap.size:=World.block_lt_of_cell? w _ (hc 0 (by omega));refine ⟨b,off,rfl,hb,fun i hi=>?_⟩
 have hi':i<zs.length:=by omega
 have h1:=hc i hi';rw [Addr.add_lit] at h1;have h2:=hw (zs.getD i 0) (by simp [List.getD,List.getElem?_eq_getElem hi']);have h3:0<=zs.getD i 0/\zs.getD i 0<=255:=by
  generalize zs.getD i 0=y at h2;simpa [Lit.wf,IntKind.min,IntKind.max,IntKind.signed,IntKind.bits] using h2
 exact ⟨(zs.getD i 0).toNat,by omega,by rw [h1];congr 2;omega⟩
theorem RB.below {v:Value} {n:Nat} (h:RB w v n) (hb:Below w.heap.size w w'):RB w' v n:=by
 obtain ⟨a,cap,hv,h1,h2,h3⟩:=h;refine ⟨a,cap,hv,h1,h2,?_⟩;rcases h3 with h3 | ⟨b,off,ha,hl,hc⟩
 ·exact .inl h3
 refine .inr ⟨b,off,ha,Nat.lt_of_lt_of_le hl hb.size,fun i hi=>?_⟩
 obtain ⟨x,hx,hcx⟩:=hc i hi;exact ⟨x,hx,(hb.cell (p:=⟨b,off+i,none⟩) hl).trans hcx⟩
def Opened (w:World) (e:Ending) (w':World):Prop:=∃ rb,e=.returned (.pointer (some ⟨rb,0,none⟩))/\w.heap.size<=rb/\RD w' rb 0/\Below w.heap.size w w'
theorem KR (v:Value) (n:Nat) (w:World) (h:RB w v n):Calls prog 45 #[v] w (Opened w):=by
 obtain ⟨a,cap,rfl,hnc,hcm,hb⟩:=h;have hm:cap<=9223372036854775807:=by unfold maxLen at hcm;omega
 have hb':∀ m,m<=n->∀ o,RD (w.alloc (.cells #[A0 a m cap,I_ 0] 136)) w.heap.size 0\/¬ (m<=2000/\o=0):=by
  intro m hmn o
  by_cases h2:m<=2000/\o=0
  ·left
   refine ⟨_,m,heap_alloc_new w _,h2.1,a,cap,rfl,?_⟩;rcases hb with h0 | ⟨b,off,ha,hlt,hc⟩
   ·exact .inl (by omega)
   refine .inr ⟨b,off,ha,hlt,fun i hi=>?_⟩
   obtain ⟨x,hx,hcx⟩:=hc i (by omega);exact ⟨x,hx,((((Below.refl w.heap.size w).alloc aW _).cell (p:=⟨b,off+i,none⟩) hlt)).trans hcx⟩
  exact .inr h2
 have Hb:=af hb';clear hb hb' hcm
 by_cases h2:n<=2000
 ·go_enter func45,ntmps45;go_wp2_with fail;go_ret;exact ⟨_,rfl,Nat.le_refl _,(Hb.o n aW 0).resolve_right (fun h=>h ⟨h2,rfl⟩),fZ.alloc aW _⟩
 go_enter func45,ntmps45;go_wp2_with fail;go_ret;exact ⟨_,rfl,Nat.le_refl _,(Hb.o 2000 (by omega) 0).resolve_right (fun h=>h ⟨by omega,rfl⟩),fZ.alloc aW _⟩
def Xl (rb p m:Nat) (w:World) (e:Ending) (w':World):Prop:=
 ∃ u xs q,e=.returned u/\RI w' u xs/\xs.length<=m/\(∀ a n c,u=A0 (some a) n c->w.heap.size<=a.block)/\RD w' rb q/\q<=p+1000/\w.grownBy w' (some rb)
def YW (m:Nat) (w:World) (e:Ending) (w':World):Prop:=∃ u xs,e=.returned u/\RI w' u xs/\xs.length<=m/\Below w.heap.size w w'
def KU (v:Value):Prop:=∀ a n c,v=A0 a n c->n<=c/\c<=9223372036854775807
def Xm (rb p m:Nat) (w:World) (e:Ending) (w':World):Prop:=
 ∃ u xs q,e=.returned u/\RI w' u xs/\xs.length<=m/\(∀ a n c,u=A0 (some a) n c->w.heap.size<=a.block)/\KU u/\RD w' rb q/\q<=p+1000/\w.grownBy w' (some rb)
def YY (m:Nat) (w:World) (e:Ending) (w':World):Prop:=∃ u xs,e=.returned u/\RI w' u xs/\xs.length<=m/\KU u/\Below w.heap.size w w'
end Go.Proofs.YthcmmoibpgcgaaaGreatDoor
