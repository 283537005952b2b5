/- Contracts: a number in a list, a list that ascends (the laws' own). -/
import Derived.IntWalk
import Derived.Test.YtmmjmckajcfffaaGreatDoorBase
set_option maxHeartbeats 400000
set_option linter.all false
open Go.Proofs.Tryz
namespace Go.Proofs.YtmmjmckajcfffaaGreatDoor
open Go.RowKit
def aez (w:World) (e:Ending) (w':World):Prop:=e=.returned (.bool true)/\Below w.heap.size w w'
theorem Jy (xs:List Int) (p:Int) (v:Value) (w:World) (h:RI w v xs) :
  Calls prog 33 #[v,I_ p] w fun e w'=>e=.returned (.bool (decide (p ∈ xs)))/\w=w':=by
 obtain ⟨a,cap,rfl⟩:=h.val;have hl:=h.1;have H:=af h;clear h;go_enter func33,ntmps33;go_wp2_with fail;go_loop [5] (fun i=>∃ k:Nat,i=I_ k/\k<=xs.length/\TI (p ∉ xs.take k)) (fun i=>xs.length - (intOf i).toNat)
 case atStart=>exact ⟨0,rfl,Nat.zero_le _,by simp [TI]⟩
 case round =>
  obtain ⟨k,rfl,hk,hn⟩:=hrel
  by_cases hlt:k<xs.length
  ·obtain ⟨b,off,cap',e,_,hc⟩:=H.o.at hlt;obtain ⟨rfl,_,rfl⟩:=Za e;clear e;have kQ:(k:Int)<(xs.length:Int):=by omega
   have hit:TI (xs[k]=p->p ∈ xs):=fun h=>h ▸ List.getElem_mem hlt
   have miss:TI (xs[k]≠p->p ∉ xs.take (k+1)):=fun h=>by
    rw [List.take_succ_eq_append_getElem hlt];simp only [List.mem_append,List.mem_singleton,not_or];exact ⟨hn.o,fun e=>h e.symm⟩
   generalize xs[k]=x at hc hit miss
   by_cases hx:x=p
   ·have BC:=af (hit.o hx);have hb:(x==p)=true:=by simpa using hx
    clear hit miss hx;go_wp2_with fail;go_ret;exact ⟨ak (by simp [BC.o]),rfl⟩
   have PH:=af (miss.o hx);have hb:(x==p)=false:=by simpa using hx
   clear hit miss hx;go_wp2_with fail;go_round
   case rel=>exact ⟨k+1,by go_num,by omega,PH.o⟩
   case measure=>simp [intOf];omega
  go_wp2_with fail;go_ret;have:=hn.o;rw [List.take_of_length_le (by omega)] at this;exact ⟨ak (by simp [this]),rfl⟩
end Go.Proofs.YtmmjmckajcfffaaGreatDoor
