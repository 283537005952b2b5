/- Contracts: a number in a list, a list that ascends (the laws' own). -/
import Derived.Test.YtliebkfligagnaaGreatDoorWalkA
set_option maxHeartbeats 400000
set_option linter.all false
namespace Go.Proofs.YtliebkfligagnaaGreatDoor
open Go.RowKit
theorem Jy (xs:List Int) (p:Int) (v:Value) (w:World) (h:RI w v xs) :
  Calls Tryz.prog 32 #[v,.int .i64 p] w fun e w'=>e=.returned (.bool (decide (p ∈ xs)))∧w=w':=by
 obtain ⟨a,cap,rfl⟩:=h.val;have hl:=h.1;have H:=af h;clear h;go_enter Tryz.func32,Tryz.ntmps32;go_wp2_with fail;go_loop [5] (fun i=>∃ k:Nat,i=.int .i64 k∧k≤xs.length∧Hid (p ∉ xs.take k)) (fun i=>xs.length - (intOf i).toNat)
 case atStart=>exact ⟨0,rfl,Nat.zero_le _,by simp [Hid]⟩
 case round =>
  obtain ⟨k,rfl,hk,hn⟩:=hrel
  by_cases hlt:k<xs.length
  ·obtain ⟨b,off,cap',e,_,hc⟩:=H.out.at hlt;simp only [Value.slice.injEq] at e;obtain ⟨rfl,_,rfl⟩:=e;have kQ:(k:Int)<(xs.length:Int):=by omega
   have hit:Hid (xs[k]=p→p ∈ xs):=fun h=>h ▸ List.getElem_mem hlt
   have miss:Hid (xs[k]≠p→p ∉ xs.take (k+1)):=fun h=>by
    rw [List.take_succ_eq_append_getElem hlt];simp only [List.mem_append,List.mem_singleton,not_or];exact ⟨hn.out,fun e=>h e.symm⟩
   generalize xs[k]=x at hc hit miss
   by_cases hx:x=p
   ·have BC:=af (hit.out hx);have hb:(x==p)=true:=by simpa using hx
    clear hit miss hx;go_wp2_with fail;go_ret;exact ⟨ak (by simp [BC.out]),rfl⟩
   have PH:=af (miss.out hx);have hb:(x==p)=false:=by simpa using hx
   clear hit miss hx;go_wp2_with fail;go_round
   case rel=>exact ⟨k+1,by go_num,by omega,PH.out⟩
   case measure=>simp [intOf];omega
  go_wp2_with fail;go_ret;have:=hn.out;rw [List.take_of_length_le (by omega)] at this;exact ⟨ak (by simp [this]),rfl⟩
end Go.Proofs.YtliebkfligagnaaGreatDoor
