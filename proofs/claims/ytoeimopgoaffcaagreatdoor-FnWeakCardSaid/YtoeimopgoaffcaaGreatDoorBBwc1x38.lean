/- By a program of this session. -/
import Derived.Test.YtoeimopgoaffcaaGreatDoorBBwc1x37
namespace Go.Proofs.YtoeimopgoaffcaaGreatDoor.Pr
open RowKit YtoeimopgoaffcaaGreatDoorW.PrintWords Ni
theorem turnB_le (E:List Zan) (l:List Int) (a N:Nat):ZdE E l a N≤N:=by
 unfold ZdE
 cases h:(List.range N).find? (fun i=>bit E l (i+1) a == a) with
 | none=>exact Nat.zero_le _
 | some i=>
  have:=List.mem_range.1 (List.mem_of_find?_eq_some h)
  show i+1≤N
  omega
theorem ncB_len (N:Nat) (E:List Zan):(ncB N E).length≤N:=by
 unfold ncB
 dsimp only
 split
 ·exact Nat.zero_le _
 ·rw[List.length_reverse,ZdZ];exact turnB_le _ _ _ _
theorem ncF_in {n:Int} {E:List Zan}:(ncF n E).length≤8∧∀c∈ncF n E,0≤c∧c<E.length:=by
 unfold ncF
 split
 case isFalse=>exact⟨by simp,fun c h=>absurd h (by simp)⟩
 rename_i hg
 have hin:=ZeU hg
 have hl:=ncB_len n.toNat E
 refine⟨by omega,fun c hc=>?_⟩
 by_cases h0:n.toNat=0
 ·rw[h0] at hc hl
  rw[List.eq_nil_of_length_eq_zero (show(ncB 0 E).length=0 by omega)] at hc
  exact absurd hc (by simp)
 obtain⟨h1,e,he,_⟩:=nc_avoid (I:=fun _=>False) ⟨fun h=>h,fun e _=>⟨fun h=>h.elim,fun h=>h.elim⟩⟩ (fun e he=>by have:=hin.2.2.2 e he;omega) (by omega) hc
 have:=(List.getElem?_eq_some_iff.1 he).1
 omega
theorem Zep:∀(L:List PLk) (i:Nat),(ZbV i L).length=(ZbN L).length
 | [],_=>rfl
 | x :: t,i=>by
  have h:(linksL i x).length=(edgesL x).length:=by unfold linksL edgesL;split <;> split <;> rfl
  rw[ZbV,ZbN,List.length_append,List.length_append,h,Zep t]
def confB (n:Int) (L:List PLk):List Int:=if ZaK n L=true then(ncF n (ZbN L)).map (fun c=>(ZbV 0 L).getD c.toNat 0) else[]
theorem confB_len (n:Int) (L:List PLk):(confB n L).length≤8:=by
 unfold confB
 split
 ·rw[List.length_map];exact ncF_in.1
 ·simp
theorem Zfb (n:Int) (L:List PLk) (k:Nat) (_hk:2 ^ 64≤k):ZbM.f k n L=some (confB n L):=by
 unfold ZbM.f confB ZaN.f
 rw[Zi]
 by_cases h:ZaK n L=true
 ·rw[if_pos h,if_pos h,Z1.f,if_pos (show L.length≤1048576 by have:=Zfu h;omega),Zi,Zaq.f,Zi]
  show gath 0 (ZbV 0 L) (ncF n (ZbN L))=_
  exact gath_of 0 (by have:=(ncF_in (n:=n) (E:=ZbN L)).1;omega) (fun c hc=>by rw[Zep];exact ncF_in.2 c hc)
 ·rw[if_neg h,if_neg h]
section
variable {ns:List ZK} {ts:List PTie} {z:Int} {ln vs:List Int}
end
end Go.Proofs.YtoeimopgoaffcaaGreatDoor.Pr
