/- By a program of this session. -/
import Derived.Test.YtoeimopgoaffcaaGreatDoorBBwc1x29
namespace Go.Proofs.YtoeimopgoaffcaaGreatDoor.Pr
open RowKit YtoeimopgoaffcaaGreatDoorW.PrintWords Ni
def fin2 (e:Int) (L:List PLk):Int×List PLk×Bool:=if ZaK e L=true then(e,L,true) else(0,[],false)
section
variable {ns:List ZK} {ts:List PTie} {z:Int} {ln vs:List Int}
def projB (ns:List ZK) (ts:List PTie) (z:Int) (ln vs:List Int):Int×List PLk×Bool:=if ZcR ns ts z ln vs=true then fin2 (ns.length:Int) (Zb6 ns ts z ln vs) else(0,[],false)
end
theorem ZeT {ns:List ZK} {ts:List PTie} {z:Int} {ln vs:List Int} (hc:Zck ns ts) (hlv:vs.length≤1048576) (k:Nat) (hk:2 ^ 67≤k):ZbE.f k ns ts z ln vs=some (projB ns ts z ln vs):=by
 unfold ZbE.f projB
 rw[Zd6 ln vs hc hlv k (by omega),Zi]
 by_cases h:ZcR ns ts z ln vs=true
 ·obtain⟨hs,hch⟩:=choiceB_iff h
  rw[if_pos h,if_pos h,Zei hc hs hch k (by omega),Zi]
  show((ZaN.f (ns.length:Int) (Zb6 ns ts z ln vs)).bind _)=_
  rw[show ZaN.f (ns.length:Int) (Zb6 ns ts z ln vs)=some (ZaK (ns.length:Int) (Zb6 ns ts z ln vs)) from rfl,Zi,fin2]
  split <;> rfl
 ·rw[if_neg h,if_neg h]
def gofB (n:Int) (L:List PLink):Int×List Zan:=if ZaK n L=true then(n,ZbN L) else(0,[])
theorem Zf5 (n:Int) (L:List PLink) (k:Nat) (_hk:2 ^ 64≤k):ZcD.f k n L=some (gofB n L):=by
 unfold ZcD.f gofB ZaN.f
 rw[Zi]
 by_cases h:ZaK n L=true
 ·rw[if_pos h,if_pos h,Z1.f,if_pos (show L.length≤1048576 by have:=Zfu h;omega)];rfl
 ·rw[if_neg h,if_neg h]
def ncF (n:Int) (E:List Zan):List Int:=if ZbW n E=true then ncB n.toNat E else[]
def consB (n:Int) (L:List PLink):Bool:=ZaK n L && (ncF n (ZbN L)).isEmpty
theorem ZeE (n:Int) (L:List PLink) (k:Nat) (hk:2 ^ 64≤k):Zbw.f k n L=some (consB n L):=by
 unfold Zbw.f consB ZaN.f
 rw[Zi]
 by_cases h:ZaK n L=true
 ·rw[if_pos h,Zf5 n L k hk,Zi,gofB,if_pos h,h,Zaq.f,Zi];rfl
 ·rw[if_neg h,Bool.eq_false_iff.2 h];rfl
end Go.Proofs.YtoeimopgoaffcaaGreatDoor.Pr
