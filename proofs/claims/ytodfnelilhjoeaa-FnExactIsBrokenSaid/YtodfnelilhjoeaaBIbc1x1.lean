/- The texts of one claim, put together by a program of this session. -/
import Derived.Test.YtodfnelilhjoeaaProg
import Derived.Below
import Derived.Deep.Draws
import Derived.Deep.AppendLies
import Derived.Maps.AppendAt
import Derived.OwnWalk
import Derived.Laws.BytesArg
import Derived.Laws.MakeOwn
import Derived.Laws.OwnMore
import Derived.Deep.OwnRows
import Derived.Tactics
import Derived.Lib.ConvBytes
import Derived.Laws.Slices
import Derived.WalkKit
import Derived.KernelRfl
import Derived.RowKit3
import Derived.Deep.LoopGhost
import Derived.Deep.QuietTactic
import Derived.BigQuiet
import Derived.WideLaws
import Derived.Deep.DeepCutAuto
import Derived.Deep.CutBlock
import Derived.Deep.RegionHeld3
import Derived.Laws.Rows
import Derived.Lib.AppendStr
import Derived.ArgAppend
import Derived.Laws.IdiomCopy
import Derived.OrdersHeld
import Derived.Laws.BitsLemmas
import Derived.RowKit
import Derived.ChangeArms
import Derived.ChangeSlices
import Derived.WideShapes
import Derived.Deep.Slices
import Derived.Test.YtodfnelilhjoeaaBIb0
namespace Go.Proofs.Ytodfnelilhjoeaa.Pr
open Go.RowKit Go.Proofs.YtodfnelilhjoeaaW.PrintWords Go.Proofs.YtodfnelilhjoeaaW.PrintLast Go.Proofs.YtodfnelilhjoeaaW.PrintMore
attribute [local go_sem] Zaj Zah Zat Zas Zaa Z9 Zai Zag
set_option linter.unusedVariables false
set_option linter.unusedSimpArgs false
def errW:Option Int→Value
 | none=>.nilIface
 | some c=>.iface 0 (.int .i64 c)
theorem Zy:errW none=.nilIface:=rfl
theorem Zx (c:Int):errW (some c)=.iface 0 (.int .i64 c):=rfl
theorem info3:(Try.prog.info? 3).map (fun i=>(i.zero,i.size,i.bytes))=some (some (.int .i64 0),1,8):=by kernel_rfl
theorem info90:(Try.prog.info? 90).map (fun i=>(i.zero,i.size,i.bytes))=some (some (.agg #[(.int .i64 0),(.int .i64 0),(.int .i64 0),(.int .i64 0),(.bool false)]),5,40):=by kernel_rfl
theorem info112:(Try.prog.info? 112).map (fun i=>(i.zero,i.size,i.bytes))=some (some (.agg #[(.int .i64 0),(.int .i64 0),(.int .i64 0),(.int .i64 0)]),4,32):=by kernel_rfl
theorem info116:(Try.prog.info? 116).map (fun i=>(i.zero,i.size,i.bytes))=some (some (.agg #[(.string ⟨#[]⟩),(.slice none 0 0),(.int .i64 0)]),3,48):=by kernel_rfl
def rd_L2 (xs:List (List Int)) (i:Int):(List Int):=xs.getD i.toNat ([]:List Int)
structure S127 where
 f0:ByteArray
 f1:(List Int)
 f2:Int
def z127:S127:=⟨(⟨#[]⟩:ByteArray),([]:List Int),(0:Int)⟩
def k127:Kd S127:=Kd.iso (Kd.pair Kd.string (Kd.pair (Kd.slice 3 (Kd.int .i64)) (Kd.int .i64))) (fun x:S127=>(x.f0,x.f1,x.f2))
theorem k127_open {w:World} {x:S127} {cs:List Value} (h:k127.K w x cs):∃A1 c1,cs=[.string x.f0,.slice A1 x.f1.length c1,.int .i64 x.f2]∧x.f1.length≤c1∧(Kd.int .i64).C w A1 x.f1.length x.f1:=by
 obtain⟨_,_,rfl,rfl,⟨_,_,rfl,⟨A1,c1,rfl,l1,g1⟩,rfl⟩⟩:=h
 exact⟨A1,c1,rfl,l1,g1⟩
def ZaB (xs:List S127) (i:Int):S127:=xs.getD i.toNat z127
theorem at_T127 {w:World} {A:Option Addr} {n:Nat} {xs:List S127} (h:Kd.C k127 w A n xs) (i:Int) (h0:0≤i) (h1:i<n):∃ad A1 c1,A=some ad∧w.cell? (ad.add (i.toNat * 3))=some (.string (ZaB xs i).f0)∧w.cell? ⟨(ad.add (i.toNat * 3)).block,(ad.add (i.toNat * 3)).off+1,none⟩=some (.slice A1 (ZaB xs i).f1.length c1)∧w.cell? ⟨(ad.add (i.toNat * 3)).block,(ad.add (i.toNat * 3)).off+2,none⟩=some (.int .i64 (ZaB xs i).f2)∧(ZaB xs i).f1.length≤c1∧(Kd.int .i64).C w A1 (ZaB xs i).f1.length (ZaB xs i).f1:=by
 obtain⟨ad,c,e,_,hK,hc0⟩:=Kd.C_get h z127 i h0 h1
 have hc:∀j u,c[j]? = some u→w.cell? (ad.add (i.toNat * 3+j))=some u:=hc0
 obtain⟨A1,c1,rfl,l1,g1⟩:=k127_open hK
 exact⟨ad,A1,c1,e,hc 0 _ rfl,by rw[← Za2 _ _ 1 (by omega)];exact hc 1 _ rfl,by rw[← Za2 _ _ 2 (by omega)];exact hc 2 _ rfl,l1,g1⟩
structure S130 where
 f0:Int
 f1:Int
 f2:Int
 f3:Int
 f4:Bool
def z130:S130:=⟨(0:Int),(0:Int),(0:Int),(0:Int),false⟩
def k130:Kd S130:=Kd.iso (Kd.pair (Kd.int .i64) (Kd.pair (Kd.int .i64) (Kd.pair (Kd.int .i64) (Kd.pair (Kd.int .i64) Kd.bool)))) (fun x:S130=>(x.f0,x.f1,x.f2,x.f3,x.f4))
theorem k130_open {w:World} {x:S130} {cs:List Value} (h:k130.K w x cs):cs=[.int .i64 x.f0,.int .i64 x.f1,.int .i64 x.f2,.int .i64 x.f3,.bool x.f4]:=by
 obtain⟨_,_,rfl,rfl,⟨_,_,rfl,rfl,⟨_,_,rfl,rfl,⟨_,_,rfl,rfl,rfl⟩⟩⟩⟩:=h
 exact rfl
def ZaV (xs:List S130) (i:Int):S130:=xs.getD i.toNat z130
theorem at_T130 {w:World} {A:Option Addr} {n:Nat} {xs:List S130} (h:Kd.C k130 w A n xs) (i:Int) (h0:0≤i) (h1:i<n):∃ad ,A=some ad∧w.cell? (ad.add (i.toNat * 5))=some (.int .i64 (ZaV xs i).f0)∧w.cell? ⟨(ad.add (i.toNat * 5)).block,(ad.add (i.toNat * 5)).off+1,none⟩=some (.int .i64 (ZaV xs i).f1)∧w.cell? ⟨(ad.add (i.toNat * 5)).block,(ad.add (i.toNat * 5)).off+2,none⟩=some (.int .i64 (ZaV xs i).f2)∧w.cell? ⟨(ad.add (i.toNat * 5)).block,(ad.add (i.toNat * 5)).off+3,none⟩=some (.int .i64 (ZaV xs i).f3)∧w.cell? ⟨(ad.add (i.toNat * 5)).block,(ad.add (i.toNat * 5)).off+4,none⟩=some (.bool (ZaV xs i).f4):=by
 obtain⟨ad,c,e,_,hK,hc0⟩:=Kd.C_get h z130 i h0 h1
 have hc:∀j u,c[j]? = some u→w.cell? (ad.add (i.toNat * 5+j))=some u:=hc0
 obtain rfl:=k130_open hK
 exact⟨ad,e,hc 0 _ rfl,by rw[← Za2 _ _ 1 (by omega)];exact hc 1 _ rfl,by rw[← Za2 _ _ 2 (by omega)];exact hc 2 _ rfl,by rw[← Za2 _ _ 3 (by omega)];exact hc 3 _ rfl,by rw[← Za2 _ _ 4 (by omega)];exact hc 4 _ rfl⟩
structure S116 where
 f0:ByteArray
 f1:(List Int)
 f2:Int
def z116:S116:=⟨(⟨#[]⟩:ByteArray),([]:List Int),(0:Int)⟩
def k116:Kd S116:=Kd.iso (Kd.pair Kd.string (Kd.pair (Kd.slice 3 (Kd.int .i64)) (Kd.int .i64))) (fun x:S116=>(x.f0,x.f1,x.f2))
theorem k116_open {w:World} {x:S116} {cs:List Value} (h:k116.K w x cs):∃A1 c1,cs=[.string x.f0,.slice A1 x.f1.length c1,.int .i64 x.f2]∧x.f1.length≤c1∧(Kd.int .i64).C w A1 x.f1.length x.f1:=by
 obtain⟨_,_,rfl,rfl,⟨_,_,rfl,⟨A1,c1,rfl,l1,g1⟩,rfl⟩⟩:=h
 exact⟨A1,c1,rfl,l1,g1⟩
theorem Zd3 {w:World} {base:Nat} {ok:Nat→Prop} {x:S116} {cs:List Value} (h:k116.M w base ok x cs):∃v1,cs=[.string x.f0,v1,.int .i64 x.f2]∧(Kd.int .i64).R 3 w base ok v1 x.f1:=by
 obtain⟨_,_,rfl,rfl,⟨_,_,rfl,⟨v1,rfl,g1⟩,rfl⟩⟩:=h
 exact⟨v1,rfl,g1⟩
theorem k116_mkM (w:World) (base:Nat) (ok:Nat→Prop) (x:S116) {v1:Value} (g1:(Kd.int .i64).R 3 w base ok v1 x.f1):k116.M w base ok x [.string x.f0,v1,.int .i64 x.f2]:=⟨[.string x.f0],[v1,.int .i64 x.f2],rfl,rfl,⟨[v1],[.int .i64 x.f2],rfl,⟨v1,rfl,g1⟩,rfl⟩⟩
def ZA (xs:List S116) (i:Int):S116:=xs.getD i.toNat z116
theorem Zak {w:World} {A:Option Addr} {n:Nat} {xs:List S116} (h:Kd.C k116 w A n xs) (i:Int) (h0:0≤i) (h1:i<n):∃ad A1 c1,A=some ad∧w.cell? (ad.add (i.toNat * 3))=some (.string (ZA xs i).f0)∧w.cell? ⟨(ad.add (i.toNat * 3)).block,(ad.add (i.toNat * 3)).off+1,none⟩=some (.slice A1 (ZA xs i).f1.length c1)∧w.cell? ⟨(ad.add (i.toNat * 3)).block,(ad.add (i.toNat * 3)).off+2,none⟩=some (.int .i64 (ZA xs i).f2)∧(ZA xs i).f1.length≤c1∧(Kd.int .i64).C w A1 (ZA xs i).f1.length (ZA xs i).f1:=by
 obtain⟨ad,c,e,_,hK,hc0⟩:=Kd.C_get h z116 i h0 h1
 have hc:∀j u,c[j]? = some u→w.cell? (ad.add (i.toNat * 3+j))=some u:=hc0
 obtain⟨A1,c1,rfl,l1,g1⟩:=k116_open hK
 exact⟨ad,A1,c1,e,hc 0 _ rfl,by rw[← Za2 _ _ 1 (by omega)];exact hc 1 _ rfl,by rw[← Za2 _ _ 2 (by omega)];exact hc 2 _ rfl,l1,g1⟩
structure S90 where
 f0:Int
 f1:Int
 f2:Int
 f3:Int
 f4:Bool
def z90:S90:=⟨(0:Int),(0:Int),(0:Int),(0:Int),false⟩
def k90:Kd S90:=Kd.iso (Kd.pair (Kd.int .i64) (Kd.pair (Kd.int .i64) (Kd.pair (Kd.int .i64) (Kd.pair (Kd.int .i64) Kd.bool)))) (fun x:S90=>(x.f0,x.f1,x.f2,x.f3,x.f4))
theorem k90_open {w:World} {x:S90} {cs:List Value} (h:k90.K w x cs):cs=[.int .i64 x.f0,.int .i64 x.f1,.int .i64 x.f2,.int .i64 x.f3,.bool x.f4]:=by
 obtain⟨_,_,rfl,rfl,⟨_,_,rfl,rfl,⟨_,_,rfl,rfl,⟨_,_,rfl,rfl,rfl⟩⟩⟩⟩:=h
 exact rfl
theorem k90_openM {w:World} {base:Nat} {ok:Nat→Prop} {x:S90} {cs:List Value} (h:k90.M w base ok x cs):cs=[.int .i64 x.f0,.int .i64 x.f1,.int .i64 x.f2,.int .i64 x.f3,.bool x.f4]:=by
 obtain⟨_,_,rfl,rfl,⟨_,_,rfl,rfl,⟨_,_,rfl,rfl,⟨_,_,rfl,rfl,rfl⟩⟩⟩⟩:=h
 exact rfl
theorem k90_mkM (w:World) (base:Nat) (ok:Nat→Prop) (x:S90)  : k90.M w base ok x [.int .i64 x.f0,.int .i64 x.f1,.int .i64 x.f2,.int .i64 x.f3,.bool x.f4]:=⟨[.int .i64 x.f0],[.int .i64 x.f1,.int .i64 x.f2,.int .i64 x.f3,.bool x.f4],rfl,rfl,⟨[.int .i64 x.f1],[.int .i64 x.f2,.int .i64 x.f3,.bool x.f4],rfl,rfl,⟨[.int .i64 x.f2],[.int .i64 x.f3,.bool x.f4],rfl,rfl,⟨[.int .i64 x.f3],[.bool x.f4],rfl,rfl,rfl⟩⟩⟩⟩
def ZB (xs:List S90) (i:Int):S90:=xs.getD i.toNat z90
theorem Zbg {w:World} {A:Option Addr} {n:Nat} {xs:List S90} (h:Kd.C k90 w A n xs) (i:Int) (h0:0≤i) (h1:i<n):∃ad ,A=some ad∧w.cell? (ad.add (i.toNat * 5))=some (.int .i64 (ZB xs i).f0)∧w.cell? ⟨(ad.add (i.toNat * 5)).block,(ad.add (i.toNat * 5)).off+1,none⟩=some (.int .i64 (ZB xs i).f1)∧w.cell? ⟨(ad.add (i.toNat * 5)).block,(ad.add (i.toNat * 5)).off+2,none⟩=some (.int .i64 (ZB xs i).f2)∧w.cell? ⟨(ad.add (i.toNat * 5)).block,(ad.add (i.toNat * 5)).off+3,none⟩=some (.int .i64 (ZB xs i).f3)∧w.cell? ⟨(ad.add (i.toNat * 5)).block,(ad.add (i.toNat * 5)).off+4,none⟩=some (.bool (ZB xs i).f4):=by
 obtain⟨ad,c,e,_,hK,hc0⟩:=Kd.C_get h z90 i h0 h1
 have hc:∀j u,c[j]? = some u→w.cell? (ad.add (i.toNat * 5+j))=some u:=hc0
 obtain rfl:=k90_open hK
 exact⟨ad,e,hc 0 _ rfl,by rw[← Za2 _ _ 1 (by omega)];exact hc 1 _ rfl,by rw[← Za2 _ _ 2 (by omega)];exact hc 2 _ rfl,by rw[← Za2 _ _ 3 (by omega)];exact hc 3 _ rfl,by rw[← Za2 _ _ 4 (by omega)];exact hc 4 _ rfl⟩
def rd_L8 (xs:List (List S116)) (i:Int):(List S116):=xs.getD i.toNat ([]:List S116)
def rd_L9 (xs:List (List S90)) (i:Int):(List S90):=xs.getD i.toNat ([]:List S90)
structure S35 where
 f0:(List S116)
 f1:(List S90)
 f2:Int
def z35:S35:=⟨([]:List S116),([]:List S90),(0:Int)⟩
def k35:Kd S35:=Kd.iso (Kd.pair (Kd.slice 116 k116) (Kd.pair (Kd.slice 90 k90) (Kd.int .i64))) (fun x:S35=>(x.f0,x.f1,x.f2))
def rd_T35 (xs:List S35) (i:Int):S35:=xs.getD i.toNat z35
structure S110 where
 f0:Int
 f1:Int
def z110:S110:=⟨(0:Int),(0:Int)⟩
def k110:Kd S110:=Kd.iso (Kd.pair (Kd.int .i64) (Kd.int .i64)) (fun x:S110=>(x.f0,x.f1))
theorem k110_open {w:World} {x:S110} {cs:List Value} (h:k110.K w x cs):cs=[.int .i64 x.f0,.int .i64 x.f1]:=by
 obtain⟨_,_,rfl,rfl,rfl⟩:=h
 exact rfl
theorem k110_mkM (w:World) (base:Nat) (ok:Nat→Prop) (x:S110)  : k110.M w base ok x [.int .i64 x.f0,.int .i64 x.f1]:=⟨[.int .i64 x.f0],[.int .i64 x.f1],rfl,rfl,rfl⟩
def rd_T110 (xs:List S110) (i:Int):S110:=xs.getD i.toNat z110
structure S112 where
 f0:Int
 f1:Int
 f2:S110
def z112:S112:=⟨(0:Int),(0:Int),z110⟩
def k112:Kd S112:=Kd.iso (Kd.pair (Kd.int .i64) (Kd.pair (Kd.int .i64) k110)) (fun x:S112=>(x.f0,x.f1,x.f2))
theorem k112_open {w:World} {x:S112} {cs:List Value} (h:k112.K w x cs):cs=[.int .i64 x.f0,.int .i64 x.f1,.int .i64 x.f2.f0,.int .i64 x.f2.f1]:=by
 obtain⟨_,_,rfl,rfl,⟨_,_,rfl,rfl,s2⟩⟩:=h
 obtain rfl:=k110_open s2
 exact rfl
theorem k112_mkM (w:World) (base:Nat) (ok:Nat→Prop) (x:S112)  : k112.M w base ok x [.int .i64 x.f0,.int .i64 x.f1,.int .i64 x.f2.f0,.int .i64 x.f2.f1]:=⟨[.int .i64 x.f0],[.int .i64 x.f1,.int .i64 x.f2.f0,.int .i64 x.f2.f1],rfl,rfl,⟨[.int .i64 x.f1],[.int .i64 x.f2.f0,.int .i64 x.f2.f1],rfl,rfl,(k110_mkM w base ok x.f2 )⟩⟩
def Zdz (xs:List S112) (i:Int):S112:=xs.getD i.toNat z112
theorem at_T112 {w:World} {A:Option Addr} {n:Nat} {xs:List S112} (h:Kd.C k112 w A n xs) (i:Int) (h0:0≤i) (h1:i<n):∃ad ,A=some ad∧w.cell? (ad.add (i.toNat * 4))=some (.int .i64 (Zdz xs i).f0)∧w.cell? ⟨(ad.add (i.toNat * 4)).block,(ad.add (i.toNat * 4)).off+1,none⟩=some (.int .i64 (Zdz xs i).f1)∧w.cell? ⟨(ad.add (i.toNat * 4)).block,(ad.add (i.toNat * 4)).off+2,none⟩=some (.int .i64 (Zdz xs i).f2.f0)∧w.cell? ⟨(ad.add (i.toNat * 4)).block,(ad.add (i.toNat * 4)).off+3,none⟩=some (.int .i64 (Zdz xs i).f2.f1):=by
 obtain⟨ad,c,e,_,hK,hc0⟩:=Kd.C_get h z112 i h0 h1
 have hc:∀j u,c[j]? = some u→w.cell? (ad.add (i.toNat * 4+j))=some u:=hc0
 obtain rfl:=k112_open hK
 exact⟨ad,e,hc 0 _ rfl,by rw[← Za2 _ _ 1 (by omega)];exact hc 1 _ rfl,by rw[← Za2 _ _ 2 (by omega)];exact hc 2 _ rfl,by rw[← Za2 _ _ 3 (by omega)];exact hc 3 _ rfl⟩
def rd_L14 (xs:List (List S112)) (i:Int):(List S112):=xs.getD i.toNat ([]:List S112)
structure S58 where
 f0:Int
 f1:(List S112)
def z58:S58:=⟨(0:Int),([]:List S112)⟩
def k58:Kd S58:=Kd.iso (Kd.pair (Kd.int .i64) (Kd.slice 112 k112)) (fun x:S58=>(x.f0,x.f1))
def rd_T58 (xs:List S58) (i:Int):S58:=xs.getD i.toNat z58
structure S66 where
 f0:Int
 f1:(List Int)
 f2:(List Int)
def z66:S66:=⟨(0:Int),([]:List Int),([]:List Int)⟩
def k66:Kd S66:=Kd.iso (Kd.pair (Kd.int .i64) (Kd.pair (Kd.slice 3 (Kd.int .i64)) (Kd.slice 3 (Kd.int .i64)))) (fun x:S66=>(x.f0,x.f1,x.f2))
def rd_T66 (xs:List S66) (i:Int):S66:=xs.getD i.toNat z66
def rd_L17 (xs:List (List S127)) (i:Int):(List S127):=xs.getD i.toNat ([]:List S127)
def rd_L18 (xs:List (List S130)) (i:Int):(List S130):=xs.getD i.toNat ([]:List S130)
structure S25 where
 f0:(List S127)
 f1:(List S130)
 f2:Int
def z25:S25:=⟨([]:List S127),([]:List S130),(0:Int)⟩
def k25:Kd S25:=Kd.iso (Kd.pair (Kd.slice 127 k127) (Kd.pair (Kd.slice 130 k130) (Kd.int .i64))) (fun x:S25=>(x.f0,x.f1,x.f2))
theorem k25_open {w:World} {x:S25} {cs:List Value} (h:k25.K w x cs):∃A0 c0 A1 c1,cs=[.slice A0 x.f0.length c0,.slice A1 x.f1.length c1,.int .i64 x.f2]∧x.f0.length≤c0∧k127.C w A0 x.f0.length x.f0∧x.f1.length≤c1∧k130.C w A1 x.f1.length x.f1:=by
 obtain⟨_,_,rfl,⟨A0,c0,rfl,l0,g0⟩,⟨_,_,rfl,⟨A1,c1,rfl,l1,g1⟩,rfl⟩⟩:=h
 exact⟨A0,c0,A1,c1,rfl,l0,g0,l1,g1⟩
def rd_T25 (xs:List S25) (i:Int):S25:=xs.getD i.toNat z25
structure S28 where
 f0:(List Int)
 f1:(List Int)
def z28:S28:=⟨([]:List Int),([]:List Int)⟩
def k28:Kd S28:=Kd.iso (Kd.pair (Kd.slice 3 (Kd.int .i64)) (Kd.slice 3 (Kd.int .i64))) (fun x:S28=>(x.f0,x.f1))
theorem k28_open {w:World} {x:S28} {cs:List Value} (h:k28.K w x cs):∃A0 c0 A1 c1,cs=[.slice A0 x.f0.length c0,.slice A1 x.f1.length c1]∧x.f0.length≤c0∧(Kd.int .i64).C w A0 x.f0.length x.f0∧x.f1.length≤c1∧(Kd.int .i64).C w A1 x.f1.length x.f1:=by
 obtain⟨_,_,rfl,⟨A0,c0,rfl,l0,g0⟩,⟨A1,c1,rfl,l1,g1⟩⟩:=h
 exact⟨A0,c0,A1,c1,rfl,l0,g0,l1,g1⟩
def rd_T28 (xs:List S28) (i:Int):S28:=xs.getD i.toNat z28
structure S63 where
 f0:Int
 f1:(List Int)
 f2:(List Int)
def z63:S63:=⟨(0:Int),([]:List Int),([]:List Int)⟩
def k63:Kd S63:=Kd.iso (Kd.pair (Kd.int .i64) (Kd.pair (Kd.slice 3 (Kd.int .i64)) (Kd.slice 3 (Kd.int .i64)))) (fun x:S63=>(x.f0,x.f1,x.f2))
theorem k63_open {w:World} {x:S63} {cs:List Value} (h:k63.K w x cs):∃A1 c1 A2 c2,cs=[.int .i64 x.f0,.slice A1 x.f1.length c1,.slice A2 x.f2.length c2]∧x.f1.length≤c1∧(Kd.int .i64).C w A1 x.f1.length x.f1∧x.f2.length≤c2∧(Kd.int .i64).C w A2 x.f2.length x.f2:=by
 obtain⟨_,_,rfl,rfl,⟨_,_,rfl,⟨A1,c1,rfl,l1,g1⟩,⟨A2,c2,rfl,l2,g2⟩⟩⟩:=h
 exact⟨A1,c1,A2,c2,rfl,l1,g1,l2,g2⟩
def rd_T63 (xs:List S63) (i:Int):S63:=xs.getD i.toNat z63
end Go.Proofs.Ytodfnelilhjoeaa.Pr
namespace Go.Proofs.Ytodfnelilhjoeaa.Op
open Go.RowKit Go.ChangeShapes Go.WideShapes Go.Proofs.YtodfnelilhjoeaaW.PrintWords
structure ZaN {α:Type} (P:Program) (d:Kd α) (t:TypeId) (ok:α→Prop):Prop where
 cells:P.cellsOf t=d.sz
 op:∀{H:Type} {enc:TypeId×Value→H} {w:World} {base fuel:Nat} {cs:List Value} {x:DataW H×List MemPlace},DataW.trod enc P w base (fun _=>true) true fuel t cs=some x→∃y,d.K w y cs∧ok y
theorem ZaN.int {P:Program} {t:TypeId} {k:IntKind} (ht:P.underlying t=some (.int k)) (hc:P.cellsOf t=1):ZaN P (Kd.int k) t (fun n=>(Lit.int k n).wf=true):=
 ⟨hc,fun h=>by
  obtain⟨n,rfl,_,hw⟩:=DataW.trod_int ht h
  exact⟨n,rfl,hw⟩⟩
theorem ZaN.bool {P:Program} {t:TypeId} (ht:P.underlying t=some .bool) (hc:P.cellsOf t=1):ZaN P Kd.bool t (fun _=>True):=
 ⟨hc,fun h=>by
  obtain⟨n,rfl,_⟩:=DataW.trod_bool ht h
  exact⟨n,rfl,trivial⟩⟩
theorem ZaN.string {P:Program} {t:TypeId} (ht:P.underlying t=some .string) (hc:P.cellsOf t=1):ZaN P Kd.string t (fun s=>s.size≤maxLen):=
 ⟨hc,fun h=>by
  obtain⟨n,rfl,_,hw⟩:=DataW.trod_string ht h
  exact⟨n,rfl,hw⟩⟩
theorem choose_list {β:Type} (Q:Nat→β→Prop) (n:Nat) (h:∀i,i<n→∃y,Q i y):∃l:List β,l.length=n∧∀i y,l[i]? = some y→Q i y:=by
 induction n with
 | zero=>exact⟨[],rfl,fun i y h=>by simp at h⟩
 | succ n ih=>
  obtain⟨l,hl,hq⟩:=ih (fun i hi=>h i (by omega))
  obtain⟨y,hy⟩:=h n (by omega)
  refine⟨l ++ [y],by simp[hl],fun i z hz=>?_⟩
  rcases Nat.lt_or_ge i l.length with hi|hi
  ·rw[List.getElem?_append_left hi] at hz
   exact hq i z hz
  ·have hlt:=(List.getElem?_eq_some_iff.1 hz).1
   rw[List.length_append,List.length_singleton] at hlt
   have e:i=l.length:=by omega
   subst e
   have hz':y=z:=by simpa using hz
   subst hz'
   rw[hl]
   exact hy
theorem ZaN.slice {α:Type} {P:Program} {d:Kd α} {t e:TypeId} {ok:α→Prop} (he:ZaN P d e ok) (ht:P.underlying t=some (.slice e)) (hc:P.cellsOf t=1) :
  ZaN P (Kd.slice e d) t (fun l=>l.length≤maxLen∧∀x∈l,ok x):=
 ⟨hc,fun {H enc w base fuel cs x} h=>by
  rcases DataW.trod_slice ht h with ⟨rfl,_⟩|⟨a,len,cap,elems,rest,n,_,rfl,_,hb,hl,hm,hlen,hel,_,_⟩
  ·exact⟨[],⟨none,0,rfl,Nat.le_refl _,rfl,by simp,fun h0=>absurd h0 (by simp)⟩,by simp⟩
  ·have key:∀i,i<len→∃y,ok y∧∃c,c.length=d.sz∧d.K w y c∧∀j u,c[j]? = some u→w.cell? (a.add (i * d.sz+j))=some u:=by
    intro i hi
    have hi':=hel i hi
    rw[Zl (by omega),Option.bind_eq_some_iff] at hi'
    obtain⟨cs',h1,h2⟩:=hi'
    obtain⟨y,hk,hy⟩:=he.op h2
    refine⟨y,hy,cs',d.K_len hk,hk,fun j u hu=>?_⟩
    have:=(World.cells?_some h1).2.2 j (by
     have:=(List.getElem?_eq_some_iff.1 hu).1
     rw[d.K_len hk] at this
     rw[he.cells];exact this)
    rw[he.cells] at this
    rw[Addr.add_add] at this
    rw[this,hu]
   obtain⟨l,hll,hq⟩:=choose_list _ len key
   refine⟨l,⟨some a,cap,by rw[hll],by omega,rfl,by rw[hll];simp only[maxLen] at hm;omega,fun h0=>⟨a,rfl,fun j p hj=>?_⟩⟩,by omega,fun x hx=>?_⟩
   ·obtain⟨_,hc'⟩:=hq j p hj
    exact hc'
   ·obtain⟨i,hi⟩:=List.getElem?_of_mem hx
    exact(hq i x hi).1⟩
theorem ZbM {α β:Type} {a:Kd α} {b:Kd β} {w:World} {x:α} {y:β} {cs:List Value} {off:Nat} (h0:a.K w x ((cs.drop off).take a.sz)) (h1:b.K w y ((cs.drop (off+a.sz)).take b.sz)) :
  (Kd.pair a b).K w (x,y) ((cs.drop off).take (Kd.pair a b).sz):=
 ⟨_,_,by show(cs.drop off).take (a.sz+b.sz)=_;rw[List.take_add,List.drop_drop],h0,h1⟩
theorem ZaN.fieldAt {α:Type} {P:Program} {d:Kd α} {t:TypeId} {ok:α→Prop} (ho:ZaN P d t ok) {H:Type} {enc:TypeId×Value→H} {w:World} {base fuel off:Nat} {cs:List Value} {x:Option (DataW H×List MemPlace)}
  (h:DataW.trod enc P w base (fun _=>true) true fuel t ((cs.drop off).take (P.cellsOf t))=x) (hx:x.isSome=true):∃y,d.K w y ((cs.drop off).take d.sz)∧ok y:=by
 obtain⟨z,rfl⟩:=Option.isSome_iff_exists.1 hx
 obtain⟨y,hk,hy⟩:=ho.op h
 rw[ho.cells] at hk
 exact⟨y,hk,hy⟩
end Go.Proofs.Ytodfnelilhjoeaa.Op
namespace Go.Proofs.Ytodfnelilhjoeaa.Pr
open Go.RowKit Go.Proofs.YtodfnelilhjoeaaW.PrintWords Go.Proofs.YtodfnelilhjoeaaW.PrintLast Go.Proofs.YtodfnelilhjoeaaW.PrintMore
attribute [local go_sem] Zaj Zah Zat Zas Zaa Z9 Zai Zag
set_option linter.unusedVariables false
set_option linter.unusedSimpArgs false
open Go.Proofs.Ytodfnelilhjoeaa.Op Go.ChangeShapes Go.WideShapes
def okS127 (x:S127):Prop:=(fun s_:ByteArray=>s_.size≤maxLen) x.f0∧(fun l_:List Int=>l_.length≤maxLen∧∀x_∈l_,(fun n_:Int=>(Lit.int .i64 n_).wf=true) x_) x.f1∧(fun n_:Int=>(Lit.int .i64 n_).wf=true) x.f2
theorem op_k127:ZaN Try.prog k127 127 okS127:=
 ⟨by kernel_rfl,fun {H enc w base fuel cs x} h=>by
  obtain⟨xs,n,_,_,hl,hlen,hf⟩:=DataW.trod_struct Try.underlying127 h
  have hl':cs.length=3:=hl.trans (by kernel_rfl)
  have hlen':xs.length=3:=hlen
  obtain⟨y0,h0,o0⟩:=(ZaN.string Try.underlying9 (by kernel_rfl)).fieldAt (hf 0 _ rfl) (by rw[Zl (by omega)];rfl)
  obtain⟨y1,h1,o1⟩:=(ZaN.slice (ZaN.int Try.underlying3 (by kernel_rfl)) Try.underlying26 (by kernel_rfl)).fieldAt (hf 1 _ rfl) (by rw[Zl (by omega)];rfl)
  obtain⟨y2,h2,o2⟩:=(ZaN.int Try.underlying3 (by kernel_rfl)).fieldAt (hf 2 _ rfl) (by rw[Zl (by omega)];rfl)
  have hk:k127.K w ⟨y0,y1,y2⟩ ((cs.drop 0).take k127.sz):=(ZbM (off:=0) h0 (ZbM (off:=1) h1 h2))
  have hcs:(cs.drop 0).take k127.sz=cs:=by rw[List.drop_zero];exact List.take_of_length_le (by rw[hl'];exact Nat.le_refl _)
  rw[hcs] at hk
  exact⟨_,hk,o0,o1,o2⟩⟩
def okS130 (x:S130):Prop:=(fun n_:Int=>(Lit.int .i64 n_).wf=true) x.f0∧(fun n_:Int=>(Lit.int .i64 n_).wf=true) x.f1∧(fun n_:Int=>(Lit.int .i64 n_).wf=true) x.f2∧(fun n_:Int=>(Lit.int .i64 n_).wf=true) x.f3∧(fun _:Bool=>True) x.f4
theorem op_k130:ZaN Try.prog k130 130 okS130:=
 ⟨by kernel_rfl,fun {H enc w base fuel cs x} h=>by
  obtain⟨xs,n,_,_,hl,hlen,hf⟩:=DataW.trod_struct Try.underlying130 h
  have hl':cs.length=5:=hl.trans (by kernel_rfl)
  have hlen':xs.length=5:=hlen
  obtain⟨y0,h0,o0⟩:=(ZaN.int Try.underlying3 (by kernel_rfl)).fieldAt (hf 0 _ rfl) (by rw[Zl (by omega)];rfl)
  obtain⟨y1,h1,o1⟩:=(ZaN.int Try.underlying3 (by kernel_rfl)).fieldAt (hf 1 _ rfl) (by rw[Zl (by omega)];rfl)
  obtain⟨y2,h2,o2⟩:=(ZaN.int Try.underlying3 (by kernel_rfl)).fieldAt (hf 2 _ rfl) (by rw[Zl (by omega)];rfl)
  obtain⟨y3,h3,o3⟩:=(ZaN.int Try.underlying3 (by kernel_rfl)).fieldAt (hf 3 _ rfl) (by rw[Zl (by omega)];rfl)
  obtain⟨y4,h4,o4⟩:=(ZaN.bool Try.underlying4 (by kernel_rfl)).fieldAt (hf 4 _ rfl) (by rw[Zl (by omega)];rfl)
  have hk:k130.K w ⟨y0,y1,y2,y3,y4⟩ ((cs.drop 0).take k130.sz):=(ZbM (off:=0) h0 (ZbM (off:=1) h1 (ZbM (off:=2) h2 (ZbM (off:=3) h3 h4))))
  have hcs:(cs.drop 0).take k130.sz=cs:=by rw[List.drop_zero];exact List.take_of_length_le (by rw[hl'];exact Nat.le_refl _)
  rw[hcs] at hk
  exact⟨_,hk,o0,o1,o2,o3,o4⟩⟩
def okS25 (x:S25):Prop:=(fun l_:List (S127)=>l_.length≤maxLen∧∀x_∈l_,okS127 x_) x.f0∧(fun l_:List (S130)=>l_.length≤maxLen∧∀x_∈l_,okS130 x_) x.f1∧(fun n_:Int=>(Lit.int .i64 n_).wf=true) x.f2
theorem op_k25:ZaN Try.prog k25 25 okS25:=
 ⟨by kernel_rfl,fun {H enc w base fuel cs x} h=>by
  obtain⟨xs,n,_,_,hl,hlen,hf⟩:=DataW.trod_struct Try.underlying25 h
  have hl':cs.length=3:=hl.trans (by kernel_rfl)
  have hlen':xs.length=3:=hlen
  obtain⟨y0,h0,o0⟩:=(ZaN.slice op_k127 Try.underlying22 (by kernel_rfl)).fieldAt (hf 0 _ rfl) (by rw[Zl (by omega)];rfl)
  obtain⟨y1,h1,o1⟩:=(ZaN.slice op_k130 Try.underlying23 (by kernel_rfl)).fieldAt (hf 1 _ rfl) (by rw[Zl (by omega)];rfl)
  obtain⟨y2,h2,o2⟩:=(ZaN.int Try.underlying3 (by kernel_rfl)).fieldAt (hf 2 _ rfl) (by rw[Zl (by omega)];rfl)
  have hk:k25.K w ⟨y0,y1,y2⟩ ((cs.drop 0).take k25.sz):=(ZbM (off:=0) h0 (ZbM (off:=1) h1 h2))
  have hcs:(cs.drop 0).take k25.sz=cs:=by rw[List.drop_zero];exact List.take_of_length_le (by rw[hl'];exact Nat.le_refl _)
  rw[hcs] at hk
  exact⟨_,hk,o0,o1,o2⟩⟩
def okS28 (x:S28):Prop:=(fun l_:List Int=>l_.length≤maxLen∧∀x_∈l_,(fun n_:Int=>(Lit.int .i64 n_).wf=true) x_) x.f0∧(fun l_:List Int=>l_.length≤maxLen∧∀x_∈l_,(fun n_:Int=>(Lit.int .i64 n_).wf=true) x_) x.f1
theorem op_k28:ZaN Try.prog k28 28 okS28:=
 ⟨by kernel_rfl,fun {H enc w base fuel cs x} h=>by
  obtain⟨xs,n,_,_,hl,hlen,hf⟩:=DataW.trod_struct Try.underlying28 h
  have hl':cs.length=2:=hl.trans (by kernel_rfl)
  have hlen':xs.length=2:=hlen
  obtain⟨y0,h0,o0⟩:=(ZaN.slice (ZaN.int Try.underlying3 (by kernel_rfl)) Try.underlying26 (by kernel_rfl)).fieldAt (hf 0 _ rfl) (by rw[Zl (by omega)];rfl)
  obtain⟨y1,h1,o1⟩:=(ZaN.slice (ZaN.int Try.underlying3 (by kernel_rfl)) Try.underlying26 (by kernel_rfl)).fieldAt (hf 1 _ rfl) (by rw[Zl (by omega)];rfl)
  have hk:k28.K w ⟨y0,y1⟩ ((cs.drop 0).take k28.sz):=(ZbM (off:=0) h0 h1)
  have hcs:(cs.drop 0).take k28.sz=cs:=by rw[List.drop_zero];exact List.take_of_length_le (by rw[hl'];exact Nat.le_refl _)
  rw[hcs] at hk
  exact⟨_,hk,o0,o1⟩⟩
def okS63 (x:S63):Prop:=(fun n_:Int=>(Lit.int .i64 n_).wf=true) x.f0∧(fun l_:List Int=>l_.length≤maxLen∧∀x_∈l_,(fun n_:Int=>(Lit.int .i64 n_).wf=true) x_) x.f1∧(fun l_:List Int=>l_.length≤maxLen∧∀x_∈l_,(fun n_:Int=>(Lit.int .i64 n_).wf=true) x_) x.f2
theorem op_k63:ZaN Try.prog k63 63 okS63:=
 ⟨by kernel_rfl,fun {H enc w base fuel cs x} h=>by
  obtain⟨xs,n,_,_,hl,hlen,hf⟩:=DataW.trod_struct Try.underlying63 h
  have hl':cs.length=3:=hl.trans (by kernel_rfl)
  have hlen':xs.length=3:=hlen
  obtain⟨y0,h0,o0⟩:=(ZaN.int Try.underlying3 (by kernel_rfl)).fieldAt (hf 0 _ rfl) (by rw[Zl (by omega)];rfl)
  obtain⟨y1,h1,o1⟩:=(ZaN.slice (ZaN.int Try.underlying3 (by kernel_rfl)) Try.underlying26 (by kernel_rfl)).fieldAt (hf 1 _ rfl) (by rw[Zl (by omega)];rfl)
  obtain⟨y2,h2,o2⟩:=(ZaN.slice (ZaN.int Try.underlying3 (by kernel_rfl)) Try.underlying26 (by kernel_rfl)).fieldAt (hf 2 _ rfl) (by rw[Zl (by omega)];rfl)
  have hk:k63.K w ⟨y0,y1,y2⟩ ((cs.drop 0).take k63.sz):=(ZbM (off:=0) h0 (ZbM (off:=1) h1 h2))
  have hcs:(cs.drop 0).take k63.sz=cs:=by rw[List.drop_zero];exact List.take_of_length_le (by rw[hl'];exact Nat.le_refl _)
  rw[hcs] at hk
  exact⟨_,hk,o0,o1,o2⟩⟩
end Go.Proofs.Ytodfnelilhjoeaa.Pr
namespace Go.Proofs.Ytodfnelilhjoeaa.Ni
open Go.RowKit Go.Proofs.YtodfnelilhjoeaaW.PrintWords
theorem ZI {w W:World} (hb:Below w.heap.size w W) {a:Addr} {v:Value} (h:w.cell? a=some v):W.cell? a=some v:=(hb.cell (Zc w _ h)).trans h
theorem wrap_succ {i:Int} (h0:0≤i) (h:i<9223372036854775807):wrap64 (i+1)=i+1:=by
 unfold wrap64;omega
theorem Za5 {i:Int} (h0 : -9223372036854775808≤i) (h:i≤9223372036854775807):wrap64 i=i:=by
 unfold wrap64;omega
theorem Zal {i n:Nat} (h:i<n) (hn:n≤9223372036854775807):wrap64 ((i:Int)+1)=((i+1:Nat):Int):=by
 unfold wrap64;omega
theorem wrap_pred {i:Nat} (h:0<i) (hn:i≤9223372036854775807):wrap64 ((i:Int) - 1)=((i - 1:Nat):Int):=by
 unfold wrap64;omega
theorem wf_i64 {n:Int} (h:(Lit.int .i64 n).wf=true) : -9223372036854775808≤n∧n≤9223372036854775807:=by
 simp[Lit.wf,IntKind.min,IntKind.max,IntKind.signed,IntKind.bits] at h
 omega
theorem Za0 (l:List Int) (i:Nat):rd l (i:Int)=l.getD i 0:=by unfold rd;rw[Int.toNat_natCast]
theorem ZaI {α:Type} {l:List α} {i:Nat} (h:i<l.length) (d:α):l.drop i=l.getD i d :: l.drop (i+1):=by
 rw[List.drop_eq_getElem_cons h,List.getD_eq_getElem?_getD,Zl h];rfl
theorem Zbq {α:Type} {l:List α} {i:Nat} (h:i<l.length) (d:α):l.getD i d∈l:=by
 rw[List.getD_eq_getElem?_getD,Zl h];exact List.getElem_mem h
theorem getD_some {α:Type} {l:List α} {i:Nat} (h:i<l.length) (d:α):l[i]? = some (l.getD i d):=by
 rw[List.getD_eq_getElem?_getD,Zl h];rfl
theorem ZdP {α:Type} (ys:List α) (z d:α) (i:Nat) (h:i<ys.length) (x:α) (hx:x=ys.getD i d):(ys.take i ++ List.replicate (ys.length - i) z).set i x=ys.take (i+1) ++ List.replicate (ys.length - (i+1)) z:=by
 subst hx
 have e:ys.length - i=(ys.length - (i+1))+1:=by omega
 rw[e,List.replicate_succ,List.set_append_right _ _ (by simp;omega)]
 have e2:i - (ys.take i).length=0:=by simp;omega
 rw[e2,List.set_cons_zero,List.take_succ_eq_append_getElem h,List.append_assoc]
 congr 2
 simp[List.getD_eq_getElem?_getD,Zl h]
theorem ZaK (n:Nat) (Q:Nat→Nat→Prop) (K:Nat) (hend:∀k,K≤k→Q (k+1) n) (hstep:∀k i,K≤k→i<n→Q k (i+1)→Q (k+1) i):∀(i k:Nat),i≤n→K+(n - i)<k→Q k i:=by
 have key:∀(d i k:Nat),i≤n→n - i=d→K+d<k→Q k i:=by
  intro d
  induction d with
  | zero=>
   intro i k hi hd hk
   obtain⟨m,rfl⟩:∃m,k=m+1:=⟨k - 1,by omega⟩
   obtain rfl:i=n:=by omega
   exact hend m (by omega)
  | succ d ih=>
   intro i k hi hd hk
   obtain⟨m,rfl⟩:∃m,k=m+1:=⟨k - 1,by omega⟩
   exact hstep m i (by omega) (by omega) (ih (i+1) m (by omega) (by omega) (by omega))
 intro i k hi hk
 exact key (n - i) i k hi rfl hk
theorem set_mid (pre:List Int) (x y:Int) (post:List Int):(pre ++ x :: post).set pre.length y=pre ++ y :: post:=by
 rw[List.set_append_right _ _ (Nat.le_refl _),Nat.sub_self,List.set_cons_zero]
def Zbo {α:Type} (p:α→Bool) (l:List α):Int:=match l.findIdx? p with|some i=>i|none=>-1
theorem ZbN {α:Type} (p:α→Bool) (l:List α) (k:Nat) (x:α) (hk:l[k]? = some x) (hx:p x=true) (hb:∀j y,j<k→l[j]? = some y→p y=false):Zbo p l=(k:Int):=by
 have h:l.findIdx? p=some k:=by
  rw[List.findIdx?_eq_some_iff_getElem]
  obtain⟨hl,he⟩:=List.getElem?_eq_some_iff.1 hk
  refine⟨hl,by rw[he];exact hx,fun j hj=>?_⟩
  have:=hb j _ hj (Zl (by omega))
  simp[this]
 simp[Zbo,h]
theorem ZbF {α:Type} (p:α→Bool) (l:List α) (hb:∀j y,j<l.length→l[j]? = some y→p y=false):Zbo p l=-1:=by
 have h:l.findIdx? p=none:=by
  rw[List.findIdx?_eq_none_iff]
  intro x hx
  obtain⟨j,hj⟩:=List.getElem?_of_mem hx
  exact hb j x (List.getElem?_eq_some_iff.1 hj).1 hj
 simp[Zbo,h]
theorem Zdx {α:Type} (p:α→Bool) (l:List α):decide (0≤Zbo p l)=l.any p:=by
 unfold Zbo
 cases h:l.findIdx? p with
 | some i=>
  rw[List.findIdx?_eq_some_iff_getElem] at h
  obtain⟨hl,hp,_⟩:=h
  have:l.any p=true:=List.any_eq_true.2 ⟨_,List.getElem_mem hl,hp⟩
  rw[this]
  exact Ze (Int.natCast_nonneg _)
 | none=>
  rw[List.findIdx?_eq_none_iff] at h
  have:l.any p=false:=by rw[List.any_eq_false];intro x hx;rw[h x hx];simp
  rw[this];rfl
theorem ZdQ {α:Type} (p:α→Bool) (l:List α) : -1≤Zbo p l∧Zbo p l<l.length:=by
 unfold Zbo
 cases h:l.findIdx? p with
 | some i=>
  rw[List.findIdx?_eq_some_iff_getElem] at h
  obtain⟨hl,_⟩:=h
  simp only;omega
 | none=>simp only;omega
def cnt0 (l:List Int):Int:=((l.filter (· == 0)).length:Int)
def Za6 (x:Int):Bool:=!(x == 0) && decide (-3≤x) && decide (x≤3)
def prp (x:Int):Int:=if x<0 then -x else x
def ZbC (p:Int):List Int→Bool
 | []=>true
 | x :: t=>Za6 x && decide (p<prp x) && ZbC (prp x) t
def labB (l:List Int):Bool:=ZbC 0 l
def ZaY (l:List Int):Bool:=decide (l.length=3) && l.all (fun n=>decide (-1≤n) && decide (n≤1))
theorem Zbm (x:Int):Za6 x=true↔x≠0∧-3≤x∧x≤3:=by
 simp[Za6,and_assoc]
theorem Zc6 {x:Int} (h:Za6 x=true):1≤prp x∧prp x≤3:=by
 have:=(Zbm x).1 h
 unfold prp;split <;> omega
def Zcj (v:List Int) (a:Int):List Int→Int
 | []=>a
 | x :: t=>Zcj v (min a (if x<0 then -(v.getD (prp x - 1).toNat 0) else v.getD (prp x - 1).toNat 0)) t
def stB (l v:List Int):Int:=Zcj v 1 l
def isNameB (s:ByteArray):Bool:=decide (1≤s.size) && decide (s.size≤8) && (List.range s.size).all fun i=>let c:=bt s i;(decide (97≤c) && decide (c≤122)) || (decide (0<i) && decide (48≤c) && decide (c≤57))
end Go.Proofs.Ytodfnelilhjoeaa.Ni
namespace Go.Proofs.Ytodfnelilhjoeaa.Pr
open Go.RowKit Go.Proofs.YtodfnelilhjoeaaW.PrintWords Go.Proofs.YtodfnelilhjoeaaW.PrintLast Go.Proofs.YtodfnelilhjoeaaW.PrintMore
attribute [local go_sem] Zaj Zah Zat Zas Zaa Z9 Zai Zag
set_option linter.unusedVariables false
set_option linter.unusedSimpArgs false
def Zad.l0:Nat→List Int→List Int→Int→Option (List Int)
 | 0,_,_,_=>none
 | k+1,x0,x3,x4=>if x4<(x0.length:Int) then(if 0≤x4 then(if x4<(x3.length:Int) then(Zad.l0 k x0 (x3.set (x4:Int).toNat (rd x0 x4)) (wrap64 (x4+1))) else(none)) else(none)) else(some x3)
def Zad.f (k:Nat) (l0:List Int):Option (List Int):=if 0≤(l0.length:Int) then(if ((l0.length:Int):Int).toNat≤35184372088832 then(Zad.l0 k l0 (List.replicate ((l0.length:Int):Int).toNat 0) 0) else(none)) else(none)
set_option maxHeartbeats 8000000 in
set_option maxRecDepth 100000 in
theorem Zad.calls (k:Nat) (A0:Option Addr) (c0:Nat) (l0:List Int) (r:List Int) (w:World) (hr0:Kd.C (Kd.int .i64) w A0 l0.length l0) (hc0:l0.length≤c0) (h:Zad.f k l0=some r) :
  Calls Try.prog 58 #[.slice A0 l0.length c0] w fun e w'=>∃v0_:Value,e=.returned (v0_)∧Kd.R (Kd.int .i64) 3 w' w.heap.size (fun _=>True) v0_ r∧Below w.heap.size w w':=by
 have HR0:=Za hr0;have HC0:=Za hc0;clear hr0 hc0
 have HB:=Za (Below.refl w.heap.size w)
 have H:(if 0≤(l0.length:Int) then(if ((l0.length:Int):Int).toNat≤35184372088832 then(Zad.l0 k l0 (List.replicate ((l0.length:Int):Int).toNat 0) 0) else(none)) else(none))=some r:=h
 clear h
 by_cases c2:0≤(l0.length:Int)
 ·rw[if_pos c2] at H
  have c2b0:=eq_true c2
  have c2b1:decide (0≤(l0.length:Int))=true:=Ze c2
  clear c2
  by_cases c3:((l0.length:Int):Int).toNat≤35184372088832
  ·rw[if_pos c3] at H
   have c3b0:=eq_true c3
   have c3b1:decide (((l0.length:Int):Int).toNat≤35184372088832)=true:=Ze c3
   clear c3
   obtain⟨y58001,hy58001⟩:∃y_:List Int,y_=(List.replicate ((l0.length:Int):Int).toNat 0):=⟨_,rfl⟩
   replace H:(Zad.l0 k l0 y58001 0)=some r:=by first|(rw[hy58001];with_reducible exact H)|(have H2_:=(Zi _ _).symm.trans H;rw[hy58001];with_reducible exact H2_)|(have H2_:=(Zi _ _).symm.trans H;with_reducible exact H2_)|with_reducible exact H|(rw[hy58001];exact H)|exact H
   have Ny58001:=Za hy58001;clear hy58001
   have H':=Za H
   clear H
   go_enter Try.func58,Try.ntmps58
   go_wp2_with (first|((with_reducible refine ZG (N:=7) rfl ?_);refine Kd.R_make (Kd.int .i64) _ 3 rfl (N:=7) rfl 26 _ _ rfl (l0.length:Int) rfl rfl Try.underlying26 (.int .i64 0) 8 info3 rfl (by decide) (by omega) 0 (ok:=fun _=>True) (okp:=fun _=>True) rfl (fun _ hk=>hk) trivial (Zd (by first|(with_reducible assumption)|assumption)) (Nat.le_trans (Nat.mul_le_mul_right _ (Zd (by first|(with_reducible assumption)|assumption):(l0.length:Int).toNat≤35184372088832)) (by omega)) (Below.refl _ _) (Nat.le_refl _) ?_;intro v58002 w4 ho5 hb hg_ hnew_;clear hg_ hnew_;(first|rw[← Ny58001.out] at ho5|(simp only[Int.reduceToNat] at ho5;rw[← Ny58001.out] at ho5));have n0_:=Za (Kd.R_lower ho5 (Zz (by repeat(first|(with_reducible first|exact HB.out|apply Zp|apply Zn|apply Zr)|exact HB.out))));have n1_:=Za (Zv (by repeat(first|(with_reducible first|exact HB.out|apply Zp|apply Zn|apply Zr)|exact HB.out)) hb);clear HB;have HO58003:=n0_;have HB:=n1_;clear n0_ n1_;clear hb ho5))
   go_loopg [4] k (fun kq v4 w'=>∃(x3_1:List Int) (x4_1:Int),v4=.int .i64 x4_1∧Aside0 (Zad.l0 kq l0 x3_1 x4_1=some r)∧Aside0 (kq≤k)∧Aside0 (Kd.R (Kd.int .i64) 3 w' w.heap.size (fun _=>True) v58002 x3_1)∧Aside0 (Below w.heap.size w w'))
   case atStart=>exact⟨(y58001),(0),(by first|rfl|(simp;done)|(simp[*];done)),H',⟨Nat.le_refl _⟩,⟨by(with_reducible repeat(first|apply Kd.R_alloc|apply Kd.R_drewN|apply Kd.R_drew));exact HO58003.out⟩,⟨by repeat(first|(with_reducible first|exact HB.out|apply Zp|apply Zn|apply Zr)|exact HB.out)⟩⟩
   case round=>
    clear H'
    try clear c2
    try clear c2b0
    try clear c2b1
    try clear p2
    try clear c3
    try clear c3b0
    try clear c3b1
    try clear c5
    obtain⟨x3_1,x4_1,rfl,HA,HK1,HO_3,HB⟩:=hrel
    cases gk with
    | zero=>exact absurd HA.out (by simp[Zad.l0])
    | succ k1=>
     have H:=HA.out
     clear HA
     simp only[Zad.l0] at H
     by_cases c6:x4_1<(l0.length:Int)
     ·rw[if_pos c6] at H
      have c6b0:decide (x4_1<(l0.length:Int))=true:=Ze c6
      clear c6
      by_cases c7:0≤x4_1
      ·rw[if_pos c7] at H
       have c7b0:decide (0≤x4_1)=true:=Ze c7
       clear c7
       by_cases c8:x4_1<(x3_1.length:Int)
       ·rw[if_pos c8] at H
        have c8b0:decide (x4_1<(x3_1.length:Int))=true:=Ze c8
        clear c8
        obtain⟨y58005,hy58005⟩:∃y_:List Int,y_=(x3_1.set (x4_1:Int).toNat (rd l0 x4_1)):=⟨_,rfl⟩
        replace H:(Zad.l0 k1 l0 y58005 (wrap64 (x4_1+1)))=some r:=by first|(rw[hy58005];with_reducible exact H)|(have H2_:=(Zi _ _).symm.trans H;rw[hy58005];with_reducible exact H2_)|(have H2_:=(Zi _ _).symm.trans H;with_reducible exact H2_)|with_reducible exact H|(rw[hy58005];exact H)|exact H
        have Ny58005:=Za hy58005;clear hy58005
        have H':=Za H
        clear H
        have p58004:0≤(x4_1:Int):=Zd (by first|(with_reducible assumption)|assumption)
        have q58004:x4_1<(l0.length:Int):=Zd (by first|(with_reducible assumption)|assumption)
        obtain⟨ad58004,e58004,hx58004_0⟩:=Kd.at_int HR0.out x4_1 p58004 q58004
        cases e58004
        replace hx58004_0:=(HB.out.cell (Zc w _ hx58004_0)).trans hx58004_0
        replace p58004:=eq_true p58004
        replace q58004:=eq_true q58004
        have p9:0≤(x4_1:Int):=Zd (by first|(with_reducible assumption)|assumption)
        have q9:(x4_1:Int)<((x3_1.length:Int):Int):=Zd (by first|(with_reducible assumption)|assumption)
        obtain⟨go9,co9,eo9,gb9,gl9,cl9,HG9⟩:=Kd.R_form HO_3.out (by omega)
        (first|cases eo9|(injection eo9 with ea_ en_ ec_;(first|subst ea_|(injection ea_ with ea_;subst ea_));subst ec_;clear en_))
        have GB9:=Za gb9;have GG9:=Za HG9;clear gb9 gl9 HG9
        obtain⟨hx9_0,hf9_0⟩:=Kd.R_celln 0 HO_3.out (x4_1:Int) p9 q9
        replace p9:=eq_true p9
        replace q9:=eq_true q9
        have HP10:=Kd.R_putg HO_3.out (x4_1:Int) (rd l0 x4_1)
        go_wp2_with (first|((with_reducible refine Zdi (t:=3) (p:=20) rfl ?_);refine Zc1 (t:=3) (p:=20) (v:=?vo_w11) (w1:=(wr.setCell ⟨go9,(x4_1:Int).toNat,none⟩ (.int .i64 (rd l0 x4_1)))) ?hg ?ho ?hn ?hr ?_;(case ho=>rfl);(case hg=>rfl);(case hn=>rfl);(case hr=>first|(go_simp;done)|(go_simp;rfl));intro w11 hw;have hg:wr.grownBy w11 (some go9):=(by rw[hw];exact HP10.2);have hp_:Kd.R (Kd.int .i64) 3 w11 w.heap.size (fun _=>True) (.slice (some ⟨go9,0,none⟩) x3_1.length co9) y58005:=(by rw[hw,Ny58005.out];exact HP10.1);clear HP10;have n0_:=Za (hp_);have n1_:=Za ((by rw[hw];exact Zq (HB.out) GB9.out:Below w.heap.size w w11));clear HO_3;clear HB;have HO_3:=n0_;have HB:=n1_;clear n0_ n1_;clear hg hw hp_))
        go_roundg k1
        case measure=>have:=HK1.out;omega
        case rel=>exact⟨(y58005),(wrap64 (x4_1+1)),(by first|rfl|(simp;done)|(simp[*];done)),H',⟨by have:=HK1.out;omega⟩,⟨by(with_reducible repeat(first|apply Kd.R_alloc|apply Kd.R_drewN|apply Kd.R_drew));exact HO_3.out⟩,⟨by repeat(first|(with_reducible first|exact HB.out|apply Zp|apply Zn|apply Zr)|exact HB.out)⟩⟩
       ·rw[if_neg c8] at H
        exact absurd H (by simp)
      ·rw[if_neg c7] at H
       exact absurd H (by simp)
     ·rw[if_neg c6] at H
      have c6b0:decide (x4_1<(l0.length:Int))=false:=Zf c6
      clear c6
      obtain rfl:=Zg H
      go_wp2
      go_ret
      exact⟨_,by first|rfl|(simp[Zy,Zx] <;> rfl)|(simp[*,Zy,Zx] <;> rfl),by(with_reducible repeat(first|apply Kd.R_alloc|apply Kd.R_drewN|apply Kd.R_drew));exact HO_3.out,by repeat(first|(with_reducible first|exact HB.out|apply Zp|apply Zn|apply Zr)|exact HB.out)⟩
  ·rw[if_neg c3] at H
   exact absurd H (by simp)
 ·rw[if_neg c2] at H
  exact absurd H (by simp)
def ZaH.l0:Nat→List Int→List Int→Int→Option (Bool)
 | 0,_,_,_=>none
 | k+1,x0,x1,x5=>if x5<(x0.length:Int) then(if 0≤x5 then(if x5<(x1.length:Int) then(if (rd x0 x5)=(rd x1 x5) then(ZaH.l0 k x0 x1 (wrap64 (x5+1))) else(some false)) else(none)) else(none)) else(some true)
def ZaH.f (k:Nat) (l0:List Int) (l1:List Int):Option (Bool):=if (l0.length:Int)=(l1.length:Int) then(ZaH.l0 k l0 l1 0) else(some false)
set_option maxHeartbeats 8000000 in
set_option maxRecDepth 100000 in
theorem ZaH.calls (k:Nat) (A0:Option Addr) (c0:Nat) (l0:List Int) (A1:Option Addr) (c1:Nat) (l1:List Int) (r:Bool) (w:World) (hr0:Kd.C (Kd.int .i64) w A0 l0.length l0) (hc0:l0.length≤c0) (hr1:Kd.C (Kd.int .i64) w A1 l1.length l1) (hc1:l1.length≤c1) (h:ZaH.f k l0 l1=some r) :
  Calls Try.prog 25 #[.slice A0 l0.length c0,.slice A1 l1.length c1] w fun e w'=>e=.returned (.bool r)∧ZF w w':=by
 have HR0:=Za hr0;have HC0:=Za hc0;clear hr0 hc0;have HR1:=Za hr1;have HC1:=Za hc1;clear hr1 hc1
 have H:(if (l0.length:Int)=(l1.length:Int) then(ZaH.l0 k l0 l1 0) else(some false))=some r:=h
 clear h
 by_cases c3:(l0.length:Int)=(l1.length:Int)
 ·rw[if_pos c3] at H
  have c3b0:((l0.length:Int) == (l1.length:Int))=true:=beq_iff_eq.mpr c3
  have c3b1:((l0.length:Int) != (l1.length:Int))=false:=bne_eq_false_iff_eq.mpr c3
  have c3b2:(l0.length == l1.length)=true:=by first|simpa using c3|(simp at c3 ⊢;omega)
  clear c3
  have H':=Za H
  clear H
  go_enter Try.func25,Try.ntmps25
  go_wp2
  repeat(go_quiet (fail);try go_wp2)
  go_loopg [5] k (fun kq v5 w'=>∃(x5_1:Int),v5=.int .i64 x5_1∧Aside0 (ZaH.l0 kq l0 l1 x5_1=some r)∧Aside0 (kq≤k)∧ZF w w')
  case atStart=>exact⟨(0),(by first|rfl|(simp;done)|(simp[*];done)),H',⟨Nat.le_refl _⟩,by repeat(first|exact ZF.refl _|apply ZF.step)⟩
  case round=>
   clear H'
   try clear c1
   try clear c2
   try clear p2
   try clear c3
   try clear c3b0
   try clear c3b1
   try clear c3b2
   obtain⟨x5_1,rfl,HA,HK1,⟨m1,rfl⟩⟩:=hrel
   cases gk with
   | zero=>exact absurd HA.out (by simp[ZaH.l0])
   | succ k1=>
    have H:=HA.out
    clear HA
    simp only[ZaH.l0] at H
    by_cases c4:x5_1<(l0.length:Int)
    ·rw[if_pos c4] at H
     have c4b0:decide (x5_1<(l0.length:Int))=true:=Ze c4
     clear c4
     by_cases c5:0≤x5_1
     ·rw[if_pos c5] at H
      have c5b0:decide (0≤x5_1)=true:=Ze c5
      clear c5
      by_cases c6:x5_1<(l1.length:Int)
      ·rw[if_pos c6] at H
       have c6b0:decide (x5_1<(l1.length:Int))=true:=Ze c6
       clear c6
       by_cases c7:(rd l0 x5_1)=(rd l1 x5_1)
       ·rw[if_pos c7] at H
        have c7b0:((rd l0 x5_1) == (rd l1 x5_1))=true:=beq_iff_eq.mpr c7
        have c7b1:((rd l0 x5_1) != (rd l1 x5_1))=false:=bne_eq_false_iff_eq.mpr c7
        clear c7
        have H':=Za H
        clear H
        have p25001:0≤(x5_1:Int):=Zd (by first|(with_reducible assumption)|assumption)
        have q25001:x5_1<(l0.length:Int):=Zd (by first|(with_reducible assumption)|assumption)
        obtain⟨ad25001,e25001,hx25001_0⟩:=Kd.at_int HR0.out x5_1 p25001 q25001
        cases e25001
        replace p25001:=eq_true p25001
        replace q25001:=eq_true q25001
        have p25002:0≤(x5_1:Int):=Zd (by first|(with_reducible assumption)|assumption)
        have q25002:x5_1<(l1.length:Int):=Zd (by first|(with_reducible assumption)|assumption)
        obtain⟨ad25002,e25002,hx25002_0⟩:=Kd.at_int HR1.out x5_1 p25002 q25002
        cases e25002
        replace p25002:=eq_true p25002
        replace q25002:=eq_true q25002
        go_wp2
        repeat(go_quiet (fail);try go_wp2)
        go_roundg k1
        case measure=>have:=HK1.out;omega
        case rel=>exact⟨(wrap64 (x5_1+1)),(by first|rfl|(simp;done)|(simp[*];done)),H',⟨by have:=HK1.out;omega⟩,by repeat(first|exact ZF.refl _|apply ZF.step)⟩
       ·rw[if_neg c7] at H
        have c7b0:((rd l0 x5_1) == (rd l1 x5_1))=false:=beq_eq_false_iff_ne.mpr c7
        have c7b1:((rd l0 x5_1) != (rd l1 x5_1))=true:=bne_iff_ne.mpr c7
        obtain rfl:=Zg H
        have p25001:0≤(x5_1:Int):=Zd (by first|(with_reducible assumption)|assumption)
        have q25001:x5_1<(l0.length:Int):=Zd (by first|(with_reducible assumption)|assumption)
        obtain⟨ad25001,e25001,hx25001_0⟩:=Kd.at_int HR0.out x5_1 p25001 q25001
        cases e25001
        replace p25001:=eq_true p25001
        replace q25001:=eq_true q25001
        have p25002:0≤(x5_1:Int):=Zd (by first|(with_reducible assumption)|assumption)
        have q25002:x5_1<(l1.length:Int):=Zd (by first|(with_reducible assumption)|assumption)
        obtain⟨ad25002,e25002,hx25002_0⟩:=Kd.at_int HR1.out x5_1 p25002 q25002
        cases e25002
        replace p25002:=eq_true p25002
        replace q25002:=eq_true q25002
        go_wp2
        repeat(go_quiet (fail);try go_wp2)
        go_ret
        exact⟨by first|rfl|(simp;done)|(simp[*];done),by repeat(first|exact ZF.refl _|apply ZF.step)⟩
      ·rw[if_neg c6] at H
       exact absurd H (by simp)
     ·rw[if_neg c5] at H
      exact absurd H (by simp)
    ·rw[if_neg c4] at H
     have c4b0:decide (x5_1<(l0.length:Int))=false:=Zf c4
     clear c4
     obtain rfl:=Zg H
     go_wp2
     repeat(go_quiet (fail);try go_wp2)
     go_ret
     exact⟨by first|rfl|(simp;done)|(simp[*];done),by repeat(first|exact ZF.refl _|apply ZF.step)⟩
 ·rw[if_neg c3] at H
  have c3b0:((l0.length:Int) == (l1.length:Int))=false:=beq_eq_false_iff_ne.mpr c3
  have c3b1:((l0.length:Int) != (l1.length:Int))=true:=bne_iff_ne.mpr c3
  have c3b2:(l0.length == l1.length)=false:=by first|simpa using c3|(simp at c3 ⊢;omega)
  obtain rfl:=Zg H
  go_enter Try.func25,Try.ntmps25
  go_wp2
  repeat(go_quiet (fail);try go_wp2)
  go_ret
  exact⟨by first|rfl|(simp;done)|(simp[*];done),by repeat(first|exact ZF.refl _|apply ZF.step)⟩
end Go.Proofs.Ytodfnelilhjoeaa.Pr
namespace Go.Proofs.Ytodfnelilhjoeaa.Pr
open Go.RowKit Go.Proofs.YtodfnelilhjoeaaW.PrintWords Go.Proofs.Ytodfnelilhjoeaa.Ni
theorem ZdN (l:List Int) (hl:l.length≤35184372088832) (k:Nat) (hk:2 ^ 64≤k):Zad.f k l=some l:=by
 have key:=ZaK l.length (fun k i=>Zad.l0 k l (l.take i ++ List.replicate (l.length - i) 0) (i:Int)=some l) 0
  (fun k _=>by simp[Zad.l0])
  (fun k i _ hi ih=>by
   simp only[Zad.l0]
   rw[if_pos (by omega),if_pos (by omega),if_pos (by simp;omega),Zal hi (by omega),Int.toNat_natCast,ZdP l 0 0 i hi _ (Za0 l i)]
   exact ih) 0 k (Nat.zero_le _) (by omega)
 unfold Zad.f
 rw[if_pos (by omega),if_pos (by omega),Int.toNat_natCast]
 simpa using key
theorem eqIntS_f (l m:List Int) (hl:l.length≤9223372036854775807) (k:Nat) (hk:2 ^ 64≤k):ZaH.f k l m=some (decide (l=m)):=by
 unfold ZaH.f
 by_cases e:l.length=m.length
 ·rw[if_pos (by omega)]
  have key:=ZaK l.length (fun k i=>ZaH.l0 k l m (i:Int)=some (decide (l.drop i=m.drop i))) 0
   (fun k _=>by
    simp only[ZaH.l0]
    rw[if_neg (by omega),List.drop_of_length_le (Nat.le_refl _),List.drop_of_length_le (by omega)]
    simp)
   (fun k i _ hi ih=>by
    simp only[ZaH.l0]
    rw[if_pos (by omega),if_pos (by omega),if_pos (by omega),Za0,Za0,Zal hi (by omega),ZaI hi 0,ZaI (show i<m.length by omega) 0]
    by_cases h:l.getD i 0=m.getD i 0
    ·rw[if_pos h,ih,h];simp
    ·rw[if_neg h]
     simp only[List.cons.injEq,h,false_and,decide_false]) 0 k (Nat.zero_le _) (by omega)
  simpa using key
 ·rw[if_neg (by omega)]
  have:l≠m:=fun h=>e (by rw[h])
  simp[this]
theorem Zc3 (l:List Int) (hl:l.length≤9223372036854775807) (k:Nat) (hk:2 ^ 64≤k):ZaH.f k l l=some true:=by
 rw[eqIntS_f l l hl k hk];simp
end Go.Proofs.Ytodfnelilhjoeaa.Pr
namespace Go.Proofs.Ytodfnelilhjoeaa.Pr
open Go.RowKit Go.Proofs.YtodfnelilhjoeaaW.PrintWords Go.Proofs.YtodfnelilhjoeaaW.PrintLast Go.Proofs.YtodfnelilhjoeaaW.PrintMore
attribute [local go_sem] Zaj Zah Zat Zas Zaa Z9 Zai Zag
set_option linter.unusedVariables false
set_option linter.unusedSimpArgs false
def ZbT.f (k:Nat) (a0_0:ByteArray) (l0_1:List Int) (a0_2:Int):Option (ByteArray×List Int×Int):=(Zad.f k l0_1).bind fun t119004=>(some (a0_0,t119004,a0_2))
set_option maxHeartbeats 8000000 in
set_option maxRecDepth 100000 in
theorem ZbT.calls (k:Nat) (a0_0:ByteArray) (A0_1:Option Addr) (c0_1:Nat) (l0_1:List Int) (a0_2:Int) (r1:ByteArray) (r2:List Int) (r3:Int) (w:World) (hr0_1:Kd.C (Kd.int .i64) w A0_1 l0_1.length l0_1) (hc0_1:l0_1.length≤c0_1) (h:ZbT.f k a0_0 l0_1 a0_2=some (r1,r2,r3)) :
  Calls Try.prog 119 #[.agg #[.string a0_0,.slice A0_1 l0_1.length c0_1,.int .i64 a0_2]] w fun e w'=>∃v1_:Value,e=.returned (.agg #[.string r1,v1_,.int .i64 r3])∧Kd.R (Kd.int .i64) 3 w' w.heap.size (fun _=>True) v1_ r2∧Below w.heap.size w w':=by
 have hu127:=Try.underlying127
 have hu116:=Try.underlying116
 have HR0_1:=Za hr0_1;have HC0_1:=Za hc0_1;clear hr0_1 hc0_1
 have HB:=Za (Below.refl w.heap.size w)
 have H:((Zad.f k l0_1).bind fun t119004=>(some (a0_0,t119004,a0_2)))=some (r1,r2,r3):=h
 clear h
 replace H:=Zh H
 obtain⟨t119004,A20,H⟩:=H
 replace H:(some (a0_0,t119004,a0_2))=some (r1,r2,r3):=H
 have A2:=Za A20;clear A20
 simp only[Option.some.injEq,Prod.mk.injEq] at H
 obtain⟨rfl,rfl,rfl⟩:=H
 go_enter Try.func119,Try.ntmps119
 go_wp2_with (first|((with_reducible refine ZG (N:=1) rfl ?_);refine ZE ?hg (N:=1) ?hd (cs:=#[.string a0_0,.slice A0_1 l0_1.length c0_1,.int .i64 a0_2]) (t:=127) ?hr ?_;(case hd=>rfl);(case hg=>rfl);(case hr=>first|(go_simp;done)|(go_simp;rfl));intro gb119001 hg w3 hbox hb;have n0_:=Za (Zv (by repeat(first|(with_reducible first|exact HB.out|apply Zp|apply Zn|apply Zr)|exact HB.out)) hb);have n1_:=Za (hbox);have n2_:=Za ((by rw[hg];exact(Zz (by repeat(first|(with_reducible first|exact HB.out|apply Zp|apply Zn|apply Zr)|exact HB.out))):w.heap.size≤gb119001));have n3_:=n2_;clear HB;have HB:=n0_;have BK119001:=n1_;have GW119001:=n2_;have GE119001:=n3_;clear n0_ n1_ n2_ n3_;clear hb hbox hg)|((with_reducible refine ZG (N:=2) rfl ?_);refine ZE ?hg (N:=2) ?hd (cs:=#[.string (⟨#[]⟩:ByteArray),.slice none 0 0,.int .i64 0]) (t:=116) ?hr ?_;(case hd=>rfl);(case hg=>rfl);(case hr=>first|(go_simp;done)|(go_simp;rfl));intro gb119002 hg w4 hbox hb;have n0_:=Za (Zw (g:=gb119001) (o:=.cells #[.string a0_0,.slice A0_1 l0_1.length c0_1,.int .i64 a0_2] 127 (0,0)) BK119001.out hb);have n1_:=Za (Zv (by repeat(first|(with_reducible first|exact HB.out|apply Zp|apply Zn|apply Zr|refine Zq ?_ GE119001.out)|exact HB.out)) hb);have n2_:=Za (hbox);have n3_:=Za ((by rw[hg];exact(Zz (by repeat(first|(with_reducible first|exact HB.out|apply Zp|apply Zn|apply Zr|refine Zq ?_ GE119001.out)|exact HB.out))):w.heap.size≤gb119002));have n4_:=n3_;have n5_:=Za ((by rw[hg];exact Nat.ne_of_lt (ZK BK119001.out):gb119001≠gb119002));have n6_:=Za n5_.out.symm;clear BK119001;clear HB;have BK119001:=n0_;have HB:=n1_;have BK119002:=n2_;have GW119002:=n3_;have GE119002:=n4_;have NB119001_119002:=n5_;have NB119002_119001:=n6_;clear n0_ n1_ n2_ n3_ n4_ n5_ n6_;clear hb hbox hg)|((with_reducible refine ZG (N:=3) rfl ?_);refine ZE ?hg (N:=3) ?hd (cs:=#[.string (⟨#[]⟩:ByteArray),.slice none 0 0,.int .i64 0]) (t:=116) ?hr ?_;(case hd=>rfl);(case hg=>rfl);(case hr=>first|(go_simp;done)|(go_simp;rfl));intro gb119003 hg w5 hbox hb;have n0_:=Za (Zw (g:=gb119001) (o:=.cells #[.string a0_0,.slice A0_1 l0_1.length c0_1,.int .i64 a0_2] 127 (0,0)) BK119001.out hb);have n1_:=Za (Zw (g:=gb119002) (o:=.cells #[.string (⟨#[]⟩:ByteArray),.slice none 0 0,.int .i64 0] 116 (0,0)) BK119002.out hb);have n2_:=Za (Zv (by repeat(first|(with_reducible first|exact HB.out|apply Zp|apply Zn|apply Zr|refine Zq ?_ GE119001.out|refine Zq ?_ GE119002.out)|exact HB.out)) hb);have n3_:=Za (hbox);have n4_:=Za ((by rw[hg];exact(Zz (by repeat(first|(with_reducible first|exact HB.out|apply Zp|apply Zn|apply Zr|refine Zq ?_ GE119001.out|refine Zq ?_ GE119002.out)|exact HB.out))):w.heap.size≤gb119003));have n5_:=n4_;have n6_:=Za ((by rw[hg];exact Nat.ne_of_lt (ZK BK119001.out):gb119001≠gb119003));have n7_:=Za n6_.out.symm;have n8_:=Za ((by rw[hg];exact Nat.ne_of_lt (ZK (g:=gb119002) (o:=.cells #[.string (⟨#[]⟩:ByteArray),.slice none 0 0,.int .i64 0] 116 (0,0)) BK119002.out):gb119002≠gb119003));have n9_:=Za n8_.out.symm;clear BK119001;clear BK119002;clear HB;have BK119001:=n0_;have BK119002:=n1_;have HB:=n2_;have BK119003:=n3_;have GW119003:=n4_;have GE119003:=n5_;have NB119001_119003:=n6_;have NB119003_119001:=n7_;have NB119002_119003:=n8_;have NB119003_119002:=n9_;clear n0_ n1_ n2_ n3_ n4_ n5_ n6_ n7_ n8_ n9_;clear hb hbox hg;have hnb6:=NB119001_119002.out;have hnc6:=NB119002_119001.out;have hnb7:=NB119001_119003.out;have hnc7:=NB119003_119001.out;have hcz8_0:w5.cell? ⟨gb119001,0,none⟩=some (.string a0_0):=(Zm BK119001.out 0).trans rfl;have hcz8_1:w5.cell? ⟨gb119001,1,none⟩=some (.slice A0_1 l0_1.length c0_1):=(Zm BK119001.out 1).trans rfl;have hcz8_2:w5.cell? ⟨gb119001,2,none⟩=some (.int .i64 a0_2):=(Zm BK119001.out 2).trans rfl;have hfz8_0:=Zo BK119001.out 0;have hfz8_1:=Zo BK119001.out 1;have hfz8_2:=Zo BK119001.out 2;have hnb9:=NB119003_119002.out;have hnc9:=NB119002_119003.out;have hcz10_0:w5.cell? ⟨gb119003,0,none⟩=some (.string (⟨#[]⟩:ByteArray)):=(Zm BK119003.out 0).trans rfl;have hcz10_1:w5.cell? ⟨gb119003,1,none⟩=some (.slice none 0 0):=(Zm BK119003.out 1).trans rfl;have hcz10_2:w5.cell? ⟨gb119003,2,none⟩=some (.int .i64 0):=(Zm BK119003.out 2).trans rfl;have hfz10_0:=Zo BK119003.out 0;have hfz10_1:=Zo BK119003.out 1;have hfz10_2:=Zo BK119003.out 2)|((with_reducible refine ZH (f:=58) rfl ?_);refine ZW (some 9) rfl rfl Try.func58 (by kernel_rfl) rfl #[.slice A0_1 l0_1.length c0_1] rfl (by(try simp only[List.map_toArray,List.map_cons,List.map_nil]);first|done|rfl|(simp only[Zk,Zj];rfl)) ?_;(with_reducible refine(Zad.calls k _ _ l0_1 t119004 _ ?side1 ?side2 A2.out).mono ?_);(case side1=>exact Zb HR0_1.out (by repeat(first|(with_reducible first|exact HB.out|apply Zp|apply Zn|apply Zr|refine Zq ?_ GE119001.out|refine Zq ?_ GE119002.out|refine Zq ?_ GE119003.out)|exact HB.out)));(case side2=>exact HC0_1.out);rintro e w11 ⟨v119005,rfl,ho0,hb⟩;refine⟨_,rfl,?_⟩;have n0_:=Za (Kd.R_lower ho0 (Zz (by repeat(first|(with_reducible first|exact HB.out|apply Zp|apply Zn|apply Zr|refine Zq ?_ GE119001.out|refine Zq ?_ GE119002.out|refine Zq ?_ GE119003.out)|exact HB.out))));have n1_:=Za (Zw (g:=gb119001) (o:=.cells #[.string a0_0,.slice A0_1 l0_1.length c0_1,.int .i64 a0_2] 127 (0,0)) (by(with_reducible repeat(first|refine Zs ?_ _|refine Zu ?_|refine Zt ?_ _));refine ZD ?_ NB119001_119003.out _;(with_reducible repeat(first|refine Zs ?_ _|refine Zu ?_|refine Zt ?_ _));exact BK119001.out) hb);have n2_:=Za (Zw (g:=gb119002) (o:=.cells #[.string (⟨#[]⟩:ByteArray),.slice none 0 0,.int .i64 0] 116 (0,0)) (by(with_reducible repeat(first|refine Zs ?_ _|refine Zu ?_|refine Zt ?_ _));refine ZD ?_ NB119002_119003.out _;(with_reducible repeat(first|refine Zs ?_ _|refine Zu ?_|refine Zt ?_ _));exact BK119002.out) hb);have n3_:=Za (Zw (g:=gb119003) (o:=.cells #[.string a0_0,.slice none 0 0,.int .i64 0] 116 (0,0)) (by(with_reducible repeat(first|refine Zs ?_ _|refine Zu ?_|refine Zt ?_ _));refine Z7 (cs:=#[.string (⟨#[]⟩:ByteArray),.slice none 0 0,.int .i64 0]) ?_ 0 _ rfl;(with_reducible repeat(first|refine Zs ?_ _|refine Zu ?_|refine Zt ?_ _));exact BK119003.out) hb);have n4_:=Za (Zv (by repeat(first|(with_reducible first|exact HB.out|apply Zp|apply Zn|apply Zr|refine Zq ?_ GE119001.out|refine Zq ?_ GE119002.out|refine Zq ?_ GE119003.out)|exact HB.out)) hb);clear BK119001;clear BK119002;clear BK119003;clear HB;have HO119006:=n0_;have BK119001:=n1_;have BK119002:=n2_;have BK119003:=n3_;have HB:=n4_;clear n0_ n1_ n2_ n3_ n4_;(try clear hb);(try clear hb2);(try clear hk);(try clear hi);(try clear ho0);obtain⟨Ao12,co12,eo12⟩:=Kd.R_slice HO119006.out;subst eo12;have hcz13_0:w11.cell? ⟨gb119003,0,none⟩=some (.string a0_0):=(Zm BK119003.out 0).trans rfl;have hcz13_1:w11.cell? ⟨gb119003,1,none⟩=some (.slice none 0 0):=(Zm BK119003.out 1).trans rfl;have hcz13_2:w11.cell? ⟨gb119003,2,none⟩=some (.int .i64 0):=(Zm BK119003.out 2).trans rfl;have hfz13_0:=Zo BK119003.out 0;have hfz13_1:=Zo BK119003.out 1;have hfz13_2:=Zo BK119003.out 2;have hcz14_0:w11.cell? ⟨gb119001,0,none⟩=some (.string a0_0):=(Zm BK119001.out 0).trans rfl;have hcz14_1:w11.cell? ⟨gb119001,1,none⟩=some (.slice A0_1 l0_1.length c0_1):=(Zm BK119001.out 1).trans rfl;have hcz14_2:w11.cell? ⟨gb119001,2,none⟩=some (.int .i64 a0_2):=(Zm BK119001.out 2).trans rfl;have hfz14_0:=Zo BK119001.out 0;have hfz14_1:=Zo BK119001.out 1;have hfz14_2:=Zo BK119001.out 2;have hcz15_0:w11.cell? ⟨gb119002,0,none⟩=some (.string (⟨#[]⟩:ByteArray)):=(Zm BK119002.out 0).trans rfl;have hcz15_1:w11.cell? ⟨gb119002,1,none⟩=some (.slice none 0 0):=(Zm BK119002.out 1).trans rfl;have hcz15_2:w11.cell? ⟨gb119002,2,none⟩=some (.int .i64 0):=(Zm BK119002.out 2).trans rfl;have hfz15_0:=Zo BK119002.out 0;have hfz15_1:=Zo BK119002.out 1;have hfz15_2:=Zo BK119002.out 2))
 refine bodyPost_ret (results_cell_row rfl _ _ gb119002 116 #[.string a0_0,.slice Ao12 t119004.length co12,.int .i64 a0_2] (0,0) _ rfl (by(with_reducible repeat(first|refine Zs ?_ _|refine Zu ?_|refine Zt ?_ _));refine Z7 (cs:=#[.string a0_0,.slice Ao12 t119004.length co12,.int .i64 0]) ?_ 2 _ rfl;(with_reducible repeat(first|refine Zs ?_ _|refine Zu ?_|refine Zt ?_ _));refine Z7 (cs:=#[.string a0_0,.slice none 0 0,.int .i64 0]) ?_ 1 _ rfl;(with_reducible repeat(first|refine Zs ?_ _|refine Zu ?_|refine Zt ?_ _));refine Z7 (cs:=#[.string (⟨#[]⟩:ByteArray),.slice none 0 0,.int .i64 0]) ?_ 0 _ rfl;(with_reducible repeat(first|refine Zs ?_ _|refine Zu ?_|refine Zt ?_ _));refine ZD ?_ NB119002_119003.out _;(with_reducible repeat(first|refine Zs ?_ _|refine Zu ?_|refine Zt ?_ _));refine ZD ?_ NB119002_119003.out _;(with_reducible repeat(first|refine Zs ?_ _|refine Zu ?_|refine Zt ?_ _));exact BK119002.out) Try.underlying116 rfl (by kernel_rfl)) rfl ?_
 exact⟨_,by first|rfl|(simp[Zy,Zx] <;> rfl)|(simp[*,Zy,Zx] <;> rfl),by(with_reducible repeat(first|apply Kd.R_alloc|apply Kd.R_drewN|apply Kd.R_drew));exact Kd.R_mono (Kd.R_far (p:=⟨gb119002,2,none⟩) (Kd.R_far (p:=⟨gb119002,1,none⟩) (Kd.R_far (p:=⟨gb119002,0,none⟩) (Kd.R_far (p:=⟨gb119003,2,none⟩) (Kd.R_far (p:=⟨gb119003,1,none⟩) (Kd.R_types (Kd.R_types HO119006.out BK119003.out (by decide)) BK119002.out (by decide)) (fun _ hk=>hk.1.2) (.slice Ao12 t119004.length co12)) (fun _ hk=>hk.1.2) (.int .i64 a0_2)) (fun _ hk=>hk.2) (.string a0_0)) (fun _ hk=>hk.2) (.slice Ao12 t119004.length co12)) (fun _ hk=>hk.2) (.int .i64 a0_2)) (fun _ hk=>trivial),by repeat(first|(with_reducible first|exact HB.out|apply Zp|apply Zn|apply Zr|refine Zq ?_ GE119001.out|refine Zq ?_ GE119002.out|refine Zq ?_ GE119003.out)|exact HB.out)⟩
def Zau.l0:Nat→List (S127)→List (S116)→Int→Option ((List (S116)))
 | 0,_,_,_=>none
 | k+1,x0,x3,x4=>if x4<(x0.length:Int) then(if 0≤x4 then((ZbT.f k ((ZaB x0 x4).f0) ((ZaB x0 x4).f1) ((ZaB x0 x4).f2)).bind fun bt70005=>(if x4<(x3.length:Int) then(Zau.l0 k x0 (x3.set (x4:Int).toNat (⟨bt70005.1,bt70005.2.1,bt70005.2.2⟩:S116)) (wrap64 (x4+1))) else(none))) else(none)) else(some x3)
def Zau.f (k:Nat) (l0:List (S127)):Option ((List (S116))):=if 0≤(l0.length:Int) then(if ((l0.length:Int):Int).toNat≤5864062014805 then(Zau.l0 k l0 (List.replicate ((l0.length:Int):Int).toNat z116) 0) else(none)) else(none)
set_option maxHeartbeats 8000000 in
set_option maxRecDepth 100000 in
theorem Zau.calls (k:Nat) (A0:Option Addr) (c0:Nat) (l0:List (S127)) (r:List (S116)) (w:World) (hr0:Kd.C k127 w A0 l0.length l0) (hc0:l0.length≤c0) (h:Zau.f k l0=some r) :
  Calls Try.prog 70 #[.slice A0 l0.length c0] w fun e w'=>∃v0_:Value,e=.returned (v0_)∧Kd.S k116 116 w' w.heap.size (fun _=>True) v0_ r∧Below w.heap.size w w':=by
 have hu127:=Try.underlying127
 have hu116:=Try.underlying116
 have HR0:=Za hr0;have HC0:=Za hc0;clear hr0 hc0
 have HB:=Za (Below.refl w.heap.size w)
 have H:(if 0≤(l0.length:Int) then(if ((l0.length:Int):Int).toNat≤5864062014805 then(Zau.l0 k l0 (List.replicate ((l0.length:Int):Int).toNat z116) 0) else(none)) else(none))=some r:=h
 clear h
 by_cases c2:0≤(l0.length:Int)
 ·rw[if_pos c2] at H
  have c2b0:=eq_true c2
  have c2b1:decide (0≤(l0.length:Int))=true:=Ze c2
  clear c2
  by_cases c3:((l0.length:Int):Int).toNat≤5864062014805
  ·rw[if_pos c3] at H
   have c3b0:=eq_true c3
   have c3b1:decide (((l0.length:Int):Int).toNat≤5864062014805)=true:=Ze c3
   clear c3
   obtain⟨y70001,hy70001⟩:∃y_:List (S116),y_=(List.replicate ((l0.length:Int):Int).toNat z116):=⟨_,rfl⟩
   replace H:(Zau.l0 k l0 y70001 0)=some r:=by first|(rw[hy70001];with_reducible exact H)|(have H2_:=(Zi _ _).symm.trans H;rw[hy70001];with_reducible exact H2_)|(have H2_:=(Zi _ _).symm.trans H;with_reducible exact H2_)|with_reducible exact H|(rw[hy70001];exact H)|exact H
   have Ny70001:=Za hy70001;clear hy70001
   have H':=Za H
   clear H
   go_enter Try.func70,Try.ntmps70
   go_wp2_with (first|((with_reducible refine ZG (N:=7) rfl ?_);refine Kd.S_make k116 _ 116 rfl (N:=7) rfl 32 _ _ rfl (l0.length:Int) rfl rfl Try.underlying32 (.agg #[(.string ⟨#[]⟩),(.slice none 0 0),(.int .i64 0)]) 48 info116 rfl (by decide) (by omega) z116 (ok:=fun _=>True) (okp:=fun _=>True) (k116_mkM _ _ _ z116 (Kd.R_nil _ _ _ _ _)) (fun _ hk=>hk) trivial (Zd (by first|(with_reducible assumption)|assumption)) (Nat.le_trans (Nat.mul_le_mul_right _ (Zd (by first|(with_reducible assumption)|assumption):(l0.length:Int).toNat≤5864062014805)) (by omega)) (Below.refl _ _) (Nat.le_refl _) ?_;intro v70002 w4 ho5 hb hg_ hnew_;clear hg_ hnew_;(first|rw[← Ny70001.out] at ho5|(simp only[Int.reduceToNat] at ho5;rw[← Ny70001.out] at ho5));have n0_:=Za (Kd.S_lower ho5 (Zz (by repeat(first|(with_reducible first|exact HB.out|apply Zp|apply Zn|apply Zr)|exact HB.out))));have n1_:=Za (Zv (by repeat(first|(with_reducible first|exact HB.out|apply Zp|apply Zn|apply Zr)|exact HB.out)) hb);clear HB;have HO70003:=n0_;have HB:=n1_;clear n0_ n1_;clear hb ho5))
   go_loopg [4] k (fun kq v4 w'=>∃(x3_1:List (S116)) (x4_1:Int),v4=.int .i64 x4_1∧Aside0 (Zau.l0 kq l0 x3_1 x4_1=some r)∧Aside0 (kq≤k)∧Aside0 (Kd.S k116 116 w' w.heap.size (fun _=>True) v70002 x3_1)∧Aside0 (Below w.heap.size w w'))
   case atStart=>exact⟨(y70001),(0),(by first|rfl|(simp;done)|(simp[*];done)),H',⟨Nat.le_refl _⟩,⟨by(with_reducible repeat(first|apply Kd.S_alloc|apply Kd.S_drewN|apply Kd.S_drew));exact HO70003.out⟩,⟨by repeat(first|(with_reducible first|exact HB.out|apply Zp|apply Zn|apply Zr)|exact HB.out)⟩⟩
   case round=>
    clear H'
    try clear c2
    try clear c2b0
    try clear c2b1
    try clear p2
    try clear c3
    try clear c3b0
    try clear c3b1
    obtain⟨x3_1,x4_1,rfl,HA,HK1,HO_3,HB⟩:=hrel
    cases gk with
    | zero=>exact absurd HA.out (by simp[Zau.l0])
    | succ k1=>
     have H:=HA.out
     clear HA
     simp only[Zau.l0] at H
     by_cases c6:x4_1<(l0.length:Int)
     ·rw[if_pos c6] at H
      have c6b0:decide (x4_1<(l0.length:Int))=true:=Ze c6
      clear c6
      by_cases c7:0≤x4_1
      ·rw[if_pos c7] at H
       have c7b0:decide (0≤x4_1)=true:=Ze c7
       clear c7
       replace H:=Zh H
       obtain⟨⟨t70005,t70006,t70009⟩,A80,H⟩:=H
       replace H:(if x4_1<(x3_1.length:Int) then(Zau.l0 k1 l0 (x3_1.set (x4_1:Int).toNat (⟨t70005,t70006,t70009⟩:S116)) (wrap64 (x4_1+1))) else(none))=some r:=H
       have A8:=Za A80;clear A80
       by_cases c9:x4_1<(x3_1.length:Int)
       ·rw[if_pos c9] at H
        have c9b0:decide (x4_1<(x3_1.length:Int))=true:=Ze c9
        clear c9
        obtain⟨y70010,hy70010⟩:∃y_:List (S116),y_=(x3_1.set (x4_1:Int).toNat (⟨t70005,t70006,t70009⟩:S116)):=⟨_,rfl⟩
        replace H:(Zau.l0 k1 l0 y70010 (wrap64 (x4_1+1)))=some r:=by first|(rw[hy70010];with_reducible exact H)|(have H2_:=(Zi _ _).symm.trans H;rw[hy70010];with_reducible exact H2_)|(have H2_:=(Zi _ _).symm.trans H;with_reducible exact H2_)|with_reducible exact H|(rw[hy70010];exact H)|exact H
        have Ny70010:=Za hy70010;clear hy70010
        have H':=Za H
        clear H
        have p70004:0≤(x4_1:Int):=Zd (by first|(with_reducible assumption)|assumption)
        have q70004:x4_1<(l0.length:Int):=Zd (by first|(with_reducible assumption)|assumption)
        obtain⟨ad70004,A70004_1,c70004_1,e70004,hx70004_0,hx70004_1,hx70004_2,hl70004_1,hi70004_1⟩:=at_T127 HR0.out x4_1 p70004 q70004
        cases e70004
        replace hx70004_0:=(HB.out.cell (Zc w _ hx70004_0)).trans hx70004_0
        replace hx70004_1:=(HB.out.cell (Zc w _ hx70004_1)).trans hx70004_1
        replace hx70004_2:=(HB.out.cell (Zc w _ hx70004_2)).trans hx70004_2
        have HR70004_1:=Za hi70004_1;have HC70004_1:=Za hl70004_1;clear hi70004_1 hl70004_1
        replace p70004:=eq_true p70004
        replace q70004:=eq_true q70004
        go_wp2_with (first|((with_reducible refine ZH (f:=119) rfl ?_);refine ZW (some 20) rfl rfl Try.func119 (by kernel_rfl) rfl #[.agg #[.string ((ZaB l0 x4_1).f0),.slice A70004_1 ((ZaB l0 x4_1).f1).length c70004_1,.int .i64 ((ZaB l0 x4_1).f2)]] rfl (by(try simp only[List.map_toArray,List.map_cons,List.map_nil]);first|done|rfl|(simp only[Zk,Zj];rfl)) ?_;(with_reducible refine(ZbT.calls k1 ((ZaB l0 x4_1).f0) _ _ ((ZaB l0 x4_1).f1) ((ZaB l0 x4_1).f2) t70005 t70006 t70009 _ ?side1 ?side2 A8.out).mono ?_);(case side1=>repeat(first|exact(Zb HR70004_1.out HB.out)|(with_reducible refine Kd.C_alloc ?_ _)|(with_reducible refine Kd.C_drewN ?_ _)|(with_reducible refine Kd.C_drew ?_)));(case side2=>exact HC70004_1.out);rintro e w11 ⟨v70007,rfl,ho0,hb⟩;refine⟨_,rfl,?_⟩;have n0_:=Za (Kd.S_elder' (by(with_reducible repeat(first|apply Kd.S_alloc|apply Kd.S_drewN|apply Kd.S_drew));exact HO_3.out) (Kd.R_base ho0) hb);have n1_:=Za (Kd.R_lower ho0 (Zz (by repeat(first|(with_reducible first|exact HB.out|apply Zp|apply Zn|apply Zr)|exact HB.out))));have n2_:=Za (Zv (by repeat(first|(with_reducible first|exact HB.out|apply Zp|apply Zn|apply Zr)|exact HB.out)) hb);clear HO_3;clear HB;have HO_3:=n0_;have HO70008:=n1_;have HB:=n2_;clear n0_ n1_ n2_;(try clear hb);(try clear hb2);(try clear hk);(try clear hi);(try clear ho0);obtain⟨As_,cs_,es_⟩:=Kd.R_slice HO70008.out;subst es_;have p10:0≤(x4_1:Int):=Zd (by first|(with_reducible assumption)|assumption);have q10:(x4_1:Int)<((x3_1.length:Int):Int):=Zd (by first|(with_reducible assumption)|assumption);obtain⟨go10,co10,eo10,gb10,gl10,cl10,HG10⟩:=Kd.S_form HO_3.out (by omega);(first|cases eo10|(injection eo10 with ea_ en_ ec_;(first|subst ea_|(injection ea_ with ea_;subst ea_));subst ec_;clear en_));have GB10:=Za gb10;have GG10:=Za HG10;clear gb10 gl10 HG10;obtain⟨_,ce10,hcl10,hM10,hcc10,hfr10,_,_⟩:=Kd.S_elem HO_3.out z116 (x4_1:Int) p10 q10;obtain⟨ve10_1,rfl,ge10_1⟩:=Zd3 hM10;have hx10_0:w11.cell? ⟨go10,(x4_1:Int).toNat * 3,none⟩=some (.string ((ZA x3_1 x4_1).f0)):=hcc10 0 _ rfl;have hx10_1:w11.cell? ⟨go10,(x4_1:Int).toNat * 3+1,none⟩=some (ve10_1):=hcc10 1 _ rfl;have hx10_2:w11.cell? ⟨go10,(x4_1:Int).toNat * 3+2,none⟩=some (.int .i64 ((ZA x3_1 x4_1).f2)):=hcc10 2 _ rfl;have hf10_0:w11.frozen? ⟨go10,(x4_1:Int).toNat * 3,none⟩=false:=hfr10 0;have hf10_1:w11.frozen? ⟨go10,(x4_1:Int).toNat * 3+1,none⟩=false:=hfr10 1;have hf10_2:w11.frozen? ⟨go10,(x4_1:Int).toNat * 3+2,none⟩=false:=hfr10 2;clear hcl10 hcc10 hfr10 hM10;replace p10:=eq_true p10;replace q10:=eq_true q10;have n_:=Za (Kd.S_mono (ok':=(fun k_=>some k_≠(.slice As_ t70006.length cs_:Value).ownBlock)) HO_3.out (fun k_ hk=>hk.2));clear HO_3;have HO_3:=n_;clear n_;have HX12:=Za (show Kd.S k116 116 w11 w.heap.size (fun k_=>((fun _=>True)) k_∧¬((fun k_=>some k_=(.slice As_ t70006.length cs_:Value).ownBlock)) k_) (.slice (some ⟨go10,0,none⟩) x3_1.length co10) x3_1 from(by(with_reducible repeat(first|apply Kd.S_alloc|apply Kd.S_drewN|apply Kd.S_drew));exact Kd.S_mono HO_3.out (fun k_ hk=>⟨trivial,fun e_=>hk e_⟩)));obtain⟨oki12,ce12,hcl12,hM12,hcc12,hfr12,hoki12,hH12⟩:=Kd.S_elem HX12.out z116 (x4_1:Int) (Zd (by first|(with_reducible assumption)|assumption)) (by have h_:(x4_1:Int)<((x3_1.length:Int):Int):=Zd (by first|(with_reducible assumption)|assumption);first|exact h_|(have e_:=(Kd.S_reads' HO_3.out).1;omega)|simpa using h_);obtain⟨ve12_1,rfl,ge12_1⟩:=Zd3 hM12;have HP12:=Kd.S_seg hH12 (Zd (by first|(with_reducible assumption)|assumption)) (by have h_:(x4_1:Int)<((x3_1.length:Int):Int):=Zd (by first|(with_reducible assumption)|assumption);first|exact h_|(have e_:=(Kd.S_reads' HO_3.out).1;omega)|simpa using h_) (seg:=[.string t70005,(.slice As_ t70006.length cs_),.int .i64 t70009]) (j:=0) (show 3≤3 from by decide) (x':=(⟨t70005,t70006,t70009⟩:S116)) (k116_mkM _ _ _ (⟨t70005,t70006,t70009⟩:S116) (Kd.R_mono (Kd.R_tight rfl (Kd.R_mono (ok':=fun k_=>((fun _=>True)) k_∧k_≠go10) (Kd.R_apart' (HO70008.out) (Kd.S_typed HO_3.out) (by decide)) (fun k_ hk=>⟨trivial,fun e_=>(hk.2) (by rw[e_];rfl)⟩))) (fun _ h_=>Or.inr (h_)))) (fun _ hk=>hk) (fun k_ hk_=>((Kd.R_mono (ok':=fun k_=>((fun _=>True)) k_∧k_≠go10) (Kd.R_apart' (HO70008.out) (Kd.S_typed HO_3.out) (by decide)) (fun k_ hk=>⟨trivial,fun e_=>(hk.2) (by rw[e_];rfl)⟩))).1 k_ hk_.symm);have hx12_0:=hcc12 0 _ rfl;(try simp only[show(k116).sz=3 from rfl,Nat.mul_one,Nat.add_zero] at hx12_0);have hf12_0:=hfr12 0;(try simp only[show(k116).sz=3 from rfl,Nat.mul_one,Nat.add_zero] at hf12_0);have hx12_1:=hcc12 1 _ rfl;(try simp only[show(k116).sz=3 from rfl,Nat.mul_one,Nat.add_zero] at hx12_1);have hf12_1:=hfr12 1;(try simp only[show(k116).sz=3 from rfl,Nat.mul_one,Nat.add_zero] at hf12_1);have hx12_2:=hcc12 2 _ rfl;(try simp only[show(k116).sz=3 from rfl,Nat.mul_one,Nat.add_zero] at hx12_2);have hf12_2:=hfr12 2;(try simp only[show(k116).sz=3 from rfl,Nat.mul_one,Nat.add_zero] at hf12_2);clear hcl12 hcc12 hfr12 hM12 hoki12 hH12)|((with_reducible refine Zdi (t:=116) (p:=21) rfl ?_);refine Zc1 (t:=116) (p:=21) (v:=?vo_w13) (w1:=(((w11.setCell ⟨go10,(x4_1:Int).toNat * 3,none⟩ (.string t70005)).setCell ⟨go10,(x4_1:Int).toNat * 3+1,none⟩ (.slice As_ t70006.length cs_)).setCell ⟨go10,(x4_1:Int).toNat * 3+2,none⟩ (.int .i64 t70009))) ?hg ?ho ?hn ?hr ?_;(case ho=>rfl);(case hg=>rfl);(case hn=>rfl);(case hr=>first|(go_simp;done)|(go_simp;rfl));intro w13 hw;have hg:w11.grownBy w13 (some go10):=(by rw[hw];exact HP12.2);have hp_:Kd.S k116 116 w13 w.heap.size (fun _=>True) (.slice (some ⟨go10,0,none⟩) x3_1.length co10) y70010:=(by rw[hw,Ny70010.out];exact HP12.1);clear HP12;have n0_:=Za (hp_);have n1_:=Za ((by rw[hw];exact Zq (Zq (Zq (HB.out) GB10.out) GB10.out) GB10.out:Below w.heap.size w w13));clear HO_3;clear HB;clear HO70008;have HO_3:=n0_;have HB:=n1_;clear n0_ n1_;clear hg hw hp_))
        go_roundg k1
        case measure=>have:=HK1.out;omega
        case rel=>exact⟨(y70010),(wrap64 (x4_1+1)),(by first|rfl|(simp;done)|(simp[*];done)),H',⟨by have:=HK1.out;omega⟩,⟨by(with_reducible repeat(first|apply Kd.S_alloc|apply Kd.S_drewN|apply Kd.S_drew));exact HO_3.out⟩,⟨by repeat(first|(with_reducible first|exact HB.out|apply Zp|apply Zn|apply Zr)|exact HB.out)⟩⟩
       ·rw[if_neg c9] at H
        exact absurd H (by simp)
      ·rw[if_neg c7] at H
       exact absurd H (by simp)
     ·rw[if_neg c6] at H
      have c6b0:decide (x4_1<(l0.length:Int))=false:=Zf c6
      clear c6
      obtain rfl:=Zg H
      go_wp2
      go_ret
      exact⟨_,by first|rfl|(simp[Zy,Zx] <;> rfl)|(simp[*,Zy,Zx] <;> rfl),by(with_reducible repeat(first|apply Kd.S_alloc|apply Kd.S_drewN|apply Kd.S_drew));exact HO_3.out,by repeat(first|(with_reducible first|exact HB.out|apply Zp|apply Zn|apply Zr)|exact HB.out)⟩
  ·rw[if_neg c3] at H
   exact absurd H (by simp)
 ·rw[if_neg c2] at H
  exact absurd H (by simp)
def Zck.f (a0_0:Int) (a0_1:Int) (a0_2:Int) (a0_3:Int) (a0_4:Bool):Option (Int×Int×Int×Int×Bool):=some (a0_0,a0_1,a0_2,a0_3,a0_4)
set_option maxHeartbeats 8000000 in
set_option maxRecDepth 100000 in
theorem Zck.calls (a0_0:Int) (a0_1:Int) (a0_2:Int) (a0_3:Int) (a0_4:Bool) (r1:Int) (r2:Int) (r3:Int) (r4:Int) (r5:Bool) (w:World) (h:Zck.f a0_0 a0_1 a0_2 a0_3 a0_4=some (r1,r2,r3,r4,r5)) :
  Calls Try.prog 120 #[.agg #[.int .i64 a0_0,.int .i64 a0_1,.int .i64 a0_2,.int .i64 a0_3,.bool a0_4]] w fun e w'=>e=.returned (.agg #[.int .i64 r1,.int .i64 r2,.int .i64 r3,.int .i64 r4,.bool r5])∧Below w.heap.size w w':=by
 have hu130:=Try.underlying130
 have hu90:=Try.underlying90
 have HB:=Za (Below.refl w.heap.size w)
 have H:(some (a0_0,a0_1,a0_2,a0_3,a0_4))=some (r1,r2,r3,r4,r5):=h
 clear h
 simp only[Option.some.injEq,Prod.mk.injEq] at H
 obtain⟨rfl,rfl,rfl,rfl,rfl⟩:=H
 go_enter Try.func120,Try.ntmps120
 go_wp2_with (first|((with_reducible refine ZG (N:=1) rfl ?_);refine ZE ?hg (N:=1) ?hd (cs:=#[.int .i64 a0_0,.int .i64 a0_1,.int .i64 a0_2,.int .i64 a0_3,.bool a0_4]) (t:=130) ?hr ?_;(case hd=>rfl);(case hg=>rfl);(case hr=>first|(go_simp;done)|(go_simp;rfl));intro gb120001 hg w2 hbox hb;have n0_:=Za (Zv (by repeat(first|(with_reducible first|exact HB.out|apply Zp|apply Zn|apply Zr)|exact HB.out)) hb);have n1_:=Za (hbox);have n2_:=Za ((by rw[hg];exact(Zz (by repeat(first|(with_reducible first|exact HB.out|apply Zp|apply Zn|apply Zr)|exact HB.out))):w.heap.size≤gb120001));have n3_:=Za ((by rw[hg];exact(Zz (by repeat(first|(with_reducible first|exact HB.out|apply Zp|apply Zn|apply Zr)|exact HB.out))):w.heap.size≤gb120001));clear HB;have HB:=n0_;have BK120001:=n1_;have GW120001:=n2_;have GE120001:=n3_;clear n0_ n1_ n2_ n3_;clear hb hbox hg)|((with_reducible refine ZG (N:=2) rfl ?_);refine ZE ?hg (N:=2) ?hd (cs:=#[.int .i64 0,.int .i64 0,.int .i64 0,.int .i64 0,.bool false]) (t:=90) ?hr ?_;(case hd=>rfl);(case hg=>rfl);(case hr=>first|(go_simp;done)|(go_simp;rfl));intro gb120002 hg w3 hbox hb;have n0_:=Za (Zw (g:=gb120001) (o:=.cells #[.int .i64 a0_0,.int .i64 a0_1,.int .i64 a0_2,.int .i64 a0_3,.bool a0_4] 130 (0,0)) (by(with_reducible repeat(first|refine Zs ?_ _|refine Zu ?_|refine Zt ?_ _));exact BK120001.out) hb);have n1_:=Za (Zv (by repeat(first|(with_reducible first|exact HB.out|apply Zp|apply Zn|apply Zr|refine Zq ?_ GE120001.out)|exact HB.out)) hb);have n2_:=Za (hbox);have n3_:=Za ((by rw[hg];exact(Zz (by repeat(first|(with_reducible first|exact HB.out|apply Zp|apply Zn|apply Zr|refine Zq ?_ GE120001.out)|exact HB.out))):w.heap.size≤gb120002));have n4_:=Za ((by rw[hg];exact(Zz (by repeat(first|(with_reducible first|exact HB.out|apply Zp|apply Zn|apply Zr|refine Zq ?_ GE120001.out)|exact HB.out))):w.heap.size≤gb120002));have n5_:=Za ((by rw[hg];exact Nat.ne_of_lt (ZK (g:=gb120001) (o:=.cells #[.int .i64 a0_0,.int .i64 a0_1,.int .i64 a0_2,.int .i64 a0_3,.bool a0_4] 130 (0,0)) (by(with_reducible repeat(first|refine Zs ?_ _|refine Zu ?_|refine Zt ?_ _));exact BK120001.out)):gb120001≠gb120002));have n6_:=Za ((by rw[hg];exact Nat.ne_of_gt (ZK (g:=gb120001) (o:=.cells #[.int .i64 a0_0,.int .i64 a0_1,.int .i64 a0_2,.int .i64 a0_3,.bool a0_4] 130 (0,0)) (by(with_reducible repeat(first|refine Zs ?_ _|refine Zu ?_|refine Zt ?_ _));exact BK120001.out)):gb120002≠gb120001));clear BK120001;clear HB;have BK120001:=n0_;have HB:=n1_;have BK120002:=n2_;have GW120002:=n3_;have GE120002:=n4_;have NB120001_120002:=n5_;have NB120002_120001:=n6_;clear n0_ n1_ n2_ n3_ n4_ n5_ n6_;clear hb hbox hg)|((with_reducible refine ZG (N:=3) rfl ?_);refine ZE ?hg (N:=3) ?hd (cs:=#[.int .i64 0,.int .i64 0,.int .i64 0,.int .i64 0,.bool false]) (t:=90) ?hr ?_;(case hd=>rfl);(case hg=>rfl);(case hr=>first|(go_simp;done)|(go_simp;rfl));intro gb120003 hg w4 hbox hb;have n0_:=Za (Zw (g:=gb120001) (o:=.cells #[.int .i64 a0_0,.int .i64 a0_1,.int .i64 a0_2,.int .i64 a0_3,.bool a0_4] 130 (0,0)) (by(with_reducible repeat(first|refine Zs ?_ _|refine Zu ?_|refine Zt ?_ _));exact BK120001.out) hb);have n1_:=Za (Zw (g:=gb120002) (o:=.cells #[.int .i64 0,.int .i64 0,.int .i64 0,.int .i64 0,.bool false] 90 (0,0)) (by(with_reducible repeat(first|refine Zs ?_ _|refine Zu ?_|refine Zt ?_ _));exact BK120002.out) hb);have n2_:=Za (Zv (by repeat(first|(with_reducible first|exact HB.out|apply Zp|apply Zn|apply Zr|refine Zq ?_ GE120001.out|refine Zq ?_ GE120002.out)|exact HB.out)) hb);have n3_:=Za (hbox);have n4_:=Za ((by rw[hg];exact(Zz (by repeat(first|(with_reducible first|exact HB.out|apply Zp|apply Zn|apply Zr|refine Zq ?_ GE120001.out|refine Zq ?_ GE120002.out)|exact HB.out))):w.heap.size≤gb120003));have n5_:=Za ((by rw[hg];exact(Zz (by repeat(first|(with_reducible first|exact HB.out|apply Zp|apply Zn|apply Zr|refine Zq ?_ GE120001.out|refine Zq ?_ GE120002.out)|exact HB.out))):w.heap.size≤gb120003));have n6_:=Za ((by rw[hg];exact Nat.ne_of_lt (ZK (g:=gb120001) (o:=.cells #[.int .i64 a0_0,.int .i64 a0_1,.int .i64 a0_2,.int .i64 a0_3,.bool a0_4] 130 (0,0)) (by(with_reducible repeat(first|refine Zs ?_ _|refine Zu ?_|refine Zt ?_ _));exact BK120001.out)):gb120001≠gb120003));have n7_:=Za ((by rw[hg];exact Nat.ne_of_gt (ZK (g:=gb120001) (o:=.cells #[.int .i64 a0_0,.int .i64 a0_1,.int .i64 a0_2,.int .i64 a0_3,.bool a0_4] 130 (0,0)) (by(with_reducible repeat(first|refine Zs ?_ _|refine Zu ?_|refine Zt ?_ _));exact BK120001.out)):gb120003≠gb120001));have n8_:=Za ((by rw[hg];exact Nat.ne_of_lt (ZK (g:=gb120002) (o:=.cells #[.int .i64 0,.int .i64 0,.int .i64 0,.int .i64 0,.bool false] 90 (0,0)) (by(with_reducible repeat(first|refine Zs ?_ _|refine Zu ?_|refine Zt ?_ _));exact BK120002.out)):gb120002≠gb120003));have n9_:=Za ((by rw[hg];exact Nat.ne_of_gt (ZK (g:=gb120002) (o:=.cells #[.int .i64 0,.int .i64 0,.int .i64 0,.int .i64 0,.bool false] 90 (0,0)) (by(with_reducible repeat(first|refine Zs ?_ _|refine Zu ?_|refine Zt ?_ _));exact BK120002.out)):gb120003≠gb120002));clear BK120001;clear BK120002;clear HB;have BK120001:=n0_;have BK120002:=n1_;have HB:=n2_;have BK120003:=n3_;have GW120003:=n4_;have GE120003:=n5_;have NB120001_120003:=n6_;have NB120003_120001:=n7_;have NB120002_120003:=n8_;have NB120003_120002:=n9_;clear n0_ n1_ n2_ n3_ n4_ n5_ n6_ n7_ n8_ n9_;clear hb hbox hg;have hnb5:=NB120001_120002.out;have hnc5:=NB120002_120001.out;have hnb6:=NB120001_120003.out;have hnc6:=NB120003_120001.out;have hcz7_0:w4.cell? ⟨gb120001,0,none⟩=some (.int .i64 a0_0):=(Zm BK120001.out 0).trans rfl;have hcz7_1:w4.cell? ⟨gb120001,1,none⟩=some (.int .i64 a0_1):=(Zm BK120001.out 1).trans rfl;have hcz7_2:w4.cell? ⟨gb120001,2,none⟩=some (.int .i64 a0_2):=(Zm BK120001.out 2).trans rfl;have hcz7_3:w4.cell? ⟨gb120001,3,none⟩=some (.int .i64 a0_3):=(Zm BK120001.out 3).trans rfl;have hcz7_4:w4.cell? ⟨gb120001,4,none⟩=some (.bool a0_4):=(Zm BK120001.out 4).trans rfl;have hfz7_0:=Zo BK120001.out 0;have hfz7_1:=Zo BK120001.out 1;have hfz7_2:=Zo BK120001.out 2;have hfz7_3:=Zo BK120001.out 3;have hfz7_4:=Zo BK120001.out 4;have hnb8:=NB120003_120002.out;have hnc8:=NB120002_120003.out;have hcz9_0:w4.cell? ⟨gb120003,0,none⟩=some (.int .i64 0):=(Zm BK120003.out 0).trans rfl;have hcz9_1:w4.cell? ⟨gb120003,1,none⟩=some (.int .i64 0):=(Zm BK120003.out 1).trans rfl;have hcz9_2:w4.cell? ⟨gb120003,2,none⟩=some (.int .i64 0):=(Zm BK120003.out 2).trans rfl;have hcz9_3:w4.cell? ⟨gb120003,3,none⟩=some (.int .i64 0):=(Zm BK120003.out 3).trans rfl;have hcz9_4:w4.cell? ⟨gb120003,4,none⟩=some (.bool false):=(Zm BK120003.out 4).trans rfl;have hfz9_0:=Zo BK120003.out 0;have hfz9_1:=Zo BK120003.out 1;have hfz9_2:=Zo BK120003.out 2;have hfz9_3:=Zo BK120003.out 3;have hfz9_4:=Zo BK120003.out 4;have hcz10_0:w4.cell? ⟨gb120002,0,none⟩=some (.int .i64 0):=(Zm BK120002.out 0).trans rfl;have hcz10_1:w4.cell? ⟨gb120002,1,none⟩=some (.int .i64 0):=(Zm BK120002.out 1).trans rfl;have hcz10_2:w4.cell? ⟨gb120002,2,none⟩=some (.int .i64 0):=(Zm BK120002.out 2).trans rfl;have hcz10_3:w4.cell? ⟨gb120002,3,none⟩=some (.int .i64 0):=(Zm BK120002.out 3).trans rfl;have hcz10_4:w4.cell? ⟨gb120002,4,none⟩=some (.bool false):=(Zm BK120002.out 4).trans rfl;have hfz10_0:=Zo BK120002.out 0;have hfz10_1:=Zo BK120002.out 1;have hfz10_2:=Zo BK120002.out 2;have hfz10_3:=Zo BK120002.out 3;have hfz10_4:=Zo BK120002.out 4))
 refine bodyPost_ret (results_cell_row rfl _ _ gb120002 90 #[.int .i64 a0_0,.int .i64 a0_1,.int .i64 a0_2,.int .i64 a0_3,.bool a0_4] (0,0) _ rfl (by(with_reducible repeat(first|refine Zs ?_ _|refine Zu ?_|refine Zt ?_ _));refine Z7 (cs:=#[.int .i64 a0_0,.int .i64 a0_1,.int .i64 a0_2,.int .i64 a0_3,.bool false]) ?_ 4 _ rfl;(with_reducible repeat(first|refine Zs ?_ _|refine Zu ?_|refine Zt ?_ _));refine Z7 (cs:=#[.int .i64 a0_0,.int .i64 a0_1,.int .i64 a0_2,.int .i64 0,.bool false]) ?_ 3 _ rfl;(with_reducible repeat(first|refine Zs ?_ _|refine Zu ?_|refine Zt ?_ _));refine Z7 (cs:=#[.int .i64 a0_0,.int .i64 a0_1,.int .i64 0,.int .i64 0,.bool false]) ?_ 2 _ rfl;(with_reducible repeat(first|refine Zs ?_ _|refine Zu ?_|refine Zt ?_ _));refine Z7 (cs:=#[.int .i64 a0_0,.int .i64 0,.int .i64 0,.int .i64 0,.bool false]) ?_ 1 _ rfl;(with_reducible repeat(first|refine Zs ?_ _|refine Zu ?_|refine Zt ?_ _));refine Z7 (cs:=#[.int .i64 0,.int .i64 0,.int .i64 0,.int .i64 0,.bool false]) ?_ 0 _ rfl;(with_reducible repeat(first|refine Zs ?_ _|refine Zu ?_|refine Zt ?_ _));refine ZD ?_ NB120002_120003.out _;(with_reducible repeat(first|refine Zs ?_ _|refine Zu ?_|refine Zt ?_ _));refine ZD ?_ NB120002_120003.out _;(with_reducible repeat(first|refine Zs ?_ _|refine Zu ?_|refine Zt ?_ _));refine ZD ?_ NB120002_120003.out _;(with_reducible repeat(first|refine Zs ?_ _|refine Zu ?_|refine Zt ?_ _));refine ZD ?_ NB120002_120003.out _;(with_reducible repeat(first|refine Zs ?_ _|refine Zu ?_|refine Zt ?_ _));refine ZD ?_ NB120002_120003.out _;(with_reducible repeat(first|refine Zs ?_ _|refine Zu ?_|refine Zt ?_ _));exact BK120002.out) Try.underlying90 rfl (by kernel_rfl)) rfl ?_
 exact⟨by first|rfl|(simp[Zy,Zx] <;> rfl)|(simp[*,Zy,Zx] <;> rfl),by repeat(first|(with_reducible first|exact HB.out|apply Zp|apply Zn|apply Zr|refine Zq ?_ GE120001.out|refine Zq ?_ GE120002.out|refine Zq ?_ GE120003.out)|exact HB.out)⟩
def Zaz.l0:Nat→List (S130)→List (S90)→Int→Option ((List (S90)))
 | 0,_,_,_=>none
 | k+1,x0,x3,x4=>if x4<(x0.length:Int) then(if 0≤x4 then((Zck.f ((ZaV x0 x4).f0) ((ZaV x0 x4).f1) ((ZaV x0 x4).f2) ((ZaV x0 x4).f3) ((ZaV x0 x4).f4)).bind fun bt71005=>(if x4<(x3.length:Int) then(Zaz.l0 k x0 (x3.set (x4:Int).toNat (⟨bt71005.1,bt71005.2.1,bt71005.2.2.1,bt71005.2.2.2.1,bt71005.2.2.2.2⟩:S90)) (wrap64 (x4+1))) else(none))) else(none)) else(some x3)
def Zaz.f (k:Nat) (l0:List (S130)):Option ((List (S90))):=if 0≤(l0.length:Int) then(if ((l0.length:Int):Int).toNat≤7036874417766 then(Zaz.l0 k l0 (List.replicate ((l0.length:Int):Int).toNat z90) 0) else(none)) else(none)
set_option maxHeartbeats 8000000 in
set_option maxRecDepth 100000 in
theorem Zaz.calls (k:Nat) (A0:Option Addr) (c0:Nat) (l0:List (S130)) (r:List (S90)) (w:World) (hr0:Kd.C k130 w A0 l0.length l0) (hc0:l0.length≤c0) (h:Zaz.f k l0=some r) :
  Calls Try.prog 71 #[.slice A0 l0.length c0] w fun e w'=>∃v0_:Value,e=.returned (v0_)∧Kd.R k90 90 w' w.heap.size (fun _=>True) v0_ r∧Below w.heap.size w w':=by
 have hu130:=Try.underlying130
 have hu90:=Try.underlying90
 have HR0:=Za hr0;have HC0:=Za hc0;clear hr0 hc0
 have HB:=Za (Below.refl w.heap.size w)
 have H:(if 0≤(l0.length:Int) then(if ((l0.length:Int):Int).toNat≤7036874417766 then(Zaz.l0 k l0 (List.replicate ((l0.length:Int):Int).toNat z90) 0) else(none)) else(none))=some r:=h
 clear h
 by_cases c2:0≤(l0.length:Int)
 ·rw[if_pos c2] at H
  have c2b0:=eq_true c2
  have c2b1:decide (0≤(l0.length:Int))=true:=Ze c2
  clear c2
  by_cases c3:((l0.length:Int):Int).toNat≤7036874417766
  ·rw[if_pos c3] at H
   have c3b0:=eq_true c3
   have c3b1:decide (((l0.length:Int):Int).toNat≤7036874417766)=true:=Ze c3
   clear c3
   obtain⟨y71001,hy71001⟩:∃y_:List (S90),y_=(List.replicate ((l0.length:Int):Int).toNat z90):=⟨_,rfl⟩
   replace H:(Zaz.l0 k l0 y71001 0)=some r:=by first|(rw[hy71001];with_reducible exact H)|(have H2_:=(Zi _ _).symm.trans H;rw[hy71001];with_reducible exact H2_)|(have H2_:=(Zi _ _).symm.trans H;with_reducible exact H2_)|with_reducible exact H|(rw[hy71001];exact H)|exact H
   have Ny71001:=Za hy71001;clear hy71001
   have H':=Za H
   clear H
   go_enter Try.func71,Try.ntmps71
   go_wp2_with (first|((with_reducible refine ZG (N:=7) rfl ?_);refine Kd.R_make k90 _ 90 rfl (N:=7) rfl 33 _ _ rfl (l0.length:Int) rfl rfl Try.underlying33 (.agg #[(.int .i64 0),(.int .i64 0),(.int .i64 0),(.int .i64 0),(.bool false)]) 40 info90 rfl (by decide) (by omega) z90 (ok:=fun _=>True) (okp:=fun _=>True) (k90_mkM _ _ _ z90 ) (fun _ hk=>hk) trivial (Zd (by first|(with_reducible assumption)|assumption)) (Nat.le_trans (Nat.mul_le_mul_right _ (Zd (by first|(with_reducible assumption)|assumption):(l0.length:Int).toNat≤7036874417766)) (by omega)) (Below.refl _ _) (Nat.le_refl _) ?_;intro v71002 w4 ho5 hb hg_ hnew_;clear hg_ hnew_;(first|rw[← Ny71001.out] at ho5|(simp only[Int.reduceToNat] at ho5;rw[← Ny71001.out] at ho5));have n0_:=Za (Kd.R_lower ho5 (Zz (by repeat(first|(with_reducible first|exact HB.out|apply Zp|apply Zn|apply Zr)|exact HB.out))));have n1_:=Za (Zv (by repeat(first|(with_reducible first|exact HB.out|apply Zp|apply Zn|apply Zr)|exact HB.out)) hb);clear HB;have HO71003:=n0_;have HB:=n1_;clear n0_ n1_;clear hb ho5))
   go_loopg [4] k (fun kq v4 w'=>∃(x3_1:List (S90)) (x4_1:Int),v4=.int .i64 x4_1∧Aside0 (Zaz.l0 kq l0 x3_1 x4_1=some r)∧Aside0 (kq≤k)∧Aside0 (Kd.R k90 90 w' w.heap.size (fun _=>True) v71002 x3_1)∧Aside0 (Below w.heap.size w w'))
   case atStart=>exact⟨(y71001),(0),(by first|rfl|(simp;done)|(simp[*];done)),H',⟨Nat.le_refl _⟩,⟨by(with_reducible repeat(first|apply Kd.R_alloc|apply Kd.R_drewN|apply Kd.R_drew));exact HO71003.out⟩,⟨by repeat(first|(with_reducible first|exact HB.out|apply Zp|apply Zn|apply Zr)|exact HB.out)⟩⟩
   case round=>
    clear H'
    try clear c2
    try clear c2b0
    try clear c2b1
    try clear p2
    try clear c3
    try clear c3b0
    try clear c3b1
    obtain⟨x3_1,x4_1,rfl,HA,HK1,HO_3,HB⟩:=hrel
    cases gk with
    | zero=>exact absurd HA.out (by simp[Zaz.l0])
    | succ k1=>
     have H:=HA.out
     clear HA
     simp only[Zaz.l0] at H
     by_cases c6:x4_1<(l0.length:Int)
     ·rw[if_pos c6] at H
      have c6b0:decide (x4_1<(l0.length:Int))=true:=Ze c6
      clear c6
      by_cases c7:0≤x4_1
      ·rw[if_pos c7] at H
       have c7b0:decide (0≤x4_1)=true:=Ze c7
       clear c7
       replace H:=Zh H
       obtain⟨⟨t71005,t71006,t71007,t71008,t71009⟩,A80,H⟩:=H
       replace H:(if x4_1<(x3_1.length:Int) then(Zaz.l0 k1 l0 (x3_1.set (x4_1:Int).toNat (⟨t71005,t71006,t71007,t71008,t71009⟩:S90)) (wrap64 (x4_1+1))) else(none))=some r:=H
       have A8:=Za A80;clear A80
       by_cases c9:x4_1<(x3_1.length:Int)
       ·rw[if_pos c9] at H
        have c9b0:decide (x4_1<(x3_1.length:Int))=true:=Ze c9
        clear c9
        obtain⟨y71010,hy71010⟩:∃y_:List (S90),y_=(x3_1.set (x4_1:Int).toNat (⟨t71005,t71006,t71007,t71008,t71009⟩:S90)):=⟨_,rfl⟩
        replace H:(Zaz.l0 k1 l0 y71010 (wrap64 (x4_1+1)))=some r:=by first|(rw[hy71010];with_reducible exact H)|(have H2_:=(Zi _ _).symm.trans H;rw[hy71010];with_reducible exact H2_)|(have H2_:=(Zi _ _).symm.trans H;with_reducible exact H2_)|with_reducible exact H|(rw[hy71010];exact H)|exact H
        have Ny71010:=Za hy71010;clear hy71010
        have H':=Za H
        clear H
        have p71004:0≤(x4_1:Int):=Zd (by first|(with_reducible assumption)|assumption)
        have q71004:x4_1<(l0.length:Int):=Zd (by first|(with_reducible assumption)|assumption)
        obtain⟨ad71004,e71004,hx71004_0,hx71004_1,hx71004_2,hx71004_3,hx71004_4⟩:=at_T130 HR0.out x4_1 p71004 q71004
        cases e71004
        replace hx71004_0:=(HB.out.cell (Zc w _ hx71004_0)).trans hx71004_0
        replace hx71004_1:=(HB.out.cell (Zc w _ hx71004_1)).trans hx71004_1
        replace hx71004_2:=(HB.out.cell (Zc w _ hx71004_2)).trans hx71004_2
        replace hx71004_3:=(HB.out.cell (Zc w _ hx71004_3)).trans hx71004_3
        replace hx71004_4:=(HB.out.cell (Zc w _ hx71004_4)).trans hx71004_4
        replace p71004:=eq_true p71004
        replace q71004:=eq_true q71004
        go_wp2_with (first|((with_reducible refine ZH (f:=120) rfl ?_);refine ZW (some 20) rfl rfl Try.func120 (by kernel_rfl) rfl #[.agg #[.int .i64 ((ZaV l0 x4_1).f0),.int .i64 ((ZaV l0 x4_1).f1),.int .i64 ((ZaV l0 x4_1).f2),.int .i64 ((ZaV l0 x4_1).f3),.bool ((ZaV l0 x4_1).f4)]] rfl (by(try simp only[List.map_toArray,List.map_cons,List.map_nil]);first|done|rfl|(simp only[Zk,Zj];rfl)) ?_;(with_reducible refine(Zck.calls ((ZaV l0 x4_1).f0) ((ZaV l0 x4_1).f1) ((ZaV l0 x4_1).f2) ((ZaV l0 x4_1).f3) ((ZaV l0 x4_1).f4) t71005 t71006 t71007 t71008 t71009 _ A8.out).mono ?_);rintro e w11 ⟨rfl,hb⟩;refine⟨_,rfl,?_⟩;have n0_:=Za (Kd.R_below (by(with_reducible repeat(first|apply Kd.R_alloc|apply Kd.R_drewN|apply Kd.R_drew));exact HO_3.out) hb);have n1_:=Za (Zv (by repeat(first|(with_reducible first|exact HB.out|apply Zp|apply Zn|apply Zr)|exact HB.out)) hb);clear HO_3;clear HB;have HO_3:=n0_;have HB:=n1_;clear n0_ n1_;(try clear hb);(try clear hb2);(try clear hk);(try clear hi);have p10:0≤(x4_1:Int):=Zd (by first|(with_reducible assumption)|assumption);have q10:(x4_1:Int)<((x3_1.length:Int):Int):=Zd (by first|(with_reducible assumption)|assumption);obtain⟨go10,co10,eo10,gb10,gl10,cl10,HG10⟩:=Kd.R_form HO_3.out (by omega);(first|cases eo10|(injection eo10 with ea_ en_ ec_;(first|subst ea_|(injection ea_ with ea_;subst ea_));subst ec_;clear en_));have GB10:=Za gb10;have GG10:=Za HG10;clear gb10 gl10 HG10;obtain⟨ce10,hcl10,hM10,hcc10,hfr10⟩:=Kd.R_elem HO_3.out z90 (x4_1:Int) p10 q10;obtain rfl:=k90_openM hM10;have hx10_0:w11.cell? ⟨go10,(x4_1:Int).toNat * 5,none⟩=some (.int .i64 ((ZB x3_1 x4_1).f0)):=hcc10 0 _ rfl;have hx10_1:w11.cell? ⟨go10,(x4_1:Int).toNat * 5+1,none⟩=some (.int .i64 ((ZB x3_1 x4_1).f1)):=hcc10 1 _ rfl;have hx10_2:w11.cell? ⟨go10,(x4_1:Int).toNat * 5+2,none⟩=some (.int .i64 ((ZB x3_1 x4_1).f2)):=hcc10 2 _ rfl;have hx10_3:w11.cell? ⟨go10,(x4_1:Int).toNat * 5+3,none⟩=some (.int .i64 ((ZB x3_1 x4_1).f3)):=hcc10 3 _ rfl;have hx10_4:w11.cell? ⟨go10,(x4_1:Int).toNat * 5+4,none⟩=some (.bool ((ZB x3_1 x4_1).f4)):=hcc10 4 _ rfl;have hf10_0:w11.frozen? ⟨go10,(x4_1:Int).toNat * 5,none⟩=false:=hfr10 0;have hf10_1:w11.frozen? ⟨go10,(x4_1:Int).toNat * 5+1,none⟩=false:=hfr10 1;have hf10_2:w11.frozen? ⟨go10,(x4_1:Int).toNat * 5+2,none⟩=false:=hfr10 2;have hf10_3:w11.frozen? ⟨go10,(x4_1:Int).toNat * 5+3,none⟩=false:=hfr10 3;have hf10_4:w11.frozen? ⟨go10,(x4_1:Int).toNat * 5+4,none⟩=false:=hfr10 4;clear hcl10 hcc10 hfr10 hM10;replace p10:=eq_true p10;replace q10:=eq_true q10;have HX12:=Za (show Kd.R k90 90 w11 w.heap.size (fun _=>True) (.slice (some ⟨go10,0,none⟩) x3_1.length co10) x3_1 from(by(with_reducible repeat(first|apply Kd.R_alloc|apply Kd.R_drewN|apply Kd.R_drew));exact HO_3.out));obtain⟨ce12,hcl12,hM12,hcc12,hfr12⟩:=Kd.R_elem HX12.out z90 (x4_1:Int) (Zd (by first|(with_reducible assumption)|assumption)) (by have h_:(x4_1:Int)<((x3_1.length:Int):Int):=Zd (by first|(with_reducible assumption)|assumption);first|exact h_|(have e_:=(Kd.R_reads' HO_3.out).1;omega)|simpa using h_);obtain rfl:=k90_openM hM12;have HP12:=Kd.R_seg HX12.out (x4_1:Int) (Zd (by first|(with_reducible assumption)|assumption)) (by have h_:(x4_1:Int)<((x3_1.length:Int):Int):=Zd (by first|(with_reducible assumption)|assumption);first|exact h_|(have e_:=(Kd.R_reads' HO_3.out).1;omega)|simpa using h_) (seg:=[.int .i64 t71005,.int .i64 t71006,.int .i64 t71007,.int .i64 t71008,.bool t71009]) (j:=0) hcl12 hcc12 (show 5≤5 from by decide) (x':=(⟨t71005,t71006,t71007,t71008,t71009⟩:S90)) (k90_mkM _ _ _ (⟨t71005,t71006,t71007,t71008,t71009⟩:S90) ) (fun _ hk=>hk);have hx12_0:=hcc12 0 _ rfl;(try simp only[show(k90).sz=5 from rfl,Nat.mul_one,Nat.add_zero] at hx12_0);have hf12_0:=hfr12 0;(try simp only[show(k90).sz=5 from rfl,Nat.mul_one,Nat.add_zero] at hf12_0);have hx12_1:=hcc12 1 _ rfl;(try simp only[show(k90).sz=5 from rfl,Nat.mul_one,Nat.add_zero] at hx12_1);have hf12_1:=hfr12 1;(try simp only[show(k90).sz=5 from rfl,Nat.mul_one,Nat.add_zero] at hf12_1);have hx12_2:=hcc12 2 _ rfl;(try simp only[show(k90).sz=5 from rfl,Nat.mul_one,Nat.add_zero] at hx12_2);have hf12_2:=hfr12 2;(try simp only[show(k90).sz=5 from rfl,Nat.mul_one,Nat.add_zero] at hf12_2);have hx12_3:=hcc12 3 _ rfl;(try simp only[show(k90).sz=5 from rfl,Nat.mul_one,Nat.add_zero] at hx12_3);have hf12_3:=hfr12 3;(try simp only[show(k90).sz=5 from rfl,Nat.mul_one,Nat.add_zero] at hf12_3);have hx12_4:=hcc12 4 _ rfl;(try simp only[show(k90).sz=5 from rfl,Nat.mul_one,Nat.add_zero] at hx12_4);have hf12_4:=hfr12 4;(try simp only[show(k90).sz=5 from rfl,Nat.mul_one,Nat.add_zero] at hf12_4);clear hcl12 hcc12 hfr12 hM12)|((with_reducible refine Zdi (t:=90) (p:=21) rfl ?_);refine Zc1 (t:=90) (p:=21) (v:=?vo_w13) (w1:=(((((w11.setCell ⟨go10,(x4_1:Int).toNat * 5,none⟩ (.int .i64 t71005)).setCell ⟨go10,(x4_1:Int).toNat * 5+1,none⟩ (.int .i64 t71006)).setCell ⟨go10,(x4_1:Int).toNat * 5+2,none⟩ (.int .i64 t71007)).setCell ⟨go10,(x4_1:Int).toNat * 5+3,none⟩ (.int .i64 t71008)).setCell ⟨go10,(x4_1:Int).toNat * 5+4,none⟩ (.bool t71009))) ?hg ?ho ?hn ?hr ?_;(case ho=>rfl);(case hg=>rfl);(case hn=>rfl);(case hr=>first|(go_simp;done)|(go_simp;rfl));intro w13 hw;have hg:w11.grownBy w13 (some go10):=(by rw[hw];exact HP12.2);have hp_:Kd.R k90 90 w13 w.heap.size (fun _=>True) (.slice (some ⟨go10,0,none⟩) x3_1.length co10) y71010:=(by rw[hw,Ny71010.out];exact HP12.1);clear HP12;have n0_:=Za (hp_);have n1_:=Za ((by rw[hw];exact Zq (Zq (Zq (Zq (Zq (HB.out) GB10.out) GB10.out) GB10.out) GB10.out) GB10.out:Below w.heap.size w w13));clear HO_3;clear HB;have HO_3:=n0_;have HB:=n1_;clear n0_ n1_;clear hg hw hp_))
        go_roundg k1
        case measure=>have:=HK1.out;omega
        case rel=>exact⟨(y71010),(wrap64 (x4_1+1)),(by first|rfl|(simp;done)|(simp[*];done)),H',⟨by have:=HK1.out;omega⟩,⟨by(with_reducible repeat(first|apply Kd.R_alloc|apply Kd.R_drewN|apply Kd.R_drew));exact HO_3.out⟩,⟨by repeat(first|(with_reducible first|exact HB.out|apply Zp|apply Zn|apply Zr)|exact HB.out)⟩⟩
       ·rw[if_neg c9] at H
        exact absurd H (by simp)
      ·rw[if_neg c7] at H
       exact absurd H (by simp)
     ·rw[if_neg c6] at H
      have c6b0:decide (x4_1<(l0.length:Int))=false:=Zf c6
      clear c6
      obtain rfl:=Zg H
      go_wp2
      go_ret
      exact⟨_,by first|rfl|(simp[Zy,Zx] <;> rfl)|(simp[*,Zy,Zx] <;> rfl),by(with_reducible repeat(first|apply Kd.R_alloc|apply Kd.R_drewN|apply Kd.R_drew));exact HO_3.out,by repeat(first|(with_reducible first|exact HB.out|apply Zp|apply Zn|apply Zr)|exact HB.out)⟩
  ·rw[if_neg c3] at H
   exact absurd H (by simp)
 ·rw[if_neg c2] at H
  exact absurd H (by simp)
def Zbb.f (k:Nat) (l0_0:List (S127)) (l0_1:List (S130)) (a0_2:Int):Option ((List (S116))×(List (S90))×Int):=(Zau.f k l0_0).bind fun t18004=>((Zaz.f k l0_1).bind fun t18007=>(some (t18004,t18007,a0_2)))
set_option maxHeartbeats 8000000 in
set_option maxRecDepth 100000 in
theorem Zbb.calls (k:Nat) (A0_0:Option Addr) (c0_0:Nat) (l0_0:List (S127)) (A0_1:Option Addr) (c0_1:Nat) (l0_1:List (S130)) (a0_2:Int) (r1:List (S116)) (r2:List (S90)) (r3:Int) (w:World) (hr0_0:Kd.C k127 w A0_0 l0_0.length l0_0) (hc0_0:l0_0.length≤c0_0) (hr0_1:Kd.C k130 w A0_1 l0_1.length l0_1) (hc0_1:l0_1.length≤c0_1) (h:Zbb.f k l0_0 l0_1 a0_2=some (r1,r2,r3)) :
  Calls Try.prog 18 #[.agg #[.slice A0_0 l0_0.length c0_0,.slice A0_1 l0_1.length c0_1,.int .i64 a0_2]] w fun e w'=>∃v0_ v1_:Value,e=.returned (.agg #[v0_,v1_,.int .i64 r3])∧Kd.S k116 116 w' w.heap.size (fun _=>True) v0_ r1∧Kd.R k90 90 w' w.heap.size (fun _=>True) v1_ r2∧Below w.heap.size w w':=by
 have hu25:=Try.underlying25
 have hu35:=Try.underlying35
 have HR0_0:=Za hr0_0;have HC0_0:=Za hc0_0;clear hr0_0 hc0_0;have HR0_1:=Za hr0_1;have HC0_1:=Za hc0_1;clear hr0_1 hc0_1
 have HB:=Za (Below.refl w.heap.size w)
 have H:((Zau.f k l0_0).bind fun t18004=>((Zaz.f k l0_1).bind fun t18007=>(some (t18004,t18007,a0_2))))=some (r1,r2,r3):=h
 clear h
 replace H:=Zh H
 obtain⟨t18004,A20,H⟩:=H
 replace H:((Zaz.f k l0_1).bind fun t18007=>(some (t18004,t18007,a0_2)))=some (r1,r2,r3):=H
 have A2:=Za A20;clear A20
 replace H:=Zh H
 obtain⟨t18007,A30,H⟩:=H
 replace H:(some (t18004,t18007,a0_2))=some (r1,r2,r3):=H
 have A3:=Za A30;clear A30
 simp only[Option.some.injEq,Prod.mk.injEq] at H
 obtain⟨rfl,rfl,rfl⟩:=H
 go_enter Try.func18,Try.ntmps18
 go_wp2_with (first|((with_reducible refine ZG (N:=1) rfl ?_);refine ZE ?hg (N:=1) ?hd (cs:=#[.slice A0_0 l0_0.length c0_0,.slice A0_1 l0_1.length c0_1,.int .i64 a0_2]) (t:=25) ?hr ?_;(case hd=>rfl);(case hg=>rfl);(case hr=>first|(go_simp;done)|(go_simp;rfl));intro gb18001 hg w4 hbox hb;have n0_:=Za (Zv (by repeat(first|(with_reducible first|exact HB.out|apply Zp|apply Zn|apply Zr)|exact HB.out)) hb);have n1_:=Za (hbox);have n2_:=Za ((by rw[hg];exact(Zz (by repeat(first|(with_reducible first|exact HB.out|apply Zp|apply Zn|apply Zr)|exact HB.out))):w.heap.size≤gb18001));have n3_:=n2_;clear HB;have HB:=n0_;have BK18001:=n1_;have GW18001:=n2_;have GE18001:=n3_;clear n0_ n1_ n2_ n3_;clear hb hbox hg)|((with_reducible refine ZG (N:=2) rfl ?_);refine ZE ?hg (N:=2) ?hd (cs:=#[.slice none 0 0,.slice none 0 0,.int .i64 0]) (t:=35) ?hr ?_;(case hd=>rfl);(case hg=>rfl);(case hr=>first|(go_simp;done)|(go_simp;rfl));intro gb18002 hg w5 hbox hb;have n0_:=Za (Zw (g:=gb18001) (o:=.cells #[.slice A0_0 l0_0.length c0_0,.slice A0_1 l0_1.length c0_1,.int .i64 a0_2] 25 (0,0)) BK18001.out hb);have n1_:=Za (Zv (by repeat(first|(with_reducible first|exact HB.out|apply Zp|apply Zn|apply Zr|refine Zq ?_ GE18001.out)|exact HB.out)) hb);have n2_:=Za (hbox);have n3_:=Za ((by rw[hg];exact(Zz (by repeat(first|(with_reducible first|exact HB.out|apply Zp|apply Zn|apply Zr|refine Zq ?_ GE18001.out)|exact HB.out))):w.heap.size≤gb18002));have n4_:=n3_;have n5_:=Za ((by rw[hg];exact Nat.ne_of_lt (ZK BK18001.out):gb18001≠gb18002));have n6_:=Za n5_.out.symm;clear BK18001;clear HB;have BK18001:=n0_;have HB:=n1_;have BK18002:=n2_;have GW18002:=n3_;have GE18002:=n4_;have NB18001_18002:=n5_;have NB18002_18001:=n6_;clear n0_ n1_ n2_ n3_ n4_ n5_ n6_;clear hb hbox hg)|((with_reducible refine ZG (N:=3) rfl ?_);refine ZE ?hg (N:=3) ?hd (cs:=#[.slice none 0 0,.slice none 0 0,.int .i64 0]) (t:=35) ?hr ?_;(case hd=>rfl);(case hg=>rfl);(case hr=>first|(go_simp;done)|(go_simp;rfl));intro gb18003 hg w6 hbox hb;have n0_:=Za (Zw (g:=gb18001) (o:=.cells #[.slice A0_0 l0_0.length c0_0,.slice A0_1 l0_1.length c0_1,.int .i64 a0_2] 25 (0,0)) BK18001.out hb);have n1_:=Za (Zw (g:=gb18002) (o:=.cells #[.slice none 0 0,.slice none 0 0,.int .i64 0] 35 (0,0)) BK18002.out hb);have n2_:=Za (Zv (by repeat(first|(with_reducible first|exact HB.out|apply Zp|apply Zn|apply Zr|refine Zq ?_ GE18001.out|refine Zq ?_ GE18002.out)|exact HB.out)) hb);have n3_:=Za (hbox);have n4_:=Za ((by rw[hg];exact(Zz (by repeat(first|(with_reducible first|exact HB.out|apply Zp|apply Zn|apply Zr|refine Zq ?_ GE18001.out|refine Zq ?_ GE18002.out)|exact HB.out))):w.heap.size≤gb18003));have n5_:=n4_;have n6_:=Za ((by rw[hg];exact Nat.ne_of_lt (ZK BK18001.out):gb18001≠gb18003));have n7_:=Za n6_.out.symm;have n8_:=Za ((by rw[hg];exact Nat.ne_of_lt (ZK BK18002.out):gb18002≠gb18003));have n9_:=Za n8_.out.symm;clear BK18001;clear BK18002;clear HB;have BK18001:=n0_;have BK18002:=n1_;have HB:=n2_;have BK18003:=n3_;have GW18003:=n4_;have GE18003:=n5_;have NB18001_18003:=n6_;have NB18003_18001:=n7_;have NB18002_18003:=n8_;have NB18003_18002:=n9_;clear n0_ n1_ n2_ n3_ n4_ n5_ n6_ n7_ n8_ n9_;clear hb hbox hg;have hnb7:=NB18001_18002.out;have hnc7:=NB18002_18001.out;have hnb8:=NB18001_18003.out;have hnc8:=NB18003_18001.out;have hcz9_0:w6.cell? ⟨gb18001,0,none⟩=some (.slice A0_0 l0_0.length c0_0):=(Zm BK18001.out 0).trans rfl;have hcz9_1:w6.cell? ⟨gb18001,1,none⟩=some (.slice A0_1 l0_1.length c0_1):=(Zm BK18001.out 1).trans rfl;have hcz9_2:w6.cell? ⟨gb18001,2,none⟩=some (.int .i64 a0_2):=(Zm BK18001.out 2).trans rfl;have hfz9_0:=Zo BK18001.out 0;have hfz9_1:=Zo BK18001.out 1;have hfz9_2:=Zo BK18001.out 2)|((with_reducible refine ZH (f:=70) rfl ?_);refine ZW (some 6) rfl rfl Try.func70 (by kernel_rfl) rfl #[.slice A0_0 l0_0.length c0_0] rfl (by(try simp only[List.map_toArray,List.map_cons,List.map_nil]);first|done|rfl|(simp only[Zk,Zj];rfl)) ?_;(with_reducible refine(Zau.calls k _ _ l0_0 t18004 _ ?side1 ?side2 A2.out).mono ?_);(case side1=>repeat(first|exact(Zb HR0_0.out HB.out)|(with_reducible refine Kd.C_alloc ?_ _)|(with_reducible refine Kd.C_drewN ?_ _)|(with_reducible refine Kd.C_drew ?_)));(case side2=>exact HC0_0.out);rintro e w10 ⟨v18005,rfl,ho0,hb⟩;refine⟨_,rfl,?_⟩;have n0_:=Za (Kd.S_lower ho0 (Zz (by repeat(first|(with_reducible first|exact HB.out|apply Zp|apply Zn|apply Zr|refine Zq ?_ GE18001.out|refine Zq ?_ GE18002.out|refine Zq ?_ GE18003.out)|exact HB.out))));have n1_:=Za (Zw (g:=gb18001) (o:=.cells #[.slice A0_0 l0_0.length c0_0,.slice A0_1 l0_1.length c0_1,.int .i64 a0_2] 25 (0,0)) BK18001.out hb);have n2_:=Za (Zw (g:=gb18002) (o:=.cells #[.slice none 0 0,.slice none 0 0,.int .i64 0] 35 (0,0)) BK18002.out hb);have n3_:=Za (Zw (g:=gb18003) (o:=.cells #[.slice none 0 0,.slice none 0 0,.int .i64 0] 35 (0,0)) BK18003.out hb);have n4_:=Za (Zv (by repeat(first|(with_reducible first|exact HB.out|apply Zp|apply Zn|apply Zr|refine Zq ?_ GE18001.out|refine Zq ?_ GE18002.out|refine Zq ?_ GE18003.out)|exact HB.out)) hb);clear BK18001;clear BK18002;clear BK18003;clear HB;have HO18006:=n0_;have BK18001:=n1_;have BK18002:=n2_;have BK18003:=n3_;have HB:=n4_;clear n0_ n1_ n2_ n3_ n4_;(try clear hb);(try clear hb2);(try clear hk);(try clear hi);(try clear ho0);obtain⟨Ao11,co11,eo11⟩:=Kd.S_slice HO18006.out;subst eo11;have hnb12:=NB18003_18002.out;have hnc12:=NB18002_18003.out;have hcz13_0:w10.cell? ⟨gb18003,0,none⟩=some (.slice none 0 0):=(Zm BK18003.out 0).trans rfl;have hcz13_1:w10.cell? ⟨gb18003,1,none⟩=some (.slice none 0 0):=(Zm BK18003.out 1).trans rfl;have hcz13_2:w10.cell? ⟨gb18003,2,none⟩=some (.int .i64 0):=(Zm BK18003.out 2).trans rfl;have hfz13_0:=Zo BK18003.out 0;have hfz13_1:=Zo BK18003.out 1;have hfz13_2:=Zo BK18003.out 2;have hcz14_0:w10.cell? ⟨gb18001,0,none⟩=some (.slice A0_0 l0_0.length c0_0):=(Zm BK18001.out 0).trans rfl;have hcz14_1:w10.cell? ⟨gb18001,1,none⟩=some (.slice A0_1 l0_1.length c0_1):=(Zm BK18001.out 1).trans rfl;have hcz14_2:w10.cell? ⟨gb18001,2,none⟩=some (.int .i64 a0_2):=(Zm BK18001.out 2).trans rfl;have hfz14_0:=Zo BK18001.out 0;have hfz14_1:=Zo BK18001.out 1;have hfz14_2:=Zo BK18001.out 2)|((with_reducible refine ZH (f:=71) rfl ?_);refine ZW (some 10) rfl rfl Try.func71 (by kernel_rfl) rfl #[.slice A0_1 l0_1.length c0_1] rfl (by(try simp only[List.map_toArray,List.map_cons,List.map_nil]);first|done|rfl|(simp only[Zk,Zj];rfl)) ?_;(with_reducible refine(Zaz.calls k _ _ l0_1 t18007 _ ?side1 ?side2 A3.out).mono ?_);(case side1=>exact Zb HR0_1.out (by repeat(first|(with_reducible first|exact HB.out|apply Zp|apply Zn|apply Zr|refine Zq ?_ GE18001.out|refine Zq ?_ GE18002.out|refine Zq ?_ GE18003.out)|exact HB.out)));(case side2=>exact HC0_1.out);rintro e w15 ⟨v18008,rfl,ho0,hb⟩;refine⟨_,rfl,?_⟩;have n0_:=Za (Kd.S_below (by(with_reducible repeat(first|apply Kd.S_alloc|apply Kd.S_drewN|apply Kd.S_drew));exact(Kd.S_mono (Kd.S_far (p:=⟨gb18003,0,none⟩) (Kd.S_types HO18006.out BK18003.out (by decide)) (fun _ hk=>hk.2) (.slice Ao11 t18004.length co11)) (fun _ h_=>h_.1))) hb);have n1_:=Za (Kd.R_lower ho0 (Zz (by repeat(first|(with_reducible first|exact HB.out|apply Zp|apply Zn|apply Zr|refine Zq ?_ GE18001.out|refine Zq ?_ GE18002.out|refine Zq ?_ GE18003.out)|exact HB.out))));have n2_:=Za (Zw (g:=gb18001) (o:=.cells #[.slice A0_0 l0_0.length c0_0,.slice A0_1 l0_1.length c0_1,.int .i64 a0_2] 25 (0,0)) (by(with_reducible repeat(first|refine Zs ?_ _|refine Zu ?_|refine Zt ?_ _));refine ZD ?_ NB18001_18003.out _;(with_reducible repeat(first|refine Zs ?_ _|refine Zu ?_|refine Zt ?_ _));exact BK18001.out) hb);have n3_:=Za (Zw (g:=gb18002) (o:=.cells #[.slice none 0 0,.slice none 0 0,.int .i64 0] 35 (0,0)) (by(with_reducible repeat(first|refine Zs ?_ _|refine Zu ?_|refine Zt ?_ _));refine ZD ?_ NB18002_18003.out _;(with_reducible repeat(first|refine Zs ?_ _|refine Zu ?_|refine Zt ?_ _));exact BK18002.out) hb);have n4_:=Za (Zw (g:=gb18003) (o:=.cells #[.slice Ao11 t18004.length co11,.slice none 0 0,.int .i64 0] 35 (0,0)) (by(with_reducible repeat(first|refine Zs ?_ _|refine Zu ?_|refine Zt ?_ _));refine Z7 (cs:=#[.slice none 0 0,.slice none 0 0,.int .i64 0]) ?_ 0 _ rfl;(with_reducible repeat(first|refine Zs ?_ _|refine Zu ?_|refine Zt ?_ _));exact BK18003.out) hb);have n5_:=Za (Zv (by repeat(first|(with_reducible first|exact HB.out|apply Zp|apply Zn|apply Zr|refine Zq ?_ GE18001.out|refine Zq ?_ GE18002.out|refine Zq ?_ GE18003.out)|exact HB.out)) hb);clear HO18006;clear BK18001;clear BK18002;clear BK18003;clear HB;have HO18006:=n0_;have HO18009:=n1_;have BK18001:=n2_;have BK18002:=n3_;have BK18003:=n4_;have HB:=n5_;clear n0_ n1_ n2_ n3_ n4_ n5_;(try clear hb);(try clear hb2);(try clear hk);(try clear hi);(try clear ho0);obtain⟨Ao16,co16,eo16⟩:=Kd.R_slice HO18009.out;subst eo16;have hcz17_0:w15.cell? ⟨gb18003,0,none⟩=some (.slice Ao11 t18004.length co11):=(Zm BK18003.out 0).trans rfl;have hcz17_1:w15.cell? ⟨gb18003,1,none⟩=some (.slice none 0 0):=(Zm BK18003.out 1).trans rfl;have hcz17_2:w15.cell? ⟨gb18003,2,none⟩=some (.int .i64 0):=(Zm BK18003.out 2).trans rfl;have hfz17_0:=Zo BK18003.out 0;have hfz17_1:=Zo BK18003.out 1;have hfz17_2:=Zo BK18003.out 2;have hcz18_0:w15.cell? ⟨gb18001,0,none⟩=some (.slice A0_0 l0_0.length c0_0):=(Zm BK18001.out 0).trans rfl;have hcz18_1:w15.cell? ⟨gb18001,1,none⟩=some (.slice A0_1 l0_1.length c0_1):=(Zm BK18001.out 1).trans rfl;have hcz18_2:w15.cell? ⟨gb18001,2,none⟩=some (.int .i64 a0_2):=(Zm BK18001.out 2).trans rfl;have hfz18_0:=Zo BK18001.out 0;have hfz18_1:=Zo BK18001.out 1;have hfz18_2:=Zo BK18001.out 2;have hcz19_0:w15.cell? ⟨gb18002,0,none⟩=some (.slice none 0 0):=(Zm BK18002.out 0).trans rfl;have hcz19_1:w15.cell? ⟨gb18002,1,none⟩=some (.slice none 0 0):=(Zm BK18002.out 1).trans rfl;have hcz19_2:w15.cell? ⟨gb18002,2,none⟩=some (.int .i64 0):=(Zm BK18002.out 2).trans rfl;have hfz19_0:=Zo BK18002.out 0;have hfz19_1:=Zo BK18002.out 1;have hfz19_2:=Zo BK18002.out 2))
 refine bodyPost_ret (results_cell_row rfl _ _ gb18002 35 #[.slice Ao11 t18004.length co11,.slice Ao16 t18007.length co16,.int .i64 a0_2] (0,0) _ rfl (by(with_reducible repeat(first|refine Zs ?_ _|refine Zu ?_|refine Zt ?_ _));refine Z7 (cs:=#[.slice Ao11 t18004.length co11,.slice Ao16 t18007.length co16,.int .i64 0]) ?_ 2 _ rfl;(with_reducible repeat(first|refine Zs ?_ _|refine Zu ?_|refine Zt ?_ _));refine Z7 (cs:=#[.slice Ao11 t18004.length co11,.slice none 0 0,.int .i64 0]) ?_ 1 _ rfl;(with_reducible repeat(first|refine Zs ?_ _|refine Zu ?_|refine Zt ?_ _));refine Z7 (cs:=#[.slice none 0 0,.slice none 0 0,.int .i64 0]) ?_ 0 _ rfl;(with_reducible repeat(first|refine Zs ?_ _|refine Zu ?_|refine Zt ?_ _));refine ZD ?_ NB18002_18003.out _;(with_reducible repeat(first|refine Zs ?_ _|refine Zu ?_|refine Zt ?_ _));refine ZD ?_ NB18002_18003.out _;(with_reducible repeat(first|refine Zs ?_ _|refine Zu ?_|refine Zt ?_ _));exact BK18002.out) Try.underlying35 rfl (by kernel_rfl)) rfl ?_
 exact⟨_,_,by first|rfl|(simp[Zy,Zx] <;> rfl)|(simp[*,Zy,Zx] <;> rfl),by(with_reducible repeat(first|apply Kd.S_alloc|apply Kd.S_drewN|apply Kd.S_drew));exact Kd.S_mono (Kd.S_far (p:=⟨gb18002,2,none⟩) (Kd.S_far (p:=⟨gb18002,1,none⟩) (Kd.S_far (p:=⟨gb18002,0,none⟩) (Kd.S_far (p:=⟨gb18003,2,none⟩) (Kd.S_far (p:=⟨gb18003,1,none⟩) (Kd.S_types (Kd.S_types HO18006.out BK18003.out (by decide)) BK18002.out (by decide)) (fun _ hk=>hk.1.2) (.slice Ao16 t18007.length co16)) (fun _ hk=>hk.1.2) (.int .i64 a0_2)) (fun _ hk=>hk.2) (.slice Ao11 t18004.length co11)) (fun _ hk=>hk.2) (.slice Ao16 t18007.length co16)) (fun _ hk=>hk.2) (.int .i64 a0_2)) (fun _ hk=>trivial),by(with_reducible repeat(first|apply Kd.R_alloc|apply Kd.R_drewN|apply Kd.R_drew));exact Kd.R_mono (Kd.R_far (p:=⟨gb18002,2,none⟩) (Kd.R_far (p:=⟨gb18002,1,none⟩) (Kd.R_far (p:=⟨gb18002,0,none⟩) (Kd.R_far (p:=⟨gb18003,2,none⟩) (Kd.R_far (p:=⟨gb18003,1,none⟩) (Kd.R_types (Kd.R_types HO18009.out BK18003.out (by decide)) BK18002.out (by decide)) (fun _ hk=>hk.1.2) (.slice Ao16 t18007.length co16)) (fun _ hk=>hk.1.2) (.int .i64 a0_2)) (fun _ hk=>hk.2) (.slice Ao11 t18004.length co11)) (fun _ hk=>hk.2) (.slice Ao16 t18007.length co16)) (fun _ hk=>hk.2) (.int .i64 a0_2)) (fun _ hk=>trivial),by repeat(first|(with_reducible first|exact HB.out|apply Zp|apply Zn|apply Zr|refine Zq ?_ GE18001.out|refine Zq ?_ GE18002.out|refine Zq ?_ GE18003.out)|exact HB.out)⟩
theorem Zbb.c (k:Nat) (A0_0:Option Addr) (c0_0:Nat) (l0_0:List (S127)) (A0_1:Option Addr) (c0_1:Nat) (l0_1:List (S130)) (a0_2:Int) (r1:List (S116)) (r2:List (S90)) (r3:Int) (w:World) (hr0_0:Kd.C k127 w A0_0 l0_0.length l0_0) (hc0_0:l0_0.length≤c0_0) (hr0_1:Kd.C k130 w A0_1 l0_1.length l0_1) (hc0_1:l0_1.length≤c0_1) (h:Zbb.f k l0_0 l0_1 a0_2=some (r1,r2,r3)) :
  Calls Try.prog 18 #[.agg #[.slice A0_0 l0_0.length c0_0,.slice A0_1 l0_1.length c0_1,.int .i64 a0_2]] w fun e w'=>∃A0_ c0_ A1_ c1_,e=.returned (.agg #[.slice A0_ r1.length c0_,.slice A1_ r2.length c1_,.int .i64 r3])∧Aside0 (r1.length≤c0_∧Kd.C k116 w' A0_ r1.length r1)∧Aside0 (r2.length≤c1_∧Kd.C k90 w' A1_ r2.length r2)∧Below w.heap.size w w':=
 (Zbb.calls k A0_0 c0_0 l0_0 A0_1 c0_1 l0_1 a0_2 r1 r2 r3 w hr0_0 hc0_0 hr0_1 hc0_1 h).mono fun e w' ⟨v0_,v1_,he,q0_,q1_,hb⟩=>by
  obtain⟨A0_,c0_,rfl,g0_⟩:=Kd.S_reads q0_
  obtain⟨A1_,c1_,rfl,g1_⟩:=Kd.R_reads q1_
  exact⟨A0_,c0_,A1_,c1_,he,⟨g0_⟩,⟨g1_⟩,hb⟩
def Za1.f (k:Nat) (a0_0:Int) (l0_1:List Int) (l0_2:List Int):Option (Int×List Int×List Int):=(Zad.f k l0_1).bind fun t40004=>((Zad.f k l0_2).bind fun t40007=>(some (a0_0,t40004,t40007)))
set_option maxHeartbeats 8000000 in
set_option maxRecDepth 100000 in
theorem Za1.calls (k:Nat) (a0_0:Int) (A0_1:Option Addr) (c0_1:Nat) (l0_1:List Int) (A0_2:Option Addr) (c0_2:Nat) (l0_2:List Int) (r1:Int) (r2:List Int) (r3:List Int) (w:World) (hr0_1:Kd.C (Kd.int .i64) w A0_1 l0_1.length l0_1) (hc0_1:l0_1.length≤c0_1) (hr0_2:Kd.C (Kd.int .i64) w A0_2 l0_2.length l0_2) (hc0_2:l0_2.length≤c0_2) (h:Za1.f k a0_0 l0_1 l0_2=some (r1,r2,r3)) :
  Calls Try.prog 40 #[.agg #[.int .i64 a0_0,.slice A0_1 l0_1.length c0_1,.slice A0_2 l0_2.length c0_2]] w fun e w'=>∃v1_ v2_:Value,e=.returned (.agg #[.int .i64 r1,v1_,v2_])∧Kd.R (Kd.int .i64) 3 w' w.heap.size (fun k_=>some k_≠(v2_:Value).ownBlock) v1_ r2∧Kd.R (Kd.int .i64) 3 w' w.heap.size (fun k_=>some k_≠(v1_:Value).ownBlock) v2_ r3∧Below w.heap.size w w':=by
 have hu63:=Try.underlying63
 have hu66:=Try.underlying66
 have HR0_1:=Za hr0_1;have HC0_1:=Za hc0_1;clear hr0_1 hc0_1;have HR0_2:=Za hr0_2;have HC0_2:=Za hc0_2;clear hr0_2 hc0_2
 have HB:=Za (Below.refl w.heap.size w)
 have H:((Zad.f k l0_1).bind fun t40004=>((Zad.f k l0_2).bind fun t40007=>(some (a0_0,t40004,t40007))))=some (r1,r2,r3):=h
 clear h
 replace H:=Zh H
 obtain⟨t40004,A20,H⟩:=H
 replace H:((Zad.f k l0_2).bind fun t40007=>(some (a0_0,t40004,t40007)))=some (r1,r2,r3):=H
 have A2:=Za A20;clear A20
 replace H:=Zh H
 obtain⟨t40007,A30,H⟩:=H
 replace H:(some (a0_0,t40004,t40007))=some (r1,r2,r3):=H
 have A3:=Za A30;clear A30
 simp only[Option.some.injEq,Prod.mk.injEq] at H
 obtain⟨rfl,rfl,rfl⟩:=H
 go_enter Try.func40,Try.ntmps40
 go_wp2_with (first|((with_reducible refine ZG (N:=1) rfl ?_);refine ZE ?hg (N:=1) ?hd (cs:=#[.int .i64 a0_0,.slice A0_1 l0_1.length c0_1,.slice A0_2 l0_2.length c0_2]) (t:=63) ?hr ?_;(case hd=>rfl);(case hg=>rfl);(case hr=>first|(go_simp;done)|(go_simp;rfl));intro gb40001 hg w4 hbox hb;have n0_:=Za (Zv (by repeat(first|(with_reducible first|exact HB.out|apply Zp|apply Zn|apply Zr)|exact HB.out)) hb);have n1_:=Za (hbox);have n2_:=Za ((by rw[hg];exact(Zz (by repeat(first|(with_reducible first|exact HB.out|apply Zp|apply Zn|apply Zr)|exact HB.out))):w.heap.size≤gb40001));have n3_:=Za ((by rw[hg];exact(Zz (by repeat(first|(with_reducible first|exact HB.out|apply Zp|apply Zn|apply Zr)|exact HB.out))):w.heap.size≤gb40001));clear HB;have HB:=n0_;have BK40001:=n1_;have GW40001:=n2_;have GE40001:=n3_;clear n0_ n1_ n2_ n3_;clear hb hbox hg)|((with_reducible refine ZG (N:=2) rfl ?_);refine ZE ?hg (N:=2) ?hd (cs:=#[.int .i64 0,.slice none 0 0,.slice none 0 0]) (t:=66) ?hr ?_;(case hd=>rfl);(case hg=>rfl);(case hr=>first|(go_simp;done)|(go_simp;rfl));intro gb40002 hg w5 hbox hb;have n0_:=Za (Zw (g:=gb40001) (o:=.cells #[.int .i64 a0_0,.slice A0_1 l0_1.length c0_1,.slice A0_2 l0_2.length c0_2] 63 (0,0)) (by(with_reducible repeat(first|refine Zs ?_ _|refine Zu ?_|refine Zt ?_ _));exact BK40001.out) hb);have n1_:=Za (Zv (by repeat(first|(with_reducible first|exact HB.out|apply Zp|apply Zn|apply Zr|refine Zq ?_ GE40001.out)|exact HB.out)) hb);have n2_:=Za (hbox);have n3_:=Za ((by rw[hg];exact(Zz (by repeat(first|(with_reducible first|exact HB.out|apply Zp|apply Zn|apply Zr|refine Zq ?_ GE40001.out)|exact HB.out))):w.heap.size≤gb40002));have n4_:=Za ((by rw[hg];exact(Zz (by repeat(first|(with_reducible first|exact HB.out|apply Zp|apply Zn|apply Zr|refine Zq ?_ GE40001.out)|exact HB.out))):w.heap.size≤gb40002));have n5_:=Za ((by rw[hg];exact Nat.ne_of_lt (ZK (g:=gb40001) (o:=.cells #[.int .i64 a0_0,.slice A0_1 l0_1.length c0_1,.slice A0_2 l0_2.length c0_2] 63 (0,0)) (by(with_reducible repeat(first|refine Zs ?_ _|refine Zu ?_|refine Zt ?_ _));exact BK40001.out)):gb40001≠gb40002));have n6_:=Za ((by rw[hg];exact Nat.ne_of_gt (ZK (g:=gb40001) (o:=.cells #[.int .i64 a0_0,.slice A0_1 l0_1.length c0_1,.slice A0_2 l0_2.length c0_2] 63 (0,0)) (by(with_reducible repeat(first|refine Zs ?_ _|refine Zu ?_|refine Zt ?_ _));exact BK40001.out)):gb40002≠gb40001));clear BK40001;clear HB;have BK40001:=n0_;have HB:=n1_;have BK40002:=n2_;have GW40002:=n3_;have GE40002:=n4_;have NB40001_40002:=n5_;have NB40002_40001:=n6_;clear n0_ n1_ n2_ n3_ n4_ n5_ n6_;clear hb hbox hg)|((with_reducible refine ZG (N:=3) rfl ?_);refine ZE ?hg (N:=3) ?hd (cs:=#[.int .i64 0,.slice none 0 0,.slice none 0 0]) (t:=66) ?hr ?_;(case hd=>rfl);(case hg=>rfl);(case hr=>first|(go_simp;done)|(go_simp;rfl));intro gb40003 hg w6 hbox hb;have n0_:=Za (Zw (g:=gb40001) (o:=.cells #[.int .i64 a0_0,.slice A0_1 l0_1.length c0_1,.slice A0_2 l0_2.length c0_2] 63 (0,0)) (by(with_reducible repeat(first|refine Zs ?_ _|refine Zu ?_|refine Zt ?_ _));exact BK40001.out) hb);have n1_:=Za (Zw (g:=gb40002) (o:=.cells #[.int .i64 0,.slice none 0 0,.slice none 0 0] 66 (0,0)) (by(with_reducible repeat(first|refine Zs ?_ _|refine Zu ?_|refine Zt ?_ _));exact BK40002.out) hb);have n2_:=Za (Zv (by repeat(first|(with_reducible first|exact HB.out|apply Zp|apply Zn|apply Zr|refine Zq ?_ GE40001.out|refine Zq ?_ GE40002.out)|exact HB.out)) hb);have n3_:=Za (hbox);have n4_:=Za ((by rw[hg];exact(Zz (by repeat(first|(with_reducible first|exact HB.out|apply Zp|apply Zn|apply Zr|refine Zq ?_ GE40001.out|refine Zq ?_ GE40002.out)|exact HB.out))):w.heap.size≤gb40003));have n5_:=Za ((by rw[hg];exact(Zz (by repeat(first|(with_reducible first|exact HB.out|apply Zp|apply Zn|apply Zr|refine Zq ?_ GE40001.out|refine Zq ?_ GE40002.out)|exact HB.out))):w.heap.size≤gb40003));have n6_:=Za ((by rw[hg];exact Nat.ne_of_lt (ZK (g:=gb40001) (o:=.cells #[.int .i64 a0_0,.slice A0_1 l0_1.length c0_1,.slice A0_2 l0_2.length c0_2] 63 (0,0)) (by(with_reducible repeat(first|refine Zs ?_ _|refine Zu ?_|refine Zt ?_ _));exact BK40001.out)):gb40001≠gb40003));have n7_:=Za ((by rw[hg];exact Nat.ne_of_gt (ZK (g:=gb40001) (o:=.cells #[.int .i64 a0_0,.slice A0_1 l0_1.length c0_1,.slice A0_2 l0_2.length c0_2] 63 (0,0)) (by(with_reducible repeat(first|refine Zs ?_ _|refine Zu ?_|refine Zt ?_ _));exact BK40001.out)):gb40003≠gb40001));have n8_:=Za ((by rw[hg];exact Nat.ne_of_lt (ZK (g:=gb40002) (o:=.cells #[.int .i64 0,.slice none 0 0,.slice none 0 0] 66 (0,0)) (by(with_reducible repeat(first|refine Zs ?_ _|refine Zu ?_|refine Zt ?_ _));exact BK40002.out)):gb40002≠gb40003));have n9_:=Za ((by rw[hg];exact Nat.ne_of_gt (ZK (g:=gb40002) (o:=.cells #[.int .i64 0,.slice none 0 0,.slice none 0 0] 66 (0,0)) (by(with_reducible repeat(first|refine Zs ?_ _|refine Zu ?_|refine Zt ?_ _));exact BK40002.out)):gb40003≠gb40002));clear BK40001;clear BK40002;clear HB;have BK40001:=n0_;have BK40002:=n1_;have HB:=n2_;have BK40003:=n3_;have GW40003:=n4_;have GE40003:=n5_;have NB40001_40003:=n6_;have NB40003_40001:=n7_;have NB40002_40003:=n8_;have NB40003_40002:=n9_;clear n0_ n1_ n2_ n3_ n4_ n5_ n6_ n7_ n8_ n9_;clear hb hbox hg;have hnb7:=NB40001_40002.out;have hnc7:=NB40002_40001.out;have hnb8:=NB40001_40003.out;have hnc8:=NB40003_40001.out;have hcz9_0:w6.cell? ⟨gb40001,0,none⟩=some (.int .i64 a0_0):=(Zm BK40001.out 0).trans rfl;have hcz9_1:w6.cell? ⟨gb40001,1,none⟩=some (.slice A0_1 l0_1.length c0_1):=(Zm BK40001.out 1).trans rfl;have hcz9_2:w6.cell? ⟨gb40001,2,none⟩=some (.slice A0_2 l0_2.length c0_2):=(Zm BK40001.out 2).trans rfl;have hfz9_0:=Zo BK40001.out 0;have hfz9_1:=Zo BK40001.out 1;have hfz9_2:=Zo BK40001.out 2;have hnb10:=NB40003_40002.out;have hnc10:=NB40002_40003.out;have hcz11_0:w6.cell? ⟨gb40003,0,none⟩=some (.int .i64 0):=(Zm BK40003.out 0).trans rfl;have hcz11_1:w6.cell? ⟨gb40003,1,none⟩=some (.slice none 0 0):=(Zm BK40003.out 1).trans rfl;have hcz11_2:w6.cell? ⟨gb40003,2,none⟩=some (.slice none 0 0):=(Zm BK40003.out 2).trans rfl;have hfz11_0:=Zo BK40003.out 0;have hfz11_1:=Zo BK40003.out 1;have hfz11_2:=Zo BK40003.out 2)|((with_reducible refine ZH (f:=58) rfl ?_);refine ZW (some 9) rfl rfl Try.func58 (by kernel_rfl) rfl #[.slice A0_1 l0_1.length c0_1] rfl (by(try simp only[List.map_toArray,List.map_cons,List.map_nil]);first|done|rfl|(simp only[Zk,Zj];rfl)) ?_;(with_reducible refine(Zad.calls k _ _ l0_1 t40004 _ ?side1 ?side2 A2.out).mono ?_);(case side1=>exact Zb HR0_1.out (by repeat(first|(with_reducible first|exact HB.out|apply Zp|apply Zn|apply Zr|refine Zq ?_ GE40001.out|refine Zq ?_ GE40002.out|refine Zq ?_ GE40003.out)|exact HB.out)));(case side2=>exact HC0_1.out);rintro e w12 ⟨v40005,rfl,ho0,hb⟩;refine⟨_,rfl,?_⟩;have n0_:=Za (Kd.R_lower ho0 (Zz (by repeat(first|(with_reducible first|exact HB.out|apply Zp|apply Zn|apply Zr|refine Zq ?_ GE40001.out|refine Zq ?_ GE40002.out|refine Zq ?_ GE40003.out)|exact HB.out))));have n1_:=Za (Zw (g:=gb40001) (o:=.cells #[.int .i64 a0_0,.slice A0_1 l0_1.length c0_1,.slice A0_2 l0_2.length c0_2] 63 (0,0)) (by(with_reducible repeat(first|refine Zs ?_ _|refine Zu ?_|refine Zt ?_ _));refine ZD ?_ NB40001_40003.out _;(with_reducible repeat(first|refine Zs ?_ _|refine Zu ?_|refine Zt ?_ _));exact BK40001.out) hb);have n2_:=Za (Zw (g:=gb40002) (o:=.cells #[.int .i64 0,.slice none 0 0,.slice none 0 0] 66 (0,0)) (by(with_reducible repeat(first|refine Zs ?_ _|refine Zu ?_|refine Zt ?_ _));refine ZD ?_ NB40002_40003.out _;(with_reducible repeat(first|refine Zs ?_ _|refine Zu ?_|refine Zt ?_ _));exact BK40002.out) hb);have n3_:=Za (Zw (g:=gb40003) (o:=.cells #[.int .i64 a0_0,.slice none 0 0,.slice none 0 0] 66 (0,0)) (by(with_reducible repeat(first|refine Zs ?_ _|refine Zu ?_|refine Zt ?_ _));refine Z7 (cs:=#[.int .i64 0,.slice none 0 0,.slice none 0 0]) ?_ 0 _ rfl;(with_reducible repeat(first|refine Zs ?_ _|refine Zu ?_|refine Zt ?_ _));exact BK40003.out) hb);have n4_:=Za (Zv (by repeat(first|(with_reducible first|exact HB.out|apply Zp|apply Zn|apply Zr|refine Zq ?_ GE40001.out|refine Zq ?_ GE40002.out|refine Zq ?_ GE40003.out)|exact HB.out)) hb);clear BK40001;clear BK40002;clear BK40003;clear HB;have HO40006:=n0_;have BK40001:=n1_;have BK40002:=n2_;have BK40003:=n3_;have HB:=n4_;clear n0_ n1_ n2_ n3_ n4_;(try clear hb);(try clear hb2);(try clear hk);(try clear hi);(try clear ho0);obtain⟨Ao13,co13,eo13⟩:=Kd.R_slice HO40006.out;subst eo13;have hcz14_0:w12.cell? ⟨gb40003,0,none⟩=some (.int .i64 a0_0):=(Zm BK40003.out 0).trans rfl;have hcz14_1:w12.cell? ⟨gb40003,1,none⟩=some (.slice none 0 0):=(Zm BK40003.out 1).trans rfl;have hcz14_2:w12.cell? ⟨gb40003,2,none⟩=some (.slice none 0 0):=(Zm BK40003.out 2).trans rfl;have hfz14_0:=Zo BK40003.out 0;have hfz14_1:=Zo BK40003.out 1;have hfz14_2:=Zo BK40003.out 2;have hcz15_0:w12.cell? ⟨gb40001,0,none⟩=some (.int .i64 a0_0):=(Zm BK40001.out 0).trans rfl;have hcz15_1:w12.cell? ⟨gb40001,1,none⟩=some (.slice A0_1 l0_1.length c0_1):=(Zm BK40001.out 1).trans rfl;have hcz15_2:w12.cell? ⟨gb40001,2,none⟩=some (.slice A0_2 l0_2.length c0_2):=(Zm BK40001.out 2).trans rfl;have hfz15_0:=Zo BK40001.out 0;have hfz15_1:=Zo BK40001.out 1;have hfz15_2:=Zo BK40001.out 2)|((with_reducible refine ZH (f:=58) rfl ?_);refine ZW (some 13) rfl rfl Try.func58 (by kernel_rfl) rfl #[.slice A0_2 l0_2.length c0_2] rfl (by(try simp only[List.map_toArray,List.map_cons,List.map_nil]);first|done|rfl|(simp only[Zk,Zj];rfl)) ?_;(with_reducible refine(Zad.calls k _ _ l0_2 t40007 _ ?side1 ?side2 A3.out).mono ?_);(case side1=>exact Zb HR0_2.out (by repeat(first|(with_reducible first|exact HB.out|apply Zp|apply Zn|apply Zr|refine Zq ?_ GE40001.out|refine Zq ?_ GE40002.out|refine Zq ?_ GE40003.out)|exact HB.out)));(case side2=>exact HC0_2.out);rintro e w16 ⟨v40008,rfl,ho0,hb⟩;refine⟨_,rfl,?_⟩;have n0_:=Za (Kd.R_elder' (by(with_reducible repeat(first|apply Kd.R_alloc|apply Kd.R_drewN|apply Kd.R_drew));exact(Kd.R_mono (Kd.R_far (p:=⟨gb40003,1,none⟩) (Kd.R_types HO40006.out BK40003.out (by decide)) (fun _ hk=>hk.2) (.slice Ao13 t40004.length co13)) (fun _ h_=>h_.1))) (Kd.R_base ho0) hb);have n1_:=Za (Kd.R_lower (Kd.R_new' ho0 (Kd.R_lt (by(with_reducible repeat(first|apply Kd.R_alloc|apply Kd.R_drewN|apply Kd.R_drew));exact(Kd.R_mono (Kd.R_far (p:=⟨gb40003,1,none⟩) (Kd.R_types HO40006.out BK40003.out (by decide)) (fun _ hk=>hk.2) (.slice Ao13 t40004.length co13)) (fun _ h_=>h_.1))))) (Zz (by repeat(first|(with_reducible first|exact HB.out|apply Zp|apply Zn|apply Zr|refine Zq ?_ GE40001.out|refine Zq ?_ GE40002.out|refine Zq ?_ GE40003.out)|exact HB.out))));have n2_:=Za (Zw (g:=gb40001) (o:=.cells #[.int .i64 a0_0,.slice A0_1 l0_1.length c0_1,.slice A0_2 l0_2.length c0_2] 63 (0,0)) (by(with_reducible repeat(first|refine Zs ?_ _|refine Zu ?_|refine Zt ?_ _));refine ZD ?_ NB40001_40003.out _;(with_reducible repeat(first|refine Zs ?_ _|refine Zu ?_|refine Zt ?_ _));exact BK40001.out) hb);have n3_:=Za (Zw (g:=gb40002) (o:=.cells #[.int .i64 0,.slice none 0 0,.slice none 0 0] 66 (0,0)) (by(with_reducible repeat(first|refine Zs ?_ _|refine Zu ?_|refine Zt ?_ _));refine ZD ?_ NB40002_40003.out _;(with_reducible repeat(first|refine Zs ?_ _|refine Zu ?_|refine Zt ?_ _));exact BK40002.out) hb);have n4_:=Za (Zw (g:=gb40003) (o:=.cells #[.int .i64 a0_0,.slice Ao13 t40004.length co13,.slice none 0 0] 66 (0,0)) (by(with_reducible repeat(first|refine Zs ?_ _|refine Zu ?_|refine Zt ?_ _));refine Z7 (cs:=#[.int .i64 a0_0,.slice none 0 0,.slice none 0 0]) ?_ 1 _ rfl;(with_reducible repeat(first|refine Zs ?_ _|refine Zu ?_|refine Zt ?_ _));exact BK40003.out) hb);have n5_:=Za (Zv (by repeat(first|(with_reducible first|exact HB.out|apply Zp|apply Zn|apply Zr|refine Zq ?_ GE40001.out|refine Zq ?_ GE40002.out|refine Zq ?_ GE40003.out)|exact HB.out)) hb);clear HO40006;clear BK40001;clear BK40002;clear BK40003;clear HB;have HO40006:=n0_;have HO40009:=n1_;have BK40001:=n2_;have BK40002:=n3_;have BK40003:=n4_;have HB:=n5_;clear n0_ n1_ n2_ n3_ n4_ n5_;(try clear hb);(try clear hb2);(try clear hk);(try clear hi);(try clear ho0);obtain⟨Ao17,co17,eo17⟩:=Kd.R_slice HO40009.out;subst eo17;have hcz18_0:w16.cell? ⟨gb40003,0,none⟩=some (.int .i64 a0_0):=(Zm BK40003.out 0).trans rfl;have hcz18_1:w16.cell? ⟨gb40003,1,none⟩=some (.slice Ao13 t40004.length co13):=(Zm BK40003.out 1).trans rfl;have hcz18_2:w16.cell? ⟨gb40003,2,none⟩=some (.slice none 0 0):=(Zm BK40003.out 2).trans rfl;have hfz18_0:=Zo BK40003.out 0;have hfz18_1:=Zo BK40003.out 1;have hfz18_2:=Zo BK40003.out 2;have hcz19_0:w16.cell? ⟨gb40002,0,none⟩=some (.int .i64 0):=(Zm BK40002.out 0).trans rfl;have hcz19_1:w16.cell? ⟨gb40002,1,none⟩=some (.slice none 0 0):=(Zm BK40002.out 1).trans rfl;have hcz19_2:w16.cell? ⟨gb40002,2,none⟩=some (.slice none 0 0):=(Zm BK40002.out 2).trans rfl;have hfz19_0:=Zo BK40002.out 0;have hfz19_1:=Zo BK40002.out 1;have hfz19_2:=Zo BK40002.out 2))
 refine bodyPost_ret (results_cell_row rfl _ _ gb40002 66 #[.int .i64 a0_0,.slice Ao13 t40004.length co13,.slice Ao17 t40007.length co17] (0,0) _ rfl (by(with_reducible repeat(first|refine Zs ?_ _|refine Zu ?_|refine Zt ?_ _));refine Z7 (cs:=#[.int .i64 a0_0,.slice Ao13 t40004.length co13,.slice none 0 0]) ?_ 2 _ rfl;(with_reducible repeat(first|refine Zs ?_ _|refine Zu ?_|refine Zt ?_ _));refine Z7 (cs:=#[.int .i64 a0_0,.slice none 0 0,.slice none 0 0]) ?_ 1 _ rfl;(with_reducible repeat(first|refine Zs ?_ _|refine Zu ?_|refine Zt ?_ _));refine Z7 (cs:=#[.int .i64 0,.slice none 0 0,.slice none 0 0]) ?_ 0 _ rfl;(with_reducible repeat(first|refine Zs ?_ _|refine Zu ?_|refine Zt ?_ _));refine ZD ?_ NB40002_40003.out _;(with_reducible repeat(first|refine Zs ?_ _|refine Zu ?_|refine Zt ?_ _));exact BK40002.out) Try.underlying66 rfl (by kernel_rfl)) rfl ?_
 exact⟨_,_,by first|rfl|(simp[Zy,Zx] <;> rfl)|(simp[*,Zy,Zx] <;> rfl),by(with_reducible repeat(first|apply Kd.R_alloc|apply Kd.R_drewN|apply Kd.R_drew));exact Kd.R_mono (Kd.R_far (p:=⟨gb40002,2,none⟩) (Kd.R_far (p:=⟨gb40002,1,none⟩) (Kd.R_far (p:=⟨gb40002,0,none⟩) (Kd.R_far (p:=⟨gb40003,2,none⟩) (Kd.R_types (Kd.R_types HO40006.out BK40003.out (by decide)) BK40002.out (by decide)) (fun _ hk=>hk.1.2) (.slice Ao17 t40007.length co17)) (fun _ hk=>hk.2) (.int .i64 a0_0)) (fun _ hk=>hk.2) (.slice Ao13 t40004.length co13)) (fun _ hk=>hk.2) (.slice Ao17 t40007.length co17)) (fun _ hk=>hk.1.1.2),by(with_reducible repeat(first|apply Kd.R_alloc|apply Kd.R_drewN|apply Kd.R_drew));exact Kd.R_mono (Kd.R_far (p:=⟨gb40002,2,none⟩) (Kd.R_far (p:=⟨gb40002,1,none⟩) (Kd.R_far (p:=⟨gb40002,0,none⟩) (Kd.R_far (p:=⟨gb40003,2,none⟩) (Kd.R_types (Kd.R_types HO40009.out BK40003.out (by decide)) BK40002.out (by decide)) (fun _ hk=>hk.1.2) (.slice Ao17 t40007.length co17)) (fun _ hk=>hk.2) (.int .i64 a0_0)) (fun _ hk=>hk.2) (.slice Ao13 t40004.length co13)) (fun _ hk=>hk.2) (.slice Ao17 t40007.length co17)) (fun _ hk=>hk.1.1.2),by repeat(first|(with_reducible first|exact HB.out|apply Zp|apply Zn|apply Zr|refine Zq ?_ GE40001.out|refine Zq ?_ GE40002.out|refine Zq ?_ GE40003.out)|exact HB.out)⟩
theorem Za1.c (k:Nat) (a0_0:Int) (A0_1:Option Addr) (c0_1:Nat) (l0_1:List Int) (A0_2:Option Addr) (c0_2:Nat) (l0_2:List Int) (r1:Int) (r2:List Int) (r3:List Int) (w:World) (hr0_1:Kd.C (Kd.int .i64) w A0_1 l0_1.length l0_1) (hc0_1:l0_1.length≤c0_1) (hr0_2:Kd.C (Kd.int .i64) w A0_2 l0_2.length l0_2) (hc0_2:l0_2.length≤c0_2) (h:Za1.f k a0_0 l0_1 l0_2=some (r1,r2,r3)) :
  Calls Try.prog 40 #[.agg #[.int .i64 a0_0,.slice A0_1 l0_1.length c0_1,.slice A0_2 l0_2.length c0_2]] w fun e w'=>∃A0_ c0_ A1_ c1_,e=.returned (.agg #[.int .i64 r1,.slice A0_ r2.length c0_,.slice A1_ r3.length c1_])∧Aside0 (r2.length≤c0_∧Kd.C (Kd.int .i64) w' A0_ r2.length r2)∧Aside0 (r3.length≤c1_∧Kd.C (Kd.int .i64) w' A1_ r3.length r3)∧Below w.heap.size w w':=
 (Za1.calls k a0_0 A0_1 c0_1 l0_1 A0_2 c0_2 l0_2 r1 r2 r3 w hr0_1 hc0_1 hr0_2 hc0_2 h).mono fun e w' ⟨v1_,v2_,he,q0_,q1_,hb⟩=>by
  obtain⟨A0_,c0_,rfl,g0_⟩:=Kd.R_reads q0_
  obtain⟨A1_,c1_,rfl,g1_⟩:=Kd.R_reads q1_
  exact⟨A0_,c0_,A1_,c1_,he,⟨g0_⟩,⟨g1_⟩,hb⟩
def ZaC.f (l0:List Int) (a1:Int):Option (Int):=if (wrap64 (a1 - (l0.length:Int)))<0 then(some (-1)) else(some (wrap64 (a1 - (l0.length:Int))))
set_option maxHeartbeats 8000000 in
set_option maxRecDepth 100000 in
theorem ZaC.calls (A0:Option Addr) (c0:Nat) (l0:List Int) (a1:Int) (r:Int) (w:World) (hr0:Kd.C (Kd.int .i64) w A0 l0.length l0) (hc0:l0.length≤c0) (h:ZaC.f l0 a1=some r) :
  Calls Try.prog 65 #[.slice A0 l0.length c0,.int .i64 a1] w fun e w'=>e=.returned (.int .i64 r)∧ZF w w':=by
 have HR0:=Za hr0;have HC0:=Za hc0;clear hr0 hc0
 have H:(if (wrap64 (a1 - (l0.length:Int)))<0 then(some (-1)) else(some (wrap64 (a1 - (l0.length:Int)))))=some r:=h
 clear h
 by_cases c3:(wrap64 (a1 - (l0.length:Int)))<0
 ·rw[if_pos c3] at H
  have c3b0:decide ((wrap64 (a1 - (l0.length:Int)))<0)=true:=Ze c3
  clear c3
  obtain rfl:=Zg H
  go_enter Try.func65,Try.ntmps65
  go_wp2
  go_ret
  exact⟨by first|rfl|(simp;done)|(simp[*];done),by repeat(first|exact ZF.refl _|apply ZF.step)⟩
 ·rw[if_neg c3] at H
  have c3b0:decide ((wrap64 (a1 - (l0.length:Int)))<0)=false:=Zf c3
  clear c3
  obtain rfl:=Zg H
  go_enter Try.func65,Try.ntmps65
  go_wp2
  go_ret
  exact⟨by first|rfl|(simp;done)|(simp[*];done),by repeat(first|exact ZF.refl _|apply ZF.step)⟩
def ZbI.f (a0_0:ByteArray) (l0_1:List Int) (a0_2:Int) (a1:Int):Option (Int):=if (wrap64 (a1 - (a0_0.size:Int)))<0 then(some (-1)) else((ZaC.f l0_1 (wrap64 (a1 - (a0_0.size:Int)))).bind fun t116002=>(if t116002<0 then(some (-1)) else(some t116002)))
set_option maxHeartbeats 8000000 in
set_option maxRecDepth 100000 in
theorem ZbI.calls (a0_0:ByteArray) (A0_1:Option Addr) (c0_1:Nat) (l0_1:List Int) (a0_2:Int) (a1:Int) (r:Int) (w:World) (hr0_1:Kd.C (Kd.int .i64) w A0_1 l0_1.length l0_1) (hc0_1:l0_1.length≤c0_1) (h:ZbI.f a0_0 l0_1 a0_2 a1=some r) :
  Calls Try.prog 116 #[.agg #[.string a0_0,.slice A0_1 l0_1.length c0_1,.int .i64 a0_2],.int .i64 a1] w fun e w'=>e=.returned (.int .i64 r)∧Below w.heap.size w w':=by
 have hu127:=Try.underlying127
 have HR0_1:=Za hr0_1;have HC0_1:=Za hc0_1;clear hr0_1 hc0_1
 have HB:=Za (Below.refl w.heap.size w)
 have H:(if (wrap64 (a1 - (a0_0.size:Int)))<0 then(some (-1)) else((ZaC.f l0_1 (wrap64 (a1 - (a0_0.size:Int)))).bind fun t116002=>(if t116002<0 then(some (-1)) else(some t116002))))=some r:=h
 clear h
 by_cases c3:(wrap64 (a1 - (a0_0.size:Int)))<0
 ·rw[if_pos c3] at H
  have c3b0:decide ((wrap64 (a1 - (a0_0.size:Int)))<0)=true:=Ze c3
  clear c3
  obtain rfl:=Zg H
  go_enter Try.func116,Try.ntmps116
  go_wp2_with (first|((with_reducible refine ZG (N:=2) rfl ?_);refine ZE ?hg (N:=2) ?hd (cs:=#[.string a0_0,.slice A0_1 l0_1.length c0_1,.int .i64 a0_2]) (t:=127) ?hr ?_;(case hd=>rfl);(case hg=>rfl);(case hr=>first|(go_simp;done)|(go_simp;rfl));intro gb116001 hg w4 hbox hb;have n0_:=Za (Zv (by repeat(first|(with_reducible first|exact HB.out|apply Zp|apply Zn|apply Zr)|exact HB.out)) hb);have n1_:=Za (hbox);have n2_:=Za ((by rw[hg];exact(Zz (by repeat(first|(with_reducible first|exact HB.out|apply Zp|apply Zn|apply Zr)|exact HB.out))):w.heap.size≤gb116001));have n3_:=Za ((by rw[hg];exact(Zz (by repeat(first|(with_reducible first|exact HB.out|apply Zp|apply Zn|apply Zr)|exact HB.out))):w.heap.size≤gb116001));clear HB;have HB:=n0_;have BK116001:=n1_;have GW116001:=n2_;have GE116001:=n3_;clear n0_ n1_ n2_ n3_;clear hb hbox hg;have hcz5_0:w4.cell? ⟨gb116001,0,none⟩=some (.string a0_0):=(Zm BK116001.out 0).trans rfl;have hcz5_1:w4.cell? ⟨gb116001,1,none⟩=some (.slice A0_1 l0_1.length c0_1):=(Zm BK116001.out 1).trans rfl;have hcz5_2:w4.cell? ⟨gb116001,2,none⟩=some (.int .i64 a0_2):=(Zm BK116001.out 2).trans rfl;have hfz5_0:=Zo BK116001.out 0;have hfz5_1:=Zo BK116001.out 1;have hfz5_2:=Zo BK116001.out 2))
  go_ret
  exact⟨by first|rfl|(simp[Zy,Zx] <;> rfl)|(simp[*,Zy,Zx] <;> rfl),by repeat(first|(with_reducible first|exact HB.out|apply Zp|apply Zn|apply Zr|refine Zq ?_ GE116001.out)|exact HB.out)⟩
 ·rw[if_neg c3] at H
  have c3b0:decide ((wrap64 (a1 - (a0_0.size:Int)))<0)=false:=Zf c3
  clear c3
  replace H:=Zh H
  obtain⟨t116002,A60,H⟩:=H
  replace H:(if t116002<0 then(some (-1)) else(some t116002))=some r:=H
  have A6:=Za A60;clear A60
  by_cases c7:t116002<0
  ·rw[if_pos c7] at H
   have c7b0:decide (t116002<0)=true:=Ze c7
   clear c7
   obtain rfl:=Zg H
   go_enter Try.func116,Try.ntmps116
   go_wp2_with (first|((with_reducible refine ZG (N:=2) rfl ?_);refine ZE ?hg (N:=2) ?hd (cs:=#[.string a0_0,.slice A0_1 l0_1.length c0_1,.int .i64 a0_2]) (t:=127) ?hr ?_;(case hd=>rfl);(case hg=>rfl);(case hr=>first|(go_simp;done)|(go_simp;rfl));intro gb116001 hg w8 hbox hb;have n0_:=Za (Zv (by repeat(first|(with_reducible first|exact HB.out|apply Zp|apply Zn|apply Zr)|exact HB.out)) hb);have n1_:=Za (hbox);have n2_:=Za ((by rw[hg];exact(Zz (by repeat(first|(with_reducible first|exact HB.out|apply Zp|apply Zn|apply Zr)|exact HB.out))):w.heap.size≤gb116001));have n3_:=Za ((by rw[hg];exact(Zz (by repeat(first|(with_reducible first|exact HB.out|apply Zp|apply Zn|apply Zr)|exact HB.out))):w.heap.size≤gb116001));clear HB;have HB:=n0_;have BK116001:=n1_;have GW116001:=n2_;have GE116001:=n3_;clear n0_ n1_ n2_ n3_;clear hb hbox hg;have hcz9_0:w8.cell? ⟨gb116001,0,none⟩=some (.string a0_0):=(Zm BK116001.out 0).trans rfl;have hcz9_1:w8.cell? ⟨gb116001,1,none⟩=some (.slice A0_1 l0_1.length c0_1):=(Zm BK116001.out 1).trans rfl;have hcz9_2:w8.cell? ⟨gb116001,2,none⟩=some (.int .i64 a0_2):=(Zm BK116001.out 2).trans rfl;have hfz9_0:=Zo BK116001.out 0;have hfz9_1:=Zo BK116001.out 1;have hfz9_2:=Zo BK116001.out 2)|((with_reducible refine ZH (f:=65) rfl ?_);refine ZW (some 15) rfl rfl Try.func65 (by kernel_rfl) rfl #[.slice A0_1 l0_1.length c0_1,.int .i64 (wrap64 (a1 - (a0_0.size:Int)))] rfl (by(try simp only[List.map_toArray,List.map_cons,List.map_nil]);first|done|rfl|(simp only[Zk,Zj];rfl)) ?_;(with_reducible refine(ZaC.calls _ _ l0_1 (wrap64 (a1 - (a0_0.size:Int))) t116002 _ ?side1 ?side2 A6.out).mono ?_);(case side1=>repeat(first|exact(Zb HR0_1.out HB.out)|(with_reducible refine Kd.C_alloc ?_ _)|(with_reducible refine Kd.C_drewN ?_ _)|(with_reducible refine Kd.C_drew ?_)));(case side2=>exact HC0_1.out);rintro e w' ⟨rfl,⟨nd,rfl⟩⟩;refine⟨_,rfl,?_⟩))
   go_ret
   exact⟨by first|rfl|(simp[Zy,Zx] <;> rfl)|(simp[*,Zy,Zx] <;> rfl),by repeat(first|(with_reducible first|exact HB.out|apply Zp|apply Zn|apply Zr|refine Zq ?_ GE116001.out)|exact HB.out)⟩
  ·rw[if_neg c7] at H
   have c7b0:decide (t116002<0)=false:=Zf c7
   clear c7
   obtain rfl:=Zg H
   go_enter Try.func116,Try.ntmps116
   go_wp2_with (first|((with_reducible refine ZG (N:=2) rfl ?_);refine ZE ?hg (N:=2) ?hd (cs:=#[.string a0_0,.slice A0_1 l0_1.length c0_1,.int .i64 a0_2]) (t:=127) ?hr ?_;(case hd=>rfl);(case hg=>rfl);(case hr=>first|(go_simp;done)|(go_simp;rfl));intro gb116001 hg w10 hbox hb;have n0_:=Za (Zv (by repeat(first|(with_reducible first|exact HB.out|apply Zp|apply Zn|apply Zr)|exact HB.out)) hb);have n1_:=Za (hbox);have n2_:=Za ((by rw[hg];exact(Zz (by repeat(first|(with_reducible first|exact HB.out|apply Zp|apply Zn|apply Zr)|exact HB.out))):w.heap.size≤gb116001));have n3_:=Za ((by rw[hg];exact(Zz (by repeat(first|(with_reducible first|exact HB.out|apply Zp|apply Zn|apply Zr)|exact HB.out))):w.heap.size≤gb116001));clear HB;have HB:=n0_;have BK116001:=n1_;have GW116001:=n2_;have GE116001:=n3_;clear n0_ n1_ n2_ n3_;clear hb hbox hg;have hcz11_0:w10.cell? ⟨gb116001,0,none⟩=some (.string a0_0):=(Zm BK116001.out 0).trans rfl;have hcz11_1:w10.cell? ⟨gb116001,1,none⟩=some (.slice A0_1 l0_1.length c0_1):=(Zm BK116001.out 1).trans rfl;have hcz11_2:w10.cell? ⟨gb116001,2,none⟩=some (.int .i64 a0_2):=(Zm BK116001.out 2).trans rfl;have hfz11_0:=Zo BK116001.out 0;have hfz11_1:=Zo BK116001.out 1;have hfz11_2:=Zo BK116001.out 2)|((with_reducible refine ZH (f:=65) rfl ?_);refine ZW (some 15) rfl rfl Try.func65 (by kernel_rfl) rfl #[.slice A0_1 l0_1.length c0_1,.int .i64 (wrap64 (a1 - (a0_0.size:Int)))] rfl (by(try simp only[List.map_toArray,List.map_cons,List.map_nil]);first|done|rfl|(simp only[Zk,Zj];rfl)) ?_;(with_reducible refine(ZaC.calls _ _ l0_1 (wrap64 (a1 - (a0_0.size:Int))) t116002 _ ?side1 ?side2 A6.out).mono ?_);(case side1=>repeat(first|exact(Zb HR0_1.out HB.out)|(with_reducible refine Kd.C_alloc ?_ _)|(with_reducible refine Kd.C_drewN ?_ _)|(with_reducible refine Kd.C_drew ?_)));(case side2=>exact HC0_1.out);rintro e w' ⟨rfl,⟨nd,rfl⟩⟩;refine⟨_,rfl,?_⟩))
   go_ret
   exact⟨by first|rfl|(simp[Zy,Zx] <;> rfl)|(simp[*,Zy,Zx] <;> rfl),by repeat(first|(with_reducible first|exact HB.out|apply Zp|apply Zn|apply Zr|refine Zq ?_ GE116001.out)|exact HB.out)⟩
def Zav.l0:Nat→List (S127)→Int→Int→Option (Int)
 | 0,_,_,_=>none
 | k+1,x0,x1,x5=>if x5<(x0.length:Int) then(if 0≤x5 then((ZbI.f ((ZaB x0 x5).f0) ((ZaB x0 x5).f1) ((ZaB x0 x5).f2) x1).bind fun t63002=>(if t63002<0 then(some (-1)) else(Zav.l0 k x0 t63002 (wrap64 (x5+1))))) else(none)) else(some x1)
def Zav.f (k:Nat) (l0:List (S127)) (a1:Int):Option (Int):=if (wrap64 (a1 - (l0.length:Int)))<0 then(some (-1)) else(Zav.l0 k l0 (wrap64 (a1 - (l0.length:Int))) 0)
set_option maxHeartbeats 8000000 in
set_option maxRecDepth 100000 in
theorem Zav.calls (k:Nat) (A0:Option Addr) (c0:Nat) (l0:List (S127)) (a1:Int) (r:Int) (w:World) (hr0:Kd.C k127 w A0 l0.length l0) (hc0:l0.length≤c0) (h:Zav.f k l0 a1=some r) :
  Calls Try.prog 63 #[.slice A0 l0.length c0,.int .i64 a1] w fun e w'=>e=.returned (.int .i64 r)∧Below w.heap.size w w':=by
 have hu127:=Try.underlying127
 have HR0:=Za hr0;have HC0:=Za hc0;clear hr0 hc0
 have HB:=Za (Below.refl w.heap.size w)
 have H:(if (wrap64 (a1 - (l0.length:Int)))<0 then(some (-1)) else(Zav.l0 k l0 (wrap64 (a1 - (l0.length:Int))) 0))=some r:=h
 clear h
 by_cases c3:(wrap64 (a1 - (l0.length:Int)))<0
 ·rw[if_pos c3] at H
  have c3b0:decide ((wrap64 (a1 - (l0.length:Int)))<0)=true:=Ze c3
  clear c3
  obtain rfl:=Zg H
  go_enter Try.func63,Try.ntmps63
  go_wp2
  go_ret
  exact⟨by first|rfl|(simp[Zy,Zx] <;> rfl)|(simp[*,Zy,Zx] <;> rfl),by repeat(first|(with_reducible first|exact HB.out|apply Zp|apply Zn|apply Zr)|exact HB.out)⟩
 ·rw[if_neg c3] at H
  have c3b0:decide ((wrap64 (a1 - (l0.length:Int)))<0)=false:=Zf c3
  clear c3
  have H':=Za H
  clear H
  go_enter Try.func63,Try.ntmps63
  go_wp2
  go_loopg [1,5] k (fun kq v1 v5 w'=>∃(x1_1:Int) (x5_1:Int),v1=.int .i64 x1_1∧v5=.int .i64 x5_1∧Aside0 (Zav.l0 kq l0 x1_1 x5_1=some r)∧Aside0 (kq≤k)∧Aside0 (Below w.heap.size w w'))
  case atStart=>exact⟨(wrap64 (a1 - (l0.length:Int))),(0),(by first|rfl|(simp;done)|(simp[*];done)),(by first|rfl|(simp;done)|(simp[*];done)),H',⟨Nat.le_refl _⟩,⟨by repeat(first|(with_reducible first|exact HB.out|apply Zp|apply Zn|apply Zr)|exact HB.out)⟩⟩
  case round=>
   clear H'
   try clear p2
   try clear c3
   try clear c3b0
   obtain⟨x1_1,x5_1,rfl,rfl,HA,HK1,HB⟩:=hrel
   cases gk with
   | zero=>exact absurd HA.out (by simp[Zav.l0])
   | succ k1=>
    have H:=HA.out
    clear HA
    simp only[Zav.l0] at H
    by_cases c4:x5_1<(l0.length:Int)
    ·rw[if_pos c4] at H
     have c4b0:decide (x5_1<(l0.length:Int))=true:=Ze c4
     clear c4
     by_cases c5:0≤x5_1
     ·rw[if_pos c5] at H
      have c5b0:decide (0≤x5_1)=true:=Ze c5
      clear c5
      replace H:=Zh H
      obtain⟨t63002,A60,H⟩:=H
      replace H:(if t63002<0 then(some (-1)) else(Zav.l0 k1 l0 t63002 (wrap64 (x5_1+1))))=some r:=H
      have A6:=Za A60;clear A60
      by_cases c7:t63002<0
      ·rw[if_pos c7] at H
       have c7b0:decide (t63002<0)=true:=Ze c7
       clear c7
       obtain rfl:=Zg H
       have p63001:0≤(x5_1:Int):=Zd (by first|(with_reducible assumption)|assumption)
       have q63001:x5_1<(l0.length:Int):=Zd (by first|(with_reducible assumption)|assumption)
       obtain⟨ad63001,A63001_1,c63001_1,e63001,hx63001_0,hx63001_1,hx63001_2,hl63001_1,hi63001_1⟩:=at_T127 HR0.out x5_1 p63001 q63001
       cases e63001
       replace hx63001_0:=(HB.out.cell (Zc w _ hx63001_0)).trans hx63001_0
       replace hx63001_1:=(HB.out.cell (Zc w _ hx63001_1)).trans hx63001_1
       replace hx63001_2:=(HB.out.cell (Zc w _ hx63001_2)).trans hx63001_2
       have HR63001_1:=Za hi63001_1;have HC63001_1:=Za hl63001_1;clear hi63001_1 hl63001_1
       replace p63001:=eq_true p63001
       replace q63001:=eq_true q63001
       go_wp2_with (first|((with_reducible refine ZH (f:=116) rfl ?_);refine ZW (some 23) rfl rfl Try.func116 (by kernel_rfl) rfl #[.agg #[.string ((ZaB l0 x5_1).f0),.slice A63001_1 ((ZaB l0 x5_1).f1).length c63001_1,.int .i64 ((ZaB l0 x5_1).f2)],.int .i64 x1_1] rfl (by(try simp only[List.map_toArray,List.map_cons,List.map_nil]);first|done|rfl|(simp only[Zk,Zj];rfl)) ?_;(with_reducible refine(ZbI.calls ((ZaB l0 x5_1).f0) _ _ ((ZaB l0 x5_1).f1) ((ZaB l0 x5_1).f2) x1_1 t63002 _ ?side1 ?side2 A6.out).mono ?_);(case side1=>repeat(first|exact(Zb HR63001_1.out HB.out)|(with_reducible refine Kd.C_alloc ?_ _)|(with_reducible refine Kd.C_drewN ?_ _)|(with_reducible refine Kd.C_drew ?_)));(case side2=>exact HC63001_1.out);rintro e w8 ⟨rfl,hb⟩;refine⟨_,rfl,?_⟩;have n0_:=Za (Zv (by repeat(first|(with_reducible first|exact HB.out|apply Zp|apply Zn|apply Zr)|exact HB.out)) hb);clear HB;have HB:=n0_;clear n0_;(try clear hb);(try clear hb2);(try clear hk);(try clear hi)))
       go_ret
       exact⟨by first|rfl|(simp[Zy,Zx] <;> rfl)|(simp[*,Zy,Zx] <;> rfl),by repeat(first|(with_reducible first|exact HB.out|apply Zp|apply Zn|apply Zr)|exact HB.out)⟩
      ·rw[if_neg c7] at H
       have c7b0:decide (t63002<0)=false:=Zf c7
       clear c7
       have H':=Za H
       clear H
       have p63001:0≤(x5_1:Int):=Zd (by first|(with_reducible assumption)|assumption)
       have q63001:x5_1<(l0.length:Int):=Zd (by first|(with_reducible assumption)|assumption)
       obtain⟨ad63001,A63001_1,c63001_1,e63001,hx63001_0,hx63001_1,hx63001_2,hl63001_1,hi63001_1⟩:=at_T127 HR0.out x5_1 p63001 q63001
       cases e63001
       replace hx63001_0:=(HB.out.cell (Zc w _ hx63001_0)).trans hx63001_0
       replace hx63001_1:=(HB.out.cell (Zc w _ hx63001_1)).trans hx63001_1
       replace hx63001_2:=(HB.out.cell (Zc w _ hx63001_2)).trans hx63001_2
       have HR63001_1:=Za hi63001_1;have HC63001_1:=Za hl63001_1;clear hi63001_1 hl63001_1
       replace p63001:=eq_true p63001
       replace q63001:=eq_true q63001
       go_wp2_with (first|((with_reducible refine ZH (f:=116) rfl ?_);refine ZW (some 23) rfl rfl Try.func116 (by kernel_rfl) rfl #[.agg #[.string ((ZaB l0 x5_1).f0),.slice A63001_1 ((ZaB l0 x5_1).f1).length c63001_1,.int .i64 ((ZaB l0 x5_1).f2)],.int .i64 x1_1] rfl (by(try simp only[List.map_toArray,List.map_cons,List.map_nil]);first|done|rfl|(simp only[Zk,Zj];rfl)) ?_;(with_reducible refine(ZbI.calls ((ZaB l0 x5_1).f0) _ _ ((ZaB l0 x5_1).f1) ((ZaB l0 x5_1).f2) x1_1 t63002 _ ?side1 ?side2 A6.out).mono ?_);(case side1=>repeat(first|exact(Zb HR63001_1.out HB.out)|(with_reducible refine Kd.C_alloc ?_ _)|(with_reducible refine Kd.C_drewN ?_ _)|(with_reducible refine Kd.C_drew ?_)));(case side2=>exact HC63001_1.out);rintro e w9 ⟨rfl,hb⟩;refine⟨_,rfl,?_⟩;have n0_:=Za (Zv (by repeat(first|(with_reducible first|exact HB.out|apply Zp|apply Zn|apply Zr)|exact HB.out)) hb);clear HB;have HB:=n0_;clear n0_;(try clear hb);(try clear hb2);(try clear hk);(try clear hi)))
       go_roundg k1
       case measure=>have:=HK1.out;omega
       case rel=>exact⟨(t63002),(wrap64 (x5_1+1)),(by first|rfl|(simp;done)|(simp[*];done)),(by first|rfl|(simp;done)|(simp[*];done)),H',⟨by have:=HK1.out;omega⟩,⟨by repeat(first|(with_reducible first|exact HB.out|apply Zp|apply Zn|apply Zr)|exact HB.out)⟩⟩
     ·rw[if_neg c5] at H
      exact absurd H (by simp)
    ·rw[if_neg c4] at H
     have c4b0:decide (x5_1<(l0.length:Int))=false:=Zf c4
     clear c4
     obtain rfl:=Zg H
     go_wp2
     go_ret
     exact⟨by first|rfl|(simp[Zy,Zx] <;> rfl)|(simp[*,Zy,Zx] <;> rfl),by repeat(first|(with_reducible first|exact HB.out|apply Zp|apply Zn|apply Zr)|exact HB.out)⟩
def Zbu.f (l0:List (S130)) (a1:Int):Option (Int):=if (wrap64 (a1 - (l0.length:Int)))<0 then(some (-1)) else(some (wrap64 (a1 - (l0.length:Int))))
set_option maxHeartbeats 8000000 in
set_option maxRecDepth 100000 in
theorem Zbu.calls (A0:Option Addr) (c0:Nat) (l0:List (S130)) (a1:Int) (r:Int) (w:World) (hr0:Kd.C k130 w A0 l0.length l0) (hc0:l0.length≤c0) (h:Zbu.f l0 a1=some r) :
  Calls Try.prog 64 #[.slice A0 l0.length c0,.int .i64 a1] w fun e w'=>e=.returned (.int .i64 r)∧ZF w w':=by
 have HR0:=Za hr0;have HC0:=Za hc0;clear hr0 hc0
 have H:(if (wrap64 (a1 - (l0.length:Int)))<0 then(some (-1)) else(some (wrap64 (a1 - (l0.length:Int)))))=some r:=h
 clear h
 by_cases c3:(wrap64 (a1 - (l0.length:Int)))<0
 ·rw[if_pos c3] at H
  have c3b0:decide ((wrap64 (a1 - (l0.length:Int)))<0)=true:=Ze c3
  clear c3
  obtain rfl:=Zg H
  go_enter Try.func64,Try.ntmps64
  go_wp2
  go_ret
  exact⟨by first|rfl|(simp;done)|(simp[*];done),by repeat(first|exact ZF.refl _|apply ZF.step)⟩
 ·rw[if_neg c3] at H
  have c3b0:decide ((wrap64 (a1 - (l0.length:Int)))<0)=false:=Zf c3
  clear c3
  obtain rfl:=Zg H
  go_enter Try.func64,Try.ntmps64
  go_wp2
  go_ret
  exact⟨by first|rfl|(simp;done)|(simp[*];done),by repeat(first|exact ZF.refl _|apply ZF.step)⟩
end Go.Proofs.Ytodfnelilhjoeaa.Pr
