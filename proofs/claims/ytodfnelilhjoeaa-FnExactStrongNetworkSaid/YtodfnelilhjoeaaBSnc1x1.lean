/- The texts of one claim, put together by a program of this session. -/
import Derived.Test.YtodfnelilhjoeaaProg
import Derived.Below
import Derived.Deep.Draws
import Derived.Deep.AppendLies
import Derived.Maps.AppendAt
import Derived.OwnWalk
import Derived.Laws.BytesArg
import Derived.Laws.MakeOwn
import Derived.Laws.OwnMore
import Derived.Deep.OwnRows
import Derived.Tactics
import Derived.Lib.ConvBytes
import Derived.Laws.Slices
import Derived.WalkKit
import Derived.KernelRfl
import Derived.RowKit3
import Derived.Deep.LoopGhost
import Derived.Deep.QuietTactic
import Derived.BigQuiet
import Derived.WideLaws
import Derived.Deep.DeepCutAuto
import Derived.Deep.CutBlock
import Derived.Deep.RegionHeld3
import Derived.Laws.Rows
import Derived.Lib.AppendStr
import Derived.ArgAppend
import Derived.Laws.IdiomCopy
import Derived.OrdersHeld
import Derived.Laws.BitsLemmas
import Derived.RowKit
import Derived.ChangeArms
import Derived.ChangeSlices
import Derived.WideShapes
import Derived.Deep.Slices
import Derived.Test.YtodfnelilhjoeaaBSn0
namespace Go.Proofs.Ytodfnelilhjoeaa.Pr
open Go.RowKit Go.Proofs.YtodfnelilhjoeaaW.PrintWords Go.Proofs.YtodfnelilhjoeaaW.PrintLast Go.Proofs.YtodfnelilhjoeaaW.PrintMore
attribute [local go_sem] Zac Zaa Zam Zal Z5 Z4 Zab Z9
set_option linter.unusedVariables false
set_option linter.unusedSimpArgs false
def errW:Option Int→Value
 | none=>.nilIface
 | some c=>.iface 0 (.int .i64 c)
theorem ZB:errW none=.nilIface:=rfl
theorem ZA (c:Int):errW (some c)=.iface 0 (.int .i64 c):=rfl
theorem info3:(Try.prog.info? 3).map (fun i=>(i.zero,i.size,i.bytes))=some (some (.int .i64 0),1,8):=by kernel_rfl
theorem info90:(Try.prog.info? 90).map (fun i=>(i.zero,i.size,i.bytes))=some (some (.agg #[(.int .i64 0),(.int .i64 0),(.int .i64 0),(.int .i64 0),(.bool false)]),5,40):=by kernel_rfl
theorem ZcB:(Try.prog.info? 112).map (fun i=>(i.zero,i.size,i.bytes))=some (some (.agg #[(.int .i64 0),(.int .i64 0),(.int .i64 0),(.int .i64 0)]),4,32):=by kernel_rfl
theorem info116:(Try.prog.info? 116).map (fun i=>(i.zero,i.size,i.bytes))=some (some (.agg #[(.string ⟨#[]⟩),(.slice none 0 0),(.int .i64 0)]),3,48):=by kernel_rfl
def rd_L2 (xs:List (List Int)) (i:Int):(List Int):=xs.getD i.toNat ([]:List Int)
structure S127 where
 f0:ByteArray
 f1:(List Int)
 f2:Int
def z127:S127:=⟨(⟨#[]⟩:ByteArray),([]:List Int),(0:Int)⟩
def k127:Kd S127:=Kd.iso (Kd.pair Kd.string (Kd.pair (Kd.slice 3 (Kd.int .i64)) (Kd.int .i64))) (fun x:S127=>(x.f0,x.f1,x.f2))
theorem k127_open {w:World} {x:S127} {cs:List Value} (h:k127.K w x cs):∃A1 c1,cs=[.string x.f0,.slice A1 x.f1.length c1,.int .i64 x.f2]∧x.f1.length≤c1∧(Kd.int .i64).C w A1 x.f1.length x.f1:=by
 obtain⟨_,_,rfl,rfl,⟨_,_,rfl,⟨A1,c1,rfl,l1,g1⟩,rfl⟩⟩:=h
 exact⟨A1,c1,rfl,l1,g1⟩
def Zav (xs:List S127) (i:Int):S127:=xs.getD i.toNat z127
theorem at_T127 {w:World} {A:Option Addr} {n:Nat} {xs:List S127} (h:Kd.C k127 w A n xs) (i:Int) (h0:0≤i) (h1:i<n):∃ad A1 c1,A=some ad∧w.cell? (ad.add (i.toNat * 3))=some (.string (Zav xs i).f0)∧w.cell? ⟨(ad.add (i.toNat * 3)).block,(ad.add (i.toNat * 3)).off+1,none⟩=some (.slice A1 (Zav xs i).f1.length c1)∧w.cell? ⟨(ad.add (i.toNat * 3)).block,(ad.add (i.toNat * 3)).off+2,none⟩=some (.int .i64 (Zav xs i).f2)∧(Zav xs i).f1.length≤c1∧(Kd.int .i64).C w A1 (Zav xs i).f1.length (Zav xs i).f1:=by
 obtain⟨ad,c,e,_,hK,hc0⟩:=Kd.C_get h z127 i h0 h1
 have hc:∀j u,c[j]? = some u→w.cell? (ad.add (i.toNat * 3+j))=some u:=hc0
 obtain⟨A1,c1,rfl,l1,g1⟩:=k127_open hK
 exact⟨ad,A1,c1,e,hc 0 _ rfl,by rw[← Za3 _ _ 1 (by omega)];exact hc 1 _ rfl,by rw[← Za3 _ _ 2 (by omega)];exact hc 2 _ rfl,l1,g1⟩
structure S130 where
 f0:Int
 f1:Int
 f2:Int
 f3:Int
 f4:Bool
def z130:S130:=⟨(0:Int),(0:Int),(0:Int),(0:Int),false⟩
def k130:Kd S130:=Kd.iso (Kd.pair (Kd.int .i64) (Kd.pair (Kd.int .i64) (Kd.pair (Kd.int .i64) (Kd.pair (Kd.int .i64) Kd.bool)))) (fun x:S130=>(x.f0,x.f1,x.f2,x.f3,x.f4))
theorem k130_open {w:World} {x:S130} {cs:List Value} (h:k130.K w x cs):cs=[.int .i64 x.f0,.int .i64 x.f1,.int .i64 x.f2,.int .i64 x.f3,.bool x.f4]:=by
 obtain⟨_,_,rfl,rfl,⟨_,_,rfl,rfl,⟨_,_,rfl,rfl,⟨_,_,rfl,rfl,rfl⟩⟩⟩⟩:=h
 exact rfl
def ZaV (xs:List S130) (i:Int):S130:=xs.getD i.toNat z130
theorem at_T130 {w:World} {A:Option Addr} {n:Nat} {xs:List S130} (h:Kd.C k130 w A n xs) (i:Int) (h0:0≤i) (h1:i<n):∃ad ,A=some ad∧w.cell? (ad.add (i.toNat * 5))=some (.int .i64 (ZaV xs i).f0)∧w.cell? ⟨(ad.add (i.toNat * 5)).block,(ad.add (i.toNat * 5)).off+1,none⟩=some (.int .i64 (ZaV xs i).f1)∧w.cell? ⟨(ad.add (i.toNat * 5)).block,(ad.add (i.toNat * 5)).off+2,none⟩=some (.int .i64 (ZaV xs i).f2)∧w.cell? ⟨(ad.add (i.toNat * 5)).block,(ad.add (i.toNat * 5)).off+3,none⟩=some (.int .i64 (ZaV xs i).f3)∧w.cell? ⟨(ad.add (i.toNat * 5)).block,(ad.add (i.toNat * 5)).off+4,none⟩=some (.bool (ZaV xs i).f4):=by
 obtain⟨ad,c,e,_,hK,hc0⟩:=Kd.C_get h z130 i h0 h1
 have hc:∀j u,c[j]? = some u→w.cell? (ad.add (i.toNat * 5+j))=some u:=hc0
 obtain rfl:=k130_open hK
 exact⟨ad,e,hc 0 _ rfl,by rw[← Za3 _ _ 1 (by omega)];exact hc 1 _ rfl,by rw[← Za3 _ _ 2 (by omega)];exact hc 2 _ rfl,by rw[← Za3 _ _ 3 (by omega)];exact hc 3 _ rfl,by rw[← Za3 _ _ 4 (by omega)];exact hc 4 _ rfl⟩
structure S116 where
 f0:ByteArray
 f1:(List Int)
 f2:Int
def z116:S116:=⟨(⟨#[]⟩:ByteArray),([]:List Int),(0:Int)⟩
def k116:Kd S116:=Kd.iso (Kd.pair Kd.string (Kd.pair (Kd.slice 3 (Kd.int .i64)) (Kd.int .i64))) (fun x:S116=>(x.f0,x.f1,x.f2))
theorem k116_open {w:World} {x:S116} {cs:List Value} (h:k116.K w x cs):∃A1 c1,cs=[.string x.f0,.slice A1 x.f1.length c1,.int .i64 x.f2]∧x.f1.length≤c1∧(Kd.int .i64).C w A1 x.f1.length x.f1:=by
 obtain⟨_,_,rfl,rfl,⟨_,_,rfl,⟨A1,c1,rfl,l1,g1⟩,rfl⟩⟩:=h
 exact⟨A1,c1,rfl,l1,g1⟩
theorem Zc9 {w:World} {base:Nat} {ok:Nat→Prop} {x:S116} {cs:List Value} (h:k116.M w base ok x cs):∃v1,cs=[.string x.f0,v1,.int .i64 x.f2]∧(Kd.int .i64).R 3 w base ok v1 x.f1:=by
 obtain⟨_,_,rfl,rfl,⟨_,_,rfl,⟨v1,rfl,g1⟩,rfl⟩⟩:=h
 exact⟨v1,rfl,g1⟩
theorem k116_mkM (w:World) (base:Nat) (ok:Nat→Prop) (x:S116) {v1:Value} (g1:(Kd.int .i64).R 3 w base ok v1 x.f1):k116.M w base ok x [.string x.f0,v1,.int .i64 x.f2]:=⟨[.string x.f0],[v1,.int .i64 x.f2],rfl,rfl,⟨[v1],[.int .i64 x.f2],rfl,⟨v1,rfl,g1⟩,rfl⟩⟩
def Zz (xs:List S116) (i:Int):S116:=xs.getD i.toNat z116
theorem Zaq {w:World} {A:Option Addr} {n:Nat} {xs:List S116} (h:Kd.C k116 w A n xs) (i:Int) (h0:0≤i) (h1:i<n):∃ad A1 c1,A=some ad∧w.cell? (ad.add (i.toNat * 3))=some (.string (Zz xs i).f0)∧w.cell? ⟨(ad.add (i.toNat * 3)).block,(ad.add (i.toNat * 3)).off+1,none⟩=some (.slice A1 (Zz xs i).f1.length c1)∧w.cell? ⟨(ad.add (i.toNat * 3)).block,(ad.add (i.toNat * 3)).off+2,none⟩=some (.int .i64 (Zz xs i).f2)∧(Zz xs i).f1.length≤c1∧(Kd.int .i64).C w A1 (Zz xs i).f1.length (Zz xs i).f1:=by
 obtain⟨ad,c,e,_,hK,hc0⟩:=Kd.C_get h z116 i h0 h1
 have hc:∀j u,c[j]? = some u→w.cell? (ad.add (i.toNat * 3+j))=some u:=hc0
 obtain⟨A1,c1,rfl,l1,g1⟩:=k116_open hK
 exact⟨ad,A1,c1,e,hc 0 _ rfl,by rw[← Za3 _ _ 1 (by omega)];exact hc 1 _ rfl,by rw[← Za3 _ _ 2 (by omega)];exact hc 2 _ rfl,l1,g1⟩
structure S90 where
 f0:Int
 f1:Int
 f2:Int
 f3:Int
 f4:Bool
def z90:S90:=⟨(0:Int),(0:Int),(0:Int),(0:Int),false⟩
def k90:Kd S90:=Kd.iso (Kd.pair (Kd.int .i64) (Kd.pair (Kd.int .i64) (Kd.pair (Kd.int .i64) (Kd.pair (Kd.int .i64) Kd.bool)))) (fun x:S90=>(x.f0,x.f1,x.f2,x.f3,x.f4))
theorem k90_open {w:World} {x:S90} {cs:List Value} (h:k90.K w x cs):cs=[.int .i64 x.f0,.int .i64 x.f1,.int .i64 x.f2,.int .i64 x.f3,.bool x.f4]:=by
 obtain⟨_,_,rfl,rfl,⟨_,_,rfl,rfl,⟨_,_,rfl,rfl,⟨_,_,rfl,rfl,rfl⟩⟩⟩⟩:=h
 exact rfl
theorem Zbi {w:World} {base:Nat} {ok:Nat→Prop} {x:S90} {cs:List Value} (h:k90.M w base ok x cs):cs=[.int .i64 x.f0,.int .i64 x.f1,.int .i64 x.f2,.int .i64 x.f3,.bool x.f4]:=by
 obtain⟨_,_,rfl,rfl,⟨_,_,rfl,rfl,⟨_,_,rfl,rfl,⟨_,_,rfl,rfl,rfl⟩⟩⟩⟩:=h
 exact rfl
theorem Zcj (w:World) (base:Nat) (ok:Nat→Prop) (x:S90)  : k90.M w base ok x [.int .i64 x.f0,.int .i64 x.f1,.int .i64 x.f2,.int .i64 x.f3,.bool x.f4]:=⟨[.int .i64 x.f0],[.int .i64 x.f1,.int .i64 x.f2,.int .i64 x.f3,.bool x.f4],rfl,rfl,⟨[.int .i64 x.f1],[.int .i64 x.f2,.int .i64 x.f3,.bool x.f4],rfl,rfl,⟨[.int .i64 x.f2],[.int .i64 x.f3,.bool x.f4],rfl,rfl,⟨[.int .i64 x.f3],[.bool x.f4],rfl,rfl,rfl⟩⟩⟩⟩
def Zv (xs:List S90) (i:Int):S90:=xs.getD i.toNat z90
theorem ZaH {w:World} {A:Option Addr} {n:Nat} {xs:List S90} (h:Kd.C k90 w A n xs) (i:Int) (h0:0≤i) (h1:i<n):∃ad ,A=some ad∧w.cell? (ad.add (i.toNat * 5))=some (.int .i64 (Zv xs i).f0)∧w.cell? ⟨(ad.add (i.toNat * 5)).block,(ad.add (i.toNat * 5)).off+1,none⟩=some (.int .i64 (Zv xs i).f1)∧w.cell? ⟨(ad.add (i.toNat * 5)).block,(ad.add (i.toNat * 5)).off+2,none⟩=some (.int .i64 (Zv xs i).f2)∧w.cell? ⟨(ad.add (i.toNat * 5)).block,(ad.add (i.toNat * 5)).off+3,none⟩=some (.int .i64 (Zv xs i).f3)∧w.cell? ⟨(ad.add (i.toNat * 5)).block,(ad.add (i.toNat * 5)).off+4,none⟩=some (.bool (Zv xs i).f4):=by
 obtain⟨ad,c,e,_,hK,hc0⟩:=Kd.C_get h z90 i h0 h1
 have hc:∀j u,c[j]? = some u→w.cell? (ad.add (i.toNat * 5+j))=some u:=hc0
 obtain rfl:=k90_open hK
 exact⟨ad,e,hc 0 _ rfl,by rw[← Za3 _ _ 1 (by omega)];exact hc 1 _ rfl,by rw[← Za3 _ _ 2 (by omega)];exact hc 2 _ rfl,by rw[← Za3 _ _ 3 (by omega)];exact hc 3 _ rfl,by rw[← Za3 _ _ 4 (by omega)];exact hc 4 _ rfl⟩
def rd_L8 (xs:List (List S116)) (i:Int):(List S116):=xs.getD i.toNat ([]:List S116)
def rd_L9 (xs:List (List S90)) (i:Int):(List S90):=xs.getD i.toNat ([]:List S90)
structure S35 where
 f0:(List S116)
 f1:(List S90)
 f2:Int
def z35:S35:=⟨([]:List S116),([]:List S90),(0:Int)⟩
def k35:Kd S35:=Kd.iso (Kd.pair (Kd.slice 116 k116) (Kd.pair (Kd.slice 90 k90) (Kd.int .i64))) (fun x:S35=>(x.f0,x.f1,x.f2))
def rd_T35 (xs:List S35) (i:Int):S35:=xs.getD i.toNat z35
structure S110 where
 f0:Int
 f1:Int
def z110:S110:=⟨(0:Int),(0:Int)⟩
def k110:Kd S110:=Kd.iso (Kd.pair (Kd.int .i64) (Kd.int .i64)) (fun x:S110=>(x.f0,x.f1))
theorem k110_open {w:World} {x:S110} {cs:List Value} (h:k110.K w x cs):cs=[.int .i64 x.f0,.int .i64 x.f1]:=by
 obtain⟨_,_,rfl,rfl,rfl⟩:=h
 exact rfl
theorem k110_openM {w:World} {base:Nat} {ok:Nat→Prop} {x:S110} {cs:List Value} (h:k110.M w base ok x cs):cs=[.int .i64 x.f0,.int .i64 x.f1]:=by
 obtain⟨_,_,rfl,rfl,rfl⟩:=h
 exact rfl
theorem k110_mkM (w:World) (base:Nat) (ok:Nat→Prop) (x:S110)  : k110.M w base ok x [.int .i64 x.f0,.int .i64 x.f1]:=⟨[.int .i64 x.f0],[.int .i64 x.f1],rfl,rfl,rfl⟩
def rd_T110 (xs:List S110) (i:Int):S110:=xs.getD i.toNat z110
structure S112 where
 f0:Int
 f1:Int
 f2:S110
def z112:S112:=⟨(0:Int),(0:Int),z110⟩
def k112:Kd S112:=Kd.iso (Kd.pair (Kd.int .i64) (Kd.pair (Kd.int .i64) k110)) (fun x:S112=>(x.f0,x.f1,x.f2))
theorem k112_open {w:World} {x:S112} {cs:List Value} (h:k112.K w x cs):cs=[.int .i64 x.f0,.int .i64 x.f1,.int .i64 x.f2.f0,.int .i64 x.f2.f1]:=by
 obtain⟨_,_,rfl,rfl,⟨_,_,rfl,rfl,s2⟩⟩:=h
 obtain rfl:=k110_open s2
 exact rfl
theorem ZdS {w:World} {base:Nat} {ok:Nat→Prop} {x:S112} {cs:List Value} (h:k112.M w base ok x cs):cs=[.int .i64 x.f0,.int .i64 x.f1,.int .i64 x.f2.f0,.int .i64 x.f2.f1]:=by
 obtain⟨_,_,rfl,rfl,⟨_,_,rfl,rfl,s2⟩⟩:=h
 obtain rfl:=k110_openM s2
 exact rfl
theorem Zcd (w:World) (base:Nat) (ok:Nat→Prop) (x:S112)  : k112.M w base ok x [.int .i64 x.f0,.int .i64 x.f1,.int .i64 x.f2.f0,.int .i64 x.f2.f1]:=⟨[.int .i64 x.f0],[.int .i64 x.f1,.int .i64 x.f2.f0,.int .i64 x.f2.f1],rfl,rfl,⟨[.int .i64 x.f1],[.int .i64 x.f2.f0,.int .i64 x.f2.f1],rfl,rfl,(k110_mkM w base ok x.f2 )⟩⟩
def ZM (xs:List S112) (i:Int):S112:=xs.getD i.toNat z112
theorem ZaY {w:World} {A:Option Addr} {n:Nat} {xs:List S112} (h:Kd.C k112 w A n xs) (i:Int) (h0:0≤i) (h1:i<n):∃ad ,A=some ad∧w.cell? (ad.add (i.toNat * 4))=some (.int .i64 (ZM xs i).f0)∧w.cell? ⟨(ad.add (i.toNat * 4)).block,(ad.add (i.toNat * 4)).off+1,none⟩=some (.int .i64 (ZM xs i).f1)∧w.cell? ⟨(ad.add (i.toNat * 4)).block,(ad.add (i.toNat * 4)).off+2,none⟩=some (.int .i64 (ZM xs i).f2.f0)∧w.cell? ⟨(ad.add (i.toNat * 4)).block,(ad.add (i.toNat * 4)).off+3,none⟩=some (.int .i64 (ZM xs i).f2.f1):=by
 obtain⟨ad,c,e,_,hK,hc0⟩:=Kd.C_get h z112 i h0 h1
 have hc:∀j u,c[j]? = some u→w.cell? (ad.add (i.toNat * 4+j))=some u:=hc0
 obtain rfl:=k112_open hK
 exact⟨ad,e,hc 0 _ rfl,by rw[← Za3 _ _ 1 (by omega)];exact hc 1 _ rfl,by rw[← Za3 _ _ 2 (by omega)];exact hc 2 _ rfl,by rw[← Za3 _ _ 3 (by omega)];exact hc 3 _ rfl⟩
def rd_L14 (xs:List (List S112)) (i:Int):(List S112):=xs.getD i.toNat ([]:List S112)
structure S58 where
 f0:Int
 f1:(List S112)
def z58:S58:=⟨(0:Int),([]:List S112)⟩
def k58:Kd S58:=Kd.iso (Kd.pair (Kd.int .i64) (Kd.slice 112 k112)) (fun x:S58=>(x.f0,x.f1))
def rd_T58 (xs:List S58) (i:Int):S58:=xs.getD i.toNat z58
structure S66 where
 f0:Int
 f1:(List Int)
 f2:(List Int)
def z66:S66:=⟨(0:Int),([]:List Int),([]:List Int)⟩
def k66:Kd S66:=Kd.iso (Kd.pair (Kd.int .i64) (Kd.pair (Kd.slice 3 (Kd.int .i64)) (Kd.slice 3 (Kd.int .i64)))) (fun x:S66=>(x.f0,x.f1,x.f2))
def rd_T66 (xs:List S66) (i:Int):S66:=xs.getD i.toNat z66
def rd_L17 (xs:List (List S127)) (i:Int):(List S127):=xs.getD i.toNat ([]:List S127)
def rd_L18 (xs:List (List S130)) (i:Int):(List S130):=xs.getD i.toNat ([]:List S130)
structure S25 where
 f0:(List S127)
 f1:(List S130)
 f2:Int
def z25:S25:=⟨([]:List S127),([]:List S130),(0:Int)⟩
def k25:Kd S25:=Kd.iso (Kd.pair (Kd.slice 127 k127) (Kd.pair (Kd.slice 130 k130) (Kd.int .i64))) (fun x:S25=>(x.f0,x.f1,x.f2))
theorem k25_open {w:World} {x:S25} {cs:List Value} (h:k25.K w x cs):∃A0 c0 A1 c1,cs=[.slice A0 x.f0.length c0,.slice A1 x.f1.length c1,.int .i64 x.f2]∧x.f0.length≤c0∧k127.C w A0 x.f0.length x.f0∧x.f1.length≤c1∧k130.C w A1 x.f1.length x.f1:=by
 obtain⟨_,_,rfl,⟨A0,c0,rfl,l0,g0⟩,⟨_,_,rfl,⟨A1,c1,rfl,l1,g1⟩,rfl⟩⟩:=h
 exact⟨A0,c0,A1,c1,rfl,l0,g0,l1,g1⟩
def rd_T25 (xs:List S25) (i:Int):S25:=xs.getD i.toNat z25
structure S28 where
 f0:(List Int)
 f1:(List Int)
def z28:S28:=⟨([]:List Int),([]:List Int)⟩
def k28:Kd S28:=Kd.iso (Kd.pair (Kd.slice 3 (Kd.int .i64)) (Kd.slice 3 (Kd.int .i64))) (fun x:S28=>(x.f0,x.f1))
theorem k28_open {w:World} {x:S28} {cs:List Value} (h:k28.K w x cs):∃A0 c0 A1 c1,cs=[.slice A0 x.f0.length c0,.slice A1 x.f1.length c1]∧x.f0.length≤c0∧(Kd.int .i64).C w A0 x.f0.length x.f0∧x.f1.length≤c1∧(Kd.int .i64).C w A1 x.f1.length x.f1:=by
 obtain⟨_,_,rfl,⟨A0,c0,rfl,l0,g0⟩,⟨A1,c1,rfl,l1,g1⟩⟩:=h
 exact⟨A0,c0,A1,c1,rfl,l0,g0,l1,g1⟩
def rd_T28 (xs:List S28) (i:Int):S28:=xs.getD i.toNat z28
structure S63 where
 f0:Int
 f1:(List Int)
 f2:(List Int)
def z63:S63:=⟨(0:Int),([]:List Int),([]:List Int)⟩
def k63:Kd S63:=Kd.iso (Kd.pair (Kd.int .i64) (Kd.pair (Kd.slice 3 (Kd.int .i64)) (Kd.slice 3 (Kd.int .i64)))) (fun x:S63=>(x.f0,x.f1,x.f2))
theorem k63_open {w:World} {x:S63} {cs:List Value} (h:k63.K w x cs):∃A1 c1 A2 c2,cs=[.int .i64 x.f0,.slice A1 x.f1.length c1,.slice A2 x.f2.length c2]∧x.f1.length≤c1∧(Kd.int .i64).C w A1 x.f1.length x.f1∧x.f2.length≤c2∧(Kd.int .i64).C w A2 x.f2.length x.f2:=by
 obtain⟨_,_,rfl,rfl,⟨_,_,rfl,⟨A1,c1,rfl,l1,g1⟩,⟨A2,c2,rfl,l2,g2⟩⟩⟩:=h
 exact⟨A1,c1,A2,c2,rfl,l1,g1,l2,g2⟩
def rd_T63 (xs:List S63) (i:Int):S63:=xs.getD i.toNat z63
end Go.Proofs.Ytodfnelilhjoeaa.Pr
namespace Go.Proofs.Ytodfnelilhjoeaa.Op
open Go.RowKit Go.ChangeShapes Go.WideShapes Go.Proofs.YtodfnelilhjoeaaW.PrintWords
structure ZaI {α:Type} (P:Program) (d:Kd α) (t:TypeId) (ok:α→Prop):Prop where
 cells:P.cellsOf t=d.sz
 op:∀{H:Type} {enc:TypeId×Value→H} {w:World} {base fuel:Nat} {cs:List Value} {x:DataW H×List MemPlace},DataW.trod enc P w base (fun _=>true) true fuel t cs=some x→∃y,d.K w y cs∧ok y
theorem ZaI.int {P:Program} {t:TypeId} {k:IntKind} (ht:P.underlying t=some (.int k)) (hc:P.cellsOf t=1):ZaI P (Kd.int k) t (fun n=>(Lit.int k n).wf=true):=
 ⟨hc,fun h=>by
  obtain⟨n,rfl,_,hw⟩:=DataW.trod_int ht h
  exact⟨n,rfl,hw⟩⟩
theorem ZaI.bool {P:Program} {t:TypeId} (ht:P.underlying t=some .bool) (hc:P.cellsOf t=1):ZaI P Kd.bool t (fun _=>True):=
 ⟨hc,fun h=>by
  obtain⟨n,rfl,_⟩:=DataW.trod_bool ht h
  exact⟨n,rfl,trivial⟩⟩
theorem ZaI.string {P:Program} {t:TypeId} (ht:P.underlying t=some .string) (hc:P.cellsOf t=1):ZaI P Kd.string t (fun s=>s.size≤maxLen):=
 ⟨hc,fun h=>by
  obtain⟨n,rfl,_,hw⟩:=DataW.trod_string ht h
  exact⟨n,rfl,hw⟩⟩
theorem choose_list {β:Type} (Q:Nat→β→Prop) (n:Nat) (h:∀i,i<n→∃y,Q i y):∃l:List β,l.length=n∧∀i y,l[i]? = some y→Q i y:=by
 induction n with
 | zero=>exact⟨[],rfl,fun i y h=>by simp at h⟩
 | succ n ih=>
  obtain⟨l,hl,hq⟩:=ih (fun i hi=>h i (by omega))
  obtain⟨y,hy⟩:=h n (by omega)
  refine⟨l ++ [y],by simp[hl],fun i z hz=>?_⟩
  rcases Nat.lt_or_ge i l.length with hi|hi
  ·rw[List.getElem?_append_left hi] at hz
   exact hq i z hz
  ·have hlt:=(List.getElem?_eq_some_iff.1 hz).1
   rw[List.length_append,List.length_singleton] at hlt
   have e:i=l.length:=by omega
   subst e
   have hz':y=z:=by simpa using hz
   subst hz'
   rw[hl]
   exact hy
theorem ZaI.slice {α:Type} {P:Program} {d:Kd α} {t e:TypeId} {ok:α→Prop} (he:ZaI P d e ok) (ht:P.underlying t=some (.slice e)) (hc:P.cellsOf t=1) :
  ZaI P (Kd.slice e d) t (fun l=>l.length≤maxLen∧∀x∈l,ok x):=
 ⟨hc,fun {H enc w base fuel cs x} h=>by
  rcases DataW.trod_slice ht h with ⟨rfl,_⟩|⟨a,len,cap,elems,rest,n,_,rfl,_,hb,hl,hm,hlen,hel,_,_⟩
  ·exact⟨[],⟨none,0,rfl,Nat.le_refl _,rfl,by simp,fun h0=>absurd h0 (by simp)⟩,by simp⟩
  ·have key:∀i,i<len→∃y,ok y∧∃c,c.length=d.sz∧d.K w y c∧∀j u,c[j]? = some u→w.cell? (a.add (i * d.sz+j))=some u:=by
    intro i hi
    have hi':=hel i hi
    rw[Zl (by omega),Option.bind_eq_some_iff] at hi'
    obtain⟨cs',h1,h2⟩:=hi'
    obtain⟨y,hk,hy⟩:=he.op h2
    refine⟨y,hy,cs',d.K_len hk,hk,fun j u hu=>?_⟩
    have:=(World.cells?_some h1).2.2 j (by
     have:=(List.getElem?_eq_some_iff.1 hu).1
     rw[d.K_len hk] at this
     rw[he.cells];exact this)
    rw[he.cells] at this
    rw[Addr.add_add] at this
    rw[this,hu]
   obtain⟨l,hll,hq⟩:=choose_list _ len key
   refine⟨l,⟨some a,cap,by rw[hll],by omega,rfl,by rw[hll];simp only[maxLen] at hm;omega,fun h0=>⟨a,rfl,fun j p hj=>?_⟩⟩,by omega,fun x hx=>?_⟩
   ·obtain⟨_,hc'⟩:=hq j p hj
    exact hc'
   ·obtain⟨i,hi⟩:=List.getElem?_of_mem hx
    exact(hq i x hi).1⟩
theorem ZbT {α β:Type} {a:Kd α} {b:Kd β} {w:World} {x:α} {y:β} {cs:List Value} {off:Nat} (h0:a.K w x ((cs.drop off).take a.sz)) (h1:b.K w y ((cs.drop (off+a.sz)).take b.sz)) :
  (Kd.pair a b).K w (x,y) ((cs.drop off).take (Kd.pair a b).sz):=
 ⟨_,_,by show(cs.drop off).take (a.sz+b.sz)=_;rw[List.take_add,List.drop_drop],h0,h1⟩
theorem ZaI.fieldAt {α:Type} {P:Program} {d:Kd α} {t:TypeId} {ok:α→Prop} (ho:ZaI P d t ok) {H:Type} {enc:TypeId×Value→H} {w:World} {base fuel off:Nat} {cs:List Value} {x:Option (DataW H×List MemPlace)}
  (h:DataW.trod enc P w base (fun _=>true) true fuel t ((cs.drop off).take (P.cellsOf t))=x) (hx:x.isSome=true):∃y,d.K w y ((cs.drop off).take d.sz)∧ok y:=by
 obtain⟨z,rfl⟩:=Option.isSome_iff_exists.1 hx
 obtain⟨y,hk,hy⟩:=ho.op h
 rw[ho.cells] at hk
 exact⟨y,hk,hy⟩
end Go.Proofs.Ytodfnelilhjoeaa.Op
namespace Go.Proofs.Ytodfnelilhjoeaa.Pr
open Go.RowKit Go.Proofs.YtodfnelilhjoeaaW.PrintWords Go.Proofs.YtodfnelilhjoeaaW.PrintLast Go.Proofs.YtodfnelilhjoeaaW.PrintMore
attribute [local go_sem] Zac Zaa Zam Zal Z5 Z4 Zab Z9
set_option linter.unusedVariables false
set_option linter.unusedSimpArgs false
open Go.Proofs.Ytodfnelilhjoeaa.Op Go.ChangeShapes Go.WideShapes
def okS127 (x:S127):Prop:=(fun s_:ByteArray=>s_.size≤maxLen) x.f0∧(fun l_:List Int=>l_.length≤maxLen∧∀x_∈l_,(fun n_:Int=>(Lit.int .i64 n_).wf=true) x_) x.f1∧(fun n_:Int=>(Lit.int .i64 n_).wf=true) x.f2
theorem op_k127:ZaI Try.prog k127 127 okS127:=
 ⟨by kernel_rfl,fun {H enc w base fuel cs x} h=>by
  obtain⟨xs,n,_,_,hl,hlen,hf⟩:=DataW.trod_struct Try.underlying127 h
  have hl':cs.length=3:=hl.trans (by kernel_rfl)
  have hlen':xs.length=3:=hlen
  obtain⟨y0,h0,o0⟩:=(ZaI.string Try.underlying9 (by kernel_rfl)).fieldAt (hf 0 _ rfl) (by rw[Zl (by omega)];rfl)
  obtain⟨y1,h1,o1⟩:=(ZaI.slice (ZaI.int Try.underlying3 (by kernel_rfl)) Try.underlying26 (by kernel_rfl)).fieldAt (hf 1 _ rfl) (by rw[Zl (by omega)];rfl)
  obtain⟨y2,h2,o2⟩:=(ZaI.int Try.underlying3 (by kernel_rfl)).fieldAt (hf 2 _ rfl) (by rw[Zl (by omega)];rfl)
  have hk:k127.K w ⟨y0,y1,y2⟩ ((cs.drop 0).take k127.sz):=(ZbT (off:=0) h0 (ZbT (off:=1) h1 h2))
  have hcs:(cs.drop 0).take k127.sz=cs:=by rw[List.drop_zero];exact List.take_of_length_le (by rw[hl'];exact Nat.le_refl _)
  rw[hcs] at hk
  exact⟨_,hk,o0,o1,o2⟩⟩
def okS130 (x:S130):Prop:=(fun n_:Int=>(Lit.int .i64 n_).wf=true) x.f0∧(fun n_:Int=>(Lit.int .i64 n_).wf=true) x.f1∧(fun n_:Int=>(Lit.int .i64 n_).wf=true) x.f2∧(fun n_:Int=>(Lit.int .i64 n_).wf=true) x.f3∧(fun _:Bool=>True) x.f4
theorem op_k130:ZaI Try.prog k130 130 okS130:=
 ⟨by kernel_rfl,fun {H enc w base fuel cs x} h=>by
  obtain⟨xs,n,_,_,hl,hlen,hf⟩:=DataW.trod_struct Try.underlying130 h
  have hl':cs.length=5:=hl.trans (by kernel_rfl)
  have hlen':xs.length=5:=hlen
  obtain⟨y0,h0,o0⟩:=(ZaI.int Try.underlying3 (by kernel_rfl)).fieldAt (hf 0 _ rfl) (by rw[Zl (by omega)];rfl)
  obtain⟨y1,h1,o1⟩:=(ZaI.int Try.underlying3 (by kernel_rfl)).fieldAt (hf 1 _ rfl) (by rw[Zl (by omega)];rfl)
  obtain⟨y2,h2,o2⟩:=(ZaI.int Try.underlying3 (by kernel_rfl)).fieldAt (hf 2 _ rfl) (by rw[Zl (by omega)];rfl)
  obtain⟨y3,h3,o3⟩:=(ZaI.int Try.underlying3 (by kernel_rfl)).fieldAt (hf 3 _ rfl) (by rw[Zl (by omega)];rfl)
  obtain⟨y4,h4,o4⟩:=(ZaI.bool Try.underlying4 (by kernel_rfl)).fieldAt (hf 4 _ rfl) (by rw[Zl (by omega)];rfl)
  have hk:k130.K w ⟨y0,y1,y2,y3,y4⟩ ((cs.drop 0).take k130.sz):=(ZbT (off:=0) h0 (ZbT (off:=1) h1 (ZbT (off:=2) h2 (ZbT (off:=3) h3 h4))))
  have hcs:(cs.drop 0).take k130.sz=cs:=by rw[List.drop_zero];exact List.take_of_length_le (by rw[hl'];exact Nat.le_refl _)
  rw[hcs] at hk
  exact⟨_,hk,o0,o1,o2,o3,o4⟩⟩
def okS25 (x:S25):Prop:=(fun l_:List (S127)=>l_.length≤maxLen∧∀x_∈l_,okS127 x_) x.f0∧(fun l_:List (S130)=>l_.length≤maxLen∧∀x_∈l_,okS130 x_) x.f1∧(fun n_:Int=>(Lit.int .i64 n_).wf=true) x.f2
theorem op_k25:ZaI Try.prog k25 25 okS25:=
 ⟨by kernel_rfl,fun {H enc w base fuel cs x} h=>by
  obtain⟨xs,n,_,_,hl,hlen,hf⟩:=DataW.trod_struct Try.underlying25 h
  have hl':cs.length=3:=hl.trans (by kernel_rfl)
  have hlen':xs.length=3:=hlen
  obtain⟨y0,h0,o0⟩:=(ZaI.slice op_k127 Try.underlying22 (by kernel_rfl)).fieldAt (hf 0 _ rfl) (by rw[Zl (by omega)];rfl)
  obtain⟨y1,h1,o1⟩:=(ZaI.slice op_k130 Try.underlying23 (by kernel_rfl)).fieldAt (hf 1 _ rfl) (by rw[Zl (by omega)];rfl)
  obtain⟨y2,h2,o2⟩:=(ZaI.int Try.underlying3 (by kernel_rfl)).fieldAt (hf 2 _ rfl) (by rw[Zl (by omega)];rfl)
  have hk:k25.K w ⟨y0,y1,y2⟩ ((cs.drop 0).take k25.sz):=(ZbT (off:=0) h0 (ZbT (off:=1) h1 h2))
  have hcs:(cs.drop 0).take k25.sz=cs:=by rw[List.drop_zero];exact List.take_of_length_le (by rw[hl'];exact Nat.le_refl _)
  rw[hcs] at hk
  exact⟨_,hk,o0,o1,o2⟩⟩
def okS28 (x:S28):Prop:=(fun l_:List Int=>l_.length≤maxLen∧∀x_∈l_,(fun n_:Int=>(Lit.int .i64 n_).wf=true) x_) x.f0∧(fun l_:List Int=>l_.length≤maxLen∧∀x_∈l_,(fun n_:Int=>(Lit.int .i64 n_).wf=true) x_) x.f1
theorem op_k28:ZaI Try.prog k28 28 okS28:=
 ⟨by kernel_rfl,fun {H enc w base fuel cs x} h=>by
  obtain⟨xs,n,_,_,hl,hlen,hf⟩:=DataW.trod_struct Try.underlying28 h
  have hl':cs.length=2:=hl.trans (by kernel_rfl)
  have hlen':xs.length=2:=hlen
  obtain⟨y0,h0,o0⟩:=(ZaI.slice (ZaI.int Try.underlying3 (by kernel_rfl)) Try.underlying26 (by kernel_rfl)).fieldAt (hf 0 _ rfl) (by rw[Zl (by omega)];rfl)
  obtain⟨y1,h1,o1⟩:=(ZaI.slice (ZaI.int Try.underlying3 (by kernel_rfl)) Try.underlying26 (by kernel_rfl)).fieldAt (hf 1 _ rfl) (by rw[Zl (by omega)];rfl)
  have hk:k28.K w ⟨y0,y1⟩ ((cs.drop 0).take k28.sz):=(ZbT (off:=0) h0 h1)
  have hcs:(cs.drop 0).take k28.sz=cs:=by rw[List.drop_zero];exact List.take_of_length_le (by rw[hl'];exact Nat.le_refl _)
  rw[hcs] at hk
  exact⟨_,hk,o0,o1⟩⟩
def okS63 (x:S63):Prop:=(fun n_:Int=>(Lit.int .i64 n_).wf=true) x.f0∧(fun l_:List Int=>l_.length≤maxLen∧∀x_∈l_,(fun n_:Int=>(Lit.int .i64 n_).wf=true) x_) x.f1∧(fun l_:List Int=>l_.length≤maxLen∧∀x_∈l_,(fun n_:Int=>(Lit.int .i64 n_).wf=true) x_) x.f2
theorem op_k63:ZaI Try.prog k63 63 okS63:=
 ⟨by kernel_rfl,fun {H enc w base fuel cs x} h=>by
  obtain⟨xs,n,_,_,hl,hlen,hf⟩:=DataW.trod_struct Try.underlying63 h
  have hl':cs.length=3:=hl.trans (by kernel_rfl)
  have hlen':xs.length=3:=hlen
  obtain⟨y0,h0,o0⟩:=(ZaI.int Try.underlying3 (by kernel_rfl)).fieldAt (hf 0 _ rfl) (by rw[Zl (by omega)];rfl)
  obtain⟨y1,h1,o1⟩:=(ZaI.slice (ZaI.int Try.underlying3 (by kernel_rfl)) Try.underlying26 (by kernel_rfl)).fieldAt (hf 1 _ rfl) (by rw[Zl (by omega)];rfl)
  obtain⟨y2,h2,o2⟩:=(ZaI.slice (ZaI.int Try.underlying3 (by kernel_rfl)) Try.underlying26 (by kernel_rfl)).fieldAt (hf 2 _ rfl) (by rw[Zl (by omega)];rfl)
  have hk:k63.K w ⟨y0,y1,y2⟩ ((cs.drop 0).take k63.sz):=(ZbT (off:=0) h0 (ZbT (off:=1) h1 h2))
  have hcs:(cs.drop 0).take k63.sz=cs:=by rw[List.drop_zero];exact List.take_of_length_le (by rw[hl'];exact Nat.le_refl _)
  rw[hcs] at hk
  exact⟨_,hk,o0,o1,o2⟩⟩
end Go.Proofs.Ytodfnelilhjoeaa.Pr
namespace Go.Proofs.Ytodfnelilhjoeaa.Ni
open Go.RowKit Go.Proofs.YtodfnelilhjoeaaW.PrintWords
theorem ZJ {w W:World} (hb:Below w.heap.size w W) {a:Addr} {v:Value} (h:w.cell? a=some v):W.cell? a=some v:=(hb.cell (Zc w _ h)).trans h
theorem wrap_succ {i:Int} (h0:0≤i) (h:i<9223372036854775807):wrap64 (i+1)=i+1:=by
 unfold wrap64;omega
theorem ZaJ {i:Int} (h0 : -9223372036854775808≤i) (h:i≤9223372036854775807):wrap64 i=i:=by
 unfold wrap64;omega
theorem Z6 {i n:Nat} (h:i<n) (hn:n≤9223372036854775807):wrap64 ((i:Int)+1)=((i+1:Nat):Int):=by
 unfold wrap64;omega
theorem wrap_pred {i:Nat} (h:0<i) (hn:i≤9223372036854775807):wrap64 ((i:Int) - 1)=((i - 1:Nat):Int):=by
 unfold wrap64;omega
theorem wf_i64 {n:Int} (h:(Lit.int .i64 n).wf=true) : -9223372036854775808≤n∧n≤9223372036854775807:=by
 simp[Lit.wf,IntKind.min,IntKind.max,IntKind.signed,IntKind.bits] at h
 omega
theorem Zbk (l:List Int) (i:Nat):rd l (i:Int)=l.getD i 0:=by unfold rd;rw[Int.toNat_natCast]
theorem ZaE {α:Type} {l:List α} {i:Nat} (h:i<l.length) (d:α):l.drop i=l.getD i d :: l.drop (i+1):=by
 rw[List.drop_eq_getElem_cons h,List.getD_eq_getElem?_getD,Zl h];rfl
theorem Zbr {α:Type} {l:List α} {i:Nat} (h:i<l.length) (d:α):l.getD i d∈l:=by
 rw[List.getD_eq_getElem?_getD,Zl h];exact List.getElem_mem h
theorem getD_some {α:Type} {l:List α} {i:Nat} (h:i<l.length) (d:α):l[i]? = some (l.getD i d):=by
 rw[List.getD_eq_getElem?_getD,Zl h];rfl
theorem ZdG {α:Type} (ys:List α) (z d:α) (i:Nat) (h:i<ys.length) (x:α) (hx:x=ys.getD i d):(ys.take i ++ List.replicate (ys.length - i) z).set i x=ys.take (i+1) ++ List.replicate (ys.length - (i+1)) z:=by
 subst hx
 have e:ys.length - i=(ys.length - (i+1))+1:=by omega
 rw[e,List.replicate_succ,List.set_append_right _ _ (by simp;omega)]
 have e2:i - (ys.take i).length=0:=by simp;omega
 rw[e2,List.set_cons_zero,List.take_succ_eq_append_getElem h,List.append_assoc]
 congr 2
 simp[List.getD_eq_getElem?_getD,Zl h]
theorem ZaC (n:Nat) (Q:Nat→Nat→Prop) (K:Nat) (hend:∀k,K≤k→Q (k+1) n) (hstep:∀k i,K≤k→i<n→Q k (i+1)→Q (k+1) i):∀(i k:Nat),i≤n→K+(n - i)<k→Q k i:=by
 have key:∀(d i k:Nat),i≤n→n - i=d→K+d<k→Q k i:=by
  intro d
  induction d with
  | zero=>
   intro i k hi hd hk
   obtain⟨m,rfl⟩:∃m,k=m+1:=⟨k - 1,by omega⟩
   obtain rfl:i=n:=by omega
   exact hend m (by omega)
  | succ d ih=>
   intro i k hi hd hk
   obtain⟨m,rfl⟩:∃m,k=m+1:=⟨k - 1,by omega⟩
   exact hstep m i (by omega) (by omega) (ih (i+1) m (by omega) (by omega) (by omega))
 intro i k hi hk
 exact key (n - i) i k hi rfl hk
theorem set_mid (pre:List Int) (x y:Int) (post:List Int):(pre ++ x :: post).set pre.length y=pre ++ y :: post:=by
 rw[List.set_append_right _ _ (Nat.le_refl _),Nat.sub_self,List.set_cons_zero]
def Za8 {α:Type} (p:α→Bool) (l:List α):Int:=match l.findIdx? p with|some i=>i|none=>-1
theorem ZbI {α:Type} (p:α→Bool) (l:List α) (k:Nat) (x:α) (hk:l[k]? = some x) (hx:p x=true) (hb:∀j y,j<k→l[j]? = some y→p y=false):Za8 p l=(k:Int):=by
 have h:l.findIdx? p=some k:=by
  rw[List.findIdx?_eq_some_iff_getElem]
  obtain⟨hl,he⟩:=List.getElem?_eq_some_iff.1 hk
  refine⟨hl,by rw[he];exact hx,fun j hj=>?_⟩
  have:=hb j _ hj (Zl (by omega))
  simp[this]
 simp[Za8,h]
theorem Zbu {α:Type} (p:α→Bool) (l:List α) (hb:∀j y,j<l.length→l[j]? = some y→p y=false):Za8 p l=-1:=by
 have h:l.findIdx? p=none:=by
  rw[List.findIdx?_eq_none_iff]
  intro x hx
  obtain⟨j,hj⟩:=List.getElem?_of_mem hx
  exact hb j x (List.getElem?_eq_some_iff.1 hj).1 hj
 simp[Za8,h]
theorem ZcO {α:Type} (p:α→Bool) (l:List α):decide (0≤Za8 p l)=l.any p:=by
 unfold Za8
 cases h:l.findIdx? p with
 | some i=>
  rw[List.findIdx?_eq_some_iff_getElem] at h
  obtain⟨hl,hp,_⟩:=h
  have:l.any p=true:=List.any_eq_true.2 ⟨_,List.getElem_mem hl,hp⟩
  rw[this]
  exact Ze (Int.natCast_nonneg _)
 | none=>
  rw[List.findIdx?_eq_none_iff] at h
  have:l.any p=false:=by rw[List.any_eq_false];intro x hx;rw[h x hx];simp
  rw[this];rfl
theorem idxOf_bd {α:Type} (p:α→Bool) (l:List α) : -1≤Za8 p l∧Za8 p l<l.length:=by
 unfold Za8
 cases h:l.findIdx? p with
 | some i=>
  rw[List.findIdx?_eq_some_iff_getElem] at h
  obtain⟨hl,_⟩:=h
  simp only;omega
 | none=>simp only;omega
def cnt0 (l:List Int):Int:=((l.filter (· == 0)).length:Int)
def Zbc (x:Int):Bool:=!(x == 0) && decide (-3≤x) && decide (x≤3)
def prp (x:Int):Int:=if x<0 then -x else x
def Zb2 (p:Int):List Int→Bool
 | []=>true
 | x :: t=>Zbc x && decide (p<prp x) && Zb2 (prp x) t
def labB (l:List Int):Bool:=Zb2 0 l
def valsB (l:List Int):Bool:=decide (l.length=3) && l.all (fun n=>decide (-1≤n) && decide (n≤1))
theorem Zbo (x:Int):Zbc x=true↔x≠0∧-3≤x∧x≤3:=by
 simp[Zbc,and_assoc]
theorem prp_pos {x:Int} (h:Zbc x=true):1≤prp x∧prp x≤3:=by
 have:=(Zbo x).1 h
 unfold prp;split <;> omega
def stFrom (v:List Int) (a:Int):List Int→Int
 | []=>a
 | x :: t=>stFrom v (min a (if x<0 then -(v.getD (prp x - 1).toNat 0) else v.getD (prp x - 1).toNat 0)) t
def stB (l v:List Int):Int:=stFrom v 1 l
def isNameB (s:ByteArray):Bool:=decide (1≤s.size) && decide (s.size≤8) && (List.range s.size).all fun i=>let c:=bt s i;(decide (97≤c) && decide (c≤122)) || (decide (0<i) && decide (48≤c) && decide (c≤57))
end Go.Proofs.Ytodfnelilhjoeaa.Ni
namespace Go.Proofs.Ytodfnelilhjoeaa.Pr
open Go.RowKit Go.Proofs.YtodfnelilhjoeaaW.PrintWords Go.Proofs.YtodfnelilhjoeaaW.PrintLast Go.Proofs.YtodfnelilhjoeaaW.PrintMore
attribute [local go_sem] Zac Zaa Zam Zal Z5 Z4 Zab Z9
set_option linter.unusedVariables false
set_option linter.unusedSimpArgs false
def Zaz.l0:Nat→List Int→List Int→Int→Option (List Int)
 | 0,_,_,_=>none
 | k+1,x0,x3,x4=>if x4<(x0.length:Int) then(if 0≤x4 then(if x4<(x3.length:Int) then(Zaz.l0 k x0 (x3.set (x4:Int).toNat (rd x0 x4)) (wrap64 (x4+1))) else(none)) else(none)) else(some x3)
def Zaz.f (k:Nat) (l0:List Int):Option (List Int):=if 0≤(l0.length:Int) then(if ((l0.length:Int):Int).toNat≤35184372088832 then(Zaz.l0 k l0 (List.replicate ((l0.length:Int):Int).toNat 0) 0) else(none)) else(none)
set_option maxHeartbeats 8000000 in
set_option maxRecDepth 100000 in
theorem Zaz.calls (k:Nat) (A0:Option Addr) (c0:Nat) (l0:List Int) (r:List Int) (w:World) (hr0:Kd.C (Kd.int .i64) w A0 l0.length l0) (hc0:l0.length≤c0) (h:Zaz.f k l0=some r) :
  Calls Try.prog 58 #[.slice A0 l0.length c0] w fun e w'=>∃v0_:Value,e=.returned (v0_)∧Kd.R (Kd.int .i64) 3 w' w.heap.size (fun _=>True) v0_ r∧Below w.heap.size w w':=by
 have HR0:=Za hr0;have HC0:=Za hc0;clear hr0 hc0
 have HB:=Za (Below.refl w.heap.size w)
 have H:(if 0≤(l0.length:Int) then(if ((l0.length:Int):Int).toNat≤35184372088832 then(Zaz.l0 k l0 (List.replicate ((l0.length:Int):Int).toNat 0) 0) else(none)) else(none))=some r:=h
 clear h
 by_cases c2:0≤(l0.length:Int)
 ·rw[if_pos c2] at H
  have c2b0:=eq_true c2
  have c2b1:decide (0≤(l0.length:Int))=true:=Ze c2
  clear c2
  by_cases c3:((l0.length:Int):Int).toNat≤35184372088832
  ·rw[if_pos c3] at H
   have c3b0:=eq_true c3
   have c3b1:decide (((l0.length:Int):Int).toNat≤35184372088832)=true:=Ze c3
   clear c3
   obtain⟨y58001,hy58001⟩:∃y_:List Int,y_=(List.replicate ((l0.length:Int):Int).toNat 0):=⟨_,rfl⟩
   replace H:(Zaz.l0 k l0 y58001 0)=some r:=by first|(rw[hy58001];with_reducible exact H)|(have H2_:=(Zi _ _).symm.trans H;rw[hy58001];with_reducible exact H2_)|(have H2_:=(Zi _ _).symm.trans H;with_reducible exact H2_)|with_reducible exact H|(rw[hy58001];exact H)|exact H
   have Ny58001:=Za hy58001;clear hy58001
   have H':=Za H
   clear H
   go_enter Try.func58,Try.ntmps58
   go_wp2_with (first|((with_reducible refine ZI (N:=7) rfl ?_);refine Kd.R_make (Kd.int .i64) _ 3 rfl (N:=7) rfl 26 _ _ rfl (l0.length:Int) rfl rfl Try.underlying26 (.int .i64 0) 8 info3 rfl (by decide) (by omega) 0 (ok:=fun _=>True) (okp:=fun _=>True) rfl (fun _ hk=>hk) trivial (Zd (by first|(with_reducible assumption)|assumption)) (Nat.le_trans (Nat.mul_le_mul_right _ (Zd (by first|(with_reducible assumption)|assumption):(l0.length:Int).toNat≤35184372088832)) (by omega)) (Below.refl _ _) (Nat.le_refl _) ?_;intro v58002 w4 ho5 hb hg_ hnew_;clear hg_ hnew_;(first|rw[← Ny58001.out] at ho5|(simp only[Int.reduceToNat] at ho5;rw[← Ny58001.out] at ho5));have HO58003:=Za (Kd.R_lower ho5 (Zx (by repeat(first|(with_reducible first|exact HB.out|apply Zn|apply Zm|apply Zt)|exact HB.out))));replace HB:=Za (Zw (by repeat(first|(with_reducible first|exact HB.out|apply Zn|apply Zm|apply Zt)|exact HB.out)) hb);clear hb ho5))
   go_loopg [4] k (fun kq v4 w'=>∃(x3_1:List Int) (x4_1:Int),v4=.int .i64 x4_1∧Aside0 (Zaz.l0 kq l0 x3_1 x4_1=some r)∧Aside0 (kq≤k)∧Aside0 (Kd.R (Kd.int .i64) 3 w' w.heap.size (fun _=>True) v58002 x3_1)∧Aside0 (Below w.heap.size w w'))
   case atStart=>exact⟨(y58001),(0),(by first|rfl|(simp;done)|(simp[*];done)),H',⟨Nat.le_refl _⟩,⟨by(with_reducible repeat(first|apply Kd.R_alloc|apply Kd.R_drewN|apply Kd.R_drew));exact HO58003.out⟩,⟨by repeat(first|(with_reducible first|exact HB.out|apply Zn|apply Zm|apply Zt)|exact HB.out)⟩⟩
   case round=>
    clear H'
    try clear c2
    try clear c2b0
    try clear c2b1
    try clear p2
    try clear c3
    try clear c3b0
    try clear c3b1
    try clear c5
    obtain⟨x3_1,x4_1,rfl,HA,HK1,HO_3,HB⟩:=hrel
    cases gk with
    | zero=>exact absurd HA.out (by simp[Zaz.l0])
    | succ k1=>
     have H:=HA.out
     clear HA
     simp only[Zaz.l0] at H
     by_cases c6:x4_1<(l0.length:Int)
     ·rw[if_pos c6] at H
      have c6b0:decide (x4_1<(l0.length:Int))=true:=Ze c6
      clear c6
      by_cases c7:0≤x4_1
      ·rw[if_pos c7] at H
       have c7b0:decide (0≤x4_1)=true:=Ze c7
       clear c7
       by_cases c8:x4_1<(x3_1.length:Int)
       ·rw[if_pos c8] at H
        have c8b0:decide (x4_1<(x3_1.length:Int))=true:=Ze c8
        clear c8
        obtain⟨y58005,hy58005⟩:∃y_:List Int,y_=(x3_1.set (x4_1:Int).toNat (rd l0 x4_1)):=⟨_,rfl⟩
        replace H:(Zaz.l0 k1 l0 y58005 (wrap64 (x4_1+1)))=some r:=by first|(rw[hy58005];with_reducible exact H)|(have H2_:=(Zi _ _).symm.trans H;rw[hy58005];with_reducible exact H2_)|(have H2_:=(Zi _ _).symm.trans H;with_reducible exact H2_)|with_reducible exact H|(rw[hy58005];exact H)|exact H
        have Ny58005:=Za hy58005;clear hy58005
        have H':=Za H
        clear H
        have p58004:0≤(x4_1:Int):=Zd (by first|(with_reducible assumption)|assumption)
        have q58004:x4_1<(l0.length:Int):=Zd (by first|(with_reducible assumption)|assumption)
        obtain⟨ad58004,e58004,hx58004_0⟩:=Kd.at_int HR0.out x4_1 p58004 q58004
        cases e58004
        replace hx58004_0:=(HB.out.cell (Zc w _ hx58004_0)).trans hx58004_0
        replace p58004:=eq_true p58004
        replace q58004:=eq_true q58004
        have p9:0≤(x4_1:Int):=Zd (by first|(with_reducible assumption)|assumption)
        have q9:(x4_1:Int)<((x3_1.length:Int):Int):=Zd (by first|(with_reducible assumption)|assumption)
        obtain⟨go9,co9,eo9,gb9,gl9,cl9,HG9⟩:=Kd.R_form HO_3.out (by omega)
        (first|cases eo9|(injection eo9 with ea_ en_ ec_;(first|subst ea_|(injection ea_ with ea_;subst ea_));subst ec_;clear en_))
        have GB9:=Za gb9;have GG9:=Za HG9;clear gb9 gl9 HG9
        obtain⟨hx9_0,hf9_0⟩:=Kd.R_celln 0 HO_3.out (x4_1:Int) p9 q9
        replace p9:=eq_true p9
        replace q9:=eq_true q9
        have HP10:=Kd.R_putg HO_3.out (x4_1:Int) (rd l0 x4_1)
        go_wp2_with (first|((with_reducible refine Zbv (t:=3) (p:=20) rfl ?_);refine Zbl (t:=3) (p:=20) (v:=?vo_w11) (w1:=(wr.setCell ⟨go9,(x4_1:Int).toNat,none⟩ (.int .i64 (rd l0 x4_1)))) ?hg ?ho ?hn ?hr ?_;(case ho=>rfl);(case hg=>rfl);(case hn=>rfl);(case hr=>first|(go_simp;done)|(go_simp;rfl));intro w11 hw;have hg:wr.grownBy w11 (some go9):=(by rw[hw];exact HP10.2);have hp_:Kd.R (Kd.int .i64) 3 w11 w.heap.size (fun _=>True) (.slice (some ⟨go9,0,none⟩) x3_1.length co9) y58005:=(by rw[hw,Ny58005.out];exact HP10.1);clear HP10;replace HO_3:=Za (hp_);replace HB:=Za ((by rw[hw];exact Zq (HB.out) GB9.out:Below w.heap.size w w11));clear hg hw hp_))
        go_roundg k1
        case measure=>have:=HK1.out;omega
        case rel=>exact⟨(y58005),(wrap64 (x4_1+1)),(by first|rfl|(simp;done)|(simp[*];done)),H',⟨by have:=HK1.out;omega⟩,⟨by(with_reducible repeat(first|apply Kd.R_alloc|apply Kd.R_drewN|apply Kd.R_drew));exact HO_3.out⟩,⟨by repeat(first|(with_reducible first|exact HB.out|apply Zn|apply Zm|apply Zt)|exact HB.out)⟩⟩
       ·rw[if_neg c8] at H
        exact absurd H (by simp)
      ·rw[if_neg c7] at H
       exact absurd H (by simp)
     ·rw[if_neg c6] at H
      have c6b0:decide (x4_1<(l0.length:Int))=false:=Zf c6
      clear c6
      obtain rfl:=Zg H
      go_wp2
      go_ret
      exact⟨_,by first|rfl|(simp[ZB,ZA] <;> rfl)|(simp[*,ZB,ZA] <;> rfl),by(with_reducible repeat(first|apply Kd.R_alloc|apply Kd.R_drewN|apply Kd.R_drew));exact HO_3.out,by repeat(first|(with_reducible first|exact HB.out|apply Zn|apply Zm|apply Zt)|exact HB.out)⟩
  ·rw[if_neg c3] at H
   exact absurd H (by simp)
 ·rw[if_neg c2] at H
  exact absurd H (by simp)
def ZaL.l0:Nat→List Int→List Int→Int→Option (Bool)
 | 0,_,_,_=>none
 | k+1,x0,x1,x5=>if x5<(x0.length:Int) then(if 0≤x5 then(if x5<(x1.length:Int) then(if (rd x0 x5)=(rd x1 x5) then(ZaL.l0 k x0 x1 (wrap64 (x5+1))) else(some false)) else(none)) else(none)) else(some true)
def ZaL.f (k:Nat) (l0:List Int) (l1:List Int):Option (Bool):=if (l0.length:Int)=(l1.length:Int) then(ZaL.l0 k l0 l1 0) else(some false)
set_option maxHeartbeats 8000000 in
set_option maxRecDepth 100000 in
theorem ZaL.calls (k:Nat) (A0:Option Addr) (c0:Nat) (l0:List Int) (A1:Option Addr) (c1:Nat) (l1:List Int) (r:Bool) (w:World) (hr0:Kd.C (Kd.int .i64) w A0 l0.length l0) (hc0:l0.length≤c0) (hr1:Kd.C (Kd.int .i64) w A1 l1.length l1) (hc1:l1.length≤c1) (h:ZaL.f k l0 l1=some r) :
  Calls Try.prog 25 #[.slice A0 l0.length c0,.slice A1 l1.length c1] w fun e w'=>e=.returned (.bool r)∧ZE w w':=by
 have HR0:=Za hr0;have HC0:=Za hc0;clear hr0 hc0;have HR1:=Za hr1;have HC1:=Za hc1;clear hr1 hc1
 have H:(if (l0.length:Int)=(l1.length:Int) then(ZaL.l0 k l0 l1 0) else(some false))=some r:=h
 clear h
 by_cases c3:(l0.length:Int)=(l1.length:Int)
 ·rw[if_pos c3] at H
  have c3b0:((l0.length:Int) == (l1.length:Int))=true:=beq_iff_eq.mpr c3
  have c3b1:((l0.length:Int) != (l1.length:Int))=false:=bne_eq_false_iff_eq.mpr c3
  have c3b2:(l0.length == l1.length)=true:=by first|simpa using c3|(simp at c3 ⊢;omega)
  clear c3
  have H':=Za H
  clear H
  go_enter Try.func25,Try.ntmps25
  go_wp2
  repeat(go_quiet (fail);try go_wp2)
  go_loopg [5] k (fun kq v5 w'=>∃(x5_1:Int),v5=.int .i64 x5_1∧Aside0 (ZaL.l0 kq l0 l1 x5_1=some r)∧Aside0 (kq≤k)∧ZE w w')
  case atStart=>exact⟨(0),(by first|rfl|(simp;done)|(simp[*];done)),H',⟨Nat.le_refl _⟩,by repeat(first|exact ZE.refl _|apply ZE.step)⟩
  case round=>
   clear H'
   try clear c1
   try clear c2
   try clear p2
   try clear c3
   try clear c3b0
   try clear c3b1
   try clear c3b2
   obtain⟨x5_1,rfl,HA,HK1,⟨m1,rfl⟩⟩:=hrel
   cases gk with
   | zero=>exact absurd HA.out (by simp[ZaL.l0])
   | succ k1=>
    have H:=HA.out
    clear HA
    simp only[ZaL.l0] at H
    by_cases c4:x5_1<(l0.length:Int)
    ·rw[if_pos c4] at H
     have c4b0:decide (x5_1<(l0.length:Int))=true:=Ze c4
     clear c4
     by_cases c5:0≤x5_1
     ·rw[if_pos c5] at H
      have c5b0:decide (0≤x5_1)=true:=Ze c5
      clear c5
      by_cases c6:x5_1<(l1.length:Int)
      ·rw[if_pos c6] at H
       have c6b0:decide (x5_1<(l1.length:Int))=true:=Ze c6
       clear c6
       by_cases c7:(rd l0 x5_1)=(rd l1 x5_1)
       ·rw[if_pos c7] at H
        have c7b0:((rd l0 x5_1) == (rd l1 x5_1))=true:=beq_iff_eq.mpr c7
        have c7b1:((rd l0 x5_1) != (rd l1 x5_1))=false:=bne_eq_false_iff_eq.mpr c7
        clear c7
        have H':=Za H
        clear H
        have p25001:0≤(x5_1:Int):=Zd (by first|(with_reducible assumption)|assumption)
        have q25001:x5_1<(l0.length:Int):=Zd (by first|(with_reducible assumption)|assumption)
        obtain⟨ad25001,e25001,hx25001_0⟩:=Kd.at_int HR0.out x5_1 p25001 q25001
        cases e25001
        replace p25001:=eq_true p25001
        replace q25001:=eq_true q25001
        have p25002:0≤(x5_1:Int):=Zd (by first|(with_reducible assumption)|assumption)
        have q25002:x5_1<(l1.length:Int):=Zd (by first|(with_reducible assumption)|assumption)
        obtain⟨ad25002,e25002,hx25002_0⟩:=Kd.at_int HR1.out x5_1 p25002 q25002
        cases e25002
        replace p25002:=eq_true p25002
        replace q25002:=eq_true q25002
        go_wp2
        repeat(go_quiet (fail);try go_wp2)
        go_roundg k1
        case measure=>have:=HK1.out;omega
        case rel=>exact⟨(wrap64 (x5_1+1)),(by first|rfl|(simp;done)|(simp[*];done)),H',⟨by have:=HK1.out;omega⟩,by repeat(first|exact ZE.refl _|apply ZE.step)⟩
       ·rw[if_neg c7] at H
        have c7b0:((rd l0 x5_1) == (rd l1 x5_1))=false:=beq_eq_false_iff_ne.mpr c7
        have c7b1:((rd l0 x5_1) != (rd l1 x5_1))=true:=bne_iff_ne.mpr c7
        obtain rfl:=Zg H
        have p25001:0≤(x5_1:Int):=Zd (by first|(with_reducible assumption)|assumption)
        have q25001:x5_1<(l0.length:Int):=Zd (by first|(with_reducible assumption)|assumption)
        obtain⟨ad25001,e25001,hx25001_0⟩:=Kd.at_int HR0.out x5_1 p25001 q25001
        cases e25001
        replace p25001:=eq_true p25001
        replace q25001:=eq_true q25001
        have p25002:0≤(x5_1:Int):=Zd (by first|(with_reducible assumption)|assumption)
        have q25002:x5_1<(l1.length:Int):=Zd (by first|(with_reducible assumption)|assumption)
        obtain⟨ad25002,e25002,hx25002_0⟩:=Kd.at_int HR1.out x5_1 p25002 q25002
        cases e25002
        replace p25002:=eq_true p25002
        replace q25002:=eq_true q25002
        go_wp2
        repeat(go_quiet (fail);try go_wp2)
        go_ret
        exact⟨by first|rfl|(simp;done)|(simp[*];done),by repeat(first|exact ZE.refl _|apply ZE.step)⟩
      ·rw[if_neg c6] at H
       exact absurd H (by simp)
     ·rw[if_neg c5] at H
      exact absurd H (by simp)
    ·rw[if_neg c4] at H
     have c4b0:decide (x5_1<(l0.length:Int))=false:=Zf c4
     clear c4
     obtain rfl:=Zg H
     go_wp2
     repeat(go_quiet (fail);try go_wp2)
     go_ret
     exact⟨by first|rfl|(simp;done)|(simp[*];done),by repeat(first|exact ZE.refl _|apply ZE.step)⟩
 ·rw[if_neg c3] at H
  have c3b0:((l0.length:Int) == (l1.length:Int))=false:=beq_eq_false_iff_ne.mpr c3
  have c3b1:((l0.length:Int) != (l1.length:Int))=true:=bne_iff_ne.mpr c3
  have c3b2:(l0.length == l1.length)=false:=by first|simpa using c3|(simp at c3 ⊢;omega)
  obtain rfl:=Zg H
  go_enter Try.func25,Try.ntmps25
  go_wp2
  repeat(go_quiet (fail);try go_wp2)
  go_ret
  exact⟨by first|rfl|(simp;done)|(simp[*];done),by repeat(first|exact ZE.refl _|apply ZE.step)⟩
end Go.Proofs.Ytodfnelilhjoeaa.Pr
namespace Go.Proofs.Ytodfnelilhjoeaa.Pr
open Go.RowKit Go.Proofs.YtodfnelilhjoeaaW.PrintWords Go.Proofs.Ytodfnelilhjoeaa.Ni
theorem toIntS_f (l:List Int) (hl:l.length≤35184372088832) (k:Nat) (hk:2 ^ 64≤k):Zaz.f k l=some l:=by
 have key:=ZaC l.length (fun k i=>Zaz.l0 k l (l.take i ++ List.replicate (l.length - i) 0) (i:Int)=some l) 0
  (fun k _=>by simp[Zaz.l0])
  (fun k i _ hi ih=>by
   simp only[Zaz.l0]
   rw[if_pos (by omega),if_pos (by omega),if_pos (by simp;omega),Z6 hi (by omega),Int.toNat_natCast,ZdG l 0 0 i hi _ (Zbk l i)]
   exact ih) 0 k (Nat.zero_le _) (by omega)
 unfold Zaz.f
 rw[if_pos (by omega),if_pos (by omega),Int.toNat_natCast]
 simpa using key
theorem eqIntS_f (l m:List Int) (hl:l.length≤9223372036854775807) (k:Nat) (hk:2 ^ 64≤k):ZaL.f k l m=some (decide (l=m)):=by
 unfold ZaL.f
 by_cases e:l.length=m.length
 ·rw[if_pos (by omega)]
  have key:=ZaC l.length (fun k i=>ZaL.l0 k l m (i:Int)=some (decide (l.drop i=m.drop i))) 0
   (fun k _=>by
    simp only[ZaL.l0]
    rw[if_neg (by omega),List.drop_of_length_le (Nat.le_refl _),List.drop_of_length_le (by omega)]
    simp)
   (fun k i _ hi ih=>by
    simp only[ZaL.l0]
    rw[if_pos (by omega),if_pos (by omega),if_pos (by omega),Zbk,Zbk,Z6 hi (by omega),ZaE hi 0,ZaE (show i<m.length by omega) 0]
    by_cases h:l.getD i 0=m.getD i 0
    ·rw[if_pos h,ih,h];simp
    ·rw[if_neg h]
     simp only[List.cons.injEq,h,false_and,decide_false]) 0 k (Nat.zero_le _) (by omega)
  simpa using key
 ·rw[if_neg (by omega)]
  have:l≠m:=fun h=>e (by rw[h])
  simp[this]
theorem eqIntS_refl (l:List Int) (hl:l.length≤9223372036854775807) (k:Nat) (hk:2 ^ 64≤k):ZaL.f k l l=some true:=by
 rw[eqIntS_f l l hl k hk];simp
end Go.Proofs.Ytodfnelilhjoeaa.Pr
namespace Go.Proofs.Ytodfnelilhjoeaa.Pr
open Go.RowKit Go.Proofs.YtodfnelilhjoeaaW.PrintWords Go.Proofs.YtodfnelilhjoeaaW.PrintLast Go.Proofs.YtodfnelilhjoeaaW.PrintMore
attribute [local go_sem] Zac Zaa Zam Zal Z5 Z4 Zab Z9
set_option linter.unusedVariables false
set_option linter.unusedSimpArgs false
def Zau.l0:Nat→List Int→Int→Int→Option (Int×List Int)
 | 0,_,_,_=>none
 | k+1,x0,x1,x5=>if x5<(x0.length:Int) then(if 0≤x5 then(Zau.l0 k (x0.set (x5:Int).toNat x1) (wrap64 (x1+1)) (wrap64 (x5+1))) else(none)) else(some (x1,x0))
def Zau.f (k:Nat) (l0:List Int) (a1:Int):Option (Int×List Int):=Zau.l0 k l0 a1 0
set_option maxHeartbeats 8000000 in
set_option maxRecDepth 100000 in
theorem Zau.calls (k:Nat) (P0_:Nat→Prop) (u9000_:Value) (l0:List Int) (a1:Int) (r1:Int) (r2:List Int) (w0 w:World) (hB:Below w0.heap.size w0 w) (ho0:Kd.R (Kd.int .i64) 3 w w0.heap.size P0_ u9000_ l0) (h:Zau.f k l0 a1=some (r1,r2)) :
  Calls Try.prog 27 #[u9000_,.int .i64 a1] w fun e w'=>e=.returned (.int .i64 r1)∧Kd.R (Kd.int .i64) 3 w' w0.heap.size (fun k_=>(P0_ k_∨w.heap.size≤k_)) u9000_ r2∧Below w0.heap.size w0 w'∧Kept w w' (fun k_=>P0_ k_):=by
 have HO0:=Za (show Kd.R (Kd.int .i64) 3 w w0.heap.size (fun k_=>(P0_ k_∨w.heap.size≤k_)) u9000_ l0 from Kd.R_mono ho0 (fun k_ hk=>(.inl hk)))
 have HK:=Za (Kept.refl w (fun k_=>P0_ k_))
 have HW0:=Za hB.size
 have HB:=Za hB;clear hB
 have H:(Zau.l0 k l0 a1 0)=some (r1,r2):=h
 clear h
 have H':=Za H
 clear H
 go_enter Try.func27,Try.ntmps27
 go_wp2
 go_loopg [1,5] k (fun kq v1 v5 w'=>∃(x0_1:List Int) (x1_1:Int) (x5_1:Int),v1=.int .i64 x1_1∧v5=.int .i64 x5_1∧Aside0 (Zau.l0 kq x0_1 x1_1 x5_1=some (r1,r2))∧Aside0 (kq≤k)∧Aside0 (Kd.R (Kd.int .i64) 3 w' w0.heap.size (fun k_=>(P0_ k_∨w.heap.size≤k_)) u9000_ x0_1)∧Aside0 (Kept w w' (fun k_=>P0_ k_))∧Aside0 (Below w0.heap.size w0 w'))
 case atStart=>exact⟨(l0),(a1),(0),(by first|rfl|(simp;done)|(simp[*];done)),(by first|rfl|(simp;done)|(simp[*];done)),H',⟨Nat.le_refl _⟩,⟨by(with_reducible repeat(first|apply Kd.R_alloc|apply Kd.R_drewN|apply Kd.R_drew));exact HO0.out⟩,⟨by repeat(first|(with_reducible first|exact HK.out|apply Kept.alloc|apply Kept.drewN|apply Kept.drew)|exact HK.out)⟩,⟨by repeat(first|(with_reducible first|exact HB.out|apply Zn|apply Zm|apply Zt)|exact HB.out)⟩⟩
 case round=>
  clear H'
  try clear c2
  try clear p2
  obtain⟨x0_1,x1_1,x5_1,rfl,rfl,HA,HK1,HO_0,HK,HB⟩:=hrel
  cases gk with
  | zero=>exact absurd HA.out (by simp[Zau.l0])
  | succ k1=>
   have H:=HA.out
   clear HA
   simp only[Zau.l0] at H
   by_cases c3:x5_1<(x0_1.length:Int)
   ·rw[if_pos c3] at H
    have c3b0:decide (x5_1<(x0_1.length:Int))=true:=Ze c3
    clear c3
    by_cases c4:0≤x5_1
    ·rw[if_pos c4] at H
     have c4b0:decide (0≤x5_1)=true:=Ze c4
     clear c4
     obtain⟨y27001,hy27001⟩:∃y_:List Int,y_=(x0_1.set (x5_1:Int).toNat x1_1):=⟨_,rfl⟩
     replace H:(Zau.l0 k1 y27001 (wrap64 (x1_1+1)) (wrap64 (x5_1+1)))=some (r1,r2):=by first|(rw[hy27001];with_reducible exact H)|(have H2_:=(Zi _ _).symm.trans H;rw[hy27001];with_reducible exact H2_)|(have H2_:=(Zi _ _).symm.trans H;with_reducible exact H2_)|with_reducible exact H|(rw[hy27001];exact H)|exact H
     have Ny27001:=Za hy27001;clear hy27001
     have H':=Za H
     clear H
     obtain⟨Ao6,co6,eo6⟩:=Kd.R_slice HO_0.out
     subst eo6
     have p5:0≤(x5_1:Int):=Zd (by first|(with_reducible assumption)|assumption)
     have q5:(x5_1:Int)<((x0_1.length:Int):Int):=Zd (by first|(with_reducible assumption)|assumption)
     obtain⟨go5,co5,eo5,gb5,gl5,cl5,HG5⟩:=Kd.R_form HO_0.out (by omega)
     (first|cases eo5|(injection eo5 with ea_ en_ ec_;(first|subst ea_|(injection ea_ with ea_;subst ea_));subst ec_;clear en_))
     have GB5:=Za gb5;have GG5:=Za HG5;clear gb5 gl5 HG5
     have HMgo5:=Za (show(P0_ go5∨w.heap.size≤go5) from(HO_0.out.1 _ rfl))
     obtain⟨hx5_0,hf5_0⟩:=Kd.R_celln 0 HO_0.out (x5_1:Int) p5 q5
     replace p5:=eq_true p5
     replace q5:=eq_true q5
     have HP7:=Kd.R_putg HO_0.out (x5_1:Int) x1_1
     go_wp2_with (first|((with_reducible refine Zbv (t:=3) (p:=15) rfl ?_);refine Zbl (t:=3) (p:=15) (v:=?vo_w8) (w1:=(wr.setCell ⟨go5,(x5_1:Int).toNat,none⟩ (.int .i64 x1_1))) ?hg ?ho ?hn ?hr ?_;(case ho=>rfl);(case hg=>rfl);(case hn=>rfl);(case hr=>first|(go_simp;done)|(go_simp;rfl));intro w8 hw;have hg:wr.grownBy w8 (some go5):=(by rw[hw];exact HP7.2);have hp_:Kd.R (Kd.int .i64) 3 w8 w0.heap.size (fun k_=>(P0_ k_∨w.heap.size≤k_)) (.slice (some ⟨go5,0,none⟩) x0_1.length co6) y27001:=(by rw[hw,Ny27001.out];exact HP7.1);clear HP7;replace HB:=Za ((by rw[hw];exact Zq (HB.out) GB5.out:Below w0.heap.size w0 w8));replace HK:=Za (Kept.of_grown (S:=(fun k_=>P0_ k_)) hg (by repeat(first|(with_reducible first|exact HK.out|apply Kept.alloc|apply Kept.drewN|apply Kept.drew)|exact HK.out)) (fun k_ e_=>(HO_0.out.1 k_ e_)));replace HO_0:=Za (hp_);clear hg hw hp_))
     go_roundg k1
     case measure=>have:=HK1.out;omega
     case rel=>exact⟨(y27001),(wrap64 (x1_1+1)),(wrap64 (x5_1+1)),(by first|rfl|(simp;done)|(simp[*];done)),(by first|rfl|(simp;done)|(simp[*];done)),H',⟨by have:=HK1.out;omega⟩,⟨by(with_reducible repeat(first|apply Kd.R_alloc|apply Kd.R_drewN|apply Kd.R_drew));exact HO_0.out⟩,⟨by repeat(first|(with_reducible first|exact HK.out|apply Kept.alloc|apply Kept.drewN|apply Kept.drew)|exact HK.out)⟩,⟨by repeat(first|(with_reducible first|exact HB.out|apply Zn|apply Zm|apply Zt)|exact HB.out)⟩⟩
    ·rw[if_neg c4] at H
     exact absurd H (by simp)
   ·rw[if_neg c3] at H
    have c3b0:decide (x5_1<(x0_1.length:Int))=false:=Zf c3
    clear c3
    simp only[Option.some.injEq,Prod.mk.injEq] at H
    obtain⟨rfl,rfl⟩:=H
    obtain⟨Ao9,co9,eo9⟩:=Kd.R_slice HO_0.out
    subst eo9
    go_wp2
    go_ret
    exact⟨by first|rfl|(simp[ZB,ZA] <;> rfl)|(simp[*,ZB,ZA] <;> rfl),by(with_reducible repeat(first|apply Kd.R_alloc|apply Kd.R_drewN|apply Kd.R_drew));exact HO_0.out,by repeat(first|(with_reducible first|exact HB.out|apply Zn|apply Zm|apply Zt)|exact HB.out),by repeat(first|(with_reducible first|exact HK.out|apply Kept.alloc|apply Kept.drewN|apply Kept.drew)|exact HK.out)⟩
def Zay.l0:Nat→Int→ByteArray→Option (ByteArray)
 | 0,_,_=>none
 | k+1,x0,x3=>if x0 > 0 then((some (([(wrap64 (48+(Int.tmod x0 10))) % 256]:List Int):List Int)).bind fun y129001=>(if (strOfNums y129001).size+x3.size≤9223372036854775807 then(Zay.l0 k (wrap64 (Int.tdiv x0 10)) ((strOfNums y129001) ++ x3)) else(none))) else(if 1+x3.size≤9223372036854775807 then(some ((⟨#[109]⟩:ByteArray) ++ x3)) else(none))
def Zay.f (k:Nat) (a0:Int):Option (ByteArray):=if a0≤0 then(some (⟨#[109,48]⟩:ByteArray)) else(Zay.l0 k a0 (⟨#[]⟩:ByteArray))
set_option maxHeartbeats 8000000 in
set_option maxRecDepth 100000 in
theorem Zay.calls (k:Nat) (a0:Int) (r:ByteArray) (w:World) (h:Zay.f k a0=some r) :
  Calls Try.prog 129 #[.int .i64 a0] w fun e w'=>e=.returned (.string r)∧Below w.heap.size w w':=by
 have HB:=Za (Below.refl w.heap.size w)
 have H:(if a0≤0 then(some (⟨#[109,48]⟩:ByteArray)) else(Zay.l0 k a0 (⟨#[]⟩:ByteArray)))=some r:=h
 clear h
 by_cases c2:a0≤0
 ·rw[if_pos c2] at H
  have c2b0:decide (a0≤0)=true:=Ze c2
  clear c2
  obtain rfl:=Zg H
  go_enter Try.func129,Try.ntmps129
  go_wp2
  go_ret
  exact⟨by first|rfl|(simp[ZB,ZA] <;> rfl)|(simp[*,ZB,ZA] <;> rfl),by repeat(first|(with_reducible first|exact HB.out|apply Zn|apply Zm|apply Zt)|exact HB.out)⟩
 ·rw[if_neg c2] at H
  have c2b0:decide (a0≤0)=false:=Zf c2
  clear c2
  have H':=Za H
  clear H
  go_enter Try.func129,Try.ntmps129
  go_wp2
  go_loopg [0,3] k (fun kq v0 v3 w'=>∃(x0_1:Int) (x3_1:ByteArray),v0=.int .i64 x0_1∧v3=.string x3_1∧Aside0 (Zay.l0 kq x0_1 x3_1=some r)∧Aside0 (kq≤k)∧Aside0 (Below w.heap.size w w'))
  case atStart=>exact⟨(a0),((⟨#[]⟩:ByteArray)),(by first|rfl|(simp;done)|(simp[*];done)),(by first|rfl|(simp;done)|(simp[*];done)),H',⟨Nat.le_refl _⟩,⟨by repeat(first|(with_reducible first|exact HB.out|apply Zn|apply Zm|apply Zt)|exact HB.out)⟩⟩
  case round=>
   clear H'
   try clear c1
   try clear c2
   try clear c2b0
   try clear p2
   obtain⟨x0_1,x3_1,rfl,rfl,HA,HK1,HB⟩:=hrel
   cases gk with
   | zero=>exact absurd HA.out (by simp[Zay.l0])
   | succ k1=>
    have H:=HA.out
    clear HA
    simp only[Zay.l0] at H
    by_cases c3:x0_1 > 0
    ·rw[if_pos c3] at H
     have c3b0:decide (0<x0_1)=true:=Ze c3
     clear c3
     obtain⟨y129001,hy129001⟩:∃y_:List Int,y_=(([(wrap64 (48+(Int.tmod x0_1 10))) % 256]:List Int)):=⟨_,rfl⟩
     replace H:(if (strOfNums y129001).size+x3_1.size≤9223372036854775807 then(Zay.l0 k1 (wrap64 (Int.tdiv x0_1 10)) ((strOfNums y129001) ++ x3_1)) else(none))=some r:=by first|(rw[hy129001];with_reducible exact H)|(have H2_:=(Zi _ _).symm.trans H;rw[hy129001];with_reducible exact H2_)|(have H2_:=(Zi _ _).symm.trans H;with_reducible exact H2_)|with_reducible exact H|(rw[hy129001];exact H)|exact H
     have Ny129001:=Za hy129001;clear hy129001
     by_cases c4:(strOfNums y129001).size+x3_1.size≤9223372036854775807
     ·rw[if_pos c4] at H
      have c4b0:=eq_true c4
      have c4b1:decide ((strOfNums y129001).size+x3_1.size≤9223372036854775807)=true:=Ze c4
      try have c4b2:(9223372036854775807<(strOfNums y129001).size+x3_1.size)=False:=eq_false (Nat.not_lt.2 c4)
      have H':=Za H
      clear H
      go_wp2_with (first|((with_reducible refine ZI (N:=12) rfl ?_);refine Kd.R_lit (Kd.int .u8) _ 5 ?hg (N:=12) ?hd (xs:=([(wrap64 (48+(Int.tmod x0_1 10))) % 256]:List Int)) (inner:=[.int .u8 ((wrap64 (48+(Int.tmod x0_1 10))) % 256)]) (ok:=fun _=>True) (okp:=fun _=>True) ?hr ?hp (fun _ hk=>hk) trivial (Below.refl _ _) (Nat.le_refl _) (by simp) ?_;(case hd=>rfl);(case hg=>rfl);(case hr=>first|(go_simp;done)|(go_simp;rfl));(case hp=>exact(Reps.one (show Kd.M (Kd.int .u8) _ _ _ ((wrap64 (48+(Int.tmod x0_1 10))) % 256) [.int .u8 ((wrap64 (48+(Int.tmod x0_1 10))) % 256)] from rfl) (Reps.none _ _)));intro v129002 w5 ho6 hb hg_ hnew_;clear hg_ hnew_;(first|rw[← Ny129001.out] at ho6|(simp only[Int.reduceToNat] at ho6;rw[← Ny129001.out] at ho6));have HO129003:=Za (Kd.R_lower ho6 (Zx (by repeat(first|(with_reducible first|exact HB.out|apply Zn|apply Zm|apply Zt)|exact HB.out))));replace HB:=Za (Zw (by repeat(first|(with_reducible first|exact HB.out|apply Zn|apply Zm|apply Zt)|exact HB.out)) hb);clear hb ho6;have hcv7:=own_string (P:=Try.prog) Try.underlying47 Try.underlying5 Try.underlying9 (Kd.own_of_R HO129003.out)))
      go_roundg k1
      case measure=>have:=HK1.out;omega
      case rel=>exact⟨(wrap64 (Int.tdiv x0_1 10)),((strOfNums y129001) ++ x3_1),(by first|rfl|(simp;done)|(simp[*];done)),(by first|rfl|(simp;done)|(simp[*];done)),H',⟨by have:=HK1.out;omega⟩,⟨by repeat(first|(with_reducible first|exact HB.out|apply Zn|apply Zm|apply Zt)|exact HB.out)⟩⟩
     ·rw[if_neg c4] at H
      exact absurd H (by simp)
    ·rw[if_neg c3] at H
     have c3b0:decide (0<x0_1)=false:=Zf c3
     clear c3
     by_cases c8:1+x3_1.size≤9223372036854775807
     ·rw[if_pos c8] at H
      have c8b0:=eq_true c8
      have c8b1:decide (1+x3_1.size≤9223372036854775807)=true:=Ze c8
      try have c8b2:(9223372036854775807<1+x3_1.size)=False:=eq_false (Nat.not_lt.2 c8)
      obtain rfl:=Zg H
      go_wp2
      go_ret
      exact⟨by first|rfl|(simp[ZB,ZA] <;> rfl)|(simp[*,ZB,ZA] <;> rfl),by repeat(first|(with_reducible first|exact HB.out|apply Zn|apply Zm|apply Zt)|exact HB.out)⟩
     ·rw[if_neg c8] at H
      exact absurd H (by simp)
end Go.Proofs.Ytodfnelilhjoeaa.Pr
namespace Go.Proofs.Ytodfnelilhjoeaa.Pr
open Go.RowKit Go.Proofs.YtodfnelilhjoeaaW.PrintWords Go.Proofs.Ytodfnelilhjoeaa.Ni
def Zbm (a:Int):Nat→List Int
 | 0=>[]
 | n+1=>a :: Zbm (a+1) n
theorem Za7:∀(n:Nat) (a:Int),(Zbm a n).length=n
 | 0,_=>rfl
 | n+1,a=>by rw[Zbm,List.length_cons,Za7 n]
theorem Zc8:∀(n i:Nat) (a:Int),i<n→(Zbm a n).getD i 0=a+i
 | n+1,0,a,_=>by simp[Zbm]
 | n+1,i+1,a,h=>by
  rw[Zbm,List.getD_cons_succ,Zc8 n i (a+1) (by omega)];omega
theorem marks_split:∀(n i:Nat) (a:Int),i<n→(Zbm a n).drop i=(a+i) :: (Zbm a n).drop (i+1):=by
 intro n i a h
 rw[ZaE (by rw[Za7];exact h) 0,Zc8 n i a h]
theorem ZdR (l:List Int) (hl:l.length≤1048576) (a:Int) (h0:0≤a) (h1:a≤1152921504606846976) (k:Nat) (hk:2 ^ 64≤k):Zau.f k l a=some (a+l.length,Zbm a l.length):=by
 have key:=ZaC l.length (fun k i=>Zau.l0 k ((Zbm a l.length).take i ++ l.drop i) (a+i) (i:Int)=some (a+l.length,Zbm a l.length)) 0
  (fun k _=>by
   simp only[Zau.l0]
   rw[if_neg (by simp[Za7]),List.drop_length,List.append_nil,List.take_of_length_le (by rw[Za7];exact Nat.le_refl _)])
  (fun k i _ hi ih=>by
   simp only[Zau.l0]
   rw[if_pos (by simp[Za7];omega),if_pos (by omega),Z6 hi (by omega),ZaJ (i:=a+i+1) (by omega) (by omega),Int.toNat_natCast]
   have e:((Zbm a l.length).take i ++ l.drop i).set i (a+i)=(Zbm a l.length).take (i+1) ++ l.drop (i+1):=by
    have hlen:((Zbm a l.length).take i).length=i:=by rw[Zj,Za7];omega
    rw[List.set_append_right _ _ (by omega),hlen,Nat.sub_self,ZaE hi 0,List.set_cons_zero,List.take_succ_eq_append_getElem (by rw[Za7];exact hi),List.append_assoc]
    congr 1
    have:=Zc8 l.length i a hi
    rw[List.getD_eq_getElem?_getD,Zl (by rw[Za7];exact hi)] at this
    simp only[Option.getD_some] at this
    rw[this];rfl
   rw[e,show a+(i:Int)+1=a+((i+1:Nat):Int) by omega]
   exact ih) 0 k (Nat.zero_le _) (by omega)
 unfold Zau.f
 simpa using key
theorem markText_f (a:Int) (h0:0≤a) (h1:a≤1152921504606846976) (k:Nat) (hk:2 ^ 64≤k):∃r,Zay.f k a=some r:=by
 have key:∀(d:Nat) (a:Int) (x:ByteArray) (k:Nat),0≤a→a.toNat≤d→a≤1152921504606846976→d<k→x.size+d≤1152921504606846976+5→∃r,Zay.l0 k a x=some r:=by
  intro d
  induction d with
  | zero=>
   intro a x k h0 hd h1 hk hx
   obtain⟨m,rfl⟩:∃m,k=m+1:=⟨k - 1,by omega⟩
   simp only[Zay.l0]
   rw[if_neg (by omega),if_pos (by omega)]
   exact⟨_,rfl⟩
  | succ d ih=>
   intro a x k h0 hd h1 hk hx
   obtain⟨m,rfl⟩:∃m,k=m+1:=⟨k - 1,by omega⟩
   simp only[Zay.l0]
   by_cases hp:a > 0
   ·rw[if_pos hp,Zi]
    have hs:(strOfNums ([(wrap64 (48+(Int.tmod a 10))) % 256]:List Int)).size=1:=rfl
    have ht:Int.tdiv a 10=a / 10:=Int.tdiv_eq_ediv_of_nonneg h0
    rw[if_pos (by rw[hs];omega),ht,ZaJ (by omega) (by omega)]
    exact ih _ _ _ (by omega) (by omega) (by omega) (by omega) (by rw[ByteArray.size_append,hs];omega)
   ·rw[if_neg hp,if_pos (by omega)]
    exact⟨_,rfl⟩
 unfold Zay.f
 by_cases h:a≤0
 ·rw[if_pos h];exact⟨_,rfl⟩
 ·rw[if_neg h]
  exact key a.toNat a _ k h0 (Nat.le_refl _) h1 (by omega) (by show(0:Nat)+_≤_;omega)
abbrev LNode:=S127
abbrev ZZ:=S116
abbrev LTie:=S130
abbrev PTie:=S90
def cvN (x:LNode):ZZ:=⟨x.f0,x.f1,x.f2⟩
def cvT (x:LTie):PTie:=⟨x.f0,x.f1,x.f2,x.f3,x.f4⟩
theorem Zbz (l:List ZZ) (i:Nat):Zz l (i:Int)=l.getD i z116:=by unfold Zz;rw[Int.toNat_natCast]
theorem Zc1 (l:List PTie) (i:Nat):Zv l (i:Int)=l.getD i z90:=by unfold Zv;rw[Int.toNat_natCast]
theorem rdLN_nat (l:List LNode) (i:Nat):Zav l (i:Int)=l.getD i z127:=by unfold Zav;rw[Int.toNat_natCast]
theorem rdLT_nat (l:List LTie) (i:Nat):ZaV l (i:Int)=l.getD i z130:=by unfold ZaV;rw[Int.toNat_natCast]
theorem zN:cvN z127=z116:=rfl
theorem zT:cvT z130=z90:=rfl
theorem getD_map {α β:Type} (f:α→β) (l:List α) (i:Nat) (a:α) (b:β) (h:f a=b):(l.map f).getD i b=f (l.getD i a):=by
 subst h
 rw[List.getD_eq_getElem?_getD,List.getD_eq_getElem?_getD,List.getElem?_map]
 cases l[i]? <;> rfl
def ZcS (ns:List LNode) (ts:List LTie):Prop:=ns.length≤1048576∧ts.length≤1048576∧∀n∈ns,n.f0.size≤1048576∧n.f1.length≤1048576
def Zc2 (ns:List ZZ) (ts:List PTie):Prop:=ns.length≤1048576∧ts.length≤1048576∧∀n∈ns,n.f0.size≤1048576∧n.f1.length≤1048576
theorem ZcS.cv {ns:List LNode} {ts:List LTie} (h:ZcS ns ts):Zc2 (ns.map cvN) (ts.map cvT):=by
 refine⟨by simpa using h.1,by simpa using h.2.1,fun n hn=>?_⟩
 obtain⟨m,hm,rfl⟩:=List.mem_map.1 hn
 exact h.2.2 m hm
end Go.Proofs.Ytodfnelilhjoeaa.Pr
namespace Go.Proofs.Ytodfnelilhjoeaa.Pr
open Go.RowKit Go.Proofs.YtodfnelilhjoeaaW.PrintWords Go.Proofs.YtodfnelilhjoeaaW.PrintLast Go.Proofs.YtodfnelilhjoeaaW.PrintMore
attribute [local go_sem] Zac Zaa Zam Zal Z5 Z4 Zab Z9
set_option linter.unusedVariables false
set_option linter.unusedSimpArgs false
def Zag.l0:Nat→List (S90)→Int→Int→Option (Int×(List (S90)))
 | 0,_,_,_=>none
 | k+1,x0,x1,x5=>if x5<(x0.length:Int) then(if 0≤x5 then((some (x0.set (x5:Int).toNat (⟨x1,(Zv x0 x5).f1,(Zv x0 x5).f2,(Zv x0 x5).f3,(Zv x0 x5).f4⟩:S90):List (S90))).bind fun y79001=>((some (y79001.set (x5:Int).toNat (⟨(Zv y79001 x5).f0,wrap64 (x1+1),(Zv y79001 x5).f2,(Zv y79001 x5).f3,(Zv y79001 x5).f4⟩:S90):List (S90))).bind fun y79002=>((some (y79002.set (x5:Int).toNat (⟨(Zv y79002 x5).f0,(Zv y79002 x5).f1,wrap64 ((wrap64 (x1+1))+1),(Zv y79002 x5).f3,(Zv y79002 x5).f4⟩:S90):List (S90))).bind fun y79003=>((some (y79003.set (x5:Int).toNat (⟨(Zv y79003 x5).f0,(Zv y79003 x5).f1,(Zv y79003 x5).f2,wrap64 ((wrap64 ((wrap64 (x1+1))+1))+1),(Zv y79003 x5).f4⟩:S90):List (S90))).bind fun y79004=>(Zag.l0 k (y79004.set (x5:Int).toNat (⟨(Zv y79004 x5).f0,(Zv y79004 x5).f1,(Zv y79004 x5).f2,(Zv y79004 x5).f3,((Int.tmod (wrap64 ((wrap64 ((wrap64 ((wrap64 (x1+1))+1))+1))+1)) 3) == 0)⟩:S90)) (wrap64 ((wrap64 ((wrap64 ((wrap64 ((wrap64 (x1+1))+1))+1))+1))+1)) (wrap64 (x5+1))))))) else(none)) else(some (x1,x0))
def Zag.f (k:Nat) (l0:List (S90)) (a1:Int):Option (Int×(List (S90))):=Zag.l0 k l0 a1 0
set_option maxHeartbeats 8000000 in
set_option maxRecDepth 100000 in
theorem Zag.calls (k:Nat) (P0_:Nat→Prop) (u9000_:Value) (l0:List (S90)) (a1:Int) (r1:Int) (r2:List (S90)) (w0 w:World) (hB:Below w0.heap.size w0 w) (ho0:Kd.R k90 90 w w0.heap.size P0_ u9000_ l0) (h:Zag.f k l0 a1=some (r1,r2)) :
  Calls Try.prog 79 #[u9000_,.int .i64 a1] w fun e w'=>e=.returned (.int .i64 r1)∧Kd.R k90 90 w' w0.heap.size (fun k_=>(P0_ k_∨w.heap.size≤k_)) u9000_ r2∧Below w0.heap.size w0 w'∧Kept w w' (fun k_=>P0_ k_):=by
 have HO0:=Za (show Kd.R k90 90 w w0.heap.size (fun k_=>(P0_ k_∨w.heap.size≤k_)) u9000_ l0 from Kd.R_mono ho0 (fun k_ hk=>(.inl hk)))
 have HK:=Za (Kept.refl w (fun k_=>P0_ k_))
 have HW0:=Za hB.size
 have HB:=Za hB;clear hB
 have H:(Zag.l0 k l0 a1 0)=some (r1,r2):=h
 clear h
 have H':=Za H
 clear H
 go_enter Try.func79,Try.ntmps79
 go_wp2
 go_loopg [1,5] k (fun kq v1 v5 w'=>∃(x0_1:List (S90)) (x1_1:Int) (x5_1:Int),v1=.int .i64 x1_1∧v5=.int .i64 x5_1∧Aside0 (Zag.l0 kq x0_1 x1_1 x5_1=some (r1,r2))∧Aside0 (kq≤k)∧Aside0 (Kd.R k90 90 w' w0.heap.size (fun k_=>(P0_ k_∨w.heap.size≤k_)) u9000_ x0_1)∧Aside0 (Kept w w' (fun k_=>P0_ k_))∧Aside0 (Below w0.heap.size w0 w'))
 case atStart=>exact⟨(l0),(a1),(0),(by first|rfl|(simp;done)|(simp[*];done)),(by first|rfl|(simp;done)|(simp[*];done)),H',⟨Nat.le_refl _⟩,⟨by(with_reducible repeat(first|apply Kd.R_alloc|apply Kd.R_drewN|apply Kd.R_drew));exact HO0.out⟩,⟨by repeat(first|(with_reducible first|exact HK.out|apply Kept.alloc|apply Kept.drewN|apply Kept.drew)|exact HK.out)⟩,⟨by repeat(first|(with_reducible first|exact HB.out|apply Zn|apply Zm|apply Zt)|exact HB.out)⟩⟩
 case round=>
  clear H'
  try clear p2
  obtain⟨x0_1,x1_1,x5_1,rfl,rfl,HA,HK1,HO_0,HK,HB⟩:=hrel
  cases gk with
  | zero=>exact absurd HA.out (by simp[Zag.l0])
  | succ k1=>
   have H:=HA.out
   clear HA
   simp only[Zag.l0] at H
   by_cases c3:x5_1<(x0_1.length:Int)
   ·rw[if_pos c3] at H
    have c3b0:decide (x5_1<(x0_1.length:Int))=true:=Ze c3
    clear c3
    by_cases c4:0≤x5_1
    ·rw[if_pos c4] at H
     have c4b0:decide (0≤x5_1)=true:=Ze c4
     clear c4
     obtain⟨y79001,hy79001⟩:∃y_:List (S90),y_=(x0_1.set (x5_1:Int).toNat (⟨x1_1,(Zv x0_1 x5_1).f1,(Zv x0_1 x5_1).f2,(Zv x0_1 x5_1).f3,(Zv x0_1 x5_1).f4⟩:S90)):=⟨_,rfl⟩
     replace H:((some (y79001.set (x5_1:Int).toNat (⟨(Zv y79001 x5_1).f0,wrap64 (x1_1+1),(Zv y79001 x5_1).f2,(Zv y79001 x5_1).f3,(Zv y79001 x5_1).f4⟩:S90):List (S90))).bind fun y79002=>((some (y79002.set (x5_1:Int).toNat (⟨(Zv y79002 x5_1).f0,(Zv y79002 x5_1).f1,wrap64 ((wrap64 (x1_1+1))+1),(Zv y79002 x5_1).f3,(Zv y79002 x5_1).f4⟩:S90):List (S90))).bind fun y79003=>((some (y79003.set (x5_1:Int).toNat (⟨(Zv y79003 x5_1).f0,(Zv y79003 x5_1).f1,(Zv y79003 x5_1).f2,wrap64 ((wrap64 ((wrap64 (x1_1+1))+1))+1),(Zv y79003 x5_1).f4⟩:S90):List (S90))).bind fun y79004=>(Zag.l0 k1 (y79004.set (x5_1:Int).toNat (⟨(Zv y79004 x5_1).f0,(Zv y79004 x5_1).f1,(Zv y79004 x5_1).f2,(Zv y79004 x5_1).f3,((Int.tmod (wrap64 ((wrap64 ((wrap64 ((wrap64 (x1_1+1))+1))+1))+1)) 3) == 0)⟩:S90)) (wrap64 ((wrap64 ((wrap64 ((wrap64 ((wrap64 (x1_1+1))+1))+1))+1))+1)) (wrap64 (x5_1+1))))))=some (r1,r2):=by first|(rw[hy79001];with_reducible exact H)|(have H2_:=(Zi _ _).symm.trans H;rw[hy79001];with_reducible exact H2_)|(have H2_:=(Zi _ _).symm.trans H;with_reducible exact H2_)|with_reducible exact H|(rw[hy79001];exact H)|exact H
     have Ny79001:=Za hy79001;clear hy79001
     obtain⟨y79002,hy79002⟩:∃y_:List (S90),y_=(y79001.set (x5_1:Int).toNat (⟨(Zv y79001 x5_1).f0,wrap64 (x1_1+1),(Zv y79001 x5_1).f2,(Zv y79001 x5_1).f3,(Zv y79001 x5_1).f4⟩:S90)):=⟨_,rfl⟩
     replace H:((some (y79002.set (x5_1:Int).toNat (⟨(Zv y79002 x5_1).f0,(Zv y79002 x5_1).f1,wrap64 ((wrap64 (x1_1+1))+1),(Zv y79002 x5_1).f3,(Zv y79002 x5_1).f4⟩:S90):List (S90))).bind fun y79003=>((some (y79003.set (x5_1:Int).toNat (⟨(Zv y79003 x5_1).f0,(Zv y79003 x5_1).f1,(Zv y79003 x5_1).f2,wrap64 ((wrap64 ((wrap64 (x1_1+1))+1))+1),(Zv y79003 x5_1).f4⟩:S90):List (S90))).bind fun y79004=>(Zag.l0 k1 (y79004.set (x5_1:Int).toNat (⟨(Zv y79004 x5_1).f0,(Zv y79004 x5_1).f1,(Zv y79004 x5_1).f2,(Zv y79004 x5_1).f3,((Int.tmod (wrap64 ((wrap64 ((wrap64 ((wrap64 (x1_1+1))+1))+1))+1)) 3) == 0)⟩:S90)) (wrap64 ((wrap64 ((wrap64 ((wrap64 ((wrap64 (x1_1+1))+1))+1))+1))+1)) (wrap64 (x5_1+1)))))=some (r1,r2):=by first|(rw[hy79002];with_reducible exact H)|(have H2_:=(Zi _ _).symm.trans H;rw[hy79002];with_reducible exact H2_)|(have H2_:=(Zi _ _).symm.trans H;with_reducible exact H2_)|with_reducible exact H|(rw[hy79002];exact H)|exact H
     have Ny79002:=Za hy79002;clear hy79002
     obtain⟨y79003,hy79003⟩:∃y_:List (S90),y_=(y79002.set (x5_1:Int).toNat (⟨(Zv y79002 x5_1).f0,(Zv y79002 x5_1).f1,wrap64 ((wrap64 (x1_1+1))+1),(Zv y79002 x5_1).f3,(Zv y79002 x5_1).f4⟩:S90)):=⟨_,rfl⟩
     replace H:((some (y79003.set (x5_1:Int).toNat (⟨(Zv y79003 x5_1).f0,(Zv y79003 x5_1).f1,(Zv y79003 x5_1).f2,wrap64 ((wrap64 ((wrap64 (x1_1+1))+1))+1),(Zv y79003 x5_1).f4⟩:S90):List (S90))).bind fun y79004=>(Zag.l0 k1 (y79004.set (x5_1:Int).toNat (⟨(Zv y79004 x5_1).f0,(Zv y79004 x5_1).f1,(Zv y79004 x5_1).f2,(Zv y79004 x5_1).f3,((Int.tmod (wrap64 ((wrap64 ((wrap64 ((wrap64 (x1_1+1))+1))+1))+1)) 3) == 0)⟩:S90)) (wrap64 ((wrap64 ((wrap64 ((wrap64 ((wrap64 (x1_1+1))+1))+1))+1))+1)) (wrap64 (x5_1+1))))=some (r1,r2):=by first|(rw[hy79003];with_reducible exact H)|(have H2_:=(Zi _ _).symm.trans H;rw[hy79003];with_reducible exact H2_)|(have H2_:=(Zi _ _).symm.trans H;with_reducible exact H2_)|with_reducible exact H|(rw[hy79003];exact H)|exact H
     have Ny79003:=Za hy79003;clear hy79003
     obtain⟨y79004,hy79004⟩:∃y_:List (S90),y_=(y79003.set (x5_1:Int).toNat (⟨(Zv y79003 x5_1).f0,(Zv y79003 x5_1).f1,(Zv y79003 x5_1).f2,wrap64 ((wrap64 ((wrap64 (x1_1+1))+1))+1),(Zv y79003 x5_1).f4⟩:S90)):=⟨_,rfl⟩
     replace H:(Zag.l0 k1 (y79004.set (x5_1:Int).toNat (⟨(Zv y79004 x5_1).f0,(Zv y79004 x5_1).f1,(Zv y79004 x5_1).f2,(Zv y79004 x5_1).f3,((Int.tmod (wrap64 ((wrap64 ((wrap64 ((wrap64 (x1_1+1))+1))+1))+1)) 3) == 0)⟩:S90)) (wrap64 ((wrap64 ((wrap64 ((wrap64 ((wrap64 (x1_1+1))+1))+1))+1))+1)) (wrap64 (x5_1+1)))=some (r1,r2):=by first|(rw[hy79004];with_reducible exact H)|(have H2_:=(Zi _ _).symm.trans H;rw[hy79004];with_reducible exact H2_)|(have H2_:=(Zi _ _).symm.trans H;with_reducible exact H2_)|with_reducible exact H|(rw[hy79004];exact H)|exact H
     have Ny79004:=Za hy79004;clear hy79004
     obtain⟨y79005,hy79005⟩:∃y_:List (S90),y_=(y79004.set (x5_1:Int).toNat (⟨(Zv y79004 x5_1).f0,(Zv y79004 x5_1).f1,(Zv y79004 x5_1).f2,(Zv y79004 x5_1).f3,((Int.tmod (wrap64 ((wrap64 ((wrap64 ((wrap64 (x1_1+1))+1))+1))+1)) 3) == 0)⟩:S90)):=⟨_,rfl⟩
     replace H:(Zag.l0 k1 y79005 (wrap64 ((wrap64 ((wrap64 ((wrap64 ((wrap64 (x1_1+1))+1))+1))+1))+1)) (wrap64 (x5_1+1)))=some (r1,r2):=by first|(rw[hy79005];with_reducible exact H)|(have H2_:=(Zi _ _).symm.trans H;rw[hy79005];with_reducible exact H2_)|(have H2_:=(Zi _ _).symm.trans H;with_reducible exact H2_)|with_reducible exact H|(rw[hy79005];exact H)|exact H
     have Ny79005:=Za hy79005;clear hy79005
     have H':=Za H
     clear H
     obtain⟨Ao10,co10,eo10⟩:=Kd.R_slice HO_0.out
     subst eo10
     have p5:0≤(x5_1:Int):=Zd (by with_reducible assumption)
     have q5:(x5_1:Int)<((x0_1.length:Int):Int):=Zd (by with_reducible assumption)
     obtain⟨go5,co5,eo5,gb5,gl5,cl5,HG5⟩:=Kd.R_form HO_0.out (by omega)
     (first|cases eo5|(injection eo5 with ea_ en_ ec_;(first|subst ea_|(injection ea_ with ea_;subst ea_));subst ec_;clear en_))
     have GB5:=Za gb5;have GG5:=Za HG5;clear gb5 gl5 HG5
     have HMgo5:=Za (show(P0_ go5∨w.heap.size≤go5) from(HO_0.out.1 _ rfl))
     obtain⟨ce5,hcl5,hM5,hcc5,hfr5⟩:=Kd.R_elem HO_0.out z90 (x5_1:Int) p5 q5
     obtain rfl:=Zbi hM5
     have hx5_0:wr.cell? ⟨go5,(x5_1:Int).toNat * 5,none⟩=some (.int .i64 ((Zv x0_1 x5_1).f0)):=hcc5 0 _ rfl
     have hx5_1:wr.cell? ⟨go5,(x5_1:Int).toNat * 5+1,none⟩=some (.int .i64 ((Zv x0_1 x5_1).f1)):=hcc5 1 _ rfl
     have hx5_2:wr.cell? ⟨go5,(x5_1:Int).toNat * 5+2,none⟩=some (.int .i64 ((Zv x0_1 x5_1).f2)):=hcc5 2 _ rfl
     have hx5_3:wr.cell? ⟨go5,(x5_1:Int).toNat * 5+3,none⟩=some (.int .i64 ((Zv x0_1 x5_1).f3)):=hcc5 3 _ rfl
     have hx5_4:wr.cell? ⟨go5,(x5_1:Int).toNat * 5+4,none⟩=some (.bool ((Zv x0_1 x5_1).f4)):=hcc5 4 _ rfl
     have hf5_0:wr.frozen? ⟨go5,(x5_1:Int).toNat * 5,none⟩=false:=hfr5 0
     have hf5_1:wr.frozen? ⟨go5,(x5_1:Int).toNat * 5+1,none⟩=false:=hfr5 1
     have hf5_2:wr.frozen? ⟨go5,(x5_1:Int).toNat * 5+2,none⟩=false:=hfr5 2
     have hf5_3:wr.frozen? ⟨go5,(x5_1:Int).toNat * 5+3,none⟩=false:=hfr5 3
     have hf5_4:wr.frozen? ⟨go5,(x5_1:Int).toNat * 5+4,none⟩=false:=hfr5 4
     clear hcl5 hcc5 hfr5 hM5
     replace p5:=eq_true p5
     replace q5:=eq_true q5
     have HX11:=Za (show Kd.R k90 90 wr w0.heap.size (fun k_=>(P0_ k_∨w.heap.size≤k_)) (.slice (some ⟨go5,0,none⟩) x0_1.length co10) x0_1 from(by exact HO_0.out))
     obtain⟨ce11,hcl11,hM11,hcc11,hfr11⟩:=Kd.R_elem HX11.out z90 (x5_1:Int) (Zd (by with_reducible assumption)) (by have h_:(x5_1:Int)<((x0_1.length:Int):Int):=Zd (by with_reducible assumption);first|exact h_|(have e_:=(Kd.R_reads' HO_0.out).1;omega)|simpa using h_)
     obtain rfl:=Zbi hM11
     have HP11:=Kd.R_seg HX11.out (x5_1:Int) (Zd (by with_reducible assumption)) (by have h_:(x5_1:Int)<((x0_1.length:Int):Int):=Zd (by with_reducible assumption);first|exact h_|(have e_:=(Kd.R_reads' HO_0.out).1;omega)|simpa using h_) (seg:=[.int .i64 x1_1]) (j:=0) hcl11 hcc11 (show 1≤5 from by decide) (x':=(⟨x1_1,(Zv x0_1 x5_1).f1,(Zv x0_1 x5_1).f2,(Zv x0_1 x5_1).f3,(Zv x0_1 x5_1).f4⟩:S90)) (Zcj _ _ _ (⟨x1_1,(Zv x0_1 x5_1).f1,(Zv x0_1 x5_1).f2,(Zv x0_1 x5_1).f3,(Zv x0_1 x5_1).f4⟩:S90) ) (fun _ hk=>hk)
     have hx11_0:=hcc11 0 _ rfl
     (try simp only[show(k90).sz=5 from rfl,Nat.mul_one,Nat.add_zero] at hx11_0)
     have hf11_0:=hfr11 0
     (try simp only[show(k90).sz=5 from rfl,Nat.mul_one,Nat.add_zero] at hf11_0)
     clear hcl11 hcc11 hfr11 hM11
     go_wp2_with (first|((with_reducible refine Zbv (t:=3) (p:=16) rfl ?_);refine Zbl (t:=3) (p:=16) (v:=?vo_w12) (w1:=(wr.setCell ⟨go5,(x5_1:Int).toNat * 5,none⟩ (.int .i64 x1_1))) ?hg ?ho ?hn ?hr ?_;(case ho=>rfl);(case hg=>rfl);(case hn=>rfl);(case hr=>first|(go_simp;done)|(go_simp;rfl));intro w12 hw;have hg:wr.grownBy w12 (some go5):=(by rw[hw];exact HP11.2);have hp_:Kd.R k90 90 w12 w0.heap.size (fun k_=>(P0_ k_∨w.heap.size≤k_)) (.slice (some ⟨go5,0,none⟩) x0_1.length co10) y79001:=(by rw[hw,Ny79001.out];exact HP11.1);clear HP11;replace HB:=Za ((by rw[hw];exact Zq (HB.out) GB5.out:Below w0.heap.size w0 w12));replace HK:=Za (Kept.of_grown (S:=(fun k_=>P0_ k_)) hg (by exact HK.out) (fun k_ e_=>(HO_0.out.1 k_ e_)));replace HO_0:=Za (hp_);clear hg hw hp_;have p6:0≤(x5_1:Int):=Zd (by with_reducible assumption);have q6:(x5_1:Int)<((x0_1.length:Int):Int):=Zd (by with_reducible assumption);obtain⟨ce6,hcl6,hM6,hcc6,hfr6⟩:=Kd.R_elem HO_0.out z90 (x5_1:Int) p6 q6;obtain rfl:=Zbi hM6;have hx6_0:w12.cell? ⟨go5,(x5_1:Int).toNat * 5,none⟩=some (.int .i64 ((Zv y79001 x5_1).f0)):=hcc6 0 _ rfl;have hx6_1:w12.cell? ⟨go5,(x5_1:Int).toNat * 5+1,none⟩=some (.int .i64 ((Zv y79001 x5_1).f1)):=hcc6 1 _ rfl;have hx6_2:w12.cell? ⟨go5,(x5_1:Int).toNat * 5+2,none⟩=some (.int .i64 ((Zv y79001 x5_1).f2)):=hcc6 2 _ rfl;have hx6_3:w12.cell? ⟨go5,(x5_1:Int).toNat * 5+3,none⟩=some (.int .i64 ((Zv y79001 x5_1).f3)):=hcc6 3 _ rfl;have hx6_4:w12.cell? ⟨go5,(x5_1:Int).toNat * 5+4,none⟩=some (.bool ((Zv y79001 x5_1).f4)):=hcc6 4 _ rfl;have hf6_0:w12.frozen? ⟨go5,(x5_1:Int).toNat * 5,none⟩=false:=hfr6 0;have hf6_1:w12.frozen? ⟨go5,(x5_1:Int).toNat * 5+1,none⟩=false:=hfr6 1;have hf6_2:w12.frozen? ⟨go5,(x5_1:Int).toNat * 5+2,none⟩=false:=hfr6 2;have hf6_3:w12.frozen? ⟨go5,(x5_1:Int).toNat * 5+3,none⟩=false:=hfr6 3;have hf6_4:w12.frozen? ⟨go5,(x5_1:Int).toNat * 5+4,none⟩=false:=hfr6 4;clear hcl6 hcc6 hfr6 hM6;replace p6:=eq_true p6;replace q6:=eq_true q6;have HX13:=Za (show Kd.R k90 90 w12 w0.heap.size (fun k_=>(P0_ k_∨w.heap.size≤k_)) (.slice (some ⟨go5,0,none⟩) x0_1.length co10) y79001 from(by exact HO_0.out));obtain⟨ce13,hcl13,hM13,hcc13,hfr13⟩:=Kd.R_elem HX13.out z90 (x5_1:Int) (Zd (by with_reducible assumption)) (by have h_:(x5_1:Int)<((x0_1.length:Int):Int):=Zd (by with_reducible assumption);first|exact h_|(have e_:=(Kd.R_reads' HO_0.out).1;omega)|simpa using h_);obtain rfl:=Zbi hM13;have HP13:=Kd.R_seg HX13.out (x5_1:Int) (Zd (by with_reducible assumption)) (by have h_:(x5_1:Int)<((x0_1.length:Int):Int):=Zd (by with_reducible assumption);first|exact h_|(have e_:=(Kd.R_reads' HO_0.out).1;omega)|simpa using h_) (seg:=[.int .i64 (wrap64 (x1_1+1))]) (j:=1) hcl13 hcc13 (show 2≤5 from by decide) (x':=(⟨(Zv y79001 x5_1).f0,wrap64 (x1_1+1),(Zv y79001 x5_1).f2,(Zv y79001 x5_1).f3,(Zv y79001 x5_1).f4⟩:S90)) (Zcj _ _ _ (⟨(Zv y79001 x5_1).f0,wrap64 (x1_1+1),(Zv y79001 x5_1).f2,(Zv y79001 x5_1).f3,(Zv y79001 x5_1).f4⟩:S90) ) (fun _ hk=>hk);have hx13_1:=hcc13 1 _ rfl;(try simp only[show(k90).sz=5 from rfl,Nat.mul_one,Nat.add_zero] at hx13_1);have hf13_1:=hfr13 1;(try simp only[show(k90).sz=5 from rfl,Nat.mul_one,Nat.add_zero] at hf13_1);clear hcl13 hcc13 hfr13 hM13)|((with_reducible refine Zbv (t:=3) (p:=23) rfl ?_);refine Zbl (t:=3) (p:=23) (v:=?vo_w14) (w1:=(w12.setCell ⟨go5,(x5_1:Int).toNat * 5+1,none⟩ (.int .i64 (wrap64 (x1_1+1))))) ?hg ?ho ?hn ?hr ?_;(case ho=>rfl);(case hg=>rfl);(case hn=>rfl);(case hr=>first|(go_simp;done)|(go_simp;rfl));intro w14 hw;have hg:w12.grownBy w14 (some go5):=(by rw[hw];exact HP13.2);have hp_:Kd.R k90 90 w14 w0.heap.size (fun k_=>(P0_ k_∨w.heap.size≤k_)) (.slice (some ⟨go5,0,none⟩) x0_1.length co10) y79002:=(by rw[hw,Ny79002.out];exact HP13.1);clear HP13;replace HB:=Za ((by rw[hw];exact Zq (HB.out) GB5.out:Below w0.heap.size w0 w14));replace HK:=Za (Kept.of_grown (S:=(fun k_=>P0_ k_)) hg (by exact HK.out) (fun k_ e_=>(HO_0.out.1 k_ e_)));replace HO_0:=Za (hp_);clear hg hw hp_;have p7:0≤(x5_1:Int):=Zd (by with_reducible assumption);have q7:(x5_1:Int)<((x0_1.length:Int):Int):=Zd (by with_reducible assumption);obtain⟨ce7,hcl7,hM7,hcc7,hfr7⟩:=Kd.R_elem HO_0.out z90 (x5_1:Int) p7 q7;obtain rfl:=Zbi hM7;have hx7_0:w14.cell? ⟨go5,(x5_1:Int).toNat * 5,none⟩=some (.int .i64 ((Zv y79002 x5_1).f0)):=hcc7 0 _ rfl;have hx7_1:w14.cell? ⟨go5,(x5_1:Int).toNat * 5+1,none⟩=some (.int .i64 ((Zv y79002 x5_1).f1)):=hcc7 1 _ rfl;have hx7_2:w14.cell? ⟨go5,(x5_1:Int).toNat * 5+2,none⟩=some (.int .i64 ((Zv y79002 x5_1).f2)):=hcc7 2 _ rfl;have hx7_3:w14.cell? ⟨go5,(x5_1:Int).toNat * 5+3,none⟩=some (.int .i64 ((Zv y79002 x5_1).f3)):=hcc7 3 _ rfl;have hx7_4:w14.cell? ⟨go5,(x5_1:Int).toNat * 5+4,none⟩=some (.bool ((Zv y79002 x5_1).f4)):=hcc7 4 _ rfl;have hf7_0:w14.frozen? ⟨go5,(x5_1:Int).toNat * 5,none⟩=false:=hfr7 0;have hf7_1:w14.frozen? ⟨go5,(x5_1:Int).toNat * 5+1,none⟩=false:=hfr7 1;have hf7_2:w14.frozen? ⟨go5,(x5_1:Int).toNat * 5+2,none⟩=false:=hfr7 2;have hf7_3:w14.frozen? ⟨go5,(x5_1:Int).toNat * 5+3,none⟩=false:=hfr7 3;have hf7_4:w14.frozen? ⟨go5,(x5_1:Int).toNat * 5+4,none⟩=false:=hfr7 4;clear hcl7 hcc7 hfr7 hM7;replace p7:=eq_true p7;replace q7:=eq_true q7;have HX15:=Za (show Kd.R k90 90 w14 w0.heap.size (fun k_=>(P0_ k_∨w.heap.size≤k_)) (.slice (some ⟨go5,0,none⟩) x0_1.length co10) y79002 from(by exact HO_0.out));obtain⟨ce15,hcl15,hM15,hcc15,hfr15⟩:=Kd.R_elem HX15.out z90 (x5_1:Int) (Zd (by with_reducible assumption)) (by have h_:(x5_1:Int)<((x0_1.length:Int):Int):=Zd (by with_reducible assumption);first|exact h_|(have e_:=(Kd.R_reads' HO_0.out).1;omega)|simpa using h_);obtain rfl:=Zbi hM15;have HP15:=Kd.R_seg HX15.out (x5_1:Int) (Zd (by with_reducible assumption)) (by have h_:(x5_1:Int)<((x0_1.length:Int):Int):=Zd (by with_reducible assumption);first|exact h_|(have e_:=(Kd.R_reads' HO_0.out).1;omega)|simpa using h_) (seg:=[.int .i64 (wrap64 ((wrap64 (x1_1+1))+1))]) (j:=2) hcl15 hcc15 (show 3≤5 from by decide) (x':=(⟨(Zv y79002 x5_1).f0,(Zv y79002 x5_1).f1,wrap64 ((wrap64 (x1_1+1))+1),(Zv y79002 x5_1).f3,(Zv y79002 x5_1).f4⟩:S90)) (Zcj _ _ _ (⟨(Zv y79002 x5_1).f0,(Zv y79002 x5_1).f1,wrap64 ((wrap64 (x1_1+1))+1),(Zv y79002 x5_1).f3,(Zv y79002 x5_1).f4⟩:S90) ) (fun _ hk=>hk);have hx15_2:=hcc15 2 _ rfl;(try simp only[show(k90).sz=5 from rfl,Nat.mul_one,Nat.add_zero] at hx15_2);have hf15_2:=hfr15 2;(try simp only[show(k90).sz=5 from rfl,Nat.mul_one,Nat.add_zero] at hf15_2);clear hcl15 hcc15 hfr15 hM15)|((with_reducible refine Zbv (t:=3) (p:=30) rfl ?_);refine Zbl (t:=3) (p:=30) (v:=?vo_w16) (w1:=(w14.setCell ⟨go5,(x5_1:Int).toNat * 5+2,none⟩ (.int .i64 (wrap64 ((wrap64 (x1_1+1))+1))))) ?hg ?ho ?hn ?hr ?_;(case ho=>rfl);(case hg=>rfl);(case hn=>rfl);(case hr=>first|(go_simp;done)|(go_simp;rfl));intro w16 hw;have hg:w14.grownBy w16 (some go5):=(by rw[hw];exact HP15.2);have hp_:Kd.R k90 90 w16 w0.heap.size (fun k_=>(P0_ k_∨w.heap.size≤k_)) (.slice (some ⟨go5,0,none⟩) x0_1.length co10) y79003:=(by rw[hw,Ny79003.out];exact HP15.1);clear HP15;replace HB:=Za ((by rw[hw];exact Zq (HB.out) GB5.out:Below w0.heap.size w0 w16));replace HK:=Za (Kept.of_grown (S:=(fun k_=>P0_ k_)) hg (by exact HK.out) (fun k_ e_=>(HO_0.out.1 k_ e_)));replace HO_0:=Za (hp_);clear hg hw hp_;have p8:0≤(x5_1:Int):=Zd (by with_reducible assumption);have q8:(x5_1:Int)<((x0_1.length:Int):Int):=Zd (by with_reducible assumption);obtain⟨ce8,hcl8,hM8,hcc8,hfr8⟩:=Kd.R_elem HO_0.out z90 (x5_1:Int) p8 q8;obtain rfl:=Zbi hM8;have hx8_0:w16.cell? ⟨go5,(x5_1:Int).toNat * 5,none⟩=some (.int .i64 ((Zv y79003 x5_1).f0)):=hcc8 0 _ rfl;have hx8_1:w16.cell? ⟨go5,(x5_1:Int).toNat * 5+1,none⟩=some (.int .i64 ((Zv y79003 x5_1).f1)):=hcc8 1 _ rfl;have hx8_2:w16.cell? ⟨go5,(x5_1:Int).toNat * 5+2,none⟩=some (.int .i64 ((Zv y79003 x5_1).f2)):=hcc8 2 _ rfl;have hx8_3:w16.cell? ⟨go5,(x5_1:Int).toNat * 5+3,none⟩=some (.int .i64 ((Zv y79003 x5_1).f3)):=hcc8 3 _ rfl;have hx8_4:w16.cell? ⟨go5,(x5_1:Int).toNat * 5+4,none⟩=some (.bool ((Zv y79003 x5_1).f4)):=hcc8 4 _ rfl;have hf8_0:w16.frozen? ⟨go5,(x5_1:Int).toNat * 5,none⟩=false:=hfr8 0;have hf8_1:w16.frozen? ⟨go5,(x5_1:Int).toNat * 5+1,none⟩=false:=hfr8 1;have hf8_2:w16.frozen? ⟨go5,(x5_1:Int).toNat * 5+2,none⟩=false:=hfr8 2;have hf8_3:w16.frozen? ⟨go5,(x5_1:Int).toNat * 5+3,none⟩=false:=hfr8 3;have hf8_4:w16.frozen? ⟨go5,(x5_1:Int).toNat * 5+4,none⟩=false:=hfr8 4;clear hcl8 hcc8 hfr8 hM8;replace p8:=eq_true p8;replace q8:=eq_true q8;have HX17:=Za (show Kd.R k90 90 w16 w0.heap.size (fun k_=>(P0_ k_∨w.heap.size≤k_)) (.slice (some ⟨go5,0,none⟩) x0_1.length co10) y79003 from(by exact HO_0.out));obtain⟨ce17,hcl17,hM17,hcc17,hfr17⟩:=Kd.R_elem HX17.out z90 (x5_1:Int) (Zd (by with_reducible assumption)) (by have h_:(x5_1:Int)<((x0_1.length:Int):Int):=Zd (by with_reducible assumption);first|exact h_|(have e_:=(Kd.R_reads' HO_0.out).1;omega)|simpa using h_);obtain rfl:=Zbi hM17;have HP17:=Kd.R_seg HX17.out (x5_1:Int) (Zd (by with_reducible assumption)) (by have h_:(x5_1:Int)<((x0_1.length:Int):Int):=Zd (by with_reducible assumption);first|exact h_|(have e_:=(Kd.R_reads' HO_0.out).1;omega)|simpa using h_) (seg:=[.int .i64 (wrap64 ((wrap64 ((wrap64 (x1_1+1))+1))+1))]) (j:=3) hcl17 hcc17 (show 4≤5 from by decide) (x':=(⟨(Zv y79003 x5_1).f0,(Zv y79003 x5_1).f1,(Zv y79003 x5_1).f2,wrap64 ((wrap64 ((wrap64 (x1_1+1))+1))+1),(Zv y79003 x5_1).f4⟩:S90)) (Zcj _ _ _ (⟨(Zv y79003 x5_1).f0,(Zv y79003 x5_1).f1,(Zv y79003 x5_1).f2,wrap64 ((wrap64 ((wrap64 (x1_1+1))+1))+1),(Zv y79003 x5_1).f4⟩:S90) ) (fun _ hk=>hk);have hx17_3:=hcc17 3 _ rfl;(try simp only[show(k90).sz=5 from rfl,Nat.mul_one,Nat.add_zero] at hx17_3);have hf17_3:=hfr17 3;(try simp only[show(k90).sz=5 from rfl,Nat.mul_one,Nat.add_zero] at hf17_3);clear hcl17 hcc17 hfr17 hM17)|((with_reducible refine Zbv (t:=3) (p:=37) rfl ?_);refine Zbl (t:=3) (p:=37) (v:=?vo_w18) (w1:=(w16.setCell ⟨go5,(x5_1:Int).toNat * 5+3,none⟩ (.int .i64 (wrap64 ((wrap64 ((wrap64 (x1_1+1))+1))+1))))) ?hg ?ho ?hn ?hr ?_;(case ho=>rfl);(case hg=>rfl);(case hn=>rfl);(case hr=>first|(go_simp;done)|(go_simp;rfl));intro w18 hw;have hg:w16.grownBy w18 (some go5):=(by rw[hw];exact HP17.2);have hp_:Kd.R k90 90 w18 w0.heap.size (fun k_=>(P0_ k_∨w.heap.size≤k_)) (.slice (some ⟨go5,0,none⟩) x0_1.length co10) y79004:=(by rw[hw,Ny79004.out];exact HP17.1);clear HP17;replace HB:=Za ((by rw[hw];exact Zq (HB.out) GB5.out:Below w0.heap.size w0 w18));replace HK:=Za (Kept.of_grown (S:=(fun k_=>P0_ k_)) hg (by exact HK.out) (fun k_ e_=>(HO_0.out.1 k_ e_)));replace HO_0:=Za (hp_);clear hg hw hp_;have p9:0≤(x5_1:Int):=Zd (by with_reducible assumption);have q9:(x5_1:Int)<((x0_1.length:Int):Int):=Zd (by with_reducible assumption);obtain⟨ce9,hcl9,hM9,hcc9,hfr9⟩:=Kd.R_elem HO_0.out z90 (x5_1:Int) p9 q9;obtain rfl:=Zbi hM9;have hx9_0:w18.cell? ⟨go5,(x5_1:Int).toNat * 5,none⟩=some (.int .i64 ((Zv y79004 x5_1).f0)):=hcc9 0 _ rfl;have hx9_1:w18.cell? ⟨go5,(x5_1:Int).toNat * 5+1,none⟩=some (.int .i64 ((Zv y79004 x5_1).f1)):=hcc9 1 _ rfl;have hx9_2:w18.cell? ⟨go5,(x5_1:Int).toNat * 5+2,none⟩=some (.int .i64 ((Zv y79004 x5_1).f2)):=hcc9 2 _ rfl;have hx9_3:w18.cell? ⟨go5,(x5_1:Int).toNat * 5+3,none⟩=some (.int .i64 ((Zv y79004 x5_1).f3)):=hcc9 3 _ rfl;have hx9_4:w18.cell? ⟨go5,(x5_1:Int).toNat * 5+4,none⟩=some (.bool ((Zv y79004 x5_1).f4)):=hcc9 4 _ rfl;have hf9_0:w18.frozen? ⟨go5,(x5_1:Int).toNat * 5,none⟩=false:=hfr9 0;have hf9_1:w18.frozen? ⟨go5,(x5_1:Int).toNat * 5+1,none⟩=false:=hfr9 1;have hf9_2:w18.frozen? ⟨go5,(x5_1:Int).toNat * 5+2,none⟩=false:=hfr9 2;have hf9_3:w18.frozen? ⟨go5,(x5_1:Int).toNat * 5+3,none⟩=false:=hfr9 3;have hf9_4:w18.frozen? ⟨go5,(x5_1:Int).toNat * 5+4,none⟩=false:=hfr9 4;clear hcl9 hcc9 hfr9 hM9;replace p9:=eq_true p9;replace q9:=eq_true q9;have HX19:=Za (show Kd.R k90 90 w18 w0.heap.size (fun k_=>(P0_ k_∨w.heap.size≤k_)) (.slice (some ⟨go5,0,none⟩) x0_1.length co10) y79004 from(by exact HO_0.out));obtain⟨ce19,hcl19,hM19,hcc19,hfr19⟩:=Kd.R_elem HX19.out z90 (x5_1:Int) (Zd (by with_reducible assumption)) (by have h_:(x5_1:Int)<((x0_1.length:Int):Int):=Zd (by with_reducible assumption);first|exact h_|(have e_:=(Kd.R_reads' HO_0.out).1;omega)|simpa using h_);obtain rfl:=Zbi hM19;have HP19:=Kd.R_seg HX19.out (x5_1:Int) (Zd (by with_reducible assumption)) (by have h_:(x5_1:Int)<((x0_1.length:Int):Int):=Zd (by with_reducible assumption);first|exact h_|(have e_:=(Kd.R_reads' HO_0.out).1;omega)|simpa using h_) (seg:=[.bool ((Int.tmod (wrap64 ((wrap64 ((wrap64 ((wrap64 (x1_1+1))+1))+1))+1)) 3) == 0)]) (j:=4) hcl19 hcc19 (show 5≤5 from by decide) (x':=(⟨(Zv y79004 x5_1).f0,(Zv y79004 x5_1).f1,(Zv y79004 x5_1).f2,(Zv y79004 x5_1).f3,((Int.tmod (wrap64 ((wrap64 ((wrap64 ((wrap64 (x1_1+1))+1))+1))+1)) 3) == 0)⟩:S90)) (Zcj _ _ _ (⟨(Zv y79004 x5_1).f0,(Zv y79004 x5_1).f1,(Zv y79004 x5_1).f2,(Zv y79004 x5_1).f3,((Int.tmod (wrap64 ((wrap64 ((wrap64 ((wrap64 (x1_1+1))+1))+1))+1)) 3) == 0)⟩:S90) ) (fun _ hk=>hk);have hx19_4:=hcc19 4 _ rfl;(try simp only[show(k90).sz=5 from rfl,Nat.mul_one,Nat.add_zero] at hx19_4);have hf19_4:=hfr19 4;(try simp only[show(k90).sz=5 from rfl,Nat.mul_one,Nat.add_zero] at hf19_4);clear hcl19 hcc19 hfr19 hM19)|((with_reducible refine Zbv (t:=4) (p:=46) rfl ?_);refine Zbl (t:=4) (p:=46) (v:=?vo_w20) (w1:=(w18.setCell ⟨go5,(x5_1:Int).toNat * 5+4,none⟩ (.bool ((Int.tmod (wrap64 ((wrap64 ((wrap64 ((wrap64 (x1_1+1))+1))+1))+1)) 3) == 0)))) ?hg ?ho ?hn ?hr ?_;(case ho=>rfl);(case hg=>rfl);(case hn=>rfl);(case hr=>first|(go_simp;done)|(go_simp;rfl));intro w20 hw;have hg:w18.grownBy w20 (some go5):=(by rw[hw];exact HP19.2);have hp_:Kd.R k90 90 w20 w0.heap.size (fun k_=>(P0_ k_∨w.heap.size≤k_)) (.slice (some ⟨go5,0,none⟩) x0_1.length co10) y79005:=(by rw[hw,Ny79005.out];exact HP19.1);clear HP19;replace HB:=Za ((by rw[hw];exact Zq (HB.out) GB5.out:Below w0.heap.size w0 w20));replace HK:=Za (Kept.of_grown (S:=(fun k_=>P0_ k_)) hg (by exact HK.out) (fun k_ e_=>(HO_0.out.1 k_ e_)));replace HO_0:=Za (hp_);clear hg hw hp_))
     go_roundg k1
     case measure=>have:=HK1.out;omega
     case rel=>exact⟨(y79005),(wrap64 ((wrap64 ((wrap64 ((wrap64 ((wrap64 (x1_1+1))+1))+1))+1))+1)),(wrap64 (x5_1+1)),(by first|rfl|(simp;done)|(simp[*];done)),(by first|rfl|(simp;done)|(simp[*];done)),H',⟨by have:=HK1.out;omega⟩,⟨by(with_reducible repeat(first|apply Kd.R_alloc|apply Kd.R_drewN|apply Kd.R_drew));exact HO_0.out⟩,⟨by repeat(first|(with_reducible first|exact HK.out|apply Kept.alloc|apply Kept.drewN|apply Kept.drew)|exact HK.out)⟩,⟨by repeat(first|(with_reducible first|exact HB.out|apply Zn|apply Zm|apply Zt)|exact HB.out)⟩⟩
    ·rw[if_neg c4] at H
     exact absurd H (by simp)
   ·rw[if_neg c3] at H
    have c3b0:decide (x5_1<(x0_1.length:Int))=false:=Zf c3
    clear c3
    simp only[Option.some.injEq,Prod.mk.injEq] at H
    obtain⟨rfl,rfl⟩:=H
    obtain⟨Ao21,co21,eo21⟩:=Kd.R_slice HO_0.out
    subst eo21
    go_wp2
    go_ret
    exact⟨by first|rfl|(simp[ZB,ZA] <;> rfl)|(simp[*,ZB,ZA] <;> rfl),by(with_reducible repeat(first|apply Kd.R_alloc|apply Kd.R_drewN|apply Kd.R_drew));exact HO_0.out,by repeat(first|(with_reducible first|exact HB.out|apply Zn|apply Zm|apply Zt)|exact HB.out),by repeat(first|(with_reducible first|exact HK.out|apply Kept.alloc|apply Kept.drewN|apply Kept.drew)|exact HK.out)⟩
def ZaD.l0:Nat→List Int→Int→Int→Option (Int)
 | 0,_,_,_=>none
 | k+1,x0,x1,x5=>if x5<(x0.length:Int) then(if 0≤x5 then(if (rd x0 x5)=x1 then(ZaD.l0 k x0 (wrap64 (x1+1)) (wrap64 (x5+1))) else(some (-1))) else(none)) else(some x1)
def ZaD.f (k:Nat) (l0:List Int) (a1:Int):Option (Int):=ZaD.l0 k l0 a1 0
set_option maxHeartbeats 8000000 in
set_option maxRecDepth 100000 in
theorem ZaD.calls (k:Nat) (A0:Option Addr) (c0:Nat) (l0:List Int) (a1:Int) (r:Int) (w:World) (hr0:Kd.C (Kd.int .i64) w A0 l0.length l0) (hc0:l0.length≤c0) (h:ZaD.f k l0 a1=some r) :
  Calls Try.prog 28 #[.slice A0 l0.length c0,.int .i64 a1] w fun e w'=>e=.returned (.int .i64 r)∧ZE w w':=by
 have HR0:=Za hr0;have HC0:=Za hc0;clear hr0 hc0
 have H:(ZaD.l0 k l0 a1 0)=some r:=h
 clear h
 have H':=Za H
 clear H
 go_enter Try.func28,Try.ntmps28
 go_wp2
 go_loopg [1,5] k (fun kq v1 v5 w'=>∃(x1_1:Int) (x5_1:Int),v1=.int .i64 x1_1∧v5=.int .i64 x5_1∧Aside0 (ZaD.l0 kq l0 x1_1 x5_1=some r)∧Aside0 (kq≤k)∧ZE w w')
 case atStart=>exact⟨(a1),(0),(by first|rfl|(simp;done)|(simp[*];done)),(by first|rfl|(simp;done)|(simp[*];done)),H',⟨Nat.le_refl _⟩,by repeat(first|exact ZE.refl _|apply ZE.step)⟩
 case round=>
  clear H'
  try clear c2
  try clear p2
  obtain⟨x1_1,x5_1,rfl,rfl,HA,HK1,⟨m1,rfl⟩⟩:=hrel
  cases gk with
  | zero=>exact absurd HA.out (by simp[ZaD.l0])
  | succ k1=>
   have H:=HA.out
   clear HA
   simp only[ZaD.l0] at H
   by_cases c3:x5_1<(l0.length:Int)
   ·rw[if_pos c3] at H
    have c3b0:decide (x5_1<(l0.length:Int))=true:=Ze c3
    clear c3
    by_cases c4:0≤x5_1
    ·rw[if_pos c4] at H
     have c4b0:decide (0≤x5_1)=true:=Ze c4
     clear c4
     by_cases c5:(rd l0 x5_1)=x1_1
     ·rw[if_pos c5] at H
      have c5b0:((rd l0 x5_1) == x1_1)=true:=beq_iff_eq.mpr c5
      have c5b1:((rd l0 x5_1) != x1_1)=false:=bne_eq_false_iff_eq.mpr c5
      clear c5
      have H':=Za H
      clear H
      have p28001:0≤(x5_1:Int):=Zd (by first|(with_reducible assumption)|assumption)
      have q28001:x5_1<(l0.length:Int):=Zd (by first|(with_reducible assumption)|assumption)
      obtain⟨ad28001,e28001,hx28001_0⟩:=Kd.at_int HR0.out x5_1 p28001 q28001
      cases e28001
      replace p28001:=eq_true p28001
      replace q28001:=eq_true q28001
      go_wp2
      go_roundg k1
      case measure=>have:=HK1.out;omega
      case rel=>exact⟨(wrap64 (x1_1+1)),(wrap64 (x5_1+1)),(by first|rfl|(simp;done)|(simp[*];done)),(by first|rfl|(simp;done)|(simp[*];done)),H',⟨by have:=HK1.out;omega⟩,by repeat(first|exact ZE.refl _|apply ZE.step)⟩
     ·rw[if_neg c5] at H
      have c5b0:((rd l0 x5_1) == x1_1)=false:=beq_eq_false_iff_ne.mpr c5
      have c5b1:((rd l0 x5_1) != x1_1)=true:=bne_iff_ne.mpr c5
      obtain rfl:=Zg H
      have p28001:0≤(x5_1:Int):=Zd (by first|(with_reducible assumption)|assumption)
      have q28001:x5_1<(l0.length:Int):=Zd (by first|(with_reducible assumption)|assumption)
      obtain⟨ad28001,e28001,hx28001_0⟩:=Kd.at_int HR0.out x5_1 p28001 q28001
      cases e28001
      replace p28001:=eq_true p28001
      replace q28001:=eq_true q28001
      go_wp2
      go_ret
      exact⟨by first|rfl|(simp;done)|(simp[*];done),by repeat(first|exact ZE.refl _|apply ZE.step)⟩
    ·rw[if_neg c4] at H
     exact absurd H (by simp)
   ·rw[if_neg c3] at H
    have c3b0:decide (x5_1<(l0.length:Int))=false:=Zf c3
    clear c3
    obtain rfl:=Zg H
    go_wp2
    go_ret
    exact⟨by first|rfl|(simp;done)|(simp[*];done),by repeat(first|exact ZE.refl _|apply ZE.step)⟩
end Go.Proofs.Ytodfnelilhjoeaa.Pr
namespace Go.Proofs.Ytodfnelilhjoeaa.Pr
open Go.RowKit Go.Proofs.YtodfnelilhjoeaaW.PrintWords Go.Proofs.Ytodfnelilhjoeaa.Ni
theorem markTieS_f (l:List PTie) (hl:l.length≤1048576) (a:Int) (h0:0≤a) (h1:a≤1152921504606846976) (k:Nat) (hk:2 ^ 64≤k):∃l',Zag.f k l a=some (a+5 * l.length,l'):=by
 have key:=ZaC l.length (fun k i=>∀m:List PTie,m.length=l.length→∃l',Zag.l0 k m (a+5 * i) (i:Int)=some (a+5 * l.length,l')) 0
  (fun k _ m hm=>by
   simp only[Zag.l0]
   rw[if_neg (by omega)]
   exact⟨_,rfl⟩)
  (fun k i _ hi ih m hm=>by
   simp only[Zag.l0,Zi]
   rw[if_pos (by omega),if_pos (by omega),Z6 hi (by omega),ZaJ (i:=a+5 * i+1) (by omega) (by omega),ZaJ (i:=a+5 * i+1+1) (by omega) (by omega),ZaJ (i:=a+5 * i+1+1+1) (by omega) (by omega),ZaJ (i:=a+5 * i+1+1+1+1) (by omega) (by omega),ZaJ (i:=a+5 * i+1+1+1+1+1) (by omega) (by omega)]
   rw[show a+5 * (i:Int)+1+1+1+1+1=a+5 * ((i+1:Nat):Int) by omega]
   exact ih _ (by simp[hm])) 0 k (Nat.zero_le _) (by omega)
 unfold Zag.f
 have:=key l rfl
 simpa using this
theorem heldIntS_f (n:Nat) (hl:n≤1048576) (a:Int) (h0:0≤a) (h1:a≤1152921504606846976) (k:Nat) (hk:2 ^ 64≤k):ZaD.f k (Zbm a n) a=some (a+n):=by
 have key:=ZaC n (fun k i=>ZaD.l0 k (Zbm a n) (a+i) (i:Int)=some (a+n)) 0
  (fun k _=>by
   simp only[ZaD.l0]
   rw[if_neg (by rw[Za7];omega)])
  (fun k i _ hi ih=>by
   simp only[ZaD.l0]
   rw[if_pos (by rw[Za7];omega),if_pos (by omega),Zbk,Zc8 n i a hi,if_pos rfl,Z6 hi (by omega),ZaJ (i:=a+i+1) (by omega) (by omega),show a+(i:Int)+1=a+((i+1:Nat):Int) by omega]
   exact ih) 0 k (Nat.zero_le _) (by omega)
 unfold ZaD.f
 simpa using key
theorem markIntS_k (w0 w:World) (b:Nat) (v:Value) (l:List Int) (hB:Below w0.heap.size w0 w) (hr:Kd.R (Kd.int .i64) 3 w w0.heap.size (fun k=>k<b) v l) (hl:l.length≤1048576) (a:Int) (h0:0≤a) (h1:a≤562949953421312) :
  Calls Try.prog 27 #[v,.int .i64 a] w fun e w'=>e=.returned (.int .i64 (a+l.length))∧Kd.R (Kd.int .i64) 3 w' w0.heap.size (fun k=>k<b) v (Zbm a l.length)∧Below w0.heap.size w0 w'∧Kept w w' (fun k=>k<b):=by
 have hb:=hr.1
 have h:=Zau.calls (2 ^ 64) (fun k=>some k=v.ownBlock) v l a _ _ w0 w hB (Kd.R_tight (by rfl) hr) (ZdR l hl a h0 (by omega) (2 ^ 64) (Nat.le_refl _))
 refine h.mono ?_
 rintro e w' ⟨he,h2,h3,h4⟩
 exact⟨he,Kd.R_mono (Kd.R_tight (by rfl) h2) (fun k hk=>hb k hk.symm),h3,h4.mono (fun k hk=>hb k hk.symm)⟩
theorem marked_reads {w:World} {base:Nat} {ok:Nat→Prop} {A:Option Addr} {n c:Nat} {a:Int} (h:Kd.R (Kd.int .i64) 3 w base ok (.slice A n c) (Zbm a n)):n≤c∧Kd.C (Kd.int .i64) w A n (Zbm a n):=by
 have h2:=Kd.R_reads' h
 rw[Za7] at h2
 exact h2.2
def ZcY (ns:List ZZ) (ts:List PTie):Bool:=decide (ns.length≤1048576) && (decide (ts.length≤1048576) && ns.all (fun n=>decide (n.f1.length≤1048576)))
theorem smallB_iff {ns:List ZZ} {ts:List PTie} (h:ZcY ns ts=true):(∀x∈ns,x.f1.length≤1048576)∧ns.length≤1048576∧ts.length≤1048576:=by
 unfold ZcY at h
 simp only[Bool.and_eq_true,decide_eq_true_eq,List.all_eq_true] at h
 exact⟨h.2.2,h.1,h.2.1⟩
theorem smallB_of {ns:List ZZ} {ts:List PTie} (h:Zc2 ns ts):ZcY ns ts=true:=by
 unfold ZcY
 simp only[Bool.and_eq_true,decide_eq_true_eq,List.all_eq_true]
 exact⟨h.1,h.2.1,fun n hn=>(h.2.2 n hn).2⟩
theorem heldIntS_k (w:World) (A:Option Addr) (c:Nat) (a:Int) (n:Nat) (hr:Kd.C (Kd.int .i64) w A n (Zbm a n)) (hc:n≤c) (hl:n≤1048576) (h0:0≤a) (h1:a≤562949953421312) :
  Calls Try.prog 28 #[.slice A n c,.int .i64 a] w fun e w'=>e=.returned (.int .i64 (a+n))∧Below w.heap.size w w':=by
 have h:=ZaD.calls (2 ^ 64) A c (Zbm a n) a _ w (by rw[Za7];exact hr) (by rw[Za7];exact hc) (heldIntS_f n hl a h0 (by omega) (2 ^ 64) (Nat.le_refl _))
 rw[Za7] at h
 exact h.mono fun _ _ ⟨he,hd⟩=>⟨he,hd.below⟩
end Go.Proofs.Ytodfnelilhjoeaa.Pr
namespace Go.Proofs.Ytodfnelilhjoeaa.Pr
open Go.RowKit Go.Proofs.YtodfnelilhjoeaaW.PrintWords Go.Proofs.YtodfnelilhjoeaaW.PrintLast Go.Proofs.YtodfnelilhjoeaaW.PrintMore
attribute [local go_sem] Zac Zaa Zam Zal Z5 Z4 Zab Z9
set_option linter.unusedVariables false
set_option linter.unusedSimpArgs false
open Go.Proofs.Ytodfnelilhjoeaa.Ni
theorem links_open {w:World} {base:Nat} {ok:Nat→Prop} {v:Value} {xs:List S112} (h:Kd.R k112 112 w base ok v xs) (hn:0<xs.length) :
  ∃g cap cur,v=.slice (some ⟨g,0,none⟩) xs.length cap∧base≤g∧ok g∧w.heap[g]? = some (.cells cur 112 (0,0))∧xs.length * 4≤cur.size:=by
 obtain⟨g,cap,rfl,h2,h3,cur,h4⟩:=Kd.R_form h hn
 refine⟨g,cap,cur,rfl,h2,h.1 _ rfl,h4,?_⟩
 obtain⟨ce,hcl,hM,hcc,_⟩:=Kd.R_elem h z112 ((xs.length - 1:Nat):Int) (by omega) (by omega)
 obtain rfl:=ZdS hM
 have h5:=hcc 3 _ rfl
 rw[Zs h4] at h5
 obtain⟨h6,_⟩:=Array.getElem?_eq_some_iff.1 h5
 simp only[Int.toNat_natCast,show(k112).sz=4 from rfl] at h6
 omega
def Za9 (a:Int):Nat→List S112
 | 0=>[]
 | n+1=>⟨a,a+1,⟨a+2,a+3⟩⟩ :: Za9 (a+4) n
theorem Zbt:∀(n:Nat) (a:Int),(Za9 a n).length=n
 | 0,_=>rfl
 | n+1,a=>by rw[Za9,List.length_cons,Zbt n]
theorem Zdm:∀(n i:Nat) (a:Int),i<n→(Za9 a n)[i]? = some ⟨a+4 * i,a+4 * i+1,⟨a+4 * i+2,a+4 * i+3⟩⟩
 | n+1,0,a,_=>by simp[Za9]
 | n+1,i+1,a,h=>by
  rw[Za9,List.getElem?_cons_succ,Zdm n i (a+4) (by omega),show a+4+4 * (i:Int)=a+4 * ((i+1:Nat):Int) by omega]
theorem linksM_step (xs:List S112) (a:Int) (i:Nat) (hi:i<xs.length):((Za9 a xs.length).take i ++ xs.drop i).set i ⟨a+4 * i,a+4 * i+1,⟨a+4 * i+2,a+4 * i+3⟩⟩=(Za9 a xs.length).take (i+1) ++ xs.drop (i+1):=by
 have hlen:((Za9 a xs.length).take i).length=i:=by rw[Zj,Zbt];omega
 rw[List.set_append_right _ _ (by omega),hlen,Nat.sub_self,ZaE hi z112,List.set_cons_zero,List.take_add_one,Zdm _ _ _ hi,List.append_assoc]
 rfl
theorem link_put {w:World} {base g n cap:Nat} {ok:Nat→Prop} {xs:List S112} (h:Kd.R k112 112 w base ok (.slice (some ⟨g,0,none⟩) n cap) xs) (i:Nat) (hi:i<n) (a b c d:Int) :
  Kd.R k112 112 ((((w.setCell ⟨g,i * 4,none⟩ (.int .i64 a)).setCell ⟨g,i * 4+1,none⟩ (.int .i64 b)).setCell ⟨g,i * 4+2,none⟩ (.int .i64 c)).setCell ⟨g,i * 4+3,none⟩ (.int .i64 d)) base ok (.slice (some ⟨g,0,none⟩) n cap) (xs.set i ⟨a,b,⟨c,d⟩⟩):=by
 obtain⟨ce,hcl,hM,hcc,_⟩:=Kd.R_elem h z112 (i:Int) (by omega) (by omega)
 obtain rfl:=ZdS hM
 exact(Kd.R_seg h (i:Int) (by omega) (by omega) (seg:=[.int .i64 a,.int .i64 b,.int .i64 c,.int .i64 d]) (j:=0) hcl hcc (Nat.le_refl 4) (x':=⟨a,b,⟨c,d⟩⟩) (okp:=fun k=>ok k∧k≠g) (Zcd _ _ _ _) (fun k hk=>hk)).1
structure LInv (w wr:World) (g z:Nat):Prop where
 sz:w.heap.size≤wr.heap.size
 far:∀k,k<w.heap.size→k≠g→wr.heap[k]? = w.heap[k]?
 row:∃cur':Array Value,wr.heap[g]? = some (.cells cur' 112 (0,0))∧cur'.size=z
theorem LInv.put {w wr:World} {g z:Nat} (h:LInv w wr g z) (j:Nat) (v:Value):LInv w (wr.setCell ⟨g,j,none⟩ v) g z:=by
 obtain⟨cur',h1,h2⟩:=h.row
 refine⟨by have:=h.sz;simp[World.setCell] at this ⊢;omega,fun k hk hkg=>(Below.heap_setCell wr _ _ k hkg).trans (h.far k hk hkg),_,ZL h1 j v rfl,by simpa using h2⟩
set_option maxHeartbeats 4000000 in
set_option maxRecDepth 100000 in
theorem markLinkS_k (w0 w:World) (ok:Nat→Prop) (v:Value) (xs:List S112) (hB:Below w0.heap.size w0 w) (hs:Kd.R k112 112 w w0.heap.size ok v xs) (hl:xs.length≤1048576) (a:Int) (h0:0≤a) (h1:a≤562949953421312) :
  Calls Try.prog 114 #[v,.int .i64 a] w fun e w'=>e=.returned (.int .i64 (a+4 * xs.length))∧Kd.R k112 112 w' w0.heap.size ok v (Za9 a xs.length)∧Below w0.heap.size w0 w'∧Kept w w' ok:=by
 by_cases hn:0<xs.length
 case neg=>
  obtain rfl:xs=[]:=List.eq_nil_of_length_eq_zero (by omega)
  obtain⟨A,c,rfl⟩:=Kd.R_slice hs
  have HB:=Za hB;have HR:=Za hs;clear hB hs hl h0 h1 hn
  go_enter Try.func114,Try.ntmps114
  go_wp2
  go_loopg [1,5] 1 (fun gg s1 s5 wr=>s1=.int .i64 a∧s5=.int .i64 0∧Aside0 (wr=w))
  case atStart=>exact⟨rfl,rfl,⟨rfl⟩⟩
  case round=>
   obtain⟨rfl,rfl,hw⟩:=hrel
   obtain rfl:=hw.out
   go_wp2
   go_ret
   exact⟨by simp,HR.out,HB.out,Kept.refl _ _⟩
 obtain⟨g,cap,cur,rfl,hbg,hok,hg,hsz⟩:=links_open hs hn
 have HB:=Za hB;have HOK:=Za hok;have HG:=Za hg;have HBG:=Za hbg;have HSZ:=Za hsz;have HR:=Za hs
 obtain⟨n,hnx⟩:∃n,n=xs.length:=⟨_,rfl⟩
 have HN:=Za hnx
 rw[← hnx] at HSZ hn hl HR ⊢
 clear hB hok hg hbg hsz hs hnx
 go_enter Try.func114,Try.ntmps114
 go_wp2
 go_loopg [1,5] n (fun gg s1 s5 wr=>∃kk:Nat,∃b:Int,Aside0 (kk≤n)∧Aside0 (n - kk≤gg)∧s1=.int .i64 b∧s5=.int .i64 kk∧Aside0 (b=a+4 * kk)∧Aside0 (Kd.R k112 112 wr w0.heap.size ok (.slice (some ⟨g,0,none⟩) n cap) ((Za9 a n).take kk ++ xs.drop kk))∧Aside0 (Below w0.heap.size w0 wr)∧Aside0 (LInv w wr g cur.size))
 case atStart=>exact⟨0,a,⟨Nat.zero_le _⟩,⟨by omega⟩,rfl,rfl,⟨by omega⟩,⟨by simpa using HR.out⟩,HB,⟨⟨Nat.le_refl _,fun _ _ _=>rfl,cur,HG.out,rfl⟩⟩⟩
 case round=>
  obtain⟨kk,b,HK,HGG,rfl,rfl,HBD,HRr,HBr,HI⟩:=hrel
  by_cases hlt2:kk<n
  ·have hltz:(kk:Int)<(n:Int):=by omega
   have hbd:=HBD.out
   have hb0:0≤b:=by omega
   have hb1:b≤562949953421312+4 * 1048576:=by omega
   clear hbd
   obtain⟨cur1,hr1,hz1⟩:=HI.out.row
   have hin:kk * 4+3<cur1.size:=by have:=HSZ.out;omega
   have f0:=Zr hr1 (kk * 4)
   have f1:=Zr hr1 (kk * 4+1)
   have f2:=Zr hr1 (kk * 4+2)
   have f3:=Zr hr1 (kk * 4+3)
   have q0:=Zs hr1 (kk * 4)
   have q1:=Zs hr1 (kk * 4+1)
   have q2:=Zs hr1 (kk * 4+2)
   have q3:=Zs hr1 (kk * 4+3)
   obtain⟨u0,hu0⟩:∃u,cur1[kk * 4]? = some u:=⟨_,Array.getElem?_eq_getElem (by omega)⟩
   obtain⟨u1,hu1⟩:∃u,cur1[kk * 4+1]? = some u:=⟨_,Array.getElem?_eq_getElem (by omega)⟩
   obtain⟨u2,hu2⟩:∃u,cur1[kk * 4+2]? = some u:=⟨_,Array.getElem?_eq_getElem (by omega)⟩
   obtain⟨u3,hu3⟩:∃u,cur1[kk * 4+3]? = some u:=⟨_,Array.getElem?_eq_getElem (by omega)⟩
   rw[hu0] at q0
   rw[hu1] at q1
   rw[hu2] at q2
   rw[hu3] at q3
   clear hu0 hu1 hu2 hu3 hr1 hz1 hin
   have hw1:wrap64 (b+1)=b+1:=ZaJ (by omega) (by omega)
   have hw2:wrap64 (b+1+1)=b+1+1:=ZaJ (by omega) (by omega)
   have hw3:wrap64 (b+1+1+1)=b+1+1+1:=ZaJ (by omega) (by omega)
   have hw4:wrap64 (b+1+1+1+1)=b+1+1+1+1:=ZaJ (by omega) (by omega)
   go_wp2
   go_roundg (n - (kk+1))
   case measure=>have:=HGG.out;omega
   case rel=>
    have h9:=link_put HRr.out kk hlt2 b (b+1) (b+1+1) (b+1+1+1)
    refine⟨kk+1,b+1+1+1+1,⟨by omega⟩,⟨by omega⟩,by first|rfl|go_num,by go_num,⟨by have:=HBD.out;omega⟩,⟨?_⟩,⟨Zq (Zq (Zq (Zq HBr.out HBG.out) HBG.out) HBG.out) HBG.out⟩,⟨(((HI.out.put _ _).put _ _).put _ _).put _ _⟩⟩
    have h8:=linksM_step xs a kk (by have:=HN.out;omega)
    rw[← HN.out,← HBD.out,show b+2=b+1+1 by omega,show b+3=b+1+1+1 by omega] at h8
    rw[← h8]
    exact h9
  ·have hltz:¬(kk:Int)<(n:Int):=by omega
   have:kk=n:=by have:=HK.out;omega
   subst this
   go_wp2
   go_ret
   refine⟨by rw[HBD.out];rfl,by have h9:=HRr.out;rw[List.take_of_length_le (by rw[Zbt];exact Nat.le_refl _),show xs.drop kk=[] from List.drop_eq_nil_of_le (by rw[HN.out];exact Nat.le_refl _),List.append_nil] at h9;exact h9,HBr.out,HI.out.sz,fun k hk hn9=>HI.out.far k hk (fun e=>hn9 (e ▸ HOK.out))⟩
theorem Zev {w:World} {base:Nat} {ok:Nat→Prop} {A:Option Addr} {n c:Nat} {a:Int} (h:Kd.R k112 112 w base ok (.slice A n c) (Za9 a n)):n≤c∧Kd.C k112 w A n (Za9 a n):=by
 have h2:=Kd.R_reads' h
 rw[Zbt] at h2
 exact h2.2
end Go.Proofs.Ytodfnelilhjoeaa.Pr
namespace Go.Proofs.Ytodfnelilhjoeaa.Pr
open Go.RowKit Go.Proofs.YtodfnelilhjoeaaW.PrintWords Go.Proofs.YtodfnelilhjoeaaW.PrintLast Go.Proofs.YtodfnelilhjoeaaW.PrintMore
attribute [local go_sem] Zac Zaa Zam Zal Z5 Z4 Zab Z9
set_option linter.unusedVariables false
set_option linter.unusedSimpArgs false
def Zai.l0:Nat→List (S112)→Int→Int→Option (Int)
 | 0,_,_,_=>none
 | k+1,x0,x1,x5=>if x5<(x0.length:Int) then(if 0≤x5 then(if ((ZM x0 x5).f0)=x1 then(if ((ZM x0 x5).f1)=(wrap64 (x1+1)) then(if ((ZM x0 x5).f2.f0)=(wrap64 ((wrap64 (x1+1))+1)) then(if ((ZM x0 x5).f2.f1)=(wrap64 ((wrap64 ((wrap64 (x1+1))+1))+1)) then(Zai.l0 k x0 (wrap64 ((wrap64 ((wrap64 ((wrap64 (x1+1))+1))+1))+1)) (wrap64 (x5+1))) else(some (-1))) else(some (-1))) else(some (-1))) else(some (-1))) else(none)) else(some x1)
def Zai.f (k:Nat) (l0:List (S112)) (a1:Int):Option (Int):=Zai.l0 k l0 a1 0
set_option maxHeartbeats 8000000 in
set_option maxRecDepth 100000 in
theorem Zai.calls (k:Nat) (A0:Option Addr) (c0:Nat) (l0:List (S112)) (a1:Int) (r:Int) (w:World) (hr0:Kd.C k112 w A0 l0.length l0) (hc0:l0.length≤c0) (h:Zai.f k l0 a1=some r) :
  Calls Try.prog 115 #[.slice A0 l0.length c0,.int .i64 a1] w fun e w'=>e=.returned (.int .i64 r)∧ZE w w':=by
 have HR0:=Za hr0;have HC0:=Za hc0;clear hr0 hc0
 have H:(Zai.l0 k l0 a1 0)=some r:=h
 clear h
 have H':=Za H
 clear H
 go_enter Try.func115,Try.ntmps115
 go_wp2
 go_loopg [1,5] k (fun kq v1 v5 w'=>∃(x1_1:Int) (x5_1:Int),v1=.int .i64 x1_1∧v5=.int .i64 x5_1∧Aside0 (Zai.l0 kq l0 x1_1 x5_1=some r)∧Aside0 (kq≤k)∧ZE w w')
 case atStart=>exact⟨(a1),(0),(by first|rfl|(simp;done)|(simp[*];done)),(by first|rfl|(simp;done)|(simp[*];done)),H',⟨Nat.le_refl _⟩,by repeat(first|exact ZE.refl _|apply ZE.step)⟩
 case round=>
  clear H'
  try clear c1
  try clear p2
  obtain⟨x1_1,x5_1,rfl,rfl,HA,HK1,⟨m1,rfl⟩⟩:=hrel
  cases gk with
  | zero=>exact absurd HA.out (by simp[Zai.l0])
  | succ k1=>
   have H:=HA.out
   clear HA
   simp only[Zai.l0] at H
   by_cases c3:x5_1<(l0.length:Int)
   ·rw[if_pos c3] at H
    have c3b0:decide (x5_1<(l0.length:Int))=true:=Ze c3
    clear c3
    by_cases c4:0≤x5_1
    ·rw[if_pos c4] at H
     have c4b0:decide (0≤x5_1)=true:=Ze c4
     clear c4
     by_cases c5:((ZM l0 x5_1).f0)=x1_1
     ·rw[if_pos c5] at H
      have c5b0:(((ZM l0 x5_1).f0) == x1_1)=true:=beq_iff_eq.mpr c5
      have c5b1:(((ZM l0 x5_1).f0) != x1_1)=false:=bne_eq_false_iff_eq.mpr c5
      clear c5
      by_cases c6:((ZM l0 x5_1).f1)=(wrap64 (x1_1+1))
      ·rw[if_pos c6] at H
       have c6b0:(((ZM l0 x5_1).f1) == (wrap64 (x1_1+1)))=true:=beq_iff_eq.mpr c6
       have c6b1:(((ZM l0 x5_1).f1) != (wrap64 (x1_1+1)))=false:=bne_eq_false_iff_eq.mpr c6
       clear c6
       by_cases c7:((ZM l0 x5_1).f2.f0)=(wrap64 ((wrap64 (x1_1+1))+1))
       ·rw[if_pos c7] at H
        have c7b0:(((ZM l0 x5_1).f2.f0) == (wrap64 ((wrap64 (x1_1+1))+1)))=true:=beq_iff_eq.mpr c7
        have c7b1:(((ZM l0 x5_1).f2.f0) != (wrap64 ((wrap64 (x1_1+1))+1)))=false:=bne_eq_false_iff_eq.mpr c7
        clear c7
        by_cases c8:((ZM l0 x5_1).f2.f1)=(wrap64 ((wrap64 ((wrap64 (x1_1+1))+1))+1))
        ·rw[if_pos c8] at H
         have c8b0:(((ZM l0 x5_1).f2.f1) == (wrap64 ((wrap64 ((wrap64 (x1_1+1))+1))+1)))=true:=beq_iff_eq.mpr c8
         have c8b1:(((ZM l0 x5_1).f2.f1) != (wrap64 ((wrap64 ((wrap64 (x1_1+1))+1))+1)))=false:=bne_eq_false_iff_eq.mpr c8
         clear c8
         have H':=Za H
         clear H
         have p115001:0≤(x5_1:Int):=Zd (by first|(with_reducible assumption)|assumption)
         have q115001:x5_1<(l0.length:Int):=Zd (by first|(with_reducible assumption)|assumption)
         obtain⟨ad115001,e115001,hx115001_0,hx115001_1,hx115001_2,hx115001_3⟩:=ZaY HR0.out x5_1 p115001 q115001
         cases e115001
         replace p115001:=eq_true p115001
         replace q115001:=eq_true q115001
         have p115002:0≤(x5_1:Int):=Zd (by first|(with_reducible assumption)|assumption)
         have q115002:x5_1<(l0.length:Int):=Zd (by first|(with_reducible assumption)|assumption)
         obtain⟨ad115002,e115002,hx115002_0,hx115002_1,hx115002_2,hx115002_3⟩:=ZaY HR0.out x5_1 p115002 q115002
         obtain rfl:ad115001=ad115002:=(by injection e115002)
         replace p115002:=eq_true p115002
         replace q115002:=eq_true q115002
         have p115003:0≤(x5_1:Int):=Zd (by first|(with_reducible assumption)|assumption)
         have q115003:x5_1<(l0.length:Int):=Zd (by first|(with_reducible assumption)|assumption)
         obtain⟨ad115003,e115003,hx115003_0,hx115003_1,hx115003_2,hx115003_3⟩:=ZaY HR0.out x5_1 p115003 q115003
         obtain rfl:ad115001=ad115003:=(by injection e115003)
         replace p115003:=eq_true p115003
         replace q115003:=eq_true q115003
         have p115004:0≤(x5_1:Int):=Zd (by first|(with_reducible assumption)|assumption)
         have q115004:x5_1<(l0.length:Int):=Zd (by first|(with_reducible assumption)|assumption)
         obtain⟨ad115004,e115004,hx115004_0,hx115004_1,hx115004_2,hx115004_3⟩:=ZaY HR0.out x5_1 p115004 q115004
         obtain rfl:ad115001=ad115004:=(by injection e115004)
         replace p115004:=eq_true p115004
         replace q115004:=eq_true q115004
         go_wp2
         go_roundg k1
         case measure=>have:=HK1.out;omega
         case rel=>exact⟨(wrap64 ((wrap64 ((wrap64 ((wrap64 (x1_1+1))+1))+1))+1)),(wrap64 (x5_1+1)),(by first|rfl|(simp;done)|(simp[*];done)),(by first|rfl|(simp;done)|(simp[*];done)),H',⟨by have:=HK1.out;omega⟩,by repeat(first|exact ZE.refl _|apply ZE.step)⟩
        ·rw[if_neg c8] at H
         have c8b0:(((ZM l0 x5_1).f2.f1) == (wrap64 ((wrap64 ((wrap64 (x1_1+1))+1))+1)))=false:=beq_eq_false_iff_ne.mpr c8
         have c8b1:(((ZM l0 x5_1).f2.f1) != (wrap64 ((wrap64 ((wrap64 (x1_1+1))+1))+1)))=true:=bne_iff_ne.mpr c8
         obtain rfl:=Zg H
         have p115001:0≤(x5_1:Int):=Zd (by first|(with_reducible assumption)|assumption)
         have q115001:x5_1<(l0.length:Int):=Zd (by first|(with_reducible assumption)|assumption)
         obtain⟨ad115001,e115001,hx115001_0,hx115001_1,hx115001_2,hx115001_3⟩:=ZaY HR0.out x5_1 p115001 q115001
         cases e115001
         replace p115001:=eq_true p115001
         replace q115001:=eq_true q115001
         have p115002:0≤(x5_1:Int):=Zd (by first|(with_reducible assumption)|assumption)
         have q115002:x5_1<(l0.length:Int):=Zd (by first|(with_reducible assumption)|assumption)
         obtain⟨ad115002,e115002,hx115002_0,hx115002_1,hx115002_2,hx115002_3⟩:=ZaY HR0.out x5_1 p115002 q115002
         obtain rfl:ad115001=ad115002:=(by injection e115002)
         replace p115002:=eq_true p115002
         replace q115002:=eq_true q115002
         have p115003:0≤(x5_1:Int):=Zd (by first|(with_reducible assumption)|assumption)
         have q115003:x5_1<(l0.length:Int):=Zd (by first|(with_reducible assumption)|assumption)
         obtain⟨ad115003,e115003,hx115003_0,hx115003_1,hx115003_2,hx115003_3⟩:=ZaY HR0.out x5_1 p115003 q115003
         obtain rfl:ad115001=ad115003:=(by injection e115003)
         replace p115003:=eq_true p115003
         replace q115003:=eq_true q115003
         have p115004:0≤(x5_1:Int):=Zd (by first|(with_reducible assumption)|assumption)
         have q115004:x5_1<(l0.length:Int):=Zd (by first|(with_reducible assumption)|assumption)
         obtain⟨ad115004,e115004,hx115004_0,hx115004_1,hx115004_2,hx115004_3⟩:=ZaY HR0.out x5_1 p115004 q115004
         obtain rfl:ad115001=ad115004:=(by injection e115004)
         replace p115004:=eq_true p115004
         replace q115004:=eq_true q115004
         go_wp2
         go_ret
         exact⟨by first|rfl|(simp;done)|(simp[*];done),by repeat(first|exact ZE.refl _|apply ZE.step)⟩
       ·rw[if_neg c7] at H
        have c7b0:(((ZM l0 x5_1).f2.f0) == (wrap64 ((wrap64 (x1_1+1))+1)))=false:=beq_eq_false_iff_ne.mpr c7
        have c7b1:(((ZM l0 x5_1).f2.f0) != (wrap64 ((wrap64 (x1_1+1))+1)))=true:=bne_iff_ne.mpr c7
        obtain rfl:=Zg H
        have p115001:0≤(x5_1:Int):=Zd (by first|(with_reducible assumption)|assumption)
        have q115001:x5_1<(l0.length:Int):=Zd (by first|(with_reducible assumption)|assumption)
        obtain⟨ad115001,e115001,hx115001_0,hx115001_1,hx115001_2,hx115001_3⟩:=ZaY HR0.out x5_1 p115001 q115001
        cases e115001
        replace p115001:=eq_true p115001
        replace q115001:=eq_true q115001
        have p115002:0≤(x5_1:Int):=Zd (by first|(with_reducible assumption)|assumption)
        have q115002:x5_1<(l0.length:Int):=Zd (by first|(with_reducible assumption)|assumption)
        obtain⟨ad115002,e115002,hx115002_0,hx115002_1,hx115002_2,hx115002_3⟩:=ZaY HR0.out x5_1 p115002 q115002
        obtain rfl:ad115001=ad115002:=(by injection e115002)
        replace p115002:=eq_true p115002
        replace q115002:=eq_true q115002
        have p115003:0≤(x5_1:Int):=Zd (by first|(with_reducible assumption)|assumption)
        have q115003:x5_1<(l0.length:Int):=Zd (by first|(with_reducible assumption)|assumption)
        obtain⟨ad115003,e115003,hx115003_0,hx115003_1,hx115003_2,hx115003_3⟩:=ZaY HR0.out x5_1 p115003 q115003
        obtain rfl:ad115001=ad115003:=(by injection e115003)
        replace p115003:=eq_true p115003
        replace q115003:=eq_true q115003
        go_wp2
        go_ret
        exact⟨by first|rfl|(simp;done)|(simp[*];done),by repeat(first|exact ZE.refl _|apply ZE.step)⟩
      ·rw[if_neg c6] at H
       have c6b0:(((ZM l0 x5_1).f1) == (wrap64 (x1_1+1)))=false:=beq_eq_false_iff_ne.mpr c6
       have c6b1:(((ZM l0 x5_1).f1) != (wrap64 (x1_1+1)))=true:=bne_iff_ne.mpr c6
       obtain rfl:=Zg H
       have p115001:0≤(x5_1:Int):=Zd (by first|(with_reducible assumption)|assumption)
       have q115001:x5_1<(l0.length:Int):=Zd (by first|(with_reducible assumption)|assumption)
       obtain⟨ad115001,e115001,hx115001_0,hx115001_1,hx115001_2,hx115001_3⟩:=ZaY HR0.out x5_1 p115001 q115001
       cases e115001
       replace p115001:=eq_true p115001
       replace q115001:=eq_true q115001
       have p115002:0≤(x5_1:Int):=Zd (by first|(with_reducible assumption)|assumption)
       have q115002:x5_1<(l0.length:Int):=Zd (by first|(with_reducible assumption)|assumption)
       obtain⟨ad115002,e115002,hx115002_0,hx115002_1,hx115002_2,hx115002_3⟩:=ZaY HR0.out x5_1 p115002 q115002
       obtain rfl:ad115001=ad115002:=(by injection e115002)
       replace p115002:=eq_true p115002
       replace q115002:=eq_true q115002
       go_wp2
       go_ret
       exact⟨by first|rfl|(simp;done)|(simp[*];done),by repeat(first|exact ZE.refl _|apply ZE.step)⟩
     ·rw[if_neg c5] at H
      have c5b0:(((ZM l0 x5_1).f0) == x1_1)=false:=beq_eq_false_iff_ne.mpr c5
      have c5b1:(((ZM l0 x5_1).f0) != x1_1)=true:=bne_iff_ne.mpr c5
      obtain rfl:=Zg H
      have p115001:0≤(x5_1:Int):=Zd (by first|(with_reducible assumption)|assumption)
      have q115001:x5_1<(l0.length:Int):=Zd (by first|(with_reducible assumption)|assumption)
      obtain⟨ad115001,e115001,hx115001_0,hx115001_1,hx115001_2,hx115001_3⟩:=ZaY HR0.out x5_1 p115001 q115001
      cases e115001
      replace p115001:=eq_true p115001
      replace q115001:=eq_true q115001
      go_wp2
      go_ret
      exact⟨by first|rfl|(simp;done)|(simp[*];done),by repeat(first|exact ZE.refl _|apply ZE.step)⟩
    ·rw[if_neg c4] at H
     exact absurd H (by simp)
   ·rw[if_neg c3] at H
    have c3b0:decide (x5_1<(l0.length:Int))=false:=Zf c3
    clear c3
    obtain rfl:=Zg H
    go_wp2
    go_ret
    exact⟨by first|rfl|(simp;done)|(simp[*];done),by repeat(first|exact ZE.refl _|apply ZE.step)⟩
def ZbG.f (k:Nat) (a0_0:Int) (l0_1:List (S112)) (a1:Int):Option (Int):=(Zai.f k l0_1 a1).bind fun t62002=>(if t62002<0 then(some (-1)) else(some t62002))
set_option maxHeartbeats 8000000 in
set_option maxRecDepth 100000 in
theorem ZbG.calls (k:Nat) (a0_0:Int) (A0_1:Option Addr) (c0_1:Nat) (l0_1:List (S112)) (a1:Int) (r:Int) (w:World) (hr0_1:Kd.C k112 w A0_1 l0_1.length l0_1) (hc0_1:l0_1.length≤c0_1) (h:ZbG.f k a0_0 l0_1 a1=some r) :
  Calls Try.prog 62 #[.agg #[.int .i64 a0_0,.slice A0_1 l0_1.length c0_1],.int .i64 a1] w fun e w'=>e=.returned (.int .i64 r)∧Below w.heap.size w w':=by
 have hu58:=Try.underlying58
 have HR0_1:=Za hr0_1;have HC0_1:=Za hc0_1;clear hr0_1 hc0_1
 have HB:=Za (Below.refl w.heap.size w)
 have H:((Zai.f k l0_1 a1).bind fun t62002=>(if t62002<0 then(some (-1)) else(some t62002)))=some r:=h
 clear h
 replace H:=Zh H
 obtain⟨t62002,A30,H⟩:=H
 replace H:(if t62002<0 then(some (-1)) else(some t62002))=some r:=H
 have A3:=Za A30;clear A30
 by_cases c4:t62002<0
 ·rw[if_pos c4] at H
  have c4b0:decide (t62002<0)=true:=Ze c4
  clear c4
  obtain rfl:=Zg H
  go_enter Try.func62,Try.ntmps62
  go_wp2_with (first|((with_reducible refine ZI (N:=2) rfl ?_);refine ZH ?hg (N:=2) ?hd (cs:=#[.int .i64 a0_0,.slice A0_1 l0_1.length c0_1]) (t:=58) ?hr ?_;(case hd=>rfl);(case hg=>rfl);(case hr=>first|(go_simp;done)|(go_simp;rfl));intro gb62001 hg w5 hbox hb;have BK62001:=Za (hbox);have GW62001:=Za ((by rw[hg];exact(Zx (by repeat(first|(with_reducible first|exact HB.out|apply Zn|apply Zm|apply Zt)|exact HB.out))):w.heap.size≤gb62001));have GE62001:=Za ((by rw[hg];exact(Zx (by repeat(first|(with_reducible first|exact HB.out|apply Zn|apply Zm|apply Zt)|exact HB.out))):w.heap.size≤gb62001));replace HB:=Za (Zw (by repeat(first|(with_reducible first|exact HB.out|apply Zn|apply Zm|apply Zt)|exact HB.out)) hb);clear hb hbox hg;have hcz6_0:w5.cell? ⟨gb62001,0,none⟩=some (.int .i64 a0_0):=(Zs BK62001.out 0).trans rfl;have hcz6_1:w5.cell? ⟨gb62001,1,none⟩=some (.slice A0_1 l0_1.length c0_1):=(Zs BK62001.out 1).trans rfl;have hfz6_0:=Zr BK62001.out 0;have hfz6_1:=Zr BK62001.out 1)|((with_reducible refine ZG (f:=115) rfl ?_);refine ZQ (some 8) rfl rfl Try.func115 (by kernel_rfl) rfl #[.slice A0_1 l0_1.length c0_1,.int .i64 a1] rfl (by(try simp only[List.map_toArray,List.map_cons,List.map_nil]);first|done|rfl|(simp only[Zk,Zj];rfl)) ?_;(with_reducible refine(Zai.calls k _ _ l0_1 a1 t62002 _ ?side1 ?side2 A3.out).mono ?_);(case side1=>repeat(first|exact(Zb HR0_1.out HB.out)|(with_reducible refine Kd.C_alloc ?_ _)|(with_reducible refine Kd.C_drewN ?_ _)|(with_reducible refine Kd.C_drew ?_)));(case side2=>exact HC0_1.out);rintro e w' ⟨rfl,⟨nd,rfl⟩⟩;refine⟨_,rfl,?_⟩))
  go_ret
  exact⟨by first|rfl|(simp[ZB,ZA] <;> rfl)|(simp[*,ZB,ZA] <;> rfl),by repeat(first|(with_reducible first|exact HB.out|apply Zn|apply Zm|apply Zt|refine Zq ?_ GE62001.out)|exact HB.out)⟩
 ·rw[if_neg c4] at H
  have c4b0:decide (t62002<0)=false:=Zf c4
  clear c4
  obtain rfl:=Zg H
  go_enter Try.func62,Try.ntmps62
  go_wp2_with (first|((with_reducible refine ZI (N:=2) rfl ?_);refine ZH ?hg (N:=2) ?hd (cs:=#[.int .i64 a0_0,.slice A0_1 l0_1.length c0_1]) (t:=58) ?hr ?_;(case hd=>rfl);(case hg=>rfl);(case hr=>first|(go_simp;done)|(go_simp;rfl));intro gb62001 hg w7 hbox hb;have BK62001:=Za (hbox);have GW62001:=Za ((by rw[hg];exact(Zx (by repeat(first|(with_reducible first|exact HB.out|apply Zn|apply Zm|apply Zt)|exact HB.out))):w.heap.size≤gb62001));have GE62001:=Za ((by rw[hg];exact(Zx (by repeat(first|(with_reducible first|exact HB.out|apply Zn|apply Zm|apply Zt)|exact HB.out))):w.heap.size≤gb62001));replace HB:=Za (Zw (by repeat(first|(with_reducible first|exact HB.out|apply Zn|apply Zm|apply Zt)|exact HB.out)) hb);clear hb hbox hg;have hcz8_0:w7.cell? ⟨gb62001,0,none⟩=some (.int .i64 a0_0):=(Zs BK62001.out 0).trans rfl;have hcz8_1:w7.cell? ⟨gb62001,1,none⟩=some (.slice A0_1 l0_1.length c0_1):=(Zs BK62001.out 1).trans rfl;have hfz8_0:=Zr BK62001.out 0;have hfz8_1:=Zr BK62001.out 1)|((with_reducible refine ZG (f:=115) rfl ?_);refine ZQ (some 8) rfl rfl Try.func115 (by kernel_rfl) rfl #[.slice A0_1 l0_1.length c0_1,.int .i64 a1] rfl (by(try simp only[List.map_toArray,List.map_cons,List.map_nil]);first|done|rfl|(simp only[Zk,Zj];rfl)) ?_;(with_reducible refine(Zai.calls k _ _ l0_1 a1 t62002 _ ?side1 ?side2 A3.out).mono ?_);(case side1=>repeat(first|exact(Zb HR0_1.out HB.out)|(with_reducible refine Kd.C_alloc ?_ _)|(with_reducible refine Kd.C_drewN ?_ _)|(with_reducible refine Kd.C_drew ?_)));(case side2=>exact HC0_1.out);rintro e w' ⟨rfl,⟨nd,rfl⟩⟩;refine⟨_,rfl,?_⟩))
  go_ret
  exact⟨by first|rfl|(simp[ZB,ZA] <;> rfl)|(simp[*,ZB,ZA] <;> rfl),by repeat(first|(with_reducible first|exact HB.out|apply Zn|apply Zm|apply Zt|refine Zq ?_ GE62001.out)|exact HB.out)⟩
end Go.Proofs.Ytodfnelilhjoeaa.Pr
namespace Go.Proofs.Ytodfnelilhjoeaa.Pr
open Go.RowKit Go.Proofs.YtodfnelilhjoeaaW.PrintWords Go.Proofs.Ytodfnelilhjoeaa.Ni
theorem heldLinkS_f (n:Nat) (hl:n≤1048576) (a:Int) (h0:0≤a) (h1:a≤1152921504606846976) (k:Nat) (hk:2 ^ 64≤k):Zai.f k (Za9 a n) a=some (a+4 * n):=by
 have key:=ZaC n (fun k i=>Zai.l0 k (Za9 a n) (a+4 * i) (i:Int)=some (a+4 * n)) 0
  (fun k _=>by
   simp only[Zai.l0]
   rw[if_neg (by rw[Zbt];omega)])
  (fun k i _ hi ih=>by
   simp only[Zai.l0]
   have e:ZM (Za9 a n) (i:Int)=⟨a+4 * i,a+4 * i+1,⟨a+4 * i+2,a+4 * i+3⟩⟩:=by
    unfold ZM
    rw[Int.toNat_natCast,List.getD_eq_getElem?_getD,Zdm _ _ _ hi]
    rfl
   have w1:wrap64 (a+4 * (i:Int)+1)=a+4 * i+1:=ZaJ (by omega) (by omega)
   have w2:wrap64 (a+4 * (i:Int)+1+1)=a+4 * i+2:=by rw[ZaJ (by omega) (by omega)];omega
   have w3:wrap64 (a+4 * (i:Int)+2+1)=a+4 * i+3:=by rw[ZaJ (by omega) (by omega)];omega
   have w4:wrap64 (a+4 * (i:Int)+3+1)=a+4 * ((i+1:Nat):Int):=by rw[ZaJ (by omega) (by omega)];omega
   rw[if_pos (by rw[Zbt];omega),if_pos (by omega),e]
   simp only[]
   rw[w1,w2,w3,w4,if_pos rfl,if_pos rfl,if_pos rfl,if_pos trivial,Z6 hi (by omega)]
   exact ih) 0 k (Nat.zero_le _) (by omega)
 unfold Zai.f
 simpa using key
theorem Zdq (w:World) (A:Option Addr) (c:Nat) (z a:Int) (n:Nat) (hr:Kd.C k112 w A n (Za9 a n)) (hc:n≤c) (hl:n≤1048576) (h0:0≤a) (ha:a≤562949953421312) :
  Calls Try.prog 62 #[.agg #[.int .i64 z,.slice A n c],.int .i64 a] w fun e w'=>e=.returned (.int .i64 (a+4 * n))∧Below w.heap.size w w':=by
 have hf:ZbG.f (2 ^ 64) z (Za9 a n) a=some (a+4 * n):=by
  unfold ZbG.f
  rw[heldLinkS_f n hl a h0 (by omega) (2 ^ 64) (Nat.le_refl _),Zi,if_neg (by omega)]
 have h:=ZbG.calls (2 ^ 64) z A c (Za9 a n) a _ w (by rw[Zbt];exact hr) (by rw[Zbt];exact hc) hf
 rw[Zbt] at h
 exact h
deriving instance DecidableEq for S110
deriving instance DecidableEq for S112
end Go.Proofs.Ytodfnelilhjoeaa.Pr
namespace Go.Proofs.Ytodfnelilhjoeaa.Pr
open Go.RowKit Go.Proofs.YtodfnelilhjoeaaW.PrintWords Go.Proofs.YtodfnelilhjoeaaW.PrintLast Go.Proofs.YtodfnelilhjoeaaW.PrintMore
attribute [local go_sem] Zac Zaa Zam Zal Z5 Z4 Zab Z9
set_option linter.unusedVariables false
set_option linter.unusedSimpArgs false
def Zb1.f (k:Nat) (a0_0:ByteArray) (l0_1:List Int) (a0_2:Int):Option (ByteArray×List Int×Int):=(Zaz.f k l0_1).bind fun t119004=>(some (a0_0,t119004,a0_2))
set_option maxHeartbeats 8000000 in
set_option maxRecDepth 100000 in
theorem Zb1.calls (k:Nat) (a0_0:ByteArray) (A0_1:Option Addr) (c0_1:Nat) (l0_1:List Int) (a0_2:Int) (r1:ByteArray) (r2:List Int) (r3:Int) (w:World) (hr0_1:Kd.C (Kd.int .i64) w A0_1 l0_1.length l0_1) (hc0_1:l0_1.length≤c0_1) (h:Zb1.f k a0_0 l0_1 a0_2=some (r1,r2,r3)) :
  Calls Try.prog 119 #[.agg #[.string a0_0,.slice A0_1 l0_1.length c0_1,.int .i64 a0_2]] w fun e w'=>∃v1_:Value,e=.returned (.agg #[.string r1,v1_,.int .i64 r3])∧Kd.R (Kd.int .i64) 3 w' w.heap.size (fun _=>True) v1_ r2∧Below w.heap.size w w':=by
 have hu127:=Try.underlying127
 have hu116:=Try.underlying116
 have HR0_1:=Za hr0_1;have HC0_1:=Za hc0_1;clear hr0_1 hc0_1
 have HB:=Za (Below.refl w.heap.size w)
 have H:((Zaz.f k l0_1).bind fun t119004=>(some (a0_0,t119004,a0_2)))=some (r1,r2,r3):=h
 clear h
 replace H:=Zh H
 obtain⟨t119004,A20,H⟩:=H
 replace H:(some (a0_0,t119004,a0_2))=some (r1,r2,r3):=H
 have A2:=Za A20;clear A20
 simp only[Option.some.injEq,Prod.mk.injEq] at H
 obtain⟨rfl,rfl,rfl⟩:=H
 go_enter Try.func119,Try.ntmps119
 go_wp2_with (first|((with_reducible refine ZI (N:=1) rfl ?_);refine ZH ?hg (N:=1) ?hd (cs:=#[.string a0_0,.slice A0_1 l0_1.length c0_1,.int .i64 a0_2]) (t:=127) ?hr ?_;(case hd=>rfl);(case hg=>rfl);(case hr=>first|(go_simp;done)|(go_simp;rfl));intro gb119001 hg w3 hbox hb;have BK119001:=Za (hbox);have GW119001:=Za ((by rw[hg];exact(Zx (by repeat(first|(with_reducible first|exact HB.out|apply Zn|apply Zm|apply Zt)|exact HB.out))):w.heap.size≤gb119001));have GE119001:=Za ((by rw[hg];exact(Zx (by repeat(first|(with_reducible first|exact HB.out|apply Zn|apply Zm|apply Zt)|exact HB.out))):w.heap.size≤gb119001));replace HB:=Za (Zw (by repeat(first|(with_reducible first|exact HB.out|apply Zn|apply Zm|apply Zt)|exact HB.out)) hb);clear hb hbox hg)|((with_reducible refine ZI (N:=2) rfl ?_);refine ZH ?hg (N:=2) ?hd (cs:=#[.string (⟨#[]⟩:ByteArray),.slice none 0 0,.int .i64 0]) (t:=116) ?hr ?_;(case hd=>rfl);(case hg=>rfl);(case hr=>first|(go_simp;done)|(go_simp;rfl));intro gb119002 hg w4 hbox hb;have n0_:=Za (Zy (g:=gb119001) (o:=.cells #[.string a0_0,.slice A0_1 l0_1.length c0_1,.int .i64 a0_2] 127 (0,0)) BK119001.out hb);have n1_:=Za (Zw (by repeat(first|(with_reducible first|exact HB.out|apply Zn|apply Zm|apply Zt|refine Zq ?_ GE119001.out)|exact HB.out)) hb);have n2_:=Za (hbox);have n3_:=Za ((by rw[hg];exact(Zx (by repeat(first|(with_reducible first|exact HB.out|apply Zn|apply Zm|apply Zt|refine Zq ?_ GE119001.out)|exact HB.out))):w.heap.size≤gb119002));have n4_:=n3_;have n5_:=Za ((by rw[hg];exact Nat.ne_of_lt (ZO BK119001.out):gb119001≠gb119002));have n6_:=Za n5_.out.symm;clear BK119001;clear HB;have BK119001:=n0_;have HB:=n1_;have BK119002:=n2_;have GW119002:=n3_;have GE119002:=n4_;have NB119001_119002:=n5_;have NB119002_119001:=n6_;clear n0_ n1_ n2_ n3_ n4_ n5_ n6_;clear hb hbox hg)|((with_reducible refine ZI (N:=3) rfl ?_);refine ZH ?hg (N:=3) ?hd (cs:=#[.string (⟨#[]⟩:ByteArray),.slice none 0 0,.int .i64 0]) (t:=116) ?hr ?_;(case hd=>rfl);(case hg=>rfl);(case hr=>first|(go_simp;done)|(go_simp;rfl));intro gb119003 hg w5 hbox hb;have n0_:=Za (Zy (g:=gb119001) (o:=.cells #[.string a0_0,.slice A0_1 l0_1.length c0_1,.int .i64 a0_2] 127 (0,0)) BK119001.out hb);have n1_:=Za (Zy (g:=gb119002) (o:=.cells #[.string (⟨#[]⟩:ByteArray),.slice none 0 0,.int .i64 0] 116 (0,0)) BK119002.out hb);have n2_:=Za (Zw (by repeat(first|(with_reducible first|exact HB.out|apply Zn|apply Zm|apply Zt|refine Zq ?_ GE119001.out|refine Zq ?_ GE119002.out)|exact HB.out)) hb);have n3_:=Za (hbox);have n4_:=Za ((by rw[hg];exact(Zx (by repeat(first|(with_reducible first|exact HB.out|apply Zn|apply Zm|apply Zt|refine Zq ?_ GE119001.out|refine Zq ?_ GE119002.out)|exact HB.out))):w.heap.size≤gb119003));have n5_:=n4_;have n6_:=Za ((by rw[hg];exact Nat.ne_of_lt (ZO BK119001.out):gb119001≠gb119003));have n7_:=Za n6_.out.symm;have n8_:=Za ((by rw[hg];exact Nat.ne_of_lt (ZO (g:=gb119002) (o:=.cells #[.string (⟨#[]⟩:ByteArray),.slice none 0 0,.int .i64 0] 116 (0,0)) BK119002.out):gb119002≠gb119003));have n9_:=Za n8_.out.symm;clear BK119001;clear BK119002;clear HB;have BK119001:=n0_;have BK119002:=n1_;have HB:=n2_;have BK119003:=n3_;have GW119003:=n4_;have GE119003:=n5_;have NB119001_119003:=n6_;have NB119003_119001:=n7_;have NB119002_119003:=n8_;have NB119003_119002:=n9_;clear n0_ n1_ n2_ n3_ n4_ n5_ n6_ n7_ n8_ n9_;clear hb hbox hg;have hnb6:=NB119001_119002.out;have hnc6:=NB119002_119001.out;have hnb7:=NB119001_119003.out;have hnc7:=NB119003_119001.out;have hcz8_0:w5.cell? ⟨gb119001,0,none⟩=some (.string a0_0):=(Zs BK119001.out 0).trans rfl;have hcz8_1:w5.cell? ⟨gb119001,1,none⟩=some (.slice A0_1 l0_1.length c0_1):=(Zs BK119001.out 1).trans rfl;have hcz8_2:w5.cell? ⟨gb119001,2,none⟩=some (.int .i64 a0_2):=(Zs BK119001.out 2).trans rfl;have hfz8_0:=Zr BK119001.out 0;have hfz8_1:=Zr BK119001.out 1;have hfz8_2:=Zr BK119001.out 2;have hnb9:=NB119003_119002.out;have hnc9:=NB119002_119003.out;have hcz10_0:w5.cell? ⟨gb119003,0,none⟩=some (.string (⟨#[]⟩:ByteArray)):=(Zs BK119003.out 0).trans rfl;have hcz10_1:w5.cell? ⟨gb119003,1,none⟩=some (.slice none 0 0):=(Zs BK119003.out 1).trans rfl;have hcz10_2:w5.cell? ⟨gb119003,2,none⟩=some (.int .i64 0):=(Zs BK119003.out 2).trans rfl;have hfz10_0:=Zr BK119003.out 0;have hfz10_1:=Zr BK119003.out 1;have hfz10_2:=Zr BK119003.out 2)|((with_reducible refine ZG (f:=58) rfl ?_);refine ZQ (some 9) rfl rfl Try.func58 (by kernel_rfl) rfl #[.slice A0_1 l0_1.length c0_1] rfl (by(try simp only[List.map_toArray,List.map_cons,List.map_nil]);first|done|rfl|(simp only[Zk,Zj];rfl)) ?_;(with_reducible refine(Zaz.calls k _ _ l0_1 t119004 _ ?side1 ?side2 A2.out).mono ?_);(case side1=>exact Zb HR0_1.out (by repeat(first|(with_reducible first|exact HB.out|apply Zn|apply Zm|apply Zt|refine Zq ?_ GE119001.out|refine Zq ?_ GE119002.out|refine Zq ?_ GE119003.out)|exact HB.out)));(case side2=>exact HC0_1.out);rintro e w11 ⟨v119005,rfl,ho0,hb⟩;refine⟨_,rfl,?_⟩;have HO119006:=Za (Kd.R_lower ho0 (Zx (by repeat(first|(with_reducible first|exact HB.out|apply Zn|apply Zm|apply Zt|refine Zq ?_ GE119001.out|refine Zq ?_ GE119002.out|refine Zq ?_ GE119003.out)|exact HB.out))));replace BK119001:=Za (Zy (g:=gb119001) (o:=.cells #[.string a0_0,.slice A0_1 l0_1.length c0_1,.int .i64 a0_2] 127 (0,0)) (by(with_reducible repeat(first|refine Zp ?_ _|refine Zu ?_|refine Zo ?_ _));refine ZD ?_ NB119001_119003.out _;(with_reducible repeat(first|refine Zp ?_ _|refine Zu ?_|refine Zo ?_ _));exact BK119001.out) hb);replace BK119002:=Za (Zy (g:=gb119002) (o:=.cells #[.string (⟨#[]⟩:ByteArray),.slice none 0 0,.int .i64 0] 116 (0,0)) (by(with_reducible repeat(first|refine Zp ?_ _|refine Zu ?_|refine Zo ?_ _));refine ZD ?_ NB119002_119003.out _;(with_reducible repeat(first|refine Zp ?_ _|refine Zu ?_|refine Zo ?_ _));exact BK119002.out) hb);replace BK119003:=Za (Zy (g:=gb119003) (o:=.cells #[.string a0_0,.slice none 0 0,.int .i64 0] 116 (0,0)) (by(with_reducible repeat(first|refine Zp ?_ _|refine Zu ?_|refine Zo ?_ _));refine ZL (cs:=#[.string (⟨#[]⟩:ByteArray),.slice none 0 0,.int .i64 0]) ?_ 0 _ rfl;(with_reducible repeat(first|refine Zp ?_ _|refine Zu ?_|refine Zo ?_ _));exact BK119003.out) hb);replace HB:=Za (Zw (by repeat(first|(with_reducible first|exact HB.out|apply Zn|apply Zm|apply Zt|refine Zq ?_ GE119001.out|refine Zq ?_ GE119002.out|refine Zq ?_ GE119003.out)|exact HB.out)) hb);(try clear hb);(try clear hb2);(try clear hk);(try clear hi);(try clear ho0);obtain⟨Ao12,co12,eo12⟩:=Kd.R_slice HO119006.out;subst eo12;have hcz13_0:w11.cell? ⟨gb119003,0,none⟩=some (.string a0_0):=(Zs BK119003.out 0).trans rfl;have hcz13_1:w11.cell? ⟨gb119003,1,none⟩=some (.slice none 0 0):=(Zs BK119003.out 1).trans rfl;have hcz13_2:w11.cell? ⟨gb119003,2,none⟩=some (.int .i64 0):=(Zs BK119003.out 2).trans rfl;have hfz13_0:=Zr BK119003.out 0;have hfz13_1:=Zr BK119003.out 1;have hfz13_2:=Zr BK119003.out 2;have hcz14_0:w11.cell? ⟨gb119001,0,none⟩=some (.string a0_0):=(Zs BK119001.out 0).trans rfl;have hcz14_1:w11.cell? ⟨gb119001,1,none⟩=some (.slice A0_1 l0_1.length c0_1):=(Zs BK119001.out 1).trans rfl;have hcz14_2:w11.cell? ⟨gb119001,2,none⟩=some (.int .i64 a0_2):=(Zs BK119001.out 2).trans rfl;have hfz14_0:=Zr BK119001.out 0;have hfz14_1:=Zr BK119001.out 1;have hfz14_2:=Zr BK119001.out 2;have hcz15_0:w11.cell? ⟨gb119002,0,none⟩=some (.string (⟨#[]⟩:ByteArray)):=(Zs BK119002.out 0).trans rfl;have hcz15_1:w11.cell? ⟨gb119002,1,none⟩=some (.slice none 0 0):=(Zs BK119002.out 1).trans rfl;have hcz15_2:w11.cell? ⟨gb119002,2,none⟩=some (.int .i64 0):=(Zs BK119002.out 2).trans rfl;have hfz15_0:=Zr BK119002.out 0;have hfz15_1:=Zr BK119002.out 1;have hfz15_2:=Zr BK119002.out 2))
 refine bodyPost_ret (results_cell_row rfl _ _ gb119002 116 #[.string a0_0,.slice Ao12 t119004.length co12,.int .i64 a0_2] (0,0) _ rfl (by(with_reducible repeat(first|refine Zp ?_ _|refine Zu ?_|refine Zo ?_ _));refine ZL (cs:=#[.string a0_0,.slice Ao12 t119004.length co12,.int .i64 0]) ?_ 2 _ rfl;(with_reducible repeat(first|refine Zp ?_ _|refine Zu ?_|refine Zo ?_ _));refine ZL (cs:=#[.string a0_0,.slice none 0 0,.int .i64 0]) ?_ 1 _ rfl;(with_reducible repeat(first|refine Zp ?_ _|refine Zu ?_|refine Zo ?_ _));refine ZL (cs:=#[.string (⟨#[]⟩:ByteArray),.slice none 0 0,.int .i64 0]) ?_ 0 _ rfl;(with_reducible repeat(first|refine Zp ?_ _|refine Zu ?_|refine Zo ?_ _));refine ZD ?_ NB119002_119003.out _;(with_reducible repeat(first|refine Zp ?_ _|refine Zu ?_|refine Zo ?_ _));refine ZD ?_ NB119002_119003.out _;(with_reducible repeat(first|refine Zp ?_ _|refine Zu ?_|refine Zo ?_ _));exact BK119002.out) Try.underlying116 rfl (by kernel_rfl)) rfl ?_
 exact⟨_,by first|rfl|(simp[ZB,ZA] <;> rfl)|(simp[*,ZB,ZA] <;> rfl),by(with_reducible repeat(first|apply Kd.R_alloc|apply Kd.R_drewN|apply Kd.R_drew));exact Kd.R_mono (Kd.R_far (p:=⟨gb119002,2,none⟩) (Kd.R_far (p:=⟨gb119002,1,none⟩) (Kd.R_far (p:=⟨gb119002,0,none⟩) (Kd.R_far (p:=⟨gb119003,2,none⟩) (Kd.R_far (p:=⟨gb119003,1,none⟩) (Kd.R_types (Kd.R_types HO119006.out BK119003.out (by decide)) BK119002.out (by decide)) (fun _ hk=>hk.1.2) (.slice Ao12 t119004.length co12)) (fun _ hk=>hk.1.2) (.int .i64 a0_2)) (fun _ hk=>hk.2) (.string a0_0)) (fun _ hk=>hk.2) (.slice Ao12 t119004.length co12)) (fun _ hk=>hk.2) (.int .i64 a0_2)) (fun _ hk=>trivial),by repeat(first|(with_reducible first|exact HB.out|apply Zn|apply Zm|apply Zt|refine Zq ?_ GE119001.out|refine Zq ?_ GE119002.out|refine Zq ?_ GE119003.out)|exact HB.out)⟩
def Zao.l0:Nat→List (S127)→List (S116)→Int→Option ((List (S116)))
 | 0,_,_,_=>none
 | k+1,x0,x3,x4=>if x4<(x0.length:Int) then(if 0≤x4 then((Zb1.f k ((Zav x0 x4).f0) ((Zav x0 x4).f1) ((Zav x0 x4).f2)).bind fun bt70005=>(if x4<(x3.length:Int) then(Zao.l0 k x0 (x3.set (x4:Int).toNat (⟨bt70005.1,bt70005.2.1,bt70005.2.2⟩:S116)) (wrap64 (x4+1))) else(none))) else(none)) else(some x3)
def Zao.f (k:Nat) (l0:List (S127)):Option ((List (S116))):=if 0≤(l0.length:Int) then(if ((l0.length:Int):Int).toNat≤5864062014805 then(Zao.l0 k l0 (List.replicate ((l0.length:Int):Int).toNat z116) 0) else(none)) else(none)
set_option maxHeartbeats 8000000 in
set_option maxRecDepth 100000 in
theorem Zao.calls (k:Nat) (A0:Option Addr) (c0:Nat) (l0:List (S127)) (r:List (S116)) (w:World) (hr0:Kd.C k127 w A0 l0.length l0) (hc0:l0.length≤c0) (h:Zao.f k l0=some r) :
  Calls Try.prog 70 #[.slice A0 l0.length c0] w fun e w'=>∃v0_:Value,e=.returned (v0_)∧Kd.S k116 116 w' w.heap.size (fun _=>True) v0_ r∧Below w.heap.size w w':=by
 have hu127:=Try.underlying127
 have hu116:=Try.underlying116
 have HR0:=Za hr0;have HC0:=Za hc0;clear hr0 hc0
 have HB:=Za (Below.refl w.heap.size w)
 have H:(if 0≤(l0.length:Int) then(if ((l0.length:Int):Int).toNat≤5864062014805 then(Zao.l0 k l0 (List.replicate ((l0.length:Int):Int).toNat z116) 0) else(none)) else(none))=some r:=h
 clear h
 by_cases c2:0≤(l0.length:Int)
 ·rw[if_pos c2] at H
  have c2b0:=eq_true c2
  have c2b1:decide (0≤(l0.length:Int))=true:=Ze c2
  clear c2
  by_cases c3:((l0.length:Int):Int).toNat≤5864062014805
  ·rw[if_pos c3] at H
   have c3b0:=eq_true c3
   have c3b1:decide (((l0.length:Int):Int).toNat≤5864062014805)=true:=Ze c3
   clear c3
   obtain⟨y70001,hy70001⟩:∃y_:List (S116),y_=(List.replicate ((l0.length:Int):Int).toNat z116):=⟨_,rfl⟩
   replace H:(Zao.l0 k l0 y70001 0)=some r:=by first|(rw[hy70001];with_reducible exact H)|(have H2_:=(Zi _ _).symm.trans H;rw[hy70001];with_reducible exact H2_)|(have H2_:=(Zi _ _).symm.trans H;with_reducible exact H2_)|with_reducible exact H|(rw[hy70001];exact H)|exact H
   have Ny70001:=Za hy70001;clear hy70001
   have H':=Za H
   clear H
   go_enter Try.func70,Try.ntmps70
   go_wp2_with (first|((with_reducible refine ZI (N:=7) rfl ?_);refine Kd.S_make k116 _ 116 rfl (N:=7) rfl 32 _ _ rfl (l0.length:Int) rfl rfl Try.underlying32 (.agg #[(.string ⟨#[]⟩),(.slice none 0 0),(.int .i64 0)]) 48 info116 rfl (by decide) (by omega) z116 (ok:=fun _=>True) (okp:=fun _=>True) (k116_mkM _ _ _ z116 (Kd.R_nil _ _ _ _ _)) (fun _ hk=>hk) trivial (Zd (by first|(with_reducible assumption)|assumption)) (Nat.le_trans (Nat.mul_le_mul_right _ (Zd (by first|(with_reducible assumption)|assumption):(l0.length:Int).toNat≤5864062014805)) (by omega)) (Below.refl _ _) (Nat.le_refl _) ?_;intro v70002 w4 ho5 hb hg_ hnew_;clear hg_ hnew_;(first|rw[← Ny70001.out] at ho5|(simp only[Int.reduceToNat] at ho5;rw[← Ny70001.out] at ho5));have HO70003:=Za (Kd.S_lower ho5 (Zx (by repeat(first|(with_reducible first|exact HB.out|apply Zn|apply Zm|apply Zt)|exact HB.out))));replace HB:=Za (Zw (by repeat(first|(with_reducible first|exact HB.out|apply Zn|apply Zm|apply Zt)|exact HB.out)) hb);clear hb ho5))
   go_loopg [4] k (fun kq v4 w'=>∃(x3_1:List (S116)) (x4_1:Int),v4=.int .i64 x4_1∧Aside0 (Zao.l0 kq l0 x3_1 x4_1=some r)∧Aside0 (kq≤k)∧Aside0 (Kd.S k116 116 w' w.heap.size (fun _=>True) v70002 x3_1)∧Aside0 (Below w.heap.size w w'))
   case atStart=>exact⟨(y70001),(0),(by first|rfl|(simp;done)|(simp[*];done)),H',⟨Nat.le_refl _⟩,⟨by(with_reducible repeat(first|apply Kd.S_alloc|apply Kd.S_drewN|apply Kd.S_drew));exact HO70003.out⟩,⟨by repeat(first|(with_reducible first|exact HB.out|apply Zn|apply Zm|apply Zt)|exact HB.out)⟩⟩
   case round=>
    clear H'
    try clear c2
    try clear c2b0
    try clear c2b1
    try clear p2
    try clear c3
    try clear c3b0
    try clear c3b1
    obtain⟨x3_1,x4_1,rfl,HA,HK1,HO_3,HB⟩:=hrel
    cases gk with
    | zero=>exact absurd HA.out (by simp[Zao.l0])
    | succ k1=>
     have H:=HA.out
     clear HA
     simp only[Zao.l0] at H
     by_cases c6:x4_1<(l0.length:Int)
     ·rw[if_pos c6] at H
      have c6b0:decide (x4_1<(l0.length:Int))=true:=Ze c6
      clear c6
      by_cases c7:0≤x4_1
      ·rw[if_pos c7] at H
       have c7b0:decide (0≤x4_1)=true:=Ze c7
       clear c7
       replace H:=Zh H
       obtain⟨⟨t70005,t70006,t70009⟩,A80,H⟩:=H
       replace H:(if x4_1<(x3_1.length:Int) then(Zao.l0 k1 l0 (x3_1.set (x4_1:Int).toNat (⟨t70005,t70006,t70009⟩:S116)) (wrap64 (x4_1+1))) else(none))=some r:=H
       have A8:=Za A80;clear A80
       by_cases c9:x4_1<(x3_1.length:Int)
       ·rw[if_pos c9] at H
        have c9b0:decide (x4_1<(x3_1.length:Int))=true:=Ze c9
        clear c9
        obtain⟨y70010,hy70010⟩:∃y_:List (S116),y_=(x3_1.set (x4_1:Int).toNat (⟨t70005,t70006,t70009⟩:S116)):=⟨_,rfl⟩
        replace H:(Zao.l0 k1 l0 y70010 (wrap64 (x4_1+1)))=some r:=by first|(rw[hy70010];with_reducible exact H)|(have H2_:=(Zi _ _).symm.trans H;rw[hy70010];with_reducible exact H2_)|(have H2_:=(Zi _ _).symm.trans H;with_reducible exact H2_)|with_reducible exact H|(rw[hy70010];exact H)|exact H
        have Ny70010:=Za hy70010;clear hy70010
        have H':=Za H
        clear H
        have p70004:0≤(x4_1:Int):=Zd (by first|(with_reducible assumption)|assumption)
        have q70004:x4_1<(l0.length:Int):=Zd (by first|(with_reducible assumption)|assumption)
        obtain⟨ad70004,A70004_1,c70004_1,e70004,hx70004_0,hx70004_1,hx70004_2,hl70004_1,hi70004_1⟩:=at_T127 HR0.out x4_1 p70004 q70004
        cases e70004
        replace hx70004_0:=(HB.out.cell (Zc w _ hx70004_0)).trans hx70004_0
        replace hx70004_1:=(HB.out.cell (Zc w _ hx70004_1)).trans hx70004_1
        replace hx70004_2:=(HB.out.cell (Zc w _ hx70004_2)).trans hx70004_2
        have HR70004_1:=Za hi70004_1;have HC70004_1:=Za hl70004_1;clear hi70004_1 hl70004_1
        replace p70004:=eq_true p70004
        replace q70004:=eq_true q70004
        go_wp2_with (first|((with_reducible refine ZG (f:=119) rfl ?_);refine ZQ (some 20) rfl rfl Try.func119 (by kernel_rfl) rfl #[.agg #[.string ((Zav l0 x4_1).f0),.slice A70004_1 ((Zav l0 x4_1).f1).length c70004_1,.int .i64 ((Zav l0 x4_1).f2)]] rfl (by(try simp only[List.map_toArray,List.map_cons,List.map_nil]);first|done|rfl|(simp only[Zk,Zj];rfl)) ?_;(with_reducible refine(Zb1.calls k1 ((Zav l0 x4_1).f0) _ _ ((Zav l0 x4_1).f1) ((Zav l0 x4_1).f2) t70005 t70006 t70009 _ ?side1 ?side2 A8.out).mono ?_);(case side1=>repeat(first|exact(Zb HR70004_1.out HB.out)|(with_reducible refine Kd.C_alloc ?_ _)|(with_reducible refine Kd.C_drewN ?_ _)|(with_reducible refine Kd.C_drew ?_)));(case side2=>exact HC70004_1.out);rintro e w11 ⟨v70007,rfl,ho0,hb⟩;refine⟨_,rfl,?_⟩;have HO70008:=Za (Kd.R_lower ho0 (Zx (by repeat(first|(with_reducible first|exact HB.out|apply Zn|apply Zm|apply Zt)|exact HB.out))));replace HO_3:=Za (Kd.S_elder' (by(with_reducible repeat(first|apply Kd.S_alloc|apply Kd.S_drewN|apply Kd.S_drew));exact HO_3.out) (Kd.R_base ho0) hb);replace HB:=Za (Zw (by repeat(first|(with_reducible first|exact HB.out|apply Zn|apply Zm|apply Zt)|exact HB.out)) hb);(try clear hb);(try clear hb2);(try clear hk);(try clear hi);(try clear ho0);obtain⟨As_,cs_,es_⟩:=Kd.R_slice HO70008.out;subst es_;have p10:0≤(x4_1:Int):=Zd (by first|(with_reducible assumption)|assumption);have q10:(x4_1:Int)<((x3_1.length:Int):Int):=Zd (by first|(with_reducible assumption)|assumption);obtain⟨go10,co10,eo10,gb10,gl10,cl10,HG10⟩:=Kd.S_form HO_3.out (by omega);(first|cases eo10|(injection eo10 with ea_ en_ ec_;(first|subst ea_|(injection ea_ with ea_;subst ea_));subst ec_;clear en_));have GB10:=Za gb10;have GG10:=Za HG10;clear gb10 gl10 HG10;obtain⟨_,ce10,hcl10,hM10,hcc10,hfr10,_,_⟩:=Kd.S_elem HO_3.out z116 (x4_1:Int) p10 q10;obtain⟨ve10_1,rfl,ge10_1⟩:=Zc9 hM10;have hx10_0:w11.cell? ⟨go10,(x4_1:Int).toNat * 3,none⟩=some (.string ((Zz x3_1 x4_1).f0)):=hcc10 0 _ rfl;have hx10_1:w11.cell? ⟨go10,(x4_1:Int).toNat * 3+1,none⟩=some (ve10_1):=hcc10 1 _ rfl;have hx10_2:w11.cell? ⟨go10,(x4_1:Int).toNat * 3+2,none⟩=some (.int .i64 ((Zz x3_1 x4_1).f2)):=hcc10 2 _ rfl;have hf10_0:w11.frozen? ⟨go10,(x4_1:Int).toNat * 3,none⟩=false:=hfr10 0;have hf10_1:w11.frozen? ⟨go10,(x4_1:Int).toNat * 3+1,none⟩=false:=hfr10 1;have hf10_2:w11.frozen? ⟨go10,(x4_1:Int).toNat * 3+2,none⟩=false:=hfr10 2;clear hcl10 hcc10 hfr10 hM10;replace p10:=eq_true p10;replace q10:=eq_true q10;have n_:=Za (Kd.S_mono (ok':=(fun k_=>some k_≠(.slice As_ t70006.length cs_:Value).ownBlock)) HO_3.out (fun k_ hk=>hk.2));clear HO_3;have HO_3:=n_;clear n_;have HX12:=Za (show Kd.S k116 116 w11 w.heap.size (fun k_=>((fun _=>True)) k_∧¬((fun k_=>some k_=(.slice As_ t70006.length cs_:Value).ownBlock)) k_) (.slice (some ⟨go10,0,none⟩) x3_1.length co10) x3_1 from(by(with_reducible repeat(first|apply Kd.S_alloc|apply Kd.S_drewN|apply Kd.S_drew));exact Kd.S_mono HO_3.out (fun k_ hk=>⟨trivial,fun e_=>hk e_⟩)));obtain⟨oki12,ce12,hcl12,hM12,hcc12,hfr12,hoki12,hH12⟩:=Kd.S_elem HX12.out z116 (x4_1:Int) (Zd (by first|(with_reducible assumption)|assumption)) (by have h_:(x4_1:Int)<((x3_1.length:Int):Int):=Zd (by first|(with_reducible assumption)|assumption);first|exact h_|(have e_:=(Kd.S_reads' HO_3.out).1;omega)|simpa using h_);obtain⟨ve12_1,rfl,ge12_1⟩:=Zc9 hM12;have HP12:=Kd.S_seg hH12 (Zd (by first|(with_reducible assumption)|assumption)) (by have h_:(x4_1:Int)<((x3_1.length:Int):Int):=Zd (by first|(with_reducible assumption)|assumption);first|exact h_|(have e_:=(Kd.S_reads' HO_3.out).1;omega)|simpa using h_) (seg:=[.string t70005,(.slice As_ t70006.length cs_),.int .i64 t70009]) (j:=0) (show 3≤3 from by decide) (x':=(⟨t70005,t70006,t70009⟩:S116)) (k116_mkM _ _ _ (⟨t70005,t70006,t70009⟩:S116) (Kd.R_mono (Kd.R_tight rfl (Kd.R_mono (ok':=fun k_=>((fun _=>True)) k_∧k_≠go10) (Kd.R_apart' (HO70008.out) (Kd.S_typed HO_3.out) (by decide)) (fun k_ hk=>⟨trivial,fun e_=>(hk.2) (by rw[e_];rfl)⟩))) (fun _ h_=>Or.inr (h_)))) (fun _ hk=>hk) (fun k_ hk_=>((Kd.R_mono (ok':=fun k_=>((fun _=>True)) k_∧k_≠go10) (Kd.R_apart' (HO70008.out) (Kd.S_typed HO_3.out) (by decide)) (fun k_ hk=>⟨trivial,fun e_=>(hk.2) (by rw[e_];rfl)⟩))).1 k_ hk_.symm);have hx12_0:=hcc12 0 _ rfl;(try simp only[show(k116).sz=3 from rfl,Nat.mul_one,Nat.add_zero] at hx12_0);have hf12_0:=hfr12 0;(try simp only[show(k116).sz=3 from rfl,Nat.mul_one,Nat.add_zero] at hf12_0);have hx12_1:=hcc12 1 _ rfl;(try simp only[show(k116).sz=3 from rfl,Nat.mul_one,Nat.add_zero] at hx12_1);have hf12_1:=hfr12 1;(try simp only[show(k116).sz=3 from rfl,Nat.mul_one,Nat.add_zero] at hf12_1);have hx12_2:=hcc12 2 _ rfl;(try simp only[show(k116).sz=3 from rfl,Nat.mul_one,Nat.add_zero] at hx12_2);have hf12_2:=hfr12 2;(try simp only[show(k116).sz=3 from rfl,Nat.mul_one,Nat.add_zero] at hf12_2);clear hcl12 hcc12 hfr12 hM12 hoki12 hH12)|((with_reducible refine Zbv (t:=116) (p:=21) rfl ?_);refine Zbl (t:=116) (p:=21) (v:=?vo_w13) (w1:=(((w11.setCell ⟨go10,(x4_1:Int).toNat * 3,none⟩ (.string t70005)).setCell ⟨go10,(x4_1:Int).toNat * 3+1,none⟩ (.slice As_ t70006.length cs_)).setCell ⟨go10,(x4_1:Int).toNat * 3+2,none⟩ (.int .i64 t70009))) ?hg ?ho ?hn ?hr ?_;(case ho=>rfl);(case hg=>rfl);(case hn=>rfl);(case hr=>first|(go_simp;done)|(go_simp;rfl));intro w13 hw;have hg:w11.grownBy w13 (some go10):=(by rw[hw];exact HP12.2);have hp_:Kd.S k116 116 w13 w.heap.size (fun _=>True) (.slice (some ⟨go10,0,none⟩) x3_1.length co10) y70010:=(by rw[hw,Ny70010.out];exact HP12.1);clear HP12;replace HO_3:=Za (hp_);replace HB:=Za ((by rw[hw];exact Zq (Zq (Zq (HB.out) GB10.out) GB10.out) GB10.out:Below w.heap.size w w13));clear HO70008;clear hg hw hp_))
        go_roundg k1
        case measure=>have:=HK1.out;omega
        case rel=>exact⟨(y70010),(wrap64 (x4_1+1)),(by first|rfl|(simp;done)|(simp[*];done)),H',⟨by have:=HK1.out;omega⟩,⟨by(with_reducible repeat(first|apply Kd.S_alloc|apply Kd.S_drewN|apply Kd.S_drew));exact HO_3.out⟩,⟨by repeat(first|(with_reducible first|exact HB.out|apply Zn|apply Zm|apply Zt)|exact HB.out)⟩⟩
       ·rw[if_neg c9] at H
        exact absurd H (by simp)
      ·rw[if_neg c7] at H
       exact absurd H (by simp)
     ·rw[if_neg c6] at H
      have c6b0:decide (x4_1<(l0.length:Int))=false:=Zf c6
      clear c6
      obtain rfl:=Zg H
      go_wp2
      go_ret
      exact⟨_,by first|rfl|(simp[ZB,ZA] <;> rfl)|(simp[*,ZB,ZA] <;> rfl),by(with_reducible repeat(first|apply Kd.S_alloc|apply Kd.S_drewN|apply Kd.S_drew));exact HO_3.out,by repeat(first|(with_reducible first|exact HB.out|apply Zn|apply Zm|apply Zt)|exact HB.out)⟩
  ·rw[if_neg c3] at H
   exact absurd H (by simp)
 ·rw[if_neg c2] at H
  exact absurd H (by simp)
end Go.Proofs.Ytodfnelilhjoeaa.Pr
