/- The texts of one claim, put together by a program of this session. -/
import Derived.Test.YtoeimopgoaffcaaGreatDoorProg
import Derived.Below
import Derived.Deep.Draws
import Derived.Deep.AppendLies
import Derived.Maps.AppendAt
import Derived.OwnWalk
import Derived.Laws.BytesArg
import Derived.Laws.MakeOwn
import Derived.Laws.OwnMore
import Derived.Deep.OwnRows
import Derived.Tactics
import Derived.Lib.ConvBytes
import Derived.Laws.Slices
import Derived.WalkKit
import Derived.KernelRfl
import Derived.RowKit3
import Derived.Deep.LoopGhost
import Derived.Deep.QuietTactic
import Derived.BigQuiet
import Derived.WideLaws
import Derived.Deep.DeepCutAuto
import Derived.Deep.CutBlock
import Derived.Deep.RegionHeld3
import Derived.Laws.Rows
import Derived.Lib.AppendStr
import Derived.ArgAppend
import Derived.Laws.IdiomCopy
import Derived.OrdersHeld
import Derived.Laws.BitsLemmas
import Derived.RowKit
import Derived.ChangeArms
import Derived.ChangeSlices
import Derived.WideShapes
import Derived.Deep.Slices
import Derived.Test.YtoeimopgoaffcaaGreatDoorBBs0
namespace Go.Proofs.YtoeimopgoaffcaaGreatDoor.Pr
open Go.RowKit Go.Proofs.YtoeimopgoaffcaaGreatDoorW.PrintWords Go.Proofs.YtoeimopgoaffcaaGreatDoorW.PrintLast Go.Proofs.YtoeimopgoaffcaaGreatDoorW.PrintMore
attribute [local go_sem] ZU ZS ZW ZV ZO ZN ZT ZR
set_option linter.unusedVariables false
set_option linter.unusedSimpArgs false
def errW:Option Int→Value
 | none=>.nilIface
 | some c=>.iface 198 (.int .i64 c)
theorem ZC:errW none=.nilIface:=rfl
theorem ZB (c:Int):errW (some c)=.iface 198 (.int .i64 c):=rfl
theorem Zbi:(Tryz.prog.info? 3).map (fun i=>(i.zero,i.size,i.bytes))=some (some (.int .i64 0),1,8):=by kernel_rfl
theorem info4:(Tryz.prog.info? 4).map (fun i=>(i.zero,i.size,i.bytes))=some (some (.bool false),1,1):=by kernel_rfl
theorem info9:(Tryz.prog.info? 9).map (fun i=>(i.zero,i.size,i.bytes))=some (some (.string ⟨#[]⟩),1,16):=by kernel_rfl
theorem info39:(Tryz.prog.info? 39).map (fun i=>(i.zero,i.size,i.bytes))=some (some (.agg #[(.string ⟨#[]⟩),(.slice none 0 0),(.int .i64 0)]),3,48):=by kernel_rfl
theorem info82:(Tryz.prog.info? 82).map (fun i=>(i.zero,i.size,i.bytes))=some (some (.agg #[(.int .i64 0),(.int .i64 0),(.int .i64 0),(.int .i64 0),(.bool false)]),5,40):=by kernel_rfl
theorem ZdL:(Tryz.prog.info? 112).map (fun i=>(i.zero,i.size,i.bytes))=some (some (.agg #[(.int .i64 0),(.int .i64 0),(.int .i64 0),(.int .i64 0)]),4,32):=by kernel_rfl
theorem ZcY:(Tryz.prog.info? 184).map (fun i=>(i.zero,i.size,i.bytes))=some (some (.agg #[(.int .i64 0),(.int .i64 0),(.int .i64 0)]),3,24):=by kernel_rfl
def rd_L3 (xs:List (List Int)) (i:Int):(List Int):=xs.getD i.toNat ([]:List Int)
structure S39 where
 f0:ByteArray
 f1:(List Int)
 f2:Int
def z39:S39:=⟨(⟨#[]⟩:ByteArray),([]:List Int),(0:Int)⟩
def k39:Kd S39:=Kd.iso (Kd.pair Kd.string (Kd.pair (Kd.slice 3 (Kd.int .i64)) (Kd.int .i64))) (fun x:S39=>(x.f0,x.f1,x.f2))
theorem k39_open {w:World} {x:S39} {cs:List Value} (h:k39.K w x cs):∃A1 c1,cs=[.string x.f0,.slice A1 x.f1.length c1,.int .i64 x.f2]∧x.f1.length≤c1∧(Kd.int .i64).C w A1 x.f1.length x.f1:=by
 obtain⟨_,_,rfl,rfl,⟨_,_,rfl,⟨A1,c1,rfl,l1,g1⟩,rfl⟩⟩:=h
 exact⟨A1,c1,rfl,l1,g1⟩
theorem k39_openM {w:World} {base:Nat} {ok:Nat→Prop} {x:S39} {cs:List Value} (h:k39.M w base ok x cs):∃v1,cs=[.string x.f0,v1,.int .i64 x.f2]∧(Kd.int .i64).R 3 w base ok v1 x.f1:=by
 obtain⟨_,_,rfl,rfl,⟨_,_,rfl,⟨v1,rfl,g1⟩,rfl⟩⟩:=h
 exact⟨v1,rfl,g1⟩
theorem k39_mk (w:World) (x:S39) {A1:Option Addr} {c1:Nat} (l1:x.f1.length≤c1) (g1:(Kd.int .i64).C w A1 x.f1.length x.f1):k39.K w x [.string x.f0,.slice A1 x.f1.length c1,.int .i64 x.f2]:=⟨[.string x.f0],[.slice A1 x.f1.length c1,.int .i64 x.f2],rfl,rfl,⟨[.slice A1 x.f1.length c1],[.int .i64 x.f2],rfl,⟨A1,c1,rfl,l1,g1⟩,rfl⟩⟩
theorem k39_mkM (w:World) (base:Nat) (ok:Nat→Prop) (x:S39) {v1:Value} (g1:(Kd.int .i64).R 3 w base ok v1 x.f1):k39.M w base ok x [.string x.f0,v1,.int .i64 x.f2]:=⟨[.string x.f0],[v1,.int .i64 x.f2],rfl,rfl,⟨[v1],[.int .i64 x.f2],rfl,⟨v1,rfl,g1⟩,rfl⟩⟩
theorem k39_mkF (W:World) (ok:Nat→Prop) (x:S39) {A1:Option Addr} {c1:Nat} (l1:x.f1.length≤c1) (g1:Kd.F (Kd.int .i64) W ok A1 x.f1.length x.f1):Kd.FK k39 W ok x [.string x.f0,.slice A1 x.f1.length c1,.int .i64 x.f2]:=fun W2 hW=>k39_mk W2 x l1 (g1 W2 hW)
def ZH (xs:List S39) (i:Int):S39:=xs.getD i.toNat z39
theorem Za0 {w:World} {A:Option Addr} {n:Nat} {xs:List S39} (h:Kd.C k39 w A n xs) (i:Int) (h0:0≤i) (h1:i<n):∃ad A1 c1,A=some ad∧w.cell? (ad.add (i.toNat * 3))=some (.string (ZH xs i).f0)∧w.cell? ⟨(ad.add (i.toNat * 3)).block,(ad.add (i.toNat * 3)).off+1,none⟩=some (.slice A1 (ZH xs i).f1.length c1)∧w.cell? ⟨(ad.add (i.toNat * 3)).block,(ad.add (i.toNat * 3)).off+2,none⟩=some (.int .i64 (ZH xs i).f2)∧(ZH xs i).f1.length≤c1∧(Kd.int .i64).C w A1 (ZH xs i).f1.length (ZH xs i).f1:=by
 obtain⟨ad,c,e,_,hK,hc0⟩:=Kd.C_get h z39 i h0 h1
 have hc:∀j u,c[j]? = some u→w.cell? (ad.add (i.toNat * 3+j))=some u:=hc0
 obtain⟨A1,c1,rfl,l1,g1⟩:=k39_open hK
 exact⟨ad,A1,c1,e,hc 0 _ rfl,by rw[← Za3 _ _ 1 (by omega)];exact hc 1 _ rfl,by rw[← Za3 _ _ 2 (by omega)];exact hc 2 _ rfl,l1,g1⟩
structure S82 where
 f0:Int
 f1:Int
 f2:Int
 f3:Int
 f4:Bool
def z82:S82:=⟨(0:Int),(0:Int),(0:Int),(0:Int),false⟩
def k82:Kd S82:=Kd.iso (Kd.pair (Kd.int .i64) (Kd.pair (Kd.int .i64) (Kd.pair (Kd.int .i64) (Kd.pair (Kd.int .i64) Kd.bool)))) (fun x:S82=>(x.f0,x.f1,x.f2,x.f3,x.f4))
theorem k82_open {w:World} {x:S82} {cs:List Value} (h:k82.K w x cs):cs=[.int .i64 x.f0,.int .i64 x.f1,.int .i64 x.f2,.int .i64 x.f3,.bool x.f4]:=by
 obtain⟨_,_,rfl,rfl,⟨_,_,rfl,rfl,⟨_,_,rfl,rfl,⟨_,_,rfl,rfl,rfl⟩⟩⟩⟩:=h
 exact rfl
theorem k82_openM {w:World} {base:Nat} {ok:Nat→Prop} {x:S82} {cs:List Value} (h:k82.M w base ok x cs):cs=[.int .i64 x.f0,.int .i64 x.f1,.int .i64 x.f2,.int .i64 x.f3,.bool x.f4]:=by
 obtain⟨_,_,rfl,rfl,⟨_,_,rfl,rfl,⟨_,_,rfl,rfl,⟨_,_,rfl,rfl,rfl⟩⟩⟩⟩:=h
 exact rfl
theorem k82_mkM (w:World) (base:Nat) (ok:Nat→Prop) (x:S82)  : k82.M w base ok x [.int .i64 x.f0,.int .i64 x.f1,.int .i64 x.f2,.int .i64 x.f3,.bool x.f4]:=⟨[.int .i64 x.f0],[.int .i64 x.f1,.int .i64 x.f2,.int .i64 x.f3,.bool x.f4],rfl,rfl,⟨[.int .i64 x.f1],[.int .i64 x.f2,.int .i64 x.f3,.bool x.f4],rfl,rfl,⟨[.int .i64 x.f2],[.int .i64 x.f3,.bool x.f4],rfl,rfl,⟨[.int .i64 x.f3],[.bool x.f4],rfl,rfl,rfl⟩⟩⟩⟩
def ZD (xs:List S82) (i:Int):S82:=xs.getD i.toNat z82
theorem Zbp {w:World} {A:Option Addr} {n:Nat} {xs:List S82} (h:Kd.C k82 w A n xs) (i:Int) (h0:0≤i) (h1:i<n):∃ad ,A=some ad∧w.cell? (ad.add (i.toNat * 5))=some (.int .i64 (ZD xs i).f0)∧w.cell? ⟨(ad.add (i.toNat * 5)).block,(ad.add (i.toNat * 5)).off+1,none⟩=some (.int .i64 (ZD xs i).f1)∧w.cell? ⟨(ad.add (i.toNat * 5)).block,(ad.add (i.toNat * 5)).off+2,none⟩=some (.int .i64 (ZD xs i).f2)∧w.cell? ⟨(ad.add (i.toNat * 5)).block,(ad.add (i.toNat * 5)).off+3,none⟩=some (.int .i64 (ZD xs i).f3)∧w.cell? ⟨(ad.add (i.toNat * 5)).block,(ad.add (i.toNat * 5)).off+4,none⟩=some (.bool (ZD xs i).f4):=by
 obtain⟨ad,c,e,_,hK,hc0⟩:=Kd.C_get h z82 i h0 h1
 have hc:∀j u,c[j]? = some u→w.cell? (ad.add (i.toNat * 5+j))=some u:=hc0
 obtain rfl:=k82_open hK
 exact⟨ad,e,hc 0 _ rfl,by rw[← Za3 _ _ 1 (by omega)];exact hc 1 _ rfl,by rw[← Za3 _ _ 2 (by omega)];exact hc 2 _ rfl,by rw[← Za3 _ _ 3 (by omega)];exact hc 3 _ rfl,by rw[← Za3 _ _ 4 (by omega)];exact hc 4 _ rfl⟩
def rd_L7 (xs:List (List S39)) (i:Int):(List S39):=xs.getD i.toNat ([]:List S39)
def rd_L8 (xs:List (List S82)) (i:Int):(List S82):=xs.getD i.toNat ([]:List S82)
structure S25 where
 f0:(List S39)
 f1:(List S82)
 f2:Int
def z25:S25:=⟨([]:List S39),([]:List S82),(0:Int)⟩
def k25:Kd S25:=Kd.iso (Kd.pair (Kd.slice 39 k39) (Kd.pair (Kd.slice 82 k82) (Kd.int .i64))) (fun x:S25=>(x.f0,x.f1,x.f2))
def rd_T25 (xs:List S25) (i:Int):S25:=xs.getD i.toNat z25
structure S143 where
 f0:ByteArray
 f1:(List Int)
 f2:Int
def z143:S143:=⟨(⟨#[]⟩:ByteArray),([]:List Int),(0:Int)⟩
def k143:Kd S143:=Kd.iso (Kd.pair Kd.string (Kd.pair (Kd.slice 3 (Kd.int .i64)) (Kd.int .i64))) (fun x:S143=>(x.f0,x.f1,x.f2))
theorem k143_open {w:World} {x:S143} {cs:List Value} (h:k143.K w x cs):∃A1 c1,cs=[.string x.f0,.slice A1 x.f1.length c1,.int .i64 x.f2]∧x.f1.length≤c1∧(Kd.int .i64).C w A1 x.f1.length x.f1:=by
 obtain⟨_,_,rfl,rfl,⟨_,_,rfl,⟨A1,c1,rfl,l1,g1⟩,rfl⟩⟩:=h
 exact⟨A1,c1,rfl,l1,g1⟩
def ZaC (xs:List S143) (i:Int):S143:=xs.getD i.toNat z143
theorem at_T143 {w:World} {A:Option Addr} {n:Nat} {xs:List S143} (h:Kd.C k143 w A n xs) (i:Int) (h0:0≤i) (h1:i<n):∃ad A1 c1,A=some ad∧w.cell? (ad.add (i.toNat * 3))=some (.string (ZaC xs i).f0)∧w.cell? ⟨(ad.add (i.toNat * 3)).block,(ad.add (i.toNat * 3)).off+1,none⟩=some (.slice A1 (ZaC xs i).f1.length c1)∧w.cell? ⟨(ad.add (i.toNat * 3)).block,(ad.add (i.toNat * 3)).off+2,none⟩=some (.int .i64 (ZaC xs i).f2)∧(ZaC xs i).f1.length≤c1∧(Kd.int .i64).C w A1 (ZaC xs i).f1.length (ZaC xs i).f1:=by
 obtain⟨ad,c,e,_,hK,hc0⟩:=Kd.C_get h z143 i h0 h1
 have hc:∀j u,c[j]? = some u→w.cell? (ad.add (i.toNat * 3+j))=some u:=hc0
 obtain⟨A1,c1,rfl,l1,g1⟩:=k143_open hK
 exact⟨ad,A1,c1,e,hc 0 _ rfl,by rw[← Za3 _ _ 1 (by omega)];exact hc 1 _ rfl,by rw[← Za3 _ _ 2 (by omega)];exact hc 2 _ rfl,l1,g1⟩
structure S147 where
 f0:Int
 f1:Int
 f2:Int
 f3:Int
 f4:Bool
def z147:S147:=⟨(0:Int),(0:Int),(0:Int),(0:Int),false⟩
def k147:Kd S147:=Kd.iso (Kd.pair (Kd.int .i64) (Kd.pair (Kd.int .i64) (Kd.pair (Kd.int .i64) (Kd.pair (Kd.int .i64) Kd.bool)))) (fun x:S147=>(x.f0,x.f1,x.f2,x.f3,x.f4))
theorem k147_open {w:World} {x:S147} {cs:List Value} (h:k147.K w x cs):cs=[.int .i64 x.f0,.int .i64 x.f1,.int .i64 x.f2,.int .i64 x.f3,.bool x.f4]:=by
 obtain⟨_,_,rfl,rfl,⟨_,_,rfl,rfl,⟨_,_,rfl,rfl,⟨_,_,rfl,rfl,rfl⟩⟩⟩⟩:=h
 exact rfl
def Za4 (xs:List S147) (i:Int):S147:=xs.getD i.toNat z147
theorem at_T147 {w:World} {A:Option Addr} {n:Nat} {xs:List S147} (h:Kd.C k147 w A n xs) (i:Int) (h0:0≤i) (h1:i<n):∃ad ,A=some ad∧w.cell? (ad.add (i.toNat * 5))=some (.int .i64 (Za4 xs i).f0)∧w.cell? ⟨(ad.add (i.toNat * 5)).block,(ad.add (i.toNat * 5)).off+1,none⟩=some (.int .i64 (Za4 xs i).f1)∧w.cell? ⟨(ad.add (i.toNat * 5)).block,(ad.add (i.toNat * 5)).off+2,none⟩=some (.int .i64 (Za4 xs i).f2)∧w.cell? ⟨(ad.add (i.toNat * 5)).block,(ad.add (i.toNat * 5)).off+3,none⟩=some (.int .i64 (Za4 xs i).f3)∧w.cell? ⟨(ad.add (i.toNat * 5)).block,(ad.add (i.toNat * 5)).off+4,none⟩=some (.bool (Za4 xs i).f4):=by
 obtain⟨ad,c,e,_,hK,hc0⟩:=Kd.C_get h z147 i h0 h1
 have hc:∀j u,c[j]? = some u→w.cell? (ad.add (i.toNat * 5+j))=some u:=hc0
 obtain rfl:=k147_open hK
 exact⟨ad,e,hc 0 _ rfl,by rw[← Za3 _ _ 1 (by omega)];exact hc 1 _ rfl,by rw[← Za3 _ _ 2 (by omega)];exact hc 2 _ rfl,by rw[← Za3 _ _ 3 (by omega)];exact hc 3 _ rfl,by rw[← Za3 _ _ 4 (by omega)];exact hc 4 _ rfl⟩
structure S58 where
 f0:(List Int)
 f1:(List Int)
def z58:S58:=⟨([]:List Int),([]:List Int)⟩
def k58:Kd S58:=Kd.iso (Kd.pair (Kd.slice 3 (Kd.int .i64)) (Kd.slice 3 (Kd.int .i64))) (fun x:S58=>(x.f0,x.f1))
def rd_T58 (xs:List S58) (i:Int):S58:=xs.getD i.toNat z58
structure S110 where
 f0:Int
 f1:Int
def z110:S110:=⟨(0:Int),(0:Int)⟩
def k110:Kd S110:=Kd.iso (Kd.pair (Kd.int .i64) (Kd.int .i64)) (fun x:S110=>(x.f0,x.f1))
theorem k110_open {w:World} {x:S110} {cs:List Value} (h:k110.K w x cs):cs=[.int .i64 x.f0,.int .i64 x.f1]:=by
 obtain⟨_,_,rfl,rfl,rfl⟩:=h
 exact rfl
theorem k110_openM {w:World} {base:Nat} {ok:Nat→Prop} {x:S110} {cs:List Value} (h:k110.M w base ok x cs):cs=[.int .i64 x.f0,.int .i64 x.f1]:=by
 obtain⟨_,_,rfl,rfl,rfl⟩:=h
 exact rfl
theorem k110_mkM (w:World) (base:Nat) (ok:Nat→Prop) (x:S110)  : k110.M w base ok x [.int .i64 x.f0,.int .i64 x.f1]:=⟨[.int .i64 x.f0],[.int .i64 x.f1],rfl,rfl,rfl⟩
def rd_T110 (xs:List S110) (i:Int):S110:=xs.getD i.toNat z110
structure S112 where
 f0:Int
 f1:Int
 f2:S110
def z112:S112:=⟨(0:Int),(0:Int),z110⟩
def k112:Kd S112:=Kd.iso (Kd.pair (Kd.int .i64) (Kd.pair (Kd.int .i64) k110)) (fun x:S112=>(x.f0,x.f1,x.f2))
theorem k112_open {w:World} {x:S112} {cs:List Value} (h:k112.K w x cs):cs=[.int .i64 x.f0,.int .i64 x.f1,.int .i64 x.f2.f0,.int .i64 x.f2.f1]:=by
 obtain⟨_,_,rfl,rfl,⟨_,_,rfl,rfl,s2⟩⟩:=h
 obtain rfl:=k110_open s2
 exact rfl
theorem k112_openM {w:World} {base:Nat} {ok:Nat→Prop} {x:S112} {cs:List Value} (h:k112.M w base ok x cs):cs=[.int .i64 x.f0,.int .i64 x.f1,.int .i64 x.f2.f0,.int .i64 x.f2.f1]:=by
 obtain⟨_,_,rfl,rfl,⟨_,_,rfl,rfl,s2⟩⟩:=h
 obtain rfl:=k110_openM s2
 exact rfl
theorem Zdd (w:World) (base:Nat) (ok:Nat→Prop) (x:S112)  : k112.M w base ok x [.int .i64 x.f0,.int .i64 x.f1,.int .i64 x.f2.f0,.int .i64 x.f2.f1]:=⟨[.int .i64 x.f0],[.int .i64 x.f1,.int .i64 x.f2.f0,.int .i64 x.f2.f1],rfl,rfl,⟨[.int .i64 x.f1],[.int .i64 x.f2.f0,.int .i64 x.f2.f1],rfl,rfl,(k110_mkM w base ok x.f2 )⟩⟩
def ZbG (xs:List S112) (i:Int):S112:=xs.getD i.toNat z112
theorem ZeV {w:World} {A:Option Addr} {n:Nat} {xs:List S112} (h:Kd.C k112 w A n xs) (i:Int) (h0:0≤i) (h1:i<n):∃ad ,A=some ad∧w.cell? (ad.add (i.toNat * 4))=some (.int .i64 (ZbG xs i).f0)∧w.cell? ⟨(ad.add (i.toNat * 4)).block,(ad.add (i.toNat * 4)).off+1,none⟩=some (.int .i64 (ZbG xs i).f1)∧w.cell? ⟨(ad.add (i.toNat * 4)).block,(ad.add (i.toNat * 4)).off+2,none⟩=some (.int .i64 (ZbG xs i).f2.f0)∧w.cell? ⟨(ad.add (i.toNat * 4)).block,(ad.add (i.toNat * 4)).off+3,none⟩=some (.int .i64 (ZbG xs i).f2.f1):=by
 obtain⟨ad,c,e,_,hK,hc0⟩:=Kd.C_get h z112 i h0 h1
 have hc:∀j u,c[j]? = some u→w.cell? (ad.add (i.toNat * 4+j))=some u:=hc0
 obtain rfl:=k112_open hK
 exact⟨ad,e,hc 0 _ rfl,by rw[← Za3 _ _ 1 (by omega)];exact hc 1 _ rfl,by rw[← Za3 _ _ 2 (by omega)];exact hc 2 _ rfl,by rw[← Za3 _ _ 3 (by omega)];exact hc 3 _ rfl⟩
def rd_L15 (xs:List (List S112)) (i:Int):(List S112):=xs.getD i.toNat ([]:List S112)
structure S54 where
 f0:Int
 f1:(List S112)
def z54:S54:=⟨(0:Int),([]:List S112)⟩
def k54:Kd S54:=Kd.iso (Kd.pair (Kd.int .i64) (Kd.slice 112 k112)) (fun x:S54=>(x.f0,x.f1))
def rd_T54 (xs:List S54) (i:Int):S54:=xs.getD i.toNat z54
structure S184 where
 f0:Int
 f1:Int
 f2:Int
def z184:S184:=⟨(0:Int),(0:Int),(0:Int)⟩
def k184:Kd S184:=Kd.iso (Kd.pair (Kd.int .i64) (Kd.pair (Kd.int .i64) (Kd.int .i64))) (fun x:S184=>(x.f0,x.f1,x.f2))
theorem k184_open {w:World} {x:S184} {cs:List Value} (h:k184.K w x cs):cs=[.int .i64 x.f0,.int .i64 x.f1,.int .i64 x.f2]:=by
 obtain⟨_,_,rfl,rfl,⟨_,_,rfl,rfl,rfl⟩⟩:=h
 exact rfl
theorem ZcK (w:World) (base:Nat) (ok:Nat→Prop) (x:S184)  : k184.M w base ok x [.int .i64 x.f0,.int .i64 x.f1,.int .i64 x.f2]:=⟨[.int .i64 x.f0],[.int .i64 x.f1,.int .i64 x.f2],rfl,rfl,⟨[.int .i64 x.f1],[.int .i64 x.f2],rfl,rfl,rfl⟩⟩
def Zan (xs:List S184) (i:Int):S184:=xs.getD i.toNat z184
theorem Zb1 {w:World} {A:Option Addr} {n:Nat} {xs:List S184} (h:Kd.C k184 w A n xs) (i:Int) (h0:0≤i) (h1:i<n):∃ad ,A=some ad∧w.cell? (ad.add (i.toNat * 3))=some (.int .i64 (Zan xs i).f0)∧w.cell? ⟨(ad.add (i.toNat * 3)).block,(ad.add (i.toNat * 3)).off+1,none⟩=some (.int .i64 (Zan xs i).f1)∧w.cell? ⟨(ad.add (i.toNat * 3)).block,(ad.add (i.toNat * 3)).off+2,none⟩=some (.int .i64 (Zan xs i).f2):=by
 obtain⟨ad,c,e,_,hK,hc0⟩:=Kd.C_get h z184 i h0 h1
 have hc:∀j u,c[j]? = some u→w.cell? (ad.add (i.toNat * 3+j))=some u:=hc0
 obtain rfl:=k184_open hK
 exact⟨ad,e,hc 0 _ rfl,by rw[← Za3 _ _ 1 (by omega)];exact hc 1 _ rfl,by rw[← Za3 _ _ 2 (by omega)];exact hc 2 _ rfl⟩
def rd_L18 (xs:List (List S184)) (i:Int):(List S184):=xs.getD i.toNat ([]:List S184)
structure S156 where
 f0:Int
 f1:(List S184)
def z156:S156:=⟨(0:Int),([]:List S184)⟩
def k156:Kd S156:=Kd.iso (Kd.pair (Kd.int .i64) (Kd.slice 184 k184)) (fun x:S156=>(x.f0,x.f1))
def rd_T156 (xs:List S156) (i:Int):S156:=xs.getD i.toNat z156
def rd_L20 (xs:List (List S143)) (i:Int):(List S143):=xs.getD i.toNat ([]:List S143)
def rd_L21 (xs:List (List S147)) (i:Int):(List S147):=xs.getD i.toNat ([]:List S147)
structure S47 where
 f0:(List S143)
 f1:(List S147)
 f2:Int
def z47:S47:=⟨([]:List S143),([]:List S147),(0:Int)⟩
def k47:Kd S47:=Kd.iso (Kd.pair (Kd.slice 143 k143) (Kd.pair (Kd.slice 147 k147) (Kd.int .i64))) (fun x:S47=>(x.f0,x.f1,x.f2))
theorem k47_open {w:World} {x:S47} {cs:List Value} (h:k47.K w x cs):∃A0 c0 A1 c1,cs=[.slice A0 x.f0.length c0,.slice A1 x.f1.length c1,.int .i64 x.f2]∧x.f0.length≤c0∧k143.C w A0 x.f0.length x.f0∧x.f1.length≤c1∧k147.C w A1 x.f1.length x.f1:=by
 obtain⟨_,_,rfl,⟨A0,c0,rfl,l0,g0⟩,⟨_,_,rfl,⟨A1,c1,rfl,l1,g1⟩,rfl⟩⟩:=h
 exact⟨A0,c0,A1,c1,rfl,l0,g0,l1,g1⟩
def rd_T47 (xs:List S47) (i:Int):S47:=xs.getD i.toNat z47
structure S49 where
 f0:(List Int)
 f1:(List Int)
def z49:S49:=⟨([]:List Int),([]:List Int)⟩
def k49:Kd S49:=Kd.iso (Kd.pair (Kd.slice 3 (Kd.int .i64)) (Kd.slice 3 (Kd.int .i64))) (fun x:S49=>(x.f0,x.f1))
theorem k49_open {w:World} {x:S49} {cs:List Value} (h:k49.K w x cs):∃A0 c0 A1 c1,cs=[.slice A0 x.f0.length c0,.slice A1 x.f1.length c1]∧x.f0.length≤c0∧(Kd.int .i64).C w A0 x.f0.length x.f0∧x.f1.length≤c1∧(Kd.int .i64).C w A1 x.f1.length x.f1:=by
 obtain⟨_,_,rfl,⟨A0,c0,rfl,l0,g0⟩,⟨A1,c1,rfl,l1,g1⟩⟩:=h
 exact⟨A0,c0,A1,c1,rfl,l0,g0,l1,g1⟩
def rd_T49 (xs:List S49) (i:Int):S49:=xs.getD i.toNat z49
end Go.Proofs.YtoeimopgoaffcaaGreatDoor.Pr
namespace Go.Proofs.YtoeimopgoaffcaaGreatDoor.Op
open Go.RowKit Go.ChangeShapes Go.WideShapes Go.Proofs.YtoeimopgoaffcaaGreatDoorW.PrintWords
structure Za7 {α:Type} (P:Program) (d:Kd α) (t:TypeId) (ok:α→Prop):Prop where
 cells:P.cellsOf t=d.sz
 op:∀{H:Type} {enc:TypeId×Value→H} {w:World} {base fuel:Nat} {cs:List Value} {x:DataW H×List MemPlace},DataW.trod enc P w base (fun _=>true) true fuel t cs=some x→∃y,d.K w y cs∧ok y
theorem Za7.int {P:Program} {t:TypeId} {k:IntKind} (ht:P.underlying t=some (.int k)) (hc:P.cellsOf t=1):Za7 P (Kd.int k) t (fun n=>(Lit.int k n).wf=true):=
 ⟨hc,fun h=>by
  obtain⟨n,rfl,_,hw⟩:=DataW.trod_int ht h
  exact⟨n,rfl,hw⟩⟩
theorem Za7.bool {P:Program} {t:TypeId} (ht:P.underlying t=some .bool) (hc:P.cellsOf t=1):Za7 P Kd.bool t (fun _=>True):=
 ⟨hc,fun h=>by
  obtain⟨n,rfl,_⟩:=DataW.trod_bool ht h
  exact⟨n,rfl,trivial⟩⟩
theorem Za7.string {P:Program} {t:TypeId} (ht:P.underlying t=some .string) (hc:P.cellsOf t=1):Za7 P Kd.string t (fun s=>s.size≤maxLen):=
 ⟨hc,fun h=>by
  obtain⟨n,rfl,_,hw⟩:=DataW.trod_string ht h
  exact⟨n,rfl,hw⟩⟩
theorem choose_list {β:Type} (Q:Nat→β→Prop) (n:Nat) (h:∀i,i<n→∃y,Q i y):∃l:List β,l.length=n∧∀i y,l[i]? = some y→Q i y:=by
 induction n with
 | zero=>exact⟨[],rfl,fun i y h=>by simp at h⟩
 | succ n ih=>
  obtain⟨l,hl,hq⟩:=ih (fun i hi=>h i (by omega))
  obtain⟨y,hy⟩:=h n (by omega)
  refine⟨l ++ [y],by simp[hl],fun i z hz=>?_⟩
  rcases Nat.lt_or_ge i l.length with hi|hi
  ·rw[List.getElem?_append_left hi] at hz
   exact hq i z hz
  ·have hlt:=(List.getElem?_eq_some_iff.1 hz).1
   rw[List.length_append,List.length_singleton] at hlt
   have e:i=l.length:=by omega
   subst e
   have hz':y=z:=by simpa using hz
   subst hz'
   rw[hl]
   exact hy
theorem Za7.slice {α:Type} {P:Program} {d:Kd α} {t e:TypeId} {ok:α→Prop} (he:Za7 P d e ok) (ht:P.underlying t=some (.slice e)) (hc:P.cellsOf t=1) :
  Za7 P (Kd.slice e d) t (fun l=>l.length≤maxLen∧∀x∈l,ok x):=
 ⟨hc,fun {H enc w base fuel cs x} h=>by
  rcases DataW.trod_slice ht h with ⟨rfl,_⟩|⟨a,len,cap,elems,rest,n,_,rfl,_,hb,hl,hm,hlen,hel,_,_⟩
  ·exact⟨[],⟨none,0,rfl,Nat.le_refl _,rfl,by simp,fun h0=>absurd h0 (by simp)⟩,by simp⟩
  ·have key:∀i,i<len→∃y,ok y∧∃c,c.length=d.sz∧d.K w y c∧∀j u,c[j]? = some u→w.cell? (a.add (i * d.sz+j))=some u:=by
    intro i hi
    have hi':=hel i hi
    rw[Zl (by omega),Option.bind_eq_some_iff] at hi'
    obtain⟨cs',h1,h2⟩:=hi'
    obtain⟨y,hk,hy⟩:=he.op h2
    refine⟨y,hy,cs',d.K_len hk,hk,fun j u hu=>?_⟩
    have:=(World.cells?_some h1).2.2 j (by
     have:=(List.getElem?_eq_some_iff.1 hu).1
     rw[d.K_len hk] at this
     rw[he.cells];exact this)
    rw[he.cells] at this
    rw[Addr.add_add] at this
    rw[this,hu]
   obtain⟨l,hll,hq⟩:=choose_list _ len key
   refine⟨l,⟨some a,cap,by rw[hll],by omega,rfl,by rw[hll];simp only[maxLen] at hm;omega,fun h0=>⟨a,rfl,fun j p hj=>?_⟩⟩,by omega,fun x hx=>?_⟩
   ·obtain⟨_,hc'⟩:=hq j p hj
    exact hc'
   ·obtain⟨i,hi⟩:=List.getElem?_of_mem hx
    exact(hq i x hi).1⟩
theorem ZcO {α β:Type} {a:Kd α} {b:Kd β} {w:World} {x:α} {y:β} {cs:List Value} {off:Nat} (h0:a.K w x ((cs.drop off).take a.sz)) (h1:b.K w y ((cs.drop (off+a.sz)).take b.sz)) :
  (Kd.pair a b).K w (x,y) ((cs.drop off).take (Kd.pair a b).sz):=
 ⟨_,_,by show(cs.drop off).take (a.sz+b.sz)=_;rw[List.take_add,List.drop_drop],h0,h1⟩
theorem Za7.fieldAt {α:Type} {P:Program} {d:Kd α} {t:TypeId} {ok:α→Prop} (ho:Za7 P d t ok) {H:Type} {enc:TypeId×Value→H} {w:World} {base fuel off:Nat} {cs:List Value} {x:Option (DataW H×List MemPlace)}
  (h:DataW.trod enc P w base (fun _=>true) true fuel t ((cs.drop off).take (P.cellsOf t))=x) (hx:x.isSome=true):∃y,d.K w y ((cs.drop off).take d.sz)∧ok y:=by
 obtain⟨z,rfl⟩:=Option.isSome_iff_exists.1 hx
 obtain⟨y,hk,hy⟩:=ho.op h
 rw[ho.cells] at hk
 exact⟨y,hk,hy⟩
end Go.Proofs.YtoeimopgoaffcaaGreatDoor.Op
namespace Go.Proofs.YtoeimopgoaffcaaGreatDoor.Pr
open Go.RowKit Go.Proofs.YtoeimopgoaffcaaGreatDoorW.PrintWords Go.Proofs.YtoeimopgoaffcaaGreatDoorW.PrintLast Go.Proofs.YtoeimopgoaffcaaGreatDoorW.PrintMore
attribute [local go_sem] ZU ZS ZW ZV ZO ZN ZT ZR
set_option linter.unusedVariables false
set_option linter.unusedSimpArgs false
open Go.Proofs.YtoeimopgoaffcaaGreatDoor.Op Go.ChangeShapes Go.WideShapes
def okS143 (x:S143):Prop:=(fun s_:ByteArray=>s_.size≤maxLen) x.f0∧(fun l_:List Int=>l_.length≤maxLen∧∀x_∈l_,(fun n_:Int=>(Lit.int .i64 n_).wf=true) x_) x.f1∧(fun n_:Int=>(Lit.int .i64 n_).wf=true) x.f2
theorem op_k143:Za7 Tryz.prog k143 143 okS143:=
 ⟨by kernel_rfl,fun {H enc w base fuel cs x} h=>by
  obtain⟨xs,n,_,_,hl,hlen,hf⟩:=DataW.trod_struct Tryz.underlying143 h
  have hl':cs.length=3:=hl.trans (by kernel_rfl)
  have hlen':xs.length=3:=hlen
  obtain⟨y0,h0,o0⟩:=(Za7.string Tryz.underlying9 (by kernel_rfl)).fieldAt (hf 0 _ rfl) (by rw[Zl (by omega)];rfl)
  obtain⟨y1,h1,o1⟩:=(Za7.slice (Za7.int Tryz.underlying3 (by kernel_rfl)) Tryz.underlying37 (by kernel_rfl)).fieldAt (hf 1 _ rfl) (by rw[Zl (by omega)];rfl)
  obtain⟨y2,h2,o2⟩:=(Za7.int Tryz.underlying3 (by kernel_rfl)).fieldAt (hf 2 _ rfl) (by rw[Zl (by omega)];rfl)
  have hk:k143.K w ⟨y0,y1,y2⟩ ((cs.drop 0).take k143.sz):=(ZcO (off:=0) h0 (ZcO (off:=1) h1 h2))
  have hcs:(cs.drop 0).take k143.sz=cs:=by rw[List.drop_zero];exact List.take_of_length_le (by rw[hl'];exact Nat.le_refl _)
  rw[hcs] at hk
  exact⟨_,hk,o0,o1,o2⟩⟩
def okS147 (x:S147):Prop:=(fun n_:Int=>(Lit.int .i64 n_).wf=true) x.f0∧(fun n_:Int=>(Lit.int .i64 n_).wf=true) x.f1∧(fun n_:Int=>(Lit.int .i64 n_).wf=true) x.f2∧(fun n_:Int=>(Lit.int .i64 n_).wf=true) x.f3∧(fun _:Bool=>True) x.f4
theorem op_k147:Za7 Tryz.prog k147 147 okS147:=
 ⟨by kernel_rfl,fun {H enc w base fuel cs x} h=>by
  obtain⟨xs,n,_,_,hl,hlen,hf⟩:=DataW.trod_struct Tryz.underlying147 h
  have hl':cs.length=5:=hl.trans (by kernel_rfl)
  have hlen':xs.length=5:=hlen
  obtain⟨y0,h0,o0⟩:=(Za7.int Tryz.underlying3 (by kernel_rfl)).fieldAt (hf 0 _ rfl) (by rw[Zl (by omega)];rfl)
  obtain⟨y1,h1,o1⟩:=(Za7.int Tryz.underlying3 (by kernel_rfl)).fieldAt (hf 1 _ rfl) (by rw[Zl (by omega)];rfl)
  obtain⟨y2,h2,o2⟩:=(Za7.int Tryz.underlying3 (by kernel_rfl)).fieldAt (hf 2 _ rfl) (by rw[Zl (by omega)];rfl)
  obtain⟨y3,h3,o3⟩:=(Za7.int Tryz.underlying3 (by kernel_rfl)).fieldAt (hf 3 _ rfl) (by rw[Zl (by omega)];rfl)
  obtain⟨y4,h4,o4⟩:=(Za7.bool Tryz.underlying4 (by kernel_rfl)).fieldAt (hf 4 _ rfl) (by rw[Zl (by omega)];rfl)
  have hk:k147.K w ⟨y0,y1,y2,y3,y4⟩ ((cs.drop 0).take k147.sz):=(ZcO (off:=0) h0 (ZcO (off:=1) h1 (ZcO (off:=2) h2 (ZcO (off:=3) h3 h4))))
  have hcs:(cs.drop 0).take k147.sz=cs:=by rw[List.drop_zero];exact List.take_of_length_le (by rw[hl'];exact Nat.le_refl _)
  rw[hcs] at hk
  exact⟨_,hk,o0,o1,o2,o3,o4⟩⟩
def okS47 (x:S47):Prop:=(fun l_:List (S143)=>l_.length≤maxLen∧∀x_∈l_,okS143 x_) x.f0∧(fun l_:List (S147)=>l_.length≤maxLen∧∀x_∈l_,okS147 x_) x.f1∧(fun n_:Int=>(Lit.int .i64 n_).wf=true) x.f2
theorem op_k47:Za7 Tryz.prog k47 47 okS47:=
 ⟨by kernel_rfl,fun {H enc w base fuel cs x} h=>by
  obtain⟨xs,n,_,_,hl,hlen,hf⟩:=DataW.trod_struct Tryz.underlying47 h
  have hl':cs.length=3:=hl.trans (by kernel_rfl)
  have hlen':xs.length=3:=hlen
  obtain⟨y0,h0,o0⟩:=(Za7.slice op_k143 Tryz.underlying44 (by kernel_rfl)).fieldAt (hf 0 _ rfl) (by rw[Zl (by omega)];rfl)
  obtain⟨y1,h1,o1⟩:=(Za7.slice op_k147 Tryz.underlying45 (by kernel_rfl)).fieldAt (hf 1 _ rfl) (by rw[Zl (by omega)];rfl)
  obtain⟨y2,h2,o2⟩:=(Za7.int Tryz.underlying3 (by kernel_rfl)).fieldAt (hf 2 _ rfl) (by rw[Zl (by omega)];rfl)
  have hk:k47.K w ⟨y0,y1,y2⟩ ((cs.drop 0).take k47.sz):=(ZcO (off:=0) h0 (ZcO (off:=1) h1 h2))
  have hcs:(cs.drop 0).take k47.sz=cs:=by rw[List.drop_zero];exact List.take_of_length_le (by rw[hl'];exact Nat.le_refl _)
  rw[hcs] at hk
  exact⟨_,hk,o0,o1,o2⟩⟩
def okS49 (x:S49):Prop:=(fun l_:List Int=>l_.length≤maxLen∧∀x_∈l_,(fun n_:Int=>(Lit.int .i64 n_).wf=true) x_) x.f0∧(fun l_:List Int=>l_.length≤maxLen∧∀x_∈l_,(fun n_:Int=>(Lit.int .i64 n_).wf=true) x_) x.f1
theorem op_k49:Za7 Tryz.prog k49 49 okS49:=
 ⟨by kernel_rfl,fun {H enc w base fuel cs x} h=>by
  obtain⟨xs,n,_,_,hl,hlen,hf⟩:=DataW.trod_struct Tryz.underlying49 h
  have hl':cs.length=2:=hl.trans (by kernel_rfl)
  have hlen':xs.length=2:=hlen
  obtain⟨y0,h0,o0⟩:=(Za7.slice (Za7.int Tryz.underlying3 (by kernel_rfl)) Tryz.underlying37 (by kernel_rfl)).fieldAt (hf 0 _ rfl) (by rw[Zl (by omega)];rfl)
  obtain⟨y1,h1,o1⟩:=(Za7.slice (Za7.int Tryz.underlying3 (by kernel_rfl)) Tryz.underlying37 (by kernel_rfl)).fieldAt (hf 1 _ rfl) (by rw[Zl (by omega)];rfl)
  have hk:k49.K w ⟨y0,y1⟩ ((cs.drop 0).take k49.sz):=(ZcO (off:=0) h0 h1)
  have hcs:(cs.drop 0).take k49.sz=cs:=by rw[List.drop_zero];exact List.take_of_length_le (by rw[hl'];exact Nat.le_refl _)
  rw[hcs] at hk
  exact⟨_,hk,o0,o1⟩⟩
end Go.Proofs.YtoeimopgoaffcaaGreatDoor.Pr
namespace Go.Proofs.YtoeimopgoaffcaaGreatDoor.Ni
open Go.RowKit Go.Proofs.YtoeimopgoaffcaaGreatDoorW.PrintWords
theorem Zx {w W:World} (hb:Below w.heap.size w W) {a:Addr} {v:Value} (h:w.cell? a=some v):W.cell? a=some v:=(hb.cell (Zc w _ h)).trans h
theorem wrap_succ {i:Int} (h0:0≤i) (h:i<9223372036854775807):wrap64 (i+1)=i+1:=by
 unfold wrap64;omega
theorem Za8 {i:Int} (h0 : -9223372036854775808≤i) (h:i≤9223372036854775807):wrap64 i=i:=by
 unfold wrap64;omega
theorem ZL {i n:Nat} (h:i<n) (hn:n≤9223372036854775807):wrap64 ((i:Int)+1)=((i+1:Nat):Int):=by
 unfold wrap64;omega
theorem wrap_pred {i:Nat} (h:0<i) (hn:i≤9223372036854775807):wrap64 ((i:Int) - 1)=((i - 1:Nat):Int):=by
 unfold wrap64;omega
theorem wf_i64 {n:Int} (h:(Lit.int .i64 n).wf=true) : -9223372036854775808≤n∧n≤9223372036854775807:=by
 simp[Lit.wf,IntKind.min,IntKind.max,IntKind.signed,IntKind.bits] at h
 omega
theorem ZaI (l:List Int) (i:Nat):rd l (i:Int)=l.getD i 0:=by unfold rd;rw[Int.toNat_natCast]
theorem Zah {α:Type} {l:List α} {i:Nat} (h:i<l.length) (d:α):l.drop i=l.getD i d :: l.drop (i+1):=by
 rw[List.drop_eq_getElem_cons h,List.getD_eq_getElem?_getD,Zl h];rfl
theorem ZaJ {α:Type} {l:List α} {i:Nat} (h:i<l.length) (d:α):l.getD i d∈l:=by
 rw[List.getD_eq_getElem?_getD,Zl h];exact List.getElem_mem h
theorem getD_some {α:Type} {l:List α} {i:Nat} (h:i<l.length) (d:α):l[i]? = some (l.getD i d):=by
 rw[List.getD_eq_getElem?_getD,Zl h];rfl
theorem ZdO {α:Type} (ys:List α) (z d:α) (i:Nat) (h:i<ys.length) (x:α) (hx:x=ys.getD i d):(ys.take i ++ List.replicate (ys.length - i) z).set i x=ys.take (i+1) ++ List.replicate (ys.length - (i+1)) z:=by
 subst hx
 have e:ys.length - i=(ys.length - (i+1))+1:=by omega
 rw[e,List.replicate_succ,List.set_append_right _ _ (by simp;omega)]
 have e2:i - (ys.take i).length=0:=by simp;omega
 rw[e2,List.set_cons_zero,List.take_succ_eq_append_getElem h,List.append_assoc]
 congr 2
 simp[List.getD_eq_getElem?_getD,Zl h]
theorem Za9 (n:Nat) (Q:Nat→Nat→Prop) (K:Nat) (hend:∀k,K≤k→Q (k+1) n) (hstep:∀k i,K≤k→i<n→Q k (i+1)→Q (k+1) i):∀(i k:Nat),i≤n→K+(n - i)<k→Q k i:=by
 have key:∀(d i k:Nat),i≤n→n - i=d→K+d<k→Q k i:=by
  intro d
  induction d with
  | zero=>
   intro i k hi hd hk
   obtain⟨m,rfl⟩:∃m,k=m+1:=⟨k - 1,by omega⟩
   obtain rfl:i=n:=by omega
   exact hend m (by omega)
  | succ d ih=>
   intro i k hi hd hk
   obtain⟨m,rfl⟩:∃m,k=m+1:=⟨k - 1,by omega⟩
   exact hstep m i (by omega) (by omega) (ih (i+1) m (by omega) (by omega) (by omega))
 intro i k hi hk
 exact key (n - i) i k hi rfl hk
theorem set_mid (pre:List Int) (x y:Int) (post:List Int):(pre ++ x :: post).set pre.length y=pre ++ y :: post:=by
 rw[List.set_append_right _ _ (Nat.le_refl _),Nat.sub_self,List.set_cons_zero]
def ZaY {α:Type} (p:α→Bool) (l:List α):Int:=match l.findIdx? p with|some i=>i|none=>-1
theorem ZbR {α:Type} (p:α→Bool) (l:List α) (k:Nat) (x:α) (hk:l[k]? = some x) (hx:p x=true) (hb:∀j y,j<k→l[j]? = some y→p y=false):ZaY p l=(k:Int):=by
 have h:l.findIdx? p=some k:=by
  rw[List.findIdx?_eq_some_iff_getElem]
  obtain⟨hl,he⟩:=List.getElem?_eq_some_iff.1 hk
  refine⟨hl,by rw[he];exact hx,fun j hj=>?_⟩
  have:=hb j _ hj (Zl (by omega))
  simp[this]
 simp[ZaY,h]
theorem Zbx {α:Type} (p:α→Bool) (l:List α) (hb:∀j y,j<l.length→l[j]? = some y→p y=false):ZaY p l=-1:=by
 have h:l.findIdx? p=none:=by
  rw[List.findIdx?_eq_none_iff]
  intro x hx
  obtain⟨j,hj⟩:=List.getElem?_of_mem hx
  exact hb j x (List.getElem?_eq_some_iff.1 hj).1 hj
 simp[ZaY,h]
theorem ZcZ {α:Type} (p:α→Bool) (l:List α):decide (0≤ZaY p l)=l.any p:=by
 unfold ZaY
 cases h:l.findIdx? p with
 | some i=>
  rw[List.findIdx?_eq_some_iff_getElem] at h
  obtain⟨hl,hp,_⟩:=h
  have:l.any p=true:=List.any_eq_true.2 ⟨_,List.getElem_mem hl,hp⟩
  rw[this]
  exact Ze (Int.natCast_nonneg _)
 | none=>
  rw[List.findIdx?_eq_none_iff] at h
  have:l.any p=false:=by rw[List.any_eq_false];intro x hx;rw[h x hx];simp
  rw[this];rfl
theorem Zeh {α:Type} (p:α→Bool) (l:List α) : -1≤ZaY p l∧ZaY p l<l.length:=by
 unfold ZaY
 cases h:l.findIdx? p with
 | some i=>
  rw[List.findIdx?_eq_some_iff_getElem] at h
  obtain⟨hl,_⟩:=h
  simp only;omega
 | none=>simp only;omega
def cnt0 (l:List Int):Int:=((l.filter (· == 0)).length:Int)
def Zbf (x:Int):Bool:=!(x == 0) && decide (-3≤x) && decide (x≤3)
def prp (x:Int):Int:=if x<0 then -x else x
def ZbS (p:Int):List Int→Bool
 | []=>true
 | x :: t=>Zbf x && decide (p<prp x) && ZbS (prp x) t
def labB (l:List Int):Bool:=ZbS 0 l
def Zb8 (l:List Int):Bool:=decide (l.length=3) && l.all (fun n=>decide (-1≤n) && decide (n≤1))
theorem ZbQ (x:Int):Zbf x=true↔x≠0∧-3≤x∧x≤3:=by
 simp[Zbf,and_assoc]
theorem Zdb {x:Int} (h:Zbf x=true):1≤prp x∧prp x≤3:=by
 have:=(ZbQ x).1 h
 unfold prp;split <;> omega
def ZdM (v:List Int) (a:Int):List Int→Int
 | []=>a
 | x :: t=>ZdM v (min a (if x<0 then -(v.getD (prp x - 1).toNat 0) else v.getD (prp x - 1).toNat 0)) t
def stB (l v:List Int):Int:=ZdM v 1 l
def isNameB (s:ByteArray):Bool:=decide (1≤s.size) && decide (s.size≤8) && (List.range s.size).all fun i=>let c:=bt s i;(decide (97≤c) && decide (c≤122)) || (decide (0<i) && decide (48≤c) && decide (c≤57))
end Go.Proofs.YtoeimopgoaffcaaGreatDoor.Ni
namespace Go.Proofs.YtoeimopgoaffcaaGreatDoor.Pr
open Go.RowKit Go.Proofs.YtoeimopgoaffcaaGreatDoorW.PrintWords Go.Proofs.YtoeimopgoaffcaaGreatDoorW.PrintLast Go.Proofs.YtoeimopgoaffcaaGreatDoorW.PrintMore
attribute [local go_sem] ZU ZS ZW ZV ZO ZN ZT ZR
set_option linter.unusedVariables false
set_option linter.unusedSimpArgs false
def ZaH.l0:Nat→List Int→List Int→Int→Option (List Int)
 | 0,_,_,_=>none
 | k+1,x0,x3,x4=>if x4<(x0.length:Int) then(if 0≤x4 then(if x4<(x3.length:Int) then(ZaH.l0 k x0 (x3.set (x4:Int).toNat (rd x0 x4)) (wrap64 (x4+1))) else(none)) else(none)) else(some x3)
def ZaH.f (k:Nat) (l0:List Int):Option (List Int):=if 0≤(l0.length:Int) then(if ((l0.length:Int):Int).toNat≤35184372088832 then(ZaH.l0 k l0 (List.replicate ((l0.length:Int):Int).toNat 0) 0) else(none)) else(none)
set_option maxHeartbeats 8000000 in
set_option maxRecDepth 100000 in
theorem ZaH.calls (k:Nat) (A0:Option Addr) (c0:Nat) (l0:List Int) (r:List Int) (w:World) (hr0:Kd.C (Kd.int .i64) w A0 l0.length l0) (hc0:l0.length≤c0) (h:ZaH.f k l0=some r) :
  Calls Tryz.prog 102 #[.slice A0 l0.length c0] w fun e w'=>∃v0_:Value,e=.returned (v0_)∧Kd.R (Kd.int .i64) 3 w' w.heap.size (fun _=>True) v0_ r∧Below w.heap.size w w':=by
 have HR0:=Za hr0;have HC0:=Za hc0;clear hr0 hc0
 have HB:=Za (Below.refl w.heap.size w)
 have H:(if 0≤(l0.length:Int) then(if ((l0.length:Int):Int).toNat≤35184372088832 then(ZaH.l0 k l0 (List.replicate ((l0.length:Int):Int).toNat 0) 0) else(none)) else(none))=some r:=h
 clear h
 by_cases c2:0≤(l0.length:Int)
 ·rw[if_pos c2] at H
  have c2b0:=eq_true c2
  have c2b1:decide (0≤(l0.length:Int))=true:=Ze c2
  clear c2
  by_cases c3:((l0.length:Int):Int).toNat≤35184372088832
  ·rw[if_pos c3] at H
   have c3b0:=eq_true c3
   have c3b1:decide (((l0.length:Int):Int).toNat≤35184372088832)=true:=Ze c3
   clear c3
   obtain⟨y102001,hy102001⟩:∃y_:List Int,y_=(List.replicate ((l0.length:Int):Int).toNat 0):=⟨_,rfl⟩
   replace H:(ZaH.l0 k l0 y102001 0)=some r:=by first|(rw[hy102001];with_reducible exact H)|(have H2_:=(Zi _ _).symm.trans H;rw[hy102001];with_reducible exact H2_)|(have H2_:=(Zi _ _).symm.trans H;with_reducible exact H2_)|with_reducible exact H|(rw[hy102001];exact H)|exact H
   have Ny102001:=Za hy102001;clear hy102001
   have H':=Za H
   clear H
   go_enter Tryz.func102,Tryz.ntmps102
   go_wp2_with (first|((with_reducible refine ZF (N:=7) rfl ?_);refine Kd.R_make (Kd.int .i64) _ 3 rfl (N:=7) rfl 37 _ _ rfl (l0.length:Int) rfl rfl Tryz.underlying37 (.int .i64 0) 8 Zbi rfl (by decide) (by omega) 0 (ok:=fun _=>True) (okp:=fun _=>True) rfl (fun _ hk=>hk) trivial (Zd (by first|(with_reducible assumption)|assumption)) (Nat.le_trans (Nat.mul_le_mul_right _ (Zd (by first|(with_reducible assumption)|assumption):(l0.length:Int).toNat≤35184372088832)) (by omega)) (Below.refl _ _) (Nat.le_refl _) ?_;intro v102002 w4 ho5 hb hg_ hnew_;clear hg_ hnew_;(first|rw[← Ny102001.out] at ho5|(simp only[Int.reduceToNat] at ho5;rw[← Ny102001.out] at ho5));have HO102003:=Za (Kd.R_lower ho5 (Zy (by repeat(first|(with_reducible first|exact HB.out|apply Zn|apply Zm|apply Zo)|exact HB.out))));replace HB:=Za (Zw (by repeat(first|(with_reducible first|exact HB.out|apply Zn|apply Zm|apply Zo)|exact HB.out)) hb);clear hb ho5))
   go_loopg [4] k (fun kq v4 w'=>∃(x3_1:List Int) (x4_1:Int),v4=.int .i64 x4_1∧Aside0 (ZaH.l0 kq l0 x3_1 x4_1=some r)∧Aside0 (kq≤k)∧Aside0 (Kd.R (Kd.int .i64) 3 w' w.heap.size (fun _=>True) v102002 x3_1)∧Aside0 (Below w.heap.size w w'))
   case atStart=>exact⟨(y102001),(0),(by first|rfl|(simp;done)|(simp[*];done)),H',⟨Nat.le_refl _⟩,⟨by(with_reducible repeat(first|apply Kd.R_alloc|apply Kd.R_drewN|apply Kd.R_drew));exact HO102003.out⟩,⟨by repeat(first|(with_reducible first|exact HB.out|apply Zn|apply Zm|apply Zo)|exact HB.out)⟩⟩
   case round=>
    clear H'
    try clear c1
    try clear c2
    try clear c2b0
    try clear c2b1
    try clear p2
    try clear c3
    try clear c3b0
    try clear c3b1
    obtain⟨x3_1,x4_1,rfl,HA,HK1,HO_3,HB⟩:=hrel
    cases gk with
    | zero=>exact absurd HA.out (by simp[ZaH.l0])
    | succ k1=>
     have H:=HA.out
     clear HA
     simp only[ZaH.l0] at H
     by_cases c6:x4_1<(l0.length:Int)
     ·rw[if_pos c6] at H
      have c6b0:decide (x4_1<(l0.length:Int))=true:=Ze c6
      clear c6
      by_cases c7:0≤x4_1
      ·rw[if_pos c7] at H
       have c7b0:decide (0≤x4_1)=true:=Ze c7
       clear c7
       by_cases c8:x4_1<(x3_1.length:Int)
       ·rw[if_pos c8] at H
        have c8b0:decide (x4_1<(x3_1.length:Int))=true:=Ze c8
        clear c8
        obtain⟨y102005,hy102005⟩:∃y_:List Int,y_=(x3_1.set (x4_1:Int).toNat (rd l0 x4_1)):=⟨_,rfl⟩
        replace H:(ZaH.l0 k1 l0 y102005 (wrap64 (x4_1+1)))=some r:=by first|(rw[hy102005];with_reducible exact H)|(have H2_:=(Zi _ _).symm.trans H;rw[hy102005];with_reducible exact H2_)|(have H2_:=(Zi _ _).symm.trans H;with_reducible exact H2_)|with_reducible exact H|(rw[hy102005];exact H)|exact H
        have Ny102005:=Za hy102005;clear hy102005
        have H':=Za H
        clear H
        have p102004:0≤(x4_1:Int):=Zd (by first|(with_reducible assumption)|assumption)
        have q102004:x4_1<(l0.length:Int):=Zd (by first|(with_reducible assumption)|assumption)
        obtain⟨ad102004,e102004,hx102004_0⟩:=Kd.at_int HR0.out x4_1 p102004 q102004
        cases e102004
        replace hx102004_0:=(HB.out.cell (Zc w _ hx102004_0)).trans hx102004_0
        replace p102004:=eq_true p102004
        replace q102004:=eq_true q102004
        have p9:0≤(x4_1:Int):=Zd (by first|(with_reducible assumption)|assumption)
        have q9:(x4_1:Int)<((x3_1.length:Int):Int):=Zd (by first|(with_reducible assumption)|assumption)
        obtain⟨go9,co9,eo9,gb9,gl9,cl9,HG9⟩:=Kd.R_form HO_3.out (by omega)
        (first|cases eo9|(injection eo9 with ea_ en_ ec_;(first|subst ea_|(injection ea_ with ea_;subst ea_));subst ec_;clear en_))
        have GB9:=Za gb9;have GG9:=Za HG9;clear gb9 gl9 HG9
        obtain⟨hx9_0,hf9_0⟩:=Kd.R_celln 0 HO_3.out (x4_1:Int) p9 q9
        replace p9:=eq_true p9
        replace q9:=eq_true q9
        have HP10:=Kd.R_putg HO_3.out (x4_1:Int) (rd l0 x4_1)
        go_wp2_with (first|((with_reducible refine Zej (t:=3) (p:=20) rfl ?_);refine Zd6 (t:=3) (p:=20) (v:=?vo_w11) (w1:=(wr.setCell ⟨go9,(x4_1:Int).toNat,none⟩ (.int .i64 (rd l0 x4_1)))) ?hg ?ho ?hn ?hr ?_;(case ho=>rfl);(case hg=>rfl);(case hn=>rfl);(case hr=>first|(go_simp;done)|(go_simp;rfl));intro w11 hw;have hg:wr.grownBy w11 (some go9):=(by rw[hw];exact HP10.2);have hp_:Kd.R (Kd.int .i64) 3 w11 w.heap.size (fun _=>True) (.slice (some ⟨go9,0,none⟩) x3_1.length co9) y102005:=(by rw[hw,Ny102005.out];exact HP10.1);clear HP10;replace HO_3:=Za (hp_);replace HB:=Za ((by rw[hw];exact Zq (HB.out) GB9.out:Below w.heap.size w w11));clear hg hw hp_))
        go_roundg k1
        case measure=>have:=HK1.out;omega
        case rel=>exact⟨(y102005),(wrap64 (x4_1+1)),(by first|rfl|(simp;done)|(simp[*];done)),H',⟨by have:=HK1.out;omega⟩,⟨by(with_reducible repeat(first|apply Kd.R_alloc|apply Kd.R_drewN|apply Kd.R_drew));exact HO_3.out⟩,⟨by repeat(first|(with_reducible first|exact HB.out|apply Zn|apply Zm|apply Zo)|exact HB.out)⟩⟩
       ·rw[if_neg c8] at H
        exact absurd H (by simp)
      ·rw[if_neg c7] at H
       exact absurd H (by simp)
     ·rw[if_neg c6] at H
      have c6b0:decide (x4_1<(l0.length:Int))=false:=Zf c6
      clear c6
      obtain rfl:=Zg H
      go_wp2
      go_ret
      exact⟨_,by first|rfl|(simp[ZC,ZB] <;> rfl)|(simp[*,ZC,ZB] <;> rfl),by(with_reducible repeat(first|apply Kd.R_alloc|apply Kd.R_drewN|apply Kd.R_drew));exact HO_3.out,by repeat(first|(with_reducible first|exact HB.out|apply Zn|apply Zm|apply Zo)|exact HB.out)⟩
  ·rw[if_neg c3] at H
   exact absurd H (by simp)
 ·rw[if_neg c2] at H
  exact absurd H (by simp)
def ZaQ.l0:Nat→List Int→List Int→Int→Option (Bool)
 | 0,_,_,_=>none
 | k+1,x0,x1,x5=>if x5<(x0.length:Int) then(if 0≤x5 then(if x5<(x1.length:Int) then(if (rd x0 x5)=(rd x1 x5) then(ZaQ.l0 k x0 x1 (wrap64 (x5+1))) else(some false)) else(none)) else(none)) else(some true)
def ZaQ.f (k:Nat) (l0:List Int) (l1:List Int):Option (Bool):=if (l0.length:Int)=(l1.length:Int) then(ZaQ.l0 k l0 l1 0) else(some false)
set_option maxHeartbeats 8000000 in
set_option maxRecDepth 100000 in
theorem ZaQ.calls (k:Nat) (A0:Option Addr) (c0:Nat) (l0:List Int) (A1:Option Addr) (c1:Nat) (l1:List Int) (r:Bool) (w:World) (hr0:Kd.C (Kd.int .i64) w A0 l0.length l0) (hc0:l0.length≤c0) (hr1:Kd.C (Kd.int .i64) w A1 l1.length l1) (hc1:l1.length≤c1) (h:ZaQ.f k l0 l1=some r) :
  Calls Tryz.prog 107 #[.slice A0 l0.length c0,.slice A1 l1.length c1] w fun e w'=>e=.returned (.bool r)∧ZE w w':=by
 have HR0:=Za hr0;have HC0:=Za hc0;clear hr0 hc0;have HR1:=Za hr1;have HC1:=Za hc1;clear hr1 hc1
 have H:(if (l0.length:Int)=(l1.length:Int) then(ZaQ.l0 k l0 l1 0) else(some false))=some r:=h
 clear h
 by_cases c3:(l0.length:Int)=(l1.length:Int)
 ·rw[if_pos c3] at H
  have c3b0:((l0.length:Int) == (l1.length:Int))=true:=beq_iff_eq.mpr c3
  clear c3
  have H':=Za H
  clear H
  go_enter Tryz.func107,Tryz.ntmps107
  go_wp2
  repeat(go_quiet (fail);try go_wp2)
  go_loopg [5] k (fun kq v5 w'=>∃(x5_1:Int),v5=.int .i64 x5_1∧Aside0 (ZaQ.l0 kq l0 l1 x5_1=some r)∧Aside0 (kq≤k)∧ZE w w')
  case atStart=>exact⟨(0),(by first|rfl|(simp;done)|(simp[*];done)),H',⟨Nat.le_refl _⟩,by repeat(first|exact ZE.refl _|apply ZE.step)⟩
  case round=>
   clear H'
   try clear c1
   try clear p2
   try clear c3
   try clear c3b0
   try clear c3b1
   try clear c3b2
   obtain⟨x5_1,rfl,HA,HK1,⟨m1,rfl⟩⟩:=hrel
   cases gk with
   | zero=>exact absurd HA.out (by simp[ZaQ.l0])
   | succ k1=>
    have H:=HA.out
    clear HA
    simp only[ZaQ.l0] at H
    by_cases c4:x5_1<(l0.length:Int)
    ·rw[if_pos c4] at H
     have c4b0:decide (x5_1<(l0.length:Int))=true:=Ze c4
     clear c4
     by_cases c5:0≤x5_1
     ·rw[if_pos c5] at H
      have c5b0:decide (0≤x5_1)=true:=Ze c5
      clear c5
      by_cases c6:x5_1<(l1.length:Int)
      ·rw[if_pos c6] at H
       have c6b0:decide (x5_1<(l1.length:Int))=true:=Ze c6
       clear c6
       by_cases c7:(rd l0 x5_1)=(rd l1 x5_1)
       ·rw[if_pos c7] at H
        have c7b0:((rd l0 x5_1) == (rd l1 x5_1))=true:=beq_iff_eq.mpr c7
        clear c7
        have H':=Za H
        clear H
        have p107001:0≤(x5_1:Int):=Zd (by first|(with_reducible assumption)|assumption)
        have q107001:x5_1<(l0.length:Int):=Zd (by first|(with_reducible assumption)|assumption)
        obtain⟨ad107001,e107001,hx107001_0⟩:=Kd.at_int HR0.out x5_1 p107001 q107001
        cases e107001
        replace p107001:=eq_true p107001
        replace q107001:=eq_true q107001
        have p107002:0≤(x5_1:Int):=Zd (by first|(with_reducible assumption)|assumption)
        have q107002:x5_1<(l1.length:Int):=Zd (by first|(with_reducible assumption)|assumption)
        obtain⟨ad107002,e107002,hx107002_0⟩:=Kd.at_int HR1.out x5_1 p107002 q107002
        cases e107002
        replace p107002:=eq_true p107002
        replace q107002:=eq_true q107002
        go_wp2
        repeat(go_quiet (fail);try go_wp2)
        go_roundg k1
        case measure=>have:=HK1.out;omega
        case rel=>exact⟨(wrap64 (x5_1+1)),(by first|rfl|(simp;done)|(simp[*];done)),H',⟨by have:=HK1.out;omega⟩,by repeat(first|exact ZE.refl _|apply ZE.step)⟩
       ·rw[if_neg c7] at H
        have c7b0:((rd l0 x5_1) == (rd l1 x5_1))=false:=beq_eq_false_iff_ne.mpr c7
        obtain rfl:=Zg H
        have p107001:0≤(x5_1:Int):=Zd (by first|(with_reducible assumption)|assumption)
        have q107001:x5_1<(l0.length:Int):=Zd (by first|(with_reducible assumption)|assumption)
        obtain⟨ad107001,e107001,hx107001_0⟩:=Kd.at_int HR0.out x5_1 p107001 q107001
        cases e107001
        replace p107001:=eq_true p107001
        replace q107001:=eq_true q107001
        have p107002:0≤(x5_1:Int):=Zd (by first|(with_reducible assumption)|assumption)
        have q107002:x5_1<(l1.length:Int):=Zd (by first|(with_reducible assumption)|assumption)
        obtain⟨ad107002,e107002,hx107002_0⟩:=Kd.at_int HR1.out x5_1 p107002 q107002
        cases e107002
        replace p107002:=eq_true p107002
        replace q107002:=eq_true q107002
        go_wp2
        repeat(go_quiet (fail);try go_wp2)
        go_ret
        exact⟨by first|rfl|(simp;done)|(simp[*];done),by repeat(first|exact ZE.refl _|apply ZE.step)⟩
      ·rw[if_neg c6] at H
       exact absurd H (by simp)
     ·rw[if_neg c5] at H
      exact absurd H (by simp)
    ·rw[if_neg c4] at H
     have c4b0:decide (x5_1<(l0.length:Int))=false:=Zf c4
     clear c4
     obtain rfl:=Zg H
     go_wp2
     repeat(go_quiet (fail);try go_wp2)
     go_ret
     exact⟨by first|rfl|(simp;done)|(simp[*];done),by repeat(first|exact ZE.refl _|apply ZE.step)⟩
 ·rw[if_neg c3] at H
  have c3b0:((l0.length:Int) == (l1.length:Int))=false:=beq_eq_false_iff_ne.mpr c3
  obtain rfl:=Zg H
  go_enter Tryz.func107,Tryz.ntmps107
  go_wp2
  repeat(go_quiet (fail);try go_wp2)
  go_ret
  exact⟨by first|rfl|(simp;done)|(simp[*];done),by repeat(first|exact ZE.refl _|apply ZE.step)⟩
end Go.Proofs.YtoeimopgoaffcaaGreatDoor.Pr
namespace Go.Proofs.YtoeimopgoaffcaaGreatDoor.Pr
open Go.RowKit Go.Proofs.YtoeimopgoaffcaaGreatDoorW.PrintWords Go.Proofs.YtoeimopgoaffcaaGreatDoor.Ni
theorem toIntS_f (l:List Int) (hl:l.length≤35184372088832) (k:Nat) (hk:2 ^ 64≤k):ZaH.f k l=some l:=by
 have key:=Za9 l.length (fun k i=>ZaH.l0 k l (l.take i ++ List.replicate (l.length - i) 0) (i:Int)=some l) 0
  (fun k _=>by simp[ZaH.l0])
  (fun k i _ hi ih=>by
   simp only[ZaH.l0]
   rw[if_pos (by omega),if_pos (by omega),if_pos (by simp;omega),ZL hi (by omega),Int.toNat_natCast,ZdO l 0 0 i hi _ (ZaI l i)]
   exact ih) 0 k (Nat.zero_le _) (by omega)
 unfold ZaH.f
 rw[if_pos (by omega),if_pos (by omega),Int.toNat_natCast]
 simpa using key
theorem eqIntS_f (l m:List Int) (hl:l.length≤9223372036854775807) (k:Nat) (hk:2 ^ 64≤k):ZaQ.f k l m=some (decide (l=m)):=by
 unfold ZaQ.f
 by_cases e:l.length=m.length
 ·rw[if_pos (by omega)]
  have key:=Za9 l.length (fun k i=>ZaQ.l0 k l m (i:Int)=some (decide (l.drop i=m.drop i))) 0
   (fun k _=>by
    simp only[ZaQ.l0]
    rw[if_neg (by omega),List.drop_of_length_le (Nat.le_refl _),List.drop_of_length_le (by omega)]
    simp)
   (fun k i _ hi ih=>by
    simp only[ZaQ.l0]
    rw[if_pos (by omega),if_pos (by omega),if_pos (by omega),ZaI,ZaI,ZL hi (by omega),Zah hi 0,Zah (show i<m.length by omega) 0]
    by_cases h:l.getD i 0=m.getD i 0
    ·rw[if_pos h,ih,h];simp
    ·rw[if_neg h]
     simp only[List.cons.injEq,h,false_and,decide_false]) 0 k (Nat.zero_le _) (by omega)
  simpa using key
 ·rw[if_neg (by omega)]
  have:l≠m:=fun h=>e (by rw[h])
  simp[this]
theorem eqIntS_refl (l:List Int) (hl:l.length≤9223372036854775807) (k:Nat) (hk:2 ^ 64≤k):ZaQ.f k l l=some true:=by
 rw[eqIntS_f l l hl k hk];simp
end Go.Proofs.YtoeimopgoaffcaaGreatDoor.Pr
namespace Go.Proofs.YtoeimopgoaffcaaGreatDoor.Pr
open Go.RowKit Go.Proofs.YtoeimopgoaffcaaGreatDoorW.PrintWords Go.Proofs.YtoeimopgoaffcaaGreatDoorW.PrintLast Go.Proofs.YtoeimopgoaffcaaGreatDoorW.PrintMore
attribute [local go_sem] ZU ZS ZW ZV ZO ZN ZT ZR
set_option linter.unusedVariables false
set_option linter.unusedSimpArgs false
def ZcC.f (k:Nat) (a0_0:ByteArray) (l0_1:List Int) (a0_2:Int):Option (ByteArray×List Int×Int):=(ZaH.f k l0_1).bind fun t158004=>(some (a0_0,t158004,a0_2))
set_option maxHeartbeats 8000000 in
set_option maxRecDepth 100000 in
theorem ZcC.calls (k:Nat) (a0_0:ByteArray) (A0_1:Option Addr) (c0_1:Nat) (l0_1:List Int) (a0_2:Int) (r1:ByteArray) (r2:List Int) (r3:Int) (w:World) (hr0_1:Kd.C (Kd.int .i64) w A0_1 l0_1.length l0_1) (hc0_1:l0_1.length≤c0_1) (h:ZcC.f k a0_0 l0_1 a0_2=some (r1,r2,r3)) :
  Calls Tryz.prog 158 #[.agg #[.string a0_0,.slice A0_1 l0_1.length c0_1,.int .i64 a0_2]] w fun e w'=>∃v1_:Value,e=.returned (.agg #[.string r1,v1_,.int .i64 r3])∧Kd.R (Kd.int .i64) 3 w' w.heap.size (fun _=>True) v1_ r2∧Below w.heap.size w w':=by
 have hu143:=Tryz.underlying143
 have hu39:=Tryz.underlying39
 have HR0_1:=Za hr0_1;have HC0_1:=Za hc0_1;clear hr0_1 hc0_1
 have HB:=Za (Below.refl w.heap.size w)
 have H:((ZaH.f k l0_1).bind fun t158004=>(some (a0_0,t158004,a0_2)))=some (r1,r2,r3):=h
 clear h
 replace H:=Zh H
 obtain⟨t158004,A20,H⟩:=H
 replace H:(some (a0_0,t158004,a0_2))=some (r1,r2,r3):=H
 have A2:=Za A20;clear A20
 simp only[Option.some.injEq,Prod.mk.injEq] at H
 obtain⟨rfl,rfl,rfl⟩:=H
 go_enter Tryz.func158,Tryz.ntmps158
 go_wp2_with (first|((with_reducible refine ZF (N:=1) rfl ?_);refine ZG ?hg (N:=1) ?hd (cs:=#[.string a0_0,.slice A0_1 l0_1.length c0_1,.int .i64 a0_2]) (t:=143) ?hr ?_;(case hd=>rfl);(case hg=>rfl);(case hr=>first|(go_simp;done)|(go_simp;rfl));intro gb158001 hg w3 hbox hb;have BK158001:=Za (hbox);have GW158001:=Za ((by rw[hg];exact(Zy (by repeat(first|(with_reducible first|exact HB.out|apply Zn|apply Zm|apply Zo)|exact HB.out))):w.heap.size≤gb158001));have GE158001:=Za ((by rw[hg];exact(Zy (by repeat(first|(with_reducible first|exact HB.out|apply Zn|apply Zm|apply Zo)|exact HB.out))):w.heap.size≤gb158001));replace HB:=Za (Zw (by repeat(first|(with_reducible first|exact HB.out|apply Zn|apply Zm|apply Zo)|exact HB.out)) hb);clear hb hbox hg)|((with_reducible refine ZF (N:=2) rfl ?_);refine ZG ?hg (N:=2) ?hd (cs:=#[.string (⟨#[]⟩:ByteArray),.slice none 0 0,.int .i64 0]) (t:=39) ?hr ?_;(case hd=>rfl);(case hg=>rfl);(case hr=>first|(go_simp;done)|(go_simp;rfl));intro gb158002 hg w4 hbox hb;have BK158002:=Za (hbox);have GW158002:=Za ((by rw[hg];exact(Zy (by repeat(first|(with_reducible first|exact HB.out|apply Zn|apply Zm|apply Zo|refine Zq ?_ GE158001.out)|exact HB.out))):w.heap.size≤gb158002));have GE158002:=Za ((by rw[hg];exact(Zy (by repeat(first|(with_reducible first|exact HB.out|apply Zn|apply Zm|apply Zo|refine Zq ?_ GE158001.out)|exact HB.out))):w.heap.size≤gb158002));have NB158001_158002:=Za ((by rw[hg];exact Nat.ne_of_lt (ZM (g:=gb158001) (o:=.cells #[.string a0_0,.slice A0_1 l0_1.length c0_1,.int .i64 a0_2] 143 (0,0)) (by(with_reducible repeat(first|refine Zt ?_ _|refine Zv ?_|refine Zs ?_ _));exact BK158001.out)):gb158001≠gb158002));have NB158002_158001:=Za ((by rw[hg];exact Nat.ne_of_gt (ZM (g:=gb158001) (o:=.cells #[.string a0_0,.slice A0_1 l0_1.length c0_1,.int .i64 a0_2] 143 (0,0)) (by(with_reducible repeat(first|refine Zt ?_ _|refine Zv ?_|refine Zs ?_ _));exact BK158001.out)):gb158002≠gb158001));replace BK158001:=Za (ZA (g:=gb158001) (o:=.cells #[.string a0_0,.slice A0_1 l0_1.length c0_1,.int .i64 a0_2] 143 (0,0)) (by(with_reducible repeat(first|refine Zt ?_ _|refine Zv ?_|refine Zs ?_ _));exact BK158001.out) hb);replace HB:=Za (Zw (by repeat(first|(with_reducible first|exact HB.out|apply Zn|apply Zm|apply Zo|refine Zq ?_ GE158001.out)|exact HB.out)) hb);clear hb hbox hg)|((with_reducible refine ZF (N:=3) rfl ?_);refine ZG ?hg (N:=3) ?hd (cs:=#[.string (⟨#[]⟩:ByteArray),.slice none 0 0,.int .i64 0]) (t:=39) ?hr ?_;(case hd=>rfl);(case hg=>rfl);(case hr=>first|(go_simp;done)|(go_simp;rfl));intro gb158003 hg w5 hbox hb;have BK158003:=Za (hbox);have GW158003:=Za ((by rw[hg];exact(Zy (by repeat(first|(with_reducible first|exact HB.out|apply Zn|apply Zm|apply Zo|refine Zq ?_ GE158001.out|refine Zq ?_ GE158002.out)|exact HB.out))):w.heap.size≤gb158003));have GE158003:=Za ((by rw[hg];exact(Zy (by repeat(first|(with_reducible first|exact HB.out|apply Zn|apply Zm|apply Zo|refine Zq ?_ GE158001.out|refine Zq ?_ GE158002.out)|exact HB.out))):w.heap.size≤gb158003));have NB158001_158003:=Za ((by rw[hg];exact Nat.ne_of_lt (ZM (g:=gb158001) (o:=.cells #[.string a0_0,.slice A0_1 l0_1.length c0_1,.int .i64 a0_2] 143 (0,0)) (by(with_reducible repeat(first|refine Zt ?_ _|refine Zv ?_|refine Zs ?_ _));exact BK158001.out)):gb158001≠gb158003));have NB158003_158001:=Za ((by rw[hg];exact Nat.ne_of_gt (ZM (g:=gb158001) (o:=.cells #[.string a0_0,.slice A0_1 l0_1.length c0_1,.int .i64 a0_2] 143 (0,0)) (by(with_reducible repeat(first|refine Zt ?_ _|refine Zv ?_|refine Zs ?_ _));exact BK158001.out)):gb158003≠gb158001));have NB158002_158003:=Za ((by rw[hg];exact Nat.ne_of_lt (ZM (g:=gb158002) (o:=.cells #[.string (⟨#[]⟩:ByteArray),.slice none 0 0,.int .i64 0] 39 (0,0)) (by(with_reducible repeat(first|refine Zt ?_ _|refine Zv ?_|refine Zs ?_ _));exact BK158002.out)):gb158002≠gb158003));have NB158003_158002:=Za ((by rw[hg];exact Nat.ne_of_gt (ZM (g:=gb158002) (o:=.cells #[.string (⟨#[]⟩:ByteArray),.slice none 0 0,.int .i64 0] 39 (0,0)) (by(with_reducible repeat(first|refine Zt ?_ _|refine Zv ?_|refine Zs ?_ _));exact BK158002.out)):gb158003≠gb158002));replace BK158001:=Za (ZA (g:=gb158001) (o:=.cells #[.string a0_0,.slice A0_1 l0_1.length c0_1,.int .i64 a0_2] 143 (0,0)) (by(with_reducible repeat(first|refine Zt ?_ _|refine Zv ?_|refine Zs ?_ _));exact BK158001.out) hb);replace BK158002:=Za (ZA (g:=gb158002) (o:=.cells #[.string (⟨#[]⟩:ByteArray),.slice none 0 0,.int .i64 0] 39 (0,0)) (by(with_reducible repeat(first|refine Zt ?_ _|refine Zv ?_|refine Zs ?_ _));exact BK158002.out) hb);replace HB:=Za (Zw (by repeat(first|(with_reducible first|exact HB.out|apply Zn|apply Zm|apply Zo|refine Zq ?_ GE158001.out|refine Zq ?_ GE158002.out)|exact HB.out)) hb);clear hb hbox hg;have hnb6:=NB158001_158002.out;have hnc6:=NB158002_158001.out;have hnb7:=NB158001_158003.out;have hnc7:=NB158003_158001.out;have hcz8_0:w5.cell? ⟨gb158001,0,none⟩=some (.string a0_0):=(Zp BK158001.out 0).trans rfl;have hcz8_1:w5.cell? ⟨gb158001,1,none⟩=some (.slice A0_1 l0_1.length c0_1):=(Zp BK158001.out 1).trans rfl;have hcz8_2:w5.cell? ⟨gb158001,2,none⟩=some (.int .i64 a0_2):=(Zp BK158001.out 2).trans rfl;have hfz8_0:=Zr BK158001.out 0;have hfz8_1:=Zr BK158001.out 1;have hfz8_2:=Zr BK158001.out 2;have hnb9:=NB158003_158002.out;have hnc9:=NB158002_158003.out;have hcz10_0:w5.cell? ⟨gb158003,0,none⟩=some (.string (⟨#[]⟩:ByteArray)):=(Zp BK158003.out 0).trans rfl;have hcz10_1:w5.cell? ⟨gb158003,1,none⟩=some (.slice none 0 0):=(Zp BK158003.out 1).trans rfl;have hcz10_2:w5.cell? ⟨gb158003,2,none⟩=some (.int .i64 0):=(Zp BK158003.out 2).trans rfl;have hfz10_0:=Zr BK158003.out 0;have hfz10_1:=Zr BK158003.out 1;have hfz10_2:=Zr BK158003.out 2)|((with_reducible refine ZJ (f:=102) rfl ?_);refine Zaa (some 9) rfl rfl Tryz.func102 (by kernel_rfl) rfl #[.slice A0_1 l0_1.length c0_1] rfl (by(try simp only[List.map_toArray,List.map_cons,List.map_nil]);first|done|rfl|(simp only[Zk,Zj];rfl)) ?_;(with_reducible refine(ZaH.calls k _ _ l0_1 t158004 _ ?side1 ?side2 A2.out).mono ?_);(case side1=>exact Zb HR0_1.out (by repeat(first|(with_reducible first|exact HB.out|apply Zn|apply Zm|apply Zo|refine Zq ?_ GE158001.out|refine Zq ?_ GE158002.out|refine Zq ?_ GE158003.out)|exact HB.out)));(case side2=>exact HC0_1.out);rintro e w11 ⟨v158005,rfl,ho0,hb⟩;refine⟨_,rfl,?_⟩;have HO158006:=Za (Kd.R_lower ho0 (Zy (by repeat(first|(with_reducible first|exact HB.out|apply Zn|apply Zm|apply Zo|refine Zq ?_ GE158001.out|refine Zq ?_ GE158002.out|refine Zq ?_ GE158003.out)|exact HB.out))));replace BK158001:=Za (ZA (g:=gb158001) (o:=.cells #[.string a0_0,.slice A0_1 l0_1.length c0_1,.int .i64 a0_2] 143 (0,0)) (by(with_reducible repeat(first|refine Zt ?_ _|refine Zv ?_|refine Zs ?_ _));refine ZQ ?_ NB158001_158003.out _;(with_reducible repeat(first|refine Zt ?_ _|refine Zv ?_|refine Zs ?_ _));exact BK158001.out) hb);replace BK158002:=Za (ZA (g:=gb158002) (o:=.cells #[.string (⟨#[]⟩:ByteArray),.slice none 0 0,.int .i64 0] 39 (0,0)) (by(with_reducible repeat(first|refine Zt ?_ _|refine Zv ?_|refine Zs ?_ _));refine ZQ ?_ NB158002_158003.out _;(with_reducible repeat(first|refine Zt ?_ _|refine Zv ?_|refine Zs ?_ _));exact BK158002.out) hb);replace BK158003:=Za (ZA (g:=gb158003) (o:=.cells #[.string a0_0,.slice none 0 0,.int .i64 0] 39 (0,0)) (by(with_reducible repeat(first|refine Zt ?_ _|refine Zv ?_|refine Zs ?_ _));refine ZZ (cs:=#[.string (⟨#[]⟩:ByteArray),.slice none 0 0,.int .i64 0]) ?_ 0 _ rfl;(with_reducible repeat(first|refine Zt ?_ _|refine Zv ?_|refine Zs ?_ _));exact BK158003.out) hb);replace HB:=Za (Zw (by repeat(first|(with_reducible first|exact HB.out|apply Zn|apply Zm|apply Zo|refine Zq ?_ GE158001.out|refine Zq ?_ GE158002.out|refine Zq ?_ GE158003.out)|exact HB.out)) hb);(try clear hb);(try clear hb2);(try clear hk);(try clear hi);(try clear ho0);obtain⟨Ao12,co12,eo12⟩:=Kd.R_slice HO158006.out;subst eo12;have hcz13_0:w11.cell? ⟨gb158003,0,none⟩=some (.string a0_0):=(Zp BK158003.out 0).trans rfl;have hcz13_1:w11.cell? ⟨gb158003,1,none⟩=some (.slice none 0 0):=(Zp BK158003.out 1).trans rfl;have hcz13_2:w11.cell? ⟨gb158003,2,none⟩=some (.int .i64 0):=(Zp BK158003.out 2).trans rfl;have hfz13_0:=Zr BK158003.out 0;have hfz13_1:=Zr BK158003.out 1;have hfz13_2:=Zr BK158003.out 2;have hcz14_0:w11.cell? ⟨gb158001,0,none⟩=some (.string a0_0):=(Zp BK158001.out 0).trans rfl;have hcz14_1:w11.cell? ⟨gb158001,1,none⟩=some (.slice A0_1 l0_1.length c0_1):=(Zp BK158001.out 1).trans rfl;have hcz14_2:w11.cell? ⟨gb158001,2,none⟩=some (.int .i64 a0_2):=(Zp BK158001.out 2).trans rfl;have hfz14_0:=Zr BK158001.out 0;have hfz14_1:=Zr BK158001.out 1;have hfz14_2:=Zr BK158001.out 2;have hcz15_0:w11.cell? ⟨gb158002,0,none⟩=some (.string (⟨#[]⟩:ByteArray)):=(Zp BK158002.out 0).trans rfl;have hcz15_1:w11.cell? ⟨gb158002,1,none⟩=some (.slice none 0 0):=(Zp BK158002.out 1).trans rfl;have hcz15_2:w11.cell? ⟨gb158002,2,none⟩=some (.int .i64 0):=(Zp BK158002.out 2).trans rfl;have hfz15_0:=Zr BK158002.out 0;have hfz15_1:=Zr BK158002.out 1;have hfz15_2:=Zr BK158002.out 2))
 refine bodyPost_ret (results_cell_row rfl _ _ gb158002 39 #[.string a0_0,.slice Ao12 t158004.length co12,.int .i64 a0_2] (0,0) _ rfl (by(with_reducible repeat(first|refine Zt ?_ _|refine Zv ?_|refine Zs ?_ _));refine ZZ (cs:=#[.string a0_0,.slice Ao12 t158004.length co12,.int .i64 0]) ?_ 2 _ rfl;(with_reducible repeat(first|refine Zt ?_ _|refine Zv ?_|refine Zs ?_ _));refine ZZ (cs:=#[.string a0_0,.slice none 0 0,.int .i64 0]) ?_ 1 _ rfl;(with_reducible repeat(first|refine Zt ?_ _|refine Zv ?_|refine Zs ?_ _));refine ZZ (cs:=#[.string (⟨#[]⟩:ByteArray),.slice none 0 0,.int .i64 0]) ?_ 0 _ rfl;(with_reducible repeat(first|refine Zt ?_ _|refine Zv ?_|refine Zs ?_ _));refine ZQ ?_ NB158002_158003.out _;(with_reducible repeat(first|refine Zt ?_ _|refine Zv ?_|refine Zs ?_ _));refine ZQ ?_ NB158002_158003.out _;(with_reducible repeat(first|refine Zt ?_ _|refine Zv ?_|refine Zs ?_ _));exact BK158002.out) Tryz.underlying39 rfl (by kernel_rfl)) rfl ?_
 exact⟨_,by first|rfl|(simp[ZC,ZB] <;> rfl)|(simp[*,ZC,ZB] <;> rfl),by(with_reducible repeat(first|apply Kd.R_alloc|apply Kd.R_drewN|apply Kd.R_drew));exact Kd.R_mono (Kd.R_far (p:=⟨gb158002,2,none⟩) (Kd.R_far (p:=⟨gb158002,1,none⟩) (Kd.R_far (p:=⟨gb158002,0,none⟩) (Kd.R_far (p:=⟨gb158003,2,none⟩) (Kd.R_far (p:=⟨gb158003,1,none⟩) (Kd.R_types (Kd.R_types HO158006.out BK158003.out (by decide)) BK158002.out (by decide)) (fun _ hk=>hk.1.2) (.slice Ao12 t158004.length co12)) (fun _ hk=>hk.1.2) (.int .i64 a0_2)) (fun _ hk=>hk.2) (.string a0_0)) (fun _ hk=>hk.2) (.slice Ao12 t158004.length co12)) (fun _ hk=>hk.2) (.int .i64 a0_2)) (fun _ hk=>trivial),by repeat(first|(with_reducible first|exact HB.out|apply Zn|apply Zm|apply Zo|refine Zq ?_ GE158001.out|refine Zq ?_ GE158002.out|refine Zq ?_ GE158003.out)|exact HB.out)⟩
def Zav.l0:Nat→List (S143)→List (S39)→Int→Option ((List (S39)))
 | 0,_,_,_=>none
 | k+1,x0,x3,x4=>if x4<(x0.length:Int) then(if 0≤x4 then((ZcC.f k ((ZaC x0 x4).f0) ((ZaC x0 x4).f1) ((ZaC x0 x4).f2)).bind fun bt100005=>(if x4<(x3.length:Int) then(Zav.l0 k x0 (x3.set (x4:Int).toNat (⟨bt100005.1,bt100005.2.1,bt100005.2.2⟩:S39)) (wrap64 (x4+1))) else(none))) else(none)) else(some x3)
def Zav.f (k:Nat) (l0:List (S143)):Option ((List (S39))):=if 0≤(l0.length:Int) then(if ((l0.length:Int):Int).toNat≤5864062014805 then(Zav.l0 k l0 (List.replicate ((l0.length:Int):Int).toNat z39) 0) else(none)) else(none)
set_option maxHeartbeats 8000000 in
set_option maxRecDepth 100000 in
theorem Zav.calls (k:Nat) (A0:Option Addr) (c0:Nat) (l0:List (S143)) (r:List (S39)) (w:World) (hr0:Kd.C k143 w A0 l0.length l0) (hc0:l0.length≤c0) (h:Zav.f k l0=some r) :
  Calls Tryz.prog 100 #[.slice A0 l0.length c0] w fun e w'=>∃v0_:Value,e=.returned (v0_)∧Kd.S k39 39 w' w.heap.size (fun _=>True) v0_ r∧Below w.heap.size w w':=by
 have hu143:=Tryz.underlying143
 have hu39:=Tryz.underlying39
 have HR0:=Za hr0;have HC0:=Za hc0;clear hr0 hc0
 have HB:=Za (Below.refl w.heap.size w)
 have H:(if 0≤(l0.length:Int) then(if ((l0.length:Int):Int).toNat≤5864062014805 then(Zav.l0 k l0 (List.replicate ((l0.length:Int):Int).toNat z39) 0) else(none)) else(none))=some r:=h
 clear h
 by_cases c2:0≤(l0.length:Int)
 ·rw[if_pos c2] at H
  have c2b0:=eq_true c2
  have c2b1:decide (0≤(l0.length:Int))=true:=Ze c2
  clear c2
  by_cases c3:((l0.length:Int):Int).toNat≤5864062014805
  ·rw[if_pos c3] at H
   have c3b0:=eq_true c3
   have c3b1:decide (((l0.length:Int):Int).toNat≤5864062014805)=true:=Ze c3
   clear c3
   obtain⟨y100001,hy100001⟩:∃y_:List (S39),y_=(List.replicate ((l0.length:Int):Int).toNat z39):=⟨_,rfl⟩
   replace H:(Zav.l0 k l0 y100001 0)=some r:=by first|(rw[hy100001];with_reducible exact H)|(have H2_:=(Zi _ _).symm.trans H;rw[hy100001];with_reducible exact H2_)|(have H2_:=(Zi _ _).symm.trans H;with_reducible exact H2_)|with_reducible exact H|(rw[hy100001];exact H)|exact H
   have Ny100001:=Za hy100001;clear hy100001
   have H':=Za H
   clear H
   go_enter Tryz.func100,Tryz.ntmps100
   go_wp2_with (first|((with_reducible refine ZF (N:=7) rfl ?_);refine Kd.S_make k39 _ 39 rfl (N:=7) rfl 22 _ _ rfl (l0.length:Int) rfl rfl Tryz.underlying22 (.agg #[(.string ⟨#[]⟩),(.slice none 0 0),(.int .i64 0)]) 48 info39 rfl (by decide) (by omega) z39 (ok:=fun _=>True) (okp:=fun _=>True) (k39_mkM _ _ _ z39 (Kd.R_nil _ _ _ _ _)) (fun _ hk=>hk) trivial (Zd (by first|(with_reducible assumption)|assumption)) (Nat.le_trans (Nat.mul_le_mul_right _ (Zd (by first|(with_reducible assumption)|assumption):(l0.length:Int).toNat≤5864062014805)) (by omega)) (Below.refl _ _) (Nat.le_refl _) ?_;intro v100002 w4 ho5 hb hg_ hnew_;clear hg_ hnew_;(first|rw[← Ny100001.out] at ho5|(simp only[Int.reduceToNat] at ho5;rw[← Ny100001.out] at ho5));have HO100003:=Za (Kd.S_lower ho5 (Zy (by repeat(first|(with_reducible first|exact HB.out|apply Zn|apply Zm|apply Zo)|exact HB.out))));replace HB:=Za (Zw (by repeat(first|(with_reducible first|exact HB.out|apply Zn|apply Zm|apply Zo)|exact HB.out)) hb);clear hb ho5))
   go_loopg [4] k (fun kq v4 w'=>∃(x3_1:List (S39)) (x4_1:Int),v4=.int .i64 x4_1∧Aside0 (Zav.l0 kq l0 x3_1 x4_1=some r)∧Aside0 (kq≤k)∧Aside0 (Kd.S k39 39 w' w.heap.size (fun _=>True) v100002 x3_1)∧Aside0 (Below w.heap.size w w'))
   case atStart=>exact⟨(y100001),(0),(by first|rfl|(simp;done)|(simp[*];done)),H',⟨Nat.le_refl _⟩,⟨by(with_reducible repeat(first|apply Kd.S_alloc|apply Kd.S_drewN|apply Kd.S_drew));exact HO100003.out⟩,⟨by repeat(first|(with_reducible first|exact HB.out|apply Zn|apply Zm|apply Zo)|exact HB.out)⟩⟩
   case round=>
    clear H'
    try clear c1
    try clear c2
    try clear c2b0
    try clear c2b1
    try clear p2
    try clear c3
    try clear c3b0
    try clear c3b1
    obtain⟨x3_1,x4_1,rfl,HA,HK1,HO_3,HB⟩:=hrel
    cases gk with
    | zero=>exact absurd HA.out (by simp[Zav.l0])
    | succ k1=>
     have H:=HA.out
     clear HA
     simp only[Zav.l0] at H
     by_cases c6:x4_1<(l0.length:Int)
     ·rw[if_pos c6] at H
      have c6b0:decide (x4_1<(l0.length:Int))=true:=Ze c6
      clear c6
      by_cases c7:0≤x4_1
      ·rw[if_pos c7] at H
       have c7b0:decide (0≤x4_1)=true:=Ze c7
       clear c7
       replace H:=Zh H
       obtain⟨⟨t100005,t100006,t100009⟩,A80,H⟩:=H;have A8:=Za A80;clear A80
       by_cases c9:x4_1<(x3_1.length:Int)
       ·rw[if_pos c9] at H
        have c9b0:decide (x4_1<(x3_1.length:Int))=true:=Ze c9
        clear c9
        obtain⟨y100010,hy100010⟩:∃y_:List (S39),y_=(x3_1.set (x4_1:Int).toNat (⟨t100005,t100006,t100009⟩:S39)):=⟨_,rfl⟩
        replace H:(Zav.l0 k1 l0 y100010 (wrap64 (x4_1+1)))=some r:=by first|(rw[hy100010];with_reducible exact H)|(have H2_:=(Zi _ _).symm.trans H;rw[hy100010];with_reducible exact H2_)|(have H2_:=(Zi _ _).symm.trans H;with_reducible exact H2_)|with_reducible exact H|(rw[hy100010];exact H)|exact H
        have Ny100010:=Za hy100010;clear hy100010
        have H':=Za H
        clear H
        have p100004:0≤(x4_1:Int):=Zd (by first|(with_reducible assumption)|assumption)
        have q100004:x4_1<(l0.length:Int):=Zd (by first|(with_reducible assumption)|assumption)
        obtain⟨ad100004,A100004_1,c100004_1,e100004,hx100004_0,hx100004_1,hx100004_2,hl100004_1,hi100004_1⟩:=at_T143 HR0.out x4_1 p100004 q100004
        cases e100004
        replace hx100004_0:=(HB.out.cell (Zc w _ hx100004_0)).trans hx100004_0
        replace hx100004_1:=(HB.out.cell (Zc w _ hx100004_1)).trans hx100004_1
        replace hx100004_2:=(HB.out.cell (Zc w _ hx100004_2)).trans hx100004_2
        have HR100004_1:=Za hi100004_1;have HC100004_1:=Za hl100004_1;clear hi100004_1 hl100004_1
        replace p100004:=eq_true p100004
        replace q100004:=eq_true q100004
        go_wp2_with (first|((with_reducible refine ZJ (f:=158) rfl ?_);refine Zaa (some 20) rfl rfl Tryz.func158 (by kernel_rfl) rfl #[.agg #[.string ((ZaC l0 x4_1).f0),.slice A100004_1 ((ZaC l0 x4_1).f1).length c100004_1,.int .i64 ((ZaC l0 x4_1).f2)]] rfl (by(try simp only[List.map_toArray,List.map_cons,List.map_nil]);first|done|rfl|(simp only[Zk,Zj];rfl)) ?_;(with_reducible refine(ZcC.calls k1 ((ZaC l0 x4_1).f0) _ _ ((ZaC l0 x4_1).f1) ((ZaC l0 x4_1).f2) t100005 t100006 t100009 _ ?side1 ?side2 A8.out).mono ?_);(case side1=>repeat(first|exact(Zb HR100004_1.out HB.out)|(with_reducible refine Kd.C_alloc ?_ _)|(with_reducible refine Kd.C_drewN ?_ _)|(with_reducible refine Kd.C_drew ?_)));(case side2=>exact HC100004_1.out);rintro e w11 ⟨v100007,rfl,ho0,hb⟩;refine⟨_,rfl,?_⟩;have HO100008:=Za (Kd.R_lower ho0 (Zy (by repeat(first|(with_reducible first|exact HB.out|apply Zn|apply Zm|apply Zo)|exact HB.out))));replace HO_3:=Za (Kd.S_elder' (by(with_reducible repeat(first|apply Kd.S_alloc|apply Kd.S_drewN|apply Kd.S_drew));exact HO_3.out) (Kd.R_base ho0) hb);replace HB:=Za (Zw (by repeat(first|(with_reducible first|exact HB.out|apply Zn|apply Zm|apply Zo)|exact HB.out)) hb);(try clear hb);(try clear hb2);(try clear hk);(try clear hi);(try clear ho0);obtain⟨As_,cs_,es_⟩:=Kd.R_slice HO100008.out;subst es_;have p10:0≤(x4_1:Int):=Zd (by first|(with_reducible assumption)|assumption);have q10:(x4_1:Int)<((x3_1.length:Int):Int):=Zd (by first|(with_reducible assumption)|assumption);obtain⟨go10,co10,eo10,gb10,gl10,cl10,HG10⟩:=Kd.S_form HO_3.out (by omega);(first|cases eo10|(injection eo10 with ea_ en_ ec_;(first|subst ea_|(injection ea_ with ea_;subst ea_));subst ec_;clear en_));have GB10:=Za gb10;have GG10:=Za HG10;clear gb10 gl10 HG10;obtain⟨_,ce10,hcl10,hM10,hcc10,hfr10,_,_⟩:=Kd.S_elem HO_3.out z39 (x4_1:Int) p10 q10;obtain⟨ve10_1,rfl,ge10_1⟩:=k39_openM hM10;have hx10_0:w11.cell? ⟨go10,(x4_1:Int).toNat * 3,none⟩=some (.string ((ZH x3_1 x4_1).f0)):=hcc10 0 _ rfl;have hx10_1:w11.cell? ⟨go10,(x4_1:Int).toNat * 3+1,none⟩=some (ve10_1):=hcc10 1 _ rfl;have hx10_2:w11.cell? ⟨go10,(x4_1:Int).toNat * 3+2,none⟩=some (.int .i64 ((ZH x3_1 x4_1).f2)):=hcc10 2 _ rfl;have hf10_0:w11.frozen? ⟨go10,(x4_1:Int).toNat * 3,none⟩=false:=hfr10 0;have hf10_1:w11.frozen? ⟨go10,(x4_1:Int).toNat * 3+1,none⟩=false:=hfr10 1;have hf10_2:w11.frozen? ⟨go10,(x4_1:Int).toNat * 3+2,none⟩=false:=hfr10 2;clear hcl10 hcc10 hfr10 hM10;replace p10:=eq_true p10;replace q10:=eq_true q10;have n_:=Za (Kd.S_mono (ok':=(fun k_=>some k_≠(.slice As_ t100006.length cs_:Value).ownBlock)) HO_3.out (fun k_ hk=>hk.2));clear HO_3;have HO_3:=n_;clear n_;have HX12:=Za (show Kd.S k39 39 w11 w.heap.size (fun k_=>((fun _=>True)) k_∧¬((fun k_=>some k_=(.slice As_ t100006.length cs_:Value).ownBlock)) k_) (.slice (some ⟨go10,0,none⟩) x3_1.length co10) x3_1 from(by(with_reducible repeat(first|apply Kd.S_alloc|apply Kd.S_drewN|apply Kd.S_drew));exact Kd.S_mono HO_3.out (fun k_ hk=>⟨trivial,fun e_=>hk e_⟩)));obtain⟨oki12,ce12,hcl12,hM12,hcc12,hfr12,hoki12,hH12⟩:=Kd.S_elem HX12.out z39 (x4_1:Int) (Zd (by first|(with_reducible assumption)|assumption)) (by have h_:(x4_1:Int)<((x3_1.length:Int):Int):=Zd (by first|(with_reducible assumption)|assumption);first|exact h_|(have e_:=(Kd.S_reads' HO_3.out).1;omega)|simpa using h_);obtain⟨ve12_1,rfl,ge12_1⟩:=k39_openM hM12;have HP12:=Kd.S_seg hH12 (Zd (by first|(with_reducible assumption)|assumption)) (by have h_:(x4_1:Int)<((x3_1.length:Int):Int):=Zd (by first|(with_reducible assumption)|assumption);first|exact h_|(have e_:=(Kd.S_reads' HO_3.out).1;omega)|simpa using h_) (seg:=[.string t100005,(.slice As_ t100006.length cs_),.int .i64 t100009]) (j:=0) (show 3≤3 from by decide) (x':=(⟨t100005,t100006,t100009⟩:S39)) (k39_mkM _ _ _ (⟨t100005,t100006,t100009⟩:S39) (Kd.R_mono (Kd.R_tight rfl (Kd.R_mono (ok':=fun k_=>((fun _=>True)) k_∧k_≠go10) (Kd.R_apart' (HO100008.out) (Kd.S_typed HO_3.out) (by decide)) (fun k_ hk=>⟨trivial,fun e_=>(hk.2) (by rw[e_];rfl)⟩))) (fun _ h_=>Or.inr (h_)))) (fun _ hk=>hk) (fun k_ hk_=>((Kd.R_mono (ok':=fun k_=>((fun _=>True)) k_∧k_≠go10) (Kd.R_apart' (HO100008.out) (Kd.S_typed HO_3.out) (by decide)) (fun k_ hk=>⟨trivial,fun e_=>(hk.2) (by rw[e_];rfl)⟩))).1 k_ hk_.symm);have hx12_0:=hcc12 0 _ rfl;(try simp only[show(k39).sz=3 from rfl,Nat.mul_one,Nat.add_zero] at hx12_0);have hf12_0:=hfr12 0;(try simp only[show(k39).sz=3 from rfl,Nat.mul_one,Nat.add_zero] at hf12_0);have hx12_1:=hcc12 1 _ rfl;(try simp only[show(k39).sz=3 from rfl,Nat.mul_one,Nat.add_zero] at hx12_1);have hf12_1:=hfr12 1;(try simp only[show(k39).sz=3 from rfl,Nat.mul_one,Nat.add_zero] at hf12_1);have hx12_2:=hcc12 2 _ rfl;(try simp only[show(k39).sz=3 from rfl,Nat.mul_one,Nat.add_zero] at hx12_2);have hf12_2:=hfr12 2;(try simp only[show(k39).sz=3 from rfl,Nat.mul_one,Nat.add_zero] at hf12_2);clear hcl12 hcc12 hfr12 hM12 hoki12 hH12)|((with_reducible refine Zej (t:=39) (p:=21) rfl ?_);refine Zd6 (t:=39) (p:=21) (v:=?vo_w13) (w1:=(((w11.setCell ⟨go10,(x4_1:Int).toNat * 3,none⟩ (.string t100005)).setCell ⟨go10,(x4_1:Int).toNat * 3+1,none⟩ (.slice As_ t100006.length cs_)).setCell ⟨go10,(x4_1:Int).toNat * 3+2,none⟩ (.int .i64 t100009))) ?hg ?ho ?hn ?hr ?_;(case ho=>rfl);(case hg=>rfl);(case hn=>rfl);(case hr=>first|(go_simp;done)|(go_simp;rfl));intro w13 hw;have hg:w11.grownBy w13 (some go10):=(by rw[hw];exact HP12.2);have hp_:Kd.S k39 39 w13 w.heap.size (fun _=>True) (.slice (some ⟨go10,0,none⟩) x3_1.length co10) y100010:=(by rw[hw,Ny100010.out];exact HP12.1);clear HP12;replace HO_3:=Za (hp_);replace HB:=Za ((by rw[hw];exact Zq (Zq (Zq (HB.out) GB10.out) GB10.out) GB10.out:Below w.heap.size w w13));clear HO100008;clear hg hw hp_))
        go_roundg k1
        case measure=>have:=HK1.out;omega
        case rel=>exact⟨(y100010),(wrap64 (x4_1+1)),(by first|rfl|(simp;done)|(simp[*];done)),H',⟨by have:=HK1.out;omega⟩,⟨by(with_reducible repeat(first|apply Kd.S_alloc|apply Kd.S_drewN|apply Kd.S_drew));exact HO_3.out⟩,⟨by repeat(first|(with_reducible first|exact HB.out|apply Zn|apply Zm|apply Zo)|exact HB.out)⟩⟩
       ·rw[if_neg c9] at H
        exact absurd H (by simp)
      ·rw[if_neg c7] at H
       exact absurd H (by simp)
     ·rw[if_neg c6] at H
      have c6b0:decide (x4_1<(l0.length:Int))=false:=Zf c6
      clear c6
      obtain rfl:=Zg H
      go_wp2
      go_ret
      exact⟨_,by first|rfl|(simp[ZC,ZB] <;> rfl)|(simp[*,ZC,ZB] <;> rfl),by(with_reducible repeat(first|apply Kd.S_alloc|apply Kd.S_drewN|apply Kd.S_drew));exact HO_3.out,by repeat(first|(with_reducible first|exact HB.out|apply Zn|apply Zm|apply Zo)|exact HB.out)⟩
  ·rw[if_neg c3] at H
   exact absurd H (by simp)
 ·rw[if_neg c2] at H
  exact absurd H (by simp)
def Zc5.f (a0_0:Int) (a0_1:Int) (a0_2:Int) (a0_3:Int) (a0_4:Bool):Option (Int×Int×Int×Int×Bool):=some (a0_0,a0_1,a0_2,a0_3,a0_4)
set_option maxHeartbeats 8000000 in
set_option maxRecDepth 100000 in
theorem Zc5.calls (a0_0:Int) (a0_1:Int) (a0_2:Int) (a0_3:Int) (a0_4:Bool) (r1:Int) (r2:Int) (r3:Int) (r4:Int) (r5:Bool) (w:World) (h:Zc5.f a0_0 a0_1 a0_2 a0_3 a0_4=some (r1,r2,r3,r4,r5)) :
  Calls Tryz.prog 159 #[.agg #[.int .i64 a0_0,.int .i64 a0_1,.int .i64 a0_2,.int .i64 a0_3,.bool a0_4]] w fun e w'=>e=.returned (.agg #[.int .i64 r1,.int .i64 r2,.int .i64 r3,.int .i64 r4,.bool r5])∧Below w.heap.size w w':=by
 have hu147:=Tryz.underlying147
 have hu82:=Tryz.underlying82
 have HB:=Za (Below.refl w.heap.size w)
 have H:(some (a0_0,a0_1,a0_2,a0_3,a0_4))=some (r1,r2,r3,r4,r5):=h
 clear h
 simp only[Option.some.injEq,Prod.mk.injEq] at H
 obtain⟨rfl,rfl,rfl,rfl,rfl⟩:=H
 go_enter Tryz.func159,Tryz.ntmps159
 go_wp2_with (first|((with_reducible refine ZF (N:=1) rfl ?_);refine ZG ?hg (N:=1) ?hd (cs:=#[.int .i64 a0_0,.int .i64 a0_1,.int .i64 a0_2,.int .i64 a0_3,.bool a0_4]) (t:=147) ?hr ?_;(case hd=>rfl);(case hg=>rfl);(case hr=>first|(go_simp;done)|(go_simp;rfl));intro gb159001 hg w2 hbox hb;have BK159001:=Za (hbox);have GW159001:=Za ((by rw[hg];exact(Zy (by repeat(first|(with_reducible first|exact HB.out|apply Zn|apply Zm|apply Zo)|exact HB.out))):w.heap.size≤gb159001));have GE159001:=Za ((by rw[hg];exact(Zy (by repeat(first|(with_reducible first|exact HB.out|apply Zn|apply Zm|apply Zo)|exact HB.out))):w.heap.size≤gb159001));replace HB:=Za (Zw (by repeat(first|(with_reducible first|exact HB.out|apply Zn|apply Zm|apply Zo)|exact HB.out)) hb);clear hb hbox hg)|((with_reducible refine ZF (N:=2) rfl ?_);refine ZG ?hg (N:=2) ?hd (cs:=#[.int .i64 0,.int .i64 0,.int .i64 0,.int .i64 0,.bool false]) (t:=82) ?hr ?_;(case hd=>rfl);(case hg=>rfl);(case hr=>first|(go_simp;done)|(go_simp;rfl));intro gb159002 hg w3 hbox hb;have BK159002:=Za (hbox);have GW159002:=Za ((by rw[hg];exact(Zy (by repeat(first|(with_reducible first|exact HB.out|apply Zn|apply Zm|apply Zo|refine Zq ?_ GE159001.out)|exact HB.out))):w.heap.size≤gb159002));have GE159002:=Za ((by rw[hg];exact(Zy (by repeat(first|(with_reducible first|exact HB.out|apply Zn|apply Zm|apply Zo|refine Zq ?_ GE159001.out)|exact HB.out))):w.heap.size≤gb159002));have NB159001_159002:=Za ((by rw[hg];exact Nat.ne_of_lt (ZM (g:=gb159001) (o:=.cells #[.int .i64 a0_0,.int .i64 a0_1,.int .i64 a0_2,.int .i64 a0_3,.bool a0_4] 147 (0,0)) (by(with_reducible repeat(first|refine Zt ?_ _|refine Zv ?_|refine Zs ?_ _));exact BK159001.out)):gb159001≠gb159002));have NB159002_159001:=Za ((by rw[hg];exact Nat.ne_of_gt (ZM (g:=gb159001) (o:=.cells #[.int .i64 a0_0,.int .i64 a0_1,.int .i64 a0_2,.int .i64 a0_3,.bool a0_4] 147 (0,0)) (by(with_reducible repeat(first|refine Zt ?_ _|refine Zv ?_|refine Zs ?_ _));exact BK159001.out)):gb159002≠gb159001));replace BK159001:=Za (ZA (g:=gb159001) (o:=.cells #[.int .i64 a0_0,.int .i64 a0_1,.int .i64 a0_2,.int .i64 a0_3,.bool a0_4] 147 (0,0)) (by(with_reducible repeat(first|refine Zt ?_ _|refine Zv ?_|refine Zs ?_ _));exact BK159001.out) hb);replace HB:=Za (Zw (by repeat(first|(with_reducible first|exact HB.out|apply Zn|apply Zm|apply Zo|refine Zq ?_ GE159001.out)|exact HB.out)) hb);clear hb hbox hg)|((with_reducible refine ZF (N:=3) rfl ?_);refine ZG ?hg (N:=3) ?hd (cs:=#[.int .i64 0,.int .i64 0,.int .i64 0,.int .i64 0,.bool false]) (t:=82) ?hr ?_;(case hd=>rfl);(case hg=>rfl);(case hr=>first|(go_simp;done)|(go_simp;rfl));intro gb159003 hg w4 hbox hb;have BK159003:=Za (hbox);have GW159003:=Za ((by rw[hg];exact(Zy (by repeat(first|(with_reducible first|exact HB.out|apply Zn|apply Zm|apply Zo|refine Zq ?_ GE159001.out|refine Zq ?_ GE159002.out)|exact HB.out))):w.heap.size≤gb159003));have GE159003:=Za ((by rw[hg];exact(Zy (by repeat(first|(with_reducible first|exact HB.out|apply Zn|apply Zm|apply Zo|refine Zq ?_ GE159001.out|refine Zq ?_ GE159002.out)|exact HB.out))):w.heap.size≤gb159003));have NB159001_159003:=Za ((by rw[hg];exact Nat.ne_of_lt (ZM (g:=gb159001) (o:=.cells #[.int .i64 a0_0,.int .i64 a0_1,.int .i64 a0_2,.int .i64 a0_3,.bool a0_4] 147 (0,0)) (by(with_reducible repeat(first|refine Zt ?_ _|refine Zv ?_|refine Zs ?_ _));exact BK159001.out)):gb159001≠gb159003));have NB159003_159001:=Za ((by rw[hg];exact Nat.ne_of_gt (ZM (g:=gb159001) (o:=.cells #[.int .i64 a0_0,.int .i64 a0_1,.int .i64 a0_2,.int .i64 a0_3,.bool a0_4] 147 (0,0)) (by(with_reducible repeat(first|refine Zt ?_ _|refine Zv ?_|refine Zs ?_ _));exact BK159001.out)):gb159003≠gb159001));have NB159002_159003:=Za ((by rw[hg];exact Nat.ne_of_lt (ZM (g:=gb159002) (o:=.cells #[.int .i64 0,.int .i64 0,.int .i64 0,.int .i64 0,.bool false] 82 (0,0)) (by(with_reducible repeat(first|refine Zt ?_ _|refine Zv ?_|refine Zs ?_ _));exact BK159002.out)):gb159002≠gb159003));have NB159003_159002:=Za ((by rw[hg];exact Nat.ne_of_gt (ZM (g:=gb159002) (o:=.cells #[.int .i64 0,.int .i64 0,.int .i64 0,.int .i64 0,.bool false] 82 (0,0)) (by(with_reducible repeat(first|refine Zt ?_ _|refine Zv ?_|refine Zs ?_ _));exact BK159002.out)):gb159003≠gb159002));replace BK159001:=Za (ZA (g:=gb159001) (o:=.cells #[.int .i64 a0_0,.int .i64 a0_1,.int .i64 a0_2,.int .i64 a0_3,.bool a0_4] 147 (0,0)) (by(with_reducible repeat(first|refine Zt ?_ _|refine Zv ?_|refine Zs ?_ _));exact BK159001.out) hb);replace BK159002:=Za (ZA (g:=gb159002) (o:=.cells #[.int .i64 0,.int .i64 0,.int .i64 0,.int .i64 0,.bool false] 82 (0,0)) (by(with_reducible repeat(first|refine Zt ?_ _|refine Zv ?_|refine Zs ?_ _));exact BK159002.out) hb);replace HB:=Za (Zw (by repeat(first|(with_reducible first|exact HB.out|apply Zn|apply Zm|apply Zo|refine Zq ?_ GE159001.out|refine Zq ?_ GE159002.out)|exact HB.out)) hb);clear hb hbox hg;have hnb5:=NB159001_159002.out;have hnc5:=NB159002_159001.out;have hnb6:=NB159001_159003.out;have hnc6:=NB159003_159001.out;have hcz7_0:w4.cell? ⟨gb159001,0,none⟩=some (.int .i64 a0_0):=(Zp BK159001.out 0).trans rfl;have hcz7_1:w4.cell? ⟨gb159001,1,none⟩=some (.int .i64 a0_1):=(Zp BK159001.out 1).trans rfl;have hcz7_2:w4.cell? ⟨gb159001,2,none⟩=some (.int .i64 a0_2):=(Zp BK159001.out 2).trans rfl;have hcz7_3:w4.cell? ⟨gb159001,3,none⟩=some (.int .i64 a0_3):=(Zp BK159001.out 3).trans rfl;have hcz7_4:w4.cell? ⟨gb159001,4,none⟩=some (.bool a0_4):=(Zp BK159001.out 4).trans rfl;have hfz7_0:=Zr BK159001.out 0;have hfz7_1:=Zr BK159001.out 1;have hfz7_2:=Zr BK159001.out 2;have hfz7_3:=Zr BK159001.out 3;have hfz7_4:=Zr BK159001.out 4;have hnb8:=NB159003_159002.out;have hnc8:=NB159002_159003.out;have hcz9_0:w4.cell? ⟨gb159003,0,none⟩=some (.int .i64 0):=(Zp BK159003.out 0).trans rfl;have hcz9_1:w4.cell? ⟨gb159003,1,none⟩=some (.int .i64 0):=(Zp BK159003.out 1).trans rfl;have hcz9_2:w4.cell? ⟨gb159003,2,none⟩=some (.int .i64 0):=(Zp BK159003.out 2).trans rfl;have hcz9_3:w4.cell? ⟨gb159003,3,none⟩=some (.int .i64 0):=(Zp BK159003.out 3).trans rfl;have hcz9_4:w4.cell? ⟨gb159003,4,none⟩=some (.bool false):=(Zp BK159003.out 4).trans rfl;have hfz9_0:=Zr BK159003.out 0;have hfz9_1:=Zr BK159003.out 1;have hfz9_2:=Zr BK159003.out 2;have hfz9_3:=Zr BK159003.out 3;have hfz9_4:=Zr BK159003.out 4;have hcz10_0:w4.cell? ⟨gb159002,0,none⟩=some (.int .i64 0):=(Zp BK159002.out 0).trans rfl;have hcz10_1:w4.cell? ⟨gb159002,1,none⟩=some (.int .i64 0):=(Zp BK159002.out 1).trans rfl;have hcz10_2:w4.cell? ⟨gb159002,2,none⟩=some (.int .i64 0):=(Zp BK159002.out 2).trans rfl;have hcz10_3:w4.cell? ⟨gb159002,3,none⟩=some (.int .i64 0):=(Zp BK159002.out 3).trans rfl;have hcz10_4:w4.cell? ⟨gb159002,4,none⟩=some (.bool false):=(Zp BK159002.out 4).trans rfl;have hfz10_0:=Zr BK159002.out 0;have hfz10_1:=Zr BK159002.out 1;have hfz10_2:=Zr BK159002.out 2;have hfz10_3:=Zr BK159002.out 3;have hfz10_4:=Zr BK159002.out 4))
 refine bodyPost_ret (results_cell_row rfl _ _ gb159002 82 #[.int .i64 a0_0,.int .i64 a0_1,.int .i64 a0_2,.int .i64 a0_3,.bool a0_4] (0,0) _ rfl (by(with_reducible repeat(first|refine Zt ?_ _|refine Zv ?_|refine Zs ?_ _));refine ZZ (cs:=#[.int .i64 a0_0,.int .i64 a0_1,.int .i64 a0_2,.int .i64 a0_3,.bool false]) ?_ 4 _ rfl;(with_reducible repeat(first|refine Zt ?_ _|refine Zv ?_|refine Zs ?_ _));refine ZZ (cs:=#[.int .i64 a0_0,.int .i64 a0_1,.int .i64 a0_2,.int .i64 0,.bool false]) ?_ 3 _ rfl;(with_reducible repeat(first|refine Zt ?_ _|refine Zv ?_|refine Zs ?_ _));refine ZZ (cs:=#[.int .i64 a0_0,.int .i64 a0_1,.int .i64 0,.int .i64 0,.bool false]) ?_ 2 _ rfl;(with_reducible repeat(first|refine Zt ?_ _|refine Zv ?_|refine Zs ?_ _));refine ZZ (cs:=#[.int .i64 a0_0,.int .i64 0,.int .i64 0,.int .i64 0,.bool false]) ?_ 1 _ rfl;(with_reducible repeat(first|refine Zt ?_ _|refine Zv ?_|refine Zs ?_ _));refine ZZ (cs:=#[.int .i64 0,.int .i64 0,.int .i64 0,.int .i64 0,.bool false]) ?_ 0 _ rfl;(with_reducible repeat(first|refine Zt ?_ _|refine Zv ?_|refine Zs ?_ _));refine ZQ ?_ NB159002_159003.out _;(with_reducible repeat(first|refine Zt ?_ _|refine Zv ?_|refine Zs ?_ _));refine ZQ ?_ NB159002_159003.out _;(with_reducible repeat(first|refine Zt ?_ _|refine Zv ?_|refine Zs ?_ _));refine ZQ ?_ NB159002_159003.out _;(with_reducible repeat(first|refine Zt ?_ _|refine Zv ?_|refine Zs ?_ _));refine ZQ ?_ NB159002_159003.out _;(with_reducible repeat(first|refine Zt ?_ _|refine Zv ?_|refine Zs ?_ _));refine ZQ ?_ NB159002_159003.out _;(with_reducible repeat(first|refine Zt ?_ _|refine Zv ?_|refine Zs ?_ _));exact BK159002.out) Tryz.underlying82 rfl (by kernel_rfl)) rfl ?_
 exact⟨by first|rfl|(simp[ZC,ZB] <;> rfl)|(simp[*,ZC,ZB] <;> rfl),by repeat(first|(with_reducible first|exact HB.out|apply Zn|apply Zm|apply Zo|refine Zq ?_ GE159001.out|refine Zq ?_ GE159002.out|refine Zq ?_ GE159003.out)|exact HB.out)⟩
def ZaG.l0:Nat→List (S147)→List (S82)→Int→Option ((List (S82)))
 | 0,_,_,_=>none
 | k+1,x0,x3,x4=>if x4<(x0.length:Int) then(if 0≤x4 then((Zc5.f ((Za4 x0 x4).f0) ((Za4 x0 x4).f1) ((Za4 x0 x4).f2) ((Za4 x0 x4).f3) ((Za4 x0 x4).f4)).bind fun bt101005=>(if x4<(x3.length:Int) then(ZaG.l0 k x0 (x3.set (x4:Int).toNat (⟨bt101005.1,bt101005.2.1,bt101005.2.2.1,bt101005.2.2.2.1,bt101005.2.2.2.2⟩:S82)) (wrap64 (x4+1))) else(none))) else(none)) else(some x3)
def ZaG.f (k:Nat) (l0:List (S147)):Option ((List (S82))):=if 0≤(l0.length:Int) then(if ((l0.length:Int):Int).toNat≤7036874417766 then(ZaG.l0 k l0 (List.replicate ((l0.length:Int):Int).toNat z82) 0) else(none)) else(none)
set_option maxHeartbeats 8000000 in
set_option maxRecDepth 100000 in
theorem ZaG.calls (k:Nat) (A0:Option Addr) (c0:Nat) (l0:List (S147)) (r:List (S82)) (w:World) (hr0:Kd.C k147 w A0 l0.length l0) (hc0:l0.length≤c0) (h:ZaG.f k l0=some r) :
  Calls Tryz.prog 101 #[.slice A0 l0.length c0] w fun e w'=>∃v0_:Value,e=.returned (v0_)∧Kd.R k82 82 w' w.heap.size (fun _=>True) v0_ r∧Below w.heap.size w w':=by
 have hu147:=Tryz.underlying147
 have hu82:=Tryz.underlying82
 have HR0:=Za hr0;have HC0:=Za hc0;clear hr0 hc0
 have HB:=Za (Below.refl w.heap.size w)
 have H:(if 0≤(l0.length:Int) then(if ((l0.length:Int):Int).toNat≤7036874417766 then(ZaG.l0 k l0 (List.replicate ((l0.length:Int):Int).toNat z82) 0) else(none)) else(none))=some r:=h
 clear h
 by_cases c2:0≤(l0.length:Int)
 ·rw[if_pos c2] at H
  have c2b0:=eq_true c2
  have c2b1:decide (0≤(l0.length:Int))=true:=Ze c2
  clear c2
  by_cases c3:((l0.length:Int):Int).toNat≤7036874417766
  ·rw[if_pos c3] at H
   have c3b0:=eq_true c3
   have c3b1:decide (((l0.length:Int):Int).toNat≤7036874417766)=true:=Ze c3
   clear c3
   obtain⟨y101001,hy101001⟩:∃y_:List (S82),y_=(List.replicate ((l0.length:Int):Int).toNat z82):=⟨_,rfl⟩
   replace H:(ZaG.l0 k l0 y101001 0)=some r:=by first|(rw[hy101001];with_reducible exact H)|(have H2_:=(Zi _ _).symm.trans H;rw[hy101001];with_reducible exact H2_)|(have H2_:=(Zi _ _).symm.trans H;with_reducible exact H2_)|with_reducible exact H|(rw[hy101001];exact H)|exact H
   have Ny101001:=Za hy101001;clear hy101001
   have H':=Za H
   clear H
   go_enter Tryz.func101,Tryz.ntmps101
   go_wp2_with (first|((with_reducible refine ZF (N:=7) rfl ?_);refine Kd.R_make k82 _ 82 rfl (N:=7) rfl 23 _ _ rfl (l0.length:Int) rfl rfl Tryz.underlying23 (.agg #[(.int .i64 0),(.int .i64 0),(.int .i64 0),(.int .i64 0),(.bool false)]) 40 info82 rfl (by decide) (by omega) z82 (ok:=fun _=>True) (okp:=fun _=>True) (k82_mkM _ _ _ z82 ) (fun _ hk=>hk) trivial (Zd (by first|(with_reducible assumption)|assumption)) (Nat.le_trans (Nat.mul_le_mul_right _ (Zd (by first|(with_reducible assumption)|assumption):(l0.length:Int).toNat≤7036874417766)) (by omega)) (Below.refl _ _) (Nat.le_refl _) ?_;intro v101002 w4 ho5 hb hg_ hnew_;clear hg_ hnew_;(first|rw[← Ny101001.out] at ho5|(simp only[Int.reduceToNat] at ho5;rw[← Ny101001.out] at ho5));have HO101003:=Za (Kd.R_lower ho5 (Zy (by repeat(first|(with_reducible first|exact HB.out|apply Zn|apply Zm|apply Zo)|exact HB.out))));replace HB:=Za (Zw (by repeat(first|(with_reducible first|exact HB.out|apply Zn|apply Zm|apply Zo)|exact HB.out)) hb);clear hb ho5))
   go_loopg [4] k (fun kq v4 w'=>∃(x3_1:List (S82)) (x4_1:Int),v4=.int .i64 x4_1∧Aside0 (ZaG.l0 kq l0 x3_1 x4_1=some r)∧Aside0 (kq≤k)∧Aside0 (Kd.R k82 82 w' w.heap.size (fun _=>True) v101002 x3_1)∧Aside0 (Below w.heap.size w w'))
   case atStart=>exact⟨(y101001),(0),(by first|rfl|(simp;done)|(simp[*];done)),H',⟨Nat.le_refl _⟩,⟨by(with_reducible repeat(first|apply Kd.R_alloc|apply Kd.R_drewN|apply Kd.R_drew));exact HO101003.out⟩,⟨by repeat(first|(with_reducible first|exact HB.out|apply Zn|apply Zm|apply Zo)|exact HB.out)⟩⟩
   case round=>
    clear H'
    try clear c1
    try clear c2
    try clear c2b0
    try clear c2b1
    try clear p2
    try clear c3
    try clear c3b0
    try clear c3b1
    obtain⟨x3_1,x4_1,rfl,HA,HK1,HO_3,HB⟩:=hrel
    cases gk with
    | zero=>exact absurd HA.out (by simp[ZaG.l0])
    | succ k1=>
     have H:=HA.out
     clear HA
     simp only[ZaG.l0] at H
     by_cases c6:x4_1<(l0.length:Int)
     ·rw[if_pos c6] at H
      have c6b0:decide (x4_1<(l0.length:Int))=true:=Ze c6
      clear c6
      by_cases c7:0≤x4_1
      ·rw[if_pos c7] at H
       have c7b0:decide (0≤x4_1)=true:=Ze c7
       clear c7
       replace H:=Zh H
       obtain⟨⟨t101005,t101006,t101007,t101008,t101009⟩,A80,H⟩:=H;have A8:=Za A80;clear A80
       by_cases c9:x4_1<(x3_1.length:Int)
       ·rw[if_pos c9] at H
        have c9b0:decide (x4_1<(x3_1.length:Int))=true:=Ze c9
        clear c9
        obtain⟨y101010,hy101010⟩:∃y_:List (S82),y_=(x3_1.set (x4_1:Int).toNat (⟨t101005,t101006,t101007,t101008,t101009⟩:S82)):=⟨_,rfl⟩
        replace H:(ZaG.l0 k1 l0 y101010 (wrap64 (x4_1+1)))=some r:=by first|(rw[hy101010];with_reducible exact H)|(have H2_:=(Zi _ _).symm.trans H;rw[hy101010];with_reducible exact H2_)|(have H2_:=(Zi _ _).symm.trans H;with_reducible exact H2_)|with_reducible exact H|(rw[hy101010];exact H)|exact H
        have Ny101010:=Za hy101010;clear hy101010
        have H':=Za H
        clear H
        have p101004:0≤(x4_1:Int):=Zd (by first|(with_reducible assumption)|assumption)
        have q101004:x4_1<(l0.length:Int):=Zd (by first|(with_reducible assumption)|assumption)
        obtain⟨ad101004,e101004,hx101004_0,hx101004_1,hx101004_2,hx101004_3,hx101004_4⟩:=at_T147 HR0.out x4_1 p101004 q101004
        cases e101004
        replace hx101004_0:=(HB.out.cell (Zc w _ hx101004_0)).trans hx101004_0
        replace hx101004_1:=(HB.out.cell (Zc w _ hx101004_1)).trans hx101004_1
        replace hx101004_2:=(HB.out.cell (Zc w _ hx101004_2)).trans hx101004_2
        replace hx101004_3:=(HB.out.cell (Zc w _ hx101004_3)).trans hx101004_3
        replace hx101004_4:=(HB.out.cell (Zc w _ hx101004_4)).trans hx101004_4
        replace p101004:=eq_true p101004
        replace q101004:=eq_true q101004
        go_wp2_with (first|((with_reducible refine ZJ (f:=159) rfl ?_);refine Zaa (some 20) rfl rfl Tryz.func159 (by kernel_rfl) rfl #[.agg #[.int .i64 ((Za4 l0 x4_1).f0),.int .i64 ((Za4 l0 x4_1).f1),.int .i64 ((Za4 l0 x4_1).f2),.int .i64 ((Za4 l0 x4_1).f3),.bool ((Za4 l0 x4_1).f4)]] rfl (by(try simp only[List.map_toArray,List.map_cons,List.map_nil]);first|done|rfl|(simp only[Zk,Zj];rfl)) ?_;(with_reducible refine(Zc5.calls ((Za4 l0 x4_1).f0) ((Za4 l0 x4_1).f1) ((Za4 l0 x4_1).f2) ((Za4 l0 x4_1).f3) ((Za4 l0 x4_1).f4) t101005 t101006 t101007 t101008 t101009 _ A8.out).mono ?_);rintro e w11 ⟨rfl,hb⟩;refine⟨_,rfl,?_⟩;replace HO_3:=Za (Kd.R_below (by(with_reducible repeat(first|apply Kd.R_alloc|apply Kd.R_drewN|apply Kd.R_drew));exact HO_3.out) hb);replace HB:=Za (Zw (by repeat(first|(with_reducible first|exact HB.out|apply Zn|apply Zm|apply Zo)|exact HB.out)) hb);(try clear hb);(try clear hb2);(try clear hk);(try clear hi);have p10:0≤(x4_1:Int):=Zd (by first|(with_reducible assumption)|assumption);have q10:(x4_1:Int)<((x3_1.length:Int):Int):=Zd (by first|(with_reducible assumption)|assumption);obtain⟨go10,co10,eo10,gb10,gl10,cl10,HG10⟩:=Kd.R_form HO_3.out (by omega);(first|cases eo10|(injection eo10 with ea_ en_ ec_;(first|subst ea_|(injection ea_ with ea_;subst ea_));subst ec_;clear en_));have GB10:=Za gb10;have GG10:=Za HG10;clear gb10 gl10 HG10;obtain⟨ce10,hcl10,hM10,hcc10,hfr10⟩:=Kd.R_elem HO_3.out z82 (x4_1:Int) p10 q10;obtain rfl:=k82_openM hM10;have hx10_0:w11.cell? ⟨go10,(x4_1:Int).toNat * 5,none⟩=some (.int .i64 ((ZD x3_1 x4_1).f0)):=hcc10 0 _ rfl;have hx10_1:w11.cell? ⟨go10,(x4_1:Int).toNat * 5+1,none⟩=some (.int .i64 ((ZD x3_1 x4_1).f1)):=hcc10 1 _ rfl;have hx10_2:w11.cell? ⟨go10,(x4_1:Int).toNat * 5+2,none⟩=some (.int .i64 ((ZD x3_1 x4_1).f2)):=hcc10 2 _ rfl;have hx10_3:w11.cell? ⟨go10,(x4_1:Int).toNat * 5+3,none⟩=some (.int .i64 ((ZD x3_1 x4_1).f3)):=hcc10 3 _ rfl;have hx10_4:w11.cell? ⟨go10,(x4_1:Int).toNat * 5+4,none⟩=some (.bool ((ZD x3_1 x4_1).f4)):=hcc10 4 _ rfl;have hf10_0:w11.frozen? ⟨go10,(x4_1:Int).toNat * 5,none⟩=false:=hfr10 0;have hf10_1:w11.frozen? ⟨go10,(x4_1:Int).toNat * 5+1,none⟩=false:=hfr10 1;have hf10_2:w11.frozen? ⟨go10,(x4_1:Int).toNat * 5+2,none⟩=false:=hfr10 2;have hf10_3:w11.frozen? ⟨go10,(x4_1:Int).toNat * 5+3,none⟩=false:=hfr10 3;have hf10_4:w11.frozen? ⟨go10,(x4_1:Int).toNat * 5+4,none⟩=false:=hfr10 4;clear hcl10 hcc10 hfr10 hM10;replace p10:=eq_true p10;replace q10:=eq_true q10;have HX12:=Za (show Kd.R k82 82 w11 w.heap.size (fun _=>True) (.slice (some ⟨go10,0,none⟩) x3_1.length co10) x3_1 from(by(with_reducible repeat(first|apply Kd.R_alloc|apply Kd.R_drewN|apply Kd.R_drew));exact HO_3.out));obtain⟨ce12,hcl12,hM12,hcc12,hfr12⟩:=Kd.R_elem HX12.out z82 (x4_1:Int) (Zd (by first|(with_reducible assumption)|assumption)) (by have h_:(x4_1:Int)<((x3_1.length:Int):Int):=Zd (by first|(with_reducible assumption)|assumption);first|exact h_|(have e_:=(Kd.R_reads' HO_3.out).1;omega)|simpa using h_);obtain rfl:=k82_openM hM12;have HP12:=Kd.R_seg HX12.out (x4_1:Int) (Zd (by first|(with_reducible assumption)|assumption)) (by have h_:(x4_1:Int)<((x3_1.length:Int):Int):=Zd (by first|(with_reducible assumption)|assumption);first|exact h_|(have e_:=(Kd.R_reads' HO_3.out).1;omega)|simpa using h_) (seg:=[.int .i64 t101005,.int .i64 t101006,.int .i64 t101007,.int .i64 t101008,.bool t101009]) (j:=0) hcl12 hcc12 (show 5≤5 from by decide) (x':=(⟨t101005,t101006,t101007,t101008,t101009⟩:S82)) (k82_mkM _ _ _ (⟨t101005,t101006,t101007,t101008,t101009⟩:S82) ) (fun _ hk=>hk);have hx12_0:=hcc12 0 _ rfl;(try simp only[show(k82).sz=5 from rfl,Nat.mul_one,Nat.add_zero] at hx12_0);have hf12_0:=hfr12 0;(try simp only[show(k82).sz=5 from rfl,Nat.mul_one,Nat.add_zero] at hf12_0);have hx12_1:=hcc12 1 _ rfl;(try simp only[show(k82).sz=5 from rfl,Nat.mul_one,Nat.add_zero] at hx12_1);have hf12_1:=hfr12 1;(try simp only[show(k82).sz=5 from rfl,Nat.mul_one,Nat.add_zero] at hf12_1);have hx12_2:=hcc12 2 _ rfl;(try simp only[show(k82).sz=5 from rfl,Nat.mul_one,Nat.add_zero] at hx12_2);have hf12_2:=hfr12 2;(try simp only[show(k82).sz=5 from rfl,Nat.mul_one,Nat.add_zero] at hf12_2);have hx12_3:=hcc12 3 _ rfl;(try simp only[show(k82).sz=5 from rfl,Nat.mul_one,Nat.add_zero] at hx12_3);have hf12_3:=hfr12 3;(try simp only[show(k82).sz=5 from rfl,Nat.mul_one,Nat.add_zero] at hf12_3);have hx12_4:=hcc12 4 _ rfl;(try simp only[show(k82).sz=5 from rfl,Nat.mul_one,Nat.add_zero] at hx12_4);have hf12_4:=hfr12 4;(try simp only[show(k82).sz=5 from rfl,Nat.mul_one,Nat.add_zero] at hf12_4);clear hcl12 hcc12 hfr12 hM12)|((with_reducible refine Zej (t:=82) (p:=21) rfl ?_);refine Zd6 (t:=82) (p:=21) (v:=?vo_w13) (w1:=(((((w11.setCell ⟨go10,(x4_1:Int).toNat * 5,none⟩ (.int .i64 t101005)).setCell ⟨go10,(x4_1:Int).toNat * 5+1,none⟩ (.int .i64 t101006)).setCell ⟨go10,(x4_1:Int).toNat * 5+2,none⟩ (.int .i64 t101007)).setCell ⟨go10,(x4_1:Int).toNat * 5+3,none⟩ (.int .i64 t101008)).setCell ⟨go10,(x4_1:Int).toNat * 5+4,none⟩ (.bool t101009))) ?hg ?ho ?hn ?hr ?_;(case ho=>rfl);(case hg=>rfl);(case hn=>rfl);(case hr=>first|(go_simp;done)|(go_simp;rfl));intro w13 hw;have hg:w11.grownBy w13 (some go10):=(by rw[hw];exact HP12.2);have hp_:Kd.R k82 82 w13 w.heap.size (fun _=>True) (.slice (some ⟨go10,0,none⟩) x3_1.length co10) y101010:=(by rw[hw,Ny101010.out];exact HP12.1);clear HP12;replace HO_3:=Za (hp_);replace HB:=Za ((by rw[hw];exact Zq (Zq (Zq (Zq (Zq (HB.out) GB10.out) GB10.out) GB10.out) GB10.out) GB10.out:Below w.heap.size w w13));clear hg hw hp_))
        go_roundg k1
        case measure=>have:=HK1.out;omega
        case rel=>exact⟨(y101010),(wrap64 (x4_1+1)),(by first|rfl|(simp;done)|(simp[*];done)),H',⟨by have:=HK1.out;omega⟩,⟨by(with_reducible repeat(first|apply Kd.R_alloc|apply Kd.R_drewN|apply Kd.R_drew));exact HO_3.out⟩,⟨by repeat(first|(with_reducible first|exact HB.out|apply Zn|apply Zm|apply Zo)|exact HB.out)⟩⟩
       ·rw[if_neg c9] at H
        exact absurd H (by simp)
      ·rw[if_neg c7] at H
       exact absurd H (by simp)
     ·rw[if_neg c6] at H
      have c6b0:decide (x4_1<(l0.length:Int))=false:=Zf c6
      clear c6
      obtain rfl:=Zg H
      go_wp2
      go_ret
      exact⟨_,by first|rfl|(simp[ZC,ZB] <;> rfl)|(simp[*,ZC,ZB] <;> rfl),by(with_reducible repeat(first|apply Kd.R_alloc|apply Kd.R_drewN|apply Kd.R_drew));exact HO_3.out,by repeat(first|(with_reducible first|exact HB.out|apply Zn|apply Zm|apply Zo)|exact HB.out)⟩
  ·rw[if_neg c3] at H
   exact absurd H (by simp)
 ·rw[if_neg c2] at H
  exact absurd H (by simp)
def ZaX.f (k:Nat) (l0_0:List (S143)) (l0_1:List (S147)) (a0_2:Int):Option ((List (S39))×(List (S82))×Int):=(Zav.f k l0_0).bind fun t30004=>((ZaG.f k l0_1).bind fun t30007=>(some (t30004,t30007,a0_2)))
set_option maxHeartbeats 8000000 in
set_option maxRecDepth 100000 in
theorem ZaX.calls (k:Nat) (A0_0:Option Addr) (c0_0:Nat) (l0_0:List (S143)) (A0_1:Option Addr) (c0_1:Nat) (l0_1:List (S147)) (a0_2:Int) (r1:List (S39)) (r2:List (S82)) (r3:Int) (w:World) (hr0_0:Kd.C k143 w A0_0 l0_0.length l0_0) (hc0_0:l0_0.length≤c0_0) (hr0_1:Kd.C k147 w A0_1 l0_1.length l0_1) (hc0_1:l0_1.length≤c0_1) (h:ZaX.f k l0_0 l0_1 a0_2=some (r1,r2,r3)) :
  Calls Tryz.prog 30 #[.agg #[.slice A0_0 l0_0.length c0_0,.slice A0_1 l0_1.length c0_1,.int .i64 a0_2]] w fun e w'=>∃v0_ v1_:Value,e=.returned (.agg #[v0_,v1_,.int .i64 r3])∧Kd.S k39 39 w' w.heap.size (fun _=>True) v0_ r1∧Kd.R k82 82 w' w.heap.size (fun _=>True) v1_ r2∧Below w.heap.size w w':=by
 have hu47:=Tryz.underlying47
 have hu25:=Tryz.underlying25
 have HR0_0:=Za hr0_0;have HC0_0:=Za hc0_0;clear hr0_0 hc0_0;have HR0_1:=Za hr0_1;have HC0_1:=Za hc0_1;clear hr0_1 hc0_1
 have HB:=Za (Below.refl w.heap.size w)
 have H:((Zav.f k l0_0).bind fun t30004=>((ZaG.f k l0_1).bind fun t30007=>(some (t30004,t30007,a0_2))))=some (r1,r2,r3):=h
 clear h
 replace H:=Zh H
 obtain⟨t30004,A20,H⟩:=H;have A2:=Za A20;clear A20
 replace H:=Zh H
 obtain⟨t30007,A30,H⟩:=H;have A3:=Za A30;clear A30
 simp only[Option.some.injEq,Prod.mk.injEq] at H
 obtain⟨rfl,rfl,rfl⟩:=H
 go_enter Tryz.func30,Tryz.ntmps30
 go_wp2_with (first|((with_reducible refine ZF (N:=1) rfl ?_);refine ZG ?hg (N:=1) ?hd (cs:=#[.slice A0_0 l0_0.length c0_0,.slice A0_1 l0_1.length c0_1,.int .i64 a0_2]) (t:=47) ?hr ?_;(case hd=>rfl);(case hg=>rfl);(case hr=>first|(go_simp;done)|(go_simp;rfl));intro gb30001 hg w4 hbox hb;have BK30001:=Za (hbox);have GW30001:=Za ((by rw[hg];exact(Zy (by repeat(first|(with_reducible first|exact HB.out|apply Zn|apply Zm|apply Zo)|exact HB.out))):w.heap.size≤gb30001));have GE30001:=Za ((by rw[hg];exact(Zy (by repeat(first|(with_reducible first|exact HB.out|apply Zn|apply Zm|apply Zo)|exact HB.out))):w.heap.size≤gb30001));replace HB:=Za (Zw (by repeat(first|(with_reducible first|exact HB.out|apply Zn|apply Zm|apply Zo)|exact HB.out)) hb);clear hb hbox hg)|((with_reducible refine ZF (N:=2) rfl ?_);refine ZG ?hg (N:=2) ?hd (cs:=#[.slice none 0 0,.slice none 0 0,.int .i64 0]) (t:=25) ?hr ?_;(case hd=>rfl);(case hg=>rfl);(case hr=>first|(go_simp;done)|(go_simp;rfl));intro gb30002 hg w5 hbox hb;have BK30002:=Za (hbox);have GW30002:=Za ((by rw[hg];exact(Zy (by repeat(first|(with_reducible first|exact HB.out|apply Zn|apply Zm|apply Zo|refine Zq ?_ GE30001.out)|exact HB.out))):w.heap.size≤gb30002));have GE30002:=Za ((by rw[hg];exact(Zy (by repeat(first|(with_reducible first|exact HB.out|apply Zn|apply Zm|apply Zo|refine Zq ?_ GE30001.out)|exact HB.out))):w.heap.size≤gb30002));have NB30001_30002:=Za ((by rw[hg];exact Nat.ne_of_lt (ZM (g:=gb30001) (o:=.cells #[.slice A0_0 l0_0.length c0_0,.slice A0_1 l0_1.length c0_1,.int .i64 a0_2] 47 (0,0)) (by(with_reducible repeat(first|refine Zt ?_ _|refine Zv ?_|refine Zs ?_ _));exact BK30001.out)):gb30001≠gb30002));have NB30002_30001:=Za ((by rw[hg];exact Nat.ne_of_gt (ZM (g:=gb30001) (o:=.cells #[.slice A0_0 l0_0.length c0_0,.slice A0_1 l0_1.length c0_1,.int .i64 a0_2] 47 (0,0)) (by(with_reducible repeat(first|refine Zt ?_ _|refine Zv ?_|refine Zs ?_ _));exact BK30001.out)):gb30002≠gb30001));replace BK30001:=Za (ZA (g:=gb30001) (o:=.cells #[.slice A0_0 l0_0.length c0_0,.slice A0_1 l0_1.length c0_1,.int .i64 a0_2] 47 (0,0)) (by(with_reducible repeat(first|refine Zt ?_ _|refine Zv ?_|refine Zs ?_ _));exact BK30001.out) hb);replace HB:=Za (Zw (by repeat(first|(with_reducible first|exact HB.out|apply Zn|apply Zm|apply Zo|refine Zq ?_ GE30001.out)|exact HB.out)) hb);clear hb hbox hg)|((with_reducible refine ZF (N:=3) rfl ?_);refine ZG ?hg (N:=3) ?hd (cs:=#[.slice none 0 0,.slice none 0 0,.int .i64 0]) (t:=25) ?hr ?_;(case hd=>rfl);(case hg=>rfl);(case hr=>first|(go_simp;done)|(go_simp;rfl));intro gb30003 hg w6 hbox hb;have BK30003:=Za (hbox);have GW30003:=Za ((by rw[hg];exact(Zy (by repeat(first|(with_reducible first|exact HB.out|apply Zn|apply Zm|apply Zo|refine Zq ?_ GE30001.out|refine Zq ?_ GE30002.out)|exact HB.out))):w.heap.size≤gb30003));have GE30003:=Za ((by rw[hg];exact(Zy (by repeat(first|(with_reducible first|exact HB.out|apply Zn|apply Zm|apply Zo|refine Zq ?_ GE30001.out|refine Zq ?_ GE30002.out)|exact HB.out))):w.heap.size≤gb30003));have NB30001_30003:=Za ((by rw[hg];exact Nat.ne_of_lt (ZM (g:=gb30001) (o:=.cells #[.slice A0_0 l0_0.length c0_0,.slice A0_1 l0_1.length c0_1,.int .i64 a0_2] 47 (0,0)) (by(with_reducible repeat(first|refine Zt ?_ _|refine Zv ?_|refine Zs ?_ _));exact BK30001.out)):gb30001≠gb30003));have NB30003_30001:=Za ((by rw[hg];exact Nat.ne_of_gt (ZM (g:=gb30001) (o:=.cells #[.slice A0_0 l0_0.length c0_0,.slice A0_1 l0_1.length c0_1,.int .i64 a0_2] 47 (0,0)) (by(with_reducible repeat(first|refine Zt ?_ _|refine Zv ?_|refine Zs ?_ _));exact BK30001.out)):gb30003≠gb30001));have NB30002_30003:=Za ((by rw[hg];exact Nat.ne_of_lt (ZM (g:=gb30002) (o:=.cells #[.slice none 0 0,.slice none 0 0,.int .i64 0] 25 (0,0)) (by(with_reducible repeat(first|refine Zt ?_ _|refine Zv ?_|refine Zs ?_ _));exact BK30002.out)):gb30002≠gb30003));have NB30003_30002:=Za ((by rw[hg];exact Nat.ne_of_gt (ZM (g:=gb30002) (o:=.cells #[.slice none 0 0,.slice none 0 0,.int .i64 0] 25 (0,0)) (by(with_reducible repeat(first|refine Zt ?_ _|refine Zv ?_|refine Zs ?_ _));exact BK30002.out)):gb30003≠gb30002));replace BK30001:=Za (ZA (g:=gb30001) (o:=.cells #[.slice A0_0 l0_0.length c0_0,.slice A0_1 l0_1.length c0_1,.int .i64 a0_2] 47 (0,0)) (by(with_reducible repeat(first|refine Zt ?_ _|refine Zv ?_|refine Zs ?_ _));exact BK30001.out) hb);replace BK30002:=Za (ZA (g:=gb30002) (o:=.cells #[.slice none 0 0,.slice none 0 0,.int .i64 0] 25 (0,0)) (by(with_reducible repeat(first|refine Zt ?_ _|refine Zv ?_|refine Zs ?_ _));exact BK30002.out) hb);replace HB:=Za (Zw (by repeat(first|(with_reducible first|exact HB.out|apply Zn|apply Zm|apply Zo|refine Zq ?_ GE30001.out|refine Zq ?_ GE30002.out)|exact HB.out)) hb);clear hb hbox hg;have hnb7:=NB30001_30002.out;have hnc7:=NB30002_30001.out;have hnb8:=NB30001_30003.out;have hnc8:=NB30003_30001.out;have hcz9_0:w6.cell? ⟨gb30001,0,none⟩=some (.slice A0_0 l0_0.length c0_0):=(Zp BK30001.out 0).trans rfl;have hcz9_1:w6.cell? ⟨gb30001,1,none⟩=some (.slice A0_1 l0_1.length c0_1):=(Zp BK30001.out 1).trans rfl;have hcz9_2:w6.cell? ⟨gb30001,2,none⟩=some (.int .i64 a0_2):=(Zp BK30001.out 2).trans rfl;have hfz9_0:=Zr BK30001.out 0;have hfz9_1:=Zr BK30001.out 1;have hfz9_2:=Zr BK30001.out 2)|((with_reducible refine ZJ (f:=100) rfl ?_);refine Zaa (some 6) rfl rfl Tryz.func100 (by kernel_rfl) rfl #[.slice A0_0 l0_0.length c0_0] rfl (by(try simp only[List.map_toArray,List.map_cons,List.map_nil]);first|done|rfl|(simp only[Zk,Zj];rfl)) ?_;(with_reducible refine(Zav.calls k _ _ l0_0 t30004 _ ?side1 ?side2 A2.out).mono ?_);(case side1=>repeat(first|exact(Zb HR0_0.out HB.out)|(with_reducible refine Kd.C_alloc ?_ _)|(with_reducible refine Kd.C_drewN ?_ _)|(with_reducible refine Kd.C_drew ?_)));(case side2=>exact HC0_0.out);rintro e w10 ⟨v30005,rfl,ho0,hb⟩;refine⟨_,rfl,?_⟩;have HO30006:=Za (Kd.S_lower ho0 (Zy (by repeat(first|(with_reducible first|exact HB.out|apply Zn|apply Zm|apply Zo|refine Zq ?_ GE30001.out|refine Zq ?_ GE30002.out|refine Zq ?_ GE30003.out)|exact HB.out))));replace BK30001:=Za (ZA (g:=gb30001) (o:=.cells #[.slice A0_0 l0_0.length c0_0,.slice A0_1 l0_1.length c0_1,.int .i64 a0_2] 47 (0,0)) (by(with_reducible repeat(first|refine Zt ?_ _|refine Zv ?_|refine Zs ?_ _));exact BK30001.out) hb);replace BK30002:=Za (ZA (g:=gb30002) (o:=.cells #[.slice none 0 0,.slice none 0 0,.int .i64 0] 25 (0,0)) (by(with_reducible repeat(first|refine Zt ?_ _|refine Zv ?_|refine Zs ?_ _));exact BK30002.out) hb);replace BK30003:=Za (ZA (g:=gb30003) (o:=.cells #[.slice none 0 0,.slice none 0 0,.int .i64 0] 25 (0,0)) (by(with_reducible repeat(first|refine Zt ?_ _|refine Zv ?_|refine Zs ?_ _));exact BK30003.out) hb);replace HB:=Za (Zw (by repeat(first|(with_reducible first|exact HB.out|apply Zn|apply Zm|apply Zo|refine Zq ?_ GE30001.out|refine Zq ?_ GE30002.out|refine Zq ?_ GE30003.out)|exact HB.out)) hb);obtain⟨Ao11,co11,eo11⟩:=Kd.S_slice HO30006.out;subst eo11;have hnb12:=NB30003_30002.out;have hnc12:=NB30002_30003.out;have hcz13_0:w10.cell? ⟨gb30003,0,none⟩=some (.slice none 0 0):=(Zp BK30003.out 0).trans rfl;have hcz13_1:w10.cell? ⟨gb30003,1,none⟩=some (.slice none 0 0):=(Zp BK30003.out 1).trans rfl;have hcz13_2:w10.cell? ⟨gb30003,2,none⟩=some (.int .i64 0):=(Zp BK30003.out 2).trans rfl;have hfz13_0:=Zr BK30003.out 0;have hfz13_1:=Zr BK30003.out 1;have hfz13_2:=Zr BK30003.out 2;have hcz14_0:w10.cell? ⟨gb30001,0,none⟩=some (.slice A0_0 l0_0.length c0_0):=(Zp BK30001.out 0).trans rfl;have hcz14_1:w10.cell? ⟨gb30001,1,none⟩=some (.slice A0_1 l0_1.length c0_1):=(Zp BK30001.out 1).trans rfl;have hcz14_2:w10.cell? ⟨gb30001,2,none⟩=some (.int .i64 a0_2):=(Zp BK30001.out 2).trans rfl;have hfz14_0:=Zr BK30001.out 0;have hfz14_1:=Zr BK30001.out 1;have hfz14_2:=Zr BK30001.out 2)|((with_reducible refine ZJ (f:=101) rfl ?_);refine Zaa (some 10) rfl rfl Tryz.func101 (by kernel_rfl) rfl #[.slice A0_1 l0_1.length c0_1] rfl (by(try simp only[List.map_toArray,List.map_cons,List.map_nil]);first|done|rfl|(simp only[Zk,Zj];rfl)) ?_;(with_reducible refine(ZaG.calls k _ _ l0_1 t30007 _ ?side1 ?side2 A3.out).mono ?_);(case side1=>exact Zb HR0_1.out (by repeat(first|(with_reducible first|exact HB.out|apply Zn|apply Zm|apply Zo|refine Zq ?_ GE30001.out|refine Zq ?_ GE30002.out|refine Zq ?_ GE30003.out)|exact HB.out)));(case side2=>exact HC0_1.out);rintro e w15 ⟨v30008,rfl,ho0,hb⟩;refine⟨_,rfl,?_⟩;have HO30009:=Za (Kd.R_lower ho0 (Zy (by repeat(first|(with_reducible first|exact HB.out|apply Zn|apply Zm|apply Zo|refine Zq ?_ GE30001.out|refine Zq ?_ GE30002.out|refine Zq ?_ GE30003.out)|exact HB.out))));replace HO30006:=Za (Kd.S_below (by(with_reducible repeat(first|apply Kd.S_alloc|apply Kd.S_drewN|apply Kd.S_drew));exact(Kd.S_mono (Kd.S_far (p:=⟨gb30003,0,none⟩) (Kd.S_types HO30006.out BK30003.out (by decide)) (fun _ hk=>hk.2) (.slice Ao11 t30004.length co11)) (fun _ h_=>h_.1))) hb);replace BK30001:=Za (ZA (g:=gb30001) (o:=.cells #[.slice A0_0 l0_0.length c0_0,.slice A0_1 l0_1.length c0_1,.int .i64 a0_2] 47 (0,0)) (by(with_reducible repeat(first|refine Zt ?_ _|refine Zv ?_|refine Zs ?_ _));refine ZQ ?_ NB30001_30003.out _;(with_reducible repeat(first|refine Zt ?_ _|refine Zv ?_|refine Zs ?_ _));exact BK30001.out) hb);replace BK30002:=Za (ZA (g:=gb30002) (o:=.cells #[.slice none 0 0,.slice none 0 0,.int .i64 0] 25 (0,0)) (by(with_reducible repeat(first|refine Zt ?_ _|refine Zv ?_|refine Zs ?_ _));refine ZQ ?_ NB30002_30003.out _;(with_reducible repeat(first|refine Zt ?_ _|refine Zv ?_|refine Zs ?_ _));exact BK30002.out) hb);replace BK30003:=Za (ZA (g:=gb30003) (o:=.cells #[.slice Ao11 t30004.length co11,.slice none 0 0,.int .i64 0] 25 (0,0)) (by(with_reducible repeat(first|refine Zt ?_ _|refine Zv ?_|refine Zs ?_ _));refine ZZ (cs:=#[.slice none 0 0,.slice none 0 0,.int .i64 0]) ?_ 0 _ rfl;(with_reducible repeat(first|refine Zt ?_ _|refine Zv ?_|refine Zs ?_ _));exact BK30003.out) hb);replace HB:=Za (Zw (by repeat(first|(with_reducible first|exact HB.out|apply Zn|apply Zm|apply Zo|refine Zq ?_ GE30001.out|refine Zq ?_ GE30002.out|refine Zq ?_ GE30003.out)|exact HB.out)) hb);obtain⟨Ao16,co16,eo16⟩:=Kd.R_slice HO30009.out;subst eo16;have hcz17_0:w15.cell? ⟨gb30003,0,none⟩=some (.slice Ao11 t30004.length co11):=(Zp BK30003.out 0).trans rfl;have hcz17_1:w15.cell? ⟨gb30003,1,none⟩=some (.slice none 0 0):=(Zp BK30003.out 1).trans rfl;have hcz17_2:w15.cell? ⟨gb30003,2,none⟩=some (.int .i64 0):=(Zp BK30003.out 2).trans rfl;have hfz17_0:=Zr BK30003.out 0;have hfz17_1:=Zr BK30003.out 1;have hfz17_2:=Zr BK30003.out 2;have hcz18_0:w15.cell? ⟨gb30001,0,none⟩=some (.slice A0_0 l0_0.length c0_0):=(Zp BK30001.out 0).trans rfl;have hcz18_1:w15.cell? ⟨gb30001,1,none⟩=some (.slice A0_1 l0_1.length c0_1):=(Zp BK30001.out 1).trans rfl;have hcz18_2:w15.cell? ⟨gb30001,2,none⟩=some (.int .i64 a0_2):=(Zp BK30001.out 2).trans rfl;have hfz18_0:=Zr BK30001.out 0;have hfz18_1:=Zr BK30001.out 1;have hfz18_2:=Zr BK30001.out 2;have hcz19_0:w15.cell? ⟨gb30002,0,none⟩=some (.slice none 0 0):=(Zp BK30002.out 0).trans rfl;have hcz19_1:w15.cell? ⟨gb30002,1,none⟩=some (.slice none 0 0):=(Zp BK30002.out 1).trans rfl;have hcz19_2:w15.cell? ⟨gb30002,2,none⟩=some (.int .i64 0):=(Zp BK30002.out 2).trans rfl;have hfz19_0:=Zr BK30002.out 0;have hfz19_1:=Zr BK30002.out 1;have hfz19_2:=Zr BK30002.out 2))
 refine bodyPost_ret (results_cell_row rfl _ _ gb30002 25 #[.slice Ao11 t30004.length co11,.slice Ao16 t30007.length co16,.int .i64 a0_2] (0,0) _ rfl (by(with_reducible repeat(first|refine Zt ?_ _|refine Zv ?_|refine Zs ?_ _));refine ZZ (cs:=#[.slice Ao11 t30004.length co11,.slice Ao16 t30007.length co16,.int .i64 0]) ?_ 2 _ rfl;(with_reducible repeat(first|refine Zt ?_ _|refine Zv ?_|refine Zs ?_ _));refine ZZ (cs:=#[.slice Ao11 t30004.length co11,.slice none 0 0,.int .i64 0]) ?_ 1 _ rfl;(with_reducible repeat(first|refine Zt ?_ _|refine Zv ?_|refine Zs ?_ _));refine ZZ (cs:=#[.slice none 0 0,.slice none 0 0,.int .i64 0]) ?_ 0 _ rfl;(with_reducible repeat(first|refine Zt ?_ _|refine Zv ?_|refine Zs ?_ _));refine ZQ ?_ NB30002_30003.out _;(with_reducible repeat(first|refine Zt ?_ _|refine Zv ?_|refine Zs ?_ _));refine ZQ ?_ NB30002_30003.out _;(with_reducible repeat(first|refine Zt ?_ _|refine Zv ?_|refine Zs ?_ _));exact BK30002.out) Tryz.underlying25 rfl (by kernel_rfl)) rfl ?_
 exact⟨_,_,by first|rfl|(simp[ZC,ZB] <;> rfl)|(simp[*,ZC,ZB] <;> rfl),by(with_reducible repeat(first|apply Kd.S_alloc|apply Kd.S_drewN|apply Kd.S_drew));exact Kd.S_mono (Kd.S_far (p:=⟨gb30002,2,none⟩) (Kd.S_far (p:=⟨gb30002,1,none⟩) (Kd.S_far (p:=⟨gb30002,0,none⟩) (Kd.S_far (p:=⟨gb30003,2,none⟩) (Kd.S_far (p:=⟨gb30003,1,none⟩) (Kd.S_types (Kd.S_types HO30006.out BK30003.out (by decide)) BK30002.out (by decide)) (fun _ hk=>hk.1.2) (.slice Ao16 t30007.length co16)) (fun _ hk=>hk.1.2) (.int .i64 a0_2)) (fun _ hk=>hk.2) (.slice Ao11 t30004.length co11)) (fun _ hk=>hk.2) (.slice Ao16 t30007.length co16)) (fun _ hk=>hk.2) (.int .i64 a0_2)) (fun _ hk=>trivial),by(with_reducible repeat(first|apply Kd.R_alloc|apply Kd.R_drewN|apply Kd.R_drew));exact Kd.R_mono (Kd.R_far (p:=⟨gb30002,2,none⟩) (Kd.R_far (p:=⟨gb30002,1,none⟩) (Kd.R_far (p:=⟨gb30002,0,none⟩) (Kd.R_far (p:=⟨gb30003,2,none⟩) (Kd.R_far (p:=⟨gb30003,1,none⟩) (Kd.R_types (Kd.R_types HO30009.out BK30003.out (by decide)) BK30002.out (by decide)) (fun _ hk=>hk.1.2) (.slice Ao16 t30007.length co16)) (fun _ hk=>hk.1.2) (.int .i64 a0_2)) (fun _ hk=>hk.2) (.slice Ao11 t30004.length co11)) (fun _ hk=>hk.2) (.slice Ao16 t30007.length co16)) (fun _ hk=>hk.2) (.int .i64 a0_2)) (fun _ hk=>trivial),by repeat(first|(with_reducible first|exact HB.out|apply Zn|apply Zm|apply Zo|refine Zq ?_ GE30001.out|refine Zq ?_ GE30002.out|refine Zq ?_ GE30003.out)|exact HB.out)⟩
theorem ZaX.c (k:Nat) (A0_0:Option Addr) (c0_0:Nat) (l0_0:List (S143)) (A0_1:Option Addr) (c0_1:Nat) (l0_1:List (S147)) (a0_2:Int) (r1:List (S39)) (r2:List (S82)) (r3:Int) (w:World) (hr0_0:Kd.C k143 w A0_0 l0_0.length l0_0) (hc0_0:l0_0.length≤c0_0) (hr0_1:Kd.C k147 w A0_1 l0_1.length l0_1) (hc0_1:l0_1.length≤c0_1) (h:ZaX.f k l0_0 l0_1 a0_2=some (r1,r2,r3)) :
  Calls Tryz.prog 30 #[.agg #[.slice A0_0 l0_0.length c0_0,.slice A0_1 l0_1.length c0_1,.int .i64 a0_2]] w fun e w'=>∃A0_ c0_ A1_ c1_,e=.returned (.agg #[.slice A0_ r1.length c0_,.slice A1_ r2.length c1_,.int .i64 r3])∧Aside0 (r1.length≤c0_∧Kd.C k39 w' A0_ r1.length r1)∧Aside0 (r2.length≤c1_∧Kd.C k82 w' A1_ r2.length r2)∧Below w.heap.size w w':=
 (ZaX.calls k A0_0 c0_0 l0_0 A0_1 c0_1 l0_1 a0_2 r1 r2 r3 w hr0_0 hc0_0 hr0_1 hc0_1 h).mono fun e w' ⟨v0_,v1_,he,q0_,q1_,hb⟩=>by
  obtain⟨A0_,c0_,rfl,g0_⟩:=Kd.S_reads q0_
  obtain⟨A1_,c1_,rfl,g1_⟩:=Kd.R_reads q1_
  exact⟨A0_,c0_,A1_,c1_,he,⟨g0_⟩,⟨g1_⟩,hb⟩
def ZbZ.f (l0:List Int) (a1:Int):Option (Int):=if (wrap64 (a1 - (l0.length:Int)))<0 then(some (-1)) else(some (wrap64 (a1 - (l0.length:Int))))
set_option maxHeartbeats 8000000 in
set_option maxRecDepth 100000 in
theorem ZbZ.calls (A0:Option Addr) (c0:Nat) (l0:List Int) (a1:Int) (r:Int) (w:World) (hr0:Kd.C (Kd.int .i64) w A0 l0.length l0) (hc0:l0.length≤c0) (h:ZbZ.f l0 a1=some r) :
  Calls Tryz.prog 93 #[.slice A0 l0.length c0,.int .i64 a1] w fun e w'=>e=.returned (.int .i64 r)∧ZE w w':=by
 have HR0:=Za hr0;have HC0:=Za hc0;clear hr0 hc0
 have H:(if (wrap64 (a1 - (l0.length:Int)))<0 then(some (-1)) else(some (wrap64 (a1 - (l0.length:Int)))))=some r:=h
 clear h
 by_cases c3:(wrap64 (a1 - (l0.length:Int)))<0
 ·rw[if_pos c3] at H
  have c3b0:decide ((wrap64 (a1 - (l0.length:Int)))<0)=true:=Ze c3
  clear c3
  obtain rfl:=Zg H
  go_enter Tryz.func93,Tryz.ntmps93
  go_wp2
  go_ret
  exact⟨by first|rfl|(simp;done)|(simp[*];done),by repeat(first|exact ZE.refl _|apply ZE.step)⟩
 ·rw[if_neg c3] at H
  have c3b0:decide ((wrap64 (a1 - (l0.length:Int)))<0)=false:=Zf c3
  clear c3
  obtain rfl:=Zg H
  go_enter Tryz.func93,Tryz.ntmps93
  go_wp2
  go_ret
  exact⟨by first|rfl|(simp;done)|(simp[*];done),by repeat(first|exact ZE.refl _|apply ZE.step)⟩
def Zcl.f (a0_0:ByteArray) (l0_1:List Int) (a0_2:Int) (a1:Int):Option (Int):=if (wrap64 (a1 - (a0_0.size:Int)))<0 then(some (-1)) else((ZbZ.f l0_1 (wrap64 (a1 - (a0_0.size:Int)))).bind fun t155002=>(if t155002<0 then(some (-1)) else(some t155002)))
set_option maxHeartbeats 8000000 in
set_option maxRecDepth 100000 in
theorem Zcl.calls (a0_0:ByteArray) (A0_1:Option Addr) (c0_1:Nat) (l0_1:List Int) (a0_2:Int) (a1:Int) (r:Int) (w:World) (hr0_1:Kd.C (Kd.int .i64) w A0_1 l0_1.length l0_1) (hc0_1:l0_1.length≤c0_1) (h:Zcl.f a0_0 l0_1 a0_2 a1=some r) :
  Calls Tryz.prog 155 #[.agg #[.string a0_0,.slice A0_1 l0_1.length c0_1,.int .i64 a0_2],.int .i64 a1] w fun e w'=>e=.returned (.int .i64 r)∧Below w.heap.size w w':=by
 have hu143:=Tryz.underlying143
 have HR0_1:=Za hr0_1;have HC0_1:=Za hc0_1;clear hr0_1 hc0_1
 have HB:=Za (Below.refl w.heap.size w)
 have H:(if (wrap64 (a1 - (a0_0.size:Int)))<0 then(some (-1)) else((ZbZ.f l0_1 (wrap64 (a1 - (a0_0.size:Int)))).bind fun t155002=>(if t155002<0 then(some (-1)) else(some t155002))))=some r:=h
 clear h
 by_cases c3:(wrap64 (a1 - (a0_0.size:Int)))<0
 ·rw[if_pos c3] at H
  have c3b0:decide ((wrap64 (a1 - (a0_0.size:Int)))<0)=true:=Ze c3
  clear c3
  obtain rfl:=Zg H
  go_enter Tryz.func155,Tryz.ntmps155
  go_wp2_with (first|((with_reducible refine ZF (N:=2) rfl ?_);refine ZG ?hg (N:=2) ?hd (cs:=#[.string a0_0,.slice A0_1 l0_1.length c0_1,.int .i64 a0_2]) (t:=143) ?hr ?_;(case hd=>rfl);(case hg=>rfl);(case hr=>first|(go_simp;done)|(go_simp;rfl));intro gb155001 hg w4 hbox hb;have BK155001:=Za (hbox);have GW155001:=Za ((by rw[hg];exact(Zy (by repeat(first|(with_reducible first|exact HB.out|apply Zn|apply Zm|apply Zo)|exact HB.out))):w.heap.size≤gb155001));have GE155001:=Za ((by rw[hg];exact(Zy (by repeat(first|(with_reducible first|exact HB.out|apply Zn|apply Zm|apply Zo)|exact HB.out))):w.heap.size≤gb155001));replace HB:=Za (Zw (by repeat(first|(with_reducible first|exact HB.out|apply Zn|apply Zm|apply Zo)|exact HB.out)) hb);clear hb hbox hg;have hcz5_0:w4.cell? ⟨gb155001,0,none⟩=some (.string a0_0):=(Zp BK155001.out 0).trans rfl;have hcz5_1:w4.cell? ⟨gb155001,1,none⟩=some (.slice A0_1 l0_1.length c0_1):=(Zp BK155001.out 1).trans rfl;have hcz5_2:w4.cell? ⟨gb155001,2,none⟩=some (.int .i64 a0_2):=(Zp BK155001.out 2).trans rfl))
  go_ret
  exact⟨by first|rfl|(simp[ZC,ZB] <;> rfl)|(simp[*,ZC,ZB] <;> rfl),by repeat(first|(with_reducible first|exact HB.out|apply Zn|apply Zm|apply Zo|refine Zq ?_ GE155001.out)|exact HB.out)⟩
 ·rw[if_neg c3] at H
  have c3b0:decide ((wrap64 (a1 - (a0_0.size:Int)))<0)=false:=Zf c3
  clear c3
  replace H:=Zh H
  obtain⟨t155002,A60,H⟩:=H
  replace H:(if t155002<0 then(some (-1)) else(some t155002))=some r:=H
  have A6:=Za A60;clear A60
  by_cases c7:t155002<0
  ·rw[if_pos c7] at H
   have c7b0:decide (t155002<0)=true:=Ze c7
   clear c7
   obtain rfl:=Zg H
   go_enter Tryz.func155,Tryz.ntmps155
   go_wp2_with (first|((with_reducible refine ZF (N:=2) rfl ?_);refine ZG ?hg (N:=2) ?hd (cs:=#[.string a0_0,.slice A0_1 l0_1.length c0_1,.int .i64 a0_2]) (t:=143) ?hr ?_;(case hd=>rfl);(case hg=>rfl);(case hr=>first|(go_simp;done)|(go_simp;rfl));intro gb155001 hg w8 hbox hb;have BK155001:=Za (hbox);have GW155001:=Za ((by rw[hg];exact(Zy (by repeat(first|(with_reducible first|exact HB.out|apply Zn|apply Zm|apply Zo)|exact HB.out))):w.heap.size≤gb155001));have GE155001:=Za ((by rw[hg];exact(Zy (by repeat(first|(with_reducible first|exact HB.out|apply Zn|apply Zm|apply Zo)|exact HB.out))):w.heap.size≤gb155001));replace HB:=Za (Zw (by repeat(first|(with_reducible first|exact HB.out|apply Zn|apply Zm|apply Zo)|exact HB.out)) hb);clear hb hbox hg;have hcz9_0:w8.cell? ⟨gb155001,0,none⟩=some (.string a0_0):=(Zp BK155001.out 0).trans rfl;have hcz9_1:w8.cell? ⟨gb155001,1,none⟩=some (.slice A0_1 l0_1.length c0_1):=(Zp BK155001.out 1).trans rfl;have hcz9_2:w8.cell? ⟨gb155001,2,none⟩=some (.int .i64 a0_2):=(Zp BK155001.out 2).trans rfl)|((with_reducible refine ZJ (f:=93) rfl ?_);refine Zaa (some 15) rfl rfl Tryz.func93 (by kernel_rfl) rfl #[.slice A0_1 l0_1.length c0_1,.int .i64 (wrap64 (a1 - (a0_0.size:Int)))] rfl (by(try simp only[List.map_toArray,List.map_cons,List.map_nil]);first|done|rfl|(simp only[Zk,Zj];rfl)) ?_;(with_reducible refine(ZbZ.calls _ _ l0_1 (wrap64 (a1 - (a0_0.size:Int))) t155002 _ ?side1 ?side2 A6.out).mono ?_);(case side1=>repeat(first|exact(Zb HR0_1.out HB.out)|(with_reducible refine Kd.C_alloc ?_ _)|(with_reducible refine Kd.C_drewN ?_ _)|(with_reducible refine Kd.C_drew ?_)));(case side2=>exact HC0_1.out);rintro e w' ⟨rfl,⟨nd,rfl⟩⟩;refine⟨_,rfl,?_⟩))
   go_ret
   exact⟨by first|rfl|(simp[ZC,ZB] <;> rfl)|(simp[*,ZC,ZB] <;> rfl),by repeat(first|(with_reducible first|exact HB.out|apply Zn|apply Zm|apply Zo|refine Zq ?_ GE155001.out)|exact HB.out)⟩
  ·rw[if_neg c7] at H
   have c7b0:decide (t155002<0)=false:=Zf c7
   clear c7
   obtain rfl:=Zg H
   go_enter Tryz.func155,Tryz.ntmps155
   go_wp2_with (first|((with_reducible refine ZF (N:=2) rfl ?_);refine ZG ?hg (N:=2) ?hd (cs:=#[.string a0_0,.slice A0_1 l0_1.length c0_1,.int .i64 a0_2]) (t:=143) ?hr ?_;(case hd=>rfl);(case hg=>rfl);(case hr=>first|(go_simp;done)|(go_simp;rfl));intro gb155001 hg w10 hbox hb;have BK155001:=Za (hbox);have GW155001:=Za ((by rw[hg];exact(Zy (by repeat(first|(with_reducible first|exact HB.out|apply Zn|apply Zm|apply Zo)|exact HB.out))):w.heap.size≤gb155001));have GE155001:=Za ((by rw[hg];exact(Zy (by repeat(first|(with_reducible first|exact HB.out|apply Zn|apply Zm|apply Zo)|exact HB.out))):w.heap.size≤gb155001));replace HB:=Za (Zw (by repeat(first|(with_reducible first|exact HB.out|apply Zn|apply Zm|apply Zo)|exact HB.out)) hb);clear hb hbox hg;have hcz11_0:w10.cell? ⟨gb155001,0,none⟩=some (.string a0_0):=(Zp BK155001.out 0).trans rfl;have hcz11_1:w10.cell? ⟨gb155001,1,none⟩=some (.slice A0_1 l0_1.length c0_1):=(Zp BK155001.out 1).trans rfl;have hcz11_2:w10.cell? ⟨gb155001,2,none⟩=some (.int .i64 a0_2):=(Zp BK155001.out 2).trans rfl)|((with_reducible refine ZJ (f:=93) rfl ?_);refine Zaa (some 15) rfl rfl Tryz.func93 (by kernel_rfl) rfl #[.slice A0_1 l0_1.length c0_1,.int .i64 (wrap64 (a1 - (a0_0.size:Int)))] rfl (by(try simp only[List.map_toArray,List.map_cons,List.map_nil]);first|done|rfl|(simp only[Zk,Zj];rfl)) ?_;(with_reducible refine(ZbZ.calls _ _ l0_1 (wrap64 (a1 - (a0_0.size:Int))) t155002 _ ?side1 ?side2 A6.out).mono ?_);(case side1=>repeat(first|exact(Zb HR0_1.out HB.out)|(with_reducible refine Kd.C_alloc ?_ _)|(with_reducible refine Kd.C_drewN ?_ _)|(with_reducible refine Kd.C_drew ?_)));(case side2=>exact HC0_1.out);rintro e w' ⟨rfl,⟨nd,rfl⟩⟩;refine⟨_,rfl,?_⟩))
   go_ret
   exact⟨by first|rfl|(simp[ZC,ZB] <;> rfl)|(simp[*,ZC,ZB] <;> rfl),by repeat(first|(with_reducible first|exact HB.out|apply Zn|apply Zm|apply Zo|refine Zq ?_ GE155001.out)|exact HB.out)⟩
def Zaw.l0:Nat→List (S143)→Int→Int→Option (Int)
 | 0,_,_,_=>none
 | k+1,x0,x1,x5=>if x5<(x0.length:Int) then(if 0≤x5 then((Zcl.f ((ZaC x0 x5).f0) ((ZaC x0 x5).f1) ((ZaC x0 x5).f2) x1).bind fun t91002=>(if t91002<0 then(some (-1)) else(Zaw.l0 k x0 t91002 (wrap64 (x5+1))))) else(none)) else(some x1)
def Zaw.f (k:Nat) (l0:List (S143)) (a1:Int):Option (Int):=if (wrap64 (a1 - (l0.length:Int)))<0 then(some (-1)) else(Zaw.l0 k l0 (wrap64 (a1 - (l0.length:Int))) 0)
set_option maxHeartbeats 8000000 in
set_option maxRecDepth 100000 in
theorem Zaw.calls (k:Nat) (A0:Option Addr) (c0:Nat) (l0:List (S143)) (a1:Int) (r:Int) (w:World) (hr0:Kd.C k143 w A0 l0.length l0) (hc0:l0.length≤c0) (h:Zaw.f k l0 a1=some r) :
  Calls Tryz.prog 91 #[.slice A0 l0.length c0,.int .i64 a1] w fun e w'=>e=.returned (.int .i64 r)∧Below w.heap.size w w':=by
 have hu143:=Tryz.underlying143
 have HR0:=Za hr0;have HC0:=Za hc0;clear hr0 hc0
 have HB:=Za (Below.refl w.heap.size w)
 have H:(if (wrap64 (a1 - (l0.length:Int)))<0 then(some (-1)) else(Zaw.l0 k l0 (wrap64 (a1 - (l0.length:Int))) 0))=some r:=h
 clear h
 by_cases c3:(wrap64 (a1 - (l0.length:Int)))<0
 ·rw[if_pos c3] at H
  have c3b0:decide ((wrap64 (a1 - (l0.length:Int)))<0)=true:=Ze c3
  clear c3
  obtain rfl:=Zg H
  go_enter Tryz.func91,Tryz.ntmps91
  go_wp2
  go_ret
  exact⟨by first|rfl|(simp[ZC,ZB] <;> rfl)|(simp[*,ZC,ZB] <;> rfl),by repeat(first|(with_reducible first|exact HB.out|apply Zn|apply Zm|apply Zo)|exact HB.out)⟩
 ·rw[if_neg c3] at H
  have c3b0:decide ((wrap64 (a1 - (l0.length:Int)))<0)=false:=Zf c3
  clear c3
  have H':=Za H
  clear H
  go_enter Tryz.func91,Tryz.ntmps91
  go_wp2
  go_loopg [1,5] k (fun kq v1 v5 w'=>∃(x1_1:Int) (x5_1:Int),v1=.int .i64 x1_1∧v5=.int .i64 x5_1∧Aside0 (Zaw.l0 kq l0 x1_1 x5_1=some r)∧Aside0 (kq≤k)∧Aside0 (Below w.heap.size w w'))
  case atStart=>exact⟨(wrap64 (a1 - (l0.length:Int))),(0),(by first|rfl|(simp;done)|(simp[*];done)),(by first|rfl|(simp;done)|(simp[*];done)),H',⟨Nat.le_refl _⟩,⟨by repeat(first|(with_reducible first|exact HB.out|apply Zn|apply Zm|apply Zo)|exact HB.out)⟩⟩
  case round=>
   clear H'
   try clear p2
   try clear c3
   try clear c3b0
   obtain⟨x1_1,x5_1,rfl,rfl,HA,HK1,HB⟩:=hrel
   cases gk with
   | zero=>exact absurd HA.out (by simp[Zaw.l0])
   | succ k1=>
    have H:=HA.out
    clear HA
    simp only[Zaw.l0] at H
    by_cases c4:x5_1<(l0.length:Int)
    ·rw[if_pos c4] at H
     have c4b0:decide (x5_1<(l0.length:Int))=true:=Ze c4
     clear c4
     by_cases c5:0≤x5_1
     ·rw[if_pos c5] at H
      have c5b0:decide (0≤x5_1)=true:=Ze c5
      clear c5
      replace H:=Zh H
      obtain⟨t91002,A60,H⟩:=H;have A6:=Za A60;clear A60
      by_cases c7:t91002<0
      ·rw[if_pos c7] at H
       have c7b0:decide (t91002<0)=true:=Ze c7
       clear c7
       obtain rfl:=Zg H
       have p91001:0≤(x5_1:Int):=Zd (by first|(with_reducible assumption)|assumption)
       have q91001:x5_1<(l0.length:Int):=Zd (by first|(with_reducible assumption)|assumption)
       obtain⟨ad91001,A91001_1,c91001_1,e91001,hx91001_0,hx91001_1,hx91001_2,hl91001_1,hi91001_1⟩:=at_T143 HR0.out x5_1 p91001 q91001
       cases e91001
       replace hx91001_0:=(HB.out.cell (Zc w _ hx91001_0)).trans hx91001_0
       replace hx91001_1:=(HB.out.cell (Zc w _ hx91001_1)).trans hx91001_1
       replace hx91001_2:=(HB.out.cell (Zc w _ hx91001_2)).trans hx91001_2
       have HR91001_1:=Za hi91001_1;have HC91001_1:=Za hl91001_1;clear hi91001_1 hl91001_1
       replace p91001:=eq_true p91001
       replace q91001:=eq_true q91001
       go_wp2_with (first|((with_reducible refine ZJ (f:=155) rfl ?_);refine Zaa (some 23) rfl rfl Tryz.func155 (by kernel_rfl) rfl #[.agg #[.string ((ZaC l0 x5_1).f0),.slice A91001_1 ((ZaC l0 x5_1).f1).length c91001_1,.int .i64 ((ZaC l0 x5_1).f2)],.int .i64 x1_1] rfl (by(try simp only[List.map_toArray,List.map_cons,List.map_nil]);first|done|rfl|(simp only[Zk,Zj];rfl)) ?_;(with_reducible refine(Zcl.calls ((ZaC l0 x5_1).f0) _ _ ((ZaC l0 x5_1).f1) ((ZaC l0 x5_1).f2) x1_1 t91002 _ ?side1 ?side2 A6.out).mono ?_);(case side1=>repeat(first|exact(Zb HR91001_1.out HB.out)|(with_reducible refine Kd.C_alloc ?_ _)|(with_reducible refine Kd.C_drewN ?_ _)|(with_reducible refine Kd.C_drew ?_)));(case side2=>exact HC91001_1.out);rintro e w8 ⟨rfl,hb⟩;refine⟨_,rfl,?_⟩;replace HB:=Za (Zw (by repeat(first|(with_reducible first|exact HB.out|apply Zn|apply Zm|apply Zo)|exact HB.out)) hb);(try clear hi)))
       go_ret
       exact⟨by first|rfl|(simp[ZC,ZB] <;> rfl)|(simp[*,ZC,ZB] <;> rfl),by repeat(first|(with_reducible first|exact HB.out|apply Zn|apply Zm|apply Zo)|exact HB.out)⟩
      ·rw[if_neg c7] at H
       have c7b0:decide (t91002<0)=false:=Zf c7
       clear c7
       have H':=Za H
       clear H
       have p91001:0≤(x5_1:Int):=Zd (by first|(with_reducible assumption)|assumption)
       have q91001:x5_1<(l0.length:Int):=Zd (by first|(with_reducible assumption)|assumption)
       obtain⟨ad91001,A91001_1,c91001_1,e91001,hx91001_0,hx91001_1,hx91001_2,hl91001_1,hi91001_1⟩:=at_T143 HR0.out x5_1 p91001 q91001
       cases e91001
       replace hx91001_0:=(HB.out.cell (Zc w _ hx91001_0)).trans hx91001_0
       replace hx91001_1:=(HB.out.cell (Zc w _ hx91001_1)).trans hx91001_1
       replace hx91001_2:=(HB.out.cell (Zc w _ hx91001_2)).trans hx91001_2
       have HR91001_1:=Za hi91001_1;have HC91001_1:=Za hl91001_1;clear hi91001_1 hl91001_1
       replace p91001:=eq_true p91001
       replace q91001:=eq_true q91001
       go_wp2_with (first|((with_reducible refine ZJ (f:=155) rfl ?_);refine Zaa (some 23) rfl rfl Tryz.func155 (by kernel_rfl) rfl #[.agg #[.string ((ZaC l0 x5_1).f0),.slice A91001_1 ((ZaC l0 x5_1).f1).length c91001_1,.int .i64 ((ZaC l0 x5_1).f2)],.int .i64 x1_1] rfl (by(try simp only[List.map_toArray,List.map_cons,List.map_nil]);first|done|rfl|(simp only[Zk,Zj];rfl)) ?_;(with_reducible refine(Zcl.calls ((ZaC l0 x5_1).f0) _ _ ((ZaC l0 x5_1).f1) ((ZaC l0 x5_1).f2) x1_1 t91002 _ ?side1 ?side2 A6.out).mono ?_);(case side1=>repeat(first|exact(Zb HR91001_1.out HB.out)|(with_reducible refine Kd.C_alloc ?_ _)|(with_reducible refine Kd.C_drewN ?_ _)|(with_reducible refine Kd.C_drew ?_)));(case side2=>exact HC91001_1.out);rintro e w9 ⟨rfl,hb⟩;refine⟨_,rfl,?_⟩;replace HB:=Za (Zw (by repeat(first|(with_reducible first|exact HB.out|apply Zn|apply Zm|apply Zo)|exact HB.out)) hb);(try clear hi)))
       go_roundg k1
       case measure=>have:=HK1.out;omega
       case rel=>exact⟨(t91002),(wrap64 (x5_1+1)),(by first|rfl|(simp;done)|(simp[*];done)),(by first|rfl|(simp;done)|(simp[*];done)),H',⟨by have:=HK1.out;omega⟩,⟨by repeat(first|(with_reducible first|exact HB.out|apply Zn|apply Zm|apply Zo)|exact HB.out)⟩⟩
     ·rw[if_neg c5] at H
      exact absurd H (by simp)
    ·rw[if_neg c4] at H
     have c4b0:decide (x5_1<(l0.length:Int))=false:=Zf c4
     clear c4
     obtain rfl:=Zg H
     go_wp2
     go_ret
     exact⟨by first|rfl|(simp[ZC,ZB] <;> rfl)|(simp[*,ZC,ZB] <;> rfl),by repeat(first|(with_reducible first|exact HB.out|apply Zn|apply Zm|apply Zo)|exact HB.out)⟩
def Zck.f (l0:List (S147)) (a1:Int):Option (Int):=if (wrap64 (a1 - (l0.length:Int)))<0 then(some (-1)) else(some (wrap64 (a1 - (l0.length:Int))))
set_option maxHeartbeats 8000000 in
set_option maxRecDepth 100000 in
theorem Zck.calls (A0:Option Addr) (c0:Nat) (l0:List (S147)) (a1:Int) (r:Int) (w:World) (hr0:Kd.C k147 w A0 l0.length l0) (hc0:l0.length≤c0) (h:Zck.f l0 a1=some r) :
  Calls Tryz.prog 92 #[.slice A0 l0.length c0,.int .i64 a1] w fun e w'=>e=.returned (.int .i64 r)∧ZE w w':=by
 have HR0:=Za hr0;have HC0:=Za hc0;clear hr0 hc0
 have H:(if (wrap64 (a1 - (l0.length:Int)))<0 then(some (-1)) else(some (wrap64 (a1 - (l0.length:Int)))))=some r:=h
 clear h
 by_cases c3:(wrap64 (a1 - (l0.length:Int)))<0
 ·rw[if_pos c3] at H
  have c3b0:decide ((wrap64 (a1 - (l0.length:Int)))<0)=true:=Ze c3
  clear c3
  obtain rfl:=Zg H
  go_enter Tryz.func92,Tryz.ntmps92
  go_wp2
  go_ret
  exact⟨by first|rfl|(simp;done)|(simp[*];done),by repeat(first|exact ZE.refl _|apply ZE.step)⟩
 ·rw[if_neg c3] at H
  have c3b0:decide ((wrap64 (a1 - (l0.length:Int)))<0)=false:=Zf c3
  clear c3
  obtain rfl:=Zg H
  go_enter Tryz.func92,Tryz.ntmps92
  go_wp2
  go_ret
  exact⟨by first|rfl|(simp;done)|(simp[*];done),by repeat(first|exact ZE.refl _|apply ZE.step)⟩
def Zbt.f (k:Nat) (l0_0:List (S143)) (l0_1:List (S147)) (a0_2:Int) (a1:Int):Option (Int):=(Zaw.f k l0_0 a1).bind fun t27002=>(if t27002<0 then(some (-1)) else((Zck.f l0_1 t27002).bind fun t27003=>(if t27003<0 then(some (-1)) else(some t27003))))
set_option maxHeartbeats 8000000 in
set_option maxRecDepth 100000 in
theorem Zbt.calls (k:Nat) (A0_0:Option Addr) (c0_0:Nat) (l0_0:List (S143)) (A0_1:Option Addr) (c0_1:Nat) (l0_1:List (S147)) (a0_2:Int) (a1:Int) (r:Int) (w:World) (hr0_0:Kd.C k143 w A0_0 l0_0.length l0_0) (hc0_0:l0_0.length≤c0_0) (hr0_1:Kd.C k147 w A0_1 l0_1.length l0_1) (hc0_1:l0_1.length≤c0_1) (h:Zbt.f k l0_0 l0_1 a0_2 a1=some r) :
  Calls Tryz.prog 27 #[.agg #[.slice A0_0 l0_0.length c0_0,.slice A0_1 l0_1.length c0_1,.int .i64 a0_2],.int .i64 a1] w fun e w'=>e=.returned (.int .i64 r)∧Below w.heap.size w w':=by
 have hu47:=Tryz.underlying47
 have HR0_0:=Za hr0_0;have HC0_0:=Za hc0_0;clear hr0_0 hc0_0;have HR0_1:=Za hr0_1;have HC0_1:=Za hc0_1;clear hr0_1 hc0_1
 have HB:=Za (Below.refl w.heap.size w)
 have H:((Zaw.f k l0_0 a1).bind fun t27002=>(if t27002<0 then(some (-1)) else((Zck.f l0_1 t27002).bind fun t27003=>(if t27003<0 then(some (-1)) else(some t27003)))))=some r:=h
 clear h
 replace H:=Zh H
 obtain⟨t27002,A30,H⟩:=H;have A3:=Za A30;clear A30
 by_cases c4:t27002<0
 ·rw[if_pos c4] at H
  have c4b0:decide (t27002<0)=true:=Ze c4
  clear c4
  obtain rfl:=Zg H
  go_enter Tryz.func27,Tryz.ntmps27
  go_wp2_with (first|((with_reducible refine ZF (N:=2) rfl ?_);refine ZG ?hg (N:=2) ?hd (cs:=#[.slice A0_0 l0_0.length c0_0,.slice A0_1 l0_1.length c0_1,.int .i64 a0_2]) (t:=47) ?hr ?_;(case hd=>rfl);(case hg=>rfl);(case hr=>first|(go_simp;done)|(go_simp;rfl));intro gb27001 hg w5 hbox hb;have BK27001:=Za (hbox);have GW27001:=Za ((by rw[hg];exact(Zy (by repeat(first|(with_reducible first|exact HB.out|apply Zn|apply Zm|apply Zo)|exact HB.out))):w.heap.size≤gb27001));have GE27001:=Za ((by rw[hg];exact(Zy (by repeat(first|(with_reducible first|exact HB.out|apply Zn|apply Zm|apply Zo)|exact HB.out))):w.heap.size≤gb27001));replace HB:=Za (Zw (by repeat(first|(with_reducible first|exact HB.out|apply Zn|apply Zm|apply Zo)|exact HB.out)) hb);clear hb hbox hg;have hcz6_0:w5.cell? ⟨gb27001,0,none⟩=some (.slice A0_0 l0_0.length c0_0):=(Zp BK27001.out 0).trans rfl;have hcz6_1:w5.cell? ⟨gb27001,1,none⟩=some (.slice A0_1 l0_1.length c0_1):=(Zp BK27001.out 1).trans rfl;have hcz6_2:w5.cell? ⟨gb27001,2,none⟩=some (.int .i64 a0_2):=(Zp BK27001.out 2).trans rfl)|((with_reducible refine ZJ (f:=91) rfl ?_);refine Zaa (some 8) rfl rfl Tryz.func91 (by kernel_rfl) rfl #[.slice A0_0 l0_0.length c0_0,.int .i64 a1] rfl (by(try simp only[List.map_toArray,List.map_cons,List.map_nil]);first|done|rfl|(simp only[Zk,Zj];rfl)) ?_;(with_reducible refine(Zaw.calls k _ _ l0_0 a1 t27002 _ ?side1 ?side2 A3.out).mono ?_);(case side1=>repeat(first|exact(Zb HR0_0.out HB.out)|(with_reducible refine Kd.C_alloc ?_ _)|(with_reducible refine Kd.C_drewN ?_ _)|(with_reducible refine Kd.C_drew ?_)));(case side2=>exact HC0_0.out);rintro e w7 ⟨rfl,hb⟩;refine⟨_,rfl,?_⟩;replace BK27001:=Za (ZA (g:=gb27001) (o:=.cells #[.slice A0_0 l0_0.length c0_0,.slice A0_1 l0_1.length c0_1,.int .i64 a0_2] 47 (0,0)) (by(with_reducible repeat(first|refine Zt ?_ _|refine Zv ?_|refine Zs ?_ _));exact BK27001.out) hb);replace HB:=Za (Zw (by repeat(first|(with_reducible first|exact HB.out|apply Zn|apply Zm|apply Zo|refine Zq ?_ GE27001.out)|exact HB.out)) hb);(try clear hi)))
  go_ret
  exact⟨by first|rfl|(simp[ZC,ZB] <;> rfl)|(simp[*,ZC,ZB] <;> rfl),by repeat(first|(with_reducible first|exact HB.out|apply Zn|apply Zm|apply Zo|refine Zq ?_ GE27001.out)|exact HB.out)⟩
 ·rw[if_neg c4] at H
  have c4b0:decide (t27002<0)=false:=Zf c4
  clear c4
  replace H:=Zh H
  obtain⟨t27003,A80,H⟩:=H;have A8:=Za A80;clear A80
  by_cases c9:t27003<0
  ·rw[if_pos c9] at H
   have c9b0:decide (t27003<0)=true:=Ze c9
   clear c9
   obtain rfl:=Zg H
   go_enter Tryz.func27,Tryz.ntmps27
   go_wp2_with (first|((with_reducible refine ZF (N:=2) rfl ?_);refine ZG ?hg (N:=2) ?hd (cs:=#[.slice A0_0 l0_0.length c0_0,.slice A0_1 l0_1.length c0_1,.int .i64 a0_2]) (t:=47) ?hr ?_;(case hd=>rfl);(case hg=>rfl);(case hr=>first|(go_simp;done)|(go_simp;rfl));intro gb27001 hg w10 hbox hb;have BK27001:=Za (hbox);have GW27001:=Za ((by rw[hg];exact(Zy (by repeat(first|(with_reducible first|exact HB.out|apply Zn|apply Zm|apply Zo)|exact HB.out))):w.heap.size≤gb27001));have GE27001:=Za ((by rw[hg];exact(Zy (by repeat(first|(with_reducible first|exact HB.out|apply Zn|apply Zm|apply Zo)|exact HB.out))):w.heap.size≤gb27001));replace HB:=Za (Zw (by repeat(first|(with_reducible first|exact HB.out|apply Zn|apply Zm|apply Zo)|exact HB.out)) hb);clear hb hbox hg;have hcz11_0:w10.cell? ⟨gb27001,0,none⟩=some (.slice A0_0 l0_0.length c0_0):=(Zp BK27001.out 0).trans rfl;have hcz11_1:w10.cell? ⟨gb27001,1,none⟩=some (.slice A0_1 l0_1.length c0_1):=(Zp BK27001.out 1).trans rfl;have hcz11_2:w10.cell? ⟨gb27001,2,none⟩=some (.int .i64 a0_2):=(Zp BK27001.out 2).trans rfl)|((with_reducible refine ZJ (f:=91) rfl ?_);refine Zaa (some 8) rfl rfl Tryz.func91 (by kernel_rfl) rfl #[.slice A0_0 l0_0.length c0_0,.int .i64 a1] rfl (by(try simp only[List.map_toArray,List.map_cons,List.map_nil]);first|done|rfl|(simp only[Zk,Zj];rfl)) ?_;(with_reducible refine(Zaw.calls k _ _ l0_0 a1 t27002 _ ?side1 ?side2 A3.out).mono ?_);(case side1=>repeat(first|exact(Zb HR0_0.out HB.out)|(with_reducible refine Kd.C_alloc ?_ _)|(with_reducible refine Kd.C_drewN ?_ _)|(with_reducible refine Kd.C_drew ?_)));(case side2=>exact HC0_0.out);rintro e w12 ⟨rfl,hb⟩;refine⟨_,rfl,?_⟩;replace BK27001:=Za (ZA (g:=gb27001) (o:=.cells #[.slice A0_0 l0_0.length c0_0,.slice A0_1 l0_1.length c0_1,.int .i64 a0_2] 47 (0,0)) (by(with_reducible repeat(first|refine Zt ?_ _|refine Zv ?_|refine Zs ?_ _));exact BK27001.out) hb);replace HB:=Za (Zw (by repeat(first|(with_reducible first|exact HB.out|apply Zn|apply Zm|apply Zo|refine Zq ?_ GE27001.out)|exact HB.out)) hb);have hcz13_0:w12.cell? ⟨gb27001,0,none⟩=some (.slice A0_0 l0_0.length c0_0):=(Zp BK27001.out 0).trans rfl;have hcz13_1:w12.cell? ⟨gb27001,1,none⟩=some (.slice A0_1 l0_1.length c0_1):=(Zp BK27001.out 1).trans rfl;have hcz13_2:w12.cell? ⟨gb27001,2,none⟩=some (.int .i64 a0_2):=(Zp BK27001.out 2).trans rfl)|((with_reducible refine ZJ (f:=92) rfl ?_);refine Zaa (some 14) rfl rfl Tryz.func92 (by kernel_rfl) rfl #[.slice A0_1 l0_1.length c0_1,.int .i64 t27002] rfl (by(try simp only[List.map_toArray,List.map_cons,List.map_nil]);first|done|rfl|(simp only[Zk,Zj];rfl)) ?_;(with_reducible refine(Zck.calls _ _ l0_1 t27002 t27003 _ ?side1 ?side2 A8.out).mono ?_);(case side1=>repeat(first|exact(Zb HR0_1.out HB.out)|(with_reducible refine Kd.C_alloc ?_ _)|(with_reducible refine Kd.C_drewN ?_ _)|(with_reducible refine Kd.C_drew ?_)));(case side2=>exact HC0_1.out);rintro e w' ⟨rfl,⟨nd,rfl⟩⟩;refine⟨_,rfl,?_⟩))
   go_ret
   exact⟨by first|rfl|(simp[ZC,ZB] <;> rfl)|(simp[*,ZC,ZB] <;> rfl),by repeat(first|(with_reducible first|exact HB.out|apply Zn|apply Zm|apply Zo|refine Zq ?_ GE27001.out)|exact HB.out)⟩
  ·rw[if_neg c9] at H
   have c9b0:decide (t27003<0)=false:=Zf c9
   clear c9
   obtain rfl:=Zg H
   go_enter Tryz.func27,Tryz.ntmps27
   go_wp2_with (first|((with_reducible refine ZF (N:=2) rfl ?_);refine ZG ?hg (N:=2) ?hd (cs:=#[.slice A0_0 l0_0.length c0_0,.slice A0_1 l0_1.length c0_1,.int .i64 a0_2]) (t:=47) ?hr ?_;(case hd=>rfl);(case hg=>rfl);(case hr=>first|(go_simp;done)|(go_simp;rfl));intro gb27001 hg w14 hbox hb;have BK27001:=Za (hbox);have GW27001:=Za ((by rw[hg];exact(Zy (by repeat(first|(with_reducible first|exact HB.out|apply Zn|apply Zm|apply Zo)|exact HB.out))):w.heap.size≤gb27001));have GE27001:=Za ((by rw[hg];exact(Zy (by repeat(first|(with_reducible first|exact HB.out|apply Zn|apply Zm|apply Zo)|exact HB.out))):w.heap.size≤gb27001));replace HB:=Za (Zw (by repeat(first|(with_reducible first|exact HB.out|apply Zn|apply Zm|apply Zo)|exact HB.out)) hb);clear hb hbox hg;have hcz15_0:w14.cell? ⟨gb27001,0,none⟩=some (.slice A0_0 l0_0.length c0_0):=(Zp BK27001.out 0).trans rfl;have hcz15_1:w14.cell? ⟨gb27001,1,none⟩=some (.slice A0_1 l0_1.length c0_1):=(Zp BK27001.out 1).trans rfl;have hcz15_2:w14.cell? ⟨gb27001,2,none⟩=some (.int .i64 a0_2):=(Zp BK27001.out 2).trans rfl)|((with_reducible refine ZJ (f:=91) rfl ?_);refine Zaa (some 8) rfl rfl Tryz.func91 (by kernel_rfl) rfl #[.slice A0_0 l0_0.length c0_0,.int .i64 a1] rfl (by(try simp only[List.map_toArray,List.map_cons,List.map_nil]);first|done|rfl|(simp only[Zk,Zj];rfl)) ?_;(with_reducible refine(Zaw.calls k _ _ l0_0 a1 t27002 _ ?side1 ?side2 A3.out).mono ?_);(case side1=>repeat(first|exact(Zb HR0_0.out HB.out)|(with_reducible refine Kd.C_alloc ?_ _)|(with_reducible refine Kd.C_drewN ?_ _)|(with_reducible refine Kd.C_drew ?_)));(case side2=>exact HC0_0.out);rintro e w16 ⟨rfl,hb⟩;refine⟨_,rfl,?_⟩;replace BK27001:=Za (ZA (g:=gb27001) (o:=.cells #[.slice A0_0 l0_0.length c0_0,.slice A0_1 l0_1.length c0_1,.int .i64 a0_2] 47 (0,0)) (by(with_reducible repeat(first|refine Zt ?_ _|refine Zv ?_|refine Zs ?_ _));exact BK27001.out) hb);replace HB:=Za (Zw (by repeat(first|(with_reducible first|exact HB.out|apply Zn|apply Zm|apply Zo|refine Zq ?_ GE27001.out)|exact HB.out)) hb);have hcz17_0:w16.cell? ⟨gb27001,0,none⟩=some (.slice A0_0 l0_0.length c0_0):=(Zp BK27001.out 0).trans rfl;have hcz17_1:w16.cell? ⟨gb27001,1,none⟩=some (.slice A0_1 l0_1.length c0_1):=(Zp BK27001.out 1).trans rfl;have hcz17_2:w16.cell? ⟨gb27001,2,none⟩=some (.int .i64 a0_2):=(Zp BK27001.out 2).trans rfl)|((with_reducible refine ZJ (f:=92) rfl ?_);refine Zaa (some 14) rfl rfl Tryz.func92 (by kernel_rfl) rfl #[.slice A0_1 l0_1.length c0_1,.int .i64 t27002] rfl (by(try simp only[List.map_toArray,List.map_cons,List.map_nil]);first|done|rfl|(simp only[Zk,Zj];rfl)) ?_;(with_reducible refine(Zck.calls _ _ l0_1 t27002 t27003 _ ?side1 ?side2 A8.out).mono ?_);(case side1=>repeat(first|exact(Zb HR0_1.out HB.out)|(with_reducible refine Kd.C_alloc ?_ _)|(with_reducible refine Kd.C_drewN ?_ _)|(with_reducible refine Kd.C_drew ?_)));(case side2=>exact HC0_1.out);rintro e w' ⟨rfl,⟨nd,rfl⟩⟩;refine⟨_,rfl,?_⟩))
   go_ret
   exact⟨by first|rfl|(simp[ZC,ZB] <;> rfl)|(simp[*,ZC,ZB] <;> rfl),by repeat(first|(with_reducible first|exact HB.out|apply Zn|apply Zm|apply Zo|refine Zq ?_ GE27001.out)|exact HB.out)⟩
end Go.Proofs.YtoeimopgoaffcaaGreatDoor.Pr
namespace Go.Proofs.YtoeimopgoaffcaaGreatDoor.Pr
open Go.RowKit Go.Proofs.YtoeimopgoaffcaaGreatDoorW.PrintWords Go.Proofs.YtoeimopgoaffcaaGreatDoorW.PrintLast
section
variable {P:Program} {ops:Array Oper} {Q:Exit→Act→World→Prop} {md:Region.Mode} {S:World→Prop} {ds:List Nat}
theorem pu {fuel:Nat} {l:Array Bool} {a:Act} {w:World} (i:Nat) {N:Option Tmp} {oi:Oper} {v:Value} {l':Array Bool} {a':Act} (h:ZX P md ops Q S ds fuel l' a' w) (hi:ops[i]? = some oi:=by rfl) (hN:oi.dst=N:=by rfl)
  (_hl:l.setIfInBounds i true=l':=by(simp only[List.setIfInBounds_toArray,List.set_cons_zero,List.set_cons_succ];rfl)) (hc:anyB md ops l l' i=true:=by kernel_rfl) (hQ:∀c a w,Q (.panic c) (a.put oi.dst v) w→Q (.panic c) a w:=by exact fun _ _ _ h=>h)
  (hy:Yields P ops oi v a:=by(refine Or.inl ⟨by rfl,?_⟩;intro w';go_simp;with_reducible rfl)) (ha:a.put N v=a':=by(simp only[Act.put,List.setIfInBounds_toArray,List.set_cons_zero,List.set_cons_succ,i64_w,i32_w];rfl)):ZX P md ops Q S ds (fuel+1) l a w:=
 pure_ l' hi hN hc hQ hy ha h
theorem tk {fuel:Nat} {l:Array Bool} {a:Act} {w:World} (i:Nat) (hS:S w) {N:Option Tmp} {oi:Oper} {v:Value} {l':Array Bool} {a':Act} (h:ZX P md ops Q S ds fuel l' a' w) (hi:ops[i]? = some oi:=by rfl) (hN:oi.dst=N:=by rfl)
  (_hl:l.setIfInBounds i true=l':=by(simp only[List.setIfInBounds_toArray,List.set_cons_zero,List.set_cons_succ];rfl)) (hc:takeB md ops ds l l' i=true:=by kernel_rfl) (hQ:∀c a w,Q (.panic c) (a.put oi.dst v) w→Q (.panic c) a w:=by exact fun _ _ _ h=>h)
  (hy:YieldsIf P ops S oi v a:=by(refine Or.inl ⟨by rfl,?_⟩;intro w' hs_;go_simp;with_reducible rfl)) (ha:a.put N v=a':=by(simp only[Act.put,List.setIfInBounds_toArray,List.set_cons_zero,List.set_cons_succ,i64_w,i32_w];rfl)):ZX P md ops Q S ds (fuel+1) l a w:=
 take_ l' hi hN hc hQ hy hS ha h
theorem und {fuel:Nat} {l:Array Bool} {a:Act} {w:World} (i:Nat) {N:Option Tmp} {oi:Oper} {l':Array Bool} {a':Act} (h:ZX P md ops Q S ds fuel l' a' w) (hi:ops[i]? = some oi:=by rfl) (hN:oi.dst=N:=by rfl)
  (_hl:l.setIfInBounds i true=l':=by(simp only[List.setIfInBounds_toArray,List.set_cons_zero,List.set_cons_succ];rfl)) (hc:anyB md ops l l' i=true:=by kernel_rfl) (hQ:∀c a w,Q (.panic c) (a.put oi.dst undef) w→Q (.panic c) a w:=by exact fun _ _ _ h=>h)
  (hy:Yields P ops oi undef a:=by exact Or.inr ⟨by rfl,rfl⟩) (ha:a.put N undef=a':=by(simp only[Act.put,List.setIfInBounds_toArray,List.set_cons_zero,List.set_cons_succ,i64_w,i32_w];rfl)):ZX P md ops Q S ds (fuel+1) l a w:=
 pure_ l' hi hN hc hQ hy ha h
theorem onl {fuel:Nat} {l:Array Bool} {a:Act} {w:World} (i:Nat) {N:Option Tmp} {oi:Oper} {l':Array Bool}
  (h:∀K:Act→World→Prop,Shut (∀a' w',S w'→(S w'→ZX P md ops Q S ds fuel l' a' w')→K a' w')→if Region.wanted oi (yielded ops a.tmps)=true then Oper.wp P oi a w K Q else K (a.put N undef) w) (hi:ops[i]? = some oi:=by rfl) (hN:oi.dst=N:=by rfl)
  (_hl:l.setIfInBounds i true=l':=by(simp only[List.setIfInBounds_toArray,List.set_cons_zero,List.set_cons_succ];rfl)) (hc:ZdS md ops l l' i=true:=by kernel_rfl) (hd:i ∉ ds:=by decide):ZX P md ops Q S ds (fuel+1) l a w:=
 one_ l' hi hN hc hd h
theorem nrm {fuel:Nat} {l:Array Bool} {a:Act} {w:World} (N:Option Tmp) {v:Value} {a':Act} (h:ZX P md ops Q S ds fuel l a' w) (ha:a.put N v=a':=by(simp only[Act.put,List.setIfInBounds_toArray,List.set_cons_zero,List.set_cons_succ,i64_w,i32_w];rfl)):ZX P md ops Q S ds fuel l (a.put N v) w:=
 norm_ ha h
end
end Go.Proofs.YtoeimopgoaffcaaGreatDoor.Pr
namespace Go.Proofs.YtoeimopgoaffcaaGreatDoor.Pr
open Go.RowKit Go.Proofs.YtoeimopgoaffcaaGreatDoorW.PrintWords Go.Proofs.YtoeimopgoaffcaaGreatDoor.Ni
def facI (ts:List S82) (i:Int):Int:=wrap64 (wrap64 ((ZD ts i).f3 - (ZD ts i).f2)+1)
def atS (ts:List S82) (s:Int×List Int) (i:Int):Int×List Int:=(wrap64 (Int.tdiv s.1 (facI ts i)),s.2 ++ [wrap64 ((ZD ts i).f2+Int.tmod s.1 (facI ts i))])
def atQ (q:Int) (s:Int×List Int):Int×List Int:=if q≥0 then(wrap64 (Int.tdiv s.1 2),s.2 ++ [wrap64 (1 - wrap64 (Int.tmod s.1 2 * 2))]) else(s.1,s.2 ++ [1])
def ZbE (q:Int→Int):Nat→Nat→Int×List Int→Int×List Int
 | 0,_,s=>s
 | d+1,p,s=>ZbE q d (p+1) (atQ (q (p:Int)) s)
def Zdj (ts:List S82) (q:Int→Int) (L:List Int) (n:Int):List Int×List Int:=((L.foldl (atS ts) (n,[])).2,(ZbE q 3 1 ((L.foldl (atS ts) (n,[])).1,[])).2)
def okF (ts:List S82) (L:List Int):Bool:=decide (L.length≤1048576) && L.all fun x=>decide (0≤x) && (decide (x<ts.length) && !(facI ts x == 0))
theorem okF_iff {ts:List S82} {L:List Int} (h:okF ts L=true):L.length≤1048576∧∀x∈L,0≤x∧x<ts.length∧facI ts x≠0:=by
 unfold okF at h
 simp only[Bool.and_eq_true,decide_eq_true_eq,List.all_eq_true,Bool.not_eq_true',beq_eq_false_iff_ne] at h
 exact h
def ccS (ts:List S82) (a i:Int):Int:=wrap64 (a * facI ts i)
def ccQ (q x:Int):Int:=if q≥0 then wrap64 (x * 2) else x
def Zb6 (q:Int→Int):Nat→Nat→Int→Int
 | 0,_,x=>x
 | d+1,p,x=>Zb6 q d (p+1) (ccQ (q (p:Int)) x)
def okI (ts:List S82) (L:List Int):Bool:=decide (L.length≤1048576) && L.all fun x=>decide (0≤x) && decide (x<ts.length)
theorem okI_iff {ts:List S82} {L:List Int} (h:okI ts L=true):L.length≤1048576∧∀x∈L,0≤x∧x<ts.length:=by
 unfold okI at h
 simp only[Bool.and_eq_true,decide_eq_true_eq,List.all_eq_true] at h
 exact h
def wq (f:Int→Option Int):Option (Int→Int):=(f 1).bind fun a=>(f 2).bind fun b=>(f 3).bind fun c=>some (fun p=>if p=1 then a else if p=2 then b else c)
theorem ZeO {f:Int→Option Int} {q:Int→Int} (h:wq f=some q):∀p:Nat,1≤p→p≤3→f (p:Int)=some (q (p:Int)):=by
 unfold wq at h
 obtain⟨a,ha,h⟩:=Option.bind_eq_some_iff.1 h
 obtain⟨b,hb,h⟩:=Option.bind_eq_some_iff.1 h
 obtain⟨c,hc,h⟩:=Option.bind_eq_some_iff.1 h
 obtain rfl:=Zg h
 intro p h1 h3
 have:p=1∨p=2∨p=3:=by omega
 rcases this with rfl|rfl|rfl
 ·exact ha
 ·exact hb
 ·exact hc
theorem wq_of {f:Int→Option Int} {q:Int→Int} (h:∀p:Nat,1≤p→p≤3→f (p:Int)=some (q (p:Int))):∃q',wq f=some q'∧(∀s,ZbE q' 3 1 s=ZbE q 3 1 s)∧∀s,Zb6 q' 3 1 s=Zb6 q 3 1 s:=by
 have h1:=h 1 (by omega) (by omega)
 have h2:=h 2 (by omega) (by omega)
 have h3:=h 3 (by omega) (by omega)
 refine⟨_,by unfold wq;rw[show f 1=_ from h1,Zi,show f 2=_ from h2,Zi,show f 3=_ from h3,Zi],fun s=>?_,fun s=>?_⟩
 ·rfl
 ·rfl
structure Two (w W:World) (gs g4 g5:Nat) (vs cs:Array Value) (uG uK:Value) (G K:List Int):Prop where
 rg:Kd.R (Kd.int .i64) 3 W w.heap.size (fun k=>some k≠uK.ownBlock) uG G
 rk:Kd.R (Kd.int .i64) 3 W w.heap.size (fun k=>some k≠uG.ownBlock) uK K
 hb:Below w.heap.size w W
 bs:W.heap[gs]? = some (Obj.cells vs 25 (0,0))
 b4:W.heap[g4]? = some (Obj.cells #[.slice none 0 0,.slice none 0 0] 58 (0,0))
 b5:W.heap[g5]? = some (Obj.cells cs 58 (0,0))
 n45:g4≠g5
 g4b:w.heap.size≤g4
 g5b:w.heap.size≤g5
section
variable {w W w1:World} {gs g4 g5:Nat} {vs cs cs':Array Value} {uG uK v1:Value} {G G1 K:List Int}
theorem Two.below (h:Two w W gs g4 g5 vs cs uG uK G K) (hb:Below W.heap.size W w1):Two w w1 gs g4 g5 vs cs uG uK G K:=
 ⟨Kd.R_below h.rg hb,Kd.R_below h.rk hb,Zw h.hb hb,ZA h.bs hb,ZA h.b4 hb,ZA h.b5 hb,h.n45,h.g4b,h.g5b⟩
theorem Two.grow {j:Nat} (h:Two w W gs g4 g5 vs cs uG uK G K) (ho:Kd.R (Kd.int .i64) 3 w1 w.heap.size (fun k=>some k≠uK.ownBlock) v1 G1) (hb:Below w.heap.size w w1) (hg:W.grownBy w1 uG.ownBlock) (hat:v1.ownBlock=uG.ownBlock∨∃b,v1.ownBlock=some b∧W.heap.size≤b) (e:cs.setIfInBounds j v1=cs') :
  Two w (w1.setCell ⟨g5,j,none⟩ v1) gs g4 g5 vs cs' v1 uK G1 K∧(w1.heap[g5]? = some (Obj.cells cs 58 (0,0))∧w1.heap[gs]? = some (Obj.cells vs 25 (0,0)))∧∃A c,v1=.slice A G1.length c:=by
 have HR1:=Kd.R_after (ok:=fun _=>True) (Kd.R_mono h.rk (fun _ hk=>⟨trivial,hk⟩)) hg hat
 have c4:=Zas h.b4 hg (Kd.R_ne h.rg h.b4 (by decide))
 have c5:=Zas h.b5 hg (Kd.R_ne h.rg h.b5 (by decide))
 have ss:=Zas h.bs hg (Kd.R_ne h.rg h.bs (by decide))
 exact⟨⟨Kd.R_mono (Kd.R_far (p:=⟨g5,j,none⟩) (Kd.R_types ho c5 (by decide)) (fun _ hk=>hk.2) v1) (fun _ hk=>hk.1),Kd.R_mono (Kd.R_far (p:=⟨g5,j,none⟩) (Kd.R_types HR1 c5 (by decide)) (fun _ hk=>hk.2) v1) (fun _ hk=>hk.1.2),Zq hb h.g5b,ZQ ss (p:=⟨g5,j,none⟩) (Zbs ss c5 (by decide)) v1,ZQ c4 (p:=⟨g5,j,none⟩) h.n45 v1,ZZ c5 j v1 e,h.n45,h.g4b,h.g5b⟩,⟨c5,ss⟩,Kd.R_slice ho⟩
theorem Two.turn (h:Two w W gs g4 g5 vs #[uG,.slice none 0 0] uG uK G K):Two w W gs g4 g5 vs #[uG,.slice none 0 0] (.slice none 0 0) uG [] G:=
 ⟨Kd.R_nil _ _ _ _ _,Kd.R_mono h.rg (fun _ _=>by simp[Value.ownBlock]),h.hb,h.bs,h.b4,h.b5,h.n45,h.g4b,h.g5b⟩
theorem Two.done (h:Two w W gs g4 g5 vs cs uG uK G K) {a b:Value}:Kd.R (Kd.int .i64) 3 ((W.setCell ⟨g4,0,none⟩ a).setCell ⟨g4,1,none⟩ b) w.heap.size (fun k=>some k≠uG.ownBlock) uK K∧Kd.R (Kd.int .i64) 3 ((W.setCell ⟨g4,0,none⟩ a).setCell ⟨g4,1,none⟩ b) w.heap.size (fun k=>some k≠uK.ownBlock) uG G∧Below w.heap.size w ((W.setCell ⟨g4,0,none⟩ a).setCell ⟨g4,1,none⟩ b)∧((W.setCell ⟨g4,0,none⟩ a).setCell ⟨g4,1,none⟩ b).heap[g4]? = some (Obj.cells #[a,b] 58 (0,0)):=
 ⟨Kd.R_mono (Kd.R_far (p:=⟨g4,1,none⟩) (Kd.R_far (p:=⟨g4,0,none⟩) (Kd.R_types h.rk h.b4 (by decide)) (fun _ hk=>hk.2) a) (fun _ hk=>hk.2) b) (fun _ hk=>hk.1),Kd.R_mono (Kd.R_far (p:=⟨g4,1,none⟩) (Kd.R_far (p:=⟨g4,0,none⟩) (Kd.R_types h.rg h.b4 (by decide)) (fun _ hk=>hk.2) a) (fun _ hk=>hk.2) b) (fun _ hk=>hk.1),Zq (Zq h.hb h.g4b) h.g4b,ZZ (cs:=#[a,.slice none 0 0]) (ZZ (cs:=#[.slice none 0 0,.slice none 0 0]) h.b4 0 a rfl) 1 b rfl⟩
end
end Go.Proofs.YtoeimopgoaffcaaGreatDoor.Pr
