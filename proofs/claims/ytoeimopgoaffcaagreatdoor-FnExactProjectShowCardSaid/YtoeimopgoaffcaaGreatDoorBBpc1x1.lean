/- The texts of one claim, put together by a program of this session. -/
import Derived.Test.YtoeimopgoaffcaaGreatDoorProg
import Derived.Below
import Derived.Deep.Draws
import Derived.Deep.AppendLies
import Derived.Maps.AppendAt
import Derived.OwnWalk
import Derived.Laws.BytesArg
import Derived.Laws.MakeOwn
import Derived.Laws.OwnMore
import Derived.Deep.OwnRows
import Derived.Tactics
import Derived.Lib.ConvBytes
import Derived.Laws.Slices
import Derived.WalkKit
import Derived.KernelRfl
import Derived.RowKit3
import Derived.Deep.LoopGhost
import Derived.Deep.QuietTactic
import Derived.BigQuiet
import Derived.WideLaws
import Derived.Deep.DeepCutAuto
import Derived.Deep.CutBlock
import Derived.Deep.RegionHeld3
import Derived.Laws.Rows
import Derived.Lib.AppendStr
import Derived.ArgAppend
import Derived.Laws.IdiomCopy
import Derived.OrdersHeld
import Derived.Laws.BitsLemmas
import Derived.RowKit
import Derived.ChangeArms
import Derived.ChangeSlices
import Derived.WideShapes
import Derived.Deep.Slices
import Derived.Test.YtoeimopgoaffcaaGreatDoorBBp0
namespace Go.Proofs.YtoeimopgoaffcaaGreatDoor.Pr
open Go.RowKit Go.Proofs.YtoeimopgoaffcaaGreatDoorW.PrintWords Go.Proofs.YtoeimopgoaffcaaGreatDoorW.PrintLast Go.Proofs.YtoeimopgoaffcaaGreatDoorW.PrintMore
attribute [local go_sem] Z2 Z0 Zac Zab ZU ZT Z1 ZZ
set_option linter.unusedVariables false
set_option linter.unusedSimpArgs false
def errW:Option Int→Value
 | none=>.nilIface
 | some c=>.iface 198 (.int .i64 c)
theorem ZA:errW none=.nilIface:=rfl
theorem Zz (c:Int):errW (some c)=.iface 198 (.int .i64 c):=rfl
theorem info3:(Tryz.prog.info? 3).map (fun i=>(i.zero,i.size,i.bytes))=some (some (.int .i64 0),1,8):=by kernel_rfl
theorem info4:(Tryz.prog.info? 4).map (fun i=>(i.zero,i.size,i.bytes))=some (some (.bool false),1,1):=by kernel_rfl
theorem info9:(Tryz.prog.info? 9).map (fun i=>(i.zero,i.size,i.bytes))=some (some (.string ⟨#[]⟩),1,16):=by kernel_rfl
theorem info39:(Tryz.prog.info? 39).map (fun i=>(i.zero,i.size,i.bytes))=some (some (.agg #[(.string ⟨#[]⟩),(.slice none 0 0),(.int .i64 0)]),3,48):=by kernel_rfl
theorem info82:(Tryz.prog.info? 82).map (fun i=>(i.zero,i.size,i.bytes))=some (some (.agg #[(.int .i64 0),(.int .i64 0),(.int .i64 0),(.int .i64 0),(.bool false)]),5,40):=by kernel_rfl
theorem Zc5:(Tryz.prog.info? 112).map (fun i=>(i.zero,i.size,i.bytes))=some (some (.agg #[(.int .i64 0),(.int .i64 0),(.int .i64 0),(.int .i64 0)]),4,32):=by kernel_rfl
theorem info184:(Tryz.prog.info? 184).map (fun i=>(i.zero,i.size,i.bytes))=some (some (.agg #[(.int .i64 0),(.int .i64 0),(.int .i64 0)]),3,24):=by kernel_rfl
def rd_L3 (xs:List (List Int)) (i:Int):(List Int):=xs.getD i.toNat ([]:List Int)
structure S39 where
 f0:ByteArray
 f1:(List Int)
 f2:Int
def z39:S39:=⟨(⟨#[]⟩:ByteArray),([]:List Int),(0:Int)⟩
def k39:Kd S39:=Kd.iso (Kd.pair Kd.string (Kd.pair (Kd.slice 3 (Kd.int .i64)) (Kd.int .i64))) (fun x:S39=>(x.f0,x.f1,x.f2))
theorem k39_open {w:World} {x:S39} {cs:List Value} (h:k39.K w x cs):∃A1 c1,cs=[.string x.f0,.slice A1 x.f1.length c1,.int .i64 x.f2]∧x.f1.length≤c1∧(Kd.int .i64).C w A1 x.f1.length x.f1:=by
 obtain⟨_,_,rfl,rfl,⟨_,_,rfl,⟨A1,c1,rfl,l1,g1⟩,rfl⟩⟩:=h
 exact⟨A1,c1,rfl,l1,g1⟩
theorem ZdX {w:World} {base:Nat} {ok:Nat→Prop} {x:S39} {cs:List Value} (h:k39.M w base ok x cs):∃v1,cs=[.string x.f0,v1,.int .i64 x.f2]∧(Kd.int .i64).R 3 w base ok v1 x.f1:=by
 obtain⟨_,_,rfl,rfl,⟨_,_,rfl,⟨v1,rfl,g1⟩,rfl⟩⟩:=h
 exact⟨v1,rfl,g1⟩
theorem k39_mk (w:World) (x:S39) {A1:Option Addr} {c1:Nat} (l1:x.f1.length≤c1) (g1:(Kd.int .i64).C w A1 x.f1.length x.f1):k39.K w x [.string x.f0,.slice A1 x.f1.length c1,.int .i64 x.f2]:=⟨[.string x.f0],[.slice A1 x.f1.length c1,.int .i64 x.f2],rfl,rfl,⟨[.slice A1 x.f1.length c1],[.int .i64 x.f2],rfl,⟨A1,c1,rfl,l1,g1⟩,rfl⟩⟩
theorem k39_mkM (w:World) (base:Nat) (ok:Nat→Prop) (x:S39) {v1:Value} (g1:(Kd.int .i64).R 3 w base ok v1 x.f1):k39.M w base ok x [.string x.f0,v1,.int .i64 x.f2]:=⟨[.string x.f0],[v1,.int .i64 x.f2],rfl,rfl,⟨[v1],[.int .i64 x.f2],rfl,⟨v1,rfl,g1⟩,rfl⟩⟩
theorem k39_mkF (W:World) (ok:Nat→Prop) (x:S39) {A1:Option Addr} {c1:Nat} (l1:x.f1.length≤c1) (g1:Kd.F (Kd.int .i64) W ok A1 x.f1.length x.f1):Kd.FK k39 W ok x [.string x.f0,.slice A1 x.f1.length c1,.int .i64 x.f2]:=fun W2 hW=>k39_mk W2 x l1 (g1 W2 hW)
def ZD (xs:List S39) (i:Int):S39:=xs.getD i.toNat z39
theorem ZaG {w:World} {A:Option Addr} {n:Nat} {xs:List S39} (h:Kd.C k39 w A n xs) (i:Int) (h0:0≤i) (h1:i<n):∃ad A1 c1,A=some ad∧w.cell? (ad.add (i.toNat * 3))=some (.string (ZD xs i).f0)∧w.cell? ⟨(ad.add (i.toNat * 3)).block,(ad.add (i.toNat * 3)).off+1,none⟩=some (.slice A1 (ZD xs i).f1.length c1)∧w.cell? ⟨(ad.add (i.toNat * 3)).block,(ad.add (i.toNat * 3)).off+2,none⟩=some (.int .i64 (ZD xs i).f2)∧(ZD xs i).f1.length≤c1∧(Kd.int .i64).C w A1 (ZD xs i).f1.length (ZD xs i).f1:=by
 obtain⟨ad,c,e,_,hK,hc0⟩:=Kd.C_get h z39 i h0 h1
 have hc:∀j u,c[j]? = some u→w.cell? (ad.add (i.toNat * 3+j))=some u:=hc0
 obtain⟨A1,c1,rfl,l1,g1⟩:=k39_open hK
 exact⟨ad,A1,c1,e,hc 0 _ rfl,by rw[← Za1 _ _ 1 (by omega)];exact hc 1 _ rfl,by rw[← Za1 _ _ 2 (by omega)];exact hc 2 _ rfl,l1,g1⟩
structure S82 where
 f0:Int
 f1:Int
 f2:Int
 f3:Int
 f4:Bool
def z82:S82:=⟨(0:Int),(0:Int),(0:Int),(0:Int),false⟩
def k82:Kd S82:=Kd.iso (Kd.pair (Kd.int .i64) (Kd.pair (Kd.int .i64) (Kd.pair (Kd.int .i64) (Kd.pair (Kd.int .i64) Kd.bool)))) (fun x:S82=>(x.f0,x.f1,x.f2,x.f3,x.f4))
theorem k82_open {w:World} {x:S82} {cs:List Value} (h:k82.K w x cs):cs=[.int .i64 x.f0,.int .i64 x.f1,.int .i64 x.f2,.int .i64 x.f3,.bool x.f4]:=by
 obtain⟨_,_,rfl,rfl,⟨_,_,rfl,rfl,⟨_,_,rfl,rfl,⟨_,_,rfl,rfl,rfl⟩⟩⟩⟩:=h
 exact rfl
theorem Zbt {w:World} {base:Nat} {ok:Nat→Prop} {x:S82} {cs:List Value} (h:k82.M w base ok x cs):cs=[.int .i64 x.f0,.int .i64 x.f1,.int .i64 x.f2,.int .i64 x.f3,.bool x.f4]:=by
 obtain⟨_,_,rfl,rfl,⟨_,_,rfl,rfl,⟨_,_,rfl,rfl,⟨_,_,rfl,rfl,rfl⟩⟩⟩⟩:=h
 exact rfl
theorem ZcJ (w:World) (base:Nat) (ok:Nat→Prop) (x:S82)  : k82.M w base ok x [.int .i64 x.f0,.int .i64 x.f1,.int .i64 x.f2,.int .i64 x.f3,.bool x.f4]:=⟨[.int .i64 x.f0],[.int .i64 x.f1,.int .i64 x.f2,.int .i64 x.f3,.bool x.f4],rfl,rfl,⟨[.int .i64 x.f1],[.int .i64 x.f2,.int .i64 x.f3,.bool x.f4],rfl,rfl,⟨[.int .i64 x.f2],[.int .i64 x.f3,.bool x.f4],rfl,rfl,⟨[.int .i64 x.f3],[.bool x.f4],rfl,rfl,rfl⟩⟩⟩⟩
def Zu (xs:List S82) (i:Int):S82:=xs.getD i.toNat z82
theorem Zbp {w:World} {A:Option Addr} {n:Nat} {xs:List S82} (h:Kd.C k82 w A n xs) (i:Int) (h0:0≤i) (h1:i<n):∃ad ,A=some ad∧w.cell? (ad.add (i.toNat * 5))=some (.int .i64 (Zu xs i).f0)∧w.cell? ⟨(ad.add (i.toNat * 5)).block,(ad.add (i.toNat * 5)).off+1,none⟩=some (.int .i64 (Zu xs i).f1)∧w.cell? ⟨(ad.add (i.toNat * 5)).block,(ad.add (i.toNat * 5)).off+2,none⟩=some (.int .i64 (Zu xs i).f2)∧w.cell? ⟨(ad.add (i.toNat * 5)).block,(ad.add (i.toNat * 5)).off+3,none⟩=some (.int .i64 (Zu xs i).f3)∧w.cell? ⟨(ad.add (i.toNat * 5)).block,(ad.add (i.toNat * 5)).off+4,none⟩=some (.bool (Zu xs i).f4):=by
 obtain⟨ad,c,e,_,hK,hc0⟩:=Kd.C_get h z82 i h0 h1
 have hc:∀j u,c[j]? = some u→w.cell? (ad.add (i.toNat * 5+j))=some u:=hc0
 obtain rfl:=k82_open hK
 exact⟨ad,e,hc 0 _ rfl,by rw[← Za1 _ _ 1 (by omega)];exact hc 1 _ rfl,by rw[← Za1 _ _ 2 (by omega)];exact hc 2 _ rfl,by rw[← Za1 _ _ 3 (by omega)];exact hc 3 _ rfl,by rw[← Za1 _ _ 4 (by omega)];exact hc 4 _ rfl⟩
def rd_L7 (xs:List (List S39)) (i:Int):(List S39):=xs.getD i.toNat ([]:List S39)
def rd_L8 (xs:List (List S82)) (i:Int):(List S82):=xs.getD i.toNat ([]:List S82)
structure S25 where
 f0:(List S39)
 f1:(List S82)
 f2:Int
def z25:S25:=⟨([]:List S39),([]:List S82),(0:Int)⟩
def k25:Kd S25:=Kd.iso (Kd.pair (Kd.slice 39 k39) (Kd.pair (Kd.slice 82 k82) (Kd.int .i64))) (fun x:S25=>(x.f0,x.f1,x.f2))
def rd_T25 (xs:List S25) (i:Int):S25:=xs.getD i.toNat z25
structure S143 where
 f0:ByteArray
 f1:(List Int)
 f2:Int
def z143:S143:=⟨(⟨#[]⟩:ByteArray),([]:List Int),(0:Int)⟩
def k143:Kd S143:=Kd.iso (Kd.pair Kd.string (Kd.pair (Kd.slice 3 (Kd.int .i64)) (Kd.int .i64))) (fun x:S143=>(x.f0,x.f1,x.f2))
theorem k143_open {w:World} {x:S143} {cs:List Value} (h:k143.K w x cs):∃A1 c1,cs=[.string x.f0,.slice A1 x.f1.length c1,.int .i64 x.f2]∧x.f1.length≤c1∧(Kd.int .i64).C w A1 x.f1.length x.f1:=by
 obtain⟨_,_,rfl,rfl,⟨_,_,rfl,⟨A1,c1,rfl,l1,g1⟩,rfl⟩⟩:=h
 exact⟨A1,c1,rfl,l1,g1⟩
def ZaC (xs:List S143) (i:Int):S143:=xs.getD i.toNat z143
theorem at_T143 {w:World} {A:Option Addr} {n:Nat} {xs:List S143} (h:Kd.C k143 w A n xs) (i:Int) (h0:0≤i) (h1:i<n):∃ad A1 c1,A=some ad∧w.cell? (ad.add (i.toNat * 3))=some (.string (ZaC xs i).f0)∧w.cell? ⟨(ad.add (i.toNat * 3)).block,(ad.add (i.toNat * 3)).off+1,none⟩=some (.slice A1 (ZaC xs i).f1.length c1)∧w.cell? ⟨(ad.add (i.toNat * 3)).block,(ad.add (i.toNat * 3)).off+2,none⟩=some (.int .i64 (ZaC xs i).f2)∧(ZaC xs i).f1.length≤c1∧(Kd.int .i64).C w A1 (ZaC xs i).f1.length (ZaC xs i).f1:=by
 obtain⟨ad,c,e,_,hK,hc0⟩:=Kd.C_get h z143 i h0 h1
 have hc:∀j u,c[j]? = some u→w.cell? (ad.add (i.toNat * 3+j))=some u:=hc0
 obtain⟨A1,c1,rfl,l1,g1⟩:=k143_open hK
 exact⟨ad,A1,c1,e,hc 0 _ rfl,by rw[← Za1 _ _ 1 (by omega)];exact hc 1 _ rfl,by rw[← Za1 _ _ 2 (by omega)];exact hc 2 _ rfl,l1,g1⟩
structure S147 where
 f0:Int
 f1:Int
 f2:Int
 f3:Int
 f4:Bool
def z147:S147:=⟨(0:Int),(0:Int),(0:Int),(0:Int),false⟩
def k147:Kd S147:=Kd.iso (Kd.pair (Kd.int .i64) (Kd.pair (Kd.int .i64) (Kd.pair (Kd.int .i64) (Kd.pair (Kd.int .i64) Kd.bool)))) (fun x:S147=>(x.f0,x.f1,x.f2,x.f3,x.f4))
theorem k147_open {w:World} {x:S147} {cs:List Value} (h:k147.K w x cs):cs=[.int .i64 x.f0,.int .i64 x.f1,.int .i64 x.f2,.int .i64 x.f3,.bool x.f4]:=by
 obtain⟨_,_,rfl,rfl,⟨_,_,rfl,rfl,⟨_,_,rfl,rfl,⟨_,_,rfl,rfl,rfl⟩⟩⟩⟩:=h
 exact rfl
def Za2 (xs:List S147) (i:Int):S147:=xs.getD i.toNat z147
theorem at_T147 {w:World} {A:Option Addr} {n:Nat} {xs:List S147} (h:Kd.C k147 w A n xs) (i:Int) (h0:0≤i) (h1:i<n):∃ad ,A=some ad∧w.cell? (ad.add (i.toNat * 5))=some (.int .i64 (Za2 xs i).f0)∧w.cell? ⟨(ad.add (i.toNat * 5)).block,(ad.add (i.toNat * 5)).off+1,none⟩=some (.int .i64 (Za2 xs i).f1)∧w.cell? ⟨(ad.add (i.toNat * 5)).block,(ad.add (i.toNat * 5)).off+2,none⟩=some (.int .i64 (Za2 xs i).f2)∧w.cell? ⟨(ad.add (i.toNat * 5)).block,(ad.add (i.toNat * 5)).off+3,none⟩=some (.int .i64 (Za2 xs i).f3)∧w.cell? ⟨(ad.add (i.toNat * 5)).block,(ad.add (i.toNat * 5)).off+4,none⟩=some (.bool (Za2 xs i).f4):=by
 obtain⟨ad,c,e,_,hK,hc0⟩:=Kd.C_get h z147 i h0 h1
 have hc:∀j u,c[j]? = some u→w.cell? (ad.add (i.toNat * 5+j))=some u:=hc0
 obtain rfl:=k147_open hK
 exact⟨ad,e,hc 0 _ rfl,by rw[← Za1 _ _ 1 (by omega)];exact hc 1 _ rfl,by rw[← Za1 _ _ 2 (by omega)];exact hc 2 _ rfl,by rw[← Za1 _ _ 3 (by omega)];exact hc 3 _ rfl,by rw[← Za1 _ _ 4 (by omega)];exact hc 4 _ rfl⟩
structure S110 where
 f0:Int
 f1:Int
def z110:S110:=⟨(0:Int),(0:Int)⟩
def k110:Kd S110:=Kd.iso (Kd.pair (Kd.int .i64) (Kd.int .i64)) (fun x:S110=>(x.f0,x.f1))
theorem k110_open {w:World} {x:S110} {cs:List Value} (h:k110.K w x cs):cs=[.int .i64 x.f0,.int .i64 x.f1]:=by
 obtain⟨_,_,rfl,rfl,rfl⟩:=h
 exact rfl
theorem k110_openM {w:World} {base:Nat} {ok:Nat→Prop} {x:S110} {cs:List Value} (h:k110.M w base ok x cs):cs=[.int .i64 x.f0,.int .i64 x.f1]:=by
 obtain⟨_,_,rfl,rfl,rfl⟩:=h
 exact rfl
theorem k110_mkM (w:World) (base:Nat) (ok:Nat→Prop) (x:S110)  : k110.M w base ok x [.int .i64 x.f0,.int .i64 x.f1]:=⟨[.int .i64 x.f0],[.int .i64 x.f1],rfl,rfl,rfl⟩
def rd_T110 (xs:List S110) (i:Int):S110:=xs.getD i.toNat z110
structure S112 where
 f0:Int
 f1:Int
 f2:S110
def z112:S112:=⟨(0:Int),(0:Int),z110⟩
def k112:Kd S112:=Kd.iso (Kd.pair (Kd.int .i64) (Kd.pair (Kd.int .i64) k110)) (fun x:S112=>(x.f0,x.f1,x.f2))
theorem k112_open {w:World} {x:S112} {cs:List Value} (h:k112.K w x cs):cs=[.int .i64 x.f0,.int .i64 x.f1,.int .i64 x.f2.f0,.int .i64 x.f2.f1]:=by
 obtain⟨_,_,rfl,rfl,⟨_,_,rfl,rfl,s2⟩⟩:=h
 obtain rfl:=k110_open s2
 exact rfl
theorem ZeE {w:World} {base:Nat} {ok:Nat→Prop} {x:S112} {cs:List Value} (h:k112.M w base ok x cs):cs=[.int .i64 x.f0,.int .i64 x.f1,.int .i64 x.f2.f0,.int .i64 x.f2.f1]:=by
 obtain⟨_,_,rfl,rfl,⟨_,_,rfl,rfl,s2⟩⟩:=h
 obtain rfl:=k110_openM s2
 exact rfl
theorem ZcA (w:World) (base:Nat) (ok:Nat→Prop) (x:S112)  : k112.M w base ok x [.int .i64 x.f0,.int .i64 x.f1,.int .i64 x.f2.f0,.int .i64 x.f2.f1]:=⟨[.int .i64 x.f0],[.int .i64 x.f1,.int .i64 x.f2.f0,.int .i64 x.f2.f1],rfl,rfl,⟨[.int .i64 x.f1],[.int .i64 x.f2.f0,.int .i64 x.f2.f1],rfl,rfl,(k110_mkM w base ok x.f2 )⟩⟩
def ZQ (xs:List S112) (i:Int):S112:=xs.getD i.toNat z112
theorem Za6 {w:World} {A:Option Addr} {n:Nat} {xs:List S112} (h:Kd.C k112 w A n xs) (i:Int) (h0:0≤i) (h1:i<n):∃ad ,A=some ad∧w.cell? (ad.add (i.toNat * 4))=some (.int .i64 (ZQ xs i).f0)∧w.cell? ⟨(ad.add (i.toNat * 4)).block,(ad.add (i.toNat * 4)).off+1,none⟩=some (.int .i64 (ZQ xs i).f1)∧w.cell? ⟨(ad.add (i.toNat * 4)).block,(ad.add (i.toNat * 4)).off+2,none⟩=some (.int .i64 (ZQ xs i).f2.f0)∧w.cell? ⟨(ad.add (i.toNat * 4)).block,(ad.add (i.toNat * 4)).off+3,none⟩=some (.int .i64 (ZQ xs i).f2.f1):=by
 obtain⟨ad,c,e,_,hK,hc0⟩:=Kd.C_get h z112 i h0 h1
 have hc:∀j u,c[j]? = some u→w.cell? (ad.add (i.toNat * 4+j))=some u:=hc0
 obtain rfl:=k112_open hK
 exact⟨ad,e,hc 0 _ rfl,by rw[← Za1 _ _ 1 (by omega)];exact hc 1 _ rfl,by rw[← Za1 _ _ 2 (by omega)];exact hc 2 _ rfl,by rw[← Za1 _ _ 3 (by omega)];exact hc 3 _ rfl⟩
structure S58 where
 f0:(List Int)
 f1:(List Int)
def z58:S58:=⟨([]:List Int),([]:List Int)⟩
def k58:Kd S58:=Kd.iso (Kd.pair (Kd.slice 3 (Kd.int .i64)) (Kd.slice 3 (Kd.int .i64))) (fun x:S58=>(x.f0,x.f1))
def rd_T58 (xs:List S58) (i:Int):S58:=xs.getD i.toNat z58
def rd_L15 (xs:List (List S112)) (i:Int):(List S112):=xs.getD i.toNat ([]:List S112)
structure S54 where
 f0:Int
 f1:(List S112)
def z54:S54:=⟨(0:Int),([]:List S112)⟩
def k54:Kd S54:=Kd.iso (Kd.pair (Kd.int .i64) (Kd.slice 112 k112)) (fun x:S54=>(x.f0,x.f1))
def rd_T54 (xs:List S54) (i:Int):S54:=xs.getD i.toNat z54
structure S184 where
 f0:Int
 f1:Int
 f2:Int
def z184:S184:=⟨(0:Int),(0:Int),(0:Int)⟩
def k184:Kd S184:=Kd.iso (Kd.pair (Kd.int .i64) (Kd.pair (Kd.int .i64) (Kd.int .i64))) (fun x:S184=>(x.f0,x.f1,x.f2))
theorem k184_open {w:World} {x:S184} {cs:List Value} (h:k184.K w x cs):cs=[.int .i64 x.f0,.int .i64 x.f1,.int .i64 x.f2]:=by
 obtain⟨_,_,rfl,rfl,⟨_,_,rfl,rfl,rfl⟩⟩:=h
 exact rfl
theorem k184_mkM (w:World) (base:Nat) (ok:Nat→Prop) (x:S184)  : k184.M w base ok x [.int .i64 x.f0,.int .i64 x.f1,.int .i64 x.f2]:=⟨[.int .i64 x.f0],[.int .i64 x.f1,.int .i64 x.f2],rfl,rfl,⟨[.int .i64 x.f1],[.int .i64 x.f2],rfl,rfl,rfl⟩⟩
def rd_T184 (xs:List S184) (i:Int):S184:=xs.getD i.toNat z184
theorem at_T184 {w:World} {A:Option Addr} {n:Nat} {xs:List S184} (h:Kd.C k184 w A n xs) (i:Int) (h0:0≤i) (h1:i<n):∃ad ,A=some ad∧w.cell? (ad.add (i.toNat * 3))=some (.int .i64 (rd_T184 xs i).f0)∧w.cell? ⟨(ad.add (i.toNat * 3)).block,(ad.add (i.toNat * 3)).off+1,none⟩=some (.int .i64 (rd_T184 xs i).f1)∧w.cell? ⟨(ad.add (i.toNat * 3)).block,(ad.add (i.toNat * 3)).off+2,none⟩=some (.int .i64 (rd_T184 xs i).f2):=by
 obtain⟨ad,c,e,_,hK,hc0⟩:=Kd.C_get h z184 i h0 h1
 have hc:∀j u,c[j]? = some u→w.cell? (ad.add (i.toNat * 3+j))=some u:=hc0
 obtain rfl:=k184_open hK
 exact⟨ad,e,hc 0 _ rfl,by rw[← Za1 _ _ 1 (by omega)];exact hc 1 _ rfl,by rw[← Za1 _ _ 2 (by omega)];exact hc 2 _ rfl⟩
def rd_L18 (xs:List (List S184)) (i:Int):(List S184):=xs.getD i.toNat ([]:List S184)
structure S156 where
 f0:Int
 f1:(List S184)
def z156:S156:=⟨(0:Int),([]:List S184)⟩
def k156:Kd S156:=Kd.iso (Kd.pair (Kd.int .i64) (Kd.slice 184 k184)) (fun x:S156=>(x.f0,x.f1))
def rd_T156 (xs:List S156) (i:Int):S156:=xs.getD i.toNat z156
def rd_L20 (xs:List (List S143)) (i:Int):(List S143):=xs.getD i.toNat ([]:List S143)
def rd_L21 (xs:List (List S147)) (i:Int):(List S147):=xs.getD i.toNat ([]:List S147)
structure S47 where
 f0:(List S143)
 f1:(List S147)
 f2:Int
def z47:S47:=⟨([]:List S143),([]:List S147),(0:Int)⟩
def k47:Kd S47:=Kd.iso (Kd.pair (Kd.slice 143 k143) (Kd.pair (Kd.slice 147 k147) (Kd.int .i64))) (fun x:S47=>(x.f0,x.f1,x.f2))
theorem k47_open {w:World} {x:S47} {cs:List Value} (h:k47.K w x cs):∃A0 c0 A1 c1,cs=[.slice A0 x.f0.length c0,.slice A1 x.f1.length c1,.int .i64 x.f2]∧x.f0.length≤c0∧k143.C w A0 x.f0.length x.f0∧x.f1.length≤c1∧k147.C w A1 x.f1.length x.f1:=by
 obtain⟨_,_,rfl,⟨A0,c0,rfl,l0,g0⟩,⟨_,_,rfl,⟨A1,c1,rfl,l1,g1⟩,rfl⟩⟩:=h
 exact⟨A0,c0,A1,c1,rfl,l0,g0,l1,g1⟩
def rd_T47 (xs:List S47) (i:Int):S47:=xs.getD i.toNat z47
structure S49 where
 f0:(List Int)
 f1:(List Int)
def z49:S49:=⟨([]:List Int),([]:List Int)⟩
def k49:Kd S49:=Kd.iso (Kd.pair (Kd.slice 3 (Kd.int .i64)) (Kd.slice 3 (Kd.int .i64))) (fun x:S49=>(x.f0,x.f1))
theorem k49_open {w:World} {x:S49} {cs:List Value} (h:k49.K w x cs):∃A0 c0 A1 c1,cs=[.slice A0 x.f0.length c0,.slice A1 x.f1.length c1]∧x.f0.length≤c0∧(Kd.int .i64).C w A0 x.f0.length x.f0∧x.f1.length≤c1∧(Kd.int .i64).C w A1 x.f1.length x.f1:=by
 obtain⟨_,_,rfl,⟨A0,c0,rfl,l0,g0⟩,⟨A1,c1,rfl,l1,g1⟩⟩:=h
 exact⟨A0,c0,A1,c1,rfl,l0,g0,l1,g1⟩
def rd_T49 (xs:List S49) (i:Int):S49:=xs.getD i.toNat z49
end Go.Proofs.YtoeimopgoaffcaaGreatDoor.Pr
namespace Go.Proofs.YtoeimopgoaffcaaGreatDoor.Op
open Go.RowKit Go.ChangeShapes Go.WideShapes Go.Proofs.YtoeimopgoaffcaaGreatDoorW.PrintWords
structure Za4 {α:Type} (P:Program) (d:Kd α) (t:TypeId) (ok:α→Prop):Prop where
 cells:P.cellsOf t=d.sz
 op:∀{H:Type} {enc:TypeId×Value→H} {w:World} {base fuel:Nat} {cs:List Value} {x:DataW H×List MemPlace},DataW.trod enc P w base (fun _=>true) true fuel t cs=some x→∃y,d.K w y cs∧ok y
theorem Za4.int {P:Program} {t:TypeId} {k:IntKind} (ht:P.underlying t=some (.int k)) (hc:P.cellsOf t=1):Za4 P (Kd.int k) t (fun n=>(Lit.int k n).wf=true):=
 ⟨hc,fun h=>by
  obtain⟨n,rfl,_,hw⟩:=DataW.trod_int ht h
  exact⟨n,rfl,hw⟩⟩
theorem Za4.bool {P:Program} {t:TypeId} (ht:P.underlying t=some .bool) (hc:P.cellsOf t=1):Za4 P Kd.bool t (fun _=>True):=
 ⟨hc,fun h=>by
  obtain⟨n,rfl,_⟩:=DataW.trod_bool ht h
  exact⟨n,rfl,trivial⟩⟩
theorem Za4.string {P:Program} {t:TypeId} (ht:P.underlying t=some .string) (hc:P.cellsOf t=1):Za4 P Kd.string t (fun s=>s.size≤maxLen):=
 ⟨hc,fun h=>by
  obtain⟨n,rfl,_,hw⟩:=DataW.trod_string ht h
  exact⟨n,rfl,hw⟩⟩
theorem choose_list {β:Type} (Q:Nat→β→Prop) (n:Nat) (h:∀i,i<n→∃y,Q i y):∃l:List β,l.length=n∧∀i y,l[i]? = some y→Q i y:=by
 induction n with
 | zero=>exact⟨[],rfl,fun i y h=>by simp at h⟩
 | succ n ih=>
  obtain⟨l,hl,hq⟩:=ih (fun i hi=>h i (by omega))
  obtain⟨y,hy⟩:=h n (by omega)
  refine⟨l ++ [y],by simp[hl],fun i z hz=>?_⟩
  rcases Nat.lt_or_ge i l.length with hi|hi
  ·rw[List.getElem?_append_left hi] at hz
   exact hq i z hz
  ·have hlt:=(List.getElem?_eq_some_iff.1 hz).1
   rw[List.length_append,List.length_singleton] at hlt
   have e:i=l.length:=by omega
   subst e
   have hz':y=z:=by simpa using hz
   subst hz'
   rw[hl]
   exact hy
theorem Za4.slice {α:Type} {P:Program} {d:Kd α} {t e:TypeId} {ok:α→Prop} (he:Za4 P d e ok) (ht:P.underlying t=some (.slice e)) (hc:P.cellsOf t=1) :
  Za4 P (Kd.slice e d) t (fun l=>l.length≤maxLen∧∀x∈l,ok x):=
 ⟨hc,fun {H enc w base fuel cs x} h=>by
  rcases DataW.trod_slice ht h with ⟨rfl,_⟩|⟨a,len,cap,elems,rest,n,_,rfl,_,hb,hl,hm,hlen,hel,_,_⟩
  ·exact⟨[],⟨none,0,rfl,Nat.le_refl _,rfl,by simp,fun h0=>absurd h0 (by simp)⟩,by simp⟩
  ·have key:∀i,i<len→∃y,ok y∧∃c,c.length=d.sz∧d.K w y c∧∀j u,c[j]? = some u→w.cell? (a.add (i * d.sz+j))=some u:=by
    intro i hi
    have hi':=hel i hi
    rw[Zl (by omega),Option.bind_eq_some_iff] at hi'
    obtain⟨cs',h1,h2⟩:=hi'
    obtain⟨y,hk,hy⟩:=he.op h2
    refine⟨y,hy,cs',d.K_len hk,hk,fun j u hu=>?_⟩
    have:=(World.cells?_some h1).2.2 j (by
     have:=(List.getElem?_eq_some_iff.1 hu).1
     rw[d.K_len hk] at this
     rw[he.cells];exact this)
    rw[he.cells] at this
    rw[Addr.add_add] at this
    rw[this,hu]
   obtain⟨l,hll,hq⟩:=choose_list _ len key
   refine⟨l,⟨some a,cap,by rw[hll],by omega,rfl,by rw[hll];simp only[maxLen] at hm;omega,fun h0=>⟨a,rfl,fun j p hj=>?_⟩⟩,by omega,fun x hx=>?_⟩
   ·obtain⟨_,hc'⟩:=hq j p hj
    exact hc'
   ·obtain⟨i,hi⟩:=List.getElem?_of_mem hx
    exact(hq i x hi).1⟩
theorem Zct {α β:Type} {a:Kd α} {b:Kd β} {w:World} {x:α} {y:β} {cs:List Value} {off:Nat} (h0:a.K w x ((cs.drop off).take a.sz)) (h1:b.K w y ((cs.drop (off+a.sz)).take b.sz)) :
  (Kd.pair a b).K w (x,y) ((cs.drop off).take (Kd.pair a b).sz):=
 ⟨_,_,by show(cs.drop off).take (a.sz+b.sz)=_;rw[List.take_add,List.drop_drop],h0,h1⟩
theorem Za4.fieldAt {α:Type} {P:Program} {d:Kd α} {t:TypeId} {ok:α→Prop} (ho:Za4 P d t ok) {H:Type} {enc:TypeId×Value→H} {w:World} {base fuel off:Nat} {cs:List Value} {x:Option (DataW H×List MemPlace)}
  (h:DataW.trod enc P w base (fun _=>true) true fuel t ((cs.drop off).take (P.cellsOf t))=x) (hx:x.isSome=true):∃y,d.K w y ((cs.drop off).take d.sz)∧ok y:=by
 obtain⟨z,rfl⟩:=Option.isSome_iff_exists.1 hx
 obtain⟨y,hk,hy⟩:=ho.op h
 rw[ho.cells] at hk
 exact⟨y,hk,hy⟩
end Go.Proofs.YtoeimopgoaffcaaGreatDoor.Op
namespace Go.Proofs.YtoeimopgoaffcaaGreatDoor.Pr
open Go.RowKit Go.Proofs.YtoeimopgoaffcaaGreatDoorW.PrintWords Go.Proofs.YtoeimopgoaffcaaGreatDoorW.PrintLast Go.Proofs.YtoeimopgoaffcaaGreatDoorW.PrintMore
attribute [local go_sem] Z2 Z0 Zac Zab ZU ZT Z1 ZZ
set_option linter.unusedVariables false
set_option linter.unusedSimpArgs false
open Go.Proofs.YtoeimopgoaffcaaGreatDoor.Op Go.ChangeShapes Go.WideShapes
def okS143 (x:S143):Prop:=(fun s_:ByteArray=>s_.size≤maxLen) x.f0∧(fun l_:List Int=>l_.length≤maxLen∧∀x_∈l_,(fun n_:Int=>(Lit.int .i64 n_).wf=true) x_) x.f1∧(fun n_:Int=>(Lit.int .i64 n_).wf=true) x.f2
theorem op_k143:Za4 Tryz.prog k143 143 okS143:=
 ⟨by kernel_rfl,fun {H enc w base fuel cs x} h=>by
  obtain⟨xs,n,_,_,hl,hlen,hf⟩:=DataW.trod_struct Tryz.underlying143 h
  have hl':cs.length=3:=hl.trans (by kernel_rfl)
  have hlen':xs.length=3:=hlen
  obtain⟨y0,h0,o0⟩:=(Za4.string Tryz.underlying9 (by kernel_rfl)).fieldAt (hf 0 _ rfl) (by rw[Zl (by omega)];rfl)
  obtain⟨y1,h1,o1⟩:=(Za4.slice (Za4.int Tryz.underlying3 (by kernel_rfl)) Tryz.underlying37 (by kernel_rfl)).fieldAt (hf 1 _ rfl) (by rw[Zl (by omega)];rfl)
  obtain⟨y2,h2,o2⟩:=(Za4.int Tryz.underlying3 (by kernel_rfl)).fieldAt (hf 2 _ rfl) (by rw[Zl (by omega)];rfl)
  have hk:k143.K w ⟨y0,y1,y2⟩ ((cs.drop 0).take k143.sz):=(Zct (off:=0) h0 (Zct (off:=1) h1 h2))
  have hcs:(cs.drop 0).take k143.sz=cs:=by rw[List.drop_zero];exact List.take_of_length_le (by rw[hl'];exact Nat.le_refl _)
  rw[hcs] at hk
  exact⟨_,hk,o0,o1,o2⟩⟩
def okS147 (x:S147):Prop:=(fun n_:Int=>(Lit.int .i64 n_).wf=true) x.f0∧(fun n_:Int=>(Lit.int .i64 n_).wf=true) x.f1∧(fun n_:Int=>(Lit.int .i64 n_).wf=true) x.f2∧(fun n_:Int=>(Lit.int .i64 n_).wf=true) x.f3∧(fun _:Bool=>True) x.f4
theorem op_k147:Za4 Tryz.prog k147 147 okS147:=
 ⟨by kernel_rfl,fun {H enc w base fuel cs x} h=>by
  obtain⟨xs,n,_,_,hl,hlen,hf⟩:=DataW.trod_struct Tryz.underlying147 h
  have hl':cs.length=5:=hl.trans (by kernel_rfl)
  have hlen':xs.length=5:=hlen
  obtain⟨y0,h0,o0⟩:=(Za4.int Tryz.underlying3 (by kernel_rfl)).fieldAt (hf 0 _ rfl) (by rw[Zl (by omega)];rfl)
  obtain⟨y1,h1,o1⟩:=(Za4.int Tryz.underlying3 (by kernel_rfl)).fieldAt (hf 1 _ rfl) (by rw[Zl (by omega)];rfl)
  obtain⟨y2,h2,o2⟩:=(Za4.int Tryz.underlying3 (by kernel_rfl)).fieldAt (hf 2 _ rfl) (by rw[Zl (by omega)];rfl)
  obtain⟨y3,h3,o3⟩:=(Za4.int Tryz.underlying3 (by kernel_rfl)).fieldAt (hf 3 _ rfl) (by rw[Zl (by omega)];rfl)
  obtain⟨y4,h4,o4⟩:=(Za4.bool Tryz.underlying4 (by kernel_rfl)).fieldAt (hf 4 _ rfl) (by rw[Zl (by omega)];rfl)
  have hk:k147.K w ⟨y0,y1,y2,y3,y4⟩ ((cs.drop 0).take k147.sz):=(Zct (off:=0) h0 (Zct (off:=1) h1 (Zct (off:=2) h2 (Zct (off:=3) h3 h4))))
  have hcs:(cs.drop 0).take k147.sz=cs:=by rw[List.drop_zero];exact List.take_of_length_le (by rw[hl'];exact Nat.le_refl _)
  rw[hcs] at hk
  exact⟨_,hk,o0,o1,o2,o3,o4⟩⟩
def okS47 (x:S47):Prop:=(fun l_:List (S143)=>l_.length≤maxLen∧∀x_∈l_,okS143 x_) x.f0∧(fun l_:List (S147)=>l_.length≤maxLen∧∀x_∈l_,okS147 x_) x.f1∧(fun n_:Int=>(Lit.int .i64 n_).wf=true) x.f2
theorem op_k47:Za4 Tryz.prog k47 47 okS47:=
 ⟨by kernel_rfl,fun {H enc w base fuel cs x} h=>by
  obtain⟨xs,n,_,_,hl,hlen,hf⟩:=DataW.trod_struct Tryz.underlying47 h
  have hl':cs.length=3:=hl.trans (by kernel_rfl)
  have hlen':xs.length=3:=hlen
  obtain⟨y0,h0,o0⟩:=(Za4.slice op_k143 Tryz.underlying44 (by kernel_rfl)).fieldAt (hf 0 _ rfl) (by rw[Zl (by omega)];rfl)
  obtain⟨y1,h1,o1⟩:=(Za4.slice op_k147 Tryz.underlying45 (by kernel_rfl)).fieldAt (hf 1 _ rfl) (by rw[Zl (by omega)];rfl)
  obtain⟨y2,h2,o2⟩:=(Za4.int Tryz.underlying3 (by kernel_rfl)).fieldAt (hf 2 _ rfl) (by rw[Zl (by omega)];rfl)
  have hk:k47.K w ⟨y0,y1,y2⟩ ((cs.drop 0).take k47.sz):=(Zct (off:=0) h0 (Zct (off:=1) h1 h2))
  have hcs:(cs.drop 0).take k47.sz=cs:=by rw[List.drop_zero];exact List.take_of_length_le (by rw[hl'];exact Nat.le_refl _)
  rw[hcs] at hk
  exact⟨_,hk,o0,o1,o2⟩⟩
def okS49 (x:S49):Prop:=(fun l_:List Int=>l_.length≤maxLen∧∀x_∈l_,(fun n_:Int=>(Lit.int .i64 n_).wf=true) x_) x.f0∧(fun l_:List Int=>l_.length≤maxLen∧∀x_∈l_,(fun n_:Int=>(Lit.int .i64 n_).wf=true) x_) x.f1
theorem op_k49:Za4 Tryz.prog k49 49 okS49:=
 ⟨by kernel_rfl,fun {H enc w base fuel cs x} h=>by
  obtain⟨xs,n,_,_,hl,hlen,hf⟩:=DataW.trod_struct Tryz.underlying49 h
  have hl':cs.length=2:=hl.trans (by kernel_rfl)
  have hlen':xs.length=2:=hlen
  obtain⟨y0,h0,o0⟩:=(Za4.slice (Za4.int Tryz.underlying3 (by kernel_rfl)) Tryz.underlying37 (by kernel_rfl)).fieldAt (hf 0 _ rfl) (by rw[Zl (by omega)];rfl)
  obtain⟨y1,h1,o1⟩:=(Za4.slice (Za4.int Tryz.underlying3 (by kernel_rfl)) Tryz.underlying37 (by kernel_rfl)).fieldAt (hf 1 _ rfl) (by rw[Zl (by omega)];rfl)
  have hk:k49.K w ⟨y0,y1⟩ ((cs.drop 0).take k49.sz):=(Zct (off:=0) h0 h1)
  have hcs:(cs.drop 0).take k49.sz=cs:=by rw[List.drop_zero];exact List.take_of_length_le (by rw[hl'];exact Nat.le_refl _)
  rw[hcs] at hk
  exact⟨_,hk,o0,o1⟩⟩
end Go.Proofs.YtoeimopgoaffcaaGreatDoor.Pr
namespace Go.Proofs.YtoeimopgoaffcaaGreatDoor.Ni
open Go.RowKit Go.Proofs.YtoeimopgoaffcaaGreatDoorW.PrintWords
theorem ZE {w W:World} (hb:Below w.heap.size w W) {a:Addr} {v:Value} (h:w.cell? a=some v):W.cell? a=some v:=(hb.cell (Zc w _ h)).trans h
theorem wrap_succ {i:Int} (h0:0≤i) (h:i<9223372036854775807):wrap64 (i+1)=i+1:=by
 unfold wrap64;omega
theorem ZaJ {i:Int} (h0 : -9223372036854775808≤i) (h:i≤9223372036854775807):wrap64 i=i:=by
 unfold wrap64;omega
theorem ZR {i n:Nat} (h:i<n) (hn:n≤9223372036854775807):wrap64 ((i:Int)+1)=((i+1:Nat):Int):=by
 unfold wrap64;omega
theorem wrap_pred {i:Nat} (h:0<i) (hn:i≤9223372036854775807):wrap64 ((i:Int) - 1)=((i - 1:Nat):Int):=by
 unfold wrap64;omega
theorem wf_i64 {n:Int} (h:(Lit.int .i64 n).wf=true) : -9223372036854775808≤n∧n≤9223372036854775807:=by
 simp[Lit.wf,IntKind.min,IntKind.max,IntKind.signed,IntKind.bits] at h
 omega
theorem Za0 (l:List Int) (i:Nat):rd l (i:Int)=l.getD i 0:=by unfold rd;rw[Int.toNat_natCast]
theorem Zav {α:Type} {l:List α} {i:Nat} (h:i<l.length) (d:α):l.drop i=l.getD i d :: l.drop (i+1):=by
 rw[List.drop_eq_getElem_cons h,List.getD_eq_getElem?_getD,Zl h];rfl
theorem Za9 {α:Type} {l:List α} {i:Nat} (h:i<l.length) (d:α):l.getD i d∈l:=by
 rw[List.getD_eq_getElem?_getD,Zl h];exact List.getElem_mem h
theorem getD_some {α:Type} {l:List α} {i:Nat} (h:i<l.length) (d:α):l[i]? = some (l.getD i d):=by
 rw[List.getD_eq_getElem?_getD,Zl h];rfl
theorem Zeo {α:Type} (ys:List α) (z d:α) (i:Nat) (h:i<ys.length) (x:α) (hx:x=ys.getD i d):(ys.take i ++ List.replicate (ys.length - i) z).set i x=ys.take (i+1) ++ List.replicate (ys.length - (i+1)) z:=by
 subst hx
 have e:ys.length - i=(ys.length - (i+1))+1:=by omega
 rw[e,List.replicate_succ,List.set_append_right _ _ (by simp;omega)]
 have e2:i - (ys.take i).length=0:=by simp;omega
 rw[e2,List.set_cons_zero,List.take_succ_eq_append_getElem h,List.append_assoc]
 congr 2
 simp[List.getD_eq_getElem?_getD,Zl h]
theorem ZaN (n:Nat) (Q:Nat→Nat→Prop) (K:Nat) (hend:∀k,K≤k→Q (k+1) n) (hstep:∀k i,K≤k→i<n→Q k (i+1)→Q (k+1) i):∀(i k:Nat),i≤n→K+(n - i)<k→Q k i:=by
 have key:∀(d i k:Nat),i≤n→n - i=d→K+d<k→Q k i:=by
  intro d
  induction d with
  | zero=>
   intro i k hi hd hk
   obtain⟨m,rfl⟩:∃m,k=m+1:=⟨k - 1,by omega⟩
   obtain rfl:i=n:=by omega
   exact hend m (by omega)
  | succ d ih=>
   intro i k hi hd hk
   obtain⟨m,rfl⟩:∃m,k=m+1:=⟨k - 1,by omega⟩
   exact hstep m i (by omega) (by omega) (ih (i+1) m (by omega) (by omega) (by omega))
 intro i k hi hk
 exact key (n - i) i k hi rfl hk
theorem set_mid (pre:List Int) (x y:Int) (post:List Int):(pre ++ x :: post).set pre.length y=pre ++ y :: post:=by
 rw[List.set_append_right _ _ (Nat.le_refl _),Nat.sub_self,List.set_cons_zero]
def ZaZ {α:Type} (p:α→Bool) (l:List α):Int:=match l.findIdx? p with|some i=>i|none=>-1
theorem ZbP {α:Type} (p:α→Bool) (l:List α) (k:Nat) (x:α) (hk:l[k]? = some x) (hx:p x=true) (hb:∀j y,j<k→l[j]? = some y→p y=false):ZaZ p l=(k:Int):=by
 have h:l.findIdx? p=some k:=by
  rw[List.findIdx?_eq_some_iff_getElem]
  obtain⟨hl,he⟩:=List.getElem?_eq_some_iff.1 hk
  refine⟨hl,by rw[he];exact hx,fun j hj=>?_⟩
  have:=hb j _ hj (Zl (by omega))
  simp[this]
 simp[ZaZ,h]
theorem Zbz {α:Type} (p:α→Bool) (l:List α) (hb:∀j y,j<l.length→l[j]? = some y→p y=false):ZaZ p l=-1:=by
 have h:l.findIdx? p=none:=by
  rw[List.findIdx?_eq_none_iff]
  intro x hx
  obtain⟨j,hj⟩:=List.getElem?_of_mem hx
  exact hb j x (List.getElem?_eq_some_iff.1 hj).1 hj
 simp[ZaZ,h]
theorem ZcS {α:Type} (p:α→Bool) (l:List α):decide (0≤ZaZ p l)=l.any p:=by
 unfold ZaZ
 cases h:l.findIdx? p with
 | some i=>
  rw[List.findIdx?_eq_some_iff_getElem] at h
  obtain⟨hl,hp,_⟩:=h
  have:l.any p=true:=List.any_eq_true.2 ⟨_,List.getElem_mem hl,hp⟩
  rw[this]
  exact Ze (Int.natCast_nonneg _)
 | none=>
  rw[List.findIdx?_eq_none_iff] at h
  have:l.any p=false:=by rw[List.any_eq_false];intro x hx;rw[h x hx];simp
  rw[this];rfl
theorem ZdE {α:Type} (p:α→Bool) (l:List α) : -1≤ZaZ p l∧ZaZ p l<l.length:=by
 unfold ZaZ
 cases h:l.findIdx? p with
 | some i=>
  rw[List.findIdx?_eq_some_iff_getElem] at h
  obtain⟨hl,_⟩:=h
  simp only;omega
 | none=>simp only;omega
def cnt0 (l:List Int):Int:=((l.filter (· == 0)).length:Int)
def Zbb (x:Int):Bool:=!(x == 0) && decide (-3≤x) && decide (x≤3)
def prp (x:Int):Int:=if x<0 then -x else x
def ZbI (p:Int):List Int→Bool
 | []=>true
 | x :: t=>Zbb x && decide (p<prp x) && ZbI (prp x) t
def labB (l:List Int):Bool:=ZbI 0 l
def ZbW (l:List Int):Bool:=decide (l.length=3) && l.all (fun n=>decide (-1≤n) && decide (n≤1))
theorem ZbD (x:Int):Zbb x=true↔x≠0∧-3≤x∧x≤3:=by
 simp[Zbb,and_assoc]
theorem ZcH {x:Int} (h:Zbb x=true):1≤prp x∧prp x≤3:=by
 have:=(ZbD x).1 h
 unfold prp;split <;> omega
def Zc6 (v:List Int) (a:Int):List Int→Int
 | []=>a
 | x :: t=>Zc6 v (min a (if x<0 then -(v.getD (prp x - 1).toNat 0) else v.getD (prp x - 1).toNat 0)) t
def stB (l v:List Int):Int:=Zc6 v 1 l
def isNameB (s:ByteArray):Bool:=decide (1≤s.size) && decide (s.size≤8) && (List.range s.size).all fun i=>let c:=bt s i;(decide (97≤c) && decide (c≤122)) || (decide (0<i) && decide (48≤c) && decide (c≤57))
end Go.Proofs.YtoeimopgoaffcaaGreatDoor.Ni
namespace Go.Proofs.YtoeimopgoaffcaaGreatDoor.Pr
open Go.RowKit Go.Proofs.YtoeimopgoaffcaaGreatDoorW.PrintWords Go.Proofs.YtoeimopgoaffcaaGreatDoorW.PrintLast Go.Proofs.YtoeimopgoaffcaaGreatDoorW.PrintMore
attribute [local go_sem] Z2 Z0 Zac Zab ZU ZT Z1 ZZ
set_option linter.unusedVariables false
set_option linter.unusedSimpArgs false
def Zam.l0:Nat→List Int→List Int→Int→Option (List Int)
 | 0,_,_,_=>none
 | k+1,x0,x3,x4=>if x4<(x0.length:Int) then(if 0≤x4 then(if x4<(x3.length:Int) then(Zam.l0 k x0 (x3.set (x4:Int).toNat (rd x0 x4)) (wrap64 (x4+1))) else(none)) else(none)) else(some x3)
def Zam.f (k:Nat) (l0:List Int):Option (List Int):=if 0≤(l0.length:Int) then(if ((l0.length:Int):Int).toNat≤35184372088832 then(Zam.l0 k l0 (List.replicate ((l0.length:Int):Int).toNat 0) 0) else(none)) else(none)
set_option maxHeartbeats 8000000 in
set_option maxRecDepth 100000 in
theorem Zam.calls (k:Nat) (A0:Option Addr) (c0:Nat) (l0:List Int) (r:List Int) (w:World) (hr0:Kd.C (Kd.int .i64) w A0 l0.length l0) (hc0:l0.length≤c0) (h:Zam.f k l0=some r) :
  Calls Tryz.prog 102 #[.slice A0 l0.length c0] w fun e w'=>∃v0_:Value,e=.returned (v0_)∧Kd.R (Kd.int .i64) 3 w' w.heap.size (fun _=>True) v0_ r∧Below w.heap.size w w':=by
 have HR0:=Za hr0;have HC0:=Za hc0;clear hr0 hc0
 have HB:=Za (Below.refl w.heap.size w)
 have H:(if 0≤(l0.length:Int) then(if ((l0.length:Int):Int).toNat≤35184372088832 then(Zam.l0 k l0 (List.replicate ((l0.length:Int):Int).toNat 0) 0) else(none)) else(none))=some r:=h
 clear h
 by_cases c2:0≤(l0.length:Int)
 ·rw[if_pos c2] at H
  have c2b0:=eq_true c2
  have c2b1:decide (0≤(l0.length:Int))=true:=Ze c2
  clear c2
  by_cases c3:((l0.length:Int):Int).toNat≤35184372088832
  ·rw[if_pos c3] at H
   have c3b0:=eq_true c3
   have c3b1:decide (((l0.length:Int):Int).toNat≤35184372088832)=true:=Ze c3
   clear c3
   obtain⟨y102001,hy102001⟩:∃y_:List Int,y_=(List.replicate ((l0.length:Int):Int).toNat 0):=⟨_,rfl⟩
   replace H:(Zam.l0 k l0 y102001 0)=some r:=by first|(rw[hy102001];with_reducible exact H)|(have H2_:=(Zi _ _).symm.trans H;rw[hy102001];with_reducible exact H2_)|(have H2_:=(Zi _ _).symm.trans H;with_reducible exact H2_)|with_reducible exact H|(rw[hy102001];exact H)|exact H
   have Ny102001:=Za hy102001;clear hy102001
   have H':=Za H
   clear H
   go_enter Tryz.func102,Tryz.ntmps102
   go_wp2_with (first|((with_reducible refine ZI (N:=7) rfl ?_);refine Kd.R_make (Kd.int .i64) _ 3 rfl (N:=7) rfl 37 _ _ rfl (l0.length:Int) rfl rfl Tryz.underlying37 (.int .i64 0) 8 info3 rfl (by decide) (by omega) 0 (ok:=fun _=>True) (okp:=fun _=>True) rfl (fun _ hk=>hk) trivial (Zd (by first|(with_reducible assumption)|assumption)) (Nat.le_trans (Nat.mul_le_mul_right _ (Zd (by first|(with_reducible assumption)|assumption):(l0.length:Int).toNat≤35184372088832)) (by omega)) (Below.refl _ _) (Nat.le_refl _) ?_;intro v102002 w4 ho5 hb hg_ hnew_;clear hg_ hnew_;(first|rw[← Ny102001.out] at ho5|(simp only[Int.reduceToNat] at ho5;rw[← Ny102001.out] at ho5));have HO102003:=Za (Kd.R_lower ho5 (ZC (by repeat(first|(with_reducible first|exact HB.out|apply Zn|apply Zm|apply Zo)|exact HB.out))));replace HB:=Za (Zt (by repeat(first|(with_reducible first|exact HB.out|apply Zn|apply Zm|apply Zo)|exact HB.out)) hb);clear hb ho5))
   go_loopg [4] k (fun kq v4 w'=>∃(x3_1:List Int) (x4_1:Int),v4=.int .i64 x4_1∧Aside0 (Zam.l0 kq l0 x3_1 x4_1=some r)∧Aside0 (kq≤k)∧Aside0 (Kd.R (Kd.int .i64) 3 w' w.heap.size (fun _=>True) v102002 x3_1)∧Aside0 (Below w.heap.size w w'))
   case atStart=>exact⟨(y102001),(0),(by first|rfl|(simp;done)|(simp[*];done)),H',⟨Nat.le_refl _⟩,⟨by(with_reducible repeat(first|apply Kd.R_alloc|apply Kd.R_drewN|apply Kd.R_drew));exact HO102003.out⟩,⟨by repeat(first|(with_reducible first|exact HB.out|apply Zn|apply Zm|apply Zo)|exact HB.out)⟩⟩
   case round=>
    clear H'
    try clear c1
    try clear c2
    try clear c2b0
    try clear c2b1
    try clear p2
    try clear c3
    try clear c3b0
    try clear c3b1
    obtain⟨x3_1,x4_1,rfl,HA,HK1,HO_3,HB⟩:=hrel
    cases gk with
    | zero=>exact absurd HA.out (by simp[Zam.l0])
    | succ k1=>
     have H:=HA.out
     clear HA
     simp only[Zam.l0] at H
     by_cases c6:x4_1<(l0.length:Int)
     ·rw[if_pos c6] at H
      have c6b0:decide (x4_1<(l0.length:Int))=true:=Ze c6
      clear c6
      by_cases c7:0≤x4_1
      ·rw[if_pos c7] at H
       have c7b0:decide (0≤x4_1)=true:=Ze c7
       clear c7
       by_cases c8:x4_1<(x3_1.length:Int)
       ·rw[if_pos c8] at H
        have c8b0:decide (x4_1<(x3_1.length:Int))=true:=Ze c8
        clear c8
        obtain⟨y102005,hy102005⟩:∃y_:List Int,y_=(x3_1.set (x4_1:Int).toNat (rd l0 x4_1)):=⟨_,rfl⟩
        replace H:(Zam.l0 k1 l0 y102005 (wrap64 (x4_1+1)))=some r:=by first|(rw[hy102005];with_reducible exact H)|(have H2_:=(Zi _ _).symm.trans H;rw[hy102005];with_reducible exact H2_)|(have H2_:=(Zi _ _).symm.trans H;with_reducible exact H2_)|with_reducible exact H|(rw[hy102005];exact H)|exact H
        have Ny102005:=Za hy102005;clear hy102005
        have H':=Za H
        clear H
        have p102004:0≤(x4_1:Int):=Zd (by first|(with_reducible assumption)|assumption)
        have q102004:x4_1<(l0.length:Int):=Zd (by first|(with_reducible assumption)|assumption)
        obtain⟨ad102004,e102004,hx102004_0⟩:=Kd.at_int HR0.out x4_1 p102004 q102004
        cases e102004
        replace hx102004_0:=(HB.out.cell (Zc w _ hx102004_0)).trans hx102004_0
        replace p102004:=eq_true p102004
        replace q102004:=eq_true q102004
        have p9:0≤(x4_1:Int):=Zd (by first|(with_reducible assumption)|assumption)
        have q9:(x4_1:Int)<((x3_1.length:Int):Int):=Zd (by first|(with_reducible assumption)|assumption)
        obtain⟨go9,co9,eo9,gb9,gl9,cl9,HG9⟩:=Kd.R_form HO_3.out (by omega)
        (first|cases eo9|(injection eo9 with ea_ en_ ec_;(first|subst ea_|(injection ea_ with ea_;subst ea_));subst ec_;clear en_))
        have GB9:=Za gb9;have GG9:=Za HG9;clear gb9 gl9 HG9
        obtain⟨hx9_0,hf9_0⟩:=Kd.R_celln 0 HO_3.out (x4_1:Int) p9 q9
        replace p9:=eq_true p9
        replace q9:=eq_true q9
        have HP10:=Kd.R_putg HO_3.out (x4_1:Int) (rd l0 x4_1)
        go_wp2_with (first|((with_reducible refine ZbM (t:=3) (p:=20) rfl ?_);refine Zbx (t:=3) (p:=20) (v:=?vo_w11) (w1:=(wr.setCell ⟨go9,(x4_1:Int).toNat,none⟩ (.int .i64 (rd l0 x4_1)))) ?hg ?ho ?hn ?hr ?_;(case ho=>rfl);(case hg=>rfl);(case hn=>rfl);(case hr=>first|(go_simp;done)|(go_simp;rfl));intro w11 hw;have hg:wr.grownBy w11 (some go9):=(by rw[hw];exact HP10.2);have hp_:Kd.R (Kd.int .i64) 3 w11 w.heap.size (fun _=>True) (.slice (some ⟨go9,0,none⟩) x3_1.length co9) y102005:=(by rw[hw,Ny102005.out];exact HP10.1);clear HP10;replace HO_3:=Za (hp_);replace HB:=Za ((by rw[hw];exact Zq (HB.out) GB9.out:Below w.heap.size w w11));clear hg hw hp_))
        go_roundg k1
        case measure=>have:=HK1.out;omega
        case rel=>exact⟨(y102005),(wrap64 (x4_1+1)),(by first|rfl|(simp;done)|(simp[*];done)),H',⟨by have:=HK1.out;omega⟩,⟨by(with_reducible repeat(first|apply Kd.R_alloc|apply Kd.R_drewN|apply Kd.R_drew));exact HO_3.out⟩,⟨by repeat(first|(with_reducible first|exact HB.out|apply Zn|apply Zm|apply Zo)|exact HB.out)⟩⟩
       ·rw[if_neg c8] at H
        exact absurd H (by simp)
      ·rw[if_neg c7] at H
       exact absurd H (by simp)
     ·rw[if_neg c6] at H
      have c6b0:decide (x4_1<(l0.length:Int))=false:=Zf c6
      clear c6
      obtain rfl:=Zg H
      go_wp2
      go_ret
      exact⟨_,by first|rfl|(simp[ZA,Zz] <;> rfl)|(simp[*,ZA,Zz] <;> rfl),by(with_reducible repeat(first|apply Kd.R_alloc|apply Kd.R_drewN|apply Kd.R_drew));exact HO_3.out,by repeat(first|(with_reducible first|exact HB.out|apply Zn|apply Zm|apply Zo)|exact HB.out)⟩
  ·rw[if_neg c3] at H
   exact absurd H (by simp)
 ·rw[if_neg c2] at H
  exact absurd H (by simp)
def ZaL.l0:Nat→List Int→List Int→Int→Option (Bool)
 | 0,_,_,_=>none
 | k+1,x0,x1,x5=>if x5<(x0.length:Int) then(if 0≤x5 then(if x5<(x1.length:Int) then(if (rd x0 x5)=(rd x1 x5) then(ZaL.l0 k x0 x1 (wrap64 (x5+1))) else(some false)) else(none)) else(none)) else(some true)
def ZaL.f (k:Nat) (l0:List Int) (l1:List Int):Option (Bool):=if (l0.length:Int)=(l1.length:Int) then(ZaL.l0 k l0 l1 0) else(some false)
set_option maxHeartbeats 8000000 in
set_option maxRecDepth 100000 in
theorem ZaL.calls (k:Nat) (A0:Option Addr) (c0:Nat) (l0:List Int) (A1:Option Addr) (c1:Nat) (l1:List Int) (r:Bool) (w:World) (hr0:Kd.C (Kd.int .i64) w A0 l0.length l0) (hc0:l0.length≤c0) (hr1:Kd.C (Kd.int .i64) w A1 l1.length l1) (hc1:l1.length≤c1) (h:ZaL.f k l0 l1=some r) :
  Calls Tryz.prog 107 #[.slice A0 l0.length c0,.slice A1 l1.length c1] w fun e w'=>e=.returned (.bool r)∧ZF w w':=by
 have HR0:=Za hr0;have HC0:=Za hc0;clear hr0 hc0;have HR1:=Za hr1;have HC1:=Za hc1;clear hr1 hc1
 have H:(if (l0.length:Int)=(l1.length:Int) then(ZaL.l0 k l0 l1 0) else(some false))=some r:=h
 clear h
 by_cases c3:(l0.length:Int)=(l1.length:Int)
 ·rw[if_pos c3] at H
  have c3b0:((l0.length:Int) == (l1.length:Int))=true:=beq_iff_eq.mpr c3
  clear c3
  have H':=Za H
  clear H
  go_enter Tryz.func107,Tryz.ntmps107
  go_wp2
  repeat(go_quiet (fail);try go_wp2)
  go_loopg [5] k (fun kq v5 w'=>∃(x5_1:Int),v5=.int .i64 x5_1∧Aside0 (ZaL.l0 kq l0 l1 x5_1=some r)∧Aside0 (kq≤k)∧ZF w w')
  case atStart=>exact⟨(0),(by first|rfl|(simp;done)|(simp[*];done)),H',⟨Nat.le_refl _⟩,by repeat(first|exact ZF.refl _|apply ZF.step)⟩
  case round=>
   clear H'
   try clear c1
   try clear p2
   try clear c3
   try clear c3b0
   try clear c3b1
   try clear c3b2
   obtain⟨x5_1,rfl,HA,HK1,⟨m1,rfl⟩⟩:=hrel
   cases gk with
   | zero=>exact absurd HA.out (by simp[ZaL.l0])
   | succ k1=>
    have H:=HA.out
    clear HA
    simp only[ZaL.l0] at H
    by_cases c4:x5_1<(l0.length:Int)
    ·rw[if_pos c4] at H
     have c4b0:decide (x5_1<(l0.length:Int))=true:=Ze c4
     clear c4
     by_cases c5:0≤x5_1
     ·rw[if_pos c5] at H
      have c5b0:decide (0≤x5_1)=true:=Ze c5
      clear c5
      by_cases c6:x5_1<(l1.length:Int)
      ·rw[if_pos c6] at H
       have c6b0:decide (x5_1<(l1.length:Int))=true:=Ze c6
       clear c6
       by_cases c7:(rd l0 x5_1)=(rd l1 x5_1)
       ·rw[if_pos c7] at H
        have c7b0:((rd l0 x5_1) == (rd l1 x5_1))=true:=beq_iff_eq.mpr c7
        clear c7
        have H':=Za H
        clear H
        have p107001:0≤(x5_1:Int):=Zd (by first|(with_reducible assumption)|assumption)
        have q107001:x5_1<(l0.length:Int):=Zd (by first|(with_reducible assumption)|assumption)
        obtain⟨ad107001,e107001,hx107001_0⟩:=Kd.at_int HR0.out x5_1 p107001 q107001
        cases e107001
        replace p107001:=eq_true p107001
        replace q107001:=eq_true q107001
        have p107002:0≤(x5_1:Int):=Zd (by first|(with_reducible assumption)|assumption)
        have q107002:x5_1<(l1.length:Int):=Zd (by first|(with_reducible assumption)|assumption)
        obtain⟨ad107002,e107002,hx107002_0⟩:=Kd.at_int HR1.out x5_1 p107002 q107002
        cases e107002
        replace p107002:=eq_true p107002
        replace q107002:=eq_true q107002
        go_wp2
        repeat(go_quiet (fail);try go_wp2)
        go_roundg k1
        case measure=>have:=HK1.out;omega
        case rel=>exact⟨(wrap64 (x5_1+1)),(by first|rfl|(simp;done)|(simp[*];done)),H',⟨by have:=HK1.out;omega⟩,by repeat(first|exact ZF.refl _|apply ZF.step)⟩
       ·rw[if_neg c7] at H
        have c7b0:((rd l0 x5_1) == (rd l1 x5_1))=false:=beq_eq_false_iff_ne.mpr c7
        obtain rfl:=Zg H
        have p107001:0≤(x5_1:Int):=Zd (by first|(with_reducible assumption)|assumption)
        have q107001:x5_1<(l0.length:Int):=Zd (by first|(with_reducible assumption)|assumption)
        obtain⟨ad107001,e107001,hx107001_0⟩:=Kd.at_int HR0.out x5_1 p107001 q107001
        cases e107001
        replace p107001:=eq_true p107001
        replace q107001:=eq_true q107001
        have p107002:0≤(x5_1:Int):=Zd (by first|(with_reducible assumption)|assumption)
        have q107002:x5_1<(l1.length:Int):=Zd (by first|(with_reducible assumption)|assumption)
        obtain⟨ad107002,e107002,hx107002_0⟩:=Kd.at_int HR1.out x5_1 p107002 q107002
        cases e107002
        replace p107002:=eq_true p107002
        replace q107002:=eq_true q107002
        go_wp2
        repeat(go_quiet (fail);try go_wp2)
        go_ret
        exact⟨by first|rfl|(simp;done)|(simp[*];done),by repeat(first|exact ZF.refl _|apply ZF.step)⟩
      ·rw[if_neg c6] at H
       exact absurd H (by simp)
     ·rw[if_neg c5] at H
      exact absurd H (by simp)
    ·rw[if_neg c4] at H
     have c4b0:decide (x5_1<(l0.length:Int))=false:=Zf c4
     clear c4
     obtain rfl:=Zg H
     go_wp2
     repeat(go_quiet (fail);try go_wp2)
     go_ret
     exact⟨by first|rfl|(simp;done)|(simp[*];done),by repeat(first|exact ZF.refl _|apply ZF.step)⟩
 ·rw[if_neg c3] at H
  have c3b0:((l0.length:Int) == (l1.length:Int))=false:=beq_eq_false_iff_ne.mpr c3
  obtain rfl:=Zg H
  go_enter Tryz.func107,Tryz.ntmps107
  go_wp2
  repeat(go_quiet (fail);try go_wp2)
  go_ret
  exact⟨by first|rfl|(simp;done)|(simp[*];done),by repeat(first|exact ZF.refl _|apply ZF.step)⟩
end Go.Proofs.YtoeimopgoaffcaaGreatDoor.Pr
namespace Go.Proofs.YtoeimopgoaffcaaGreatDoor.Pr
open Go.RowKit Go.Proofs.YtoeimopgoaffcaaGreatDoorW.PrintWords Go.Proofs.YtoeimopgoaffcaaGreatDoor.Ni
theorem Zek (l:List Int) (hl:l.length≤35184372088832) (k:Nat) (hk:2 ^ 64≤k):Zam.f k l=some l:=by
 have key:=ZaN l.length (fun k i=>Zam.l0 k l (l.take i ++ List.replicate (l.length - i) 0) (i:Int)=some l) 0
  (fun k _=>by simp[Zam.l0])
  (fun k i _ hi ih=>by
   simp only[Zam.l0]
   rw[if_pos (by omega),if_pos (by omega),if_pos (by simp;omega),ZR hi (by omega),Int.toNat_natCast,Zeo l 0 0 i hi _ (Za0 l i)]
   exact ih) 0 k (Nat.zero_le _) (by omega)
 unfold Zam.f
 rw[if_pos (by omega),if_pos (by omega),Int.toNat_natCast]
 simpa using key
theorem eqIntS_f (l m:List Int) (hl:l.length≤9223372036854775807) (k:Nat) (hk:2 ^ 64≤k):ZaL.f k l m=some (decide (l=m)):=by
 unfold ZaL.f
 by_cases e:l.length=m.length
 ·rw[if_pos (by omega)]
  have key:=ZaN l.length (fun k i=>ZaL.l0 k l m (i:Int)=some (decide (l.drop i=m.drop i))) 0
   (fun k _=>by
    simp only[ZaL.l0]
    rw[if_neg (by omega),List.drop_of_length_le (Nat.le_refl _),List.drop_of_length_le (by omega)]
    simp)
   (fun k i _ hi ih=>by
    simp only[ZaL.l0]
    rw[if_pos (by omega),if_pos (by omega),if_pos (by omega),Za0,Za0,ZR hi (by omega),Zav hi 0,Zav (show i<m.length by omega) 0]
    by_cases h:l.getD i 0=m.getD i 0
    ·rw[if_pos h,ih,h];simp
    ·rw[if_neg h]
     simp only[List.cons.injEq,h,false_and,decide_false]) 0 k (Nat.zero_le _) (by omega)
  simpa using key
 ·rw[if_neg (by omega)]
  have:l≠m:=fun h=>e (by rw[h])
  simp[this]
theorem Zdo (l:List Int) (hl:l.length≤9223372036854775807) (k:Nat) (hk:2 ^ 64≤k):ZaL.f k l l=some true:=by
 rw[eqIntS_f l l hl k hk];simp
end Go.Proofs.YtoeimopgoaffcaaGreatDoor.Pr
namespace Go.Proofs.YtoeimopgoaffcaaGreatDoor.Pr
open Go.RowKit Go.Proofs.YtoeimopgoaffcaaGreatDoorW.PrintWords Go.Proofs.YtoeimopgoaffcaaGreatDoorW.PrintLast Go.Proofs.YtoeimopgoaffcaaGreatDoorW.PrintMore
attribute [local go_sem] Z2 Z0 Zac Zab ZU ZT Z1 ZZ
set_option linter.unusedVariables false
set_option linter.unusedSimpArgs false
def Zai.l0:Nat→List Int→Int→Int→Option (Int×List Int)
 | 0,_,_,_=>none
 | k+1,x0,x1,x5=>if x5<(x0.length:Int) then(if 0≤x5 then(Zai.l0 k (x0.set (x5:Int).toNat x1) (wrap64 (x1+1)) (wrap64 (x5+1))) else(none)) else(some (x1,x0))
def Zai.f (k:Nat) (l0:List Int) (a1:Int):Option (Int×List Int):=Zai.l0 k l0 a1 0
set_option maxHeartbeats 8000000 in
set_option maxRecDepth 100000 in
theorem Zai.calls (k:Nat) (P0_:Nat→Prop) (u9000_:Value) (l0:List Int) (a1:Int) (r1:Int) (r2:List Int) (w0 w:World) (hB:Below w0.heap.size w0 w) (ho0:Kd.R (Kd.int .i64) 3 w w0.heap.size P0_ u9000_ l0) (h:Zai.f k l0 a1=some (r1,r2)) :
  Calls Tryz.prog 108 #[u9000_,.int .i64 a1] w fun e w'=>e=.returned (.int .i64 r1)∧Kd.R (Kd.int .i64) 3 w' w0.heap.size (fun k_=>(P0_ k_∨w.heap.size≤k_)) u9000_ r2∧Below w0.heap.size w0 w'∧Kept w w' (fun k_=>P0_ k_):=by
 have HO0:=Za (show Kd.R (Kd.int .i64) 3 w w0.heap.size (fun k_=>(P0_ k_∨w.heap.size≤k_)) u9000_ l0 from Kd.R_mono ho0 (fun k_ hk=>(.inl hk)))
 have HK:=Za (Kept.refl w (fun k_=>P0_ k_))
 have HW0:=Za hB.size
 have HB:=Za hB;clear hB
 have H:(Zai.l0 k l0 a1 0)=some (r1,r2):=h
 clear h
 have H':=Za H
 clear H
 go_enter Tryz.func108,Tryz.ntmps108
 go_wp2
 go_loopg [1,5] k (fun kq v1 v5 w'=>∃(x0_1:List Int) (x1_1:Int) (x5_1:Int),v1=.int .i64 x1_1∧v5=.int .i64 x5_1∧Aside0 (Zai.l0 kq x0_1 x1_1 x5_1=some (r1,r2))∧Aside0 (kq≤k)∧Aside0 (Kd.R (Kd.int .i64) 3 w' w0.heap.size (fun k_=>(P0_ k_∨w.heap.size≤k_)) u9000_ x0_1)∧Aside0 (Kept w w' (fun k_=>P0_ k_))∧Aside0 (Below w0.heap.size w0 w'))
 case atStart=>exact⟨(l0),(a1),(0),(by first|rfl|(simp;done)|(simp[*];done)),(by first|rfl|(simp;done)|(simp[*];done)),H',⟨Nat.le_refl _⟩,⟨by(with_reducible repeat(first|apply Kd.R_alloc|apply Kd.R_drewN|apply Kd.R_drew));exact HO0.out⟩,⟨by repeat(first|(with_reducible first|exact HK.out|apply Kept.alloc|apply Kept.drewN|apply Kept.drew)|exact HK.out)⟩,⟨by repeat(first|(with_reducible first|exact HB.out|apply Zn|apply Zm|apply Zo)|exact HB.out)⟩⟩
 case round=>
  clear H'
  try clear c1
  try clear p2
  obtain⟨x0_1,x1_1,x5_1,rfl,rfl,HA,HK1,HO_0,HK,HB⟩:=hrel
  cases gk with
  | zero=>exact absurd HA.out (by simp[Zai.l0])
  | succ k1=>
   have H:=HA.out
   clear HA
   simp only[Zai.l0] at H
   by_cases c3:x5_1<(x0_1.length:Int)
   ·rw[if_pos c3] at H
    have c3b0:decide (x5_1<(x0_1.length:Int))=true:=Ze c3
    clear c3
    by_cases c4:0≤x5_1
    ·rw[if_pos c4] at H
     have c4b0:decide (0≤x5_1)=true:=Ze c4
     clear c4
     obtain⟨y108001,hy108001⟩:∃y_:List Int,y_=(x0_1.set (x5_1:Int).toNat x1_1):=⟨_,rfl⟩
     replace H:(Zai.l0 k1 y108001 (wrap64 (x1_1+1)) (wrap64 (x5_1+1)))=some (r1,r2):=by first|(rw[hy108001];with_reducible exact H)|(have H2_:=(Zi _ _).symm.trans H;rw[hy108001];with_reducible exact H2_)|(have H2_:=(Zi _ _).symm.trans H;with_reducible exact H2_)|with_reducible exact H|(rw[hy108001];exact H)|exact H
     have Ny108001:=Za hy108001;clear hy108001
     have H':=Za H
     clear H
     obtain⟨Ao6,co6,eo6⟩:=Kd.R_slice HO_0.out
     subst eo6
     have p5:0≤(x5_1:Int):=Zd (by first|(with_reducible assumption)|assumption)
     have q5:(x5_1:Int)<((x0_1.length:Int):Int):=Zd (by first|(with_reducible assumption)|assumption)
     obtain⟨go5,co5,eo5,gb5,gl5,cl5,HG5⟩:=Kd.R_form HO_0.out (by omega)
     (first|cases eo5|(injection eo5 with ea_ en_ ec_;(first|subst ea_|(injection ea_ with ea_;subst ea_));subst ec_;clear en_))
     have GB5:=Za gb5;have GG5:=Za HG5;clear gb5 gl5 HG5
     have HMgo5:=Za (show(P0_ go5∨w.heap.size≤go5) from(HO_0.out.1 _ rfl))
     obtain⟨hx5_0,hf5_0⟩:=Kd.R_celln 0 HO_0.out (x5_1:Int) p5 q5
     replace p5:=eq_true p5
     replace q5:=eq_true q5
     have HP7:=Kd.R_putg HO_0.out (x5_1:Int) x1_1
     go_wp2_with (first|((with_reducible refine ZbM (t:=3) (p:=15) rfl ?_);refine Zbx (t:=3) (p:=15) (v:=?vo_w8) (w1:=(wr.setCell ⟨go5,(x5_1:Int).toNat,none⟩ (.int .i64 x1_1))) ?hg ?ho ?hn ?hr ?_;(case ho=>rfl);(case hg=>rfl);(case hn=>rfl);(case hr=>first|(go_simp;done)|(go_simp;rfl));intro w8 hw;have hg:wr.grownBy w8 (some go5):=(by rw[hw];exact HP7.2);have hp_:Kd.R (Kd.int .i64) 3 w8 w0.heap.size (fun k_=>(P0_ k_∨w.heap.size≤k_)) (.slice (some ⟨go5,0,none⟩) x0_1.length co6) y108001:=(by rw[hw,Ny108001.out];exact HP7.1);clear HP7;replace HB:=Za ((by rw[hw];exact Zq (HB.out) GB5.out:Below w0.heap.size w0 w8));replace HK:=Za (Kept.of_grown (S:=(fun k_=>P0_ k_)) hg (by repeat(first|(with_reducible first|exact HK.out|apply Kept.alloc|apply Kept.drewN|apply Kept.drew)|exact HK.out)) (fun k_ e_=>(HO_0.out.1 k_ e_)));replace HO_0:=Za (hp_);clear hg hw hp_))
     go_roundg k1
     case measure=>have:=HK1.out;omega
     case rel=>exact⟨(y108001),(wrap64 (x1_1+1)),(wrap64 (x5_1+1)),(by first|rfl|(simp;done)|(simp[*];done)),(by first|rfl|(simp;done)|(simp[*];done)),H',⟨by have:=HK1.out;omega⟩,⟨by(with_reducible repeat(first|apply Kd.R_alloc|apply Kd.R_drewN|apply Kd.R_drew));exact HO_0.out⟩,⟨by repeat(first|(with_reducible first|exact HK.out|apply Kept.alloc|apply Kept.drewN|apply Kept.drew)|exact HK.out)⟩,⟨by repeat(first|(with_reducible first|exact HB.out|apply Zn|apply Zm|apply Zo)|exact HB.out)⟩⟩
    ·rw[if_neg c4] at H
     exact absurd H (by simp)
   ·rw[if_neg c3] at H
    have c3b0:decide (x5_1<(x0_1.length:Int))=false:=Zf c3
    clear c3
    simp only[Option.some.injEq,Prod.mk.injEq] at H
    obtain⟨rfl,rfl⟩:=H
    obtain⟨Ao9,co9,eo9⟩:=Kd.R_slice HO_0.out
    subst eo9
    go_wp2
    go_ret
    exact⟨by first|rfl|(simp[ZA,Zz] <;> rfl)|(simp[*,ZA,Zz] <;> rfl),by(with_reducible repeat(first|apply Kd.R_alloc|apply Kd.R_drewN|apply Kd.R_drew));exact HO_0.out,by repeat(first|(with_reducible first|exact HB.out|apply Zn|apply Zm|apply Zo)|exact HB.out),by repeat(first|(with_reducible first|exact HK.out|apply Kept.alloc|apply Kept.drewN|apply Kept.drew)|exact HK.out)⟩
def ZaH.l0:Nat→Int→ByteArray→Option (ByteArray)
 | 0,_,_=>none
 | k+1,x0,x3=>if x0 > 0 then((some (([(wrap64 (48+(Int.tmod x0 10))) % 256]:List Int):List Int)).bind fun y119001=>(if (strOfNums y119001).size+x3.size≤9223372036854775807 then(ZaH.l0 k (wrap64 (Int.tdiv x0 10)) ((strOfNums y119001) ++ x3)) else(none))) else(if 1+x3.size≤9223372036854775807 then(some ((⟨#[109]⟩:ByteArray) ++ x3)) else(none))
def ZaH.f (k:Nat) (a0:Int):Option (ByteArray):=if a0≤0 then(some (⟨#[109,48]⟩:ByteArray)) else(ZaH.l0 k a0 (⟨#[]⟩:ByteArray))
set_option maxHeartbeats 8000000 in
set_option maxRecDepth 100000 in
theorem ZaH.calls (k:Nat) (a0:Int) (r:ByteArray) (w:World) (h:ZaH.f k a0=some r) :
  Calls Tryz.prog 119 #[.int .i64 a0] w fun e w'=>e=.returned (.string r)∧Below w.heap.size w w':=by
 have HB:=Za (Below.refl w.heap.size w)
 have H:(if a0≤0 then(some (⟨#[109,48]⟩:ByteArray)) else(ZaH.l0 k a0 (⟨#[]⟩:ByteArray)))=some r:=h
 clear h
 by_cases c2:a0≤0
 ·rw[if_pos c2] at H
  have c2b0:decide (a0≤0)=true:=Ze c2
  clear c2
  obtain rfl:=Zg H
  go_enter Tryz.func119,Tryz.ntmps119
  go_wp2
  go_ret
  exact⟨by first|rfl|(simp[ZA,Zz] <;> rfl)|(simp[*,ZA,Zz] <;> rfl),by repeat(first|(with_reducible first|exact HB.out|apply Zn|apply Zm|apply Zo)|exact HB.out)⟩
 ·rw[if_neg c2] at H
  have c2b0:decide (a0≤0)=false:=Zf c2
  clear c2
  have H':=Za H
  clear H
  go_enter Tryz.func119,Tryz.ntmps119
  go_wp2
  go_loopg [0,3] k (fun kq v0 v3 w'=>∃(x0_1:Int) (x3_1:ByteArray),v0=.int .i64 x0_1∧v3=.string x3_1∧Aside0 (ZaH.l0 kq x0_1 x3_1=some r)∧Aside0 (kq≤k)∧Aside0 (Below w.heap.size w w'))
  case atStart=>exact⟨(a0),((⟨#[]⟩:ByteArray)),(by first|rfl|(simp;done)|(simp[*];done)),(by first|rfl|(simp;done)|(simp[*];done)),H',⟨Nat.le_refl _⟩,⟨by repeat(first|(with_reducible first|exact HB.out|apply Zn|apply Zm|apply Zo)|exact HB.out)⟩⟩
  case round=>
   clear H'
   try clear c1
   try clear c2
   try clear c2b0
   try clear p2
   obtain⟨x0_1,x3_1,rfl,rfl,HA,HK1,HB⟩:=hrel
   cases gk with
   | zero=>exact absurd HA.out (by simp[ZaH.l0])
   | succ k1=>
    have H:=HA.out
    clear HA
    simp only[ZaH.l0] at H
    by_cases c3:x0_1 > 0
    ·rw[if_pos c3] at H
     have c3b0:decide (0<x0_1)=true:=Ze c3
     clear c3
     obtain⟨y119001,hy119001⟩:∃y_:List Int,y_=(([(wrap64 (48+(Int.tmod x0_1 10))) % 256]:List Int)):=⟨_,rfl⟩
     replace H:(if (strOfNums y119001).size+x3_1.size≤9223372036854775807 then(ZaH.l0 k1 (wrap64 (Int.tdiv x0_1 10)) ((strOfNums y119001) ++ x3_1)) else(none))=some r:=by first|(rw[hy119001];with_reducible exact H)|(have H2_:=(Zi _ _).symm.trans H;rw[hy119001];with_reducible exact H2_)|(have H2_:=(Zi _ _).symm.trans H;with_reducible exact H2_)|with_reducible exact H|(rw[hy119001];exact H)|exact H
     have Ny119001:=Za hy119001;clear hy119001
     by_cases c4:(strOfNums y119001).size+x3_1.size≤9223372036854775807
     ·rw[if_pos c4] at H
      have c4b0:=eq_true c4
      try            have H':=Za H
      clear H
      go_wp2_with (first|((with_reducible refine ZI (N:=12) rfl ?_);refine Kd.R_lit (Kd.int .u8) _ 5 ?hg (N:=12) ?hd (xs:=([(wrap64 (48+(Int.tmod x0_1 10))) % 256]:List Int)) (inner:=[.int .u8 ((wrap64 (48+(Int.tmod x0_1 10))) % 256)]) (ok:=fun _=>True) (okp:=fun _=>True) ?hr ?hp (fun _ hk=>hk) trivial (Below.refl _ _) (Nat.le_refl _) (by simp) ?_;(case hd=>rfl);(case hg=>rfl);(case hr=>first|(go_simp;done)|(go_simp;rfl));(case hp=>exact(Reps.one (show Kd.M (Kd.int .u8) _ _ _ ((wrap64 (48+(Int.tmod x0_1 10))) % 256) [.int .u8 ((wrap64 (48+(Int.tmod x0_1 10))) % 256)] from rfl) (Reps.none _ _)));intro v119002 w5 ho6 hb hg_ hnew_;clear hg_ hnew_;(first|rw[← Ny119001.out] at ho6|(simp only[Int.reduceToNat] at ho6;rw[← Ny119001.out] at ho6));have HO119003:=Za (Kd.R_lower ho6 (ZC (by repeat(first|(with_reducible first|exact HB.out|apply Zn|apply Zm|apply Zo)|exact HB.out))));replace HB:=Za (Zt (by repeat(first|(with_reducible first|exact HB.out|apply Zn|apply Zm|apply Zo)|exact HB.out)) hb);clear hb ho6;have hcv7:=own_string (P:=Tryz.prog) Tryz.underlying31 Tryz.underlying5 Tryz.underlying9 (Kd.own_of_R HO119003.out)))
      go_roundg k1
      case measure=>have:=HK1.out;omega
      case rel=>exact⟨(wrap64 (Int.tdiv x0_1 10)),((strOfNums y119001) ++ x3_1),(by first|rfl|(simp;done)|(simp[*];done)),(by first|rfl|(simp;done)|(simp[*];done)),H',⟨by have:=HK1.out;omega⟩,⟨by repeat(first|(with_reducible first|exact HB.out|apply Zn|apply Zm|apply Zo)|exact HB.out)⟩⟩
     ·rw[if_neg c4] at H
      exact absurd H (by simp)
    ·rw[if_neg c3] at H
     have c3b0:decide (0<x0_1)=false:=Zf c3
     clear c3
     by_cases c8:1+x3_1.size≤9223372036854775807
     ·rw[if_pos c8] at H
      have c8b0:=eq_true c8
      try            obtain rfl:=Zg H
      go_wp2
      go_ret
      exact⟨by first|rfl|(simp[ZA,Zz] <;> rfl)|(simp[*,ZA,Zz] <;> rfl),by repeat(first|(with_reducible first|exact HB.out|apply Zn|apply Zm|apply Zo)|exact HB.out)⟩
     ·rw[if_neg c8] at H
      exact absurd H (by simp)
end Go.Proofs.YtoeimopgoaffcaaGreatDoor.Pr
namespace Go.Proofs.YtoeimopgoaffcaaGreatDoor.Pr
open Go.RowKit Go.Proofs.YtoeimopgoaffcaaGreatDoorW.PrintWords Go.Proofs.YtoeimopgoaffcaaGreatDoor.Ni
def Zbk (a:Int):Nat→List Int
 | 0=>[]
 | n+1=>a :: Zbk (a+1) n
theorem Zbg:∀(n:Nat) (a:Int),(Zbk a n).length=n
 | 0,_=>rfl
 | n+1,a=>by rw[Zbk,List.length_cons,Zbg n]
theorem ZdB:∀(n i:Nat) (a:Int),i<n→(Zbk a n).getD i 0=a+i
 | n+1,0,a,_=>by simp[Zbk]
 | n+1,i+1,a,h=>by
  rw[Zbk,List.getD_cons_succ,ZdB n i (a+1) (by omega)];omega
theorem marks_split:∀(n i:Nat) (a:Int),i<n→(Zbk a n).drop i=(a+i) :: (Zbk a n).drop (i+1):=by
 intro n i a h
 rw[Zav (by rw[Zbg];exact h) 0,ZdB n i a h]
theorem Zc0 (l:List Int) (hl:l.length≤1048576) (a:Int) (h0:0≤a) (h1:a≤1152921504606846976) (k:Nat) (hk:2 ^ 64≤k):Zai.f k l a=some (a+l.length,Zbk a l.length):=by
 have key:=ZaN l.length (fun k i=>Zai.l0 k ((Zbk a l.length).take i ++ l.drop i) (a+i) (i:Int)=some (a+l.length,Zbk a l.length)) 0
  (fun k _=>by
   simp only[Zai.l0]
   rw[if_neg (by simp[Zbg]),List.drop_length,List.append_nil,List.take_of_length_le (by rw[Zbg];exact Nat.le_refl _)])
  (fun k i _ hi ih=>by
   simp only[Zai.l0]
   rw[if_pos (by simp[Zbg];omega),if_pos (by omega),ZR hi (by omega),ZaJ (i:=a+i+1) (by omega) (by omega),Int.toNat_natCast]
   have e:((Zbk a l.length).take i ++ l.drop i).set i (a+i)=(Zbk a l.length).take (i+1) ++ l.drop (i+1):=by
    have hlen:((Zbk a l.length).take i).length=i:=by rw[Zj,Zbg];omega
    rw[List.set_append_right _ _ (by omega),hlen,Nat.sub_self,Zav hi 0,List.set_cons_zero,List.take_succ_eq_append_getElem (by rw[Zbg];exact hi),List.append_assoc]
    congr 1
    have:=ZdB l.length i a hi
    rw[List.getD_eq_getElem?_getD,Zl (by rw[Zbg];exact hi)] at this
    simp only[Option.getD_some] at this
    rw[this];rfl
   rw[e,show a+(i:Int)+1=a+((i+1:Nat):Int) by omega]
   exact ih) 0 k (Nat.zero_le _) (by omega)
 unfold Zai.f
 simpa using key
theorem markText_f (a:Int) (h0:0≤a) (h1:a≤1152921504606846976) (k:Nat) (hk:2 ^ 64≤k):∃r,ZaH.f k a=some r:=by
 have key:∀(d:Nat) (a:Int) (x:ByteArray) (k:Nat),0≤a→a.toNat≤d→a≤1152921504606846976→d<k→x.size+d≤1152921504606846976+5→∃r,ZaH.l0 k a x=some r:=by
  intro d
  induction d with
  | zero=>
   intro a x k h0 hd h1 hk hx
   obtain⟨m,rfl⟩:∃m,k=m+1:=⟨k - 1,by omega⟩
   simp only[ZaH.l0]
   rw[if_neg (by omega),if_pos (by omega)]
   exact⟨_,rfl⟩
  | succ d ih=>
   intro a x k h0 hd h1 hk hx
   obtain⟨m,rfl⟩:∃m,k=m+1:=⟨k - 1,by omega⟩
   simp only[ZaH.l0]
   by_cases hp:a > 0
   ·rw[if_pos hp,Zi]
    have hs:(strOfNums ([(wrap64 (48+(Int.tmod a 10))) % 256]:List Int)).size=1:=rfl
    have ht:Int.tdiv a 10=a / 10:=Int.tdiv_eq_ediv_of_nonneg h0
    rw[if_pos (by rw[hs];omega),ht,ZaJ (by omega) (by omega)]
    exact ih _ _ _ (by omega) (by omega) (by omega) (by omega) (by rw[ByteArray.size_append,hs];omega)
   ·rw[if_neg hp,if_pos (by omega)]
    exact⟨_,rfl⟩
 unfold ZaH.f
 by_cases h:a≤0
 ·rw[if_pos h];exact⟨_,rfl⟩
 ·rw[if_neg h]
  exact key a.toNat a _ k h0 (Nat.le_refl _) h1 (by omega) (by show(0:Nat)+_≤_;omega)
abbrev LNode:=S143
abbrev ZM:=S39
abbrev LTie:=S147
abbrev PTie:=S82
def cvN (x:LNode):ZM:=⟨x.f0,x.f1,x.f2⟩
def cvT (x:LTie):PTie:=⟨x.f0,x.f1,x.f2,x.f3,x.f4⟩
theorem ZbQ (l:List ZM) (i:Nat):ZD l (i:Int)=l.getD i z39:=by unfold ZD;rw[Int.toNat_natCast]
theorem Zdv (l:List PTie) (i:Nat):Zu l (i:Int)=l.getD i z82:=by unfold Zu;rw[Int.toNat_natCast]
theorem rdLN_nat (l:List LNode) (i:Nat):ZaC l (i:Int)=l.getD i z143:=by unfold ZaC;rw[Int.toNat_natCast]
theorem rdLT_nat (l:List LTie) (i:Nat):Za2 l (i:Int)=l.getD i z147:=by unfold Za2;rw[Int.toNat_natCast]
theorem zN:cvN z143=z39:=rfl
theorem zT:cvT z147=z82:=rfl
theorem getD_map {α β:Type} (f:α→β) (l:List α) (i:Nat) (a:α) (b:β) (h:f a=b):(l.map f).getD i b=f (l.getD i a):=by
 subst h
 rw[List.getD_eq_getElem?_getD,List.getD_eq_getElem?_getD,List.getElem?_map]
 cases l[i]? <;> rfl
def Zdl (ns:List LNode) (ts:List LTie):Prop:=ns.length≤1048576∧ts.length≤1048576∧∀n∈ns,n.f0.size≤1048576∧n.f1.length≤1048576
def ZbE (ns:List ZM) (ts:List PTie):Prop:=ns.length≤1048576∧ts.length≤1048576∧∀n∈ns,n.f0.size≤1048576∧n.f1.length≤1048576
theorem Zdl.cv {ns:List LNode} {ts:List LTie} (h:Zdl ns ts):ZbE (ns.map cvN) (ts.map cvT):=by
 refine⟨by simpa using h.1,by simpa using h.2.1,fun n hn=>?_⟩
 obtain⟨m,hm,rfl⟩:=List.mem_map.1 hn
 exact h.2.2 m hm
end Go.Proofs.YtoeimopgoaffcaaGreatDoor.Pr
namespace Go.Proofs.YtoeimopgoaffcaaGreatDoor.Pr
open Go.RowKit Go.Proofs.YtoeimopgoaffcaaGreatDoorW.PrintWords Go.Proofs.YtoeimopgoaffcaaGreatDoorW.PrintLast Go.Proofs.YtoeimopgoaffcaaGreatDoorW.PrintMore
attribute [local go_sem] Z2 Z0 Zac Zab ZU ZT Z1 ZZ
set_option linter.unusedVariables false
set_option linter.unusedSimpArgs false
def Zao.l0:Nat→List (S82)→Int→Int→Option (Int×(List (S82)))
 | 0,_,_,_=>none
 | k+1,x0,x1,x5=>if x5<(x0.length:Int) then(if 0≤x5 then((some (x0.set (x5:Int).toNat (⟨x1,(Zu x0 x5).f1,(Zu x0 x5).f2,(Zu x0 x5).f3,(Zu x0 x5).f4⟩:S82):List (S82))).bind fun y65001=>((some (y65001.set (x5:Int).toNat (⟨(Zu y65001 x5).f0,wrap64 (x1+1),(Zu y65001 x5).f2,(Zu y65001 x5).f3,(Zu y65001 x5).f4⟩:S82):List (S82))).bind fun y65002=>((some (y65002.set (x5:Int).toNat (⟨(Zu y65002 x5).f0,(Zu y65002 x5).f1,wrap64 ((wrap64 (x1+1))+1),(Zu y65002 x5).f3,(Zu y65002 x5).f4⟩:S82):List (S82))).bind fun y65003=>((some (y65003.set (x5:Int).toNat (⟨(Zu y65003 x5).f0,(Zu y65003 x5).f1,(Zu y65003 x5).f2,wrap64 ((wrap64 ((wrap64 (x1+1))+1))+1),(Zu y65003 x5).f4⟩:S82):List (S82))).bind fun y65004=>(Zao.l0 k (y65004.set (x5:Int).toNat (⟨(Zu y65004 x5).f0,(Zu y65004 x5).f1,(Zu y65004 x5).f2,(Zu y65004 x5).f3,((Int.tmod (wrap64 ((wrap64 ((wrap64 ((wrap64 (x1+1))+1))+1))+1)) 3) == 0)⟩:S82)) (wrap64 ((wrap64 ((wrap64 ((wrap64 ((wrap64 (x1+1))+1))+1))+1))+1)) (wrap64 (x5+1))))))) else(none)) else(some (x1,x0))
def Zao.f (k:Nat) (l0:List (S82)) (a1:Int):Option (Int×(List (S82))):=Zao.l0 k l0 a1 0
set_option maxHeartbeats 8000000 in
set_option maxRecDepth 100000 in
theorem Zao.calls (k:Nat) (P0_:Nat→Prop) (u9000_:Value) (l0:List (S82)) (a1:Int) (r1:Int) (r2:List (S82)) (w0 w:World) (hB:Below w0.heap.size w0 w) (ho0:Kd.R k82 82 w w0.heap.size P0_ u9000_ l0) (h:Zao.f k l0 a1=some (r1,r2)) :
  Calls Tryz.prog 65 #[u9000_,.int .i64 a1] w fun e w'=>e=.returned (.int .i64 r1)∧Kd.R k82 82 w' w0.heap.size (fun k_=>(P0_ k_∨w.heap.size≤k_)) u9000_ r2∧Below w0.heap.size w0 w'∧Kept w w' (fun k_=>P0_ k_):=by
 have HO0:=Za (show Kd.R k82 82 w w0.heap.size (fun k_=>(P0_ k_∨w.heap.size≤k_)) u9000_ l0 from Kd.R_mono ho0 (fun k_ hk=>(.inl hk)))
 have HK:=Za (Kept.refl w (fun k_=>P0_ k_))
 have HW0:=Za hB.size
 have HB:=Za hB;clear hB
 have H:(Zao.l0 k l0 a1 0)=some (r1,r2):=h
 clear h
 have H':=Za H
 clear H
 go_enter Tryz.func65,Tryz.ntmps65
 go_wp2
 go_loopg [1,5] k (fun kq v1 v5 w'=>∃(x0_1:List (S82)) (x1_1:Int) (x5_1:Int),v1=.int .i64 x1_1∧v5=.int .i64 x5_1∧Aside0 (Zao.l0 kq x0_1 x1_1 x5_1=some (r1,r2))∧Aside0 (kq≤k)∧Aside0 (Kd.R k82 82 w' w0.heap.size (fun k_=>(P0_ k_∨w.heap.size≤k_)) u9000_ x0_1)∧Aside0 (Kept w w' (fun k_=>P0_ k_))∧Aside0 (Below w0.heap.size w0 w'))
 case atStart=>exact⟨(l0),(a1),(0),(by first|rfl|(simp;done)|(simp[*];done)),(by first|rfl|(simp;done)|(simp[*];done)),H',⟨Nat.le_refl _⟩,⟨by(with_reducible repeat(first|apply Kd.R_alloc|apply Kd.R_drewN|apply Kd.R_drew));exact HO0.out⟩,⟨by repeat(first|(with_reducible first|exact HK.out|apply Kept.alloc|apply Kept.drewN|apply Kept.drew)|exact HK.out)⟩,⟨by repeat(first|(with_reducible first|exact HB.out|apply Zn|apply Zm|apply Zo)|exact HB.out)⟩⟩
 case round=>
  clear H'
  try clear p2
  obtain⟨x0_1,x1_1,x5_1,rfl,rfl,HA,HK1,HO_0,HK,HB⟩:=hrel
  cases gk with
  | zero=>exact absurd HA.out (by simp[Zao.l0])
  | succ k1=>
   have H:=HA.out
   clear HA
   simp only[Zao.l0] at H
   by_cases c3:x5_1<(x0_1.length:Int)
   ·rw[if_pos c3] at H
    have c3b0:decide (x5_1<(x0_1.length:Int))=true:=Ze c3
    clear c3
    by_cases c4:0≤x5_1
    ·rw[if_pos c4] at H
     have c4b0:decide (0≤x5_1)=true:=Ze c4
     clear c4
     obtain⟨y65001,hy65001⟩:∃y_:List (S82),y_=(x0_1.set (x5_1:Int).toNat (⟨x1_1,(Zu x0_1 x5_1).f1,(Zu x0_1 x5_1).f2,(Zu x0_1 x5_1).f3,(Zu x0_1 x5_1).f4⟩:S82)):=⟨_,rfl⟩
     replace H:((some (y65001.set (x5_1:Int).toNat (⟨(Zu y65001 x5_1).f0,wrap64 (x1_1+1),(Zu y65001 x5_1).f2,(Zu y65001 x5_1).f3,(Zu y65001 x5_1).f4⟩:S82):List (S82))).bind fun y65002=>((some (y65002.set (x5_1:Int).toNat (⟨(Zu y65002 x5_1).f0,(Zu y65002 x5_1).f1,wrap64 ((wrap64 (x1_1+1))+1),(Zu y65002 x5_1).f3,(Zu y65002 x5_1).f4⟩:S82):List (S82))).bind fun y65003=>((some (y65003.set (x5_1:Int).toNat (⟨(Zu y65003 x5_1).f0,(Zu y65003 x5_1).f1,(Zu y65003 x5_1).f2,wrap64 ((wrap64 ((wrap64 (x1_1+1))+1))+1),(Zu y65003 x5_1).f4⟩:S82):List (S82))).bind fun y65004=>(Zao.l0 k1 (y65004.set (x5_1:Int).toNat (⟨(Zu y65004 x5_1).f0,(Zu y65004 x5_1).f1,(Zu y65004 x5_1).f2,(Zu y65004 x5_1).f3,((Int.tmod (wrap64 ((wrap64 ((wrap64 ((wrap64 (x1_1+1))+1))+1))+1)) 3) == 0)⟩:S82)) (wrap64 ((wrap64 ((wrap64 ((wrap64 ((wrap64 (x1_1+1))+1))+1))+1))+1)) (wrap64 (x5_1+1))))))=some (r1,r2):=by first|(rw[hy65001];with_reducible exact H)|(have H2_:=(Zi _ _).symm.trans H;rw[hy65001];with_reducible exact H2_)|(have H2_:=(Zi _ _).symm.trans H;with_reducible exact H2_)|with_reducible exact H|(rw[hy65001];exact H)|exact H
     have Ny65001:=Za hy65001;clear hy65001
     obtain⟨y65002,hy65002⟩:∃y_:List (S82),y_=(y65001.set (x5_1:Int).toNat (⟨(Zu y65001 x5_1).f0,wrap64 (x1_1+1),(Zu y65001 x5_1).f2,(Zu y65001 x5_1).f3,(Zu y65001 x5_1).f4⟩:S82)):=⟨_,rfl⟩
     replace H:((some (y65002.set (x5_1:Int).toNat (⟨(Zu y65002 x5_1).f0,(Zu y65002 x5_1).f1,wrap64 ((wrap64 (x1_1+1))+1),(Zu y65002 x5_1).f3,(Zu y65002 x5_1).f4⟩:S82):List (S82))).bind fun y65003=>((some (y65003.set (x5_1:Int).toNat (⟨(Zu y65003 x5_1).f0,(Zu y65003 x5_1).f1,(Zu y65003 x5_1).f2,wrap64 ((wrap64 ((wrap64 (x1_1+1))+1))+1),(Zu y65003 x5_1).f4⟩:S82):List (S82))).bind fun y65004=>(Zao.l0 k1 (y65004.set (x5_1:Int).toNat (⟨(Zu y65004 x5_1).f0,(Zu y65004 x5_1).f1,(Zu y65004 x5_1).f2,(Zu y65004 x5_1).f3,((Int.tmod (wrap64 ((wrap64 ((wrap64 ((wrap64 (x1_1+1))+1))+1))+1)) 3) == 0)⟩:S82)) (wrap64 ((wrap64 ((wrap64 ((wrap64 ((wrap64 (x1_1+1))+1))+1))+1))+1)) (wrap64 (x5_1+1)))))=some (r1,r2):=by first|(rw[hy65002];with_reducible exact H)|(have H2_:=(Zi _ _).symm.trans H;rw[hy65002];with_reducible exact H2_)|(have H2_:=(Zi _ _).symm.trans H;with_reducible exact H2_)|with_reducible exact H|(rw[hy65002];exact H)|exact H
     have Ny65002:=Za hy65002;clear hy65002
     obtain⟨y65003,hy65003⟩:∃y_:List (S82),y_=(y65002.set (x5_1:Int).toNat (⟨(Zu y65002 x5_1).f0,(Zu y65002 x5_1).f1,wrap64 ((wrap64 (x1_1+1))+1),(Zu y65002 x5_1).f3,(Zu y65002 x5_1).f4⟩:S82)):=⟨_,rfl⟩
     replace H:((some (y65003.set (x5_1:Int).toNat (⟨(Zu y65003 x5_1).f0,(Zu y65003 x5_1).f1,(Zu y65003 x5_1).f2,wrap64 ((wrap64 ((wrap64 (x1_1+1))+1))+1),(Zu y65003 x5_1).f4⟩:S82):List (S82))).bind fun y65004=>(Zao.l0 k1 (y65004.set (x5_1:Int).toNat (⟨(Zu y65004 x5_1).f0,(Zu y65004 x5_1).f1,(Zu y65004 x5_1).f2,(Zu y65004 x5_1).f3,((Int.tmod (wrap64 ((wrap64 ((wrap64 ((wrap64 (x1_1+1))+1))+1))+1)) 3) == 0)⟩:S82)) (wrap64 ((wrap64 ((wrap64 ((wrap64 ((wrap64 (x1_1+1))+1))+1))+1))+1)) (wrap64 (x5_1+1))))=some (r1,r2):=by first|(rw[hy65003];with_reducible exact H)|(have H2_:=(Zi _ _).symm.trans H;rw[hy65003];with_reducible exact H2_)|(have H2_:=(Zi _ _).symm.trans H;with_reducible exact H2_)|with_reducible exact H|(rw[hy65003];exact H)|exact H
     have Ny65003:=Za hy65003;clear hy65003
     obtain⟨y65004,hy65004⟩:∃y_:List (S82),y_=(y65003.set (x5_1:Int).toNat (⟨(Zu y65003 x5_1).f0,(Zu y65003 x5_1).f1,(Zu y65003 x5_1).f2,wrap64 ((wrap64 ((wrap64 (x1_1+1))+1))+1),(Zu y65003 x5_1).f4⟩:S82)):=⟨_,rfl⟩
     replace H:(Zao.l0 k1 (y65004.set (x5_1:Int).toNat (⟨(Zu y65004 x5_1).f0,(Zu y65004 x5_1).f1,(Zu y65004 x5_1).f2,(Zu y65004 x5_1).f3,((Int.tmod (wrap64 ((wrap64 ((wrap64 ((wrap64 (x1_1+1))+1))+1))+1)) 3) == 0)⟩:S82)) (wrap64 ((wrap64 ((wrap64 ((wrap64 ((wrap64 (x1_1+1))+1))+1))+1))+1)) (wrap64 (x5_1+1)))=some (r1,r2):=by first|(rw[hy65004];with_reducible exact H)|(have H2_:=(Zi _ _).symm.trans H;rw[hy65004];with_reducible exact H2_)|(have H2_:=(Zi _ _).symm.trans H;with_reducible exact H2_)|with_reducible exact H|(rw[hy65004];exact H)|exact H
     have Ny65004:=Za hy65004;clear hy65004
     obtain⟨y65005,hy65005⟩:∃y_:List (S82),y_=(y65004.set (x5_1:Int).toNat (⟨(Zu y65004 x5_1).f0,(Zu y65004 x5_1).f1,(Zu y65004 x5_1).f2,(Zu y65004 x5_1).f3,((Int.tmod (wrap64 ((wrap64 ((wrap64 ((wrap64 (x1_1+1))+1))+1))+1)) 3) == 0)⟩:S82)):=⟨_,rfl⟩
     replace H:(Zao.l0 k1 y65005 (wrap64 ((wrap64 ((wrap64 ((wrap64 ((wrap64 (x1_1+1))+1))+1))+1))+1)) (wrap64 (x5_1+1)))=some (r1,r2):=by first|(rw[hy65005];with_reducible exact H)|(have H2_:=(Zi _ _).symm.trans H;rw[hy65005];with_reducible exact H2_)|(have H2_:=(Zi _ _).symm.trans H;with_reducible exact H2_)|with_reducible exact H|(rw[hy65005];exact H)|exact H
     have Ny65005:=Za hy65005;clear hy65005
     have H':=Za H
     clear H
     obtain⟨Ao10,co10,eo10⟩:=Kd.R_slice HO_0.out
     subst eo10
     have p5:0≤(x5_1:Int):=Zd (by first|(with_reducible assumption)|assumption)
     have q5:(x5_1:Int)<((x0_1.length:Int):Int):=Zd (by first|(with_reducible assumption)|assumption)
     obtain⟨go5,co5,eo5,gb5,gl5,cl5,HG5⟩:=Kd.R_form HO_0.out (by omega)
     (first|cases eo5|(injection eo5 with ea_ en_ ec_;(first|subst ea_|(injection ea_ with ea_;subst ea_));subst ec_;clear en_))
     have GB5:=Za gb5;have GG5:=Za HG5;clear gb5 gl5 HG5
     have HMgo5:=Za (show(P0_ go5∨w.heap.size≤go5) from(HO_0.out.1 _ rfl))
     obtain⟨ce5,hcl5,hM5,hcc5,hfr5⟩:=Kd.R_elem HO_0.out z82 (x5_1:Int) p5 q5
     obtain rfl:=Zbt hM5
     have hx5_0:wr.cell? ⟨go5,(x5_1:Int).toNat * 5,none⟩=some (.int .i64 ((Zu x0_1 x5_1).f0)):=hcc5 0 _ rfl
     have hx5_1:wr.cell? ⟨go5,(x5_1:Int).toNat * 5+1,none⟩=some (.int .i64 ((Zu x0_1 x5_1).f1)):=hcc5 1 _ rfl
     have hx5_2:wr.cell? ⟨go5,(x5_1:Int).toNat * 5+2,none⟩=some (.int .i64 ((Zu x0_1 x5_1).f2)):=hcc5 2 _ rfl
     have hx5_3:wr.cell? ⟨go5,(x5_1:Int).toNat * 5+3,none⟩=some (.int .i64 ((Zu x0_1 x5_1).f3)):=hcc5 3 _ rfl
     have hx5_4:wr.cell? ⟨go5,(x5_1:Int).toNat * 5+4,none⟩=some (.bool ((Zu x0_1 x5_1).f4)):=hcc5 4 _ rfl
     have hf5_0:wr.frozen? ⟨go5,(x5_1:Int).toNat * 5,none⟩=false:=hfr5 0
     have hf5_1:wr.frozen? ⟨go5,(x5_1:Int).toNat * 5+1,none⟩=false:=hfr5 1
     have hf5_2:wr.frozen? ⟨go5,(x5_1:Int).toNat * 5+2,none⟩=false:=hfr5 2
     have hf5_3:wr.frozen? ⟨go5,(x5_1:Int).toNat * 5+3,none⟩=false:=hfr5 3
     have hf5_4:wr.frozen? ⟨go5,(x5_1:Int).toNat * 5+4,none⟩=false:=hfr5 4
     clear hcl5 hcc5 hfr5 hM5
     replace p5:=eq_true p5
     replace q5:=eq_true q5
     have HX11:=Za (show Kd.R k82 82 wr w0.heap.size (fun k_=>(P0_ k_∨w.heap.size≤k_)) (.slice (some ⟨go5,0,none⟩) x0_1.length co10) x0_1 from(by(with_reducible repeat(first|apply Kd.R_alloc|apply Kd.R_drewN|apply Kd.R_drew));exact HO_0.out))
     obtain⟨ce11,hcl11,hM11,hcc11,hfr11⟩:=Kd.R_elem HX11.out z82 (x5_1:Int) (Zd (by first|(with_reducible assumption)|assumption)) (by have h_:(x5_1:Int)<((x0_1.length:Int):Int):=Zd (by first|(with_reducible assumption)|assumption);first|exact h_|(have e_:=(Kd.R_reads' HO_0.out).1;omega)|simpa using h_)
     obtain rfl:=Zbt hM11
     have HP11:=Kd.R_seg HX11.out (x5_1:Int) (Zd (by first|(with_reducible assumption)|assumption)) (by have h_:(x5_1:Int)<((x0_1.length:Int):Int):=Zd (by first|(with_reducible assumption)|assumption);first|exact h_|(have e_:=(Kd.R_reads' HO_0.out).1;omega)|simpa using h_) (seg:=[.int .i64 x1_1]) (j:=0) hcl11 hcc11 (show 1≤5 from by decide) (x':=(⟨x1_1,(Zu x0_1 x5_1).f1,(Zu x0_1 x5_1).f2,(Zu x0_1 x5_1).f3,(Zu x0_1 x5_1).f4⟩:S82)) (ZcJ _ _ _ (⟨x1_1,(Zu x0_1 x5_1).f1,(Zu x0_1 x5_1).f2,(Zu x0_1 x5_1).f3,(Zu x0_1 x5_1).f4⟩:S82) ) (fun _ hk=>hk)
     have hx11_0:=hcc11 0 _ rfl
     (try simp only[show(k82).sz=5 from rfl,Nat.mul_one,Nat.add_zero] at hx11_0)
     have hf11_0:=hfr11 0
     (try simp only[show(k82).sz=5 from rfl,Nat.mul_one,Nat.add_zero] at hf11_0)
     clear hcl11 hcc11 hfr11 hM11
     go_wp2_with (first|((with_reducible refine ZbM (t:=3) (p:=16) rfl ?_);refine Zbx (t:=3) (p:=16) (v:=?vo_w12) (w1:=(wr.setCell ⟨go5,(x5_1:Int).toNat * 5,none⟩ (.int .i64 x1_1))) ?hg ?ho ?hn ?hr ?_;(case ho=>rfl);(case hg=>rfl);(case hn=>rfl);(case hr=>first|(go_simp;done)|(go_simp;rfl));intro w12 hw;have hg:wr.grownBy w12 (some go5):=(by rw[hw];exact HP11.2);have hp_:Kd.R k82 82 w12 w0.heap.size (fun k_=>(P0_ k_∨w.heap.size≤k_)) (.slice (some ⟨go5,0,none⟩) x0_1.length co10) y65001:=(by rw[hw,Ny65001.out];exact HP11.1);clear HP11;replace HB:=Za ((by rw[hw];exact Zq (HB.out) GB5.out:Below w0.heap.size w0 w12));replace HK:=Za (Kept.of_grown (S:=(fun k_=>P0_ k_)) hg (by repeat(first|(with_reducible first|exact HK.out|apply Kept.alloc|apply Kept.drewN|apply Kept.drew)|exact HK.out)) (fun k_ e_=>(HO_0.out.1 k_ e_)));replace HO_0:=Za (hp_);clear hg hw hp_;have p6:0≤(x5_1:Int):=Zd (by first|(with_reducible assumption)|assumption);have q6:(x5_1:Int)<((x0_1.length:Int):Int):=Zd (by first|(with_reducible assumption)|assumption);obtain⟨ce6,hcl6,hM6,hcc6,hfr6⟩:=Kd.R_elem HO_0.out z82 (x5_1:Int) p6 q6;obtain rfl:=Zbt hM6;have hx6_0:w12.cell? ⟨go5,(x5_1:Int).toNat * 5,none⟩=some (.int .i64 ((Zu y65001 x5_1).f0)):=hcc6 0 _ rfl;have hx6_1:w12.cell? ⟨go5,(x5_1:Int).toNat * 5+1,none⟩=some (.int .i64 ((Zu y65001 x5_1).f1)):=hcc6 1 _ rfl;have hx6_2:w12.cell? ⟨go5,(x5_1:Int).toNat * 5+2,none⟩=some (.int .i64 ((Zu y65001 x5_1).f2)):=hcc6 2 _ rfl;have hx6_3:w12.cell? ⟨go5,(x5_1:Int).toNat * 5+3,none⟩=some (.int .i64 ((Zu y65001 x5_1).f3)):=hcc6 3 _ rfl;have hx6_4:w12.cell? ⟨go5,(x5_1:Int).toNat * 5+4,none⟩=some (.bool ((Zu y65001 x5_1).f4)):=hcc6 4 _ rfl;have hf6_0:w12.frozen? ⟨go5,(x5_1:Int).toNat * 5,none⟩=false:=hfr6 0;have hf6_1:w12.frozen? ⟨go5,(x5_1:Int).toNat * 5+1,none⟩=false:=hfr6 1;have hf6_2:w12.frozen? ⟨go5,(x5_1:Int).toNat * 5+2,none⟩=false:=hfr6 2;have hf6_3:w12.frozen? ⟨go5,(x5_1:Int).toNat * 5+3,none⟩=false:=hfr6 3;have hf6_4:w12.frozen? ⟨go5,(x5_1:Int).toNat * 5+4,none⟩=false:=hfr6 4;clear hcl6 hcc6 hfr6 hM6;replace p6:=eq_true p6;replace q6:=eq_true q6;have HX13:=Za (show Kd.R k82 82 w12 w0.heap.size (fun k_=>(P0_ k_∨w.heap.size≤k_)) (.slice (some ⟨go5,0,none⟩) x0_1.length co10) y65001 from(by(with_reducible repeat(first|apply Kd.R_alloc|apply Kd.R_drewN|apply Kd.R_drew));exact HO_0.out));obtain⟨ce13,hcl13,hM13,hcc13,hfr13⟩:=Kd.R_elem HX13.out z82 (x5_1:Int) (Zd (by first|(with_reducible assumption)|assumption)) (by have h_:(x5_1:Int)<((x0_1.length:Int):Int):=Zd (by first|(with_reducible assumption)|assumption);first|exact h_|(have e_:=(Kd.R_reads' HO_0.out).1;omega)|simpa using h_);obtain rfl:=Zbt hM13;have HP13:=Kd.R_seg HX13.out (x5_1:Int) (Zd (by first|(with_reducible assumption)|assumption)) (by have h_:(x5_1:Int)<((x0_1.length:Int):Int):=Zd (by first|(with_reducible assumption)|assumption);first|exact h_|(have e_:=(Kd.R_reads' HO_0.out).1;omega)|simpa using h_) (seg:=[.int .i64 (wrap64 (x1_1+1))]) (j:=1) hcl13 hcc13 (show 2≤5 from by decide) (x':=(⟨(Zu y65001 x5_1).f0,wrap64 (x1_1+1),(Zu y65001 x5_1).f2,(Zu y65001 x5_1).f3,(Zu y65001 x5_1).f4⟩:S82)) (ZcJ _ _ _ (⟨(Zu y65001 x5_1).f0,wrap64 (x1_1+1),(Zu y65001 x5_1).f2,(Zu y65001 x5_1).f3,(Zu y65001 x5_1).f4⟩:S82) ) (fun _ hk=>hk);have hx13_1:=hcc13 1 _ rfl;(try simp only[show(k82).sz=5 from rfl,Nat.mul_one,Nat.add_zero] at hx13_1);have hf13_1:=hfr13 1;(try simp only[show(k82).sz=5 from rfl,Nat.mul_one,Nat.add_zero] at hf13_1);clear hcl13 hcc13 hfr13 hM13)|((with_reducible refine ZbM (t:=3) (p:=23) rfl ?_);refine Zbx (t:=3) (p:=23) (v:=?vo_w14) (w1:=(w12.setCell ⟨go5,(x5_1:Int).toNat * 5+1,none⟩ (.int .i64 (wrap64 (x1_1+1))))) ?hg ?ho ?hn ?hr ?_;(case ho=>rfl);(case hg=>rfl);(case hn=>rfl);(case hr=>first|(go_simp;done)|(go_simp;rfl));intro w14 hw;have hg:w12.grownBy w14 (some go5):=(by rw[hw];exact HP13.2);have hp_:Kd.R k82 82 w14 w0.heap.size (fun k_=>(P0_ k_∨w.heap.size≤k_)) (.slice (some ⟨go5,0,none⟩) x0_1.length co10) y65002:=(by rw[hw,Ny65002.out];exact HP13.1);clear HP13;replace HB:=Za ((by rw[hw];exact Zq (HB.out) GB5.out:Below w0.heap.size w0 w14));replace HK:=Za (Kept.of_grown (S:=(fun k_=>P0_ k_)) hg (by repeat(first|(with_reducible first|exact HK.out|apply Kept.alloc|apply Kept.drewN|apply Kept.drew)|exact HK.out)) (fun k_ e_=>(HO_0.out.1 k_ e_)));replace HO_0:=Za (hp_);clear hg hw hp_;have p7:0≤(x5_1:Int):=Zd (by first|(with_reducible assumption)|assumption);have q7:(x5_1:Int)<((x0_1.length:Int):Int):=Zd (by first|(with_reducible assumption)|assumption);obtain⟨ce7,hcl7,hM7,hcc7,hfr7⟩:=Kd.R_elem HO_0.out z82 (x5_1:Int) p7 q7;obtain rfl:=Zbt hM7;have hx7_0:w14.cell? ⟨go5,(x5_1:Int).toNat * 5,none⟩=some (.int .i64 ((Zu y65002 x5_1).f0)):=hcc7 0 _ rfl;have hx7_1:w14.cell? ⟨go5,(x5_1:Int).toNat * 5+1,none⟩=some (.int .i64 ((Zu y65002 x5_1).f1)):=hcc7 1 _ rfl;have hx7_2:w14.cell? ⟨go5,(x5_1:Int).toNat * 5+2,none⟩=some (.int .i64 ((Zu y65002 x5_1).f2)):=hcc7 2 _ rfl;have hx7_3:w14.cell? ⟨go5,(x5_1:Int).toNat * 5+3,none⟩=some (.int .i64 ((Zu y65002 x5_1).f3)):=hcc7 3 _ rfl;have hx7_4:w14.cell? ⟨go5,(x5_1:Int).toNat * 5+4,none⟩=some (.bool ((Zu y65002 x5_1).f4)):=hcc7 4 _ rfl;have hf7_0:w14.frozen? ⟨go5,(x5_1:Int).toNat * 5,none⟩=false:=hfr7 0;have hf7_1:w14.frozen? ⟨go5,(x5_1:Int).toNat * 5+1,none⟩=false:=hfr7 1;have hf7_2:w14.frozen? ⟨go5,(x5_1:Int).toNat * 5+2,none⟩=false:=hfr7 2;have hf7_3:w14.frozen? ⟨go5,(x5_1:Int).toNat * 5+3,none⟩=false:=hfr7 3;have hf7_4:w14.frozen? ⟨go5,(x5_1:Int).toNat * 5+4,none⟩=false:=hfr7 4;clear hcl7 hcc7 hfr7 hM7;replace p7:=eq_true p7;replace q7:=eq_true q7;have HX15:=Za (show Kd.R k82 82 w14 w0.heap.size (fun k_=>(P0_ k_∨w.heap.size≤k_)) (.slice (some ⟨go5,0,none⟩) x0_1.length co10) y65002 from(by(with_reducible repeat(first|apply Kd.R_alloc|apply Kd.R_drewN|apply Kd.R_drew));exact HO_0.out));obtain⟨ce15,hcl15,hM15,hcc15,hfr15⟩:=Kd.R_elem HX15.out z82 (x5_1:Int) (Zd (by first|(with_reducible assumption)|assumption)) (by have h_:(x5_1:Int)<((x0_1.length:Int):Int):=Zd (by first|(with_reducible assumption)|assumption);first|exact h_|(have e_:=(Kd.R_reads' HO_0.out).1;omega)|simpa using h_);obtain rfl:=Zbt hM15;have HP15:=Kd.R_seg HX15.out (x5_1:Int) (Zd (by first|(with_reducible assumption)|assumption)) (by have h_:(x5_1:Int)<((x0_1.length:Int):Int):=Zd (by first|(with_reducible assumption)|assumption);first|exact h_|(have e_:=(Kd.R_reads' HO_0.out).1;omega)|simpa using h_) (seg:=[.int .i64 (wrap64 ((wrap64 (x1_1+1))+1))]) (j:=2) hcl15 hcc15 (show 3≤5 from by decide) (x':=(⟨(Zu y65002 x5_1).f0,(Zu y65002 x5_1).f1,wrap64 ((wrap64 (x1_1+1))+1),(Zu y65002 x5_1).f3,(Zu y65002 x5_1).f4⟩:S82)) (ZcJ _ _ _ (⟨(Zu y65002 x5_1).f0,(Zu y65002 x5_1).f1,wrap64 ((wrap64 (x1_1+1))+1),(Zu y65002 x5_1).f3,(Zu y65002 x5_1).f4⟩:S82) ) (fun _ hk=>hk);have hx15_2:=hcc15 2 _ rfl;(try simp only[show(k82).sz=5 from rfl,Nat.mul_one,Nat.add_zero] at hx15_2);have hf15_2:=hfr15 2;(try simp only[show(k82).sz=5 from rfl,Nat.mul_one,Nat.add_zero] at hf15_2);clear hcl15 hcc15 hfr15 hM15)|((with_reducible refine ZbM (t:=3) (p:=30) rfl ?_);refine Zbx (t:=3) (p:=30) (v:=?vo_w16) (w1:=(w14.setCell ⟨go5,(x5_1:Int).toNat * 5+2,none⟩ (.int .i64 (wrap64 ((wrap64 (x1_1+1))+1))))) ?hg ?ho ?hn ?hr ?_;(case ho=>rfl);(case hg=>rfl);(case hn=>rfl);(case hr=>first|(go_simp;done)|(go_simp;rfl));intro w16 hw;have hg:w14.grownBy w16 (some go5):=(by rw[hw];exact HP15.2);have hp_:Kd.R k82 82 w16 w0.heap.size (fun k_=>(P0_ k_∨w.heap.size≤k_)) (.slice (some ⟨go5,0,none⟩) x0_1.length co10) y65003:=(by rw[hw,Ny65003.out];exact HP15.1);clear HP15;replace HB:=Za ((by rw[hw];exact Zq (HB.out) GB5.out:Below w0.heap.size w0 w16));replace HK:=Za (Kept.of_grown (S:=(fun k_=>P0_ k_)) hg (by repeat(first|(with_reducible first|exact HK.out|apply Kept.alloc|apply Kept.drewN|apply Kept.drew)|exact HK.out)) (fun k_ e_=>(HO_0.out.1 k_ e_)));replace HO_0:=Za (hp_);clear hg hw hp_;have p8:0≤(x5_1:Int):=Zd (by first|(with_reducible assumption)|assumption);have q8:(x5_1:Int)<((x0_1.length:Int):Int):=Zd (by first|(with_reducible assumption)|assumption);obtain⟨ce8,hcl8,hM8,hcc8,hfr8⟩:=Kd.R_elem HO_0.out z82 (x5_1:Int) p8 q8;obtain rfl:=Zbt hM8;have hx8_0:w16.cell? ⟨go5,(x5_1:Int).toNat * 5,none⟩=some (.int .i64 ((Zu y65003 x5_1).f0)):=hcc8 0 _ rfl;have hx8_1:w16.cell? ⟨go5,(x5_1:Int).toNat * 5+1,none⟩=some (.int .i64 ((Zu y65003 x5_1).f1)):=hcc8 1 _ rfl;have hx8_2:w16.cell? ⟨go5,(x5_1:Int).toNat * 5+2,none⟩=some (.int .i64 ((Zu y65003 x5_1).f2)):=hcc8 2 _ rfl;have hx8_3:w16.cell? ⟨go5,(x5_1:Int).toNat * 5+3,none⟩=some (.int .i64 ((Zu y65003 x5_1).f3)):=hcc8 3 _ rfl;have hx8_4:w16.cell? ⟨go5,(x5_1:Int).toNat * 5+4,none⟩=some (.bool ((Zu y65003 x5_1).f4)):=hcc8 4 _ rfl;have hf8_0:w16.frozen? ⟨go5,(x5_1:Int).toNat * 5,none⟩=false:=hfr8 0;have hf8_1:w16.frozen? ⟨go5,(x5_1:Int).toNat * 5+1,none⟩=false:=hfr8 1;have hf8_2:w16.frozen? ⟨go5,(x5_1:Int).toNat * 5+2,none⟩=false:=hfr8 2;have hf8_3:w16.frozen? ⟨go5,(x5_1:Int).toNat * 5+3,none⟩=false:=hfr8 3;have hf8_4:w16.frozen? ⟨go5,(x5_1:Int).toNat * 5+4,none⟩=false:=hfr8 4;clear hcl8 hcc8 hfr8 hM8;replace p8:=eq_true p8;replace q8:=eq_true q8;have HX17:=Za (show Kd.R k82 82 w16 w0.heap.size (fun k_=>(P0_ k_∨w.heap.size≤k_)) (.slice (some ⟨go5,0,none⟩) x0_1.length co10) y65003 from(by(with_reducible repeat(first|apply Kd.R_alloc|apply Kd.R_drewN|apply Kd.R_drew));exact HO_0.out));obtain⟨ce17,hcl17,hM17,hcc17,hfr17⟩:=Kd.R_elem HX17.out z82 (x5_1:Int) (Zd (by first|(with_reducible assumption)|assumption)) (by have h_:(x5_1:Int)<((x0_1.length:Int):Int):=Zd (by first|(with_reducible assumption)|assumption);first|exact h_|(have e_:=(Kd.R_reads' HO_0.out).1;omega)|simpa using h_);obtain rfl:=Zbt hM17;have HP17:=Kd.R_seg HX17.out (x5_1:Int) (Zd (by first|(with_reducible assumption)|assumption)) (by have h_:(x5_1:Int)<((x0_1.length:Int):Int):=Zd (by first|(with_reducible assumption)|assumption);first|exact h_|(have e_:=(Kd.R_reads' HO_0.out).1;omega)|simpa using h_) (seg:=[.int .i64 (wrap64 ((wrap64 ((wrap64 (x1_1+1))+1))+1))]) (j:=3) hcl17 hcc17 (show 4≤5 from by decide) (x':=(⟨(Zu y65003 x5_1).f0,(Zu y65003 x5_1).f1,(Zu y65003 x5_1).f2,wrap64 ((wrap64 ((wrap64 (x1_1+1))+1))+1),(Zu y65003 x5_1).f4⟩:S82)) (ZcJ _ _ _ (⟨(Zu y65003 x5_1).f0,(Zu y65003 x5_1).f1,(Zu y65003 x5_1).f2,wrap64 ((wrap64 ((wrap64 (x1_1+1))+1))+1),(Zu y65003 x5_1).f4⟩:S82) ) (fun _ hk=>hk);have hx17_3:=hcc17 3 _ rfl;(try simp only[show(k82).sz=5 from rfl,Nat.mul_one,Nat.add_zero] at hx17_3);have hf17_3:=hfr17 3;(try simp only[show(k82).sz=5 from rfl,Nat.mul_one,Nat.add_zero] at hf17_3);clear hcl17 hcc17 hfr17 hM17)|((with_reducible refine ZbM (t:=3) (p:=37) rfl ?_);refine Zbx (t:=3) (p:=37) (v:=?vo_w18) (w1:=(w16.setCell ⟨go5,(x5_1:Int).toNat * 5+3,none⟩ (.int .i64 (wrap64 ((wrap64 ((wrap64 (x1_1+1))+1))+1))))) ?hg ?ho ?hn ?hr ?_;(case ho=>rfl);(case hg=>rfl);(case hn=>rfl);(case hr=>first|(go_simp;done)|(go_simp;rfl));intro w18 hw;have hg:w16.grownBy w18 (some go5):=(by rw[hw];exact HP17.2);have hp_:Kd.R k82 82 w18 w0.heap.size (fun k_=>(P0_ k_∨w.heap.size≤k_)) (.slice (some ⟨go5,0,none⟩) x0_1.length co10) y65004:=(by rw[hw,Ny65004.out];exact HP17.1);clear HP17;replace HB:=Za ((by rw[hw];exact Zq (HB.out) GB5.out:Below w0.heap.size w0 w18));replace HK:=Za (Kept.of_grown (S:=(fun k_=>P0_ k_)) hg (by repeat(first|(with_reducible first|exact HK.out|apply Kept.alloc|apply Kept.drewN|apply Kept.drew)|exact HK.out)) (fun k_ e_=>(HO_0.out.1 k_ e_)));replace HO_0:=Za (hp_);clear hg hw hp_;have p9:0≤(x5_1:Int):=Zd (by first|(with_reducible assumption)|assumption);have q9:(x5_1:Int)<((x0_1.length:Int):Int):=Zd (by first|(with_reducible assumption)|assumption);obtain⟨ce9,hcl9,hM9,hcc9,hfr9⟩:=Kd.R_elem HO_0.out z82 (x5_1:Int) p9 q9;obtain rfl:=Zbt hM9;have hx9_0:w18.cell? ⟨go5,(x5_1:Int).toNat * 5,none⟩=some (.int .i64 ((Zu y65004 x5_1).f0)):=hcc9 0 _ rfl;have hx9_1:w18.cell? ⟨go5,(x5_1:Int).toNat * 5+1,none⟩=some (.int .i64 ((Zu y65004 x5_1).f1)):=hcc9 1 _ rfl;have hx9_2:w18.cell? ⟨go5,(x5_1:Int).toNat * 5+2,none⟩=some (.int .i64 ((Zu y65004 x5_1).f2)):=hcc9 2 _ rfl;have hx9_3:w18.cell? ⟨go5,(x5_1:Int).toNat * 5+3,none⟩=some (.int .i64 ((Zu y65004 x5_1).f3)):=hcc9 3 _ rfl;have hx9_4:w18.cell? ⟨go5,(x5_1:Int).toNat * 5+4,none⟩=some (.bool ((Zu y65004 x5_1).f4)):=hcc9 4 _ rfl;have hf9_0:w18.frozen? ⟨go5,(x5_1:Int).toNat * 5,none⟩=false:=hfr9 0;have hf9_1:w18.frozen? ⟨go5,(x5_1:Int).toNat * 5+1,none⟩=false:=hfr9 1;have hf9_2:w18.frozen? ⟨go5,(x5_1:Int).toNat * 5+2,none⟩=false:=hfr9 2;have hf9_3:w18.frozen? ⟨go5,(x5_1:Int).toNat * 5+3,none⟩=false:=hfr9 3;have hf9_4:w18.frozen? ⟨go5,(x5_1:Int).toNat * 5+4,none⟩=false:=hfr9 4;clear hcl9 hcc9 hfr9 hM9;replace p9:=eq_true p9;replace q9:=eq_true q9;have HX19:=Za (show Kd.R k82 82 w18 w0.heap.size (fun k_=>(P0_ k_∨w.heap.size≤k_)) (.slice (some ⟨go5,0,none⟩) x0_1.length co10) y65004 from(by(with_reducible repeat(first|apply Kd.R_alloc|apply Kd.R_drewN|apply Kd.R_drew));exact HO_0.out));obtain⟨ce19,hcl19,hM19,hcc19,hfr19⟩:=Kd.R_elem HX19.out z82 (x5_1:Int) (Zd (by first|(with_reducible assumption)|assumption)) (by have h_:(x5_1:Int)<((x0_1.length:Int):Int):=Zd (by first|(with_reducible assumption)|assumption);first|exact h_|(have e_:=(Kd.R_reads' HO_0.out).1;omega)|simpa using h_);obtain rfl:=Zbt hM19;have HP19:=Kd.R_seg HX19.out (x5_1:Int) (Zd (by first|(with_reducible assumption)|assumption)) (by have h_:(x5_1:Int)<((x0_1.length:Int):Int):=Zd (by first|(with_reducible assumption)|assumption);first|exact h_|(have e_:=(Kd.R_reads' HO_0.out).1;omega)|simpa using h_) (seg:=[.bool ((Int.tmod (wrap64 ((wrap64 ((wrap64 ((wrap64 (x1_1+1))+1))+1))+1)) 3) == 0)]) (j:=4) hcl19 hcc19 (show 5≤5 from by decide) (x':=(⟨(Zu y65004 x5_1).f0,(Zu y65004 x5_1).f1,(Zu y65004 x5_1).f2,(Zu y65004 x5_1).f3,((Int.tmod (wrap64 ((wrap64 ((wrap64 ((wrap64 (x1_1+1))+1))+1))+1)) 3) == 0)⟩:S82)) (ZcJ _ _ _ (⟨(Zu y65004 x5_1).f0,(Zu y65004 x5_1).f1,(Zu y65004 x5_1).f2,(Zu y65004 x5_1).f3,((Int.tmod (wrap64 ((wrap64 ((wrap64 ((wrap64 (x1_1+1))+1))+1))+1)) 3) == 0)⟩:S82) ) (fun _ hk=>hk);have hx19_4:=hcc19 4 _ rfl;(try simp only[show(k82).sz=5 from rfl,Nat.mul_one,Nat.add_zero] at hx19_4);have hf19_4:=hfr19 4;(try simp only[show(k82).sz=5 from rfl,Nat.mul_one,Nat.add_zero] at hf19_4);clear hcl19 hcc19 hfr19 hM19)|((with_reducible refine ZbM (t:=4) (p:=46) rfl ?_);refine Zbx (t:=4) (p:=46) (v:=?vo_w20) (w1:=(w18.setCell ⟨go5,(x5_1:Int).toNat * 5+4,none⟩ (.bool ((Int.tmod (wrap64 ((wrap64 ((wrap64 ((wrap64 (x1_1+1))+1))+1))+1)) 3) == 0)))) ?hg ?ho ?hn ?hr ?_;(case ho=>rfl);(case hg=>rfl);(case hn=>rfl);(case hr=>first|(go_simp;done)|(go_simp;rfl));intro w20 hw;have hg:w18.grownBy w20 (some go5):=(by rw[hw];exact HP19.2);have hp_:Kd.R k82 82 w20 w0.heap.size (fun k_=>(P0_ k_∨w.heap.size≤k_)) (.slice (some ⟨go5,0,none⟩) x0_1.length co10) y65005:=(by rw[hw,Ny65005.out];exact HP19.1);clear HP19;replace HB:=Za ((by rw[hw];exact Zq (HB.out) GB5.out:Below w0.heap.size w0 w20));replace HK:=Za (Kept.of_grown (S:=(fun k_=>P0_ k_)) hg (by repeat(first|(with_reducible first|exact HK.out|apply Kept.alloc|apply Kept.drewN|apply Kept.drew)|exact HK.out)) (fun k_ e_=>(HO_0.out.1 k_ e_)));replace HO_0:=Za (hp_);clear hg hw hp_))
     go_roundg k1
     case measure=>have:=HK1.out;omega
     case rel=>exact⟨(y65005),(wrap64 ((wrap64 ((wrap64 ((wrap64 ((wrap64 (x1_1+1))+1))+1))+1))+1)),(wrap64 (x5_1+1)),(by first|rfl|(simp;done)|(simp[*];done)),(by first|rfl|(simp;done)|(simp[*];done)),H',⟨by have:=HK1.out;omega⟩,⟨by(with_reducible repeat(first|apply Kd.R_alloc|apply Kd.R_drewN|apply Kd.R_drew));exact HO_0.out⟩,⟨by repeat(first|(with_reducible first|exact HK.out|apply Kept.alloc|apply Kept.drewN|apply Kept.drew)|exact HK.out)⟩,⟨by repeat(first|(with_reducible first|exact HB.out|apply Zn|apply Zm|apply Zo)|exact HB.out)⟩⟩
    ·rw[if_neg c4] at H
     exact absurd H (by simp)
   ·rw[if_neg c3] at H
    have c3b0:decide (x5_1<(x0_1.length:Int))=false:=Zf c3
    clear c3
    simp only[Option.some.injEq,Prod.mk.injEq] at H
    obtain⟨rfl,rfl⟩:=H
    obtain⟨Ao21,co21,eo21⟩:=Kd.R_slice HO_0.out
    subst eo21
    go_wp2
    go_ret
    exact⟨by first|rfl|(simp[ZA,Zz] <;> rfl)|(simp[*,ZA,Zz] <;> rfl),by(with_reducible repeat(first|apply Kd.R_alloc|apply Kd.R_drewN|apply Kd.R_drew));exact HO_0.out,by repeat(first|(with_reducible first|exact HB.out|apply Zn|apply Zm|apply Zo)|exact HB.out),by repeat(first|(with_reducible first|exact HK.out|apply Kept.alloc|apply Kept.drewN|apply Kept.drew)|exact HK.out)⟩
def ZaM.l0:Nat→List Int→Int→Int→Option (Int)
 | 0,_,_,_=>none
 | k+1,x0,x1,x5=>if x5<(x0.length:Int) then(if 0≤x5 then(if (rd x0 x5)=x1 then(ZaM.l0 k x0 (wrap64 (x1+1)) (wrap64 (x5+1))) else(some (-1))) else(none)) else(some x1)
def ZaM.f (k:Nat) (l0:List Int) (a1:Int):Option (Int):=ZaM.l0 k l0 a1 0
set_option maxHeartbeats 8000000 in
set_option maxRecDepth 100000 in
theorem ZaM.calls (k:Nat) (A0:Option Addr) (c0:Nat) (l0:List Int) (a1:Int) (r:Int) (w:World) (hr0:Kd.C (Kd.int .i64) w A0 l0.length l0) (hc0:l0.length≤c0) (h:ZaM.f k l0 a1=some r) :
  Calls Tryz.prog 139 #[.slice A0 l0.length c0,.int .i64 a1] w fun e w'=>e=.returned (.int .i64 r)∧ZF w w':=by
 have HR0:=Za hr0;have HC0:=Za hc0;clear hr0 hc0
 have H:(ZaM.l0 k l0 a1 0)=some r:=h
 clear h
 have H':=Za H
 clear H
 go_enter Tryz.func139,Tryz.ntmps139
 go_wp2
 go_loopg [1,5] k (fun kq v1 v5 w'=>∃(x1_1:Int) (x5_1:Int),v1=.int .i64 x1_1∧v5=.int .i64 x5_1∧Aside0 (ZaM.l0 kq l0 x1_1 x5_1=some r)∧Aside0 (kq≤k)∧ZF w w')
 case atStart=>exact⟨(a1),(0),(by first|rfl|(simp;done)|(simp[*];done)),(by first|rfl|(simp;done)|(simp[*];done)),H',⟨Nat.le_refl _⟩,by repeat(first|exact ZF.refl _|apply ZF.step)⟩
 case round=>
  clear H'
  try clear c1
  try clear p2
  obtain⟨x1_1,x5_1,rfl,rfl,HA,HK1,⟨m1,rfl⟩⟩:=hrel
  cases gk with
  | zero=>exact absurd HA.out (by simp[ZaM.l0])
  | succ k1=>
   have H:=HA.out
   clear HA
   simp only[ZaM.l0] at H
   by_cases c3:x5_1<(l0.length:Int)
   ·rw[if_pos c3] at H
    have c3b0:decide (x5_1<(l0.length:Int))=true:=Ze c3
    clear c3
    by_cases c4:0≤x5_1
    ·rw[if_pos c4] at H
     have c4b0:decide (0≤x5_1)=true:=Ze c4
     clear c4
     by_cases c5:(rd l0 x5_1)=x1_1
     ·rw[if_pos c5] at H
      have c5b0:((rd l0 x5_1) == x1_1)=true:=beq_iff_eq.mpr c5
      have c5b1:((rd l0 x5_1) != x1_1)=false:=bne_eq_false_iff_eq.mpr c5
      clear c5
      have H':=Za H
      clear H
      have p139001:0≤(x5_1:Int):=Zd (by first|(with_reducible assumption)|assumption)
      have q139001:x5_1<(l0.length:Int):=Zd (by first|(with_reducible assumption)|assumption)
      obtain⟨ad139001,e139001,hx139001_0⟩:=Kd.at_int HR0.out x5_1 p139001 q139001
      cases e139001
      replace p139001:=eq_true p139001
      replace q139001:=eq_true q139001
      go_wp2
      go_roundg k1
      case measure=>have:=HK1.out;omega
      case rel=>exact⟨(wrap64 (x1_1+1)),(wrap64 (x5_1+1)),(by first|rfl|(simp;done)|(simp[*];done)),(by first|rfl|(simp;done)|(simp[*];done)),H',⟨by have:=HK1.out;omega⟩,by repeat(first|exact ZF.refl _|apply ZF.step)⟩
     ·rw[if_neg c5] at H
      have c5b0:((rd l0 x5_1) == x1_1)=false:=beq_eq_false_iff_ne.mpr c5
      have c5b1:((rd l0 x5_1) != x1_1)=true:=bne_iff_ne.mpr c5
      obtain rfl:=Zg H
      have p139001:0≤(x5_1:Int):=Zd (by first|(with_reducible assumption)|assumption)
      have q139001:x5_1<(l0.length:Int):=Zd (by first|(with_reducible assumption)|assumption)
      obtain⟨ad139001,e139001,hx139001_0⟩:=Kd.at_int HR0.out x5_1 p139001 q139001
      cases e139001
      replace p139001:=eq_true p139001
      replace q139001:=eq_true q139001
      go_wp2
      go_ret
      exact⟨by first|rfl|(simp;done)|(simp[*];done),by repeat(first|exact ZF.refl _|apply ZF.step)⟩
    ·rw[if_neg c4] at H
     exact absurd H (by simp)
   ·rw[if_neg c3] at H
    have c3b0:decide (x5_1<(l0.length:Int))=false:=Zf c3
    clear c3
    obtain rfl:=Zg H
    go_wp2
    go_ret
    exact⟨by first|rfl|(simp;done)|(simp[*];done),by repeat(first|exact ZF.refl _|apply ZF.step)⟩
end Go.Proofs.YtoeimopgoaffcaaGreatDoor.Pr
namespace Go.Proofs.YtoeimopgoaffcaaGreatDoor.Pr
open Go.RowKit Go.Proofs.YtoeimopgoaffcaaGreatDoorW.PrintWords Go.Proofs.YtoeimopgoaffcaaGreatDoor.Ni
theorem markTieS_f (l:List PTie) (hl:l.length≤1048576) (a:Int) (h0:0≤a) (h1:a≤1152921504606846976) (k:Nat) (hk:2 ^ 64≤k):∃l',Zao.f k l a=some (a+5 * l.length,l'):=by
 have key:=ZaN l.length (fun k i=>∀m:List PTie,m.length=l.length→∃l',Zao.l0 k m (a+5 * i) (i:Int)=some (a+5 * l.length,l')) 0
  (fun k _ m hm=>by
   simp only[Zao.l0]
   rw[if_neg (by omega)]
   exact⟨_,rfl⟩)
  (fun k i _ hi ih m hm=>by
   simp only[Zao.l0,Zi]
   rw[if_pos (by omega),if_pos (by omega),ZR hi (by omega),ZaJ (i:=a+5 * i+1) (by omega) (by omega),ZaJ (i:=a+5 * i+1+1) (by omega) (by omega),ZaJ (i:=a+5 * i+1+1+1) (by omega) (by omega),ZaJ (i:=a+5 * i+1+1+1+1) (by omega) (by omega),ZaJ (i:=a+5 * i+1+1+1+1+1) (by omega) (by omega)]
   rw[show a+5 * (i:Int)+1+1+1+1+1=a+5 * ((i+1:Nat):Int) by omega]
   exact ih _ (by simp[hm])) 0 k (Nat.zero_le _) (by omega)
 unfold Zao.f
 have:=key l rfl
 simpa using this
theorem heldIntS_f (n:Nat) (hl:n≤1048576) (a:Int) (h0:0≤a) (h1:a≤1152921504606846976) (k:Nat) (hk:2 ^ 64≤k):ZaM.f k (Zbk a n) a=some (a+n):=by
 have key:=ZaN n (fun k i=>ZaM.l0 k (Zbk a n) (a+i) (i:Int)=some (a+n)) 0
  (fun k _=>by
   simp only[ZaM.l0]
   rw[if_neg (by rw[Zbg];omega)])
  (fun k i _ hi ih=>by
   simp only[ZaM.l0]
   rw[if_pos (by rw[Zbg];omega),if_pos (by omega),Za0,ZdB n i a hi,if_pos rfl,ZR hi (by omega),ZaJ (i:=a+i+1) (by omega) (by omega),show a+(i:Int)+1=a+((i+1:Nat):Int) by omega]
   exact ih) 0 k (Nat.zero_le _) (by omega)
 unfold ZaM.f
 simpa using key
theorem markIntS_k (w0 w:World) (b:Nat) (v:Value) (l:List Int) (hB:Below w0.heap.size w0 w) (hr:Kd.R (Kd.int .i64) 3 w w0.heap.size (fun k=>k<b) v l) (hl:l.length≤1048576) (a:Int) (h0:0≤a) (h1:a≤562949953421312) :
  Calls Tryz.prog 108 #[v,.int .i64 a] w fun e w'=>e=.returned (.int .i64 (a+l.length))∧Kd.R (Kd.int .i64) 3 w' w0.heap.size (fun k=>k<b) v (Zbk a l.length)∧Below w0.heap.size w0 w'∧Kept w w' (fun k=>k<b):=by
 have hb:=hr.1
 have h:=Zai.calls (2 ^ 64) (fun k=>some k=v.ownBlock) v l a _ _ w0 w hB (Kd.R_tight (by rfl) hr) (Zc0 l hl a h0 (by omega) (2 ^ 64) (Nat.le_refl _))
 refine h.mono ?_
 rintro e w' ⟨he,h2,h3,h4⟩
 exact⟨he,Kd.R_mono (Kd.R_tight (by rfl) h2) (fun k hk=>hb k hk.symm),h3,h4.mono (fun k hk=>hb k hk.symm)⟩
theorem marked_reads {w:World} {base:Nat} {ok:Nat→Prop} {A:Option Addr} {n c:Nat} {a:Int} (h:Kd.R (Kd.int .i64) 3 w base ok (.slice A n c) (Zbk a n)):n≤c∧Kd.C (Kd.int .i64) w A n (Zbk a n):=by
 have h2:=Kd.R_reads' h
 rw[Zbg] at h2
 exact h2.2
def Zdr (ns:List ZM) (ts:List PTie):Bool:=decide (ns.length≤1048576) && (decide (ts.length≤1048576) && ns.all (fun n=>decide (n.f1.length≤1048576)))
theorem smallB_iff {ns:List ZM} {ts:List PTie} (h:Zdr ns ts=true):(∀x∈ns,x.f1.length≤1048576)∧ns.length≤1048576∧ts.length≤1048576:=by
 unfold Zdr at h
 simp only[Bool.and_eq_true,decide_eq_true_eq,List.all_eq_true] at h
 exact⟨h.2.2,h.1,h.2.1⟩
theorem smallB_of {ns:List ZM} {ts:List PTie} (h:ZbE ns ts):Zdr ns ts=true:=by
 unfold Zdr
 simp only[Bool.and_eq_true,decide_eq_true_eq,List.all_eq_true]
 exact⟨h.1,h.2.1,fun n hn=>(h.2.2 n hn).2⟩
theorem heldIntS_k (w:World) (A:Option Addr) (c:Nat) (a:Int) (n:Nat) (hr:Kd.C (Kd.int .i64) w A n (Zbk a n)) (hc:n≤c) (hl:n≤1048576) (h0:0≤a) (h1:a≤562949953421312) :
  Calls Tryz.prog 139 #[.slice A n c,.int .i64 a] w fun e w'=>e=.returned (.int .i64 (a+n))∧Below w.heap.size w w':=by
 have h:=ZaM.calls (2 ^ 64) A c (Zbk a n) a _ w (by rw[Zbg];exact hr) (by rw[Zbg];exact hc) (heldIntS_f n hl a h0 (by omega) (2 ^ 64) (Nat.le_refl _))
 rw[Zbg] at h
 exact h.mono fun _ _ ⟨he,hd⟩=>⟨he,hd.below⟩
end Go.Proofs.YtoeimopgoaffcaaGreatDoor.Pr
namespace Go.Proofs.YtoeimopgoaffcaaGreatDoor.Pr
open Go.RowKit Go.Proofs.YtoeimopgoaffcaaGreatDoorW.PrintWords Go.Proofs.YtoeimopgoaffcaaGreatDoorW.PrintLast Go.Proofs.YtoeimopgoaffcaaGreatDoorW.PrintMore
attribute [local go_sem] Z2 Z0 Zac Zab ZU ZT Z1 ZZ
set_option linter.unusedVariables false
set_option linter.unusedSimpArgs false
def Zb3.f (k:Nat) (l0_0:List Int) (l0_1:List Int) (a1:Int):Option (Int×List Int×List Int):=(Zai.f k l0_0 a1).bind fun bt35002=>((Zai.f k l0_1 bt35002.1).bind fun bt35004=>(some (bt35004.1,bt35002.2,bt35004.2)))
set_option maxHeartbeats 8000000 in
set_option maxRecDepth 100000 in
theorem Zb3.calls (k:Nat) (P0_0_:Nat→Prop) (u9000_:Value) (l0_0:List Int) (P0_1_:Nat→Prop) (u9001_:Value) (l0_1:List Int) (a1:Int) (r1:Int) (r2:List Int) (r3:List Int) (w0 w:World) (hB:Below w0.heap.size w0 w) (ho0_0:Kd.R (Kd.int .i64) 3 w w0.heap.size P0_0_ u9000_ l0_0) (hp0_0_0_1:∀k_,P0_0_ k_→¬P0_1_ k_) (ho0_1:Kd.R (Kd.int .i64) 3 w w0.heap.size P0_1_ u9001_ l0_1) (hp0_1_0_0:∀k_,P0_1_ k_→¬P0_0_ k_) (h:Zb3.f k l0_0 l0_1 a1=some (r1,r2,r3)) :
  Calls Tryz.prog 35 #[.agg #[u9000_,u9001_],.int .i64 a1] w fun e w'=>e=.returned (.int .i64 r1)∧Kd.R (Kd.int .i64) 3 w' w0.heap.size (fun k_=>((P0_0_ k_∨P0_1_ k_)∨w.heap.size≤k_)) u9000_ r2∧Kd.R (Kd.int .i64) 3 w' w0.heap.size (fun k_=>((P0_0_ k_∨P0_1_ k_)∨w.heap.size≤k_)) u9001_ r3∧Below w0.heap.size w0 w'∧Kept w w' (fun k_=>P0_0_ k_∨P0_1_ k_):=by
 have hu58:=Tryz.underlying58
 have HO0_0:=Za (show Kd.R (Kd.int .i64) 3 w w0.heap.size (fun k_=>((P0_0_ k_∨P0_1_ k_)∨w.heap.size≤k_)∧some k_≠(u9001_:Value).ownBlock) u9000_ l0_0 from Kd.R_mono ho0_0 (fun k_ hk=>⟨(.inl (.inl hk)),fun e_=>hp0_0_0_1 k_ hk (ho0_1.1 k_ e_.symm)⟩))
 have HO0_1:=Za (show Kd.R (Kd.int .i64) 3 w w0.heap.size (fun k_=>((P0_0_ k_∨P0_1_ k_)∨w.heap.size≤k_)∧some k_≠(u9000_:Value).ownBlock) u9001_ l0_1 from Kd.R_mono ho0_1 (fun k_ hk=>⟨(.inl (.inr hk)),fun e_=>hp0_1_0_0 k_ hk (ho0_0.1 k_ e_.symm)⟩))
 have HK:=Za (Kept.refl w (fun k_=>P0_0_ k_∨P0_1_ k_))
 have HW0:=Za hB.size
 have HB:=Za hB;clear hB
 have H:((Zai.f k l0_0 a1).bind fun bt35002=>((Zai.f k l0_1 bt35002.1).bind fun bt35004=>(some (bt35004.1,bt35002.2,bt35004.2))))=some (r1,r2,r3):=h
 clear h
 replace H:=Zh H
 obtain⟨⟨t35002,t35003⟩,A30,H⟩:=H;have A3:=Za A30;clear A30
 replace H:=Zh H
 obtain⟨⟨t35004,t35005⟩,A40,H⟩:=H;have A4:=Za A40;clear A40
 simp only[Option.some.injEq,Prod.mk.injEq] at H
 obtain⟨rfl,rfl,rfl⟩:=H
 obtain⟨Ao5,co5,eo5⟩:=Kd.R_slice HO0_0.out
 subst eo5
 obtain⟨Ao6,co6,eo6⟩:=Kd.R_slice HO0_1.out
 subst eo6
 go_enter Tryz.func35,Tryz.ntmps35
 go_wp2_with (first|((with_reducible refine ZI (N:=2) rfl ?_);refine ZG ?hg (N:=2) ?hd (cs:=#[.slice Ao5 l0_0.length co5,.slice Ao6 l0_1.length co6]) (t:=58) ?hr ?_;(case hd=>rfl);(case hg=>rfl);(case hr=>first|(go_simp;done)|(go_simp;rfl));intro gb35001 hg w7 hbox hb;have BK35001:=Za (hbox);have GW35001:=Za ((by rw[hg];exact(by first|exact HK.out.1|exact(show Kept w _ (fun k_=>P0_0_ k_∨P0_1_ k_) from by repeat(first|(with_reducible first|exact HK.out|apply Kept.alloc|apply Kept.drewN|apply Kept.drew)|exact HK.out)).1):w.heap.size≤gb35001));have GE35001:=Za ((by rw[hg];exact(ZC (by repeat(first|(with_reducible first|exact HB.out|apply Zn|apply Zm|apply Zo)|exact HB.out))):w0.heap.size≤gb35001));replace HO0_0:=Za (Kd.R_below (by(with_reducible repeat(first|apply Kd.R_alloc|apply Kd.R_drewN|apply Kd.R_drew));exact HO0_0.out) hb);replace HO0_1:=Za (Kd.R_below (by(with_reducible repeat(first|apply Kd.R_alloc|apply Kd.R_drewN|apply Kd.R_drew));exact HO0_1.out) hb);replace HK:=Za (Kept.below (S:=(fun k_=>P0_0_ k_∨P0_1_ k_)) (by repeat(first|(with_reducible first|exact HK.out|apply Kept.alloc|apply Kept.drewN|apply Kept.drew)|exact HK.out)) hb);replace HB:=Za (Zt (by repeat(first|(with_reducible first|exact HB.out|apply Zn|apply Zm|apply Zo)|exact HB.out)) hb);clear hb hbox hg;have hcz8_0:w7.cell? ⟨gb35001,0,none⟩=some (.slice Ao5 l0_0.length co5):=(Zp BK35001.out 0).trans rfl;have hcz8_1:w7.cell? ⟨gb35001,1,none⟩=some (.slice Ao6 l0_1.length co6):=(Zp BK35001.out 1).trans rfl)|((with_reducible refine ZK (f:=108) rfl ?_);refine Z6 (some 8) rfl rfl Tryz.func108 (by kernel_rfl) rfl #[.slice Ao5 l0_0.length co5,.int .i64 a1] rfl (by(try simp only[List.map_toArray,List.map_cons,List.map_nil]);first|done|rfl|(simp only[Zk,Zj];rfl)) ?_;(with_reducible refine(Zai.calls k (fun k_=>some k_=(.slice Ao5 l0_0.length co5:Value).ownBlock) (.slice Ao5 l0_0.length co5) l0_0 a1 t35002 t35003 w0 _ ?side1 ?side2 A3.out).mono ?_);(case side1=>repeat(first|(with_reducible first|exact HB.out|apply Zn|apply Zm|apply Zo|refine Zq ?_ GE35001.out)|exact HB.out));(case side2=>exact Kd.R_tight rfl HO0_0.out);rintro e w9 ⟨rfl,hy0,hb,hkp⟩;refine⟨_,rfl,?_⟩;replace HO0_1:=Za (Kd.R_mono (ok':=fun k_=>((P0_0_ k_∨P0_1_ k_)∨w.heap.size≤k_)∧some k_≠(.slice Ao5 l0_0.length co5:Value).ownBlock) (Kd.R_keptB (HO0_1.out) hkp (fun k_ hk_ hs_=>(hk_.2) hs_)) (fun k_ hk_=>⟨hk_.1.1,hk_.1.2⟩));replace BK35001:=Za (Zeq BK35001.out hkp (fun hs_=>(fun e_=>(Kd.R_ne HO0_0.out BK35001.out (by decide)) e_) hs_));replace HK:=Za (Kept.then_ (S:=(fun k_=>P0_0_ k_∨P0_1_ k_)) (by repeat(first|(with_reducible first|exact HK.out|apply Kept.alloc|apply Kept.drewN|apply Kept.drew|refine Kept.setCell ?_ (.inr GW35001.out) _)|exact HK.out)) hkp (fun k_ hs_=>(fun e_=>(HO0_0.out.1 k_ e_.symm).1) hs_));replace HO0_0:=Za (Kd.R_reok rfl hy0 (fun k_ e_=>HO0_0.out.1 k_ e_));replace HB:=Za (hb);(try clear hb);(try clear hkp);(try clear hy0);have hcz10_0:w9.cell? ⟨gb35001,0,none⟩=some (.slice Ao5 l0_0.length co5):=(Zp BK35001.out 0).trans rfl;have hcz10_1:w9.cell? ⟨gb35001,1,none⟩=some (.slice Ao6 l0_1.length co6):=(Zp BK35001.out 1).trans rfl)|((with_reducible refine ZK (f:=108) rfl ?_);refine Z6 (some 12) rfl rfl Tryz.func108 (by kernel_rfl) rfl #[.slice Ao6 l0_1.length co6,.int .i64 t35002] rfl (by(try simp only[List.map_toArray,List.map_cons,List.map_nil]);first|done|rfl|(simp only[Zk,Zj];rfl)) ?_;(with_reducible refine(Zai.calls k (fun k_=>some k_=(.slice Ao6 l0_1.length co6:Value).ownBlock) (.slice Ao6 l0_1.length co6) l0_1 t35002 t35004 t35005 w0 _ ?side1 ?side2 A4.out).mono ?_);(case side1=>repeat(first|(with_reducible first|exact HB.out|apply Zn|apply Zm|apply Zo|refine Zq ?_ GE35001.out)|exact HB.out));(case side2=>exact Kd.R_tight rfl HO0_1.out);rintro e w11 ⟨rfl,hy0,hb,hkp⟩;refine⟨_,rfl,?_⟩;replace HO0_0:=Za (Kd.R_mono (ok':=fun k_=>((P0_0_ k_∨P0_1_ k_)∨w.heap.size≤k_)∧some k_≠(.slice Ao6 l0_1.length co6:Value).ownBlock) (Kd.R_keptB (HO0_0.out) hkp (fun k_ hk_ hs_=>(hk_.2) hs_)) (fun k_ hk_=>⟨hk_.1.1,hk_.1.2⟩));replace BK35001:=Za (Zeq BK35001.out hkp (fun hs_=>(fun e_=>(Kd.R_ne HO0_1.out BK35001.out (by decide)) e_) hs_));replace HK:=Za (Kept.then_ (S:=(fun k_=>P0_0_ k_∨P0_1_ k_)) (by repeat(first|(with_reducible first|exact HK.out|apply Kept.alloc|apply Kept.drewN|apply Kept.drew|refine Kept.setCell ?_ (.inr GW35001.out) _)|exact HK.out)) hkp (fun k_ hs_=>(fun e_=>(HO0_1.out.1 k_ e_.symm).1) hs_));replace HO0_1:=Za (Kd.R_reok rfl hy0 (fun k_ e_=>HO0_1.out.1 k_ e_));replace HB:=Za (hb);(try clear hb);(try clear hkp);(try clear hy0)))
 go_ret
 exact⟨by first|rfl|(simp[ZA,Zz] <;> rfl)|(simp[*,ZA,Zz] <;> rfl),by(with_reducible repeat(first|apply Kd.R_alloc|apply Kd.R_drewN|apply Kd.R_drew));exact Kd.R_mono HO0_0.out (fun _ hk=>hk.1),by(with_reducible repeat(first|apply Kd.R_alloc|apply Kd.R_drewN|apply Kd.R_drew));exact Kd.R_mono HO0_1.out (fun _ hk=>hk.1),by repeat(first|(with_reducible first|exact HB.out|apply Zn|apply Zm|apply Zo|refine Zq ?_ GE35001.out)|exact HB.out),by repeat(first|(with_reducible first|exact HK.out|apply Kept.alloc|apply Kept.drewN|apply Kept.drew|refine Kept.setCell ?_ (.inr GW35001.out) _)|exact HK.out)⟩
end Go.Proofs.YtoeimopgoaffcaaGreatDoor.Pr
namespace Go.Proofs.YtoeimopgoaffcaaGreatDoor.Pr
open Go.RowKit Go.Proofs.YtoeimopgoaffcaaGreatDoorW.PrintWords Go.Proofs.YtoeimopgoaffcaaGreatDoor.Ni
theorem markChoice_k (w0 w:World) (b:Nat) (v1 v2:Value) (l1 l2:List Int) (hB:Below w0.heap.size w0 w) (h1:Kd.R (Kd.int .i64) 3 w w0.heap.size (fun k=>some k≠v2.ownBlock∧k<b) v1 l1) (h2:Kd.R (Kd.int .i64) 3 w w0.heap.size (fun k=>some k≠v1.ownBlock∧k<b) v2 l2) (hl1:l1.length≤1048576) (hl2:l2.length≤1048576) (a:Int) (h0:0≤a) (ha:a≤562949953421312) :
  Calls Tryz.prog 35 #[.agg #[v1,v2],.int .i64 a] w fun e w'=>e=.returned (.int .i64 (a+l1.length+l2.length))∧Kd.R (Kd.int .i64) 3 w' w0.heap.size (fun k=>some k≠v2.ownBlock∧k<b) v1 (Zbk a l1.length)∧Kd.R (Kd.int .i64) 3 w' w0.heap.size (fun k=>some k≠v1.ownBlock∧k<b) v2 (Zbk (a+l1.length) l2.length)∧Below w0.heap.size w0 w'∧Kept w w' (fun k=>k<b):=by
 have ap:∀k,some k=v1.ownBlock→¬some k=v2.ownBlock:=fun k hk e=>(h1.1 k hk.symm).1 e
 have ap2:∀k,some k=v2.ownBlock→¬some k=v1.ownBlock:=fun k hk e=>ap k e hk
 have hf:Zb3.f (2 ^ 64) l1 l2 a=some (a+l1.length+l2.length,Zbk a l1.length,Zbk (a+l1.length) l2.length):=by
  unfold Zb3.f
  rw[Zc0 l1 hl1 a h0 (by omega) (2 ^ 64) (Nat.le_refl _),Zi]
  simp only[]
  rw[Zc0 l2 hl2 _ (by omega) (by omega) (2 ^ 64) (Nat.le_refl _),Zi]
 have h:=Zb3.calls (2 ^ 64) (fun k=>some k=v1.ownBlock) v1 l1 (fun k=>some k=v2.ownBlock) v2 l2 a _ _ _ w0 w hB (Kd.R_tight (by rfl) h1) ap (Kd.R_tight (by rfl) h2) ap2 hf
 refine h.mono ?_
 rintro e w' ⟨he,q1,q2,hb,hk⟩
 exact⟨he,Kd.R_mono (Kd.R_tight (by rfl) q1) (fun k hk=>h1.1 k hk.symm),Kd.R_mono (Kd.R_tight (by rfl) q2) (fun k hk=>h2.1 k hk.symm),hb,hk.mono (fun k hk=>hk.elim (fun e=>(h1.1 k e.symm).2) (fun e=>(h2.1 k e.symm).2))⟩
end Go.Proofs.YtoeimopgoaffcaaGreatDoor.Pr
namespace Go.Proofs.YtoeimopgoaffcaaGreatDoor.Pr
open Go.RowKit Go.Proofs.YtoeimopgoaffcaaGreatDoorW.PrintWords Go.Proofs.YtoeimopgoaffcaaGreatDoorW.PrintLast Go.Proofs.YtoeimopgoaffcaaGreatDoorW.PrintMore
attribute [local go_sem] Z2 Z0 Zac Zab ZU ZT Z1 ZZ
set_option linter.unusedVariables false
set_option linter.unusedSimpArgs false
open Go.Proofs.YtoeimopgoaffcaaGreatDoor.Ni
theorem links_open {w:World} {base:Nat} {ok:Nat→Prop} {v:Value} {xs:List S112} (h:Kd.R k112 112 w base ok v xs) (hn:0<xs.length) :
  ∃g cap cur,v=.slice (some ⟨g,0,none⟩) xs.length cap∧base≤g∧ok g∧w.heap[g]? = some (.cells cur 112 (0,0))∧xs.length * 4≤cur.size:=by
 obtain⟨g,cap,rfl,h2,h3,cur,h4⟩:=Kd.R_form h hn
 refine⟨g,cap,cur,rfl,h2,h.1 _ rfl,h4,?_⟩
 obtain⟨ce,hcl,hM,hcc,_⟩:=Kd.R_elem h z112 ((xs.length - 1:Nat):Int) (by omega) (by omega)
 obtain rfl:=ZeE hM
 have h5:=hcc 3 _ rfl
 rw[Zp h4] at h5
 obtain⟨h6,_⟩:=Array.getElem?_eq_some_iff.1 h5
 simp only[Int.toNat_natCast,show(k112).sz=4 from rfl] at h6
 omega
def Zbn (a:Int):Nat→List S112
 | 0=>[]
 | n+1=>⟨a,a+1,⟨a+2,a+3⟩⟩ :: Zbn (a+4) n
theorem ZbL:∀(n:Nat) (a:Int),(Zbn a n).length=n
 | 0,_=>rfl
 | n+1,a=>by rw[Zbn,List.length_cons,ZbL n]
theorem ZdW:∀(n i:Nat) (a:Int),i<n→(Zbn a n)[i]? = some ⟨a+4 * i,a+4 * i+1,⟨a+4 * i+2,a+4 * i+3⟩⟩
 | n+1,0,a,_=>by simp[Zbn]
 | n+1,i+1,a,h=>by
  rw[Zbn,List.getElem?_cons_succ,ZdW n i (a+4) (by omega),show a+4+4 * (i:Int)=a+4 * ((i+1:Nat):Int) by omega]
theorem linksM_step (xs:List S112) (a:Int) (i:Nat) (hi:i<xs.length):((Zbn a xs.length).take i ++ xs.drop i).set i ⟨a+4 * i,a+4 * i+1,⟨a+4 * i+2,a+4 * i+3⟩⟩=(Zbn a xs.length).take (i+1) ++ xs.drop (i+1):=by
 have hlen:((Zbn a xs.length).take i).length=i:=by rw[Zj,ZbL];omega
 rw[List.set_append_right _ _ (by omega),hlen,Nat.sub_self,Zav hi z112,List.set_cons_zero,List.take_add_one,ZdW _ _ _ hi,List.append_assoc]
 rfl
theorem link_put {w:World} {base g n cap:Nat} {ok:Nat→Prop} {xs:List S112} (h:Kd.R k112 112 w base ok (.slice (some ⟨g,0,none⟩) n cap) xs) (i:Nat) (hi:i<n) (a b c d:Int) :
  Kd.R k112 112 ((((w.setCell ⟨g,i * 4,none⟩ (.int .i64 a)).setCell ⟨g,i * 4+1,none⟩ (.int .i64 b)).setCell ⟨g,i * 4+2,none⟩ (.int .i64 c)).setCell ⟨g,i * 4+3,none⟩ (.int .i64 d)) base ok (.slice (some ⟨g,0,none⟩) n cap) (xs.set i ⟨a,b,⟨c,d⟩⟩):=by
 obtain⟨ce,hcl,hM,hcc,_⟩:=Kd.R_elem h z112 (i:Int) (by omega) (by omega)
 obtain rfl:=ZeE hM
 exact(Kd.R_seg h (i:Int) (by omega) (by omega) (seg:=[.int .i64 a,.int .i64 b,.int .i64 c,.int .i64 d]) (j:=0) hcl hcc (Nat.le_refl 4) (x':=⟨a,b,⟨c,d⟩⟩) (okp:=fun k=>ok k∧k≠g) (ZcA _ _ _ _) (fun k hk=>hk)).1
structure LInv (w wr:World) (g z:Nat):Prop where
 sz:w.heap.size≤wr.heap.size
 far:∀k,k<w.heap.size→k≠g→wr.heap[k]? = w.heap[k]?
 row:∃cur':Array Value,wr.heap[g]? = some (.cells cur' 112 (0,0))∧cur'.size=z
theorem LInv.put {w wr:World} {g z:Nat} (h:LInv w wr g z) (j:Nat) (v:Value):LInv w (wr.setCell ⟨g,j,none⟩ v) g z:=by
 obtain⟨cur',h1,h2⟩:=h.row
 refine⟨by have:=h.sz;simp[World.setCell] at this ⊢;omega,fun k hk hkg=>(Below.heap_setCell wr _ _ k hkg).trans (h.far k hk hkg),_,ZP h1 j v rfl,by simpa using h2⟩
set_option maxHeartbeats 4000000 in
set_option maxRecDepth 100000 in
theorem markLinkS_k (w0 w:World) (ok:Nat→Prop) (v:Value) (xs:List S112) (hB:Below w0.heap.size w0 w) (hs:Kd.R k112 112 w w0.heap.size ok v xs) (hl:xs.length≤1048576) (a:Int) (h0:0≤a) (h1:a≤562949953421312) :
  Calls Tryz.prog 109 #[v,.int .i64 a] w fun e w'=>e=.returned (.int .i64 (a+4 * xs.length))∧Kd.R k112 112 w' w0.heap.size ok v (Zbn a xs.length)∧Below w0.heap.size w0 w'∧Kept w w' ok:=by
 by_cases hn:0<xs.length
 case neg=>
  obtain rfl:xs=[]:=List.eq_nil_of_length_eq_zero (by omega)
  obtain⟨A,c,rfl⟩:=Kd.R_slice hs
  have HB:=Za hB;have HR:=Za hs;clear hB hs hl h0 h1 hn
  go_enter Tryz.func109,Tryz.ntmps109
  go_wp2
  go_loopg [1,5] 1 (fun gg s1 s5 wr=>s1=.int .i64 a∧s5=.int .i64 0∧Aside0 (wr=w))
  case atStart=>exact⟨rfl,rfl,⟨rfl⟩⟩
  case round=>
   obtain⟨rfl,rfl,hw⟩:=hrel
   obtain rfl:=hw.out
   go_wp2
   go_ret
   exact⟨by simp,HR.out,HB.out,Kept.refl _ _⟩
 obtain⟨g,cap,cur,rfl,hbg,hok,hg,hsz⟩:=links_open hs hn
 have HB:=Za hB;have HOK:=Za hok;have HG:=Za hg;have HBG:=Za hbg;have HSZ:=Za hsz;have HR:=Za hs
 obtain⟨n,hnx⟩:∃n,n=xs.length:=⟨_,rfl⟩
 have HN:=Za hnx
 rw[← hnx] at HSZ hn hl HR ⊢
 clear hB hok hg hbg hsz hs hnx
 go_enter Tryz.func109,Tryz.ntmps109
 go_wp2
 go_loopg [1,5] n (fun gg s1 s5 wr=>∃kk:Nat,∃b:Int,Aside0 (kk≤n)∧Aside0 (n - kk≤gg)∧s1=.int .i64 b∧s5=.int .i64 kk∧Aside0 (b=a+4 * kk)∧Aside0 (Kd.R k112 112 wr w0.heap.size ok (.slice (some ⟨g,0,none⟩) n cap) ((Zbn a n).take kk ++ xs.drop kk))∧Aside0 (Below w0.heap.size w0 wr)∧Aside0 (LInv w wr g cur.size))
 case atStart=>exact⟨0,a,⟨Nat.zero_le _⟩,⟨by omega⟩,rfl,rfl,⟨by omega⟩,⟨by simpa using HR.out⟩,HB,⟨⟨Nat.le_refl _,fun _ _ _=>rfl,cur,HG.out,rfl⟩⟩⟩
 case round=>
  obtain⟨kk,b,HK,HGG,rfl,rfl,HBD,HRr,HBr,HI⟩:=hrel
  by_cases hlt2:kk<n
  ·have hltz:(kk:Int)<(n:Int):=by omega
   have hbd:=HBD.out
   have hb0:0≤b:=by omega
   have hb1:b≤562949953421312+4 * 1048576:=by omega
   clear hbd
   obtain⟨cur1,hr1,hz1⟩:=HI.out.row
   have hin:kk * 4+3<cur1.size:=by have:=HSZ.out;omega
   have f0:=Zs hr1 (kk * 4)
   have f1:=Zs hr1 (kk * 4+1)
   have f2:=Zs hr1 (kk * 4+2)
   have f3:=Zs hr1 (kk * 4+3)
   have q0:=Zp hr1 (kk * 4)
   have q1:=Zp hr1 (kk * 4+1)
   have q2:=Zp hr1 (kk * 4+2)
   have q3:=Zp hr1 (kk * 4+3)
   obtain⟨u0,hu0⟩:∃u,cur1[kk * 4]? = some u:=⟨_,Array.getElem?_eq_getElem (by omega)⟩
   obtain⟨u1,hu1⟩:∃u,cur1[kk * 4+1]? = some u:=⟨_,Array.getElem?_eq_getElem (by omega)⟩
   obtain⟨u2,hu2⟩:∃u,cur1[kk * 4+2]? = some u:=⟨_,Array.getElem?_eq_getElem (by omega)⟩
   obtain⟨u3,hu3⟩:∃u,cur1[kk * 4+3]? = some u:=⟨_,Array.getElem?_eq_getElem (by omega)⟩
   rw[hu0] at q0
   rw[hu1] at q1
   rw[hu2] at q2
   rw[hu3] at q3
   clear hu0 hu1 hu2 hu3 hr1 hz1 hin
   have hw1:wrap64 (b+1)=b+1:=ZaJ (by omega) (by omega)
   have hw2:wrap64 (b+1+1)=b+1+1:=ZaJ (by omega) (by omega)
   have hw3:wrap64 (b+1+1+1)=b+1+1+1:=ZaJ (by omega) (by omega)
   have hw4:wrap64 (b+1+1+1+1)=b+1+1+1+1:=ZaJ (by omega) (by omega)
   go_wp2
   go_roundg (n - (kk+1))
   case measure=>have:=HGG.out;omega
   case rel=>
    have h9:=link_put HRr.out kk hlt2 b (b+1) (b+1+1) (b+1+1+1)
    refine⟨kk+1,b+1+1+1+1,⟨by omega⟩,⟨by omega⟩,by first|rfl|go_num,by go_num,⟨by have:=HBD.out;omega⟩,⟨?_⟩,⟨Zq (Zq (Zq (Zq HBr.out HBG.out) HBG.out) HBG.out) HBG.out⟩,⟨(((HI.out.put _ _).put _ _).put _ _).put _ _⟩⟩
    have h8:=linksM_step xs a kk (by have:=HN.out;omega)
    rw[← HN.out,← HBD.out,show b+2=b+1+1 by omega,show b+3=b+1+1+1 by omega] at h8
    rw[← h8]
    exact h9
  ·have hltz:¬(kk:Int)<(n:Int):=by omega
   have:kk=n:=by have:=HK.out;omega
   subst this
   go_wp2
   go_ret
   refine⟨by rw[HBD.out];rfl,by have h9:=HRr.out;rw[List.take_of_length_le (by rw[ZbL];exact Nat.le_refl _),show xs.drop kk=[] from List.drop_eq_nil_of_le (by rw[HN.out];exact Nat.le_refl _),List.append_nil] at h9;exact h9,HBr.out,HI.out.sz,fun k hk hn9=>HI.out.far k hk (fun e=>hn9 (e ▸ HOK.out))⟩
theorem Zfu {w:World} {base:Nat} {ok:Nat→Prop} {A:Option Addr} {n c:Nat} {a:Int} (h:Kd.R k112 112 w base ok (.slice A n c) (Zbn a n)):n≤c∧Kd.C k112 w A n (Zbn a n):=by
 have h2:=Kd.R_reads' h
 rw[ZbL] at h2
 exact h2.2
end Go.Proofs.YtoeimopgoaffcaaGreatDoor.Pr
namespace Go.Proofs.YtoeimopgoaffcaaGreatDoor.Pr
open Go.RowKit Go.Proofs.YtoeimopgoaffcaaGreatDoorW.PrintWords Go.Proofs.YtoeimopgoaffcaaGreatDoorW.PrintLast Go.Proofs.YtoeimopgoaffcaaGreatDoorW.PrintMore
attribute [local go_sem] Z2 Z0 Zac Zab ZU ZT Z1 ZZ
set_option linter.unusedVariables false
set_option linter.unusedSimpArgs false
def Zaq.l0:Nat→List (S112)→Int→Int→Option (Int)
 | 0,_,_,_=>none
 | k+1,x0,x1,x5=>if x5<(x0.length:Int) then(if 0≤x5 then(if ((ZQ x0 x5).f0)=x1 then(if ((ZQ x0 x5).f1)=(wrap64 (x1+1)) then(if ((ZQ x0 x5).f2.f0)=(wrap64 ((wrap64 (x1+1))+1)) then(if ((ZQ x0 x5).f2.f1)=(wrap64 ((wrap64 ((wrap64 (x1+1))+1))+1)) then(Zaq.l0 k x0 (wrap64 ((wrap64 ((wrap64 ((wrap64 (x1+1))+1))+1))+1)) (wrap64 (x5+1))) else(some (-1))) else(some (-1))) else(some (-1))) else(some (-1))) else(none)) else(some x1)
def Zaq.f (k:Nat) (l0:List (S112)) (a1:Int):Option (Int):=Zaq.l0 k l0 a1 0
set_option maxHeartbeats 8000000 in
set_option maxRecDepth 100000 in
theorem Zaq.calls (k:Nat) (A0:Option Addr) (c0:Nat) (l0:List (S112)) (a1:Int) (r:Int) (w:World) (hr0:Kd.C k112 w A0 l0.length l0) (hc0:l0.length≤c0) (h:Zaq.f k l0 a1=some r) :
  Calls Tryz.prog 110 #[.slice A0 l0.length c0,.int .i64 a1] w fun e w'=>e=.returned (.int .i64 r)∧ZF w w':=by
 have HR0:=Za hr0;have HC0:=Za hc0;clear hr0 hc0
 have H:(Zaq.l0 k l0 a1 0)=some r:=h
 clear h
 have H':=Za H
 clear H
 go_enter Tryz.func110,Tryz.ntmps110
 go_wp2
 go_loopg [1,5] k (fun kq v1 v5 w'=>∃(x1_1:Int) (x5_1:Int),v1=.int .i64 x1_1∧v5=.int .i64 x5_1∧Aside0 (Zaq.l0 kq l0 x1_1 x5_1=some r)∧Aside0 (kq≤k)∧ZF w w')
 case atStart=>exact⟨(a1),(0),(by first|rfl|(simp;done)|(simp[*];done)),(by first|rfl|(simp;done)|(simp[*];done)),H',⟨Nat.le_refl _⟩,by repeat(first|exact ZF.refl _|apply ZF.step)⟩
 case round=>
  clear H'
  try clear c1
  try clear p2
  obtain⟨x1_1,x5_1,rfl,rfl,HA,HK1,⟨m1,rfl⟩⟩:=hrel
  cases gk with
  | zero=>exact absurd HA.out (by simp[Zaq.l0])
  | succ k1=>
   have H:=HA.out
   clear HA
   simp only[Zaq.l0] at H
   by_cases c3:x5_1<(l0.length:Int)
   ·rw[if_pos c3] at H
    have c3b0:decide (x5_1<(l0.length:Int))=true:=Ze c3
    clear c3
    by_cases c4:0≤x5_1
    ·rw[if_pos c4] at H
     have c4b0:decide (0≤x5_1)=true:=Ze c4
     clear c4
     by_cases c5:((ZQ l0 x5_1).f0)=x1_1
     ·rw[if_pos c5] at H
      have c5b0:(((ZQ l0 x5_1).f0) == x1_1)=true:=beq_iff_eq.mpr c5
      clear c5
      by_cases c6:((ZQ l0 x5_1).f1)=(wrap64 (x1_1+1))
      ·rw[if_pos c6] at H
       have c6b0:(((ZQ l0 x5_1).f1) == (wrap64 (x1_1+1)))=true:=beq_iff_eq.mpr c6
       clear c6
       by_cases c7:((ZQ l0 x5_1).f2.f0)=(wrap64 ((wrap64 (x1_1+1))+1))
       ·rw[if_pos c7] at H
        have c7b0:(((ZQ l0 x5_1).f2.f0) == (wrap64 ((wrap64 (x1_1+1))+1)))=true:=beq_iff_eq.mpr c7
        clear c7
        by_cases c8:((ZQ l0 x5_1).f2.f1)=(wrap64 ((wrap64 ((wrap64 (x1_1+1))+1))+1))
        ·rw[if_pos c8] at H
         have c8b0:(((ZQ l0 x5_1).f2.f1) == (wrap64 ((wrap64 ((wrap64 (x1_1+1))+1))+1)))=true:=beq_iff_eq.mpr c8
         clear c8
         have H':=Za H
         clear H
         have p110001:0≤(x5_1:Int):=Zd (by first|(with_reducible assumption)|assumption)
         have q110001:x5_1<(l0.length:Int):=Zd (by first|(with_reducible assumption)|assumption)
         obtain⟨ad110001,e110001,hx110001_0,hx110001_1,hx110001_2,hx110001_3⟩:=Za6 HR0.out x5_1 p110001 q110001
         cases e110001
         replace p110001:=eq_true p110001
         replace q110001:=eq_true q110001
         have p110002:0≤(x5_1:Int):=Zd (by first|(with_reducible assumption)|assumption)
         have q110002:x5_1<(l0.length:Int):=Zd (by first|(with_reducible assumption)|assumption)
         obtain⟨ad110002,e110002,hx110002_0,hx110002_1,hx110002_2,hx110002_3⟩:=Za6 HR0.out x5_1 p110002 q110002
         obtain rfl:ad110001=ad110002:=(by injection e110002)
         replace p110002:=eq_true p110002
         replace q110002:=eq_true q110002
         have p110003:0≤(x5_1:Int):=Zd (by first|(with_reducible assumption)|assumption)
         have q110003:x5_1<(l0.length:Int):=Zd (by first|(with_reducible assumption)|assumption)
         obtain⟨ad110003,e110003,hx110003_0,hx110003_1,hx110003_2,hx110003_3⟩:=Za6 HR0.out x5_1 p110003 q110003
         obtain rfl:ad110001=ad110003:=(by injection e110003)
         replace p110003:=eq_true p110003
         replace q110003:=eq_true q110003
         have p110004:0≤(x5_1:Int):=Zd (by first|(with_reducible assumption)|assumption)
         have q110004:x5_1<(l0.length:Int):=Zd (by first|(with_reducible assumption)|assumption)
         obtain⟨ad110004,e110004,hx110004_0,hx110004_1,hx110004_2,hx110004_3⟩:=Za6 HR0.out x5_1 p110004 q110004
         obtain rfl:ad110001=ad110004:=(by injection e110004)
         replace p110004:=eq_true p110004
         replace q110004:=eq_true q110004
         go_wp2
         go_roundg k1
         case measure=>have:=HK1.out;omega
         case rel=>exact⟨(wrap64 ((wrap64 ((wrap64 ((wrap64 (x1_1+1))+1))+1))+1)),(wrap64 (x5_1+1)),(by first|rfl|(simp;done)|(simp[*];done)),(by first|rfl|(simp;done)|(simp[*];done)),H',⟨by have:=HK1.out;omega⟩,by repeat(first|exact ZF.refl _|apply ZF.step)⟩
        ·rw[if_neg c8] at H
         have c8b0:(((ZQ l0 x5_1).f2.f1) == (wrap64 ((wrap64 ((wrap64 (x1_1+1))+1))+1)))=false:=beq_eq_false_iff_ne.mpr c8
         obtain rfl:=Zg H
         have p110001:0≤(x5_1:Int):=Zd (by first|(with_reducible assumption)|assumption)
         have q110001:x5_1<(l0.length:Int):=Zd (by first|(with_reducible assumption)|assumption)
         obtain⟨ad110001,e110001,hx110001_0,hx110001_1,hx110001_2,hx110001_3⟩:=Za6 HR0.out x5_1 p110001 q110001
         cases e110001
         replace p110001:=eq_true p110001
         replace q110001:=eq_true q110001
         have p110002:0≤(x5_1:Int):=Zd (by first|(with_reducible assumption)|assumption)
         have q110002:x5_1<(l0.length:Int):=Zd (by first|(with_reducible assumption)|assumption)
         obtain⟨ad110002,e110002,hx110002_0,hx110002_1,hx110002_2,hx110002_3⟩:=Za6 HR0.out x5_1 p110002 q110002
         obtain rfl:ad110001=ad110002:=(by injection e110002)
         replace p110002:=eq_true p110002
         replace q110002:=eq_true q110002
         have p110003:0≤(x5_1:Int):=Zd (by first|(with_reducible assumption)|assumption)
         have q110003:x5_1<(l0.length:Int):=Zd (by first|(with_reducible assumption)|assumption)
         obtain⟨ad110003,e110003,hx110003_0,hx110003_1,hx110003_2,hx110003_3⟩:=Za6 HR0.out x5_1 p110003 q110003
         obtain rfl:ad110001=ad110003:=(by injection e110003)
         replace p110003:=eq_true p110003
         replace q110003:=eq_true q110003
         have p110004:0≤(x5_1:Int):=Zd (by first|(with_reducible assumption)|assumption)
         have q110004:x5_1<(l0.length:Int):=Zd (by first|(with_reducible assumption)|assumption)
         obtain⟨ad110004,e110004,hx110004_0,hx110004_1,hx110004_2,hx110004_3⟩:=Za6 HR0.out x5_1 p110004 q110004
         obtain rfl:ad110001=ad110004:=(by injection e110004)
         replace p110004:=eq_true p110004
         replace q110004:=eq_true q110004
         go_wp2
         go_ret
         exact⟨by first|rfl|(simp;done)|(simp[*];done),by repeat(first|exact ZF.refl _|apply ZF.step)⟩
       ·rw[if_neg c7] at H
        have c7b0:(((ZQ l0 x5_1).f2.f0) == (wrap64 ((wrap64 (x1_1+1))+1)))=false:=beq_eq_false_iff_ne.mpr c7
        obtain rfl:=Zg H
        have p110001:0≤(x5_1:Int):=Zd (by first|(with_reducible assumption)|assumption)
        have q110001:x5_1<(l0.length:Int):=Zd (by first|(with_reducible assumption)|assumption)
        obtain⟨ad110001,e110001,hx110001_0,hx110001_1,hx110001_2,hx110001_3⟩:=Za6 HR0.out x5_1 p110001 q110001
        cases e110001
        replace p110001:=eq_true p110001
        replace q110001:=eq_true q110001
        have p110002:0≤(x5_1:Int):=Zd (by first|(with_reducible assumption)|assumption)
        have q110002:x5_1<(l0.length:Int):=Zd (by first|(with_reducible assumption)|assumption)
        obtain⟨ad110002,e110002,hx110002_0,hx110002_1,hx110002_2,hx110002_3⟩:=Za6 HR0.out x5_1 p110002 q110002
        obtain rfl:ad110001=ad110002:=(by injection e110002)
        replace p110002:=eq_true p110002
        replace q110002:=eq_true q110002
        have p110003:0≤(x5_1:Int):=Zd (by first|(with_reducible assumption)|assumption)
        have q110003:x5_1<(l0.length:Int):=Zd (by first|(with_reducible assumption)|assumption)
        obtain⟨ad110003,e110003,hx110003_0,hx110003_1,hx110003_2,hx110003_3⟩:=Za6 HR0.out x5_1 p110003 q110003
        obtain rfl:ad110001=ad110003:=(by injection e110003)
        replace p110003:=eq_true p110003
        replace q110003:=eq_true q110003
        go_wp2
        go_ret
        exact⟨by first|rfl|(simp;done)|(simp[*];done),by repeat(first|exact ZF.refl _|apply ZF.step)⟩
      ·rw[if_neg c6] at H
       have c6b0:(((ZQ l0 x5_1).f1) == (wrap64 (x1_1+1)))=false:=beq_eq_false_iff_ne.mpr c6
       obtain rfl:=Zg H
       have p110001:0≤(x5_1:Int):=Zd (by first|(with_reducible assumption)|assumption)
       have q110001:x5_1<(l0.length:Int):=Zd (by first|(with_reducible assumption)|assumption)
       obtain⟨ad110001,e110001,hx110001_0,hx110001_1,hx110001_2,hx110001_3⟩:=Za6 HR0.out x5_1 p110001 q110001
       cases e110001
       replace p110001:=eq_true p110001
       replace q110001:=eq_true q110001
       have p110002:0≤(x5_1:Int):=Zd (by first|(with_reducible assumption)|assumption)
       have q110002:x5_1<(l0.length:Int):=Zd (by first|(with_reducible assumption)|assumption)
       obtain⟨ad110002,e110002,hx110002_0,hx110002_1,hx110002_2,hx110002_3⟩:=Za6 HR0.out x5_1 p110002 q110002
       obtain rfl:ad110001=ad110002:=(by injection e110002)
       replace p110002:=eq_true p110002
       replace q110002:=eq_true q110002
       go_wp2
       go_ret
       exact⟨by first|rfl|(simp;done)|(simp[*];done),by repeat(first|exact ZF.refl _|apply ZF.step)⟩
     ·rw[if_neg c5] at H
      have c5b0:(((ZQ l0 x5_1).f0) == x1_1)=false:=beq_eq_false_iff_ne.mpr c5
      obtain rfl:=Zg H
      have p110001:0≤(x5_1:Int):=Zd (by first|(with_reducible assumption)|assumption)
      have q110001:x5_1<(l0.length:Int):=Zd (by first|(with_reducible assumption)|assumption)
      obtain⟨ad110001,e110001,hx110001_0,hx110001_1,hx110001_2,hx110001_3⟩:=Za6 HR0.out x5_1 p110001 q110001
      cases e110001
      replace p110001:=eq_true p110001
      replace q110001:=eq_true q110001
      go_wp2
      go_ret
      exact⟨by first|rfl|(simp;done)|(simp[*];done),by repeat(first|exact ZF.refl _|apply ZF.step)⟩
    ·rw[if_neg c4] at H
     exact absurd H (by simp)
   ·rw[if_neg c3] at H
    have c3b0:decide (x5_1<(l0.length:Int))=false:=Zf c3
    clear c3
    obtain rfl:=Zg H
    go_wp2
    go_ret
    exact⟨by first|rfl|(simp;done)|(simp[*];done),by repeat(first|exact ZF.refl _|apply ZF.step)⟩
def Zb4.f (k:Nat) (a0_0:Int) (l0_1:List (S112)) (a1:Int):Option (Int):=(Zaq.f k l0_1 a1).bind fun t37002=>(if t37002<0 then(some (-1)) else(some t37002))
set_option maxHeartbeats 8000000 in
set_option maxRecDepth 100000 in
theorem Zb4.calls (k:Nat) (a0_0:Int) (A0_1:Option Addr) (c0_1:Nat) (l0_1:List (S112)) (a1:Int) (r:Int) (w:World) (hr0_1:Kd.C k112 w A0_1 l0_1.length l0_1) (hc0_1:l0_1.length≤c0_1) (h:Zb4.f k a0_0 l0_1 a1=some r) :
  Calls Tryz.prog 37 #[.agg #[.int .i64 a0_0,.slice A0_1 l0_1.length c0_1],.int .i64 a1] w fun e w'=>e=.returned (.int .i64 r)∧Below w.heap.size w w':=by
 have hu54:=Tryz.underlying54
 have HR0_1:=Za hr0_1;have HC0_1:=Za hc0_1;clear hr0_1 hc0_1
 have HB:=Za (Below.refl w.heap.size w)
 have H:((Zaq.f k l0_1 a1).bind fun t37002=>(if t37002<0 then(some (-1)) else(some t37002)))=some r:=h
 clear h
 replace H:=Zh H
 obtain⟨t37002,A30,H⟩:=H
 replace H:(if t37002<0 then(some (-1)) else(some t37002))=some r:=H
 have A3:=Za A30;clear A30
 by_cases c4:t37002<0
 ·rw[if_pos c4] at H
  have c4b0:decide (t37002<0)=true:=Ze c4
  clear c4
  obtain rfl:=Zg H
  go_enter Tryz.func37,Tryz.ntmps37
  go_wp2_with (first|((with_reducible refine ZI (N:=2) rfl ?_);refine ZG ?hg (N:=2) ?hd (cs:=#[.int .i64 a0_0,.slice A0_1 l0_1.length c0_1]) (t:=54) ?hr ?_;(case hd=>rfl);(case hg=>rfl);(case hr=>first|(go_simp;done)|(go_simp;rfl));intro gb37001 hg w5 hbox hb;have BK37001:=Za (hbox);have GW37001:=Za ((by rw[hg];exact(ZC (by repeat(first|(with_reducible first|exact HB.out|apply Zn|apply Zm|apply Zo)|exact HB.out))):w.heap.size≤gb37001));have GE37001:=Za ((by rw[hg];exact(ZC (by repeat(first|(with_reducible first|exact HB.out|apply Zn|apply Zm|apply Zo)|exact HB.out))):w.heap.size≤gb37001));replace HB:=Za (Zt (by repeat(first|(with_reducible first|exact HB.out|apply Zn|apply Zm|apply Zo)|exact HB.out)) hb);clear hb hbox hg;have hcz6_0:w5.cell? ⟨gb37001,0,none⟩=some (.int .i64 a0_0):=(Zp BK37001.out 0).trans rfl;have hcz6_1:w5.cell? ⟨gb37001,1,none⟩=some (.slice A0_1 l0_1.length c0_1):=(Zp BK37001.out 1).trans rfl;have hfz6_0:=Zs BK37001.out 0;have hfz6_1:=Zs BK37001.out 1)|((with_reducible refine ZK (f:=110) rfl ?_);refine Z6 (some 8) rfl rfl Tryz.func110 (by kernel_rfl) rfl #[.slice A0_1 l0_1.length c0_1,.int .i64 a1] rfl (by(try simp only[List.map_toArray,List.map_cons,List.map_nil]);first|done|rfl|(simp only[Zk,Zj];rfl)) ?_;(with_reducible refine(Zaq.calls k _ _ l0_1 a1 t37002 _ ?side1 ?side2 A3.out).mono ?_);(case side1=>repeat(first|exact(Zb HR0_1.out HB.out)|(with_reducible refine Kd.C_alloc ?_ _)|(with_reducible refine Kd.C_drewN ?_ _)|(with_reducible refine Kd.C_drew ?_)));(case side2=>exact HC0_1.out);rintro e w' ⟨rfl,⟨nd,rfl⟩⟩;refine⟨_,rfl,?_⟩))
  go_ret
  exact⟨by first|rfl|(simp[ZA,Zz] <;> rfl)|(simp[*,ZA,Zz] <;> rfl),by repeat(first|(with_reducible first|exact HB.out|apply Zn|apply Zm|apply Zo|refine Zq ?_ GE37001.out)|exact HB.out)⟩
 ·rw[if_neg c4] at H
  have c4b0:decide (t37002<0)=false:=Zf c4
  clear c4
  obtain rfl:=Zg H
  go_enter Tryz.func37,Tryz.ntmps37
  go_wp2_with (first|((with_reducible refine ZI (N:=2) rfl ?_);refine ZG ?hg (N:=2) ?hd (cs:=#[.int .i64 a0_0,.slice A0_1 l0_1.length c0_1]) (t:=54) ?hr ?_;(case hd=>rfl);(case hg=>rfl);(case hr=>first|(go_simp;done)|(go_simp;rfl));intro gb37001 hg w7 hbox hb;have BK37001:=Za (hbox);have GW37001:=Za ((by rw[hg];exact(ZC (by repeat(first|(with_reducible first|exact HB.out|apply Zn|apply Zm|apply Zo)|exact HB.out))):w.heap.size≤gb37001));have GE37001:=Za ((by rw[hg];exact(ZC (by repeat(first|(with_reducible first|exact HB.out|apply Zn|apply Zm|apply Zo)|exact HB.out))):w.heap.size≤gb37001));replace HB:=Za (Zt (by repeat(first|(with_reducible first|exact HB.out|apply Zn|apply Zm|apply Zo)|exact HB.out)) hb);clear hb hbox hg;have hcz8_0:w7.cell? ⟨gb37001,0,none⟩=some (.int .i64 a0_0):=(Zp BK37001.out 0).trans rfl;have hcz8_1:w7.cell? ⟨gb37001,1,none⟩=some (.slice A0_1 l0_1.length c0_1):=(Zp BK37001.out 1).trans rfl;have hfz8_0:=Zs BK37001.out 0;have hfz8_1:=Zs BK37001.out 1)|((with_reducible refine ZK (f:=110) rfl ?_);refine Z6 (some 8) rfl rfl Tryz.func110 (by kernel_rfl) rfl #[.slice A0_1 l0_1.length c0_1,.int .i64 a1] rfl (by(try simp only[List.map_toArray,List.map_cons,List.map_nil]);first|done|rfl|(simp only[Zk,Zj];rfl)) ?_;(with_reducible refine(Zaq.calls k _ _ l0_1 a1 t37002 _ ?side1 ?side2 A3.out).mono ?_);(case side1=>repeat(first|exact(Zb HR0_1.out HB.out)|(with_reducible refine Kd.C_alloc ?_ _)|(with_reducible refine Kd.C_drewN ?_ _)|(with_reducible refine Kd.C_drew ?_)));(case side2=>exact HC0_1.out);rintro e w' ⟨rfl,⟨nd,rfl⟩⟩;refine⟨_,rfl,?_⟩))
  go_ret
  exact⟨by first|rfl|(simp[ZA,Zz] <;> rfl)|(simp[*,ZA,Zz] <;> rfl),by repeat(first|(with_reducible first|exact HB.out|apply Zn|apply Zm|apply Zo|refine Zq ?_ GE37001.out)|exact HB.out)⟩
end Go.Proofs.YtoeimopgoaffcaaGreatDoor.Pr
namespace Go.Proofs.YtoeimopgoaffcaaGreatDoor.Pr
open Go.RowKit Go.Proofs.YtoeimopgoaffcaaGreatDoorW.PrintWords Go.Proofs.YtoeimopgoaffcaaGreatDoor.Ni
theorem heldLinkS_f (n:Nat) (hl:n≤1048576) (a:Int) (h0:0≤a) (h1:a≤1152921504606846976) (k:Nat) (hk:2 ^ 64≤k):Zaq.f k (Zbn a n) a=some (a+4 * n):=by
 have key:=ZaN n (fun k i=>Zaq.l0 k (Zbn a n) (a+4 * i) (i:Int)=some (a+4 * n)) 0
  (fun k _=>by
   simp only[Zaq.l0]
   rw[if_neg (by rw[ZbL];omega)])
  (fun k i _ hi ih=>by
   simp only[Zaq.l0]
   have e:ZQ (Zbn a n) (i:Int)=⟨a+4 * i,a+4 * i+1,⟨a+4 * i+2,a+4 * i+3⟩⟩:=by
    unfold ZQ
    rw[Int.toNat_natCast,List.getD_eq_getElem?_getD,ZdW _ _ _ hi]
    rfl
   have w1:wrap64 (a+4 * (i:Int)+1)=a+4 * i+1:=ZaJ (by omega) (by omega)
   have w2:wrap64 (a+4 * (i:Int)+1+1)=a+4 * i+2:=by rw[ZaJ (by omega) (by omega)];omega
   have w3:wrap64 (a+4 * (i:Int)+2+1)=a+4 * i+3:=by rw[ZaJ (by omega) (by omega)];omega
   have w4:wrap64 (a+4 * (i:Int)+3+1)=a+4 * ((i+1:Nat):Int):=by rw[ZaJ (by omega) (by omega)];omega
   rw[if_pos (by rw[ZbL];omega),if_pos (by omega),e]
   simp only[]
   rw[w1,w2,w3,w4,if_pos rfl,if_pos rfl,if_pos rfl,if_pos trivial,ZR hi (by omega)]
   exact ih) 0 k (Nat.zero_le _) (by omega)
 unfold Zaq.f
 simpa using key
theorem ZdZ (w:World) (A:Option Addr) (c:Nat) (z a:Int) (n:Nat) (hr:Kd.C k112 w A n (Zbn a n)) (hc:n≤c) (hl:n≤1048576) (h0:0≤a) (ha:a≤562949953421312) :
  Calls Tryz.prog 37 #[.agg #[.int .i64 z,.slice A n c],.int .i64 a] w fun e w'=>e=.returned (.int .i64 (a+4 * n))∧Below w.heap.size w w':=by
 have hf:Zb4.f (2 ^ 64) z (Zbn a n) a=some (a+4 * n):=by
  unfold Zb4.f
  rw[heldLinkS_f n hl a h0 (by omega) (2 ^ 64) (Nat.le_refl _),Zi,if_neg (by omega)]
 have h:=Zb4.calls (2 ^ 64) z A c (Zbn a n) a _ w (by rw[ZbL];exact hr) (by rw[ZbL];exact hc) hf
 rw[ZbL] at h
 exact h
deriving instance DecidableEq for S110
deriving instance DecidableEq for S112
end Go.Proofs.YtoeimopgoaffcaaGreatDoor.Pr
namespace Go.Proofs.YtoeimopgoaffcaaGreatDoor.Pr
open Go.RowKit Go.Proofs.YtoeimopgoaffcaaGreatDoorW.PrintWords Go.Proofs.YtoeimopgoaffcaaGreatDoorW.PrintLast Go.Proofs.YtoeimopgoaffcaaGreatDoorW.PrintMore
attribute [local go_sem] Z2 Z0 Zac Zab ZU ZT Z1 ZZ
set_option linter.unusedVariables false
set_option linter.unusedSimpArgs false
def Zcm.f (k:Nat) (a0_0:ByteArray) (l0_1:List Int) (a0_2:Int):Option (ByteArray×List Int×Int):=(Zam.f k l0_1).bind fun t158004=>(some (a0_0,t158004,a0_2))
set_option maxHeartbeats 8000000 in
set_option maxRecDepth 100000 in
theorem Zcm.calls (k:Nat) (a0_0:ByteArray) (A0_1:Option Addr) (c0_1:Nat) (l0_1:List Int) (a0_2:Int) (r1:ByteArray) (r2:List Int) (r3:Int) (w:World) (hr0_1:Kd.C (Kd.int .i64) w A0_1 l0_1.length l0_1) (hc0_1:l0_1.length≤c0_1) (h:Zcm.f k a0_0 l0_1 a0_2=some (r1,r2,r3)) :
  Calls Tryz.prog 158 #[.agg #[.string a0_0,.slice A0_1 l0_1.length c0_1,.int .i64 a0_2]] w fun e w'=>∃v1_:Value,e=.returned (.agg #[.string r1,v1_,.int .i64 r3])∧Kd.R (Kd.int .i64) 3 w' w.heap.size (fun _=>True) v1_ r2∧Below w.heap.size w w':=by
 have hu143:=Tryz.underlying143
 have hu39:=Tryz.underlying39
 have HR0_1:=Za hr0_1;have HC0_1:=Za hc0_1;clear hr0_1 hc0_1
 have HB:=Za (Below.refl w.heap.size w)
 have H:((Zam.f k l0_1).bind fun t158004=>(some (a0_0,t158004,a0_2)))=some (r1,r2,r3):=h
 clear h
 replace H:=Zh H
 obtain⟨t158004,A20,H⟩:=H
 replace H:(some (a0_0,t158004,a0_2))=some (r1,r2,r3):=H
 have A2:=Za A20;clear A20
 simp only[Option.some.injEq,Prod.mk.injEq] at H
 obtain⟨rfl,rfl,rfl⟩:=H
 go_enter Tryz.func158,Tryz.ntmps158
 go_wp2_with (first|((with_reducible refine ZI (N:=1) rfl ?_);refine ZG ?hg (N:=1) ?hd (cs:=#[.string a0_0,.slice A0_1 l0_1.length c0_1,.int .i64 a0_2]) (t:=143) ?hr ?_;(case hd=>rfl);(case hg=>rfl);(case hr=>first|(go_simp;done)|(go_simp;rfl));intro gb158001 hg w3 hbox hb;have BK158001:=Za (hbox);have GW158001:=Za ((by rw[hg];exact(ZC (by repeat(first|(with_reducible first|exact HB.out|apply Zn|apply Zm|apply Zo)|exact HB.out))):w.heap.size≤gb158001));have GE158001:=Za ((by rw[hg];exact(ZC (by repeat(first|(with_reducible first|exact HB.out|apply Zn|apply Zm|apply Zo)|exact HB.out))):w.heap.size≤gb158001));replace HB:=Za (Zt (by repeat(first|(with_reducible first|exact HB.out|apply Zn|apply Zm|apply Zo)|exact HB.out)) hb);clear hb hbox hg)|((with_reducible refine ZI (N:=2) rfl ?_);refine ZG ?hg (N:=2) ?hd (cs:=#[.string (⟨#[]⟩:ByteArray),.slice none 0 0,.int .i64 0]) (t:=39) ?hr ?_;(case hd=>rfl);(case hg=>rfl);(case hr=>first|(go_simp;done)|(go_simp;rfl));intro gb158002 hg w4 hbox hb;have n0_:=Za (Zx (g:=gb158001) (o:=.cells #[.string a0_0,.slice A0_1 l0_1.length c0_1,.int .i64 a0_2] 143 (0,0)) BK158001.out hb);have n1_:=Za (Zt (by repeat(first|(with_reducible first|exact HB.out|apply Zn|apply Zm|apply Zo|refine Zq ?_ GE158001.out)|exact HB.out)) hb);have n2_:=Za (hbox);have n3_:=Za ((by rw[hg];exact(ZC (by repeat(first|(with_reducible first|exact HB.out|apply Zn|apply Zm|apply Zo|refine Zq ?_ GE158001.out)|exact HB.out))):w.heap.size≤gb158002));have n4_:=n3_;have n5_:=Za ((by rw[hg];exact Nat.ne_of_lt (ZW (g:=gb158001) (o:=.cells #[.string a0_0,.slice A0_1 l0_1.length c0_1,.int .i64 a0_2] 143 (0,0)) BK158001.out):gb158001≠gb158002));have n6_:=Za n5_.out.symm;clear BK158001;clear HB;have BK158001:=n0_;have HB:=n1_;have BK158002:=n2_;have GW158002:=n3_;have GE158002:=n4_;have NB158001_158002:=n5_;have NB158002_158001:=n6_;clear n0_ n1_ n2_ n3_ n4_ n5_ n6_;clear hb hbox hg)|((with_reducible refine ZI (N:=3) rfl ?_);refine ZG ?hg (N:=3) ?hd (cs:=#[.string (⟨#[]⟩:ByteArray),.slice none 0 0,.int .i64 0]) (t:=39) ?hr ?_;(case hd=>rfl);(case hg=>rfl);(case hr=>first|(go_simp;done)|(go_simp;rfl));intro gb158003 hg w5 hbox hb;have n0_:=Za (Zx (g:=gb158001) (o:=.cells #[.string a0_0,.slice A0_1 l0_1.length c0_1,.int .i64 a0_2] 143 (0,0)) BK158001.out hb);have n1_:=Za (Zx (g:=gb158002) (o:=.cells #[.string (⟨#[]⟩:ByteArray),.slice none 0 0,.int .i64 0] 39 (0,0)) BK158002.out hb);have n2_:=Za (Zt (by repeat(first|(with_reducible first|exact HB.out|apply Zn|apply Zm|apply Zo|refine Zq ?_ GE158001.out|refine Zq ?_ GE158002.out)|exact HB.out)) hb);have n3_:=Za (hbox);have n4_:=Za ((by rw[hg];exact(ZC (by repeat(first|(with_reducible first|exact HB.out|apply Zn|apply Zm|apply Zo|refine Zq ?_ GE158001.out|refine Zq ?_ GE158002.out)|exact HB.out))):w.heap.size≤gb158003));have n5_:=n4_;have n6_:=Za ((by rw[hg];exact Nat.ne_of_lt (ZW (g:=gb158001) (o:=.cells #[.string a0_0,.slice A0_1 l0_1.length c0_1,.int .i64 a0_2] 143 (0,0)) BK158001.out):gb158001≠gb158003));have n7_:=Za n6_.out.symm;have n8_:=Za ((by rw[hg];exact Nat.ne_of_lt (ZW (g:=gb158002) (o:=.cells #[.string (⟨#[]⟩:ByteArray),.slice none 0 0,.int .i64 0] 39 (0,0)) BK158002.out):gb158002≠gb158003));have n9_:=Za n8_.out.symm;clear BK158001;clear BK158002;clear HB;have BK158001:=n0_;have BK158002:=n1_;have HB:=n2_;have BK158003:=n3_;have GW158003:=n4_;have GE158003:=n5_;have NB158001_158003:=n6_;have NB158003_158001:=n7_;have NB158002_158003:=n8_;have NB158003_158002:=n9_;clear n0_ n1_ n2_ n3_ n4_ n5_ n6_ n7_ n8_ n9_;clear hb hbox hg;have hnb6:=NB158001_158002.out;have hnc6:=NB158002_158001.out;have hnb7:=NB158001_158003.out;have hnc7:=NB158003_158001.out;have hcz8_0:w5.cell? ⟨gb158001,0,none⟩=some (.string a0_0):=(Zp BK158001.out 0).trans rfl;have hcz8_1:w5.cell? ⟨gb158001,1,none⟩=some (.slice A0_1 l0_1.length c0_1):=(Zp BK158001.out 1).trans rfl;have hcz8_2:w5.cell? ⟨gb158001,2,none⟩=some (.int .i64 a0_2):=(Zp BK158001.out 2).trans rfl;have hfz8_0:=Zs BK158001.out 0;have hfz8_1:=Zs BK158001.out 1;have hfz8_2:=Zs BK158001.out 2;have hnb9:=NB158003_158002.out;have hnc9:=NB158002_158003.out;have hcz10_0:w5.cell? ⟨gb158003,0,none⟩=some (.string (⟨#[]⟩:ByteArray)):=(Zp BK158003.out 0).trans rfl;have hcz10_1:w5.cell? ⟨gb158003,1,none⟩=some (.slice none 0 0):=(Zp BK158003.out 1).trans rfl;have hcz10_2:w5.cell? ⟨gb158003,2,none⟩=some (.int .i64 0):=(Zp BK158003.out 2).trans rfl;have hfz10_0:=Zs BK158003.out 0;have hfz10_1:=Zs BK158003.out 1;have hfz10_2:=Zs BK158003.out 2)|((with_reducible refine ZK (f:=102) rfl ?_);refine Z6 (some 9) rfl rfl Tryz.func102 (by kernel_rfl) rfl #[.slice A0_1 l0_1.length c0_1] rfl (by(try simp only[List.map_toArray,List.map_cons,List.map_nil]);first|done|rfl|(simp only[Zk,Zj];rfl)) ?_;(with_reducible refine(Zam.calls k _ _ l0_1 t158004 _ ?side1 ?side2 A2.out).mono ?_);(case side1=>exact Zb HR0_1.out (by repeat(first|(with_reducible first|exact HB.out|apply Zn|apply Zm|apply Zo|refine Zq ?_ GE158001.out|refine Zq ?_ GE158002.out|refine Zq ?_ GE158003.out)|exact HB.out)));(case side2=>exact HC0_1.out);rintro e w11 ⟨v158005,rfl,ho0,hb⟩;refine⟨_,rfl,?_⟩;have HO158006:=Za (Kd.R_lower ho0 (ZC (by repeat(first|(with_reducible first|exact HB.out|apply Zn|apply Zm|apply Zo|refine Zq ?_ GE158001.out|refine Zq ?_ GE158002.out|refine Zq ?_ GE158003.out)|exact HB.out))));replace BK158001:=Za (Zx (g:=gb158001) (o:=.cells #[.string a0_0,.slice A0_1 l0_1.length c0_1,.int .i64 a0_2] 143 (0,0)) (by(with_reducible repeat(first|refine Zw ?_ _|refine ZB ?_|refine Zv ?_ _));refine ZL ?_ NB158001_158003.out _;(with_reducible repeat(first|refine Zw ?_ _|refine ZB ?_|refine Zv ?_ _));exact BK158001.out) hb);replace BK158002:=Za (Zx (g:=gb158002) (o:=.cells #[.string (⟨#[]⟩:ByteArray),.slice none 0 0,.int .i64 0] 39 (0,0)) (by(with_reducible repeat(first|refine Zw ?_ _|refine ZB ?_|refine Zv ?_ _));refine ZL ?_ NB158002_158003.out _;(with_reducible repeat(first|refine Zw ?_ _|refine ZB ?_|refine Zv ?_ _));exact BK158002.out) hb);replace BK158003:=Za (Zx (g:=gb158003) (o:=.cells #[.string a0_0,.slice none 0 0,.int .i64 0] 39 (0,0)) (by(with_reducible repeat(first|refine Zw ?_ _|refine ZB ?_|refine Zv ?_ _));refine ZP (cs:=#[.string (⟨#[]⟩:ByteArray),.slice none 0 0,.int .i64 0]) ?_ 0 _ rfl;(with_reducible repeat(first|refine Zw ?_ _|refine ZB ?_|refine Zv ?_ _));exact BK158003.out) hb);replace HB:=Za (Zt (by repeat(first|(with_reducible first|exact HB.out|apply Zn|apply Zm|apply Zo|refine Zq ?_ GE158001.out|refine Zq ?_ GE158002.out|refine Zq ?_ GE158003.out)|exact HB.out)) hb);(try clear hb);(try clear hb2);(try clear hk);(try clear hi);(try clear ho0);obtain⟨Ao12,co12,eo12⟩:=Kd.R_slice HO158006.out;subst eo12;have hcz13_0:w11.cell? ⟨gb158003,0,none⟩=some (.string a0_0):=(Zp BK158003.out 0).trans rfl;have hcz13_1:w11.cell? ⟨gb158003,1,none⟩=some (.slice none 0 0):=(Zp BK158003.out 1).trans rfl;have hcz13_2:w11.cell? ⟨gb158003,2,none⟩=some (.int .i64 0):=(Zp BK158003.out 2).trans rfl;have hfz13_0:=Zs BK158003.out 0;have hfz13_1:=Zs BK158003.out 1;have hfz13_2:=Zs BK158003.out 2;have hcz14_0:w11.cell? ⟨gb158001,0,none⟩=some (.string a0_0):=(Zp BK158001.out 0).trans rfl;have hcz14_1:w11.cell? ⟨gb158001,1,none⟩=some (.slice A0_1 l0_1.length c0_1):=(Zp BK158001.out 1).trans rfl;have hcz14_2:w11.cell? ⟨gb158001,2,none⟩=some (.int .i64 a0_2):=(Zp BK158001.out 2).trans rfl;have hfz14_0:=Zs BK158001.out 0;have hfz14_1:=Zs BK158001.out 1;have hfz14_2:=Zs BK158001.out 2;have hcz15_0:w11.cell? ⟨gb158002,0,none⟩=some (.string (⟨#[]⟩:ByteArray)):=(Zp BK158002.out 0).trans rfl;have hcz15_1:w11.cell? ⟨gb158002,1,none⟩=some (.slice none 0 0):=(Zp BK158002.out 1).trans rfl;have hcz15_2:w11.cell? ⟨gb158002,2,none⟩=some (.int .i64 0):=(Zp BK158002.out 2).trans rfl;have hfz15_0:=Zs BK158002.out 0;have hfz15_1:=Zs BK158002.out 1;have hfz15_2:=Zs BK158002.out 2))
 refine bodyPost_ret (results_cell_row rfl _ _ gb158002 39 #[.string a0_0,.slice Ao12 t158004.length co12,.int .i64 a0_2] (0,0) _ rfl (by(with_reducible repeat(first|refine Zw ?_ _|refine ZB ?_|refine Zv ?_ _));refine ZP (cs:=#[.string a0_0,.slice Ao12 t158004.length co12,.int .i64 0]) ?_ 2 _ rfl;(with_reducible repeat(first|refine Zw ?_ _|refine ZB ?_|refine Zv ?_ _));refine ZP (cs:=#[.string a0_0,.slice none 0 0,.int .i64 0]) ?_ 1 _ rfl;(with_reducible repeat(first|refine Zw ?_ _|refine ZB ?_|refine Zv ?_ _));refine ZP (cs:=#[.string (⟨#[]⟩:ByteArray),.slice none 0 0,.int .i64 0]) ?_ 0 _ rfl;(with_reducible repeat(first|refine Zw ?_ _|refine ZB ?_|refine Zv ?_ _));refine ZL ?_ NB158002_158003.out _;(with_reducible repeat(first|refine Zw ?_ _|refine ZB ?_|refine Zv ?_ _));refine ZL ?_ NB158002_158003.out _;(with_reducible repeat(first|refine Zw ?_ _|refine ZB ?_|refine Zv ?_ _));exact BK158002.out) Tryz.underlying39 rfl (by kernel_rfl)) rfl ?_
 exact⟨_,by first|rfl|(simp[ZA,Zz] <;> rfl)|(simp[*,ZA,Zz] <;> rfl),by(with_reducible repeat(first|apply Kd.R_alloc|apply Kd.R_drewN|apply Kd.R_drew));exact Kd.R_mono (Kd.R_far (p:=⟨gb158002,2,none⟩) (Kd.R_far (p:=⟨gb158002,1,none⟩) (Kd.R_far (p:=⟨gb158002,0,none⟩) (Kd.R_far (p:=⟨gb158003,2,none⟩) (Kd.R_far (p:=⟨gb158003,1,none⟩) (Kd.R_types (Kd.R_types HO158006.out BK158003.out (by decide)) BK158002.out (by decide)) (fun _ hk=>hk.1.2) (.slice Ao12 t158004.length co12)) (fun _ hk=>hk.1.2) (.int .i64 a0_2)) (fun _ hk=>hk.2) (.string a0_0)) (fun _ hk=>hk.2) (.slice Ao12 t158004.length co12)) (fun _ hk=>hk.2) (.int .i64 a0_2)) (fun _ hk=>trivial),by repeat(first|(with_reducible first|exact HB.out|apply Zn|apply Zm|apply Zo|refine Zq ?_ GE158001.out|refine Zq ?_ GE158002.out|refine Zq ?_ GE158003.out)|exact HB.out)⟩
end Go.Proofs.YtoeimopgoaffcaaGreatDoor.Pr
