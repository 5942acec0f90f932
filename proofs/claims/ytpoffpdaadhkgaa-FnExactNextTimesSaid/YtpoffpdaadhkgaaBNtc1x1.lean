/- The texts of one claim, put together by a program of this session. -/
import Derived.Test.YtpoffpdaadhkgaaProg
import Derived.Below
import Derived.Deep.Draws
import Derived.Deep.AppendLies
import Derived.Maps.AppendAt
import Derived.OwnWalk
import Derived.Laws.BytesArg
import Derived.Laws.MakeOwn
import Derived.Laws.OwnMore
import Derived.Deep.OwnRows
import Derived.Tactics
import Derived.Lib.ConvBytes
import Derived.Laws.Slices
import Derived.WalkKit
import Derived.KernelRfl
import Derived.RowKit3
import Derived.Deep.LoopGhost
import Derived.Deep.QuietTactic
import Derived.BigQuiet
import Derived.WideLaws
import Derived.Deep.DeepCutAuto
import Derived.Deep.CutBlock
import Derived.Deep.RegionHeld3
import Derived.Laws.Rows
import Derived.Lib.AppendStr
import Derived.ArgAppend
import Derived.Laws.IdiomCopy
import Derived.OrdersHeld
import Derived.Laws.BitsLemmas
import Derived.RowKit
import Derived.ChangeArms
import Derived.ChangeSlices
import Derived.WideShapes
import Derived.Deep.Slices
import Derived.Shelf.Abstract
import Derived.Test.YtpoffpdaadhkgaaBNt0
namespace Go.Proofs.Ytpoffpdaadhkgaa.Pr
open Go.RowKit Go.Proofs.YtpoffpdaadhkgaaW.PrintWords Go.Proofs.YtpoffpdaadhkgaaW.PrintLast Go.Proofs.YtpoffpdaadhkgaaW.PrintMore
attribute [local go_sem] Zaj Zah Zaq Zap Zac Zab Zai Zag
set_option linter.unusedVariables false
set_option linter.unusedSimpArgs false
def errW:Option Int→Value
 | none=>.nilIface
 | some c=>.iface 0 (.int .i64 c)
theorem ZA:errW none=.nilIface:=rfl
theorem Zz (c:Int):errW (some c)=.iface 0 (.int .i64 c):=rfl
theorem Za2:(Try.prog.info? 3).map (fun i=>(i.zero,i.size,i.bytes))=some (some (.int .i64 0),1,8):=by kernel_rfl
theorem info4:(Try.prog.info? 4).map (fun i=>(i.zero,i.size,i.bytes))=some (some (.bool false),1,1):=by kernel_rfl
theorem Zcu:(Try.prog.info? 101).map (fun i=>(i.zero,i.size,i.bytes))=some (some (.agg #[(.int .i64 0),(.int .i64 0),(.int .i64 0),(.int .i64 0)]),4,32):=by kernel_rfl
theorem info120:(Try.prog.info? 120).map (fun i=>(i.zero,i.size,i.bytes))=some (some (.agg #[(.string ⟨#[]⟩),(.slice none 0 0),(.int .i64 0)]),3,48):=by kernel_rfl
theorem info126:(Try.prog.info? 126).map (fun i=>(i.zero,i.size,i.bytes))=some (some (.agg #[(.int .i64 0),(.int .i64 0),(.int .i64 0),(.int .i64 0),(.bool false)]),5,40):=by kernel_rfl
theorem ZbO:(Try.prog.info? 148).map (fun i=>(i.zero,i.size,i.bytes))=some (some (.agg #[(.int .i64 0),(.int .i64 0),(.int .i64 0)]),3,24):=by kernel_rfl
structure S29 where
 f0:Int
 f1:Int
def z29:S29:=⟨(0:Int),(0:Int)⟩
def k29:Kd S29:=Kd.iso (Kd.pair (Kd.int .i64) (Kd.int .i64)) (fun x:S29=>(x.f0,x.f1))
theorem k29_open {w:World} {x:S29} {cs:List Value} (h:k29.K w x cs):cs=[.int .i64 x.f0,.int .i64 x.f1]:=by
 obtain⟨_,_,rfl,rfl,rfl⟩:=h
 exact rfl
theorem k29_openM {w:World} {base:Nat} {ok:Nat→Prop} {x:S29} {cs:List Value} (h:k29.M w base ok x cs):cs=[.int .i64 x.f0,.int .i64 x.f1]:=by
 obtain⟨_,_,rfl,rfl,rfl⟩:=h
 exact rfl
theorem k29_mkM (w:World) (base:Nat) (ok:Nat→Prop) (x:S29)  : k29.M w base ok x [.int .i64 x.f0,.int .i64 x.f1]:=⟨[.int .i64 x.f0],[.int .i64 x.f1],rfl,rfl,rfl⟩
def rd_T29 (xs:List S29) (i:Int):S29:=xs.getD i.toNat z29
structure S101 where
 f0:Int
 f1:Int
 f2:S29
def z101:S101:=⟨(0:Int),(0:Int),z29⟩
def k101:Kd S101:=Kd.iso (Kd.pair (Kd.int .i64) (Kd.pair (Kd.int .i64) k29)) (fun x:S101=>(x.f0,x.f1,x.f2))
theorem k101_open {w:World} {x:S101} {cs:List Value} (h:k101.K w x cs):cs=[.int .i64 x.f0,.int .i64 x.f1,.int .i64 x.f2.f0,.int .i64 x.f2.f1]:=by
 obtain⟨_,_,rfl,rfl,⟨_,_,rfl,rfl,s2⟩⟩:=h
 obtain rfl:=k29_open s2
 exact rfl
theorem Zda {w:World} {base:Nat} {ok:Nat→Prop} {x:S101} {cs:List Value} (h:k101.M w base ok x cs):cs=[.int .i64 x.f0,.int .i64 x.f1,.int .i64 x.f2.f0,.int .i64 x.f2.f1]:=by
 obtain⟨_,_,rfl,rfl,⟨_,_,rfl,rfl,s2⟩⟩:=h
 obtain rfl:=k29_openM s2
 exact rfl
theorem ZcD (w:World) (base:Nat) (ok:Nat→Prop) (x:S101)  : k101.M w base ok x [.int .i64 x.f0,.int .i64 x.f1,.int .i64 x.f2.f0,.int .i64 x.f2.f1]:=⟨[.int .i64 x.f0],[.int .i64 x.f1,.int .i64 x.f2.f0,.int .i64 x.f2.f1],rfl,rfl,⟨[.int .i64 x.f1],[.int .i64 x.f2.f0,.int .i64 x.f2.f1],rfl,rfl,(k29_mkM w base ok x.f2 )⟩⟩
def Zw (xs:List S101) (i:Int):S101:=xs.getD i.toNat z101
theorem Za9 {w:World} {A:Option Addr} {n:Nat} {xs:List S101} (h:Kd.C k101 w A n xs) (i:Int) (h0:0≤i) (h1:i<n):∃ad ,A=some ad∧w.cell? (ad.add (i.toNat * 4))=some (.int .i64 (Zw xs i).f0)∧w.cell? ⟨(ad.add (i.toNat * 4)).block,(ad.add (i.toNat * 4)).off+1,none⟩=some (.int .i64 (Zw xs i).f1)∧w.cell? ⟨(ad.add (i.toNat * 4)).block,(ad.add (i.toNat * 4)).off+2,none⟩=some (.int .i64 (Zw xs i).f2.f0)∧w.cell? ⟨(ad.add (i.toNat * 4)).block,(ad.add (i.toNat * 4)).off+3,none⟩=some (.int .i64 (Zw xs i).f2.f1):=by
 obtain⟨ad,c,e,_,hK,hc0⟩:=Kd.C_get h z101 i h0 h1
 have hc:∀j u,c[j]? = some u→w.cell? (ad.add (i.toNat * 4+j))=some u:=hc0
 obtain rfl:=k101_open hK
 exact⟨ad,e,hc 0 _ rfl,by rw[← Zay _ _ 1 (by omega)];exact hc 1 _ rfl,by rw[← Zay _ _ 2 (by omega)];exact hc 2 _ rfl,by rw[← Zay _ _ 3 (by omega)];exact hc 3 _ rfl⟩
def rd_L4 (xs:List (List S101)) (i:Int):(List S101):=xs.getD i.toNat ([]:List S101)
structure S25 where
 f0:Int
 f1:(List S101)
def z25:S25:=⟨(0:Int),([]:List S101)⟩
def k25:Kd S25:=Kd.iso (Kd.pair (Kd.int .i64) (Kd.slice 101 k101)) (fun x:S25=>(x.f0,x.f1))
def rd_T25 (xs:List S25) (i:Int):S25:=xs.getD i.toNat z25
structure S148 where
 f0:Int
 f1:Int
 f2:Int
def z148:S148:=⟨(0:Int),(0:Int),(0:Int)⟩
def k148:Kd S148:=Kd.iso (Kd.pair (Kd.int .i64) (Kd.pair (Kd.int .i64) (Kd.int .i64))) (fun x:S148=>(x.f0,x.f1,x.f2))
theorem k148_open {w:World} {x:S148} {cs:List Value} (h:k148.K w x cs):cs=[.int .i64 x.f0,.int .i64 x.f1,.int .i64 x.f2]:=by
 obtain⟨_,_,rfl,rfl,⟨_,_,rfl,rfl,rfl⟩⟩:=h
 exact rfl
theorem ZbE (w:World) (base:Nat) (ok:Nat→Prop) (x:S148)  : k148.M w base ok x [.int .i64 x.f0,.int .i64 x.f1,.int .i64 x.f2]:=⟨[.int .i64 x.f0],[.int .i64 x.f1,.int .i64 x.f2],rfl,rfl,⟨[.int .i64 x.f1],[.int .i64 x.f2],rfl,rfl,rfl⟩⟩
def Z7 (xs:List S148) (i:Int):S148:=xs.getD i.toNat z148
theorem Zbh {w:World} {A:Option Addr} {n:Nat} {xs:List S148} (h:Kd.C k148 w A n xs) (i:Int) (h0:0≤i) (h1:i<n):∃ad ,A=some ad∧w.cell? (ad.add (i.toNat * 3))=some (.int .i64 (Z7 xs i).f0)∧w.cell? ⟨(ad.add (i.toNat * 3)).block,(ad.add (i.toNat * 3)).off+1,none⟩=some (.int .i64 (Z7 xs i).f1)∧w.cell? ⟨(ad.add (i.toNat * 3)).block,(ad.add (i.toNat * 3)).off+2,none⟩=some (.int .i64 (Z7 xs i).f2):=by
 obtain⟨ad,c,e,_,hK,hc0⟩:=Kd.C_get h z148 i h0 h1
 have hc:∀j u,c[j]? = some u→w.cell? (ad.add (i.toNat * 3+j))=some u:=hc0
 obtain rfl:=k148_open hK
 exact⟨ad,e,hc 0 _ rfl,by rw[← Zay _ _ 1 (by omega)];exact hc 1 _ rfl,by rw[← Zay _ _ 2 (by omega)];exact hc 2 _ rfl⟩
def rd_L7 (xs:List (List S148)) (i:Int):(List S148):=xs.getD i.toNat ([]:List S148)
structure S95 where
 f0:Int
 f1:(List S148)
def z95:S95:=⟨(0:Int),([]:List S148)⟩
def k95:Kd S95:=Kd.iso (Kd.pair (Kd.int .i64) (Kd.slice 148 k148)) (fun x:S95=>(x.f0,x.f1))
def rd_T95 (xs:List S95) (i:Int):S95:=xs.getD i.toNat z95
def rd_L9 (xs:List (List Int)) (i:Int):(List Int):=xs.getD i.toNat ([]:List Int)
structure S154 where
 f0:Int
 f1:Int
def z154:S154:=⟨(0:Int),(0:Int)⟩
def k154:Kd S154:=Kd.iso (Kd.pair (Kd.int .i64) (Kd.int .i64)) (fun x:S154=>(x.f0,x.f1))
theorem k154_open {w:World} {x:S154} {cs:List Value} (h:k154.K w x cs):cs=[.int .i64 x.f0,.int .i64 x.f1]:=by
 obtain⟨_,_,rfl,rfl,rfl⟩:=h
 exact rfl
def rd_T154 (xs:List S154) (i:Int):S154:=xs.getD i.toNat z154
structure S156 where
 f0:Int
 f1:Int
 f2:S154
def z156:S156:=⟨(0:Int),(0:Int),z154⟩
def k156:Kd S156:=Kd.iso (Kd.pair (Kd.int .i64) (Kd.pair (Kd.int .i64) k154)) (fun x:S156=>(x.f0,x.f1,x.f2))
theorem k156_open {w:World} {x:S156} {cs:List Value} (h:k156.K w x cs):cs=[.int .i64 x.f0,.int .i64 x.f1,.int .i64 x.f2.f0,.int .i64 x.f2.f1]:=by
 obtain⟨_,_,rfl,rfl,⟨_,_,rfl,rfl,s2⟩⟩:=h
 obtain rfl:=k154_open s2
 exact rfl
def ZaZ (xs:List S156) (i:Int):S156:=xs.getD i.toNat z156
theorem at_T156 {w:World} {A:Option Addr} {n:Nat} {xs:List S156} (h:Kd.C k156 w A n xs) (i:Int) (h0:0≤i) (h1:i<n):∃ad ,A=some ad∧w.cell? (ad.add (i.toNat * 4))=some (.int .i64 (ZaZ xs i).f0)∧w.cell? ⟨(ad.add (i.toNat * 4)).block,(ad.add (i.toNat * 4)).off+1,none⟩=some (.int .i64 (ZaZ xs i).f1)∧w.cell? ⟨(ad.add (i.toNat * 4)).block,(ad.add (i.toNat * 4)).off+2,none⟩=some (.int .i64 (ZaZ xs i).f2.f0)∧w.cell? ⟨(ad.add (i.toNat * 4)).block,(ad.add (i.toNat * 4)).off+3,none⟩=some (.int .i64 (ZaZ xs i).f2.f1):=by
 obtain⟨ad,c,e,_,hK,hc0⟩:=Kd.C_get h z156 i h0 h1
 have hc:∀j u,c[j]? = some u→w.cell? (ad.add (i.toNat * 4+j))=some u:=hc0
 obtain rfl:=k156_open hK
 exact⟨ad,e,hc 0 _ rfl,by rw[← Zay _ _ 1 (by omega)];exact hc 1 _ rfl,by rw[← Zay _ _ 2 (by omega)];exact hc 2 _ rfl,by rw[← Zay _ _ 3 (by omega)];exact hc 3 _ rfl⟩
structure S159 where
 f0:ByteArray
 f1:(List Int)
 f2:Int
def z159:S159:=⟨(⟨#[]⟩:ByteArray),([]:List Int),(0:Int)⟩
def k159:Kd S159:=Kd.iso (Kd.pair Kd.string (Kd.pair (Kd.slice 3 (Kd.int .i64)) (Kd.int .i64))) (fun x:S159=>(x.f0,x.f1,x.f2))
theorem k159_open {w:World} {x:S159} {cs:List Value} (h:k159.K w x cs):∃A1 c1,cs=[.string x.f0,.slice A1 x.f1.length c1,.int .i64 x.f2]∧x.f1.length≤c1∧(Kd.int .i64).C w A1 x.f1.length x.f1:=by
 obtain⟨_,_,rfl,rfl,⟨_,_,rfl,⟨A1,c1,rfl,l1,g1⟩,rfl⟩⟩:=h
 exact⟨A1,c1,rfl,l1,g1⟩
def Zb8 (xs:List S159) (i:Int):S159:=xs.getD i.toNat z159
theorem at_T159 {w:World} {A:Option Addr} {n:Nat} {xs:List S159} (h:Kd.C k159 w A n xs) (i:Int) (h0:0≤i) (h1:i<n):∃ad A1 c1,A=some ad∧w.cell? (ad.add (i.toNat * 3))=some (.string (Zb8 xs i).f0)∧w.cell? ⟨(ad.add (i.toNat * 3)).block,(ad.add (i.toNat * 3)).off+1,none⟩=some (.slice A1 (Zb8 xs i).f1.length c1)∧w.cell? ⟨(ad.add (i.toNat * 3)).block,(ad.add (i.toNat * 3)).off+2,none⟩=some (.int .i64 (Zb8 xs i).f2)∧(Zb8 xs i).f1.length≤c1∧(Kd.int .i64).C w A1 (Zb8 xs i).f1.length (Zb8 xs i).f1:=by
 obtain⟨ad,c,e,_,hK,hc0⟩:=Kd.C_get h z159 i h0 h1
 have hc:∀j u,c[j]? = some u→w.cell? (ad.add (i.toNat * 3+j))=some u:=hc0
 obtain⟨A1,c1,rfl,l1,g1⟩:=k159_open hK
 exact⟨ad,A1,c1,e,hc 0 _ rfl,by rw[← Zay _ _ 1 (by omega)];exact hc 1 _ rfl,by rw[← Zay _ _ 2 (by omega)];exact hc 2 _ rfl,l1,g1⟩
structure S165 where
 f0:Int
 f1:Int
 f2:Int
 f3:Int
 f4:Bool
def z165:S165:=⟨(0:Int),(0:Int),(0:Int),(0:Int),false⟩
def k165:Kd S165:=Kd.iso (Kd.pair (Kd.int .i64) (Kd.pair (Kd.int .i64) (Kd.pair (Kd.int .i64) (Kd.pair (Kd.int .i64) Kd.bool)))) (fun x:S165=>(x.f0,x.f1,x.f2,x.f3,x.f4))
theorem k165_open {w:World} {x:S165} {cs:List Value} (h:k165.K w x cs):cs=[.int .i64 x.f0,.int .i64 x.f1,.int .i64 x.f2,.int .i64 x.f3,.bool x.f4]:=by
 obtain⟨_,_,rfl,rfl,⟨_,_,rfl,rfl,⟨_,_,rfl,rfl,⟨_,_,rfl,rfl,rfl⟩⟩⟩⟩:=h
 exact rfl
def Zcs (xs:List S165) (i:Int):S165:=xs.getD i.toNat z165
theorem at_T165 {w:World} {A:Option Addr} {n:Nat} {xs:List S165} (h:Kd.C k165 w A n xs) (i:Int) (h0:0≤i) (h1:i<n):∃ad ,A=some ad∧w.cell? (ad.add (i.toNat * 5))=some (.int .i64 (Zcs xs i).f0)∧w.cell? ⟨(ad.add (i.toNat * 5)).block,(ad.add (i.toNat * 5)).off+1,none⟩=some (.int .i64 (Zcs xs i).f1)∧w.cell? ⟨(ad.add (i.toNat * 5)).block,(ad.add (i.toNat * 5)).off+2,none⟩=some (.int .i64 (Zcs xs i).f2)∧w.cell? ⟨(ad.add (i.toNat * 5)).block,(ad.add (i.toNat * 5)).off+3,none⟩=some (.int .i64 (Zcs xs i).f3)∧w.cell? ⟨(ad.add (i.toNat * 5)).block,(ad.add (i.toNat * 5)).off+4,none⟩=some (.bool (Zcs xs i).f4):=by
 obtain⟨ad,c,e,_,hK,hc0⟩:=Kd.C_get h z165 i h0 h1
 have hc:∀j u,c[j]? = some u→w.cell? (ad.add (i.toNat * 5+j))=some u:=hc0
 obtain rfl:=k165_open hK
 exact⟨ad,e,hc 0 _ rfl,by rw[← Zay _ _ 1 (by omega)];exact hc 1 _ rfl,by rw[← Zay _ _ 2 (by omega)];exact hc 2 _ rfl,by rw[← Zay _ _ 3 (by omega)];exact hc 3 _ rfl,by rw[← Zay _ _ 4 (by omega)];exact hc 4 _ rfl⟩
structure S120 where
 f0:ByteArray
 f1:(List Int)
 f2:Int
def z120:S120:=⟨(⟨#[]⟩:ByteArray),([]:List Int),(0:Int)⟩
def k120:Kd S120:=Kd.iso (Kd.pair Kd.string (Kd.pair (Kd.slice 3 (Kd.int .i64)) (Kd.int .i64))) (fun x:S120=>(x.f0,x.f1,x.f2))
theorem k120_open {w:World} {x:S120} {cs:List Value} (h:k120.K w x cs):∃A1 c1,cs=[.string x.f0,.slice A1 x.f1.length c1,.int .i64 x.f2]∧x.f1.length≤c1∧(Kd.int .i64).C w A1 x.f1.length x.f1:=by
 obtain⟨_,_,rfl,rfl,⟨_,_,rfl,⟨A1,c1,rfl,l1,g1⟩,rfl⟩⟩:=h
 exact⟨A1,c1,rfl,l1,g1⟩
theorem k120_openM {w:World} {base:Nat} {ok:Nat→Prop} {x:S120} {cs:List Value} (h:k120.M w base ok x cs):∃v1,cs=[.string x.f0,v1,.int .i64 x.f2]∧(Kd.int .i64).R 3 w base ok v1 x.f1:=by
 obtain⟨_,_,rfl,rfl,⟨_,_,rfl,⟨v1,rfl,g1⟩,rfl⟩⟩:=h
 exact⟨v1,rfl,g1⟩
theorem k120_mkM (w:World) (base:Nat) (ok:Nat→Prop) (x:S120) {v1:Value} (g1:(Kd.int .i64).R 3 w base ok v1 x.f1):k120.M w base ok x [.string x.f0,v1,.int .i64 x.f2]:=⟨[.string x.f0],[v1,.int .i64 x.f2],rfl,rfl,⟨[v1],[.int .i64 x.f2],rfl,⟨v1,rfl,g1⟩,rfl⟩⟩
def Zb9 (xs:List S120) (i:Int):S120:=xs.getD i.toNat z120
theorem at_T120 {w:World} {A:Option Addr} {n:Nat} {xs:List S120} (h:Kd.C k120 w A n xs) (i:Int) (h0:0≤i) (h1:i<n):∃ad A1 c1,A=some ad∧w.cell? (ad.add (i.toNat * 3))=some (.string (Zb9 xs i).f0)∧w.cell? ⟨(ad.add (i.toNat * 3)).block,(ad.add (i.toNat * 3)).off+1,none⟩=some (.slice A1 (Zb9 xs i).f1.length c1)∧w.cell? ⟨(ad.add (i.toNat * 3)).block,(ad.add (i.toNat * 3)).off+2,none⟩=some (.int .i64 (Zb9 xs i).f2)∧(Zb9 xs i).f1.length≤c1∧(Kd.int .i64).C w A1 (Zb9 xs i).f1.length (Zb9 xs i).f1:=by
 obtain⟨ad,c,e,_,hK,hc0⟩:=Kd.C_get h z120 i h0 h1
 have hc:∀j u,c[j]? = some u→w.cell? (ad.add (i.toNat * 3+j))=some u:=hc0
 obtain⟨A1,c1,rfl,l1,g1⟩:=k120_open hK
 exact⟨ad,A1,c1,e,hc 0 _ rfl,by rw[← Zay _ _ 1 (by omega)];exact hc 1 _ rfl,by rw[← Zay _ _ 2 (by omega)];exact hc 2 _ rfl,l1,g1⟩
structure S126 where
 f0:Int
 f1:Int
 f2:Int
 f3:Int
 f4:Bool
def z126:S126:=⟨(0:Int),(0:Int),(0:Int),(0:Int),false⟩
def k126:Kd S126:=Kd.iso (Kd.pair (Kd.int .i64) (Kd.pair (Kd.int .i64) (Kd.pair (Kd.int .i64) (Kd.pair (Kd.int .i64) Kd.bool)))) (fun x:S126=>(x.f0,x.f1,x.f2,x.f3,x.f4))
theorem k126_open {w:World} {x:S126} {cs:List Value} (h:k126.K w x cs):cs=[.int .i64 x.f0,.int .i64 x.f1,.int .i64 x.f2,.int .i64 x.f3,.bool x.f4]:=by
 obtain⟨_,_,rfl,rfl,⟨_,_,rfl,rfl,⟨_,_,rfl,rfl,⟨_,_,rfl,rfl,rfl⟩⟩⟩⟩:=h
 exact rfl
theorem k126_openM {w:World} {base:Nat} {ok:Nat→Prop} {x:S126} {cs:List Value} (h:k126.M w base ok x cs):cs=[.int .i64 x.f0,.int .i64 x.f1,.int .i64 x.f2,.int .i64 x.f3,.bool x.f4]:=by
 obtain⟨_,_,rfl,rfl,⟨_,_,rfl,rfl,⟨_,_,rfl,rfl,⟨_,_,rfl,rfl,rfl⟩⟩⟩⟩:=h
 exact rfl
theorem k126_mkM (w:World) (base:Nat) (ok:Nat→Prop) (x:S126)  : k126.M w base ok x [.int .i64 x.f0,.int .i64 x.f1,.int .i64 x.f2,.int .i64 x.f3,.bool x.f4]:=⟨[.int .i64 x.f0],[.int .i64 x.f1,.int .i64 x.f2,.int .i64 x.f3,.bool x.f4],rfl,rfl,⟨[.int .i64 x.f1],[.int .i64 x.f2,.int .i64 x.f3,.bool x.f4],rfl,rfl,⟨[.int .i64 x.f2],[.int .i64 x.f3,.bool x.f4],rfl,rfl,⟨[.int .i64 x.f3],[.bool x.f4],rfl,rfl,rfl⟩⟩⟩⟩
def Zct (xs:List S126) (i:Int):S126:=xs.getD i.toNat z126
theorem at_T126 {w:World} {A:Option Addr} {n:Nat} {xs:List S126} (h:Kd.C k126 w A n xs) (i:Int) (h0:0≤i) (h1:i<n):∃ad ,A=some ad∧w.cell? (ad.add (i.toNat * 5))=some (.int .i64 (Zct xs i).f0)∧w.cell? ⟨(ad.add (i.toNat * 5)).block,(ad.add (i.toNat * 5)).off+1,none⟩=some (.int .i64 (Zct xs i).f1)∧w.cell? ⟨(ad.add (i.toNat * 5)).block,(ad.add (i.toNat * 5)).off+2,none⟩=some (.int .i64 (Zct xs i).f2)∧w.cell? ⟨(ad.add (i.toNat * 5)).block,(ad.add (i.toNat * 5)).off+3,none⟩=some (.int .i64 (Zct xs i).f3)∧w.cell? ⟨(ad.add (i.toNat * 5)).block,(ad.add (i.toNat * 5)).off+4,none⟩=some (.bool (Zct xs i).f4):=by
 obtain⟨ad,c,e,_,hK,hc0⟩:=Kd.C_get h z126 i h0 h1
 have hc:∀j u,c[j]? = some u→w.cell? (ad.add (i.toNat * 5+j))=some u:=hc0
 obtain rfl:=k126_open hK
 exact⟨ad,e,hc 0 _ rfl,by rw[← Zay _ _ 1 (by omega)];exact hc 1 _ rfl,by rw[← Zay _ _ 2 (by omega)];exact hc 2 _ rfl,by rw[← Zay _ _ 3 (by omega)];exact hc 3 _ rfl,by rw[← Zay _ _ 4 (by omega)];exact hc 4 _ rfl⟩
def rd_L18 (xs:List (List S120)) (i:Int):(List S120):=xs.getD i.toNat ([]:List S120)
def rd_L19 (xs:List (List S126)) (i:Int):(List S126):=xs.getD i.toNat ([]:List S126)
structure S66 where
 f0:(List S120)
 f1:(List S126)
 f2:Int
def z66:S66:=⟨([]:List S120),([]:List S126),(0:Int)⟩
def k66:Kd S66:=Kd.iso (Kd.pair (Kd.slice 120 k120) (Kd.pair (Kd.slice 126 k126) (Kd.int .i64))) (fun x:S66=>(x.f0,x.f1,x.f2))
def rd_T66 (xs:List S66) (i:Int):S66:=xs.getD i.toNat z66
def rd_L21 (xs:List (List S156)) (i:Int):(List S156):=xs.getD i.toNat ([]:List S156)
structure S46 where
 f0:Int
 f1:(List S156)
def z46:S46:=⟨(0:Int),([]:List S156)⟩
def k46:Kd S46:=Kd.iso (Kd.pair (Kd.int .i64) (Kd.slice 156 k156)) (fun x:S46=>(x.f0,x.f1))
theorem k46_open {w:World} {x:S46} {cs:List Value} (h:k46.K w x cs):∃A1 c1,cs=[.int .i64 x.f0,.slice A1 x.f1.length c1]∧x.f1.length≤c1∧k156.C w A1 x.f1.length x.f1:=by
 obtain⟨_,_,rfl,rfl,⟨A1,c1,rfl,l1,g1⟩⟩:=h
 exact⟨A1,c1,rfl,l1,g1⟩
def rd_T46 (xs:List S46) (i:Int):S46:=xs.getD i.toNat z46
def rd_L23 (xs:List (List S159)) (i:Int):(List S159):=xs.getD i.toNat ([]:List S159)
def rd_L24 (xs:List (List S165)) (i:Int):(List S165):=xs.getD i.toNat ([]:List S165)
structure S60 where
 f0:(List S159)
 f1:(List S165)
 f2:Int
def z60:S60:=⟨([]:List S159),([]:List S165),(0:Int)⟩
def k60:Kd S60:=Kd.iso (Kd.pair (Kd.slice 159 k159) (Kd.pair (Kd.slice 165 k165) (Kd.int .i64))) (fun x:S60=>(x.f0,x.f1,x.f2))
theorem k60_open {w:World} {x:S60} {cs:List Value} (h:k60.K w x cs):∃A0 c0 A1 c1,cs=[.slice A0 x.f0.length c0,.slice A1 x.f1.length c1,.int .i64 x.f2]∧x.f0.length≤c0∧k159.C w A0 x.f0.length x.f0∧x.f1.length≤c1∧k165.C w A1 x.f1.length x.f1:=by
 obtain⟨_,_,rfl,⟨A0,c0,rfl,l0,g0⟩,⟨_,_,rfl,⟨A1,c1,rfl,l1,g1⟩,rfl⟩⟩:=h
 exact⟨A0,c0,A1,c1,rfl,l0,g0,l1,g1⟩
def rd_T60 (xs:List S60) (i:Int):S60:=xs.getD i.toNat z60
structure S77 where
 f0:Int
 f1:(List Int)
 f2:(List Int)
def z77:S77:=⟨(0:Int),([]:List Int),([]:List Int)⟩
def k77:Kd S77:=Kd.iso (Kd.pair (Kd.int .i64) (Kd.pair (Kd.slice 3 (Kd.int .i64)) (Kd.slice 3 (Kd.int .i64)))) (fun x:S77=>(x.f0,x.f1,x.f2))
theorem k77_open {w:World} {x:S77} {cs:List Value} (h:k77.K w x cs):∃A1 c1 A2 c2,cs=[.int .i64 x.f0,.slice A1 x.f1.length c1,.slice A2 x.f2.length c2]∧x.f1.length≤c1∧(Kd.int .i64).C w A1 x.f1.length x.f1∧x.f2.length≤c2∧(Kd.int .i64).C w A2 x.f2.length x.f2:=by
 obtain⟨_,_,rfl,rfl,⟨_,_,rfl,⟨A1,c1,rfl,l1,g1⟩,⟨A2,c2,rfl,l2,g2⟩⟩⟩:=h
 exact⟨A1,c1,A2,c2,rfl,l1,g1,l2,g2⟩
def rd_T77 (xs:List S77) (i:Int):S77:=xs.getD i.toNat z77
end Go.Proofs.Ytpoffpdaadhkgaa.Pr
namespace Go.Proofs.Ytpoffpdaadhkgaa.Op
open Go.RowKit Go.ChangeShapes Go.WideShapes Go.Proofs.YtpoffpdaadhkgaaW.PrintWords
structure Zar {α:Type} (P:Program) (d:Kd α) (t:TypeId) (ok:α→Prop):Prop where
 cells:P.cellsOf t=d.sz
 op:∀{H:Type} {enc:TypeId×Value→H} {w:World} {base fuel:Nat} {cs:List Value} {x:DataW H×List MemPlace},DataW.trod enc P w base (fun _=>true) true fuel t cs=some x→∃y,d.K w y cs∧ok y
theorem Zar.int {P:Program} {t:TypeId} {k:IntKind} (ht:P.underlying t=some (.int k)) (hc:P.cellsOf t=1):Zar P (Kd.int k) t (fun n=>(Lit.int k n).wf=true):=
 ⟨hc,fun h=>by
  obtain⟨n,rfl,_,hw⟩:=DataW.trod_int ht h
  exact⟨n,rfl,hw⟩⟩
theorem Zar.bool {P:Program} {t:TypeId} (ht:P.underlying t=some .bool) (hc:P.cellsOf t=1):Zar P Kd.bool t (fun _=>True):=
 ⟨hc,fun h=>by
  obtain⟨n,rfl,_⟩:=DataW.trod_bool ht h
  exact⟨n,rfl,trivial⟩⟩
theorem Zar.string {P:Program} {t:TypeId} (ht:P.underlying t=some .string) (hc:P.cellsOf t=1):Zar P Kd.string t (fun s=>s.size≤maxLen):=
 ⟨hc,fun h=>by
  obtain⟨n,rfl,_,hw⟩:=DataW.trod_string ht h
  exact⟨n,rfl,hw⟩⟩
theorem choose_list {β:Type} (Q:Nat→β→Prop) (n:Nat) (h:∀i,i<n→∃y,Q i y):∃l:List β,l.length=n∧∀i y,l[i]? = some y→Q i y:=by
 induction n with
 | zero=>exact⟨[],rfl,fun i y h=>by simp at h⟩
 | succ n ih=>
  obtain⟨l,hl,hq⟩:=ih (fun i hi=>h i (by omega))
  obtain⟨y,hy⟩:=h n (by omega)
  refine⟨l ++ [y],by simp[hl],fun i z hz=>?_⟩
  rcases Nat.lt_or_ge i l.length with hi|hi
  ·rw[List.getElem?_append_left hi] at hz
   exact hq i z hz
  ·have hlt:=(List.getElem?_eq_some_iff.1 hz).1
   rw[List.length_append,List.length_singleton] at hlt
   have e:i=l.length:=by omega
   subst e
   have hz':y=z:=by simpa using hz
   subst hz'
   rw[hl]
   exact hy
theorem Zar.slice {α:Type} {P:Program} {d:Kd α} {t e:TypeId} {ok:α→Prop} (he:Zar P d e ok) (ht:P.underlying t=some (.slice e)) (hc:P.cellsOf t=1) :
  Zar P (Kd.slice e d) t (fun l=>l.length≤maxLen∧∀x∈l,ok x):=
 ⟨hc,fun {H enc w base fuel cs x} h=>by
  rcases DataW.trod_slice ht h with ⟨rfl,_⟩|⟨a,len,cap,elems,rest,n,_,rfl,_,hb,hl,hm,hlen,hel,_,_⟩
  ·exact⟨[],⟨none,0,rfl,Nat.le_refl _,rfl,by simp,fun h0=>absurd h0 (by simp)⟩,by simp⟩
  ·have key:∀i,i<len→∃y,ok y∧∃c,c.length=d.sz∧d.K w y c∧∀j u,c[j]? = some u→w.cell? (a.add (i * d.sz+j))=some u:=by
    intro i hi
    have hi':=hel i hi
    rw[Zl (by omega),Option.bind_eq_some_iff] at hi'
    obtain⟨cs',h1,h2⟩:=hi'
    obtain⟨y,hk,hy⟩:=he.op h2
    refine⟨y,hy,cs',d.K_len hk,hk,fun j u hu=>?_⟩
    have:=(World.cells?_some h1).2.2 j (by
     have:=(List.getElem?_eq_some_iff.1 hu).1
     rw[d.K_len hk] at this
     rw[he.cells];exact this)
    rw[he.cells] at this
    rw[Addr.add_add] at this
    rw[this,hu]
   obtain⟨l,hll,hq⟩:=choose_list _ len key
   refine⟨l,⟨some a,cap,by rw[hll],by omega,rfl,by rw[hll];simp only[maxLen] at hm;omega,fun h0=>⟨a,rfl,fun j p hj=>?_⟩⟩,by omega,fun x hx=>?_⟩
   ·obtain⟨_,hc'⟩:=hq j p hj
    exact hc'
   ·obtain⟨i,hi⟩:=List.getElem?_of_mem hx
    exact(hq i x hi).1⟩
theorem Zbc {α β:Type} {a:Kd α} {b:Kd β} {w:World} {x:α} {y:β} {cs:List Value} {off:Nat} (h0:a.K w x ((cs.drop off).take a.sz)) (h1:b.K w y ((cs.drop (off+a.sz)).take b.sz)) :
  (Kd.pair a b).K w (x,y) ((cs.drop off).take (Kd.pair a b).sz):=
 ⟨_,_,by show(cs.drop off).take (a.sz+b.sz)=_;rw[List.take_add,List.drop_drop],h0,h1⟩
theorem Zar.fieldAt {α:Type} {P:Program} {d:Kd α} {t:TypeId} {ok:α→Prop} (ho:Zar P d t ok) {H:Type} {enc:TypeId×Value→H} {w:World} {base fuel off:Nat} {cs:List Value} {x:Option (DataW H×List MemPlace)}
  (h:DataW.trod enc P w base (fun _=>true) true fuel t ((cs.drop off).take (P.cellsOf t))=x) (hx:x.isSome=true):∃y,d.K w y ((cs.drop off).take d.sz)∧ok y:=by
 obtain⟨z,rfl⟩:=Option.isSome_iff_exists.1 hx
 obtain⟨y,hk,hy⟩:=ho.op h
 rw[ho.cells] at hk
 exact⟨y,hk,hy⟩
end Go.Proofs.Ytpoffpdaadhkgaa.Op
namespace Go.Proofs.Ytpoffpdaadhkgaa.Pr
open Go.RowKit Go.Proofs.YtpoffpdaadhkgaaW.PrintWords Go.Proofs.YtpoffpdaadhkgaaW.PrintLast Go.Proofs.YtpoffpdaadhkgaaW.PrintMore
attribute [local go_sem] Zaj Zah Zaq Zap Zac Zab Zai Zag
set_option linter.unusedVariables false
set_option linter.unusedSimpArgs false
open Go.Proofs.Ytpoffpdaadhkgaa.Op Go.ChangeShapes Go.WideShapes
def okS154 (x:S154):Prop:=(fun n_:Int=>(Lit.int .i64 n_).wf=true) x.f0∧(fun n_:Int=>(Lit.int .i64 n_).wf=true) x.f1
theorem op_k154:Zar Try.prog k154 154 okS154:=
 ⟨by kernel_rfl,fun {H enc w base fuel cs x} h=>by
  obtain⟨xs,n,_,_,hl,hlen,hf⟩:=DataW.trod_struct Try.underlying154 h
  have hl':cs.length=2:=hl.trans (by kernel_rfl)
  have hlen':xs.length=2:=hlen
  obtain⟨y0,h0,o0⟩:=(Zar.int Try.underlying3 (by kernel_rfl)).fieldAt (hf 0 _ rfl) (by rw[Zl (by omega)];rfl)
  obtain⟨y1,h1,o1⟩:=(Zar.int Try.underlying3 (by kernel_rfl)).fieldAt (hf 1 _ rfl) (by rw[Zl (by omega)];rfl)
  have hk:k154.K w ⟨y0,y1⟩ ((cs.drop 0).take k154.sz):=(Zbc (off:=0) h0 h1)
  have hcs:(cs.drop 0).take k154.sz=cs:=by rw[List.drop_zero];exact List.take_of_length_le (by rw[hl'];exact Nat.le_refl _)
  rw[hcs] at hk
  exact⟨_,hk,o0,o1⟩⟩
def okS156 (x:S156):Prop:=(fun n_:Int=>(Lit.int .i64 n_).wf=true) x.f0∧(fun n_:Int=>(Lit.int .i64 n_).wf=true) x.f1∧okS154 x.f2
theorem op_k156:Zar Try.prog k156 156 okS156:=
 ⟨by kernel_rfl,fun {H enc w base fuel cs x} h=>by
  obtain⟨xs,n,_,_,hl,hlen,hf⟩:=DataW.trod_struct Try.underlying156 h
  have hl':cs.length=4:=hl.trans (by kernel_rfl)
  have hlen':xs.length=3:=hlen
  obtain⟨y0,h0,o0⟩:=(Zar.int Try.underlying3 (by kernel_rfl)).fieldAt (hf 0 _ rfl) (by rw[Zl (by omega)];rfl)
  obtain⟨y1,h1,o1⟩:=(Zar.int Try.underlying3 (by kernel_rfl)).fieldAt (hf 1 _ rfl) (by rw[Zl (by omega)];rfl)
  obtain⟨y2,h2,o2⟩:=op_k154.fieldAt (hf 2 _ rfl) (by rw[Zl (by omega)];rfl)
  have hk:k156.K w ⟨y0,y1,y2⟩ ((cs.drop 0).take k156.sz):=(Zbc (off:=0) h0 (Zbc (off:=1) h1 h2))
  have hcs:(cs.drop 0).take k156.sz=cs:=by rw[List.drop_zero];exact List.take_of_length_le (by rw[hl'];exact Nat.le_refl _)
  rw[hcs] at hk
  exact⟨_,hk,o0,o1,o2⟩⟩
def okS46 (x:S46):Prop:=(fun n_:Int=>(Lit.int .i64 n_).wf=true) x.f0∧(fun l_:List (S156)=>l_.length≤maxLen∧∀x_∈l_,okS156 x_) x.f1
theorem op_k46:Zar Try.prog k46 46 okS46:=
 ⟨by kernel_rfl,fun {H enc w base fuel cs x} h=>by
  obtain⟨xs,n,_,_,hl,hlen,hf⟩:=DataW.trod_struct Try.underlying46 h
  have hl':cs.length=2:=hl.trans (by kernel_rfl)
  have hlen':xs.length=2:=hlen
  obtain⟨y0,h0,o0⟩:=(Zar.int Try.underlying3 (by kernel_rfl)).fieldAt (hf 0 _ rfl) (by rw[Zl (by omega)];rfl)
  obtain⟨y1,h1,o1⟩:=(Zar.slice op_k156 Try.underlying44 (by kernel_rfl)).fieldAt (hf 1 _ rfl) (by rw[Zl (by omega)];rfl)
  have hk:k46.K w ⟨y0,y1⟩ ((cs.drop 0).take k46.sz):=(Zbc (off:=0) h0 h1)
  have hcs:(cs.drop 0).take k46.sz=cs:=by rw[List.drop_zero];exact List.take_of_length_le (by rw[hl'];exact Nat.le_refl _)
  rw[hcs] at hk
  exact⟨_,hk,o0,o1⟩⟩
def okS159 (x:S159):Prop:=(fun s_:ByteArray=>s_.size≤maxLen) x.f0∧(fun l_:List Int=>l_.length≤maxLen∧∀x_∈l_,(fun n_:Int=>(Lit.int .i64 n_).wf=true) x_) x.f1∧(fun n_:Int=>(Lit.int .i64 n_).wf=true) x.f2
theorem op_k159:Zar Try.prog k159 159 okS159:=
 ⟨by kernel_rfl,fun {H enc w base fuel cs x} h=>by
  obtain⟨xs,n,_,_,hl,hlen,hf⟩:=DataW.trod_struct Try.underlying159 h
  have hl':cs.length=3:=hl.trans (by kernel_rfl)
  have hlen':xs.length=3:=hlen
  obtain⟨y0,h0,o0⟩:=(Zar.string Try.underlying9 (by kernel_rfl)).fieldAt (hf 0 _ rfl) (by rw[Zl (by omega)];rfl)
  obtain⟨y1,h1,o1⟩:=(Zar.slice (Zar.int Try.underlying3 (by kernel_rfl)) Try.underlying33 (by kernel_rfl)).fieldAt (hf 1 _ rfl) (by rw[Zl (by omega)];rfl)
  obtain⟨y2,h2,o2⟩:=(Zar.int Try.underlying3 (by kernel_rfl)).fieldAt (hf 2 _ rfl) (by rw[Zl (by omega)];rfl)
  have hk:k159.K w ⟨y0,y1,y2⟩ ((cs.drop 0).take k159.sz):=(Zbc (off:=0) h0 (Zbc (off:=1) h1 h2))
  have hcs:(cs.drop 0).take k159.sz=cs:=by rw[List.drop_zero];exact List.take_of_length_le (by rw[hl'];exact Nat.le_refl _)
  rw[hcs] at hk
  exact⟨_,hk,o0,o1,o2⟩⟩
def okS165 (x:S165):Prop:=(fun n_:Int=>(Lit.int .i64 n_).wf=true) x.f0∧(fun n_:Int=>(Lit.int .i64 n_).wf=true) x.f1∧(fun n_:Int=>(Lit.int .i64 n_).wf=true) x.f2∧(fun n_:Int=>(Lit.int .i64 n_).wf=true) x.f3∧(fun _:Bool=>True) x.f4
theorem op_k165:Zar Try.prog k165 165 okS165:=
 ⟨by kernel_rfl,fun {H enc w base fuel cs x} h=>by
  obtain⟨xs,n,_,_,hl,hlen,hf⟩:=DataW.trod_struct Try.underlying165 h
  have hl':cs.length=5:=hl.trans (by kernel_rfl)
  have hlen':xs.length=5:=hlen
  obtain⟨y0,h0,o0⟩:=(Zar.int Try.underlying3 (by kernel_rfl)).fieldAt (hf 0 _ rfl) (by rw[Zl (by omega)];rfl)
  obtain⟨y1,h1,o1⟩:=(Zar.int Try.underlying3 (by kernel_rfl)).fieldAt (hf 1 _ rfl) (by rw[Zl (by omega)];rfl)
  obtain⟨y2,h2,o2⟩:=(Zar.int Try.underlying3 (by kernel_rfl)).fieldAt (hf 2 _ rfl) (by rw[Zl (by omega)];rfl)
  obtain⟨y3,h3,o3⟩:=(Zar.int Try.underlying3 (by kernel_rfl)).fieldAt (hf 3 _ rfl) (by rw[Zl (by omega)];rfl)
  obtain⟨y4,h4,o4⟩:=(Zar.bool Try.underlying4 (by kernel_rfl)).fieldAt (hf 4 _ rfl) (by rw[Zl (by omega)];rfl)
  have hk:k165.K w ⟨y0,y1,y2,y3,y4⟩ ((cs.drop 0).take k165.sz):=(Zbc (off:=0) h0 (Zbc (off:=1) h1 (Zbc (off:=2) h2 (Zbc (off:=3) h3 h4))))
  have hcs:(cs.drop 0).take k165.sz=cs:=by rw[List.drop_zero];exact List.take_of_length_le (by rw[hl'];exact Nat.le_refl _)
  rw[hcs] at hk
  exact⟨_,hk,o0,o1,o2,o3,o4⟩⟩
def okS60 (x:S60):Prop:=(fun l_:List (S159)=>l_.length≤maxLen∧∀x_∈l_,okS159 x_) x.f0∧(fun l_:List (S165)=>l_.length≤maxLen∧∀x_∈l_,okS165 x_) x.f1∧(fun n_:Int=>(Lit.int .i64 n_).wf=true) x.f2
theorem op_k60:Zar Try.prog k60 60 okS60:=
 ⟨by kernel_rfl,fun {H enc w base fuel cs x} h=>by
  obtain⟨xs,n,_,_,hl,hlen,hf⟩:=DataW.trod_struct Try.underlying60 h
  have hl':cs.length=3:=hl.trans (by kernel_rfl)
  have hlen':xs.length=3:=hlen
  obtain⟨y0,h0,o0⟩:=(Zar.slice op_k159 Try.underlying57 (by kernel_rfl)).fieldAt (hf 0 _ rfl) (by rw[Zl (by omega)];rfl)
  obtain⟨y1,h1,o1⟩:=(Zar.slice op_k165 Try.underlying58 (by kernel_rfl)).fieldAt (hf 1 _ rfl) (by rw[Zl (by omega)];rfl)
  obtain⟨y2,h2,o2⟩:=(Zar.int Try.underlying3 (by kernel_rfl)).fieldAt (hf 2 _ rfl) (by rw[Zl (by omega)];rfl)
  have hk:k60.K w ⟨y0,y1,y2⟩ ((cs.drop 0).take k60.sz):=(Zbc (off:=0) h0 (Zbc (off:=1) h1 h2))
  have hcs:(cs.drop 0).take k60.sz=cs:=by rw[List.drop_zero];exact List.take_of_length_le (by rw[hl'];exact Nat.le_refl _)
  rw[hcs] at hk
  exact⟨_,hk,o0,o1,o2⟩⟩
def okS77 (x:S77):Prop:=(fun n_:Int=>(Lit.int .i64 n_).wf=true) x.f0∧(fun l_:List Int=>l_.length≤maxLen∧∀x_∈l_,(fun n_:Int=>(Lit.int .i64 n_).wf=true) x_) x.f1∧(fun l_:List Int=>l_.length≤maxLen∧∀x_∈l_,(fun n_:Int=>(Lit.int .i64 n_).wf=true) x_) x.f2
theorem op_k77:Zar Try.prog k77 77 okS77:=
 ⟨by kernel_rfl,fun {H enc w base fuel cs x} h=>by
  obtain⟨xs,n,_,_,hl,hlen,hf⟩:=DataW.trod_struct Try.underlying77 h
  have hl':cs.length=3:=hl.trans (by kernel_rfl)
  have hlen':xs.length=3:=hlen
  obtain⟨y0,h0,o0⟩:=(Zar.int Try.underlying3 (by kernel_rfl)).fieldAt (hf 0 _ rfl) (by rw[Zl (by omega)];rfl)
  obtain⟨y1,h1,o1⟩:=(Zar.slice (Zar.int Try.underlying3 (by kernel_rfl)) Try.underlying33 (by kernel_rfl)).fieldAt (hf 1 _ rfl) (by rw[Zl (by omega)];rfl)
  obtain⟨y2,h2,o2⟩:=(Zar.slice (Zar.int Try.underlying3 (by kernel_rfl)) Try.underlying33 (by kernel_rfl)).fieldAt (hf 2 _ rfl) (by rw[Zl (by omega)];rfl)
  have hk:k77.K w ⟨y0,y1,y2⟩ ((cs.drop 0).take k77.sz):=(Zbc (off:=0) h0 (Zbc (off:=1) h1 h2))
  have hcs:(cs.drop 0).take k77.sz=cs:=by rw[List.drop_zero];exact List.take_of_length_le (by rw[hl'];exact Nat.le_refl _)
  rw[hcs] at hk
  exact⟨_,hk,o0,o1,o2⟩⟩
end Go.Proofs.Ytpoffpdaadhkgaa.Pr
namespace Go.Proofs.Ytpoffpdaadhkgaa.Ni
open Go.RowKit Go.Proofs.YtpoffpdaadhkgaaW.PrintWords
theorem ZO {w W:World} (hb:Below w.heap.size w W) {a:Addr} {v:Value} (h:w.cell? a=some v):W.cell? a=some v:=(hb.cell (Zc w _ h)).trans h
theorem wrap_succ {i:Int} (h0:0≤i) (h:i<9223372036854775807):wrap64 (i+1)=i+1:=by
 unfold wrap64;omega
theorem Zbp {i:Int} (h0 : -9223372036854775808≤i) (h:i≤9223372036854775807):wrap64 i=i:=by
 unfold wrap64;omega
theorem ZaQ {i n:Nat} (h:i<n) (hn:n≤9223372036854775807):wrap64 ((i:Int)+1)=((i+1:Nat):Int):=by
 unfold wrap64;omega
theorem wrap_pred {i:Nat} (h:0<i) (hn:i≤9223372036854775807):wrap64 ((i:Int) - 1)=((i - 1:Nat):Int):=by
 unfold wrap64;omega
theorem wf_i64 {n:Int} (h:(Lit.int .i64 n).wf=true) : -9223372036854775808≤n∧n≤9223372036854775807:=by
 simp[Lit.wf,IntKind.min,IntKind.max,IntKind.signed,IntKind.bits] at h
 omega
theorem Za4 (l:List Int) (i:Nat):rd l (i:Int)=l.getD i 0:=by unfold rd;rw[Int.toNat_natCast]
theorem ZaL {α:Type} {l:List α} {i:Nat} (h:i<l.length) (d:α):l.drop i=l.getD i d :: l.drop (i+1):=by
 rw[List.drop_eq_getElem_cons h,List.getD_eq_getElem?_getD,Zl h];rfl
theorem ZbL {α:Type} {l:List α} {i:Nat} (h:i<l.length) (d:α):l.getD i d∈l:=by
 rw[List.getD_eq_getElem?_getD,Zl h];exact List.getElem_mem h
theorem getD_some {α:Type} {l:List α} {i:Nat} (h:i<l.length) (d:α):l[i]? = some (l.getD i d):=by
 rw[List.getD_eq_getElem?_getD,Zl h];rfl
theorem ZcA {α:Type} (ys:List α) (z d:α) (i:Nat) (h:i<ys.length) (x:α) (hx:x=ys.getD i d):(ys.take i ++ List.replicate (ys.length - i) z).set i x=ys.take (i+1) ++ List.replicate (ys.length - (i+1)) z:=by
 subst hx
 have e:ys.length - i=(ys.length - (i+1))+1:=by omega
 rw[e,List.replicate_succ,List.set_append_right _ _ (by simp;omega)]
 have e2:i - (ys.take i).length=0:=by simp;omega
 rw[e2,List.set_cons_zero,List.take_succ_eq_append_getElem h,List.append_assoc]
 congr 2
 simp[List.getD_eq_getElem?_getD,Zl h]
theorem Zbd (n:Nat) (Q:Nat→Nat→Prop) (K:Nat) (hend:∀k,K≤k→Q (k+1) n) (hstep:∀k i,K≤k→i<n→Q k (i+1)→Q (k+1) i):∀(i k:Nat),i≤n→K+(n - i)<k→Q k i:=by
 have key:∀(d i k:Nat),i≤n→n - i=d→K+d<k→Q k i:=by
  intro d
  induction d with
  | zero=>
   intro i k hi hd hk
   obtain⟨m,rfl⟩:∃m,k=m+1:=⟨k - 1,by omega⟩
   obtain rfl:i=n:=by omega
   exact hend m (by omega)
  | succ d ih=>
   intro i k hi hd hk
   obtain⟨m,rfl⟩:∃m,k=m+1:=⟨k - 1,by omega⟩
   exact hstep m i (by omega) (by omega) (ih (i+1) m (by omega) (by omega) (by omega))
 intro i k hi hk
 exact key (n - i) i k hi rfl hk
theorem set_mid (pre:List Int) (x y:Int) (post:List Int):(pre ++ x :: post).set pre.length y=pre ++ y :: post:=by
 rw[List.set_append_right _ _ (Nat.le_refl _),Nat.sub_self,List.set_cons_zero]
def ZbK {α:Type} (p:α→Bool) (l:List α):Int:=match l.findIdx? p with|some i=>i|none=>-1
theorem ZcM {α:Type} (p:α→Bool) (l:List α) (k:Nat) (x:α) (hk:l[k]? = some x) (hx:p x=true) (hb:∀j y,j<k→l[j]? = some y→p y=false):ZbK p l=(k:Int):=by
 have h:l.findIdx? p=some k:=by
  rw[List.findIdx?_eq_some_iff_getElem]
  obtain⟨hl,he⟩:=List.getElem?_eq_some_iff.1 hk
  refine⟨hl,by rw[he];exact hx,fun j hj=>?_⟩
  have:=hb j _ hj (Zl (by omega))
  simp[this]
 simp[ZbK,h]
theorem ZcE {α:Type} (p:α→Bool) (l:List α) (hb:∀j y,j<l.length→l[j]? = some y→p y=false):ZbK p l=-1:=by
 have h:l.findIdx? p=none:=by
  rw[List.findIdx?_eq_none_iff]
  intro x hx
  obtain⟨j,hj⟩:=List.getElem?_of_mem hx
  exact hb j x (List.getElem?_eq_some_iff.1 hj).1 hj
 simp[ZbK,h]
theorem ZcN {α:Type} (p:α→Bool) (l:List α):decide (0≤ZbK p l)=l.any p:=by
 unfold ZbK
 cases h:l.findIdx? p with
 | some i=>
  rw[List.findIdx?_eq_some_iff_getElem] at h
  obtain⟨hl,hp,_⟩:=h
  have:l.any p=true:=List.any_eq_true.2 ⟨_,List.getElem_mem hl,hp⟩
  rw[this]
  exact Ze (Int.natCast_nonneg _)
 | none=>
  rw[List.findIdx?_eq_none_iff] at h
  have:l.any p=false:=by rw[List.any_eq_false];intro x hx;rw[h x hx];simp
  rw[this];rfl
theorem idxOf_bd {α:Type} (p:α→Bool) (l:List α) : -1≤ZbK p l∧ZbK p l<l.length:=by
 unfold ZbK
 cases h:l.findIdx? p with
 | some i=>
  rw[List.findIdx?_eq_some_iff_getElem] at h
  obtain⟨hl,_⟩:=h
  simp only;omega
 | none=>simp only;omega
def cnt0 (l:List Int):Int:=((l.filter (· == 0)).length:Int)
def litOk (x:Int):Bool:=!(x == 0) && decide (-3≤x) && decide (x≤3)
def prp (x:Int):Int:=if x<0 then -x else x
def labFrom (p:Int):List Int→Bool
 | []=>true
 | x :: t=>litOk x && decide (p<prp x) && labFrom (prp x) t
def labB (l:List Int):Bool:=labFrom 0 l
def valsB (l:List Int):Bool:=decide (l.length=3) && l.all (fun n=>decide (-1≤n) && decide (n≤1))
theorem litOk_iff (x:Int):litOk x=true↔x≠0∧-3≤x∧x≤3:=by
 simp[litOk,and_assoc]
theorem prp_pos {x:Int} (h:litOk x=true):1≤prp x∧prp x≤3:=by
 have:=(litOk_iff x).1 h
 unfold prp;split <;> omega
def stFrom (v:List Int) (a:Int):List Int→Int
 | []=>a
 | x :: t=>stFrom v (min a (if x<0 then -(v.getD (prp x - 1).toNat 0) else v.getD (prp x - 1).toNat 0)) t
def stB (l v:List Int):Int:=stFrom v 1 l
def isNameB (s:ByteArray):Bool:=decide (1≤s.size) && decide (s.size≤8) && (List.range s.size).all fun i=>let c:=bt s i;(decide (97≤c) && decide (c≤122)) || (decide (0<i) && decide (48≤c) && decide (c≤57))
end Go.Proofs.Ytpoffpdaadhkgaa.Ni
namespace Go.Proofs.Ytpoffpdaadhkgaa.Pr
open Go.RowKit Go.Proofs.YtpoffpdaadhkgaaW.PrintWords Go.Proofs.YtpoffpdaadhkgaaW.PrintLast Go.Proofs.YtpoffpdaadhkgaaW.PrintMore
attribute [local go_sem] Zaj Zah Zaq Zap Zac Zab Zai Zag
set_option linter.unusedVariables false
set_option linter.unusedSimpArgs false
def Zad.l0:Nat→List Int→List Int→Int→Option (List Int)
 | 0,_,_,_=>none
 | k+1,x0,x3,x4=>if x4<(x0.length:Int) then(if 0≤x4 then(if x4<(x3.length:Int) then(Zad.l0 k x0 (x3.set (x4:Int).toNat (rd x0 x4)) (wrap64 (x4+1))) else(none)) else(none)) else(some x3)
def Zad.f (k:Nat) (l0:List Int):Option (List Int):=if 0≤(l0.length:Int) then(if ((l0.length:Int):Int).toNat≤35184372088832 then(Zad.l0 k l0 (List.replicate ((l0.length:Int):Int).toNat 0) 0) else(none)) else(none)
set_option maxHeartbeats 8000000 in
set_option maxRecDepth 100000 in
theorem Zad.calls (k:Nat) (A0:Option Addr) (c0:Nat) (l0:List Int) (r:List Int) (w:World) (hr0:Kd.C (Kd.int .i64) w A0 l0.length l0) (hc0:l0.length≤c0) (h:Zad.f k l0=some r) :
  Calls Try.prog 32 #[.slice A0 l0.length c0] w fun e w'=>∃v0_:Value,e=.returned (v0_)∧Kd.R (Kd.int .i64) 3 w' w.heap.size (fun _=>True) v0_ r∧Below w.heap.size w w':=by
 have HR0:=Za hr0;have HC0:=Za hc0;clear hr0 hc0
 have HB:=Za (Below.refl w.heap.size w)
 have H:(if 0≤(l0.length:Int) then(if ((l0.length:Int):Int).toNat≤35184372088832 then(Zad.l0 k l0 (List.replicate ((l0.length:Int):Int).toNat 0) 0) else(none)) else(none))=some r:=h
 clear h
 by_cases c2:0≤(l0.length:Int)
 ·rw[if_pos c2] at H
  have c2b0:=eq_true c2
  have c2b1:decide (0≤(l0.length:Int))=true:=Ze c2
  clear c2
  by_cases c3:((l0.length:Int):Int).toNat≤35184372088832
  ·rw[if_pos c3] at H
   have c3b0:=eq_true c3
   have c3b1:decide (((l0.length:Int):Int).toNat≤35184372088832)=true:=Ze c3
   clear c3
   obtain⟨y32001,hy32001⟩:∃y_:List Int,y_=(List.replicate ((l0.length:Int):Int).toNat 0):=⟨_,rfl⟩
   replace H:(Zad.l0 k l0 y32001 0)=some r:=by first|(rw[hy32001];with_reducible exact H)|(have H2_:=(Zi _ _).symm.trans H;rw[hy32001];with_reducible exact H2_)|(have H2_:=(Zi _ _).symm.trans H;with_reducible exact H2_)|with_reducible exact H|(rw[hy32001];exact H)|exact H
   have Ny32001:=Za hy32001;clear hy32001
   have H':=Za H
   clear H
   go_enter Try.func32,Try.ntmps32
   go_wp2_with (first|((with_reducible refine ZD (N:=7) rfl ?_);refine Kd.R_make (Kd.int .i64) _ 3 rfl (N:=7) rfl 33 _ _ rfl (l0.length:Int) rfl rfl Try.underlying33 (.int .i64 0) 8 Za2 rfl (by decide) (by omega) 0 (ok:=fun _=>True) (okp:=fun _=>True) rfl (fun _ hk=>hk) trivial (Zd (by first|(with_reducible assumption)|assumption)) (Nat.le_trans (Nat.mul_le_mul_right _ (Zd (by first|(with_reducible assumption)|assumption):(l0.length:Int).toNat≤35184372088832)) (by omega)) (Below.refl _ _) (Nat.le_refl _) ?_;intro v32002 w4 ho5 hb hg_ hnew_;clear hg_ hnew_;(first|rw[← Ny32001.out] at ho5|(simp only[Int.reduceToNat] at ho5;rw[← Ny32001.out] at ho5));have n0_:=Za (Kd.R_lower ho5 (Zv (by repeat(first|(with_reducible first|exact HB.out|apply Zr|apply Zm|apply Zs)|exact HB.out))));have n1_:=Za (Zy (by repeat(first|(with_reducible first|exact HB.out|apply Zr|apply Zm|apply Zs)|exact HB.out)) hb);clear HB;have HO32003:=n0_;have HB:=n1_;clear n0_ n1_;clear hb ho5))
   go_loopg [4] k (fun kq v4 w'=>∃(x3_1:List Int) (x4_1:Int),v4=.int .i64 x4_1∧Aside0 (Zad.l0 kq l0 x3_1 x4_1=some r)∧Aside0 (kq≤k)∧Aside0 (Kd.R (Kd.int .i64) 3 w' w.heap.size (fun _=>True) v32002 x3_1)∧Aside0 (Below w.heap.size w w'))
   case atStart=>exact⟨(y32001),(0),(by first|rfl|(simp;done)|(simp[*];done)),H',⟨Nat.le_refl _⟩,⟨by(with_reducible repeat(first|apply Kd.R_alloc|apply Kd.R_drewN|apply Kd.R_drew));exact HO32003.out⟩,⟨by repeat(first|(with_reducible first|exact HB.out|apply Zr|apply Zm|apply Zs)|exact HB.out)⟩⟩
   case round=>
    clear H'
    try clear c2
    try clear c2b0
    try clear c2b1
    try clear p2
    try clear c3
    try clear c3b0
    try clear c3b1
    obtain⟨x3_1,x4_1,rfl,HA,HK1,HO_3,HB⟩:=hrel
    cases gk with
    | zero=>exact absurd HA.out (by simp[Zad.l0])
    | succ k1=>
     have H:=HA.out
     clear HA
     simp only[Zad.l0] at H
     by_cases c6:x4_1<(l0.length:Int)
     ·rw[if_pos c6] at H
      have c6b0:decide (x4_1<(l0.length:Int))=true:=Ze c6
      clear c6
      by_cases c7:0≤x4_1
      ·rw[if_pos c7] at H
       have c7b0:decide (0≤x4_1)=true:=Ze c7
       clear c7
       by_cases c8:x4_1<(x3_1.length:Int)
       ·rw[if_pos c8] at H
        have c8b0:decide (x4_1<(x3_1.length:Int))=true:=Ze c8
        clear c8
        obtain⟨y32005,hy32005⟩:∃y_:List Int,y_=(x3_1.set (x4_1:Int).toNat (rd l0 x4_1)):=⟨_,rfl⟩
        replace H:(Zad.l0 k1 l0 y32005 (wrap64 (x4_1+1)))=some r:=by first|(rw[hy32005];with_reducible exact H)|(have H2_:=(Zi _ _).symm.trans H;rw[hy32005];with_reducible exact H2_)|(have H2_:=(Zi _ _).symm.trans H;with_reducible exact H2_)|with_reducible exact H|(rw[hy32005];exact H)|exact H
        have Ny32005:=Za hy32005;clear hy32005
        have H':=Za H
        clear H
        have p32004:0≤(x4_1:Int):=Zd (by first|(with_reducible assumption)|assumption)
        have q32004:x4_1<(l0.length:Int):=Zd (by first|(with_reducible assumption)|assumption)
        obtain⟨ad32004,e32004,hx32004_0⟩:=Kd.at_int HR0.out x4_1 p32004 q32004
        cases e32004
        replace hx32004_0:=(HB.out.cell (Zc w _ hx32004_0)).trans hx32004_0
        replace p32004:=eq_true p32004
        replace q32004:=eq_true q32004
        have p9:0≤(x4_1:Int):=Zd (by first|(with_reducible assumption)|assumption)
        have q9:(x4_1:Int)<((x3_1.length:Int):Int):=Zd (by first|(with_reducible assumption)|assumption)
        obtain⟨go9,co9,eo9,gb9,gl9,cl9,HG9⟩:=Kd.R_form HO_3.out (by omega)
        (first|cases eo9|(injection eo9 with ea_ en_ ec_;(first|subst ea_|(injection ea_ with ea_;subst ea_));subst ec_;clear en_))
        have GB9:=Za gb9;have GG9:=Za HG9;clear gb9 gl9 HG9
        obtain⟨hx9_0,hf9_0⟩:=Kd.R_celln 0 HO_3.out (x4_1:Int) p9 q9
        replace p9:=eq_true p9
        replace q9:=eq_true q9
        have HP10:=Kd.R_putg HO_3.out (x4_1:Int) (rd l0 x4_1)
        go_wp2_with (first|((with_reducible refine Zde (t:=3) (p:=20) rfl ?_);refine ZcT (t:=3) (p:=20) (v:=?vo_w11) (w1:=(wr.setCell ⟨go9,(x4_1:Int).toNat,none⟩ (.int .i64 (rd l0 x4_1)))) ?hg ?ho ?hn ?hr ?_;(case ho=>rfl);(case hg=>rfl);(case hn=>rfl);(case hr=>first|(go_simp;done)|(go_simp;rfl));intro w11 hw;have hg:wr.grownBy w11 (some go9):=(by rw[hw];exact HP10.2);have hp_:Kd.R (Kd.int .i64) 3 w11 w.heap.size (fun _=>True) (.slice (some ⟨go9,0,none⟩) x3_1.length co9) y32005:=(by rw[hw,Ny32005.out];exact HP10.1);clear HP10;have n0_:=Za (hp_);have n1_:=Za ((by rw[hw];exact Zp (HB.out) GB9.out:Below w.heap.size w w11));clear HO_3;clear HB;have HO_3:=n0_;have HB:=n1_;clear n0_ n1_;clear hg hw hp_))
        go_roundg k1
        case measure=>have:=HK1.out;omega
        case rel=>exact⟨(y32005),(wrap64 (x4_1+1)),(by first|rfl|(simp;done)|(simp[*];done)),H',⟨by have:=HK1.out;omega⟩,⟨by(with_reducible repeat(first|apply Kd.R_alloc|apply Kd.R_drewN|apply Kd.R_drew));exact HO_3.out⟩,⟨by repeat(first|(with_reducible first|exact HB.out|apply Zr|apply Zm|apply Zs)|exact HB.out)⟩⟩
       ·rw[if_neg c8] at H
        exact absurd H (by simp)
      ·rw[if_neg c7] at H
       exact absurd H (by simp)
     ·rw[if_neg c6] at H
      have c6b0:decide (x4_1<(l0.length:Int))=false:=Zf c6
      clear c6
      obtain rfl:=Zg H
      go_wp2
      go_ret
      exact⟨_,by first|rfl|(simp[ZA,Zz] <;> rfl)|(simp[*,ZA,Zz] <;> rfl),by(with_reducible repeat(first|apply Kd.R_alloc|apply Kd.R_drewN|apply Kd.R_drew));exact HO_3.out,by repeat(first|(with_reducible first|exact HB.out|apply Zr|apply Zm|apply Zs)|exact HB.out)⟩
  ·rw[if_neg c3] at H
   exact absurd H (by simp)
 ·rw[if_neg c2] at H
  exact absurd H (by simp)
def ZaA.l0:Nat→List Int→List Int→Int→Option (Bool)
 | 0,_,_,_=>none
 | k+1,x0,x1,x5=>if x5<(x0.length:Int) then(if 0≤x5 then(if x5<(x1.length:Int) then(if (rd x0 x5)=(rd x1 x5) then(ZaA.l0 k x0 x1 (wrap64 (x5+1))) else(some false)) else(none)) else(none)) else(some true)
def ZaA.f (k:Nat) (l0:List Int) (l1:List Int):Option (Bool):=if (l0.length:Int)=(l1.length:Int) then(ZaA.l0 k l0 l1 0) else(some false)
set_option maxHeartbeats 8000000 in
set_option maxRecDepth 100000 in
theorem ZaA.calls (k:Nat) (A0:Option Addr) (c0:Nat) (l0:List Int) (A1:Option Addr) (c1:Nat) (l1:List Int) (r:Bool) (w:World) (hr0:Kd.C (Kd.int .i64) w A0 l0.length l0) (hc0:l0.length≤c0) (hr1:Kd.C (Kd.int .i64) w A1 l1.length l1) (hc1:l1.length≤c1) (h:ZaA.f k l0 l1=some r) :
  Calls Try.prog 34 #[.slice A0 l0.length c0,.slice A1 l1.length c1] w fun e w'=>e=.returned (.bool r)∧Z1 w w':=by
 have HR0:=Za hr0;have HC0:=Za hc0;clear hr0 hc0;have HR1:=Za hr1;have HC1:=Za hc1;clear hr1 hc1
 have H:(if (l0.length:Int)=(l1.length:Int) then(ZaA.l0 k l0 l1 0) else(some false))=some r:=h
 clear h
 by_cases c3:(l0.length:Int)=(l1.length:Int)
 ·rw[if_pos c3] at H
  have c3b0:((l0.length:Int) == (l1.length:Int))=true:=beq_iff_eq.mpr c3
  have c3b1:((l0.length:Int) != (l1.length:Int))=false:=bne_eq_false_iff_eq.mpr c3
  have c3b2:(l0.length == l1.length)=true:=by first|simpa using c3|(simp at c3 ⊢;omega)
  clear c3
  have H':=Za H
  clear H
  go_enter Try.func34,Try.ntmps34
  go_wp2
  repeat(go_quiet (fail);try go_wp2)
  go_loopg [5] k (fun kq v5 w'=>∃(x5_1:Int),v5=.int .i64 x5_1∧Aside0 (ZaA.l0 kq l0 l1 x5_1=some r)∧Aside0 (kq≤k)∧Z1 w w')
  case atStart=>exact⟨(0),(by first|rfl|(simp;done)|(simp[*];done)),H',⟨Nat.le_refl _⟩,by repeat(first|exact Z1.refl _|apply Z1.step)⟩
  case round=>
   clear H'
   try clear c1
   try clear p2
   try clear c3
   try clear c3b0
   try clear c3b1
   try clear c3b2
   obtain⟨x5_1,rfl,HA,HK1,⟨m1,rfl⟩⟩:=hrel
   cases gk with
   | zero=>exact absurd HA.out (by simp[ZaA.l0])
   | succ k1=>
    have H:=HA.out
    clear HA
    simp only[ZaA.l0] at H
    by_cases c4:x5_1<(l0.length:Int)
    ·rw[if_pos c4] at H
     have c4b0:decide (x5_1<(l0.length:Int))=true:=Ze c4
     clear c4
     by_cases c5:0≤x5_1
     ·rw[if_pos c5] at H
      have c5b0:decide (0≤x5_1)=true:=Ze c5
      clear c5
      by_cases c6:x5_1<(l1.length:Int)
      ·rw[if_pos c6] at H
       have c6b0:decide (x5_1<(l1.length:Int))=true:=Ze c6
       clear c6
       by_cases c7:(rd l0 x5_1)=(rd l1 x5_1)
       ·rw[if_pos c7] at H
        have c7b0:((rd l0 x5_1) == (rd l1 x5_1))=true:=beq_iff_eq.mpr c7
        have c7b1:((rd l0 x5_1) != (rd l1 x5_1))=false:=bne_eq_false_iff_eq.mpr c7
        clear c7
        have H':=Za H
        clear H
        have p34001:0≤(x5_1:Int):=Zd (by first|(with_reducible assumption)|assumption)
        have q34001:x5_1<(l0.length:Int):=Zd (by first|(with_reducible assumption)|assumption)
        obtain⟨ad34001,e34001,hx34001_0⟩:=Kd.at_int HR0.out x5_1 p34001 q34001
        cases e34001
        replace p34001:=eq_true p34001
        replace q34001:=eq_true q34001
        have p34002:0≤(x5_1:Int):=Zd (by first|(with_reducible assumption)|assumption)
        have q34002:x5_1<(l1.length:Int):=Zd (by first|(with_reducible assumption)|assumption)
        obtain⟨ad34002,e34002,hx34002_0⟩:=Kd.at_int HR1.out x5_1 p34002 q34002
        cases e34002
        replace p34002:=eq_true p34002
        replace q34002:=eq_true q34002
        go_wp2
        repeat(go_quiet (fail);try go_wp2)
        go_roundg k1
        case measure=>have:=HK1.out;omega
        case rel=>exact⟨(wrap64 (x5_1+1)),(by first|rfl|(simp;done)|(simp[*];done)),H',⟨by have:=HK1.out;omega⟩,by repeat(first|exact Z1.refl _|apply Z1.step)⟩
       ·rw[if_neg c7] at H
        have c7b0:((rd l0 x5_1) == (rd l1 x5_1))=false:=beq_eq_false_iff_ne.mpr c7
        have c7b1:((rd l0 x5_1) != (rd l1 x5_1))=true:=bne_iff_ne.mpr c7
        obtain rfl:=Zg H
        have p34001:0≤(x5_1:Int):=Zd (by first|(with_reducible assumption)|assumption)
        have q34001:x5_1<(l0.length:Int):=Zd (by first|(with_reducible assumption)|assumption)
        obtain⟨ad34001,e34001,hx34001_0⟩:=Kd.at_int HR0.out x5_1 p34001 q34001
        cases e34001
        replace p34001:=eq_true p34001
        replace q34001:=eq_true q34001
        have p34002:0≤(x5_1:Int):=Zd (by first|(with_reducible assumption)|assumption)
        have q34002:x5_1<(l1.length:Int):=Zd (by first|(with_reducible assumption)|assumption)
        obtain⟨ad34002,e34002,hx34002_0⟩:=Kd.at_int HR1.out x5_1 p34002 q34002
        cases e34002
        replace p34002:=eq_true p34002
        replace q34002:=eq_true q34002
        go_wp2
        repeat(go_quiet (fail);try go_wp2)
        go_ret
        exact⟨by first|rfl|(simp;done)|(simp[*];done),by repeat(first|exact Z1.refl _|apply Z1.step)⟩
      ·rw[if_neg c6] at H
       exact absurd H (by simp)
     ·rw[if_neg c5] at H
      exact absurd H (by simp)
    ·rw[if_neg c4] at H
     have c4b0:decide (x5_1<(l0.length:Int))=false:=Zf c4
     clear c4
     obtain rfl:=Zg H
     go_wp2
     repeat(go_quiet (fail);try go_wp2)
     go_ret
     exact⟨by first|rfl|(simp;done)|(simp[*];done),by repeat(first|exact Z1.refl _|apply Z1.step)⟩
 ·rw[if_neg c3] at H
  have c3b0:((l0.length:Int) == (l1.length:Int))=false:=beq_eq_false_iff_ne.mpr c3
  have c3b1:((l0.length:Int) != (l1.length:Int))=true:=bne_iff_ne.mpr c3
  have c3b2:(l0.length == l1.length)=false:=by first|simpa using c3|(simp at c3 ⊢;omega)
  obtain rfl:=Zg H
  go_enter Try.func34,Try.ntmps34
  go_wp2
  repeat(go_quiet (fail);try go_wp2)
  go_ret
  exact⟨by first|rfl|(simp;done)|(simp[*];done),by repeat(first|exact Z1.refl _|apply Z1.step)⟩
end Go.Proofs.Ytpoffpdaadhkgaa.Pr
namespace Go.Proofs.Ytpoffpdaadhkgaa.Pr
open Go.RowKit Go.Proofs.YtpoffpdaadhkgaaW.PrintWords Go.Proofs.Ytpoffpdaadhkgaa.Ni
theorem toIntS_f (l:List Int) (hl:l.length≤35184372088832) (k:Nat) (hk:2 ^ 64≤k):Zad.f k l=some l:=by
 have key:=Zbd l.length (fun k i=>Zad.l0 k l (l.take i ++ List.replicate (l.length - i) 0) (i:Int)=some l) 0
  (fun k _=>by simp[Zad.l0])
  (fun k i _ hi ih=>by
   simp only[Zad.l0]
   rw[if_pos (by omega),if_pos (by omega),if_pos (by simp;omega),ZaQ hi (by omega),Int.toNat_natCast,ZcA l 0 0 i hi _ (Za4 l i)]
   exact ih) 0 k (Nat.zero_le _) (by omega)
 unfold Zad.f
 rw[if_pos (by omega),if_pos (by omega),Int.toNat_natCast]
 simpa using key
theorem eqIntS_f (l m:List Int) (hl:l.length≤9223372036854775807) (k:Nat) (hk:2 ^ 64≤k):ZaA.f k l m=some (decide (l=m)):=by
 unfold ZaA.f
 by_cases e:l.length=m.length
 ·rw[if_pos (by omega)]
  have key:=Zbd l.length (fun k i=>ZaA.l0 k l m (i:Int)=some (decide (l.drop i=m.drop i))) 0
   (fun k _=>by
    simp only[ZaA.l0]
    rw[if_neg (by omega),List.drop_of_length_le (Nat.le_refl _),List.drop_of_length_le (by omega)]
    simp)
   (fun k i _ hi ih=>by
    simp only[ZaA.l0]
    rw[if_pos (by omega),if_pos (by omega),if_pos (by omega),Za4,Za4,ZaQ hi (by omega),ZaL hi 0,ZaL (show i<m.length by omega) 0]
    by_cases h:l.getD i 0=m.getD i 0
    ·rw[if_pos h,ih,h];simp
    ·rw[if_neg h]
     simp only[List.cons.injEq,h,false_and,decide_false]) 0 k (Nat.zero_le _) (by omega)
  simpa using key
 ·rw[if_neg (by omega)]
  have:l≠m:=fun h=>e (by rw[h])
  simp[this]
theorem eqIntS_refl (l:List Int) (hl:l.length≤9223372036854775807) (k:Nat) (hk:2 ^ 64≤k):ZaA.f k l l=some true:=by
 rw[eqIntS_f l l hl k hk];simp
end Go.Proofs.Ytpoffpdaadhkgaa.Pr
namespace Go.Proofs.Ytpoffpdaadhkgaa.Pr
open Go.RowKit Go.Proofs.YtpoffpdaadhkgaaW.PrintWords Go.Proofs.YtpoffpdaadhkgaaW.PrintLast Go.Proofs.YtpoffpdaadhkgaaW.PrintMore
attribute [local go_sem] Zaj Zah Zaq Zap Zac Zab Zai Zag
set_option linter.unusedVariables false
set_option linter.unusedSimpArgs false
def Zbe.f (a0_0:Int) (a0_1:Int):Option (Int×Int):=some (a0_0,a0_1)
set_option maxHeartbeats 8000000 in
set_option maxRecDepth 100000 in
theorem Zbe.calls (a0_0:Int) (a0_1:Int) (r1:Int) (r2:Int) (w:World) (h:Zbe.f a0_0 a0_1=some (r1,r2)) :
  Calls Try.prog 169 #[.agg #[.int .i64 a0_0,.int .i64 a0_1]] w fun e w'=>e=.returned (.agg #[.int .i64 r1,.int .i64 r2])∧Below w.heap.size w w':=by
 have hu154:=Try.underlying154
 have hu29:=Try.underlying29
 have HB:=Za (Below.refl w.heap.size w)
 have H:(some (a0_0,a0_1))=some (r1,r2):=h
 clear h
 simp only[Option.some.injEq,Prod.mk.injEq] at H
 obtain⟨rfl,rfl⟩:=H
 go_enter Try.func169,Try.ntmps169
 go_wp2_with (first|((with_reducible refine ZD (N:=1) rfl ?_);refine ZE ?hg (N:=1) ?hd (cs:=#[.int .i64 a0_0,.int .i64 a0_1]) (t:=154) ?hr ?_;(case hd=>rfl);(case hg=>rfl);(case hr=>first|(go_simp;done)|(go_simp;rfl));intro gb169001 hg w2 hbox hb;have n0_:=Za (Zy (by repeat(first|(with_reducible first|exact HB.out|apply Zr|apply Zm|apply Zs)|exact HB.out)) hb);have n1_:=Za (hbox);have n2_:=Za ((by rw[hg];exact(Zv (by repeat(first|(with_reducible first|exact HB.out|apply Zr|apply Zm|apply Zs)|exact HB.out))):w.heap.size≤gb169001));have n3_:=Za ((by rw[hg];exact(Zv (by repeat(first|(with_reducible first|exact HB.out|apply Zr|apply Zm|apply Zs)|exact HB.out))):w.heap.size≤gb169001));clear HB;have HB:=n0_;have BK169001:=n1_;have GW169001:=n2_;have GE169001:=n3_;clear n0_ n1_ n2_ n3_;clear hb hbox hg)|((with_reducible refine ZD (N:=2) rfl ?_);refine ZE ?hg (N:=2) ?hd (cs:=#[.int .i64 0,.int .i64 0]) (t:=29) ?hr ?_;(case hd=>rfl);(case hg=>rfl);(case hr=>first|(go_simp;done)|(go_simp;rfl));intro gb169002 hg w3 hbox hb;have n0_:=Za (Zx (g:=gb169001) (o:=.cells #[.int .i64 a0_0,.int .i64 a0_1] 154 (0,0)) (by(with_reducible repeat(first|refine Zo ?_ _|refine Zq ?_|refine Zn ?_ _));exact BK169001.out) hb);have n1_:=Za (Zy (by repeat(first|(with_reducible first|exact HB.out|apply Zr|apply Zm|apply Zs|refine Zp ?_ GE169001.out)|exact HB.out)) hb);have n2_:=Za (hbox);have n3_:=Za ((by rw[hg];exact(Zv (by repeat(first|(with_reducible first|exact HB.out|apply Zr|apply Zm|apply Zs|refine Zp ?_ GE169001.out)|exact HB.out))):w.heap.size≤gb169002));have n4_:=Za ((by rw[hg];exact(Zv (by repeat(first|(with_reducible first|exact HB.out|apply Zr|apply Zm|apply Zs|refine Zp ?_ GE169001.out)|exact HB.out))):w.heap.size≤gb169002));have n5_:=Za ((by rw[hg];exact Nat.ne_of_lt (ZB (g:=gb169001) (o:=.cells #[.int .i64 a0_0,.int .i64 a0_1] 154 (0,0)) (by(with_reducible repeat(first|refine Zo ?_ _|refine Zq ?_|refine Zn ?_ _));exact BK169001.out)):gb169001≠gb169002));have n6_:=Za ((by rw[hg];exact Nat.ne_of_gt (ZB (g:=gb169001) (o:=.cells #[.int .i64 a0_0,.int .i64 a0_1] 154 (0,0)) (by(with_reducible repeat(first|refine Zo ?_ _|refine Zq ?_|refine Zn ?_ _));exact BK169001.out)):gb169002≠gb169001));clear BK169001;clear HB;have BK169001:=n0_;have HB:=n1_;have BK169002:=n2_;have GW169002:=n3_;have GE169002:=n4_;have NB169001_169002:=n5_;have NB169002_169001:=n6_;clear n0_ n1_ n2_ n3_ n4_ n5_ n6_;clear hb hbox hg)|((with_reducible refine ZD (N:=3) rfl ?_);refine ZE ?hg (N:=3) ?hd (cs:=#[.int .i64 0,.int .i64 0]) (t:=29) ?hr ?_;(case hd=>rfl);(case hg=>rfl);(case hr=>first|(go_simp;done)|(go_simp;rfl));intro gb169003 hg w4 hbox hb;have n0_:=Za (Zx (g:=gb169001) (o:=.cells #[.int .i64 a0_0,.int .i64 a0_1] 154 (0,0)) (by(with_reducible repeat(first|refine Zo ?_ _|refine Zq ?_|refine Zn ?_ _));exact BK169001.out) hb);have n1_:=Za (Zx (g:=gb169002) (o:=.cells #[.int .i64 0,.int .i64 0] 29 (0,0)) (by(with_reducible repeat(first|refine Zo ?_ _|refine Zq ?_|refine Zn ?_ _));exact BK169002.out) hb);have n2_:=Za (Zy (by repeat(first|(with_reducible first|exact HB.out|apply Zr|apply Zm|apply Zs|refine Zp ?_ GE169001.out|refine Zp ?_ GE169002.out)|exact HB.out)) hb);have n3_:=Za (hbox);have n4_:=Za ((by rw[hg];exact(Zv (by repeat(first|(with_reducible first|exact HB.out|apply Zr|apply Zm|apply Zs|refine Zp ?_ GE169001.out|refine Zp ?_ GE169002.out)|exact HB.out))):w.heap.size≤gb169003));have n5_:=Za ((by rw[hg];exact(Zv (by repeat(first|(with_reducible first|exact HB.out|apply Zr|apply Zm|apply Zs|refine Zp ?_ GE169001.out|refine Zp ?_ GE169002.out)|exact HB.out))):w.heap.size≤gb169003));have n6_:=Za ((by rw[hg];exact Nat.ne_of_lt (ZB (g:=gb169001) (o:=.cells #[.int .i64 a0_0,.int .i64 a0_1] 154 (0,0)) (by(with_reducible repeat(first|refine Zo ?_ _|refine Zq ?_|refine Zn ?_ _));exact BK169001.out)):gb169001≠gb169003));have n7_:=Za ((by rw[hg];exact Nat.ne_of_gt (ZB (g:=gb169001) (o:=.cells #[.int .i64 a0_0,.int .i64 a0_1] 154 (0,0)) (by(with_reducible repeat(first|refine Zo ?_ _|refine Zq ?_|refine Zn ?_ _));exact BK169001.out)):gb169003≠gb169001));have n8_:=Za ((by rw[hg];exact Nat.ne_of_lt (ZB (g:=gb169002) (o:=.cells #[.int .i64 0,.int .i64 0] 29 (0,0)) (by(with_reducible repeat(first|refine Zo ?_ _|refine Zq ?_|refine Zn ?_ _));exact BK169002.out)):gb169002≠gb169003));have n9_:=Za ((by rw[hg];exact Nat.ne_of_gt (ZB (g:=gb169002) (o:=.cells #[.int .i64 0,.int .i64 0] 29 (0,0)) (by(with_reducible repeat(first|refine Zo ?_ _|refine Zq ?_|refine Zn ?_ _));exact BK169002.out)):gb169003≠gb169002));clear BK169001;clear BK169002;clear HB;have BK169001:=n0_;have BK169002:=n1_;have HB:=n2_;have BK169003:=n3_;have GW169003:=n4_;have GE169003:=n5_;have NB169001_169003:=n6_;have NB169003_169001:=n7_;have NB169002_169003:=n8_;have NB169003_169002:=n9_;clear n0_ n1_ n2_ n3_ n4_ n5_ n6_ n7_ n8_ n9_;clear hb hbox hg;have hnb5:=NB169001_169002.out;have hnc5:=NB169002_169001.out;have hnb6:=NB169001_169003.out;have hnc6:=NB169003_169001.out;have hcz7_0:w4.cell? ⟨gb169001,0,none⟩=some (.int .i64 a0_0):=(Zu BK169001.out 0).trans rfl;have hcz7_1:w4.cell? ⟨gb169001,1,none⟩=some (.int .i64 a0_1):=(Zu BK169001.out 1).trans rfl;have hfz7_0:=Zt BK169001.out 0;have hfz7_1:=Zt BK169001.out 1;have hnb8:=NB169003_169002.out;have hnc8:=NB169002_169003.out;have hcz9_0:w4.cell? ⟨gb169003,0,none⟩=some (.int .i64 0):=(Zu BK169003.out 0).trans rfl;have hcz9_1:w4.cell? ⟨gb169003,1,none⟩=some (.int .i64 0):=(Zu BK169003.out 1).trans rfl;have hfz9_0:=Zt BK169003.out 0;have hfz9_1:=Zt BK169003.out 1;have hcz10_0:w4.cell? ⟨gb169002,0,none⟩=some (.int .i64 0):=(Zu BK169002.out 0).trans rfl;have hcz10_1:w4.cell? ⟨gb169002,1,none⟩=some (.int .i64 0):=(Zu BK169002.out 1).trans rfl;have hfz10_0:=Zt BK169002.out 0;have hfz10_1:=Zt BK169002.out 1))
 refine bodyPost_ret (results_cell_row rfl _ _ gb169002 29 #[.int .i64 a0_0,.int .i64 a0_1] (0,0) _ rfl (by(with_reducible repeat(first|refine Zo ?_ _|refine Zq ?_|refine Zn ?_ _));refine ZF (cs:=#[.int .i64 a0_0,.int .i64 0]) ?_ 1 _ rfl;(with_reducible repeat(first|refine Zo ?_ _|refine Zq ?_|refine Zn ?_ _));refine ZF (cs:=#[.int .i64 0,.int .i64 0]) ?_ 0 _ rfl;(with_reducible repeat(first|refine Zo ?_ _|refine Zq ?_|refine Zn ?_ _));refine ZC ?_ NB169002_169003.out _;(with_reducible repeat(first|refine Zo ?_ _|refine Zq ?_|refine Zn ?_ _));refine ZC ?_ NB169002_169003.out _;(with_reducible repeat(first|refine Zo ?_ _|refine Zq ?_|refine Zn ?_ _));exact BK169002.out) Try.underlying29 rfl (by kernel_rfl)) rfl ?_
 exact⟨by first|rfl|(simp[ZA,Zz] <;> rfl)|(simp[*,ZA,Zz] <;> rfl),by repeat(first|(with_reducible first|exact HB.out|apply Zr|apply Zm|apply Zs|refine Zp ?_ GE169001.out|refine Zp ?_ GE169002.out|refine Zp ?_ GE169003.out)|exact HB.out)⟩
def ZbJ.f (a0_0:Int) (a0_1:Int) (a0_2:Int) (a0_3:Int):Option (Int×Int×Int×Int):=(Zbe.f a0_2 a0_3).bind fun bt132004=>(some (a0_0,a0_1,bt132004.1,bt132004.2))
set_option maxHeartbeats 8000000 in
set_option maxRecDepth 100000 in
theorem ZbJ.calls (a0_0:Int) (a0_1:Int) (a0_2:Int) (a0_3:Int) (r1:Int) (r2:Int) (r3:Int) (r4:Int) (w:World) (h:ZbJ.f a0_0 a0_1 a0_2 a0_3=some (r1,r2,r3,r4)) :
  Calls Try.prog 132 #[.agg #[.int .i64 a0_0,.int .i64 a0_1,.int .i64 a0_2,.int .i64 a0_3]] w fun e w'=>e=.returned (.agg #[.int .i64 r1,.int .i64 r2,.int .i64 r3,.int .i64 r4])∧Below w.heap.size w w':=by
 have hu156:=Try.underlying156
 have hu101:=Try.underlying101
 have hu154:=Try.underlying154
 have hu29:=Try.underlying29
 have HB:=Za (Below.refl w.heap.size w)
 have H:((Zbe.f a0_2 a0_3).bind fun bt132004=>(some (a0_0,a0_1,bt132004.1,bt132004.2)))=some (r1,r2,r3,r4):=h
 clear h
 replace H:=Zh H
 obtain⟨⟨t132004,t132005⟩,A20,H⟩:=H
 replace H:(some (a0_0,a0_1,t132004,t132005))=some (r1,r2,r3,r4):=H
 have A2:=Za A20;clear A20
 simp only[Option.some.injEq,Prod.mk.injEq] at H
 obtain⟨rfl,rfl,rfl,rfl⟩:=H
 go_enter Try.func132,Try.ntmps132
 go_wp2_with (first|((with_reducible refine ZD (N:=1) rfl ?_);refine ZE ?hg (N:=1) ?hd (cs:=#[.int .i64 a0_0,.int .i64 a0_1,.int .i64 a0_2,.int .i64 a0_3]) (t:=156) ?hr ?_;(case hd=>rfl);(case hg=>rfl);(case hr=>first|(go_simp;done)|(go_simp;rfl));intro gb132001 hg w3 hbox hb;have n0_:=Za (Zy (by repeat(first|(with_reducible first|exact HB.out|apply Zr|apply Zm|apply Zs)|exact HB.out)) hb);have n1_:=Za (hbox);have n2_:=Za ((by rw[hg];exact(Zv (by repeat(first|(with_reducible first|exact HB.out|apply Zr|apply Zm|apply Zs)|exact HB.out))):w.heap.size≤gb132001));have n3_:=Za ((by rw[hg];exact(Zv (by repeat(first|(with_reducible first|exact HB.out|apply Zr|apply Zm|apply Zs)|exact HB.out))):w.heap.size≤gb132001));clear HB;have HB:=n0_;have BK132001:=n1_;have GW132001:=n2_;have GE132001:=n3_;clear n0_ n1_ n2_ n3_;clear hb hbox hg)|((with_reducible refine ZD (N:=2) rfl ?_);refine ZE ?hg (N:=2) ?hd (cs:=#[.int .i64 0,.int .i64 0,.int .i64 0,.int .i64 0]) (t:=101) ?hr ?_;(case hd=>rfl);(case hg=>rfl);(case hr=>first|(go_simp;done)|(go_simp;rfl));intro gb132002 hg w4 hbox hb;have n0_:=Za (Zx (g:=gb132001) (o:=.cells #[.int .i64 a0_0,.int .i64 a0_1,.int .i64 a0_2,.int .i64 a0_3] 156 (0,0)) (by(with_reducible repeat(first|refine Zo ?_ _|refine Zq ?_|refine Zn ?_ _));exact BK132001.out) hb);have n1_:=Za (Zy (by repeat(first|(with_reducible first|exact HB.out|apply Zr|apply Zm|apply Zs|refine Zp ?_ GE132001.out)|exact HB.out)) hb);have n2_:=Za (hbox);have n3_:=Za ((by rw[hg];exact(Zv (by repeat(first|(with_reducible first|exact HB.out|apply Zr|apply Zm|apply Zs|refine Zp ?_ GE132001.out)|exact HB.out))):w.heap.size≤gb132002));have n4_:=Za ((by rw[hg];exact(Zv (by repeat(first|(with_reducible first|exact HB.out|apply Zr|apply Zm|apply Zs|refine Zp ?_ GE132001.out)|exact HB.out))):w.heap.size≤gb132002));have n5_:=Za ((by rw[hg];exact Nat.ne_of_lt (ZB (g:=gb132001) (o:=.cells #[.int .i64 a0_0,.int .i64 a0_1,.int .i64 a0_2,.int .i64 a0_3] 156 (0,0)) (by(with_reducible repeat(first|refine Zo ?_ _|refine Zq ?_|refine Zn ?_ _));exact BK132001.out)):gb132001≠gb132002));have n6_:=Za ((by rw[hg];exact Nat.ne_of_gt (ZB (g:=gb132001) (o:=.cells #[.int .i64 a0_0,.int .i64 a0_1,.int .i64 a0_2,.int .i64 a0_3] 156 (0,0)) (by(with_reducible repeat(first|refine Zo ?_ _|refine Zq ?_|refine Zn ?_ _));exact BK132001.out)):gb132002≠gb132001));clear BK132001;clear HB;have BK132001:=n0_;have HB:=n1_;have BK132002:=n2_;have GW132002:=n3_;have GE132002:=n4_;have NB132001_132002:=n5_;have NB132002_132001:=n6_;clear n0_ n1_ n2_ n3_ n4_ n5_ n6_;clear hb hbox hg)|((with_reducible refine ZD (N:=3) rfl ?_);refine ZE ?hg (N:=3) ?hd (cs:=#[.int .i64 0,.int .i64 0,.int .i64 0,.int .i64 0]) (t:=101) ?hr ?_;(case hd=>rfl);(case hg=>rfl);(case hr=>first|(go_simp;done)|(go_simp;rfl));intro gb132003 hg w5 hbox hb;have n0_:=Za (Zx (g:=gb132001) (o:=.cells #[.int .i64 a0_0,.int .i64 a0_1,.int .i64 a0_2,.int .i64 a0_3] 156 (0,0)) (by(with_reducible repeat(first|refine Zo ?_ _|refine Zq ?_|refine Zn ?_ _));exact BK132001.out) hb);have n1_:=Za (Zx (g:=gb132002) (o:=.cells #[.int .i64 0,.int .i64 0,.int .i64 0,.int .i64 0] 101 (0,0)) (by(with_reducible repeat(first|refine Zo ?_ _|refine Zq ?_|refine Zn ?_ _));exact BK132002.out) hb);have n2_:=Za (Zy (by repeat(first|(with_reducible first|exact HB.out|apply Zr|apply Zm|apply Zs|refine Zp ?_ GE132001.out|refine Zp ?_ GE132002.out)|exact HB.out)) hb);have n3_:=Za (hbox);have n4_:=Za ((by rw[hg];exact(Zv (by repeat(first|(with_reducible first|exact HB.out|apply Zr|apply Zm|apply Zs|refine Zp ?_ GE132001.out|refine Zp ?_ GE132002.out)|exact HB.out))):w.heap.size≤gb132003));have n5_:=Za ((by rw[hg];exact(Zv (by repeat(first|(with_reducible first|exact HB.out|apply Zr|apply Zm|apply Zs|refine Zp ?_ GE132001.out|refine Zp ?_ GE132002.out)|exact HB.out))):w.heap.size≤gb132003));have n6_:=Za ((by rw[hg];exact Nat.ne_of_lt (ZB (g:=gb132001) (o:=.cells #[.int .i64 a0_0,.int .i64 a0_1,.int .i64 a0_2,.int .i64 a0_3] 156 (0,0)) (by(with_reducible repeat(first|refine Zo ?_ _|refine Zq ?_|refine Zn ?_ _));exact BK132001.out)):gb132001≠gb132003));have n7_:=Za ((by rw[hg];exact Nat.ne_of_gt (ZB (g:=gb132001) (o:=.cells #[.int .i64 a0_0,.int .i64 a0_1,.int .i64 a0_2,.int .i64 a0_3] 156 (0,0)) (by(with_reducible repeat(first|refine Zo ?_ _|refine Zq ?_|refine Zn ?_ _));exact BK132001.out)):gb132003≠gb132001));have n8_:=Za ((by rw[hg];exact Nat.ne_of_lt (ZB (g:=gb132002) (o:=.cells #[.int .i64 0,.int .i64 0,.int .i64 0,.int .i64 0] 101 (0,0)) (by(with_reducible repeat(first|refine Zo ?_ _|refine Zq ?_|refine Zn ?_ _));exact BK132002.out)):gb132002≠gb132003));have n9_:=Za ((by rw[hg];exact Nat.ne_of_gt (ZB (g:=gb132002) (o:=.cells #[.int .i64 0,.int .i64 0,.int .i64 0,.int .i64 0] 101 (0,0)) (by(with_reducible repeat(first|refine Zo ?_ _|refine Zq ?_|refine Zn ?_ _));exact BK132002.out)):gb132003≠gb132002));clear BK132001;clear BK132002;clear HB;have BK132001:=n0_;have BK132002:=n1_;have HB:=n2_;have BK132003:=n3_;have GW132003:=n4_;have GE132003:=n5_;have NB132001_132003:=n6_;have NB132003_132001:=n7_;have NB132002_132003:=n8_;have NB132003_132002:=n9_;clear n0_ n1_ n2_ n3_ n4_ n5_ n6_ n7_ n8_ n9_;clear hb hbox hg;have hnb6:=NB132001_132002.out;have hnc6:=NB132002_132001.out;have hnb7:=NB132001_132003.out;have hnc7:=NB132003_132001.out;have hcz8_0:w5.cell? ⟨gb132001,0,none⟩=some (.int .i64 a0_0):=(Zu BK132001.out 0).trans rfl;have hcz8_1:w5.cell? ⟨gb132001,1,none⟩=some (.int .i64 a0_1):=(Zu BK132001.out 1).trans rfl;have hcz8_2:w5.cell? ⟨gb132001,2,none⟩=some (.int .i64 a0_2):=(Zu BK132001.out 2).trans rfl;have hcz8_3:w5.cell? ⟨gb132001,3,none⟩=some (.int .i64 a0_3):=(Zu BK132001.out 3).trans rfl;have hfz8_0:=Zt BK132001.out 0;have hfz8_1:=Zt BK132001.out 1;have hfz8_2:=Zt BK132001.out 2;have hfz8_3:=Zt BK132001.out 3;have hnb9:=NB132003_132002.out;have hnc9:=NB132002_132003.out;have hcz10_0:w5.cell? ⟨gb132003,0,none⟩=some (.int .i64 0):=(Zu BK132003.out 0).trans rfl;have hcz10_1:w5.cell? ⟨gb132003,1,none⟩=some (.int .i64 0):=(Zu BK132003.out 1).trans rfl;have hcz10_2:w5.cell? ⟨gb132003,2,none⟩=some (.int .i64 0):=(Zu BK132003.out 2).trans rfl;have hcz10_3:w5.cell? ⟨gb132003,3,none⟩=some (.int .i64 0):=(Zu BK132003.out 3).trans rfl;have hfz10_0:=Zt BK132003.out 0;have hfz10_1:=Zt BK132003.out 1;have hfz10_2:=Zt BK132003.out 2;have hfz10_3:=Zt BK132003.out 3)|((with_reducible refine ZG (f:=169) rfl ?_);refine ZV (some 12) rfl rfl Try.func169 (by kernel_rfl) rfl #[.agg #[.int .i64 a0_2,.int .i64 a0_3]] rfl (by(try simp only[List.map_toArray,List.map_cons,List.map_nil]);first|done|rfl|(simp only[Zk,Zj];rfl)) ?_;(with_reducible refine(Zbe.calls a0_2 a0_3 t132004 t132005 _ A2.out).mono ?_);rintro e w11 ⟨rfl,hb⟩;refine⟨_,rfl,?_⟩;have n0_:=Za (Zx (g:=gb132001) (o:=.cells #[.int .i64 a0_0,.int .i64 a0_1,.int .i64 a0_2,.int .i64 a0_3] 156 (0,0)) (by(with_reducible repeat(first|refine Zo ?_ _|refine Zq ?_|refine Zn ?_ _));refine ZC ?_ NB132001_132003.out _;(with_reducible repeat(first|refine Zo ?_ _|refine Zq ?_|refine Zn ?_ _));refine ZC ?_ NB132001_132003.out _;(with_reducible repeat(first|refine Zo ?_ _|refine Zq ?_|refine Zn ?_ _));exact BK132001.out) hb);have n1_:=Za (Zx (g:=gb132002) (o:=.cells #[.int .i64 0,.int .i64 0,.int .i64 0,.int .i64 0] 101 (0,0)) (by(with_reducible repeat(first|refine Zo ?_ _|refine Zq ?_|refine Zn ?_ _));refine ZC ?_ NB132002_132003.out _;(with_reducible repeat(first|refine Zo ?_ _|refine Zq ?_|refine Zn ?_ _));refine ZC ?_ NB132002_132003.out _;(with_reducible repeat(first|refine Zo ?_ _|refine Zq ?_|refine Zn ?_ _));exact BK132002.out) hb);have n2_:=Za (Zx (g:=gb132003) (o:=.cells #[.int .i64 a0_0,.int .i64 a0_1,.int .i64 0,.int .i64 0] 101 (0,0)) (by(with_reducible repeat(first|refine Zo ?_ _|refine Zq ?_|refine Zn ?_ _));refine ZF (cs:=#[.int .i64 a0_0,.int .i64 0,.int .i64 0,.int .i64 0]) ?_ 1 _ rfl;(with_reducible repeat(first|refine Zo ?_ _|refine Zq ?_|refine Zn ?_ _));refine ZF (cs:=#[.int .i64 0,.int .i64 0,.int .i64 0,.int .i64 0]) ?_ 0 _ rfl;(with_reducible repeat(first|refine Zo ?_ _|refine Zq ?_|refine Zn ?_ _));exact BK132003.out) hb);have n3_:=Za (Zy (by repeat(first|(with_reducible first|exact HB.out|apply Zr|apply Zm|apply Zs|refine Zp ?_ GE132001.out|refine Zp ?_ GE132002.out|refine Zp ?_ GE132003.out)|exact HB.out)) hb);clear BK132001;clear BK132002;clear BK132003;clear HB;have BK132001:=n0_;have BK132002:=n1_;have BK132003:=n2_;have HB:=n3_;clear n0_ n1_ n2_ n3_;(try clear hb);(try clear hb2);(try clear hk);(try clear hi);have hcz12_0:w11.cell? ⟨gb132003,0,none⟩=some (.int .i64 a0_0):=(Zu BK132003.out 0).trans rfl;have hcz12_1:w11.cell? ⟨gb132003,1,none⟩=some (.int .i64 a0_1):=(Zu BK132003.out 1).trans rfl;have hcz12_2:w11.cell? ⟨gb132003,2,none⟩=some (.int .i64 0):=(Zu BK132003.out 2).trans rfl;have hcz12_3:w11.cell? ⟨gb132003,3,none⟩=some (.int .i64 0):=(Zu BK132003.out 3).trans rfl;have hfz12_0:=Zt BK132003.out 0;have hfz12_1:=Zt BK132003.out 1;have hfz12_2:=Zt BK132003.out 2;have hfz12_3:=Zt BK132003.out 3;have hcz13_0:w11.cell? ⟨gb132002,0,none⟩=some (.int .i64 0):=(Zu BK132002.out 0).trans rfl;have hcz13_1:w11.cell? ⟨gb132002,1,none⟩=some (.int .i64 0):=(Zu BK132002.out 1).trans rfl;have hcz13_2:w11.cell? ⟨gb132002,2,none⟩=some (.int .i64 0):=(Zu BK132002.out 2).trans rfl;have hcz13_3:w11.cell? ⟨gb132002,3,none⟩=some (.int .i64 0):=(Zu BK132002.out 3).trans rfl;have hfz13_0:=Zt BK132002.out 0;have hfz13_1:=Zt BK132002.out 1;have hfz13_2:=Zt BK132002.out 2;have hfz13_3:=Zt BK132002.out 3))
 refine bodyPost_ret (results_cell_row rfl _ _ gb132002 101 #[.int .i64 a0_0,.int .i64 a0_1,.int .i64 t132004,.int .i64 t132005] (0,0) _ rfl (by(with_reducible repeat(first|refine Zo ?_ _|refine Zq ?_|refine Zn ?_ _));refine ZF (cs:=#[.int .i64 a0_0,.int .i64 a0_1,.int .i64 t132004,.int .i64 0]) ?_ 3 _ rfl;(with_reducible repeat(first|refine Zo ?_ _|refine Zq ?_|refine Zn ?_ _));refine ZF (cs:=#[.int .i64 a0_0,.int .i64 a0_1,.int .i64 0,.int .i64 0]) ?_ 2 _ rfl;(with_reducible repeat(first|refine Zo ?_ _|refine Zq ?_|refine Zn ?_ _));refine ZF (cs:=#[.int .i64 a0_0,.int .i64 0,.int .i64 0,.int .i64 0]) ?_ 1 _ rfl;(with_reducible repeat(first|refine Zo ?_ _|refine Zq ?_|refine Zn ?_ _));refine ZF (cs:=#[.int .i64 0,.int .i64 0,.int .i64 0,.int .i64 0]) ?_ 0 _ rfl;(with_reducible repeat(first|refine Zo ?_ _|refine Zq ?_|refine Zn ?_ _));refine ZC ?_ NB132002_132003.out _;(with_reducible repeat(first|refine Zo ?_ _|refine Zq ?_|refine Zn ?_ _));refine ZC ?_ NB132002_132003.out _;(with_reducible repeat(first|refine Zo ?_ _|refine Zq ?_|refine Zn ?_ _));exact BK132002.out) Try.underlying101 rfl (by kernel_rfl)) rfl ?_
 exact⟨by first|rfl|(simp[ZA,Zz] <;> rfl)|(simp[*,ZA,Zz] <;> rfl),by repeat(first|(with_reducible first|exact HB.out|apply Zr|apply Zm|apply Zs|refine Zp ?_ GE132001.out|refine Zp ?_ GE132002.out|refine Zp ?_ GE132003.out)|exact HB.out)⟩
def Zal.l0:Nat→List (S156)→List (S101)→Int→Option ((List (S101)))
 | 0,_,_,_=>none
 | k+1,x0,x3,x4=>if x4<(x0.length:Int) then(if 0≤x4 then((ZbJ.f ((ZaZ x0 x4).f0) ((ZaZ x0 x4).f1) ((ZaZ x0 x4).f2.f0) ((ZaZ x0 x4).f2.f1)).bind fun bt84005=>(if x4<(x3.length:Int) then(Zal.l0 k x0 (x3.set (x4:Int).toNat (⟨bt84005.1,bt84005.2.1,(⟨bt84005.2.2.1,bt84005.2.2.2⟩:S29)⟩:S101)) (wrap64 (x4+1))) else(none))) else(none)) else(some x3)
def Zal.f (k:Nat) (l0:List (S156)):Option ((List (S101))):=if 0≤(l0.length:Int) then(if ((l0.length:Int):Int).toNat≤8796093022208 then(Zal.l0 k l0 (List.replicate ((l0.length:Int):Int).toNat z101) 0) else(none)) else(none)
set_option maxHeartbeats 8000000 in
set_option maxRecDepth 100000 in
theorem Zal.calls (k:Nat) (A0:Option Addr) (c0:Nat) (l0:List (S156)) (r:List (S101)) (w:World) (hr0:Kd.C k156 w A0 l0.length l0) (hc0:l0.length≤c0) (h:Zal.f k l0=some r) :
  Calls Try.prog 84 #[.slice A0 l0.length c0] w fun e w'=>∃v0_:Value,e=.returned (v0_)∧Kd.R k101 101 w' w.heap.size (fun _=>True) v0_ r∧Below w.heap.size w w':=by
 have hu156:=Try.underlying156
 have hu101:=Try.underlying101
 have HR0:=Za hr0;have HC0:=Za hc0;clear hr0 hc0
 have HB:=Za (Below.refl w.heap.size w)
 have H:(if 0≤(l0.length:Int) then(if ((l0.length:Int):Int).toNat≤8796093022208 then(Zal.l0 k l0 (List.replicate ((l0.length:Int):Int).toNat z101) 0) else(none)) else(none))=some r:=h
 clear h
 by_cases c2:0≤(l0.length:Int)
 ·rw[if_pos c2] at H
  have c2b0:=eq_true c2
  have c2b1:decide (0≤(l0.length:Int))=true:=Ze c2
  clear c2
  by_cases c3:((l0.length:Int):Int).toNat≤8796093022208
  ·rw[if_pos c3] at H
   have c3b0:=eq_true c3
   have c3b1:decide (((l0.length:Int):Int).toNat≤8796093022208)=true:=Ze c3
   clear c3
   obtain⟨y84001,hy84001⟩:∃y_:List (S101),y_=(List.replicate ((l0.length:Int):Int).toNat z101):=⟨_,rfl⟩
   replace H:(Zal.l0 k l0 y84001 0)=some r:=by first|(rw[hy84001];with_reducible exact H)|(have H2_:=(Zi _ _).symm.trans H;rw[hy84001];with_reducible exact H2_)|(have H2_:=(Zi _ _).symm.trans H;with_reducible exact H2_)|with_reducible exact H|(rw[hy84001];exact H)|exact H
   have Ny84001:=Za hy84001;clear hy84001
   have H':=Za H
   clear H
   go_enter Try.func84,Try.ntmps84
   go_wp2_with (first|((with_reducible refine ZD (N:=7) rfl ?_);refine Kd.R_make k101 _ 101 rfl (N:=7) rfl 23 _ _ rfl (l0.length:Int) rfl rfl Try.underlying23 (.agg #[(.int .i64 0),(.int .i64 0),(.int .i64 0),(.int .i64 0)]) 32 Zcu rfl (by decide) (by omega) z101 (ok:=fun _=>True) (okp:=fun _=>True) (ZcD _ _ _ z101 ) (fun _ hk=>hk) trivial (Zd (by first|(with_reducible assumption)|assumption)) (Nat.le_trans (Nat.mul_le_mul_right _ (Zd (by first|(with_reducible assumption)|assumption):(l0.length:Int).toNat≤8796093022208)) (by omega)) (Below.refl _ _) (Nat.le_refl _) ?_;intro v84002 w4 ho5 hb hg_ hnew_;clear hg_ hnew_;(first|rw[← Ny84001.out] at ho5|(simp only[Int.reduceToNat] at ho5;rw[← Ny84001.out] at ho5));have n0_:=Za (Kd.R_lower ho5 (Zv (by repeat(first|(with_reducible first|exact HB.out|apply Zr|apply Zm|apply Zs)|exact HB.out))));have n1_:=Za (Zy (by repeat(first|(with_reducible first|exact HB.out|apply Zr|apply Zm|apply Zs)|exact HB.out)) hb);clear HB;have HO84003:=n0_;have HB:=n1_;clear n0_ n1_;clear hb ho5))
   go_loopg [4] k (fun kq v4 w'=>∃(x3_1:List (S101)) (x4_1:Int),v4=.int .i64 x4_1∧Aside0 (Zal.l0 kq l0 x3_1 x4_1=some r)∧Aside0 (kq≤k)∧Aside0 (Kd.R k101 101 w' w.heap.size (fun _=>True) v84002 x3_1)∧Aside0 (Below w.heap.size w w'))
   case atStart=>exact⟨(y84001),(0),(by first|rfl|(simp;done)|(simp[*];done)),H',⟨Nat.le_refl _⟩,⟨by(with_reducible repeat(first|apply Kd.R_alloc|apply Kd.R_drewN|apply Kd.R_drew));exact HO84003.out⟩,⟨by repeat(first|(with_reducible first|exact HB.out|apply Zr|apply Zm|apply Zs)|exact HB.out)⟩⟩
   case round=>
    clear H'
    try clear c2
    try clear c2b0
    try clear c2b1
    try clear p2
    try clear c3
    try clear c3b0
    try clear c3b1
    obtain⟨x3_1,x4_1,rfl,HA,HK1,HO_3,HB⟩:=hrel
    cases gk with
    | zero=>exact absurd HA.out (by simp[Zal.l0])
    | succ k1=>
     have H:=HA.out
     clear HA
     simp only[Zal.l0] at H
     by_cases c6:x4_1<(l0.length:Int)
     ·rw[if_pos c6] at H
      have c6b0:decide (x4_1<(l0.length:Int))=true:=Ze c6
      clear c6
      by_cases c7:0≤x4_1
      ·rw[if_pos c7] at H
       have c7b0:decide (0≤x4_1)=true:=Ze c7
       clear c7
       replace H:=Zh H
       obtain⟨⟨t84005,t84006,t84007,t84008⟩,A80,H⟩:=H
       replace H:(if x4_1<(x3_1.length:Int) then(Zal.l0 k1 l0 (x3_1.set (x4_1:Int).toNat (⟨t84005,t84006,(⟨t84007,t84008⟩:S29)⟩:S101)) (wrap64 (x4_1+1))) else(none))=some r:=H
       have A8:=Za A80;clear A80
       by_cases c9:x4_1<(x3_1.length:Int)
       ·rw[if_pos c9] at H
        have c9b0:decide (x4_1<(x3_1.length:Int))=true:=Ze c9
        clear c9
        obtain⟨y84009,hy84009⟩:∃y_:List (S101),y_=(x3_1.set (x4_1:Int).toNat (⟨t84005,t84006,(⟨t84007,t84008⟩:S29)⟩:S101)):=⟨_,rfl⟩
        replace H:(Zal.l0 k1 l0 y84009 (wrap64 (x4_1+1)))=some r:=by first|(rw[hy84009];with_reducible exact H)|(have H2_:=(Zi _ _).symm.trans H;rw[hy84009];with_reducible exact H2_)|(have H2_:=(Zi _ _).symm.trans H;with_reducible exact H2_)|with_reducible exact H|(rw[hy84009];exact H)|exact H
        have Ny84009:=Za hy84009;clear hy84009
        have H':=Za H
        clear H
        have p84004:0≤(x4_1:Int):=Zd (by first|(with_reducible assumption)|assumption)
        have q84004:x4_1<(l0.length:Int):=Zd (by first|(with_reducible assumption)|assumption)
        obtain⟨ad84004,e84004,hx84004_0,hx84004_1,hx84004_2,hx84004_3⟩:=at_T156 HR0.out x4_1 p84004 q84004
        cases e84004
        replace hx84004_0:=(HB.out.cell (Zc w _ hx84004_0)).trans hx84004_0
        replace hx84004_1:=(HB.out.cell (Zc w _ hx84004_1)).trans hx84004_1
        replace hx84004_2:=(HB.out.cell (Zc w _ hx84004_2)).trans hx84004_2
        replace hx84004_3:=(HB.out.cell (Zc w _ hx84004_3)).trans hx84004_3
        replace p84004:=eq_true p84004
        replace q84004:=eq_true q84004
        go_wp2_with (first|((with_reducible refine ZG (f:=132) rfl ?_);refine ZV (some 20) rfl rfl Try.func132 (by kernel_rfl) rfl #[.agg #[.int .i64 ((ZaZ l0 x4_1).f0),.int .i64 ((ZaZ l0 x4_1).f1),.int .i64 ((ZaZ l0 x4_1).f2.f0),.int .i64 ((ZaZ l0 x4_1).f2.f1)]] rfl (by(try simp only[List.map_toArray,List.map_cons,List.map_nil]);first|done|rfl|(simp only[Zk,Zj];rfl)) ?_;(with_reducible refine(ZbJ.calls ((ZaZ l0 x4_1).f0) ((ZaZ l0 x4_1).f1) ((ZaZ l0 x4_1).f2.f0) ((ZaZ l0 x4_1).f2.f1) t84005 t84006 t84007 t84008 _ A8.out).mono ?_);rintro e w11 ⟨rfl,hb⟩;refine⟨_,rfl,?_⟩;have n0_:=Za (Kd.R_below (by(with_reducible repeat(first|apply Kd.R_alloc|apply Kd.R_drewN|apply Kd.R_drew));exact HO_3.out) hb);have n1_:=Za (Zy (by repeat(first|(with_reducible first|exact HB.out|apply Zr|apply Zm|apply Zs)|exact HB.out)) hb);clear HO_3;clear HB;have HO_3:=n0_;have HB:=n1_;clear n0_ n1_;(try clear hb);(try clear hb2);(try clear hk);(try clear hi);have p10:0≤(x4_1:Int):=Zd (by first|(with_reducible assumption)|assumption);have q10:(x4_1:Int)<((x3_1.length:Int):Int):=Zd (by first|(with_reducible assumption)|assumption);obtain⟨go10,co10,eo10,gb10,gl10,cl10,HG10⟩:=Kd.R_form HO_3.out (by omega);(first|cases eo10|(injection eo10 with ea_ en_ ec_;(first|subst ea_|(injection ea_ with ea_;subst ea_));subst ec_;clear en_));have GB10:=Za gb10;have GG10:=Za HG10;clear gb10 gl10 HG10;obtain⟨ce10,hcl10,hM10,hcc10,hfr10⟩:=Kd.R_elem HO_3.out z101 (x4_1:Int) p10 q10;obtain rfl:=Zda hM10;have hx10_0:w11.cell? ⟨go10,(x4_1:Int).toNat * 4,none⟩=some (.int .i64 ((Zw x3_1 x4_1).f0)):=hcc10 0 _ rfl;have hx10_1:w11.cell? ⟨go10,(x4_1:Int).toNat * 4+1,none⟩=some (.int .i64 ((Zw x3_1 x4_1).f1)):=hcc10 1 _ rfl;have hx10_2:w11.cell? ⟨go10,(x4_1:Int).toNat * 4+2,none⟩=some (.int .i64 ((Zw x3_1 x4_1).f2.f0)):=hcc10 2 _ rfl;have hx10_3:w11.cell? ⟨go10,(x4_1:Int).toNat * 4+3,none⟩=some (.int .i64 ((Zw x3_1 x4_1).f2.f1)):=hcc10 3 _ rfl;have hf10_0:w11.frozen? ⟨go10,(x4_1:Int).toNat * 4,none⟩=false:=hfr10 0;have hf10_1:w11.frozen? ⟨go10,(x4_1:Int).toNat * 4+1,none⟩=false:=hfr10 1;have hf10_2:w11.frozen? ⟨go10,(x4_1:Int).toNat * 4+2,none⟩=false:=hfr10 2;have hf10_3:w11.frozen? ⟨go10,(x4_1:Int).toNat * 4+3,none⟩=false:=hfr10 3;clear hcl10 hcc10 hfr10 hM10;replace p10:=eq_true p10;replace q10:=eq_true q10;have HX12:=Za (show Kd.R k101 101 w11 w.heap.size (fun _=>True) (.slice (some ⟨go10,0,none⟩) x3_1.length co10) x3_1 from(by(with_reducible repeat(first|apply Kd.R_alloc|apply Kd.R_drewN|apply Kd.R_drew));exact HO_3.out));obtain⟨ce12,hcl12,hM12,hcc12,hfr12⟩:=Kd.R_elem HX12.out z101 (x4_1:Int) (Zd (by first|(with_reducible assumption)|assumption)) (by have h_:(x4_1:Int)<((x3_1.length:Int):Int):=Zd (by first|(with_reducible assumption)|assumption);first|exact h_|(have e_:=(Kd.R_reads' HO_3.out).1;omega)|simpa using h_);obtain rfl:=Zda hM12;have HP12:=Kd.R_seg HX12.out (x4_1:Int) (Zd (by first|(with_reducible assumption)|assumption)) (by have h_:(x4_1:Int)<((x3_1.length:Int):Int):=Zd (by first|(with_reducible assumption)|assumption);first|exact h_|(have e_:=(Kd.R_reads' HO_3.out).1;omega)|simpa using h_) (seg:=[.int .i64 t84005,.int .i64 t84006,.int .i64 t84007,.int .i64 t84008]) (j:=0) hcl12 hcc12 (show 4≤4 from by decide) (x':=(⟨t84005,t84006,(⟨t84007,t84008⟩:S29)⟩:S101)) (ZcD _ _ _ (⟨t84005,t84006,(⟨t84007,t84008⟩:S29)⟩:S101) ) (fun _ hk=>hk);have hx12_0:=hcc12 0 _ rfl;(try simp only[show(k101).sz=4 from rfl,Nat.mul_one,Nat.add_zero] at hx12_0);have hf12_0:=hfr12 0;(try simp only[show(k101).sz=4 from rfl,Nat.mul_one,Nat.add_zero] at hf12_0);have hx12_1:=hcc12 1 _ rfl;(try simp only[show(k101).sz=4 from rfl,Nat.mul_one,Nat.add_zero] at hx12_1);have hf12_1:=hfr12 1;(try simp only[show(k101).sz=4 from rfl,Nat.mul_one,Nat.add_zero] at hf12_1);have hx12_2:=hcc12 2 _ rfl;(try simp only[show(k101).sz=4 from rfl,Nat.mul_one,Nat.add_zero] at hx12_2);have hf12_2:=hfr12 2;(try simp only[show(k101).sz=4 from rfl,Nat.mul_one,Nat.add_zero] at hf12_2);have hx12_3:=hcc12 3 _ rfl;(try simp only[show(k101).sz=4 from rfl,Nat.mul_one,Nat.add_zero] at hx12_3);have hf12_3:=hfr12 3;(try simp only[show(k101).sz=4 from rfl,Nat.mul_one,Nat.add_zero] at hf12_3);clear hcl12 hcc12 hfr12 hM12)|((with_reducible refine Zde (t:=101) (p:=21) rfl ?_);refine ZcT (t:=101) (p:=21) (v:=?vo_w13) (w1:=((((w11.setCell ⟨go10,(x4_1:Int).toNat * 4,none⟩ (.int .i64 t84005)).setCell ⟨go10,(x4_1:Int).toNat * 4+1,none⟩ (.int .i64 t84006)).setCell ⟨go10,(x4_1:Int).toNat * 4+2,none⟩ (.int .i64 t84007)).setCell ⟨go10,(x4_1:Int).toNat * 4+3,none⟩ (.int .i64 t84008))) ?hg ?ho ?hn ?hr ?_;(case ho=>rfl);(case hg=>rfl);(case hn=>rfl);(case hr=>first|(go_simp;done)|(go_simp;rfl));intro w13 hw;have hg:w11.grownBy w13 (some go10):=(by rw[hw];exact HP12.2);have hp_:Kd.R k101 101 w13 w.heap.size (fun _=>True) (.slice (some ⟨go10,0,none⟩) x3_1.length co10) y84009:=(by rw[hw,Ny84009.out];exact HP12.1);clear HP12;have n0_:=Za (hp_);have n1_:=Za ((by rw[hw];exact Zp (Zp (Zp (Zp (HB.out) GB10.out) GB10.out) GB10.out) GB10.out:Below w.heap.size w w13));clear HO_3;clear HB;have HO_3:=n0_;have HB:=n1_;clear n0_ n1_;clear hg hw hp_))
        go_roundg k1
        case measure=>have:=HK1.out;omega
        case rel=>exact⟨(y84009),(wrap64 (x4_1+1)),(by first|rfl|(simp;done)|(simp[*];done)),H',⟨by have:=HK1.out;omega⟩,⟨by(with_reducible repeat(first|apply Kd.R_alloc|apply Kd.R_drewN|apply Kd.R_drew));exact HO_3.out⟩,⟨by repeat(first|(with_reducible first|exact HB.out|apply Zr|apply Zm|apply Zs)|exact HB.out)⟩⟩
       ·rw[if_neg c9] at H
        exact absurd H (by simp)
      ·rw[if_neg c7] at H
       exact absurd H (by simp)
     ·rw[if_neg c6] at H
      have c6b0:decide (x4_1<(l0.length:Int))=false:=Zf c6
      clear c6
      obtain rfl:=Zg H
      go_wp2
      go_ret
      exact⟨_,by first|rfl|(simp[ZA,Zz] <;> rfl)|(simp[*,ZA,Zz] <;> rfl),by(with_reducible repeat(first|apply Kd.R_alloc|apply Kd.R_drewN|apply Kd.R_drew));exact HO_3.out,by repeat(first|(with_reducible first|exact HB.out|apply Zr|apply Zm|apply Zs)|exact HB.out)⟩
  ·rw[if_neg c3] at H
   exact absurd H (by simp)
 ·rw[if_neg c2] at H
  exact absurd H (by simp)
def ZaM.f (k:Nat) (a0_0:Int) (l0_1:List (S156)):Option (Int×(List (S101))):=(Zal.f k l0_1).bind fun t31004=>(some (a0_0,t31004))
set_option maxHeartbeats 8000000 in
set_option maxRecDepth 100000 in
theorem ZaM.calls (k:Nat) (a0_0:Int) (A0_1:Option Addr) (c0_1:Nat) (l0_1:List (S156)) (r1:Int) (r2:List (S101)) (w:World) (hr0_1:Kd.C k156 w A0_1 l0_1.length l0_1) (hc0_1:l0_1.length≤c0_1) (h:ZaM.f k a0_0 l0_1=some (r1,r2)) :
  Calls Try.prog 31 #[.agg #[.int .i64 a0_0,.slice A0_1 l0_1.length c0_1]] w fun e w'=>∃v1_:Value,e=.returned (.agg #[.int .i64 r1,v1_])∧Kd.R k101 101 w' w.heap.size (fun _=>True) v1_ r2∧Below w.heap.size w w':=by
 have hu46:=Try.underlying46
 have hu25:=Try.underlying25
 have HR0_1:=Za hr0_1;have HC0_1:=Za hc0_1;clear hr0_1 hc0_1
 have HB:=Za (Below.refl w.heap.size w)
 have H:((Zal.f k l0_1).bind fun t31004=>(some (a0_0,t31004)))=some (r1,r2):=h
 clear h
 replace H:=Zh H
 obtain⟨t31004,A20,H⟩:=H
 replace H:(some (a0_0,t31004))=some (r1,r2):=H
 have A2:=Za A20;clear A20
 simp only[Option.some.injEq,Prod.mk.injEq] at H
 obtain⟨rfl,rfl⟩:=H
 go_enter Try.func31,Try.ntmps31
 go_wp2_with (first|((with_reducible refine ZD (N:=1) rfl ?_);refine ZE ?hg (N:=1) ?hd (cs:=#[.int .i64 a0_0,.slice A0_1 l0_1.length c0_1]) (t:=46) ?hr ?_;(case hd=>rfl);(case hg=>rfl);(case hr=>first|(go_simp;done)|(go_simp;rfl));intro gb31001 hg w3 hbox hb;have n0_:=Za (Zy (by repeat(first|(with_reducible first|exact HB.out|apply Zr|apply Zm|apply Zs)|exact HB.out)) hb);have n1_:=Za (hbox);have n2_:=Za ((by rw[hg];exact(Zv (by repeat(first|(with_reducible first|exact HB.out|apply Zr|apply Zm|apply Zs)|exact HB.out))):w.heap.size≤gb31001));have n3_:=Za ((by rw[hg];exact(Zv (by repeat(first|(with_reducible first|exact HB.out|apply Zr|apply Zm|apply Zs)|exact HB.out))):w.heap.size≤gb31001));clear HB;have HB:=n0_;have BK31001:=n1_;have GW31001:=n2_;have GE31001:=n3_;clear n0_ n1_ n2_ n3_;clear hb hbox hg)|((with_reducible refine ZD (N:=2) rfl ?_);refine ZE ?hg (N:=2) ?hd (cs:=#[.int .i64 0,.slice none 0 0]) (t:=25) ?hr ?_;(case hd=>rfl);(case hg=>rfl);(case hr=>first|(go_simp;done)|(go_simp;rfl));intro gb31002 hg w4 hbox hb;have n0_:=Za (Zx (g:=gb31001) (o:=.cells #[.int .i64 a0_0,.slice A0_1 l0_1.length c0_1] 46 (0,0)) (by(with_reducible repeat(first|refine Zo ?_ _|refine Zq ?_|refine Zn ?_ _));exact BK31001.out) hb);have n1_:=Za (Zy (by repeat(first|(with_reducible first|exact HB.out|apply Zr|apply Zm|apply Zs|refine Zp ?_ GE31001.out)|exact HB.out)) hb);have n2_:=Za (hbox);have n3_:=Za ((by rw[hg];exact(Zv (by repeat(first|(with_reducible first|exact HB.out|apply Zr|apply Zm|apply Zs|refine Zp ?_ GE31001.out)|exact HB.out))):w.heap.size≤gb31002));have n4_:=Za ((by rw[hg];exact(Zv (by repeat(first|(with_reducible first|exact HB.out|apply Zr|apply Zm|apply Zs|refine Zp ?_ GE31001.out)|exact HB.out))):w.heap.size≤gb31002));have n5_:=Za ((by rw[hg];exact Nat.ne_of_lt (ZB (g:=gb31001) (o:=.cells #[.int .i64 a0_0,.slice A0_1 l0_1.length c0_1] 46 (0,0)) (by(with_reducible repeat(first|refine Zo ?_ _|refine Zq ?_|refine Zn ?_ _));exact BK31001.out)):gb31001≠gb31002));have n6_:=Za ((by rw[hg];exact Nat.ne_of_gt (ZB (g:=gb31001) (o:=.cells #[.int .i64 a0_0,.slice A0_1 l0_1.length c0_1] 46 (0,0)) (by(with_reducible repeat(first|refine Zo ?_ _|refine Zq ?_|refine Zn ?_ _));exact BK31001.out)):gb31002≠gb31001));clear BK31001;clear HB;have BK31001:=n0_;have HB:=n1_;have BK31002:=n2_;have GW31002:=n3_;have GE31002:=n4_;have NB31001_31002:=n5_;have NB31002_31001:=n6_;clear n0_ n1_ n2_ n3_ n4_ n5_ n6_;clear hb hbox hg)|((with_reducible refine ZD (N:=3) rfl ?_);refine ZE ?hg (N:=3) ?hd (cs:=#[.int .i64 0,.slice none 0 0]) (t:=25) ?hr ?_;(case hd=>rfl);(case hg=>rfl);(case hr=>first|(go_simp;done)|(go_simp;rfl));intro gb31003 hg w5 hbox hb;have n0_:=Za (Zx (g:=gb31001) (o:=.cells #[.int .i64 a0_0,.slice A0_1 l0_1.length c0_1] 46 (0,0)) (by(with_reducible repeat(first|refine Zo ?_ _|refine Zq ?_|refine Zn ?_ _));exact BK31001.out) hb);have n1_:=Za (Zx (g:=gb31002) (o:=.cells #[.int .i64 0,.slice none 0 0] 25 (0,0)) (by(with_reducible repeat(first|refine Zo ?_ _|refine Zq ?_|refine Zn ?_ _));exact BK31002.out) hb);have n2_:=Za (Zy (by repeat(first|(with_reducible first|exact HB.out|apply Zr|apply Zm|apply Zs|refine Zp ?_ GE31001.out|refine Zp ?_ GE31002.out)|exact HB.out)) hb);have n3_:=Za (hbox);have n4_:=Za ((by rw[hg];exact(Zv (by repeat(first|(with_reducible first|exact HB.out|apply Zr|apply Zm|apply Zs|refine Zp ?_ GE31001.out|refine Zp ?_ GE31002.out)|exact HB.out))):w.heap.size≤gb31003));have n5_:=Za ((by rw[hg];exact(Zv (by repeat(first|(with_reducible first|exact HB.out|apply Zr|apply Zm|apply Zs|refine Zp ?_ GE31001.out|refine Zp ?_ GE31002.out)|exact HB.out))):w.heap.size≤gb31003));have n6_:=Za ((by rw[hg];exact Nat.ne_of_lt (ZB (g:=gb31001) (o:=.cells #[.int .i64 a0_0,.slice A0_1 l0_1.length c0_1] 46 (0,0)) (by(with_reducible repeat(first|refine Zo ?_ _|refine Zq ?_|refine Zn ?_ _));exact BK31001.out)):gb31001≠gb31003));have n7_:=Za ((by rw[hg];exact Nat.ne_of_gt (ZB (g:=gb31001) (o:=.cells #[.int .i64 a0_0,.slice A0_1 l0_1.length c0_1] 46 (0,0)) (by(with_reducible repeat(first|refine Zo ?_ _|refine Zq ?_|refine Zn ?_ _));exact BK31001.out)):gb31003≠gb31001));have n8_:=Za ((by rw[hg];exact Nat.ne_of_lt (ZB (g:=gb31002) (o:=.cells #[.int .i64 0,.slice none 0 0] 25 (0,0)) (by(with_reducible repeat(first|refine Zo ?_ _|refine Zq ?_|refine Zn ?_ _));exact BK31002.out)):gb31002≠gb31003));have n9_:=Za ((by rw[hg];exact Nat.ne_of_gt (ZB (g:=gb31002) (o:=.cells #[.int .i64 0,.slice none 0 0] 25 (0,0)) (by(with_reducible repeat(first|refine Zo ?_ _|refine Zq ?_|refine Zn ?_ _));exact BK31002.out)):gb31003≠gb31002));clear BK31001;clear BK31002;clear HB;have BK31001:=n0_;have BK31002:=n1_;have HB:=n2_;have BK31003:=n3_;have GW31003:=n4_;have GE31003:=n5_;have NB31001_31003:=n6_;have NB31003_31001:=n7_;have NB31002_31003:=n8_;have NB31003_31002:=n9_;clear n0_ n1_ n2_ n3_ n4_ n5_ n6_ n7_ n8_ n9_;clear hb hbox hg;have hnb6:=NB31001_31002.out;have hnc6:=NB31002_31001.out;have hnb7:=NB31001_31003.out;have hnc7:=NB31003_31001.out;have hcz8_0:w5.cell? ⟨gb31001,0,none⟩=some (.int .i64 a0_0):=(Zu BK31001.out 0).trans rfl;have hcz8_1:w5.cell? ⟨gb31001,1,none⟩=some (.slice A0_1 l0_1.length c0_1):=(Zu BK31001.out 1).trans rfl;have hfz8_0:=Zt BK31001.out 0;have hfz8_1:=Zt BK31001.out 1;have hnb9:=NB31003_31002.out;have hnc9:=NB31002_31003.out;have hcz10_0:w5.cell? ⟨gb31003,0,none⟩=some (.int .i64 0):=(Zu BK31003.out 0).trans rfl;have hcz10_1:w5.cell? ⟨gb31003,1,none⟩=some (.slice none 0 0):=(Zu BK31003.out 1).trans rfl;have hfz10_0:=Zt BK31003.out 0;have hfz10_1:=Zt BK31003.out 1)|((with_reducible refine ZG (f:=84) rfl ?_);refine ZV (some 9) rfl rfl Try.func84 (by kernel_rfl) rfl #[.slice A0_1 l0_1.length c0_1] rfl (by(try simp only[List.map_toArray,List.map_cons,List.map_nil]);first|done|rfl|(simp only[Zk,Zj];rfl)) ?_;(with_reducible refine(Zal.calls k _ _ l0_1 t31004 _ ?side1 ?side2 A2.out).mono ?_);(case side1=>exact Zb HR0_1.out (by repeat(first|(with_reducible first|exact HB.out|apply Zr|apply Zm|apply Zs|refine Zp ?_ GE31001.out|refine Zp ?_ GE31002.out|refine Zp ?_ GE31003.out)|exact HB.out)));(case side2=>exact HC0_1.out);rintro e w11 ⟨v31005,rfl,ho0,hb⟩;refine⟨_,rfl,?_⟩;have n0_:=Za (Kd.R_lower ho0 (Zv (by repeat(first|(with_reducible first|exact HB.out|apply Zr|apply Zm|apply Zs|refine Zp ?_ GE31001.out|refine Zp ?_ GE31002.out|refine Zp ?_ GE31003.out)|exact HB.out))));have n1_:=Za (Zx (g:=gb31001) (o:=.cells #[.int .i64 a0_0,.slice A0_1 l0_1.length c0_1] 46 (0,0)) (by(with_reducible repeat(first|refine Zo ?_ _|refine Zq ?_|refine Zn ?_ _));refine ZC ?_ NB31001_31003.out _;(with_reducible repeat(first|refine Zo ?_ _|refine Zq ?_|refine Zn ?_ _));exact BK31001.out) hb);have n2_:=Za (Zx (g:=gb31002) (o:=.cells #[.int .i64 0,.slice none 0 0] 25 (0,0)) (by(with_reducible repeat(first|refine Zo ?_ _|refine Zq ?_|refine Zn ?_ _));refine ZC ?_ NB31002_31003.out _;(with_reducible repeat(first|refine Zo ?_ _|refine Zq ?_|refine Zn ?_ _));exact BK31002.out) hb);have n3_:=Za (Zx (g:=gb31003) (o:=.cells #[.int .i64 a0_0,.slice none 0 0] 25 (0,0)) (by(with_reducible repeat(first|refine Zo ?_ _|refine Zq ?_|refine Zn ?_ _));refine ZF (cs:=#[.int .i64 0,.slice none 0 0]) ?_ 0 _ rfl;(with_reducible repeat(first|refine Zo ?_ _|refine Zq ?_|refine Zn ?_ _));exact BK31003.out) hb);have n4_:=Za (Zy (by repeat(first|(with_reducible first|exact HB.out|apply Zr|apply Zm|apply Zs|refine Zp ?_ GE31001.out|refine Zp ?_ GE31002.out|refine Zp ?_ GE31003.out)|exact HB.out)) hb);clear BK31001;clear BK31002;clear BK31003;clear HB;have HO31006:=n0_;have BK31001:=n1_;have BK31002:=n2_;have BK31003:=n3_;have HB:=n4_;clear n0_ n1_ n2_ n3_ n4_;(try clear hb);(try clear hb2);(try clear hk);(try clear hi);(try clear ho0);obtain⟨Ao12,co12,eo12⟩:=Kd.R_slice HO31006.out;subst eo12;have hcz13_0:w11.cell? ⟨gb31003,0,none⟩=some (.int .i64 a0_0):=(Zu BK31003.out 0).trans rfl;have hcz13_1:w11.cell? ⟨gb31003,1,none⟩=some (.slice none 0 0):=(Zu BK31003.out 1).trans rfl;have hfz13_0:=Zt BK31003.out 0;have hfz13_1:=Zt BK31003.out 1;have hcz14_0:w11.cell? ⟨gb31002,0,none⟩=some (.int .i64 0):=(Zu BK31002.out 0).trans rfl;have hcz14_1:w11.cell? ⟨gb31002,1,none⟩=some (.slice none 0 0):=(Zu BK31002.out 1).trans rfl;have hfz14_0:=Zt BK31002.out 0;have hfz14_1:=Zt BK31002.out 1))
 refine bodyPost_ret (results_cell_row rfl _ _ gb31002 25 #[.int .i64 a0_0,.slice Ao12 t31004.length co12] (0,0) _ rfl (by(with_reducible repeat(first|refine Zo ?_ _|refine Zq ?_|refine Zn ?_ _));refine ZF (cs:=#[.int .i64 a0_0,.slice none 0 0]) ?_ 1 _ rfl;(with_reducible repeat(first|refine Zo ?_ _|refine Zq ?_|refine Zn ?_ _));refine ZF (cs:=#[.int .i64 0,.slice none 0 0]) ?_ 0 _ rfl;(with_reducible repeat(first|refine Zo ?_ _|refine Zq ?_|refine Zn ?_ _));refine ZC ?_ NB31002_31003.out _;(with_reducible repeat(first|refine Zo ?_ _|refine Zq ?_|refine Zn ?_ _));exact BK31002.out) Try.underlying25 rfl (by kernel_rfl)) rfl ?_
 exact⟨_,by first|rfl|(simp[ZA,Zz] <;> rfl)|(simp[*,ZA,Zz] <;> rfl),by(with_reducible repeat(first|apply Kd.R_alloc|apply Kd.R_drewN|apply Kd.R_drew));exact Kd.R_mono (Kd.R_far (p:=⟨gb31002,1,none⟩) (Kd.R_far (p:=⟨gb31002,0,none⟩) (Kd.R_far (p:=⟨gb31003,1,none⟩) (Kd.R_types (Kd.R_types HO31006.out BK31003.out (by decide)) BK31002.out (by decide)) (fun _ hk=>hk.1.2) (.slice Ao12 t31004.length co12)) (fun _ hk=>hk.2) (.int .i64 a0_0)) (fun _ hk=>hk.2) (.slice Ao12 t31004.length co12)) (fun _ hk=>trivial),by repeat(first|(with_reducible first|exact HB.out|apply Zr|apply Zm|apply Zs|refine Zp ?_ GE31001.out|refine Zp ?_ GE31002.out|refine Zp ?_ GE31003.out)|exact HB.out)⟩
theorem ZaM.c (k:Nat) (a0_0:Int) (A0_1:Option Addr) (c0_1:Nat) (l0_1:List (S156)) (r1:Int) (r2:List (S101)) (w:World) (hr0_1:Kd.C k156 w A0_1 l0_1.length l0_1) (hc0_1:l0_1.length≤c0_1) (h:ZaM.f k a0_0 l0_1=some (r1,r2)) :
  Calls Try.prog 31 #[.agg #[.int .i64 a0_0,.slice A0_1 l0_1.length c0_1]] w fun e w'=>∃A0_ c0_,e=.returned (.agg #[.int .i64 r1,.slice A0_ r2.length c0_])∧Aside0 (r2.length≤c0_∧Kd.C k101 w' A0_ r2.length r2)∧Below w.heap.size w w':=
 (ZaM.calls k a0_0 A0_1 c0_1 l0_1 r1 r2 w hr0_1 hc0_1 h).mono fun e w' ⟨v1_,he,q0_,hb⟩=>by
  obtain⟨A0_,c0_,rfl,g0_⟩:=Kd.R_reads q0_
  exact⟨A0_,c0_,he,⟨g0_⟩,hb⟩
theorem Zad.c (k:Nat) (A0:Option Addr) (c0:Nat) (l0:List Int) (r:List Int) (w:World) (hr0:Kd.C (Kd.int .i64) w A0 l0.length l0) (hc0:l0.length≤c0) (h:Zad.f k l0=some r) :
  Calls Try.prog 32 #[.slice A0 l0.length c0] w fun e w'=>∃A0_ c0_,e=.returned (.slice A0_ r.length c0_)∧Aside0 (r.length≤c0_∧Kd.C (Kd.int .i64) w' A0_ r.length r)∧Below w.heap.size w w':=
 (Zad.calls k A0 c0 l0 r w hr0 hc0 h).mono fun e w' ⟨v0_,he,q0_,hb⟩=>by
  obtain⟨A0_,c0_,rfl,g0_⟩:=Kd.R_reads q0_
  exact⟨A0_,c0_,he,⟨g0_⟩,hb⟩
def Zat.f (a0:Int) (a1:Int):Option (Bool):=if a1≥0 then(some (decide (a1<a0))) else(some false)
set_option maxHeartbeats 8000000 in
set_option maxRecDepth 100000 in
theorem Zat.calls (a0:Int) (a1:Int) (r:Bool) (w:World) (h:Zat.f a0 a1=some r) :
  Calls Try.prog 71 #[.int .i64 a0,.int .i64 a1] w fun e w'=>e=.returned (.bool r)∧Z1 w w':=by
 have H:(if a1≥0 then(some (decide (a1<a0))) else(some false))=some r:=h
 clear h
 by_cases c3:a1≥0
 ·rw[if_pos c3] at H
  have c3b0:decide (0≤a1)=true:=Ze c3
  clear c3
  obtain rfl:=Zg H
  go_enter Try.func71,Try.ntmps71
  go_wp2
  go_ret
  exact⟨by first|rfl|(simp;done)|(simp[*];done),by repeat(first|exact Z1.refl _|apply Z1.step)⟩
 ·rw[if_neg c3] at H
  have c3b0:decide (0≤a1)=false:=Zf c3
  clear c3
  obtain rfl:=Zg H
  go_enter Try.func71,Try.ntmps71
  go_wp2
  go_ret
  exact⟨by first|rfl|(simp;done)|(simp[*];done),by repeat(first|exact Z1.refl _|apply Z1.step)⟩
end Go.Proofs.Ytpoffpdaadhkgaa.Pr
namespace Go.Proofs.Ytpoffpdaadhkgaa.Pr
open Go.RowKit Go.Proofs.YtpoffpdaadhkgaaW.PrintWords Go.Proofs.Ytpoffpdaadhkgaa.Ni
def inN (n x:Int):Bool:=decide (0≤x) && decide (x<n)
theorem inN_f (n x:Int):Zat.f n x=some (inN n x):=by
 unfold Zat.f inN
 by_cases h:x≥0
 ·rw[if_pos h,Ze (show(0:Int)≤x from h),Bool.true_and]
 ·rw[if_neg h,Zf (show ¬(0:Int)≤x from h),Bool.false_and]
theorem ZbF (n x:Int) (w:World):Calls Try.prog 71 #[.int .i64 n,.int .i64 x] w fun e w'=>e=.returned (.bool (inN n x))∧∃m,w'=w.drewN m:=
 (Zat.calls n x _ w (inN_f n x)).mono fun _ _ ⟨he,hd⟩=>⟨he,hd.out⟩
theorem Zcv {n x:Int}:inN n x=true↔0≤x∧x<n:=by
 unfold inN;rw[Bool.and_eq_true,decide_eq_true_eq,decide_eq_true_eq]
end Go.Proofs.Ytpoffpdaadhkgaa.Pr
namespace Go.Proofs.Ytpoffpdaadhkgaa.Pr
open Go.RowKit Go.Proofs.YtpoffpdaadhkgaaW.PrintWords Go.Proofs.YtpoffpdaadhkgaaW.PrintLast Go.Proofs.YtpoffpdaadhkgaaW.PrintMore
attribute [local go_sem] Zaj Zah Zaq Zap Zac Zab Zai Zag
set_option linter.unusedVariables false
set_option linter.unusedSimpArgs false
open Go.Proofs.Ytpoffpdaadhkgaa.Ni
set_option maxHeartbeats 4000000 in
theorem ZdH.any (p:S101→Bool) (g:Nat) (lb:Array Value) (eg:∀args w,(callFunc g args).run Try.prog w=.ok (.enter g args) w) (A0:Option Addr) (c0:Nat) (l0:List S101) (w:World) (hr0:Kd.C k101 w A0 l0.length l0)
  (hp:∀(W:World) (x:S101),x∈l0→Below w.heap.size w W→Calls Try.prog g (#[.agg #[.int .i64 x.f0,.int .i64 x.f1,.int .i64 x.f2.f0,.int .i64 x.f2.f1]] ++ lb) W fun e w'=>e=.returned (.bool (p x))∧Below W.heap.size W w') :
  Calls Try.prog 123 #[.slice A0 l0.length c0,.func (.func g) #[] lb] w fun e w'=>e=.returned (.int .i64 (ZbK p l0))∧Below w.heap.size w w':=by
 have HR0:=Za hr0;have HP:=Za hp;clear hr0 hp
 have HL:l0.length≤9223372036854775807:=HR0.out.2.1
 go_enter Try.func123,Try.ntmps123
 go_wp2
 go_loopg [5,8] l0.length (fun gg _ s8 wr=>∃kk:Nat,Aside0 (kk≤l0.length)∧Aside0 (l0.length - kk≤gg)∧s8=.int .i64 kk∧Aside0 (Below w.heap.size w wr)∧Aside0 (∀j y,j<kk→l0[j]? = some y→p y=false))
 case atStart=>exact⟨0,⟨Nat.zero_le _⟩,⟨by omega⟩,rfl,⟨Below.refl _ _⟩,⟨fun j y hj=>absurd hj (Nat.not_lt_zero _)⟩⟩
 case round=>
  obtain⟨kk,HK,HG,rfl,HB,HN⟩:=hrel
  by_cases hlt:kk<l0.length
  ·have hltz:(kk:Int)<(l0.length:Int):=by omega
   obtain⟨ad,e1,hx0,hx1,hx2,hx3⟩:=Za9 HR0.out (kk:Int) (by omega) hltz
   cases e1
   replace hx0:=(HB.out.cell (Zc w _ hx0)).trans hx0
   rw[Int.toNat_natCast] at hx0
   replace hx1:=(HB.out.cell (Zc w _ hx1)).trans hx1
   rw[Int.toNat_natCast] at hx1
   replace hx2:=(HB.out.cell (Zc w _ hx2)).trans hx2
   rw[Int.toNat_natCast] at hx2
   replace hx3:=(HB.out.cell (Zc w _ hx3)).trans hx3
   rw[Int.toNat_natCast] at hx3
   have hxe:l0[kk]? = some (Zw l0 (kk:Int)):=by
    unfold Zw
    rw[Int.toNat_natCast,List.getD_eq_getElem?_getD,Zl hlt];rfl
   generalize Zw l0 (kk:Int)=y at hx0 hx1 hx2 hx3 hxe
   have HX:=Za hxe;clear hxe
   have hcall:=HP.out wr y (List.mem_of_getElem? HX.out) HB.out
   cases hq:p y with
   | true=>
    have HQ:=Za hq
    rw[hq] at hcall
    clear hq
    go_wp2_with (go_at_fn g;refine hcall.mono ?_;rintro e w' ⟨rfl,hb⟩)
    go_ret
    exact⟨by rw[ZcM p l0 kk y HX.out HQ.out HN.out];rfl,HB.out.trans (hb.mono HB.out.size)⟩
   | false=>
    have HQ:=Za hq
    rw[hq] at hcall
    clear hq
    go_wp2_with (go_at_fn g;refine hcall.mono ?_;rintro e w' ⟨rfl,hb⟩)
    go_roundg (l0.length - (kk+1))
    case measure=>have:=HG.out;omega
    case rel=>
     refine⟨kk+1,⟨by omega⟩,⟨by omega⟩,by go_num,⟨HB.out.trans (hb.mono HB.out.size)⟩,⟨fun j y' hj hy=>?_⟩⟩
     by_cases e:j=kk
     ·subst e
      rw[HX.out] at hy
      cases hy
      exact HQ.out
     ·exact HN.out j y' (by omega) hy
  ·have hltz:¬(kk:Int)<(l0.length:Int):=by omega
   have:kk=l0.length:=by have:=HK.out;omega
   subst this
   go_wp2
   go_ret
   exact⟨by rw[ZcE p l0 HN.out];rfl,HB.out⟩
set_option maxHeartbeats 4000000 in
theorem impl_Link_69.any (p:S101→Bool) (g:Nat) (lb:Array Value) (eg:∀args w,(callFunc g args).run Try.prog w=.ok (.enter g args) w) (A0:Option Addr) (c0:Nat) (l0:List S101) (w:World) (hr0:Kd.C k101 w A0 l0.length l0)
  (hp:∀(W:World) (x:S101),x∈l0→Below w.heap.size w W→Calls Try.prog g (#[.agg #[.int .i64 x.f0,.int .i64 x.f1,.int .i64 x.f2.f0,.int .i64 x.f2.f1]] ++ lb) W fun e w'=>e=.returned (.bool (p x))∧Below W.heap.size W w') :
  Calls Try.prog 69 #[.slice A0 l0.length c0,.func (.func g) #[] lb] w fun e w'=>e=.returned (.bool (l0.any p))∧Below w.heap.size w w':=by
 have HI:=Za (ZdH.any p g lb eg A0 c0 l0 w hr0 hp)
 clear hr0 hp
 have HE:=Za (ZcN p l0)
 go_enter Try.func69,Try.ntmps69
 go_wp2_with (go_at_call 123;refine HI.out.mono ?_;rintro e w' ⟨rfl,hb⟩)
 go_ret
 exact⟨by rw[← HE.out];rfl,hb⟩
end Go.Proofs.Ytpoffpdaadhkgaa.Pr
namespace Go.Proofs.Ytpoffpdaadhkgaa.Pr
open Go.RowKit Go.Proofs.YtpoffpdaadhkgaaW.PrintWords Go.Proofs.YtpoffpdaadhkgaaW.PrintLast Go.Proofs.YtpoffpdaadhkgaaW.PrintMore
attribute [local go_sem] Zaj Zah Zaq Zap Zac Zab Zai Zag
set_option linter.unusedVariables false
set_option linter.unusedSimpArgs false
def ZaJ.f (a0_0:Int) (a0_1:Int):Option (Bool):=if a0_0≥(-1000000) then(if a0_0≤a0_1 then(if a0_1≤1000000 then(if a0_0=1000000 then(some false) else(some (a0_1 != (-1000000)))) else(some false)) else(some false)) else(some false)
set_option maxHeartbeats 8000000 in
set_option maxRecDepth 100000 in
theorem ZaJ.calls (a0_0:Int) (a0_1:Int) (r:Bool) (w:World) (h:ZaJ.f a0_0 a0_1=some r) :
  Calls Try.prog 72 #[.agg #[.int .i64 a0_0,.int .i64 a0_1]] w fun e w'=>e=.returned (.bool r)∧Below w.heap.size w w':=by
 have hu29:=Try.underlying29
 have HB:=Za (Below.refl w.heap.size w)
 have H:(if a0_0≥(-1000000) then(if a0_0≤a0_1 then(if a0_1≤1000000 then(if a0_0=1000000 then(some false) else(some (a0_1 != (-1000000)))) else(some false)) else(some false)) else(some false))=some r:=h
 clear h
 by_cases c2:a0_0≥(-1000000)
 ·rw[if_pos c2] at H
  have c2b0:decide ((-1000000)≤a0_0)=true:=Ze c2
  clear c2
  by_cases c3:a0_0≤a0_1
  ·rw[if_pos c3] at H
   have c3b0:decide (a0_0≤a0_1)=true:=Ze c3
   clear c3
   by_cases c4:a0_1≤1000000
   ·rw[if_pos c4] at H
    have c4b0:decide (a0_1≤1000000)=true:=Ze c4
    clear c4
    by_cases c5:a0_0=1000000
    ·rw[if_pos c5] at H
     have c5b0:(a0_0 == 1000000)=true:=beq_iff_eq.mpr c5
     have c5b1:(a0_0 != 1000000)=false:=bne_eq_false_iff_eq.mpr c5
     clear c5
     obtain rfl:=Zg H
     go_enter Try.func72,Try.ntmps72
     go_wp2_with (first|((with_reducible refine ZD (N:=1) rfl ?_);refine ZE ?hg (N:=1) ?hd (cs:=#[.int .i64 a0_0,.int .i64 a0_1]) (t:=29) ?hr ?_;(case hd=>rfl);(case hg=>rfl);(case hr=>first|(go_simp;done)|(go_simp;rfl));intro gb72001 hg w6 hbox hb;have n0_:=Za (Zy (by repeat(first|(with_reducible first|exact HB.out|apply Zr|apply Zm|apply Zs)|exact HB.out)) hb);have n1_:=Za (hbox);have n2_:=Za ((by rw[hg];exact(Zv (by repeat(first|(with_reducible first|exact HB.out|apply Zr|apply Zm|apply Zs)|exact HB.out))):w.heap.size≤gb72001));have n3_:=Za ((by rw[hg];exact(Zv (by repeat(first|(with_reducible first|exact HB.out|apply Zr|apply Zm|apply Zs)|exact HB.out))):w.heap.size≤gb72001));clear HB;have HB:=n0_;have BK72001:=n1_;have GW72001:=n2_;have GE72001:=n3_;clear n0_ n1_ n2_ n3_;clear hb hbox hg;have hcz7_0:w6.cell? ⟨gb72001,0,none⟩=some (.int .i64 a0_0):=(Zu BK72001.out 0).trans rfl;have hcz7_1:w6.cell? ⟨gb72001,1,none⟩=some (.int .i64 a0_1):=(Zu BK72001.out 1).trans rfl;have hfz7_0:=Zt BK72001.out 0;have hfz7_1:=Zt BK72001.out 1))
     go_ret
     exact⟨by first|rfl|(simp[ZA,Zz] <;> rfl)|(simp[*,ZA,Zz] <;> rfl),by repeat(first|(with_reducible first|exact HB.out|apply Zr|apply Zm|apply Zs|refine Zp ?_ GE72001.out)|exact HB.out)⟩
    ·rw[if_neg c5] at H
     have c5b0:(a0_0 == 1000000)=false:=beq_eq_false_iff_ne.mpr c5
     have c5b1:(a0_0 != 1000000)=true:=bne_iff_ne.mpr c5
     obtain rfl:=Zg H
     go_enter Try.func72,Try.ntmps72
     go_wp2_with (first|((with_reducible refine ZD (N:=1) rfl ?_);refine ZE ?hg (N:=1) ?hd (cs:=#[.int .i64 a0_0,.int .i64 a0_1]) (t:=29) ?hr ?_;(case hd=>rfl);(case hg=>rfl);(case hr=>first|(go_simp;done)|(go_simp;rfl));intro gb72001 hg w8 hbox hb;have n0_:=Za (Zy (by repeat(first|(with_reducible first|exact HB.out|apply Zr|apply Zm|apply Zs)|exact HB.out)) hb);have n1_:=Za (hbox);have n2_:=Za ((by rw[hg];exact(Zv (by repeat(first|(with_reducible first|exact HB.out|apply Zr|apply Zm|apply Zs)|exact HB.out))):w.heap.size≤gb72001));have n3_:=Za ((by rw[hg];exact(Zv (by repeat(first|(with_reducible first|exact HB.out|apply Zr|apply Zm|apply Zs)|exact HB.out))):w.heap.size≤gb72001));clear HB;have HB:=n0_;have BK72001:=n1_;have GW72001:=n2_;have GE72001:=n3_;clear n0_ n1_ n2_ n3_;clear hb hbox hg;have hcz9_0:w8.cell? ⟨gb72001,0,none⟩=some (.int .i64 a0_0):=(Zu BK72001.out 0).trans rfl;have hcz9_1:w8.cell? ⟨gb72001,1,none⟩=some (.int .i64 a0_1):=(Zu BK72001.out 1).trans rfl;have hfz9_0:=Zt BK72001.out 0;have hfz9_1:=Zt BK72001.out 1))
     go_ret
     exact⟨by first|rfl|(simp[ZA,Zz] <;> rfl)|(simp[*,ZA,Zz] <;> rfl),by repeat(first|(with_reducible first|exact HB.out|apply Zr|apply Zm|apply Zs|refine Zp ?_ GE72001.out)|exact HB.out)⟩
   ·rw[if_neg c4] at H
    have c4b0:decide (a0_1≤1000000)=false:=Zf c4
    clear c4
    obtain rfl:=Zg H
    go_enter Try.func72,Try.ntmps72
    go_wp2_with (first|((with_reducible refine ZD (N:=1) rfl ?_);refine ZE ?hg (N:=1) ?hd (cs:=#[.int .i64 a0_0,.int .i64 a0_1]) (t:=29) ?hr ?_;(case hd=>rfl);(case hg=>rfl);(case hr=>first|(go_simp;done)|(go_simp;rfl));intro gb72001 hg w10 hbox hb;have n0_:=Za (Zy (by repeat(first|(with_reducible first|exact HB.out|apply Zr|apply Zm|apply Zs)|exact HB.out)) hb);have n1_:=Za (hbox);have n2_:=Za ((by rw[hg];exact(Zv (by repeat(first|(with_reducible first|exact HB.out|apply Zr|apply Zm|apply Zs)|exact HB.out))):w.heap.size≤gb72001));have n3_:=Za ((by rw[hg];exact(Zv (by repeat(first|(with_reducible first|exact HB.out|apply Zr|apply Zm|apply Zs)|exact HB.out))):w.heap.size≤gb72001));clear HB;have HB:=n0_;have BK72001:=n1_;have GW72001:=n2_;have GE72001:=n3_;clear n0_ n1_ n2_ n3_;clear hb hbox hg;have hcz11_0:w10.cell? ⟨gb72001,0,none⟩=some (.int .i64 a0_0):=(Zu BK72001.out 0).trans rfl;have hcz11_1:w10.cell? ⟨gb72001,1,none⟩=some (.int .i64 a0_1):=(Zu BK72001.out 1).trans rfl;have hfz11_0:=Zt BK72001.out 0;have hfz11_1:=Zt BK72001.out 1))
    go_ret
    exact⟨by first|rfl|(simp[ZA,Zz] <;> rfl)|(simp[*,ZA,Zz] <;> rfl),by repeat(first|(with_reducible first|exact HB.out|apply Zr|apply Zm|apply Zs|refine Zp ?_ GE72001.out)|exact HB.out)⟩
  ·rw[if_neg c3] at H
   have c3b0:decide (a0_0≤a0_1)=false:=Zf c3
   clear c3
   obtain rfl:=Zg H
   go_enter Try.func72,Try.ntmps72
   go_wp2_with (first|((with_reducible refine ZD (N:=1) rfl ?_);refine ZE ?hg (N:=1) ?hd (cs:=#[.int .i64 a0_0,.int .i64 a0_1]) (t:=29) ?hr ?_;(case hd=>rfl);(case hg=>rfl);(case hr=>first|(go_simp;done)|(go_simp;rfl));intro gb72001 hg w12 hbox hb;have n0_:=Za (Zy (by repeat(first|(with_reducible first|exact HB.out|apply Zr|apply Zm|apply Zs)|exact HB.out)) hb);have n1_:=Za (hbox);have n2_:=Za ((by rw[hg];exact(Zv (by repeat(first|(with_reducible first|exact HB.out|apply Zr|apply Zm|apply Zs)|exact HB.out))):w.heap.size≤gb72001));have n3_:=Za ((by rw[hg];exact(Zv (by repeat(first|(with_reducible first|exact HB.out|apply Zr|apply Zm|apply Zs)|exact HB.out))):w.heap.size≤gb72001));clear HB;have HB:=n0_;have BK72001:=n1_;have GW72001:=n2_;have GE72001:=n3_;clear n0_ n1_ n2_ n3_;clear hb hbox hg;have hcz13_0:w12.cell? ⟨gb72001,0,none⟩=some (.int .i64 a0_0):=(Zu BK72001.out 0).trans rfl;have hcz13_1:w12.cell? ⟨gb72001,1,none⟩=some (.int .i64 a0_1):=(Zu BK72001.out 1).trans rfl;have hfz13_0:=Zt BK72001.out 0;have hfz13_1:=Zt BK72001.out 1))
   go_ret
   exact⟨by first|rfl|(simp[ZA,Zz] <;> rfl)|(simp[*,ZA,Zz] <;> rfl),by repeat(first|(with_reducible first|exact HB.out|apply Zr|apply Zm|apply Zs|refine Zp ?_ GE72001.out)|exact HB.out)⟩
 ·rw[if_neg c2] at H
  have c2b0:decide ((-1000000)≤a0_0)=false:=Zf c2
  clear c2
  obtain rfl:=Zg H
  go_enter Try.func72,Try.ntmps72
  go_wp2_with (first|((with_reducible refine ZD (N:=1) rfl ?_);refine ZE ?hg (N:=1) ?hd (cs:=#[.int .i64 a0_0,.int .i64 a0_1]) (t:=29) ?hr ?_;(case hd=>rfl);(case hg=>rfl);(case hr=>first|(go_simp;done)|(go_simp;rfl));intro gb72001 hg w14 hbox hb;have n0_:=Za (Zy (by repeat(first|(with_reducible first|exact HB.out|apply Zr|apply Zm|apply Zs)|exact HB.out)) hb);have n1_:=Za (hbox);have n2_:=Za ((by rw[hg];exact(Zv (by repeat(first|(with_reducible first|exact HB.out|apply Zr|apply Zm|apply Zs)|exact HB.out))):w.heap.size≤gb72001));have n3_:=Za ((by rw[hg];exact(Zv (by repeat(first|(with_reducible first|exact HB.out|apply Zr|apply Zm|apply Zs)|exact HB.out))):w.heap.size≤gb72001));clear HB;have HB:=n0_;have BK72001:=n1_;have GW72001:=n2_;have GE72001:=n3_;clear n0_ n1_ n2_ n3_;clear hb hbox hg;have hcz15_0:w14.cell? ⟨gb72001,0,none⟩=some (.int .i64 a0_0):=(Zu BK72001.out 0).trans rfl;have hcz15_1:w14.cell? ⟨gb72001,1,none⟩=some (.int .i64 a0_1):=(Zu BK72001.out 1).trans rfl;have hfz15_0:=Zt BK72001.out 0;have hfz15_1:=Zt BK72001.out 1))
  go_ret
  exact⟨by first|rfl|(simp[ZA,Zz] <;> rfl)|(simp[*,ZA,Zz] <;> rfl),by repeat(first|(with_reducible first|exact HB.out|apply Zr|apply Zm|apply Zs|refine Zp ?_ GE72001.out)|exact HB.out)⟩
end Go.Proofs.Ytpoffpdaadhkgaa.Pr
namespace Go.Proofs.Ytpoffpdaadhkgaa.Pr
open Go.RowKit Go.Proofs.YtpoffpdaadhkgaaW.PrintWords Go.Proofs.YtpoffpdaadhkgaaW.PrintLast Go.Proofs.YtpoffpdaadhkgaaW.PrintMore
attribute [local go_sem] Zaj Zah Zaq Zap Zac Zab Zai Zag
set_option linter.unusedVariables false
set_option linter.unusedSimpArgs false
open Go.Proofs.Ytpoffpdaadhkgaa.Ni
def ZbY (lo hi:Int):Bool:=decide (-1000000≤lo) && (decide (lo≤hi) && (decide (hi≤1000000) && (!(decide (lo=1000000)) && !(decide (hi=-1000000)))))
theorem ivOk_f (lo hi:Int):ZaJ.f lo hi=some (ZbY lo hi):=by
 unfold ZaJ.f ZbY
 by_cases h1:lo≥-1000000
 ·rw[if_pos h1,Ze (show(-1000000:Int)≤lo from h1),Bool.true_and]
  by_cases h2:lo≤hi
  ·rw[if_pos h2,Ze h2,Bool.true_and]
   by_cases h3:hi≤1000000
   ·rw[if_pos h3,Ze h3,Bool.true_and]
    by_cases h4:lo=1000000
    ·rw[if_pos h4,Ze h4];rfl
    ·rw[if_neg h4,Zf h4]
     congr 1
   ·rw[if_neg h3,Zf h3];rfl
  ·rw[if_neg h2,Zf h2];rfl
 ·rw[if_neg h1,Zf (show ¬(-1000000:Int)≤lo from h1)];rfl
def Za6 (n:Int) (x:S101):Bool:=inN n x.f0 && (inN n x.f1 && ZbY x.f2.f0 x.f2.f1)
def Zao (n:Int) (ls:List S101):Bool:=!(decide (n<1)) && (!(decide (8<n)) && (!(decide (40<ls.length)) && !(ls.any fun x=>!Za6 n x)))
def Z8.f (a0_0:Int) (l0_1:List (S101)):Option Bool:=some (Zao a0_0 l0_1)
set_option maxHeartbeats 4000000 in
theorem Zdc.clo (B:Nat) (n:Int) (W:World) (hB:W.cell? ⟨B,0,none⟩=some (.int .i64 n)) (x:S101) :
  Calls Try.prog 70 #[.agg #[.int .i64 x.f0,.int .i64 x.f1,.int .i64 x.f2.f0,.int .i64 x.f2.f1],.pointer (some ⟨B,0,none⟩)] W fun e w'=>e=.returned (.bool (!Za6 n x))∧Below W.heap.size W w':=by
 have hlt:B<W.heap.size:=Zc W _ hB
 have hu:=Try.underlying101
 have hu2:=Try.underlying29
 have hu3:=Try.underlying25
 obtain⟨f0,f1,⟨f2,f3⟩⟩:=x
 have HE:=Za (show Za6 n ⟨f0,f1,⟨f2,f3⟩⟩=(inN n f0 && (inN n f1 && ZbY f2 f3)) from rfl)
 have HI:=Za fun (w:World)=>ZaJ.calls f2 f3 _ w (ivOk_f f2 f3)
 cases b1:inN n f0 with
 | false=>
  have HF:=Za (show Za6 n ⟨f0,f1,⟨f2,f3⟩⟩=false by rw[HE.out,b1];rfl)
  clear HE
  go_enter Try.func70,Try.ntmps70
  go_wp2_with (go_at_call 71;refine(ZbF _ _ _).mono ?_;rintro e w' ⟨rfl,nd,rfl⟩)
  go_ret
  exact⟨by rw[HF.out];rfl,by repeat(first|exact Below.refl _ _|apply Zr|apply Zm|apply ZaW)⟩
 | true=>
 cases b2:inN n f1 with
 | false=>
  have HF:=Za (show Za6 n ⟨f0,f1,⟨f2,f3⟩⟩=false by rw[HE.out,b1,b2];rfl)
  clear HE
  go_enter Try.func70,Try.ntmps70
  go_wp2_with (go_at_call 71;refine(ZbF _ _ _).mono ?_;rintro e w' ⟨rfl,nd,rfl⟩)
  go_ret
  exact⟨by rw[HF.out];rfl,by repeat(first|exact Below.refl _ _|apply Zr|apply Zm|apply ZaW)⟩
 | true=>
 have HF:=Za (show Za6 n ⟨f0,f1,⟨f2,f3⟩⟩=ZbY f2 f3 by rw[HE.out,b1,b2];rfl)
 clear HE
 go_enter Try.func70,Try.ntmps70
 go_wp2_with (first|(go_at_call 71;refine(ZbF _ _ _).mono ?_;rintro e w' ⟨rfl,nd,rfl⟩)|(go_at_call 72;refine(HI.out _).mono ?_;rintro e w' ⟨rfl,hb⟩))
 go_ret
 exact⟨by rw[HF.out];rfl,Zy (by repeat(first|exact Below.refl _ _|apply Zr|apply Zm|apply ZaW)) hb⟩
set_option maxHeartbeats 4000000 in
set_option maxRecDepth 100000 in
theorem Z8.calls (a0_0:Int) (A0_1:Option Addr) (c0_1:Nat) (l0_1:List (S101)) (r:Bool) (w:World) (hr0_1:Kd.C k101 w A0_1 l0_1.length l0_1) (hc0_1:l0_1.length≤c0_1) (h:Z8.f a0_0 l0_1=some r) :
  Calls Try.prog 19 #[.agg #[.int .i64 a0_0,.slice A0_1 l0_1.length c0_1]] w fun e w'=>e=.returned (.bool r)∧Below w.heap.size w w':=by
 obtain rfl:=Zg h
 have hL:l0_1.length≤9223372036854775807:=hr0_1.2.1
 have HC:=Za fun (W:World) (B:Nat) (hb:Below w.heap.size w W) (hcell:W.cell? ⟨B,0,none⟩=some (.int .i64 a0_0))=>impl_Link_69.any (fun x=>!Za6 a0_0 x) 70 #[.pointer (some ⟨B,0,none⟩)] (enters_of Try.func70 (by kernel_rfl) rfl) A0_1 c0_1 l0_1 W (Zb hr0_1 hb)
    (fun W' x _ hb'=>Zdc.clo B a0_0 W' (ZO hb' hcell) x)
 have hu:=Try.underlying25
 have HB:=Za (Zr (Below.refl w.heap.size w) (.cells #[.int .i64 a0_0,.slice A0_1 l0_1.length c0_1] 25))
 clear hr0_1 h
 cases b1:decide (a0_0<1) with
 | true=>
  have HF:=Za (show Zao a0_0 l0_1=false by unfold Zao;rw[b1];rfl)
  go_enter Try.func19,Try.ntmps19
  go_wp2
  go_ret
  exact⟨by rw[HF.out];rfl,HB.out⟩
 | false=>
 cases b2:decide (8<a0_0) with
 | true=>
  have HF:=Za (show Zao a0_0 l0_1=false by unfold Zao;rw[b1,b2];rfl)
  go_enter Try.func19,Try.ntmps19
  go_wp2
  go_ret
  exact⟨by rw[HF.out];rfl,HB.out⟩
 | false=>
 by_cases q3:40<l0_1.length
 ·have b3:decide (40<l0_1.length)=true:=Ze q3
  have z3:(40:Int)<(l0_1.length:Int):=by omega
  have HF:=Za (show Zao a0_0 l0_1=false by unfold Zao;rw[b1,b2,b3];rfl)
  clear b3 q3
  go_enter Try.func19,Try.ntmps19
  go_wp2
  go_ret
  exact⟨by rw[HF.out];rfl,HB.out⟩
 ·have b3:decide (40<l0_1.length)=false:=Zf q3
  have z3:¬(40:Int)<(l0_1.length:Int):=by omega
  have HF:=Za (show Zao a0_0 l0_1=!(l0_1.any fun x=>!Za6 a0_0 x) by unfold Zao;rw[b1,b2,b3];rfl)
  clear b3 q3
  generalize l0_1.any (fun x=>!Za6 a0_0 x)=q at HC HF
  go_enter Try.func19,Try.ntmps19
  go_wp2_with fail
  refine(HC.out _ _ HB.out (by go_simp)).mono ?_
  rintro e w' ⟨rfl,hb⟩
  go_wp2
  go_ret
  exact⟨by rw[HF.out];rfl,HB.out.trans (hb.mono HB.out.size)⟩
set_option maxHeartbeats 4000000 in
theorem ZdI.any (p:S148→Bool) (g:Nat) (lb:Array Value) (eg:∀args w,(callFunc g args).run Try.prog w=.ok (.enter g args) w) (A0:Option Addr) (c0:Nat) (l0:List S148) (w:World) (hr0:Kd.C k148 w A0 l0.length l0)
  (hp:∀(W:World) (x:S148),x∈l0→Below w.heap.size w W→Calls Try.prog g (#[.agg #[.int .i64 x.f0,.int .i64 x.f1,.int .i64 x.f2]] ++ lb) W fun e w'=>e=.returned (.bool (p x))∧Below W.heap.size W w') :
  Calls Try.prog 181 #[.slice A0 l0.length c0,.func (.func g) #[] lb] w fun e w'=>e=.returned (.int .i64 (ZbK p l0))∧Below w.heap.size w w':=by
 have HR0:=Za hr0;have HP:=Za hp;clear hr0 hp
 have HL:l0.length≤9223372036854775807:=HR0.out.2.1
 go_enter Try.func181,Try.ntmps181
 go_wp2
 go_loopg [5,8] l0.length (fun gg _ s8 wr=>∃kk:Nat,Aside0 (kk≤l0.length)∧Aside0 (l0.length - kk≤gg)∧s8=.int .i64 kk∧Aside0 (Below w.heap.size w wr)∧Aside0 (∀j y,j<kk→l0[j]? = some y→p y=false))
 case atStart=>exact⟨0,⟨Nat.zero_le _⟩,⟨by omega⟩,rfl,⟨Below.refl _ _⟩,⟨fun j y hj=>absurd hj (Nat.not_lt_zero _)⟩⟩
 case round=>
  obtain⟨kk,HK,HG,rfl,HB,HN⟩:=hrel
  by_cases hlt:kk<l0.length
  ·have hltz:(kk:Int)<(l0.length:Int):=by omega
   obtain⟨ad,e1,hx0,hx1,hx2⟩:=Zbh HR0.out (kk:Int) (by omega) hltz
   cases e1
   replace hx0:=(HB.out.cell (Zc w _ hx0)).trans hx0
   rw[Int.toNat_natCast] at hx0
   replace hx1:=(HB.out.cell (Zc w _ hx1)).trans hx1
   rw[Int.toNat_natCast] at hx1
   replace hx2:=(HB.out.cell (Zc w _ hx2)).trans hx2
   rw[Int.toNat_natCast] at hx2
   have hxe:l0[kk]? = some (Z7 l0 (kk:Int)):=by
    unfold Z7
    rw[Int.toNat_natCast,List.getD_eq_getElem?_getD,Zl hlt];rfl
   generalize Z7 l0 (kk:Int)=y at hx0 hx1 hx2 hxe
   have HX:=Za hxe;clear hxe
   have hcall:=HP.out wr y (List.mem_of_getElem? HX.out) HB.out
   cases hq:p y with
   | true=>
    have HQ:=Za hq
    rw[hq] at hcall
    clear hq
    go_wp2_with (go_at_fn g;refine hcall.mono ?_;rintro e w' ⟨rfl,hb⟩)
    go_ret
    exact⟨by rw[ZcM p l0 kk y HX.out HQ.out HN.out];rfl,HB.out.trans (hb.mono HB.out.size)⟩
   | false=>
    have HQ:=Za hq
    rw[hq] at hcall
    clear hq
    go_wp2_with (go_at_fn g;refine hcall.mono ?_;rintro e w' ⟨rfl,hb⟩)
    go_roundg (l0.length - (kk+1))
    case measure=>have:=HG.out;omega
    case rel=>
     refine⟨kk+1,⟨by omega⟩,⟨by omega⟩,by go_num,⟨HB.out.trans (hb.mono HB.out.size)⟩,⟨fun j y' hj hy=>?_⟩⟩
     by_cases e:j=kk
     ·subst e
      rw[HX.out] at hy
      cases hy
      exact HQ.out
     ·exact HN.out j y' (by omega) hy
  ·have hltz:¬(kk:Int)<(l0.length:Int):=by omega
   have:kk=l0.length:=by have:=HK.out;omega
   subst this
   go_wp2
   go_ret
   exact⟨by rw[ZcE p l0 HN.out];rfl,HB.out⟩
set_option maxHeartbeats 4000000 in
theorem ZdJ.any (p:S148→Bool) (g:Nat) (lb:Array Value) (eg:∀args w,(callFunc g args).run Try.prog w=.ok (.enter g args) w) (A0:Option Addr) (c0:Nat) (l0:List S148) (w:World) (hr0:Kd.C k148 w A0 l0.length l0)
  (hp:∀(W:World) (x:S148),x∈l0→Below w.heap.size w W→Calls Try.prog g (#[.agg #[.int .i64 x.f0,.int .i64 x.f1,.int .i64 x.f2]] ++ lb) W fun e w'=>e=.returned (.bool (p x))∧Below W.heap.size W w') :
  Calls Try.prog 161 #[.slice A0 l0.length c0,.func (.func g) #[] lb] w fun e w'=>e=.returned (.bool (l0.any p))∧Below w.heap.size w w':=by
 have HI:=Za (ZdI.any p g lb eg A0 c0 l0 w hr0 hp)
 clear hr0 hp
 have HE:=Za (ZcN p l0)
 go_enter Try.func161,Try.ntmps161
 go_wp2_with (go_at_call 181;refine HI.out.mono ?_;rintro e w' ⟨rfl,hb⟩)
 go_ret
 exact⟨by rw[← HE.out];rfl,hb⟩
end Go.Proofs.Ytpoffpdaadhkgaa.Pr
namespace Go.Proofs.Ytpoffpdaadhkgaa.Pr
open Go.RowKit Go.Proofs.YtpoffpdaadhkgaaW.PrintWords Go.Proofs.YtpoffpdaadhkgaaW.PrintLast Go.Proofs.YtpoffpdaadhkgaaW.PrintMore
attribute [local go_sem] Zaj Zah Zaq Zap Zac Zab Zai Zag
set_option linter.unusedVariables false
set_option linter.unusedSimpArgs false
def Zbv.f (a0:Int):Option (Bool):=if a0 > (-1000000) then(some (decide (a0<1000000))) else(some false)
set_option maxHeartbeats 8000000 in
set_option maxRecDepth 100000 in
theorem Zbv.calls (a0:Int) (r:Bool) (w:World) (h:Zbv.f a0=some r) :
  Calls Try.prog 163 #[.int .i64 a0] w fun e w'=>e=.returned (.bool r)∧Z1 w w':=by
 have H:(if a0 > (-1000000) then(some (decide (a0<1000000))) else(some false))=some r:=h
 clear h
 by_cases c2:a0 > (-1000000)
 ·rw[if_pos c2] at H
  have c2b0:decide ((-1000000)<a0)=true:=Ze c2
  clear c2
  obtain rfl:=Zg H
  go_enter Try.func163,Try.ntmps163
  go_wp2
  go_ret
  exact⟨by first|rfl|(simp;done)|(simp[*];done),by repeat(first|exact Z1.refl _|apply Z1.step)⟩
 ·rw[if_neg c2] at H
  have c2b0:decide ((-1000000)<a0)=false:=Zf c2
  clear c2
  obtain rfl:=Zg H
  go_enter Try.func163,Try.ntmps163
  go_wp2
  go_ret
  exact⟨by first|rfl|(simp;done)|(simp[*];done),by repeat(first|exact Z1.refl _|apply Z1.step)⟩
end Go.Proofs.Ytpoffpdaadhkgaa.Pr
namespace Go.Proofs.Ytpoffpdaadhkgaa.Pr
open Go.RowKit Go.Proofs.YtpoffpdaadhkgaaW.PrintWords Go.Proofs.YtpoffpdaadhkgaaW.PrintLast Go.Proofs.YtpoffpdaadhkgaaW.PrintMore
attribute [local go_sem] Zaj Zah Zaq Zap Zac Zab Zai Zag
set_option linter.unusedVariables false
set_option linter.unusedSimpArgs false
open Go.Proofs.Ytpoffpdaadhkgaa.Ni
def wgtB (x:Int):Bool:=decide (-1000000<x) && decide (x<1000000)
theorem wgt_f (x:Int):Zbv.f x=some (wgtB x):=by
 unfold Zbv.f wgtB
 by_cases h:x > -1000000
 ·rw[if_pos h,Ze (show(-1000000:Int)<x from h),Bool.true_and]
 ·rw[if_neg h,Zf (show ¬(-1000000:Int)<x from h),Bool.false_and]
theorem isWeight_q (x:Int) (w:World):Calls Try.prog 163 #[.int .i64 x] w fun e w'=>e=.returned (.bool (wgtB x))∧∃m,w'=w.drewN m:=
 (Zbv.calls x _ w (wgt_f x)).mono fun _ _ ⟨he,hd⟩=>⟨he,hd.out⟩
def Za7 (n:Int) (x:S148):Bool:=inN n x.f0 && (inN n x.f1 && wgtB x.f2)
def ZaR (n:Int) (ls:List S148):Bool:=!(decide (n<0)) && (!(decide (8<n)) && (!(decide (80<ls.length)) && !(ls.any fun x=>!Za7 n x)))
def Za5.f (a0_0:Int) (l0_1:List (S148)):Option Bool:=some (ZaR a0_0 l0_1)
set_option maxHeartbeats 4000000 in
theorem Zdr.clo (B:Nat) (n:Int) (W:World) (hB:W.cell? ⟨B,0,none⟩=some (.int .i64 n)) (x:S148) :
  Calls Try.prog 162 #[.agg #[.int .i64 x.f0,.int .i64 x.f1,.int .i64 x.f2],.pointer (some ⟨B,0,none⟩)] W fun e w'=>e=.returned (.bool (!Za7 n x))∧Below W.heap.size W w':=by
 have hlt:B<W.heap.size:=Zc W _ hB
 have hu:=Try.underlying148
 have hu3:=Try.underlying95
 obtain⟨f0,f1,f2⟩:=x
 have HE:=Za (show Za7 n ⟨f0,f1,f2⟩=(inN n f0 && (inN n f1 && wgtB f2)) from rfl)
 cases b1:inN n f0 with
 | false=>
  have HF:=Za (show Za7 n ⟨f0,f1,f2⟩=false by rw[HE.out,b1];rfl)
  clear HE
  go_enter Try.func162,Try.ntmps162
  go_wp2_with (go_at_call 71;refine(ZbF _ _ _).mono ?_;rintro e w' ⟨rfl,nd,rfl⟩)
  go_ret
  exact⟨by rw[HF.out];rfl,by repeat(first|exact Below.refl _ _|apply Zr|apply Zm|apply ZaW)⟩
 | true=>
 cases b2:inN n f1 with
 | false=>
  have HF:=Za (show Za7 n ⟨f0,f1,f2⟩=false by rw[HE.out,b1,b2];rfl)
  clear HE
  go_enter Try.func162,Try.ntmps162
  go_wp2_with (go_at_call 71;refine(ZbF _ _ _).mono ?_;rintro e w' ⟨rfl,nd,rfl⟩)
  go_ret
  exact⟨by rw[HF.out];rfl,by repeat(first|exact Below.refl _ _|apply Zr|apply Zm|apply ZaW)⟩
 | true=>
 have HF:=Za (show Za7 n ⟨f0,f1,f2⟩=wgtB f2 by rw[HE.out,b1,b2];rfl)
 clear HE
 go_enter Try.func162,Try.ntmps162
 go_wp2_with (first|(go_at_call 71;refine(ZbF _ _ _).mono ?_;rintro e w' ⟨rfl,nd,rfl⟩)|(go_at_call 163;refine(isWeight_q _ _).mono ?_;rintro e w' ⟨rfl,nd,rfl⟩))
 go_ret
 exact⟨by rw[HF.out];rfl,by repeat(first|exact Below.refl _ _|apply Zr|apply Zm|apply ZaW)⟩
set_option maxHeartbeats 4000000 in
set_option maxRecDepth 100000 in
theorem Za5.calls (a0_0:Int) (A0_1:Option Addr) (c0_1:Nat) (l0_1:List (S148)) (r:Bool) (w:World) (hr0_1:Kd.C k148 w A0_1 l0_1.length l0_1) (hc0_1:l0_1.length≤c0_1) (h:Za5.f a0_0 l0_1=some r) :
  Calls Try.prog 114 #[.agg #[.int .i64 a0_0,.slice A0_1 l0_1.length c0_1]] w fun e w'=>e=.returned (.bool r)∧Below w.heap.size w w':=by
 obtain rfl:=Zg h
 have hL:l0_1.length≤9223372036854775807:=hr0_1.2.1
 have HC:=Za fun (W:World) (B:Nat) (hb:Below w.heap.size w W) (hcell:W.cell? ⟨B,0,none⟩=some (.int .i64 a0_0))=>ZdJ.any (fun x=>!Za7 a0_0 x) 162 #[.pointer (some ⟨B,0,none⟩)] (enters_of Try.func162 (by kernel_rfl) rfl) A0_1 c0_1 l0_1 W (Zb hr0_1 hb)
    (fun W' x _ hb'=>Zdr.clo B a0_0 W' (ZO hb' hcell) x)
 have hu:=Try.underlying95
 have HB:=Za (Zr (Below.refl w.heap.size w) (.cells #[.int .i64 a0_0,.slice A0_1 l0_1.length c0_1] 95))
 clear hr0_1 h
 cases b1:decide (a0_0<0) with
 | true=>
  have HF:=Za (show ZaR a0_0 l0_1=false by unfold ZaR;rw[b1];rfl)
  go_enter Try.func114,Try.ntmps114
  go_wp2
  go_ret
  exact⟨by rw[HF.out];rfl,HB.out⟩
 | false=>
 cases b2:decide (8<a0_0) with
 | true=>
  have HF:=Za (show ZaR a0_0 l0_1=false by unfold ZaR;rw[b1,b2];rfl)
  go_enter Try.func114,Try.ntmps114
  go_wp2
  go_ret
  exact⟨by rw[HF.out];rfl,HB.out⟩
 | false=>
 by_cases q3:80<l0_1.length
 ·have b3:decide (80<l0_1.length)=true:=Ze q3
  have z3:(80:Int)<(l0_1.length:Int):=by omega
  have HF:=Za (show ZaR a0_0 l0_1=false by unfold ZaR;rw[b1,b2,b3];rfl)
  clear b3 q3
  go_enter Try.func114,Try.ntmps114
  go_wp2
  go_ret
  exact⟨by rw[HF.out];rfl,HB.out⟩
 ·have b3:decide (80<l0_1.length)=false:=Zf q3
  have z3:¬(80:Int)<(l0_1.length:Int):=by omega
  have HF:=Za (show ZaR a0_0 l0_1=!(l0_1.any fun x=>!Za7 a0_0 x) by unfold ZaR;rw[b1,b2,b3];rfl)
  clear b3 q3
  generalize l0_1.any (fun x=>!Za7 a0_0 x)=q at HC HF
  go_enter Try.func114,Try.ntmps114
  go_wp2_with fail
  refine(HC.out _ _ HB.out (by go_simp)).mono ?_
  rintro e w' ⟨rfl,hb⟩
  go_wp2
  go_ret
  exact⟨by rw[HF.out];rfl,HB.out.trans (hb.mono HB.out.size)⟩
end Go.Proofs.Ytpoffpdaadhkgaa.Pr
namespace Go.Proofs.Ytpoffpdaadhkgaa.Pr
open Go.RowKit Go.Proofs.YtpoffpdaadhkgaaW.PrintWords Go.Proofs.Ytpoffpdaadhkgaa.Ni
abbrev ZZ:=S148
abbrev zE:ZZ:=z148
theorem pigN:∀(n:Nat) (l:List Nat),l.Nodup→(∀x∈l,x<n)→l.length≤n
 | 0,l,_,h=>by
  cases l with
  | nil=>exact Nat.le_refl _
  | cons x l=>have:=h x (by simp);omega
 | n+1,l,hn,h=>by
  have h1:=pigN n (l.erase n) (hn.sublist (List.erase_sublist ..)) (fun x hx=>by
   have:=(hn.mem_erase_iff).1 hx
   have h2:=h x this.2
   omega)
  rw[List.length_erase] at h1
  split at h1 <;> omega
theorem pigF (n:Nat) (f:Nat→Nat) (h:∀i,i≤n→f i<n):∃i j,i<j∧j≤n∧f i=f j:=by
 apply Classical.byContradiction
 intro hc
 have hd:((List.range (n+1)).map f).Nodup:=by
  unfold List.Nodup
  rw[List.pairwise_map]
  refine List.pairwise_lt_range.imp_of_mem ?_
  intro a b _ hb hab e
  have:=List.mem_range.1 hb
  exact hc ⟨a,b,hab,by omega,e⟩
 have:=pigN n _ hd (fun x hx=>by
  obtain⟨i,hi,rfl⟩:=List.mem_map.1 hx
  have:=List.mem_range.1 hi
  exact h i (by omega))
 simp at this
 omega
abbrev BSt:=List Int×List Int×Int
def relax (s:BSt) (i:Nat) (e:ZZ):BSt:=
 if wrap64 (rd s.1 e.f0+e.f2)<rd s.1 e.f1 then(s.1.set e.f1.toNat (wrap64 (rd s.1 e.f0+e.f2)),s.2.1.set e.f1.toNat (i:Int),(i:Int)) else s
def rnd:List ZZ→Nat→BSt→BSt
 | [],_,s=>s
 | e :: t,i,s=>rnd t (i+1) (relax s i e)
def rounds (E:List ZZ):Nat→BSt→BSt
 | 0,s=>s
 | n+1,s=>rounds E n (rnd E 0 (s.1,s.2.1,-1))
def Za0 (E:List ZZ) (N:Nat):Prop:=∀e∈E,0≤e.f0∧e.f0<N∧0≤e.f1∧e.f1<N
structure BInv (E:List ZZ) (N k i:Nat) (s:BSt) (rk:Nat→Nat):Prop where
 ld:s.1.length=N
 ll:s.2.1.length=N
 k1:1≤k
 R:∀v,rk v≤k
 A:∀j e,E[j]? = some e→rk e.f0.toNat<(if j<i then k else k - 1)→rd s.1 e.f1≤wrap64 (rd s.1 e.f0+e.f2)
 B:∀v,v<N→(s.2.1.getD v 0=-1∧rk v=0)∨∃j e,E[j]? = some e∧s.2.1.getD v 0=((j:Nat):Int)∧e.f1.toNat=v∧1≤rk v∧rk v≤rk e.f0.toNat+1
 C:s.2.2=-1∨∃j e,E[j]? = some e∧s.2.2=((j:Nat):Int)∧rk e.f1.toNat=k
theorem getD_set_ne {l:List Int} {i j:Nat} (h:i≠j) (x d:Int):(l.set i x).getD j d=l.getD j d:=by
 rw[List.getD_eq_getElem?_getD,List.getD_eq_getElem?_getD,List.getElem?_set_ne h]
theorem ZaO {l:List Int} {i:Nat} (h:i<l.length) (x d:Int):(l.set i x).getD i d=x:=by
 rw[List.getD_eq_getElem?_getD,List.getElem?_set_self h];rfl
theorem BInv.step {E:List ZZ} {N k i:Nat} {s:BSt} {rk:Nat→Nat} (hE:Za0 E N) (h:BInv E N k i s rk) {e:ZZ} (he:E[i]? = some e):∃rk',BInv E N k (i+1) (relax s i e) rk':=by
 obtain⟨d,l,ch⟩:=s
 obtain⟨ld,ll,k1,R,A,B,C⟩:=h
 dsimp only at ld ll A B C
 have hin:=hE e (List.mem_of_getElem? he)
 unfold relax
 dsimp only
 by_cases c:wrap64 (rd d e.f0+e.f2)<rd d e.f1
 ·rw[if_pos c]
  refine⟨fun x=>if x=e.f1.toNat then k else rk x,?_,?_,k1,?_,?_,?_,?_⟩
  ·simpa using ld
  ·simpa using ll
  ·intro v;show(if v=e.f1.toNat then k else rk v)≤k;split
   ·exact Nat.le_refl _
   ·exact R v
  ·intro j e' hj hlt
   simp only at hlt ⊢
   have hin':=hE e' (List.mem_of_getElem? hj)
   by_cases c0:e'.f0.toNat=e.f1.toNat
   ·rw[if_pos c0] at hlt;split at hlt <;> omega
   ·rw[if_neg c0] at hlt
    have e0:rd (d.set e.f1.toNat (wrap64 (rd d e.f0+e.f2))) e'.f0=rd d e'.f0:=getD_set_ne (Ne.symm c0) _ _
    rw[e0]
    by_cases hji:j=i
    ·subst hji
     rw[he] at hj
     cases hj
     have e1:rd (d.set e.f1.toNat (wrap64 (rd d e.f0+e.f2))) e.f1=wrap64 (rd d e.f0+e.f2):=ZaO (by omega) _ _
     rw[e1];exact Int.le_refl _
    ·have hA:=A j e' hj (by split at hlt <;> split <;> omega)
     by_cases c1:e'.f1.toNat=e.f1.toNat
     ·have e1:rd (d.set e.f1.toNat (wrap64 (rd d e.f0+e.f2))) e'.f1=wrap64 (rd d e.f0+e.f2):=by unfold rd;rw[c1];exact ZaO (by omega) _ _
      have e2:rd d e'.f1=rd d e.f1:=by unfold rd;rw[c1]
      rw[e1];omega
     ·have e1:rd (d.set e.f1.toNat (wrap64 (rd d e.f0+e.f2))) e'.f1=rd d e'.f1:=getD_set_ne (Ne.symm c1) _ _
      rw[e1];exact hA
  ·intro v hv
   simp only
   by_cases cv:v=e.f1.toNat
   ·right
    refine⟨i,e,he,?_,cv.symm,?_,?_⟩
    ·rw[cv];exact ZaO (by omega) _ _
    ·rw[if_pos cv];exact k1
    ·rw[if_pos cv]
     split
     ·omega
     ·by_cases c2:rk e.f0.toNat<k - 1
      ·have:=A i e he (by rw[if_neg (by omega)];exact c2);omega
      ·omega
   ·rw[if_neg cv,getD_set_ne (Ne.symm cv)]
    rcases B v hv with hb|⟨j,e',h1,h2,h3,h4,h5⟩
    ·exact Or.inl hb
    ·right
     refine⟨j,e',h1,h2,h3,h4,?_⟩
     split
     ·have:=R v;omega
     ·exact h5
  ·right
   exact⟨i,e,he,rfl,by simp only;rw[if_pos trivial]⟩
 ·rw[if_neg c]
  refine⟨rk,ld,ll,k1,R,?_,B,C⟩
  intro j e' hj hlt
  by_cases hji:j=i
  ·subst hji
   rw[he] at hj
   cases hj
   simp only;omega
  ·exact A j e' hj (by split at hlt <;> split <;> omega)
theorem BInv.rnd {E:List ZZ} {N k:Nat} (hE:Za0 E N):∀(n i:Nat) (s:BSt) (rk:Nat→Nat),i+n=E.length→BInv E N k i s rk→∃rk',BInv E N k E.length (rnd (E.drop i) i s) rk':=by
 intro n
 induction n with
 | zero=>
  intro i s rk hn h
  obtain rfl:i=E.length:=by omega
  rw[List.drop_length];exact⟨rk,h⟩
 | succ n ih=>
  intro i s rk hn h
  have hi:i<E.length:=by omega
  rw[List.drop_eq_getElem_cons hi]
  obtain⟨rk',h'⟩:=h.step hE (Zl hi)
  exact ih (i+1) _ _ (by omega) h'
theorem BInv.next {E:List ZZ} {N k:Nat} {s:BSt} {rk:Nat→Nat} (h:BInv E N k E.length s rk):BInv E N (k+1) 0 (s.1,s.2.1,-1) rk:=by
 refine⟨h.ld,h.ll,by omega,fun v=>by have:=h.R v;omega,?_,h.B,Or.inl rfl⟩
 intro j e hj hlt
 have hjl:=(List.getElem?_eq_some_iff.1 hj).1
 rw[if_neg (by omega)] at hlt
 exact h.A j e hj (by rw[if_pos hjl];omega)
theorem BInv.rnds {E:List ZZ} {N:Nat} (hE:Za0 E N):∀(n k:Nat) (s:BSt) (rk:Nat→Nat),BInv E N k E.length s rk→∃rk',BInv E N (k+n) E.length (rounds E n s) rk':=by
 intro n
 induction n with
 | zero=>intro k s rk h;exact⟨rk,h⟩
 | succ n ih=>
  intro k s rk h
  obtain⟨rk',h'⟩:=BInv.rnd hE E.length 0 _ rk (by omega) h.next
  obtain⟨rk2,h2⟩:=ih (k+1) _ _ h'
  refine⟨rk2,?_⟩
  rw[show k+(n+1)=k+1+n by omega]
  exact h2
def bst0 (N:Nat):BSt:=(List.replicate N 0,List.replicate N (-1),-1)
theorem BInv.start {E:List ZZ} {N:Nat}:BInv E N 1 0 (bst0 N) (fun _=>0):=by
 refine⟨by simp[bst0],by simp[bst0],Nat.le_refl _,fun _=>by omega,?_,?_,Or.inl rfl⟩
 ·intro j e _ hlt;rw[if_neg (by omega)] at hlt;omega
 ·intro v hv;left
  refine⟨?_,rfl⟩
  simp[bst0,List.getD_eq_getElem?_getD,hv]
theorem BInv.all {E:List ZZ} {N:Nat} (hE:Za0 E N) (hN:1≤N):∃rk,BInv E N N E.length (rounds E N (bst0 N)) rk:=by
 obtain⟨m,rfl⟩:∃m,N=m+1:=⟨N - 1,by omega⟩
 obtain⟨rk',h'⟩:=BInv.rnd hE E.length 0 _ _ (by omega) (BInv.start (E:=E) (N:=m+1))
 obtain⟨rk2,h2⟩:=BInv.rnds hE m 1 _ _ h'
 refine⟨rk2,?_⟩
 rw[Nat.add_comm 1 m] at h2
 exact h2
def Good (E:List ZZ) (N:Nat) (l:List Int) (v:Nat):Prop:=v<N∧∃j e,E[j]? = some e∧l.getD v 0=((j:Nat):Int)∧e.f1.toNat=v
def bnxt (E:List ZZ) (l:List Int) (v:Nat):Nat:=(E.getD (l.getD v 0).toNat zE).f0.toNat
def bit (E:List ZZ) (l:List Int):Nat→Nat→Nat
 | 0,v=>v
 | n+1,v=>bnxt E l (bit E l n v)
theorem bit_succ' (E:List ZZ) (l:List Int):∀n v,bit E l (n+1) v=bit E l n (bnxt E l v)
 | 0,v=>rfl
 | n+1,v=>by show bnxt E l (bit E l (n+1) v)=bnxt E l (bit E l n (bnxt E l v));rw[bit_succ' E l n v]
theorem Zbq (E:List ZZ) (l:List Int) (m:Nat):∀n v,bit E l (n+m) v=bit E l n (bit E l m v)
 | 0,v=>by rw[Nat.zero_add];rfl
 | n+1,v=>by rw[show n+1+m=(n+m)+1 by omega];show bnxt E l _=bnxt E l _;rw[Zbq E l m n v]
theorem bnxt_at {E:List ZZ} {l:List Int} {v j:Nat} {e:ZZ} (hj:E[j]? = some e) (hl:l.getD v 0=((j:Nat):Int)):bnxt E l v=e.f0.toNat:=by
 unfold bnxt
 rw[hl,Int.toNat_natCast,List.getD_eq_getElem?_getD,hj];rfl
theorem bf_circle {E:List ZZ} {N:Nat} (hE:Za0 E N) (hN:1≤N) (hc:(rounds E N (bst0 N)).2.2≠-1) :
  let l:=(rounds E N (bst0 N)).2.1
  ∃c e,E[c]? = some e∧(rounds E N (bst0 N)).2.2=((c:Nat):Int)∧(∀i,i≤N→bit E l i e.f1.toNat<N)∧(∀i,i<N→Good E N l (bit E l i e.f1.toNat)) ∧
   (∀m,Good E N l (bit E l m (bit E l N e.f1.toNat)))∧∃q,1≤q∧q≤N∧bit E l q (bit E l N e.f1.toNat)=bit E l N e.f1.toNat:=by
 obtain⟨rk,h⟩:=BInv.all hE hN
 revert hc h
 generalize rounds E N (bst0 N)=s
 obtain⟨d,l,ch⟩:=s
 intro hc h
 dsimp only at hc ⊢
 obtain⟨c,e,he,hce,hk⟩:∃j e,E[j]? = some e∧ch=((j:Nat):Int)∧rk e.f1.toNat=N:=by
  rcases h.C with h0|h0
  ·exact absurd h0 hc
  ·exact h0
 have hin:=hE e (List.mem_of_getElem? he)
 have key:∀i,i≤N→bit E l i e.f1.toNat<N∧N≤rk (bit E l i e.f1.toNat)+i:=by
  intro i
  induction i with
  | zero=>intro _;exact⟨by simp only[bit];omega,by simp only[bit];omega⟩
  | succ i ih=>
   intro hi
   obtain⟨h1,h2⟩:=ih (by omega)
   rcases h.B _ h1 with ⟨_,h3⟩|⟨j,e',hj,hl,_,_,h5⟩
   ·omega
   ·have hin':=hE e' (List.mem_of_getElem? hj)
    show bnxt E l _<N∧N≤rk (bnxt E l _)+_
    rw[bnxt_at hj hl]
    exact⟨by omega,by omega⟩
 have good:∀i,i<N→Good E N l (bit E l i e.f1.toNat):=by
  intro i hi
  obtain⟨h1,h2⟩:=key i (by omega)
  rcases h.B _ h1 with ⟨_,h3⟩|⟨j,e',hj,hl,hv,_,_⟩
  ·omega
  ·exact⟨h1,j,e',hj,hl,hv⟩
 obtain⟨a,b,hab,hbN,hf⟩:=pigF N (fun i=>bit E l i e.f1.toNat) (fun i hi=>(key i hi).1)
 have per:∀m,bit E l (a+m+(b - a)) e.f1.toNat=bit E l (a+m) e.f1.toNat:=by
  intro m
  rw[show a+m+(b - a)=m+b by omega,show a+m=m+a by omega,Zbq,Zbq,hf]
 have goodall:∀m,Good E N l (bit E l m e.f1.toNat):=by
  intro m
  induction m using Nat.strongRecOn with
  | ind m ih=>
   by_cases hm:m<N
   ·exact good m hm
   ·have:=per (m - b)
    rw[show a+(m - b)+(b - a)=m by omega] at this
    rw[this]
    exact ih _ (by omega)
 refine⟨c,e,he,hce,fun i hi=>(key i hi).1,good,fun m=>?_,b - a,by omega,by omega,?_⟩
 ·rw[← Zbq];exact goodall _
 ·rw[← Zbq]
  have:=per (N - a)
  rw[show a+(N - a)=N by omega] at this
  rw[show b - a+N=N+(b - a) by omega]
  exact this
abbrev KSt:=List Int×List Bool×Bool
def rb (l:List Bool) (i:Int):Bool:=l.getD i.toNat false
def ZbD (s:KSt) (e:ZZ):KSt:=
 if rb s.2.1 e.f0=true∧(rb s.2.1 e.f1=false∨wrap64 (rd s.1 e.f0+e.f2)<rd s.1 e.f1) then(s.1.set e.f1.toNat (wrap64 (rd s.1 e.f0+e.f2)),s.2.1.set e.f1.toNat true,true) else s
def krnd:List ZZ→KSt→KSt
 | [],s=>s
 | e :: t,s=>krnd t (ZbD s e)
def ZbN (E:List ZZ):Nat→KSt→KSt
 | 0,s=>s
 | n+1,s=>ZbN E n (krnd E (s.1,s.2.1,false))
theorem ZcL (E:List ZZ):∀(n:Nat) (s:KSt),ZbN E (n+1) s=(fun u:KSt=>krnd E (u.1,u.2.1,false)) (ZbN E n s)
 | 0,s=>rfl
 | n+1,s=>by show ZbN E (n+1) _=_;rw[ZcL E n];rfl
structure KInv (E:List ZZ) (N k i t:Nat) (s:KSt) (lst:Nat→Option Nat) (rk T:Nat→Nat):Prop where
 ld:s.1.length=N
 ll:s.2.1.length=N
 k1:1≤k
 R:∀v,rk v≤k
 TT:∀v,T v≤t
 bd:∀v,v<N→-((t:Int) * 1000000)≤s.1.getD v 0∧s.1.getD v 0≤(t:Int) * 1000000
 A:∀j e,E[j]? = some e→rb s.2.1 e.f0=true→rk e.f0.toNat<(if j<i then k else k - 1)→rb s.2.1 e.f1=true∧rd s.1 e.f1≤rd s.1 e.f0+e.f2
 B:∀v,v<N→s.2.1.getD v false=true→(rk v=0)∨∃j e,lst v=some j∧E[j]? = some e∧e.f1.toNat=v∧rb s.2.1 e.f0=true∧1≤rk v∧rk v≤rk e.f0.toNat+1∧rd s.1 e.f0+e.f2≤s.1.getD v 0∧(T e.f0.toNat<T v∨rd s.1 e.f0+e.f2<s.1.getD v 0)
 C:s.2.2=false∨∃v,v<N∧s.2.1.getD v false=true∧rk v=k
def Zbu (E:List ZZ):Prop:=∀e∈E,-1000000≤e.f2∧e.f2≤1000000
theorem Zce {l:List Bool} {i j:Nat} (h:i≠j) (x d:Bool):(l.set i x).getD j d=l.getD j d:=by
 rw[List.getD_eq_getElem?_getD,List.getD_eq_getElem?_getD,List.getElem?_set_ne h]
theorem ZcO {l:List Bool} {i:Nat} (h:i<l.length) (x d:Bool):(l.set i x).getD i d=x:=by
 rw[List.getD_eq_getElem?_getD,List.getElem?_set_self h];rfl
theorem ZcF {l:List Bool} {i j:Nat} (h:l.getD j false=true):(l.set i true).getD j false=true:=by
 by_cases e:i=j
 ·subst e
  have:i<l.length:=by
   rcases Nat.lt_or_ge i l.length with h0|h0
   ·exact h0
   ·rw[List.getD_eq_getElem?_getD,List.getElem?_eq_none h0] at h;cases h
  exact ZcO this _ _
 ·rw[Zce e];exact h
theorem w64_id {i:Int} (h0 : -9223372036854775808≤i) (h:i≤9223372036854775807):wrap64 i=i:=by
 unfold wrap64;omega
theorem KInv.step {E:List ZZ} {N k i t:Nat} {s:KSt} {lst rk T} (hE:Za0 E N) (hw:Zbu E) (ht:t≤1000000) (h:KInv E N k i t s lst rk T) {e:ZZ} (he:E[i]? = some e):∃lst' rk' T',KInv E N k (i+1) (t+1) (ZbD s e) lst' rk' T':=by
 obtain⟨d,l,ch⟩:=s
 obtain⟨ld,ll,k1,R,TT,bd,A,B,C⟩:=h
 dsimp only at ld ll A B C bd
 have hin:=hE e (List.mem_of_getElem? he)
 have hwe:=hw e (List.mem_of_getElem? he)
 have hb0:=bd e.f0.toNat (by omega)
 have hww:wrap64 (rd d e.f0+e.f2)=rd d e.f0+e.f2:=by
  have:rd d e.f0=d.getD e.f0.toNat 0:=rfl
  rw[this];exact w64_id (by omega) (by omega)
 unfold ZbD
 dsimp only
 rw[hww]
 by_cases c:rb l e.f0=true∧(rb l e.f1=false∨rd d e.f0+e.f2<rd d e.f1)
 ·rw[if_pos c]
  obtain⟨cu,cv⟩:=c
  have eq1:rd (d.set e.f1.toNat (rd d e.f0+e.f2)) e.f1=rd d e.f0+e.f2:=ZaO (by omega) _ _
  have ne1:∀x:Int,x.toNat≠e.f1.toNat→rd (d.set e.f1.toNat (rd d e.f0+e.f2)) x=rd d x:=fun x hx=>getD_set_ne (Ne.symm hx) _ _
  have eqb:rb (l.set e.f1.toNat true) e.f1=true:=ZcO (by omega) _ _
  have neb:∀x:Int,x.toNat≠e.f1.toNat→rb (l.set e.f1.toNat true) x=rb l x:=fun x hx=>Zce (Ne.symm hx) _ _
  refine⟨fun x=>if x=e.f1.toNat then some i else lst x,fun x=>if x=e.f1.toNat then k else rk x,fun x=>if x=e.f1.toNat then t+1 else T x,?_,?_,k1,?_,?_,?_,?_,?_,?_⟩
  ·simpa using ld
  ·simpa using ll
  ·intro v;show(if v=e.f1.toNat then k else rk v)≤k;split
   ·exact Nat.le_refl _
   ·exact R v
  ·intro v;show(if v=e.f1.toNat then t+1 else T v)≤t+1;split
   ·exact Nat.le_refl _
   ·have:=TT v;omega
  ·intro v hv
   dsimp only
   by_cases c1:v=e.f1.toNat
   ·subst c1
    rw[ZaO (by omega)]
    have:rd d e.f0=d.getD e.f0.toNat 0:=rfl
    rw[this];omega
   ·rw[getD_set_ne (Ne.symm c1)]
    have:=bd v hv;omega
  ·intro j e' hj hkn hlt
   dsimp only at hlt hkn ⊢
   by_cases c0:e'.f0.toNat=e.f1.toNat
   ·rw[if_pos c0] at hlt;split at hlt <;> omega
   ·rw[if_neg c0] at hlt
    rw[neb _ c0] at hkn
    rw[ne1 _ c0]
    by_cases hji:j=i
    ·subst hji
     rw[he] at hj
     cases hj
     exact⟨eqb,by rw[eq1];exact Int.le_refl _⟩
    ·obtain⟨hA1,hA⟩:=A j e' hj hkn (by split at hlt <;> split <;> omega)
     refine⟨ZcF hA1,?_⟩
     by_cases c1:e'.f1.toNat=e.f1.toNat
     ·have e1:rd (d.set e.f1.toNat (rd d e.f0+e.f2)) e'.f1=rd d e.f0+e.f2:=by unfold rd;rw[c1];exact ZaO (by omega) _ _
      have e2:rd d e'.f1=rd d e.f1:=by unfold rd;rw[c1]
      have e3:rb l e'.f1=rb l e.f1:=by unfold rb;rw[c1]
      rw[e3] at hA1
      rcases cv with h0|h0
      ·rw[h0] at hA1;cases hA1
      ·rw[e1];omega
     ·rw[ne1 _ c1];exact hA
  ·intro v hv hkn
   dsimp only at hkn ⊢
   by_cases c1:v=e.f1.toNat
   ·right
    refine⟨i,e,by rw[if_pos c1],he,c1.symm,ZcF cu,by rw[if_pos c1];exact k1,?_,?_,?_⟩
    ·rw[if_pos c1]
     split
     ·omega
     ·by_cases c2:rk e.f0.toNat<k - 1
      ·obtain⟨a1,a2⟩:=A i e he cu (by rw[if_neg (by omega)];exact c2)
       rcases cv with h0|h0
       ·rw[h0] at a1;cases a1
       ·omega
      ·omega
    ·rw[c1,ZaO (by omega)]
     by_cases c2:e.f0.toNat=e.f1.toNat
     ·have e1:rd (d.set e.f1.toNat (rd d e.f0+e.f2)) e.f0=rd d e.f0+e.f2:=by unfold rd;rw[c2];exact ZaO (by omega) _ _
      have e2:rd d e.f0=rd d e.f1:=by unfold rd;rw[c2]
      have e3:rb l e.f0=rb l e.f1:=by unfold rb;rw[c2]
      rw[e1]
      rcases cv with h0|h0
      ·rw[← e3,cu] at h0;cases h0
      ·omega
     ·rw[ne1 _ c2];exact Int.le_refl _
    ·by_cases c2:e.f0.toNat=e.f1.toNat
     ·right
      have e1:rd (d.set e.f1.toNat (rd d e.f0+e.f2)) e.f0=rd d e.f0+e.f2:=by unfold rd;rw[c2];exact ZaO (by omega) _ _
      have e2:rd d e.f0=rd d e.f1:=by unfold rd;rw[c2]
      have e3:rb l e.f0=rb l e.f1:=by unfold rb;rw[c2]
      rw[c1,ZaO (by omega),e1]
      rcases cv with h0|h0
      ·rw[← e3,cu] at h0;cases h0
      ·omega
     ·left
      rw[if_neg c2,if_pos c1]
      have:=TT e.f0.toNat;omega
   ·rw[Zce (Ne.symm c1)] at hkn
    rw[if_neg c1,if_neg c1,if_neg c1,getD_set_ne (Ne.symm c1)]
    rcases B v hv hkn with hb|⟨j,e',h1,h2,h3,h4,h5,h6,h7,h8⟩
    ·exact Or.inl hb
    ·right
     refine⟨j,e',h1,h2,h3,ZcF h4,h5,?_,?_,?_⟩
     ·split
      ·have:=R v;omega
      ·exact h6
     ·by_cases c2:e'.f0.toNat=e.f1.toNat
      ·have e1:rd (d.set e.f1.toNat (rd d e.f0+e.f2)) e'.f0=rd d e.f0+e.f2:=by unfold rd;rw[c2];exact ZaO (by omega) _ _
       have e2:rd d e'.f0=rd d e.f1:=by unfold rd;rw[c2]
       have e3:rb l e'.f0=rb l e.f1:=by unfold rb;rw[c2]
       rw[e3] at h4
       rw[e1]
       rcases cv with h0|h0
       ·rw[h0] at h4;cases h4
       ·omega
      ·rw[ne1 _ c2];exact h7
     ·by_cases c2:e'.f0.toNat=e.f1.toNat
      ·right
       have e1:rd (d.set e.f1.toNat (rd d e.f0+e.f2)) e'.f0=rd d e.f0+e.f2:=by unfold rd;rw[c2];exact ZaO (by omega) _ _
       have e2:rd d e'.f0=rd d e.f1:=by unfold rd;rw[c2]
       have e3:rb l e'.f0=rb l e.f1:=by unfold rb;rw[c2]
       rw[e3] at h4
       rw[e1]
       rcases cv with h0|h0
       ·rw[h0] at h4;cases h4
       ·omega
      ·rw[ne1 _ c2,if_neg c2];exact h8
  ·right
   exact⟨e.f1.toNat,by omega,eqb,if_pos rfl⟩
 ·rw[if_neg c]
  refine⟨lst,rk,T,ld,ll,k1,R,fun v=>by have:=TT v;omega,fun v hv=>by have:=bd v hv;show -(((t+1:Nat):Int) * 1000000)≤d.getD v 0∧d.getD v 0≤((t+1:Nat):Int) * 1000000;omega,?_,B,C⟩
  intro j e' hj hkn hlt
  by_cases hji:j=i
  ·subst hji
   rw[he] at hj
   cases hj
   dsimp only at hkn ⊢
   cases hv:rb l e.f1 with
   | false=>exact absurd ⟨hkn,Or.inl hv⟩ c
   | true=>
    refine⟨rfl,?_⟩
    apply Classical.byContradiction
    intro h0
    exact c ⟨hkn,Or.inr (by omega)⟩
  ·exact A j e' hj hkn (by split at hlt <;> split <;> omega)
theorem KInv.rnd {E:List ZZ} {N k:Nat} (hE:Za0 E N) (hw:Zbu E):∀(n i t:Nat) (s:KSt) (lst rk T),i+n=E.length→t+n≤1000000→KInv E N k i t s lst rk T→∃lst' rk' T',KInv E N k E.length (t+n) (krnd (E.drop i) s) lst' rk' T':=by
 intro n
 induction n with
 | zero=>
  intro i t s lst rk T hn _ h
  obtain rfl:i=E.length:=by omega
  rw[List.drop_length];exact⟨lst,rk,T,h⟩
 | succ n ih=>
  intro i t s lst rk T hn ht h
  have hi:i<E.length:=by omega
  rw[List.drop_eq_getElem_cons hi]
  obtain⟨lst',rk',T',h'⟩:=h.step hE hw (by omega) (Zl hi)
  rw[show t+(n+1)=t+1+n by omega]
  exact ih (i+1) (t+1) _ _ _ _ (by omega) (by omega) h'
theorem KInv.next {E:List ZZ} {N k t:Nat} {s:KSt} {lst rk T} (h:KInv E N k E.length t s lst rk T):KInv E N (k+1) 0 t (s.1,s.2.1,false) lst rk T:=by
 refine⟨h.ld,h.ll,by omega,fun v=>by have:=h.R v;omega,h.TT,h.bd,?_,h.B,Or.inl rfl⟩
 intro j e hj hkn hlt
 have hjl:=(List.getElem?_eq_some_iff.1 hj).1
 rw[if_neg (by omega)] at hlt
 exact h.A j e hj hkn (by rw[if_pos hjl];omega)
def kst0 (N:Nat) (a:Nat):KSt:=(List.replicate N 0,(List.replicate N false).set a true,false)
theorem KInv.start {E:List ZZ} {N a:Nat}:KInv E N 1 0 0 (kst0 N a) (fun _=>none) (fun _=>0) (fun _=>0):=by
 refine⟨by simp[kst0],by simp[kst0],Nat.le_refl _,fun _=>by omega,fun _=>by omega,?_,?_,?_,Or.inl rfl⟩
 ·intro v hv;simp[kst0,List.getD_eq_getElem?_getD,hv]
 ·intro j e _ _ hlt;rw[if_neg (by omega)] at hlt;omega
 ·intro v _ _;exact Or.inl rfl
theorem KInv.after {E:List ZZ} {N a:Nat} (hE:Za0 E N) (hw:Zbu E) (hl:E.length≤100):∀(r:Nat),r≤1000→∃lst rk T,KInv E N (r+1) E.length ((r+1) * E.length) (ZbN E (r+1) (kst0 N a)) lst rk T:=by
 intro r
 induction r with
 | zero=>
  intro _
  obtain⟨lst,rk,T,h⟩:=KInv.rnd hE hw E.length 0 0 _ _ _ _ (by omega) (by omega) (KInv.start (E:=E) (N:=N) (a:=a))
  refine⟨lst,rk,T,?_⟩
  rw[show(0+1) * E.length=0+E.length by omega]
  exact h
 | succ r ih=>
  intro hr
  obtain⟨lst,rk,T,h⟩:=ih (by omega)
  have hb:(r+1) * E.length+E.length≤1000000:=by
   have:(r+1) * E.length≤1001 * 100:=Nat.mul_le_mul (by omega) hl
   omega
  obtain⟨lst',rk',T',h'⟩:=KInv.rnd hE hw E.length 0 _ _ _ _ _ (by omega) hb h.next
  refine⟨lst',rk',T',?_⟩
  rw[show(r+1+1) * E.length=(r+1) * E.length+E.length by rw[Nat.add_mul (r+1) 1];omega,ZcL]
  exact h'
theorem bf_still {E:List ZZ} {N a:Nat} (hE:Za0 E N) (hw:Zbu E) (hl:E.length≤100) (hN:1≤N) (hN2:N≤1000) (p:Nat→Int) (hp:∀e∈E,p e.f1.toNat≤p e.f0.toNat+e.f2):(ZbN E N (kst0 N a)).2.2=false:=by
 obtain⟨m,rfl⟩:∃m,N=m+1:=⟨N - 1,by omega⟩
 obtain⟨lst,rk,T,h⟩:=KInv.after (N:=m+1) (a:=a) hE hw hl m (by omega)
 revert h
 generalize ZbN E (m+1) (kst0 (m+1) a)=s
 obtain⟨d,l,ch⟩:=s
 intro h
 rcases h.C with hc|⟨v0,hv0,hk0,hr0⟩
 ·exact hc
 exfalso
 let nx:Nat→Nat:=fun v=>match lst v with|some j=>(E.getD j zE).f0.toNat|none=>0
 let nd:Nat→Nat:=fun i=>Nat.rec v0 (fun _ v=>nx v) i
 have nds:∀i,nd (i+1)=nx (nd i):=fun i=>rfl
 have key:∀i,i≤m+1→nd i<m+1∧l.getD (nd i) false=true∧m+1≤rk (nd i)+i:=by
  intro i
  induction i with
  | zero=>intro _;exact⟨hv0,hk0,by show m+1≤rk v0+0;omega⟩
  | succ i ih=>
   intro hi
   obtain⟨h1,h2,h3⟩:=ih (by omega)
   rcases h.B _ h1 h2 with h4|⟨j,e,q1,q2,q3,q4,q5,q6,_,_⟩
   ·omega
   ·have hin:=hE e (List.mem_of_getElem? q2)
    have:nd (i+1)=e.f0.toNat:=by
     rw[nds];show(match lst (nd i) with|some j=>(E.getD j zE).f0.toNat|none=>0)=_
     rw[q1];simp only;rw[List.getD_eq_getElem?_getD,q2];rfl
    rw[this]
    exact⟨by omega,q4,by omega⟩
 have lex:∀i,i<m+1→d.getD (nd (i+1)) 0 - p (nd (i+1))<d.getD (nd i) 0 - p (nd i)∨(d.getD (nd (i+1)) 0 - p (nd (i+1))≤d.getD (nd i) 0 - p (nd i)∧T (nd (i+1))<T (nd i)):=by
  intro i hi
  obtain⟨h1,h2,h3⟩:=key i (by omega)
  rcases h.B _ h1 h2 with h4|⟨j,e,q1,q2,q3,q4,q5,q6,q7,q8⟩
  ·omega
  ·have hpe:=hp e (List.mem_of_getElem? q2)
   have:nd (i+1)=e.f0.toNat:=by
    rw[nds];show(match lst (nd i) with|some j=>(E.getD j zE).f0.toNat|none=>0)=_
    rw[q1];simp only;rw[List.getD_eq_getElem?_getD,q2];rfl
   rw[this]
   rw[q3] at hpe
   have e0:rd d e.f0=d.getD e.f0.toNat 0:=rfl
   dsimp only at q7 q8
   rw[e0] at q7 q8
   rcases q8 with q8|q8
   ·right;exact⟨by omega,q8⟩
   ·left;omega
 have lexs:∀n i,i+(n+1)≤m+1→d.getD (nd (i+(n+1))) 0 - p (nd (i+(n+1)))<d.getD (nd i) 0 - p (nd i)∨(d.getD (nd (i+(n+1))) 0 - p (nd (i+(n+1)))≤d.getD (nd i) 0 - p (nd i)∧T (nd (i+(n+1)))<T (nd i)):=by
  intro n
  induction n with
  | zero=>intro i hi;exact lex i (by omega)
  | succ n ih=>
   intro i hi
   have a1:=lex i (by omega)
   have a2:=ih (i+1) (by omega)
   rw[show i+1+(n+1)=i+(n+1+1) by omega] at a2
   rcases a1 with a1|⟨a1,a3⟩ <;> rcases a2 with a2|⟨a2,a4⟩
   ·left;omega
   ·left;omega
   ·left;omega
   ·right;exact⟨by omega,by omega⟩
 obtain⟨i,j,hij,hj,he⟩:=pigF (m+1) nd (fun i hi=>(key i hi).1)
 have:=lexs (j - i - 1) i (by omega)
 rw[show i+(j - i - 1+1)=j by omega,← he] at this
 omega
def turnB (E:List ZZ) (l:List Int) (a N:Nat):Nat:=match (List.range N).find? (fun i=>bit E l (i+1) a == a) with|some i=>i+1|none=>0
theorem turnB_some {E:List ZZ} {l:List Int} {a N:Nat} (h:∃q,1≤q∧q≤N∧bit E l q a=a):1≤turnB E l a N∧turnB E l a N≤N∧bit E l (turnB E l a N) a=a∧∀i,1≤i→i<turnB E l a N→bit E l i a≠a:=by
 unfold turnB
 cases hf:(List.range N).find? (fun i=>bit E l (i+1) a == a) with
 | none=>
  obtain⟨q,h1,h2,h3⟩:=h
  rw[List.find?_eq_none] at hf
  have:=hf (q - 1) (List.mem_range.2 (by omega))
  rw[show q - 1+1=q by omega,h3] at this
  simp at this
 | some i=>
  rw[List.find?_eq_some_iff_append] at hf
  obtain⟨hp,us,bs,he,hn⟩:=hf
  have hi:i=us.length∧i<N:=by
   have h1:(List.range N)[us.length]? = some i:=by rw[he];simp
   obtain⟨h2,h3⟩:=List.getElem?_eq_some_iff.1 h1
   rw[List.getElem_range] at h3
   rw[List.length_range] at h2
   omega
  refine⟨by simp,by simp only;omega,by simpa using hp,fun j h1 h2=>?_⟩
  simp only at h2
  have hm:j - 1∈us:=by
   have h3:(List.range N)[j - 1]? = some (j - 1):=by rw[List.getElem?_range (by omega)]
   rw[he,List.getElem?_append_left (by omega)] at h3
   exact List.mem_of_getElem? h3
  have:=hn _ hm
  rw[show j - 1+1=j by omega] at this
  simpa using this
def cycB (E:List ZZ) (l:List Int) (a q:Nat):List Int:=(List.range q).map fun i=>l.getD (bit E l i a) 0
theorem cycB_succ (E:List ZZ) (l:List Int) (a q:Nat):cycB E l a (q+1)=cycB E l a q ++ [l.getD (bit E l q a) 0]:=by
 unfold cycB
 rw[List.range_succ,List.map_append];rfl
theorem Zcg (E:List ZZ) (l:List Int) (a q:Nat):(cycB E l a q).length=q:=by simp[cycB]
def backB (E:List ZZ) (N:Nat) (s:BSt):Nat:=bit E s.2.1 N (E.getD s.2.2.toNat zE).f1.toNat
def ncB (N:Nat) (E:List ZZ):List Int:=let s:=rounds E N (bst0 N);if s.2.2<0 then[] else(cycB E s.2.1 (backB E N s) (turnB E s.2.1 (backB E N s) N)).reverse
theorem relax_len {E:BSt} {N i:Nat} {e:ZZ} (h:E.1.length=N∧E.2.1.length=N):(relax E i e).1.length=N∧(relax E i e).2.1.length=N:=by
 unfold relax
 split
 ·simpa using h
 ·exact h
theorem Zc4 {E:List ZZ} {N:Nat} (hE:Za0 E N) (hN:1≤N) {d l:List Int} {ch:Int} (hs:(d,l,ch)=rounds E N (bst0 N)) :
  (ch=-1∧ncB N E=[])∨∃(c v q:Nat),ch=(c:Int)∧c<E.length∧v<N∧(E.getD c zE).f1=(v:Int)∧1≤q∧q≤N∧(∀m,bit E l m v<N∧0≤l.getD (bit E l m v) 0∧l.getD (bit E l m v) 0<E.length) ∧
   (∀m,bit E l (m+1) v=(E.getD (l.getD (bit E l m v) 0).toNat zE).f0.toNat)∧bit E l q (bit E l N v)=bit E l N v∧(∀i,1≤i→i<q→bit E l i (bit E l N v)≠bit E l N v)∧ncB N E=(cycB E l (bit E l N v) q).reverse:=by
 by_cases hc:ch=-1
 ·left
  refine⟨hc,?_⟩
  unfold ncB
  rw[← hs]
  simp[hc]
 ·right
  have hx:=bf_circle hE hN (by rw[← hs];exact hc)
  rw[← hs] at hx
  obtain⟨c,e,he,hce,hlt,hg,hga,hq⟩:=hx
  dsimp only at hce hlt hg hga hq
  have hcl:=(List.getElem?_eq_some_iff.1 he).1
  have hin:=hE e (List.mem_of_getElem? he)
  have hgd:E.getD c zE=e:=by rw[List.getD_eq_getElem?_getD,he];rfl
  have ht:=turnB_some hq
  have hall:∀m,Good E N l (bit E l m e.f1.toNat):=by
   intro m
   by_cases hm:m<N
   ·exact hg m hm
   ·have:=hga (m - N)
    rw[← Zbq,show m - N+N=m by omega] at this
    exact this
  refine⟨c,e.f1.toNat,turnB E l (bit E l N e.f1.toNat) N,hce,hcl,by omega,by rw[hgd];omega,ht.1,ht.2.1,fun m=>?_,fun m=>rfl,ht.2.2.1,ht.2.2.2,?_⟩
  ·obtain⟨h1,j,e',hj,hl,_⟩:=hall m
   have:=(List.getElem?_eq_some_iff.1 hj).1
   exact⟨h1,by omega,by omega⟩
  ·unfold ncB backB
   rw[← hs]
   simp only
   rw[if_neg (by omega),show ch.toNat=c by omega,hgd]
end Go.Proofs.Ytpoffpdaadhkgaa.Pr
