/- The texts of one claim, put together by a program of this session. -/
import Derived.Test.YtpoffpdaadhkgaaProg
import Derived.Below
import Derived.Deep.Draws
import Derived.Deep.AppendLies
import Derived.Maps.AppendAt
import Derived.OwnWalk
import Derived.Laws.BytesArg
import Derived.Laws.MakeOwn
import Derived.Laws.OwnMore
import Derived.Deep.OwnRows
import Derived.Tactics
import Derived.Lib.ConvBytes
import Derived.Laws.Slices
import Derived.WalkKit
import Derived.KernelRfl
import Derived.RowKit3
import Derived.Deep.LoopGhost
import Derived.Deep.QuietTactic
import Derived.BigQuiet
import Derived.WideLaws
import Derived.Deep.DeepCutAuto
import Derived.Deep.CutBlock
import Derived.Deep.RegionHeld3
import Derived.Laws.Rows
import Derived.Lib.AppendStr
import Derived.ArgAppend
import Derived.Laws.IdiomCopy
import Derived.OrdersHeld
import Derived.Laws.BitsLemmas
import Derived.RowKit
import Derived.ChangeArms
import Derived.ChangeSlices
import Derived.WideShapes
import Derived.Deep.Slices
import Derived.Shelf.Abstract
import Derived.Test.YtpoffpdaadhkgaaBCe0
namespace Go.Proofs.Ytpoffpdaadhkgaa.Pr
open Go.RowKit Go.Proofs.YtpoffpdaadhkgaaW.PrintWords Go.Proofs.YtpoffpdaadhkgaaW.PrintLast Go.Proofs.YtpoffpdaadhkgaaW.PrintMore
attribute [local go_sem] Z7 Z5 Zaf Zae ZY ZX Z6 Z4
set_option linter.unusedVariables false
set_option linter.unusedSimpArgs false
def errW:Option Int→Value
 | none=>.nilIface
 | some c=>.iface 0 (.int .i64 c)
theorem ZA:errW none=.nilIface:=rfl
theorem Zz (c:Int):errW (some c)=.iface 0 (.int .i64 c):=rfl
theorem ZaQ:(Try.prog.info? 3).map (fun i=>(i.zero,i.size,i.bytes))=some (some (.int .i64 0),1,8):=by kernel_rfl
theorem info4:(Try.prog.info? 4).map (fun i=>(i.zero,i.size,i.bytes))=some (some (.bool false),1,1):=by kernel_rfl
theorem ZbX:(Try.prog.info? 101).map (fun i=>(i.zero,i.size,i.bytes))=some (some (.agg #[(.int .i64 0),(.int .i64 0),(.int .i64 0),(.int .i64 0)]),4,32):=by kernel_rfl
theorem info120:(Try.prog.info? 120).map (fun i=>(i.zero,i.size,i.bytes))=some (some (.agg #[(.string ⟨#[]⟩),(.slice none 0 0),(.int .i64 0)]),3,48):=by kernel_rfl
theorem info126:(Try.prog.info? 126).map (fun i=>(i.zero,i.size,i.bytes))=some (some (.agg #[(.int .i64 0),(.int .i64 0),(.int .i64 0),(.int .i64 0),(.bool false)]),5,40):=by kernel_rfl
theorem Zbl:(Try.prog.info? 148).map (fun i=>(i.zero,i.size,i.bytes))=some (some (.agg #[(.int .i64 0),(.int .i64 0),(.int .i64 0)]),3,24):=by kernel_rfl
structure S29 where
 f0:Int
 f1:Int
def z29:S29:=⟨(0:Int),(0:Int)⟩
def k29:Kd S29:=Kd.iso (Kd.pair (Kd.int .i64) (Kd.int .i64)) (fun x:S29=>(x.f0,x.f1))
theorem k29_open {w:World} {x:S29} {cs:List Value} (h:k29.K w x cs):cs=[.int .i64 x.f0,.int .i64 x.f1]:=by
 obtain⟨_,_,rfl,rfl,rfl⟩:=h
 exact rfl
theorem k29_openM {w:World} {base:Nat} {ok:Nat→Prop} {x:S29} {cs:List Value} (h:k29.M w base ok x cs):cs=[.int .i64 x.f0,.int .i64 x.f1]:=by
 obtain⟨_,_,rfl,rfl,rfl⟩:=h
 exact rfl
theorem k29_mkM (w:World) (base:Nat) (ok:Nat→Prop) (x:S29)  : k29.M w base ok x [.int .i64 x.f0,.int .i64 x.f1]:=⟨[.int .i64 x.f0],[.int .i64 x.f1],rfl,rfl,rfl⟩
def rd_T29 (xs:List S29) (i:Int):S29:=xs.getD i.toNat z29
structure S101 where
 f0:Int
 f1:Int
 f2:S29
def z101:S101:=⟨(0:Int),(0:Int),z29⟩
def k101:Kd S101:=Kd.iso (Kd.pair (Kd.int .i64) (Kd.pair (Kd.int .i64) k29)) (fun x:S101=>(x.f0,x.f1,x.f2))
theorem k101_open {w:World} {x:S101} {cs:List Value} (h:k101.K w x cs):cs=[.int .i64 x.f0,.int .i64 x.f1,.int .i64 x.f2.f0,.int .i64 x.f2.f1]:=by
 obtain⟨_,_,rfl,rfl,⟨_,_,rfl,rfl,s2⟩⟩:=h
 obtain rfl:=k29_open s2
 exact rfl
theorem ZcB {w:World} {base:Nat} {ok:Nat→Prop} {x:S101} {cs:List Value} (h:k101.M w base ok x cs):cs=[.int .i64 x.f0,.int .i64 x.f1,.int .i64 x.f2.f0,.int .i64 x.f2.f1]:=by
 obtain⟨_,_,rfl,rfl,⟨_,_,rfl,rfl,s2⟩⟩:=h
 obtain rfl:=k29_openM s2
 exact rfl
theorem Zb4 (w:World) (base:Nat) (ok:Nat→Prop) (x:S101)  : k101.M w base ok x [.int .i64 x.f0,.int .i64 x.f1,.int .i64 x.f2.f0,.int .i64 x.f2.f1]:=⟨[.int .i64 x.f0],[.int .i64 x.f1,.int .i64 x.f2.f0,.int .i64 x.f2.f1],rfl,rfl,⟨[.int .i64 x.f1],[.int .i64 x.f2.f0,.int .i64 x.f2.f1],rfl,rfl,(k29_mkM w base ok x.f2 )⟩⟩
def Zt (xs:List S101) (i:Int):S101:=xs.getD i.toNat z101
theorem ZaF {w:World} {A:Option Addr} {n:Nat} {xs:List S101} (h:Kd.C k101 w A n xs) (i:Int) (h0:0≤i) (h1:i<n):∃ad ,A=some ad∧w.cell? (ad.add (i.toNat * 4))=some (.int .i64 (Zt xs i).f0)∧w.cell? ⟨(ad.add (i.toNat * 4)).block,(ad.add (i.toNat * 4)).off+1,none⟩=some (.int .i64 (Zt xs i).f1)∧w.cell? ⟨(ad.add (i.toNat * 4)).block,(ad.add (i.toNat * 4)).off+2,none⟩=some (.int .i64 (Zt xs i).f2.f0)∧w.cell? ⟨(ad.add (i.toNat * 4)).block,(ad.add (i.toNat * 4)).off+3,none⟩=some (.int .i64 (Zt xs i).f2.f1):=by
 obtain⟨ad,c,e,_,hK,hc0⟩:=Kd.C_get h z101 i h0 h1
 have hc:∀j u,c[j]? = some u→w.cell? (ad.add (i.toNat * 4+j))=some u:=hc0
 obtain rfl:=k101_open hK
 exact⟨ad,e,hc 0 _ rfl,by rw[← Zah _ _ 1 (by omega)];exact hc 1 _ rfl,by rw[← Zah _ _ 2 (by omega)];exact hc 2 _ rfl,by rw[← Zah _ _ 3 (by omega)];exact hc 3 _ rfl⟩
def rd_L4 (xs:List (List S101)) (i:Int):(List S101):=xs.getD i.toNat ([]:List S101)
structure S25 where
 f0:Int
 f1:(List S101)
def z25:S25:=⟨(0:Int),([]:List S101)⟩
def k25:Kd S25:=Kd.iso (Kd.pair (Kd.int .i64) (Kd.slice 101 k101)) (fun x:S25=>(x.f0,x.f1))
def rd_T25 (xs:List S25) (i:Int):S25:=xs.getD i.toNat z25
structure S148 where
 f0:Int
 f1:Int
 f2:Int
def z148:S148:=⟨(0:Int),(0:Int),(0:Int)⟩
def k148:Kd S148:=Kd.iso (Kd.pair (Kd.int .i64) (Kd.pair (Kd.int .i64) (Kd.int .i64))) (fun x:S148=>(x.f0,x.f1,x.f2))
theorem k148_open {w:World} {x:S148} {cs:List Value} (h:k148.K w x cs):cs=[.int .i64 x.f0,.int .i64 x.f1,.int .i64 x.f2]:=by
 obtain⟨_,_,rfl,rfl,⟨_,_,rfl,rfl,rfl⟩⟩:=h
 exact rfl
theorem Zbd (w:World) (base:Nat) (ok:Nat→Prop) (x:S148)  : k148.M w base ok x [.int .i64 x.f0,.int .i64 x.f1,.int .i64 x.f2]:=⟨[.int .i64 x.f0],[.int .i64 x.f1,.int .i64 x.f2],rfl,rfl,⟨[.int .i64 x.f1],[.int .i64 x.f2],rfl,rfl,rfl⟩⟩
def ZW (xs:List S148) (i:Int):S148:=xs.getD i.toNat z148
theorem ZaU {w:World} {A:Option Addr} {n:Nat} {xs:List S148} (h:Kd.C k148 w A n xs) (i:Int) (h0:0≤i) (h1:i<n):∃ad ,A=some ad∧w.cell? (ad.add (i.toNat * 3))=some (.int .i64 (ZW xs i).f0)∧w.cell? ⟨(ad.add (i.toNat * 3)).block,(ad.add (i.toNat * 3)).off+1,none⟩=some (.int .i64 (ZW xs i).f1)∧w.cell? ⟨(ad.add (i.toNat * 3)).block,(ad.add (i.toNat * 3)).off+2,none⟩=some (.int .i64 (ZW xs i).f2):=by
 obtain⟨ad,c,e,_,hK,hc0⟩:=Kd.C_get h z148 i h0 h1
 have hc:∀j u,c[j]? = some u→w.cell? (ad.add (i.toNat * 3+j))=some u:=hc0
 obtain rfl:=k148_open hK
 exact⟨ad,e,hc 0 _ rfl,by rw[← Zah _ _ 1 (by omega)];exact hc 1 _ rfl,by rw[← Zah _ _ 2 (by omega)];exact hc 2 _ rfl⟩
def rd_L7 (xs:List (List S148)) (i:Int):(List S148):=xs.getD i.toNat ([]:List S148)
structure S95 where
 f0:Int
 f1:(List S148)
def z95:S95:=⟨(0:Int),([]:List S148)⟩
def k95:Kd S95:=Kd.iso (Kd.pair (Kd.int .i64) (Kd.slice 148 k148)) (fun x:S95=>(x.f0,x.f1))
def rd_T95 (xs:List S95) (i:Int):S95:=xs.getD i.toNat z95
def rd_L9 (xs:List (List Int)) (i:Int):(List Int):=xs.getD i.toNat ([]:List Int)
structure S154 where
 f0:Int
 f1:Int
def z154:S154:=⟨(0:Int),(0:Int)⟩
def k154:Kd S154:=Kd.iso (Kd.pair (Kd.int .i64) (Kd.int .i64)) (fun x:S154=>(x.f0,x.f1))
theorem k154_open {w:World} {x:S154} {cs:List Value} (h:k154.K w x cs):cs=[.int .i64 x.f0,.int .i64 x.f1]:=by
 obtain⟨_,_,rfl,rfl,rfl⟩:=h
 exact rfl
def rd_T154 (xs:List S154) (i:Int):S154:=xs.getD i.toNat z154
structure S156 where
 f0:Int
 f1:Int
 f2:S154
def z156:S156:=⟨(0:Int),(0:Int),z154⟩
def k156:Kd S156:=Kd.iso (Kd.pair (Kd.int .i64) (Kd.pair (Kd.int .i64) k154)) (fun x:S156=>(x.f0,x.f1,x.f2))
theorem k156_open {w:World} {x:S156} {cs:List Value} (h:k156.K w x cs):cs=[.int .i64 x.f0,.int .i64 x.f1,.int .i64 x.f2.f0,.int .i64 x.f2.f1]:=by
 obtain⟨_,_,rfl,rfl,⟨_,_,rfl,rfl,s2⟩⟩:=h
 obtain rfl:=k154_open s2
 exact rfl
def Zay (xs:List S156) (i:Int):S156:=xs.getD i.toNat z156
theorem at_T156 {w:World} {A:Option Addr} {n:Nat} {xs:List S156} (h:Kd.C k156 w A n xs) (i:Int) (h0:0≤i) (h1:i<n):∃ad ,A=some ad∧w.cell? (ad.add (i.toNat * 4))=some (.int .i64 (Zay xs i).f0)∧w.cell? ⟨(ad.add (i.toNat * 4)).block,(ad.add (i.toNat * 4)).off+1,none⟩=some (.int .i64 (Zay xs i).f1)∧w.cell? ⟨(ad.add (i.toNat * 4)).block,(ad.add (i.toNat * 4)).off+2,none⟩=some (.int .i64 (Zay xs i).f2.f0)∧w.cell? ⟨(ad.add (i.toNat * 4)).block,(ad.add (i.toNat * 4)).off+3,none⟩=some (.int .i64 (Zay xs i).f2.f1):=by
 obtain⟨ad,c,e,_,hK,hc0⟩:=Kd.C_get h z156 i h0 h1
 have hc:∀j u,c[j]? = some u→w.cell? (ad.add (i.toNat * 4+j))=some u:=hc0
 obtain rfl:=k156_open hK
 exact⟨ad,e,hc 0 _ rfl,by rw[← Zah _ _ 1 (by omega)];exact hc 1 _ rfl,by rw[← Zah _ _ 2 (by omega)];exact hc 2 _ rfl,by rw[← Zah _ _ 3 (by omega)];exact hc 3 _ rfl⟩
structure S159 where
 f0:ByteArray
 f1:(List Int)
 f2:Int
def z159:S159:=⟨(⟨#[]⟩:ByteArray),([]:List Int),(0:Int)⟩
def k159:Kd S159:=Kd.iso (Kd.pair Kd.string (Kd.pair (Kd.slice 3 (Kd.int .i64)) (Kd.int .i64))) (fun x:S159=>(x.f0,x.f1,x.f2))
theorem k159_open {w:World} {x:S159} {cs:List Value} (h:k159.K w x cs):∃A1 c1,cs=[.string x.f0,.slice A1 x.f1.length c1,.int .i64 x.f2]∧x.f1.length≤c1∧(Kd.int .i64).C w A1 x.f1.length x.f1:=by
 obtain⟨_,_,rfl,rfl,⟨_,_,rfl,⟨A1,c1,rfl,l1,g1⟩,rfl⟩⟩:=h
 exact⟨A1,c1,rfl,l1,g1⟩
def ZbB (xs:List S159) (i:Int):S159:=xs.getD i.toNat z159
theorem at_T159 {w:World} {A:Option Addr} {n:Nat} {xs:List S159} (h:Kd.C k159 w A n xs) (i:Int) (h0:0≤i) (h1:i<n):∃ad A1 c1,A=some ad∧w.cell? (ad.add (i.toNat * 3))=some (.string (ZbB xs i).f0)∧w.cell? ⟨(ad.add (i.toNat * 3)).block,(ad.add (i.toNat * 3)).off+1,none⟩=some (.slice A1 (ZbB xs i).f1.length c1)∧w.cell? ⟨(ad.add (i.toNat * 3)).block,(ad.add (i.toNat * 3)).off+2,none⟩=some (.int .i64 (ZbB xs i).f2)∧(ZbB xs i).f1.length≤c1∧(Kd.int .i64).C w A1 (ZbB xs i).f1.length (ZbB xs i).f1:=by
 obtain⟨ad,c,e,_,hK,hc0⟩:=Kd.C_get h z159 i h0 h1
 have hc:∀j u,c[j]? = some u→w.cell? (ad.add (i.toNat * 3+j))=some u:=hc0
 obtain⟨A1,c1,rfl,l1,g1⟩:=k159_open hK
 exact⟨ad,A1,c1,e,hc 0 _ rfl,by rw[← Zah _ _ 1 (by omega)];exact hc 1 _ rfl,by rw[← Zah _ _ 2 (by omega)];exact hc 2 _ rfl,l1,g1⟩
structure S165 where
 f0:Int
 f1:Int
 f2:Int
 f3:Int
 f4:Bool
def z165:S165:=⟨(0:Int),(0:Int),(0:Int),(0:Int),false⟩
def k165:Kd S165:=Kd.iso (Kd.pair (Kd.int .i64) (Kd.pair (Kd.int .i64) (Kd.pair (Kd.int .i64) (Kd.pair (Kd.int .i64) Kd.bool)))) (fun x:S165=>(x.f0,x.f1,x.f2,x.f3,x.f4))
theorem k165_open {w:World} {x:S165} {cs:List Value} (h:k165.K w x cs):cs=[.int .i64 x.f0,.int .i64 x.f1,.int .i64 x.f2,.int .i64 x.f3,.bool x.f4]:=by
 obtain⟨_,_,rfl,rfl,⟨_,_,rfl,rfl,⟨_,_,rfl,rfl,⟨_,_,rfl,rfl,rfl⟩⟩⟩⟩:=h
 exact rfl
def ZbU (xs:List S165) (i:Int):S165:=xs.getD i.toNat z165
theorem at_T165 {w:World} {A:Option Addr} {n:Nat} {xs:List S165} (h:Kd.C k165 w A n xs) (i:Int) (h0:0≤i) (h1:i<n):∃ad ,A=some ad∧w.cell? (ad.add (i.toNat * 5))=some (.int .i64 (ZbU xs i).f0)∧w.cell? ⟨(ad.add (i.toNat * 5)).block,(ad.add (i.toNat * 5)).off+1,none⟩=some (.int .i64 (ZbU xs i).f1)∧w.cell? ⟨(ad.add (i.toNat * 5)).block,(ad.add (i.toNat * 5)).off+2,none⟩=some (.int .i64 (ZbU xs i).f2)∧w.cell? ⟨(ad.add (i.toNat * 5)).block,(ad.add (i.toNat * 5)).off+3,none⟩=some (.int .i64 (ZbU xs i).f3)∧w.cell? ⟨(ad.add (i.toNat * 5)).block,(ad.add (i.toNat * 5)).off+4,none⟩=some (.bool (ZbU xs i).f4):=by
 obtain⟨ad,c,e,_,hK,hc0⟩:=Kd.C_get h z165 i h0 h1
 have hc:∀j u,c[j]? = some u→w.cell? (ad.add (i.toNat * 5+j))=some u:=hc0
 obtain rfl:=k165_open hK
 exact⟨ad,e,hc 0 _ rfl,by rw[← Zah _ _ 1 (by omega)];exact hc 1 _ rfl,by rw[← Zah _ _ 2 (by omega)];exact hc 2 _ rfl,by rw[← Zah _ _ 3 (by omega)];exact hc 3 _ rfl,by rw[← Zah _ _ 4 (by omega)];exact hc 4 _ rfl⟩
structure S120 where
 f0:ByteArray
 f1:(List Int)
 f2:Int
def z120:S120:=⟨(⟨#[]⟩:ByteArray),([]:List Int),(0:Int)⟩
def k120:Kd S120:=Kd.iso (Kd.pair Kd.string (Kd.pair (Kd.slice 3 (Kd.int .i64)) (Kd.int .i64))) (fun x:S120=>(x.f0,x.f1,x.f2))
theorem k120_open {w:World} {x:S120} {cs:List Value} (h:k120.K w x cs):∃A1 c1,cs=[.string x.f0,.slice A1 x.f1.length c1,.int .i64 x.f2]∧x.f1.length≤c1∧(Kd.int .i64).C w A1 x.f1.length x.f1:=by
 obtain⟨_,_,rfl,rfl,⟨_,_,rfl,⟨A1,c1,rfl,l1,g1⟩,rfl⟩⟩:=h
 exact⟨A1,c1,rfl,l1,g1⟩
theorem k120_openM {w:World} {base:Nat} {ok:Nat→Prop} {x:S120} {cs:List Value} (h:k120.M w base ok x cs):∃v1,cs=[.string x.f0,v1,.int .i64 x.f2]∧(Kd.int .i64).R 3 w base ok v1 x.f1:=by
 obtain⟨_,_,rfl,rfl,⟨_,_,rfl,⟨v1,rfl,g1⟩,rfl⟩⟩:=h
 exact⟨v1,rfl,g1⟩
theorem k120_mkM (w:World) (base:Nat) (ok:Nat→Prop) (x:S120) {v1:Value} (g1:(Kd.int .i64).R 3 w base ok v1 x.f1):k120.M w base ok x [.string x.f0,v1,.int .i64 x.f2]:=⟨[.string x.f0],[v1,.int .i64 x.f2],rfl,rfl,⟨[v1],[.int .i64 x.f2],rfl,⟨v1,rfl,g1⟩,rfl⟩⟩
def ZbC (xs:List S120) (i:Int):S120:=xs.getD i.toNat z120
theorem at_T120 {w:World} {A:Option Addr} {n:Nat} {xs:List S120} (h:Kd.C k120 w A n xs) (i:Int) (h0:0≤i) (h1:i<n):∃ad A1 c1,A=some ad∧w.cell? (ad.add (i.toNat * 3))=some (.string (ZbC xs i).f0)∧w.cell? ⟨(ad.add (i.toNat * 3)).block,(ad.add (i.toNat * 3)).off+1,none⟩=some (.slice A1 (ZbC xs i).f1.length c1)∧w.cell? ⟨(ad.add (i.toNat * 3)).block,(ad.add (i.toNat * 3)).off+2,none⟩=some (.int .i64 (ZbC xs i).f2)∧(ZbC xs i).f1.length≤c1∧(Kd.int .i64).C w A1 (ZbC xs i).f1.length (ZbC xs i).f1:=by
 obtain⟨ad,c,e,_,hK,hc0⟩:=Kd.C_get h z120 i h0 h1
 have hc:∀j u,c[j]? = some u→w.cell? (ad.add (i.toNat * 3+j))=some u:=hc0
 obtain⟨A1,c1,rfl,l1,g1⟩:=k120_open hK
 exact⟨ad,A1,c1,e,hc 0 _ rfl,by rw[← Zah _ _ 1 (by omega)];exact hc 1 _ rfl,by rw[← Zah _ _ 2 (by omega)];exact hc 2 _ rfl,l1,g1⟩
structure S126 where
 f0:Int
 f1:Int
 f2:Int
 f3:Int
 f4:Bool
def z126:S126:=⟨(0:Int),(0:Int),(0:Int),(0:Int),false⟩
def k126:Kd S126:=Kd.iso (Kd.pair (Kd.int .i64) (Kd.pair (Kd.int .i64) (Kd.pair (Kd.int .i64) (Kd.pair (Kd.int .i64) Kd.bool)))) (fun x:S126=>(x.f0,x.f1,x.f2,x.f3,x.f4))
theorem k126_open {w:World} {x:S126} {cs:List Value} (h:k126.K w x cs):cs=[.int .i64 x.f0,.int .i64 x.f1,.int .i64 x.f2,.int .i64 x.f3,.bool x.f4]:=by
 obtain⟨_,_,rfl,rfl,⟨_,_,rfl,rfl,⟨_,_,rfl,rfl,⟨_,_,rfl,rfl,rfl⟩⟩⟩⟩:=h
 exact rfl
theorem k126_openM {w:World} {base:Nat} {ok:Nat→Prop} {x:S126} {cs:List Value} (h:k126.M w base ok x cs):cs=[.int .i64 x.f0,.int .i64 x.f1,.int .i64 x.f2,.int .i64 x.f3,.bool x.f4]:=by
 obtain⟨_,_,rfl,rfl,⟨_,_,rfl,rfl,⟨_,_,rfl,rfl,⟨_,_,rfl,rfl,rfl⟩⟩⟩⟩:=h
 exact rfl
theorem k126_mkM (w:World) (base:Nat) (ok:Nat→Prop) (x:S126)  : k126.M w base ok x [.int .i64 x.f0,.int .i64 x.f1,.int .i64 x.f2,.int .i64 x.f3,.bool x.f4]:=⟨[.int .i64 x.f0],[.int .i64 x.f1,.int .i64 x.f2,.int .i64 x.f3,.bool x.f4],rfl,rfl,⟨[.int .i64 x.f1],[.int .i64 x.f2,.int .i64 x.f3,.bool x.f4],rfl,rfl,⟨[.int .i64 x.f2],[.int .i64 x.f3,.bool x.f4],rfl,rfl,⟨[.int .i64 x.f3],[.bool x.f4],rfl,rfl,rfl⟩⟩⟩⟩
def ZbV (xs:List S126) (i:Int):S126:=xs.getD i.toNat z126
theorem at_T126 {w:World} {A:Option Addr} {n:Nat} {xs:List S126} (h:Kd.C k126 w A n xs) (i:Int) (h0:0≤i) (h1:i<n):∃ad ,A=some ad∧w.cell? (ad.add (i.toNat * 5))=some (.int .i64 (ZbV xs i).f0)∧w.cell? ⟨(ad.add (i.toNat * 5)).block,(ad.add (i.toNat * 5)).off+1,none⟩=some (.int .i64 (ZbV xs i).f1)∧w.cell? ⟨(ad.add (i.toNat * 5)).block,(ad.add (i.toNat * 5)).off+2,none⟩=some (.int .i64 (ZbV xs i).f2)∧w.cell? ⟨(ad.add (i.toNat * 5)).block,(ad.add (i.toNat * 5)).off+3,none⟩=some (.int .i64 (ZbV xs i).f3)∧w.cell? ⟨(ad.add (i.toNat * 5)).block,(ad.add (i.toNat * 5)).off+4,none⟩=some (.bool (ZbV xs i).f4):=by
 obtain⟨ad,c,e,_,hK,hc0⟩:=Kd.C_get h z126 i h0 h1
 have hc:∀j u,c[j]? = some u→w.cell? (ad.add (i.toNat * 5+j))=some u:=hc0
 obtain rfl:=k126_open hK
 exact⟨ad,e,hc 0 _ rfl,by rw[← Zah _ _ 1 (by omega)];exact hc 1 _ rfl,by rw[← Zah _ _ 2 (by omega)];exact hc 2 _ rfl,by rw[← Zah _ _ 3 (by omega)];exact hc 3 _ rfl,by rw[← Zah _ _ 4 (by omega)];exact hc 4 _ rfl⟩
def rd_L18 (xs:List (List S120)) (i:Int):(List S120):=xs.getD i.toNat ([]:List S120)
def rd_L19 (xs:List (List S126)) (i:Int):(List S126):=xs.getD i.toNat ([]:List S126)
structure S66 where
 f0:(List S120)
 f1:(List S126)
 f2:Int
def z66:S66:=⟨([]:List S120),([]:List S126),(0:Int)⟩
def k66:Kd S66:=Kd.iso (Kd.pair (Kd.slice 120 k120) (Kd.pair (Kd.slice 126 k126) (Kd.int .i64))) (fun x:S66=>(x.f0,x.f1,x.f2))
def rd_T66 (xs:List S66) (i:Int):S66:=xs.getD i.toNat z66
def rd_L21 (xs:List (List S156)) (i:Int):(List S156):=xs.getD i.toNat ([]:List S156)
structure S46 where
 f0:Int
 f1:(List S156)
def z46:S46:=⟨(0:Int),([]:List S156)⟩
def k46:Kd S46:=Kd.iso (Kd.pair (Kd.int .i64) (Kd.slice 156 k156)) (fun x:S46=>(x.f0,x.f1))
theorem k46_open {w:World} {x:S46} {cs:List Value} (h:k46.K w x cs):∃A1 c1,cs=[.int .i64 x.f0,.slice A1 x.f1.length c1]∧x.f1.length≤c1∧k156.C w A1 x.f1.length x.f1:=by
 obtain⟨_,_,rfl,rfl,⟨A1,c1,rfl,l1,g1⟩⟩:=h
 exact⟨A1,c1,rfl,l1,g1⟩
def rd_T46 (xs:List S46) (i:Int):S46:=xs.getD i.toNat z46
def rd_L23 (xs:List (List S159)) (i:Int):(List S159):=xs.getD i.toNat ([]:List S159)
def rd_L24 (xs:List (List S165)) (i:Int):(List S165):=xs.getD i.toNat ([]:List S165)
structure S60 where
 f0:(List S159)
 f1:(List S165)
 f2:Int
def z60:S60:=⟨([]:List S159),([]:List S165),(0:Int)⟩
def k60:Kd S60:=Kd.iso (Kd.pair (Kd.slice 159 k159) (Kd.pair (Kd.slice 165 k165) (Kd.int .i64))) (fun x:S60=>(x.f0,x.f1,x.f2))
theorem k60_open {w:World} {x:S60} {cs:List Value} (h:k60.K w x cs):∃A0 c0 A1 c1,cs=[.slice A0 x.f0.length c0,.slice A1 x.f1.length c1,.int .i64 x.f2]∧x.f0.length≤c0∧k159.C w A0 x.f0.length x.f0∧x.f1.length≤c1∧k165.C w A1 x.f1.length x.f1:=by
 obtain⟨_,_,rfl,⟨A0,c0,rfl,l0,g0⟩,⟨_,_,rfl,⟨A1,c1,rfl,l1,g1⟩,rfl⟩⟩:=h
 exact⟨A0,c0,A1,c1,rfl,l0,g0,l1,g1⟩
def rd_T60 (xs:List S60) (i:Int):S60:=xs.getD i.toNat z60
structure S77 where
 f0:Int
 f1:(List Int)
 f2:(List Int)
def z77:S77:=⟨(0:Int),([]:List Int),([]:List Int)⟩
def k77:Kd S77:=Kd.iso (Kd.pair (Kd.int .i64) (Kd.pair (Kd.slice 3 (Kd.int .i64)) (Kd.slice 3 (Kd.int .i64)))) (fun x:S77=>(x.f0,x.f1,x.f2))
theorem k77_open {w:World} {x:S77} {cs:List Value} (h:k77.K w x cs):∃A1 c1 A2 c2,cs=[.int .i64 x.f0,.slice A1 x.f1.length c1,.slice A2 x.f2.length c2]∧x.f1.length≤c1∧(Kd.int .i64).C w A1 x.f1.length x.f1∧x.f2.length≤c2∧(Kd.int .i64).C w A2 x.f2.length x.f2:=by
 obtain⟨_,_,rfl,rfl,⟨_,_,rfl,⟨A1,c1,rfl,l1,g1⟩,⟨A2,c2,rfl,l2,g2⟩⟩⟩:=h
 exact⟨A1,c1,A2,c2,rfl,l1,g1,l2,g2⟩
def rd_T77 (xs:List S77) (i:Int):S77:=xs.getD i.toNat z77
end Go.Proofs.Ytpoffpdaadhkgaa.Pr
namespace Go.Proofs.Ytpoffpdaadhkgaa.Op
open Go.RowKit Go.ChangeShapes Go.WideShapes Go.Proofs.YtpoffpdaadhkgaaW.PrintWords
structure Zab {α:Type} (P:Program) (d:Kd α) (t:TypeId) (ok:α→Prop):Prop where
 cells:P.cellsOf t=d.sz
 op:∀{H:Type} {enc:TypeId×Value→H} {w:World} {base fuel:Nat} {cs:List Value} {x:DataW H×List MemPlace},DataW.trod enc P w base (fun _=>true) true fuel t cs=some x→∃y,d.K w y cs∧ok y
theorem Zab.int {P:Program} {t:TypeId} {k:IntKind} (ht:P.underlying t=some (.int k)) (hc:P.cellsOf t=1):Zab P (Kd.int k) t (fun n=>(Lit.int k n).wf=true):=
 ⟨hc,fun h=>by
  obtain⟨n,rfl,_,hw⟩:=DataW.trod_int ht h
  exact⟨n,rfl,hw⟩⟩
theorem Zab.bool {P:Program} {t:TypeId} (ht:P.underlying t=some .bool) (hc:P.cellsOf t=1):Zab P Kd.bool t (fun _=>True):=
 ⟨hc,fun h=>by
  obtain⟨n,rfl,_⟩:=DataW.trod_bool ht h
  exact⟨n,rfl,trivial⟩⟩
theorem Zab.string {P:Program} {t:TypeId} (ht:P.underlying t=some .string) (hc:P.cellsOf t=1):Zab P Kd.string t (fun s=>s.size≤maxLen):=
 ⟨hc,fun h=>by
  obtain⟨n,rfl,_,hw⟩:=DataW.trod_string ht h
  exact⟨n,rfl,hw⟩⟩
theorem choose_list {β:Type} (Q:Nat→β→Prop) (n:Nat) (h:∀i,i<n→∃y,Q i y):∃l:List β,l.length=n∧∀i y,l[i]? = some y→Q i y:=by
 induction n with
 | zero=>exact⟨[],rfl,fun i y h=>by simp at h⟩
 | succ n ih=>
  obtain⟨l,hl,hq⟩:=ih (fun i hi=>h i (by omega))
  obtain⟨y,hy⟩:=h n (by omega)
  refine⟨l ++ [y],by simp[hl],fun i z hz=>?_⟩
  rcases Nat.lt_or_ge i l.length with hi|hi
  ·rw[List.getElem?_append_left hi] at hz
   exact hq i z hz
  ·have hlt:=(List.getElem?_eq_some_iff.1 hz).1
   rw[List.length_append,List.length_singleton] at hlt
   have e:i=l.length:=by omega
   subst e
   have hz':y=z:=by simpa using hz
   subst hz'
   rw[hl]
   exact hy
theorem Zab.slice {α:Type} {P:Program} {d:Kd α} {t e:TypeId} {ok:α→Prop} (he:Zab P d e ok) (ht:P.underlying t=some (.slice e)) (hc:P.cellsOf t=1) :
  Zab P (Kd.slice e d) t (fun l=>l.length≤maxLen∧∀x∈l,ok x):=
 ⟨hc,fun {H enc w base fuel cs x} h=>by
  rcases DataW.trod_slice ht h with ⟨rfl,_⟩|⟨a,len,cap,elems,rest,n,_,rfl,_,hb,hl,hm,hlen,hel,_,_⟩
  ·exact⟨[],⟨none,0,rfl,Nat.le_refl _,rfl,by simp,fun h0=>absurd h0 (by simp)⟩,by simp⟩
  ·have key:∀i,i<len→∃y,ok y∧∃c,c.length=d.sz∧d.K w y c∧∀j u,c[j]? = some u→w.cell? (a.add (i * d.sz+j))=some u:=by
    intro i hi
    have hi':=hel i hi
    rw[Zl (by omega),Option.bind_eq_some_iff] at hi'
    obtain⟨cs',h1,h2⟩:=hi'
    obtain⟨y,hk,hy⟩:=he.op h2
    refine⟨y,hy,cs',d.K_len hk,hk,fun j u hu=>?_⟩
    have:=(World.cells?_some h1).2.2 j (by
     have:=(List.getElem?_eq_some_iff.1 hu).1
     rw[d.K_len hk] at this
     rw[he.cells];exact this)
    rw[he.cells] at this
    rw[Addr.add_add] at this
    rw[this,hu]
   obtain⟨l,hll,hq⟩:=choose_list _ len key
   refine⟨l,⟨some a,cap,by rw[hll],by omega,rfl,by rw[hll];simp only[maxLen] at hm;omega,fun h0=>⟨a,rfl,fun j p hj=>?_⟩⟩,by omega,fun x hx=>?_⟩
   ·obtain⟨_,hc'⟩:=hq j p hj
    exact hc'
   ·obtain⟨i,hi⟩:=List.getElem?_of_mem hx
    exact(hq i x hi).1⟩
theorem ZaH {α β:Type} {a:Kd α} {b:Kd β} {w:World} {x:α} {y:β} {cs:List Value} {off:Nat} (h0:a.K w x ((cs.drop off).take a.sz)) (h1:b.K w y ((cs.drop (off+a.sz)).take b.sz)) :
  (Kd.pair a b).K w (x,y) ((cs.drop off).take (Kd.pair a b).sz):=
 ⟨_,_,by show(cs.drop off).take (a.sz+b.sz)=_;rw[List.take_add,List.drop_drop],h0,h1⟩
theorem Zab.fieldAt {α:Type} {P:Program} {d:Kd α} {t:TypeId} {ok:α→Prop} (ho:Zab P d t ok) {H:Type} {enc:TypeId×Value→H} {w:World} {base fuel off:Nat} {cs:List Value} {x:Option (DataW H×List MemPlace)}
  (h:DataW.trod enc P w base (fun _=>true) true fuel t ((cs.drop off).take (P.cellsOf t))=x) (hx:x.isSome=true):∃y,d.K w y ((cs.drop off).take d.sz)∧ok y:=by
 obtain⟨z,rfl⟩:=Option.isSome_iff_exists.1 hx
 obtain⟨y,hk,hy⟩:=ho.op h
 rw[ho.cells] at hk
 exact⟨y,hk,hy⟩
end Go.Proofs.Ytpoffpdaadhkgaa.Op
namespace Go.Proofs.Ytpoffpdaadhkgaa.Pr
open Go.RowKit Go.Proofs.YtpoffpdaadhkgaaW.PrintWords Go.Proofs.YtpoffpdaadhkgaaW.PrintLast Go.Proofs.YtpoffpdaadhkgaaW.PrintMore
attribute [local go_sem] Z7 Z5 Zaf Zae ZY ZX Z6 Z4
set_option linter.unusedVariables false
set_option linter.unusedSimpArgs false
open Go.Proofs.Ytpoffpdaadhkgaa.Op Go.ChangeShapes Go.WideShapes
def okS154 (x:S154):Prop:=(fun n_:Int=>(Lit.int .i64 n_).wf=true) x.f0∧(fun n_:Int=>(Lit.int .i64 n_).wf=true) x.f1
theorem op_k154:Zab Try.prog k154 154 okS154:=
 ⟨by kernel_rfl,fun {H enc w base fuel cs x} h=>by
  obtain⟨xs,n,_,_,hl,hlen,hf⟩:=DataW.trod_struct Try.underlying154 h
  have hl':cs.length=2:=hl.trans (by kernel_rfl)
  have hlen':xs.length=2:=hlen
  obtain⟨y0,h0,o0⟩:=(Zab.int Try.underlying3 (by kernel_rfl)).fieldAt (hf 0 _ rfl) (by rw[Zl (by omega)];rfl)
  obtain⟨y1,h1,o1⟩:=(Zab.int Try.underlying3 (by kernel_rfl)).fieldAt (hf 1 _ rfl) (by rw[Zl (by omega)];rfl)
  have hk:k154.K w ⟨y0,y1⟩ ((cs.drop 0).take k154.sz):=(ZaH (off:=0) h0 h1)
  have hcs:(cs.drop 0).take k154.sz=cs:=by rw[List.drop_zero];exact List.take_of_length_le (by rw[hl'];exact Nat.le_refl _)
  rw[hcs] at hk
  exact⟨_,hk,o0,o1⟩⟩
def okS156 (x:S156):Prop:=(fun n_:Int=>(Lit.int .i64 n_).wf=true) x.f0∧(fun n_:Int=>(Lit.int .i64 n_).wf=true) x.f1∧okS154 x.f2
theorem op_k156:Zab Try.prog k156 156 okS156:=
 ⟨by kernel_rfl,fun {H enc w base fuel cs x} h=>by
  obtain⟨xs,n,_,_,hl,hlen,hf⟩:=DataW.trod_struct Try.underlying156 h
  have hl':cs.length=4:=hl.trans (by kernel_rfl)
  have hlen':xs.length=3:=hlen
  obtain⟨y0,h0,o0⟩:=(Zab.int Try.underlying3 (by kernel_rfl)).fieldAt (hf 0 _ rfl) (by rw[Zl (by omega)];rfl)
  obtain⟨y1,h1,o1⟩:=(Zab.int Try.underlying3 (by kernel_rfl)).fieldAt (hf 1 _ rfl) (by rw[Zl (by omega)];rfl)
  obtain⟨y2,h2,o2⟩:=op_k154.fieldAt (hf 2 _ rfl) (by rw[Zl (by omega)];rfl)
  have hk:k156.K w ⟨y0,y1,y2⟩ ((cs.drop 0).take k156.sz):=(ZaH (off:=0) h0 (ZaH (off:=1) h1 h2))
  have hcs:(cs.drop 0).take k156.sz=cs:=by rw[List.drop_zero];exact List.take_of_length_le (by rw[hl'];exact Nat.le_refl _)
  rw[hcs] at hk
  exact⟨_,hk,o0,o1,o2⟩⟩
def okS46 (x:S46):Prop:=(fun n_:Int=>(Lit.int .i64 n_).wf=true) x.f0∧(fun l_:List (S156)=>l_.length≤maxLen∧∀x_∈l_,okS156 x_) x.f1
theorem op_k46:Zab Try.prog k46 46 okS46:=
 ⟨by kernel_rfl,fun {H enc w base fuel cs x} h=>by
  obtain⟨xs,n,_,_,hl,hlen,hf⟩:=DataW.trod_struct Try.underlying46 h
  have hl':cs.length=2:=hl.trans (by kernel_rfl)
  have hlen':xs.length=2:=hlen
  obtain⟨y0,h0,o0⟩:=(Zab.int Try.underlying3 (by kernel_rfl)).fieldAt (hf 0 _ rfl) (by rw[Zl (by omega)];rfl)
  obtain⟨y1,h1,o1⟩:=(Zab.slice op_k156 Try.underlying44 (by kernel_rfl)).fieldAt (hf 1 _ rfl) (by rw[Zl (by omega)];rfl)
  have hk:k46.K w ⟨y0,y1⟩ ((cs.drop 0).take k46.sz):=(ZaH (off:=0) h0 h1)
  have hcs:(cs.drop 0).take k46.sz=cs:=by rw[List.drop_zero];exact List.take_of_length_le (by rw[hl'];exact Nat.le_refl _)
  rw[hcs] at hk
  exact⟨_,hk,o0,o1⟩⟩
def okS159 (x:S159):Prop:=(fun s_:ByteArray=>s_.size≤maxLen) x.f0∧(fun l_:List Int=>l_.length≤maxLen∧∀x_∈l_,(fun n_:Int=>(Lit.int .i64 n_).wf=true) x_) x.f1∧(fun n_:Int=>(Lit.int .i64 n_).wf=true) x.f2
theorem op_k159:Zab Try.prog k159 159 okS159:=
 ⟨by kernel_rfl,fun {H enc w base fuel cs x} h=>by
  obtain⟨xs,n,_,_,hl,hlen,hf⟩:=DataW.trod_struct Try.underlying159 h
  have hl':cs.length=3:=hl.trans (by kernel_rfl)
  have hlen':xs.length=3:=hlen
  obtain⟨y0,h0,o0⟩:=(Zab.string Try.underlying9 (by kernel_rfl)).fieldAt (hf 0 _ rfl) (by rw[Zl (by omega)];rfl)
  obtain⟨y1,h1,o1⟩:=(Zab.slice (Zab.int Try.underlying3 (by kernel_rfl)) Try.underlying33 (by kernel_rfl)).fieldAt (hf 1 _ rfl) (by rw[Zl (by omega)];rfl)
  obtain⟨y2,h2,o2⟩:=(Zab.int Try.underlying3 (by kernel_rfl)).fieldAt (hf 2 _ rfl) (by rw[Zl (by omega)];rfl)
  have hk:k159.K w ⟨y0,y1,y2⟩ ((cs.drop 0).take k159.sz):=(ZaH (off:=0) h0 (ZaH (off:=1) h1 h2))
  have hcs:(cs.drop 0).take k159.sz=cs:=by rw[List.drop_zero];exact List.take_of_length_le (by rw[hl'];exact Nat.le_refl _)
  rw[hcs] at hk
  exact⟨_,hk,o0,o1,o2⟩⟩
def okS165 (x:S165):Prop:=(fun n_:Int=>(Lit.int .i64 n_).wf=true) x.f0∧(fun n_:Int=>(Lit.int .i64 n_).wf=true) x.f1∧(fun n_:Int=>(Lit.int .i64 n_).wf=true) x.f2∧(fun n_:Int=>(Lit.int .i64 n_).wf=true) x.f3∧(fun _:Bool=>True) x.f4
theorem op_k165:Zab Try.prog k165 165 okS165:=
 ⟨by kernel_rfl,fun {H enc w base fuel cs x} h=>by
  obtain⟨xs,n,_,_,hl,hlen,hf⟩:=DataW.trod_struct Try.underlying165 h
  have hl':cs.length=5:=hl.trans (by kernel_rfl)
  have hlen':xs.length=5:=hlen
  obtain⟨y0,h0,o0⟩:=(Zab.int Try.underlying3 (by kernel_rfl)).fieldAt (hf 0 _ rfl) (by rw[Zl (by omega)];rfl)
  obtain⟨y1,h1,o1⟩:=(Zab.int Try.underlying3 (by kernel_rfl)).fieldAt (hf 1 _ rfl) (by rw[Zl (by omega)];rfl)
  obtain⟨y2,h2,o2⟩:=(Zab.int Try.underlying3 (by kernel_rfl)).fieldAt (hf 2 _ rfl) (by rw[Zl (by omega)];rfl)
  obtain⟨y3,h3,o3⟩:=(Zab.int Try.underlying3 (by kernel_rfl)).fieldAt (hf 3 _ rfl) (by rw[Zl (by omega)];rfl)
  obtain⟨y4,h4,o4⟩:=(Zab.bool Try.underlying4 (by kernel_rfl)).fieldAt (hf 4 _ rfl) (by rw[Zl (by omega)];rfl)
  have hk:k165.K w ⟨y0,y1,y2,y3,y4⟩ ((cs.drop 0).take k165.sz):=(ZaH (off:=0) h0 (ZaH (off:=1) h1 (ZaH (off:=2) h2 (ZaH (off:=3) h3 h4))))
  have hcs:(cs.drop 0).take k165.sz=cs:=by rw[List.drop_zero];exact List.take_of_length_le (by rw[hl'];exact Nat.le_refl _)
  rw[hcs] at hk
  exact⟨_,hk,o0,o1,o2,o3,o4⟩⟩
def okS60 (x:S60):Prop:=(fun l_:List (S159)=>l_.length≤maxLen∧∀x_∈l_,okS159 x_) x.f0∧(fun l_:List (S165)=>l_.length≤maxLen∧∀x_∈l_,okS165 x_) x.f1∧(fun n_:Int=>(Lit.int .i64 n_).wf=true) x.f2
theorem op_k60:Zab Try.prog k60 60 okS60:=
 ⟨by kernel_rfl,fun {H enc w base fuel cs x} h=>by
  obtain⟨xs,n,_,_,hl,hlen,hf⟩:=DataW.trod_struct Try.underlying60 h
  have hl':cs.length=3:=hl.trans (by kernel_rfl)
  have hlen':xs.length=3:=hlen
  obtain⟨y0,h0,o0⟩:=(Zab.slice op_k159 Try.underlying57 (by kernel_rfl)).fieldAt (hf 0 _ rfl) (by rw[Zl (by omega)];rfl)
  obtain⟨y1,h1,o1⟩:=(Zab.slice op_k165 Try.underlying58 (by kernel_rfl)).fieldAt (hf 1 _ rfl) (by rw[Zl (by omega)];rfl)
  obtain⟨y2,h2,o2⟩:=(Zab.int Try.underlying3 (by kernel_rfl)).fieldAt (hf 2 _ rfl) (by rw[Zl (by omega)];rfl)
  have hk:k60.K w ⟨y0,y1,y2⟩ ((cs.drop 0).take k60.sz):=(ZaH (off:=0) h0 (ZaH (off:=1) h1 h2))
  have hcs:(cs.drop 0).take k60.sz=cs:=by rw[List.drop_zero];exact List.take_of_length_le (by rw[hl'];exact Nat.le_refl _)
  rw[hcs] at hk
  exact⟨_,hk,o0,o1,o2⟩⟩
def okS77 (x:S77):Prop:=(fun n_:Int=>(Lit.int .i64 n_).wf=true) x.f0∧(fun l_:List Int=>l_.length≤maxLen∧∀x_∈l_,(fun n_:Int=>(Lit.int .i64 n_).wf=true) x_) x.f1∧(fun l_:List Int=>l_.length≤maxLen∧∀x_∈l_,(fun n_:Int=>(Lit.int .i64 n_).wf=true) x_) x.f2
theorem op_k77:Zab Try.prog k77 77 okS77:=
 ⟨by kernel_rfl,fun {H enc w base fuel cs x} h=>by
  obtain⟨xs,n,_,_,hl,hlen,hf⟩:=DataW.trod_struct Try.underlying77 h
  have hl':cs.length=3:=hl.trans (by kernel_rfl)
  have hlen':xs.length=3:=hlen
  obtain⟨y0,h0,o0⟩:=(Zab.int Try.underlying3 (by kernel_rfl)).fieldAt (hf 0 _ rfl) (by rw[Zl (by omega)];rfl)
  obtain⟨y1,h1,o1⟩:=(Zab.slice (Zab.int Try.underlying3 (by kernel_rfl)) Try.underlying33 (by kernel_rfl)).fieldAt (hf 1 _ rfl) (by rw[Zl (by omega)];rfl)
  obtain⟨y2,h2,o2⟩:=(Zab.slice (Zab.int Try.underlying3 (by kernel_rfl)) Try.underlying33 (by kernel_rfl)).fieldAt (hf 2 _ rfl) (by rw[Zl (by omega)];rfl)
  have hk:k77.K w ⟨y0,y1,y2⟩ ((cs.drop 0).take k77.sz):=(ZaH (off:=0) h0 (ZaH (off:=1) h1 h2))
  have hcs:(cs.drop 0).take k77.sz=cs:=by rw[List.drop_zero];exact List.take_of_length_le (by rw[hl'];exact Nat.le_refl _)
  rw[hcs] at hk
  exact⟨_,hk,o0,o1,o2⟩⟩
end Go.Proofs.Ytpoffpdaadhkgaa.Pr
namespace Go.Proofs.Ytpoffpdaadhkgaa.Ni
open Go.RowKit Go.Proofs.YtpoffpdaadhkgaaW.PrintWords
theorem ZO {w W:World} (hb:Below w.heap.size w W) {a:Addr} {v:Value} (h:w.cell? a=some v):W.cell? a=some v:=(hb.cell (Zc w _ h)).trans h
theorem wrap_succ {i:Int} (h0:0≤i) (h:i<9223372036854775807):wrap64 (i+1)=i+1:=by
 unfold wrap64;omega
theorem ZbQ {i:Int} (h0 : -9223372036854775808≤i) (h:i≤9223372036854775807):wrap64 i=i:=by
 unfold wrap64;omega
theorem ZaV {i n:Nat} (h:i<n) (hn:n≤9223372036854775807):wrap64 ((i:Int)+1)=((i+1:Nat):Int):=by
 unfold wrap64;omega
theorem wrap_pred {i:Nat} (h:0<i) (hn:i≤9223372036854775807):wrap64 ((i:Int) - 1)=((i - 1:Nat):Int):=by
 unfold wrap64;omega
theorem wf_i64 {n:Int} (h:(Lit.int .i64 n).wf=true) : -9223372036854775808≤n∧n≤9223372036854775807:=by
 simp[Lit.wf,IntKind.min,IntKind.max,IntKind.signed,IntKind.bits] at h
 omega
theorem Za2 (l:List Int) (i:Nat):rd l (i:Int)=l.getD i 0:=by unfold rd;rw[Int.toNat_natCast]
theorem ZaD {α:Type} {l:List α} {i:Nat} (h:i<l.length) (d:α):l.drop i=l.getD i d :: l.drop (i+1):=by
 rw[List.drop_eq_getElem_cons h,List.getD_eq_getElem?_getD,Zl h];rfl
theorem Zbs {α:Type} {l:List α} {i:Nat} (h:i<l.length) (d:α):l.getD i d∈l:=by
 rw[List.getD_eq_getElem?_getD,Zl h];exact List.getElem_mem h
theorem getD_some {α:Type} {l:List α} {i:Nat} (h:i<l.length) (d:α):l[i]? = some (l.getD i d):=by
 rw[List.getD_eq_getElem?_getD,Zl h];rfl
theorem Zb2 {α:Type} (ys:List α) (z d:α) (i:Nat) (h:i<ys.length) (x:α) (hx:x=ys.getD i d):(ys.take i ++ List.replicate (ys.length - i) z).set i x=ys.take (i+1) ++ List.replicate (ys.length - (i+1)) z:=by
 subst hx
 have e:ys.length - i=(ys.length - (i+1))+1:=by omega
 rw[e,List.replicate_succ,List.set_append_right _ _ (by simp;omega)]
 have e2:i - (ys.take i).length=0:=by simp;omega
 rw[e2,List.set_cons_zero,List.take_succ_eq_append_getElem h,List.append_assoc]
 congr 2
 simp[List.getD_eq_getElem?_getD,Zl h]
theorem Za8 (n:Nat) (Q:Nat→Nat→Prop) (K:Nat) (hend:∀k,K≤k→Q (k+1) n) (hstep:∀k i,K≤k→i<n→Q k (i+1)→Q (k+1) i):∀(i k:Nat),i≤n→K+(n - i)<k→Q k i:=by
 have key:∀(d i k:Nat),i≤n→n - i=d→K+d<k→Q k i:=by
  intro d
  induction d with
  | zero=>
   intro i k hi hd hk
   obtain⟨m,rfl⟩:∃m,k=m+1:=⟨k - 1,by omega⟩
   obtain rfl:i=n:=by omega
   exact hend m (by omega)
  | succ d ih=>
   intro i k hi hd hk
   obtain⟨m,rfl⟩:∃m,k=m+1:=⟨k - 1,by omega⟩
   exact hstep m i (by omega) (by omega) (ih (i+1) m (by omega) (by omega) (by omega))
 intro i k hi hk
 exact key (n - i) i k hi rfl hk
theorem set_mid (pre:List Int) (x y:Int) (post:List Int):(pre ++ x :: post).set pre.length y=pre ++ y :: post:=by
 rw[List.set_append_right _ _ (Nat.le_refl _),Nat.sub_self,List.set_cons_zero]
def Zbi {α:Type} (p:α→Bool) (l:List α):Int:=match l.findIdx? p with|some i=>i|none=>-1
theorem Zcf {α:Type} (p:α→Bool) (l:List α) (k:Nat) (x:α) (hk:l[k]? = some x) (hx:p x=true) (hb:∀j y,j<k→l[j]? = some y→p y=false):Zbi p l=(k:Int):=by
 have h:l.findIdx? p=some k:=by
  rw[List.findIdx?_eq_some_iff_getElem]
  obtain⟨hl,he⟩:=List.getElem?_eq_some_iff.1 hk
  refine⟨hl,by rw[he];exact hx,fun j hj=>?_⟩
  have:=hb j _ hj (Zl (by omega))
  simp[this]
 simp[Zbi,h]
theorem Zb5 {α:Type} (p:α→Bool) (l:List α) (hb:∀j y,j<l.length→l[j]? = some y→p y=false):Zbi p l=-1:=by
 have h:l.findIdx? p=none:=by
  rw[List.findIdx?_eq_none_iff]
  intro x hx
  obtain⟨j,hj⟩:=List.getElem?_of_mem hx
  exact hb j x (List.getElem?_eq_some_iff.1 hj).1 hj
 simp[Zbi,h]
theorem Zcg {α:Type} (p:α→Bool) (l:List α):decide (0≤Zbi p l)=l.any p:=by
 unfold Zbi
 cases h:l.findIdx? p with
 | some i=>
  rw[List.findIdx?_eq_some_iff_getElem] at h
  obtain⟨hl,hp,_⟩:=h
  have:l.any p=true:=List.any_eq_true.2 ⟨_,List.getElem_mem hl,hp⟩
  rw[this]
  exact Ze (Int.natCast_nonneg _)
 | none=>
  rw[List.findIdx?_eq_none_iff] at h
  have:l.any p=false:=by rw[List.any_eq_false];intro x hx;rw[h x hx];simp
  rw[this];rfl
theorem idxOf_bd {α:Type} (p:α→Bool) (l:List α) : -1≤Zbi p l∧Zbi p l<l.length:=by
 unfold Zbi
 cases h:l.findIdx? p with
 | some i=>
  rw[List.findIdx?_eq_some_iff_getElem] at h
  obtain⟨hl,_⟩:=h
  simp only;omega
 | none=>simp only;omega
def cnt0 (l:List Int):Int:=((l.filter (· == 0)).length:Int)
def litOk (x:Int):Bool:=!(x == 0) && decide (-3≤x) && decide (x≤3)
def prp (x:Int):Int:=if x<0 then -x else x
def labFrom (p:Int):List Int→Bool
 | []=>true
 | x :: t=>litOk x && decide (p<prp x) && labFrom (prp x) t
def labB (l:List Int):Bool:=labFrom 0 l
def valsB (l:List Int):Bool:=decide (l.length=3) && l.all (fun n=>decide (-1≤n) && decide (n≤1))
theorem litOk_iff (x:Int):litOk x=true↔x≠0∧-3≤x∧x≤3:=by
 simp[litOk,and_assoc]
theorem prp_pos {x:Int} (h:litOk x=true):1≤prp x∧prp x≤3:=by
 have:=(litOk_iff x).1 h
 unfold prp;split <;> omega
def stFrom (v:List Int) (a:Int):List Int→Int
 | []=>a
 | x :: t=>stFrom v (min a (if x<0 then -(v.getD (prp x - 1).toNat 0) else v.getD (prp x - 1).toNat 0)) t
def stB (l v:List Int):Int:=stFrom v 1 l
def isNameB (s:ByteArray):Bool:=decide (1≤s.size) && decide (s.size≤8) && (List.range s.size).all fun i=>let c:=bt s i;(decide (97≤c) && decide (c≤122)) || (decide (0<i) && decide (48≤c) && decide (c≤57))
end Go.Proofs.Ytpoffpdaadhkgaa.Ni
namespace Go.Proofs.Ytpoffpdaadhkgaa.Pr
open Go.RowKit Go.Proofs.YtpoffpdaadhkgaaW.PrintWords Go.Proofs.YtpoffpdaadhkgaaW.PrintLast Go.Proofs.YtpoffpdaadhkgaaW.PrintMore
attribute [local go_sem] Z7 Z5 Zaf Zae ZY ZX Z6 Z4
set_option linter.unusedVariables false
set_option linter.unusedSimpArgs false
def Z0.l0:Nat→List Int→List Int→Int→Option (List Int)
 | 0,_,_,_=>none
 | k+1,x0,x3,x4=>if x4<(x0.length:Int) then(if 0≤x4 then(if x4<(x3.length:Int) then(Z0.l0 k x0 (x3.set (x4:Int).toNat (rd x0 x4)) (wrap64 (x4+1))) else(none)) else(none)) else(some x3)
def Z0.f (k:Nat) (l0:List Int):Option (List Int):=if 0≤(l0.length:Int) then(if ((l0.length:Int):Int).toNat≤35184372088832 then(Z0.l0 k l0 (List.replicate ((l0.length:Int):Int).toNat 0) 0) else(none)) else(none)
set_option maxHeartbeats 8000000 in
set_option maxRecDepth 100000 in
theorem Z0.calls (k:Nat) (A0:Option Addr) (c0:Nat) (l0:List Int) (r:List Int) (w:World) (hr0:Kd.C (Kd.int .i64) w A0 l0.length l0) (hc0:l0.length≤c0) (h:Z0.f k l0=some r) :
  Calls Try.prog 32 #[.slice A0 l0.length c0] w fun e w'=>∃v0_:Value,e=.returned (v0_)∧Kd.R (Kd.int .i64) 3 w' w.heap.size (fun _=>True) v0_ r∧Below w.heap.size w w':=by
 have HR0:=Za hr0;have HC0:=Za hc0;clear hr0 hc0
 have HB:=Za (Below.refl w.heap.size w)
 have H:(if 0≤(l0.length:Int) then(if ((l0.length:Int):Int).toNat≤35184372088832 then(Z0.l0 k l0 (List.replicate ((l0.length:Int):Int).toNat 0) 0) else(none)) else(none))=some r:=h
 clear h
 by_cases c2:0≤(l0.length:Int)
 ·rw[if_pos c2] at H
  have c2b0:=eq_true c2
  have c2b1:decide (0≤(l0.length:Int))=true:=Ze c2
  clear c2
  by_cases c3:((l0.length:Int):Int).toNat≤35184372088832
  ·rw[if_pos c3] at H
   have c3b0:=eq_true c3
   have c3b1:decide (((l0.length:Int):Int).toNat≤35184372088832)=true:=Ze c3
   clear c3
   obtain⟨y32001,hy32001⟩:∃y_:List Int,y_=(List.replicate ((l0.length:Int):Int).toNat 0):=⟨_,rfl⟩
   replace H:(Z0.l0 k l0 y32001 0)=some r:=by first|(rw[hy32001];with_reducible exact H)|(have H2_:=(Zi _ _).symm.trans H;rw[hy32001];with_reducible exact H2_)|(have H2_:=(Zi _ _).symm.trans H;with_reducible exact H2_)|with_reducible exact H|(rw[hy32001];exact H)|exact H
   have Ny32001:=Za hy32001;clear hy32001
   have H':=Za H
   clear H
   go_enter Try.func32,Try.ntmps32
   go_wp2_with (first|((with_reducible refine ZD (N:=7) rfl ?_);refine Kd.R_make (Kd.int .i64) _ 3 rfl (N:=7) rfl 33 _ _ rfl (l0.length:Int) rfl rfl Try.underlying33 (.int .i64 0) 8 ZaQ rfl (by decide) (by omega) 0 (ok:=fun _=>True) (okp:=fun _=>True) rfl (fun _ hk=>hk) trivial (Zd (by first|(with_reducible assumption)|assumption)) (Nat.le_trans (Nat.mul_le_mul_right _ (Zd (by first|(with_reducible assumption)|assumption):(l0.length:Int).toNat≤35184372088832)) (by omega)) (Below.refl _ _) (Nat.le_refl _) ?_;intro v32002 w4 ho5 hb hg_ hnew_;clear hg_ hnew_;(first|rw[← Ny32001.out] at ho5|(simp only[Int.reduceToNat] at ho5;rw[← Ny32001.out] at ho5));have n0_:=Za (Kd.R_lower ho5 (Zw (by repeat(first|(with_reducible first|exact HB.out|apply Zp|apply Zm|apply Zr)|exact HB.out))));have n1_:=Za (Zx (by repeat(first|(with_reducible first|exact HB.out|apply Zp|apply Zm|apply Zr)|exact HB.out)) hb);clear HB;have HO32003:=n0_;have HB:=n1_;clear n0_ n1_;clear hb ho5))
   go_loopg [4] k (fun kq v4 w'=>∃(x3_1:List Int) (x4_1:Int),v4=.int .i64 x4_1∧Aside0 (Z0.l0 kq l0 x3_1 x4_1=some r)∧Aside0 (kq≤k)∧Aside0 (Kd.R (Kd.int .i64) 3 w' w.heap.size (fun _=>True) v32002 x3_1)∧Aside0 (Below w.heap.size w w'))
   case atStart=>exact⟨(y32001),(0),(by first|rfl|(simp;done)|(simp[*];done)),H',⟨Nat.le_refl _⟩,⟨by(with_reducible repeat(first|apply Kd.R_alloc|apply Kd.R_drewN|apply Kd.R_drew));exact HO32003.out⟩,⟨by repeat(first|(with_reducible first|exact HB.out|apply Zp|apply Zm|apply Zr)|exact HB.out)⟩⟩
   case round=>
    clear H'
    try clear c2
    try clear c2b0
    try clear c2b1
    try clear p2
    try clear c3
    try clear c3b0
    try clear c3b1
    obtain⟨x3_1,x4_1,rfl,HA,HK1,HO_3,HB⟩:=hrel
    cases gk with
    | zero=>exact absurd HA.out (by simp[Z0.l0])
    | succ k1=>
     have H:=HA.out
     clear HA
     simp only[Z0.l0] at H
     by_cases c6:x4_1<(l0.length:Int)
     ·rw[if_pos c6] at H
      have c6b0:decide (x4_1<(l0.length:Int))=true:=Ze c6
      clear c6
      by_cases c7:0≤x4_1
      ·rw[if_pos c7] at H
       have c7b0:decide (0≤x4_1)=true:=Ze c7
       clear c7
       by_cases c8:x4_1<(x3_1.length:Int)
       ·rw[if_pos c8] at H
        have c8b0:decide (x4_1<(x3_1.length:Int))=true:=Ze c8
        clear c8
        obtain⟨y32005,hy32005⟩:∃y_:List Int,y_=(x3_1.set (x4_1:Int).toNat (rd l0 x4_1)):=⟨_,rfl⟩
        replace H:(Z0.l0 k1 l0 y32005 (wrap64 (x4_1+1)))=some r:=by first|(rw[hy32005];with_reducible exact H)|(have H2_:=(Zi _ _).symm.trans H;rw[hy32005];with_reducible exact H2_)|(have H2_:=(Zi _ _).symm.trans H;with_reducible exact H2_)|with_reducible exact H|(rw[hy32005];exact H)|exact H
        have Ny32005:=Za hy32005;clear hy32005
        have H':=Za H
        clear H
        have p32004:0≤(x4_1:Int):=Zd (by first|(with_reducible assumption)|assumption)
        have q32004:x4_1<(l0.length:Int):=Zd (by first|(with_reducible assumption)|assumption)
        obtain⟨ad32004,e32004,hx32004_0⟩:=Kd.at_int HR0.out x4_1 p32004 q32004
        cases e32004
        replace hx32004_0:=(HB.out.cell (Zc w _ hx32004_0)).trans hx32004_0
        replace p32004:=eq_true p32004
        replace q32004:=eq_true q32004
        have p9:0≤(x4_1:Int):=Zd (by first|(with_reducible assumption)|assumption)
        have q9:(x4_1:Int)<((x3_1.length:Int):Int):=Zd (by first|(with_reducible assumption)|assumption)
        obtain⟨go9,co9,eo9,gb9,gl9,cl9,HG9⟩:=Kd.R_form HO_3.out (by omega)
        (first|cases eo9|(injection eo9 with ea_ en_ ec_;(first|subst ea_|(injection ea_ with ea_;subst ea_));subst ec_;clear en_))
        have GB9:=Za gb9;have GG9:=Za HG9;clear gb9 gl9 HG9
        obtain⟨hx9_0,hf9_0⟩:=Kd.R_celln 0 HO_3.out (x4_1:Int) p9 q9
        replace p9:=eq_true p9
        replace q9:=eq_true q9
        have HP10:=Kd.R_putg HO_3.out (x4_1:Int) (rd l0 x4_1)
        go_wp2_with (first|((with_reducible refine ZcF (t:=3) (p:=20) rfl ?_);refine Zco (t:=3) (p:=20) (v:=?vo_w11) (w1:=(wr.setCell ⟨go9,(x4_1:Int).toNat,none⟩ (.int .i64 (rd l0 x4_1)))) ?hg ?ho ?hn ?hr ?_;(case ho=>rfl);(case hg=>rfl);(case hn=>rfl);(case hr=>first|(go_simp;done)|(go_simp;rfl));intro w11 hw;have hg:wr.grownBy w11 (some go9):=(by rw[hw];exact HP10.2);have hp_:Kd.R (Kd.int .i64) 3 w11 w.heap.size (fun _=>True) (.slice (some ⟨go9,0,none⟩) x3_1.length co9) y32005:=(by rw[hw,Ny32005.out];exact HP10.1);clear HP10;have n0_:=Za (hp_);have n1_:=Za ((by rw[hw];exact Zq (HB.out) GB9.out:Below w.heap.size w w11));clear HO_3;clear HB;have HO_3:=n0_;have HB:=n1_;clear n0_ n1_;clear hg hw hp_))
        go_roundg k1
        case measure=>have:=HK1.out;omega
        case rel=>exact⟨(y32005),(wrap64 (x4_1+1)),(by first|rfl|(simp;done)|(simp[*];done)),H',⟨by have:=HK1.out;omega⟩,⟨by(with_reducible repeat(first|apply Kd.R_alloc|apply Kd.R_drewN|apply Kd.R_drew));exact HO_3.out⟩,⟨by repeat(first|(with_reducible first|exact HB.out|apply Zp|apply Zm|apply Zr)|exact HB.out)⟩⟩
       ·rw[if_neg c8] at H
        exact absurd H (by simp)
      ·rw[if_neg c7] at H
       exact absurd H (by simp)
     ·rw[if_neg c6] at H
      have c6b0:decide (x4_1<(l0.length:Int))=false:=Zf c6
      clear c6
      obtain rfl:=Zg H
      go_wp2
      go_ret
      exact⟨_,by first|rfl|(simp[ZA,Zz] <;> rfl)|(simp[*,ZA,Zz] <;> rfl),by(with_reducible repeat(first|apply Kd.R_alloc|apply Kd.R_drewN|apply Kd.R_drew));exact HO_3.out,by repeat(first|(with_reducible first|exact HB.out|apply Zp|apply Zm|apply Zr)|exact HB.out)⟩
  ·rw[if_neg c3] at H
   exact absurd H (by simp)
 ·rw[if_neg c2] at H
  exact absurd H (by simp)
def Zaj.l0:Nat→List Int→List Int→Int→Option (Bool)
 | 0,_,_,_=>none
 | k+1,x0,x1,x5=>if x5<(x0.length:Int) then(if 0≤x5 then(if x5<(x1.length:Int) then(if (rd x0 x5)=(rd x1 x5) then(Zaj.l0 k x0 x1 (wrap64 (x5+1))) else(some false)) else(none)) else(none)) else(some true)
def Zaj.f (k:Nat) (l0:List Int) (l1:List Int):Option (Bool):=if (l0.length:Int)=(l1.length:Int) then(Zaj.l0 k l0 l1 0) else(some false)
set_option maxHeartbeats 8000000 in
set_option maxRecDepth 100000 in
theorem Zaj.calls (k:Nat) (A0:Option Addr) (c0:Nat) (l0:List Int) (A1:Option Addr) (c1:Nat) (l1:List Int) (r:Bool) (w:World) (hr0:Kd.C (Kd.int .i64) w A0 l0.length l0) (hc0:l0.length≤c0) (hr1:Kd.C (Kd.int .i64) w A1 l1.length l1) (hc1:l1.length≤c1) (h:Zaj.f k l0 l1=some r) :
  Calls Try.prog 34 #[.slice A0 l0.length c0,.slice A1 l1.length c1] w fun e w'=>e=.returned (.bool r)∧ZT w w':=by
 have HR0:=Za hr0;have HC0:=Za hc0;clear hr0 hc0;have HR1:=Za hr1;have HC1:=Za hc1;clear hr1 hc1
 have H:(if (l0.length:Int)=(l1.length:Int) then(Zaj.l0 k l0 l1 0) else(some false))=some r:=h
 clear h
 by_cases c3:(l0.length:Int)=(l1.length:Int)
 ·rw[if_pos c3] at H
  have c3b0:((l0.length:Int) == (l1.length:Int))=true:=beq_iff_eq.mpr c3
  have c3b1:((l0.length:Int) != (l1.length:Int))=false:=bne_eq_false_iff_eq.mpr c3
  have c3b2:(l0.length == l1.length)=true:=by first|simpa using c3|(simp at c3 ⊢;omega)
  clear c3
  have H':=Za H
  clear H
  go_enter Try.func34,Try.ntmps34
  go_wp2
  repeat(go_quiet (fail);try go_wp2)
  go_loopg [5] k (fun kq v5 w'=>∃(x5_1:Int),v5=.int .i64 x5_1∧Aside0 (Zaj.l0 kq l0 l1 x5_1=some r)∧Aside0 (kq≤k)∧ZT w w')
  case atStart=>exact⟨(0),(by first|rfl|(simp;done)|(simp[*];done)),H',⟨Nat.le_refl _⟩,by repeat(first|exact ZT.refl _|apply ZT.step)⟩
  case round=>
   clear H'
   try clear c1
   try clear p2
   try clear c3
   try clear c3b0
   try clear c3b1
   try clear c3b2
   obtain⟨x5_1,rfl,HA,HK1,⟨m1,rfl⟩⟩:=hrel
   cases gk with
   | zero=>exact absurd HA.out (by simp[Zaj.l0])
   | succ k1=>
    have H:=HA.out
    clear HA
    simp only[Zaj.l0] at H
    by_cases c4:x5_1<(l0.length:Int)
    ·rw[if_pos c4] at H
     have c4b0:decide (x5_1<(l0.length:Int))=true:=Ze c4
     clear c4
     by_cases c5:0≤x5_1
     ·rw[if_pos c5] at H
      have c5b0:decide (0≤x5_1)=true:=Ze c5
      clear c5
      by_cases c6:x5_1<(l1.length:Int)
      ·rw[if_pos c6] at H
       have c6b0:decide (x5_1<(l1.length:Int))=true:=Ze c6
       clear c6
       by_cases c7:(rd l0 x5_1)=(rd l1 x5_1)
       ·rw[if_pos c7] at H
        have c7b0:((rd l0 x5_1) == (rd l1 x5_1))=true:=beq_iff_eq.mpr c7
        have c7b1:((rd l0 x5_1) != (rd l1 x5_1))=false:=bne_eq_false_iff_eq.mpr c7
        clear c7
        have H':=Za H
        clear H
        have p34001:0≤(x5_1:Int):=Zd (by first|(with_reducible assumption)|assumption)
        have q34001:x5_1<(l0.length:Int):=Zd (by first|(with_reducible assumption)|assumption)
        obtain⟨ad34001,e34001,hx34001_0⟩:=Kd.at_int HR0.out x5_1 p34001 q34001
        cases e34001
        replace p34001:=eq_true p34001
        replace q34001:=eq_true q34001
        have p34002:0≤(x5_1:Int):=Zd (by first|(with_reducible assumption)|assumption)
        have q34002:x5_1<(l1.length:Int):=Zd (by first|(with_reducible assumption)|assumption)
        obtain⟨ad34002,e34002,hx34002_0⟩:=Kd.at_int HR1.out x5_1 p34002 q34002
        cases e34002
        replace p34002:=eq_true p34002
        replace q34002:=eq_true q34002
        go_wp2
        repeat(go_quiet (fail);try go_wp2)
        go_roundg k1
        case measure=>have:=HK1.out;omega
        case rel=>exact⟨(wrap64 (x5_1+1)),(by first|rfl|(simp;done)|(simp[*];done)),H',⟨by have:=HK1.out;omega⟩,by repeat(first|exact ZT.refl _|apply ZT.step)⟩
       ·rw[if_neg c7] at H
        have c7b0:((rd l0 x5_1) == (rd l1 x5_1))=false:=beq_eq_false_iff_ne.mpr c7
        have c7b1:((rd l0 x5_1) != (rd l1 x5_1))=true:=bne_iff_ne.mpr c7
        obtain rfl:=Zg H
        have p34001:0≤(x5_1:Int):=Zd (by first|(with_reducible assumption)|assumption)
        have q34001:x5_1<(l0.length:Int):=Zd (by first|(with_reducible assumption)|assumption)
        obtain⟨ad34001,e34001,hx34001_0⟩:=Kd.at_int HR0.out x5_1 p34001 q34001
        cases e34001
        replace p34001:=eq_true p34001
        replace q34001:=eq_true q34001
        have p34002:0≤(x5_1:Int):=Zd (by first|(with_reducible assumption)|assumption)
        have q34002:x5_1<(l1.length:Int):=Zd (by first|(with_reducible assumption)|assumption)
        obtain⟨ad34002,e34002,hx34002_0⟩:=Kd.at_int HR1.out x5_1 p34002 q34002
        cases e34002
        replace p34002:=eq_true p34002
        replace q34002:=eq_true q34002
        go_wp2
        repeat(go_quiet (fail);try go_wp2)
        go_ret
        exact⟨by first|rfl|(simp;done)|(simp[*];done),by repeat(first|exact ZT.refl _|apply ZT.step)⟩
      ·rw[if_neg c6] at H
       exact absurd H (by simp)
     ·rw[if_neg c5] at H
      exact absurd H (by simp)
    ·rw[if_neg c4] at H
     have c4b0:decide (x5_1<(l0.length:Int))=false:=Zf c4
     clear c4
     obtain rfl:=Zg H
     go_wp2
     repeat(go_quiet (fail);try go_wp2)
     go_ret
     exact⟨by first|rfl|(simp;done)|(simp[*];done),by repeat(first|exact ZT.refl _|apply ZT.step)⟩
 ·rw[if_neg c3] at H
  have c3b0:((l0.length:Int) == (l1.length:Int))=false:=beq_eq_false_iff_ne.mpr c3
  have c3b1:((l0.length:Int) != (l1.length:Int))=true:=bne_iff_ne.mpr c3
  have c3b2:(l0.length == l1.length)=false:=by first|simpa using c3|(simp at c3 ⊢;omega)
  obtain rfl:=Zg H
  go_enter Try.func34,Try.ntmps34
  go_wp2
  repeat(go_quiet (fail);try go_wp2)
  go_ret
  exact⟨by first|rfl|(simp;done)|(simp[*];done),by repeat(first|exact ZT.refl _|apply ZT.step)⟩
end Go.Proofs.Ytpoffpdaadhkgaa.Pr
namespace Go.Proofs.Ytpoffpdaadhkgaa.Pr
open Go.RowKit Go.Proofs.YtpoffpdaadhkgaaW.PrintWords Go.Proofs.Ytpoffpdaadhkgaa.Ni
theorem toIntS_f (l:List Int) (hl:l.length≤35184372088832) (k:Nat) (hk:2 ^ 64≤k):Z0.f k l=some l:=by
 have key:=Za8 l.length (fun k i=>Z0.l0 k l (l.take i ++ List.replicate (l.length - i) 0) (i:Int)=some l) 0
  (fun k _=>by simp[Z0.l0])
  (fun k i _ hi ih=>by
   simp only[Z0.l0]
   rw[if_pos (by omega),if_pos (by omega),if_pos (by simp;omega),ZaV hi (by omega),Int.toNat_natCast,Zb2 l 0 0 i hi _ (Za2 l i)]
   exact ih) 0 k (Nat.zero_le _) (by omega)
 unfold Z0.f
 rw[if_pos (by omega),if_pos (by omega),Int.toNat_natCast]
 simpa using key
theorem eqIntS_f (l m:List Int) (hl:l.length≤9223372036854775807) (k:Nat) (hk:2 ^ 64≤k):Zaj.f k l m=some (decide (l=m)):=by
 unfold Zaj.f
 by_cases e:l.length=m.length
 ·rw[if_pos (by omega)]
  have key:=Za8 l.length (fun k i=>Zaj.l0 k l m (i:Int)=some (decide (l.drop i=m.drop i))) 0
   (fun k _=>by
    simp only[Zaj.l0]
    rw[if_neg (by omega),List.drop_of_length_le (Nat.le_refl _),List.drop_of_length_le (by omega)]
    simp)
   (fun k i _ hi ih=>by
    simp only[Zaj.l0]
    rw[if_pos (by omega),if_pos (by omega),if_pos (by omega),Za2,Za2,ZaV hi (by omega),ZaD hi 0,ZaD (show i<m.length by omega) 0]
    by_cases h:l.getD i 0=m.getD i 0
    ·rw[if_pos h,ih,h];simp
    ·rw[if_neg h]
     simp only[List.cons.injEq,h,false_and,decide_false]) 0 k (Nat.zero_le _) (by omega)
  simpa using key
 ·rw[if_neg (by omega)]
  have:l≠m:=fun h=>e (by rw[h])
  simp[this]
theorem eqIntS_refl (l:List Int) (hl:l.length≤9223372036854775807) (k:Nat) (hk:2 ^ 64≤k):Zaj.f k l l=some true:=by
 rw[eqIntS_f l l hl k hk];simp
end Go.Proofs.Ytpoffpdaadhkgaa.Pr
namespace Go.Proofs.Ytpoffpdaadhkgaa.Pr
open Go.RowKit Go.Proofs.YtpoffpdaadhkgaaW.PrintWords Go.Proofs.YtpoffpdaadhkgaaW.PrintLast Go.Proofs.YtpoffpdaadhkgaaW.PrintMore
attribute [local go_sem] Z7 Z5 Zaf Zae ZY ZX Z6 Z4
set_option linter.unusedVariables false
set_option linter.unusedSimpArgs false
def ZaJ.f (a0_0:Int) (a0_1:Int):Option (Int×Int):=some (a0_0,a0_1)
set_option maxHeartbeats 8000000 in
set_option maxRecDepth 100000 in
theorem ZaJ.calls (a0_0:Int) (a0_1:Int) (r1:Int) (r2:Int) (w:World) (h:ZaJ.f a0_0 a0_1=some (r1,r2)) :
  Calls Try.prog 169 #[.agg #[.int .i64 a0_0,.int .i64 a0_1]] w fun e w'=>e=.returned (.agg #[.int .i64 r1,.int .i64 r2])∧Below w.heap.size w w':=by
 have hu154:=Try.underlying154
 have hu29:=Try.underlying29
 have HB:=Za (Below.refl w.heap.size w)
 have H:(some (a0_0,a0_1))=some (r1,r2):=h
 clear h
 simp only[Option.some.injEq,Prod.mk.injEq] at H
 obtain⟨rfl,rfl⟩:=H
 go_enter Try.func169,Try.ntmps169
 go_wp2_with (first|((with_reducible refine ZD (N:=1) rfl ?_);refine ZE ?hg (N:=1) ?hd (cs:=#[.int .i64 a0_0,.int .i64 a0_1]) (t:=154) ?hr ?_;(case hd=>rfl);(case hg=>rfl);(case hr=>first|(go_simp;done)|(go_simp;rfl));intro gb169001 hg w2 hbox hb;have n0_:=Za (Zx (by repeat(first|(with_reducible first|exact HB.out|apply Zp|apply Zm|apply Zr)|exact HB.out)) hb);have n1_:=Za (hbox);have n2_:=Za ((by rw[hg];exact(Zw (by repeat(first|(with_reducible first|exact HB.out|apply Zp|apply Zm|apply Zr)|exact HB.out))):w.heap.size≤gb169001));have n3_:=Za ((by rw[hg];exact(Zw (by repeat(first|(with_reducible first|exact HB.out|apply Zp|apply Zm|apply Zr)|exact HB.out))):w.heap.size≤gb169001));clear HB;have HB:=n0_;have BK169001:=n1_;have GW169001:=n2_;have GE169001:=n3_;clear n0_ n1_ n2_ n3_;clear hb hbox hg)|((with_reducible refine ZD (N:=2) rfl ?_);refine ZE ?hg (N:=2) ?hd (cs:=#[.int .i64 0,.int .i64 0]) (t:=29) ?hr ?_;(case hd=>rfl);(case hg=>rfl);(case hr=>first|(go_simp;done)|(go_simp;rfl));intro gb169002 hg w3 hbox hb;have n0_:=Za (Zy (g:=gb169001) (o:=.cells #[.int .i64 a0_0,.int .i64 a0_1] 154 (0,0)) (by(with_reducible repeat(first|refine Zn ?_ _|refine Zs ?_|refine Zo ?_ _));exact BK169001.out) hb);have n1_:=Za (Zx (by repeat(first|(with_reducible first|exact HB.out|apply Zp|apply Zm|apply Zr|refine Zq ?_ GE169001.out)|exact HB.out)) hb);have n2_:=Za (hbox);have n3_:=Za ((by rw[hg];exact(Zw (by repeat(first|(with_reducible first|exact HB.out|apply Zp|apply Zm|apply Zr|refine Zq ?_ GE169001.out)|exact HB.out))):w.heap.size≤gb169002));have n4_:=Za ((by rw[hg];exact(Zw (by repeat(first|(with_reducible first|exact HB.out|apply Zp|apply Zm|apply Zr|refine Zq ?_ GE169001.out)|exact HB.out))):w.heap.size≤gb169002));have n5_:=Za ((by rw[hg];exact Nat.ne_of_lt (ZC (g:=gb169001) (o:=.cells #[.int .i64 a0_0,.int .i64 a0_1] 154 (0,0)) (by(with_reducible repeat(first|refine Zn ?_ _|refine Zs ?_|refine Zo ?_ _));exact BK169001.out)):gb169001≠gb169002));have n6_:=Za ((by rw[hg];exact Nat.ne_of_gt (ZC (g:=gb169001) (o:=.cells #[.int .i64 a0_0,.int .i64 a0_1] 154 (0,0)) (by(with_reducible repeat(first|refine Zn ?_ _|refine Zs ?_|refine Zo ?_ _));exact BK169001.out)):gb169002≠gb169001));clear BK169001;clear HB;have BK169001:=n0_;have HB:=n1_;have BK169002:=n2_;have GW169002:=n3_;have GE169002:=n4_;have NB169001_169002:=n5_;have NB169002_169001:=n6_;clear n0_ n1_ n2_ n3_ n4_ n5_ n6_;clear hb hbox hg)|((with_reducible refine ZD (N:=3) rfl ?_);refine ZE ?hg (N:=3) ?hd (cs:=#[.int .i64 0,.int .i64 0]) (t:=29) ?hr ?_;(case hd=>rfl);(case hg=>rfl);(case hr=>first|(go_simp;done)|(go_simp;rfl));intro gb169003 hg w4 hbox hb;have n0_:=Za (Zy (g:=gb169001) (o:=.cells #[.int .i64 a0_0,.int .i64 a0_1] 154 (0,0)) (by(with_reducible repeat(first|refine Zn ?_ _|refine Zs ?_|refine Zo ?_ _));exact BK169001.out) hb);have n1_:=Za (Zy (g:=gb169002) (o:=.cells #[.int .i64 0,.int .i64 0] 29 (0,0)) (by(with_reducible repeat(first|refine Zn ?_ _|refine Zs ?_|refine Zo ?_ _));exact BK169002.out) hb);have n2_:=Za (Zx (by repeat(first|(with_reducible first|exact HB.out|apply Zp|apply Zm|apply Zr|refine Zq ?_ GE169001.out|refine Zq ?_ GE169002.out)|exact HB.out)) hb);have n3_:=Za (hbox);have n4_:=Za ((by rw[hg];exact(Zw (by repeat(first|(with_reducible first|exact HB.out|apply Zp|apply Zm|apply Zr|refine Zq ?_ GE169001.out|refine Zq ?_ GE169002.out)|exact HB.out))):w.heap.size≤gb169003));have n5_:=Za ((by rw[hg];exact(Zw (by repeat(first|(with_reducible first|exact HB.out|apply Zp|apply Zm|apply Zr|refine Zq ?_ GE169001.out|refine Zq ?_ GE169002.out)|exact HB.out))):w.heap.size≤gb169003));have n6_:=Za ((by rw[hg];exact Nat.ne_of_lt (ZC (g:=gb169001) (o:=.cells #[.int .i64 a0_0,.int .i64 a0_1] 154 (0,0)) (by(with_reducible repeat(first|refine Zn ?_ _|refine Zs ?_|refine Zo ?_ _));exact BK169001.out)):gb169001≠gb169003));have n7_:=Za ((by rw[hg];exact Nat.ne_of_gt (ZC (g:=gb169001) (o:=.cells #[.int .i64 a0_0,.int .i64 a0_1] 154 (0,0)) (by(with_reducible repeat(first|refine Zn ?_ _|refine Zs ?_|refine Zo ?_ _));exact BK169001.out)):gb169003≠gb169001));have n8_:=Za ((by rw[hg];exact Nat.ne_of_lt (ZC (g:=gb169002) (o:=.cells #[.int .i64 0,.int .i64 0] 29 (0,0)) (by(with_reducible repeat(first|refine Zn ?_ _|refine Zs ?_|refine Zo ?_ _));exact BK169002.out)):gb169002≠gb169003));have n9_:=Za ((by rw[hg];exact Nat.ne_of_gt (ZC (g:=gb169002) (o:=.cells #[.int .i64 0,.int .i64 0] 29 (0,0)) (by(with_reducible repeat(first|refine Zn ?_ _|refine Zs ?_|refine Zo ?_ _));exact BK169002.out)):gb169003≠gb169002));clear BK169001;clear BK169002;clear HB;have BK169001:=n0_;have BK169002:=n1_;have HB:=n2_;have BK169003:=n3_;have GW169003:=n4_;have GE169003:=n5_;have NB169001_169003:=n6_;have NB169003_169001:=n7_;have NB169002_169003:=n8_;have NB169003_169002:=n9_;clear n0_ n1_ n2_ n3_ n4_ n5_ n6_ n7_ n8_ n9_;clear hb hbox hg;have hnb5:=NB169001_169002.out;have hnc5:=NB169002_169001.out;have hnb6:=NB169001_169003.out;have hnc6:=NB169003_169001.out;have hcz7_0:w4.cell? ⟨gb169001,0,none⟩=some (.int .i64 a0_0):=(Zv BK169001.out 0).trans rfl;have hcz7_1:w4.cell? ⟨gb169001,1,none⟩=some (.int .i64 a0_1):=(Zv BK169001.out 1).trans rfl;have hfz7_0:=Zu BK169001.out 0;have hfz7_1:=Zu BK169001.out 1;have hnb8:=NB169003_169002.out;have hnc8:=NB169002_169003.out;have hcz9_0:w4.cell? ⟨gb169003,0,none⟩=some (.int .i64 0):=(Zv BK169003.out 0).trans rfl;have hcz9_1:w4.cell? ⟨gb169003,1,none⟩=some (.int .i64 0):=(Zv BK169003.out 1).trans rfl;have hfz9_0:=Zu BK169003.out 0;have hfz9_1:=Zu BK169003.out 1;have hcz10_0:w4.cell? ⟨gb169002,0,none⟩=some (.int .i64 0):=(Zv BK169002.out 0).trans rfl;have hcz10_1:w4.cell? ⟨gb169002,1,none⟩=some (.int .i64 0):=(Zv BK169002.out 1).trans rfl;have hfz10_0:=Zu BK169002.out 0;have hfz10_1:=Zu BK169002.out 1))
 refine bodyPost_ret (results_cell_row rfl _ _ gb169002 29 #[.int .i64 a0_0,.int .i64 a0_1] (0,0) _ rfl (by(with_reducible repeat(first|refine Zn ?_ _|refine Zs ?_|refine Zo ?_ _));refine ZH (cs:=#[.int .i64 a0_0,.int .i64 0]) ?_ 1 _ rfl;(with_reducible repeat(first|refine Zn ?_ _|refine Zs ?_|refine Zo ?_ _));refine ZH (cs:=#[.int .i64 0,.int .i64 0]) ?_ 0 _ rfl;(with_reducible repeat(first|refine Zn ?_ _|refine Zs ?_|refine Zo ?_ _));refine ZB ?_ NB169002_169003.out _;(with_reducible repeat(first|refine Zn ?_ _|refine Zs ?_|refine Zo ?_ _));refine ZB ?_ NB169002_169003.out _;(with_reducible repeat(first|refine Zn ?_ _|refine Zs ?_|refine Zo ?_ _));exact BK169002.out) Try.underlying29 rfl (by kernel_rfl)) rfl ?_
 exact⟨by first|rfl|(simp[ZA,Zz] <;> rfl)|(simp[*,ZA,Zz] <;> rfl),by repeat(first|(with_reducible first|exact HB.out|apply Zp|apply Zm|apply Zr|refine Zq ?_ GE169001.out|refine Zq ?_ GE169002.out|refine Zq ?_ GE169003.out)|exact HB.out)⟩
def Zbg.f (a0_0:Int) (a0_1:Int) (a0_2:Int) (a0_3:Int):Option (Int×Int×Int×Int):=(ZaJ.f a0_2 a0_3).bind fun bt132004=>(some (a0_0,a0_1,bt132004.1,bt132004.2))
set_option maxHeartbeats 8000000 in
set_option maxRecDepth 100000 in
theorem Zbg.calls (a0_0:Int) (a0_1:Int) (a0_2:Int) (a0_3:Int) (r1:Int) (r2:Int) (r3:Int) (r4:Int) (w:World) (h:Zbg.f a0_0 a0_1 a0_2 a0_3=some (r1,r2,r3,r4)) :
  Calls Try.prog 132 #[.agg #[.int .i64 a0_0,.int .i64 a0_1,.int .i64 a0_2,.int .i64 a0_3]] w fun e w'=>e=.returned (.agg #[.int .i64 r1,.int .i64 r2,.int .i64 r3,.int .i64 r4])∧Below w.heap.size w w':=by
 have hu156:=Try.underlying156
 have hu101:=Try.underlying101
 have hu154:=Try.underlying154
 have hu29:=Try.underlying29
 have HB:=Za (Below.refl w.heap.size w)
 have H:((ZaJ.f a0_2 a0_3).bind fun bt132004=>(some (a0_0,a0_1,bt132004.1,bt132004.2)))=some (r1,r2,r3,r4):=h
 clear h
 replace H:=Zh H
 obtain⟨⟨t132004,t132005⟩,A20,H⟩:=H
 replace H:(some (a0_0,a0_1,t132004,t132005))=some (r1,r2,r3,r4):=H
 have A2:=Za A20;clear A20
 simp only[Option.some.injEq,Prod.mk.injEq] at H
 obtain⟨rfl,rfl,rfl,rfl⟩:=H
 go_enter Try.func132,Try.ntmps132
 go_wp2_with (first|((with_reducible refine ZD (N:=1) rfl ?_);refine ZE ?hg (N:=1) ?hd (cs:=#[.int .i64 a0_0,.int .i64 a0_1,.int .i64 a0_2,.int .i64 a0_3]) (t:=156) ?hr ?_;(case hd=>rfl);(case hg=>rfl);(case hr=>first|(go_simp;done)|(go_simp;rfl));intro gb132001 hg w3 hbox hb;have n0_:=Za (Zx (by repeat(first|(with_reducible first|exact HB.out|apply Zp|apply Zm|apply Zr)|exact HB.out)) hb);have n1_:=Za (hbox);have n2_:=Za ((by rw[hg];exact(Zw (by repeat(first|(with_reducible first|exact HB.out|apply Zp|apply Zm|apply Zr)|exact HB.out))):w.heap.size≤gb132001));have n3_:=Za ((by rw[hg];exact(Zw (by repeat(first|(with_reducible first|exact HB.out|apply Zp|apply Zm|apply Zr)|exact HB.out))):w.heap.size≤gb132001));clear HB;have HB:=n0_;have BK132001:=n1_;have GW132001:=n2_;have GE132001:=n3_;clear n0_ n1_ n2_ n3_;clear hb hbox hg)|((with_reducible refine ZD (N:=2) rfl ?_);refine ZE ?hg (N:=2) ?hd (cs:=#[.int .i64 0,.int .i64 0,.int .i64 0,.int .i64 0]) (t:=101) ?hr ?_;(case hd=>rfl);(case hg=>rfl);(case hr=>first|(go_simp;done)|(go_simp;rfl));intro gb132002 hg w4 hbox hb;have n0_:=Za (Zy (g:=gb132001) (o:=.cells #[.int .i64 a0_0,.int .i64 a0_1,.int .i64 a0_2,.int .i64 a0_3] 156 (0,0)) (by(with_reducible repeat(first|refine Zn ?_ _|refine Zs ?_|refine Zo ?_ _));exact BK132001.out) hb);have n1_:=Za (Zx (by repeat(first|(with_reducible first|exact HB.out|apply Zp|apply Zm|apply Zr|refine Zq ?_ GE132001.out)|exact HB.out)) hb);have n2_:=Za (hbox);have n3_:=Za ((by rw[hg];exact(Zw (by repeat(first|(with_reducible first|exact HB.out|apply Zp|apply Zm|apply Zr|refine Zq ?_ GE132001.out)|exact HB.out))):w.heap.size≤gb132002));have n4_:=Za ((by rw[hg];exact(Zw (by repeat(first|(with_reducible first|exact HB.out|apply Zp|apply Zm|apply Zr|refine Zq ?_ GE132001.out)|exact HB.out))):w.heap.size≤gb132002));have n5_:=Za ((by rw[hg];exact Nat.ne_of_lt (ZC (g:=gb132001) (o:=.cells #[.int .i64 a0_0,.int .i64 a0_1,.int .i64 a0_2,.int .i64 a0_3] 156 (0,0)) (by(with_reducible repeat(first|refine Zn ?_ _|refine Zs ?_|refine Zo ?_ _));exact BK132001.out)):gb132001≠gb132002));have n6_:=Za ((by rw[hg];exact Nat.ne_of_gt (ZC (g:=gb132001) (o:=.cells #[.int .i64 a0_0,.int .i64 a0_1,.int .i64 a0_2,.int .i64 a0_3] 156 (0,0)) (by(with_reducible repeat(first|refine Zn ?_ _|refine Zs ?_|refine Zo ?_ _));exact BK132001.out)):gb132002≠gb132001));clear BK132001;clear HB;have BK132001:=n0_;have HB:=n1_;have BK132002:=n2_;have GW132002:=n3_;have GE132002:=n4_;have NB132001_132002:=n5_;have NB132002_132001:=n6_;clear n0_ n1_ n2_ n3_ n4_ n5_ n6_;clear hb hbox hg)|((with_reducible refine ZD (N:=3) rfl ?_);refine ZE ?hg (N:=3) ?hd (cs:=#[.int .i64 0,.int .i64 0,.int .i64 0,.int .i64 0]) (t:=101) ?hr ?_;(case hd=>rfl);(case hg=>rfl);(case hr=>first|(go_simp;done)|(go_simp;rfl));intro gb132003 hg w5 hbox hb;have n0_:=Za (Zy (g:=gb132001) (o:=.cells #[.int .i64 a0_0,.int .i64 a0_1,.int .i64 a0_2,.int .i64 a0_3] 156 (0,0)) (by(with_reducible repeat(first|refine Zn ?_ _|refine Zs ?_|refine Zo ?_ _));exact BK132001.out) hb);have n1_:=Za (Zy (g:=gb132002) (o:=.cells #[.int .i64 0,.int .i64 0,.int .i64 0,.int .i64 0] 101 (0,0)) (by(with_reducible repeat(first|refine Zn ?_ _|refine Zs ?_|refine Zo ?_ _));exact BK132002.out) hb);have n2_:=Za (Zx (by repeat(first|(with_reducible first|exact HB.out|apply Zp|apply Zm|apply Zr|refine Zq ?_ GE132001.out|refine Zq ?_ GE132002.out)|exact HB.out)) hb);have n3_:=Za (hbox);have n4_:=Za ((by rw[hg];exact(Zw (by repeat(first|(with_reducible first|exact HB.out|apply Zp|apply Zm|apply Zr|refine Zq ?_ GE132001.out|refine Zq ?_ GE132002.out)|exact HB.out))):w.heap.size≤gb132003));have n5_:=Za ((by rw[hg];exact(Zw (by repeat(first|(with_reducible first|exact HB.out|apply Zp|apply Zm|apply Zr|refine Zq ?_ GE132001.out|refine Zq ?_ GE132002.out)|exact HB.out))):w.heap.size≤gb132003));have n6_:=Za ((by rw[hg];exact Nat.ne_of_lt (ZC (g:=gb132001) (o:=.cells #[.int .i64 a0_0,.int .i64 a0_1,.int .i64 a0_2,.int .i64 a0_3] 156 (0,0)) (by(with_reducible repeat(first|refine Zn ?_ _|refine Zs ?_|refine Zo ?_ _));exact BK132001.out)):gb132001≠gb132003));have n7_:=Za ((by rw[hg];exact Nat.ne_of_gt (ZC (g:=gb132001) (o:=.cells #[.int .i64 a0_0,.int .i64 a0_1,.int .i64 a0_2,.int .i64 a0_3] 156 (0,0)) (by(with_reducible repeat(first|refine Zn ?_ _|refine Zs ?_|refine Zo ?_ _));exact BK132001.out)):gb132003≠gb132001));have n8_:=Za ((by rw[hg];exact Nat.ne_of_lt (ZC (g:=gb132002) (o:=.cells #[.int .i64 0,.int .i64 0,.int .i64 0,.int .i64 0] 101 (0,0)) (by(with_reducible repeat(first|refine Zn ?_ _|refine Zs ?_|refine Zo ?_ _));exact BK132002.out)):gb132002≠gb132003));have n9_:=Za ((by rw[hg];exact Nat.ne_of_gt (ZC (g:=gb132002) (o:=.cells #[.int .i64 0,.int .i64 0,.int .i64 0,.int .i64 0] 101 (0,0)) (by(with_reducible repeat(first|refine Zn ?_ _|refine Zs ?_|refine Zo ?_ _));exact BK132002.out)):gb132003≠gb132002));clear BK132001;clear BK132002;clear HB;have BK132001:=n0_;have BK132002:=n1_;have HB:=n2_;have BK132003:=n3_;have GW132003:=n4_;have GE132003:=n5_;have NB132001_132003:=n6_;have NB132003_132001:=n7_;have NB132002_132003:=n8_;have NB132003_132002:=n9_;clear n0_ n1_ n2_ n3_ n4_ n5_ n6_ n7_ n8_ n9_;clear hb hbox hg;have hnb6:=NB132001_132002.out;have hnc6:=NB132002_132001.out;have hnb7:=NB132001_132003.out;have hnc7:=NB132003_132001.out;have hcz8_0:w5.cell? ⟨gb132001,0,none⟩=some (.int .i64 a0_0):=(Zv BK132001.out 0).trans rfl;have hcz8_1:w5.cell? ⟨gb132001,1,none⟩=some (.int .i64 a0_1):=(Zv BK132001.out 1).trans rfl;have hcz8_2:w5.cell? ⟨gb132001,2,none⟩=some (.int .i64 a0_2):=(Zv BK132001.out 2).trans rfl;have hcz8_3:w5.cell? ⟨gb132001,3,none⟩=some (.int .i64 a0_3):=(Zv BK132001.out 3).trans rfl;have hfz8_0:=Zu BK132001.out 0;have hfz8_1:=Zu BK132001.out 1;have hfz8_2:=Zu BK132001.out 2;have hfz8_3:=Zu BK132001.out 3;have hnb9:=NB132003_132002.out;have hnc9:=NB132002_132003.out;have hcz10_0:w5.cell? ⟨gb132003,0,none⟩=some (.int .i64 0):=(Zv BK132003.out 0).trans rfl;have hcz10_1:w5.cell? ⟨gb132003,1,none⟩=some (.int .i64 0):=(Zv BK132003.out 1).trans rfl;have hcz10_2:w5.cell? ⟨gb132003,2,none⟩=some (.int .i64 0):=(Zv BK132003.out 2).trans rfl;have hcz10_3:w5.cell? ⟨gb132003,3,none⟩=some (.int .i64 0):=(Zv BK132003.out 3).trans rfl;have hfz10_0:=Zu BK132003.out 0;have hfz10_1:=Zu BK132003.out 1;have hfz10_2:=Zu BK132003.out 2;have hfz10_3:=Zu BK132003.out 3)|((with_reducible refine ZL (f:=169) rfl ?_);refine ZZ (some 12) rfl rfl Try.func169 (by kernel_rfl) rfl #[.agg #[.int .i64 a0_2,.int .i64 a0_3]] rfl (by(try simp only[List.map_toArray,List.map_cons,List.map_nil]);first|done|rfl|(simp only[Zk,Zj];rfl)) ?_;(with_reducible refine(ZaJ.calls a0_2 a0_3 t132004 t132005 _ A2.out).mono ?_);rintro e w11 ⟨rfl,hb⟩;refine⟨_,rfl,?_⟩;have n0_:=Za (Zy (g:=gb132001) (o:=.cells #[.int .i64 a0_0,.int .i64 a0_1,.int .i64 a0_2,.int .i64 a0_3] 156 (0,0)) (by(with_reducible repeat(first|refine Zn ?_ _|refine Zs ?_|refine Zo ?_ _));refine ZB ?_ NB132001_132003.out _;(with_reducible repeat(first|refine Zn ?_ _|refine Zs ?_|refine Zo ?_ _));refine ZB ?_ NB132001_132003.out _;(with_reducible repeat(first|refine Zn ?_ _|refine Zs ?_|refine Zo ?_ _));exact BK132001.out) hb);have n1_:=Za (Zy (g:=gb132002) (o:=.cells #[.int .i64 0,.int .i64 0,.int .i64 0,.int .i64 0] 101 (0,0)) (by(with_reducible repeat(first|refine Zn ?_ _|refine Zs ?_|refine Zo ?_ _));refine ZB ?_ NB132002_132003.out _;(with_reducible repeat(first|refine Zn ?_ _|refine Zs ?_|refine Zo ?_ _));refine ZB ?_ NB132002_132003.out _;(with_reducible repeat(first|refine Zn ?_ _|refine Zs ?_|refine Zo ?_ _));exact BK132002.out) hb);have n2_:=Za (Zy (g:=gb132003) (o:=.cells #[.int .i64 a0_0,.int .i64 a0_1,.int .i64 0,.int .i64 0] 101 (0,0)) (by(with_reducible repeat(first|refine Zn ?_ _|refine Zs ?_|refine Zo ?_ _));refine ZH (cs:=#[.int .i64 a0_0,.int .i64 0,.int .i64 0,.int .i64 0]) ?_ 1 _ rfl;(with_reducible repeat(first|refine Zn ?_ _|refine Zs ?_|refine Zo ?_ _));refine ZH (cs:=#[.int .i64 0,.int .i64 0,.int .i64 0,.int .i64 0]) ?_ 0 _ rfl;(with_reducible repeat(first|refine Zn ?_ _|refine Zs ?_|refine Zo ?_ _));exact BK132003.out) hb);have n3_:=Za (Zx (by repeat(first|(with_reducible first|exact HB.out|apply Zp|apply Zm|apply Zr|refine Zq ?_ GE132001.out|refine Zq ?_ GE132002.out|refine Zq ?_ GE132003.out)|exact HB.out)) hb);clear BK132001;clear BK132002;clear BK132003;clear HB;have BK132001:=n0_;have BK132002:=n1_;have BK132003:=n2_;have HB:=n3_;clear n0_ n1_ n2_ n3_;(try clear hb);(try clear hb2);(try clear hk);(try clear hi);have hcz12_0:w11.cell? ⟨gb132003,0,none⟩=some (.int .i64 a0_0):=(Zv BK132003.out 0).trans rfl;have hcz12_1:w11.cell? ⟨gb132003,1,none⟩=some (.int .i64 a0_1):=(Zv BK132003.out 1).trans rfl;have hcz12_2:w11.cell? ⟨gb132003,2,none⟩=some (.int .i64 0):=(Zv BK132003.out 2).trans rfl;have hcz12_3:w11.cell? ⟨gb132003,3,none⟩=some (.int .i64 0):=(Zv BK132003.out 3).trans rfl;have hfz12_0:=Zu BK132003.out 0;have hfz12_1:=Zu BK132003.out 1;have hfz12_2:=Zu BK132003.out 2;have hfz12_3:=Zu BK132003.out 3;have hcz13_0:w11.cell? ⟨gb132002,0,none⟩=some (.int .i64 0):=(Zv BK132002.out 0).trans rfl;have hcz13_1:w11.cell? ⟨gb132002,1,none⟩=some (.int .i64 0):=(Zv BK132002.out 1).trans rfl;have hcz13_2:w11.cell? ⟨gb132002,2,none⟩=some (.int .i64 0):=(Zv BK132002.out 2).trans rfl;have hcz13_3:w11.cell? ⟨gb132002,3,none⟩=some (.int .i64 0):=(Zv BK132002.out 3).trans rfl;have hfz13_0:=Zu BK132002.out 0;have hfz13_1:=Zu BK132002.out 1;have hfz13_2:=Zu BK132002.out 2;have hfz13_3:=Zu BK132002.out 3))
 refine bodyPost_ret (results_cell_row rfl _ _ gb132002 101 #[.int .i64 a0_0,.int .i64 a0_1,.int .i64 t132004,.int .i64 t132005] (0,0) _ rfl (by(with_reducible repeat(first|refine Zn ?_ _|refine Zs ?_|refine Zo ?_ _));refine ZH (cs:=#[.int .i64 a0_0,.int .i64 a0_1,.int .i64 t132004,.int .i64 0]) ?_ 3 _ rfl;(with_reducible repeat(first|refine Zn ?_ _|refine Zs ?_|refine Zo ?_ _));refine ZH (cs:=#[.int .i64 a0_0,.int .i64 a0_1,.int .i64 0,.int .i64 0]) ?_ 2 _ rfl;(with_reducible repeat(first|refine Zn ?_ _|refine Zs ?_|refine Zo ?_ _));refine ZH (cs:=#[.int .i64 a0_0,.int .i64 0,.int .i64 0,.int .i64 0]) ?_ 1 _ rfl;(with_reducible repeat(first|refine Zn ?_ _|refine Zs ?_|refine Zo ?_ _));refine ZH (cs:=#[.int .i64 0,.int .i64 0,.int .i64 0,.int .i64 0]) ?_ 0 _ rfl;(with_reducible repeat(first|refine Zn ?_ _|refine Zs ?_|refine Zo ?_ _));refine ZB ?_ NB132002_132003.out _;(with_reducible repeat(first|refine Zn ?_ _|refine Zs ?_|refine Zo ?_ _));refine ZB ?_ NB132002_132003.out _;(with_reducible repeat(first|refine Zn ?_ _|refine Zs ?_|refine Zo ?_ _));exact BK132002.out) Try.underlying101 rfl (by kernel_rfl)) rfl ?_
 exact⟨by first|rfl|(simp[ZA,Zz] <;> rfl)|(simp[*,ZA,Zz] <;> rfl),by repeat(first|(with_reducible first|exact HB.out|apply Zp|apply Zm|apply Zr|refine Zq ?_ GE132001.out|refine Zq ?_ GE132002.out|refine Zq ?_ GE132003.out)|exact HB.out)⟩
def Z2.l0:Nat→List (S156)→List (S101)→Int→Option ((List (S101)))
 | 0,_,_,_=>none
 | k+1,x0,x3,x4=>if x4<(x0.length:Int) then(if 0≤x4 then((Zbg.f ((Zay x0 x4).f0) ((Zay x0 x4).f1) ((Zay x0 x4).f2.f0) ((Zay x0 x4).f2.f1)).bind fun bt84005=>(if x4<(x3.length:Int) then(Z2.l0 k x0 (x3.set (x4:Int).toNat (⟨bt84005.1,bt84005.2.1,(⟨bt84005.2.2.1,bt84005.2.2.2⟩:S29)⟩:S101)) (wrap64 (x4+1))) else(none))) else(none)) else(some x3)
def Z2.f (k:Nat) (l0:List (S156)):Option ((List (S101))):=if 0≤(l0.length:Int) then(if ((l0.length:Int):Int).toNat≤8796093022208 then(Z2.l0 k l0 (List.replicate ((l0.length:Int):Int).toNat z101) 0) else(none)) else(none)
set_option maxHeartbeats 8000000 in
set_option maxRecDepth 100000 in
theorem Z2.calls (k:Nat) (A0:Option Addr) (c0:Nat) (l0:List (S156)) (r:List (S101)) (w:World) (hr0:Kd.C k156 w A0 l0.length l0) (hc0:l0.length≤c0) (h:Z2.f k l0=some r) :
  Calls Try.prog 84 #[.slice A0 l0.length c0] w fun e w'=>∃v0_:Value,e=.returned (v0_)∧Kd.R k101 101 w' w.heap.size (fun _=>True) v0_ r∧Below w.heap.size w w':=by
 have hu156:=Try.underlying156
 have hu101:=Try.underlying101
 have HR0:=Za hr0;have HC0:=Za hc0;clear hr0 hc0
 have HB:=Za (Below.refl w.heap.size w)
 have H:(if 0≤(l0.length:Int) then(if ((l0.length:Int):Int).toNat≤8796093022208 then(Z2.l0 k l0 (List.replicate ((l0.length:Int):Int).toNat z101) 0) else(none)) else(none))=some r:=h
 clear h
 by_cases c2:0≤(l0.length:Int)
 ·rw[if_pos c2] at H
  have c2b0:=eq_true c2
  have c2b1:decide (0≤(l0.length:Int))=true:=Ze c2
  clear c2
  by_cases c3:((l0.length:Int):Int).toNat≤8796093022208
  ·rw[if_pos c3] at H
   have c3b0:=eq_true c3
   have c3b1:decide (((l0.length:Int):Int).toNat≤8796093022208)=true:=Ze c3
   clear c3
   obtain⟨y84001,hy84001⟩:∃y_:List (S101),y_=(List.replicate ((l0.length:Int):Int).toNat z101):=⟨_,rfl⟩
   replace H:(Z2.l0 k l0 y84001 0)=some r:=by first|(rw[hy84001];with_reducible exact H)|(have H2_:=(Zi _ _).symm.trans H;rw[hy84001];with_reducible exact H2_)|(have H2_:=(Zi _ _).symm.trans H;with_reducible exact H2_)|with_reducible exact H|(rw[hy84001];exact H)|exact H
   have Ny84001:=Za hy84001;clear hy84001
   have H':=Za H
   clear H
   go_enter Try.func84,Try.ntmps84
   go_wp2_with (first|((with_reducible refine ZD (N:=7) rfl ?_);refine Kd.R_make k101 _ 101 rfl (N:=7) rfl 23 _ _ rfl (l0.length:Int) rfl rfl Try.underlying23 (.agg #[(.int .i64 0),(.int .i64 0),(.int .i64 0),(.int .i64 0)]) 32 ZbX rfl (by decide) (by omega) z101 (ok:=fun _=>True) (okp:=fun _=>True) (Zb4 _ _ _ z101 ) (fun _ hk=>hk) trivial (Zd (by first|(with_reducible assumption)|assumption)) (Nat.le_trans (Nat.mul_le_mul_right _ (Zd (by first|(with_reducible assumption)|assumption):(l0.length:Int).toNat≤8796093022208)) (by omega)) (Below.refl _ _) (Nat.le_refl _) ?_;intro v84002 w4 ho5 hb hg_ hnew_;clear hg_ hnew_;(first|rw[← Ny84001.out] at ho5|(simp only[Int.reduceToNat] at ho5;rw[← Ny84001.out] at ho5));have n0_:=Za (Kd.R_lower ho5 (Zw (by repeat(first|(with_reducible first|exact HB.out|apply Zp|apply Zm|apply Zr)|exact HB.out))));have n1_:=Za (Zx (by repeat(first|(with_reducible first|exact HB.out|apply Zp|apply Zm|apply Zr)|exact HB.out)) hb);clear HB;have HO84003:=n0_;have HB:=n1_;clear n0_ n1_;clear hb ho5))
   go_loopg [4] k (fun kq v4 w'=>∃(x3_1:List (S101)) (x4_1:Int),v4=.int .i64 x4_1∧Aside0 (Z2.l0 kq l0 x3_1 x4_1=some r)∧Aside0 (kq≤k)∧Aside0 (Kd.R k101 101 w' w.heap.size (fun _=>True) v84002 x3_1)∧Aside0 (Below w.heap.size w w'))
   case atStart=>exact⟨(y84001),(0),(by first|rfl|(simp;done)|(simp[*];done)),H',⟨Nat.le_refl _⟩,⟨by(with_reducible repeat(first|apply Kd.R_alloc|apply Kd.R_drewN|apply Kd.R_drew));exact HO84003.out⟩,⟨by repeat(first|(with_reducible first|exact HB.out|apply Zp|apply Zm|apply Zr)|exact HB.out)⟩⟩
   case round=>
    clear H'
    try clear c2
    try clear c2b0
    try clear c2b1
    try clear p2
    try clear c3
    try clear c3b0
    try clear c3b1
    obtain⟨x3_1,x4_1,rfl,HA,HK1,HO_3,HB⟩:=hrel
    cases gk with
    | zero=>exact absurd HA.out (by simp[Z2.l0])
    | succ k1=>
     have H:=HA.out
     clear HA
     simp only[Z2.l0] at H
     by_cases c6:x4_1<(l0.length:Int)
     ·rw[if_pos c6] at H
      have c6b0:decide (x4_1<(l0.length:Int))=true:=Ze c6
      clear c6
      by_cases c7:0≤x4_1
      ·rw[if_pos c7] at H
       have c7b0:decide (0≤x4_1)=true:=Ze c7
       clear c7
       replace H:=Zh H
       obtain⟨⟨t84005,t84006,t84007,t84008⟩,A80,H⟩:=H
       replace H:(if x4_1<(x3_1.length:Int) then(Z2.l0 k1 l0 (x3_1.set (x4_1:Int).toNat (⟨t84005,t84006,(⟨t84007,t84008⟩:S29)⟩:S101)) (wrap64 (x4_1+1))) else(none))=some r:=H
       have A8:=Za A80;clear A80
       by_cases c9:x4_1<(x3_1.length:Int)
       ·rw[if_pos c9] at H
        have c9b0:decide (x4_1<(x3_1.length:Int))=true:=Ze c9
        clear c9
        obtain⟨y84009,hy84009⟩:∃y_:List (S101),y_=(x3_1.set (x4_1:Int).toNat (⟨t84005,t84006,(⟨t84007,t84008⟩:S29)⟩:S101)):=⟨_,rfl⟩
        replace H:(Z2.l0 k1 l0 y84009 (wrap64 (x4_1+1)))=some r:=by first|(rw[hy84009];with_reducible exact H)|(have H2_:=(Zi _ _).symm.trans H;rw[hy84009];with_reducible exact H2_)|(have H2_:=(Zi _ _).symm.trans H;with_reducible exact H2_)|with_reducible exact H|(rw[hy84009];exact H)|exact H
        have Ny84009:=Za hy84009;clear hy84009
        have H':=Za H
        clear H
        have p84004:0≤(x4_1:Int):=Zd (by first|(with_reducible assumption)|assumption)
        have q84004:x4_1<(l0.length:Int):=Zd (by first|(with_reducible assumption)|assumption)
        obtain⟨ad84004,e84004,hx84004_0,hx84004_1,hx84004_2,hx84004_3⟩:=at_T156 HR0.out x4_1 p84004 q84004
        cases e84004
        replace hx84004_0:=(HB.out.cell (Zc w _ hx84004_0)).trans hx84004_0
        replace hx84004_1:=(HB.out.cell (Zc w _ hx84004_1)).trans hx84004_1
        replace hx84004_2:=(HB.out.cell (Zc w _ hx84004_2)).trans hx84004_2
        replace hx84004_3:=(HB.out.cell (Zc w _ hx84004_3)).trans hx84004_3
        replace p84004:=eq_true p84004
        replace q84004:=eq_true q84004
        go_wp2_with (first|((with_reducible refine ZL (f:=132) rfl ?_);refine ZZ (some 20) rfl rfl Try.func132 (by kernel_rfl) rfl #[.agg #[.int .i64 ((Zay l0 x4_1).f0),.int .i64 ((Zay l0 x4_1).f1),.int .i64 ((Zay l0 x4_1).f2.f0),.int .i64 ((Zay l0 x4_1).f2.f1)]] rfl (by(try simp only[List.map_toArray,List.map_cons,List.map_nil]);first|done|rfl|(simp only[Zk,Zj];rfl)) ?_;(with_reducible refine(Zbg.calls ((Zay l0 x4_1).f0) ((Zay l0 x4_1).f1) ((Zay l0 x4_1).f2.f0) ((Zay l0 x4_1).f2.f1) t84005 t84006 t84007 t84008 _ A8.out).mono ?_);rintro e w11 ⟨rfl,hb⟩;refine⟨_,rfl,?_⟩;have n0_:=Za (Kd.R_below (by(with_reducible repeat(first|apply Kd.R_alloc|apply Kd.R_drewN|apply Kd.R_drew));exact HO_3.out) hb);have n1_:=Za (Zx (by repeat(first|(with_reducible first|exact HB.out|apply Zp|apply Zm|apply Zr)|exact HB.out)) hb);clear HO_3;clear HB;have HO_3:=n0_;have HB:=n1_;clear n0_ n1_;(try clear hb);(try clear hb2);(try clear hk);(try clear hi);have p10:0≤(x4_1:Int):=Zd (by first|(with_reducible assumption)|assumption);have q10:(x4_1:Int)<((x3_1.length:Int):Int):=Zd (by first|(with_reducible assumption)|assumption);obtain⟨go10,co10,eo10,gb10,gl10,cl10,HG10⟩:=Kd.R_form HO_3.out (by omega);(first|cases eo10|(injection eo10 with ea_ en_ ec_;(first|subst ea_|(injection ea_ with ea_;subst ea_));subst ec_;clear en_));have GB10:=Za gb10;have GG10:=Za HG10;clear gb10 gl10 HG10;obtain⟨ce10,hcl10,hM10,hcc10,hfr10⟩:=Kd.R_elem HO_3.out z101 (x4_1:Int) p10 q10;obtain rfl:=ZcB hM10;have hx10_0:w11.cell? ⟨go10,(x4_1:Int).toNat * 4,none⟩=some (.int .i64 ((Zt x3_1 x4_1).f0)):=hcc10 0 _ rfl;have hx10_1:w11.cell? ⟨go10,(x4_1:Int).toNat * 4+1,none⟩=some (.int .i64 ((Zt x3_1 x4_1).f1)):=hcc10 1 _ rfl;have hx10_2:w11.cell? ⟨go10,(x4_1:Int).toNat * 4+2,none⟩=some (.int .i64 ((Zt x3_1 x4_1).f2.f0)):=hcc10 2 _ rfl;have hx10_3:w11.cell? ⟨go10,(x4_1:Int).toNat * 4+3,none⟩=some (.int .i64 ((Zt x3_1 x4_1).f2.f1)):=hcc10 3 _ rfl;have hf10_0:w11.frozen? ⟨go10,(x4_1:Int).toNat * 4,none⟩=false:=hfr10 0;have hf10_1:w11.frozen? ⟨go10,(x4_1:Int).toNat * 4+1,none⟩=false:=hfr10 1;have hf10_2:w11.frozen? ⟨go10,(x4_1:Int).toNat * 4+2,none⟩=false:=hfr10 2;have hf10_3:w11.frozen? ⟨go10,(x4_1:Int).toNat * 4+3,none⟩=false:=hfr10 3;clear hcl10 hcc10 hfr10 hM10;replace p10:=eq_true p10;replace q10:=eq_true q10;have HX12:=Za (show Kd.R k101 101 w11 w.heap.size (fun _=>True) (.slice (some ⟨go10,0,none⟩) x3_1.length co10) x3_1 from(by(with_reducible repeat(first|apply Kd.R_alloc|apply Kd.R_drewN|apply Kd.R_drew));exact HO_3.out));obtain⟨ce12,hcl12,hM12,hcc12,hfr12⟩:=Kd.R_elem HX12.out z101 (x4_1:Int) (Zd (by first|(with_reducible assumption)|assumption)) (by have h_:(x4_1:Int)<((x3_1.length:Int):Int):=Zd (by first|(with_reducible assumption)|assumption);first|exact h_|(have e_:=(Kd.R_reads' HO_3.out).1;omega)|simpa using h_);obtain rfl:=ZcB hM12;have HP12:=Kd.R_seg HX12.out (x4_1:Int) (Zd (by first|(with_reducible assumption)|assumption)) (by have h_:(x4_1:Int)<((x3_1.length:Int):Int):=Zd (by first|(with_reducible assumption)|assumption);first|exact h_|(have e_:=(Kd.R_reads' HO_3.out).1;omega)|simpa using h_) (seg:=[.int .i64 t84005,.int .i64 t84006,.int .i64 t84007,.int .i64 t84008]) (j:=0) hcl12 hcc12 (show 4≤4 from by decide) (x':=(⟨t84005,t84006,(⟨t84007,t84008⟩:S29)⟩:S101)) (Zb4 _ _ _ (⟨t84005,t84006,(⟨t84007,t84008⟩:S29)⟩:S101) ) (fun _ hk=>hk);have hx12_0:=hcc12 0 _ rfl;(try simp only[show(k101).sz=4 from rfl,Nat.mul_one,Nat.add_zero] at hx12_0);have hf12_0:=hfr12 0;(try simp only[show(k101).sz=4 from rfl,Nat.mul_one,Nat.add_zero] at hf12_0);have hx12_1:=hcc12 1 _ rfl;(try simp only[show(k101).sz=4 from rfl,Nat.mul_one,Nat.add_zero] at hx12_1);have hf12_1:=hfr12 1;(try simp only[show(k101).sz=4 from rfl,Nat.mul_one,Nat.add_zero] at hf12_1);have hx12_2:=hcc12 2 _ rfl;(try simp only[show(k101).sz=4 from rfl,Nat.mul_one,Nat.add_zero] at hx12_2);have hf12_2:=hfr12 2;(try simp only[show(k101).sz=4 from rfl,Nat.mul_one,Nat.add_zero] at hf12_2);have hx12_3:=hcc12 3 _ rfl;(try simp only[show(k101).sz=4 from rfl,Nat.mul_one,Nat.add_zero] at hx12_3);have hf12_3:=hfr12 3;(try simp only[show(k101).sz=4 from rfl,Nat.mul_one,Nat.add_zero] at hf12_3);clear hcl12 hcc12 hfr12 hM12)|((with_reducible refine ZcF (t:=101) (p:=21) rfl ?_);refine Zco (t:=101) (p:=21) (v:=?vo_w13) (w1:=((((w11.setCell ⟨go10,(x4_1:Int).toNat * 4,none⟩ (.int .i64 t84005)).setCell ⟨go10,(x4_1:Int).toNat * 4+1,none⟩ (.int .i64 t84006)).setCell ⟨go10,(x4_1:Int).toNat * 4+2,none⟩ (.int .i64 t84007)).setCell ⟨go10,(x4_1:Int).toNat * 4+3,none⟩ (.int .i64 t84008))) ?hg ?ho ?hn ?hr ?_;(case ho=>rfl);(case hg=>rfl);(case hn=>rfl);(case hr=>first|(go_simp;done)|(go_simp;rfl));intro w13 hw;have hg:w11.grownBy w13 (some go10):=(by rw[hw];exact HP12.2);have hp_:Kd.R k101 101 w13 w.heap.size (fun _=>True) (.slice (some ⟨go10,0,none⟩) x3_1.length co10) y84009:=(by rw[hw,Ny84009.out];exact HP12.1);clear HP12;have n0_:=Za (hp_);have n1_:=Za ((by rw[hw];exact Zq (Zq (Zq (Zq (HB.out) GB10.out) GB10.out) GB10.out) GB10.out:Below w.heap.size w w13));clear HO_3;clear HB;have HO_3:=n0_;have HB:=n1_;clear n0_ n1_;clear hg hw hp_))
        go_roundg k1
        case measure=>have:=HK1.out;omega
        case rel=>exact⟨(y84009),(wrap64 (x4_1+1)),(by first|rfl|(simp;done)|(simp[*];done)),H',⟨by have:=HK1.out;omega⟩,⟨by(with_reducible repeat(first|apply Kd.R_alloc|apply Kd.R_drewN|apply Kd.R_drew));exact HO_3.out⟩,⟨by repeat(first|(with_reducible first|exact HB.out|apply Zp|apply Zm|apply Zr)|exact HB.out)⟩⟩
       ·rw[if_neg c9] at H
        exact absurd H (by simp)
      ·rw[if_neg c7] at H
       exact absurd H (by simp)
     ·rw[if_neg c6] at H
      have c6b0:decide (x4_1<(l0.length:Int))=false:=Zf c6
      clear c6
      obtain rfl:=Zg H
      go_wp2
      go_ret
      exact⟨_,by first|rfl|(simp[ZA,Zz] <;> rfl)|(simp[*,ZA,Zz] <;> rfl),by(with_reducible repeat(first|apply Kd.R_alloc|apply Kd.R_drewN|apply Kd.R_drew));exact HO_3.out,by repeat(first|(with_reducible first|exact HB.out|apply Zp|apply Zm|apply Zr)|exact HB.out)⟩
  ·rw[if_neg c3] at H
   exact absurd H (by simp)
 ·rw[if_neg c2] at H
  exact absurd H (by simp)
def Zas.f (k:Nat) (a0_0:Int) (l0_1:List (S156)):Option (Int×(List (S101))):=(Z2.f k l0_1).bind fun t31004=>(some (a0_0,t31004))
set_option maxHeartbeats 8000000 in
set_option maxRecDepth 100000 in
theorem Zas.calls (k:Nat) (a0_0:Int) (A0_1:Option Addr) (c0_1:Nat) (l0_1:List (S156)) (r1:Int) (r2:List (S101)) (w:World) (hr0_1:Kd.C k156 w A0_1 l0_1.length l0_1) (hc0_1:l0_1.length≤c0_1) (h:Zas.f k a0_0 l0_1=some (r1,r2)) :
  Calls Try.prog 31 #[.agg #[.int .i64 a0_0,.slice A0_1 l0_1.length c0_1]] w fun e w'=>∃v1_:Value,e=.returned (.agg #[.int .i64 r1,v1_])∧Kd.R k101 101 w' w.heap.size (fun _=>True) v1_ r2∧Below w.heap.size w w':=by
 have hu46:=Try.underlying46
 have hu25:=Try.underlying25
 have HR0_1:=Za hr0_1;have HC0_1:=Za hc0_1;clear hr0_1 hc0_1
 have HB:=Za (Below.refl w.heap.size w)
 have H:((Z2.f k l0_1).bind fun t31004=>(some (a0_0,t31004)))=some (r1,r2):=h
 clear h
 replace H:=Zh H
 obtain⟨t31004,A20,H⟩:=H
 replace H:(some (a0_0,t31004))=some (r1,r2):=H
 have A2:=Za A20;clear A20
 simp only[Option.some.injEq,Prod.mk.injEq] at H
 obtain⟨rfl,rfl⟩:=H
 go_enter Try.func31,Try.ntmps31
 go_wp2_with (first|((with_reducible refine ZD (N:=1) rfl ?_);refine ZE ?hg (N:=1) ?hd (cs:=#[.int .i64 a0_0,.slice A0_1 l0_1.length c0_1]) (t:=46) ?hr ?_;(case hd=>rfl);(case hg=>rfl);(case hr=>first|(go_simp;done)|(go_simp;rfl));intro gb31001 hg w3 hbox hb;have n0_:=Za (Zx (by repeat(first|(with_reducible first|exact HB.out|apply Zp|apply Zm|apply Zr)|exact HB.out)) hb);have n1_:=Za (hbox);have n2_:=Za ((by rw[hg];exact(Zw (by repeat(first|(with_reducible first|exact HB.out|apply Zp|apply Zm|apply Zr)|exact HB.out))):w.heap.size≤gb31001));have n3_:=Za ((by rw[hg];exact(Zw (by repeat(first|(with_reducible first|exact HB.out|apply Zp|apply Zm|apply Zr)|exact HB.out))):w.heap.size≤gb31001));clear HB;have HB:=n0_;have BK31001:=n1_;have GW31001:=n2_;have GE31001:=n3_;clear n0_ n1_ n2_ n3_;clear hb hbox hg)|((with_reducible refine ZD (N:=2) rfl ?_);refine ZE ?hg (N:=2) ?hd (cs:=#[.int .i64 0,.slice none 0 0]) (t:=25) ?hr ?_;(case hd=>rfl);(case hg=>rfl);(case hr=>first|(go_simp;done)|(go_simp;rfl));intro gb31002 hg w4 hbox hb;have n0_:=Za (Zy (g:=gb31001) (o:=.cells #[.int .i64 a0_0,.slice A0_1 l0_1.length c0_1] 46 (0,0)) (by(with_reducible repeat(first|refine Zn ?_ _|refine Zs ?_|refine Zo ?_ _));exact BK31001.out) hb);have n1_:=Za (Zx (by repeat(first|(with_reducible first|exact HB.out|apply Zp|apply Zm|apply Zr|refine Zq ?_ GE31001.out)|exact HB.out)) hb);have n2_:=Za (hbox);have n3_:=Za ((by rw[hg];exact(Zw (by repeat(first|(with_reducible first|exact HB.out|apply Zp|apply Zm|apply Zr|refine Zq ?_ GE31001.out)|exact HB.out))):w.heap.size≤gb31002));have n4_:=Za ((by rw[hg];exact(Zw (by repeat(first|(with_reducible first|exact HB.out|apply Zp|apply Zm|apply Zr|refine Zq ?_ GE31001.out)|exact HB.out))):w.heap.size≤gb31002));have n5_:=Za ((by rw[hg];exact Nat.ne_of_lt (ZC (g:=gb31001) (o:=.cells #[.int .i64 a0_0,.slice A0_1 l0_1.length c0_1] 46 (0,0)) (by(with_reducible repeat(first|refine Zn ?_ _|refine Zs ?_|refine Zo ?_ _));exact BK31001.out)):gb31001≠gb31002));have n6_:=Za ((by rw[hg];exact Nat.ne_of_gt (ZC (g:=gb31001) (o:=.cells #[.int .i64 a0_0,.slice A0_1 l0_1.length c0_1] 46 (0,0)) (by(with_reducible repeat(first|refine Zn ?_ _|refine Zs ?_|refine Zo ?_ _));exact BK31001.out)):gb31002≠gb31001));clear BK31001;clear HB;have BK31001:=n0_;have HB:=n1_;have BK31002:=n2_;have GW31002:=n3_;have GE31002:=n4_;have NB31001_31002:=n5_;have NB31002_31001:=n6_;clear n0_ n1_ n2_ n3_ n4_ n5_ n6_;clear hb hbox hg)|((with_reducible refine ZD (N:=3) rfl ?_);refine ZE ?hg (N:=3) ?hd (cs:=#[.int .i64 0,.slice none 0 0]) (t:=25) ?hr ?_;(case hd=>rfl);(case hg=>rfl);(case hr=>first|(go_simp;done)|(go_simp;rfl));intro gb31003 hg w5 hbox hb;have n0_:=Za (Zy (g:=gb31001) (o:=.cells #[.int .i64 a0_0,.slice A0_1 l0_1.length c0_1] 46 (0,0)) (by(with_reducible repeat(first|refine Zn ?_ _|refine Zs ?_|refine Zo ?_ _));exact BK31001.out) hb);have n1_:=Za (Zy (g:=gb31002) (o:=.cells #[.int .i64 0,.slice none 0 0] 25 (0,0)) (by(with_reducible repeat(first|refine Zn ?_ _|refine Zs ?_|refine Zo ?_ _));exact BK31002.out) hb);have n2_:=Za (Zx (by repeat(first|(with_reducible first|exact HB.out|apply Zp|apply Zm|apply Zr|refine Zq ?_ GE31001.out|refine Zq ?_ GE31002.out)|exact HB.out)) hb);have n3_:=Za (hbox);have n4_:=Za ((by rw[hg];exact(Zw (by repeat(first|(with_reducible first|exact HB.out|apply Zp|apply Zm|apply Zr|refine Zq ?_ GE31001.out|refine Zq ?_ GE31002.out)|exact HB.out))):w.heap.size≤gb31003));have n5_:=Za ((by rw[hg];exact(Zw (by repeat(first|(with_reducible first|exact HB.out|apply Zp|apply Zm|apply Zr|refine Zq ?_ GE31001.out|refine Zq ?_ GE31002.out)|exact HB.out))):w.heap.size≤gb31003));have n6_:=Za ((by rw[hg];exact Nat.ne_of_lt (ZC (g:=gb31001) (o:=.cells #[.int .i64 a0_0,.slice A0_1 l0_1.length c0_1] 46 (0,0)) (by(with_reducible repeat(first|refine Zn ?_ _|refine Zs ?_|refine Zo ?_ _));exact BK31001.out)):gb31001≠gb31003));have n7_:=Za ((by rw[hg];exact Nat.ne_of_gt (ZC (g:=gb31001) (o:=.cells #[.int .i64 a0_0,.slice A0_1 l0_1.length c0_1] 46 (0,0)) (by(with_reducible repeat(first|refine Zn ?_ _|refine Zs ?_|refine Zo ?_ _));exact BK31001.out)):gb31003≠gb31001));have n8_:=Za ((by rw[hg];exact Nat.ne_of_lt (ZC (g:=gb31002) (o:=.cells #[.int .i64 0,.slice none 0 0] 25 (0,0)) (by(with_reducible repeat(first|refine Zn ?_ _|refine Zs ?_|refine Zo ?_ _));exact BK31002.out)):gb31002≠gb31003));have n9_:=Za ((by rw[hg];exact Nat.ne_of_gt (ZC (g:=gb31002) (o:=.cells #[.int .i64 0,.slice none 0 0] 25 (0,0)) (by(with_reducible repeat(first|refine Zn ?_ _|refine Zs ?_|refine Zo ?_ _));exact BK31002.out)):gb31003≠gb31002));clear BK31001;clear BK31002;clear HB;have BK31001:=n0_;have BK31002:=n1_;have HB:=n2_;have BK31003:=n3_;have GW31003:=n4_;have GE31003:=n5_;have NB31001_31003:=n6_;have NB31003_31001:=n7_;have NB31002_31003:=n8_;have NB31003_31002:=n9_;clear n0_ n1_ n2_ n3_ n4_ n5_ n6_ n7_ n8_ n9_;clear hb hbox hg;have hnb6:=NB31001_31002.out;have hnc6:=NB31002_31001.out;have hnb7:=NB31001_31003.out;have hnc7:=NB31003_31001.out;have hcz8_0:w5.cell? ⟨gb31001,0,none⟩=some (.int .i64 a0_0):=(Zv BK31001.out 0).trans rfl;have hcz8_1:w5.cell? ⟨gb31001,1,none⟩=some (.slice A0_1 l0_1.length c0_1):=(Zv BK31001.out 1).trans rfl;have hfz8_0:=Zu BK31001.out 0;have hfz8_1:=Zu BK31001.out 1;have hnb9:=NB31003_31002.out;have hnc9:=NB31002_31003.out;have hcz10_0:w5.cell? ⟨gb31003,0,none⟩=some (.int .i64 0):=(Zv BK31003.out 0).trans rfl;have hcz10_1:w5.cell? ⟨gb31003,1,none⟩=some (.slice none 0 0):=(Zv BK31003.out 1).trans rfl;have hfz10_0:=Zu BK31003.out 0;have hfz10_1:=Zu BK31003.out 1)|((with_reducible refine ZL (f:=84) rfl ?_);refine ZZ (some 9) rfl rfl Try.func84 (by kernel_rfl) rfl #[.slice A0_1 l0_1.length c0_1] rfl (by(try simp only[List.map_toArray,List.map_cons,List.map_nil]);first|done|rfl|(simp only[Zk,Zj];rfl)) ?_;(with_reducible refine(Z2.calls k _ _ l0_1 t31004 _ ?side1 ?side2 A2.out).mono ?_);(case side1=>exact Zb HR0_1.out (by repeat(first|(with_reducible first|exact HB.out|apply Zp|apply Zm|apply Zr|refine Zq ?_ GE31001.out|refine Zq ?_ GE31002.out|refine Zq ?_ GE31003.out)|exact HB.out)));(case side2=>exact HC0_1.out);rintro e w11 ⟨v31005,rfl,ho0,hb⟩;refine⟨_,rfl,?_⟩;have n0_:=Za (Kd.R_lower ho0 (Zw (by repeat(first|(with_reducible first|exact HB.out|apply Zp|apply Zm|apply Zr|refine Zq ?_ GE31001.out|refine Zq ?_ GE31002.out|refine Zq ?_ GE31003.out)|exact HB.out))));have n1_:=Za (Zy (g:=gb31001) (o:=.cells #[.int .i64 a0_0,.slice A0_1 l0_1.length c0_1] 46 (0,0)) (by(with_reducible repeat(first|refine Zn ?_ _|refine Zs ?_|refine Zo ?_ _));refine ZB ?_ NB31001_31003.out _;(with_reducible repeat(first|refine Zn ?_ _|refine Zs ?_|refine Zo ?_ _));exact BK31001.out) hb);have n2_:=Za (Zy (g:=gb31002) (o:=.cells #[.int .i64 0,.slice none 0 0] 25 (0,0)) (by(with_reducible repeat(first|refine Zn ?_ _|refine Zs ?_|refine Zo ?_ _));refine ZB ?_ NB31002_31003.out _;(with_reducible repeat(first|refine Zn ?_ _|refine Zs ?_|refine Zo ?_ _));exact BK31002.out) hb);have n3_:=Za (Zy (g:=gb31003) (o:=.cells #[.int .i64 a0_0,.slice none 0 0] 25 (0,0)) (by(with_reducible repeat(first|refine Zn ?_ _|refine Zs ?_|refine Zo ?_ _));refine ZH (cs:=#[.int .i64 0,.slice none 0 0]) ?_ 0 _ rfl;(with_reducible repeat(first|refine Zn ?_ _|refine Zs ?_|refine Zo ?_ _));exact BK31003.out) hb);have n4_:=Za (Zx (by repeat(first|(with_reducible first|exact HB.out|apply Zp|apply Zm|apply Zr|refine Zq ?_ GE31001.out|refine Zq ?_ GE31002.out|refine Zq ?_ GE31003.out)|exact HB.out)) hb);clear BK31001;clear BK31002;clear BK31003;clear HB;have HO31006:=n0_;have BK31001:=n1_;have BK31002:=n2_;have BK31003:=n3_;have HB:=n4_;clear n0_ n1_ n2_ n3_ n4_;(try clear hb);(try clear hb2);(try clear hk);(try clear hi);(try clear ho0);obtain⟨Ao12,co12,eo12⟩:=Kd.R_slice HO31006.out;subst eo12;have hcz13_0:w11.cell? ⟨gb31003,0,none⟩=some (.int .i64 a0_0):=(Zv BK31003.out 0).trans rfl;have hcz13_1:w11.cell? ⟨gb31003,1,none⟩=some (.slice none 0 0):=(Zv BK31003.out 1).trans rfl;have hfz13_0:=Zu BK31003.out 0;have hfz13_1:=Zu BK31003.out 1;have hcz14_0:w11.cell? ⟨gb31002,0,none⟩=some (.int .i64 0):=(Zv BK31002.out 0).trans rfl;have hcz14_1:w11.cell? ⟨gb31002,1,none⟩=some (.slice none 0 0):=(Zv BK31002.out 1).trans rfl;have hfz14_0:=Zu BK31002.out 0;have hfz14_1:=Zu BK31002.out 1))
 refine bodyPost_ret (results_cell_row rfl _ _ gb31002 25 #[.int .i64 a0_0,.slice Ao12 t31004.length co12] (0,0) _ rfl (by(with_reducible repeat(first|refine Zn ?_ _|refine Zs ?_|refine Zo ?_ _));refine ZH (cs:=#[.int .i64 a0_0,.slice none 0 0]) ?_ 1 _ rfl;(with_reducible repeat(first|refine Zn ?_ _|refine Zs ?_|refine Zo ?_ _));refine ZH (cs:=#[.int .i64 0,.slice none 0 0]) ?_ 0 _ rfl;(with_reducible repeat(first|refine Zn ?_ _|refine Zs ?_|refine Zo ?_ _));refine ZB ?_ NB31002_31003.out _;(with_reducible repeat(first|refine Zn ?_ _|refine Zs ?_|refine Zo ?_ _));exact BK31002.out) Try.underlying25 rfl (by kernel_rfl)) rfl ?_
 exact⟨_,by first|rfl|(simp[ZA,Zz] <;> rfl)|(simp[*,ZA,Zz] <;> rfl),by(with_reducible repeat(first|apply Kd.R_alloc|apply Kd.R_drewN|apply Kd.R_drew));exact Kd.R_mono (Kd.R_far (p:=⟨gb31002,1,none⟩) (Kd.R_far (p:=⟨gb31002,0,none⟩) (Kd.R_far (p:=⟨gb31003,1,none⟩) (Kd.R_types (Kd.R_types HO31006.out BK31003.out (by decide)) BK31002.out (by decide)) (fun _ hk=>hk.1.2) (.slice Ao12 t31004.length co12)) (fun _ hk=>hk.2) (.int .i64 a0_0)) (fun _ hk=>hk.2) (.slice Ao12 t31004.length co12)) (fun _ hk=>trivial),by repeat(first|(with_reducible first|exact HB.out|apply Zp|apply Zm|apply Zr|refine Zq ?_ GE31001.out|refine Zq ?_ GE31002.out|refine Zq ?_ GE31003.out)|exact HB.out)⟩
theorem Zas.c (k:Nat) (a0_0:Int) (A0_1:Option Addr) (c0_1:Nat) (l0_1:List (S156)) (r1:Int) (r2:List (S101)) (w:World) (hr0_1:Kd.C k156 w A0_1 l0_1.length l0_1) (hc0_1:l0_1.length≤c0_1) (h:Zas.f k a0_0 l0_1=some (r1,r2)) :
  Calls Try.prog 31 #[.agg #[.int .i64 a0_0,.slice A0_1 l0_1.length c0_1]] w fun e w'=>∃A0_ c0_,e=.returned (.agg #[.int .i64 r1,.slice A0_ r2.length c0_])∧Aside0 (r2.length≤c0_∧Kd.C k101 w' A0_ r2.length r2)∧Below w.heap.size w w':=
 (Zas.calls k a0_0 A0_1 c0_1 l0_1 r1 r2 w hr0_1 hc0_1 h).mono fun e w' ⟨v1_,he,q0_,hb⟩=>by
  obtain⟨A0_,c0_,rfl,g0_⟩:=Kd.R_reads q0_
  exact⟨A0_,c0_,he,⟨g0_⟩,hb⟩
theorem Z0.c (k:Nat) (A0:Option Addr) (c0:Nat) (l0:List Int) (r:List Int) (w:World) (hr0:Kd.C (Kd.int .i64) w A0 l0.length l0) (hc0:l0.length≤c0) (h:Z0.f k l0=some r) :
  Calls Try.prog 32 #[.slice A0 l0.length c0] w fun e w'=>∃A0_ c0_,e=.returned (.slice A0_ r.length c0_)∧Aside0 (r.length≤c0_∧Kd.C (Kd.int .i64) w' A0_ r.length r)∧Below w.heap.size w w':=
 (Z0.calls k A0 c0 l0 r w hr0 hc0 h).mono fun e w' ⟨v0_,he,q0_,hb⟩=>by
  obtain⟨A0_,c0_,rfl,g0_⟩:=Kd.R_reads q0_
  exact⟨A0_,c0_,he,⟨g0_⟩,hb⟩
def Zbh.f (a0:Int) (a1:Int):Option (Bool):=if a1≥0 then(some (decide (a1<a0))) else(some false)
set_option maxHeartbeats 8000000 in
set_option maxRecDepth 100000 in
theorem Zbh.calls (a0:Int) (a1:Int) (r:Bool) (w:World) (h:Zbh.f a0 a1=some r) :
  Calls Try.prog 71 #[.int .i64 a0,.int .i64 a1] w fun e w'=>e=.returned (.bool r)∧ZT w w':=by
 have H:(if a1≥0 then(some (decide (a1<a0))) else(some false))=some r:=h
 clear h
 by_cases c3:a1≥0
 ·rw[if_pos c3] at H
  have c3b0:decide (0≤a1)=true:=Ze c3
  clear c3
  obtain rfl:=Zg H
  go_enter Try.func71,Try.ntmps71
  go_wp2
  go_ret
  exact⟨by first|rfl|(simp;done)|(simp[*];done),by repeat(first|exact ZT.refl _|apply ZT.step)⟩
 ·rw[if_neg c3] at H
  have c3b0:decide (0≤a1)=false:=Zf c3
  clear c3
  obtain rfl:=Zg H
  go_enter Try.func71,Try.ntmps71
  go_wp2
  go_ret
  exact⟨by first|rfl|(simp;done)|(simp[*];done),by repeat(first|exact ZT.refl _|apply ZT.step)⟩
end Go.Proofs.Ytpoffpdaadhkgaa.Pr
namespace Go.Proofs.Ytpoffpdaadhkgaa.Pr
open Go.RowKit Go.Proofs.YtpoffpdaadhkgaaW.PrintWords Go.Proofs.Ytpoffpdaadhkgaa.Ni
def inN (n x:Int):Bool:=decide (0≤x) && decide (x<n)
theorem inN_f (n x:Int):Zbh.f n x=some (inN n x):=by
 unfold Zbh.f inN
 by_cases h:x≥0
 ·rw[if_pos h,Ze (show(0:Int)≤x from h),Bool.true_and]
 ·rw[if_neg h,Zf (show ¬(0:Int)≤x from h),Bool.false_and]
theorem Zbr (n x:Int) (w:World):Calls Try.prog 71 #[.int .i64 n,.int .i64 x] w fun e w'=>e=.returned (.bool (inN n x))∧∃m,w'=w.drewN m:=
 (Zbh.calls n x _ w (inN_f n x)).mono fun _ _ ⟨he,hd⟩=>⟨he,hd.out⟩
theorem inN_iff {n x:Int}:inN n x=true↔0≤x∧x<n:=by
 unfold inN;rw[Bool.and_eq_true,decide_eq_true_eq,decide_eq_true_eq]
end Go.Proofs.Ytpoffpdaadhkgaa.Pr
namespace Go.Proofs.Ytpoffpdaadhkgaa.Pr
open Go.RowKit Go.Proofs.YtpoffpdaadhkgaaW.PrintWords Go.Proofs.YtpoffpdaadhkgaaW.PrintLast Go.Proofs.YtpoffpdaadhkgaaW.PrintMore
attribute [local go_sem] Z7 Z5 Zaf Zae ZY ZX Z6 Z4
set_option linter.unusedVariables false
set_option linter.unusedSimpArgs false
open Go.Proofs.Ytpoffpdaadhkgaa.Ni
set_option maxHeartbeats 4000000 in
theorem Zda.any (p:S101→Bool) (g:Nat) (lb:Array Value) (eg:∀args w,(callFunc g args).run Try.prog w=.ok (.enter g args) w) (A0:Option Addr) (c0:Nat) (l0:List S101) (w:World) (hr0:Kd.C k101 w A0 l0.length l0)
  (hp:∀(W:World) (x:S101),x∈l0→Below w.heap.size w W→Calls Try.prog g (#[.agg #[.int .i64 x.f0,.int .i64 x.f1,.int .i64 x.f2.f0,.int .i64 x.f2.f1]] ++ lb) W fun e w'=>e=.returned (.bool (p x))∧Below W.heap.size W w') :
  Calls Try.prog 123 #[.slice A0 l0.length c0,.func (.func g) #[] lb] w fun e w'=>e=.returned (.int .i64 (Zbi p l0))∧Below w.heap.size w w':=by
 have HR0:=Za hr0;have HP:=Za hp;clear hr0 hp
 have HL:l0.length≤9223372036854775807:=HR0.out.2.1
 go_enter Try.func123,Try.ntmps123
 go_wp2
 go_loopg [5,8] l0.length (fun gg _ s8 wr=>∃kk:Nat,Aside0 (kk≤l0.length)∧Aside0 (l0.length - kk≤gg)∧s8=.int .i64 kk∧Aside0 (Below w.heap.size w wr)∧Aside0 (∀j y,j<kk→l0[j]? = some y→p y=false))
 case atStart=>exact⟨0,⟨Nat.zero_le _⟩,⟨by omega⟩,rfl,⟨Below.refl _ _⟩,⟨fun j y hj=>absurd hj (Nat.not_lt_zero _)⟩⟩
 case round=>
  obtain⟨kk,HK,HG,rfl,HB,HN⟩:=hrel
  by_cases hlt:kk<l0.length
  ·have hltz:(kk:Int)<(l0.length:Int):=by omega
   obtain⟨ad,e1,hx0,hx1,hx2,hx3⟩:=ZaF HR0.out (kk:Int) (by omega) hltz
   cases e1
   replace hx0:=(HB.out.cell (Zc w _ hx0)).trans hx0
   rw[Int.toNat_natCast] at hx0
   replace hx1:=(HB.out.cell (Zc w _ hx1)).trans hx1
   rw[Int.toNat_natCast] at hx1
   replace hx2:=(HB.out.cell (Zc w _ hx2)).trans hx2
   rw[Int.toNat_natCast] at hx2
   replace hx3:=(HB.out.cell (Zc w _ hx3)).trans hx3
   rw[Int.toNat_natCast] at hx3
   have hxe:l0[kk]? = some (Zt l0 (kk:Int)):=by
    unfold Zt
    rw[Int.toNat_natCast,List.getD_eq_getElem?_getD,Zl hlt];rfl
   generalize Zt l0 (kk:Int)=y at hx0 hx1 hx2 hx3 hxe
   have HX:=Za hxe;clear hxe
   have hcall:=HP.out wr y (List.mem_of_getElem? HX.out) HB.out
   cases hq:p y with
   | true=>
    have HQ:=Za hq
    rw[hq] at hcall
    clear hq
    go_wp2_with (go_at_fn g;refine hcall.mono ?_;rintro e w' ⟨rfl,hb⟩)
    go_ret
    exact⟨by rw[Zcf p l0 kk y HX.out HQ.out HN.out];rfl,HB.out.trans (hb.mono HB.out.size)⟩
   | false=>
    have HQ:=Za hq
    rw[hq] at hcall
    clear hq
    go_wp2_with (go_at_fn g;refine hcall.mono ?_;rintro e w' ⟨rfl,hb⟩)
    go_roundg (l0.length - (kk+1))
    case measure=>have:=HG.out;omega
    case rel=>
     refine⟨kk+1,⟨by omega⟩,⟨by omega⟩,by go_num,⟨HB.out.trans (hb.mono HB.out.size)⟩,⟨fun j y' hj hy=>?_⟩⟩
     by_cases e:j=kk
     ·subst e
      rw[HX.out] at hy
      cases hy
      exact HQ.out
     ·exact HN.out j y' (by omega) hy
  ·have hltz:¬(kk:Int)<(l0.length:Int):=by omega
   have:kk=l0.length:=by have:=HK.out;omega
   subst this
   go_wp2
   go_ret
   exact⟨by rw[Zb5 p l0 HN.out];rfl,HB.out⟩
set_option maxHeartbeats 4000000 in
theorem impl_Link_69.any (p:S101→Bool) (g:Nat) (lb:Array Value) (eg:∀args w,(callFunc g args).run Try.prog w=.ok (.enter g args) w) (A0:Option Addr) (c0:Nat) (l0:List S101) (w:World) (hr0:Kd.C k101 w A0 l0.length l0)
  (hp:∀(W:World) (x:S101),x∈l0→Below w.heap.size w W→Calls Try.prog g (#[.agg #[.int .i64 x.f0,.int .i64 x.f1,.int .i64 x.f2.f0,.int .i64 x.f2.f1]] ++ lb) W fun e w'=>e=.returned (.bool (p x))∧Below W.heap.size W w') :
  Calls Try.prog 69 #[.slice A0 l0.length c0,.func (.func g) #[] lb] w fun e w'=>e=.returned (.bool (l0.any p))∧Below w.heap.size w w':=by
 have HI:=Za (Zda.any p g lb eg A0 c0 l0 w hr0 hp)
 clear hr0 hp
 have HE:=Za (Zcg p l0)
 go_enter Try.func69,Try.ntmps69
 go_wp2_with (go_at_call 123;refine HI.out.mono ?_;rintro e w' ⟨rfl,hb⟩)
 go_ret
 exact⟨by rw[← HE.out];rfl,hb⟩
end Go.Proofs.Ytpoffpdaadhkgaa.Pr
namespace Go.Proofs.Ytpoffpdaadhkgaa.Pr
open Go.RowKit Go.Proofs.YtpoffpdaadhkgaaW.PrintWords Go.Proofs.YtpoffpdaadhkgaaW.PrintLast Go.Proofs.YtpoffpdaadhkgaaW.PrintMore
attribute [local go_sem] Z7 Z5 Zaf Zae ZY ZX Z6 Z4
set_option linter.unusedVariables false
set_option linter.unusedSimpArgs false
def Za0.f (a0_0:Int) (a0_1:Int):Option (Bool):=if a0_0≥(-1000000) then(if a0_0≤a0_1 then(if a0_1≤1000000 then(if a0_0=1000000 then(some false) else(some (a0_1 != (-1000000)))) else(some false)) else(some false)) else(some false)
set_option maxHeartbeats 8000000 in
set_option maxRecDepth 100000 in
theorem Za0.calls (a0_0:Int) (a0_1:Int) (r:Bool) (w:World) (h:Za0.f a0_0 a0_1=some r) :
  Calls Try.prog 72 #[.agg #[.int .i64 a0_0,.int .i64 a0_1]] w fun e w'=>e=.returned (.bool r)∧Below w.heap.size w w':=by
 have hu29:=Try.underlying29
 have HB:=Za (Below.refl w.heap.size w)
 have H:(if a0_0≥(-1000000) then(if a0_0≤a0_1 then(if a0_1≤1000000 then(if a0_0=1000000 then(some false) else(some (a0_1 != (-1000000)))) else(some false)) else(some false)) else(some false))=some r:=h
 clear h
 by_cases c2:a0_0≥(-1000000)
 ·rw[if_pos c2] at H
  have c2b0:decide ((-1000000)≤a0_0)=true:=Ze c2
  clear c2
  by_cases c3:a0_0≤a0_1
  ·rw[if_pos c3] at H
   have c3b0:decide (a0_0≤a0_1)=true:=Ze c3
   clear c3
   by_cases c4:a0_1≤1000000
   ·rw[if_pos c4] at H
    have c4b0:decide (a0_1≤1000000)=true:=Ze c4
    clear c4
    by_cases c5:a0_0=1000000
    ·rw[if_pos c5] at H
     have c5b0:(a0_0 == 1000000)=true:=beq_iff_eq.mpr c5
     have c5b1:(a0_0 != 1000000)=false:=bne_eq_false_iff_eq.mpr c5
     clear c5
     obtain rfl:=Zg H
     go_enter Try.func72,Try.ntmps72
     go_wp2_with (first|((with_reducible refine ZD (N:=1) rfl ?_);refine ZE ?hg (N:=1) ?hd (cs:=#[.int .i64 a0_0,.int .i64 a0_1]) (t:=29) ?hr ?_;(case hd=>rfl);(case hg=>rfl);(case hr=>first|(go_simp;done)|(go_simp;rfl));intro gb72001 hg w6 hbox hb;have n0_:=Za (Zx (by repeat(first|(with_reducible first|exact HB.out|apply Zp|apply Zm|apply Zr)|exact HB.out)) hb);have n1_:=Za (hbox);have n2_:=Za ((by rw[hg];exact(Zw (by repeat(first|(with_reducible first|exact HB.out|apply Zp|apply Zm|apply Zr)|exact HB.out))):w.heap.size≤gb72001));have n3_:=Za ((by rw[hg];exact(Zw (by repeat(first|(with_reducible first|exact HB.out|apply Zp|apply Zm|apply Zr)|exact HB.out))):w.heap.size≤gb72001));clear HB;have HB:=n0_;have BK72001:=n1_;have GW72001:=n2_;have GE72001:=n3_;clear n0_ n1_ n2_ n3_;clear hb hbox hg;have hcz7_0:w6.cell? ⟨gb72001,0,none⟩=some (.int .i64 a0_0):=(Zv BK72001.out 0).trans rfl;have hcz7_1:w6.cell? ⟨gb72001,1,none⟩=some (.int .i64 a0_1):=(Zv BK72001.out 1).trans rfl;have hfz7_0:=Zu BK72001.out 0;have hfz7_1:=Zu BK72001.out 1))
     go_ret
     exact⟨by first|rfl|(simp[ZA,Zz] <;> rfl)|(simp[*,ZA,Zz] <;> rfl),by repeat(first|(with_reducible first|exact HB.out|apply Zp|apply Zm|apply Zr|refine Zq ?_ GE72001.out)|exact HB.out)⟩
    ·rw[if_neg c5] at H
     have c5b0:(a0_0 == 1000000)=false:=beq_eq_false_iff_ne.mpr c5
     have c5b1:(a0_0 != 1000000)=true:=bne_iff_ne.mpr c5
     obtain rfl:=Zg H
     go_enter Try.func72,Try.ntmps72
     go_wp2_with (first|((with_reducible refine ZD (N:=1) rfl ?_);refine ZE ?hg (N:=1) ?hd (cs:=#[.int .i64 a0_0,.int .i64 a0_1]) (t:=29) ?hr ?_;(case hd=>rfl);(case hg=>rfl);(case hr=>first|(go_simp;done)|(go_simp;rfl));intro gb72001 hg w8 hbox hb;have n0_:=Za (Zx (by repeat(first|(with_reducible first|exact HB.out|apply Zp|apply Zm|apply Zr)|exact HB.out)) hb);have n1_:=Za (hbox);have n2_:=Za ((by rw[hg];exact(Zw (by repeat(first|(with_reducible first|exact HB.out|apply Zp|apply Zm|apply Zr)|exact HB.out))):w.heap.size≤gb72001));have n3_:=Za ((by rw[hg];exact(Zw (by repeat(first|(with_reducible first|exact HB.out|apply Zp|apply Zm|apply Zr)|exact HB.out))):w.heap.size≤gb72001));clear HB;have HB:=n0_;have BK72001:=n1_;have GW72001:=n2_;have GE72001:=n3_;clear n0_ n1_ n2_ n3_;clear hb hbox hg;have hcz9_0:w8.cell? ⟨gb72001,0,none⟩=some (.int .i64 a0_0):=(Zv BK72001.out 0).trans rfl;have hcz9_1:w8.cell? ⟨gb72001,1,none⟩=some (.int .i64 a0_1):=(Zv BK72001.out 1).trans rfl;have hfz9_0:=Zu BK72001.out 0;have hfz9_1:=Zu BK72001.out 1))
     go_ret
     exact⟨by first|rfl|(simp[ZA,Zz] <;> rfl)|(simp[*,ZA,Zz] <;> rfl),by repeat(first|(with_reducible first|exact HB.out|apply Zp|apply Zm|apply Zr|refine Zq ?_ GE72001.out)|exact HB.out)⟩
   ·rw[if_neg c4] at H
    have c4b0:decide (a0_1≤1000000)=false:=Zf c4
    clear c4
    obtain rfl:=Zg H
    go_enter Try.func72,Try.ntmps72
    go_wp2_with (first|((with_reducible refine ZD (N:=1) rfl ?_);refine ZE ?hg (N:=1) ?hd (cs:=#[.int .i64 a0_0,.int .i64 a0_1]) (t:=29) ?hr ?_;(case hd=>rfl);(case hg=>rfl);(case hr=>first|(go_simp;done)|(go_simp;rfl));intro gb72001 hg w10 hbox hb;have n0_:=Za (Zx (by repeat(first|(with_reducible first|exact HB.out|apply Zp|apply Zm|apply Zr)|exact HB.out)) hb);have n1_:=Za (hbox);have n2_:=Za ((by rw[hg];exact(Zw (by repeat(first|(with_reducible first|exact HB.out|apply Zp|apply Zm|apply Zr)|exact HB.out))):w.heap.size≤gb72001));have n3_:=Za ((by rw[hg];exact(Zw (by repeat(first|(with_reducible first|exact HB.out|apply Zp|apply Zm|apply Zr)|exact HB.out))):w.heap.size≤gb72001));clear HB;have HB:=n0_;have BK72001:=n1_;have GW72001:=n2_;have GE72001:=n3_;clear n0_ n1_ n2_ n3_;clear hb hbox hg;have hcz11_0:w10.cell? ⟨gb72001,0,none⟩=some (.int .i64 a0_0):=(Zv BK72001.out 0).trans rfl;have hcz11_1:w10.cell? ⟨gb72001,1,none⟩=some (.int .i64 a0_1):=(Zv BK72001.out 1).trans rfl;have hfz11_0:=Zu BK72001.out 0;have hfz11_1:=Zu BK72001.out 1))
    go_ret
    exact⟨by first|rfl|(simp[ZA,Zz] <;> rfl)|(simp[*,ZA,Zz] <;> rfl),by repeat(first|(with_reducible first|exact HB.out|apply Zp|apply Zm|apply Zr|refine Zq ?_ GE72001.out)|exact HB.out)⟩
  ·rw[if_neg c3] at H
   have c3b0:decide (a0_0≤a0_1)=false:=Zf c3
   clear c3
   obtain rfl:=Zg H
   go_enter Try.func72,Try.ntmps72
   go_wp2_with (first|((with_reducible refine ZD (N:=1) rfl ?_);refine ZE ?hg (N:=1) ?hd (cs:=#[.int .i64 a0_0,.int .i64 a0_1]) (t:=29) ?hr ?_;(case hd=>rfl);(case hg=>rfl);(case hr=>first|(go_simp;done)|(go_simp;rfl));intro gb72001 hg w12 hbox hb;have n0_:=Za (Zx (by repeat(first|(with_reducible first|exact HB.out|apply Zp|apply Zm|apply Zr)|exact HB.out)) hb);have n1_:=Za (hbox);have n2_:=Za ((by rw[hg];exact(Zw (by repeat(first|(with_reducible first|exact HB.out|apply Zp|apply Zm|apply Zr)|exact HB.out))):w.heap.size≤gb72001));have n3_:=Za ((by rw[hg];exact(Zw (by repeat(first|(with_reducible first|exact HB.out|apply Zp|apply Zm|apply Zr)|exact HB.out))):w.heap.size≤gb72001));clear HB;have HB:=n0_;have BK72001:=n1_;have GW72001:=n2_;have GE72001:=n3_;clear n0_ n1_ n2_ n3_;clear hb hbox hg;have hcz13_0:w12.cell? ⟨gb72001,0,none⟩=some (.int .i64 a0_0):=(Zv BK72001.out 0).trans rfl;have hcz13_1:w12.cell? ⟨gb72001,1,none⟩=some (.int .i64 a0_1):=(Zv BK72001.out 1).trans rfl;have hfz13_0:=Zu BK72001.out 0;have hfz13_1:=Zu BK72001.out 1))
   go_ret
   exact⟨by first|rfl|(simp[ZA,Zz] <;> rfl)|(simp[*,ZA,Zz] <;> rfl),by repeat(first|(with_reducible first|exact HB.out|apply Zp|apply Zm|apply Zr|refine Zq ?_ GE72001.out)|exact HB.out)⟩
 ·rw[if_neg c2] at H
  have c2b0:decide ((-1000000)≤a0_0)=false:=Zf c2
  clear c2
  obtain rfl:=Zg H
  go_enter Try.func72,Try.ntmps72
  go_wp2_with (first|((with_reducible refine ZD (N:=1) rfl ?_);refine ZE ?hg (N:=1) ?hd (cs:=#[.int .i64 a0_0,.int .i64 a0_1]) (t:=29) ?hr ?_;(case hd=>rfl);(case hg=>rfl);(case hr=>first|(go_simp;done)|(go_simp;rfl));intro gb72001 hg w14 hbox hb;have n0_:=Za (Zx (by repeat(first|(with_reducible first|exact HB.out|apply Zp|apply Zm|apply Zr)|exact HB.out)) hb);have n1_:=Za (hbox);have n2_:=Za ((by rw[hg];exact(Zw (by repeat(first|(with_reducible first|exact HB.out|apply Zp|apply Zm|apply Zr)|exact HB.out))):w.heap.size≤gb72001));have n3_:=Za ((by rw[hg];exact(Zw (by repeat(first|(with_reducible first|exact HB.out|apply Zp|apply Zm|apply Zr)|exact HB.out))):w.heap.size≤gb72001));clear HB;have HB:=n0_;have BK72001:=n1_;have GW72001:=n2_;have GE72001:=n3_;clear n0_ n1_ n2_ n3_;clear hb hbox hg;have hcz15_0:w14.cell? ⟨gb72001,0,none⟩=some (.int .i64 a0_0):=(Zv BK72001.out 0).trans rfl;have hcz15_1:w14.cell? ⟨gb72001,1,none⟩=some (.int .i64 a0_1):=(Zv BK72001.out 1).trans rfl;have hfz15_0:=Zu BK72001.out 0;have hfz15_1:=Zu BK72001.out 1))
  go_ret
  exact⟨by first|rfl|(simp[ZA,Zz] <;> rfl)|(simp[*,ZA,Zz] <;> rfl),by repeat(first|(with_reducible first|exact HB.out|apply Zp|apply Zm|apply Zr|refine Zq ?_ GE72001.out)|exact HB.out)⟩
end Go.Proofs.Ytpoffpdaadhkgaa.Pr
namespace Go.Proofs.Ytpoffpdaadhkgaa.Pr
open Go.RowKit Go.Proofs.YtpoffpdaadhkgaaW.PrintWords Go.Proofs.YtpoffpdaadhkgaaW.PrintLast Go.Proofs.YtpoffpdaadhkgaaW.PrintMore
attribute [local go_sem] Z7 Z5 Zaf Zae ZY ZX Z6 Z4
set_option linter.unusedVariables false
set_option linter.unusedSimpArgs false
open Go.Proofs.Ytpoffpdaadhkgaa.Ni
def ivOkB (lo hi:Int):Bool:=decide (-1000000≤lo) && (decide (lo≤hi) && (decide (hi≤1000000) && (!(decide (lo=1000000)) && !(decide (hi=-1000000)))))
theorem ivOk_f (lo hi:Int):Za0.f lo hi=some (ivOkB lo hi):=by
 unfold Za0.f ivOkB
 by_cases h1:lo≥-1000000
 ·rw[if_pos h1,Ze (show(-1000000:Int)≤lo from h1),Bool.true_and]
  by_cases h2:lo≤hi
  ·rw[if_pos h2,Ze h2,Bool.true_and]
   by_cases h3:hi≤1000000
   ·rw[if_pos h3,Ze h3,Bool.true_and]
    by_cases h4:lo=1000000
    ·rw[if_pos h4,Ze h4];rfl
    ·rw[if_neg h4,Zf h4]
     congr 1
   ·rw[if_neg h3,Zf h3];rfl
  ·rw[if_neg h2,Zf h2];rfl
 ·rw[if_neg h1,Zf (show ¬(-1000000:Int)≤lo from h1)];rfl
def ZaI (n:Int) (x:S101):Bool:=inN n x.f0 && (inN n x.f1 && ivOkB x.f2.f0 x.f2.f1)
def Zac (n:Int) (ls:List S101):Bool:=!(decide (n<1)) && (!(decide (8<n)) && (!(decide (40<ls.length)) && !(ls.any fun x=>!ZaI n x)))
def Zag.f (a0_0:Int) (l0_1:List (S101)):Option Bool:=some (Zac a0_0 l0_1)
set_option maxHeartbeats 4000000 in
theorem ZcC.clo (B:Nat) (n:Int) (W:World) (hB:W.cell? ⟨B,0,none⟩=some (.int .i64 n)) (x:S101) :
  Calls Try.prog 70 #[.agg #[.int .i64 x.f0,.int .i64 x.f1,.int .i64 x.f2.f0,.int .i64 x.f2.f1],.pointer (some ⟨B,0,none⟩)] W fun e w'=>e=.returned (.bool (!ZaI n x))∧Below W.heap.size W w':=by
 have hlt:B<W.heap.size:=Zc W _ hB
 have hu:=Try.underlying101
 have hu2:=Try.underlying29
 have hu3:=Try.underlying25
 obtain⟨f0,f1,⟨f2,f3⟩⟩:=x
 have HE:=Za (show ZaI n ⟨f0,f1,⟨f2,f3⟩⟩=(inN n f0 && (inN n f1 && ivOkB f2 f3)) from rfl)
 have HI:=Za fun (w:World)=>Za0.calls f2 f3 _ w (ivOk_f f2 f3)
 cases b1:inN n f0 with
 | false=>
  have HF:=Za (show ZaI n ⟨f0,f1,⟨f2,f3⟩⟩=false by rw[HE.out,b1];rfl)
  clear HE
  go_enter Try.func70,Try.ntmps70
  go_wp2_with (go_at_call 71;refine(Zbr _ _ _).mono ?_;rintro e w' ⟨rfl,nd,rfl⟩)
  go_ret
  exact⟨by rw[HF.out];rfl,by repeat(first|exact Below.refl _ _|apply Zp|apply Zm|apply ZaB)⟩
 | true=>
 cases b2:inN n f1 with
 | false=>
  have HF:=Za (show ZaI n ⟨f0,f1,⟨f2,f3⟩⟩=false by rw[HE.out,b1,b2];rfl)
  clear HE
  go_enter Try.func70,Try.ntmps70
  go_wp2_with (go_at_call 71;refine(Zbr _ _ _).mono ?_;rintro e w' ⟨rfl,nd,rfl⟩)
  go_ret
  exact⟨by rw[HF.out];rfl,by repeat(first|exact Below.refl _ _|apply Zp|apply Zm|apply ZaB)⟩
 | true=>
 have HF:=Za (show ZaI n ⟨f0,f1,⟨f2,f3⟩⟩=ivOkB f2 f3 by rw[HE.out,b1,b2];rfl)
 clear HE
 go_enter Try.func70,Try.ntmps70
 go_wp2_with (first|(go_at_call 71;refine(Zbr _ _ _).mono ?_;rintro e w' ⟨rfl,nd,rfl⟩)|(go_at_call 72;refine(HI.out _).mono ?_;rintro e w' ⟨rfl,hb⟩))
 go_ret
 exact⟨by rw[HF.out];rfl,Zx (by repeat(first|exact Below.refl _ _|apply Zp|apply Zm|apply ZaB)) hb⟩
set_option maxHeartbeats 4000000 in
set_option maxRecDepth 100000 in
theorem Zag.calls (a0_0:Int) (A0_1:Option Addr) (c0_1:Nat) (l0_1:List (S101)) (r:Bool) (w:World) (hr0_1:Kd.C k101 w A0_1 l0_1.length l0_1) (hc0_1:l0_1.length≤c0_1) (h:Zag.f a0_0 l0_1=some r) :
  Calls Try.prog 19 #[.agg #[.int .i64 a0_0,.slice A0_1 l0_1.length c0_1]] w fun e w'=>e=.returned (.bool r)∧Below w.heap.size w w':=by
 obtain rfl:=Zg h
 have hL:l0_1.length≤9223372036854775807:=hr0_1.2.1
 have HC:=Za fun (W:World) (B:Nat) (hb:Below w.heap.size w W) (hcell:W.cell? ⟨B,0,none⟩=some (.int .i64 a0_0))=>impl_Link_69.any (fun x=>!ZaI a0_0 x) 70 #[.pointer (some ⟨B,0,none⟩)] (enters_of Try.func70 (by kernel_rfl) rfl) A0_1 c0_1 l0_1 W (Zb hr0_1 hb)
    (fun W' x _ hb'=>ZcC.clo B a0_0 W' (ZO hb' hcell) x)
 have hu:=Try.underlying25
 have HB:=Za (Zp (Below.refl w.heap.size w) (.cells #[.int .i64 a0_0,.slice A0_1 l0_1.length c0_1] 25))
 clear hr0_1 h
 cases b1:decide (a0_0<1) with
 | true=>
  have HF:=Za (show Zac a0_0 l0_1=false by unfold Zac;rw[b1];rfl)
  go_enter Try.func19,Try.ntmps19
  go_wp2
  go_ret
  exact⟨by rw[HF.out];rfl,HB.out⟩
 | false=>
 cases b2:decide (8<a0_0) with
 | true=>
  have HF:=Za (show Zac a0_0 l0_1=false by unfold Zac;rw[b1,b2];rfl)
  go_enter Try.func19,Try.ntmps19
  go_wp2
  go_ret
  exact⟨by rw[HF.out];rfl,HB.out⟩
 | false=>
 by_cases q3:40<l0_1.length
 ·have b3:decide (40<l0_1.length)=true:=Ze q3
  have z3:(40:Int)<(l0_1.length:Int):=by omega
  have HF:=Za (show Zac a0_0 l0_1=false by unfold Zac;rw[b1,b2,b3];rfl)
  clear b3 q3
  go_enter Try.func19,Try.ntmps19
  go_wp2
  go_ret
  exact⟨by rw[HF.out];rfl,HB.out⟩
 ·have b3:decide (40<l0_1.length)=false:=Zf q3
  have z3:¬(40:Int)<(l0_1.length:Int):=by omega
  have HF:=Za (show Zac a0_0 l0_1=!(l0_1.any fun x=>!ZaI a0_0 x) by unfold Zac;rw[b1,b2,b3];rfl)
  clear b3 q3
  generalize l0_1.any (fun x=>!ZaI a0_0 x)=q at HC HF
  go_enter Try.func19,Try.ntmps19
  go_wp2_with fail
  refine(HC.out _ _ HB.out (by go_simp)).mono ?_
  rintro e w' ⟨rfl,hb⟩
  go_wp2
  go_ret
  exact⟨by rw[HF.out];rfl,HB.out.trans (hb.mono HB.out.size)⟩
end Go.Proofs.Ytpoffpdaadhkgaa.Pr
