/- By a program of this session. -/
import Derived.Test.YtoeimopgoaffcaaGreatDoorProg
import Derived.ChangeArms
import Derived.ChangeSlices
import Derived.WideShapes
import Derived.Deep.Slices
import Derived.Test.YtoeimopgoaffcaaGreatDoorBBe0
set_option maxHeartbeats 8000000
set_option maxRecDepth 100000
namespace Go.Proofs.YtoeimopgoaffcaaGreatDoor.Pr
open RowKit YtoeimopgoaffcaaGreatDoorW.PrintWords YtoeimopgoaffcaaGreatDoorW.PrintLast YtoeimopgoaffcaaGreatDoorW.PrintMore
attribute [local go_sem] Zau Zas ZaL ZaK Zaf Zae Zat Zar
set_option linter.unusedVariables false
set_option linter.unusedSimpArgs false
def errW:Option Int→Value
 | none=>.nilIface
 | some c=>.iface 198 (.int .i64 c)
theorem ZB:errW none=.nilIface:=rfl
theorem ZA (c:Int):errW (some c)=.iface 198 (.int .i64 c):=rfl
theorem ZbI:(Tryz.prog.info? 3).map (fun i=>(i.zero,i.size,i.bytes))=some (some (.int .i64 0),1,8):=by kernel_rfl
theorem info4:(Tryz.prog.info? 4).map (fun i=>(i.zero,i.size,i.bytes))=some (some (.bool false),1,1):=by kernel_rfl
theorem info9:(Tryz.prog.info? 9).map (fun i=>(i.zero,i.size,i.bytes))=some (some (.string ⟨#[]⟩),1,16):=by kernel_rfl
theorem info39:(Tryz.prog.info? 39).map (fun i=>(i.zero,i.size,i.bytes))=some (some (.agg #[(.string ⟨#[]⟩),(.slice none 0 0),(.int .i64 0)]),3,48):=by kernel_rfl
theorem info82:(Tryz.prog.info? 82).map (fun i=>(i.zero,i.size,i.bytes))=some (some (.agg #[(.int .i64 0),(.int .i64 0),(.int .i64 0),(.int .i64 0),(.bool false)]),5,40):=by kernel_rfl
theorem ZdP:(Tryz.prog.info? 112).map (fun i=>(i.zero,i.size,i.bytes))=some (some (.agg #[(.int .i64 0),(.int .i64 0),(.int .i64 0),(.int .i64 0)]),4,32):=by kernel_rfl
theorem Zdg:(Tryz.prog.info? 184).map (fun i=>(i.zero,i.size,i.bytes))=some (some (.agg #[(.int .i64 0),(.int .i64 0),(.int .i64 0)]),3,24):=by kernel_rfl
structure S39 where
 f0:ByteArray
 f1:(List Int)
 f2:Int
def z39:S39:=⟨(⟨#[]⟩:ByteArray),([]:List Int),(0:Int)⟩
def k39:Kd S39:=Kd.iso (Kd.pair Kd.string (Kd.pair (Kd.slice 3 (Kd.int .i64)) (Kd.int .i64))) (fun x:S39=>(x.f0,x.f1,x.f2))
theorem k39_open {w:World} {x:S39} {cs:List Value} (h:k39.K w x cs):∃A1 c1,cs=[.string x.f0,.slice A1 x.f1.length c1,.int .i64 x.f2]∧x.f1.length≤c1∧(Kd.int .i64).C w A1 x.f1.length x.f1:=by
 obtain⟨_,_,rfl,rfl,⟨_,_,rfl,⟨A1,c1,rfl,l1,g1⟩,rfl⟩⟩:=h
 exact⟨A1,c1,rfl,l1,g1⟩
theorem Ze0 {w:World} {base:Nat} {ok:Nat→Prop} {x:S39} {cs:List Value} (h:k39.M w base ok x cs):∃v1,cs=[.string x.f0,v1,.int .i64 x.f2]∧(Kd.int .i64).R 3 w base ok v1 x.f1:=by
 obtain⟨_,_,rfl,rfl,⟨_,_,rfl,⟨v1,rfl,g1⟩,rfl⟩⟩:=h
 exact⟨v1,rfl,g1⟩
theorem k39_mkM (w:World) (base:Nat) (ok:Nat→Prop) (x:S39) {v1:Value} (g1:(Kd.int .i64).R 3 w base ok v1 x.f1):k39.M w base ok x [.string x.f0,v1,.int .i64 x.f2]:=⟨[.string x.f0],[v1,.int .i64 x.f2],rfl,rfl,⟨[v1],[.int .i64 x.f2],rfl,⟨v1,rfl,g1⟩,rfl⟩⟩
def ZI (xs:List S39) (i:Int):S39:=xs.getD i.toNat z39
theorem ZaS {w:World} {A:Option Addr} {n:Nat} {xs:List S39} (h:Kd.C k39 w A n xs) (i:Int) (h0:0≤i) (h1:i<n):∃ad A1 c1,A=some ad∧w.cell? (ad.add (i.toNat * 3))=some (.string (ZI xs i).f0)∧w.cell? ⟨(ad.add (i.toNat * 3)).block,(ad.add (i.toNat * 3)).off+1,none⟩=some (.slice A1 (ZI xs i).f1.length c1)∧w.cell? ⟨(ad.add (i.toNat * 3)).block,(ad.add (i.toNat * 3)).off+2,none⟩=some (.int .i64 (ZI xs i).f2)∧(ZI xs i).f1.length≤c1∧(Kd.int .i64).C w A1 (ZI xs i).f1.length (ZI xs i).f1:=by
 obtain⟨ad,c,e,_,hK,hc0⟩:=Kd.C_get h z39 i h0 h1
 have hc:∀j u,c[j]? = some u→w.cell? (ad.add (i.toNat * 3+j))=some u:=hc0
 obtain⟨A1,c1,rfl,l1,g1⟩:=k39_open hK
 exact⟨ad,A1,c1,e,hc 0 _ rfl,by rw[← Zbd _ _ 1 (by omega)];exact hc 1 _ rfl,by rw[← Zbd _ _ 2 (by omega)];exact hc 2 _ rfl,l1,g1⟩
structure S82 where
 f0:Int
 f1:Int
 f2:Int
 f3:Int
 f4:Bool
def z82:S82:=⟨(0:Int),(0:Int),(0:Int),(0:Int),false⟩
def k82:Kd S82:=Kd.iso (Kd.pair (Kd.int .i64) (Kd.pair (Kd.int .i64) (Kd.pair (Kd.int .i64) (Kd.pair (Kd.int .i64) Kd.bool)))) (fun x:S82=>(x.f0,x.f1,x.f2,x.f3,x.f4))
theorem k82_open {w:World} {x:S82} {cs:List Value} (h:k82.K w x cs):cs=[.int .i64 x.f0,.int .i64 x.f1,.int .i64 x.f2,.int .i64 x.f3,.bool x.f4]:=by
 obtain⟨_,_,rfl,rfl,⟨_,_,rfl,rfl,⟨_,_,rfl,rfl,⟨_,_,rfl,rfl,rfl⟩⟩⟩⟩:=h
 exact rfl
theorem ZbM {w:World} {base:Nat} {ok:Nat→Prop} {x:S82} {cs:List Value} (h:k82.M w base ok x cs):cs=[.int .i64 x.f0,.int .i64 x.f1,.int .i64 x.f2,.int .i64 x.f3,.bool x.f4]:=by
 obtain⟨_,_,rfl,rfl,⟨_,_,rfl,rfl,⟨_,_,rfl,rfl,⟨_,_,rfl,rfl,rfl⟩⟩⟩⟩:=h
 exact rfl
theorem Zdr (w:World) (base:Nat) (ok:Nat→Prop) (x:S82)  : k82.M w base ok x [.int .i64 x.f0,.int .i64 x.f1,.int .i64 x.f2,.int .i64 x.f3,.bool x.f4]:=⟨[.int .i64 x.f0],[.int .i64 x.f1,.int .i64 x.f2,.int .i64 x.f3,.bool x.f4],rfl,rfl,⟨[.int .i64 x.f1],[.int .i64 x.f2,.int .i64 x.f3,.bool x.f4],rfl,rfl,⟨[.int .i64 x.f2],[.int .i64 x.f3,.bool x.f4],rfl,rfl,⟨[.int .i64 x.f3],[.bool x.f4],rfl,rfl,rfl⟩⟩⟩⟩
def Zu (xs:List S82) (i:Int):S82:=xs.getD i.toNat z82
theorem ZbS {w:World} {A:Option Addr} {n:Nat} {xs:List S82} (h:Kd.C k82 w A n xs) (i:Int) (h0:0≤i) (h1:i<n):∃ad ,A=some ad∧w.cell? (ad.add (i.toNat * 5))=some (.int .i64 (Zu xs i).f0)∧w.cell? ⟨(ad.add (i.toNat * 5)).block,(ad.add (i.toNat * 5)).off+1,none⟩=some (.int .i64 (Zu xs i).f1)∧w.cell? ⟨(ad.add (i.toNat * 5)).block,(ad.add (i.toNat * 5)).off+2,none⟩=some (.int .i64 (Zu xs i).f2)∧w.cell? ⟨(ad.add (i.toNat * 5)).block,(ad.add (i.toNat * 5)).off+3,none⟩=some (.int .i64 (Zu xs i).f3)∧w.cell? ⟨(ad.add (i.toNat * 5)).block,(ad.add (i.toNat * 5)).off+4,none⟩=some (.bool (Zu xs i).f4):=by
 obtain⟨ad,c,e,_,hK,hc0⟩:=Kd.C_get h z82 i h0 h1
 have hc:∀j u,c[j]? = some u→w.cell? (ad.add (i.toNat * 5+j))=some u:=hc0
 obtain rfl:=k82_open hK
 exact⟨ad,e,hc 0 _ rfl,by rw[← Zbd _ _ 1 (by omega)];exact hc 1 _ rfl,by rw[← Zbd _ _ 2 (by omega)];exact hc 2 _ rfl,by rw[← Zbd _ _ 3 (by omega)];exact hc 3 _ rfl,by rw[← Zbd _ _ 4 (by omega)];exact hc 4 _ rfl⟩
structure S25 where
 f0:(List S39)
 f1:(List S82)
 f2:Int
structure S143 where
 f0:ByteArray
 f1:(List Int)
 f2:Int
def z143:S143:=⟨(⟨#[]⟩:ByteArray),([]:List Int),(0:Int)⟩
def k143:Kd S143:=Kd.iso (Kd.pair Kd.string (Kd.pair (Kd.slice 3 (Kd.int .i64)) (Kd.int .i64))) (fun x:S143=>(x.f0,x.f1,x.f2))
theorem k143_open {w:World} {x:S143} {cs:List Value} (h:k143.K w x cs):∃A1 c1,cs=[.string x.f0,.slice A1 x.f1.length c1,.int .i64 x.f2]∧x.f1.length≤c1∧(Kd.int .i64).C w A1 x.f1.length x.f1:=by
 obtain⟨_,_,rfl,rfl,⟨_,_,rfl,⟨A1,c1,rfl,l1,g1⟩,rfl⟩⟩:=h
 exact⟨A1,c1,rfl,l1,g1⟩
def ZaJ (xs:List S143) (i:Int):S143:=xs.getD i.toNat z143
theorem at_T143 {w:World} {A:Option Addr} {n:Nat} {xs:List S143} (h:Kd.C k143 w A n xs) (i:Int) (h0:0≤i) (h1:i<n):∃ad A1 c1,A=some ad∧w.cell? (ad.add (i.toNat * 3))=some (.string (ZaJ xs i).f0)∧w.cell? ⟨(ad.add (i.toNat * 3)).block,(ad.add (i.toNat * 3)).off+1,none⟩=some (.slice A1 (ZaJ xs i).f1.length c1)∧w.cell? ⟨(ad.add (i.toNat * 3)).block,(ad.add (i.toNat * 3)).off+2,none⟩=some (.int .i64 (ZaJ xs i).f2)∧(ZaJ xs i).f1.length≤c1∧(Kd.int .i64).C w A1 (ZaJ xs i).f1.length (ZaJ xs i).f1:=by
 obtain⟨ad,c,e,_,hK,hc0⟩:=Kd.C_get h z143 i h0 h1
 have hc:∀j u,c[j]? = some u→w.cell? (ad.add (i.toNat * 3+j))=some u:=hc0
 obtain⟨A1,c1,rfl,l1,g1⟩:=k143_open hK
 exact⟨ad,A1,c1,e,hc 0 _ rfl,by rw[← Zbd _ _ 1 (by omega)];exact hc 1 _ rfl,by rw[← Zbd _ _ 2 (by omega)];exact hc 2 _ rfl,l1,g1⟩
structure S147 where
 f0:Int
 f1:Int
 f2:Int
 f3:Int
 f4:Bool
def z147:S147:=⟨(0:Int),(0:Int),(0:Int),(0:Int),false⟩
def k147:Kd S147:=Kd.iso (Kd.pair (Kd.int .i64) (Kd.pair (Kd.int .i64) (Kd.pair (Kd.int .i64) (Kd.pair (Kd.int .i64) Kd.bool)))) (fun x:S147=>(x.f0,x.f1,x.f2,x.f3,x.f4))
theorem k147_open {w:World} {x:S147} {cs:List Value} (h:k147.K w x cs):cs=[.int .i64 x.f0,.int .i64 x.f1,.int .i64 x.f2,.int .i64 x.f3,.bool x.f4]:=by
 obtain⟨_,_,rfl,rfl,⟨_,_,rfl,rfl,⟨_,_,rfl,rfl,⟨_,_,rfl,rfl,rfl⟩⟩⟩⟩:=h
 exact rfl
def Zbe (xs:List S147) (i:Int):S147:=xs.getD i.toNat z147
theorem at_T147 {w:World} {A:Option Addr} {n:Nat} {xs:List S147} (h:Kd.C k147 w A n xs) (i:Int) (h0:0≤i) (h1:i<n):∃ad ,A=some ad∧w.cell? (ad.add (i.toNat * 5))=some (.int .i64 (Zbe xs i).f0)∧w.cell? ⟨(ad.add (i.toNat * 5)).block,(ad.add (i.toNat * 5)).off+1,none⟩=some (.int .i64 (Zbe xs i).f1)∧w.cell? ⟨(ad.add (i.toNat * 5)).block,(ad.add (i.toNat * 5)).off+2,none⟩=some (.int .i64 (Zbe xs i).f2)∧w.cell? ⟨(ad.add (i.toNat * 5)).block,(ad.add (i.toNat * 5)).off+3,none⟩=some (.int .i64 (Zbe xs i).f3)∧w.cell? ⟨(ad.add (i.toNat * 5)).block,(ad.add (i.toNat * 5)).off+4,none⟩=some (.bool (Zbe xs i).f4):=by
 obtain⟨ad,c,e,_,hK,hc0⟩:=Kd.C_get h z147 i h0 h1
 have hc:∀j u,c[j]? = some u→w.cell? (ad.add (i.toNat * 5+j))=some u:=hc0
 obtain rfl:=k147_open hK
 exact⟨ad,e,hc 0 _ rfl,by rw[← Zbd _ _ 1 (by omega)];exact hc 1 _ rfl,by rw[← Zbd _ _ 2 (by omega)];exact hc 2 _ rfl,by rw[← Zbd _ _ 3 (by omega)];exact hc 3 _ rfl,by rw[← Zbd _ _ 4 (by omega)];exact hc 4 _ rfl⟩
structure S58 where
 f0:(List Int)
 f1:(List Int)
structure S110 where
 f0:Int
 f1:Int
def z110:S110:=⟨(0:Int),(0:Int)⟩
def k110:Kd S110:=Kd.iso (Kd.pair (Kd.int .i64) (Kd.int .i64)) (fun x:S110=>(x.f0,x.f1))
theorem k110_open {w:World} {x:S110} {cs:List Value} (h:k110.K w x cs):cs=[.int .i64 x.f0,.int .i64 x.f1]:=by
 obtain⟨_,_,rfl,rfl,rfl⟩:=h
 exact rfl
theorem k110_mkM (w:World) (base:Nat) (ok:Nat→Prop) (x:S110)  : k110.M w base ok x [.int .i64 x.f0,.int .i64 x.f1]:=⟨[.int .i64 x.f0],[.int .i64 x.f1],rfl,rfl,rfl⟩
structure S112 where
 f0:Int
 f1:Int
 f2:S110
def z112:S112:=⟨(0:Int),(0:Int),z110⟩
def k112:Kd S112:=Kd.iso (Kd.pair (Kd.int .i64) (Kd.pair (Kd.int .i64) k110)) (fun x:S112=>(x.f0,x.f1,x.f2))
theorem k112_open {w:World} {x:S112} {cs:List Value} (h:k112.K w x cs):cs=[.int .i64 x.f0,.int .i64 x.f1,.int .i64 x.f2.f0,.int .i64 x.f2.f1]:=by
 obtain⟨_,_,rfl,rfl,⟨_,_,rfl,rfl,s2⟩⟩:=h
 obtain rfl:=k110_open s2
 exact rfl
theorem Zds (w:World) (base:Nat) (ok:Nat→Prop) (x:S112)  : k112.M w base ok x [.int .i64 x.f0,.int .i64 x.f1,.int .i64 x.f2.f0,.int .i64 x.f2.f1]:=⟨[.int .i64 x.f0],[.int .i64 x.f1,.int .i64 x.f2.f0,.int .i64 x.f2.f1],rfl,rfl,⟨[.int .i64 x.f1],[.int .i64 x.f2.f0,.int .i64 x.f2.f1],rfl,rfl,(k110_mkM w base ok x.f2 )⟩⟩
def Zcf (xs:List S112) (i:Int):S112:=xs.getD i.toNat z112
theorem Zfa {w:World} {A:Option Addr} {n:Nat} {xs:List S112} (h:Kd.C k112 w A n xs) (i:Int) (h0:0≤i) (h1:i<n):∃ad ,A=some ad∧w.cell? (ad.add (i.toNat * 4))=some (.int .i64 (Zcf xs i).f0)∧w.cell? ⟨(ad.add (i.toNat * 4)).block,(ad.add (i.toNat * 4)).off+1,none⟩=some (.int .i64 (Zcf xs i).f1)∧w.cell? ⟨(ad.add (i.toNat * 4)).block,(ad.add (i.toNat * 4)).off+2,none⟩=some (.int .i64 (Zcf xs i).f2.f0)∧w.cell? ⟨(ad.add (i.toNat * 4)).block,(ad.add (i.toNat * 4)).off+3,none⟩=some (.int .i64 (Zcf xs i).f2.f1):=by
 obtain⟨ad,c,e,_,hK,hc0⟩:=Kd.C_get h z112 i h0 h1
 have hc:∀j u,c[j]? = some u→w.cell? (ad.add (i.toNat * 4+j))=some u:=hc0
 obtain rfl:=k112_open hK
 exact⟨ad,e,hc 0 _ rfl,by rw[← Zbd _ _ 1 (by omega)];exact hc 1 _ rfl,by rw[← Zbd _ _ 2 (by omega)];exact hc 2 _ rfl,by rw[← Zbd _ _ 3 (by omega)];exact hc 3 _ rfl⟩
structure S54 where
 f0:Int
 f1:(List S112)
structure S184 where
 f0:Int
 f1:Int
 f2:Int
def z184:S184:=⟨(0:Int),(0:Int),(0:Int)⟩
def k184:Kd S184:=Kd.iso (Kd.pair (Kd.int .i64) (Kd.pair (Kd.int .i64) (Kd.int .i64))) (fun x:S184=>(x.f0,x.f1,x.f2))
theorem k184_open {w:World} {x:S184} {cs:List Value} (h:k184.K w x cs):cs=[.int .i64 x.f0,.int .i64 x.f1,.int .i64 x.f2]:=by
 obtain⟨_,_,rfl,rfl,⟨_,_,rfl,rfl,rfl⟩⟩:=h
 exact rfl
theorem ZcX (w:World) (base:Nat) (ok:Nat→Prop) (x:S184)  : k184.M w base ok x [.int .i64 x.f0,.int .i64 x.f1,.int .i64 x.f2]:=⟨[.int .i64 x.f0],[.int .i64 x.f1,.int .i64 x.f2],rfl,rfl,⟨[.int .i64 x.f1],[.int .i64 x.f2],rfl,rfl,rfl⟩⟩
def Zaw (xs:List S184) (i:Int):S184:=xs.getD i.toNat z184
theorem Zch {w:World} {A:Option Addr} {n:Nat} {xs:List S184} (h:Kd.C k184 w A n xs) (i:Int) (h0:0≤i) (h1:i<n):∃ad ,A=some ad∧w.cell? (ad.add (i.toNat * 3))=some (.int .i64 (Zaw xs i).f0)∧w.cell? ⟨(ad.add (i.toNat * 3)).block,(ad.add (i.toNat * 3)).off+1,none⟩=some (.int .i64 (Zaw xs i).f1)∧w.cell? ⟨(ad.add (i.toNat * 3)).block,(ad.add (i.toNat * 3)).off+2,none⟩=some (.int .i64 (Zaw xs i).f2):=by
 obtain⟨ad,c,e,_,hK,hc0⟩:=Kd.C_get h z184 i h0 h1
 have hc:∀j u,c[j]? = some u→w.cell? (ad.add (i.toNat * 3+j))=some u:=hc0
 obtain rfl:=k184_open hK
 exact⟨ad,e,hc 0 _ rfl,by rw[← Zbd _ _ 1 (by omega)];exact hc 1 _ rfl,by rw[← Zbd _ _ 2 (by omega)];exact hc 2 _ rfl⟩
structure S156 where
 f0:Int
 f1:(List S184)
structure S47 where
 f0:(List S143)
 f1:(List S147)
 f2:Int
def k47:Kd S47:=Kd.iso (Kd.pair (Kd.slice 143 k143) (Kd.pair (Kd.slice 147 k147) (Kd.int .i64))) (fun x:S47=>(x.f0,x.f1,x.f2))
theorem k47_open {w:World} {x:S47} {cs:List Value} (h:k47.K w x cs):∃A0 c0 A1 c1,cs=[.slice A0 x.f0.length c0,.slice A1 x.f1.length c1,.int .i64 x.f2]∧x.f0.length≤c0∧k143.C w A0 x.f0.length x.f0∧x.f1.length≤c1∧k147.C w A1 x.f1.length x.f1:=by
 obtain⟨_,_,rfl,⟨A0,c0,rfl,l0,g0⟩,⟨_,_,rfl,⟨A1,c1,rfl,l1,g1⟩,rfl⟩⟩:=h
 exact⟨A0,c0,A1,c1,rfl,l0,g0,l1,g1⟩
structure S49 where
 f0:(List Int)
 f1:(List Int)
def k49:Kd S49:=Kd.iso (Kd.pair (Kd.slice 3 (Kd.int .i64)) (Kd.slice 3 (Kd.int .i64))) (fun x:S49=>(x.f0,x.f1))
theorem k49_open {w:World} {x:S49} {cs:List Value} (h:k49.K w x cs):∃A0 c0 A1 c1,cs=[.slice A0 x.f0.length c0,.slice A1 x.f1.length c1]∧x.f0.length≤c0∧(Kd.int .i64).C w A0 x.f0.length x.f0∧x.f1.length≤c1∧(Kd.int .i64).C w A1 x.f1.length x.f1:=by
 obtain⟨_,_,rfl,⟨A0,c0,rfl,l0,g0⟩,⟨A1,c1,rfl,l1,g1⟩⟩:=h
 exact⟨A0,c0,A1,c1,rfl,l0,g0,l1,g1⟩
end Go.Proofs.YtoeimopgoaffcaaGreatDoor.Pr
namespace Go.Proofs.YtoeimopgoaffcaaGreatDoor.Op
open RowKit ChangeShapes WideShapes YtoeimopgoaffcaaGreatDoorW.PrintWords
structure Zbh {α:Type} (P:Program) (d:Kd α) (t:TypeId) (ok:α→Prop):Prop where
 cells:P.cellsOf t=d.sz
 op:∀{H:Type} {enc:TypeId×Value→H} {w:World} {base fuel:Nat} {cs:List Value} {x:DataW H×List MemPlace},DataW.trod enc P w base (fun _=>true) true fuel t cs=some x→∃y,d.K w y cs∧ok y
theorem Zbh.int {P:Program} {t:TypeId} {k:IntKind} (ht:P.underlying t=some (.int k)) (hc:P.cellsOf t=1):Zbh P (Kd.int k) t (fun n=>(Lit.int k n).wf=true):=
 ⟨hc,fun h=>by
  obtain⟨n,rfl,_,hw⟩:=DataW.trod_int ht h
  exact⟨n,rfl,hw⟩⟩
theorem Zbh.bool {P:Program} {t:TypeId} (ht:P.underlying t=some .bool) (hc:P.cellsOf t=1):Zbh P Kd.bool t (fun _=>True):=
 ⟨hc,fun h=>by
  obtain⟨n,rfl,_⟩:=DataW.trod_bool ht h
  exact⟨n,rfl,trivial⟩⟩
theorem Zbh.string {P:Program} {t:TypeId} (ht:P.underlying t=some .string) (hc:P.cellsOf t=1):Zbh P Kd.string t (fun s=>s.size≤maxLen):=
 ⟨hc,fun h=>by
  obtain⟨n,rfl,_,hw⟩:=DataW.trod_string ht h
  exact⟨n,rfl,hw⟩⟩
theorem choose_list {β:Type} (Q:Nat→β→Prop) (n:Nat) (h:∀i,i<n→∃y,Q i y):∃l:List β,l.length=n∧∀i y,l[i]? = some y→Q i y:=by
 induction n with
 | zero=>exact⟨[],rfl,fun i y h=>by simp at h⟩
 | succ n ih=>
  obtain⟨l,hl,hq⟩:=ih (fun i hi=>h i (by omega))
  obtain⟨y,hy⟩:=h n (by omega)
  refine⟨l ++ [y],by simp[hl],fun i z hz=>?_⟩
  rcases Nat.lt_or_ge i l.length with hi|hi
  ·rw[List.getElem?_append_left hi] at hz
   exact hq i z hz
  ·have hlt:=(List.getElem?_eq_some_iff.1 hz).1
   rw[List.length_append,List.length_singleton] at hlt
   have e:i=l.length:=by omega
   subst e
   have hz':y=z:=by simpa using hz
   subst hz'
   rw[hl]
   exact hy
theorem Zbh.slice {α:Type} {P:Program} {d:Kd α} {t e:TypeId} {ok:α→Prop} (he:Zbh P d e ok) (ht:P.underlying t=some (.slice e)) (hc:P.cellsOf t=1) :
  Zbh P (Kd.slice e d) t (fun l=>l.length≤maxLen∧∀x∈l,ok x):=
 ⟨hc,fun {H enc w base fuel cs x} h=>by
  rcases DataW.trod_slice ht h with ⟨rfl,_⟩|⟨a,len,cap,elems,rest,n,_,rfl,_,hb,hl,hm,hlen,hel,_,_⟩
  ·exact⟨[],⟨none,0,rfl,Nat.le_refl _,rfl,by simp,fun h0=>absurd h0 (by simp)⟩,by simp⟩
  ·have key:∀i,i<len→∃y,ok y∧∃c,c.length=d.sz∧d.K w y c∧∀j u,c[j]? = some u→w.cell? (a.add (i * d.sz+j))=some u:=by
    intro i hi
    have hi':=hel i hi
    rw[Zl (by omega),Option.bind_eq_some_iff] at hi'
    obtain⟨cs',h1,h2⟩:=hi'
    obtain⟨y,hk,hy⟩:=he.op h2
    refine⟨y,hy,cs',d.K_len hk,hk,fun j u hu=>?_⟩
    have:=(World.cells?_some h1).2.2 j (by
     have:=(List.getElem?_eq_some_iff.1 hu).1
     rw[d.K_len hk] at this
     rw[he.cells];exact this)
    rw[he.cells] at this
    rw[Addr.add_add] at this
    rw[this,hu]
   obtain⟨l,hll,hq⟩:=choose_list _ len key
   refine⟨l,⟨some a,cap,by rw[hll],by omega,rfl,by rw[hll];simp only[maxLen] at hm;omega,fun h0=>⟨a,rfl,fun j p hj=>?_⟩⟩,by omega,fun x hx=>?_⟩
   ·obtain⟨_,hc'⟩:=hq j p hj
    exact hc'
   ·obtain⟨i,hi⟩:=List.getElem?_of_mem hx
    exact(hq i x hi).1⟩
theorem Zc1 {α β:Type} {a:Kd α} {b:Kd β} {w:World} {x:α} {y:β} {cs:List Value} {off:Nat} (h0:a.K w x ((cs.drop off).take a.sz)) (h1:b.K w y ((cs.drop (off+a.sz)).take b.sz)) :
  (Kd.pair a b).K w (x,y) ((cs.drop off).take (Kd.pair a b).sz):=
 ⟨_,_,by show(cs.drop off).take (a.sz+b.sz)=_;rw[List.take_add,List.drop_drop],h0,h1⟩
theorem Zbh.fieldAt {α:Type} {P:Program} {d:Kd α} {t:TypeId} {ok:α→Prop} (ho:Zbh P d t ok) {H:Type} {enc:TypeId×Value→H} {w:World} {base fuel off:Nat} {cs:List Value} {x:Option (DataW H×List MemPlace)}
  (h:DataW.trod enc P w base (fun _=>true) true fuel t ((cs.drop off).take (P.cellsOf t))=x) (hx:x.isSome=true):∃y,d.K w y ((cs.drop off).take d.sz)∧ok y:=by
 obtain⟨z,rfl⟩:=Option.isSome_iff_exists.1 hx
 obtain⟨y,hk,hy⟩:=ho.op h
 rw[ho.cells] at hk
 exact⟨y,hk,hy⟩
end Go.Proofs.YtoeimopgoaffcaaGreatDoor.Op
namespace Go.Proofs.YtoeimopgoaffcaaGreatDoor.Pr
open RowKit YtoeimopgoaffcaaGreatDoorW.PrintWords YtoeimopgoaffcaaGreatDoorW.PrintLast YtoeimopgoaffcaaGreatDoorW.PrintMore
attribute [local go_sem] Zau Zas ZaL ZaK Zaf Zae Zat Zar
set_option linter.unusedVariables false
set_option linter.unusedSimpArgs false
open Go.Proofs.YtoeimopgoaffcaaGreatDoor.Op ChangeShapes WideShapes
def okS143 (x:S143):Prop:=(fun s_:ByteArray=>s_.size≤maxLen) x.f0∧(fun l_:List Int=>l_.length≤maxLen∧∀x_∈l_,(fun n_:Int=>(Lit.int .i64 n_).wf=true) x_) x.f1∧(fun n_:Int=>(Lit.int .i64 n_).wf=true) x.f2
theorem op_k143:Zbh Tryz.prog k143 143 okS143:=
 ⟨by kernel_rfl,fun {H enc w base fuel cs x} h=>by
  obtain⟨xs,n,_,_,hl,hlen,hf⟩:=DataW.trod_struct Tryz.underlying143 h
  have hl':cs.length=3:=hl.trans (by kernel_rfl)
  have hlen':xs.length=3:=hlen
  obtain⟨y0,h0,o0⟩:=(Zbh.string Tryz.underlying9 (by kernel_rfl)).fieldAt (hf 0 _ rfl) (by rw[Zl (by omega)];rfl)
  obtain⟨y1,h1,o1⟩:=(Zbh.slice (Zbh.int Tryz.underlying3 (by kernel_rfl)) Tryz.underlying37 (by kernel_rfl)).fieldAt (hf 1 _ rfl) (by rw[Zl (by omega)];rfl)
  obtain⟨y2,h2,o2⟩:=(Zbh.int Tryz.underlying3 (by kernel_rfl)).fieldAt (hf 2 _ rfl) (by rw[Zl (by omega)];rfl)
  have hk:k143.K w ⟨y0,y1,y2⟩ ((cs.drop 0).take k143.sz):=(Zc1 (off:=0) h0 (Zc1 (off:=1) h1 h2))
  have hcs:(cs.drop 0).take k143.sz=cs:=by rw[List.drop_zero];exact List.take_of_length_le (by rw[hl'];exact Nat.le_refl _)
  rw[hcs] at hk
  exact⟨_,hk,o0,o1,o2⟩⟩
def okS147 (x:S147):Prop:=(fun n_:Int=>(Lit.int .i64 n_).wf=true) x.f0∧(fun n_:Int=>(Lit.int .i64 n_).wf=true) x.f1∧(fun n_:Int=>(Lit.int .i64 n_).wf=true) x.f2∧(fun n_:Int=>(Lit.int .i64 n_).wf=true) x.f3∧(fun _:Bool=>True) x.f4
theorem op_k147:Zbh Tryz.prog k147 147 okS147:=
 ⟨by kernel_rfl,fun {H enc w base fuel cs x} h=>by
  obtain⟨xs,n,_,_,hl,hlen,hf⟩:=DataW.trod_struct Tryz.underlying147 h
  have hl':cs.length=5:=hl.trans (by kernel_rfl)
  have hlen':xs.length=5:=hlen
  obtain⟨y0,h0,o0⟩:=(Zbh.int Tryz.underlying3 (by kernel_rfl)).fieldAt (hf 0 _ rfl) (by rw[Zl (by omega)];rfl)
  obtain⟨y1,h1,o1⟩:=(Zbh.int Tryz.underlying3 (by kernel_rfl)).fieldAt (hf 1 _ rfl) (by rw[Zl (by omega)];rfl)
  obtain⟨y2,h2,o2⟩:=(Zbh.int Tryz.underlying3 (by kernel_rfl)).fieldAt (hf 2 _ rfl) (by rw[Zl (by omega)];rfl)
  obtain⟨y3,h3,o3⟩:=(Zbh.int Tryz.underlying3 (by kernel_rfl)).fieldAt (hf 3 _ rfl) (by rw[Zl (by omega)];rfl)
  obtain⟨y4,h4,o4⟩:=(Zbh.bool Tryz.underlying4 (by kernel_rfl)).fieldAt (hf 4 _ rfl) (by rw[Zl (by omega)];rfl)
  have hk:k147.K w ⟨y0,y1,y2,y3,y4⟩ ((cs.drop 0).take k147.sz):=(Zc1 (off:=0) h0 (Zc1 (off:=1) h1 (Zc1 (off:=2) h2 (Zc1 (off:=3) h3 h4))))
  have hcs:(cs.drop 0).take k147.sz=cs:=by rw[List.drop_zero];exact List.take_of_length_le (by rw[hl'];exact Nat.le_refl _)
  rw[hcs] at hk
  exact⟨_,hk,o0,o1,o2,o3,o4⟩⟩
def okS47 (x:S47):Prop:=(fun l_:List (S143)=>l_.length≤maxLen∧∀x_∈l_,okS143 x_) x.f0∧(fun l_:List (S147)=>l_.length≤maxLen∧∀x_∈l_,okS147 x_) x.f1∧(fun n_:Int=>(Lit.int .i64 n_).wf=true) x.f2
theorem op_k47:Zbh Tryz.prog k47 47 okS47:=
 ⟨by kernel_rfl,fun {H enc w base fuel cs x} h=>by
  obtain⟨xs,n,_,_,hl,hlen,hf⟩:=DataW.trod_struct Tryz.underlying47 h
  have hl':cs.length=3:=hl.trans (by kernel_rfl)
  have hlen':xs.length=3:=hlen
  obtain⟨y0,h0,o0⟩:=(Zbh.slice op_k143 Tryz.underlying44 (by kernel_rfl)).fieldAt (hf 0 _ rfl) (by rw[Zl (by omega)];rfl)
  obtain⟨y1,h1,o1⟩:=(Zbh.slice op_k147 Tryz.underlying45 (by kernel_rfl)).fieldAt (hf 1 _ rfl) (by rw[Zl (by omega)];rfl)
  obtain⟨y2,h2,o2⟩:=(Zbh.int Tryz.underlying3 (by kernel_rfl)).fieldAt (hf 2 _ rfl) (by rw[Zl (by omega)];rfl)
  have hk:k47.K w ⟨y0,y1,y2⟩ ((cs.drop 0).take k47.sz):=(Zc1 (off:=0) h0 (Zc1 (off:=1) h1 h2))
  have hcs:(cs.drop 0).take k47.sz=cs:=by rw[List.drop_zero];exact List.take_of_length_le (by rw[hl'];exact Nat.le_refl _)
  rw[hcs] at hk
  exact⟨_,hk,o0,o1,o2⟩⟩
def okS49 (x:S49):Prop:=(fun l_:List Int=>l_.length≤maxLen∧∀x_∈l_,(fun n_:Int=>(Lit.int .i64 n_).wf=true) x_) x.f0∧(fun l_:List Int=>l_.length≤maxLen∧∀x_∈l_,(fun n_:Int=>(Lit.int .i64 n_).wf=true) x_) x.f1
theorem op_k49:Zbh Tryz.prog k49 49 okS49:=
 ⟨by kernel_rfl,fun {H enc w base fuel cs x} h=>by
  obtain⟨xs,n,_,_,hl,hlen,hf⟩:=DataW.trod_struct Tryz.underlying49 h
  have hl':cs.length=2:=hl.trans (by kernel_rfl)
  have hlen':xs.length=2:=hlen
  obtain⟨y0,h0,o0⟩:=(Zbh.slice (Zbh.int Tryz.underlying3 (by kernel_rfl)) Tryz.underlying37 (by kernel_rfl)).fieldAt (hf 0 _ rfl) (by rw[Zl (by omega)];rfl)
  obtain⟨y1,h1,o1⟩:=(Zbh.slice (Zbh.int Tryz.underlying3 (by kernel_rfl)) Tryz.underlying37 (by kernel_rfl)).fieldAt (hf 1 _ rfl) (by rw[Zl (by omega)];rfl)
  have hk:k49.K w ⟨y0,y1⟩ ((cs.drop 0).take k49.sz):=(Zc1 (off:=0) h0 h1)
  have hcs:(cs.drop 0).take k49.sz=cs:=by rw[List.drop_zero];exact List.take_of_length_le (by rw[hl'];exact Nat.le_refl _)
  rw[hcs] at hk
  exact⟨_,hk,o0,o1⟩⟩
end Go.Proofs.YtoeimopgoaffcaaGreatDoor.Pr
namespace Go.Proofs.YtoeimopgoaffcaaGreatDoor.Ni
open RowKit YtoeimopgoaffcaaGreatDoorW.PrintWords
theorem Zx {w W:World} (hb:Below w.heap.size w W) {a:Addr} {v:Value} (h:w.cell? a=some v):W.cell? a=some v:=(hb.cell (Zc w _ h)).trans h
theorem Zay {i:Int} (h0 : -9223372036854775808≤i) (h:i≤9223372036854775807):wrap64 i=i:=by
 unfold wrap64;omega
theorem ZL {i n:Nat} (h:i<n) (hn:n≤9223372036854775807):wrap64 ((i:Int)+1)=((i+1:Nat):Int):=by
 unfold wrap64;omega
theorem wrap_pred {i:Nat} (h:0<i) (hn:i≤9223372036854775807):wrap64 ((i:Int) - 1)=((i - 1:Nat):Int):=by
 unfold wrap64;omega
theorem ZaO (l:List Int) (i:Nat):rd l (i:Int)=l.getD i 0:=by unfold rd;rw[Int.toNat_natCast]
theorem Z8 {α:Type} {l:List α} {i:Nat} (h:i<l.length) (d:α):l.drop i=l.getD i d :: l.drop (i+1):=by
 rw[List.drop_eq_getElem_cons h,List.getD_eq_getElem?_getD,Zl h];rfl
theorem ZaG {α:Type} {l:List α} {i:Nat} (h:i<l.length) (d:α):l.getD i d∈l:=by
 rw[List.getD_eq_getElem?_getD,Zl h];exact List.getElem_mem h
theorem getD_some {α:Type} {l:List α} {i:Nat} (h:i<l.length) (d:α):l[i]? = some (l.getD i d):=by
 rw[List.getD_eq_getElem?_getD,Zl h];rfl
theorem ZdU {α:Type} (ys:List α) (z d:α) (i:Nat) (h:i<ys.length) (x:α) (hx:x=ys.getD i d):(ys.take i ++ List.replicate (ys.length - i) z).set i x=ys.take (i+1) ++ List.replicate (ys.length - (i+1)) z:=by
 subst hx
 have e:ys.length - i=(ys.length - (i+1))+1:=by omega
 rw[e,List.replicate_succ,List.set_append_right _ _ (by simp;omega)]
 have e2:i - (ys.take i).length=0:=by simp;omega
 rw[e2,List.set_cons_zero,List.take_succ_eq_append_getElem h,List.append_assoc]
 congr 2
 simp[List.getD_eq_getElem?_getD,Zl h]
theorem Za2 (n:Nat) (Q:Nat→Nat→Prop) (K:Nat) (hend:∀k,K≤k→Q (k+1) n) (hstep:∀k i,K≤k→i<n→Q k (i+1)→Q (k+1) i):∀(i k:Nat),i≤n→K+(n - i)<k→Q k i:=by
 have key:∀(d i k:Nat),i≤n→n - i=d→K+d<k→Q k i:=by
  intro d
  induction d with
  | zero=>
   intro i k hi hd hk
   obtain⟨m,rfl⟩:∃m,k=m+1:=⟨k - 1,by omega⟩
   obtain rfl:i=n:=by omega
   exact hend m (by omega)
  | succ d ih=>
   intro i k hi hd hk
   obtain⟨m,rfl⟩:∃m,k=m+1:=⟨k - 1,by omega⟩
   exact hstep m i (by omega) (by omega) (ih (i+1) m (by omega) (by omega) (by omega))
 intro i k hi hk
 exact key (n - i) i k hi rfl hk
theorem set_mid (pre:List Int) (x y:Int) (post:List Int):(pre ++ x :: post).set pre.length y=pre ++ y :: post:=by
 rw[List.set_append_right _ _ (Nat.le_refl _),Nat.sub_self,List.set_cons_zero]
def Za9 {α:Type} (p:α→Bool) (l:List α):Int:=match l.findIdx? p with|some i=>i|none=>-1
theorem Zb1 {α:Type} (p:α→Bool) (l:List α) (k:Nat) (x:α) (hk:l[k]? = some x) (hx:p x=true) (hb:∀j y,j<k→l[j]? = some y→p y=false):Za9 p l=(k:Int):=by
 have h:l.findIdx? p=some k:=by
  rw[List.findIdx?_eq_some_iff_getElem]
  obtain⟨hl,he⟩:=List.getElem?_eq_some_iff.1 hk
  refine⟨hl,by rw[he];exact hx,fun j hj=>?_⟩
  have:=hb j _ hj (Zl (by omega))
  simp[this]
 simp[Za9,h]
theorem ZbX {α:Type} (p:α→Bool) (l:List α) (hb:∀j y,j<l.length→l[j]? = some y→p y=false):Za9 p l=-1:=by
 have h:l.findIdx? p=none:=by
  rw[List.findIdx?_eq_none_iff]
  intro x hx
  obtain⟨j,hj⟩:=List.getElem?_of_mem hx
  exact hb j x (List.getElem?_eq_some_iff.1 hj).1 hj
 simp[Za9,h]
theorem Zdh {α:Type} (p:α→Bool) (l:List α):decide (0≤Za9 p l)=l.any p:=by
 unfold Za9
 cases h:l.findIdx? p with
 | some i=>
  rw[List.findIdx?_eq_some_iff_getElem] at h
  obtain⟨hl,hp,_⟩:=h
  have:l.any p=true:=List.any_eq_true.2 ⟨_,List.getElem_mem hl,hp⟩
  rw[this]
  exact Ze (Int.natCast_nonneg _)
 | none=>
  rw[List.findIdx?_eq_none_iff] at h
  have:l.any p=false:=by rw[List.any_eq_false];intro x hx;rw[h x hx];simp
  rw[this];rfl
theorem ZeE {α:Type} (p:α→Bool) (l:List α) : -1≤Za9 p l∧Za9 p l<l.length:=by
 unfold Za9
 cases h:l.findIdx? p with
 | some i=>
  rw[List.findIdx?_eq_some_iff_getElem] at h
  obtain⟨hl,_⟩:=h
  simp only;omega
 | none=>simp only;omega
def Zbp (x:Int):Bool:=!(x == 0) && decide (-3≤x) && decide (x≤3)
def prp (x:Int):Int:=if x<0 then -x else x
def Zb5 (p:Int):List Int→Bool
 | []=>true
 | x :: t=>Zbp x && decide (p<prp x) && Zb5 (prp x) t
def labB (l:List Int):Bool:=Zb5 0 l
def Zcl (l:List Int):Bool:=decide (l.length=3) && l.all (fun n=>decide (-1≤n) && decide (n≤1))
theorem Zb0 (x:Int):Zbp x=true↔x≠0∧-3≤x∧x≤3:=by
 simp[Zbp,and_assoc]
theorem Zde {x:Int} (h:Zbp x=true):1≤prp x∧prp x≤3:=by
 have:=(Zb0 x).1 h
 unfold prp;split <;> omega
def Zc6 (v:List Int) (a:Int):List Int→Int
 | []=>a
 | x :: t=>Zc6 v (min a (if x<0 then -(v.getD (prp x - 1).toNat 0) else v.getD (prp x - 1).toNat 0)) t
def stB (l v:List Int):Int:=Zc6 v 1 l
end Go.Proofs.YtoeimopgoaffcaaGreatDoor.Ni
namespace Go.Proofs.YtoeimopgoaffcaaGreatDoor.Pr
open RowKit YtoeimopgoaffcaaGreatDoorW.PrintWords YtoeimopgoaffcaaGreatDoorW.PrintLast YtoeimopgoaffcaaGreatDoorW.PrintMore
attribute [local go_sem] Zau Zas ZaL ZaK Zaf Zae Zat Zar
set_option linter.unusedVariables false
set_option linter.unusedSimpArgs false
def Zaj.l0:Nat→List Int→List Int→Int→Option (List Int)
 | 0,_,_,_=>none
 | k+1,x0,x3,x4=>if x4<(x0.length:Int) then(if 0≤x4 then(if x4<(x3.length:Int) then(Zaj.l0 k x0 (x3.set (x4:Int).toNat (rd x0 x4)) (wrap64 (x4+1))) else(none)) else(none)) else(some x3)
def Zaj.f (k:Nat) (l0:List Int):Option (List Int):=if 0≤(l0.length:Int) then(if ((l0.length:Int):Int).toNat≤35184372088832 then(Zaj.l0 k l0 (List.replicate ((l0.length:Int):Int).toNat 0) 0) else(none)) else(none)
theorem Zaj.calls (k:Nat) (A0:Option Addr) (c0:Nat) (l0:List Int) (r:List Int) (w:World) (hr0:Kd.C (Kd.int .i64) w A0 l0.length l0) (hc0:l0.length≤c0) (h:Zaj.f k l0=some r) :
  Calls Tryz.prog 102 #[.slice A0 l0.length c0] w fun e w'=>∃v0_:Value,e=.returned (v0_)∧Kd.R (Kd.int .i64) 3 w' w.heap.size (fun _=>True) v0_ r∧Below w.heap.size w w':=by
 have HR0:=Za hr0;have HC0:=Za hc0;clear hr0 hc0
 have HB:=Za (Below.refl w.heap.size w)
 have H:(if 0≤(l0.length:Int) then(if ((l0.length:Int):Int).toNat≤35184372088832 then(Zaj.l0 k l0 (List.replicate ((l0.length:Int):Int).toNat 0) 0) else(none)) else(none))=some r:=h
 clear h
 by_cases c2:0≤(l0.length:Int)
 ·rw[if_pos c2] at H
  have c2b0:=eq_true c2
  have c2b1:decide (0≤(l0.length:Int))=true:=Ze c2
  clear c2
  by_cases c3:((l0.length:Int):Int).toNat≤35184372088832
  ·rw[if_pos c3] at H
   have c3b0:=eq_true c3
   have c3b1:decide (((l0.length:Int):Int).toNat≤35184372088832)=true:=Ze c3
   clear c3
   obtain⟨y1,hy1⟩:∃y_:List Int,y_=(List.replicate ((l0.length:Int):Int).toNat 0):=⟨_,rfl⟩
   replace H:(Zaj.l0 k l0 y1 0)=some r:=by first|(rw[hy1];with_reducible exact H)|(have H2_:=(Zi _ _).symm.trans H;rw[hy1];with_reducible exact H2_)|(have H2_:=(Zi _ _).symm.trans H;with_reducible exact H2_)|with_reducible exact H|(rw[hy1];exact H)|exact H
   have Ny1:=Za hy1;clear hy1
   have H':=Za H
   clear H
   go_enter Tryz.func102,Tryz.ntmps102
   go_wp2_with (first|((with_reducible refine ZG (N:=7) rfl ?_);refine Kd.R_make (Kd.int .i64) _ 3 rfl (N:=7) rfl 37 _ _ rfl (l0.length:Int) rfl rfl Tryz.underlying37 (.int .i64 0) 8 ZbI rfl (by decide) (by omega) 0 (ok:=fun _=>True) (okp:=fun _=>True) rfl (fun _ hk=>hk) trivial (Zd (by first|(with_reducible assumption)|assumption)) (Nat.le_trans (Nat.mul_le_mul_right _ (Zd (by first|(with_reducible assumption)|assumption):(l0.length:Int).toNat≤35184372088832)) (by omega)) (Below.refl _ _) (Nat.le_refl _) ?_;intro v2 w4 ho5 hb hg_ hnew_;clear hg_ hnew_;(first|rw[← Ny1.out] at ho5|(simp only[Int.reduceToNat] at ho5;rw[← Ny1.out] at ho5));have HO3:=Za (Kd.R_lower ho5 (Zv (by repeat(first|(with_reducible first|exact HB.out|apply Zo|apply Zm|apply Zp)|exact HB.out))));replace HB:=Za (Zq (by repeat(first|(with_reducible first|exact HB.out|apply Zo|apply Zm|apply Zp)|exact HB.out)) hb);clear hb ho5))
   go_loopg [4] k (fun kq v4 w'=>∃(x3_1:List Int) (x4_1:Int),v4=.int .i64 x4_1∧Aside0 (Zaj.l0 kq l0 x3_1 x4_1=some r)∧Aside0 (kq≤k)∧Aside0 (Kd.R (Kd.int .i64) 3 w' w.heap.size (fun _=>True) v2 x3_1)∧Aside0 (Below w.heap.size w w'))
   case atStart=>exact⟨(y1),(0),(by first|rfl|(simp;done)|(simp[*];done)),H',⟨Nat.le_refl _⟩,⟨by(with_reducible repeat(first|apply Kd.R_alloc|apply Kd.R_drewN|apply Kd.R_drew));exact HO3.out⟩,⟨by repeat(first|(with_reducible first|exact HB.out|apply Zo|apply Zm|apply Zp)|exact HB.out)⟩⟩
   case round=>
    clear H'
    try clear c1
    try clear c2
    try clear c2b0
    try clear c2b1
    try clear p2
    try clear c3
    try clear c3b0
    try clear c3b1
    obtain⟨x3_1,x4_1,rfl,HA,HK1,HO_3,HB⟩:=hrel
    cases gk with
    | zero=>exact absurd HA.out (by simp[Zaj.l0])
    | succ k1=>
     have H:=HA.out
     clear HA
     simp only[Zaj.l0] at H
     by_cases c6:x4_1<(l0.length:Int)
     ·rw[if_pos c6] at H
      have c6b0:decide (x4_1<(l0.length:Int))=true:=Ze c6
      clear c6
      by_cases c7:0≤x4_1
      ·rw[if_pos c7] at H
       have c7b0:decide (0≤x4_1)=true:=Ze c7
       clear c7
       by_cases c8:x4_1<(x3_1.length:Int)
       ·rw[if_pos c8] at H
        have c8b0:decide (x4_1<(x3_1.length:Int))=true:=Ze c8
        clear c8
        obtain⟨y5,hy5⟩:∃y_:List Int,y_=(x3_1.set (x4_1:Int).toNat (rd l0 x4_1)):=⟨_,rfl⟩
        replace H:(Zaj.l0 k1 l0 y5 (wrap64 (x4_1+1)))=some r:=by first|(rw[hy5];with_reducible exact H)|(have H2_:=(Zi _ _).symm.trans H;rw[hy5];with_reducible exact H2_)|(have H2_:=(Zi _ _).symm.trans H;with_reducible exact H2_)|with_reducible exact H|(rw[hy5];exact H)|exact H
        have Ny5:=Za hy5;clear hy5
        have H':=Za H
        clear H
        have p4:0≤(x4_1:Int):=Zd (by first|(with_reducible assumption)|assumption)
        have q4:x4_1<(l0.length:Int):=Zd (by first|(with_reducible assumption)|assumption)
        obtain⟨ad4,e4,hx4_0⟩:=Kd.at_int HR0.out x4_1 p4 q4
        cases e4
        replace hx4_0:=(HB.out.cell (Zc w _ hx4_0)).trans hx4_0
        replace p4:=eq_true p4
        replace q4:=eq_true q4
        have p9:0≤(x4_1:Int):=Zd (by first|(with_reducible assumption)|assumption)
        have q9:(x4_1:Int)<((x3_1.length:Int):Int):=Zd (by first|(with_reducible assumption)|assumption)
        obtain⟨go9,co9,eo9,gb9,gl9,cl9,HG9⟩:=Kd.R_form HO_3.out (by omega)
        (first|cases eo9|(injection eo9 with ea_ en_ ec_;(first|subst ea_|(injection ea_ with ea_;subst ea_));subst ec_;clear en_))
        have GB9:=Za gb9;have GG9:=Za HG9;clear gb9 gl9 HG9
        obtain⟨hx9_0,hf9_0⟩:=Kd.R_celln 0 HO_3.out (x4_1:Int) p9 q9
        replace p9:=eq_true p9
        replace q9:=eq_true q9
        have HP10:=Kd.R_putg HO_3.out (x4_1:Int) (rd l0 x4_1)
        go_wp2_with (first|((with_reducible refine ZbY (t:=3) (p:=20) rfl ?_);refine ZbD (t:=3) (p:=20) (v:=?vo_w11) (w1:=(wr.setCell ⟨go9,(x4_1:Int).toNat,none⟩ (.int .i64 (rd l0 x4_1)))) ?hg ?ho ?hn ?hr ?_;(case ho=>rfl);(case hg=>rfl);(case hn=>rfl);(case hr=>first|(go_simp;done)|(go_simp;rfl));intro w11 hw;have hg:wr.grownBy w11 (some go9):=(by rw[hw];exact HP10.2);have hp_:Kd.R (Kd.int .i64) 3 w11 w.heap.size (fun _=>True) (.slice (some ⟨go9,0,none⟩) x3_1.length co9) y5:=(by rw[hw,Ny5.out];exact HP10.1);clear HP10;replace HO_3:=Za (hp_);replace HB:=Za ((by rw[hw];exact Zs (HB.out) GB9.out:Below w.heap.size w w11));clear hg hw hp_))
        go_roundg k1
        case measure=>have:=HK1.out;omega
        case rel=>exact⟨(y5),(wrap64 (x4_1+1)),(by first|rfl|(simp;done)|(simp[*];done)),H',⟨by have:=HK1.out;omega⟩,⟨by(with_reducible repeat(first|apply Kd.R_alloc|apply Kd.R_drewN|apply Kd.R_drew));exact HO_3.out⟩,⟨by repeat(first|(with_reducible first|exact HB.out|apply Zo|apply Zm|apply Zp)|exact HB.out)⟩⟩
       ·rw[if_neg c8] at H
        exact absurd H (by simp)
      ·rw[if_neg c7] at H
       exact absurd H (by simp)
     ·rw[if_neg c6] at H
      have c6b0:decide (x4_1<(l0.length:Int))=false:=Zf c6
      clear c6
      obtain rfl:=Zg H
      go_wp2
      go_ret
      exact⟨_,by first|rfl|(simp[ZB,ZA] <;> rfl)|(simp[*,ZB,ZA] <;> rfl),by(with_reducible repeat(first|apply Kd.R_alloc|apply Kd.R_drewN|apply Kd.R_drew));exact HO_3.out,by repeat(first|(with_reducible first|exact HB.out|apply Zo|apply Zm|apply Zp)|exact HB.out)⟩
  ·rw[if_neg c3] at H
   exact absurd H (by simp)
 ·rw[if_neg c2] at H
  exact absurd H (by simp)
def ZaT.l0:Nat→List Int→List Int→Int→Option (Bool)
 | 0,_,_,_=>none
 | k+1,x0,x1,x5=>if x5<(x0.length:Int) then(if 0≤x5 then(if x5<(x1.length:Int) then(if (rd x0 x5)=(rd x1 x5) then(ZaT.l0 k x0 x1 (wrap64 (x5+1))) else(some false)) else(none)) else(none)) else(some true)
def ZaT.f (k:Nat) (l0:List Int) (l1:List Int):Option (Bool):=if (l0.length:Int)=(l1.length:Int) then(ZaT.l0 k l0 l1 0) else(some false)
theorem ZaT.calls (k:Nat) (A0:Option Addr) (c0:Nat) (l0:List Int) (A1:Option Addr) (c1:Nat) (l1:List Int) (r:Bool) (w:World) (hr0:Kd.C (Kd.int .i64) w A0 l0.length l0) (hc0:l0.length≤c0) (hr1:Kd.C (Kd.int .i64) w A1 l1.length l1) (hc1:l1.length≤c1) (h:ZaT.f k l0 l1=some r) :
  Calls Tryz.prog 107 #[.slice A0 l0.length c0,.slice A1 l1.length c1] w fun e w'=>e=.returned (.bool r)∧ZF w w':=by
 have HR0:=Za hr0;have HC0:=Za hc0;clear hr0 hc0;have HR1:=Za hr1;have HC1:=Za hc1;clear hr1 hc1
 have H:(if (l0.length:Int)=(l1.length:Int) then(ZaT.l0 k l0 l1 0) else(some false))=some r:=h
 clear h
 by_cases c3:(l0.length:Int)=(l1.length:Int)
 ·rw[if_pos c3] at H
  have c3b0:((l0.length:Int) == (l1.length:Int))=true:=beq_iff_eq.mpr c3
  clear c3
  have H':=Za H
  clear H
  go_enter Tryz.func107,Tryz.ntmps107
  go_wp2
  repeat(go_quiet (fail);try go_wp2)
  go_loopg [5] k (fun kq v5 w'=>∃(x5_1:Int),v5=.int .i64 x5_1∧Aside0 (ZaT.l0 kq l0 l1 x5_1=some r)∧Aside0 (kq≤k)∧ZF w w')
  case atStart=>exact⟨(0),(by first|rfl|(simp;done)|(simp[*];done)),H',⟨Nat.le_refl _⟩,by repeat(first|exact ZF.refl _|apply ZF.step)⟩
  case round=>
   clear H'
   try clear c1
   try clear p2
   try clear c3
   try clear c3b0
   try clear c3b1
   try clear c3b2
   obtain⟨x5_1,rfl,HA,HK1,⟨m1,rfl⟩⟩:=hrel
   cases gk with
   | zero=>exact absurd HA.out (by simp[ZaT.l0])
   | succ k1=>
    have H:=HA.out
    clear HA
    simp only[ZaT.l0] at H
    by_cases c4:x5_1<(l0.length:Int)
    ·rw[if_pos c4] at H
     have c4b0:decide (x5_1<(l0.length:Int))=true:=Ze c4
     clear c4
     by_cases c5:0≤x5_1
     ·rw[if_pos c5] at H
      have c5b0:decide (0≤x5_1)=true:=Ze c5
      clear c5
      by_cases c6:x5_1<(l1.length:Int)
      ·rw[if_pos c6] at H
       have c6b0:decide (x5_1<(l1.length:Int))=true:=Ze c6
       clear c6
       by_cases c7:(rd l0 x5_1)=(rd l1 x5_1)
       ·rw[if_pos c7] at H
        have c7b0:((rd l0 x5_1) == (rd l1 x5_1))=true:=beq_iff_eq.mpr c7
        clear c7
        have H':=Za H
        clear H
        have p1:0≤(x5_1:Int):=Zd (by first|(with_reducible assumption)|assumption)
        have q1:x5_1<(l0.length:Int):=Zd (by first|(with_reducible assumption)|assumption)
        obtain⟨ad1,e1,hx1_0⟩:=Kd.at_int HR0.out x5_1 p1 q1
        cases e1
        replace p1:=eq_true p1
        replace q1:=eq_true q1
        have p107002:0≤(x5_1:Int):=Zd (by first|(with_reducible assumption)|assumption)
        have q2:x5_1<(l1.length:Int):=Zd (by first|(with_reducible assumption)|assumption)
        obtain⟨ad2,e2,hx2_0⟩:=Kd.at_int HR1.out x5_1 p107002 q2
        cases e2
        replace p107002:=eq_true p107002
        replace q2:=eq_true q2
        go_wp2
        repeat(go_quiet (fail);try go_wp2)
        go_roundg k1
        case measure=>have:=HK1.out;omega
        case rel=>exact⟨(wrap64 (x5_1+1)),(by first|rfl|(simp;done)|(simp[*];done)),H',⟨by have:=HK1.out;omega⟩,by repeat(first|exact ZF.refl _|apply ZF.step)⟩
       ·rw[if_neg c7] at H
        have c7b0:((rd l0 x5_1) == (rd l1 x5_1))=false:=beq_eq_false_iff_ne.mpr c7
        obtain rfl:=Zg H
        have p1:0≤(x5_1:Int):=Zd (by first|(with_reducible assumption)|assumption)
        have q1:x5_1<(l0.length:Int):=Zd (by first|(with_reducible assumption)|assumption)
        obtain⟨ad1,e1,hx1_0⟩:=Kd.at_int HR0.out x5_1 p1 q1
        cases e1
        replace p1:=eq_true p1
        replace q1:=eq_true q1
        have p107002:0≤(x5_1:Int):=Zd (by first|(with_reducible assumption)|assumption)
        have q2:x5_1<(l1.length:Int):=Zd (by first|(with_reducible assumption)|assumption)
        obtain⟨ad2,e2,hx2_0⟩:=Kd.at_int HR1.out x5_1 p107002 q2
        cases e2
        replace p107002:=eq_true p107002
        replace q2:=eq_true q2
        go_wp2
        repeat(go_quiet (fail);try go_wp2)
        go_ret
        exact⟨by first|rfl|(simp;done)|(simp[*];done),by repeat(first|exact ZF.refl _|apply ZF.step)⟩
      ·rw[if_neg c6] at H
       exact absurd H (by simp)
     ·rw[if_neg c5] at H
      exact absurd H (by simp)
    ·rw[if_neg c4] at H
     have c4b0:decide (x5_1<(l0.length:Int))=false:=Zf c4
     clear c4
     obtain rfl:=Zg H
     go_wp2
     repeat(go_quiet (fail);try go_wp2)
     go_ret
     exact⟨by first|rfl|(simp;done)|(simp[*];done),by repeat(first|exact ZF.refl _|apply ZF.step)⟩
 ·rw[if_neg c3] at H
  have c3b0:((l0.length:Int) == (l1.length:Int))=false:=beq_eq_false_iff_ne.mpr c3
  obtain rfl:=Zg H
  go_enter Tryz.func107,Tryz.ntmps107
  go_wp2
  repeat(go_quiet (fail);try go_wp2)
  go_ret
  exact⟨by first|rfl|(simp;done)|(simp[*];done),by repeat(first|exact ZF.refl _|apply ZF.step)⟩
open Ni
theorem Zfp (l:List Int) (hl:l.length≤35184372088832) (k:Nat) (hk:2 ^ 64≤k):Zaj.f k l=some l:=by
 have key:=Za2 l.length (fun k i=>Zaj.l0 k l (l.take i ++ List.replicate (l.length - i) 0) (i:Int)=some l) 0
  (fun k _=>by simp[Zaj.l0])
  (fun k i _ hi ih=>by
   simp only[Zaj.l0]
   rw[if_pos (by omega),if_pos (by omega),if_pos (by simp;omega),ZL hi (by omega),Int.toNat_natCast,ZdU l 0 0 i hi _ (ZaO l i)]
   exact ih) 0 k (Nat.zero_le _) (by omega)
 unfold Zaj.f
 rw[if_pos (by omega),if_pos (by omega),Int.toNat_natCast]
 simpa using key
theorem eqIntS_f (l m:List Int) (hl:l.length≤9223372036854775807) (k:Nat) (hk:2 ^ 64≤k):ZaT.f k l m=some (decide (l=m)):=by
 unfold ZaT.f
 by_cases e:l.length=m.length
 ·rw[if_pos (by omega)]
  have key:=Za2 l.length (fun k i=>ZaT.l0 k l m (i:Int)=some (decide (l.drop i=m.drop i))) 0
   (fun k _=>by
    simp only[ZaT.l0]
    rw[if_neg (by omega),List.drop_of_length_le (Nat.le_refl _),List.drop_of_length_le (by omega)]
    simp)
   (fun k i _ hi ih=>by
    simp only[ZaT.l0]
    rw[if_pos (by omega),if_pos (by omega),if_pos (by omega),ZaO,ZaO,ZL hi (by omega),Z8 hi 0,Z8 (show i<m.length by omega) 0]
    by_cases h:l.getD i 0=m.getD i 0
    ·rw[if_pos h,ih,h];simp
    ·rw[if_neg h]
     simp only[List.cons.injEq,h,false_and,decide_false]) 0 k (Nat.zero_le _) (by omega)
  simpa using key
 ·rw[if_neg (by omega)]
  have:l≠m:=fun h=>e (by rw[h])
  simp[this]
theorem Zei (l:List Int) (hl:l.length≤9223372036854775807) (k:Nat) (hk:2 ^ 64≤k):ZaT.f k l l=some true:=by
 rw[eqIntS_f l l hl k hk];simp
def Zad.l0:Nat→List Int→Int→Int→Option (Int×List Int)
 | 0,_,_,_=>none
 | k+1,x0,x1,x5=>if x5<(x0.length:Int) then(if 0≤x5 then(Zad.l0 k (x0.set (x5:Int).toNat x1) (wrap64 (x1+1)) (wrap64 (x5+1))) else(none)) else(some (x1,x0))
def Zad.f (k:Nat) (l0:List Int) (a1:Int):Option (Int×List Int):=Zad.l0 k l0 a1 0
theorem Zad.calls (k:Nat) (P0_:Nat→Prop) (u9000_:Value) (l0:List Int) (a1:Int) (r1:Int) (r2:List Int) (w0 w:World) (hB:Below w0.heap.size w0 w) (ho0:Kd.R (Kd.int .i64) 3 w w0.heap.size P0_ u9000_ l0) (h:Zad.f k l0 a1=some (r1,r2)) :
  Calls Tryz.prog 108 #[u9000_,.int .i64 a1] w fun e w'=>e=.returned (.int .i64 r1)∧Kd.R (Kd.int .i64) 3 w' w0.heap.size (fun k_=>(P0_ k_∨w.heap.size≤k_)) u9000_ r2∧Below w0.heap.size w0 w'∧Kept w w' (fun k_=>P0_ k_):=by
 have HO0:=Za (show Kd.R (Kd.int .i64) 3 w w0.heap.size (fun k_=>(P0_ k_∨w.heap.size≤k_)) u9000_ l0 from Kd.R_mono ho0 (fun k_ hk=>(.inl hk)))
 have HK:=Za (Kept.refl w (fun k_=>P0_ k_))
 have HW0:=Za hB.size
 have HB:=Za hB;clear hB
 have H:(Zad.l0 k l0 a1 0)=some (r1,r2):=h
 clear h
 have H':=Za H
 clear H
 go_enter Tryz.func108,Tryz.ntmps108
 go_wp2
 go_loopg [1,5] k (fun kq v1 v5 w'=>∃(x0_1:List Int) (x1_1:Int) (x5_1:Int),v1=.int .i64 x1_1∧v5=.int .i64 x5_1∧Aside0 (Zad.l0 kq x0_1 x1_1 x5_1=some (r1,r2))∧Aside0 (kq≤k)∧Aside0 (Kd.R (Kd.int .i64) 3 w' w0.heap.size (fun k_=>(P0_ k_∨w.heap.size≤k_)) u9000_ x0_1)∧Aside0 (Kept w w' (fun k_=>P0_ k_))∧Aside0 (Below w0.heap.size w0 w'))
 case atStart=>exact⟨(l0),(a1),(0),(by first|rfl|(simp;done)|(simp[*];done)),(by first|rfl|(simp;done)|(simp[*];done)),H',⟨Nat.le_refl _⟩,⟨by(with_reducible repeat(first|apply Kd.R_alloc|apply Kd.R_drewN|apply Kd.R_drew));exact HO0.out⟩,⟨by repeat(first|(with_reducible first|exact HK.out|apply Kept.alloc|apply Kept.drewN|apply Kept.drew)|exact HK.out)⟩,⟨by repeat(first|(with_reducible first|exact HB.out|apply Zo|apply Zm|apply Zp)|exact HB.out)⟩⟩
 case round=>
  clear H'
  try clear c1
  try clear p2
  obtain⟨x0_1,x1_1,x5_1,rfl,rfl,HA,HK1,HO_0,HK,HB⟩:=hrel
  cases gk with
  | zero=>exact absurd HA.out (by simp[Zad.l0])
  | succ k1=>
   have H:=HA.out
   clear HA
   simp only[Zad.l0] at H
   by_cases c3:x5_1<(x0_1.length:Int)
   ·rw[if_pos c3] at H
    have c3b0:decide (x5_1<(x0_1.length:Int))=true:=Ze c3
    clear c3
    by_cases c4:0≤x5_1
    ·rw[if_pos c4] at H
     have c4b0:decide (0≤x5_1)=true:=Ze c4
     clear c4
     obtain⟨y1,hy1⟩:∃y_:List Int,y_=(x0_1.set (x5_1:Int).toNat x1_1):=⟨_,rfl⟩
     replace H:(Zad.l0 k1 y1 (wrap64 (x1_1+1)) (wrap64 (x5_1+1)))=some (r1,r2):=by first|(rw[hy1];with_reducible exact H)|(have H2_:=(Zi _ _).symm.trans H;rw[hy1];with_reducible exact H2_)|(have H2_:=(Zi _ _).symm.trans H;with_reducible exact H2_)|with_reducible exact H|(rw[hy1];exact H)|exact H
     have Ny1:=Za hy1;clear hy1
     have H':=Za H
     clear H
     obtain⟨Ao6,co6,eo6⟩:=Kd.R_slice HO_0.out
     subst eo6
     have p5:0≤(x5_1:Int):=Zd (by first|(with_reducible assumption)|assumption)
     have q5:(x5_1:Int)<((x0_1.length:Int):Int):=Zd (by first|(with_reducible assumption)|assumption)
     obtain⟨go5,co5,eo5,gb5,gl5,cl5,HG5⟩:=Kd.R_form HO_0.out (by omega)
     (first|cases eo5|(injection eo5 with ea_ en_ ec_;(first|subst ea_|(injection ea_ with ea_;subst ea_));subst ec_;clear en_))
     have GB5:=Za gb5;have GG5:=Za HG5;clear gb5 gl5 HG5
     have HMgo5:=Za (show(P0_ go5∨w.heap.size≤go5) from(HO_0.out.1 _ rfl))
     obtain⟨hx5_0,hf5_0⟩:=Kd.R_celln 0 HO_0.out (x5_1:Int) p5 q5
     replace p5:=eq_true p5
     replace q5:=eq_true q5
     have HP7:=Kd.R_putg HO_0.out (x5_1:Int) x1_1
     go_wp2_with (first|((with_reducible refine ZbY (t:=3) (p:=15) rfl ?_);refine ZbD (t:=3) (p:=15) (v:=?vo_w8) (w1:=(wr.setCell ⟨go5,(x5_1:Int).toNat,none⟩ (.int .i64 x1_1))) ?hg ?ho ?hn ?hr ?_;(case ho=>rfl);(case hg=>rfl);(case hn=>rfl);(case hr=>first|(go_simp;done)|(go_simp;rfl));intro w8 hw;have hg:wr.grownBy w8 (some go5):=(by rw[hw];exact HP7.2);have hp_:Kd.R (Kd.int .i64) 3 w8 w0.heap.size (fun k_=>(P0_ k_∨w.heap.size≤k_)) (.slice (some ⟨go5,0,none⟩) x0_1.length co6) y1:=(by rw[hw,Ny1.out];exact HP7.1);clear HP7;replace HB:=Za ((by rw[hw];exact Zs (HB.out) GB5.out:Below w0.heap.size w0 w8));replace HK:=Za (Kept.of_grown (S:=(fun k_=>P0_ k_)) hg (by repeat(first|(with_reducible first|exact HK.out|apply Kept.alloc|apply Kept.drewN|apply Kept.drew)|exact HK.out)) (fun k_ e_=>(HO_0.out.1 k_ e_)));replace HO_0:=Za (hp_);clear hg hw hp_))
     go_roundg k1
     case measure=>have:=HK1.out;omega
     case rel=>exact⟨(y1),(wrap64 (x1_1+1)),(wrap64 (x5_1+1)),(by first|rfl|(simp;done)|(simp[*];done)),(by first|rfl|(simp;done)|(simp[*];done)),H',⟨by have:=HK1.out;omega⟩,⟨by(with_reducible repeat(first|apply Kd.R_alloc|apply Kd.R_drewN|apply Kd.R_drew));exact HO_0.out⟩,⟨by repeat(first|(with_reducible first|exact HK.out|apply Kept.alloc|apply Kept.drewN|apply Kept.drew)|exact HK.out)⟩,⟨by repeat(first|(with_reducible first|exact HB.out|apply Zo|apply Zm|apply Zp)|exact HB.out)⟩⟩
    ·rw[if_neg c4] at H
     exact absurd H (by simp)
   ·rw[if_neg c3] at H
    have c3b0:decide (x5_1<(x0_1.length:Int))=false:=Zf c3
    clear c3
    simp only[Option.some.injEq,Prod.mk.injEq] at H
    obtain⟨rfl,rfl⟩:=H
    obtain⟨Ao9,co9,eo9⟩:=Kd.R_slice HO_0.out
    subst eo9
    go_wp2
    go_ret
    exact⟨by first|rfl|(simp[ZB,ZA] <;> rfl)|(simp[*,ZB,ZA] <;> rfl),by(with_reducible repeat(first|apply Kd.R_alloc|apply Kd.R_drewN|apply Kd.R_drew));exact HO_0.out,by repeat(first|(with_reducible first|exact HB.out|apply Zo|apply Zm|apply Zp)|exact HB.out),by repeat(first|(with_reducible first|exact HK.out|apply Kept.alloc|apply Kept.drewN|apply Kept.drew)|exact HK.out)⟩
def Z4.l0:Nat→Int→ByteArray→Option (ByteArray)
 | 0,_,_=>none
 | k+1,x0,x3=>if x0 > 0 then((some (([(wrap64 (48+(Int.tmod x0 10))) % 256]:List Int):List Int)).bind fun y1=>(if (strOfNums y1).size+x3.size≤9223372036854775807 then(Z4.l0 k (wrap64 (Int.tdiv x0 10)) ((strOfNums y1) ++ x3)) else(none))) else(if 1+x3.size≤9223372036854775807 then(some ((⟨#[109]⟩:ByteArray) ++ x3)) else(none))
def Z4.f (k:Nat) (a0:Int):Option (ByteArray):=if a0≤0 then(some (⟨#[109,48]⟩:ByteArray)) else(Z4.l0 k a0 (⟨#[]⟩:ByteArray))
theorem Z4.calls (k:Nat) (a0:Int) (r:ByteArray) (w:World) (h:Z4.f k a0=some r) :
  Calls Tryz.prog 119 #[.int .i64 a0] w fun e w'=>e=.returned (.string r)∧Below w.heap.size w w':=by
 have HB:=Za (Below.refl w.heap.size w)
 have H:(if a0≤0 then(some (⟨#[109,48]⟩:ByteArray)) else(Z4.l0 k a0 (⟨#[]⟩:ByteArray)))=some r:=h
 clear h
 by_cases c2:a0≤0
 ·rw[if_pos c2] at H
  have c2b0:decide (a0≤0)=true:=Ze c2
  clear c2
  obtain rfl:=Zg H
  go_enter Tryz.func119,Tryz.ntmps119
  go_wp2
  go_ret
  exact⟨by first|rfl|(simp[ZB,ZA] <;> rfl)|(simp[*,ZB,ZA] <;> rfl),by repeat(first|(with_reducible first|exact HB.out|apply Zo|apply Zm|apply Zp)|exact HB.out)⟩
 ·rw[if_neg c2] at H
  have c2b0:decide (a0≤0)=false:=Zf c2
  clear c2
  have H':=Za H
  clear H
  go_enter Tryz.func119,Tryz.ntmps119
  go_wp2
  go_loopg [0,3] k (fun kq v0 v3 w'=>∃(x0_1:Int) (x3_1:ByteArray),v0=.int .i64 x0_1∧v3=.string x3_1∧Aside0 (Z4.l0 kq x0_1 x3_1=some r)∧Aside0 (kq≤k)∧Aside0 (Below w.heap.size w w'))
  case atStart=>exact⟨(a0),((⟨#[]⟩:ByteArray)),(by first|rfl|(simp;done)|(simp[*];done)),(by first|rfl|(simp;done)|(simp[*];done)),H',⟨Nat.le_refl _⟩,⟨by repeat(first|(with_reducible first|exact HB.out|apply Zo|apply Zm|apply Zp)|exact HB.out)⟩⟩
  case round=>
   clear H'
   try clear c1
   try clear c2
   try clear c2b0
   try clear p2
   obtain⟨x0_1,x3_1,rfl,rfl,HA,HK1,HB⟩:=hrel
   cases gk with
   | zero=>exact absurd HA.out (by simp[Z4.l0])
   | succ k1=>
    have H:=HA.out
    clear HA
    simp only[Z4.l0] at H
    by_cases c3:x0_1 > 0
    ·rw[if_pos c3] at H
     have c3b0:decide (0<x0_1)=true:=Ze c3
     clear c3
     obtain⟨y1,hy1⟩:∃y_:List Int,y_=(([(wrap64 (48+(Int.tmod x0_1 10))) % 256]:List Int)):=⟨_,rfl⟩
     replace H:(if (strOfNums y1).size+x3_1.size≤9223372036854775807 then(Z4.l0 k1 (wrap64 (Int.tdiv x0_1 10)) ((strOfNums y1) ++ x3_1)) else(none))=some r:=by first|(rw[hy1];with_reducible exact H)|(have H2_:=(Zi _ _).symm.trans H;rw[hy1];with_reducible exact H2_)|(have H2_:=(Zi _ _).symm.trans H;with_reducible exact H2_)|with_reducible exact H|(rw[hy1];exact H)|exact H
     have Ny1:=Za hy1;clear hy1
     by_cases c4:(strOfNums y1).size+x3_1.size≤9223372036854775807
     ·rw[if_pos c4] at H
      have c4b0:=eq_true c4
      try            have H':=Za H
      clear H
      go_wp2_with (first|((with_reducible refine ZG (N:=12) rfl ?_);refine Kd.R_lit (Kd.int .u8) _ 5 ?hg (N:=12) ?hd (xs:=([(wrap64 (48+(Int.tmod x0_1 10))) % 256]:List Int)) (inner:=[.int .u8 ((wrap64 (48+(Int.tmod x0_1 10))) % 256)]) (ok:=fun _=>True) (okp:=fun _=>True) ?hr ?hp (fun _ hk=>hk) trivial (Below.refl _ _) (Nat.le_refl _) (by simp) ?_;(case hd=>rfl);(case hg=>rfl);(case hr=>first|(go_simp;done)|(go_simp;rfl));(case hp=>exact(Reps.one (show Kd.M (Kd.int .u8) _ _ _ ((wrap64 (48+(Int.tmod x0_1 10))) % 256) [.int .u8 ((wrap64 (48+(Int.tmod x0_1 10))) % 256)] from rfl) (Reps.none _ _)));intro v2 w5 ho6 hb hg_ hnew_;clear hg_ hnew_;(first|rw[← Ny1.out] at ho6|(simp only[Int.reduceToNat] at ho6;rw[← Ny1.out] at ho6));have HO3:=Za (Kd.R_lower ho6 (Zv (by repeat(first|(with_reducible first|exact HB.out|apply Zo|apply Zm|apply Zp)|exact HB.out))));replace HB:=Za (Zq (by repeat(first|(with_reducible first|exact HB.out|apply Zo|apply Zm|apply Zp)|exact HB.out)) hb);clear hb ho6;have hcv7:=ZcJ (P:=Tryz.prog) Tryz.underlying31 Tryz.underlying5 Tryz.underlying9 (Kd.own_of_R HO3.out)))
      go_roundg k1
      case measure=>have:=HK1.out;omega
      case rel=>exact⟨(wrap64 (Int.tdiv x0_1 10)),((strOfNums y1) ++ x3_1),(by first|rfl|(simp;done)|(simp[*];done)),(by first|rfl|(simp;done)|(simp[*];done)),H',⟨by have:=HK1.out;omega⟩,⟨by repeat(first|(with_reducible first|exact HB.out|apply Zo|apply Zm|apply Zp)|exact HB.out)⟩⟩
     ·rw[if_neg c4] at H
      exact absurd H (by simp)
    ·rw[if_neg c3] at H
     have c3b0:decide (0<x0_1)=false:=Zf c3
     clear c3
     by_cases c8:1+x3_1.size≤9223372036854775807
     ·rw[if_pos c8] at H
      have c8b0:=eq_true c8
      try            obtain rfl:=Zg H
      go_wp2
      go_ret
      exact⟨by first|rfl|(simp[ZB,ZA] <;> rfl)|(simp[*,ZB,ZA] <;> rfl),by repeat(first|(with_reducible first|exact HB.out|apply Zo|apply Zm|apply Zp)|exact HB.out)⟩
     ·rw[if_neg c8] at H
      exact absurd H (by simp)
def ZcD (a:Int):Nat→List Int
 | 0=>[]
 | n+1=>a :: ZcD (a+1) n
theorem ZcV:∀(n:Nat) (a:Int),(ZcD a n).length=n
 | 0,_=>rfl
 | n+1,a=>by rw[ZcD,List.length_cons,ZcV n]
theorem marks_at:∀(n i:Nat) (a:Int),i<n→(ZcD a n).getD i 0=a+i
 | n+1,0,a,_=>by simp[ZcD]
 | n+1,i+1,a,h=>by
  rw[ZcD,List.getD_cons_succ,marks_at n i (a+1) (by omega)];omega
theorem Zew (l:List Int) (hl:l.length≤1048576) (a:Int) (h0:0≤a) (h1:a≤1152921504606846976) (k:Nat) (hk:2 ^ 64≤k):Zad.f k l a=some (a+l.length,ZcD a l.length):=by
 have key:=Za2 l.length (fun k i=>Zad.l0 k ((ZcD a l.length).take i ++ l.drop i) (a+i) (i:Int)=some (a+l.length,ZcD a l.length)) 0
  (fun k _=>by
   simp only[Zad.l0]
   rw[if_neg (by simp[ZcV]),List.drop_length,List.append_nil,List.take_of_length_le (by rw[ZcV];exact Nat.le_refl _)])
  (fun k i _ hi ih=>by
   simp only[Zad.l0]
   rw[if_pos (by simp[ZcV];omega),if_pos (by omega),ZL hi (by omega),Zay (i:=a+i+1) (by omega) (by omega),Int.toNat_natCast]
   have e:((ZcD a l.length).take i ++ l.drop i).set i (a+i)=(ZcD a l.length).take (i+1) ++ l.drop (i+1):=by
    have hlen:((ZcD a l.length).take i).length=i:=by rw[Zj,ZcV];omega
    rw[List.set_append_right _ _ (by omega),hlen,Nat.sub_self,Z8 hi 0,List.set_cons_zero,List.take_succ_eq_append_getElem (by rw[ZcV];exact hi),List.append_assoc]
    congr 1
    have:=marks_at l.length i a hi
    rw[List.getD_eq_getElem?_getD,Zl (by rw[ZcV];exact hi)] at this
    simp only[Option.getD_some] at this
    rw[this];rfl
   rw[e,show a+(i:Int)+1=a+((i+1:Nat):Int) by omega]
   exact ih) 0 k (Nat.zero_le _) (by omega)
 unfold Zad.f
 simpa using key
theorem markText_f (a:Int) (h0:0≤a) (h1:a≤1152921504606846976) (k:Nat) (hk:2 ^ 64≤k):∃r,Z4.f k a=some r:=by
 have key:∀(d:Nat) (a:Int) (x:ByteArray) (k:Nat),0≤a→a.toNat≤d→a≤1152921504606846976→d<k→x.size+d≤1152921504606846976+5→∃r,Z4.l0 k a x=some r:=by
  intro d
  induction d with
  | zero=>
   intro a x k h0 hd h1 hk hx
   obtain⟨m,rfl⟩:∃m,k=m+1:=⟨k - 1,by omega⟩
   simp only[Z4.l0]
   rw[if_neg (by omega),if_pos (by omega)]
   exact⟨_,rfl⟩
  | succ d ih=>
   intro a x k h0 hd h1 hk hx
   obtain⟨m,rfl⟩:∃m,k=m+1:=⟨k - 1,by omega⟩
   simp only[Z4.l0]
   by_cases hp:a > 0
   ·rw[if_pos hp,Zi]
    have hs:(strOfNums ([(wrap64 (48+(Int.tmod a 10))) % 256]:List Int)).size=1:=rfl
    have ht:Int.tdiv a 10=a / 10:=Int.tdiv_eq_ediv_of_nonneg h0
    rw[if_pos (by rw[hs];omega),ht,Zay (by omega) (by omega)]
    exact ih _ _ _ (by omega) (by omega) (by omega) (by omega) (by rw[ByteArray.size_append,hs];omega)
   ·rw[if_neg hp,if_pos (by omega)]
    exact⟨_,rfl⟩
 unfold Z4.f
 by_cases h:a≤0
 ·rw[if_pos h];exact⟨_,rfl⟩
 ·rw[if_neg h]
  exact key a.toNat a _ k h0 (Nat.le_refl _) h1 (by omega) (by show(0:Nat)+_≤_;omega)
abbrev LNode:=S143
abbrev ZM:=S39
abbrev LTie:=S147
abbrev PTie:=S82
def cvN (x:LNode):ZM:=⟨x.f0,x.f1,x.f2⟩
def cvT (x:LTie):PTie:=⟨x.f0,x.f1,x.f2,x.f3,x.f4⟩
theorem Zcn (l:List ZM) (i:Nat):ZI l (i:Int)=l.getD i z39:=by unfold ZI;rw[Int.toNat_natCast]
theorem Zem (l:List PTie) (i:Nat):Zu l (i:Int)=l.getD i z82:=by unfold Zu;rw[Int.toNat_natCast]
theorem rdLN_nat (l:List LNode) (i:Nat):ZaJ l (i:Int)=l.getD i z143:=by unfold ZaJ;rw[Int.toNat_natCast]
theorem rdLT_nat (l:List LTie) (i:Nat):Zbe l (i:Int)=l.getD i z147:=by unfold Zbe;rw[Int.toNat_natCast]
theorem zN:cvN z143=z39:=rfl
theorem zT:cvT z147=z82:=rfl
theorem getD_map {α β:Type} (f:α→β) (l:List α) (i:Nat) (a:α) (b:β) (h:f a=b):(l.map f).getD i b=f (l.getD i a):=by
 subst h
 rw[List.getD_eq_getElem?_getD,List.getD_eq_getElem?_getD,List.getElem?_map]
 cases l[i]? <;> rfl
def Zef (ns:List LNode) (ts:List LTie):Prop:=ns.length≤1048576∧ts.length≤1048576∧∀n∈ns,n.f0.size≤1048576∧n.f1.length≤1048576
def Zbm (ns:List ZM) (ts:List PTie):Prop:=ns.length≤1048576∧ts.length≤1048576∧∀n∈ns,n.f0.size≤1048576∧n.f1.length≤1048576
theorem Zef.cv {ns:List LNode} {ts:List LTie} (h:Zef ns ts):Zbm (ns.map cvN) (ts.map cvT):=by
 refine⟨by simpa using h.1,by simpa using h.2.1,fun n hn=>?_⟩
 obtain⟨m,hm,rfl⟩:=List.mem_map.1 hn
 exact h.2.2 m hm
def Zam.l0:Nat→List (S82)→Int→Int→Option (Int×(List (S82)))
 | 0,_,_,_=>none
 | k+1,x0,x1,x5=>if x5<(x0.length:Int) then(if 0≤x5 then((some (x0.set (x5:Int).toNat (⟨x1,(Zu x0 x5).f1,(Zu x0 x5).f2,(Zu x0 x5).f3,(Zu x0 x5).f4⟩:S82):List (S82))).bind fun y1=>((some (y1.set (x5:Int).toNat (⟨(Zu y1 x5).f0,wrap64 (x1+1),(Zu y1 x5).f2,(Zu y1 x5).f3,(Zu y1 x5).f4⟩:S82):List (S82))).bind fun y2=>((some (y2.set (x5:Int).toNat (⟨(Zu y2 x5).f0,(Zu y2 x5).f1,wrap64 ((wrap64 (x1+1))+1),(Zu y2 x5).f3,(Zu y2 x5).f4⟩:S82):List (S82))).bind fun y3=>((some (y3.set (x5:Int).toNat (⟨(Zu y3 x5).f0,(Zu y3 x5).f1,(Zu y3 x5).f2,wrap64 ((wrap64 ((wrap64 (x1+1))+1))+1),(Zu y3 x5).f4⟩:S82):List (S82))).bind fun y4=>(Zam.l0 k (y4.set (x5:Int).toNat (⟨(Zu y4 x5).f0,(Zu y4 x5).f1,(Zu y4 x5).f2,(Zu y4 x5).f3,((Int.tmod (wrap64 ((wrap64 ((wrap64 ((wrap64 (x1+1))+1))+1))+1)) 3) == 0)⟩:S82)) (wrap64 ((wrap64 ((wrap64 ((wrap64 ((wrap64 (x1+1))+1))+1))+1))+1)) (wrap64 (x5+1))))))) else(none)) else(some (x1,x0))
def Zam.f (k:Nat) (l0:List (S82)) (a1:Int):Option (Int×(List (S82))):=Zam.l0 k l0 a1 0
theorem Zam.calls (k:Nat) (P0_:Nat→Prop) (u9000_:Value) (l0:List (S82)) (a1:Int) (r1:Int) (r2:List (S82)) (w0 w:World) (hB:Below w0.heap.size w0 w) (ho0:Kd.R k82 82 w w0.heap.size P0_ u9000_ l0) (h:Zam.f k l0 a1=some (r1,r2)) :
  Calls Tryz.prog 65 #[u9000_,.int .i64 a1] w fun e w'=>e=.returned (.int .i64 r1)∧Kd.R k82 82 w' w0.heap.size (fun k_=>(P0_ k_∨w.heap.size≤k_)) u9000_ r2∧Below w0.heap.size w0 w'∧Kept w w' (fun k_=>P0_ k_):=by
 have HO0:=Za (show Kd.R k82 82 w w0.heap.size (fun k_=>(P0_ k_∨w.heap.size≤k_)) u9000_ l0 from Kd.R_mono ho0 (fun k_ hk=>(.inl hk)))
 have HK:=Za (Kept.refl w (fun k_=>P0_ k_))
 have HW0:=Za hB.size
 have HB:=Za hB;clear hB
 have H:(Zam.l0 k l0 a1 0)=some (r1,r2):=h
 clear h
 have H':=Za H
 clear H
 go_enter Tryz.func65,Tryz.ntmps65
 go_wp2
 go_loopg [1,5] k (fun kq v1 v5 w'=>∃(x0_1:List (S82)) (x1_1:Int) (x5_1:Int),v1=.int .i64 x1_1∧v5=.int .i64 x5_1∧Aside0 (Zam.l0 kq x0_1 x1_1 x5_1=some (r1,r2))∧Aside0 (kq≤k)∧Aside0 (Kd.R k82 82 w' w0.heap.size (fun k_=>(P0_ k_∨w.heap.size≤k_)) u9000_ x0_1)∧Aside0 (Kept w w' (fun k_=>P0_ k_))∧Aside0 (Below w0.heap.size w0 w'))
 case atStart=>exact⟨(l0),(a1),(0),(by first|rfl|(simp;done)|(simp[*];done)),(by first|rfl|(simp;done)|(simp[*];done)),H',⟨Nat.le_refl _⟩,⟨by(with_reducible repeat(first|apply Kd.R_alloc|apply Kd.R_drewN|apply Kd.R_drew));exact HO0.out⟩,⟨by repeat(first|(with_reducible first|exact HK.out|apply Kept.alloc|apply Kept.drewN|apply Kept.drew)|exact HK.out)⟩,⟨by repeat(first|(with_reducible first|exact HB.out|apply Zo|apply Zm|apply Zp)|exact HB.out)⟩⟩
 case round=>
  clear H'
  try clear p2
  obtain⟨x0_1,x1_1,x5_1,rfl,rfl,HA,HK1,HO_0,HK,HB⟩:=hrel
  cases gk with
  | zero=>exact absurd HA.out (by simp[Zam.l0])
  | succ k1=>
   have H:=HA.out
   clear HA
   simp only[Zam.l0] at H
   by_cases c3:x5_1<(x0_1.length:Int)
   ·rw[if_pos c3] at H
    have c3b0:decide (x5_1<(x0_1.length:Int))=true:=Ze c3
    clear c3
    by_cases c4:0≤x5_1
    ·rw[if_pos c4] at H
     have c4b0:decide (0≤x5_1)=true:=Ze c4
     clear c4
     obtain⟨y1,hy1⟩:∃y_:List (S82),y_=(x0_1.set (x5_1:Int).toNat (⟨x1_1,(Zu x0_1 x5_1).f1,(Zu x0_1 x5_1).f2,(Zu x0_1 x5_1).f3,(Zu x0_1 x5_1).f4⟩:S82)):=⟨_,rfl⟩
     replace H:((some (y1.set (x5_1:Int).toNat (⟨(Zu y1 x5_1).f0,wrap64 (x1_1+1),(Zu y1 x5_1).f2,(Zu y1 x5_1).f3,(Zu y1 x5_1).f4⟩:S82):List (S82))).bind fun y2=>((some (y2.set (x5_1:Int).toNat (⟨(Zu y2 x5_1).f0,(Zu y2 x5_1).f1,wrap64 ((wrap64 (x1_1+1))+1),(Zu y2 x5_1).f3,(Zu y2 x5_1).f4⟩:S82):List (S82))).bind fun y3=>((some (y3.set (x5_1:Int).toNat (⟨(Zu y3 x5_1).f0,(Zu y3 x5_1).f1,(Zu y3 x5_1).f2,wrap64 ((wrap64 ((wrap64 (x1_1+1))+1))+1),(Zu y3 x5_1).f4⟩:S82):List (S82))).bind fun y4=>(Zam.l0 k1 (y4.set (x5_1:Int).toNat (⟨(Zu y4 x5_1).f0,(Zu y4 x5_1).f1,(Zu y4 x5_1).f2,(Zu y4 x5_1).f3,((Int.tmod (wrap64 ((wrap64 ((wrap64 ((wrap64 (x1_1+1))+1))+1))+1)) 3) == 0)⟩:S82)) (wrap64 ((wrap64 ((wrap64 ((wrap64 ((wrap64 (x1_1+1))+1))+1))+1))+1)) (wrap64 (x5_1+1))))))=some (r1,r2):=by first|(rw[hy1];with_reducible exact H)|(have H2_:=(Zi _ _).symm.trans H;rw[hy1];with_reducible exact H2_)|(have H2_:=(Zi _ _).symm.trans H;with_reducible exact H2_)|with_reducible exact H|(rw[hy1];exact H)|exact H
     have Ny1:=Za hy1;clear hy1
     obtain⟨y2,hy2⟩:∃y_:List (S82),y_=(y1.set (x5_1:Int).toNat (⟨(Zu y1 x5_1).f0,wrap64 (x1_1+1),(Zu y1 x5_1).f2,(Zu y1 x5_1).f3,(Zu y1 x5_1).f4⟩:S82)):=⟨_,rfl⟩
     replace H:((some (y2.set (x5_1:Int).toNat (⟨(Zu y2 x5_1).f0,(Zu y2 x5_1).f1,wrap64 ((wrap64 (x1_1+1))+1),(Zu y2 x5_1).f3,(Zu y2 x5_1).f4⟩:S82):List (S82))).bind fun y3=>((some (y3.set (x5_1:Int).toNat (⟨(Zu y3 x5_1).f0,(Zu y3 x5_1).f1,(Zu y3 x5_1).f2,wrap64 ((wrap64 ((wrap64 (x1_1+1))+1))+1),(Zu y3 x5_1).f4⟩:S82):List (S82))).bind fun y4=>(Zam.l0 k1 (y4.set (x5_1:Int).toNat (⟨(Zu y4 x5_1).f0,(Zu y4 x5_1).f1,(Zu y4 x5_1).f2,(Zu y4 x5_1).f3,((Int.tmod (wrap64 ((wrap64 ((wrap64 ((wrap64 (x1_1+1))+1))+1))+1)) 3) == 0)⟩:S82)) (wrap64 ((wrap64 ((wrap64 ((wrap64 ((wrap64 (x1_1+1))+1))+1))+1))+1)) (wrap64 (x5_1+1)))))=some (r1,r2):=by first|(rw[hy2];with_reducible exact H)|(have H2_:=(Zi _ _).symm.trans H;rw[hy2];with_reducible exact H2_)|(have H2_:=(Zi _ _).symm.trans H;with_reducible exact H2_)|with_reducible exact H|(rw[hy2];exact H)|exact H
     have Ny2:=Za hy2;clear hy2
     obtain⟨y3,hy3⟩:∃y_:List (S82),y_=(y2.set (x5_1:Int).toNat (⟨(Zu y2 x5_1).f0,(Zu y2 x5_1).f1,wrap64 ((wrap64 (x1_1+1))+1),(Zu y2 x5_1).f3,(Zu y2 x5_1).f4⟩:S82)):=⟨_,rfl⟩
     replace H:((some (y3.set (x5_1:Int).toNat (⟨(Zu y3 x5_1).f0,(Zu y3 x5_1).f1,(Zu y3 x5_1).f2,wrap64 ((wrap64 ((wrap64 (x1_1+1))+1))+1),(Zu y3 x5_1).f4⟩:S82):List (S82))).bind fun y4=>(Zam.l0 k1 (y4.set (x5_1:Int).toNat (⟨(Zu y4 x5_1).f0,(Zu y4 x5_1).f1,(Zu y4 x5_1).f2,(Zu y4 x5_1).f3,((Int.tmod (wrap64 ((wrap64 ((wrap64 ((wrap64 (x1_1+1))+1))+1))+1)) 3) == 0)⟩:S82)) (wrap64 ((wrap64 ((wrap64 ((wrap64 ((wrap64 (x1_1+1))+1))+1))+1))+1)) (wrap64 (x5_1+1))))=some (r1,r2):=by first|(rw[hy3];with_reducible exact H)|(have H2_:=(Zi _ _).symm.trans H;rw[hy3];with_reducible exact H2_)|(have H2_:=(Zi _ _).symm.trans H;with_reducible exact H2_)|with_reducible exact H|(rw[hy3];exact H)|exact H
     have Ny3:=Za hy3;clear hy3
     obtain⟨y4,hy4⟩:∃y_:List (S82),y_=(y3.set (x5_1:Int).toNat (⟨(Zu y3 x5_1).f0,(Zu y3 x5_1).f1,(Zu y3 x5_1).f2,wrap64 ((wrap64 ((wrap64 (x1_1+1))+1))+1),(Zu y3 x5_1).f4⟩:S82)):=⟨_,rfl⟩
     replace H:(Zam.l0 k1 (y4.set (x5_1:Int).toNat (⟨(Zu y4 x5_1).f0,(Zu y4 x5_1).f1,(Zu y4 x5_1).f2,(Zu y4 x5_1).f3,((Int.tmod (wrap64 ((wrap64 ((wrap64 ((wrap64 (x1_1+1))+1))+1))+1)) 3) == 0)⟩:S82)) (wrap64 ((wrap64 ((wrap64 ((wrap64 ((wrap64 (x1_1+1))+1))+1))+1))+1)) (wrap64 (x5_1+1)))=some (r1,r2):=by first|(rw[hy4];with_reducible exact H)|(have H2_:=(Zi _ _).symm.trans H;rw[hy4];with_reducible exact H2_)|(have H2_:=(Zi _ _).symm.trans H;with_reducible exact H2_)|with_reducible exact H|(rw[hy4];exact H)|exact H
     have Ny4:=Za hy4;clear hy4
     obtain⟨y5,hy5⟩:∃y_:List (S82),y_=(y4.set (x5_1:Int).toNat (⟨(Zu y4 x5_1).f0,(Zu y4 x5_1).f1,(Zu y4 x5_1).f2,(Zu y4 x5_1).f3,((Int.tmod (wrap64 ((wrap64 ((wrap64 ((wrap64 (x1_1+1))+1))+1))+1)) 3) == 0)⟩:S82)):=⟨_,rfl⟩
     replace H:(Zam.l0 k1 y5 (wrap64 ((wrap64 ((wrap64 ((wrap64 ((wrap64 (x1_1+1))+1))+1))+1))+1)) (wrap64 (x5_1+1)))=some (r1,r2):=by first|(rw[hy5];with_reducible exact H)|(have H2_:=(Zi _ _).symm.trans H;rw[hy5];with_reducible exact H2_)|(have H2_:=(Zi _ _).symm.trans H;with_reducible exact H2_)|with_reducible exact H|(rw[hy5];exact H)|exact H
     have Ny5:=Za hy5;clear hy5
     have H':=Za H
     clear H
     obtain⟨Ao10,co10,eo10⟩:=Kd.R_slice HO_0.out
     subst eo10
     have p5:0≤(x5_1:Int):=Zd (by with_reducible assumption)
     have q5:(x5_1:Int)<((x0_1.length:Int):Int):=Zd (by with_reducible assumption)
     obtain⟨go5,co5,eo5,gb5,gl5,cl5,HG5⟩:=Kd.R_form HO_0.out (by omega)
     (first|cases eo5|(injection eo5 with ea_ en_ ec_;(first|subst ea_|(injection ea_ with ea_;subst ea_));subst ec_;clear en_))
     have GB5:=Za gb5;have GG5:=Za HG5;clear gb5 gl5 HG5
     have HMgo5:=Za (show(P0_ go5∨w.heap.size≤go5) from(HO_0.out.1 _ rfl))
     obtain⟨ce5,hcl5,hM5,hcc5,hfr5⟩:=Kd.R_elem HO_0.out z82 (x5_1:Int) p5 q5
     obtain rfl:=ZbM hM5
     have hx5_0:wr.cell? ⟨go5,(x5_1:Int).toNat * 5,none⟩=some (.int .i64 ((Zu x0_1 x5_1).f0)):=hcc5 0 _ rfl
     have hx5_1:wr.cell? ⟨go5,(x5_1:Int).toNat * 5+1,none⟩=some (.int .i64 ((Zu x0_1 x5_1).f1)):=hcc5 1 _ rfl
     have hx5_2:wr.cell? ⟨go5,(x5_1:Int).toNat * 5+2,none⟩=some (.int .i64 ((Zu x0_1 x5_1).f2)):=hcc5 2 _ rfl
     have hx5_3:wr.cell? ⟨go5,(x5_1:Int).toNat * 5+3,none⟩=some (.int .i64 ((Zu x0_1 x5_1).f3)):=hcc5 3 _ rfl
     have hx5_4:wr.cell? ⟨go5,(x5_1:Int).toNat * 5+4,none⟩=some (.bool ((Zu x0_1 x5_1).f4)):=hcc5 4 _ rfl
     have hf5_0:wr.frozen? ⟨go5,(x5_1:Int).toNat * 5,none⟩=false:=hfr5 0
     have hf5_1:wr.frozen? ⟨go5,(x5_1:Int).toNat * 5+1,none⟩=false:=hfr5 1
     have hf5_2:wr.frozen? ⟨go5,(x5_1:Int).toNat * 5+2,none⟩=false:=hfr5 2
     have hf5_3:wr.frozen? ⟨go5,(x5_1:Int).toNat * 5+3,none⟩=false:=hfr5 3
     have hf5_4:wr.frozen? ⟨go5,(x5_1:Int).toNat * 5+4,none⟩=false:=hfr5 4
     clear hcl5 hcc5 hfr5 hM5
     replace p5:=eq_true p5
     replace q5:=eq_true q5
     have HX11:=Za (show Kd.R k82 82 wr w0.heap.size (fun k_=>(P0_ k_∨w.heap.size≤k_)) (.slice (some ⟨go5,0,none⟩) x0_1.length co10) x0_1 from(by exact HO_0.out))
     obtain⟨ce11,hcl11,hM11,hcc11,hfr11⟩:=Kd.R_elem HX11.out z82 (x5_1:Int) (Zd (by with_reducible assumption)) (by have h_:(x5_1:Int)<((x0_1.length:Int):Int):=Zd (by with_reducible assumption);first|exact h_|(have e_:=(Kd.R_reads' HO_0.out).1;omega)|simpa using h_)
     obtain rfl:=ZbM hM11
     have HP11:=Kd.R_seg HX11.out (x5_1:Int) (Zd (by with_reducible assumption)) (by have h_:(x5_1:Int)<((x0_1.length:Int):Int):=Zd (by with_reducible assumption);first|exact h_|(have e_:=(Kd.R_reads' HO_0.out).1;omega)|simpa using h_) (seg:=[.int .i64 x1_1]) (j:=0) hcl11 hcc11 (show 1≤5 from by decide) (x':=(⟨x1_1,(Zu x0_1 x5_1).f1,(Zu x0_1 x5_1).f2,(Zu x0_1 x5_1).f3,(Zu x0_1 x5_1).f4⟩:S82)) (Zdr _ _ _ (⟨x1_1,(Zu x0_1 x5_1).f1,(Zu x0_1 x5_1).f2,(Zu x0_1 x5_1).f3,(Zu x0_1 x5_1).f4⟩:S82) ) (fun _ hk=>hk)
     have hx11_0:=hcc11 0 _ rfl
     (try simp only[show(k82).sz=5 from rfl,Nat.mul_one,Nat.add_zero] at hx11_0)
     have hf11_0:=hfr11 0
     (try simp only[show(k82).sz=5 from rfl,Nat.mul_one,Nat.add_zero] at hf11_0)
     clear hcl11 hcc11 hfr11 hM11
     go_wp2_with (first|((with_reducible refine ZbY (t:=3) (p:=16) rfl ?_);refine ZbD (t:=3) (p:=16) (v:=?vo_w12) (w1:=(wr.setCell ⟨go5,(x5_1:Int).toNat * 5,none⟩ (.int .i64 x1_1))) ?hg ?ho ?hn ?hr ?_;(case ho=>rfl);(case hg=>rfl);(case hn=>rfl);(case hr=>first|(go_simp;done)|(go_simp;rfl));intro w12 hw;have hg:wr.grownBy w12 (some go5):=(by rw[hw];exact HP11.2);have hp_:Kd.R k82 82 w12 w0.heap.size (fun k_=>(P0_ k_∨w.heap.size≤k_)) (.slice (some ⟨go5,0,none⟩) x0_1.length co10) y1:=(by rw[hw,Ny1.out];exact HP11.1);clear HP11;replace HB:=Za ((by rw[hw];exact Zs (HB.out) GB5.out:Below w0.heap.size w0 w12));replace HK:=Za (Kept.of_grown (S:=(fun k_=>P0_ k_)) hg (by exact HK.out) (fun k_ e_=>(HO_0.out.1 k_ e_)));replace HO_0:=Za (hp_);clear hg hw hp_;have p6:0≤(x5_1:Int):=Zd (by with_reducible assumption);have q6:(x5_1:Int)<((x0_1.length:Int):Int):=Zd (by with_reducible assumption);obtain⟨ce6,hcl6,hM6,hcc6,hfr6⟩:=Kd.R_elem HO_0.out z82 (x5_1:Int) p6 q6;obtain rfl:=ZbM hM6;have hx6_0:w12.cell? ⟨go5,(x5_1:Int).toNat * 5,none⟩=some (.int .i64 ((Zu y1 x5_1).f0)):=hcc6 0 _ rfl;have hx6_1:w12.cell? ⟨go5,(x5_1:Int).toNat * 5+1,none⟩=some (.int .i64 ((Zu y1 x5_1).f1)):=hcc6 1 _ rfl;have hx6_2:w12.cell? ⟨go5,(x5_1:Int).toNat * 5+2,none⟩=some (.int .i64 ((Zu y1 x5_1).f2)):=hcc6 2 _ rfl;have hx6_3:w12.cell? ⟨go5,(x5_1:Int).toNat * 5+3,none⟩=some (.int .i64 ((Zu y1 x5_1).f3)):=hcc6 3 _ rfl;have hx6_4:w12.cell? ⟨go5,(x5_1:Int).toNat * 5+4,none⟩=some (.bool ((Zu y1 x5_1).f4)):=hcc6 4 _ rfl;have hf6_0:w12.frozen? ⟨go5,(x5_1:Int).toNat * 5,none⟩=false:=hfr6 0;have hf6_1:w12.frozen? ⟨go5,(x5_1:Int).toNat * 5+1,none⟩=false:=hfr6 1;have hf6_2:w12.frozen? ⟨go5,(x5_1:Int).toNat * 5+2,none⟩=false:=hfr6 2;have hf6_3:w12.frozen? ⟨go5,(x5_1:Int).toNat * 5+3,none⟩=false:=hfr6 3;have hf6_4:w12.frozen? ⟨go5,(x5_1:Int).toNat * 5+4,none⟩=false:=hfr6 4;clear hcl6 hcc6 hfr6 hM6;replace p6:=eq_true p6;replace q6:=eq_true q6;have HX13:=Za (show Kd.R k82 82 w12 w0.heap.size (fun k_=>(P0_ k_∨w.heap.size≤k_)) (.slice (some ⟨go5,0,none⟩) x0_1.length co10) y1 from(by exact HO_0.out));obtain⟨ce13,hcl13,hM13,hcc13,hfr13⟩:=Kd.R_elem HX13.out z82 (x5_1:Int) (Zd (by with_reducible assumption)) (by have h_:(x5_1:Int)<((x0_1.length:Int):Int):=Zd (by with_reducible assumption);first|exact h_|(have e_:=(Kd.R_reads' HO_0.out).1;omega)|simpa using h_);obtain rfl:=ZbM hM13;have HP13:=Kd.R_seg HX13.out (x5_1:Int) (Zd (by with_reducible assumption)) (by have h_:(x5_1:Int)<((x0_1.length:Int):Int):=Zd (by with_reducible assumption);first|exact h_|(have e_:=(Kd.R_reads' HO_0.out).1;omega)|simpa using h_) (seg:=[.int .i64 (wrap64 (x1_1+1))]) (j:=1) hcl13 hcc13 (show 2≤5 from by decide) (x':=(⟨(Zu y1 x5_1).f0,wrap64 (x1_1+1),(Zu y1 x5_1).f2,(Zu y1 x5_1).f3,(Zu y1 x5_1).f4⟩:S82)) (Zdr _ _ _ (⟨(Zu y1 x5_1).f0,wrap64 (x1_1+1),(Zu y1 x5_1).f2,(Zu y1 x5_1).f3,(Zu y1 x5_1).f4⟩:S82) ) (fun _ hk=>hk);have hx13_1:=hcc13 1 _ rfl;(try simp only[show(k82).sz=5 from rfl,Nat.mul_one,Nat.add_zero] at hx13_1);have hf13_1:=hfr13 1;(try simp only[show(k82).sz=5 from rfl,Nat.mul_one,Nat.add_zero] at hf13_1);clear hcl13 hcc13 hfr13 hM13)|((with_reducible refine ZbY (t:=3) (p:=23) rfl ?_);refine ZbD (t:=3) (p:=23) (v:=?vo_w14) (w1:=(w12.setCell ⟨go5,(x5_1:Int).toNat * 5+1,none⟩ (.int .i64 (wrap64 (x1_1+1))))) ?hg ?ho ?hn ?hr ?_;(case ho=>rfl);(case hg=>rfl);(case hn=>rfl);(case hr=>first|(go_simp;done)|(go_simp;rfl));intro w14 hw;have hg:w12.grownBy w14 (some go5):=(by rw[hw];exact HP13.2);have hp_:Kd.R k82 82 w14 w0.heap.size (fun k_=>(P0_ k_∨w.heap.size≤k_)) (.slice (some ⟨go5,0,none⟩) x0_1.length co10) y2:=(by rw[hw,Ny2.out];exact HP13.1);clear HP13;replace HB:=Za ((by rw[hw];exact Zs (HB.out) GB5.out:Below w0.heap.size w0 w14));replace HK:=Za (Kept.of_grown (S:=(fun k_=>P0_ k_)) hg (by exact HK.out) (fun k_ e_=>(HO_0.out.1 k_ e_)));replace HO_0:=Za (hp_);clear hg hw hp_;have p7:0≤(x5_1:Int):=Zd (by with_reducible assumption);have q7:(x5_1:Int)<((x0_1.length:Int):Int):=Zd (by with_reducible assumption);obtain⟨ce7,hcl7,hM7,hcc7,hfr7⟩:=Kd.R_elem HO_0.out z82 (x5_1:Int) p7 q7;obtain rfl:=ZbM hM7;have hx7_0:w14.cell? ⟨go5,(x5_1:Int).toNat * 5,none⟩=some (.int .i64 ((Zu y2 x5_1).f0)):=hcc7 0 _ rfl;have hx7_1:w14.cell? ⟨go5,(x5_1:Int).toNat * 5+1,none⟩=some (.int .i64 ((Zu y2 x5_1).f1)):=hcc7 1 _ rfl;have hx7_2:w14.cell? ⟨go5,(x5_1:Int).toNat * 5+2,none⟩=some (.int .i64 ((Zu y2 x5_1).f2)):=hcc7 2 _ rfl;have hx7_3:w14.cell? ⟨go5,(x5_1:Int).toNat * 5+3,none⟩=some (.int .i64 ((Zu y2 x5_1).f3)):=hcc7 3 _ rfl;have hx7_4:w14.cell? ⟨go5,(x5_1:Int).toNat * 5+4,none⟩=some (.bool ((Zu y2 x5_1).f4)):=hcc7 4 _ rfl;have hf7_0:w14.frozen? ⟨go5,(x5_1:Int).toNat * 5,none⟩=false:=hfr7 0;have hf7_1:w14.frozen? ⟨go5,(x5_1:Int).toNat * 5+1,none⟩=false:=hfr7 1;have hf7_2:w14.frozen? ⟨go5,(x5_1:Int).toNat * 5+2,none⟩=false:=hfr7 2;have hf7_3:w14.frozen? ⟨go5,(x5_1:Int).toNat * 5+3,none⟩=false:=hfr7 3;have hf7_4:w14.frozen? ⟨go5,(x5_1:Int).toNat * 5+4,none⟩=false:=hfr7 4;clear hcl7 hcc7 hfr7 hM7;replace p7:=eq_true p7;replace q7:=eq_true q7;have HX15:=Za (show Kd.R k82 82 w14 w0.heap.size (fun k_=>(P0_ k_∨w.heap.size≤k_)) (.slice (some ⟨go5,0,none⟩) x0_1.length co10) y2 from(by exact HO_0.out));obtain⟨ce15,hcl15,hM15,hcc15,hfr15⟩:=Kd.R_elem HX15.out z82 (x5_1:Int) (Zd (by with_reducible assumption)) (by have h_:(x5_1:Int)<((x0_1.length:Int):Int):=Zd (by with_reducible assumption);first|exact h_|(have e_:=(Kd.R_reads' HO_0.out).1;omega)|simpa using h_);obtain rfl:=ZbM hM15;have HP15:=Kd.R_seg HX15.out (x5_1:Int) (Zd (by with_reducible assumption)) (by have h_:(x5_1:Int)<((x0_1.length:Int):Int):=Zd (by with_reducible assumption);first|exact h_|(have e_:=(Kd.R_reads' HO_0.out).1;omega)|simpa using h_) (seg:=[.int .i64 (wrap64 ((wrap64 (x1_1+1))+1))]) (j:=2) hcl15 hcc15 (show 3≤5 from by decide) (x':=(⟨(Zu y2 x5_1).f0,(Zu y2 x5_1).f1,wrap64 ((wrap64 (x1_1+1))+1),(Zu y2 x5_1).f3,(Zu y2 x5_1).f4⟩:S82)) (Zdr _ _ _ (⟨(Zu y2 x5_1).f0,(Zu y2 x5_1).f1,wrap64 ((wrap64 (x1_1+1))+1),(Zu y2 x5_1).f3,(Zu y2 x5_1).f4⟩:S82) ) (fun _ hk=>hk);have hx15_2:=hcc15 2 _ rfl;(try simp only[show(k82).sz=5 from rfl,Nat.mul_one,Nat.add_zero] at hx15_2);have hf15_2:=hfr15 2;(try simp only[show(k82).sz=5 from rfl,Nat.mul_one,Nat.add_zero] at hf15_2);clear hcl15 hcc15 hfr15 hM15)|((with_reducible refine ZbY (t:=3) (p:=30) rfl ?_);refine ZbD (t:=3) (p:=30) (v:=?vo_w16) (w1:=(w14.setCell ⟨go5,(x5_1:Int).toNat * 5+2,none⟩ (.int .i64 (wrap64 ((wrap64 (x1_1+1))+1))))) ?hg ?ho ?hn ?hr ?_;(case ho=>rfl);(case hg=>rfl);(case hn=>rfl);(case hr=>first|(go_simp;done)|(go_simp;rfl));intro w16 hw;have hg:w14.grownBy w16 (some go5):=(by rw[hw];exact HP15.2);have hp_:Kd.R k82 82 w16 w0.heap.size (fun k_=>(P0_ k_∨w.heap.size≤k_)) (.slice (some ⟨go5,0,none⟩) x0_1.length co10) y3:=(by rw[hw,Ny3.out];exact HP15.1);clear HP15;replace HB:=Za ((by rw[hw];exact Zs (HB.out) GB5.out:Below w0.heap.size w0 w16));replace HK:=Za (Kept.of_grown (S:=(fun k_=>P0_ k_)) hg (by exact HK.out) (fun k_ e_=>(HO_0.out.1 k_ e_)));replace HO_0:=Za (hp_);clear hg hw hp_;have p8:0≤(x5_1:Int):=Zd (by with_reducible assumption);have q8:(x5_1:Int)<((x0_1.length:Int):Int):=Zd (by with_reducible assumption);obtain⟨ce8,hcl8,hM8,hcc8,hfr8⟩:=Kd.R_elem HO_0.out z82 (x5_1:Int) p8 q8;obtain rfl:=ZbM hM8;have hx8_0:w16.cell? ⟨go5,(x5_1:Int).toNat * 5,none⟩=some (.int .i64 ((Zu y3 x5_1).f0)):=hcc8 0 _ rfl;have hx8_1:w16.cell? ⟨go5,(x5_1:Int).toNat * 5+1,none⟩=some (.int .i64 ((Zu y3 x5_1).f1)):=hcc8 1 _ rfl;have hx8_2:w16.cell? ⟨go5,(x5_1:Int).toNat * 5+2,none⟩=some (.int .i64 ((Zu y3 x5_1).f2)):=hcc8 2 _ rfl;have hx8_3:w16.cell? ⟨go5,(x5_1:Int).toNat * 5+3,none⟩=some (.int .i64 ((Zu y3 x5_1).f3)):=hcc8 3 _ rfl;have hx8_4:w16.cell? ⟨go5,(x5_1:Int).toNat * 5+4,none⟩=some (.bool ((Zu y3 x5_1).f4)):=hcc8 4 _ rfl;have hf8_0:w16.frozen? ⟨go5,(x5_1:Int).toNat * 5,none⟩=false:=hfr8 0;have hf8_1:w16.frozen? ⟨go5,(x5_1:Int).toNat * 5+1,none⟩=false:=hfr8 1;have hf8_2:w16.frozen? ⟨go5,(x5_1:Int).toNat * 5+2,none⟩=false:=hfr8 2;have hf8_3:w16.frozen? ⟨go5,(x5_1:Int).toNat * 5+3,none⟩=false:=hfr8 3;have hf8_4:w16.frozen? ⟨go5,(x5_1:Int).toNat * 5+4,none⟩=false:=hfr8 4;clear hcl8 hcc8 hfr8 hM8;replace p8:=eq_true p8;replace q8:=eq_true q8;have HX17:=Za (show Kd.R k82 82 w16 w0.heap.size (fun k_=>(P0_ k_∨w.heap.size≤k_)) (.slice (some ⟨go5,0,none⟩) x0_1.length co10) y3 from(by exact HO_0.out));obtain⟨ce17,hcl17,hM17,hcc17,hfr17⟩:=Kd.R_elem HX17.out z82 (x5_1:Int) (Zd (by with_reducible assumption)) (by have h_:(x5_1:Int)<((x0_1.length:Int):Int):=Zd (by with_reducible assumption);first|exact h_|(have e_:=(Kd.R_reads' HO_0.out).1;omega)|simpa using h_);obtain rfl:=ZbM hM17;have HP17:=Kd.R_seg HX17.out (x5_1:Int) (Zd (by with_reducible assumption)) (by have h_:(x5_1:Int)<((x0_1.length:Int):Int):=Zd (by with_reducible assumption);first|exact h_|(have e_:=(Kd.R_reads' HO_0.out).1;omega)|simpa using h_) (seg:=[.int .i64 (wrap64 ((wrap64 ((wrap64 (x1_1+1))+1))+1))]) (j:=3) hcl17 hcc17 (show 4≤5 from by decide) (x':=(⟨(Zu y3 x5_1).f0,(Zu y3 x5_1).f1,(Zu y3 x5_1).f2,wrap64 ((wrap64 ((wrap64 (x1_1+1))+1))+1),(Zu y3 x5_1).f4⟩:S82)) (Zdr _ _ _ (⟨(Zu y3 x5_1).f0,(Zu y3 x5_1).f1,(Zu y3 x5_1).f2,wrap64 ((wrap64 ((wrap64 (x1_1+1))+1))+1),(Zu y3 x5_1).f4⟩:S82) ) (fun _ hk=>hk);have hx17_3:=hcc17 3 _ rfl;(try simp only[show(k82).sz=5 from rfl,Nat.mul_one,Nat.add_zero] at hx17_3);have hf17_3:=hfr17 3;(try simp only[show(k82).sz=5 from rfl,Nat.mul_one,Nat.add_zero] at hf17_3);clear hcl17 hcc17 hfr17 hM17)|((with_reducible refine ZbY (t:=3) (p:=37) rfl ?_);refine ZbD (t:=3) (p:=37) (v:=?vo_w18) (w1:=(w16.setCell ⟨go5,(x5_1:Int).toNat * 5+3,none⟩ (.int .i64 (wrap64 ((wrap64 ((wrap64 (x1_1+1))+1))+1))))) ?hg ?ho ?hn ?hr ?_;(case ho=>rfl);(case hg=>rfl);(case hn=>rfl);(case hr=>first|(go_simp;done)|(go_simp;rfl));intro w18 hw;have hg:w16.grownBy w18 (some go5):=(by rw[hw];exact HP17.2);have hp_:Kd.R k82 82 w18 w0.heap.size (fun k_=>(P0_ k_∨w.heap.size≤k_)) (.slice (some ⟨go5,0,none⟩) x0_1.length co10) y4:=(by rw[hw,Ny4.out];exact HP17.1);clear HP17;replace HB:=Za ((by rw[hw];exact Zs (HB.out) GB5.out:Below w0.heap.size w0 w18));replace HK:=Za (Kept.of_grown (S:=(fun k_=>P0_ k_)) hg (by exact HK.out) (fun k_ e_=>(HO_0.out.1 k_ e_)));replace HO_0:=Za (hp_);clear hg hw hp_;have p9:0≤(x5_1:Int):=Zd (by with_reducible assumption);have q9:(x5_1:Int)<((x0_1.length:Int):Int):=Zd (by with_reducible assumption);obtain⟨ce9,hcl9,hM9,hcc9,hfr9⟩:=Kd.R_elem HO_0.out z82 (x5_1:Int) p9 q9;obtain rfl:=ZbM hM9;have hx9_0:w18.cell? ⟨go5,(x5_1:Int).toNat * 5,none⟩=some (.int .i64 ((Zu y4 x5_1).f0)):=hcc9 0 _ rfl;have hx9_1:w18.cell? ⟨go5,(x5_1:Int).toNat * 5+1,none⟩=some (.int .i64 ((Zu y4 x5_1).f1)):=hcc9 1 _ rfl;have hx9_2:w18.cell? ⟨go5,(x5_1:Int).toNat * 5+2,none⟩=some (.int .i64 ((Zu y4 x5_1).f2)):=hcc9 2 _ rfl;have hx9_3:w18.cell? ⟨go5,(x5_1:Int).toNat * 5+3,none⟩=some (.int .i64 ((Zu y4 x5_1).f3)):=hcc9 3 _ rfl;have hx9_4:w18.cell? ⟨go5,(x5_1:Int).toNat * 5+4,none⟩=some (.bool ((Zu y4 x5_1).f4)):=hcc9 4 _ rfl;have hf9_0:w18.frozen? ⟨go5,(x5_1:Int).toNat * 5,none⟩=false:=hfr9 0;have hf9_1:w18.frozen? ⟨go5,(x5_1:Int).toNat * 5+1,none⟩=false:=hfr9 1;have hf9_2:w18.frozen? ⟨go5,(x5_1:Int).toNat * 5+2,none⟩=false:=hfr9 2;have hf9_3:w18.frozen? ⟨go5,(x5_1:Int).toNat * 5+3,none⟩=false:=hfr9 3;have hf9_4:w18.frozen? ⟨go5,(x5_1:Int).toNat * 5+4,none⟩=false:=hfr9 4;clear hcl9 hcc9 hfr9 hM9;replace p9:=eq_true p9;replace q9:=eq_true q9;have HX19:=Za (show Kd.R k82 82 w18 w0.heap.size (fun k_=>(P0_ k_∨w.heap.size≤k_)) (.slice (some ⟨go5,0,none⟩) x0_1.length co10) y4 from(by exact HO_0.out));obtain⟨ce19,hcl19,hM19,hcc19,hfr19⟩:=Kd.R_elem HX19.out z82 (x5_1:Int) (Zd (by with_reducible assumption)) (by have h_:(x5_1:Int)<((x0_1.length:Int):Int):=Zd (by with_reducible assumption);first|exact h_|(have e_:=(Kd.R_reads' HO_0.out).1;omega)|simpa using h_);obtain rfl:=ZbM hM19;have HP19:=Kd.R_seg HX19.out (x5_1:Int) (Zd (by with_reducible assumption)) (by have h_:(x5_1:Int)<((x0_1.length:Int):Int):=Zd (by with_reducible assumption);first|exact h_|(have e_:=(Kd.R_reads' HO_0.out).1;omega)|simpa using h_) (seg:=[.bool ((Int.tmod (wrap64 ((wrap64 ((wrap64 ((wrap64 (x1_1+1))+1))+1))+1)) 3) == 0)]) (j:=4) hcl19 hcc19 (show 5≤5 from by decide) (x':=(⟨(Zu y4 x5_1).f0,(Zu y4 x5_1).f1,(Zu y4 x5_1).f2,(Zu y4 x5_1).f3,((Int.tmod (wrap64 ((wrap64 ((wrap64 ((wrap64 (x1_1+1))+1))+1))+1)) 3) == 0)⟩:S82)) (Zdr _ _ _ (⟨(Zu y4 x5_1).f0,(Zu y4 x5_1).f1,(Zu y4 x5_1).f2,(Zu y4 x5_1).f3,((Int.tmod (wrap64 ((wrap64 ((wrap64 ((wrap64 (x1_1+1))+1))+1))+1)) 3) == 0)⟩:S82) ) (fun _ hk=>hk);have hx19_4:=hcc19 4 _ rfl;(try simp only[show(k82).sz=5 from rfl,Nat.mul_one,Nat.add_zero] at hx19_4);have hf19_4:=hfr19 4;(try simp only[show(k82).sz=5 from rfl,Nat.mul_one,Nat.add_zero] at hf19_4);clear hcl19 hcc19 hfr19 hM19)|((with_reducible refine ZbY (t:=4) (p:=46) rfl ?_);refine ZbD (t:=4) (p:=46) (v:=?vo_w20) (w1:=(w18.setCell ⟨go5,(x5_1:Int).toNat * 5+4,none⟩ (.bool ((Int.tmod (wrap64 ((wrap64 ((wrap64 ((wrap64 (x1_1+1))+1))+1))+1)) 3) == 0)))) ?hg ?ho ?hn ?hr ?_;(case ho=>rfl);(case hg=>rfl);(case hn=>rfl);(case hr=>first|(go_simp;done)|(go_simp;rfl));intro w20 hw;have hg:w18.grownBy w20 (some go5):=(by rw[hw];exact HP19.2);have hp_:Kd.R k82 82 w20 w0.heap.size (fun k_=>(P0_ k_∨w.heap.size≤k_)) (.slice (some ⟨go5,0,none⟩) x0_1.length co10) y5:=(by rw[hw,Ny5.out];exact HP19.1);clear HP19;replace HB:=Za ((by rw[hw];exact Zs (HB.out) GB5.out:Below w0.heap.size w0 w20));replace HK:=Za (Kept.of_grown (S:=(fun k_=>P0_ k_)) hg (by exact HK.out) (fun k_ e_=>(HO_0.out.1 k_ e_)));replace HO_0:=Za (hp_);clear hg hw hp_))
     go_roundg k1
     case measure=>have:=HK1.out;omega
     case rel=>exact⟨(y5),(wrap64 ((wrap64 ((wrap64 ((wrap64 ((wrap64 (x1_1+1))+1))+1))+1))+1)),(wrap64 (x5_1+1)),(by first|rfl|(simp;done)|(simp[*];done)),(by first|rfl|(simp;done)|(simp[*];done)),H',⟨by have:=HK1.out;omega⟩,⟨by(with_reducible repeat(first|apply Kd.R_alloc|apply Kd.R_drewN|apply Kd.R_drew));exact HO_0.out⟩,⟨by repeat(first|(with_reducible first|exact HK.out|apply Kept.alloc|apply Kept.drewN|apply Kept.drew)|exact HK.out)⟩,⟨by repeat(first|(with_reducible first|exact HB.out|apply Zo|apply Zm|apply Zp)|exact HB.out)⟩⟩
    ·rw[if_neg c4] at H
     exact absurd H (by simp)
   ·rw[if_neg c3] at H
    have c3b0:decide (x5_1<(x0_1.length:Int))=false:=Zf c3
    clear c3
    simp only[Option.some.injEq,Prod.mk.injEq] at H
    obtain⟨rfl,rfl⟩:=H
    obtain⟨Ao21,co21,eo21⟩:=Kd.R_slice HO_0.out
    subst eo21
    go_wp2
    go_ret
    exact⟨by first|rfl|(simp[ZB,ZA] <;> rfl)|(simp[*,ZB,ZA] <;> rfl),by(with_reducible repeat(first|apply Kd.R_alloc|apply Kd.R_drewN|apply Kd.R_drew));exact HO_0.out,by repeat(first|(with_reducible first|exact HB.out|apply Zo|apply Zm|apply Zp)|exact HB.out),by repeat(first|(with_reducible first|exact HK.out|apply Kept.alloc|apply Kept.drewN|apply Kept.drew)|exact HK.out)⟩
def Zbx.l0:Nat→List Int→Int→Int→Option (Int)
 | 0,_,_,_=>none
 | k+1,x0,x1,x5=>if x5<(x0.length:Int) then(if 0≤x5 then(if (rd x0 x5)=x1 then(Zbx.l0 k x0 (wrap64 (x1+1)) (wrap64 (x5+1))) else(some (-1))) else(none)) else(some x1)
def Zbx.f (k:Nat) (l0:List Int) (a1:Int):Option (Int):=Zbx.l0 k l0 a1 0
theorem Zbx.calls (k:Nat) (A0:Option Addr) (c0:Nat) (l0:List Int) (a1:Int) (r:Int) (w:World) (hr0:Kd.C (Kd.int .i64) w A0 l0.length l0) (hc0:l0.length≤c0) (h:Zbx.f k l0 a1=some r) :
  Calls Tryz.prog 139 #[.slice A0 l0.length c0,.int .i64 a1] w fun e w'=>e=.returned (.int .i64 r)∧ZF w w':=by
 have HR0:=Za hr0;have HC0:=Za hc0;clear hr0 hc0
 have H:(Zbx.l0 k l0 a1 0)=some r:=h
 clear h
 have H':=Za H
 clear H
 go_enter Tryz.func139,Tryz.ntmps139
 go_wp2
 go_loopg [1,5] k (fun kq v1 v5 w'=>∃(x1_1:Int) (x5_1:Int),v1=.int .i64 x1_1∧v5=.int .i64 x5_1∧Aside0 (Zbx.l0 kq l0 x1_1 x5_1=some r)∧Aside0 (kq≤k)∧ZF w w')
 case atStart=>exact⟨(a1),(0),(by first|rfl|(simp;done)|(simp[*];done)),(by first|rfl|(simp;done)|(simp[*];done)),H',⟨Nat.le_refl _⟩,by repeat(first|exact ZF.refl _|apply ZF.step)⟩
 case round=>
  clear H'
  try clear c1
  try clear p2
  obtain⟨x1_1,x5_1,rfl,rfl,HA,HK1,⟨m1,rfl⟩⟩:=hrel
  cases gk with
  | zero=>exact absurd HA.out (by simp[Zbx.l0])
  | succ k1=>
   have H:=HA.out
   clear HA
   simp only[Zbx.l0] at H
   by_cases c3:x5_1<(l0.length:Int)
   ·rw[if_pos c3] at H
    have c3b0:decide (x5_1<(l0.length:Int))=true:=Ze c3
    clear c3
    by_cases c4:0≤x5_1
    ·rw[if_pos c4] at H
     have c4b0:decide (0≤x5_1)=true:=Ze c4
     clear c4
     by_cases c5:(rd l0 x5_1)=x1_1
     ·rw[if_pos c5] at H
      have c5b0:((rd l0 x5_1) == x1_1)=true:=beq_iff_eq.mpr c5
      have c5b1:((rd l0 x5_1) != x1_1)=false:=bne_eq_false_iff_eq.mpr c5
      clear c5
      have H':=Za H
      clear H
      have p1:0≤(x5_1:Int):=Zd (by first|(with_reducible assumption)|assumption)
      have q1:x5_1<(l0.length:Int):=Zd (by first|(with_reducible assumption)|assumption)
      obtain⟨ad1,e1,hx1_0⟩:=Kd.at_int HR0.out x5_1 p1 q1
      cases e1
      replace p1:=eq_true p1
      replace q1:=eq_true q1
      go_wp2
      go_roundg k1
      case measure=>have:=HK1.out;omega
      case rel=>exact⟨(wrap64 (x1_1+1)),(wrap64 (x5_1+1)),(by first|rfl|(simp;done)|(simp[*];done)),(by first|rfl|(simp;done)|(simp[*];done)),H',⟨by have:=HK1.out;omega⟩,by repeat(first|exact ZF.refl _|apply ZF.step)⟩
     ·rw[if_neg c5] at H
      have c5b0:((rd l0 x5_1) == x1_1)=false:=beq_eq_false_iff_ne.mpr c5
      have c5b1:((rd l0 x5_1) != x1_1)=true:=bne_iff_ne.mpr c5
      obtain rfl:=Zg H
      have p1:0≤(x5_1:Int):=Zd (by first|(with_reducible assumption)|assumption)
      have q1:x5_1<(l0.length:Int):=Zd (by first|(with_reducible assumption)|assumption)
      obtain⟨ad1,e1,hx1_0⟩:=Kd.at_int HR0.out x5_1 p1 q1
      cases e1
      replace p1:=eq_true p1
      replace q1:=eq_true q1
      go_wp2
      go_ret
      exact⟨by first|rfl|(simp;done)|(simp[*];done),by repeat(first|exact ZF.refl _|apply ZF.step)⟩
    ·rw[if_neg c4] at H
     exact absurd H (by simp)
   ·rw[if_neg c3] at H
    have c3b0:decide (x5_1<(l0.length:Int))=false:=Zf c3
    clear c3
    obtain rfl:=Zg H
    go_wp2
    go_ret
    exact⟨by first|rfl|(simp;done)|(simp[*];done),by repeat(first|exact ZF.refl _|apply ZF.step)⟩
theorem markTieS_f (l:List PTie) (hl:l.length≤1048576) (a:Int) (h0:0≤a) (h1:a≤1152921504606846976) (k:Nat) (hk:2 ^ 64≤k):∃l',Zam.f k l a=some (a+5 * l.length,l'):=by
 have key:=Za2 l.length (fun k i=>∀m:List PTie,m.length=l.length→∃l',Zam.l0 k m (a+5 * i) (i:Int)=some (a+5 * l.length,l')) 0
  (fun k _ m hm=>by
   simp only[Zam.l0]
   rw[if_neg (by omega)]
   exact⟨_,rfl⟩)
  (fun k i _ hi ih m hm=>by
   simp only[Zam.l0,Zi]
   rw[if_pos (by omega),if_pos (by omega),ZL hi (by omega),Zay (i:=a+5 * i+1) (by omega) (by omega),Zay (i:=a+5 * i+1+1) (by omega) (by omega),Zay (i:=a+5 * i+1+1+1) (by omega) (by omega),Zay (i:=a+5 * i+1+1+1+1) (by omega) (by omega),Zay (i:=a+5 * i+1+1+1+1+1) (by omega) (by omega)]
   rw[show a+5 * (i:Int)+1+1+1+1+1=a+5 * ((i+1:Nat):Int) by omega]
   exact ih _ (by simp[hm])) 0 k (Nat.zero_le _) (by omega)
 unfold Zam.f
 have:=key l rfl
 simpa using this
def Zel (ns:List ZM) (ts:List PTie):Bool:=decide (ns.length≤1048576) && (decide (ts.length≤1048576) && ns.all (fun n=>decide (n.f1.length≤1048576)))
theorem smallB_iff {ns:List ZM} {ts:List PTie} (h:Zel ns ts=true):(∀x∈ns,x.f1.length≤1048576)∧ns.length≤1048576∧ts.length≤1048576:=by
 unfold Zel at h
 simp only[Bool.and_eq_true,decide_eq_true_eq,List.all_eq_true] at h
 exact⟨h.2.2,h.1,h.2.1⟩
theorem smallB_of {ns:List ZM} {ts:List PTie} (h:Zbm ns ts):Zel ns ts=true:=by
 unfold Zel
 simp only[Bool.and_eq_true,decide_eq_true_eq,List.all_eq_true]
 exact⟨h.1,h.2.1,fun n hn=>(h.2.2 n hn).2⟩
def Zai.l0:Nat→List ByteArray→Int→Int→Option (Int×List ByteArray)
 | 0,_,_,_=>none
 | k+1,x0,x1,x5=>if x5<(x0.length:Int) then((Z4.f k x1).bind fun t1=>(if 0≤x5 then(Zai.l0 k (x0.set (x5:Int).toNat t1) (wrap64 (x1+1)) (wrap64 (x5+1))) else(none))) else(some (x1,x0))
def Zai.f (k:Nat) (l0:List ByteArray) (a1:Int):Option (Int×List ByteArray):=Zai.l0 k l0 a1 0
theorem Zai.calls (k:Nat) (P0_:Nat→Prop) (u9000_:Value) (l0:List ByteArray) (a1:Int) (r1:Int) (r2:List ByteArray) (w0 w:World) (hB:Below w0.heap.size w0 w) (ho0:Kd.R Kd.string 9 w w0.heap.size P0_ u9000_ l0) (h:Zai.f k l0 a1=some (r1,r2)) :
  Calls Tryz.prog 47 #[u9000_,.int .i64 a1] w fun e w'=>e=.returned (.int .i64 r1)∧Kd.R Kd.string 9 w' w0.heap.size (fun k_=>(P0_ k_∨w.heap.size≤k_)) u9000_ r2∧Below w0.heap.size w0 w'∧Kept w w' (fun k_=>P0_ k_):=by
 have HO0:=Za (show Kd.R Kd.string 9 w w0.heap.size (fun k_=>(P0_ k_∨w.heap.size≤k_)) u9000_ l0 from Kd.R_mono ho0 (fun k_ hk=>(.inl hk)))
 have HK:=Za (Kept.refl w (fun k_=>P0_ k_))
 have HW0:=Za hB.size
 have HB:=Za hB;clear hB
 have H:(Zai.l0 k l0 a1 0)=some (r1,r2):=h
 clear h
 have H':=Za H
 clear H
 go_enter Tryz.func47,Tryz.ntmps47
 go_wp2
 go_loopg [1,5] k (fun kq v1 v5 w'=>∃(x0_1:List ByteArray) (x1_1:Int) (x5_1:Int),v1=.int .i64 x1_1∧v5=.int .i64 x5_1∧Aside0 (Zai.l0 kq x0_1 x1_1 x5_1=some (r1,r2))∧Aside0 (kq≤k)∧Aside0 (Kd.R Kd.string 9 w' w0.heap.size (fun k_=>(P0_ k_∨w.heap.size≤k_)) u9000_ x0_1)∧Aside0 (Kept w w' (fun k_=>P0_ k_))∧Aside0 (Below w0.heap.size w0 w'))
 case atStart=>exact⟨(l0),(a1),(0),(by first|rfl|(simp;done)|(simp[*];done)),(by first|rfl|(simp;done)|(simp[*];done)),H',⟨Nat.le_refl _⟩,⟨by(with_reducible repeat(first|apply Kd.R_alloc|apply Kd.R_drewN|apply Kd.R_drew));exact HO0.out⟩,⟨by repeat(first|(with_reducible first|exact HK.out|apply Kept.alloc|apply Kept.drewN|apply Kept.drew)|exact HK.out)⟩,⟨by repeat(first|(with_reducible first|exact HB.out|apply Zo|apply Zm|apply Zp)|exact HB.out)⟩⟩
 case round=>
  clear H'
  try clear p2
  obtain⟨x0_1,x1_1,x5_1,rfl,rfl,HA,HK1,HO_0,HK,HB⟩:=hrel
  cases gk with
  | zero=>exact absurd HA.out (by simp[Zai.l0])
  | succ k1=>
   have H:=HA.out
   clear HA
   simp only[Zai.l0] at H
   by_cases c3:x5_1<(x0_1.length:Int)
   ·rw[if_pos c3] at H
    have c3b0:decide (x5_1<(x0_1.length:Int))=true:=Ze c3
    clear c3
    replace H:=Zh H
    obtain⟨t1,A40,H⟩:=H
    replace H:(if 0≤x5_1 then(Zai.l0 k1 (x0_1.set (x5_1:Int).toNat t1) (wrap64 (x1_1+1)) (wrap64 (x5_1+1))) else(none))=some (r1,r2):=H
    have A4:=Za A40;clear A40
    by_cases c5:0≤x5_1
    ·rw[if_pos c5] at H
     have c5b0:decide (0≤x5_1)=true:=Ze c5
     clear c5
     obtain⟨y2,hy2⟩:∃y_:List ByteArray,y_=(x0_1.set (x5_1:Int).toNat t1):=⟨_,rfl⟩
     replace H:(Zai.l0 k1 y2 (wrap64 (x1_1+1)) (wrap64 (x5_1+1)))=some (r1,r2):=by first|(rw[hy2];with_reducible exact H)|(have H2_:=(Zi _ _).symm.trans H;rw[hy2];with_reducible exact H2_)|(have H2_:=(Zi _ _).symm.trans H;with_reducible exact H2_)|with_reducible exact H|(rw[hy2];exact H)|exact H
     have Ny2:=Za hy2;clear hy2
     have H':=Za H
     clear H
     obtain⟨Ao7,co7,eo7⟩:=Kd.R_slice HO_0.out
     subst eo7
     go_wp2_with (first|((with_reducible refine ZJ (f:=119) rfl ?_);refine ZY (some 15) rfl rfl Tryz.func119 (by kernel_rfl) rfl #[.int .i64 x1_1] rfl (by(try simp only[List.map_toArray,List.map_cons,List.map_nil]);first|done|rfl|(simp only[Zk,Zj];rfl)) ?_;(with_reducible refine(Z4.calls k1 x1_1 t1 _ A4.out).mono ?_);rintro e w8 ⟨rfl,hb⟩;refine⟨_,rfl,?_⟩;replace HO_0:=Za (Kd.R_below (by(with_reducible repeat(first|apply Kd.R_alloc|apply Kd.R_drewN|apply Kd.R_drew));exact HO_0.out) hb);replace HK:=Za (Kept.below (S:=(fun k_=>P0_ k_)) (by repeat(first|(with_reducible first|exact HK.out|apply Kept.alloc|apply Kept.drewN|apply Kept.drew)|exact HK.out)) hb);replace HB:=Za (Zq (by repeat(first|(with_reducible first|exact HB.out|apply Zo|apply Zm|apply Zp)|exact HB.out)) hb);(try clear hb);(try clear hb2);(try clear hk);(try clear hi);have p6:0≤(x5_1:Int):=Zd (by first|(with_reducible assumption)|assumption);have q6:(x5_1:Int)<((x0_1.length:Int):Int):=Zd (by first|(with_reducible assumption)|assumption);obtain⟨go6,co6,eo6,gb6,gl6,cl6,HG6⟩:=Kd.R_form HO_0.out (by omega);(first|cases eo6|(injection eo6 with ea_ en_ ec_;(first|subst ea_|(injection ea_ with ea_;subst ea_));subst ec_;clear en_));have GB6:=Za gb6;have GG6:=Za HG6;clear gb6 gl6 HG6;have HMgo6:=Za (show(P0_ go6∨w.heap.size≤go6) from(HO_0.out.1 _ rfl));obtain⟨hx6_0,hf6_0⟩:=Kd.R_celln (⟨#[]⟩:ByteArray) HO_0.out (x5_1:Int) p6 q6;replace p6:=eq_true p6;replace q6:=eq_true q6;obtain⟨hy9_,hz9_⟩:=Kd.R_celln (⟨#[]⟩:ByteArray) HO_0.out (x5_1:Int) (Zd (by first|(with_reducible assumption)|assumption)) (Zd (by first|(with_reducible assumption)|assumption));have HP9:=Kd.R_putg HO_0.out (x5_1:Int) t1)|((with_reducible refine ZbY (t:=9) (p:=16) rfl ?_);refine ZbD (t:=9) (p:=16) (v:=?vo_w10) (w1:=(w8.setCell ⟨go6,(x5_1:Int).toNat,none⟩ (.string t1))) ?hg ?ho ?hn ?hr ?_;(case ho=>rfl);(case hg=>rfl);(case hn=>rfl);(case hr=>first|(go_simp;done)|(go_simp;rfl));intro w10 hw;have hg:w8.grownBy w10 (some go6):=(by rw[hw];exact HP9.2);have hp_:Kd.R Kd.string 9 w10 w0.heap.size (fun k_=>(P0_ k_∨w.heap.size≤k_)) (.slice (some ⟨go6,0,none⟩) x0_1.length co7) y2:=(by rw[hw,Ny2.out];exact HP9.1);clear HP9;replace HB:=Za ((by rw[hw];exact Zs (HB.out) GB6.out:Below w0.heap.size w0 w10));replace HK:=Za (Kept.of_grown (S:=(fun k_=>P0_ k_)) hg (by repeat(first|(with_reducible first|exact HK.out|apply Kept.alloc|apply Kept.drewN|apply Kept.drew)|exact HK.out)) (fun k_ e_=>(HO_0.out.1 k_ e_)));replace HO_0:=Za (hp_);clear hg hw hp_))
     go_roundg k1
     case measure=>have:=HK1.out;omega
     case rel=>exact⟨(y2),(wrap64 (x1_1+1)),(wrap64 (x5_1+1)),(by first|rfl|(simp;done)|(simp[*];done)),(by first|rfl|(simp;done)|(simp[*];done)),H',⟨by have:=HK1.out;omega⟩,⟨by(with_reducible repeat(first|apply Kd.R_alloc|apply Kd.R_drewN|apply Kd.R_drew));exact HO_0.out⟩,⟨by repeat(first|(with_reducible first|exact HK.out|apply Kept.alloc|apply Kept.drewN|apply Kept.drew)|exact HK.out)⟩,⟨by repeat(first|(with_reducible first|exact HB.out|apply Zo|apply Zm|apply Zp)|exact HB.out)⟩⟩
    ·rw[if_neg c5] at H
     exact absurd H (by simp)
   ·rw[if_neg c3] at H
    have c3b0:decide (x5_1<(x0_1.length:Int))=false:=Zf c3
    clear c3
    simp only[Option.some.injEq,Prod.mk.injEq] at H
    obtain⟨rfl,rfl⟩:=H
    obtain⟨Ao11,co11,eo11⟩:=Kd.R_slice HO_0.out
    subst eo11
    go_wp2
    go_ret
    exact⟨by first|rfl|(simp[ZB,ZA] <;> rfl)|(simp[*,ZB,ZA] <;> rfl),by(with_reducible repeat(first|apply Kd.R_alloc|apply Kd.R_drewN|apply Kd.R_drew));exact HO_0.out,by repeat(first|(with_reducible first|exact HB.out|apply Zo|apply Zm|apply Zp)|exact HB.out),by repeat(first|(with_reducible first|exact HK.out|apply Kept.alloc|apply Kept.drewN|apply Kept.drew)|exact HK.out)⟩
section
variable {P:Program} {ops:Array Oper} {Q:Exit→Act→World→Prop} {md:Region.Mode} {S:World→Prop} {ds:List Nat}
theorem pu {fuel:Nat} {l:Array Bool} {a:Act} {w:World} (i:Nat) {N:Option Tmp} {oi:Oper} {v:Value} {l':Array Bool} {a':Act} (h:ZR P md ops Q S ds fuel l' a' w) (hi:ops[i]? = some oi:=by rfl) (hN:oi.dst=N:=by rfl)
  (_hl:l.setIfInBounds i true=l':=by(simp only[List.setIfInBounds_toArray,List.set_cons_zero,List.set_cons_succ];rfl)) (hc:anyB md ops l l' i=true:=by kernel_rfl) (hQ:∀c a w,Q (.panic c) (a.put oi.dst v) w→Q (.panic c) a w:=by exact fun _ _ _ h=>h)
  (hy:Yields P ops oi v a:=by(refine Or.inl ⟨by rfl,?_⟩;intro w';go_simp;with_reducible rfl)) (ha:a.put N v=a':=by(simp only[Act.put,List.setIfInBounds_toArray,List.set_cons_zero,List.set_cons_succ,i64_w,i32_w];rfl)):ZR P md ops Q S ds (fuel+1) l a w:=
 pure_ l' hi hN hc hQ hy ha h
theorem tk {fuel:Nat} {l:Array Bool} {a:Act} {w:World} (i:Nat) (hS:S w) {N:Option Tmp} {oi:Oper} {v:Value} {l':Array Bool} {a':Act} (h:ZR P md ops Q S ds fuel l' a' w) (hi:ops[i]? = some oi:=by rfl) (hN:oi.dst=N:=by rfl)
  (_hl:l.setIfInBounds i true=l':=by(simp only[List.setIfInBounds_toArray,List.set_cons_zero,List.set_cons_succ];rfl)) (hc:takeB md ops ds l l' i=true:=by kernel_rfl) (hQ:∀c a w,Q (.panic c) (a.put oi.dst v) w→Q (.panic c) a w:=by exact fun _ _ _ h=>h)
  (hy:YieldsIf P ops S oi v a:=by(refine Or.inl ⟨by rfl,?_⟩;intro w' hs_;go_simp;with_reducible rfl)) (ha:a.put N v=a':=by(simp only[Act.put,List.setIfInBounds_toArray,List.set_cons_zero,List.set_cons_succ,i64_w,i32_w];rfl)):ZR P md ops Q S ds (fuel+1) l a w:=
 take_ l' hi hN hc hQ hy hS ha h
theorem und {fuel:Nat} {l:Array Bool} {a:Act} {w:World} (i:Nat) {N:Option Tmp} {oi:Oper} {l':Array Bool} {a':Act} (h:ZR P md ops Q S ds fuel l' a' w) (hi:ops[i]? = some oi:=by rfl) (hN:oi.dst=N:=by rfl)
  (_hl:l.setIfInBounds i true=l':=by(simp only[List.setIfInBounds_toArray,List.set_cons_zero,List.set_cons_succ];rfl)) (hc:anyB md ops l l' i=true:=by kernel_rfl) (hQ:∀c a w,Q (.panic c) (a.put oi.dst undef) w→Q (.panic c) a w:=by exact fun _ _ _ h=>h)
  (hy:Yields P ops oi undef a:=by exact Or.inr ⟨by rfl,rfl⟩) (ha:a.put N undef=a':=by(simp only[Act.put,List.setIfInBounds_toArray,List.set_cons_zero,List.set_cons_succ,i64_w,i32_w];rfl)):ZR P md ops Q S ds (fuel+1) l a w:=
 pure_ l' hi hN hc hQ hy ha h
theorem onl {fuel:Nat} {l:Array Bool} {a:Act} {w:World} (i:Nat) {N:Option Tmp} {oi:Oper} {l':Array Bool}
  (h:∀K:Act→World→Prop,Shut (∀a' w',S w'→(S w'→ZR P md ops Q S ds fuel l' a' w')→K a' w')→if Region.wanted oi (yielded ops a.tmps)=true then Oper.wp P oi a w K Q else K (a.put N undef) w) (hi:ops[i]? = some oi:=by rfl) (hN:oi.dst=N:=by rfl)
  (_hl:l.setIfInBounds i true=l':=by(simp only[List.setIfInBounds_toArray,List.set_cons_zero,List.set_cons_succ];rfl)) (hc:ZdX md ops l l' i=true:=by kernel_rfl) (hd:i ∉ ds:=by decide):ZR P md ops Q S ds (fuel+1) l a w:=
 one_ l' hi hN hc hd h
theorem nrm {fuel:Nat} {l:Array Bool} {a:Act} {w:World} (N:Option Tmp) {v:Value} {a':Act} (h:ZR P md ops Q S ds fuel l a' w) (ha:a.put N v=a':=by(simp only[Act.put,List.setIfInBounds_toArray,List.set_cons_zero,List.set_cons_succ,i64_w,i32_w];rfl)):ZR P md ops Q S ds fuel l (a.put N v) w:=
 ZdK ha h
end
def Zan.l0:Nat→List ByteArray→Int→Int→Option (Int)
 | 0,_,_,_=>none
 | k+1,x0,x1,x5=>if x5<(x0.length:Int) then(if 0≤x5 then((Z4.f k x1).bind fun t2=>(if (rdOf ByteArray.empty x0 x5).toList=t2.toList then(Zan.l0 k x0 (wrap64 (x1+1)) (wrap64 (x5+1))) else(some (-1)))) else(none)) else(some x1)
def Zan.f (k:Nat) (l0:List ByteArray) (a1:Int):Option (Int):=Zan.l0 k l0 a1 0
theorem Zan.calls (k:Nat) (A0:Option Addr) (c0:Nat) (l0:List ByteArray) (a1:Int) (r:Int) (w:World) (hr0:Kd.C Kd.string w A0 l0.length l0) (hc0:l0.length≤c0) (h:Zan.f k l0 a1=some r) :
  Calls Tryz.prog 48 #[.slice A0 l0.length c0,.int .i64 a1] w fun e w'=>e=.returned (.int .i64 r)∧Below w.heap.size w w':=by
 have HR0:=Za hr0;have HC0:=Za hc0;clear hr0 hc0
 have HB:=Za (Below.refl w.heap.size w)
 have H:(Zan.l0 k l0 a1 0)=some r:=h
 clear h
 have H':=Za H
 clear H
 go_enter Tryz.func48,Tryz.ntmps48
 go_wp2
 go_loopg [1,5] k (fun kq v1 v5 w'=>∃(x1_1:Int) (x5_1:Int),v1=.int .i64 x1_1∧v5=.int .i64 x5_1∧Aside0 (Zan.l0 kq l0 x1_1 x5_1=some r)∧Aside0 (kq≤k)∧Aside0 (Below w.heap.size w w'))
 case atStart=>exact⟨(a1),(0),(by first|rfl|(simp;done)|(simp[*];done)),(by first|rfl|(simp;done)|(simp[*];done)),H',⟨Nat.le_refl _⟩,⟨by repeat(first|(with_reducible first|exact HB.out|apply Zo|apply Zm|apply Zp)|exact HB.out)⟩⟩
 case round=>
  clear H'
  try clear p2
  obtain⟨x1_1,x5_1,rfl,rfl,HA,HK1,HB⟩:=hrel
  cases gk with
  | zero=>exact absurd HA.out (by simp[Zan.l0])
  | succ k1=>
   have H:=HA.out
   clear HA
   simp only[Zan.l0] at H
   by_cases c3:x5_1<(l0.length:Int)
   ·rw[if_pos c3] at H
    have c3b0:decide (x5_1<(l0.length:Int))=true:=Ze c3
    clear c3
    by_cases c4:0≤x5_1
    ·rw[if_pos c4] at H
     have c4b0:decide (0≤x5_1)=true:=Ze c4
     clear c4
     replace H:=Zh H
     obtain⟨t2,A50,H⟩:=H
     replace H:(if (rdOf ByteArray.empty l0 x5_1).toList=t2.toList then(Zan.l0 k1 l0 (wrap64 (x1_1+1)) (wrap64 (x5_1+1))) else(some (-1)))=some r:=H
     have A5:=Za A50;clear A50
     by_cases c6:(rdOf ByteArray.empty l0 x5_1).toList=t2.toList
     ·rw[if_pos c6] at H
      have c6b0:((rdOf ByteArray.empty l0 x5_1).toList == t2.toList)=true:=beq_iff_eq.mpr c6
      have c6b1:((rdOf ByteArray.empty l0 x5_1).toList != t2.toList)=false:=bne_eq_false_iff_eq.mpr c6
      clear c6
      have H':=Za H
      clear H
      try go_wp2
      replace HB:=Za (Zp HB.out)
      have p1:0≤(x5_1:Int):=Zd (by first|(with_reducible assumption)|assumption)
      have q1:x5_1<(l0.length:Int):=Zd (by first|(with_reducible assumption)|assumption)
      obtain⟨ad1,e1,hx1_0⟩:=Kd.at_string HR0.out x5_1 p1 q1
      have hw1_0:=hx1_0
      cases e1
      replace hx1_0:=(HB.out.cell (Zc w _ hx1_0)).trans hx1_0
      replace p1:=eq_true p1
      replace q1:=eq_true q1
      refine ZbP (n:=7) (S:=fun w'=>w'.cell? (ad1.add (x5_1).toNat)=some (.string (rdOf ByteArray.empty l0 x5_1))) (ds:=[]) #[false,false,false,false,false,false,false] (by kernel_rfl) rfl rfl (((HB.out.cell (Zc w _ hw1_0)).trans hw1_0)) (fun hHeld=>?_)
      generalize wr.drew=w7 at HB hx1_0 hHeld ⊢
      refine pu (N:=some 12) 0 ?_
      refine pu (N:=some 13) 1 ?_
      refine pu (N:=some 14) 2 ?_
      refine pu (N:=some 16) 4 ?_
      refine tk (N:=some 15) 3 hHeld ?_
      refine onl (N:=some 17) 5 (fun K hK=>?_)
      refine Zbi Tryz.func119 (by kernel_rfl) rfl #[.int .i64 x1_1] (by rfl) rfl rfl (by(try simp only[List.map_toArray,List.map_cons,List.map_nil]);first|done|rfl|(simp only[Zk,Zj];rfl)) ?_
      with_reducible refine(Z4.calls k1 x1_1 t2 _ A5.out).mono ?_
      rintro e w8 ⟨rfl,hb⟩
      refine⟨_,rfl,?_⟩
      replace HB:=Za (Zq (by repeat(first|(with_reducible first|exact HB.out|apply Zo|apply Zm|apply Zp)|exact HB.out)) hb)
      (try clear hb)
      (try clear hb2)
      (try clear hk)
      (try clear hi)
      refine hK.out _ _ (((HB.out.cell (Zc w _ hw1_0)).trans hw1_0)) (fun hHeld=>?_)
      clear hK K
      refine nrm (some 17) ?_
      refine pu (N:=some 18) 6 ?_
      refine Zcm (by kernel_rfl) ?_
      try go_wp2
      go_roundg k1
      case measure=>have:=HK1.out;omega
      case rel=>exact⟨(wrap64 (x1_1+1)),(wrap64 (x5_1+1)),(by first|rfl|(simp;done)|(simp[*];done)),(by first|rfl|(simp;done)|(simp[*];done)),H',⟨by have:=HK1.out;omega⟩,⟨by repeat(first|(with_reducible first|exact HB.out|apply Zo|apply Zm|apply Zp)|exact HB.out)⟩⟩
     ·rw[if_neg c6] at H
      have c6b0:((rdOf ByteArray.empty l0 x5_1).toList == t2.toList)=false:=beq_eq_false_iff_ne.mpr c6
      have c6b1:((rdOf ByteArray.empty l0 x5_1).toList != t2.toList)=true:=bne_iff_ne.mpr c6
      obtain rfl:=Zg H
      try go_wp2
      replace HB:=Za (Zp HB.out)
      have p1:0≤(x5_1:Int):=Zd (by first|(with_reducible assumption)|assumption)
      have q1:x5_1<(l0.length:Int):=Zd (by first|(with_reducible assumption)|assumption)
      obtain⟨ad1,e1,hx1_0⟩:=Kd.at_string HR0.out x5_1 p1 q1
      have hw1_0:=hx1_0
      cases e1
      replace hx1_0:=(HB.out.cell (Zc w _ hx1_0)).trans hx1_0
      replace p1:=eq_true p1
      replace q1:=eq_true q1
      refine ZbP (n:=7) (S:=fun w'=>w'.cell? (ad1.add (x5_1).toNat)=some (.string (rdOf ByteArray.empty l0 x5_1))) (ds:=[]) #[false,false,false,false,false,false,false] (by kernel_rfl) rfl rfl (((HB.out.cell (Zc w _ hw1_0)).trans hw1_0)) (fun hHeld=>?_)
      generalize wr.drew=w9 at HB hx1_0 hHeld ⊢
      refine pu (N:=some 12) 0 ?_
      refine pu (N:=some 13) 1 ?_
      refine pu (N:=some 14) 2 ?_
      refine pu (N:=some 16) 4 ?_
      refine tk (N:=some 15) 3 hHeld ?_
      refine onl (N:=some 17) 5 (fun K hK=>?_)
      refine Zbi Tryz.func119 (by kernel_rfl) rfl #[.int .i64 x1_1] (by rfl) rfl rfl (by(try simp only[List.map_toArray,List.map_cons,List.map_nil]);first|done|rfl|(simp only[Zk,Zj];rfl)) ?_
      with_reducible refine(Z4.calls k1 x1_1 t2 _ A5.out).mono ?_
      rintro e w10 ⟨rfl,hb⟩
      refine⟨_,rfl,?_⟩
      replace HB:=Za (Zq (by repeat(first|(with_reducible first|exact HB.out|apply Zo|apply Zm|apply Zp)|exact HB.out)) hb)
      (try clear hb)
      (try clear hb2)
      (try clear hk)
      (try clear hi)
      refine hK.out _ _ (((HB.out.cell (Zc w _ hw1_0)).trans hw1_0)) (fun hHeld=>?_)
      clear hK K
      refine nrm (some 17) ?_
      refine pu (N:=some 18) 6 ?_
      refine Zcm (by kernel_rfl) ?_
      try go_wp2
      go_ret
      exact⟨by first|rfl|(simp[ZB,ZA] <;> rfl)|(simp[*,ZB,ZA] <;> rfl),by repeat(first|(with_reducible first|exact HB.out|apply Zo|apply Zm|apply Zp)|exact HB.out)⟩
    ·rw[if_neg c4] at H
     exact absurd H (by simp)
   ·rw[if_neg c3] at H
    have c3b0:decide (x5_1<(l0.length:Int))=false:=Zf c3
    clear c3
    obtain rfl:=Zg H
    go_wp2
    go_ret
    exact⟨by first|rfl|(simp[ZB,ZA] <;> rfl)|(simp[*,ZB,ZA] <;> rfl),by repeat(first|(with_reducible first|exact HB.out|apply Zo|apply Zm|apply Zp)|exact HB.out)⟩
def ZaB.l0:Nat→List ByteArray→List ByteArray→Int→Option (Bool)
 | 0,_,_,_=>none
 | k+1,x0,x1,x5=>if x5<(x0.length:Int) then(if 0≤x5 then(if x5<(x1.length:Int) then(if (rdOf ByteArray.empty x0 x5).toList=(rdOf ByteArray.empty x1 x5).toList then(ZaB.l0 k x0 x1 (wrap64 (x5+1))) else(some false)) else(none)) else(none)) else(some true)
def ZaB.f (k:Nat) (l0:List ByteArray) (l1:List ByteArray):Option (Bool):=if (l0.length:Int)=(l1.length:Int) then(ZaB.l0 k l0 l1 0) else(some false)
theorem ZaB.calls (k:Nat) (A0:Option Addr) (c0:Nat) (l0:List ByteArray) (A1:Option Addr) (c1:Nat) (l1:List ByteArray) (r:Bool) (w:World) (hr0:Kd.C Kd.string w A0 l0.length l0) (hc0:l0.length≤c0) (hr1:Kd.C Kd.string w A1 l1.length l1) (hc1:l1.length≤c1) (h:ZaB.f k l0 l1=some r) :
  Calls Tryz.prog 46 #[.slice A0 l0.length c0,.slice A1 l1.length c1] w fun e w'=>e=.returned (.bool r)∧ZF w w':=by
 have HR0:=Za hr0;have HC0:=Za hc0;clear hr0 hc0;have HR1:=Za hr1;have HC1:=Za hc1;clear hr1 hc1
 have H:(if (l0.length:Int)=(l1.length:Int) then(ZaB.l0 k l0 l1 0) else(some false))=some r:=h
 clear h
 by_cases c3:(l0.length:Int)=(l1.length:Int)
 ·rw[if_pos c3] at H
  have c3b0:((l0.length:Int) == (l1.length:Int))=true:=beq_iff_eq.mpr c3
  have c3b1:((l0.length:Int) != (l1.length:Int))=false:=bne_eq_false_iff_eq.mpr c3
  have c3b2:(l0.length == l1.length)=true:=by first|simpa using c3|(simp at c3 ⊢;omega)
  clear c3
  have H':=Za H
  clear H
  go_enter Tryz.func46,Tryz.ntmps46
  go_wp2
  repeat(go_quiet (fail);try go_wp2)
  go_loopg [5] k (fun kq v5 w'=>∃(x5_1:Int),v5=.int .i64 x5_1∧Aside0 (ZaB.l0 kq l0 l1 x5_1=some r)∧Aside0 (kq≤k)∧ZF w w')
  case atStart=>exact⟨(0),(by first|rfl|(simp;done)|(simp[*];done)),H',⟨Nat.le_refl _⟩,by repeat(first|exact ZF.refl _|apply ZF.step)⟩
  case round=>
   clear H'
   try clear c1
   try clear p2
   try clear c3
   try clear c3b0
   try clear c3b1
   try clear c3b2
   obtain⟨x5_1,rfl,HA,HK1,⟨m1,rfl⟩⟩:=hrel
   cases gk with
   | zero=>exact absurd HA.out (by simp[ZaB.l0])
   | succ k1=>
    have H:=HA.out
    clear HA
    simp only[ZaB.l0] at H
    by_cases c4:x5_1<(l0.length:Int)
    ·rw[if_pos c4] at H
     have c4b0:decide (x5_1<(l0.length:Int))=true:=Ze c4
     clear c4
     by_cases c5:0≤x5_1
     ·rw[if_pos c5] at H
      have c5b0:decide (0≤x5_1)=true:=Ze c5
      clear c5
      by_cases c6:x5_1<(l1.length:Int)
      ·rw[if_pos c6] at H
       have c6b0:decide (x5_1<(l1.length:Int))=true:=Ze c6
       clear c6
       by_cases c7:(rdOf ByteArray.empty l0 x5_1).toList=(rdOf ByteArray.empty l1 x5_1).toList
       ·rw[if_pos c7] at H
        have c7b0:((rdOf ByteArray.empty l0 x5_1).toList == (rdOf ByteArray.empty l1 x5_1).toList)=true:=beq_iff_eq.mpr c7
        have c7b1:((rdOf ByteArray.empty l0 x5_1).toList != (rdOf ByteArray.empty l1 x5_1).toList)=false:=bne_eq_false_iff_eq.mpr c7
        clear c7
        have H':=Za H
        clear H
        have p1:0≤(x5_1:Int):=Zd (by first|(with_reducible assumption)|assumption)
        have q1:x5_1<(l0.length:Int):=Zd (by first|(with_reducible assumption)|assumption)
        obtain⟨ad1,e1,hx1_0⟩:=Kd.at_string HR0.out x5_1 p1 q1
        cases e1
        replace p1:=eq_true p1
        replace q1:=eq_true q1
        have p46002:0≤(x5_1:Int):=Zd (by first|(with_reducible assumption)|assumption)
        have q2:x5_1<(l1.length:Int):=Zd (by first|(with_reducible assumption)|assumption)
        obtain⟨ad2,e2,hx2_0⟩:=Kd.at_string HR1.out x5_1 p46002 q2
        cases e2
        replace p46002:=eq_true p46002
        replace q2:=eq_true q2
        go_wp2
        repeat(go_quiet (fail);try go_wp2)
        go_roundg k1
        case measure=>have:=HK1.out;omega
        case rel=>exact⟨(wrap64 (x5_1+1)),(by first|rfl|(simp;done)|(simp[*];done)),H',⟨by have:=HK1.out;omega⟩,by repeat(first|exact ZF.refl _|apply ZF.step)⟩
       ·rw[if_neg c7] at H
        have c7b0:((rdOf ByteArray.empty l0 x5_1).toList == (rdOf ByteArray.empty l1 x5_1).toList)=false:=beq_eq_false_iff_ne.mpr c7
        have c7b1:((rdOf ByteArray.empty l0 x5_1).toList != (rdOf ByteArray.empty l1 x5_1).toList)=true:=bne_iff_ne.mpr c7
        obtain rfl:=Zg H
        have p1:0≤(x5_1:Int):=Zd (by first|(with_reducible assumption)|assumption)
        have q1:x5_1<(l0.length:Int):=Zd (by first|(with_reducible assumption)|assumption)
        obtain⟨ad1,e1,hx1_0⟩:=Kd.at_string HR0.out x5_1 p1 q1
        cases e1
        replace p1:=eq_true p1
        replace q1:=eq_true q1
        have p46002:0≤(x5_1:Int):=Zd (by first|(with_reducible assumption)|assumption)
        have q2:x5_1<(l1.length:Int):=Zd (by first|(with_reducible assumption)|assumption)
        obtain⟨ad2,e2,hx2_0⟩:=Kd.at_string HR1.out x5_1 p46002 q2
        cases e2
        replace p46002:=eq_true p46002
        replace q2:=eq_true q2
        go_wp2
        repeat(go_quiet (fail);try go_wp2)
        go_ret
        exact⟨by first|rfl|(simp;done)|(simp[*];done),by repeat(first|exact ZF.refl _|apply ZF.step)⟩
      ·rw[if_neg c6] at H
       exact absurd H (by simp)
     ·rw[if_neg c5] at H
      exact absurd H (by simp)
    ·rw[if_neg c4] at H
     have c4b0:decide (x5_1<(l0.length:Int))=false:=Zf c4
     clear c4
     obtain rfl:=Zg H
     go_wp2
     repeat(go_quiet (fail);try go_wp2)
     go_ret
     exact⟨by first|rfl|(simp;done)|(simp[*];done),by repeat(first|exact ZF.refl _|apply ZF.step)⟩
 ·rw[if_neg c3] at H
  have c3b0:((l0.length:Int) == (l1.length:Int))=false:=beq_eq_false_iff_ne.mpr c3
  have c3b1:((l0.length:Int) != (l1.length:Int))=true:=bne_iff_ne.mpr c3
  have c3b2:(l0.length == l1.length)=false:=by first|simpa using c3|(simp at c3 ⊢;omega)
  obtain rfl:=Zg H
  go_enter Tryz.func46,Tryz.ntmps46
  go_wp2
  repeat(go_quiet (fail);try go_wp2)
  go_ret
  exact⟨by first|rfl|(simp;done)|(simp[*];done),by repeat(first|exact ZF.refl _|apply ZF.step)⟩
def mtF:Nat→Int→ByteArray→ByteArray
 | 0,_,x=>⟨#[109]⟩ ++ x
 | d+1,a,x=>if a > 0 then mtF d (Int.tdiv a 10) (strOfNums [(wrap64 (48+(Int.tmod a 10))) % 256] ++ x) else⟨#[109]⟩ ++ x
def mtx (a:Int):ByteArray:=if a≤0 then⟨#[109,48]⟩ else mtF a.toNat a ⟨#[]⟩
theorem ZfI (a:Int) (h0:0≤a) (h1:a≤1152921504606846976) (k:Nat) (hk:2 ^ 64≤k):Z4.f k a=some (mtx a):=by
 have key:∀(d:Nat) (a:Int) (x:ByteArray) (k:Nat),0≤a→a.toNat≤d→a≤1152921504606846976→d<k→x.size+d≤1152921504606846976+5→Z4.l0 k a x=some (mtF d a x):=by
  intro d
  induction d with
  | zero=>
   intro a x k h0 hd h1 hk hx
   obtain⟨m,rfl⟩:∃m,k=m+1:=⟨k - 1,by omega⟩
   simp only[Z4.l0]
   rw[if_neg (by omega),if_pos (by omega)];rfl
  | succ d ih=>
   intro a x k h0 hd h1 hk hx
   obtain⟨m,rfl⟩:∃m,k=m+1:=⟨k - 1,by omega⟩
   simp only[Z4.l0,mtF]
   by_cases hp:a > 0
   ·rw[if_pos hp,if_pos hp,Zi]
    have hs:(strOfNums ([(wrap64 (48+(Int.tmod a 10))) % 256]:List Int)).size=1:=rfl
    have ht:Int.tdiv a 10=a / 10:=Int.tdiv_eq_ediv_of_nonneg h0
    rw[if_pos (by rw[hs];omega),ht,Zay (by omega) (by omega)]
    exact ih _ _ _ (by omega) (by omega) (by omega) (by omega) (by rw[ByteArray.size_append,hs];omega)
   ·rw[if_neg hp,if_neg hp,if_pos (by omega)]
 unfold Z4.f mtx
 by_cases h:a≤0
 ·rw[if_pos h,if_pos h]
 ·rw[if_neg h,if_neg h]
  exact key a.toNat a _ k h0 (Nat.le_refl _) h1 (by omega) (by show(0:Nat)+_≤_;omega)
def Zb4 (a:Int):Nat→List ByteArray
 | 0=>[]
 | n+1=>mtx a :: Zb4 (a+1) n
theorem ZbC:∀(n:Nat) (a:Int),(Zb4 a n).length=n
 | 0,_=>rfl
 | n+1,a=>by rw[Zb4,List.length_cons,ZbC n]
theorem Zfv (d:ByteArray):∀(n i:Nat) (a:Int),i<n→(Zb4 a n).getD i d=mtx (a+i)
 | n+1,0,a,_=>by simp[Zb4]
 | n+1,i+1,a,h=>by
  rw[Zb4,List.getD_cons_succ,Zfv d n i (a+1) (by omega)]
  congr 1;omega
theorem ZgJ (l:List ByteArray) (hl:l.length≤1048576) (a:Int) (h0:0≤a) (h1:a≤1125899906842624) (k:Nat) (hk:2 ^ 65≤k):Zai.f k l a=some (a+l.length,Zb4 a l.length):=by
 have key:=Za2 l.length (fun k i=>Zai.l0 k ((Zb4 a l.length).take i ++ l.drop i) (a+i) (i:Int)=some (a+l.length,Zb4 a l.length)) (2 ^ 64)
  (fun k _=>by
   simp only[Zai.l0]
   rw[if_neg (by simp[ZbC]),List.drop_length,List.append_nil,List.take_of_length_le (by rw[ZbC];exact Nat.le_refl _)])
  (fun k i hk hi ih=>by
   simp only[Zai.l0]
   rw[if_pos (by simp[ZbC];omega),ZfI (a+i) (by omega) (by omega) k hk,Zi,if_pos (by omega),ZL hi (by omega),Zay (i:=a+i+1) (by omega) (by omega),Int.toNat_natCast]
   have e:((Zb4 a l.length).take i ++ l.drop i).set i (mtx (a+i))=(Zb4 a l.length).take (i+1) ++ l.drop (i+1):=by
    have hlen:((Zb4 a l.length).take i).length=i:=by rw[Zj,ZbC];omega
    rw[List.set_append_right _ _ (by omega),hlen,Nat.sub_self,Z8 hi ByteArray.empty,List.set_cons_zero,List.take_succ_eq_append_getElem (by rw[ZbC];exact hi),List.append_assoc]
    congr 1
    have:=Zfv ByteArray.empty l.length i a hi
    rw[List.getD_eq_getElem?_getD,Zl (by rw[ZbC];exact hi)] at this
    simp only[Option.getD_some] at this
    rw[this];rfl
   rw[e,show a+(i:Int)+1=a+((i+1:Nat):Int) by omega]
   exact ih) 0 k (Nat.zero_le _) (by omega)
 unfold Zai.f
 simpa using key
theorem ZgT (n:Nat) (hn:n≤1048576) (a:Int) (h0:0≤a) (h1:a≤1125899906842624) (k:Nat) (hk:2 ^ 65≤k):Zan.f k (Zb4 a n) a=some (a+n):=by
 have key:=Za2 n (fun k i=>Zan.l0 k (Zb4 a n) (a+i) (i:Int)=some (a+n)) (2 ^ 64)
  (fun k _=>by
   simp only[Zan.l0]
   rw[if_neg (by rw[ZbC];omega)])
  (fun k i hk hi ih=>by
   simp only[Zan.l0]
   have e:rdOf ByteArray.empty (Zb4 a n) (i:Int)=mtx (a+i):=by unfold rdOf;rw[Int.toNat_natCast,Zfv _ n i a hi]
   rw[if_pos (by rw[ZbC];omega),if_pos (by omega),ZfI (a+i) (by omega) (by omega) k hk,Zi,e,if_pos rfl,ZL hi (by omega),Zay (i:=a+i+1) (by omega) (by omega),show a+(i:Int)+1=a+((i+1:Nat):Int) by omega]
   exact ih) 0 k (Nat.zero_le _) (by omega)
 unfold Zan.f
 simpa using key
theorem Zdu (l:List ByteArray) (hl:l.length≤9223372036854775807) (k:Nat) (hk:2 ^ 64≤k):ZaB.f k l l=some true:=by
 have key:=Za2 l.length (fun k i=>ZaB.l0 k l l (i:Int)=some true) 0
  (fun k _=>by
   simp only[ZaB.l0]
   rw[if_neg (by omega)])
  (fun k i _ hi ih=>by
   simp only[ZaB.l0]
   rw[if_pos (by omega),if_pos (by omega),if_pos (by omega),if_pos trivial,ZL hi (by omega)]
   exact ih) 0 k (Nat.zero_le _) (by omega)
 unfold ZaB.f
 rw[if_pos rfl]
 simpa using key
theorem ZgI (w0 w:World) (b:Nat) (v:Value) (l:List ByteArray) (hB:Below w0.heap.size w0 w) (hr:Kd.R Kd.string 9 w w0.heap.size (fun k=>k<b) v l) (hl:l.length≤1048576) (a:Int) (h0:0≤a) (h1:a≤562949953421312) :
  Calls Tryz.prog 47 #[v,.int .i64 a] w fun e w'=>e=.returned (.int .i64 (a+l.length))∧Kd.R Kd.string 9 w' w0.heap.size (fun k=>k<b) v (Zb4 a l.length)∧Below w0.heap.size w0 w'∧Kept w w' (fun k=>k<b):=by
 have hb:=hr.1
 have h:=Zai.calls (2 ^ 65) (fun k=>some k=v.ownBlock) v l a _ _ w0 w hB (Kd.R_tight (by rfl) hr) (ZgJ l hl a h0 (by omega) (2 ^ 65) (Nat.le_refl _))
 refine h.mono ?_
 rintro e w' ⟨he,h2,h3,h4⟩
 exact⟨he,Kd.R_mono (Kd.R_tight (by rfl) h2) (fun k hk=>hb k hk.symm),h3,h4.mono (fun k hk=>hb k hk.symm)⟩
theorem ZgH {w:World} {base:Nat} {ok:Nat→Prop} {A:Option Addr} {n c:Nat} {a:Int} (h:Kd.R Kd.string 9 w base ok (.slice A n c) (Zb4 a n)):n≤c∧Kd.C Kd.string w A n (Zb4 a n):=by
 have h2:=Kd.R_reads' h
 rw[ZbC] at h2
 exact h2.2
theorem ZeK (w:World) (A:Option Addr) (c:Nat) (a:Int) (n:Nat) (hr:Kd.C Kd.string w A n (Zb4 a n)) (hc:n≤c) (hl:n≤1048576) (h0:0≤a) (h1:a≤562949953421312) :
  Calls Tryz.prog 48 #[.slice A n c,.int .i64 a] w fun e w'=>e=.returned (.int .i64 (a+n))∧Below w.heap.size w w':=by
 have h:=Zan.calls (2 ^ 65) A c (Zb4 a n) a _ w (by rw[ZbC];exact hr) (by rw[ZbC];exact hc) (ZgT n hl a h0 (by omega) (2 ^ 65) (Nat.le_refl _))
 rw[ZbC] at h
 exact h
def Zct.f (k:Nat) (l0_0:List Int) (l0_1:List Int) (a1:Int):Option (Int×List Int×List Int):=(Zad.f k l0_0 a1).bind fun bt2=>((Zad.f k l0_1 bt2.1).bind fun bt4=>(some (bt4.1,bt2.2,bt4.2)))
theorem Zct.calls (k:Nat) (P0_0_:Nat→Prop) (u9000_:Value) (l0_0:List Int) (P0_1_:Nat→Prop) (u9001_:Value) (l0_1:List Int) (a1:Int) (r1:Int) (r2:List Int) (r3:List Int) (w0 w:World) (hB:Below w0.heap.size w0 w) (ho0_0:Kd.R (Kd.int .i64) 3 w w0.heap.size P0_0_ u9000_ l0_0) (hp0_0_0_1:∀k_,P0_0_ k_→¬P0_1_ k_) (ho0_1:Kd.R (Kd.int .i64) 3 w w0.heap.size P0_1_ u9001_ l0_1) (hp0_1_0_0:∀k_,P0_1_ k_→¬P0_0_ k_) (h:Zct.f k l0_0 l0_1 a1=some (r1,r2,r3)) :
  Calls Tryz.prog 35 #[.agg #[u9000_,u9001_],.int .i64 a1] w fun e w'=>e=.returned (.int .i64 r1)∧Kd.R (Kd.int .i64) 3 w' w0.heap.size (fun k_=>((P0_0_ k_∨P0_1_ k_)∨w.heap.size≤k_)) u9000_ r2∧Kd.R (Kd.int .i64) 3 w' w0.heap.size (fun k_=>((P0_0_ k_∨P0_1_ k_)∨w.heap.size≤k_)) u9001_ r3∧Below w0.heap.size w0 w'∧Kept w w' (fun k_=>P0_0_ k_∨P0_1_ k_):=by
 have hu58:=Tryz.underlying58
 have HO0_0:=Za (show Kd.R (Kd.int .i64) 3 w w0.heap.size (fun k_=>((P0_0_ k_∨P0_1_ k_)∨w.heap.size≤k_)∧some k_≠(u9001_:Value).ownBlock) u9000_ l0_0 from Kd.R_mono ho0_0 (fun k_ hk=>⟨(.inl (.inl hk)),fun e_=>hp0_0_0_1 k_ hk (ho0_1.1 k_ e_.symm)⟩))
 have HO0_1:=Za (show Kd.R (Kd.int .i64) 3 w w0.heap.size (fun k_=>((P0_0_ k_∨P0_1_ k_)∨w.heap.size≤k_)∧some k_≠(u9000_:Value).ownBlock) u9001_ l0_1 from Kd.R_mono ho0_1 (fun k_ hk=>⟨(.inl (.inr hk)),fun e_=>hp0_1_0_0 k_ hk (ho0_0.1 k_ e_.symm)⟩))
 have HK:=Za (Kept.refl w (fun k_=>P0_0_ k_∨P0_1_ k_))
 have HW0:=Za hB.size
 have HB:=Za hB;clear hB
 have H:((Zad.f k l0_0 a1).bind fun bt2=>((Zad.f k l0_1 bt2.1).bind fun bt4=>(some (bt4.1,bt2.2,bt4.2))))=some (r1,r2,r3):=h
 clear h
 replace H:=Zh H
 obtain⟨⟨t2,t3⟩,A30,H⟩:=H;have A3:=Za A30;clear A30
 replace H:=Zh H
 obtain⟨⟨t4,t5⟩,A40,H⟩:=H;have A4:=Za A40;clear A40
 simp only[Option.some.injEq,Prod.mk.injEq] at H
 obtain⟨rfl,rfl,rfl⟩:=H
 obtain⟨Ao5,co5,eo5⟩:=Kd.R_slice HO0_0.out
 subst eo5
 obtain⟨Ao6,co6,eo6⟩:=Kd.R_slice HO0_1.out
 subst eo6
 go_enter Tryz.func35,Tryz.ntmps35
 go_wp2_with (first|((with_reducible refine ZG (N:=2) rfl ?_);refine ZH ?hg (N:=2) ?hd (cs:=#[.slice Ao5 l0_0.length co5,.slice Ao6 l0_1.length co6]) (t:=58) ?hr ?_;(case hd=>rfl);(case hg=>rfl);(case hr=>first|(go_simp;done)|(go_simp;rfl));intro gb1 hg w7 hbox hb;have BK1:=Za (hbox);have GW1:=Za ((by rw[hg];exact(by first|exact HK.out.1|exact(show Kept w _ (fun k_=>P0_0_ k_∨P0_1_ k_) from by repeat(first|(with_reducible first|exact HK.out|apply Kept.alloc|apply Kept.drewN|apply Kept.drew)|exact HK.out)).1):w.heap.size≤gb1));have GE1:=Za ((by rw[hg];exact(Zv (by repeat(first|(with_reducible first|exact HB.out|apply Zo|apply Zm|apply Zp)|exact HB.out))):w0.heap.size≤gb1));replace HO0_0:=Za (Kd.R_below (by(with_reducible repeat(first|apply Kd.R_alloc|apply Kd.R_drewN|apply Kd.R_drew));exact HO0_0.out) hb);replace HO0_1:=Za (Kd.R_below (by(with_reducible repeat(first|apply Kd.R_alloc|apply Kd.R_drewN|apply Kd.R_drew));exact HO0_1.out) hb);replace HK:=Za (Kept.below (S:=(fun k_=>P0_0_ k_∨P0_1_ k_)) (by repeat(first|(with_reducible first|exact HK.out|apply Kept.alloc|apply Kept.drewN|apply Kept.drew)|exact HK.out)) hb);replace HB:=Za (Zq (by repeat(first|(with_reducible first|exact HB.out|apply Zo|apply Zm|apply Zp)|exact HB.out)) hb);clear hb hbox hg;have hcz8_0:w7.cell? ⟨gb1,0,none⟩=some (.slice Ao5 l0_0.length co5):=(Zn BK1.out 0).trans rfl;have hcz8_1:w7.cell? ⟨gb1,1,none⟩=some (.slice Ao6 l0_1.length co6):=(Zn BK1.out 1).trans rfl)|((with_reducible refine ZJ (f:=108) rfl ?_);refine ZY (some 8) rfl rfl Tryz.func108 (by kernel_rfl) rfl #[.slice Ao5 l0_0.length co5,.int .i64 a1] rfl (by(try simp only[List.map_toArray,List.map_cons,List.map_nil]);first|done|rfl|(simp only[Zk,Zj];rfl)) ?_;(with_reducible refine(Zad.calls k (fun k_=>some k_=(.slice Ao5 l0_0.length co5:Value).ownBlock) (.slice Ao5 l0_0.length co5) l0_0 a1 t2 t3 w0 _ ?side1 ?side2 A3.out).mono ?_);(case side1=>repeat(first|(with_reducible first|exact HB.out|apply Zo|apply Zm|apply Zp|refine Zs ?_ GE1.out)|exact HB.out));(case side2=>exact Kd.R_tight rfl HO0_0.out);rintro e w9 ⟨rfl,hy0,hb,hkp⟩;refine⟨_,rfl,?_⟩;replace HO0_1:=Za (Kd.R_mono (ok':=fun k_=>((P0_0_ k_∨P0_1_ k_)∨w.heap.size≤k_)∧some k_≠(.slice Ao5 l0_0.length co5:Value).ownBlock) (Kd.R_keptB (HO0_1.out) hkp (fun k_ hk_ hs_=>(hk_.2) hs_)) (fun k_ hk_=>⟨hk_.1.1,hk_.1.2⟩));replace BK1:=Za (Zfy BK1.out hkp (fun hs_=>(fun e_=>(Kd.R_ne HO0_0.out BK1.out (by decide)) e_) hs_));replace HK:=Za (Kept.then_ (S:=(fun k_=>P0_0_ k_∨P0_1_ k_)) (by repeat(first|(with_reducible first|exact HK.out|apply Kept.alloc|apply Kept.drewN|apply Kept.drew|refine Kept.setCell ?_ (.inr GW1.out) _)|exact HK.out)) hkp (fun k_ hs_=>(fun e_=>(HO0_0.out.1 k_ e_.symm).1) hs_));replace HO0_0:=Za (Kd.R_reok rfl hy0 (fun k_ e_=>HO0_0.out.1 k_ e_));replace HB:=Za (hb);(try clear hb);(try clear hkp);(try clear hy0);have hcz10_0:w9.cell? ⟨gb1,0,none⟩=some (.slice Ao5 l0_0.length co5):=(Zn BK1.out 0).trans rfl;have hcz10_1:w9.cell? ⟨gb1,1,none⟩=some (.slice Ao6 l0_1.length co6):=(Zn BK1.out 1).trans rfl)|((with_reducible refine ZJ (f:=108) rfl ?_);refine ZY (some 12) rfl rfl Tryz.func108 (by kernel_rfl) rfl #[.slice Ao6 l0_1.length co6,.int .i64 t2] rfl (by(try simp only[List.map_toArray,List.map_cons,List.map_nil]);first|done|rfl|(simp only[Zk,Zj];rfl)) ?_;(with_reducible refine(Zad.calls k (fun k_=>some k_=(.slice Ao6 l0_1.length co6:Value).ownBlock) (.slice Ao6 l0_1.length co6) l0_1 t2 t4 t5 w0 _ ?side1 ?side2 A4.out).mono ?_);(case side1=>repeat(first|(with_reducible first|exact HB.out|apply Zo|apply Zm|apply Zp|refine Zs ?_ GE1.out)|exact HB.out));(case side2=>exact Kd.R_tight rfl HO0_1.out);rintro e w11 ⟨rfl,hy0,hb,hkp⟩;refine⟨_,rfl,?_⟩;replace HO0_0:=Za (Kd.R_mono (ok':=fun k_=>((P0_0_ k_∨P0_1_ k_)∨w.heap.size≤k_)∧some k_≠(.slice Ao6 l0_1.length co6:Value).ownBlock) (Kd.R_keptB (HO0_0.out) hkp (fun k_ hk_ hs_=>(hk_.2) hs_)) (fun k_ hk_=>⟨hk_.1.1,hk_.1.2⟩));replace BK1:=Za (Zfy BK1.out hkp (fun hs_=>(fun e_=>(Kd.R_ne HO0_1.out BK1.out (by decide)) e_) hs_));replace HK:=Za (Kept.then_ (S:=(fun k_=>P0_0_ k_∨P0_1_ k_)) (by repeat(first|(with_reducible first|exact HK.out|apply Kept.alloc|apply Kept.drewN|apply Kept.drew|refine Kept.setCell ?_ (.inr GW1.out) _)|exact HK.out)) hkp (fun k_ hs_=>(fun e_=>(HO0_1.out.1 k_ e_.symm).1) hs_));replace HO0_1:=Za (Kd.R_reok rfl hy0 (fun k_ e_=>HO0_1.out.1 k_ e_));replace HB:=Za (hb);(try clear hb);(try clear hkp);(try clear hy0)))
 go_ret
 exact⟨by first|rfl|(simp[ZB,ZA] <;> rfl)|(simp[*,ZB,ZA] <;> rfl),by(with_reducible repeat(first|apply Kd.R_alloc|apply Kd.R_drewN|apply Kd.R_drew));exact Kd.R_mono HO0_0.out (fun _ hk=>hk.1),by(with_reducible repeat(first|apply Kd.R_alloc|apply Kd.R_drewN|apply Kd.R_drew));exact Kd.R_mono HO0_1.out (fun _ hk=>hk.1),by repeat(first|(with_reducible first|exact HB.out|apply Zo|apply Zm|apply Zp|refine Zs ?_ GE1.out)|exact HB.out),by repeat(first|(with_reducible first|exact HK.out|apply Kept.alloc|apply Kept.drewN|apply Kept.drew|refine Kept.setCell ?_ (.inr GW1.out) _)|exact HK.out)⟩
theorem markChoice_k (w0 w:World) (b:Nat) (v1 v2:Value) (l1 l2:List Int) (hB:Below w0.heap.size w0 w) (h1:Kd.R (Kd.int .i64) 3 w w0.heap.size (fun k=>some k≠v2.ownBlock∧k<b) v1 l1) (h2:Kd.R (Kd.int .i64) 3 w w0.heap.size (fun k=>some k≠v1.ownBlock∧k<b) v2 l2) (hl1:l1.length≤1048576) (hl2:l2.length≤1048576) (a:Int) (h0:0≤a) (ha:a≤562949953421312) :
  Calls Tryz.prog 35 #[.agg #[v1,v2],.int .i64 a] w fun e w'=>e=.returned (.int .i64 (a+l1.length+l2.length))∧Kd.R (Kd.int .i64) 3 w' w0.heap.size (fun k=>some k≠v2.ownBlock∧k<b) v1 (ZcD a l1.length)∧Kd.R (Kd.int .i64) 3 w' w0.heap.size (fun k=>some k≠v1.ownBlock∧k<b) v2 (ZcD (a+l1.length) l2.length)∧Below w0.heap.size w0 w'∧Kept w w' (fun k=>k<b):=by
 have ap:∀k,some k=v1.ownBlock→¬some k=v2.ownBlock:=fun k hk e=>(h1.1 k hk.symm).1 e
 have ap2:∀k,some k=v2.ownBlock→¬some k=v1.ownBlock:=fun k hk e=>ap k e hk
 have hf:Zct.f (2 ^ 64) l1 l2 a=some (a+l1.length+l2.length,ZcD a l1.length,ZcD (a+l1.length) l2.length):=by
  unfold Zct.f
  rw[Zew l1 hl1 a h0 (by omega) (2 ^ 64) (Nat.le_refl _),Zi]
  simp only[]
  rw[Zew l2 hl2 _ (by omega) (by omega) (2 ^ 64) (Nat.le_refl _),Zi]
 have h:=Zct.calls (2 ^ 64) (fun k=>some k=v1.ownBlock) v1 l1 (fun k=>some k=v2.ownBlock) v2 l2 a _ _ _ w0 w hB (Kd.R_tight (by rfl) h1) ap (Kd.R_tight (by rfl) h2) ap2 hf
 refine h.mono ?_
 rintro e w' ⟨he,q1,q2,hb,hk⟩
 exact⟨he,Kd.R_mono (Kd.R_tight (by rfl) q1) (fun k hk=>h1.1 k hk.symm),Kd.R_mono (Kd.R_tight (by rfl) q2) (fun k hk=>h2.1 k hk.symm),hb,hk.mono (fun k hk=>hk.elim (fun e=>(h1.1 k e.symm).2) (fun e=>(h2.1 k e.symm).2))⟩
def ZcP.f (k:Nat) (a0_0:ByteArray) (l0_1:List Int) (a0_2:Int):Option (ByteArray×List Int×Int):=(Zaj.f k l0_1).bind fun t4=>(some (a0_0,t4,a0_2))
theorem ZcP.calls (k:Nat) (a0_0:ByteArray) (A0_1:Option Addr) (c0_1:Nat) (l0_1:List Int) (a0_2:Int) (r1:ByteArray) (r2:List Int) (r3:Int) (w:World) (hr0_1:Kd.C (Kd.int .i64) w A0_1 l0_1.length l0_1) (hc0_1:l0_1.length≤c0_1) (h:ZcP.f k a0_0 l0_1 a0_2=some (r1,r2,r3)) :
  Calls Tryz.prog 158 #[.agg #[.string a0_0,.slice A0_1 l0_1.length c0_1,.int .i64 a0_2]] w fun e w'=>∃v1_:Value,e=.returned (.agg #[.string r1,v1_,.int .i64 r3])∧Kd.R (Kd.int .i64) 3 w' w.heap.size (fun _=>True) v1_ r2∧Below w.heap.size w w':=by
 have hu143:=Tryz.underlying143
 have hu39:=Tryz.underlying39
 have HR0_1:=Za hr0_1;have HC0_1:=Za hc0_1;clear hr0_1 hc0_1
 have HB:=Za (Below.refl w.heap.size w)
 have H:((Zaj.f k l0_1).bind fun t4=>(some (a0_0,t4,a0_2)))=some (r1,r2,r3):=h
 clear h
 replace H:=Zh H
 obtain⟨t4,A20,H⟩:=H
 replace H:(some (a0_0,t4,a0_2))=some (r1,r2,r3):=H
 have A2:=Za A20;clear A20
 simp only[Option.some.injEq,Prod.mk.injEq] at H
 obtain⟨rfl,rfl,rfl⟩:=H
 go_enter Tryz.func158,Tryz.ntmps158
 go_wp2_with (first|((with_reducible refine ZG (N:=1) rfl ?_);refine ZH ?hg (N:=1) ?hd (cs:=#[.string a0_0,.slice A0_1 l0_1.length c0_1,.int .i64 a0_2]) (t:=143) ?hr ?_;(case hd=>rfl);(case hg=>rfl);(case hr=>first|(go_simp;done)|(go_simp;rfl));intro gb1 hg w3 hbox hb;have BK1:=Za (hbox);have GW1:=Za ((by rw[hg];exact(Zv (by exact HB.out)):w.heap.size≤gb1));have GE1:=Za ((by rw[hg];exact(Zv (by exact HB.out)):w.heap.size≤gb1));replace HB:=Za (Zq (by exact HB.out) hb);clear hb hbox hg)|((with_reducible refine ZG (N:=2) rfl ?_);refine ZH ?hg (N:=2) ?hd (cs:=#[.string (⟨#[]⟩:ByteArray),.slice none 0 0,.int .i64 0]) (t:=39) ?hr ?_;(case hd=>rfl);(case hg=>rfl);(case hr=>first|(go_simp;done)|(go_simp;rfl));intro gb2 hg w4 hbox hb;have BK2:=Za (hbox);have GW2:=Za ((by rw[hg];exact(Zv (by exact HB.out)):w.heap.size≤gb2));have GE2:=Za ((by rw[hg];exact(Zv (by exact HB.out)):w.heap.size≤gb2));have NB1_2:=Za ((by rw[hg];exact Nat.ne_of_lt (ZK (g:=gb1) (o:=.cells #[.string a0_0,.slice A0_1 l0_1.length c0_1,.int .i64 a0_2] 143 (0,0)) (by exact BK1.out)):gb1≠gb2));have NB2_1:=Za ((by rw[hg];exact Nat.ne_of_gt (ZK (g:=gb1) (o:=.cells #[.string a0_0,.slice A0_1 l0_1.length c0_1,.int .i64 a0_2] 143 (0,0)) (by exact BK1.out)):gb2≠gb1));replace BK1:=Za (Zw (g:=gb1) (o:=.cells #[.string a0_0,.slice A0_1 l0_1.length c0_1,.int .i64 a0_2] 143 (0,0)) (by exact BK1.out) hb);replace HB:=Za (Zq (by exact HB.out) hb);clear hb hbox hg)|((with_reducible refine ZG (N:=3) rfl ?_);refine ZH ?hg (N:=3) ?hd (cs:=#[.string (⟨#[]⟩:ByteArray),.slice none 0 0,.int .i64 0]) (t:=39) ?hr ?_;(case hd=>rfl);(case hg=>rfl);(case hr=>first|(go_simp;done)|(go_simp;rfl));intro gb3 hg w5 hbox hb;have BK3:=Za (hbox);have GW3:=Za ((by rw[hg];exact(Zv (by exact HB.out)):w.heap.size≤gb3));have GE3:=Za ((by rw[hg];exact(Zv (by exact HB.out)):w.heap.size≤gb3));have NB1_3:=Za ((by rw[hg];exact Nat.ne_of_lt (ZK (g:=gb1) (o:=.cells #[.string a0_0,.slice A0_1 l0_1.length c0_1,.int .i64 a0_2] 143 (0,0)) (by exact BK1.out)):gb1≠gb3));have NB3_1:=Za ((by rw[hg];exact Nat.ne_of_gt (ZK (g:=gb1) (o:=.cells #[.string a0_0,.slice A0_1 l0_1.length c0_1,.int .i64 a0_2] 143 (0,0)) (by exact BK1.out)):gb3≠gb1));have NB2_3:=Za ((by rw[hg];exact Nat.ne_of_lt (ZK (g:=gb2) (o:=.cells #[.string (⟨#[]⟩:ByteArray),.slice none 0 0,.int .i64 0] 39 (0,0)) (by exact BK2.out)):gb2≠gb3));have NB3_2:=Za ((by rw[hg];exact Nat.ne_of_gt (ZK (g:=gb2) (o:=.cells #[.string (⟨#[]⟩:ByteArray),.slice none 0 0,.int .i64 0] 39 (0,0)) (by exact BK2.out)):gb3≠gb2));replace BK1:=Za (Zw (g:=gb1) (o:=.cells #[.string a0_0,.slice A0_1 l0_1.length c0_1,.int .i64 a0_2] 143 (0,0)) (by exact BK1.out) hb);replace BK2:=Za (Zw (g:=gb2) (o:=.cells #[.string (⟨#[]⟩:ByteArray),.slice none 0 0,.int .i64 0] 39 (0,0)) (by exact BK2.out) hb);replace HB:=Za (Zq (by exact HB.out) hb);clear hb hbox hg;have hnb6:=NB1_2.out;have hnc6:=NB2_1.out;have hnb7:=NB1_3.out;have hnc7:=NB3_1.out;have hcz8_0:w5.cell? ⟨gb1,0,none⟩=some (.string a0_0):=(Zn BK1.out 0).trans rfl;have hcz8_1:w5.cell? ⟨gb1,1,none⟩=some (.slice A0_1 l0_1.length c0_1):=(Zn BK1.out 1).trans rfl;have hcz8_2:w5.cell? ⟨gb1,2,none⟩=some (.int .i64 a0_2):=(Zn BK1.out 2).trans rfl;have hfz8_0:=Zt BK1.out 0;have hfz8_1:=Zt BK1.out 1;have hfz8_2:=Zt BK1.out 2;have hnb9:=NB3_2.out;have hnc9:=NB2_3.out;have hcz10_0:w5.cell? ⟨gb3,0,none⟩=some (.string (⟨#[]⟩:ByteArray)):=(Zn BK3.out 0).trans rfl;have hcz10_1:w5.cell? ⟨gb3,1,none⟩=some (.slice none 0 0):=(Zn BK3.out 1).trans rfl;have hcz10_2:w5.cell? ⟨gb3,2,none⟩=some (.int .i64 0):=(Zn BK3.out 2).trans rfl;have hfz10_0:=Zt BK3.out 0;have hfz10_1:=Zt BK3.out 1;have hfz10_2:=Zt BK3.out 2)|((with_reducible refine ZJ (f:=102) rfl ?_);refine ZY (some 9) rfl rfl Tryz.func102 (by kernel_rfl) rfl #[.slice A0_1 l0_1.length c0_1] rfl (by(try simp only[List.map_toArray,List.map_cons,List.map_nil]);first|done|rfl|(simp only[Zk,Zj];rfl)) ?_;(with_reducible refine(Zaj.calls k _ _ l0_1 t4 _ ?side1 ?side2 A2.out).mono ?_);(case side1=>exact Zb HR0_1.out (by repeat(first|(with_reducible first|exact HB.out|apply Zo|apply Zm|apply Zp|refine Zs ?_ GE1.out|refine Zs ?_ GE2.out|refine Zs ?_ GE3.out)|exact HB.out)));(case side2=>exact HC0_1.out);rintro e w11 ⟨v5,rfl,ho0,hb⟩;refine⟨_,rfl,?_⟩;have HO6:=Za (Kd.R_lower ho0 (Zv (by repeat(first|(with_reducible first|exact HB.out|apply Zo|apply Zm|apply Zp|refine Zs ?_ GE1.out|refine Zs ?_ GE2.out|refine Zs ?_ GE3.out)|exact HB.out))));replace BK1:=Za (Zw (g:=gb1) (o:=.cells #[.string a0_0,.slice A0_1 l0_1.length c0_1,.int .i64 a0_2] 143 (0,0)) (by(with_reducible repeat(first|refine ZD ?_ _|refine ZE ?_|refine ZC ?_ _));refine ZP ?_ NB1_3.out _;(with_reducible repeat(first|refine ZD ?_ _|refine ZE ?_|refine ZC ?_ _));exact BK1.out) hb);replace BK2:=Za (Zw (g:=gb2) (o:=.cells #[.string (⟨#[]⟩:ByteArray),.slice none 0 0,.int .i64 0] 39 (0,0)) (by(with_reducible repeat(first|refine ZD ?_ _|refine ZE ?_|refine ZC ?_ _));refine ZP ?_ NB2_3.out _;(with_reducible repeat(first|refine ZD ?_ _|refine ZE ?_|refine ZC ?_ _));exact BK2.out) hb);replace BK3:=Za (Zw (g:=gb3) (o:=.cells #[.string a0_0,.slice none 0 0,.int .i64 0] 39 (0,0)) (by(with_reducible repeat(first|refine ZD ?_ _|refine ZE ?_|refine ZC ?_ _));refine ZW (cs:=#[.string (⟨#[]⟩:ByteArray),.slice none 0 0,.int .i64 0]) ?_ 0 _ rfl;(with_reducible repeat(first|refine ZD ?_ _|refine ZE ?_|refine ZC ?_ _));exact BK3.out) hb);replace HB:=Za (Zq (by repeat(first|(with_reducible first|exact HB.out|apply Zo|apply Zm|apply Zp|refine Zs ?_ GE1.out|refine Zs ?_ GE2.out|refine Zs ?_ GE3.out)|exact HB.out)) hb);(try clear hb);(try clear hb2);(try clear hk);(try clear hi);(try clear ho0);obtain⟨Ao12,co12,eo12⟩:=Kd.R_slice HO6.out;subst eo12;have hcz13_0:w11.cell? ⟨gb3,0,none⟩=some (.string a0_0):=(Zn BK3.out 0).trans rfl;have hcz13_1:w11.cell? ⟨gb3,1,none⟩=some (.slice none 0 0):=(Zn BK3.out 1).trans rfl;have hcz13_2:w11.cell? ⟨gb3,2,none⟩=some (.int .i64 0):=(Zn BK3.out 2).trans rfl;have hfz13_0:=Zt BK3.out 0;have hfz13_1:=Zt BK3.out 1;have hfz13_2:=Zt BK3.out 2;have hcz14_0:w11.cell? ⟨gb1,0,none⟩=some (.string a0_0):=(Zn BK1.out 0).trans rfl;have hcz14_1:w11.cell? ⟨gb1,1,none⟩=some (.slice A0_1 l0_1.length c0_1):=(Zn BK1.out 1).trans rfl;have hcz14_2:w11.cell? ⟨gb1,2,none⟩=some (.int .i64 a0_2):=(Zn BK1.out 2).trans rfl;have hfz14_0:=Zt BK1.out 0;have hfz14_1:=Zt BK1.out 1;have hfz14_2:=Zt BK1.out 2;have hcz15_0:w11.cell? ⟨gb2,0,none⟩=some (.string (⟨#[]⟩:ByteArray)):=(Zn BK2.out 0).trans rfl;have hcz15_1:w11.cell? ⟨gb2,1,none⟩=some (.slice none 0 0):=(Zn BK2.out 1).trans rfl;have hcz15_2:w11.cell? ⟨gb2,2,none⟩=some (.int .i64 0):=(Zn BK2.out 2).trans rfl;have hfz15_0:=Zt BK2.out 0;have hfz15_1:=Zt BK2.out 1;have hfz15_2:=Zt BK2.out 2))
 refine bodyPost_ret (results_cell_row rfl _ _ gb2 39 #[.string a0_0,.slice Ao12 t4.length co12,.int .i64 a0_2] (0,0) _ rfl (by(with_reducible repeat(first|refine ZD ?_ _|refine ZE ?_|refine ZC ?_ _));refine ZW (cs:=#[.string a0_0,.slice Ao12 t4.length co12,.int .i64 0]) ?_ 2 _ rfl;(with_reducible repeat(first|refine ZD ?_ _|refine ZE ?_|refine ZC ?_ _));refine ZW (cs:=#[.string a0_0,.slice none 0 0,.int .i64 0]) ?_ 1 _ rfl;(with_reducible repeat(first|refine ZD ?_ _|refine ZE ?_|refine ZC ?_ _));refine ZW (cs:=#[.string (⟨#[]⟩:ByteArray),.slice none 0 0,.int .i64 0]) ?_ 0 _ rfl;(with_reducible repeat(first|refine ZD ?_ _|refine ZE ?_|refine ZC ?_ _));refine ZP ?_ NB2_3.out _;(with_reducible repeat(first|refine ZD ?_ _|refine ZE ?_|refine ZC ?_ _));refine ZP ?_ NB2_3.out _;(with_reducible repeat(first|refine ZD ?_ _|refine ZE ?_|refine ZC ?_ _));exact BK2.out) Tryz.underlying39 rfl (by kernel_rfl)) rfl ?_
 exact⟨_,by first|rfl|(simp[ZB,ZA] <;> rfl)|(simp[*,ZB,ZA] <;> rfl),by(with_reducible repeat(first|apply Kd.R_alloc|apply Kd.R_drewN|apply Kd.R_drew));exact Kd.R_mono (Kd.R_far (p:=⟨gb2,2,none⟩) (Kd.R_far (p:=⟨gb2,1,none⟩) (Kd.R_far (p:=⟨gb2,0,none⟩) (Kd.R_far (p:=⟨gb3,2,none⟩) (Kd.R_far (p:=⟨gb3,1,none⟩) (Kd.R_types (Kd.R_types HO6.out BK3.out (by decide)) BK2.out (by decide)) (fun _ hk=>hk.1.2) (.slice Ao12 t4.length co12)) (fun _ hk=>hk.1.2) (.int .i64 a0_2)) (fun _ hk=>hk.2) (.string a0_0)) (fun _ hk=>hk.2) (.slice Ao12 t4.length co12)) (fun _ hk=>hk.2) (.int .i64 a0_2)) (fun _ hk=>trivial),by repeat(first|(with_reducible first|exact HB.out|apply Zo|apply Zm|apply Zp|refine Zs ?_ GE1.out|refine Zs ?_ GE2.out|refine Zs ?_ GE3.out)|exact HB.out)⟩
def ZaE.l0:Nat→List (S143)→List (S39)→Int→Option ((List (S39)))
 | 0,_,_,_=>none
 | k+1,x0,x3,x4=>if x4<(x0.length:Int) then(if 0≤x4 then((ZcP.f k ((ZaJ x0 x4).f0) ((ZaJ x0 x4).f1) ((ZaJ x0 x4).f2)).bind fun bt5=>(if x4<(x3.length:Int) then(ZaE.l0 k x0 (x3.set (x4:Int).toNat (⟨bt5.1,bt5.2.1,bt5.2.2⟩:S39)) (wrap64 (x4+1))) else(none))) else(none)) else(some x3)
def ZaE.f (k:Nat) (l0:List (S143)):Option ((List (S39))):=if 0≤(l0.length:Int) then(if ((l0.length:Int):Int).toNat≤5864062014805 then(ZaE.l0 k l0 (List.replicate ((l0.length:Int):Int).toNat z39) 0) else(none)) else(none)
theorem ZaE.calls (k:Nat) (A0:Option Addr) (c0:Nat) (l0:List (S143)) (r:List (S39)) (w:World) (hr0:Kd.C k143 w A0 l0.length l0) (hc0:l0.length≤c0) (h:ZaE.f k l0=some r) :
  Calls Tryz.prog 100 #[.slice A0 l0.length c0] w fun e w'=>∃v0_:Value,e=.returned (v0_)∧Kd.S k39 39 w' w.heap.size (fun _=>True) v0_ r∧Below w.heap.size w w':=by
 have hu143:=Tryz.underlying143
 have hu39:=Tryz.underlying39
 have HR0:=Za hr0;have HC0:=Za hc0;clear hr0 hc0
 have HB:=Za (Below.refl w.heap.size w)
 have H:(if 0≤(l0.length:Int) then(if ((l0.length:Int):Int).toNat≤5864062014805 then(ZaE.l0 k l0 (List.replicate ((l0.length:Int):Int).toNat z39) 0) else(none)) else(none))=some r:=h
 clear h
 by_cases c2:0≤(l0.length:Int)
 ·rw[if_pos c2] at H
  have c2b0:=eq_true c2
  have c2b1:decide (0≤(l0.length:Int))=true:=Ze c2
  clear c2
  by_cases c3:((l0.length:Int):Int).toNat≤5864062014805
  ·rw[if_pos c3] at H
   have c3b0:=eq_true c3
   have c3b1:decide (((l0.length:Int):Int).toNat≤5864062014805)=true:=Ze c3
   clear c3
   obtain⟨y1,hy1⟩:∃y_:List (S39),y_=(List.replicate ((l0.length:Int):Int).toNat z39):=⟨_,rfl⟩
   replace H:(ZaE.l0 k l0 y1 0)=some r:=by first|(rw[hy1];with_reducible exact H)|(have H2_:=(Zi _ _).symm.trans H;rw[hy1];with_reducible exact H2_)|(have H2_:=(Zi _ _).symm.trans H;with_reducible exact H2_)|with_reducible exact H|(rw[hy1];exact H)|exact H
   have Ny1:=Za hy1;clear hy1
   have H':=Za H
   clear H
   go_enter Tryz.func100,Tryz.ntmps100
   go_wp2_with (first|((with_reducible refine ZG (N:=7) rfl ?_);refine Kd.S_make k39 _ 39 rfl (N:=7) rfl 22 _ _ rfl (l0.length:Int) rfl rfl Tryz.underlying22 (.agg #[(.string ⟨#[]⟩),(.slice none 0 0),(.int .i64 0)]) 48 info39 rfl (by decide) (by omega) z39 (ok:=fun _=>True) (okp:=fun _=>True) (k39_mkM _ _ _ z39 (Kd.R_nil _ _ _ _ _)) (fun _ hk=>hk) trivial (Zd (by with_reducible assumption)) (Nat.le_trans (Nat.mul_le_mul_right _ (Zd (by with_reducible assumption):(l0.length:Int).toNat≤5864062014805)) (by omega)) (Below.refl _ _) (Nat.le_refl _) ?_;intro v2 w4 ho5 hb hg_ hnew_;clear hg_ hnew_;(first|rw[← Ny1.out] at ho5|(simp only[Int.reduceToNat] at ho5;rw[← Ny1.out] at ho5));have HO3:=Za (Kd.S_lower ho5 (Zv (by exact HB.out)));replace HB:=Za (Zq (by exact HB.out) hb);clear hb ho5))
   go_loopg [4] k (fun kq v4 w'=>∃(x3_1:List (S39)) (x4_1:Int),v4=.int .i64 x4_1∧Aside0 (ZaE.l0 kq l0 x3_1 x4_1=some r)∧Aside0 (kq≤k)∧Aside0 (Kd.S k39 39 w' w.heap.size (fun _=>True) v2 x3_1)∧Aside0 (Below w.heap.size w w'))
   case atStart=>exact⟨(y1),(0),(by first|rfl|(simp;done)|(simp[*];done)),H',⟨Nat.le_refl _⟩,⟨by(with_reducible repeat(first|apply Kd.S_alloc|apply Kd.S_drewN|apply Kd.S_drew));exact HO3.out⟩,⟨by repeat(first|(with_reducible first|exact HB.out|apply Zo|apply Zm|apply Zp)|exact HB.out)⟩⟩
   case round=>
    clear H'
    try clear c1
    try clear c2
    try clear c2b0
    try clear c2b1
    try clear p2
    try clear c3
    try clear c3b0
    try clear c3b1
    obtain⟨x3_1,x4_1,rfl,HA,HK1,HO_3,HB⟩:=hrel
    cases gk with
    | zero=>exact absurd HA.out (by simp[ZaE.l0])
    | succ k1=>
     have H:=HA.out
     clear HA
     simp only[ZaE.l0] at H
     by_cases c6:x4_1<(l0.length:Int)
     ·rw[if_pos c6] at H
      have c6b0:decide (x4_1<(l0.length:Int))=true:=Ze c6
      clear c6
      by_cases c7:0≤x4_1
      ·rw[if_pos c7] at H
       have c7b0:decide (0≤x4_1)=true:=Ze c7
       clear c7
       replace H:=Zh H
       obtain⟨⟨t5,t6,t9⟩,A80,H⟩:=H;have A8:=Za A80;clear A80
       by_cases c9:x4_1<(x3_1.length:Int)
       ·rw[if_pos c9] at H
        have c9b0:decide (x4_1<(x3_1.length:Int))=true:=Ze c9
        clear c9
        obtain⟨y10,hy10⟩:∃y_:List (S39),y_=(x3_1.set (x4_1:Int).toNat (⟨t5,t6,t9⟩:S39)):=⟨_,rfl⟩
        replace H:(ZaE.l0 k1 l0 y10 (wrap64 (x4_1+1)))=some r:=by first|(rw[hy10];with_reducible exact H)|(have H2_:=(Zi _ _).symm.trans H;rw[hy10];with_reducible exact H2_)|(have H2_:=(Zi _ _).symm.trans H;with_reducible exact H2_)|with_reducible exact H|(rw[hy10];exact H)|exact H
        have Ny10:=Za hy10;clear hy10
        have H':=Za H
        clear H
        have p4:0≤(x4_1:Int):=Zd (by with_reducible assumption)
        have q4:x4_1<(l0.length:Int):=Zd (by with_reducible assumption)
        obtain⟨ad4,A4_1,c4_1,e4,hx4_0,hx4_1,hx4_2,hl4_1,hi4_1⟩:=at_T143 HR0.out x4_1 p4 q4
        cases e4
        replace hx4_0:=(HB.out.cell (Zc w _ hx4_0)).trans hx4_0
        replace hx4_1:=(HB.out.cell (Zc w _ hx4_1)).trans hx4_1
        replace hx4_2:=(HB.out.cell (Zc w _ hx4_2)).trans hx4_2
        have HR4_1:=Za hi4_1;have HC4_1:=Za hl4_1;clear hi4_1 hl4_1
        replace p4:=eq_true p4
        replace q4:=eq_true q4
        go_wp2_with (first|((with_reducible refine ZJ (f:=158) rfl ?_);refine ZY (some 20) rfl rfl Tryz.func158 (by kernel_rfl) rfl #[.agg #[.string ((ZaJ l0 x4_1).f0),.slice A4_1 ((ZaJ l0 x4_1).f1).length c4_1,.int .i64 ((ZaJ l0 x4_1).f2)]] rfl (by(try simp only[List.map_toArray,List.map_cons,List.map_nil]);first|done|rfl|(simp only[Zk,Zj];rfl)) ?_;(with_reducible refine(ZcP.calls k1 ((ZaJ l0 x4_1).f0) _ _ ((ZaJ l0 x4_1).f1) ((ZaJ l0 x4_1).f2) t5 t6 t9 _ ?side1 ?side2 A8.out).mono ?_);(case side1=>exact(Zb HR4_1.out HB.out));(case side2=>exact HC4_1.out);rintro e w11 ⟨v7,rfl,ho0,hb⟩;refine⟨_,rfl,?_⟩;have HO8:=Za (Kd.R_lower ho0 (Zv (by exact HB.out)));replace HO_3:=Za (Kd.S_elder' (by exact HO_3.out) (Kd.R_base ho0) hb);replace HB:=Za (Zq (by exact HB.out) hb);(try clear hb);(try clear hb2);(try clear hk);(try clear hi);(try clear ho0);obtain⟨As_,cs_,es_⟩:=Kd.R_slice HO8.out;subst es_;have p10:0≤(x4_1:Int):=Zd (by with_reducible assumption);have q10:(x4_1:Int)<((x3_1.length:Int):Int):=Zd (by with_reducible assumption);obtain⟨go10,co10,eo10,gb10,gl10,cl10,HG10⟩:=Kd.S_form HO_3.out (by omega);(first|cases eo10|(injection eo10 with ea_ en_ ec_;(first|subst ea_|(injection ea_ with ea_;subst ea_));subst ec_;clear en_));have GB10:=Za gb10;have GG10:=Za HG10;clear gb10 gl10 HG10;obtain⟨_,ce10,hcl10,hM10,hcc10,hfr10,_,_⟩:=Kd.S_elem HO_3.out z39 (x4_1:Int) p10 q10;obtain⟨ve10_1,rfl,ge10_1⟩:=Ze0 hM10;have hx10_0:w11.cell? ⟨go10,(x4_1:Int).toNat * 3,none⟩=some (.string ((ZI x3_1 x4_1).f0)):=hcc10 0 _ rfl;have hx10_1:w11.cell? ⟨go10,(x4_1:Int).toNat * 3+1,none⟩=some (ve10_1):=hcc10 1 _ rfl;have hx10_2:w11.cell? ⟨go10,(x4_1:Int).toNat * 3+2,none⟩=some (.int .i64 ((ZI x3_1 x4_1).f2)):=hcc10 2 _ rfl;have hf10_0:w11.frozen? ⟨go10,(x4_1:Int).toNat * 3,none⟩=false:=hfr10 0;have hf10_1:w11.frozen? ⟨go10,(x4_1:Int).toNat * 3+1,none⟩=false:=hfr10 1;have hf10_2:w11.frozen? ⟨go10,(x4_1:Int).toNat * 3+2,none⟩=false:=hfr10 2;clear hcl10 hcc10 hfr10 hM10;replace p10:=eq_true p10;replace q10:=eq_true q10;have n_:=Za (Kd.S_mono (ok':=(fun k_=>some k_≠(.slice As_ t6.length cs_:Value).ownBlock)) HO_3.out (fun k_ hk=>hk.2));clear HO_3;have HO_3:=n_;clear n_;have HX12:=Za (show Kd.S k39 39 w11 w.heap.size (fun k_=>((fun _=>True)) k_∧¬((fun k_=>some k_=(.slice As_ t6.length cs_:Value).ownBlock)) k_) (.slice (some ⟨go10,0,none⟩) x3_1.length co10) x3_1 from(by(with_reducible repeat(first|apply Kd.S_alloc|apply Kd.S_drewN|apply Kd.S_drew));exact Kd.S_mono HO_3.out (fun k_ hk=>⟨trivial,fun e_=>hk e_⟩)));obtain⟨oki12,ce12,hcl12,hM12,hcc12,hfr12,hoki12,hH12⟩:=Kd.S_elem HX12.out z39 (x4_1:Int) (Zd (by with_reducible assumption)) (by have h_:(x4_1:Int)<((x3_1.length:Int):Int):=Zd (by with_reducible assumption);first|exact h_|(have e_:=(Kd.S_reads' HO_3.out).1;omega)|simpa using h_);obtain⟨ve12_1,rfl,ge12_1⟩:=Ze0 hM12;have HP12:=Kd.S_seg hH12 (Zd (by with_reducible assumption)) (by have h_:(x4_1:Int)<((x3_1.length:Int):Int):=Zd (by with_reducible assumption);first|exact h_|(have e_:=(Kd.S_reads' HO_3.out).1;omega)|simpa using h_) (seg:=[.string t5,(.slice As_ t6.length cs_),.int .i64 t9]) (j:=0) (show 3≤3 from by decide) (x':=(⟨t5,t6,t9⟩:S39)) (k39_mkM _ _ _ (⟨t5,t6,t9⟩:S39) (Kd.R_mono (Kd.R_tight rfl (Kd.R_mono (ok':=fun k_=>((fun _=>True)) k_∧k_≠go10) (Kd.R_apart' (HO8.out) (Kd.S_typed HO_3.out) (by decide)) (fun k_ hk=>⟨trivial,fun e_=>(hk.2) (by rw[e_];rfl)⟩))) (fun _ h_=>Or.inr (h_)))) (fun _ hk=>hk) (fun k_ hk_=>((Kd.R_mono (ok':=fun k_=>((fun _=>True)) k_∧k_≠go10) (Kd.R_apart' (HO8.out) (Kd.S_typed HO_3.out) (by decide)) (fun k_ hk=>⟨trivial,fun e_=>(hk.2) (by rw[e_];rfl)⟩))).1 k_ hk_.symm);have hx12_0:=hcc12 0 _ rfl;(try simp only[show(k39).sz=3 from rfl,Nat.mul_one,Nat.add_zero] at hx12_0);have hf12_0:=hfr12 0;(try simp only[show(k39).sz=3 from rfl,Nat.mul_one,Nat.add_zero] at hf12_0);have hx12_1:=hcc12 1 _ rfl;(try simp only[show(k39).sz=3 from rfl,Nat.mul_one,Nat.add_zero] at hx12_1);have hf12_1:=hfr12 1;(try simp only[show(k39).sz=3 from rfl,Nat.mul_one,Nat.add_zero] at hf12_1);have hx12_2:=hcc12 2 _ rfl;(try simp only[show(k39).sz=3 from rfl,Nat.mul_one,Nat.add_zero] at hx12_2);have hf12_2:=hfr12 2;(try simp only[show(k39).sz=3 from rfl,Nat.mul_one,Nat.add_zero] at hf12_2);clear hcl12 hcc12 hfr12 hM12 hoki12 hH12)|((with_reducible refine ZbY (t:=39) (p:=21) rfl ?_);refine ZbD (t:=39) (p:=21) (v:=?vo_w13) (w1:=(((w11.setCell ⟨go10,(x4_1:Int).toNat * 3,none⟩ (.string t5)).setCell ⟨go10,(x4_1:Int).toNat * 3+1,none⟩ (.slice As_ t6.length cs_)).setCell ⟨go10,(x4_1:Int).toNat * 3+2,none⟩ (.int .i64 t9))) ?hg ?ho ?hn ?hr ?_;(case ho=>rfl);(case hg=>rfl);(case hn=>rfl);(case hr=>first|(go_simp;done)|(go_simp;rfl));intro w13 hw;have hg:w11.grownBy w13 (some go10):=(by rw[hw];exact HP12.2);have hp_:Kd.S k39 39 w13 w.heap.size (fun _=>True) (.slice (some ⟨go10,0,none⟩) x3_1.length co10) y10:=(by rw[hw,Ny10.out];exact HP12.1);clear HP12;replace HO_3:=Za (hp_);replace HB:=Za ((by rw[hw];exact Zs (Zs (Zs (HB.out) GB10.out) GB10.out) GB10.out:Below w.heap.size w w13));clear HO8;clear hg hw hp_))
        go_roundg k1
        case measure=>have:=HK1.out;omega
        case rel=>exact⟨(y10),(wrap64 (x4_1+1)),(by first|rfl|(simp;done)|(simp[*];done)),H',⟨by have:=HK1.out;omega⟩,⟨by(with_reducible repeat(first|apply Kd.S_alloc|apply Kd.S_drewN|apply Kd.S_drew));exact HO_3.out⟩,⟨by repeat(first|(with_reducible first|exact HB.out|apply Zo|apply Zm|apply Zp)|exact HB.out)⟩⟩
       ·rw[if_neg c9] at H
        exact absurd H (by simp)
      ·rw[if_neg c7] at H
       exact absurd H (by simp)
     ·rw[if_neg c6] at H
      have c6b0:decide (x4_1<(l0.length:Int))=false:=Zf c6
      clear c6
      obtain rfl:=Zg H
      go_wp2
      go_ret
      exact⟨_,by first|rfl|(simp[ZB,ZA] <;> rfl)|(simp[*,ZB,ZA] <;> rfl),by(with_reducible repeat(first|apply Kd.S_alloc|apply Kd.S_drewN|apply Kd.S_drew));exact HO_3.out,by repeat(first|(with_reducible first|exact HB.out|apply Zo|apply Zm|apply Zp)|exact HB.out)⟩
  ·rw[if_neg c3] at H
   exact absurd H (by simp)
 ·rw[if_neg c2] at H
  exact absurd H (by simp)
end Go.Proofs.YtoeimopgoaffcaaGreatDoor.Pr
