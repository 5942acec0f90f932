/- By a program of this session. -/
import Derived.Test.YtoeimopgoaffcaaGreatDoorProg
import Derived.ChangeArms
import Derived.ChangeSlices
import Derived.WideShapes
import Derived.Deep.Slices
import Derived.Lib.AppendIntMem
import Derived.Test.YtoeimopgoaffcaaGreatDoorBBw0
set_option maxHeartbeats 8000000
set_option maxRecDepth 100000
namespace Go.Proofs.YtoeimopgoaffcaaGreatDoor.Pr
open RowKit YtoeimopgoaffcaaGreatDoorW.PrintWords YtoeimopgoaffcaaGreatDoorW.PrintLast YtoeimopgoaffcaaGreatDoorW.PrintMore
attribute [local go_sem] Zak Zai Zax Zaw Zac Zab Zaj Zah
set_option linter.unusedVariables false
set_option linter.unusedSimpArgs false
def errW:Option Int→Value
 | none=>.nilIface
 | some c=>.iface 198 (.int .i64 c)
theorem ZC:errW none=.nilIface:=rfl
theorem ZB (c:Int):errW (some c)=.iface 198 (.int .i64 c):=rfl
theorem Zbl:(Tryz.prog.info? 3).map (fun i=>(i.zero,i.size,i.bytes))=some (some (.int .i64 0),1,8):=by kernel_rfl
theorem info4:(Tryz.prog.info? 4).map (fun i=>(i.zero,i.size,i.bytes))=some (some (.bool false),1,1):=by kernel_rfl
theorem info9:(Tryz.prog.info? 9).map (fun i=>(i.zero,i.size,i.bytes))=some (some (.string ⟨#[]⟩),1,16):=by kernel_rfl
theorem info39:(Tryz.prog.info? 39).map (fun i=>(i.zero,i.size,i.bytes))=some (some (.agg #[(.string ⟨#[]⟩),(.slice none 0 0),(.int .i64 0)]),3,48):=by kernel_rfl
theorem info82:(Tryz.prog.info? 82).map (fun i=>(i.zero,i.size,i.bytes))=some (some (.agg #[(.int .i64 0),(.int .i64 0),(.int .i64 0),(.int .i64 0),(.bool false)]),5,40):=by kernel_rfl
theorem ZdN:(Tryz.prog.info? 112).map (fun i=>(i.zero,i.size,i.bytes))=some (some (.agg #[(.int .i64 0),(.int .i64 0),(.int .i64 0),(.int .i64 0)]),4,32):=by kernel_rfl
theorem Zdf:(Tryz.prog.info? 184).map (fun i=>(i.zero,i.size,i.bytes))=some (some (.agg #[(.int .i64 0),(.int .i64 0),(.int .i64 0)]),3,24):=by kernel_rfl
structure S39 where
 f0:ByteArray
 f1:(List Int)
 f2:Int
def z39:S39:=⟨(⟨#[]⟩:ByteArray),([]:List Int),(0:Int)⟩
def k39:Kd S39:=Kd.iso (Kd.pair Kd.string (Kd.pair (Kd.slice 3 (Kd.int .i64)) (Kd.int .i64))) (fun x:S39=>(x.f0,x.f1,x.f2))
theorem k39_open {w:World} {x:S39} {cs:List Value} (h:k39.K w x cs):∃A1 c1,cs=[.string x.f0,.slice A1 x.f1.length c1,.int .i64 x.f2]∧x.f1.length≤c1∧(Kd.int .i64).C w A1 x.f1.length x.f1:=by
 obtain⟨_,_,rfl,rfl,⟨_,_,rfl,⟨A1,c1,rfl,l1,g1⟩,rfl⟩⟩:=h
 exact⟨A1,c1,rfl,l1,g1⟩
theorem Zde (w:World) (base:Nat) (ok:Nat→Prop) (x:S39) {v1:Value} (g1:(Kd.int .i64).R 3 w base ok v1 x.f1):k39.M w base ok x [.string x.f0,v1,.int .i64 x.f2]:=⟨[.string x.f0],[v1,.int .i64 x.f2],rfl,rfl,⟨[v1],[.int .i64 x.f2],rfl,⟨v1,rfl,g1⟩,rfl⟩⟩
def ZJ (xs:List S39) (i:Int):S39:=xs.getD i.toNat z39
theorem ZaX {w:World} {A:Option Addr} {n:Nat} {xs:List S39} (h:Kd.C k39 w A n xs) (i:Int) (h0:0≤i) (h1:i<n):∃ad A1 c1,A=some ad∧w.cell? (ad.add (i.toNat * 3))=some (.string (ZJ xs i).f0)∧w.cell? ⟨(ad.add (i.toNat * 3)).block,(ad.add (i.toNat * 3)).off+1,none⟩=some (.slice A1 (ZJ xs i).f1.length c1)∧w.cell? ⟨(ad.add (i.toNat * 3)).block,(ad.add (i.toNat * 3)).off+2,none⟩=some (.int .i64 (ZJ xs i).f2)∧(ZJ xs i).f1.length≤c1∧(Kd.int .i64).C w A1 (ZJ xs i).f1.length (ZJ xs i).f1:=by
 obtain⟨ad,c,e,_,hK,hc0⟩:=Kd.C_get h z39 i h0 h1
 have hc:∀j u,c[j]? = some u→w.cell? (ad.add (i.toNat * 3+j))=some u:=hc0
 obtain⟨A1,c1,rfl,l1,g1⟩:=k39_open hK
 exact⟨ad,A1,c1,e,hc 0 _ rfl,by rw[← Zb5 _ _ 1 (by omega)];exact hc 1 _ rfl,by rw[← Zb5 _ _ 2 (by omega)];exact hc 2 _ rfl,l1,g1⟩
structure S82 where
 f0:Int
 f1:Int
 f2:Int
 f3:Int
 f4:Bool
def z82:S82:=⟨(0:Int),(0:Int),(0:Int),(0:Int),false⟩
def k82:Kd S82:=Kd.iso (Kd.pair (Kd.int .i64) (Kd.pair (Kd.int .i64) (Kd.pair (Kd.int .i64) (Kd.pair (Kd.int .i64) Kd.bool)))) (fun x:S82=>(x.f0,x.f1,x.f2,x.f3,x.f4))
theorem k82_open {w:World} {x:S82} {cs:List Value} (h:k82.K w x cs):cs=[.int .i64 x.f0,.int .i64 x.f1,.int .i64 x.f2,.int .i64 x.f3,.bool x.f4]:=by
 obtain⟨_,_,rfl,rfl,⟨_,_,rfl,rfl,⟨_,_,rfl,rfl,⟨_,_,rfl,rfl,rfl⟩⟩⟩⟩:=h
 exact rfl
theorem ZdL (w:World) (base:Nat) (ok:Nat→Prop) (x:S82)  : k82.M w base ok x [.int .i64 x.f0,.int .i64 x.f1,.int .i64 x.f2,.int .i64 x.f3,.bool x.f4]:=⟨[.int .i64 x.f0],[.int .i64 x.f1,.int .i64 x.f2,.int .i64 x.f3,.bool x.f4],rfl,rfl,⟨[.int .i64 x.f1],[.int .i64 x.f2,.int .i64 x.f3,.bool x.f4],rfl,rfl,⟨[.int .i64 x.f2],[.int .i64 x.f3,.bool x.f4],rfl,rfl,⟨[.int .i64 x.f3],[.bool x.f4],rfl,rfl,rfl⟩⟩⟩⟩
def ZE (xs:List S82) (i:Int):S82:=xs.getD i.toNat z82
theorem ZbG {w:World} {A:Option Addr} {n:Nat} {xs:List S82} (h:Kd.C k82 w A n xs) (i:Int) (h0:0≤i) (h1:i<n):∃ad ,A=some ad∧w.cell? (ad.add (i.toNat * 5))=some (.int .i64 (ZE xs i).f0)∧w.cell? ⟨(ad.add (i.toNat * 5)).block,(ad.add (i.toNat * 5)).off+1,none⟩=some (.int .i64 (ZE xs i).f1)∧w.cell? ⟨(ad.add (i.toNat * 5)).block,(ad.add (i.toNat * 5)).off+2,none⟩=some (.int .i64 (ZE xs i).f2)∧w.cell? ⟨(ad.add (i.toNat * 5)).block,(ad.add (i.toNat * 5)).off+3,none⟩=some (.int .i64 (ZE xs i).f3)∧w.cell? ⟨(ad.add (i.toNat * 5)).block,(ad.add (i.toNat * 5)).off+4,none⟩=some (.bool (ZE xs i).f4):=by
 obtain⟨ad,c,e,_,hK,hc0⟩:=Kd.C_get h z82 i h0 h1
 have hc:∀j u,c[j]? = some u→w.cell? (ad.add (i.toNat * 5+j))=some u:=hc0
 obtain rfl:=k82_open hK
 exact⟨ad,e,hc 0 _ rfl,by rw[← Zb5 _ _ 1 (by omega)];exact hc 1 _ rfl,by rw[← Zb5 _ _ 2 (by omega)];exact hc 2 _ rfl,by rw[← Zb5 _ _ 3 (by omega)];exact hc 3 _ rfl,by rw[← Zb5 _ _ 4 (by omega)];exact hc 4 _ rfl⟩
structure S25 where
 f0:(List S39)
 f1:(List S82)
 f2:Int
structure S143 where
 f0:ByteArray
 f1:(List Int)
 f2:Int
structure S147 where
 f0:Int
 f1:Int
 f2:Int
 f3:Int
 f4:Bool
structure S58 where
 f0:(List Int)
 f1:(List Int)
structure S110 where
 f0:Int
 f1:Int
def z110:S110:=⟨(0:Int),(0:Int)⟩
def k110:Kd S110:=Kd.iso (Kd.pair (Kd.int .i64) (Kd.int .i64)) (fun x:S110=>(x.f0,x.f1))
theorem k110_open {w:World} {x:S110} {cs:List Value} (h:k110.K w x cs):cs=[.int .i64 x.f0,.int .i64 x.f1]:=by
 obtain⟨_,_,rfl,rfl,rfl⟩:=h
 exact rfl
theorem k110_mkM (w:World) (base:Nat) (ok:Nat→Prop) (x:S110)  : k110.M w base ok x [.int .i64 x.f0,.int .i64 x.f1]:=⟨[.int .i64 x.f0],[.int .i64 x.f1],rfl,rfl,rfl⟩
structure S112 where
 f0:Int
 f1:Int
 f2:S110
def z112:S112:=⟨(0:Int),(0:Int),z110⟩
def k112:Kd S112:=Kd.iso (Kd.pair (Kd.int .i64) (Kd.pair (Kd.int .i64) k110)) (fun x:S112=>(x.f0,x.f1,x.f2))
theorem k112_open {w:World} {x:S112} {cs:List Value} (h:k112.K w x cs):cs=[.int .i64 x.f0,.int .i64 x.f1,.int .i64 x.f2.f0,.int .i64 x.f2.f1]:=by
 obtain⟨_,_,rfl,rfl,⟨_,_,rfl,rfl,s2⟩⟩:=h
 obtain rfl:=k110_open s2
 exact rfl
theorem Zdr (w:World) (base:Nat) (ok:Nat→Prop) (x:S112)  : k112.M w base ok x [.int .i64 x.f0,.int .i64 x.f1,.int .i64 x.f2.f0,.int .i64 x.f2.f1]:=⟨[.int .i64 x.f0],[.int .i64 x.f1,.int .i64 x.f2.f0,.int .i64 x.f2.f1],rfl,rfl,⟨[.int .i64 x.f1],[.int .i64 x.f2.f0,.int .i64 x.f2.f1],rfl,rfl,(k110_mkM w base ok x.f2 )⟩⟩
def Zcf (xs:List S112) (i:Int):S112:=xs.getD i.toNat z112
theorem Ze7 {w:World} {A:Option Addr} {n:Nat} {xs:List S112} (h:Kd.C k112 w A n xs) (i:Int) (h0:0≤i) (h1:i<n):∃ad ,A=some ad∧w.cell? (ad.add (i.toNat * 4))=some (.int .i64 (Zcf xs i).f0)∧w.cell? ⟨(ad.add (i.toNat * 4)).block,(ad.add (i.toNat * 4)).off+1,none⟩=some (.int .i64 (Zcf xs i).f1)∧w.cell? ⟨(ad.add (i.toNat * 4)).block,(ad.add (i.toNat * 4)).off+2,none⟩=some (.int .i64 (Zcf xs i).f2.f0)∧w.cell? ⟨(ad.add (i.toNat * 4)).block,(ad.add (i.toNat * 4)).off+3,none⟩=some (.int .i64 (Zcf xs i).f2.f1):=by
 obtain⟨ad,c,e,_,hK,hc0⟩:=Kd.C_get h z112 i h0 h1
 have hc:∀j u,c[j]? = some u→w.cell? (ad.add (i.toNat * 4+j))=some u:=hc0
 obtain rfl:=k112_open hK
 exact⟨ad,e,hc 0 _ rfl,by rw[← Zb5 _ _ 1 (by omega)];exact hc 1 _ rfl,by rw[← Zb5 _ _ 2 (by omega)];exact hc 2 _ rfl,by rw[← Zb5 _ _ 3 (by omega)];exact hc 3 _ rfl⟩
structure S54 where
 f0:Int
 f1:(List S112)
structure S184 where
 f0:Int
 f1:Int
 f2:Int
def z184:S184:=⟨(0:Int),(0:Int),(0:Int)⟩
def k184:Kd S184:=Kd.iso (Kd.pair (Kd.int .i64) (Kd.pair (Kd.int .i64) (Kd.int .i64))) (fun x:S184=>(x.f0,x.f1,x.f2))
theorem k184_open {w:World} {x:S184} {cs:List Value} (h:k184.K w x cs):cs=[.int .i64 x.f0,.int .i64 x.f1,.int .i64 x.f2]:=by
 obtain⟨_,_,rfl,rfl,⟨_,_,rfl,rfl,rfl⟩⟩:=h
 exact rfl
theorem Zc3 (w:World) (base:Nat) (ok:Nat→Prop) (x:S184)  : k184.M w base ok x [.int .i64 x.f0,.int .i64 x.f1,.int .i64 x.f2]:=⟨[.int .i64 x.f0],[.int .i64 x.f1,.int .i64 x.f2],rfl,rfl,⟨[.int .i64 x.f1],[.int .i64 x.f2],rfl,rfl,rfl⟩⟩
def ZaD (xs:List S184) (i:Int):S184:=xs.getD i.toNat z184
theorem Zch {w:World} {A:Option Addr} {n:Nat} {xs:List S184} (h:Kd.C k184 w A n xs) (i:Int) (h0:0≤i) (h1:i<n):∃ad ,A=some ad∧w.cell? (ad.add (i.toNat * 3))=some (.int .i64 (ZaD xs i).f0)∧w.cell? ⟨(ad.add (i.toNat * 3)).block,(ad.add (i.toNat * 3)).off+1,none⟩=some (.int .i64 (ZaD xs i).f1)∧w.cell? ⟨(ad.add (i.toNat * 3)).block,(ad.add (i.toNat * 3)).off+2,none⟩=some (.int .i64 (ZaD xs i).f2):=by
 obtain⟨ad,c,e,_,hK,hc0⟩:=Kd.C_get h z184 i h0 h1
 have hc:∀j u,c[j]? = some u→w.cell? (ad.add (i.toNat * 3+j))=some u:=hc0
 obtain rfl:=k184_open hK
 exact⟨ad,e,hc 0 _ rfl,by rw[← Zb5 _ _ 1 (by omega)];exact hc 1 _ rfl,by rw[← Zb5 _ _ 2 (by omega)];exact hc 2 _ rfl⟩
structure S156 where
 f0:Int
 f1:(List S184)
structure S47 where
 f0:(List S143)
 f1:(List S147)
 f2:Int
structure S49 where
 f0:(List Int)
 f1:(List Int)
end Go.Proofs.YtoeimopgoaffcaaGreatDoor.Pr
namespace Go.Proofs.YtoeimopgoaffcaaGreatDoor.Op
open RowKit ChangeShapes WideShapes YtoeimopgoaffcaaGreatDoorW.PrintWords
structure Zdm {α:Type} (P:Program) (d:Kd α) (t:TypeId) (ok:α→Prop):Prop where
 cells:P.cellsOf t=d.sz
 op:∀{H:Type} {enc:TypeId×Value→H} {w:World} {base fuel:Nat} {cs:List Value} {x:DataW H×List MemPlace},DataW.trod enc P w base (fun _=>true) true fuel t cs=some x→∃y,d.K w y cs∧ok y
theorem Zdm.int {P:Program} {t:TypeId} {k:IntKind} (ht:P.underlying t=some (.int k)) (hc:P.cellsOf t=1):Zdm P (Kd.int k) t (fun n=>(Lit.int k n).wf=true):=
 ⟨hc,fun h=>by
  obtain⟨n,rfl,_,hw⟩:=DataW.trod_int ht h
  exact⟨n,rfl,hw⟩⟩
theorem Zdm.bool {P:Program} {t:TypeId} (ht:P.underlying t=some .bool) (hc:P.cellsOf t=1):Zdm P Kd.bool t (fun _=>True):=
 ⟨hc,fun h=>by
  obtain⟨n,rfl,_⟩:=DataW.trod_bool ht h
  exact⟨n,rfl,trivial⟩⟩
theorem Zdm.string {P:Program} {t:TypeId} (ht:P.underlying t=some .string) (hc:P.cellsOf t=1):Zdm P Kd.string t (fun s=>s.size≤maxLen):=
 ⟨hc,fun h=>by
  obtain⟨n,rfl,_,hw⟩:=DataW.trod_string ht h
  exact⟨n,rfl,hw⟩⟩
theorem choose_list {β:Type} (Q:Nat→β→Prop) (n:Nat) (h:∀i,i<n→∃y,Q i y):∃l:List β,l.length=n∧∀i y,l[i]? = some y→Q i y:=by
 induction n with
 | zero=>exact⟨[],rfl,fun i y h=>by simp at h⟩
 | succ n ih=>
  obtain⟨l,hl,hq⟩:=ih (fun i hi=>h i (by omega))
  obtain⟨y,hy⟩:=h n (by omega)
  refine⟨l ++ [y],by simp[hl],fun i z hz=>?_⟩
  rcases Nat.lt_or_ge i l.length with hi|hi
  ·rw[List.getElem?_append_left hi] at hz
   exact hq i z hz
  ·have hlt:=(List.getElem?_eq_some_iff.1 hz).1
   rw[List.length_append,List.length_singleton] at hlt
   have e:i=l.length:=by omega
   subst e
   have hz':y=z:=by simpa using hz
   subst hz'
   rw[hl]
   exact hy
theorem Zdm.slice {α:Type} {P:Program} {d:Kd α} {t e:TypeId} {ok:α→Prop} (he:Zdm P d e ok) (ht:P.underlying t=some (.slice e)) (hc:P.cellsOf t=1) :
  Zdm P (Kd.slice e d) t (fun l=>l.length≤maxLen∧∀x∈l,ok x):=
 ⟨hc,fun {H enc w base fuel cs x} h=>by
  rcases DataW.trod_slice ht h with ⟨rfl,_⟩|⟨a,len,cap,elems,rest,n,_,rfl,_,hb,hl,hm,hlen,hel,_,_⟩
  ·exact⟨[],⟨none,0,rfl,Nat.le_refl _,rfl,by simp,fun h0=>absurd h0 (by simp)⟩,by simp⟩
  ·have key:∀i,i<len→∃y,ok y∧∃c,c.length=d.sz∧d.K w y c∧∀j u,c[j]? = some u→w.cell? (a.add (i * d.sz+j))=some u:=by
    intro i hi
    have hi':=hel i hi
    rw[Zl (by omega),Option.bind_eq_some_iff] at hi'
    obtain⟨cs',h1,h2⟩:=hi'
    obtain⟨y,hk,hy⟩:=he.op h2
    refine⟨y,hy,cs',d.K_len hk,hk,fun j u hu=>?_⟩
    have:=(World.cells?_some h1).2.2 j (by
     have:=(List.getElem?_eq_some_iff.1 hu).1
     rw[d.K_len hk] at this
     rw[he.cells];exact this)
    rw[he.cells] at this
    rw[Addr.add_add] at this
    rw[this,hu]
   obtain⟨l,hll,hq⟩:=choose_list _ len key
   refine⟨l,⟨some a,cap,by rw[hll],by omega,rfl,by rw[hll];simp only[maxLen] at hm;omega,fun h0=>⟨a,rfl,fun j p hj=>?_⟩⟩,by omega,fun x hx=>?_⟩
   ·obtain⟨_,hc'⟩:=hq j p hj
    exact hc'
   ·obtain⟨i,hi⟩:=List.getElem?_of_mem hx
    exact(hq i x hi).1⟩
end Go.Proofs.YtoeimopgoaffcaaGreatDoor.Op
namespace Go.Proofs.YtoeimopgoaffcaaGreatDoor.Pr
open RowKit YtoeimopgoaffcaaGreatDoorW.PrintWords YtoeimopgoaffcaaGreatDoorW.PrintLast YtoeimopgoaffcaaGreatDoorW.PrintMore
attribute [local go_sem] Zak Zai Zax Zaw Zac Zab Zaj Zah
set_option linter.unusedVariables false
set_option linter.unusedSimpArgs false
open Go.Proofs.YtoeimopgoaffcaaGreatDoor.Op ChangeShapes WideShapes
section
variable {P:Program} {ops:Array Oper} {Q:Exit→Act→World→Prop} {md:Region.Mode} {S:World→Prop} {ds:List Nat}
theorem pu {fuel:Nat} {l:Array Bool} {a:Act} {w:World} (i:Nat) {N:Option Tmp} {oi:Oper} {v:Value} {l':Array Bool} {a':Act} (h:ZV P md ops Q S ds fuel l' a' w) (hi:ops[i]? = some oi:=by rfl) (hN:oi.dst=N:=by rfl)
  (_hl:l.setIfInBounds i true=l':=by(simp only[List.setIfInBounds_toArray,List.set_cons_zero,List.set_cons_succ];rfl)) (hc:anyB md ops l l' i=true:=by kernel_rfl) (hQ:∀c a w,Q (.panic c) (a.put oi.dst v) w→Q (.panic c) a w:=by exact fun _ _ _ h=>h)
  (hy:Yields P ops oi v a:=by(refine Or.inl ⟨by rfl,?_⟩;intro w';go_simp;with_reducible rfl)) (ha:a.put N v=a':=by(simp only[Act.put,List.setIfInBounds_toArray,List.set_cons_zero,List.set_cons_succ,i64_w,i32_w];rfl)):ZV P md ops Q S ds (fuel+1) l a w:=
 pure_ l' hi hN hc hQ hy ha h
theorem tk {fuel:Nat} {l:Array Bool} {a:Act} {w:World} (i:Nat) (hS:S w) {N:Option Tmp} {oi:Oper} {v:Value} {l':Array Bool} {a':Act} (h:ZV P md ops Q S ds fuel l' a' w) (hi:ops[i]? = some oi:=by rfl) (hN:oi.dst=N:=by rfl)
  (_hl:l.setIfInBounds i true=l':=by(simp only[List.setIfInBounds_toArray,List.set_cons_zero,List.set_cons_succ];rfl)) (hc:takeB md ops ds l l' i=true:=by kernel_rfl) (hQ:∀c a w,Q (.panic c) (a.put oi.dst v) w→Q (.panic c) a w:=by exact fun _ _ _ h=>h)
  (hy:YieldsIf P ops S oi v a:=by(refine Or.inl ⟨by rfl,?_⟩;intro w' hs_;go_simp;with_reducible rfl)) (ha:a.put N v=a':=by(simp only[Act.put,List.setIfInBounds_toArray,List.set_cons_zero,List.set_cons_succ,i64_w,i32_w];rfl)):ZV P md ops Q S ds (fuel+1) l a w:=
 take_ l' hi hN hc hQ hy hS ha h
theorem und {fuel:Nat} {l:Array Bool} {a:Act} {w:World} (i:Nat) {N:Option Tmp} {oi:Oper} {l':Array Bool} {a':Act} (h:ZV P md ops Q S ds fuel l' a' w) (hi:ops[i]? = some oi:=by rfl) (hN:oi.dst=N:=by rfl)
  (_hl:l.setIfInBounds i true=l':=by(simp only[List.setIfInBounds_toArray,List.set_cons_zero,List.set_cons_succ];rfl)) (hc:anyB md ops l l' i=true:=by kernel_rfl) (hQ:∀c a w,Q (.panic c) (a.put oi.dst undef) w→Q (.panic c) a w:=by exact fun _ _ _ h=>h)
  (hy:Yields P ops oi undef a:=by exact Or.inr ⟨by rfl,rfl⟩) (ha:a.put N undef=a':=by(simp only[Act.put,List.setIfInBounds_toArray,List.set_cons_zero,List.set_cons_succ,i64_w,i32_w];rfl)):ZV P md ops Q S ds (fuel+1) l a w:=
 pure_ l' hi hN hc hQ hy ha h
theorem onl {fuel:Nat} {l:Array Bool} {a:Act} {w:World} (i:Nat) {N:Option Tmp} {oi:Oper} {l':Array Bool}
  (h:∀K:Act→World→Prop,Shut (∀a' w',S w'→(S w'→ZV P md ops Q S ds fuel l' a' w')→K a' w')→if Region.wanted oi (yielded ops a.tmps)=true then Oper.wp P oi a w K Q else K (a.put N undef) w) (hi:ops[i]? = some oi:=by rfl) (hN:oi.dst=N:=by rfl)
  (_hl:l.setIfInBounds i true=l':=by(simp only[List.setIfInBounds_toArray,List.set_cons_zero,List.set_cons_succ];rfl)) (hc:ZdS md ops l l' i=true:=by kernel_rfl) (hd:i ∉ ds:=by decide):ZV P md ops Q S ds (fuel+1) l a w:=
 one_ l' hi hN hc hd h
theorem nrm {fuel:Nat} {l:Array Bool} {a:Act} {w:World} (N:Option Tmp) {v:Value} {a':Act} (h:ZV P md ops Q S ds fuel l a' w) (ha:a.put N v=a':=by(simp only[Act.put,List.setIfInBounds_toArray,List.set_cons_zero,List.set_cons_succ,i64_w,i32_w];rfl)):ZV P md ops Q S ds fuel l (a.put N v) w:=
 ZdF ha h
end
def TW (w : World) : Prop := Lib.TabBelow Tryz.prog w.heap.size w "internal/strconv.uint64pow10" .u64 Lib.pow10Tab
theorem TW.below {w w':World} (h:TW w) (hb:Below w.heap.size w w'):TW w':=fun w2 h2=>h w2 (hb.trans (h2.mono hb.size))
theorem var_below {P:Program} {w:World} {name:String} {cs:Array Value} (h:w.var? P name=some cs):∀w',Below w.heap.size w w'→w'.var? P name=some cs:=fun w' hb=>by
 unfold World.var? at *
 cases hg:P.globalNamed name with
 | none=>simp[hg] at h
 | some g=>
  simp only[hg,Zi] at h ⊢
  have hlt:g<w.heap.size:=by
   rcases Nat.lt_or_ge g w.heap.size with h'|h'
   ·exact h'
   ·rw[Array.getElem?_eq_none h'] at h;simp at h
  rw[hb.block g hlt]
  exact h
def EW (w : World) : Prop := (∃ tp p, ∀ w', Below w.heap.size w w' → w'.var? Tryz.prog "strconv.ErrSyntax" = some #[.iface tp p]) ∧ ∃ tp p, ∀ w', Below w.heap.size w w' → w'.var? Tryz.prog "strconv.ErrRange" = some #[.iface tp p]
theorem EW.below {w w':World} (h:EW w) (hb:Below w.heap.size w w'):EW w':=by
 obtain⟨⟨t1,p1,h1⟩,t2,p2,h2⟩:=h
 exact⟨⟨t1,p1,fun w2 h=>h1 w2 (hb.trans (h.mono hb.size))⟩,t2,p2,fun w2 h=>h2 w2 (hb.trans (h.mono hb.size))⟩
theorem EW.of {w : World} {t1 t2 : TypeId} {p1 p2 : Value} (h1 : w.var? Tryz.prog "strconv.ErrSyntax" = some #[.iface t1 p1]) (h2 : w.var? Tryz.prog "strconv.ErrRange" = some #[.iface t2 p2]) : EW w := ⟨⟨t1, p1, var_below h1⟩, t2, p2, var_below h2⟩
theorem R_spot {α:Type} {d:Kd α} {e n c:Nat} {w:World} {base:Nat} {ok:Nat→Prop} {A:Option Addr} {xs:List α} (h:d.R e w base ok (.slice A n c) xs):∀ad,A=some ad→ad.spot=none:=by
 intro ad hA
 obtain⟨_,inner,ho,_⟩:=h
 obtain⟨_,h2⟩:=ho
 rcases h2 with ⟨h3,_⟩|⟨g,c,cur,h3,_⟩
 ·injection h3 with h4;rw[hA] at h4;cases h4
 ·injection h3 with h4;rw[hA] at h4;cases h4;rfl
theorem add_spot (b o j:Nat):(⟨b,o,none⟩:Addr).add j=⟨b,o+j,none⟩:=by
 unfold Addr.add
 split
 ·rename_i h;subst h;rfl
 ·rfl
end Go.Proofs.YtoeimopgoaffcaaGreatDoor.Pr
namespace Go.Proofs.YtoeimopgoaffcaaGreatDoor.Ni
open RowKit YtoeimopgoaffcaaGreatDoorW.PrintWords
theorem Zx {w W:World} (hb:Below w.heap.size w W) {a:Addr} {v:Value} (h:w.cell? a=some v):W.cell? a=some v:=(hb.cell (Zc w _ h)).trans h
theorem Z9 {i:Int} (h0 : -9223372036854775808≤i) (h:i≤9223372036854775807):wrap64 i=i:=by
 unfold wrap64;omega
theorem ZO {i n:Nat} (h:i<n) (hn:n≤9223372036854775807):wrap64 ((i:Int)+1)=((i+1:Nat):Int):=by
 unfold wrap64;omega
theorem wrap_pred {i:Nat} (h:0<i) (hn:i≤9223372036854775807):wrap64 ((i:Int) - 1)=((i - 1:Nat):Int):=by
 unfold wrap64;omega
theorem ZaW (l:List Int) (i:Nat):rd l (i:Int)=l.getD i 0:=by unfold rd;rw[Int.toNat_natCast]
theorem Zal {α:Type} {l:List α} {i:Nat} (h:i<l.length) (d:α):l.drop i=l.getD i d :: l.drop (i+1):=by
 rw[List.drop_eq_getElem_cons h,List.getD_eq_getElem?_getD,Zl h];rfl
theorem ZaJ {α:Type} {l:List α} {i:Nat} (h:i<l.length) (d:α):l.getD i d∈l:=by
 rw[List.getD_eq_getElem?_getD,Zl h];exact List.getElem_mem h
theorem getD_some {α:Type} {l:List α} {i:Nat} (h:i<l.length) (d:α):l[i]? = some (l.getD i d):=by
 rw[List.getD_eq_getElem?_getD,Zl h];rfl
theorem set_step {α:Type} (ys:List α) (z d:α) (i:Nat) (h:i<ys.length) (x:α) (hx:x=ys.getD i d):(ys.take i ++ List.replicate (ys.length - i) z).set i x=ys.take (i+1) ++ List.replicate (ys.length - (i+1)) z:=by
 subst hx
 have e:ys.length - i=(ys.length - (i+1))+1:=by omega
 rw[e,List.replicate_succ,List.set_append_right _ _ (by simp;omega)]
 have e2:i - (ys.take i).length=0:=by simp;omega
 rw[e2,List.set_cons_zero,List.take_succ_eq_append_getElem h,List.append_assoc]
 congr 2
 simp[List.getD_eq_getElem?_getD,Zl h]
theorem Zb7 (n:Nat) (Q:Nat→Nat→Prop) (K:Nat) (hend:∀k,K≤k→Q (k+1) n) (hstep:∀k i,K≤k→i<n→Q k (i+1)→Q (k+1) i):∀(i k:Nat),i≤n→K+(n - i)<k→Q k i:=by
 have key:∀(d i k:Nat),i≤n→n - i=d→K+d<k→Q k i:=by
  intro d
  induction d with
  | zero=>
   intro i k hi hd hk
   obtain⟨m,rfl⟩:∃m,k=m+1:=⟨k - 1,by omega⟩
   obtain rfl:i=n:=by omega
   exact hend m (by omega)
  | succ d ih=>
   intro i k hi hd hk
   obtain⟨m,rfl⟩:∃m,k=m+1:=⟨k - 1,by omega⟩
   exact hstep m i (by omega) (by omega) (ih (i+1) m (by omega) (by omega) (by omega))
 intro i k hi hk
 exact key (n - i) i k hi rfl hk
theorem set_mid (pre:List Int) (x y:Int) (post:List Int):(pre ++ x :: post).set pre.length y=pre ++ y :: post:=by
 rw[List.set_append_right _ _ (Nat.le_refl _),Nat.sub_self,List.set_cons_zero]
def Zbc {α:Type} (p:α→Bool) (l:List α):Int:=match l.findIdx? p with|some i=>i|none=>-1
theorem Zcd {α:Type} (p:α→Bool) (l:List α) (k:Nat) (x:α) (hk:l[k]? = some x) (hx:p x=true) (hb:∀j y,j<k→l[j]? = some y→p y=false):Zbc p l=(k:Int):=by
 have h:l.findIdx? p=some k:=by
  rw[List.findIdx?_eq_some_iff_getElem]
  obtain⟨hl,he⟩:=List.getElem?_eq_some_iff.1 hk
  refine⟨hl,by rw[he];exact hx,fun j hj=>?_⟩
  have:=hb j _ hj (Zl (by omega))
  simp[this]
 simp[Zbc,h]
theorem Zb0 {α:Type} (p:α→Bool) (l:List α) (hb:∀j y,j<l.length→l[j]? = some y→p y=false):Zbc p l=-1:=by
 have h:l.findIdx? p=none:=by
  rw[List.findIdx?_eq_none_iff]
  intro x hx
  obtain⟨j,hj⟩:=List.getElem?_of_mem hx
  exact hb j x (List.getElem?_eq_some_iff.1 hj).1 hj
 simp[Zbc,h]
theorem Zdg {α:Type} (p:α→Bool) (l:List α):decide (0≤Zbc p l)=l.any p:=by
 unfold Zbc
 cases h:l.findIdx? p with
 | some i=>
  rw[List.findIdx?_eq_some_iff_getElem] at h
  obtain⟨hl,hp,_⟩:=h
  have:l.any p=true:=List.any_eq_true.2 ⟨_,List.getElem_mem hl,hp⟩
  rw[this]
  exact Ze (Int.natCast_nonneg _)
 | none=>
  rw[List.findIdx?_eq_none_iff] at h
  have:l.any p=false:=by rw[List.any_eq_false];intro x hx;rw[h x hx];simp
  rw[this];rfl
theorem Zet {α:Type} (p:α→Bool) (l:List α) : -1≤Zbc p l∧Zbc p l<l.length:=by
 unfold Zbc
 cases h:l.findIdx? p with
 | some i=>
  rw[List.findIdx?_eq_some_iff_getElem] at h
  obtain⟨hl,_⟩:=h
  simp only;omega
 | none=>simp only;omega
def ZbH (x:Int):Bool:=!(x == 0) && decide (-3≤x) && decide (x≤3)
def prp (x:Int):Int:=if x<0 then -x else x
def Zb8 (p:Int):List Int→Bool
 | []=>true
 | x :: t=>ZbH x && decide (p<prp x) && Zb8 (prp x) t
def labB (l:List Int):Bool:=Zb8 0 l
def ZcG (l:List Int):Bool:=decide (l.length=3) && l.all (fun n=>decide (-1≤n) && decide (n≤1))
theorem Zb4 (x:Int):ZbH x=true↔x≠0∧-3≤x∧x≤3:=by
 simp[ZbH,and_assoc]
theorem Ze3 {x:Int} (h:ZbH x=true):1≤prp x∧prp x≤3:=by
 have:=(Zb4 x).1 h
 unfold prp;split <;> omega
def stFrom (v:List Int) (a:Int):List Int→Int
 | []=>a
 | x :: t=>stFrom v (min a (if x<0 then -(v.getD (prp x - 1).toNat 0) else v.getD (prp x - 1).toNat 0)) t
def stB (l v:List Int):Int:=stFrom v 1 l
end Go.Proofs.YtoeimopgoaffcaaGreatDoor.Ni
namespace Go.Proofs.YtoeimopgoaffcaaGreatDoor.Pr
open RowKit YtoeimopgoaffcaaGreatDoorW.PrintWords YtoeimopgoaffcaaGreatDoorW.PrintLast YtoeimopgoaffcaaGreatDoorW.PrintMore
attribute [local go_sem] Zak Zai Zax Zaw Zac Zab Zaj Zah
set_option linter.unusedVariables false
set_option linter.unusedSimpArgs false
def ZI (w0 W:World) (g:Nat) (f0:List Int) (f1:Int) (f2:Int):Prop:=∃A0 c0,W.heap[g]? = some (.cells #[.slice A0 f0.length c0,.int .i64 f1,.int .i64 f2] 137 (0,0))∧w0.heap.size≤g∧Kd.C (Kd.int .u8) w0 A0 f0.length f0
theorem ZI.grown {w0 W:World} {g:Nat} {f0:List Int} {f1:Int} {f2:Int} {W1:World} {row:Option Nat} (h:ZI w0 W g f0 f1 f2) (hw:W.grownBy W1 row) (hne:some g≠row):ZI w0 W1 g f0 f1 f2:=by
 obtain⟨A0,c0,hb,hg,hr0⟩:=h
 exact⟨A0,c0,Zad hb hw hne,hg,hr0⟩
theorem ZI.kept {w0 W:World} {g:Nat} {f0:List Int} {f1:Int} {f2:Int} {W1:World} {S:Nat→Prop} (h:ZI w0 W g f0 f1 f2) (hk:Kept W W1 S) (hne:¬S g):ZI w0 W1 g f0 f1 f2:=by
 obtain⟨A0,c0,hb,hg,hr0⟩:=h
 exact⟨A0,c0,blk_kept hb hk hne,hg,hr0⟩
theorem ZI.below {w0 W:World} {g:Nat} {f0:List Int} {f1:Int} {f2:Int} {W1:World} (h:ZI w0 W g f0 f1 f2) (hw:Below W.heap.size W W1):ZI w0 W1 g f0 f1 f2:=h.grown (Zej hw none) (by simp)
theorem ZI.alloc {w0 W:World} {g:Nat} {f0:List Int} {f1:Int} {f2:Int} (h:ZI w0 W g f0 f1 f2) (o:Obj):ZI w0 (W.alloc o) g f0 f1 f2:=h.below (Zo (Below.refl _ _) o)
theorem ZI.drewN {w0 W:World} {g:Nat} {f0:List Int} {f1:Int} {f2:Int} (h:ZI w0 W g f0 f1 f2) (m:Nat):ZI w0 (W.drewN m) g f0 f1 f2:=h
theorem ZI.drew {w0 W:World} {g:Nat} {f0:List Int} {f1:Int} {f2:Int} (h:ZI w0 W g f0 f1 f2):ZI w0 W.drew g f0 f1 f2:=h
theorem ZI.at_ {w0 W:World} {g:Nat} {f0:List Int} {f1:Int} {f2:Int} {w':World} {m:Nat} (hq:W.drewN m=w') (h:ZI w0 W g f0 f1 f2):ZI w0 w' g f0 f1 f2:=by subst hq;exact ZI.drewN h m
theorem ZI.apart {w0 W:World} {g:Nat} {f0:List Int} {f1:Int} {f2:Int} {α:Type} {d:Kd α} {e:Nat} {base:Nat} {ok:Nat→Prop} {v:Value} {xs:List α} (h:ZI w0 W g f0 f1 f2) (ho:d.R e W base ok v xs) (ht:∀q,q∈e :: d.E→q≠137):d.R e W base (fun k=>ok k∧k≠g) v xs:=by
 obtain⟨A0,c0,hb,hg,hr0⟩:=h
 exact Kd.R_types ho hb ht
theorem ZI.own_ne {w0 W:World} {g:Nat} {f0:List Int} {f1:Int} {f2:Int} {α:Type} {d:Kd α} {e:Nat} {base:Nat} {ok:Nat→Prop} {v:Value} {xs:List α} (h:ZI w0 W g f0 f1 f2) (ho:d.R e W base ok v xs) (ht:e≠137):some g≠v.ownBlock:=by
 obtain⟨A0,c0,hb,hg,hr0⟩:=h
 exact Kd.R_ne ho hb ht
theorem ZI.lt {w0 W:World} {g:Nat} {f0:List Int} {f1:Int} {f2:Int} (h:ZI w0 W g f0 f1 f2):g<W.heap.size:=by
 obtain⟨A0,c0,hb,hg,hr0⟩:=h
 exact ZN hb
theorem ZI.ge {w0 W:World} {g:Nat} {f0:List Int} {f1:Int} {f2:Int} (h:ZI w0 W g f0 f1 f2):w0.heap.size≤g:=by
 obtain⟨A0,c0,hb,hg,hr0⟩:=h
 exact hg
theorem ZI.ne_blk {w0 W:World} {g:Nat} {f0:List Int} {f1:Int} {f2:Int} {a:Nat} {cs:Array Value} {t:TypeId} {fr:Nat×Nat} (h:ZI w0 W g f0 f1 f2) (hb2:W.heap[a]? = some (.cells cs t fr)) (ht:t≠137):g≠a:=by
 obtain⟨A0,c0,hb,hg,hr0⟩:=h
 rintro rfl
 rw[hb] at hb2
 injection hb2 with hb2
 injection hb2 with _ ht2
 exact ht ht2.symm
theorem ZI.far {w0 W:World} {g:Nat} {f0:List Int} {f1:Int} {f2:Int} {p:Addr} (h:ZI w0 W g f0 f1 f2) (hne:g≠p.block) (u:Value):ZI w0 (W.setCell p u) g f0 f1 f2:=by
 obtain⟨A0,c0,hb,hg,hr0⟩:=h
 exact⟨A0,c0,ZL hb hne u,hg,hr0⟩
theorem ZfI {W:World} {g:Nat} {A0:Option Addr} {c0:Nat} {f0:List Int} {f1:Int} {f2:Int} (h:W.heap[g]? = some (.cells #[.slice A0 f0.length c0,.int .i64 f1,.int .i64 f2] 137 (0,0))):W.cell? ⟨g,0,none⟩=some (.slice A0 f0.length c0):=(Zm h 0).trans rfl
theorem ZfH {W:World} {g:Nat} {A0:Option Addr} {c0:Nat} {f0:List Int} {f1:Int} {f2:Int} (h:W.heap[g]? = some (.cells #[.slice A0 f0.length c0,.int .i64 f1,.int .i64 f2] 137 (0,0))):W.cell? ⟨g,1,none⟩=some (.int .i64 f1):=(Zm h 1).trans rfl
theorem ZI.set_1 {w0 W:World} {g:Nat} {f0:List Int} {f1:Int} {f2:Int} (h:ZI w0 W g f0 f1 f2) (x:Int):ZI w0 (W.setCell ⟨g,1,none⟩ (.int .i64 x)) g f0 x f2:=by
 obtain⟨A0,c0,hb,hg,hr0⟩:=h
 exact⟨A0,c0,by simpa using Ze6 hb 1 (.int .i64 x),hg,hr0⟩
theorem ZfG {W:World} {g:Nat} {A0:Option Addr} {c0:Nat} {f0:List Int} {f1:Int} {f2:Int} (h:W.heap[g]? = some (.cells #[.slice A0 f0.length c0,.int .i64 f1,.int .i64 f2] 137 (0,0))):W.cell? ⟨g,2,none⟩=some (.int .i64 f2):=(Zm h 2).trans rfl
theorem ZI.set_2 {w0 W:World} {g:Nat} {f0:List Int} {f1:Int} {f2:Int} (h:ZI w0 W g f0 f1 f2) (x:Int):ZI w0 (W.setCell ⟨g,2,none⟩ (.int .i64 x)) g f0 f1 x:=by
 obtain⟨A0,c0,hb,hg,hr0⟩:=h
 exact⟨A0,c0,by simpa using Ze6 hb 2 (.int .i64 x),hg,hr0⟩
theorem ZI.new (w0 W:World) (A0:Option Addr) (c0:Nat) (f0:List Int) (f1:Int) (f2:Int) (hB:Below w0.heap.size w0 W) (hr0:Kd.C (Kd.int .u8) w0 A0 f0.length f0):ZI w0 (W.alloc (.cells #[.slice A0 f0.length c0,.int .i64 f1,.int .i64 f2] 137)) W.heap.size f0 f1 f2:=⟨A0,c0,by simpa using heap_alloc_new W _,hB.size,hr0⟩
def Z5.f (s0_0:List Int) (s0_1:Int) (s0_2:Int):Option (Int×Int×Int):=if s0_1<(s0_0.length:Int) then(if 0≤s0_1 then(some (Go.bits .and .i64 (wrap64 ((Go.bits .and .i64 (Go.bits .xor .i64 ((wrap64 ((wrap64 (s0_2 * 6364136223846793005))+1442695040888963407)) / 8589934592) ((wrap64 ((wrap64 (s0_2 * 6364136223846793005))+1442695040888963407)) / 35184372088832)) 255)+(wrap64 (rd s0_0 s0_1)))) 255,wrap64 (s0_1+1),wrap64 ((wrap64 (s0_2 * 6364136223846793005))+1442695040888963407))) else(none)) else(some (Go.bits .and .i64 (Go.bits .xor .i64 ((wrap64 ((wrap64 (s0_2 * 6364136223846793005))+1442695040888963407)) / 8589934592) ((wrap64 ((wrap64 (s0_2 * 6364136223846793005))+1442695040888963407)) / 35184372088832)) 255,s0_1,wrap64 ((wrap64 (s0_2 * 6364136223846793005))+1442695040888963407)))
theorem Z5.calls (g:Nat) (s0_0:List Int) (s0_1:Int) (s0_2:Int) (r1:Int) (r2:Int) (r3:Int) (w0 w:World) (hI:ZI w0 w g s0_0 s0_1 s0_2) (hB:Below w0.heap.size w0 w) (h:Z5.f s0_0 s0_1 s0_2=some (r1,r2,r3)) :
  Calls Tryz.prog 121 #[.pointer (some ⟨g,0,none⟩)] w fun e w'=>e=.returned (.int .i64 r1)∧ZI w0 w' g s0_0 r2 r3∧Below w0.heap.size w0 w'∧ZS w w' g none:=by
 have HI0:=Za hI
 have HK:=Za (ZS.refl w g none)
 have HL:=Za hB.size
 clear hI
 have HW0:=Za hB.size
 have HB:=Za hB;clear hB
 have H:(if s0_1<(s0_0.length:Int) then(if 0≤s0_1 then(some (Go.bits .and .i64 (wrap64 ((Go.bits .and .i64 (Go.bits .xor .i64 ((wrap64 ((wrap64 (s0_2 * 6364136223846793005))+1442695040888963407)) / 8589934592) ((wrap64 ((wrap64 (s0_2 * 6364136223846793005))+1442695040888963407)) / 35184372088832)) 255)+(wrap64 (rd s0_0 s0_1)))) 255,wrap64 (s0_1+1),wrap64 ((wrap64 (s0_2 * 6364136223846793005))+1442695040888963407))) else(none)) else(some (Go.bits .and .i64 (Go.bits .xor .i64 ((wrap64 ((wrap64 (s0_2 * 6364136223846793005))+1442695040888963407)) / 8589934592) ((wrap64 ((wrap64 (s0_2 * 6364136223846793005))+1442695040888963407)) / 35184372088832)) 255,s0_1,wrap64 ((wrap64 (s0_2 * 6364136223846793005))+1442695040888963407))))=some (r1,r2,r3):=h
 clear h
 by_cases c2:s0_1<(s0_0.length:Int)
 ·rw[if_pos c2] at H
  have c2b0:decide (s0_1<(s0_0.length:Int))=true:=Ze c2
  clear c2
  by_cases c3:0≤s0_1
  ·rw[if_pos c3] at H
   have c3b0:decide (0≤s0_1)=true:=Ze c3
   clear c3
   simp only[Option.some.injEq,Prod.mk.injEq] at H
   obtain⟨rfl,rfl,rfl⟩:=H
   obtain⟨ASz4_0,cSz4_0,HGz4,hgz4,HSz4_0⟩:=HI0.out
   have hcz4_0:=ZfI HGz4
   have hcz4_1:=ZfH HGz4
   have hcz4_2:=ZfG HGz4
   have hfz4_1:=Zq HGz4 1
   have hfz4_2:=Zq HGz4 2
   clear HGz4 hgz4
   have p1:0≤(s0_1:Int):=Zd (by with_reducible assumption)
   have q1:s0_1<(s0_0.length:Int):=Zd (by with_reducible assumption)
   obtain⟨ad1,e1,hx1_0⟩:=Kd.at_int HSz4_0 s0_1 p1 q1
   cases e1
   have hn1_0:ad1.block≠g:=Nat.ne_of_lt (Nat.lt_of_lt_of_le (by have:=Zc _ _ hx1_0;first|rwa [ZdC] at this|exact this) (ZI.ge HI0.out))
   replace hx1_0:=ZcM HB.out hx1_0
   replace hx1_0:=(Zd2 (p:=⟨g,2,none⟩) (by first|(rw[ZdC];exact hn1_0)|(show(Addr.add _ _).block≠_;rw[ZdC];exact hn1_0)|exact hn1_0) (.int .i64 (wrap64 ((wrap64 (s0_2 * 6364136223846793005))+1442695040888963407)))).trans hx1_0
   (try have hy1_0:=fun (n_:Nat)=>(show(((w.drewN n_).setCell ⟨g,2,none⟩ (.int .i64 (wrap64 ((wrap64 (s0_2 * 6364136223846793005))+1442695040888963407))))).cell? _=some _ from hx1_0))
   clear hn1_0
   replace p1:=eq_true p1
   replace q1:=eq_true q1
   go_enter Tryz.func121,Tryz.ntmps121
   go_wp2
   repeat(go_quiet (fail);try go_wp2)
   go_ret
   exact⟨by first|rfl|(simp[ZC,ZB] <;> rfl)|(simp[*,ZC,ZB] <;> rfl),by repeat(first|(with_reducible first|exact HI0.out|apply ZI.alloc|apply ZI.drewN|apply ZI.drew|apply ZI.set_1|apply ZI.set_2)|exact HI0.out),by repeat(first|(with_reducible first|exact HB.out|apply Zo|apply Zn|apply Zp|refine Zt ?_ (ZI.ge HI0.out))|exact HB.out),by repeat(first|(with_reducible first|exact HK.out|apply ZS.set_|apply ZcH|apply Zc2|apply ZcI)|exact HK.out)⟩
  ·rw[if_neg c3] at H
   exact absurd H (by simp)
 ·rw[if_neg c2] at H
  have c2b0:decide (s0_1<(s0_0.length:Int))=false:=Zf c2
  clear c2
  simp only[Option.some.injEq,Prod.mk.injEq] at H
  obtain⟨rfl,rfl,rfl⟩:=H
  obtain⟨ASz5_0,cSz5_0,HGz5,hgz5,HSz5_0⟩:=HI0.out
  have hcz5_0:=ZfI HGz5
  have hcz5_1:=ZfH HGz5
  have hcz5_2:=ZfG HGz5
  have hfz5_1:=Zq HGz5 1
  have hfz5_2:=Zq HGz5 2
  clear HGz5 hgz5
  go_enter Tryz.func121,Tryz.ntmps121
  go_wp2
  repeat(go_quiet (fail);try go_wp2)
  go_ret
  exact⟨by first|rfl|(simp[ZC,ZB] <;> rfl)|(simp[*,ZC,ZB] <;> rfl),by repeat(first|(with_reducible first|exact HI0.out|apply ZI.alloc|apply ZI.drewN|apply ZI.drew|apply ZI.set_1|apply ZI.set_2)|exact HI0.out),by repeat(first|(with_reducible first|exact HB.out|apply Zo|apply Zn|apply Zp|refine Zt ?_ (ZI.ge HI0.out))|exact HB.out),by repeat(first|(with_reducible first|exact HK.out|apply ZS.set_|apply ZcH|apply Zc2|apply ZcI)|exact HK.out)⟩
def ZQ.f (s0_0:List Int) (s0_1:Int) (s0_2:Int) (a1:Int):Option (Int×Int×Int):=if a1≤0 then(some (0,s0_1,s0_2)) else(if a1≤256 then((Z5.f s0_0 s0_1 s0_2).bind fun bt1=>(if a1=0 then(none) else(some (Int.tmod bt1.1 a1,bt1.2.1,bt1.2.2)))) else((Z5.f s0_0 s0_1 s0_2).bind fun bt4=>((Z5.f s0_0 bt4.2.1 bt4.2.2).bind fun bt7=>((Z5.f s0_0 bt7.2.1 bt7.2.2).bind fun bt10=>((Z5.f s0_0 bt10.2.1 bt10.2.2).bind fun bt13=>(if a1=0 then(none) else(some (Int.tmod (wrap64 ((wrap64 ((wrap64 ((wrap64 (bt4.1 * 16777216))+(wrap64 (bt7.1 * 65536))))+(wrap64 (bt10.1 * 256))))+bt13.1)) a1,bt13.2.1,bt13.2.2))))))))
theorem ZQ.calls (g:Nat) (s0_0:List Int) (s0_1:Int) (s0_2:Int) (a1:Int) (r1:Int) (r2:Int) (r3:Int) (w0 w:World) (hI:ZI w0 w g s0_0 s0_1 s0_2) (hB:Below w0.heap.size w0 w) (h:ZQ.f s0_0 s0_1 s0_2 a1=some (r1,r2,r3)) :
  Calls Tryz.prog 188 #[.pointer (some ⟨g,0,none⟩),.int .i64 a1] w fun e w'=>e=.returned (.int .i64 r1)∧ZI w0 w' g s0_0 r2 r3∧Below w0.heap.size w0 w'∧ZS w w' g none:=by
 have HI0:=Za hI
 have HK:=Za (ZS.refl w g none)
 have HL:=Za hB.size
 clear hI
 have HW0:=Za hB.size
 have HB:=Za hB;clear hB
 have H:(if a1≤0 then(some (0,s0_1,s0_2)) else(if a1≤256 then((Z5.f s0_0 s0_1 s0_2).bind fun bt1=>(if a1=0 then(none) else(some (Int.tmod bt1.1 a1,bt1.2.1,bt1.2.2)))) else((Z5.f s0_0 s0_1 s0_2).bind fun bt4=>((Z5.f s0_0 bt4.2.1 bt4.2.2).bind fun bt7=>((Z5.f s0_0 bt7.2.1 bt7.2.2).bind fun bt10=>((Z5.f s0_0 bt10.2.1 bt10.2.2).bind fun bt13=>(if a1=0 then(none) else(some (Int.tmod (wrap64 ((wrap64 ((wrap64 ((wrap64 (bt4.1 * 16777216))+(wrap64 (bt7.1 * 65536))))+(wrap64 (bt10.1 * 256))))+bt13.1)) a1,bt13.2.1,bt13.2.2)))))))))=some (r1,r2,r3):=h
 clear h
 by_cases c3:a1≤0
 ·rw[if_pos c3] at H
  have c3b0:decide (a1≤0)=true:=Ze c3
  clear c3
  simp only[Option.some.injEq,Prod.mk.injEq] at H
  obtain⟨rfl,rfl,rfl⟩:=H
  go_enter Tryz.func188,Tryz.ntmps188
  go_wp2
  go_ret
  exact⟨by first|rfl|(simp[ZC,ZB] <;> rfl)|(simp[*,ZC,ZB] <;> rfl),by repeat(first|(with_reducible first|exact HI0.out|apply ZI.alloc|apply ZI.drewN|apply ZI.drew|apply ZI.set_1|apply ZI.set_2)|exact HI0.out),by repeat(first|(with_reducible first|exact HB.out|apply Zo|apply Zn|apply Zp|refine Zt ?_ (ZI.ge HI0.out))|exact HB.out),by repeat(first|(with_reducible first|exact HK.out|apply ZS.set_|apply ZcH|apply Zc2|apply ZcI)|exact HK.out)⟩
 ·rw[if_neg c3] at H
  have c3b0:decide (a1≤0)=false:=Zf c3
  clear c3
  by_cases c4:a1≤256
  ·rw[if_pos c4] at H
   have c4b0:decide (a1≤256)=true:=Ze c4
   clear c4
   replace H:=Zh H
   obtain⟨⟨t1,t2,t3⟩,A50,H⟩:=H;have A5:=Za A50;clear A50
   by_cases c6:a1=0
   ·rw[if_pos c6] at H
    exact absurd H (by simp)
   ·rw[if_neg c6] at H
    have c6b0:(a1 == 0)=false:=beq_eq_false_iff_ne.mpr c6
    simp only[Option.some.injEq,Prod.mk.injEq] at H
    obtain⟨rfl,rfl,rfl⟩:=H
    go_enter Tryz.func188,Tryz.ntmps188
    go_wp2_with (first|((with_reducible refine ZM (f:=121) rfl ?_);refine Z7 (some 14) rfl rfl Tryz.func121 (by kernel_rfl) rfl #[.pointer (some ⟨g,0,none⟩)] rfl (by(try simp only[List.map_toArray,List.map_cons,List.map_nil]);first|done|rfl|(simp only[Zk,Zj];rfl)) ?_;(with_reducible refine(Z5.calls g s0_0 s0_1 s0_2 t1 t2 t3 w0 _ ?side1 ?side2 A5.out).mono ?_);(case side1=>repeat(first|(with_reducible first|exact HI0.out|apply ZI.alloc|apply ZI.drewN|apply ZI.drew|apply ZI.set_1|apply ZI.set_2)|exact HI0.out));(case side2=>repeat(first|(with_reducible first|exact HB.out|apply Zo|apply Zn|apply Zp|refine Zt ?_ (ZI.ge HI0.out))|exact HB.out));rintro e w7 ⟨rfl,hi,hb,hk⟩;refine⟨_,rfl,?_⟩;replace HK:=Za (ZS.trans (by exact HK.out) hk (.inl rfl));replace HB:=Za (hb);replace HI0:=Za (hi);(try clear hi)))
    go_ret
    exact⟨by first|rfl|(simp[ZC,ZB] <;> rfl)|(simp[*,ZC,ZB] <;> rfl),by repeat(first|(with_reducible first|exact HI0.out|apply ZI.alloc|apply ZI.drewN|apply ZI.drew|apply ZI.set_1|apply ZI.set_2)|exact HI0.out),by repeat(first|(with_reducible first|exact HB.out|apply Zo|apply Zn|apply Zp|refine Zt ?_ (ZI.ge HI0.out))|exact HB.out),by repeat(first|(with_reducible first|exact HK.out|apply ZS.set_|apply ZcH|apply Zc2|apply ZcI)|exact HK.out)⟩
  ·rw[if_neg c4] at H
   have c4b0:decide (a1≤256)=false:=Zf c4
   clear c4
   replace H:=Zh H
   obtain⟨⟨t4,t5,t6⟩,A80,H⟩:=H;have A8:=Za A80;clear A80
   replace H:=Zh H
   obtain⟨⟨t7,t8,t9⟩,A90,H⟩:=H;have A9:=Za A90;clear A90
   replace H:=Zh H
   obtain⟨⟨t10,t11,t12⟩,A100,H⟩:=H;have A10:=Za A100;clear A100
   replace H:=Zh H
   obtain⟨⟨t13,t14,t15⟩,A110,H⟩:=H;have A11:=Za A110;clear A110
   by_cases c12:a1=0
   ·rw[if_pos c12] at H
    exact absurd H (by simp)
   ·rw[if_neg c12] at H
    have c12b0:(a1 == 0)=false:=beq_eq_false_iff_ne.mpr c12
    simp only[Option.some.injEq,Prod.mk.injEq] at H
    obtain⟨rfl,rfl,rfl⟩:=H
    go_enter Tryz.func188,Tryz.ntmps188
    go_wp2_with (first|((with_reducible refine ZM (f:=121) rfl ?_);refine Z7 (some 18) rfl rfl Tryz.func121 (by kernel_rfl) rfl #[.pointer (some ⟨g,0,none⟩)] rfl (by(try simp only[List.map_toArray,List.map_cons,List.map_nil]);first|done|rfl|(simp only[Zk,Zj];rfl)) ?_;(with_reducible refine(Z5.calls g s0_0 s0_1 s0_2 t4 t5 t6 w0 _ ?side1 ?side2 A8.out).mono ?_);(case side1=>repeat(first|(with_reducible first|exact HI0.out|apply ZI.alloc|apply ZI.drewN|apply ZI.drew|apply ZI.set_1|apply ZI.set_2)|exact HI0.out));(case side2=>repeat(first|(with_reducible first|exact HB.out|apply Zo|apply Zn|apply Zp|refine Zt ?_ (ZI.ge HI0.out))|exact HB.out));rintro e w13 ⟨rfl,hi,hb,hk⟩;refine⟨_,rfl,?_⟩;replace HK:=Za (ZS.trans (by exact HK.out) hk (.inl rfl));replace HB:=Za (hb);replace HI0:=Za (hi);(try clear hi))|((with_reducible refine ZM (f:=121) rfl ?_);refine Z7 (some 20) rfl rfl Tryz.func121 (by kernel_rfl) rfl #[.pointer (some ⟨g,0,none⟩)] rfl (by(try simp only[List.map_toArray,List.map_cons,List.map_nil]);first|done|rfl|(simp only[Zk,Zj];rfl)) ?_;(with_reducible refine(Z5.calls g s0_0 t5 t6 t7 t8 t9 w0 _ ?side1 ?side2 A9.out).mono ?_);(case side1=>repeat(first|(with_reducible first|exact HI0.out|apply ZI.alloc|apply ZI.drewN|apply ZI.drew|apply ZI.set_1|apply ZI.set_2)|exact HI0.out));(case side2=>repeat(first|(with_reducible first|exact HB.out|apply Zo|apply Zn|apply Zp|refine Zt ?_ (ZI.ge HI0.out))|exact HB.out));rintro e w14 ⟨rfl,hi,hb,hk⟩;refine⟨_,rfl,?_⟩;replace HK:=Za (ZS.trans (by exact HK.out) hk (.inl rfl));replace HB:=Za (hb);replace HI0:=Za (hi);(try clear hi))|((with_reducible refine ZM (f:=121) rfl ?_);refine Z7 (some 22) rfl rfl Tryz.func121 (by kernel_rfl) rfl #[.pointer (some ⟨g,0,none⟩)] rfl (by(try simp only[List.map_toArray,List.map_cons,List.map_nil]);first|done|rfl|(simp only[Zk,Zj];rfl)) ?_;(with_reducible refine(Z5.calls g s0_0 t8 t9 t10 t11 t12 w0 _ ?side1 ?side2 A10.out).mono ?_);(case side1=>repeat(first|(with_reducible first|exact HI0.out|apply ZI.alloc|apply ZI.drewN|apply ZI.drew|apply ZI.set_1|apply ZI.set_2)|exact HI0.out));(case side2=>repeat(first|(with_reducible first|exact HB.out|apply Zo|apply Zn|apply Zp|refine Zt ?_ (ZI.ge HI0.out))|exact HB.out));rintro e w15 ⟨rfl,hi,hb,hk⟩;refine⟨_,rfl,?_⟩;replace HK:=Za (ZS.trans (by exact HK.out) hk (.inl rfl));replace HB:=Za (hb);replace HI0:=Za (hi);(try clear hi))|((with_reducible refine ZM (f:=121) rfl ?_);refine Z7 (some 24) rfl rfl Tryz.func121 (by kernel_rfl) rfl #[.pointer (some ⟨g,0,none⟩)] rfl (by(try simp only[List.map_toArray,List.map_cons,List.map_nil]);first|done|rfl|(simp only[Zk,Zj];rfl)) ?_;(with_reducible refine(Z5.calls g s0_0 t11 t12 t13 t14 t15 w0 _ ?side1 ?side2 A11.out).mono ?_);(case side1=>repeat(first|(with_reducible first|exact HI0.out|apply ZI.alloc|apply ZI.drewN|apply ZI.drew|apply ZI.set_1|apply ZI.set_2)|exact HI0.out));(case side2=>repeat(first|(with_reducible first|exact HB.out|apply Zo|apply Zn|apply Zp|refine Zt ?_ (ZI.ge HI0.out))|exact HB.out));rintro e w16 ⟨rfl,hi,hb,hk⟩;refine⟨_,rfl,?_⟩;replace HK:=Za (ZS.trans (by exact HK.out) hk (.inl rfl));replace HB:=Za (hb);replace HI0:=Za (hi);(try clear hi)))
    go_ret
    exact⟨by first|rfl|(simp[ZC,ZB] <;> rfl)|(simp[*,ZC,ZB] <;> rfl),by repeat(first|(with_reducible first|exact HI0.out|apply ZI.alloc|apply ZI.drewN|apply ZI.drew|apply ZI.set_1|apply ZI.set_2)|exact HI0.out),by repeat(first|(with_reducible first|exact HB.out|apply Zo|apply Zn|apply Zp|refine Zt ?_ (ZI.ge HI0.out))|exact HB.out),by repeat(first|(with_reducible first|exact HK.out|apply ZS.set_|apply ZcH|apply Zc2|apply ZcI)|exact HK.out)⟩
def Zbb.f (s0_0:List Int) (s0_1:Int) (s0_2:Int) (a1:Int):Option (Bool×Int×Int):=(ZQ.f s0_0 s0_1 s0_2 a1).bind fun bt1=>(some ((bt1.1 == 0),bt1.2.1,bt1.2.2))
theorem Zbb.calls (g:Nat) (s0_0:List Int) (s0_1:Int) (s0_2:Int) (a1:Int) (r1:Bool) (r2:Int) (r3:Int) (w0 w:World) (hI:ZI w0 w g s0_0 s0_1 s0_2) (hB:Below w0.heap.size w0 w) (h:Zbb.f s0_0 s0_1 s0_2 a1=some (r1,r2,r3)) :
  Calls Tryz.prog 140 #[.pointer (some ⟨g,0,none⟩),.int .i64 a1] w fun e w'=>e=.returned (.bool r1)∧ZI w0 w' g s0_0 r2 r3∧Below w0.heap.size w0 w'∧ZS w w' g none:=by
 have HI0:=Za hI
 have HK:=Za (ZS.refl w g none)
 have HL:=Za hB.size
 clear hI
 have HW0:=Za hB.size
 have HB:=Za hB;clear hB
 have H:((ZQ.f s0_0 s0_1 s0_2 a1).bind fun bt1=>(some ((bt1.1 == 0),bt1.2.1,bt1.2.2)))=some (r1,r2,r3):=h
 clear h
 replace H:=Zh H
 obtain⟨⟨t1,t2,t3⟩,A30,H⟩:=H
 replace H:(some ((t1 == 0),t2,t3))=some (r1,r2,r3):=H
 have A3:=Za A30;clear A30
 simp only[Option.some.injEq,Prod.mk.injEq] at H
 obtain⟨rfl,rfl,rfl⟩:=H
 go_enter Tryz.func140,Tryz.ntmps140
 go_wp2_with (first|((with_reducible refine ZM (f:=188) rfl ?_);refine Z7 (some 7) rfl rfl Tryz.func188 (by kernel_rfl) rfl #[.pointer (some ⟨g,0,none⟩),.int .i64 a1] rfl (by(try simp only[List.map_toArray,List.map_cons,List.map_nil]);first|done|rfl|(simp only[Zk,Zj];rfl)) ?_;(with_reducible refine(ZQ.calls g s0_0 s0_1 s0_2 a1 t1 t2 t3 w0 _ ?side1 ?side2 A3.out).mono ?_);(case side1=>repeat(first|(with_reducible first|exact HI0.out|apply ZI.alloc|apply ZI.drewN|apply ZI.drew|apply ZI.set_1|apply ZI.set_2)|exact HI0.out));(case side2=>repeat(first|(with_reducible first|exact HB.out|apply Zo|apply Zn|apply Zp|refine Zt ?_ (ZI.ge HI0.out))|exact HB.out));rintro e w4 ⟨rfl,hi,hb,hk⟩;refine⟨_,rfl,?_⟩;replace HK:=Za (ZS.trans (by repeat(first|(with_reducible first|exact HK.out|apply ZS.set_|apply ZcH|apply Zc2|apply ZcI)|exact HK.out)) hk (.inl rfl));replace HB:=Za (hb);replace HI0:=Za (hi);(try clear hb);(try clear hb2);(try clear hk);(try clear hi)))
 go_ret
 exact⟨by first|rfl|(simp[ZC,ZB] <;> rfl)|(simp[*,ZC,ZB] <;> rfl),by repeat(first|(with_reducible first|exact HI0.out|apply ZI.alloc|apply ZI.drewN|apply ZI.drew|apply ZI.set_1|apply ZI.set_2)|exact HI0.out),by repeat(first|(with_reducible first|exact HB.out|apply Zo|apply Zn|apply Zp|refine Zt ?_ (ZI.ge HI0.out))|exact HB.out),by repeat(first|(with_reducible first|exact HK.out|apply ZS.set_|apply ZcH|apply Zc2|apply ZcI)|exact HK.out)⟩
open Ni
structure Dr (V w0 w W:World) (g:Nat) (b:List Int) (i h:Int) (uN uT:Value) (ns:List S39) (ts:List S82):Prop where
 cu:ZI w0 W g b i h
 rn:Kd.R k39 39 W w.heap.size (fun k=>w.heap.size≤k) uN ns
 rt:Kd.R k82 82 W w.heap.size (fun k=>w.heap.size≤k) uT ts
 hb:Below w0.heap.size w0 W
 kp:ZS w W g none
 ws:w0.heap.size≤w.heap.size
 vz:V.heap.size≤W.heap.size
 sb:∀(x:Nat) (cs:Array Value),V.heap[x]? = some (.cells cs 25 (0,0))→W.heap[x]? = some (.cells cs 25 (0,0))
section
variable {V w0 w W w1:World} {g gs:Nat} {b:List Int} {i h i' h':Int} {uN uT cN cT v1:Value} {z:Int} {ns ns1:List S39} {ts ts1:List S82} {cs:Array Value}
theorem Dr.keep (d:Dr V w0 w W g b i h uN uT ns ts) (cu:ZI w0 w1 g b i' h') (hb:Below w0.heap.size w0 w1) (hk:ZS W w1 g none):Dr V w0 w w1 g b i' h' uN uT ns ts:=
 ⟨cu,Kd.R_mono (Kd.R_keep (d.cu.apart d.rn (by decide)) hk (fun _ h=>h.2)) (fun _ h=>h.1),Kd.R_mono (Kd.R_keep (d.cu.apart d.rt (by decide)) hk (fun _ h=>h.2)) (fun _ h=>h.1),hb,d.kp.trans hk (.inl rfl),d.ws,Nat.le_trans d.vz hk.1,fun x cs h=>ZS.blk hk (d.sb x cs h) (fun e=>d.cu.ne_blk (d.sb x cs h) (by decide) e.symm) (by simp)⟩
theorem Dr.keepB (d:Dr V w0 w W g b i h uN uT ns ts) (hx:W.heap[gs]? = some (.cells cs 25 (0,0))) (hk:ZS W w1 g none):w1.heap[gs]? = some (.cells cs 25 (0,0)):=ZS.blk hk hx (fun e=>d.cu.ne_blk hx (by decide) e.symm) (by simp)
theorem Dr.below (d:Dr V w0 w W g b i h uN uT ns ts) (hb:Below W.heap.size W w1):Dr V w0 w w1 g b i h uN uT ns ts:=
 ⟨d.cu.below hb,Kd.R_below d.rn hb,Kd.R_below d.rt hb,ZdI d.hb d.hb.size hb,d.kp.trans (ZS.of_below hb g none) (.inl rfl),d.ws,Nat.le_trans d.vz hb.size,fun x cs h=>Zs (d.sb x cs h) hb⟩
theorem Dr.tie (d:Dr V w0 w W g b i h uN uT ns ts) (ho:Kd.R k82 82 w1 w.heap.size (fun k=>w.heap.size≤k) v1 ts1) (hb:Below w.heap.size W w1) (hg:W.grownBy w1 uT.ownBlock):Dr V w0 w w1 g b i h uN v1 ns ts1:=
 ⟨d.cu.grown hg (d.cu.own_ne d.rt (by decide)),Kd.R_over d.rn d.rt (by decide) hg,ho,ZeW d.hb d.ws hb,d.kp.trans (ZS.of_grown hg g) (Kd.R_base2 d.rt),d.ws,Nat.le_trans d.vz hg.size,fun x cs h=>Zad (d.sb x cs h) hg (Kd.R_ne d.rt (d.sb x cs h) (by decide))⟩
theorem Dr.tieB (d:Dr V w0 w W g b i h uN uT ns ts) (hx:W.heap[gs]? = some (.cells cs 25 (0,0))) (hg:W.grownBy w1 uT.ownBlock):w1.heap[gs]? = some (.cells cs 25 (0,0)):=Zad hx hg (Kd.R_ne d.rt hx (by decide))
theorem Dr.node (d:Dr V w0 w W g b i h uN uT ns ts) (ho:Kd.R k39 39 w1 w.heap.size (fun k=>w.heap.size≤k) v1 ns1) (hb:Below w.heap.size W w1) (hg:W.grownBy w1 uN.ownBlock):Dr V w0 w w1 g b i h v1 uT ns1 ts:=
 ⟨d.cu.grown hg (d.cu.own_ne d.rn (by decide)),ho,Kd.R_over d.rt d.rn (by decide) hg,ZeW d.hb d.ws hb,d.kp.trans (ZS.of_grown hg g) (Kd.R_base2 d.rn),d.ws,Nat.le_trans d.vz hg.size,fun x cs h=>Zad (d.sb x cs h) hg (Kd.R_ne d.rn (d.sb x cs h) (by decide))⟩
theorem Dr.nodeB (d:Dr V w0 w W g b i h uN uT ns ts) (hx:W.heap[gs]? = some (.cells cs 25 (0,0))) (hg:W.grownBy w1 uN.ownBlock):w1.heap[gs]? = some (.cells cs 25 (0,0)):=Zad hx hg (Kd.R_ne d.rn hx (by decide))
theorem Dr.put (d:Dr V w0 w W g b i h uN uT ns ts) (hx:W.heap[gs]? = some (.cells cs 25 (0,0))) (ge:w.heap.size≤gs∧V.heap.size≤gs) (j:Nat) (v:Value):Dr V w0 w (W.setCell ⟨gs,j,none⟩ v) g b i h uN uT ns ts:=
 ⟨d.cu.far (p:=⟨gs,j,none⟩) (d.cu.ne_blk hx (by decide)) v,Kd.R_mono (Kd.R_far (p:=⟨gs,j,none⟩) (Kd.R_types d.rn hx (by decide)) (fun _ hk=>hk.2) v) (fun _ hk=>hk.1),Kd.R_mono (Kd.R_far (p:=⟨gs,j,none⟩) (Kd.R_types d.rt hx (by decide)) (fun _ hk=>hk.2) v) (fun _ hk=>hk.1),Zt d.hb (Nat.le_trans d.ws ge.1),Zer d.kp ge.1 v,d.ws,by simp only[World.setCell,Array.size_modify];exact d.vz,fun x cs h=>ZL (d.sb x cs h) (p:=⟨gs,j,none⟩) (Nat.ne_of_lt (Nat.lt_of_lt_of_le (ZN h) ge.2)) v⟩
theorem Dr.lit (d:Dr V w0 w W g b i h uN uT ns ts) (ho:Kd.R k39 39 w1 W.heap.size (fun _=>True) v1 ns1) (hb:Below W.heap.size W w1):Dr V w0 w w1 g b i h v1 uT ns1 ts:=
 ⟨(d.below hb).cu,Kd.R_mono (Kd.R_lower (Kd.R_newM (M:=fun k_=>w.heap.size≤k_) ho d.kp.1 (fun _ h=>h)) d.kp.1) (fun _ h=>h.1),(d.below hb).rt,(d.below hb).hb,(d.below hb).kp,d.ws,(d.below hb).vz,(d.below hb).sb⟩
theorem Dr.put3 (d:Dr V w0 w W g b i h uN uT ns ts) (hx:W.heap[gs]? = some (.cells #[cN,cT,v1] 25 (0,0))) (ge:w.heap.size≤gs∧V.heap.size≤gs) (a c e:Value) :
  Dr V w0 w (((W.setCell ⟨gs,0,none⟩ a).setCell ⟨gs,1,none⟩ c).setCell ⟨gs,2,none⟩ e) g b i h uN uT ns ts∧(((W.setCell ⟨gs,0,none⟩ a).setCell ⟨gs,1,none⟩ c).setCell ⟨gs,2,none⟩ e).heap[gs]? = some (.cells #[a,c,e] 25 (0,0)):=by
 have P0:=ZR (cs:=#[cN,cT,v1]) hx 0 a rfl
 have P1:=ZR (cs:=#[a,cT,v1]) P0 1 c rfl
 have P2:=ZR (cs:=#[a,c,v1]) P1 2 e rfl
 exact⟨((d.put hx ge 0 a).put P0 ge 1 c).put P1 ge 2 e,P2⟩
theorem Dr.base (d:Dr V w0 w W g b i h uN uT ns ts):Dr W w0 w W g b i h uN uT ns ts:=⟨d.cu,d.rn,d.rt,d.hb,d.kp,d.ws,Nat.le_refl _,fun _ _ h=>h⟩
theorem Dr.new {w0 w:World} {g:Nat} {b:List Int} {i h:Int} (cu:ZI w0 w g b i h) (hb:Below w0.heap.size w0 w):Dr w0 w0 w w g b i h (.slice none 0 0) (.slice none 0 0) [] []:=⟨cu,Kd.R_nil _ _ _ _ _,Kd.R_nil _ _ _ _ _,hb,ZS.refl _ _ _,hb.size,hb.size,fun x cs h=>Zs h hb⟩
theorem Zby {n:Nat} (hb:Below n W w1) (hg:W.grownBy w1 none):Below W.heap.size W w1:=⟨hb.os,hb.tape,hb.output,hb.size,fun i hi=>hg.block i hi (by simp)⟩
theorem Dr.litN (d:Dr V w0 w W g b i h uN uT ns ts) (ho:Kd.R k39 39 w1 w.heap.size (fun k=>w.heap.size≤k) v1 ns1) (hb:Below W.heap.size W w1):Dr V w0 w w1 g b i h v1 uT ns1 ts:=
 ⟨(d.below hb).cu,ho,(d.below hb).rt,(d.below hb).hb,(d.below hb).kp,d.ws,(d.below hb).vz,(d.below hb).sb⟩
theorem Dr.litT (d:Dr V w0 w W g b i h uN uT ns ts) (ho:Kd.R k82 82 w1 w.heap.size (fun k=>w.heap.size≤k) v1 ts1) (hb:Below W.heap.size W w1):Dr V w0 w w1 g b i h uN v1 ns ts1:=
 ⟨(d.below hb).cu,(d.below hb).rn,ho,(d.below hb).hb,(d.below hb).kp,d.ws,(d.below hb).vz,(d.below hb).sb⟩
theorem Zfm {w0 w W w1:World} {g gr:Nat} {b:List Int} {i o:Int} {v0 v1:Value} {z:Int} {c0 c1 c2:Value} {ns:List S39} {ts:List S82} (gw:w.heap.size≤gr) (hw:w0.heap.size≤w.heap.size) (hr:W.heap[gr]? = some (.cells #[c0,c1,c2] 25 (0,0))) (kW:ZS w W g none) (ne:gr≠g) (hn:Kd.N k39 39 w1 W.heap.size (fun k=>W.heap.size≤k∧some k≠v1.ownBlock) v0 ns) (ht:Kd.R k82 82 w1 W.heap.size (fun k=>W.heap.size≤k) v1 ts) (cu:ZI w0 w1 g b i o) (hb:Below w0.heap.size w0 w1) (kp:ZS W w1 g none) :
  (((w1.setCell ⟨gr,0,none⟩ v0).setCell ⟨gr,1,none⟩ v1).setCell ⟨gr,2,none⟩ (.int .i64 z)).heap[gr]? = some (.cells #[v0,v1,.int .i64 z] 25 (0,0)) ∧
  Kd.N k39 39 (((w1.setCell ⟨gr,0,none⟩ v0).setCell ⟨gr,1,none⟩ v1).setCell ⟨gr,2,none⟩ (.int .i64 z)) w.heap.size (fun k_=>(w.heap.size≤k_)∧some k_≠v1.ownBlock) v0 ns ∧
  Kd.R k82 82 (((w1.setCell ⟨gr,0,none⟩ v0).setCell ⟨gr,1,none⟩ v1).setCell ⟨gr,2,none⟩ (.int .i64 z)) w.heap.size (fun k_=>(w.heap.size≤k_)) v1 ts ∧
  ZI w0 (((w1.setCell ⟨gr,0,none⟩ v0).setCell ⟨gr,1,none⟩ v1).setCell ⟨gr,2,none⟩ (.int .i64 z)) g b i o ∧
  Below w0.heap.size w0 (((w1.setCell ⟨gr,0,none⟩ v0).setCell ⟨gr,1,none⟩ v1).setCell ⟨gr,2,none⟩ (.int .i64 z)) ∧
  ZS w (((w1.setCell ⟨gr,0,none⟩ v0).setCell ⟨gr,1,none⟩ v1).setCell ⟨gr,2,none⟩ (.int .i64 z)) g none:=by
 have h1:=ZS.blk kp hr ne (by simp)
 have lt:=ZN hr
 have P0:=ZR (cs:=#[c0,c1,c2]) h1 0 v0 rfl
 have P1:=ZR (cs:=#[v0,c1,c2]) P0 1 v1 rfl
 have P2:=ZR (cs:=#[v0,v1,c2]) P1 2 (.int .i64 z) rfl
 have A:∀k,W.heap.size≤k→k≠gr:=fun k hk=>by omega
 have L:∀k,W.heap.size≤k→w.heap.size≤k:=fun k hk=>Nat.le_trans kW.1 hk
 refine⟨P2,?_,?_,((cu.far (p:=⟨gr,0,none⟩) ne.symm _).far (p:=⟨gr,1,none⟩) ne.symm _).far (p:=⟨gr,2,none⟩) ne.symm _,Zt (Zt (Zt hb (Nat.le_trans hw gw)) (Nat.le_trans hw gw)) (Nat.le_trans hw gw),Zer (Zer (Zer (kW.trans kp (.inl rfl)) gw _) gw _) gw _⟩
 ·exact Kd.N_lower (Kd.N_mono (Kd.N_far (p:=⟨gr,2,none⟩) (Kd.N_far (p:=⟨gr,1,none⟩) (Kd.N_far (p:=⟨gr,0,none⟩) hn (fun k hk=>A k hk.1) _) (fun k hk=>A k hk.1) _) (fun k hk=>A k hk.1) _) (fun k hk=>⟨L k hk.1,hk.2⟩)) kW.1
 ·exact Kd.R_lower (Kd.R_mono (Kd.R_far (p:=⟨gr,2,none⟩) (Kd.R_far (p:=⟨gr,1,none⟩) (Kd.R_far (p:=⟨gr,0,none⟩) ht (fun k hk=>A k hk) _) (fun k hk=>A k hk) _) (fun k hk=>A k hk) _) (fun k hk=>L k hk)) kW.1
end
end Go.Proofs.YtoeimopgoaffcaaGreatDoor.Pr
