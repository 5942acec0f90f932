/- The texts of one claim, put together by a program of this session. -/
import Derived.Test.YthphnhmabieflaaDoorProg
import Derived.Below
import Derived.Deep.Draws
import Derived.Deep.AppendLies
import Derived.Maps.AppendAt
import Derived.OwnWalk
import Derived.Laws.BytesArg
import Derived.Laws.MakeOwn
import Derived.Laws.OwnMore
import Derived.Deep.OwnRows
import Derived.Tactics
import Derived.Lib.ConvBytes
import Derived.Laws.Slices
import Derived.WalkKit
import Derived.KernelRfl
import Derived.RowKit3
import Derived.Deep.LoopGhost
import Derived.Deep.QuietTactic
import Derived.BigQuiet
import Derived.WideLaws
import Derived.Deep.DeepCutAuto
import Derived.Deep.CutBlock
import Derived.Deep.RegionHeld3
import Derived.Laws.Rows
import Derived.Lib.AppendStr
import Derived.ArgAppend
import Derived.Laws.IdiomCopy
import Derived.OrdersHeld
import Derived.Laws.BitsLemmas
import Derived.RowKit
import Derived.ChangeArms
import Derived.ChangeSlices
import Derived.WideShapes
import Derived.Deep.Slices
import Derived.Lib.AppendIntMem
import Derived.Shelf.Strings.OnBuilder
import Derived.Shelf.Small.Strs
import Derived.Shelf.LaysM
import Derived.Shelf.Strconv.Itoa3
import Derived.Test.YthphnhmabieflaaDoorBFl0
namespace Go.Proofs.YthphnhmabieflaaDoor.Pr
open Go.RowKit Go.Proofs.YthphnhmabieflaaDoorW.PrintWords Go.Proofs.YthphnhmabieflaaDoorW.PrintLast Go.Proofs.YthphnhmabieflaaDoorW.PrintMore
attribute [local go_sem] Z4 Z2 Zaf Zae ZY ZX Z3 Z1
set_option linter.unusedVariables false
set_option linter.unusedSimpArgs false
def errW:Option Int→Value
 | none=>.nilIface
 | some c=>.iface 137 (.int .i64 c)
theorem Zu:errW none=.nilIface:=rfl
theorem Zt (c:Int):errW (some c)=.iface 137 (.int .i64 c):=rfl
theorem info3:(Tryd.prog.info? 3).map (fun i=>(i.zero,i.size,i.bytes))=some (some (.int .i64 0),1,8):=by kernel_rfl
theorem info9:(Tryd.prog.info? 9).map (fun i=>(i.zero,i.size,i.bytes))=some (some (.string ⟨#[]⟩),1,16):=by kernel_rfl
theorem info66:(Tryd.prog.info? 66).map (fun i=>(i.zero,i.size,i.bytes))=some (some (.agg #[(.int .i64 0),(.int .i64 0),(.int .i64 0),(.int .i64 0),(.bool false)]),5,40):=by kernel_rfl
theorem info73:(Tryd.prog.info? 73).map (fun i=>(i.zero,i.size,i.bytes))=some (some (.agg #[(.string ⟨#[]⟩),(.slice none 0 0),(.int .i64 0)]),3,48):=by kernel_rfl
def rd_L3 (xs:List (List Int)) (i:Int):(List Int):=xs.getD i.toNat ([]:List Int)
structure S89 where
 f0:ByteArray
 f1:(List Int)
 f2:Int
def z89:S89:=⟨(⟨#[]⟩:ByteArray),([]:List Int),(0:Int)⟩
def k89:Kd S89:=Kd.iso (Kd.pair Kd.string (Kd.pair (Kd.slice 3 (Kd.int .i64)) (Kd.int .i64))) (fun x:S89=>(x.f0,x.f1,x.f2))
theorem k89_open {w:World} {x:S89} {cs:List Value} (h:k89.K w x cs):∃A1 c1,cs=[.string x.f0,.slice A1 x.f1.length c1,.int .i64 x.f2]∧x.f1.length≤c1∧(Kd.int .i64).C w A1 x.f1.length x.f1:=by
 obtain⟨_,_,rfl,rfl,⟨_,_,rfl,⟨A1,c1,rfl,l1,g1⟩,rfl⟩⟩:=h
 exact⟨A1,c1,rfl,l1,g1⟩
def ZaL (xs:List S89) (i:Int):S89:=xs.getD i.toNat z89
theorem at_T89 {w:World} {A:Option Addr} {n:Nat} {xs:List S89} (h:Kd.C k89 w A n xs) (i:Int) (h0:0≤i) (h1:i<n):∃ad A1 c1,A=some ad∧w.cell? (ad.add (i.toNat * 3))=some (.string (ZaL xs i).f0)∧w.cell? ⟨(ad.add (i.toNat * 3)).block,(ad.add (i.toNat * 3)).off+1,none⟩=some (.slice A1 (ZaL xs i).f1.length c1)∧w.cell? ⟨(ad.add (i.toNat * 3)).block,(ad.add (i.toNat * 3)).off+2,none⟩=some (.int .i64 (ZaL xs i).f2)∧(ZaL xs i).f1.length≤c1∧(Kd.int .i64).C w A1 (ZaL xs i).f1.length (ZaL xs i).f1:=by
 obtain⟨ad,c,e,_,hK,hc0⟩:=Kd.C_get h z89 i h0 h1
 have hc:∀j u,c[j]? = some u→w.cell? (ad.add (i.toNat * 3+j))=some u:=hc0
 obtain⟨A1,c1,rfl,l1,g1⟩:=k89_open hK
 exact⟨ad,A1,c1,e,hc 0 _ rfl,by rw[← ZL _ _ 1 (by omega)];exact hc 1 _ rfl,by rw[← ZL _ _ 2 (by omega)];exact hc 2 _ rfl,l1,g1⟩
structure S93 where
 f0:Int
 f1:Int
 f2:Int
 f3:Int
 f4:Bool
def z93:S93:=⟨(0:Int),(0:Int),(0:Int),(0:Int),false⟩
def k93:Kd S93:=Kd.iso (Kd.pair (Kd.int .i64) (Kd.pair (Kd.int .i64) (Kd.pair (Kd.int .i64) (Kd.pair (Kd.int .i64) Kd.bool)))) (fun x:S93=>(x.f0,x.f1,x.f2,x.f3,x.f4))
theorem k93_open {w:World} {x:S93} {cs:List Value} (h:k93.K w x cs):cs=[.int .i64 x.f0,.int .i64 x.f1,.int .i64 x.f2,.int .i64 x.f3,.bool x.f4]:=by
 obtain⟨_,_,rfl,rfl,⟨_,_,rfl,rfl,⟨_,_,rfl,rfl,⟨_,_,rfl,rfl,rfl⟩⟩⟩⟩:=h
 exact rfl
def rd_T93 (xs:List S93) (i:Int):S93:=xs.getD i.toNat z93
theorem at_T93 {w:World} {A:Option Addr} {n:Nat} {xs:List S93} (h:Kd.C k93 w A n xs) (i:Int) (h0:0≤i) (h1:i<n):∃ad ,A=some ad∧w.cell? (ad.add (i.toNat * 5))=some (.int .i64 (rd_T93 xs i).f0)∧w.cell? ⟨(ad.add (i.toNat * 5)).block,(ad.add (i.toNat * 5)).off+1,none⟩=some (.int .i64 (rd_T93 xs i).f1)∧w.cell? ⟨(ad.add (i.toNat * 5)).block,(ad.add (i.toNat * 5)).off+2,none⟩=some (.int .i64 (rd_T93 xs i).f2)∧w.cell? ⟨(ad.add (i.toNat * 5)).block,(ad.add (i.toNat * 5)).off+3,none⟩=some (.int .i64 (rd_T93 xs i).f3)∧w.cell? ⟨(ad.add (i.toNat * 5)).block,(ad.add (i.toNat * 5)).off+4,none⟩=some (.bool (rd_T93 xs i).f4):=by
 obtain⟨ad,c,e,_,hK,hc0⟩:=Kd.C_get h z93 i h0 h1
 have hc:∀j u,c[j]? = some u→w.cell? (ad.add (i.toNat * 5+j))=some u:=hc0
 obtain rfl:=k93_open hK
 exact⟨ad,e,hc 0 _ rfl,by rw[← ZL _ _ 1 (by omega)];exact hc 1 _ rfl,by rw[← ZL _ _ 2 (by omega)];exact hc 2 _ rfl,by rw[← ZL _ _ 3 (by omega)];exact hc 3 _ rfl,by rw[← ZL _ _ 4 (by omega)];exact hc 4 _ rfl⟩
structure S73 where
 f0:ByteArray
 f1:(List Int)
 f2:Int
def z73:S73:=⟨(⟨#[]⟩:ByteArray),([]:List Int),(0:Int)⟩
def k73:Kd S73:=Kd.iso (Kd.pair Kd.string (Kd.pair (Kd.slice 3 (Kd.int .i64)) (Kd.int .i64))) (fun x:S73=>(x.f0,x.f1,x.f2))
theorem k73_open {w:World} {x:S73} {cs:List Value} (h:k73.K w x cs):∃A1 c1,cs=[.string x.f0,.slice A1 x.f1.length c1,.int .i64 x.f2]∧x.f1.length≤c1∧(Kd.int .i64).C w A1 x.f1.length x.f1:=by
 obtain⟨_,_,rfl,rfl,⟨_,_,rfl,⟨A1,c1,rfl,l1,g1⟩,rfl⟩⟩:=h
 exact⟨A1,c1,rfl,l1,g1⟩
theorem k73_openM {w:World} {base:Nat} {ok:Nat→Prop} {x:S73} {cs:List Value} (h:k73.M w base ok x cs):∃v1,cs=[.string x.f0,v1,.int .i64 x.f2]∧(Kd.int .i64).R 3 w base ok v1 x.f1:=by
 obtain⟨_,_,rfl,rfl,⟨_,_,rfl,⟨v1,rfl,g1⟩,rfl⟩⟩:=h
 exact⟨v1,rfl,g1⟩
theorem k73_mkM (w:World) (base:Nat) (ok:Nat→Prop) (x:S73) {v1:Value} (g1:(Kd.int .i64).R 3 w base ok v1 x.f1):k73.M w base ok x [.string x.f0,v1,.int .i64 x.f2]:=⟨[.string x.f0],[v1,.int .i64 x.f2],rfl,rfl,⟨[v1],[.int .i64 x.f2],rfl,⟨v1,rfl,g1⟩,rfl⟩⟩
def ZaM (xs:List S73) (i:Int):S73:=xs.getD i.toNat z73
theorem at_T73 {w:World} {A:Option Addr} {n:Nat} {xs:List S73} (h:Kd.C k73 w A n xs) (i:Int) (h0:0≤i) (h1:i<n):∃ad A1 c1,A=some ad∧w.cell? (ad.add (i.toNat * 3))=some (.string (ZaM xs i).f0)∧w.cell? ⟨(ad.add (i.toNat * 3)).block,(ad.add (i.toNat * 3)).off+1,none⟩=some (.slice A1 (ZaM xs i).f1.length c1)∧w.cell? ⟨(ad.add (i.toNat * 3)).block,(ad.add (i.toNat * 3)).off+2,none⟩=some (.int .i64 (ZaM xs i).f2)∧(ZaM xs i).f1.length≤c1∧(Kd.int .i64).C w A1 (ZaM xs i).f1.length (ZaM xs i).f1:=by
 obtain⟨ad,c,e,_,hK,hc0⟩:=Kd.C_get h z73 i h0 h1
 have hc:∀j u,c[j]? = some u→w.cell? (ad.add (i.toNat * 3+j))=some u:=hc0
 obtain⟨A1,c1,rfl,l1,g1⟩:=k73_open hK
 exact⟨ad,A1,c1,e,hc 0 _ rfl,by rw[← ZL _ _ 1 (by omega)];exact hc 1 _ rfl,by rw[← ZL _ _ 2 (by omega)];exact hc 2 _ rfl,l1,g1⟩
structure S66 where
 f0:Int
 f1:Int
 f2:Int
 f3:Int
 f4:Bool
def z66:S66:=⟨(0:Int),(0:Int),(0:Int),(0:Int),false⟩
def k66:Kd S66:=Kd.iso (Kd.pair (Kd.int .i64) (Kd.pair (Kd.int .i64) (Kd.pair (Kd.int .i64) (Kd.pair (Kd.int .i64) Kd.bool)))) (fun x:S66=>(x.f0,x.f1,x.f2,x.f3,x.f4))
theorem k66_open {w:World} {x:S66} {cs:List Value} (h:k66.K w x cs):cs=[.int .i64 x.f0,.int .i64 x.f1,.int .i64 x.f2,.int .i64 x.f3,.bool x.f4]:=by
 obtain⟨_,_,rfl,rfl,⟨_,_,rfl,rfl,⟨_,_,rfl,rfl,⟨_,_,rfl,rfl,rfl⟩⟩⟩⟩:=h
 exact rfl
theorem k66_openM {w:World} {base:Nat} {ok:Nat→Prop} {x:S66} {cs:List Value} (h:k66.M w base ok x cs):cs=[.int .i64 x.f0,.int .i64 x.f1,.int .i64 x.f2,.int .i64 x.f3,.bool x.f4]:=by
 obtain⟨_,_,rfl,rfl,⟨_,_,rfl,rfl,⟨_,_,rfl,rfl,⟨_,_,rfl,rfl,rfl⟩⟩⟩⟩:=h
 exact rfl
theorem k66_mkM (w:World) (base:Nat) (ok:Nat→Prop) (x:S66)  : k66.M w base ok x [.int .i64 x.f0,.int .i64 x.f1,.int .i64 x.f2,.int .i64 x.f3,.bool x.f4]:=⟨[.int .i64 x.f0],[.int .i64 x.f1,.int .i64 x.f2,.int .i64 x.f3,.bool x.f4],rfl,rfl,⟨[.int .i64 x.f1],[.int .i64 x.f2,.int .i64 x.f3,.bool x.f4],rfl,rfl,⟨[.int .i64 x.f2],[.int .i64 x.f3,.bool x.f4],rfl,rfl,⟨[.int .i64 x.f3],[.bool x.f4],rfl,rfl,rfl⟩⟩⟩⟩
def rd_T66 (xs:List S66) (i:Int):S66:=xs.getD i.toNat z66
theorem at_T66 {w:World} {A:Option Addr} {n:Nat} {xs:List S66} (h:Kd.C k66 w A n xs) (i:Int) (h0:0≤i) (h1:i<n):∃ad ,A=some ad∧w.cell? (ad.add (i.toNat * 5))=some (.int .i64 (rd_T66 xs i).f0)∧w.cell? ⟨(ad.add (i.toNat * 5)).block,(ad.add (i.toNat * 5)).off+1,none⟩=some (.int .i64 (rd_T66 xs i).f1)∧w.cell? ⟨(ad.add (i.toNat * 5)).block,(ad.add (i.toNat * 5)).off+2,none⟩=some (.int .i64 (rd_T66 xs i).f2)∧w.cell? ⟨(ad.add (i.toNat * 5)).block,(ad.add (i.toNat * 5)).off+3,none⟩=some (.int .i64 (rd_T66 xs i).f3)∧w.cell? ⟨(ad.add (i.toNat * 5)).block,(ad.add (i.toNat * 5)).off+4,none⟩=some (.bool (rd_T66 xs i).f4):=by
 obtain⟨ad,c,e,_,hK,hc0⟩:=Kd.C_get h z66 i h0 h1
 have hc:∀j u,c[j]? = some u→w.cell? (ad.add (i.toNat * 5+j))=some u:=hc0
 obtain rfl:=k66_open hK
 exact⟨ad,e,hc 0 _ rfl,by rw[← ZL _ _ 1 (by omega)];exact hc 1 _ rfl,by rw[← ZL _ _ 2 (by omega)];exact hc 2 _ rfl,by rw[← ZL _ _ 3 (by omega)];exact hc 3 _ rfl,by rw[← ZL _ _ 4 (by omega)];exact hc 4 _ rfl⟩
def rd_L9 (xs:List (List S73)) (i:Int):(List S73):=xs.getD i.toNat ([]:List S73)
def rd_L10 (xs:List (List S66)) (i:Int):(List S66):=xs.getD i.toNat ([]:List S66)
structure S36 where
 f0:(List S73)
 f1:(List S66)
 f2:Int
def z36:S36:=⟨([]:List S73),([]:List S66),(0:Int)⟩
def k36:Kd S36:=Kd.iso (Kd.pair (Kd.slice 73 k73) (Kd.pair (Kd.slice 66 k66) (Kd.int .i64))) (fun x:S36=>(x.f0,x.f1,x.f2))
def rd_T36 (xs:List S36) (i:Int):S36:=xs.getD i.toNat z36
def rd_L12 (xs:List (List S89)) (i:Int):(List S89):=xs.getD i.toNat ([]:List S89)
def rd_L13 (xs:List (List S93)) (i:Int):(List S93):=xs.getD i.toNat ([]:List S93)
structure S30 where
 f0:(List S89)
 f1:(List S93)
 f2:Int
def z30:S30:=⟨([]:List S89),([]:List S93),(0:Int)⟩
def k30:Kd S30:=Kd.iso (Kd.pair (Kd.slice 89 k89) (Kd.pair (Kd.slice 93 k93) (Kd.int .i64))) (fun x:S30=>(x.f0,x.f1,x.f2))
theorem k30_open {w:World} {x:S30} {cs:List Value} (h:k30.K w x cs):∃A0 c0 A1 c1,cs=[.slice A0 x.f0.length c0,.slice A1 x.f1.length c1,.int .i64 x.f2]∧x.f0.length≤c0∧k89.C w A0 x.f0.length x.f0∧x.f1.length≤c1∧k93.C w A1 x.f1.length x.f1:=by
 obtain⟨_,_,rfl,⟨A0,c0,rfl,l0,g0⟩,⟨_,_,rfl,⟨A1,c1,rfl,l1,g1⟩,rfl⟩⟩:=h
 exact⟨A0,c0,A1,c1,rfl,l0,g0,l1,g1⟩
def rd_T30 (xs:List S30) (i:Int):S30:=xs.getD i.toNat z30
end Go.Proofs.YthphnhmabieflaaDoor.Pr
namespace Go.Proofs.YthphnhmabieflaaDoor.Op
open Go.RowKit Go.ChangeShapes Go.WideShapes Go.Proofs.YthphnhmabieflaaDoorW.PrintWords
structure ZH {α:Type} (P:Program) (d:Kd α) (t:TypeId) (ok:α→Prop):Prop where
 cells:P.cellsOf t=d.sz
 op:∀{H:Type} {enc:TypeId×Value→H} {w:World} {base fuel:Nat} {cs:List Value} {x:DataW H×List MemPlace},DataW.trod enc P w base (fun _=>true) true fuel t cs=some x→∃y,d.K w y cs∧ok y
theorem ZH.int {P:Program} {t:TypeId} {k:IntKind} (ht:P.underlying t=some (.int k)) (hc:P.cellsOf t=1):ZH P (Kd.int k) t (fun n=>(Lit.int k n).wf=true):=
 ⟨hc,fun h=>by
  obtain⟨n,rfl,_,hw⟩:=DataW.trod_int ht h
  exact⟨n,rfl,hw⟩⟩
theorem ZH.bool {P:Program} {t:TypeId} (ht:P.underlying t=some .bool) (hc:P.cellsOf t=1):ZH P Kd.bool t (fun _=>True):=
 ⟨hc,fun h=>by
  obtain⟨n,rfl,_⟩:=DataW.trod_bool ht h
  exact⟨n,rfl,trivial⟩⟩
theorem ZH.string {P:Program} {t:TypeId} (ht:P.underlying t=some .string) (hc:P.cellsOf t=1):ZH P Kd.string t (fun s=>s.size≤maxLen):=
 ⟨hc,fun h=>by
  obtain⟨n,rfl,_,hw⟩:=DataW.trod_string ht h
  exact⟨n,rfl,hw⟩⟩
theorem choose_list {β:Type} (Q:Nat→β→Prop) (n:Nat) (h:∀i,i<n→∃y,Q i y):∃l:List β,l.length=n∧∀i y,l[i]? = some y→Q i y:=by
 induction n with
 | zero=>exact⟨[],rfl,fun i y h=>by simp at h⟩
 | succ n ih=>
  obtain⟨l,hl,hq⟩:=ih (fun i hi=>h i (by omega))
  obtain⟨y,hy⟩:=h n (by omega)
  refine⟨l ++ [y],by simp[hl],fun i z hz=>?_⟩
  rcases Nat.lt_or_ge i l.length with hi|hi
  ·rw[List.getElem?_append_left hi] at hz
   exact hq i z hz
  ·have hlt:=(List.getElem?_eq_some_iff.1 hz).1
   rw[List.length_append,List.length_singleton] at hlt
   have e:i=l.length:=by omega
   subst e
   have hz':y=z:=by simpa using hz
   subst hz'
   rw[hl]
   exact hy
theorem ZH.slice {α:Type} {P:Program} {d:Kd α} {t e:TypeId} {ok:α→Prop} (he:ZH P d e ok) (ht:P.underlying t=some (.slice e)) (hc:P.cellsOf t=1) :
  ZH P (Kd.slice e d) t (fun l=>l.length≤maxLen∧∀x∈l,ok x):=
 ⟨hc,fun {H enc w base fuel cs x} h=>by
  rcases DataW.trod_slice ht h with ⟨rfl,_⟩|⟨a,len,cap,elems,rest,n,_,rfl,_,hb,hl,hm,hlen,hel,_,_⟩
  ·exact⟨[],⟨none,0,rfl,Nat.le_refl _,rfl,by simp,fun h0=>absurd h0 (by simp)⟩,by simp⟩
  ·have key:∀i,i<len→∃y,ok y∧∃c,c.length=d.sz∧d.K w y c∧∀j u,c[j]? = some u→w.cell? (a.add (i * d.sz+j))=some u:=by
    intro i hi
    have hi':=hel i hi
    rw[Zj (by omega),Option.bind_eq_some_iff] at hi'
    obtain⟨cs',h1,h2⟩:=hi'
    obtain⟨y,hk,hy⟩:=he.op h2
    refine⟨y,hy,cs',d.K_len hk,hk,fun j u hu=>?_⟩
    have:=(World.cells?_some h1).2.2 j (by
     have:=(List.getElem?_eq_some_iff.1 hu).1
     rw[d.K_len hk] at this
     rw[he.cells];exact this)
    rw[he.cells] at this
    rw[Addr.add_add] at this
    rw[this,hu]
   obtain⟨l,hll,hq⟩:=choose_list _ len key
   refine⟨l,⟨some a,cap,by rw[hll],by omega,rfl,by rw[hll];simp only[maxLen] at hm;omega,fun h0=>⟨a,rfl,fun j p hj=>?_⟩⟩,by omega,fun x hx=>?_⟩
   ·obtain⟨_,hc'⟩:=hq j p hj
    exact hc'
   ·obtain⟨i,hi⟩:=List.getElem?_of_mem hx
    exact(hq i x hi).1⟩
theorem Zad {α β:Type} {a:Kd α} {b:Kd β} {w:World} {x:α} {y:β} {cs:List Value} {off:Nat} (h0:a.K w x ((cs.drop off).take a.sz)) (h1:b.K w y ((cs.drop (off+a.sz)).take b.sz)) :
  (Kd.pair a b).K w (x,y) ((cs.drop off).take (Kd.pair a b).sz):=
 ⟨_,_,by show(cs.drop off).take (a.sz+b.sz)=_;rw[List.take_add,List.drop_drop],h0,h1⟩
theorem ZH.fieldAt {α:Type} {P:Program} {d:Kd α} {t:TypeId} {ok:α→Prop} (ho:ZH P d t ok) {H:Type} {enc:TypeId×Value→H} {w:World} {base fuel off:Nat} {cs:List Value} {x:Option (DataW H×List MemPlace)}
  (h:DataW.trod enc P w base (fun _=>true) true fuel t ((cs.drop off).take (P.cellsOf t))=x) (hx:x.isSome=true):∃y,d.K w y ((cs.drop off).take d.sz)∧ok y:=by
 obtain⟨z,rfl⟩:=Option.isSome_iff_exists.1 hx
 obtain⟨y,hk,hy⟩:=ho.op h
 rw[ho.cells] at hk
 exact⟨y,hk,hy⟩
end Go.Proofs.YthphnhmabieflaaDoor.Op
namespace Go.Proofs.YthphnhmabieflaaDoor.Pr
open Go.RowKit Go.Proofs.YthphnhmabieflaaDoorW.PrintWords Go.Proofs.YthphnhmabieflaaDoorW.PrintLast Go.Proofs.YthphnhmabieflaaDoorW.PrintMore
attribute [local go_sem] Z4 Z2 Zaf Zae ZY ZX Z3 Z1
set_option linter.unusedVariables false
set_option linter.unusedSimpArgs false
open Go.Proofs.YthphnhmabieflaaDoor.Op Go.ChangeShapes Go.WideShapes
def okS89 (x:S89):Prop:=(fun s_:ByteArray=>s_.size≤maxLen) x.f0∧(fun l_:List Int=>l_.length≤maxLen∧∀x_∈l_,(fun n_:Int=>(Lit.int .i64 n_).wf=true) x_) x.f1∧(fun n_:Int=>(Lit.int .i64 n_).wf=true) x.f2
theorem op_k89:ZH Tryd.prog k89 89 okS89:=
 ⟨by kernel_rfl,fun {H enc w base fuel cs x} h=>by
  obtain⟨xs,n,_,_,hl,hlen,hf⟩:=DataW.trod_struct Tryd.underlying89 h
  have hl':cs.length=3:=hl.trans (by kernel_rfl)
  have hlen':xs.length=3:=hlen
  obtain⟨y0,h0,o0⟩:=(ZH.string Tryd.underlying9 (by kernel_rfl)).fieldAt (hf 0 _ rfl) (by rw[Zj (by omega)];rfl)
  obtain⟨y1,h1,o1⟩:=(ZH.slice (ZH.int Tryd.underlying3 (by kernel_rfl)) Tryd.underlying22 (by kernel_rfl)).fieldAt (hf 1 _ rfl) (by rw[Zj (by omega)];rfl)
  obtain⟨y2,h2,o2⟩:=(ZH.int Tryd.underlying3 (by kernel_rfl)).fieldAt (hf 2 _ rfl) (by rw[Zj (by omega)];rfl)
  have hk:k89.K w ⟨y0,y1,y2⟩ ((cs.drop 0).take k89.sz):=(Zad (off:=0) h0 (Zad (off:=1) h1 h2))
  have hcs:(cs.drop 0).take k89.sz=cs:=by rw[List.drop_zero];exact List.take_of_length_le (by rw[hl'];exact Nat.le_refl _)
  rw[hcs] at hk
  exact⟨_,hk,o0,o1,o2⟩⟩
def okS93 (x:S93):Prop:=(fun n_:Int=>(Lit.int .i64 n_).wf=true) x.f0∧(fun n_:Int=>(Lit.int .i64 n_).wf=true) x.f1∧(fun n_:Int=>(Lit.int .i64 n_).wf=true) x.f2∧(fun n_:Int=>(Lit.int .i64 n_).wf=true) x.f3∧(fun _:Bool=>True) x.f4
theorem op_k93:ZH Tryd.prog k93 93 okS93:=
 ⟨by kernel_rfl,fun {H enc w base fuel cs x} h=>by
  obtain⟨xs,n,_,_,hl,hlen,hf⟩:=DataW.trod_struct Tryd.underlying93 h
  have hl':cs.length=5:=hl.trans (by kernel_rfl)
  have hlen':xs.length=5:=hlen
  obtain⟨y0,h0,o0⟩:=(ZH.int Tryd.underlying3 (by kernel_rfl)).fieldAt (hf 0 _ rfl) (by rw[Zj (by omega)];rfl)
  obtain⟨y1,h1,o1⟩:=(ZH.int Tryd.underlying3 (by kernel_rfl)).fieldAt (hf 1 _ rfl) (by rw[Zj (by omega)];rfl)
  obtain⟨y2,h2,o2⟩:=(ZH.int Tryd.underlying3 (by kernel_rfl)).fieldAt (hf 2 _ rfl) (by rw[Zj (by omega)];rfl)
  obtain⟨y3,h3,o3⟩:=(ZH.int Tryd.underlying3 (by kernel_rfl)).fieldAt (hf 3 _ rfl) (by rw[Zj (by omega)];rfl)
  obtain⟨y4,h4,o4⟩:=(ZH.bool Tryd.underlying4 (by kernel_rfl)).fieldAt (hf 4 _ rfl) (by rw[Zj (by omega)];rfl)
  have hk:k93.K w ⟨y0,y1,y2,y3,y4⟩ ((cs.drop 0).take k93.sz):=(Zad (off:=0) h0 (Zad (off:=1) h1 (Zad (off:=2) h2 (Zad (off:=3) h3 h4))))
  have hcs:(cs.drop 0).take k93.sz=cs:=by rw[List.drop_zero];exact List.take_of_length_le (by rw[hl'];exact Nat.le_refl _)
  rw[hcs] at hk
  exact⟨_,hk,o0,o1,o2,o3,o4⟩⟩
def okS30 (x:S30):Prop:=(fun l_:List (S89)=>l_.length≤maxLen∧∀x_∈l_,okS89 x_) x.f0∧(fun l_:List (S93)=>l_.length≤maxLen∧∀x_∈l_,okS93 x_) x.f1∧(fun n_:Int=>(Lit.int .i64 n_).wf=true) x.f2
theorem op_k30:ZH Tryd.prog k30 30 okS30:=
 ⟨by kernel_rfl,fun {H enc w base fuel cs x} h=>by
  obtain⟨xs,n,_,_,hl,hlen,hf⟩:=DataW.trod_struct Tryd.underlying30 h
  have hl':cs.length=3:=hl.trans (by kernel_rfl)
  have hlen':xs.length=3:=hlen
  obtain⟨y0,h0,o0⟩:=(ZH.slice op_k89 Tryd.underlying27 (by kernel_rfl)).fieldAt (hf 0 _ rfl) (by rw[Zj (by omega)];rfl)
  obtain⟨y1,h1,o1⟩:=(ZH.slice op_k93 Tryd.underlying28 (by kernel_rfl)).fieldAt (hf 1 _ rfl) (by rw[Zj (by omega)];rfl)
  obtain⟨y2,h2,o2⟩:=(ZH.int Tryd.underlying3 (by kernel_rfl)).fieldAt (hf 2 _ rfl) (by rw[Zj (by omega)];rfl)
  have hk:k30.K w ⟨y0,y1,y2⟩ ((cs.drop 0).take k30.sz):=(Zad (off:=0) h0 (Zad (off:=1) h1 h2))
  have hcs:(cs.drop 0).take k30.sz=cs:=by rw[List.drop_zero];exact List.take_of_length_le (by rw[hl'];exact Nat.le_refl _)
  rw[hcs] at hk
  exact⟨_,hk,o0,o1,o2⟩⟩
end Go.Proofs.YthphnhmabieflaaDoor.Pr
namespace Go.Proofs.YthphnhmabieflaaDoor.Ni
open Go.RowKit Go.Proofs.YthphnhmabieflaaDoorW.PrintWords
theorem kcell {w W:World} (hb:Below w.heap.size w W) {a:Addr} {v:Value} (h:w.cell? a=some v):W.cell? a=some v:=(hb.cell (Zb w _ h)).trans h
theorem wrap_succ {i:Int} (h0:0≤i) (h:i<9223372036854775807):wrap64 (i+1)=i+1:=by
 unfold wrap64;omega
theorem Z7 {i:Int} (h0 : -9223372036854775808≤i) (h:i≤9223372036854775807):wrap64 i=i:=by
 unfold wrap64;omega
theorem Zaa {i n:Nat} (h:i<n) (hn:n≤9223372036854775807):wrap64 ((i:Int)+1)=((i+1:Nat):Int):=by
 unfold wrap64;omega
theorem wrap_pred {i:Nat} (h:0<i) (hn:i≤9223372036854775807):wrap64 ((i:Int) - 1)=((i - 1:Nat):Int):=by
 unfold wrap64;omega
theorem wf_i64 {n:Int} (h:(Lit.int .i64 n).wf=true) : -9223372036854775808≤n∧n≤9223372036854775807:=by
 simp[Lit.wf,IntKind.min,IntKind.max,IntKind.signed,IntKind.bits] at h
 omega
theorem Zah (l:List Int) (i:Nat):rd l (i:Int)=l.getD i 0:=by unfold rd;rw[Int.toNat_natCast]
theorem Z5 {α:Type} {l:List α} {i:Nat} (h:i<l.length) (d:α):l.drop i=l.getD i d :: l.drop (i+1):=by
 rw[List.drop_eq_getElem_cons h,List.getD_eq_getElem?_getD,Zj h];rfl
theorem getD_mem {α:Type} {l:List α} {i:Nat} (h:i<l.length) (d:α):l.getD i d∈l:=by
 rw[List.getD_eq_getElem?_getD,Zj h];exact List.getElem_mem h
theorem getD_some {α:Type} {l:List α} {i:Nat} (h:i<l.length) (d:α):l[i]? = some (l.getD i d):=by
 rw[List.getD_eq_getElem?_getD,Zj h];rfl
theorem set_step {α:Type} (ys:List α) (z d:α) (i:Nat) (h:i<ys.length) (x:α) (hx:x=ys.getD i d):(ys.take i ++ List.replicate (ys.length - i) z).set i x=ys.take (i+1) ++ List.replicate (ys.length - (i+1)) z:=by
 subst hx
 have e:ys.length - i=(ys.length - (i+1))+1:=by omega
 rw[e,List.replicate_succ,List.set_append_right _ _ (by simp;omega)]
 have e2:i - (ys.take i).length=0:=by simp;omega
 rw[e2,List.set_cons_zero,List.take_succ_eq_append_getElem h,List.append_assoc]
 congr 2
 simp[List.getD_eq_getElem?_getD,Zj h]
theorem Zak (n:Nat) (Q:Nat→Nat→Prop) (K:Nat) (hend:∀k,K≤k→Q (k+1) n) (hstep:∀k i,K≤k→i<n→Q k (i+1)→Q (k+1) i):∀(i k:Nat),i≤n→K+(n - i)<k→Q k i:=by
 have key:∀(d i k:Nat),i≤n→n - i=d→K+d<k→Q k i:=by
  intro d
  induction d with
  | zero=>
   intro i k hi hd hk
   obtain⟨m,rfl⟩:∃m,k=m+1:=⟨k - 1,by omega⟩
   obtain rfl:i=n:=by omega
   exact hend m (by omega)
  | succ d ih=>
   intro i k hi hd hk
   obtain⟨m,rfl⟩:∃m,k=m+1:=⟨k - 1,by omega⟩
   exact hstep m i (by omega) (by omega) (ih (i+1) m (by omega) (by omega) (by omega))
 intro i k hi hk
 exact key (n - i) i k hi rfl hk
theorem set_mid (pre:List Int) (x y:Int) (post:List Int):(pre ++ x :: post).set pre.length y=pre ++ y :: post:=by
 rw[List.set_append_right _ _ (Nat.le_refl _),Nat.sub_self,List.set_cons_zero]
def Zau {α:Type} (p:α→Bool) (l:List α):Int:=match l.findIdx? p with|some i=>i|none=>-1
theorem idxOf_hit {α:Type} (p:α→Bool) (l:List α) (k:Nat) (x:α) (hk:l[k]? = some x) (hx:p x=true) (hb:∀j y,j<k→l[j]? = some y→p y=false):Zau p l=(k:Int):=by
 have h:l.findIdx? p=some k:=by
  rw[List.findIdx?_eq_some_iff_getElem]
  obtain⟨hl,he⟩:=List.getElem?_eq_some_iff.1 hk
  refine⟨hl,by rw[he];exact hx,fun j hj=>?_⟩
  have:=hb j _ hj (Zj (by omega))
  simp[this]
 simp[Zau,h]
theorem idxOf_miss {α:Type} (p:α→Bool) (l:List α) (hb:∀j y,j<l.length→l[j]? = some y→p y=false):Zau p l=-1:=by
 have h:l.findIdx? p=none:=by
  rw[List.findIdx?_eq_none_iff]
  intro x hx
  obtain⟨j,hj⟩:=List.getElem?_of_mem hx
  exact hb j x (List.getElem?_eq_some_iff.1 hj).1 hj
 simp[Zau,h]
theorem idxOf_any {α:Type} (p:α→Bool) (l:List α):decide (0≤Zau p l)=l.any p:=by
 unfold Zau
 cases h:l.findIdx? p with
 | some i=>
  rw[List.findIdx?_eq_some_iff_getElem] at h
  obtain⟨hl,hp,_⟩:=h
  have:l.any p=true:=List.any_eq_true.2 ⟨_,List.getElem_mem hl,hp⟩
  rw[this]
  exact Zd (Int.natCast_nonneg _)
 | none=>
  rw[List.findIdx?_eq_none_iff] at h
  have:l.any p=false:=by rw[List.any_eq_false];intro x hx;rw[h x hx];simp
  rw[this];rfl
theorem idxOf_bd {α:Type} (p:α→Bool) (l:List α) : -1≤Zau p l∧Zau p l<l.length:=by
 unfold Zau
 cases h:l.findIdx? p with
 | some i=>
  rw[List.findIdx?_eq_some_iff_getElem] at h
  obtain⟨hl,_⟩:=h
  simp only;omega
 | none=>simp only;omega
def cnt0 (l:List Int):Int:=((l.filter (· == 0)).length:Int)
def ZO (x:Int):Bool:=!(x == 0) && decide (-3≤x) && decide (x≤3)
def prp (x:Int):Int:=if x<0 then -x else x
def ZR (p:Int):List Int→Bool
 | []=>true
 | x :: t=>ZO x && decide (p<prp x) && ZR (prp x) t
def labB (l:List Int):Bool:=ZR 0 l
def valsB (l:List Int):Bool:=decide (l.length=3) && l.all (fun n=>decide (-1≤n) && decide (n≤1))
theorem ZT (x:Int):ZO x=true↔x≠0∧-3≤x∧x≤3:=by
 simp[ZO,and_assoc]
theorem Zav {x:Int} (h:ZO x=true):1≤prp x∧prp x≤3:=by
 have:=(ZT x).1 h
 unfold prp;split <;> omega
def stFrom (v:List Int) (a:Int):List Int→Int
 | []=>a
 | x :: t=>stFrom v (min a (if x<0 then -(v.getD (prp x - 1).toNat 0) else v.getD (prp x - 1).toNat 0)) t
def stB (l v:List Int):Int:=stFrom v 1 l
def isNameB (s:ByteArray):Bool:=decide (1≤s.size) && decide (s.size≤8) && (List.range s.size).all fun i=>let c:=bt s i;(decide (97≤c) && decide (c≤122)) || (decide (0<i) && decide (48≤c) && decide (c≤57))
end Go.Proofs.YthphnhmabieflaaDoor.Ni
namespace Go.Proofs.YthphnhmabieflaaDoor.Pr
open Go.RowKit Go.Proofs.YthphnhmabieflaaDoorW.PrintWords Go.Proofs.YthphnhmabieflaaDoorW.PrintLast Go.Proofs.YthphnhmabieflaaDoorW.PrintMore
attribute [local go_sem] Z4 Z2 Zaf Zae ZY ZX Z3 Z1
set_option linter.unusedVariables false
set_option linter.unusedSimpArgs false
def Zx.l0:Nat→List Int→List Int→Int→Option (List Int)
 | 0,_,_,_=>none
 | k+1,x0,x3,x4=>if x4<(x0.length:Int) then(if 0≤x4 then(if x4<(x3.length:Int) then(Zx.l0 k x0 (x3.set (x4:Int).toNat (rd x0 x4)) (wrap64 (x4+1))) else(none)) else(none)) else(some x3)
def Zx.f (k:Nat) (l0:List Int):Option (List Int):=if 0≤(l0.length:Int) then(if ((l0.length:Int):Int).toNat≤35184372088832 then(Zx.l0 k l0 (List.replicate ((l0.length:Int):Int).toNat 0) 0) else(none)) else(none)
set_option maxHeartbeats 8000000 in
set_option maxRecDepth 100000 in
theorem Zx.calls (k:Nat) (A0:Option Addr) (c0:Nat) (l0:List Int) (r:List Int) (w:World) (hr0:Kd.C (Kd.int .i64) w A0 l0.length l0) (hc0:l0.length≤c0) (h:Zx.f k l0=some r) :
  Calls Tryd.prog 10 #[.slice A0 l0.length c0] w fun e w'=>∃v0_:Value,e=.returned (v0_)∧Kd.R (Kd.int .i64) 3 w' w.heap.size (fun _=>True) v0_ r∧Below w.heap.size w w':=by
 have HR0:=Za hr0;have HC0:=Za hc0;clear hr0 hc0
 have HB:=Za (Below.refl w.heap.size w)
 have H:(if 0≤(l0.length:Int) then(if ((l0.length:Int):Int).toNat≤35184372088832 then(Zx.l0 k l0 (List.replicate ((l0.length:Int):Int).toNat 0) 0) else(none)) else(none))=some r:=h
 clear h
 by_cases c2:0≤(l0.length:Int)
 ·rw[if_pos c2] at H
  have c2b0:=eq_true c2
  have c2b1:decide (0≤(l0.length:Int))=true:=Zd c2
  clear c2
  by_cases c3:((l0.length:Int):Int).toNat≤35184372088832
  ·rw[if_pos c3] at H
   have c3b0:=eq_true c3
   have c3b1:decide (((l0.length:Int):Int).toNat≤35184372088832)=true:=Zd c3
   clear c3
   obtain⟨y10001,hy10001⟩:∃y_:List Int,y_=(List.replicate ((l0.length:Int):Int).toNat 0):=⟨_,rfl⟩
   replace H:(Zx.l0 k l0 y10001 0)=some r:=by first|(rw[hy10001];with_reducible exact H)|(have H2_:=(Zg _ _).symm.trans H;rw[hy10001];with_reducible exact H2_)|(have H2_:=(Zg _ _).symm.trans H;with_reducible exact H2_)|with_reducible exact H|(rw[hy10001];exact H)|exact H
   have Ny10001:=Za hy10001;clear hy10001
   have H':=Za H
   clear H
   go_enter Tryd.func10,Tryd.ntmps10
   go_wp2_with (first|((with_reducible refine Zab (N:=7) rfl ?_);refine Kd.R_make (Kd.int .i64) _ 3 rfl (N:=7) rfl 22 _ _ rfl (l0.length:Int) rfl rfl Tryd.underlying22 (.int .i64 0) 8 info3 rfl (by decide) (by omega) 0 (ok:=fun _=>True) (okp:=fun _=>True) rfl (fun _ hk=>hk) trivial (Zc (by first|(with_reducible assumption)|assumption)) (Nat.le_trans (Nat.mul_le_mul_right _ (Zc (by first|(with_reducible assumption)|assumption):(l0.length:Int).toNat≤35184372088832)) (by omega)) (Below.refl _ _) (Nat.le_refl _) ?_;intro v10002 w4 ho5 hb hg_ hnew_;clear hg_ hnew_;(first|rw[← Ny10001.out] at ho5|(simp only[Int.reduceToNat] at ho5;rw[← Ny10001.out] at ho5));have HO10003:=Za (Kd.R_lower ho5 (ZK (by repeat(first|(with_reducible first|exact HB.out|apply Zl|apply Zk|apply Zm)|exact HB.out))));replace HB:=Za (Zw (by repeat(first|(with_reducible first|exact HB.out|apply Zl|apply Zk|apply Zm)|exact HB.out)) hb);clear hb ho5))
   go_loopg [4] k (fun kq v4 w'=>∃(x3_1:List Int) (x4_1:Int),v4=.int .i64 x4_1∧Aside0 (Zx.l0 kq l0 x3_1 x4_1=some r)∧Aside0 (kq≤k)∧Aside0 (Kd.R (Kd.int .i64) 3 w' w.heap.size (fun _=>True) v10002 x3_1)∧Aside0 (Below w.heap.size w w'))
   case atStart=>exact⟨(y10001),(0),(by first|rfl|(simp;done)|(simp[*];done)),H',⟨Nat.le_refl _⟩,⟨by(with_reducible repeat(first|apply Kd.R_alloc|apply Kd.R_drewN|apply Kd.R_drew));exact HO10003.out⟩,⟨by repeat(first|(with_reducible first|exact HB.out|apply Zl|apply Zk|apply Zm)|exact HB.out)⟩⟩
   case round=>
    clear H'
    try clear c1
    try clear c2
    try clear c2b0
    try clear c2b1
    try clear p2
    try clear c3
    try clear c3b0
    try clear c3b1
    obtain⟨x3_1,x4_1,rfl,HA,HK1,HO_3,HB⟩:=hrel
    cases gk with
    | zero=>exact absurd HA.out (by simp[Zx.l0])
    | succ k1=>
     have H:=HA.out
     clear HA
     simp only[Zx.l0] at H
     by_cases c6:x4_1<(l0.length:Int)
     ·rw[if_pos c6] at H
      have c6b0:decide (x4_1<(l0.length:Int))=true:=Zd c6
      clear c6
      by_cases c7:0≤x4_1
      ·rw[if_pos c7] at H
       have c7b0:decide (0≤x4_1)=true:=Zd c7
       clear c7
       by_cases c8:x4_1<(x3_1.length:Int)
       ·rw[if_pos c8] at H
        have c8b0:decide (x4_1<(x3_1.length:Int))=true:=Zd c8
        clear c8
        obtain⟨y10005,hy10005⟩:∃y_:List Int,y_=(x3_1.set (x4_1:Int).toNat (rd l0 x4_1)):=⟨_,rfl⟩
        replace H:(Zx.l0 k1 l0 y10005 (wrap64 (x4_1+1)))=some r:=by first|(rw[hy10005];with_reducible exact H)|(have H2_:=(Zg _ _).symm.trans H;rw[hy10005];with_reducible exact H2_)|(have H2_:=(Zg _ _).symm.trans H;with_reducible exact H2_)|with_reducible exact H|(rw[hy10005];exact H)|exact H
        have Ny10005:=Za hy10005;clear hy10005
        have H':=Za H
        clear H
        have p10004:0≤(x4_1:Int):=Zc (by first|(with_reducible assumption)|assumption)
        have q10004:x4_1<(l0.length:Int):=Zc (by first|(with_reducible assumption)|assumption)
        obtain⟨ad10004,e10004,hx10004_0⟩:=Kd.at_int HR0.out x4_1 p10004 q10004
        cases e10004
        replace hx10004_0:=(HB.out.cell (Zb w _ hx10004_0)).trans hx10004_0
        replace p10004:=eq_true p10004
        replace q10004:=eq_true q10004
        have p9:0≤(x4_1:Int):=Zc (by first|(with_reducible assumption)|assumption)
        have q9:(x4_1:Int)<((x3_1.length:Int):Int):=Zc (by first|(with_reducible assumption)|assumption)
        obtain⟨go9,co9,eo9,gb9,gl9,cl9,HG9⟩:=Kd.R_form HO_3.out (by omega)
        (first|cases eo9|(injection eo9 with ea_ en_ ec_;(first|subst ea_|(injection ea_ with ea_;subst ea_));subst ec_;clear en_))
        have GB9:=Za gb9;have GG9:=Za HG9;clear gb9 gl9 HG9
        obtain⟨hx9_0,hf9_0⟩:=Kd.R_celln 0 HO_3.out (x4_1:Int) p9 q9
        replace p9:=eq_true p9
        replace q9:=eq_true q9
        have HP10:=Kd.R_putg HO_3.out (x4_1:Int) (rd l0 x4_1)
        go_wp2_with (first|((with_reducible refine gate_store (t:=3) (p:=20) rfl ?_);refine store_event (t:=3) (p:=20) (v:=?vo_w11) (w1:=(wr.setCell ⟨go9,(x4_1:Int).toNat,none⟩ (.int .i64 (rd l0 x4_1)))) ?hg ?ho ?hn ?hr ?_;(case ho=>rfl);(case hg=>rfl);(case hn=>rfl);(case hr=>first|(go_simp;done)|(go_simp;rfl));intro w11 hw;have hg:wr.grownBy w11 (some go9):=(by rw[hw];exact HP10.2);have hp_:Kd.R (Kd.int .i64) 3 w11 w.heap.size (fun _=>True) (.slice (some ⟨go9,0,none⟩) x3_1.length co9) y10005:=(by rw[hw,Ny10005.out];exact HP10.1);clear HP10;replace HO_3:=Za (hp_);replace HB:=Za ((by rw[hw];exact below_set (HB.out) GB9.out:Below w.heap.size w w11));clear hg hw hp_))
        go_roundg k1
        case measure=>have:=HK1.out;omega
        case rel=>exact⟨(y10005),(wrap64 (x4_1+1)),(by first|rfl|(simp;done)|(simp[*];done)),H',⟨by have:=HK1.out;omega⟩,⟨by(with_reducible repeat(first|apply Kd.R_alloc|apply Kd.R_drewN|apply Kd.R_drew));exact HO_3.out⟩,⟨by repeat(first|(with_reducible first|exact HB.out|apply Zl|apply Zk|apply Zm)|exact HB.out)⟩⟩
       ·rw[if_neg c8] at H
        exact absurd H (by simp)
      ·rw[if_neg c7] at H
       exact absurd H (by simp)
     ·rw[if_neg c6] at H
      have c6b0:decide (x4_1<(l0.length:Int))=false:=decide_eq_false c6
      clear c6
      obtain rfl:=Ze H
      go_wp2
      go_ret
      exact⟨_,by first|rfl|(simp[Zu,Zt] <;> rfl)|(simp[*,Zu,Zt] <;> rfl),by(with_reducible repeat(first|apply Kd.R_alloc|apply Kd.R_drewN|apply Kd.R_drew));exact HO_3.out,by repeat(first|(with_reducible first|exact HB.out|apply Zl|apply Zk|apply Zm)|exact HB.out)⟩
  ·rw[if_neg c3] at H
   exact absurd H (by simp)
 ·rw[if_neg c2] at H
  exact absurd H (by simp)
def ZB.l0:Nat→List Int→List Int→Int→Option (Bool)
 | 0,_,_,_=>none
 | k+1,x0,x1,x5=>if x5<(x0.length:Int) then(if 0≤x5 then(if x5<(x1.length:Int) then(if (rd x0 x5)=(rd x1 x5) then(ZB.l0 k x0 x1 (wrap64 (x5+1))) else(some false)) else(none)) else(none)) else(some true)
def ZB.f (k:Nat) (l0:List Int) (l1:List Int):Option (Bool):=if (l0.length:Int)=(l1.length:Int) then(ZB.l0 k l0 l1 0) else(some false)
set_option maxHeartbeats 8000000 in
set_option maxRecDepth 100000 in
theorem ZB.calls (k:Nat) (A0:Option Addr) (c0:Nat) (l0:List Int) (A1:Option Addr) (c1:Nat) (l1:List Int) (r:Bool) (w:World) (hr0:Kd.C (Kd.int .i64) w A0 l0.length l0) (hc0:l0.length≤c0) (hr1:Kd.C (Kd.int .i64) w A1 l1.length l1) (hc1:l1.length≤c1) (h:ZB.f k l0 l1=some r) :
  Calls Tryd.prog 12 #[.slice A0 l0.length c0,.slice A1 l1.length c1] w fun e w'=>e=.returned (.bool r)∧Zs w w':=by
 have HR0:=Za hr0;have HC0:=Za hc0;clear hr0 hc0;have HR1:=Za hr1;have HC1:=Za hc1;clear hr1 hc1
 have H:(if (l0.length:Int)=(l1.length:Int) then(ZB.l0 k l0 l1 0) else(some false))=some r:=h
 clear h
 by_cases c3:(l0.length:Int)=(l1.length:Int)
 ·rw[if_pos c3] at H
  have c3b0:((l0.length:Int) == (l1.length:Int))=true:=beq_iff_eq.mpr c3
  have c3b1:((l0.length:Int) != (l1.length:Int))=false:=bne_eq_false_iff_eq.mpr c3
  have c3b2:(l0.length == l1.length)=true:=by first|simpa using c3|(simp at c3 ⊢;omega)
  clear c3
  have H':=Za H
  clear H
  go_enter Tryd.func12,Tryd.ntmps12
  go_wp2
  repeat(go_quiet (fail);try go_wp2)
  go_loopg [5] k (fun kq v5 w'=>∃(x5_1:Int),v5=.int .i64 x5_1∧Aside0 (ZB.l0 kq l0 l1 x5_1=some r)∧Aside0 (kq≤k)∧Zs w w')
  case atStart=>exact⟨(0),(by first|rfl|(simp;done)|(simp[*];done)),H',⟨Nat.le_refl _⟩,by repeat(first|exact Zs.refl _|apply Zs.step)⟩
  case round=>
   clear H'
   try clear c1
   try clear p2
   try clear c3
   try clear c3b0
   try clear c3b1
   try clear c3b2
   obtain⟨x5_1,rfl,HA,HK1,⟨m1,rfl⟩⟩:=hrel
   cases gk with
   | zero=>exact absurd HA.out (by simp[ZB.l0])
   | succ k1=>
    have H:=HA.out
    clear HA
    simp only[ZB.l0] at H
    by_cases c4:x5_1<(l0.length:Int)
    ·rw[if_pos c4] at H
     have c4b0:decide (x5_1<(l0.length:Int))=true:=Zd c4
     clear c4
     by_cases c5:0≤x5_1
     ·rw[if_pos c5] at H
      have c5b0:decide (0≤x5_1)=true:=Zd c5
      clear c5
      by_cases c6:x5_1<(l1.length:Int)
      ·rw[if_pos c6] at H
       have c6b0:decide (x5_1<(l1.length:Int))=true:=Zd c6
       clear c6
       by_cases c7:(rd l0 x5_1)=(rd l1 x5_1)
       ·rw[if_pos c7] at H
        have c7b0:((rd l0 x5_1) == (rd l1 x5_1))=true:=beq_iff_eq.mpr c7
        have c7b1:((rd l0 x5_1) != (rd l1 x5_1))=false:=bne_eq_false_iff_eq.mpr c7
        clear c7
        have H':=Za H
        clear H
        have p12001:0≤(x5_1:Int):=Zc (by first|(with_reducible assumption)|assumption)
        have q12001:x5_1<(l0.length:Int):=Zc (by first|(with_reducible assumption)|assumption)
        obtain⟨ad12001,e12001,hx12001_0⟩:=Kd.at_int HR0.out x5_1 p12001 q12001
        cases e12001
        replace p12001:=eq_true p12001
        replace q12001:=eq_true q12001
        have p12002:0≤(x5_1:Int):=Zc (by first|(with_reducible assumption)|assumption)
        have q12002:x5_1<(l1.length:Int):=Zc (by first|(with_reducible assumption)|assumption)
        obtain⟨ad12002,e12002,hx12002_0⟩:=Kd.at_int HR1.out x5_1 p12002 q12002
        cases e12002
        replace p12002:=eq_true p12002
        replace q12002:=eq_true q12002
        go_wp2
        repeat(go_quiet (fail);try go_wp2)
        go_roundg k1
        case measure=>have:=HK1.out;omega
        case rel=>exact⟨(wrap64 (x5_1+1)),(by first|rfl|(simp;done)|(simp[*];done)),H',⟨by have:=HK1.out;omega⟩,by repeat(first|exact Zs.refl _|apply Zs.step)⟩
       ·rw[if_neg c7] at H
        have c7b0:((rd l0 x5_1) == (rd l1 x5_1))=false:=beq_eq_false_iff_ne.mpr c7
        have c7b1:((rd l0 x5_1) != (rd l1 x5_1))=true:=bne_iff_ne.mpr c7
        obtain rfl:=Ze H
        have p12001:0≤(x5_1:Int):=Zc (by first|(with_reducible assumption)|assumption)
        have q12001:x5_1<(l0.length:Int):=Zc (by first|(with_reducible assumption)|assumption)
        obtain⟨ad12001,e12001,hx12001_0⟩:=Kd.at_int HR0.out x5_1 p12001 q12001
        cases e12001
        replace p12001:=eq_true p12001
        replace q12001:=eq_true q12001
        have p12002:0≤(x5_1:Int):=Zc (by first|(with_reducible assumption)|assumption)
        have q12002:x5_1<(l1.length:Int):=Zc (by first|(with_reducible assumption)|assumption)
        obtain⟨ad12002,e12002,hx12002_0⟩:=Kd.at_int HR1.out x5_1 p12002 q12002
        cases e12002
        replace p12002:=eq_true p12002
        replace q12002:=eq_true q12002
        go_wp2
        repeat(go_quiet (fail);try go_wp2)
        go_ret
        exact⟨by first|rfl|(simp;done)|(simp[*];done),by repeat(first|exact Zs.refl _|apply Zs.step)⟩
      ·rw[if_neg c6] at H
       exact absurd H (by simp)
     ·rw[if_neg c5] at H
      exact absurd H (by simp)
    ·rw[if_neg c4] at H
     have c4b0:decide (x5_1<(l0.length:Int))=false:=decide_eq_false c4
     clear c4
     obtain rfl:=Ze H
     go_wp2
     repeat(go_quiet (fail);try go_wp2)
     go_ret
     exact⟨by first|rfl|(simp;done)|(simp[*];done),by repeat(first|exact Zs.refl _|apply Zs.step)⟩
 ·rw[if_neg c3] at H
  have c3b0:((l0.length:Int) == (l1.length:Int))=false:=beq_eq_false_iff_ne.mpr c3
  have c3b1:((l0.length:Int) != (l1.length:Int))=true:=bne_iff_ne.mpr c3
  have c3b2:(l0.length == l1.length)=false:=by first|simpa using c3|(simp at c3 ⊢;omega)
  obtain rfl:=Ze H
  go_enter Tryd.func12,Tryd.ntmps12
  go_wp2
  repeat(go_quiet (fail);try go_wp2)
  go_ret
  exact⟨by first|rfl|(simp;done)|(simp[*];done),by repeat(first|exact Zs.refl _|apply Zs.step)⟩
end Go.Proofs.YthphnhmabieflaaDoor.Pr
namespace Go.Proofs.YthphnhmabieflaaDoor.Pr
open Go.RowKit Go.Proofs.YthphnhmabieflaaDoorW.PrintWords Go.Proofs.YthphnhmabieflaaDoor.Ni
theorem toIntS_f (l:List Int) (hl:l.length≤35184372088832) (k:Nat) (hk:2 ^ 64≤k):Zx.f k l=some l:=by
 have key:=Zak l.length (fun k i=>Zx.l0 k l (l.take i ++ List.replicate (l.length - i) 0) (i:Int)=some l) 0
  (fun k _=>by simp[Zx.l0])
  (fun k i _ hi ih=>by
   simp only[Zx.l0]
   rw[if_pos (by omega),if_pos (by omega),if_pos (by simp;omega),Zaa hi (by omega),Int.toNat_natCast,set_step l 0 0 i hi _ (Zah l i)]
   exact ih) 0 k (Nat.zero_le _) (by omega)
 unfold Zx.f
 rw[if_pos (by omega),if_pos (by omega),Int.toNat_natCast]
 simpa using key
theorem eqIntS_f (l m:List Int) (hl:l.length≤9223372036854775807) (k:Nat) (hk:2 ^ 64≤k):ZB.f k l m=some (decide (l=m)):=by
 unfold ZB.f
 by_cases e:l.length=m.length
 ·rw[if_pos (by omega)]
  have key:=Zak l.length (fun k i=>ZB.l0 k l m (i:Int)=some (decide (l.drop i=m.drop i))) 0
   (fun k _=>by
    simp only[ZB.l0]
    rw[if_neg (by omega),List.drop_of_length_le (Nat.le_refl _),List.drop_of_length_le (by omega)]
    simp)
   (fun k i _ hi ih=>by
    simp only[ZB.l0]
    rw[if_pos (by omega),if_pos (by omega),if_pos (by omega),Zah,Zah,Zaa hi (by omega),Z5 hi 0,Z5 (show i<m.length by omega) 0]
    by_cases h:l.getD i 0=m.getD i 0
    ·rw[if_pos h,ih,h];simp
    ·rw[if_neg h]
     simp only[List.cons.injEq,h,false_and,decide_false]) 0 k (Nat.zero_le _) (by omega)
  simpa using key
 ·rw[if_neg (by omega)]
  have:l≠m:=fun h=>e (by rw[h])
  simp[this]
theorem eqIntS_refl (l:List Int) (hl:l.length≤9223372036854775807) (k:Nat) (hk:2 ^ 64≤k):ZB.f k l l=some true:=by
 rw[eqIntS_f l l hl k hk];simp
end Go.Proofs.YthphnhmabieflaaDoor.Pr
namespace Go.Proofs.YthphnhmabieflaaDoor.Pr
open Go.RowKit Go.Proofs.YthphnhmabieflaaDoorW.PrintWords Go.Proofs.YthphnhmabieflaaDoorW.PrintLast Go.Proofs.YthphnhmabieflaaDoorW.PrintMore
attribute [local go_sem] Z4 Z2 Zaf Zae ZY ZX Z3 Z1
set_option linter.unusedVariables false
set_option linter.unusedSimpArgs false
theorem Zx.c (k:Nat) (A0:Option Addr) (c0:Nat) (l0:List Int) (r:List Int) (w:World) (hr0:Kd.C (Kd.int .i64) w A0 l0.length l0) (hc0:l0.length≤c0) (h:Zx.f k l0=some r) :
  Calls Tryd.prog 10 #[.slice A0 l0.length c0] w fun e w'=>∃A0_ c0_,e=.returned (.slice A0_ r.length c0_)∧Aside0 (r.length≤c0_∧Kd.C (Kd.int .i64) w' A0_ r.length r)∧Below w.heap.size w w':=
 (Zx.calls k A0 c0 l0 r w hr0 hc0 h).mono fun e w' ⟨v0_,he,q0_,hb⟩=>by
  obtain⟨A0_,c0_,rfl,g0_⟩:=Kd.R_reads q0_
  exact⟨A0_,c0_,he,⟨g0_⟩,hb⟩
end Go.Proofs.YthphnhmabieflaaDoor.Pr
namespace Go.Proofs.YthphnhmabieflaaDoor.Pr
open Go.RowKit Go.Proofs.YthphnhmabieflaaDoorW.PrintWords
def TW (w : World) : Prop := Lib.TabBelow Tryd.prog w.heap.size w "internal/strconv.uint64pow10" .u64 Lib.pow10Tab
theorem TW.below {w w':World} (h:TW w) (hb:Below w.heap.size w w'):TW w':=fun w2 h2=>h w2 (hb.trans (h2.mono hb.size))
theorem var_below {P:Program} {w:World} {name:String} {cs:Array Value} (h:w.var? P name=some cs):∀w',Below w.heap.size w w'→w'.var? P name=some cs:=fun w' hb=>by
 unfold World.var? at *
 cases hg:P.globalNamed name with
 | none=>simp[hg] at h
 | some g=>
  simp only[hg,Zg] at h ⊢
  have hlt:g<w.heap.size:=by
   rcases Nat.lt_or_ge g w.heap.size with h'|h'
   ·exact h'
   ·rw[Array.getElem?_eq_none h'] at h;simp at h
  rw[hb.block g hlt]
  exact h
def EW (w : World) : Prop := (∃ tp p, ∀ w', Below w.heap.size w w' → w'.var? Tryd.prog "strconv.ErrSyntax" = some #[.iface tp p]) ∧ ∃ tp p, ∀ w', Below w.heap.size w w' → w'.var? Tryd.prog "strconv.ErrRange" = some #[.iface tp p]
theorem EW.below {w w':World} (h:EW w) (hb:Below w.heap.size w w'):EW w':=by
 obtain⟨⟨t1,p1,h1⟩,t2,p2,h2⟩:=h
 exact⟨⟨t1,p1,fun w2 h=>h1 w2 (hb.trans (h.mono hb.size))⟩,t2,p2,fun w2 h=>h2 w2 (hb.trans (h.mono hb.size))⟩
theorem EW.of {w : World} {t1 t2 : TypeId} {p1 p2 : Value} (h1 : w.var? Tryd.prog "strconv.ErrSyntax" = some #[.iface t1 p1]) (h2 : w.var? Tryd.prog "strconv.ErrRange" = some #[.iface t2 p2]) : EW w := ⟨⟨t1, p1, var_below h1⟩, t2, p2, var_below h2⟩
theorem R_spot {α:Type} {d:Kd α} {e n c:Nat} {w:World} {base:Nat} {ok:Nat→Prop} {A:Option Addr} {xs:List α} (h:d.R e w base ok (.slice A n c) xs):∀ad,A=some ad→ad.spot=none:=by
 intro ad hA
 obtain⟨_,inner,ho,_⟩:=h
 obtain⟨_,h2⟩:=ho
 rcases h2 with ⟨h3,_⟩|⟨g,c,cur,h3,_⟩
 ·injection h3 with h4;rw[hA] at h4;cases h4
 ·injection h3 with h4;rw[hA] at h4;cases h4;rfl
theorem add_spot (b o j:Nat):(⟨b,o,none⟩:Addr).add j=⟨b,o+j,none⟩:=by
 unfold Addr.add
 split
 ·rename_i h;subst h;rfl
 ·rfl
end Go.Proofs.YthphnhmabieflaaDoor.Pr
namespace Go.Proofs.YthphnhmabieflaaDoor.Pr
open Go.RowKit Go.Proofs.YthphnhmabieflaaDoorW.PrintWords Go.Proofs.YthphnhmabieflaaDoorW.PrintLast Go.Proofs.YthphnhmabieflaaDoorW.PrintMore
attribute [local go_sem] Z4 Z2 Zaf Zae ZY ZX Z3 Z1
set_option linter.unusedVariables false
set_option linter.unusedSimpArgs false
def ZC.f (a0:Int):Option (Int):=some (mx a0 (wrap64 (-a0)))
set_option maxHeartbeats 8000000 in
set_option maxRecDepth 100000 in
theorem ZC.calls (a0:Int) (r:Int) (w:World) (h:ZC.f a0=some r) :
  Calls Tryd.prog 39 #[.int .i64 a0] w fun e w'=>e=.returned (.int .i64 r)∧Below w.heap.size w w':=by
 have HB:=Za (Below.refl w.heap.size w)
 have H:(some (mx a0 (wrap64 (-a0))))=some r:=h
 clear h
 obtain⟨ji2,hji2⟩:∃j_:Int,(mx a0 (wrap64 (-a0)))=j_:=⟨_,rfl⟩
 replace H:(some ji2)=some r:=by first|(rw[hji2] at H;exact H)|(simp only[hji2] at H ⊢;exact H)
 have hji2_:(if a0<(wrap64 (-a0)) then(wrap64 (-a0)) else a0)=ji2:=hji2
 obtain rfl:=Ze H
 go_enter Tryd.func39,Tryd.ntmps39
 go_wp2
 go_ret
 exact⟨by first|rfl|(simp[Zu,Zt] <;> rfl)|(simp only[← hji2];first|rfl|(simp[Zu,Zt] <;> rfl))|(simp[*,Zu,Zt] <;> rfl),by repeat(first|(with_reducible first|exact HB.out|apply Zl|apply Zk|apply Zm)|exact HB.out)⟩
def Zv.l0:Nat→List Int→List Int→Int→Int→Option (Bool)
 | 0,_,_,_,_=>none
 | k+1,x0,x5,x6,x7=>if x7<x6 then(if 0≤x7 then(if x7<(x5.length:Int) then(if (rd x5 x7)=0 then(some false) else(if (rd x5 x7)<(-3) then(some false) else(if (rd x5 x7) > 3 then(some false) else(if x7 > 0 then(if 0≤(wrap64 (x7 - 1)) then(if (wrap64 (x7 - 1))<(x0.length:Int) then((ZC.f (rd x0 (wrap64 (x7 - 1)))).bind fun t27003=>((ZC.f (rd x5 x7)).bind fun t27004=>(if t27003≥t27004 then(some false) else(Zv.l0 k x0 x5 x6 (wrap64 (x7+1)))))) else(none)) else(none)) else(Zv.l0 k x0 x5 x6 (wrap64 (x7+1))))))) else(none)) else(none)) else(some true)
def Zv.f (k:Nat) (l0:List Int):Option (Bool):=Zv.l0 k l0 l0 (l0.length:Int) 0
set_option maxHeartbeats 8000000 in
set_option maxRecDepth 100000 in
theorem Zv.calls (k:Nat) (A0:Option Addr) (c0:Nat) (l0:List Int) (r:Bool) (w:World) (hr0:Kd.C (Kd.int .i64) w A0 l0.length l0) (hc0:l0.length≤c0) (h:Zv.f k l0=some r) :
  Calls Tryd.prog 27 #[.slice A0 l0.length c0] w fun e w'=>e=.returned (.bool r)∧Below w.heap.size w w':=by
 have HR0:=Za hr0;have HC0:=Za hc0;clear hr0 hc0
 have HB:=Za (Below.refl w.heap.size w)
 have H:(Zv.l0 k l0 l0 (l0.length:Int) 0)=some r:=h
 clear h
 have H':=Za H
 clear H
 go_enter Tryd.func27,Tryd.ntmps27
 go_wp2
 go_loopg [7] k (fun kq v7 w'=>∃(x7_1:Int),v7=.int .i64 x7_1∧Aside0 (Zv.l0 kq l0 l0 (l0.length:Int) x7_1=some r)∧Aside0 (kq≤k)∧Aside0 (Below w.heap.size w w'))
 case atStart=>exact⟨(0),(by first|rfl|(simp;done)|(simp[*];done)),H',⟨Nat.le_refl _⟩,⟨by repeat(first|(with_reducible first|exact HB.out|apply Zl|apply Zk|apply Zm)|exact HB.out)⟩⟩
 case round=>
  clear H'
  obtain⟨x7_1,rfl,HA,HK1,HB⟩:=hrel
  cases gk with
  | zero=>exact absurd HA.out (by simp[Zv.l0])
  | succ k1=>
   have H:=HA.out
   clear HA
   simp only[Zv.l0] at H
   by_cases c2:x7_1<(l0.length:Int)
   ·rw[if_pos c2] at H
    have c2b0:decide (x7_1<(l0.length:Int))=true:=Zd c2
    clear c2
    by_cases c3:0≤x7_1
    ·rw[if_pos c3] at H
     have c3b0:decide (0≤x7_1)=true:=Zd c3
     clear c3
     by_cases c4:x7_1<(l0.length:Int)
     ·rw[if_pos c4] at H
      have c4b0:decide (x7_1<(l0.length:Int))=true:=Zd c4
      clear c4
      by_cases c5:(rd l0 x7_1)=0
      ·rw[if_pos c5] at H
       have c5b0:((rd l0 x7_1) == 0)=true:=beq_iff_eq.mpr c5
       have c5b1:((rd l0 x7_1) != 0)=false:=bne_eq_false_iff_eq.mpr c5
       clear c5
       obtain rfl:=Ze H
       have p27001:0≤(x7_1:Int):=Zc (by first|(with_reducible assumption)|assumption)
       have q27001:x7_1<(l0.length:Int):=Zc (by first|(with_reducible assumption)|assumption)
       obtain⟨ad27001,e27001,hx27001_0⟩:=Kd.at_int HR0.out x7_1 p27001 q27001
       cases e27001
       replace hx27001_0:=(HB.out.cell (Zb w _ hx27001_0)).trans hx27001_0
       replace p27001:=eq_true p27001
       replace q27001:=eq_true q27001
       go_wp2
       go_ret
       exact⟨by first|rfl|(simp[Zu,Zt] <;> rfl)|(simp[*,Zu,Zt] <;> rfl),by repeat(first|(with_reducible first|exact HB.out|apply Zl|apply Zk|apply Zm)|exact HB.out)⟩
      ·rw[if_neg c5] at H
       have c5b0:((rd l0 x7_1) == 0)=false:=beq_eq_false_iff_ne.mpr c5
       have c5b1:((rd l0 x7_1) != 0)=true:=bne_iff_ne.mpr c5
       by_cases c6:(rd l0 x7_1)<(-3)
       ·rw[if_pos c6] at H
        have c6b0:decide ((rd l0 x7_1)<(-3))=true:=Zd c6
        clear c6
        obtain rfl:=Ze H
        have p27001:0≤(x7_1:Int):=Zc (by first|(with_reducible assumption)|assumption)
        have q27001:x7_1<(l0.length:Int):=Zc (by first|(with_reducible assumption)|assumption)
        obtain⟨ad27001,e27001,hx27001_0⟩:=Kd.at_int HR0.out x7_1 p27001 q27001
        cases e27001
        replace hx27001_0:=(HB.out.cell (Zb w _ hx27001_0)).trans hx27001_0
        replace p27001:=eq_true p27001
        replace q27001:=eq_true q27001
        go_wp2
        go_ret
        exact⟨by first|rfl|(simp[Zu,Zt] <;> rfl)|(simp[*,Zu,Zt] <;> rfl),by repeat(first|(with_reducible first|exact HB.out|apply Zl|apply Zk|apply Zm)|exact HB.out)⟩
       ·rw[if_neg c6] at H
        have c6b0:decide ((rd l0 x7_1)<(-3))=false:=decide_eq_false c6
        clear c6
        by_cases c7:(rd l0 x7_1) > 3
        ·rw[if_pos c7] at H
         have c7b0:decide (3<(rd l0 x7_1))=true:=Zd c7
         clear c7
         obtain rfl:=Ze H
         have p27001:0≤(x7_1:Int):=Zc (by first|(with_reducible assumption)|assumption)
         have q27001:x7_1<(l0.length:Int):=Zc (by first|(with_reducible assumption)|assumption)
         obtain⟨ad27001,e27001,hx27001_0⟩:=Kd.at_int HR0.out x7_1 p27001 q27001
         cases e27001
         replace hx27001_0:=(HB.out.cell (Zb w _ hx27001_0)).trans hx27001_0
         replace p27001:=eq_true p27001
         replace q27001:=eq_true q27001
         go_wp2
         go_ret
         exact⟨by first|rfl|(simp[Zu,Zt] <;> rfl)|(simp[*,Zu,Zt] <;> rfl),by repeat(first|(with_reducible first|exact HB.out|apply Zl|apply Zk|apply Zm)|exact HB.out)⟩
        ·rw[if_neg c7] at H
         have c7b0:decide (3<(rd l0 x7_1))=false:=decide_eq_false c7
         clear c7
         by_cases c8:x7_1 > 0
         ·rw[if_pos c8] at H
          have c8b0:decide (0<x7_1)=true:=Zd c8
          clear c8
          obtain⟨ji9,hji9⟩:∃j_:Int,(wrap64 (x7_1 - 1))=j_:=⟨_,rfl⟩
          replace H:(if 0≤(ji9) then(if (ji9)<(l0.length:Int) then((ZC.f (rd l0 (ji9))).bind fun t27003=>((ZC.f (rd l0 x7_1)).bind fun t27004=>(if t27003≥t27004 then(some false) else(Zv.l0 k1 l0 l0 (l0.length:Int) (wrap64 (x7_1+1)))))) else(none)) else(none))=some r:=by first|(rw[hji9] at H;exact H)|(simp only[hji9] at H ⊢;exact H)
          have hji9w:(IntKind.i64.wrap (x7_1 - 1))=ji9:=(ZQ _).trans hji9
          by_cases c10:0≤(ji9)
          ·rw[if_pos c10] at H
           have c10b0:decide (0≤(ji9))=true:=Zd c10
           clear c10
           by_cases c11:(ji9)<(l0.length:Int)
           ·rw[if_pos c11] at H
            have c11b0:decide ((ji9)<(l0.length:Int))=true:=Zd c11
            clear c11
            replace H:=Zf H
            obtain⟨t27003,A120,H⟩:=H
            replace H:((ZC.f (rd l0 x7_1)).bind fun t27004=>(if t27003≥t27004 then(some false) else(Zv.l0 k1 l0 l0 (l0.length:Int) (wrap64 (x7_1+1)))))=some r:=H
            have A12:=Za A120;clear A120
            replace H:=Zf H
            obtain⟨t27004,A130,H⟩:=H
            replace H:(if t27003≥t27004 then(some false) else(Zv.l0 k1 l0 l0 (l0.length:Int) (wrap64 (x7_1+1))))=some r:=H
            have A13:=Za A130;clear A130
            by_cases c14:t27003≥t27004
            ·rw[if_pos c14] at H
             have c14b0:decide (t27004≤t27003)=true:=Zd c14
             clear c14
             obtain rfl:=Ze H
             have p27001:0≤(x7_1:Int):=Zc (by first|(with_reducible assumption)|assumption)
             have q27001:x7_1<(l0.length:Int):=Zc (by first|(with_reducible assumption)|assumption)
             obtain⟨ad27001,e27001,hx27001_0⟩:=Kd.at_int HR0.out x7_1 p27001 q27001
             cases e27001
             replace hx27001_0:=(HB.out.cell (Zb w _ hx27001_0)).trans hx27001_0
             replace p27001:=eq_true p27001
             replace q27001:=eq_true q27001
             have p27002:0≤((ji9):Int):=Zc (by first|(with_reducible assumption)|assumption)
             have q27002:(ji9)<(l0.length:Int):=Zc (by first|(with_reducible assumption)|assumption)
             obtain⟨ad27002,e27002,hx27002_0⟩:=Kd.at_int HR0.out (ji9) p27002 q27002
             obtain rfl:ad27001=ad27002:=(by injection e27002)
             replace hx27002_0:=(HB.out.cell (Zb w _ hx27002_0)).trans hx27002_0
             replace p27002:=eq_true p27002
             replace q27002:=eq_true q27002
             go_wp2_with (first|(go_at_call 39;(with_reducible refine(ZC.calls (rd l0 (ji9)) t27003 _ A12.out).mono ?_);rintro e w15 ⟨rfl,hb⟩;replace HB:=Za (Zw (by repeat(first|(with_reducible first|exact HB.out|apply Zl|apply Zk|apply Zm)|exact HB.out)) hb);(try clear hb);(try clear hb2);(try clear hk);(try clear hi))|(go_at_call 39;(with_reducible refine(ZC.calls (rd l0 x7_1) t27004 _ A13.out).mono ?_);rintro e w16 ⟨rfl,hb⟩;replace HB:=Za (Zw (by repeat(first|(with_reducible first|exact HB.out|apply Zl|apply Zk|apply Zm)|exact HB.out)) hb);(try clear hb);(try clear hb2);(try clear hk);(try clear hi)))
             go_ret
             exact⟨by first|rfl|(simp[Zu,Zt] <;> rfl)|(simp only[← hji9];first|rfl|(simp[Zu,Zt] <;> rfl))|(simp[*,Zu,Zt] <;> rfl),by repeat(first|(with_reducible first|exact HB.out|apply Zl|apply Zk|apply Zm)|exact HB.out)⟩
            ·rw[if_neg c14] at H
             have c14b0:decide (t27004≤t27003)=false:=decide_eq_false c14
             clear c14
             have H':=Za H
             clear H
             have p27001:0≤(x7_1:Int):=Zc (by first|(with_reducible assumption)|assumption)
             have q27001:x7_1<(l0.length:Int):=Zc (by first|(with_reducible assumption)|assumption)
             obtain⟨ad27001,e27001,hx27001_0⟩:=Kd.at_int HR0.out x7_1 p27001 q27001
             cases e27001
             replace hx27001_0:=(HB.out.cell (Zb w _ hx27001_0)).trans hx27001_0
             replace p27001:=eq_true p27001
             replace q27001:=eq_true q27001
             have p27002:0≤((ji9):Int):=Zc (by first|(with_reducible assumption)|assumption)
             have q27002:(ji9)<(l0.length:Int):=Zc (by first|(with_reducible assumption)|assumption)
             obtain⟨ad27002,e27002,hx27002_0⟩:=Kd.at_int HR0.out (ji9) p27002 q27002
             obtain rfl:ad27001=ad27002:=(by injection e27002)
             replace hx27002_0:=(HB.out.cell (Zb w _ hx27002_0)).trans hx27002_0
             replace p27002:=eq_true p27002
             replace q27002:=eq_true q27002
             go_wp2_with (first|(go_at_call 39;(with_reducible refine(ZC.calls (rd l0 (ji9)) t27003 _ A12.out).mono ?_);rintro e w17 ⟨rfl,hb⟩;replace HB:=Za (Zw (by repeat(first|(with_reducible first|exact HB.out|apply Zl|apply Zk|apply Zm)|exact HB.out)) hb);(try clear hb);(try clear hb2);(try clear hk);(try clear hi))|(go_at_call 39;(with_reducible refine(ZC.calls (rd l0 x7_1) t27004 _ A13.out).mono ?_);rintro e w18 ⟨rfl,hb⟩;replace HB:=Za (Zw (by repeat(first|(with_reducible first|exact HB.out|apply Zl|apply Zk|apply Zm)|exact HB.out)) hb);(try clear hb);(try clear hb2);(try clear hk);(try clear hi)))
             go_roundg k1
             case measure=>have:=HK1.out;omega
             case rel=>exact⟨(wrap64 (x7_1+1)),(by first|rfl|(simp;done)|(simp[*];done)),H',⟨by have:=HK1.out;omega⟩,⟨by repeat(first|(with_reducible first|exact HB.out|apply Zl|apply Zk|apply Zm)|exact HB.out)⟩⟩
           ·rw[if_neg c11] at H
            exact absurd H (by simp)
          ·rw[if_neg c10] at H
           exact absurd H (by simp)
         ·rw[if_neg c8] at H
          have c8b0:decide (0<x7_1)=false:=decide_eq_false c8
          clear c8
          have H':=Za H
          clear H
          have p27001:0≤(x7_1:Int):=Zc (by first|(with_reducible assumption)|assumption)
          have q27001:x7_1<(l0.length:Int):=Zc (by first|(with_reducible assumption)|assumption)
          obtain⟨ad27001,e27001,hx27001_0⟩:=Kd.at_int HR0.out x7_1 p27001 q27001
          cases e27001
          replace hx27001_0:=(HB.out.cell (Zb w _ hx27001_0)).trans hx27001_0
          replace p27001:=eq_true p27001
          replace q27001:=eq_true q27001
          go_wp2
          go_roundg k1
          case measure=>have:=HK1.out;omega
          case rel=>exact⟨(wrap64 (x7_1+1)),(by first|rfl|(simp;done)|(simp[*];done)),H',⟨by have:=HK1.out;omega⟩,⟨by repeat(first|(with_reducible first|exact HB.out|apply Zl|apply Zk|apply Zm)|exact HB.out)⟩⟩
     ·rw[if_neg c4] at H
      exact absurd H (by simp)
    ·rw[if_neg c3] at H
     exact absurd H (by simp)
   ·rw[if_neg c2] at H
    have c2b0:decide (x7_1<(l0.length:Int))=false:=decide_eq_false c2
    clear c2
    obtain rfl:=Ze H
    go_wp2
    go_ret
    exact⟨by first|rfl|(simp[Zu,Zt] <;> rfl)|(simp[*,Zu,Zt] <;> rfl),by repeat(first|(with_reducible first|exact HB.out|apply Zl|apply Zk|apply Zm)|exact HB.out)⟩
end Go.Proofs.YthphnhmabieflaaDoor.Pr
namespace Go.Proofs
open Go.Shelf
def Tryd.laysM171_ren:Go.Shelf.Ren:=⟨fun|171=>73|243=>98|246=>129|283=>148|284=>149|285=>150|286=>151|129=>128|317=>158|318=>159|319=>160|320=>161|337=>164|338=>165|n=>n,fun|3=>3|9=>9|2=>2|4=>4|171=>149|0=>0|53=>132|37=>48|5=>5|173=>151|212=>166|51=>130|20=>20|213=>167|46=>51|232=>172|233=>173|n=>n,fun|17=>3|18=>4|19=>5|n=>n⟩
theorem Tryd.laysM171:Go.Proofs.LaysM.n171 Tryd.prog Tryd.laysM171_ren:={
 mixed:=by kernel_rfl
 f129:=Tryd.func128.trans (congrArg some (by kernel_rfl))
 f171:=Tryd.func73.trans (congrArg some (by kernel_rfl))
 f243:=Tryd.func98.trans (congrArg some (by kernel_rfl))
 f246:=Tryd.func129.trans (congrArg some (by kernel_rfl))
 f283:=Tryd.func148.trans (congrArg some (by kernel_rfl))
 f284:=Tryd.func149.trans (congrArg some (by kernel_rfl))
 f285:=Tryd.func150.trans (congrArg some (by kernel_rfl))
 f286:=Tryd.func151.trans (congrArg some (by kernel_rfl))
 f317:=Tryd.func158.trans (congrArg some (by kernel_rfl))
 f318:=Tryd.func159.trans (congrArg some (by kernel_rfl))
 f319:=Tryd.func160.trans (congrArg some (by kernel_rfl))
 f320:=Tryd.func161.trans (congrArg some (by kernel_rfl))
 f337:=Tryd.func164.trans (congrArg some (by kernel_rfl))
 f338:=Tryd.func165.trans (congrArg some (by kernel_rfl))
 t0:=Tryd.underlying0
 a0:=Tryd.isAgg0
 z0:=Tryd.sizeOf0
 v0:=Tryd.zeroValue0
 t2:=Tryd.underlying2
 a2:=Tryd.isAgg2
 z2:=Tryd.sizeOf2
 v2:=Tryd.zeroValue2
 t3:=Tryd.underlying3
 a3:=Tryd.isAgg3
 z3:=Tryd.sizeOf3
 v3:=Tryd.zeroValue3
 t4:=Tryd.underlying4
 a4:=Tryd.isAgg4
 z4:=Tryd.sizeOf4
 v4:=Tryd.zeroValue4
 t5:=Tryd.underlying5
 a5:=Tryd.isAgg5
 z5:=Tryd.sizeOf5
 v5:=Tryd.zeroValue5
 t9:=Tryd.underlying9
 a9:=Tryd.isAgg9
 z9:=Tryd.sizeOf9
 v9:=Tryd.zeroValue9
 t20:=Tryd.underlying20
 a20:=Tryd.isAgg20
 z20:=Tryd.sizeOf20
 v20:=Tryd.zeroValue20
 t37:=Tryd.underlying48
 a37:=Tryd.isAgg48
 z37:=Tryd.sizeOf48
 v37:=Tryd.zeroValue48
 t46:=Tryd.underlying51
 a46:=Tryd.isAgg51
 z46:=Tryd.sizeOf51
 v46:=Tryd.zeroValue51
 t51:=Tryd.underlying130
 a51:=Tryd.isAgg130
 z51:=Tryd.sizeOf130
 v51:=Tryd.zeroValue130
 t53:=Tryd.underlying132
 a53:=Tryd.isAgg132
 z53:=Tryd.sizeOf132
 v53:=Tryd.zeroValue132
 t171:=Tryd.underlying149
 a171:=Tryd.isAgg149
 z171:=Tryd.sizeOf149
 v171:=Tryd.zeroValue149
 t173:=Tryd.underlying151
 a173:=Tryd.isAgg151
 z173:=Tryd.sizeOf151
 v173:=Tryd.zeroValue151
 t212:=Tryd.underlying166
 a212:=Tryd.isAgg166
 z212:=Tryd.sizeOf166
 v212:=Tryd.zeroValue166
 t213:=Tryd.underlying167
 a213:=Tryd.isAgg167
 z213:=Tryd.sizeOf167
 t232:=Tryd.underlying172
 a232:=Tryd.isAgg172
 z232:=Tryd.sizeOf172
 v232:=Tryd.zeroValue172
 t233:=Tryd.underlying173
 a233:=Tryd.isAgg173
 z233:=Tryd.sizeOf173
 v233:=Tryd.zeroValue173
 g17:=by kernel_rfl
 g18:=by kernel_rfl
 g19:=by kernel_rfl
 i0:=by kernel_rfl
 i2:=by kernel_rfl
 i3:=by kernel_rfl
 i4:=by kernel_rfl
 i5:=by kernel_rfl
 i9:=by kernel_rfl
 i20:=by kernel_rfl
 i37:=by kernel_rfl
 i46:=by kernel_rfl
 i51:=by kernel_rfl
 i53:=by kernel_rfl
 i171:=by kernel_rfl
 i173:=by kernel_rfl
 i212:=by kernel_rfl
 i232:=by kernel_rfl
 i233:=by kernel_rfl
 m17:=by kernel_rfl
 m18:=by kernel_rfl
 m19:=by kernel_rfl }
open Go.RowKit Go.Sort Go.Lib in
theorem Tryd.strconv_Itoa (n : Int) (h0 : -9223372036854775808 ≤ n) (h1 : n ≤ 9223372036854775807) (w : World) (htab : Lib.TabIs Tryd.prog w "internal/strconv.uint64pow10" .u64 Lib.pow10Tab) :
  Calls Tryd.prog 73 #[.int .i64 n] w fun e w'=>e=.returned (.string ⟨(Lib.itoa n).toArray⟩)∧∃k os,w'=grow (w.drewN k) os:=Any.strconv_Itoa Tryd.laysM171 n h0 h1 w htab
def Tryd.lays156_ren:Go.Shelf.Ren:=⟨fun|156=>74|165=>99|166=>100|169=>101|240=>130|241=>131|276=>152|277=>153|n=>n,fun|31=>56|9=>9|3=>3|4=>4|0=>0|20=>20|72=>111|76=>100|70=>109|37=>48|75=>99|127=>134|164=>153|5=>5|80=>113|n=>n,fun|n=>n⟩
theorem Tryd.lays156:Go.Proofs.Lays.n156 Tryd.prog Tryd.lays156_ren:={
 mixed:=by kernel_rfl
 f156:=Tryd.func74.trans (congrArg some (by kernel_rfl))
 f165:=Tryd.func99.trans (congrArg some (by kernel_rfl))
 f166:=Tryd.func100.trans (congrArg some (by kernel_rfl))
 f169:=Tryd.func101.trans (congrArg some (by kernel_rfl))
 f240:=Tryd.func130.trans (congrArg some (by kernel_rfl))
 f241:=Tryd.func131.trans (congrArg some (by kernel_rfl))
 f276:=Tryd.func152.trans (congrArg some (by kernel_rfl))
 f277:=Tryd.func153.trans (congrArg some (by kernel_rfl))
 t0:=Tryd.underlying0
 a0:=Tryd.isAgg0
 z0:=Tryd.sizeOf0
 v0:=Tryd.zeroValue0
 t3:=Tryd.underlying3
 a3:=Tryd.isAgg3
 z3:=Tryd.sizeOf3
 v3:=Tryd.zeroValue3
 t4:=Tryd.underlying4
 a4:=Tryd.isAgg4
 z4:=Tryd.sizeOf4
 v4:=Tryd.zeroValue4
 t9:=Tryd.underlying9
 a9:=Tryd.isAgg9
 z9:=Tryd.sizeOf9
 v9:=Tryd.zeroValue9
 t20:=Tryd.underlying20
 a20:=Tryd.isAgg20
 z20:=Tryd.sizeOf20
 v20:=Tryd.zeroValue20
 t31:=Tryd.underlying56
 a31:=Tryd.isAgg56
 z31:=Tryd.sizeOf56
 v31:=Tryd.zeroValue56
 t37:=Tryd.underlying48
 a37:=Tryd.isAgg48
 z37:=Tryd.sizeOf48
 v37:=Tryd.zeroValue48
 t70:=Tryd.underlying109
 a70:=Tryd.isAgg109
 z70:=Tryd.sizeOf109
 v70:=Tryd.zeroValue109
 t72:=Tryd.underlying111
 a72:=Tryd.isAgg111
 z72:=Tryd.sizeOf111
 v72:=Tryd.zeroValue111
 t75:=Tryd.underlying99
 a75:=Tryd.isAgg99
 z75:=Tryd.sizeOf99
 v75:=Tryd.zeroValue99
 t76:=Tryd.underlying100
 a76:=Tryd.isAgg100
 z76:=Tryd.sizeOf100
 v76:=Tryd.zeroValue100
 t127:=Tryd.underlying134
 a127:=Tryd.isAgg134
 z127:=Tryd.sizeOf134
 v127:=Tryd.zeroValue134
 t164:=Tryd.underlying153
 a164:=Tryd.isAgg153
 z164:=Tryd.sizeOf153
 v164:=Tryd.zeroValue153 }
theorem Tryd.Builder_Extra_156:Builder.Extra Tryd.prog Tryd.lays156_ren:={
 sizeBuilder:=by kernel_rfl
 liesBuilder:=by kernel_rfl
 t5:=Tryd.underlying5
 a5:=Tryd.isAgg5
 z5:=Tryd.sizeOf5
 v5:=Tryd.zeroValue5
 infoByte:=by kernel_rfl
 cellsByte:=by kernel_rfl
 sizeByte:=by kernel_rfl
 neB5:=by decide }
open Go.RowKit in
theorem Tryd.strings_Join (bk o c:Nat) (xs:List ByteArray) (sep:ByteArray) (w:World) (hcells:∀(j:Nat) x,xs[j]? = some x→w.cell? ⟨bk,o+j,none⟩=some (.string x)) (hbk:bk<w.heap.size) (hN:xs.length≤140737488355328) (hcap:xs.length≤c) (hlen:(Lib.join (xs.map (·.data.toList)) sep.data.toList).length≤140737488355328) :
  Calls Tryd.prog 74 #[.slice (some ⟨bk,o,none⟩) xs.length c,.string sep] w fun e w'=>e=.returned (.string ⟨(Lib.join (xs.map (·.data.toList)) sep.data.toList).toArray⟩)∧Below w.heap.size w w':=Any.strings_Join Tryd.lays156 Tryd.Builder_Extra_156 bk o c xs sep w hcells hbk hN hcap hlen
open Go.RowKit in
theorem Tryd.strings_Join_none (a:Option Addr) (c:Nat) (sep:ByteArray) (w:World) :
  Calls Tryd.prog 74 #[.slice a 0 c,.string sep] w fun e w'=>e=.returned (.string ⟨#[]⟩)∧w'=w:=Any.strings_Join_none Tryd.lays156 Tryd.Builder_Extra_156 a c sep w
def Tryd.lays137_ren:Go.Shelf.Ren:=⟨fun|137=>87|217=>116|266=>137|n=>n,fun|9=>9|5=>5|3=>3|n=>n,fun|n=>n⟩
theorem Tryd.lays137:Go.Proofs.Lays.n137 Tryd.prog Tryd.lays137_ren:={
 mixed:=by kernel_rfl
 f137:=Tryd.func87.trans (congrArg some (by kernel_rfl))
 f217:=Tryd.func116.trans (congrArg some (by kernel_rfl))
 f266:=Tryd.func137.trans (congrArg some (by kernel_rfl))
 t3:=Tryd.underlying3
 a3:=Tryd.isAgg3
 z3:=Tryd.sizeOf3
 v3:=Tryd.zeroValue3
 t5:=Tryd.underlying5
 a5:=Tryd.isAgg5
 z5:=Tryd.sizeOf5
 v5:=Tryd.zeroValue5
 t9:=Tryd.underlying9
 a9:=Tryd.isAgg9
 z9:=Tryd.sizeOf9
 v9:=Tryd.zeroValue9 }
open Go.RowKit in
theorem Tryd.strings_IndexByte (s:ByteArray) (c:Int) (w:World) :
  Calls Tryd.prog 87 #[.string s,.int .u8 c] w fun e w'=>e=.returned (.int .i64 (Lib.indexByte s.data.toList c.toNat.toUInt8))∧w'=w:=Any.strings_IndexByte Tryd.lays137 s c w
end Go.Proofs
namespace Go.Proofs.YthphnhmabieflaaDoor.Pr
open Go.RowKit Go.Proofs.YthphnhmabieflaaDoorW.PrintWords Go.Proofs.YthphnhmabieflaaDoorW.PrintLast Go.Proofs.YthphnhmabieflaaDoorW.PrintMore
attribute [local go_sem] Z4 Z2 Zaf Zae ZY ZX Z3 Z1
set_option linter.unusedVariables false
set_option linter.unusedSimpArgs false
def ZJ.f (a0:Int):Option (ByteArray):=if -9223372036854775808≤a0∧a0≤9223372036854775807 then some ⟨(Lib.itoa a0).toArray⟩ else none
set_option maxHeartbeats 4000000 in
theorem ZJ.calls (a0:Int) (r:ByteArray) (w:World) (ht:TW w) (h:ZJ.f a0=some r) :
  Calls Tryd.prog 38 #[.int .i64 a0] w fun e w'=>e=.returned (.string r)∧Below w.heap.size w w':=by
 unfold ZJ.f at h
 by_cases hb : -9223372036854775808≤a0∧a0≤9223372036854775807
 case neg=>rw[if_neg hb] at h;exact absurd h (by simp)
 rw[if_pos hb] at h
 obtain rfl:=Ze h
 have HC:=Za (Tryd.strconv_Itoa a0 hb.1 hb.2 w (Lib.TabBelow.here ht))
 clear h ht hb
 go_enter Tryd.func38,Tryd.ntmps38
 go_wp2_with (go_at_call 73;refine HC.out.mono ?_;rintro e w' ⟨rfl,k,os,hw⟩;have hB:=Lib.below_grow w.heap.size w (Nat.le_refl _) k os;rw[← hw] at hB;clear hw)
 go_ret
 exact⟨rfl,hB⟩
def ZU.f (l0:List ByteArray) (a1:ByteArray):Option (ByteArray):=if l0.length≤1048576∧(Lib.join (l0.map (·.data.toList)) a1.data.toList).length≤140737488355328 then some ⟨(Lib.join (l0.map (·.data.toList)) a1.data.toList).toArray⟩ else none
set_option maxHeartbeats 4000000 in
theorem ZU.lib (A0:Option Addr) (c0:Nat) (l0:List ByteArray) (a1:ByteArray) (w:World) (hr0:Kd.C Kd.string w A0 l0.length l0) (hc0:l0.length≤c0) (hs0:∀ad,A0=some ad→ad.spot=none) (h1:l0.length≤1048576) (h2:(Lib.join (l0.map (·.data.toList)) a1.data.toList).length≤140737488355328) :
  Calls Tryd.prog 74 #[.slice A0 l0.length c0,.string a1] w fun e w'=>e=.returned (.string ⟨(Lib.join (l0.map (·.data.toList)) a1.data.toList).toArray⟩)∧Below w.heap.size w w':=by
 cases l0 with
 | nil=>exact(Tryd.strings_Join_none A0 c0 a1 w).mono fun e w' ⟨he,hw⟩=>⟨he,hw ▸ Below.refl _ _⟩
 | cons x t=>
  obtain⟨ad,hA,_⟩:=hr0.2.2 (by simp)
  have hsp:=hs0 ad hA
  obtain⟨b,o,sp⟩:=ad
  simp only at hsp
  subst hsp;subst hA
  have hcells:∀(j:Nat) y,(x :: t)[j]? = some y→w.cell? ⟨b,o+j,none⟩=some (.string y):=fun j y hy=>by
   have hj:=(List.getElem?_eq_some_iff.1 hy).1
   obtain⟨ad,he,hc⟩:=Kd.at_string hr0 (j:Int) (by omega) (by omega)
   cases he
   rw[Int.toNat_natCast,add_spot] at hc
   rw[hc]
   unfold rdOf
   rw[Int.toNat_natCast,List.getD_eq_getElem?_getD,hy];rfl
  have hbk:b<w.heap.size:=Zb w _ (hcells 0 x rfl)
  exact Tryd.strings_Join b o c0 (x :: t) a1 w hcells hbk (by omega) hc0 h2
set_option maxHeartbeats 4000000 in
theorem ZU.calls (A0:Option Addr) (c0:Nat) (l0:List ByteArray) (a1:ByteArray) (r:ByteArray) (w:World) (hr0:Kd.C Kd.string w A0 l0.length l0) (hc0:l0.length≤c0) (hs0:∀ad,A0=some ad→ad.spot=none) (h:ZU.f l0 a1=some r) :
  Calls Tryd.prog 40 #[.slice A0 l0.length c0,.string a1] w fun e w'=>e=.returned (.string r)∧Below w.heap.size w w':=by
 unfold ZU.f at h
 by_cases hb:l0.length≤1048576∧(Lib.join (l0.map (·.data.toList)) a1.data.toList).length≤140737488355328
 case neg=>rw[if_neg hb] at h;exact absurd h (by simp)
 rw[if_pos hb] at h
 obtain rfl:=Ze h
 have HC:=Za (ZU.lib A0 c0 l0 a1 w hr0 hc0 hs0 hb.1 hb.2)
 clear h hr0 hc0 hs0 hb
 go_enter Tryd.func40,Tryd.ntmps40
 go_wp2_with (go_at_call 74;refine HC.out.mono ?_;rintro e w' ⟨rfl,hb⟩)
 go_ret
 exact⟨rfl,hb⟩
def Zp.l0:Nat→List ByteArray→List Int→Int→Int→Option (ByteArray)
 | 0,_,_,_,_=>none
 | k+1,x3,x13,x14,x15=>if x15<x14 then(if 0≤x15 then(if x15<(x13.length:Int) then((ZC.f (rd x13 x15)).bind fun t11004=>((ZJ.f t11004).bind fun t11005=>(if 1+t11005.size≤9223372036854775807 then(if (rd x13 x15)<0 then(if 1+((⟨#[112]⟩:ByteArray) ++ t11005).size≤9223372036854775807 then(if x3.length<8796093022208 then(Zp.l0 k (x3 ++ [(⟨#[33]⟩:ByteArray) ++ ((⟨#[112]⟩:ByteArray) ++ t11005)]) x13 x14 (wrap64 (x15+1))) else(none)) else(none)) else(if x3.length<8796093022208 then(Zp.l0 k (x3 ++ [(⟨#[112]⟩:ByteArray) ++ t11005]) x13 x14 (wrap64 (x15+1))) else(none))) else(none)))) else(none)) else(none)) else((ZU.f x3 (⟨#[38]⟩:ByteArray)).bind fun t11002=>(some t11002))
def Zp.f (k:Nat) (l0:List Int):Option (ByteArray):=(Zv.f k l0).bind fun t11001=>(if t11001=true then(if (l0.length:Int)=0 then(some (⟨#[45]⟩:ByteArray)) else(Zp.l0 k ([]:List ByteArray) l0 (l0.length:Int) 0)) else(some (⟨#[]⟩:ByteArray)))
set_option maxHeartbeats 8000000 in
set_option maxRecDepth 100000 in
theorem Zp.calls (k:Nat) (A0:Option Addr) (c0:Nat) (l0:List Int) (r:ByteArray) (w:World) (hr0:Kd.C (Kd.int .i64) w A0 l0.length l0) (hc0:l0.length≤c0) (ht:TW w) (h:Zp.f k l0=some r) :
  Calls Tryd.prog 11 #[.slice A0 l0.length c0] w fun e w'=>e=.returned (.string r)∧Below w.heap.size w w':=by
 have HTW:=Za ht;clear ht;have HR0:=Za hr0;have HC0:=Za hc0;clear hr0 hc0
 have HB:=Za (Below.refl w.heap.size w)
 have H:((Zv.f k l0).bind fun t11001=>(if t11001=true then(if (l0.length:Int)=0 then(some (⟨#[45]⟩:ByteArray)) else(Zp.l0 k ([]:List ByteArray) l0 (l0.length:Int) 0)) else(some (⟨#[]⟩:ByteArray))))=some r:=h
 clear h
 replace H:=Zf H
 obtain⟨t11001,A20,H⟩:=H
 replace H:(if t11001=true then(if (l0.length:Int)=0 then(some (⟨#[45]⟩:ByteArray)) else(Zp.l0 k ([]:List ByteArray) l0 (l0.length:Int) 0)) else(some (⟨#[]⟩:ByteArray)))=some r:=H
 have A2:=Za A20;clear A20
 by_cases c3:t11001=true
 ·subst c3
  have H1:(if (l0.length:Int)=0 then(some (⟨#[45]⟩:ByteArray)) else(Zp.l0 k ([]:List ByteArray) l0 (l0.length:Int) 0))=some r:=by rw[if_pos rfl] at H;exact H
  clear H
  have H:=H1
  clear H1
  by_cases c4:(l0.length:Int)=0
  ·rw[if_pos c4] at H
   have c4b0:((l0.length:Int) == 0)=true:=beq_iff_eq.mpr c4
   have c4b1:((l0.length:Int) != 0)=false:=bne_eq_false_iff_eq.mpr c4
   clear c4
   obtain rfl:=Ze H
   go_enter Tryd.func11,Tryd.ntmps11
   go_wp2_with (first|((with_reducible refine ZD (f:=27) rfl ?_);refine ZN (some 8) rfl rfl Tryd.func27 (by kernel_rfl) rfl #[.slice A0 l0.length c0] rfl (by(try simp only[List.map_toArray,List.map_cons,List.map_nil]);first|done|rfl|(simp only[Zi,Zh];rfl)) ?_;(with_reducible refine(Zv.calls k _ _ l0 true _ ?side1 ?side2 A2.out).mono ?_);(case side1=>repeat(first|exact HR0.out|(with_reducible refine Kd.C_alloc ?_ _)|(with_reducible refine Kd.C_drewN ?_ _)|(with_reducible refine Kd.C_drew ?_)));(case side2=>exact HC0.out);rintro e w5 ⟨rfl,hb⟩;refine⟨_,rfl,?_⟩;replace HB:=Za (Zw (by repeat(first|(with_reducible first|exact HB.out|apply Zl|apply Zk|apply Zm)|exact HB.out)) hb);(try clear hb);(try clear hb2);(try clear hk);(try clear hi)))
   go_ret
   exact⟨by first|rfl|(simp[Zu,Zt] <;> rfl)|(simp[*,Zu,Zt] <;> rfl),by repeat(first|(with_reducible first|exact HB.out|apply Zl|apply Zk|apply Zm)|exact HB.out)⟩
  ·rw[if_neg c4] at H
   have c4b0:((l0.length:Int) == 0)=false:=beq_eq_false_iff_ne.mpr c4
   have c4b1:((l0.length:Int) != 0)=true:=bne_iff_ne.mpr c4
   have c4b2:¬(l0=[]):=fun h_=>c4 (by rw[h_];rfl)
   have H':=Za H
   clear H
   go_enter Tryd.func11,Tryd.ntmps11
   go_wp2_with (first|((with_reducible refine ZD (f:=27) rfl ?_);refine ZN (some 8) rfl rfl Tryd.func27 (by kernel_rfl) rfl #[.slice A0 l0.length c0] rfl (by(try simp only[List.map_toArray,List.map_cons,List.map_nil]);first|done|rfl|(simp only[Zi,Zh];rfl)) ?_;(with_reducible refine(Zv.calls k _ _ l0 true _ ?side1 ?side2 A2.out).mono ?_);(case side1=>repeat(first|exact HR0.out|(with_reducible refine Kd.C_alloc ?_ _)|(with_reducible refine Kd.C_drewN ?_ _)|(with_reducible refine Kd.C_drew ?_)));(case side2=>exact HC0.out);rintro e w6 ⟨rfl,hb⟩;refine⟨_,rfl,?_⟩;replace HB:=Za (Zw (by repeat(first|(with_reducible first|exact HB.out|apply Zl|apply Zk|apply Zm)|exact HB.out)) hb);(try clear hb);(try clear hb2);(try clear hk);(try clear hi)))
   go_loopg [3,15] k (fun kq v3 v15 w'=>∃(x3_1:List ByteArray) (x15_1:Int),v15=.int .i64 x15_1∧Aside0 (Zp.l0 kq x3_1 l0 (l0.length:Int) x15_1=some r)∧Aside0 (kq≤k)∧Aside0 (Kd.R Kd.string 9 w' w.heap.size (fun _=>True) v3 x3_1)∧Aside0 (Below w.heap.size w w'))
   case atStart=>exact⟨(([]:List ByteArray)),(0),(by first|rfl|(simp;done)|(simp[*];done)),H',⟨Nat.le_refl _⟩,⟨by first|exact Kd.R_nil _ _ _ _ _|exact Kd.N_nil _ _ _ _ _|exact Kd.V_nil _ _ _ _ _|exact Kd.Q_nil _ _ _ _ _|exact Kd.S_nil _ _ _ _ _⟩,⟨by repeat(first|(with_reducible first|exact HB.out|apply Zl|apply Zk|apply Zm)|exact HB.out)⟩⟩
   case round=>
    clear H'
    try clear c1
    try clear c2
    try clear p2
    try clear c3
    try clear c4
    try clear c4b0
    try clear c4b1
    try clear c4b2
    obtain⟨x3_1,x15_1,rfl,HA,HK1,HO_3,HB⟩:=hrel
    cases gk with
    | zero=>exact absurd HA.out (by simp[Zp.l0])
    | succ k1=>
     have H:=HA.out
     clear HA
     simp only[Zp.l0] at H
     by_cases c7:x15_1<(l0.length:Int)
     ·rw[if_pos c7] at H
      have c7b0:decide (x15_1<(l0.length:Int))=true:=Zd c7
      clear c7
      by_cases c8:0≤x15_1
      ·rw[if_pos c8] at H
       have c8b0:decide (0≤x15_1)=true:=Zd c8
       clear c8
       by_cases c9:x15_1<(l0.length:Int)
       ·rw[if_pos c9] at H
        have c9b0:decide (x15_1<(l0.length:Int))=true:=Zd c9
        clear c9
        replace H:=Zf H
        obtain⟨t11004,A100,H⟩:=H
        replace H:((ZJ.f t11004).bind fun t11005=>(if 1+t11005.size≤9223372036854775807 then(if (rd l0 x15_1)<0 then(if 1+((⟨#[112]⟩:ByteArray) ++ t11005).size≤9223372036854775807 then(if x3_1.length<8796093022208 then(Zp.l0 k1 (x3_1 ++ [(⟨#[33]⟩:ByteArray) ++ ((⟨#[112]⟩:ByteArray) ++ t11005)]) l0 (l0.length:Int) (wrap64 (x15_1+1))) else(none)) else(none)) else(if x3_1.length<8796093022208 then(Zp.l0 k1 (x3_1 ++ [(⟨#[112]⟩:ByteArray) ++ t11005]) l0 (l0.length:Int) (wrap64 (x15_1+1))) else(none))) else(none)))=some r:=H
        have A10:=Za A100;clear A100
        replace H:=Zf H
        obtain⟨t11005,A110,H⟩:=H
        replace H:(if 1+t11005.size≤9223372036854775807 then(if (rd l0 x15_1)<0 then(if 1+((⟨#[112]⟩:ByteArray) ++ t11005).size≤9223372036854775807 then(if x3_1.length<8796093022208 then(Zp.l0 k1 (x3_1 ++ [(⟨#[33]⟩:ByteArray) ++ ((⟨#[112]⟩:ByteArray) ++ t11005)]) l0 (l0.length:Int) (wrap64 (x15_1+1))) else(none)) else(none)) else(if x3_1.length<8796093022208 then(Zp.l0 k1 (x3_1 ++ [(⟨#[112]⟩:ByteArray) ++ t11005]) l0 (l0.length:Int) (wrap64 (x15_1+1))) else(none))) else(none))=some r:=H
        have A11:=Za A110;clear A110
        by_cases c12:1+t11005.size≤9223372036854775807
        ·rw[if_pos c12] at H
         have c12b0:=eq_true c12
         have c12b1:decide (1+t11005.size≤9223372036854775807)=true:=Zd c12
         try have c12b2:(9223372036854775807<1+t11005.size)=False:=eq_false (Nat.not_lt.2 c12)
         by_cases c13:(rd l0 x15_1)<0
         ·rw[if_pos c13] at H
          have c13b0:decide ((rd l0 x15_1)<0)=true:=Zd c13
          clear c13
          by_cases c14:1+((⟨#[112]⟩:ByteArray) ++ t11005).size≤9223372036854775807
          ·rw[if_pos c14] at H
           have c14b0:=eq_true c14
           have c14b1:decide (1+((⟨#[112]⟩:ByteArray) ++ t11005).size≤9223372036854775807)=true:=Zd c14
           try have c14b2:(9223372036854775807<1+((⟨#[112]⟩:ByteArray) ++ t11005).size)=False:=eq_false (Nat.not_lt.2 c14)
           try have c14b4:(9223372036854775807<1+(1+t11005.size))=False:=eq_false (Nat.not_lt.2 (by have h_:=c14;simp only[ByteArray.size_append] at h_;exact h_))
           by_cases c15:x3_1.length<8796093022208
           ·rw[if_pos c15] at H
            have LMc15:=Za c15;clear c15
            obtain⟨y11006,hy11006⟩:∃y_:List ByteArray,y_=(x3_1 ++ [(⟨#[33]⟩:ByteArray) ++ ((⟨#[112]⟩:ByteArray) ++ t11005)]):=⟨_,rfl⟩
            replace H:(Zp.l0 k1 y11006 l0 (l0.length:Int) (wrap64 (x15_1+1)))=some r:=by first|(rw[hy11006];with_reducible exact H)|(have H2_:=(Zg _ _).symm.trans H;rw[hy11006];with_reducible exact H2_)|(have H2_:=(Zg _ _).symm.trans H;with_reducible exact H2_)|with_reducible exact H|(rw[hy11006];exact H)|exact H
            have Ny11006:=Za hy11006;clear hy11006
            have H':=Za H
            clear H
            have p11003:0≤(x15_1:Int):=Zc (by first|(with_reducible assumption)|assumption)
            have q11003:x15_1<(l0.length:Int):=Zc (by first|(with_reducible assumption)|assumption)
            obtain⟨ad11003,e11003,hx11003_0⟩:=Kd.at_int HR0.out x15_1 p11003 q11003
            cases e11003
            replace hx11003_0:=(HB.out.cell (Zb w _ hx11003_0)).trans hx11003_0
            replace p11003:=eq_true p11003
            replace q11003:=eq_true q11003
            go_wp2_with (first|((with_reducible refine ZD (f:=39) rfl ?_);refine ZN (some 20) rfl rfl Tryd.func39 (by kernel_rfl) rfl #[.int .i64 (rd l0 x15_1)] rfl (by(try simp only[List.map_toArray,List.map_cons,List.map_nil]);first|done|rfl|(simp only[Zi,Zh];rfl)) ?_;(with_reducible refine(ZC.calls (rd l0 x15_1) t11004 _ A10.out).mono ?_);rintro e w16 ⟨rfl,hb⟩;refine⟨_,rfl,?_⟩;replace HO_3:=Za (Kd.R_below (by(with_reducible repeat(first|apply Kd.R_alloc|apply Kd.R_drewN|apply Kd.R_drew));exact HO_3.out) hb);replace HB:=Za (Zw (by repeat(first|(with_reducible first|exact HB.out|apply Zl|apply Zk|apply Zm)|exact HB.out)) hb);(try clear hb);(try clear hb2);(try clear hk);(try clear hi))|((with_reducible refine ZD (f:=38) rfl ?_);refine ZN (some 21) rfl rfl Tryd.func38 (by kernel_rfl) rfl #[.int .i64 t11004] rfl (by(try simp only[List.map_toArray,List.map_cons,List.map_nil]);first|done|rfl|(simp only[Zi,Zh];rfl)) ?_;(with_reducible refine(ZJ.calls t11004 t11005 _ ?sideT A11.out).mono ?_);(case sideT=>exact TW.below HTW.out (by repeat(first|(with_reducible first|exact HB.out|apply Zl|apply Zk|apply Zm)|exact HB.out)));rintro e w17 ⟨rfl,hb⟩;refine⟨_,rfl,?_⟩;replace HO_3:=Za (Kd.R_below (by(with_reducible repeat(first|apply Kd.R_alloc|apply Kd.R_drewN|apply Kd.R_drew));exact HO_3.out) hb);replace HB:=Za (Zw (by repeat(first|(with_reducible first|exact HB.out|apply Zl|apply Zk|apply Zm)|exact HB.out)) hb);(try clear hb);(try clear hb2);(try clear hk);(try clear hi))|((with_reducible refine Zai (b:=.append) (xs:=#[.tmp 27,.tmp 29]) rfl ?_);at_builtin;refine Kd.R_append Kd.string (w0:=w) w.heap.size rfl (.tmp 27) (.tmp 29) 56 9 (.string ⟨#[]⟩) 16 rfl Tryd.underlying56 info9 rfl (by decide) (by omega) u3 x3_1 ((⟨#[33]⟩:ByteArray) ++ ((⟨#[112]⟩:ByteArray) ++ t11005)) [.string ((⟨#[33]⟩:ByteArray) ++ ((⟨#[112]⟩:ByteArray) ++ t11005))] (fun _=>True) (fun _=>False) rfl rfl ?aP (fun _ hk=>hk.elim) ?aF ?aO ?aB ?aS ?aL ?_;(case aP=>exact rfl);(case aB=>exact(by repeat(first|(with_reducible first|exact HB.out|apply Zl|apply Zk|apply Zm)|exact HB.out)));(case aF=>exact(fun _ _=>trivial));(case aO=>exact(by(with_reducible repeat(first|apply Kd.R_alloc|apply Kd.R_drewN|apply Kd.R_drew));exact HO_3.out));(case aS=>exact(ZK (by repeat(first|(with_reducible first|exact HB.out|apply Zl|apply Zk|apply Zm)|exact HB.out))));(case aL=>have:=LMc15.out;omega);intro v11007 w18 ho hb hg hat;rw[← Ny11006.out] at ho;have HO11008:=Za (ho);replace HB:=Za (hb);clear HO_3;clear ho hb hg hat))
            go_roundg k1
            case measure=>have:=HK1.out;omega
            case rel=>exact⟨(y11006),(wrap64 (x15_1+1)),(by first|rfl|(simp;done)|(simp[*];done)),H',⟨by have:=HK1.out;omega⟩,⟨by(with_reducible repeat(first|apply Kd.R_alloc|apply Kd.R_drewN|apply Kd.R_drew));exact HO11008.out⟩,⟨by repeat(first|(with_reducible first|exact HB.out|apply Zl|apply Zk|apply Zm)|exact HB.out)⟩⟩
           ·rw[if_neg c15] at H
            exact absurd H (by simp)
          ·rw[if_neg c14] at H
           exact absurd H (by simp)
         ·rw[if_neg c13] at H
          have c13b0:decide ((rd l0 x15_1)<0)=false:=decide_eq_false c13
          clear c13
          by_cases c19:x3_1.length<8796093022208
          ·rw[if_pos c19] at H
           have LMc19:=Za c19;clear c19
           obtain⟨y11009,hy11009⟩:∃y_:List ByteArray,y_=(x3_1 ++ [(⟨#[112]⟩:ByteArray) ++ t11005]):=⟨_,rfl⟩
           replace H:(Zp.l0 k1 y11009 l0 (l0.length:Int) (wrap64 (x15_1+1)))=some r:=by first|(rw[hy11009];with_reducible exact H)|(have H2_:=(Zg _ _).symm.trans H;rw[hy11009];with_reducible exact H2_)|(have H2_:=(Zg _ _).symm.trans H;with_reducible exact H2_)|with_reducible exact H|(rw[hy11009];exact H)|exact H
           have Ny11009:=Za hy11009;clear hy11009
           have H':=Za H
           clear H
           have p11003:0≤(x15_1:Int):=Zc (by first|(with_reducible assumption)|assumption)
           have q11003:x15_1<(l0.length:Int):=Zc (by first|(with_reducible assumption)|assumption)
           obtain⟨ad11003,e11003,hx11003_0⟩:=Kd.at_int HR0.out x15_1 p11003 q11003
           cases e11003
           replace hx11003_0:=(HB.out.cell (Zb w _ hx11003_0)).trans hx11003_0
           replace p11003:=eq_true p11003
           replace q11003:=eq_true q11003
           go_wp2_with (first|((with_reducible refine ZD (f:=39) rfl ?_);refine ZN (some 20) rfl rfl Tryd.func39 (by kernel_rfl) rfl #[.int .i64 (rd l0 x15_1)] rfl (by(try simp only[List.map_toArray,List.map_cons,List.map_nil]);first|done|rfl|(simp only[Zi,Zh];rfl)) ?_;(with_reducible refine(ZC.calls (rd l0 x15_1) t11004 _ A10.out).mono ?_);rintro e w20 ⟨rfl,hb⟩;refine⟨_,rfl,?_⟩;replace HO_3:=Za (Kd.R_below (by(with_reducible repeat(first|apply Kd.R_alloc|apply Kd.R_drewN|apply Kd.R_drew));exact HO_3.out) hb);replace HB:=Za (Zw (by repeat(first|(with_reducible first|exact HB.out|apply Zl|apply Zk|apply Zm)|exact HB.out)) hb);(try clear hb);(try clear hb2);(try clear hk);(try clear hi))|((with_reducible refine ZD (f:=38) rfl ?_);refine ZN (some 21) rfl rfl Tryd.func38 (by kernel_rfl) rfl #[.int .i64 t11004] rfl (by(try simp only[List.map_toArray,List.map_cons,List.map_nil]);first|done|rfl|(simp only[Zi,Zh];rfl)) ?_;(with_reducible refine(ZJ.calls t11004 t11005 _ ?sideT A11.out).mono ?_);(case sideT=>exact TW.below HTW.out (by repeat(first|(with_reducible first|exact HB.out|apply Zl|apply Zk|apply Zm)|exact HB.out)));rintro e w21 ⟨rfl,hb⟩;refine⟨_,rfl,?_⟩;replace HO_3:=Za (Kd.R_below (by(with_reducible repeat(first|apply Kd.R_alloc|apply Kd.R_drewN|apply Kd.R_drew));exact HO_3.out) hb);replace HB:=Za (Zw (by repeat(first|(with_reducible first|exact HB.out|apply Zl|apply Zk|apply Zm)|exact HB.out)) hb);(try clear hb);(try clear hb2);(try clear hk);(try clear hi))|((with_reducible refine Zai (b:=.append) (xs:=#[.tmp 27,.tmp 29]) rfl ?_);at_builtin;refine Kd.R_append Kd.string (w0:=w) w.heap.size rfl (.tmp 27) (.tmp 29) 56 9 (.string ⟨#[]⟩) 16 rfl Tryd.underlying56 info9 rfl (by decide) (by omega) u3 x3_1 ((⟨#[112]⟩:ByteArray) ++ t11005) [.string ((⟨#[112]⟩:ByteArray) ++ t11005)] (fun _=>True) (fun _=>False) rfl rfl ?aP (fun _ hk=>hk.elim) ?aF ?aO ?aB ?aS ?aL ?_;(case aP=>exact rfl);(case aB=>exact(by repeat(first|(with_reducible first|exact HB.out|apply Zl|apply Zk|apply Zm)|exact HB.out)));(case aF=>exact(fun _ _=>trivial));(case aO=>exact(by(with_reducible repeat(first|apply Kd.R_alloc|apply Kd.R_drewN|apply Kd.R_drew));exact HO_3.out));(case aS=>exact(ZK (by repeat(first|(with_reducible first|exact HB.out|apply Zl|apply Zk|apply Zm)|exact HB.out))));(case aL=>have:=LMc19.out;omega);intro v11010 w22 ho hb hg hat;rw[← Ny11009.out] at ho;have HO11011:=Za (ho);replace HB:=Za (hb);clear HO_3;clear ho hb hg hat))
           go_roundg k1
           case measure=>have:=HK1.out;omega
           case rel=>exact⟨(y11009),(wrap64 (x15_1+1)),(by first|rfl|(simp;done)|(simp[*];done)),H',⟨by have:=HK1.out;omega⟩,⟨by(with_reducible repeat(first|apply Kd.R_alloc|apply Kd.R_drewN|apply Kd.R_drew));exact HO11011.out⟩,⟨by repeat(first|(with_reducible first|exact HB.out|apply Zl|apply Zk|apply Zm)|exact HB.out)⟩⟩
          ·rw[if_neg c19] at H
           exact absurd H (by simp)
        ·rw[if_neg c12] at H
         exact absurd H (by simp)
       ·rw[if_neg c9] at H
        exact absurd H (by simp)
      ·rw[if_neg c8] at H
       exact absurd H (by simp)
     ·rw[if_neg c7] at H
      have c7b0:decide (x15_1<(l0.length:Int))=false:=decide_eq_false c7
      clear c7
      replace H:=Zf H
      obtain⟨t11002,A230,H⟩:=H
      replace H:(some t11002)=some r:=H
      have A23:=Za A230;clear A230
      obtain rfl:=Ze H
      obtain⟨Ao24,co24,eo24⟩:=Kd.R_slice HO_3.out
      subst eo24
      go_wp2_with (first|((with_reducible refine ZD (f:=40) rfl ?_);refine ZN (some 33) rfl rfl Tryd.func40 (by kernel_rfl) rfl #[.slice Ao24 x3_1.length co24,.string (⟨#[38]⟩:ByteArray)] rfl (by(try simp only[List.map_toArray,List.map_cons,List.map_nil]);first|done|rfl|(simp only[Zi,Zh];rfl)) ?_;(with_reducible refine(ZU.calls _ _ x3_1 (⟨#[38]⟩:ByteArray) t11002 _ ?side1 ?side2 ?sideS A23.out).mono ?_);(case sideS=>exact R_spot HO_3.out);(case side1=>repeat(first|exact(Kd.R_reads' HO_3.out).2.2|(with_reducible refine Kd.C_alloc ?_ _)|(with_reducible refine Kd.C_drewN ?_ _)|(with_reducible refine Kd.C_drew ?_)));(case side2=>exact(Kd.R_reads' HO_3.out).2.1);rintro e w25 ⟨rfl,hb⟩;refine⟨_,rfl,?_⟩;replace HO_3:=Za (Kd.R_below (by(with_reducible repeat(first|apply Kd.R_alloc|apply Kd.R_drewN|apply Kd.R_drew));exact HO_3.out) hb);replace HB:=Za (Zw (by repeat(first|(with_reducible first|exact HB.out|apply Zl|apply Zk|apply Zm)|exact HB.out)) hb);(try clear hb);(try clear hb2);(try clear hk);(try clear hi)))
      go_ret
      exact⟨by first|rfl|(simp[Zu,Zt] <;> rfl)|(simp[*,Zu,Zt] <;> rfl),by repeat(first|(with_reducible first|exact HB.out|apply Zl|apply Zk|apply Zm)|exact HB.out)⟩
 ·replace c3:=Bool.eq_false_iff.mpr c3
  subst c3
  have H1:(some (⟨#[]⟩:ByteArray))=some r:=by rw[if_neg (show ¬(false=true) by decide)] at H;exact H
  clear H
  have H:=H1
  clear H1
  obtain rfl:=Ze H
  go_enter Tryd.func11,Tryd.ntmps11
  go_wp2_with (first|((with_reducible refine ZD (f:=27) rfl ?_);refine ZN (some 8) rfl rfl Tryd.func27 (by kernel_rfl) rfl #[.slice A0 l0.length c0] rfl (by(try simp only[List.map_toArray,List.map_cons,List.map_nil]);first|done|rfl|(simp only[Zi,Zh];rfl)) ?_;(with_reducible refine(Zv.calls k _ _ l0 false _ ?side1 ?side2 A2.out).mono ?_);(case side1=>repeat(first|exact HR0.out|(with_reducible refine Kd.C_alloc ?_ _)|(with_reducible refine Kd.C_drewN ?_ _)|(with_reducible refine Kd.C_drew ?_)));(case side2=>exact HC0.out);rintro e w26 ⟨rfl,hb⟩;refine⟨_,rfl,?_⟩;replace HB:=Za (Zw (by repeat(first|(with_reducible first|exact HB.out|apply Zl|apply Zk|apply Zm)|exact HB.out)) hb);(try clear hb);(try clear hb2);(try clear hk);(try clear hi)))
  go_ret
  exact⟨by first|rfl|(simp[Zu,Zt] <;> rfl)|(simp[*,Zu,Zt] <;> rfl),by repeat(first|(with_reducible first|exact HB.out|apply Zl|apply Zk|apply Zm)|exact HB.out)⟩
def Zy.f (a0:Int):Option (Int):=if a0<0 then(some (wrap64 (-a0))) else(some a0)
set_option maxHeartbeats 8000000 in
set_option maxRecDepth 100000 in
theorem Zy.calls (a0:Int) (r:Int) (w:World) (h:Zy.f a0=some r) :
  Calls Tryd.prog 36 #[.int .i64 a0] w fun e w'=>e=.returned (.int .i64 r)∧Zs w w':=by
 have H:(if a0<0 then(some (wrap64 (-a0))) else(some a0))=some r:=h
 clear h
 by_cases c2:a0<0
 ·rw[if_pos c2] at H
  have c2b0:decide (a0<0)=true:=Zd c2
  clear c2
  obtain rfl:=Ze H
  go_enter Tryd.func36,Tryd.ntmps36
  go_wp2
  go_ret
  exact⟨by first|rfl|(simp;done)|(simp[*];done),by repeat(first|exact Zs.refl _|apply Zs.step)⟩
 ·rw[if_neg c2] at H
  have c2b0:decide (a0<0)=false:=decide_eq_false c2
  clear c2
  obtain rfl:=Ze H
  go_enter Tryd.func36,Tryd.ntmps36
  go_wp2
  go_ret
  exact⟨by first|rfl|(simp;done)|(simp[*];done),by repeat(first|exact Zs.refl _|apply Zs.step)⟩
def ZS.f (a0:Int) (a1:Int) (a2:Int):Option (Bool):=if a0≥a1 then(some (decide (a0≤a2))) else(some false)
set_option maxHeartbeats 8000000 in
set_option maxRecDepth 100000 in
theorem ZS.calls (a0:Int) (a1:Int) (a2:Int) (r:Bool) (w:World) (h:ZS.f a0 a1 a2=some r) :
  Calls Tryd.prog 44 #[.int .i64 a0,.int .i64 a1,.int .i64 a2] w fun e w'=>e=.returned (.bool r)∧Zs w w':=by
 have H:(if a0≥a1 then(some (decide (a0≤a2))) else(some false))=some r:=h
 clear h
 by_cases c4:a0≥a1
 ·rw[if_pos c4] at H
  have c4b0:decide (a1≤a0)=true:=Zd c4
  clear c4
  obtain rfl:=Ze H
  go_enter Tryd.func44,Tryd.ntmps44
  go_wp2
  go_ret
  exact⟨by first|rfl|(simp;done)|(simp[*];done),by repeat(first|exact Zs.refl _|apply Zs.step)⟩
 ·rw[if_neg c4] at H
  have c4b0:decide (a1≤a0)=false:=decide_eq_false c4
  clear c4
  obtain rfl:=Ze H
  go_enter Tryd.func44,Tryd.ntmps44
  go_wp2
  go_ret
  exact⟨by first|rfl|(simp;done)|(simp[*];done),by repeat(first|exact Zs.refl _|apply Zs.step)⟩
def Zr.l0:Nat→List Int→List Int→Int→Int→Option (Bool)
 | 0,_,_,_,_=>none
 | k+1,x0,x5,x6,x7=>if x7<x6 then(if 0≤x7 then(if x7<(x5.length:Int) then(if (rd x5 x7)=0 then(some false) else((ZS.f (rd x5 x7) (-3) 3).bind fun t34002=>(if t34002=true then(if x7 > 0 then(if 0≤(wrap64 (x7 - 1)) then(if (wrap64 (x7 - 1))<(x0.length:Int) then((Zy.f (rd x0 (wrap64 (x7 - 1)))).bind fun t34004=>((Zy.f (rd x5 x7)).bind fun t34005=>(if t34004≥t34005 then(some false) else(Zr.l0 k x0 x5 x6 (wrap64 (x7+1)))))) else(none)) else(none)) else(Zr.l0 k x0 x5 x6 (wrap64 (x7+1)))) else(some false)))) else(none)) else(none)) else(some true)
def Zr.f (k:Nat) (l0:List Int):Option (Bool):=Zr.l0 k l0 l0 (l0.length:Int) 0
set_option maxHeartbeats 8000000 in
set_option maxRecDepth 100000 in
theorem Zr.calls (k:Nat) (A0:Option Addr) (c0:Nat) (l0:List Int) (r:Bool) (w:World) (hr0:Kd.C (Kd.int .i64) w A0 l0.length l0) (hc0:l0.length≤c0) (h:Zr.f k l0=some r) :
  Calls Tryd.prog 34 #[.slice A0 l0.length c0] w fun e w'=>e=.returned (.bool r)∧Zs w w':=by
 have HR0:=Za hr0;have HC0:=Za hc0;clear hr0 hc0
 have H:(Zr.l0 k l0 l0 (l0.length:Int) 0)=some r:=h
 clear h
 have H':=Za H
 clear H
 go_enter Tryd.func34,Tryd.ntmps34
 go_wp2
 go_loopg [7] k (fun kq v7 w'=>∃(x7_1:Int),v7=.int .i64 x7_1∧Aside0 (Zr.l0 kq l0 l0 (l0.length:Int) x7_1=some r)∧Aside0 (kq≤k)∧Zs w w')
 case atStart=>exact⟨(0),(by first|rfl|(simp;done)|(simp[*];done)),H',⟨Nat.le_refl _⟩,by repeat(first|exact Zs.refl _|apply Zs.step)⟩
 case round=>
  clear H'
  obtain⟨x7_1,rfl,HA,HK1,⟨m1,rfl⟩⟩:=hrel
  cases gk with
  | zero=>exact absurd HA.out (by simp[Zr.l0])
  | succ k1=>
   have H:=HA.out
   clear HA
   simp only[Zr.l0] at H
   by_cases c2:x7_1<(l0.length:Int)
   ·rw[if_pos c2] at H
    have c2b0:decide (x7_1<(l0.length:Int))=true:=Zd c2
    clear c2
    by_cases c3:0≤x7_1
    ·rw[if_pos c3] at H
     have c3b0:decide (0≤x7_1)=true:=Zd c3
     clear c3
     by_cases c4:x7_1<(l0.length:Int)
     ·rw[if_pos c4] at H
      have c4b0:decide (x7_1<(l0.length:Int))=true:=Zd c4
      clear c4
      by_cases c5:(rd l0 x7_1)=0
      ·rw[if_pos c5] at H
       have c5b0:((rd l0 x7_1) == 0)=true:=beq_iff_eq.mpr c5
       have c5b1:((rd l0 x7_1) != 0)=false:=bne_eq_false_iff_eq.mpr c5
       clear c5
       obtain rfl:=Ze H
       have p34001:0≤(x7_1:Int):=Zc (by first|(with_reducible assumption)|assumption)
       have q34001:x7_1<(l0.length:Int):=Zc (by first|(with_reducible assumption)|assumption)
       obtain⟨ad34001,e34001,hx34001_0⟩:=Kd.at_int HR0.out x7_1 p34001 q34001
       cases e34001
       replace p34001:=eq_true p34001
       replace q34001:=eq_true q34001
       go_wp2
       go_ret
       exact⟨by first|rfl|(simp;done)|(simp[*];done),by repeat(first|exact Zs.refl _|apply Zs.step)⟩
      ·rw[if_neg c5] at H
       have c5b0:((rd l0 x7_1) == 0)=false:=beq_eq_false_iff_ne.mpr c5
       have c5b1:((rd l0 x7_1) != 0)=true:=bne_iff_ne.mpr c5
       replace H:=Zf H
       obtain⟨t34002,A60,H⟩:=H
       replace H:(if t34002=true then(if x7_1 > 0 then(if 0≤(wrap64 (x7_1 - 1)) then(if (wrap64 (x7_1 - 1))<(l0.length:Int) then((Zy.f (rd l0 (wrap64 (x7_1 - 1)))).bind fun t34004=>((Zy.f (rd l0 x7_1)).bind fun t34005=>(if t34004≥t34005 then(some false) else(Zr.l0 k1 l0 l0 (l0.length:Int) (wrap64 (x7_1+1)))))) else(none)) else(none)) else(Zr.l0 k1 l0 l0 (l0.length:Int) (wrap64 (x7_1+1)))) else(some false))=some r:=H
       have A6:=Za A60;clear A60
       by_cases c7:t34002=true
       ·subst c7
        have H1:(if x7_1 > 0 then(if 0≤(wrap64 (x7_1 - 1)) then(if (wrap64 (x7_1 - 1))<(l0.length:Int) then((Zy.f (rd l0 (wrap64 (x7_1 - 1)))).bind fun t34004=>((Zy.f (rd l0 x7_1)).bind fun t34005=>(if t34004≥t34005 then(some false) else(Zr.l0 k1 l0 l0 (l0.length:Int) (wrap64 (x7_1+1)))))) else(none)) else(none)) else(Zr.l0 k1 l0 l0 (l0.length:Int) (wrap64 (x7_1+1))))=some r:=by rw[if_pos rfl] at H;exact H
        clear H
        have H:=H1
        clear H1
        by_cases c8:x7_1 > 0
        ·rw[if_pos c8] at H
         have c8b0:decide (0<x7_1)=true:=Zd c8
         clear c8
         obtain⟨ji9,hji9⟩:∃j_:Int,(wrap64 (x7_1 - 1))=j_:=⟨_,rfl⟩
         replace H:(if 0≤(ji9) then(if (ji9)<(l0.length:Int) then((Zy.f (rd l0 (ji9))).bind fun t34004=>((Zy.f (rd l0 x7_1)).bind fun t34005=>(if t34004≥t34005 then(some false) else(Zr.l0 k1 l0 l0 (l0.length:Int) (wrap64 (x7_1+1)))))) else(none)) else(none))=some r:=by first|(rw[hji9] at H;exact H)|(simp only[hji9] at H ⊢;exact H)
         (try rw[hji9] at A6)
         have hji9w:(IntKind.i64.wrap (x7_1 - 1))=ji9:=(ZQ _).trans hji9
         by_cases c10:0≤(ji9)
         ·rw[if_pos c10] at H
          have c10b0:decide (0≤(ji9))=true:=Zd c10
          clear c10
          by_cases c11:(ji9)<(l0.length:Int)
          ·rw[if_pos c11] at H
           have c11b0:decide ((ji9)<(l0.length:Int))=true:=Zd c11
           clear c11
           replace H:=Zf H
           obtain⟨t34004,A120,H⟩:=H
           replace H:((Zy.f (rd l0 x7_1)).bind fun t34005=>(if t34004≥t34005 then(some false) else(Zr.l0 k1 l0 l0 (l0.length:Int) (wrap64 (x7_1+1)))))=some r:=H
           have A12:=Za A120;clear A120
           replace H:=Zf H
           obtain⟨t34005,A130,H⟩:=H
           replace H:(if t34004≥t34005 then(some false) else(Zr.l0 k1 l0 l0 (l0.length:Int) (wrap64 (x7_1+1))))=some r:=H
           have A13:=Za A130;clear A130
           by_cases c14:t34004≥t34005
           ·rw[if_pos c14] at H
            have c14b0:decide (t34005≤t34004)=true:=Zd c14
            clear c14
            obtain rfl:=Ze H
            have p34001:0≤(x7_1:Int):=Zc (by first|(with_reducible assumption)|assumption)
            have q34001:x7_1<(l0.length:Int):=Zc (by first|(with_reducible assumption)|assumption)
            obtain⟨ad34001,e34001,hx34001_0⟩:=Kd.at_int HR0.out x7_1 p34001 q34001
            cases e34001
            replace p34001:=eq_true p34001
            replace q34001:=eq_true q34001
            go_wp2_with (first|(go_at_call 44;(with_reducible refine(ZS.calls (rd l0 x7_1) (-3) 3 true _ A6.out).mono ?_);rintro e w' ⟨rfl,⟨nd,rfl⟩⟩;have p34003:0≤((ji9):Int):=Zc (by first|(with_reducible assumption)|assumption);have q34003:(ji9)<(l0.length:Int):=Zc (by first|(with_reducible assumption)|assumption);obtain⟨ad34003,e34003,hx34003_0⟩:=Kd.at_int HR0.out (ji9) p34003 q34003;obtain rfl:ad34001=ad34003:=(by injection e34003);replace p34003:=eq_true p34003;replace q34003:=eq_true q34003)|(go_at_call 36;(with_reducible refine(Zy.calls (rd l0 (ji9)) t34004 _ A12.out).mono ?_);rintro e w' ⟨rfl,⟨nd,rfl⟩⟩)|(go_at_call 36;(with_reducible refine(Zy.calls (rd l0 x7_1) t34005 _ A13.out).mono ?_);rintro e w' ⟨rfl,⟨nd,rfl⟩⟩))
            go_ret
            exact⟨by first|rfl|(simp;done)|(simp only[← hji9] <;> (first|rfl|simp))|(simp[*];done),by repeat(first|exact Zs.refl _|apply Zs.step)⟩
           ·rw[if_neg c14] at H
            have c14b0:decide (t34005≤t34004)=false:=decide_eq_false c14
            clear c14
            have H':=Za H
            clear H
            have p34001:0≤(x7_1:Int):=Zc (by first|(with_reducible assumption)|assumption)
            have q34001:x7_1<(l0.length:Int):=Zc (by first|(with_reducible assumption)|assumption)
            obtain⟨ad34001,e34001,hx34001_0⟩:=Kd.at_int HR0.out x7_1 p34001 q34001
            cases e34001
            replace p34001:=eq_true p34001
            replace q34001:=eq_true q34001
            go_wp2_with (first|(go_at_call 44;(with_reducible refine(ZS.calls (rd l0 x7_1) (-3) 3 true _ A6.out).mono ?_);rintro e w' ⟨rfl,⟨nd,rfl⟩⟩;have p34003:0≤((ji9):Int):=Zc (by first|(with_reducible assumption)|assumption);have q34003:(ji9)<(l0.length:Int):=Zc (by first|(with_reducible assumption)|assumption);obtain⟨ad34003,e34003,hx34003_0⟩:=Kd.at_int HR0.out (ji9) p34003 q34003;obtain rfl:ad34001=ad34003:=(by injection e34003);replace p34003:=eq_true p34003;replace q34003:=eq_true q34003)|(go_at_call 36;(with_reducible refine(Zy.calls (rd l0 (ji9)) t34004 _ A12.out).mono ?_);rintro e w' ⟨rfl,⟨nd,rfl⟩⟩)|(go_at_call 36;(with_reducible refine(Zy.calls (rd l0 x7_1) t34005 _ A13.out).mono ?_);rintro e w' ⟨rfl,⟨nd,rfl⟩⟩))
            go_roundg k1
            case measure=>have:=HK1.out;omega
            case rel=>exact⟨(wrap64 (x7_1+1)),(by first|rfl|(simp;done)|(simp[*];done)),H',⟨by have:=HK1.out;omega⟩,by repeat(first|exact Zs.refl _|apply Zs.step)⟩
          ·rw[if_neg c11] at H
           exact absurd H (by simp)
         ·rw[if_neg c10] at H
          exact absurd H (by simp)
        ·rw[if_neg c8] at H
         have c8b0:decide (0<x7_1)=false:=decide_eq_false c8
         clear c8
         have H':=Za H
         clear H
         have p34001:0≤(x7_1:Int):=Zc (by first|(with_reducible assumption)|assumption)
         have q34001:x7_1<(l0.length:Int):=Zc (by first|(with_reducible assumption)|assumption)
         obtain⟨ad34001,e34001,hx34001_0⟩:=Kd.at_int HR0.out x7_1 p34001 q34001
         cases e34001
         replace p34001:=eq_true p34001
         replace q34001:=eq_true q34001
         go_wp2_with (first|(go_at_call 44;(with_reducible refine(ZS.calls (rd l0 x7_1) (-3) 3 true _ A6.out).mono ?_);rintro e w' ⟨rfl,⟨nd,rfl⟩⟩))
         go_roundg k1
         case measure=>have:=HK1.out;omega
         case rel=>exact⟨(wrap64 (x7_1+1)),(by first|rfl|(simp;done)|(simp[*];done)),H',⟨by have:=HK1.out;omega⟩,by repeat(first|exact Zs.refl _|apply Zs.step)⟩
       ·replace c7:=Bool.eq_false_iff.mpr c7
        subst c7
        have H1:(some false)=some r:=by rw[if_neg (show ¬(false=true) by decide)] at H;exact H
        clear H
        have H:=H1
        clear H1
        obtain rfl:=Ze H
        have p34001:0≤(x7_1:Int):=Zc (by first|(with_reducible assumption)|assumption)
        have q34001:x7_1<(l0.length:Int):=Zc (by first|(with_reducible assumption)|assumption)
        obtain⟨ad34001,e34001,hx34001_0⟩:=Kd.at_int HR0.out x7_1 p34001 q34001
        cases e34001
        replace p34001:=eq_true p34001
        replace q34001:=eq_true q34001
        go_wp2_with (first|(go_at_call 44;(with_reducible refine(ZS.calls (rd l0 x7_1) (-3) 3 false _ A6.out).mono ?_);rintro e w' ⟨rfl,⟨nd,rfl⟩⟩))
        go_ret
        exact⟨by first|rfl|(simp;done)|(simp[*];done),by repeat(first|exact Zs.refl _|apply Zs.step)⟩
     ·rw[if_neg c4] at H
      exact absurd H (by simp)
    ·rw[if_neg c3] at H
     exact absurd H (by simp)
   ·rw[if_neg c2] at H
    have c2b0:decide (x7_1<(l0.length:Int))=false:=decide_eq_false c2
    clear c2
    obtain rfl:=Ze H
    go_wp2
    go_ret
    exact⟨by first|rfl|(simp;done)|(simp[*];done),by repeat(first|exact Zs.refl _|apply Zs.step)⟩
mutual
def Zn.l0:Nat→Int→ByteArray→Option (ByteArray)
 | 0,_,_=>none
 | k+1,x0,x3=>if x0 > 9 then((some (([(wrap64 (48+(Int.tmod x0 10))) % 256]:List Int):List Int)).bind fun y35008=>(if (strOfNums y35008).size+x3.size≤9223372036854775807 then(Zn.l0 k (wrap64 (Int.tdiv x0 10)) ((strOfNums y35008) ++ x3)) else(none))) else((some (([(wrap64 (48+x0)) % 256]:List Int):List Int)).bind fun y35011=>(if (strOfNums y35011).size+x3.size≤9223372036854775807 then(some ((strOfNums y35011) ++ x3)) else(none)))
def Zn.f:Nat→Int→Option (ByteArray)
 | 0,_=>none
 | k+1,a0=>if a0<0 then(if (wrap64 (Int.tdiv a0 10))=0 then((some (([(wrap64 (48 - a0)) % 256]:List Int):List Int)).bind fun y35001=>(if 1+(strOfNums y35001).size≤9223372036854775807 then(some ((⟨#[45]⟩:ByteArray) ++ (strOfNums y35001))) else(none))) else((Zn.f k (wrap64 (Int.tdiv a0 10))).bind fun t35004=>((some (([(wrap64 (48 - (Int.tmod a0 10))) % 256]:List Int):List Int)).bind fun y35005=>(if t35004.size+(strOfNums y35005).size≤9223372036854775807 then(some (t35004 ++ (strOfNums y35005))) else(none))))) else(Zn.l0 k a0 (⟨#[]⟩:ByteArray))
end
def Zn.T4:Bool×List (List Nat×List Nat):=(true,[([],[]),([0],[0]),([1],[1]),([],[]),([3],[3]),([4],[4]),([5],[5]),([6],[6]),([7],[7]),([2,8],[2,8]),([9,2,0,1,2,3,4,5,6,7,8,9],[9])])
def Zn.B4:List Nat:=[0,1,3,0,8,24,56,120,248,511,1023]
theorem Zn.tab4:rtab .any (opsOf Tryd.f35 4)=Zn.T4:=by kernel_rfl
theorem Zn.bits4:ZaI Zn.T4.2 Zn.B4=true:=by kernel_rfl
set_option maxHeartbeats 8000000 in
set_option maxRecDepth 100000 in
theorem Zn.calls (k:Nat):∀(a0:Int) (r:ByteArray) (w:World) (h:Zn.f k a0=some r),
  Calls Tryd.prog 35 #[.int .i64 a0] w fun e w'=>e=.returned (.string r)∧Below w.heap.size w w':=by
 induction k using Nat.strongRecOn with
 | _ k ih=>
 intro a0 r w h
 cases k with
 | zero=>exact absurd h (by simp[Zn.f])
 | succ k=>
 simp only[Zn.f] at h
 have HB:=Za (Below.refl w.heap.size w)
 have H:(if a0<0 then(if (wrap64 (Int.tdiv a0 10))=0 then((some (([(wrap64 (48 - a0)) % 256]:List Int):List Int)).bind fun y35001=>(if 1+(strOfNums y35001).size≤9223372036854775807 then(some ((⟨#[45]⟩:ByteArray) ++ (strOfNums y35001))) else(none))) else((Zn.f k (wrap64 (Int.tdiv a0 10))).bind fun t35004=>((some (([(wrap64 (48 - (Int.tmod a0 10))) % 256]:List Int):List Int)).bind fun y35005=>(if t35004.size+(strOfNums y35005).size≤9223372036854775807 then(some (t35004 ++ (strOfNums y35005))) else(none))))) else(Zn.l0 k a0 (⟨#[]⟩:ByteArray)))=some r:=h
 clear h
 by_cases c2:a0<0
 ·rw[if_pos c2] at H
  have c2b0:decide (a0<0)=true:=Zd c2
  clear c2
  by_cases c3:(wrap64 (Int.tdiv a0 10))=0
  ·rw[if_pos c3] at H
   have c3b0:((wrap64 (Int.tdiv a0 10)) == 0)=true:=beq_iff_eq.mpr c3
   have c3b1:((wrap64 (Int.tdiv a0 10)) != 0)=false:=bne_eq_false_iff_eq.mpr c3
   clear c3
   obtain⟨y35001,hy35001⟩:∃y_:List Int,y_=(([(wrap64 (48 - a0)) % 256]:List Int)):=⟨_,rfl⟩
   replace H:(if 1+(strOfNums y35001).size≤9223372036854775807 then(some ((⟨#[45]⟩:ByteArray) ++ (strOfNums y35001))) else(none))=some r:=by first|(rw[hy35001];with_reducible exact H)|(have H2_:=(Zg _ _).symm.trans H;rw[hy35001];with_reducible exact H2_)|(have H2_:=(Zg _ _).symm.trans H;with_reducible exact H2_)|with_reducible exact H|(rw[hy35001];exact H)|exact H
   have Ny35001:=Za hy35001;clear hy35001
   by_cases c4:1+(strOfNums y35001).size≤9223372036854775807
   ·rw[if_pos c4] at H
    have c4b0:=eq_true c4
    have c4b1:decide (1+(strOfNums y35001).size≤9223372036854775807)=true:=Zd c4
    try have c4b2:(9223372036854775807<1+(strOfNums y35001).size)=False:=eq_false (Nat.not_lt.2 c4)
    obtain rfl:=Ze H
    go_enter Tryd.func35,Tryd.ntmps35
    go_wp2_with (first|((with_reducible refine Zab (N:=12) rfl ?_);refine Kd.R_lit (Kd.int .u8) _ 5 ?hg (N:=12) ?hd (xs:=([(wrap64 (48 - a0)) % 256]:List Int)) (inner:=[.int .u8 ((wrap64 (48 - a0)) % 256)]) (ok:=fun _=>True) (okp:=fun _=>True) ?hr ?hp (fun _ hk=>hk) trivial (Below.refl _ _) (Nat.le_refl _) (by simp) ?_;(case hd=>rfl);(case hg=>rfl);(case hr=>first|(go_simp;done)|(go_simp;rfl));(case hp=>exact(Reps.one (show Kd.M (Kd.int .u8) _ _ _ ((wrap64 (48 - a0)) % 256) [.int .u8 ((wrap64 (48 - a0)) % 256)] from rfl) (Reps.none _ _)));intro v35002 w5 ho6 hb hg_ hnew_;clear hg_ hnew_;(first|rw[← Ny35001.out] at ho6|(simp only[Int.reduceToNat] at ho6;rw[← Ny35001.out] at ho6));have HO35003:=Za (Kd.R_lower ho6 (ZK (by repeat(first|(with_reducible first|exact HB.out|apply Zl|apply Zk|apply Zm)|exact HB.out))));replace HB:=Za (Zw (by repeat(first|(with_reducible first|exact HB.out|apply Zl|apply Zk|apply Zm)|exact HB.out)) hb);clear hb ho6;have hcv7:=Z8 (P:=Tryd.prog) Tryd.underlying48 Tryd.underlying5 Tryd.underlying9 (Kd.own_of_R HO35003.out)))
    go_ret
    exact⟨by first|rfl|(simp[Zu,Zt] <;> rfl)|(simp[*,Zu,Zt] <;> rfl),by repeat(first|(with_reducible first|exact HB.out|apply Zl|apply Zk|apply Zm)|exact HB.out)⟩
   ·rw[if_neg c4] at H
    exact absurd H (by simp)
  ·rw[if_neg c3] at H
   have c3b0:((wrap64 (Int.tdiv a0 10)) == 0)=false:=beq_eq_false_iff_ne.mpr c3
   have c3b1:((wrap64 (Int.tdiv a0 10)) != 0)=true:=bne_iff_ne.mpr c3
   replace H:=Zf H
   obtain⟨t35004,A80,H⟩:=H
   replace H:((some (([(wrap64 (48 - (Int.tmod a0 10))) % 256]:List Int):List Int)).bind fun y35005=>(if t35004.size+(strOfNums y35005).size≤9223372036854775807 then(some (t35004 ++ (strOfNums y35005))) else(none)))=some r:=H
   have A8:=Za A80;clear A80
   obtain⟨y35005,hy35005⟩:∃y_:List Int,y_=(([(wrap64 (48 - (Int.tmod a0 10))) % 256]:List Int)):=⟨_,rfl⟩
   replace H:(if t35004.size+(strOfNums y35005).size≤9223372036854775807 then(some (t35004 ++ (strOfNums y35005))) else(none))=some r:=by first|(rw[hy35005];with_reducible exact H)|(have H2_:=(Zg _ _).symm.trans H;rw[hy35005];with_reducible exact H2_)|(have H2_:=(Zg _ _).symm.trans H;with_reducible exact H2_)|with_reducible exact H|(rw[hy35005];exact H)|exact H
   have Ny35005:=Za hy35005;clear hy35005
   by_cases c9:t35004.size+(strOfNums y35005).size≤9223372036854775807
   ·rw[if_pos c9] at H
    have c9b0:=eq_true c9
    have c9b1:decide (t35004.size+(strOfNums y35005).size≤9223372036854775807)=true:=Zd c9
    try have c9b2:(9223372036854775807<t35004.size+(strOfNums y35005).size)=False:=eq_false (Nat.not_lt.2 c9)
    obtain rfl:=Ze H
    go_enter Tryd.func35,Tryd.ntmps35
    try go_wp2
    replace HB:=Za (Zm HB.out)
    refine start_ (n:=11) (S:=fun w'=>True) (ds:=[]) #[false,false,false,false,false,false,false,false,false,false,false] (by kernel_rfl) rfl rfl trivial (fun hHeld=>?_);refine with_tabW Zn.tab4 Zn.bits4 (fun HT_ HW_=>?_)
    generalize w.drew=w10 at HB hHeld ⊢
    refine pure_ (i:=0) (N:=some 15) (v:=?_) (a':=?_) #[true,false,false,false,false,false,false,false,false,false,false] rfl rfl (Zaq HT_.out (by kernel_rfl)) (fun _ _ _ h=>h) (Or.inl ⟨by rfl,?_⟩) ?_ ?_
    rotate_left
    ·intro w'
     go_simp
     with_reducible rfl
    rotate_left
    ·simp only[Act.put,List.setIfInBounds_toArray,List.set_cons_zero,List.set_cons_succ,ZQ,ZW]
     rfl
    refine pure_ (i:=1) (N:=some 16) (v:=?_) (a':=?_) #[true,true,false,false,false,false,false,false,false,false,false] rfl rfl (Zaq HT_.out (by kernel_rfl)) (fun _ _ _ h=>h) (Or.inl ⟨by rfl,?_⟩) ?_ ?_
    rotate_left
    ·intro w'
     go_simp
     with_reducible rfl
    rotate_left
    ·simp only[Act.put,List.setIfInBounds_toArray,List.set_cons_zero,List.set_cons_succ,ZQ,ZW]
     rfl
    refine pure_ (i:=3) (N:=some 18) (v:=?_) (a':=?_) #[true,true,false,true,false,false,false,false,false,false,false] rfl rfl (Zaq HT_.out (by kernel_rfl)) (fun _ _ _ h=>h) (Or.inl ⟨by rfl,?_⟩) ?_ ?_
    rotate_left
    ·intro w'
     go_simp
     with_reducible rfl
    rotate_left
    ·simp only[Act.put,List.setIfInBounds_toArray,List.set_cons_zero,List.set_cons_succ,ZQ,ZW]
     rfl
    refine pure_ (i:=4) (N:=some 19) (v:=?_) (a':=?_) #[true,true,false,true,true,false,false,false,false,false,false] rfl rfl (Zaq HT_.out (by kernel_rfl)) (fun _ _ _ h=>h) (Or.inl ⟨by rfl,?_⟩) ?_ ?_
    rotate_left
    ·intro w'
     go_simp
     with_reducible rfl
    rotate_left
    ·simp only[Act.put,List.setIfInBounds_toArray,List.set_cons_zero,List.set_cons_succ,ZQ,ZW]
     rfl
    refine pure_ (i:=5) (N:=some 20) (v:=?_) (a':=?_) #[true,true,false,true,true,true,false,false,false,false,false] rfl rfl (Zaq HT_.out (by kernel_rfl)) (fun _ _ _ h=>h) (Or.inl ⟨by rfl,?_⟩) ?_ ?_
    rotate_left
    ·intro w'
     go_simp
     with_reducible rfl
    rotate_left
    ·simp only[Act.put,List.setIfInBounds_toArray,List.set_cons_zero,List.set_cons_succ,ZQ,ZW]
     rfl
    refine pure_ (i:=6) (N:=some 21) (v:=?_) (a':=?_) #[true,true,false,true,true,true,true,false,false,false,false] rfl rfl (Zaq HT_.out (by kernel_rfl)) (fun _ _ _ h=>h) (Or.inl ⟨by rfl,?_⟩) ?_ ?_
    rotate_left
    ·intro w'
     go_simp
     with_reducible rfl
    rotate_left
    ·simp only[Act.put,List.setIfInBounds_toArray,List.set_cons_zero,List.set_cons_succ,ZQ,ZW]
     rfl
    refine join_ (σ:=Value) 2 #[true,true,true,true,true,true,true,true,true,false,false] (fun s_=>[(17,.string t35004),(22,s_),(23,.string (strOfNums y35005))]) (fun s_ w'=>(Kd.R (Kd.int .u8) 5 w' w.heap.size (fun _=>True) s_ y35005)∧(Below w.heap.size w w')) ?_ ?_
    rotate_left
    ·intro hCont
     refine two_ (i:=2) (j:=7) (Ni:=some 17) (Nj:=some 22) #[true,true,true,true,true,true,true,false,false,false,false] #[true,true,false,true,true,true,true,true,false,false,false] rfl rfl rfl rfl (two_of HT_.out (by kernel_rfl)) (by decide) (by decide) (fun K hK=>?_) (fun K hK=>?_)
     ·skip
      refine goes_ Tryd.func35 (by kernel_rfl) rfl #[.int .i64 (wrap64 (Int.tdiv a0 10))] (by rfl) rfl rfl (by(try simp only[List.map_toArray,List.map_cons,List.map_nil]);first|done|rfl|(simp only[Zi,Zh];rfl)) ?_
      with_reducible refine(ih k (by omega) (wrap64 (Int.tdiv a0 10)) t35004 _ A8.out).mono ?_
      rintro e w11 ⟨rfl,hb⟩
      refine⟨_,rfl,?_⟩
      replace HB:=Za (Zw (by repeat(first|(with_reducible first|exact HB.out|apply Zl|apply Zk|apply Zm)|exact HB.out)) hb)
      (try clear hb)
      (try clear hb2)
      (try clear hk)
      (try clear hi)
      refine hK.out _ _ trivial (fun hHeld=>?_)
      clear hK K
      refine Z9 (a':=?_) ?_ ?_
      rotate_left
      ·show Act.put _ (some 17) _=_
       simp only[Act.put,List.setIfInBounds_toArray,List.set_cons_zero,List.set_cons_succ,ZQ,ZW]
       rfl
      refine one_ (i:=7) (N:=some 22) #[true,true,true,true,true,true,true,true,false,false,false] rfl rfl (one_of HT_.out (by kernel_rfl)) (by decide) (fun K hK=>?_)
      refine Kd.R_lit_step (Kd.int .u8) _ 5 ?hg (N:=22) ?hd (xs:=([(wrap64 (48 - (Int.tmod a0 10))) % 256]:List Int)) (inner:=[.int .u8 ((wrap64 (48 - (Int.tmod a0 10))) % 256)]) (ok:=fun _=>True) (okp:=fun _=>True) ?hr ?hp (fun _ hk=>hk) trivial (Below.refl _ _) (Nat.le_refl _) (by simp) ?_;(case hd=>rfl);(case hg=>rfl);(case hr=>first|(go_simp;done)|(go_simp;rfl));(case hp=>exact(Reps.one (show Kd.M (Kd.int .u8) _ _ _ ((wrap64 (48 - (Int.tmod a0 10))) % 256) [.int .u8 ((wrap64 (48 - (Int.tmod a0 10))) % 256)] from rfl) (Reps.none _ _)))
      intro v35006 w12 ho13 hb hg_ hnew_
      clear hg_ hnew_
      (first|rw[← Ny35005.out] at ho13|(simp only[Int.reduceToNat] at ho13;rw[← Ny35005.out] at ho13))
      have HO35007:=Za (Kd.R_lower ho13 (ZK (by repeat(first|(with_reducible first|exact HB.out|apply Zl|apply Zk|apply Zm)|exact HB.out))));replace HB:=Za (Zw (by repeat(first|(with_reducible first|exact HB.out|apply Zl|apply Zk|apply Zm)|exact HB.out)) hb)
      clear hb ho13
      refine hK.out _ _ trivial (fun hHeld=>?_)
      clear hK K
      refine Z9 (a':=?_) ?_ ?_
      rotate_left
      ·show Act.put _ (some 22) _=_
       simp only[Act.put,List.setIfInBounds_toArray,List.set_cons_zero,List.set_cons_succ,ZQ,ZW]
       rfl
      refine one_ (i:=8) (N:=some 23) #[true,true,true,true,true,true,true,true,true,false,false] rfl rfl (one_of HT_.out (by kernel_rfl)) (by decide) (fun K hK=>?_)
      have hcv14:=Z8 (P:=Tryd.prog) Tryd.underlying48 Tryd.underlying5 Tryd.underlying9 (Kd.own_of_R HO35007.out)
      refine value_ (w1:=?_) (v:=?_) (by rfl) rfl ?_ ?_
      rotate_left 2
      ·go_simp
       constructor
       ·rfl
       ·rfl
      clear hcv14
      refine hK.out _ _ trivial (fun hHeld=>?_)
      clear hK K
      refine Z9 (a':=?_) ?_ ?_
      rotate_left
      ·show Act.put _ (some 23) _=_
       simp only[Act.put,List.setIfInBounds_toArray,List.set_cons_zero,List.set_cons_succ,ZQ,ZW]
       rfl
      exact Z9 (by simp only[ZaA,Act.put,List.setIfInBounds_toArray,List.set_cons_zero,List.set_cons_succ]) (hCont (v35006) _ ⟨(by(with_reducible repeat(first|apply Kd.R_alloc|apply Kd.R_drewN|apply Kd.R_drew));exact HO35007.out),(by repeat(first|(with_reducible first|exact HB.out|apply Zl|apply Zk|apply Zm)|exact HB.out))⟩)
     ·skip
      refine Kd.R_lit_step (Kd.int .u8) _ 5 ?hg (N:=22) ?hd (xs:=([(wrap64 (48 - (Int.tmod a0 10))) % 256]:List Int)) (inner:=[.int .u8 ((wrap64 (48 - (Int.tmod a0 10))) % 256)]) (ok:=fun _=>True) (okp:=fun _=>True) ?hr ?hp (fun _ hk=>hk) trivial (Below.refl _ _) (Nat.le_refl _) (by simp) ?_;(case hd=>rfl);(case hg=>rfl);(case hr=>first|(go_simp;done)|(go_simp;rfl));(case hp=>exact(Reps.one (show Kd.M (Kd.int .u8) _ _ _ ((wrap64 (48 - (Int.tmod a0 10))) % 256) [.int .u8 ((wrap64 (48 - (Int.tmod a0 10))) % 256)] from rfl) (Reps.none _ _)))
      intro v35006 w11 ho12 hb hg_ hnew_
      clear hg_ hnew_
      (first|rw[← Ny35005.out] at ho12|(simp only[Int.reduceToNat] at ho12;rw[← Ny35005.out] at ho12))
      have HO35007:=Za (Kd.R_lower ho12 (ZK (by repeat(first|(with_reducible first|exact HB.out|apply Zl|apply Zk|apply Zm)|exact HB.out))));replace HB:=Za (Zw (by repeat(first|(with_reducible first|exact HB.out|apply Zl|apply Zk|apply Zm)|exact HB.out)) hb)
      clear hb ho12
      refine hK.out _ _ trivial (fun hHeld=>?_)
      clear hK K
      refine Z9 (a':=?_) ?_ ?_
      rotate_left
      ·show Act.put _ (some 22) _=_
       simp only[Act.put,List.setIfInBounds_toArray,List.set_cons_zero,List.set_cons_succ,ZQ,ZW]
       rfl
      refine two_ (i:=2) (j:=8) (Ni:=some 17) (Nj:=some 23) #[true,true,true,true,true,true,true,true,false,false,false] #[true,true,false,true,true,true,true,true,true,false,false] rfl rfl rfl rfl (two_of HT_.out (by kernel_rfl)) (by decide) (by decide) (fun K hK=>?_) (fun K hK=>?_)
      ·skip
       refine goes_ Tryd.func35 (by kernel_rfl) rfl #[.int .i64 (wrap64 (Int.tdiv a0 10))] (by rfl) rfl rfl (by(try simp only[List.map_toArray,List.map_cons,List.map_nil]);first|done|rfl|(simp only[Zi,Zh];rfl)) ?_
       with_reducible refine(ih k (by omega) (wrap64 (Int.tdiv a0 10)) t35004 _ A8.out).mono ?_
       rintro e w13 ⟨rfl,hb⟩
       refine⟨_,rfl,?_⟩
       replace HO35007:=Za (Kd.R_below (by(with_reducible repeat(first|apply Kd.R_alloc|apply Kd.R_drewN|apply Kd.R_drew));exact HO35007.out) hb);replace HB:=Za (Zw (by repeat(first|(with_reducible first|exact HB.out|apply Zl|apply Zk|apply Zm)|exact HB.out)) hb)
       (try clear hb)
       (try clear hb2)
       (try clear hk)
       (try clear hi)
       refine hK.out _ _ trivial (fun hHeld=>?_)
       clear hK K
       refine Z9 (a':=?_) ?_ ?_
       rotate_left
       ·show Act.put _ (some 17) _=_
        simp only[Act.put,List.setIfInBounds_toArray,List.set_cons_zero,List.set_cons_succ,ZQ,ZW]
        rfl
       refine one_ (i:=8) (N:=some 23) #[true,true,true,true,true,true,true,true,true,false,false] rfl rfl (one_of HT_.out (by kernel_rfl)) (by decide) (fun K hK=>?_)
       have hcv14:=Z8 (P:=Tryd.prog) Tryd.underlying48 Tryd.underlying5 Tryd.underlying9 (Kd.own_of_R HO35007.out)
       refine value_ (w1:=?_) (v:=?_) (by rfl) rfl ?_ ?_
       rotate_left 2
       ·go_simp
        constructor
        ·rfl
        ·rfl
       clear hcv14
       refine hK.out _ _ trivial (fun hHeld=>?_)
       clear hK K
       refine Z9 (a':=?_) ?_ ?_
       rotate_left
       ·show Act.put _ (some 23) _=_
        simp only[Act.put,List.setIfInBounds_toArray,List.set_cons_zero,List.set_cons_succ,ZQ,ZW]
        rfl
       exact Z9 (by simp only[ZaA,Act.put,List.setIfInBounds_toArray,List.set_cons_zero,List.set_cons_succ]) (hCont (v35006) _ ⟨(by(with_reducible repeat(first|apply Kd.R_alloc|apply Kd.R_drewN|apply Kd.R_drew));exact HO35007.out),(by repeat(first|(with_reducible first|exact HB.out|apply Zl|apply Zk|apply Zm)|exact HB.out))⟩)
      ·skip
       have hcv13:=Z8 (P:=Tryd.prog) Tryd.underlying48 Tryd.underlying5 Tryd.underlying9 (Kd.own_of_R HO35007.out)
       refine value_ (w1:=?_) (v:=?_) (by rfl) rfl ?_ ?_
       rotate_left 2
       ·go_simp
        constructor
        ·rfl
        ·rfl
       clear hcv13
       refine hK.out _ _ trivial (fun hHeld=>?_)
       clear hK K
       refine Z9 (a':=?_) ?_ ?_
       rotate_left
       ·show Act.put _ (some 23) _=_
        simp only[Act.put,List.setIfInBounds_toArray,List.set_cons_zero,List.set_cons_succ,ZQ,ZW]
        rfl
       refine one_ (i:=2) (N:=some 17) #[true,true,true,true,true,true,true,true,true,false,false] rfl rfl (one_of HT_.out (by kernel_rfl)) (by decide) (fun K hK=>?_)
       refine goes_ Tryd.func35 (by kernel_rfl) rfl #[.int .i64 (wrap64 (Int.tdiv a0 10))] (by rfl) rfl rfl (by(try simp only[List.map_toArray,List.map_cons,List.map_nil]);first|done|rfl|(simp only[Zi,Zh];rfl)) ?_
       with_reducible refine(ih k (by omega) (wrap64 (Int.tdiv a0 10)) t35004 _ A8.out).mono ?_
       rintro e w14 ⟨rfl,hb⟩
       refine⟨_,rfl,?_⟩
       replace HO35007:=Za (Kd.R_below (by(with_reducible repeat(first|apply Kd.R_alloc|apply Kd.R_drewN|apply Kd.R_drew));exact HO35007.out) hb);replace HB:=Za (Zw (by repeat(first|(with_reducible first|exact HB.out|apply Zl|apply Zk|apply Zm)|exact HB.out)) hb)
       (try clear hb)
       (try clear hb2)
       (try clear hk)
       (try clear hi)
       refine hK.out _ _ trivial (fun hHeld=>?_)
       clear hK K
       refine Z9 (a':=?_) ?_ ?_
       rotate_left
       ·show Act.put _ (some 17) _=_
        simp only[Act.put,List.setIfInBounds_toArray,List.set_cons_zero,List.set_cons_succ,ZQ,ZW]
        rfl
       exact Z9 (by simp only[ZaA,Act.put,List.setIfInBounds_toArray,List.set_cons_zero,List.set_cons_succ]) (hCont (v35006) _ ⟨(by(with_reducible repeat(first|apply Kd.R_alloc|apply Kd.R_drewN|apply Kd.R_drew));exact HO35007.out),(by repeat(first|(with_reducible first|exact HB.out|apply Zl|apply Zk|apply Zm)|exact HB.out))⟩)
    rintro v35006 w15 ⟨h0_,h1_⟩
    have HO35007:Aside0 (Kd.R (Kd.int .u8) 5 w15 w.heap.size (fun _=>True) v35006 y35005):=⟨h0_⟩;replace HB:Aside0 (Below w.heap.size w w15):=⟨h1_⟩;clear h0_ h1_
    have hHeld:=trivial
    refine Z9 (a':=?_) ?_ ?_
    rotate_left
    ·simp only[ZaA,Act.put,List.setIfInBounds_toArray,List.set_cons_zero,List.set_cons_succ]
     rfl
    refine pure_ (i:=9) (N:=some 24) (v:=?_) (a':=?_) #[true,true,true,true,true,true,true,true,true,true,false] rfl rfl (Zaq HT_.out (by kernel_rfl)) (fun _ _ _ h=>h) (Or.inl ⟨by rfl,?_⟩) ?_ ?_
    rotate_left
    ·intro w'
     go_simp
     with_reducible rfl
    rotate_left
    ·simp only[Act.put,List.setIfInBounds_toArray,List.set_cons_zero,List.set_cons_succ,ZQ,ZW]
     rfl
    refine pure_ (i:=10) (N:=some 2) (v:=?_) (a':=?_) #[true,true,true,true,true,true,true,true,true,true,true] rfl rfl (Zaq HT_.out (by kernel_rfl)) (fun _ _ _ h=>h) (Or.inl ⟨by rfl,?_⟩) ?_ ?_
    rotate_left
    ·intro w'
     go_simp
     with_reducible rfl
    rotate_left
    ·simp only[Act.put,List.setIfInBounds_toArray,List.set_cons_zero,List.set_cons_succ,ZQ,ZW]
     rfl
    refine done_ (done_of HT_.out (by kernel_rfl)) ?_
    try go_wp2
    go_ret
    exact⟨by first|rfl|(simp[Zu,Zt] <;> rfl)|(simp[*,Zu,Zt] <;> rfl),by repeat(first|(with_reducible first|exact HB.out|apply Zl|apply Zk|apply Zm)|exact HB.out)⟩
   ·rw[if_neg c9] at H
    exact absurd H (by simp)
 ·rw[if_neg c2] at H
  have c2b0:decide (a0<0)=false:=decide_eq_false c2
  clear c2
  have H':=Za H
  clear H
  go_enter Tryd.func35,Tryd.ntmps35
  go_wp2
  go_loopg [0,3] k (fun kq v0 v3 w'=>∃(x0_1:Int) (x3_1:ByteArray),v0=.int .i64 x0_1∧v3=.string x3_1∧Aside0 (Zn.l0 kq x0_1 x3_1=some r)∧Aside0 (kq≤k)∧Aside0 (Below w.heap.size w w'))
  case atStart=>exact⟨(a0),((⟨#[]⟩:ByteArray)),(by first|rfl|(simp;done)|(simp[*];done)),(by first|rfl|(simp;done)|(simp[*];done)),H',⟨Nat.le_refl _⟩,⟨by repeat(first|(with_reducible first|exact HB.out|apply Zl|apply Zk|apply Zm)|exact HB.out)⟩⟩
  case round=>
   clear H'
   try clear hcv1
   try clear c2
   try clear c2b0
   try clear p2
   try clear c3
   try clear c3b0
   try clear c3b1
   try clear c4
   try clear c4b0
   try clear c4b1
   try clear c4b2
   try clear p6
   try clear hcv7
   try clear c9
   try clear c9b0
   try clear c9b1
   try clear c9b2
   try clear hcv13
   try clear hcv14
   obtain⟨x0_1,x3_1,rfl,rfl,HA,HK1,HB⟩:=hrel
   cases gk with
   | zero=>exact absurd HA.out (by simp[Zn.l0])
   | succ k1=>
    have H:=HA.out
    clear HA
    simp only[Zn.l0] at H
    by_cases c16:x0_1 > 9
    ·rw[if_pos c16] at H
     have c16b0:decide (9<x0_1)=true:=Zd c16
     clear c16
     obtain⟨y35008,hy35008⟩:∃y_:List Int,y_=(([(wrap64 (48+(Int.tmod x0_1 10))) % 256]:List Int)):=⟨_,rfl⟩
     replace H:(if (strOfNums y35008).size+x3_1.size≤9223372036854775807 then(Zn.l0 k1 (wrap64 (Int.tdiv x0_1 10)) ((strOfNums y35008) ++ x3_1)) else(none))=some r:=by first|(rw[hy35008];with_reducible exact H)|(have H2_:=(Zg _ _).symm.trans H;rw[hy35008];with_reducible exact H2_)|(have H2_:=(Zg _ _).symm.trans H;with_reducible exact H2_)|with_reducible exact H|(rw[hy35008];exact H)|exact H
     have Ny35008:=Za hy35008;clear hy35008
     by_cases c17:(strOfNums y35008).size+x3_1.size≤9223372036854775807
     ·rw[if_pos c17] at H
      have c17b0:=eq_true c17
      have c17b1:decide ((strOfNums y35008).size+x3_1.size≤9223372036854775807)=true:=Zd c17
      try have c17b2:(9223372036854775807<(strOfNums y35008).size+x3_1.size)=False:=eq_false (Nat.not_lt.2 c17)
      have H':=Za H
      clear H
      go_wp2_with (first|((with_reducible refine Zab (N:=31) rfl ?_);refine Kd.R_lit (Kd.int .u8) _ 5 ?hg (N:=31) ?hd (xs:=([(wrap64 (48+(Int.tmod x0_1 10))) % 256]:List Int)) (inner:=[.int .u8 ((wrap64 (48+(Int.tmod x0_1 10))) % 256)]) (ok:=fun _=>True) (okp:=fun _=>True) ?hr ?hp (fun _ hk=>hk) trivial (Below.refl _ _) (Nat.le_refl _) (by simp) ?_;(case hd=>rfl);(case hg=>rfl);(case hr=>first|(go_simp;done)|(go_simp;rfl));(case hp=>exact(Reps.one (show Kd.M (Kd.int .u8) _ _ _ ((wrap64 (48+(Int.tmod x0_1 10))) % 256) [.int .u8 ((wrap64 (48+(Int.tmod x0_1 10))) % 256)] from rfl) (Reps.none _ _)));intro v35009 w18 ho19 hb hg_ hnew_;clear hg_ hnew_;(first|rw[← Ny35008.out] at ho19|(simp only[Int.reduceToNat] at ho19;rw[← Ny35008.out] at ho19));have HO35010:=Za (Kd.R_lower ho19 (ZK (by repeat(first|(with_reducible first|exact HB.out|apply Zl|apply Zk|apply Zm)|exact HB.out))));replace HB:=Za (Zw (by repeat(first|(with_reducible first|exact HB.out|apply Zl|apply Zk|apply Zm)|exact HB.out)) hb);clear hb ho19;have hcv20:=Z8 (P:=Tryd.prog) Tryd.underlying48 Tryd.underlying5 Tryd.underlying9 (Kd.own_of_R HO35010.out)))
      go_roundg k1
      case measure=>have:=HK1.out;omega
      case rel=>exact⟨(wrap64 (Int.tdiv x0_1 10)),((strOfNums y35008) ++ x3_1),(by first|rfl|(simp;done)|(simp[*];done)),(by first|rfl|(simp;done)|(simp[*];done)),H',⟨by have:=HK1.out;omega⟩,⟨by repeat(first|(with_reducible first|exact HB.out|apply Zl|apply Zk|apply Zm)|exact HB.out)⟩⟩
     ·rw[if_neg c17] at H
      exact absurd H (by simp)
    ·rw[if_neg c16] at H
     have c16b0:decide (9<x0_1)=false:=decide_eq_false c16
     clear c16
     obtain⟨y35011,hy35011⟩:∃y_:List Int,y_=(([(wrap64 (48+x0_1)) % 256]:List Int)):=⟨_,rfl⟩
     replace H:(if (strOfNums y35011).size+x3_1.size≤9223372036854775807 then(some ((strOfNums y35011) ++ x3_1)) else(none))=some r:=by first|(rw[hy35011];with_reducible exact H)|(have H2_:=(Zg _ _).symm.trans H;rw[hy35011];with_reducible exact H2_)|(have H2_:=(Zg _ _).symm.trans H;with_reducible exact H2_)|with_reducible exact H|(rw[hy35011];exact H)|exact H
     have Ny35011:=Za hy35011;clear hy35011
     by_cases c21:(strOfNums y35011).size+x3_1.size≤9223372036854775807
     ·rw[if_pos c21] at H
      have c21b0:=eq_true c21
      have c21b1:decide ((strOfNums y35011).size+x3_1.size≤9223372036854775807)=true:=Zd c21
      try have c21b2:(9223372036854775807<(strOfNums y35011).size+x3_1.size)=False:=eq_false (Nat.not_lt.2 c21)
      obtain rfl:=Ze H
      go_wp2_with (first|((with_reducible refine Zab (N:=40) rfl ?_);refine Kd.R_lit (Kd.int .u8) _ 5 ?hg (N:=40) ?hd (xs:=([(wrap64 (48+x0_1)) % 256]:List Int)) (inner:=[.int .u8 ((wrap64 (48+x0_1)) % 256)]) (ok:=fun _=>True) (okp:=fun _=>True) ?hr ?hp (fun _ hk=>hk) trivial (Below.refl _ _) (Nat.le_refl _) (by simp) ?_;(case hd=>rfl);(case hg=>rfl);(case hr=>first|(go_simp;done)|(go_simp;rfl));(case hp=>exact(Reps.one (show Kd.M (Kd.int .u8) _ _ _ ((wrap64 (48+x0_1)) % 256) [.int .u8 ((wrap64 (48+x0_1)) % 256)] from rfl) (Reps.none _ _)));intro v35012 w22 ho23 hb hg_ hnew_;clear hg_ hnew_;(first|rw[← Ny35011.out] at ho23|(simp only[Int.reduceToNat] at ho23;rw[← Ny35011.out] at ho23));have HO35013:=Za (Kd.R_lower ho23 (ZK (by repeat(first|(with_reducible first|exact HB.out|apply Zl|apply Zk|apply Zm)|exact HB.out))));replace HB:=Za (Zw (by repeat(first|(with_reducible first|exact HB.out|apply Zl|apply Zk|apply Zm)|exact HB.out)) hb);clear hb ho23;have hcv24:=Z8 (P:=Tryd.prog) Tryd.underlying48 Tryd.underlying5 Tryd.underlying9 (Kd.own_of_R HO35013.out)))
      go_ret
      exact⟨by first|rfl|(simp[Zu,Zt] <;> rfl)|(simp[*,Zu,Zt] <;> rfl),by repeat(first|(with_reducible first|exact HB.out|apply Zl|apply Zk|apply Zm)|exact HB.out)⟩
     ·rw[if_neg c21] at H
      exact absurd H (by simp)
def ZF.l0:Nat→ByteArray→ByteArray→List ByteArray→Int→Int→Option (ByteArray)
 | 0,_,_,_,_,_=>none
 | k+1,x1,x5,x8,x9,x10=>if x10<x9 then(if 0≤x10 then(if x10<(x8.length:Int) then(if x10 > 0 then(if x5.size+x1.size≤9223372036854775807 then(if (x5 ++ x1).size+(rdOf ByteArray.empty x8 x10).size≤9223372036854775807 then(ZF.l0 k x1 ((x5 ++ x1) ++ (rdOf ByteArray.empty x8 x10)) x8 x9 (wrap64 (x10+1))) else(none)) else(none)) else(if x5.size+(rdOf ByteArray.empty x8 x10).size≤9223372036854775807 then(ZF.l0 k x1 (x5 ++ (rdOf ByteArray.empty x8 x10)) x8 x9 (wrap64 (x10+1))) else(none))) else(none)) else(none)) else(some x5)
def ZF.f (k:Nat) (l0:List ByteArray) (a1:ByteArray):Option (ByteArray):=ZF.l0 k a1 (⟨#[]⟩:ByteArray) l0 (l0.length:Int) 0
set_option maxHeartbeats 8000000 in
set_option maxRecDepth 100000 in
theorem ZF.calls (k:Nat) (A0:Option Addr) (c0:Nat) (l0:List ByteArray) (a1:ByteArray) (r:ByteArray) (w:World) (hr0:Kd.C Kd.string w A0 l0.length l0) (hc0:l0.length≤c0) (h:ZF.f k l0 a1=some r) :
  Calls Tryd.prog 37 #[.slice A0 l0.length c0,.string a1] w fun e w'=>e=.returned (.string r)∧Zs w w':=by
 have HR0:=Za hr0;have HC0:=Za hc0;clear hr0 hc0
 have H:(ZF.l0 k a1 (⟨#[]⟩:ByteArray) l0 (l0.length:Int) 0)=some r:=h
 clear h
 have H':=Za H
 clear H
 go_enter Tryd.func37,Tryd.ntmps37
 go_wp2
 go_loopg [5,10] k (fun kq v5 v10 w'=>∃(x5_1:ByteArray) (x10_1:Int),v5=.string x5_1∧v10=.int .i64 x10_1∧Aside0 (ZF.l0 kq a1 x5_1 l0 (l0.length:Int) x10_1=some r)∧Aside0 (kq≤k)∧Zs w w')
 case atStart=>exact⟨((⟨#[]⟩:ByteArray)),(0),(by first|rfl|(simp;done)|(simp[*];done)),(by first|rfl|(simp;done)|(simp[*];done)),H',⟨Nat.le_refl _⟩,by repeat(first|exact Zs.refl _|apply Zs.step)⟩
 case round=>
  clear H'
  try clear p2
  obtain⟨x5_1,x10_1,rfl,rfl,HA,HK1,⟨m1,rfl⟩⟩:=hrel
  cases gk with
  | zero=>exact absurd HA.out (by simp[ZF.l0])
  | succ k1=>
   have H:=HA.out
   clear HA
   simp only[ZF.l0] at H
   by_cases c3:x10_1<(l0.length:Int)
   ·rw[if_pos c3] at H
    have c3b0:decide (x10_1<(l0.length:Int))=true:=Zd c3
    clear c3
    by_cases c4:0≤x10_1
    ·rw[if_pos c4] at H
     have c4b0:decide (0≤x10_1)=true:=Zd c4
     clear c4
     by_cases c5:x10_1<(l0.length:Int)
     ·rw[if_pos c5] at H
      have c5b0:decide (x10_1<(l0.length:Int))=true:=Zd c5
      clear c5
      by_cases c6:x10_1 > 0
      ·rw[if_pos c6] at H
       have c6b0:decide (0<x10_1)=true:=Zd c6
       clear c6
       by_cases c7:x5_1.size+a1.size≤9223372036854775807
       ·rw[if_pos c7] at H
        have c7b0:=eq_true c7
        have c7b1:decide (x5_1.size+a1.size≤9223372036854775807)=true:=Zd c7
        try have c7b2:(9223372036854775807<x5_1.size+a1.size)=False:=eq_false (Nat.not_lt.2 c7)
        by_cases c8:(x5_1 ++ a1).size+(rdOf ByteArray.empty l0 x10_1).size≤9223372036854775807
        ·rw[if_pos c8] at H
         have c8b0:=eq_true c8
         have c8b1:decide ((x5_1 ++ a1).size+(rdOf ByteArray.empty l0 x10_1).size≤9223372036854775807)=true:=Zd c8
         try have c8b2:(9223372036854775807<(x5_1 ++ a1).size+(rdOf ByteArray.empty l0 x10_1).size)=False:=eq_false (Nat.not_lt.2 c8)
         try have c8b4:(9223372036854775807<(x5_1.size+a1.size)+(rdOf ByteArray.empty l0 x10_1).size)=False:=eq_false (Nat.not_lt.2 (by have h_:=c8;simp only[ByteArray.size_append] at h_;exact h_))
         have H':=Za H
         clear H
         have p37001:0≤(x10_1:Int):=Zc (by first|(with_reducible assumption)|assumption)
         have q37001:x10_1<(l0.length:Int):=Zc (by first|(with_reducible assumption)|assumption)
         obtain⟨ad37001,e37001,hx37001_0⟩:=Kd.at_string HR0.out x10_1 p37001 q37001
         cases e37001
         replace p37001:=eq_true p37001
         replace q37001:=eq_true q37001
         go_wp2
         go_roundg k1
         case measure=>have:=HK1.out;omega
         case rel=>exact⟨((x5_1 ++ a1) ++ (rdOf ByteArray.empty l0 x10_1)),(wrap64 (x10_1+1)),(by first|rfl|(simp;done)|(simp[*];done)),(by first|rfl|(simp;done)|(simp[*];done)),H',⟨by have:=HK1.out;omega⟩,by repeat(first|exact Zs.refl _|apply Zs.step)⟩
        ·rw[if_neg c8] at H
         exact absurd H (by simp)
       ·rw[if_neg c7] at H
        exact absurd H (by simp)
      ·rw[if_neg c6] at H
       have c6b0:decide (0<x10_1)=false:=decide_eq_false c6
       clear c6
       by_cases c9:x5_1.size+(rdOf ByteArray.empty l0 x10_1).size≤9223372036854775807
       ·rw[if_pos c9] at H
        have c9b0:=eq_true c9
        have c9b1:decide (x5_1.size+(rdOf ByteArray.empty l0 x10_1).size≤9223372036854775807)=true:=Zd c9
        try have c9b2:(9223372036854775807<x5_1.size+(rdOf ByteArray.empty l0 x10_1).size)=False:=eq_false (Nat.not_lt.2 c9)
        have H':=Za H
        clear H
        have p37001:0≤(x10_1:Int):=Zc (by first|(with_reducible assumption)|assumption)
        have q37001:x10_1<(l0.length:Int):=Zc (by first|(with_reducible assumption)|assumption)
        obtain⟨ad37001,e37001,hx37001_0⟩:=Kd.at_string HR0.out x10_1 p37001 q37001
        cases e37001
        replace p37001:=eq_true p37001
        replace q37001:=eq_true q37001
        go_wp2
        go_roundg k1
        case measure=>have:=HK1.out;omega
        case rel=>exact⟨(x5_1 ++ (rdOf ByteArray.empty l0 x10_1)),(wrap64 (x10_1+1)),(by first|rfl|(simp;done)|(simp[*];done)),(by first|rfl|(simp;done)|(simp[*];done)),H',⟨by have:=HK1.out;omega⟩,by repeat(first|exact Zs.refl _|apply Zs.step)⟩
       ·rw[if_neg c9] at H
        exact absurd H (by simp)
     ·rw[if_neg c5] at H
      exact absurd H (by simp)
    ·rw[if_neg c4] at H
     exact absurd H (by simp)
   ·rw[if_neg c3] at H
    have c3b0:decide (x10_1<(l0.length:Int))=false:=decide_eq_false c3
    clear c3
    obtain rfl:=Ze H
    go_wp2
    go_ret
    exact⟨by first|rfl|(simp;done)|(simp[*];done),by repeat(first|exact Zs.refl _|apply Zs.step)⟩
def Zo.l0:Nat→List ByteArray→List Int→Int→Int→Option (ByteArray)
 | 0,_,_,_,_=>none
 | k+1,x3,x14,x15,x16=>if x16<x15 then(if 0≤x16 then(if x16<(x14.length:Int) then((Zy.f (rd x14 x16)).bind fun t9007=>((Zn.f k t9007).bind fun t9008=>(if 1+t9008.size≤9223372036854775807 then(if (rd x14 x16)<0 then(if 1+((⟨#[112]⟩:ByteArray) ++ t9008).size≤9223372036854775807 then(if x3.length<8796093022208 then(Zo.l0 k (x3 ++ [(⟨#[33]⟩:ByteArray) ++ ((⟨#[112]⟩:ByteArray) ++ t9008)]) x14 x15 (wrap64 (x16+1))) else(none)) else(none)) else(if x3.length<8796093022208 then(Zo.l0 k (x3 ++ [(⟨#[112]⟩:ByteArray) ++ t9008]) x14 x15 (wrap64 (x16+1))) else(none))) else(none)))) else(none)) else(none)) else((ZF.f k x3 (⟨#[38]⟩:ByteArray)).bind fun t9005=>(some t9005))
def Zo.f (k:Nat) (l0:List Int):Option (ByteArray):=(Zr.f k l0).bind fun t9004=>(if t9004=true then(if (l0.length:Int)=0 then(some (⟨#[45]⟩:ByteArray)) else(Zo.l0 k (([]:List ByteArray)) l0 (l0.length:Int) 0)) else(some (⟨#[]⟩:ByteArray)))
set_option maxHeartbeats 8000000 in
set_option maxRecDepth 100000 in
theorem Zo.calls (k:Nat) (A0:Option Addr) (c0:Nat) (l0:List Int) (r:ByteArray) (w:World) (hr0:Kd.C (Kd.int .i64) w A0 l0.length l0) (hc0:l0.length≤c0) (h:Zo.f k l0=some r) :
  Calls Tryd.prog 9 #[.slice A0 l0.length c0] w fun e w'=>e=.returned (.string r)∧Below w.heap.size w w':=by
 have HR0:=Za hr0;have HC0:=Za hc0;clear hr0 hc0
 have HB:=Za (Below.refl w.heap.size w)
 have H:((Zr.f k l0).bind fun t9004=>(if t9004=true then(if (l0.length:Int)=0 then(some (⟨#[45]⟩:ByteArray)) else(Zo.l0 k (([]:List ByteArray)) l0 (l0.length:Int) 0)) else(some (⟨#[]⟩:ByteArray))))=some r:=h
 clear h
 obtain⟨y9001,hy9001⟩:∃y_:List ByteArray,y_=(([]:List ByteArray)):=⟨_,rfl⟩
 replace H:((Zr.f k l0).bind fun t9004=>(if t9004=true then(if (l0.length:Int)=0 then(some (⟨#[45]⟩:ByteArray)) else(Zo.l0 k y9001 l0 (l0.length:Int) 0)) else(some (⟨#[]⟩:ByteArray))))=some r:=by first|(rw[hy9001];with_reducible exact H)|(have H2_:=(Zg _ _).symm.trans H;rw[hy9001];with_reducible exact H2_)|(have H2_:=(Zg _ _).symm.trans H;with_reducible exact H2_)|with_reducible exact H|(rw[hy9001];exact H)|exact H
 have Ny9001:=Za hy9001;clear hy9001
 replace H:=Zf H
 obtain⟨t9004,A20,H⟩:=H
 replace H:(if t9004=true then(if (l0.length:Int)=0 then(some (⟨#[45]⟩:ByteArray)) else(Zo.l0 k y9001 l0 (l0.length:Int) 0)) else(some (⟨#[]⟩:ByteArray)))=some r:=H
 have A2:=Za A20;clear A20
 by_cases c3:t9004=true
 ·subst c3
  have H1:(if (l0.length:Int)=0 then(some (⟨#[45]⟩:ByteArray)) else(Zo.l0 k y9001 l0 (l0.length:Int) 0))=some r:=by rw[if_pos rfl] at H;exact H
  clear H
  have H:=H1
  clear H1
  by_cases c4:(l0.length:Int)=0
  ·rw[if_pos c4] at H
   have c4b0:((l0.length:Int) == 0)=true:=beq_iff_eq.mpr c4
   have c4b1:((l0.length:Int) != 0)=false:=bne_eq_false_iff_eq.mpr c4
   clear c4
   obtain rfl:=Ze H
   go_enter Tryd.func9,Tryd.ntmps9
   go_wp2_with (first|((with_reducible refine Zab (N:=7) rfl ?_);refine Kd.R_lit Kd.string _ 9 ?hg (N:=7) ?hd (xs:=([]:List ByteArray)) (inner:=[]) (ok:=fun _=>True) (okp:=fun _=>True) ?hr ?hp (fun _ hk=>hk) trivial (Below.refl _ _) (Nat.le_refl _) (by simp) ?_;(case hd=>rfl);(case hg=>rfl);(case hr=>first|(go_simp;done)|(go_simp;rfl));(case hp=>exact(Reps.none _ _));intro v9002 w5 ho6 hb hg_ hnew_;clear hg_ hnew_;(first|rw[← Ny9001.out] at ho6|(simp only[Int.reduceToNat] at ho6;rw[← Ny9001.out] at ho6));have HO9003:=Za (Kd.R_lower ho6 (ZK (by repeat(first|(with_reducible first|exact HB.out|apply Zl|apply Zk|apply Zm)|exact HB.out))));replace HB:=Za (Zw (by repeat(first|(with_reducible first|exact HB.out|apply Zl|apply Zk|apply Zm)|exact HB.out)) hb);clear hb ho6)|((with_reducible refine ZD (f:=34) rfl ?_);refine ZN (some 9) rfl rfl Tryd.func34 (by kernel_rfl) rfl #[.slice A0 l0.length c0] rfl (by(try simp only[List.map_toArray,List.map_cons,List.map_nil]);first|done|rfl|(simp only[Zi,Zh];rfl)) ?_;(with_reducible refine(Zr.calls k _ _ l0 true _ ?side1 ?side2 A2.out).mono ?_);(case side1=>repeat(first|exact(Kd.C_below HR0.out HB.out)|(with_reducible refine Kd.C_alloc ?_ _)|(with_reducible refine Kd.C_drewN ?_ _)|(with_reducible refine Kd.C_drew ?_)));(case side2=>exact HC0.out);rintro e w' ⟨rfl,⟨nd,rfl⟩⟩;refine⟨_,rfl,?_⟩))
   go_ret
   exact⟨by first|rfl|(simp[Zu,Zt] <;> rfl)|(simp[*,Zu,Zt] <;> rfl),by repeat(first|(with_reducible first|exact HB.out|apply Zl|apply Zk|apply Zm)|exact HB.out)⟩
  ·rw[if_neg c4] at H
   have c4b0:((l0.length:Int) == 0)=false:=beq_eq_false_iff_ne.mpr c4
   have c4b1:((l0.length:Int) != 0)=true:=bne_iff_ne.mpr c4
   have c4b2:¬(l0=[]):=fun h_=>c4 (by rw[h_];rfl)
   have H':=Za H
   clear H
   go_enter Tryd.func9,Tryd.ntmps9
   go_wp2_with (first|((with_reducible refine Zab (N:=7) rfl ?_);refine Kd.R_lit Kd.string _ 9 ?hg (N:=7) ?hd (xs:=([]:List ByteArray)) (inner:=[]) (ok:=fun _=>True) (okp:=fun _=>True) ?hr ?hp (fun _ hk=>hk) trivial (Below.refl _ _) (Nat.le_refl _) (by simp) ?_;(case hd=>rfl);(case hg=>rfl);(case hr=>first|(go_simp;done)|(go_simp;rfl));(case hp=>exact(Reps.none _ _));intro v9002 w7 ho8 hb hg_ hnew_;clear hg_ hnew_;(first|rw[← Ny9001.out] at ho8|(simp only[Int.reduceToNat] at ho8;rw[← Ny9001.out] at ho8));have HO9003:=Za (Kd.R_lower ho8 (ZK (by repeat(first|(with_reducible first|exact HB.out|apply Zl|apply Zk|apply Zm)|exact HB.out))));replace HB:=Za (Zw (by repeat(first|(with_reducible first|exact HB.out|apply Zl|apply Zk|apply Zm)|exact HB.out)) hb);clear hb ho8)|((with_reducible refine ZD (f:=34) rfl ?_);refine ZN (some 9) rfl rfl Tryd.func34 (by kernel_rfl) rfl #[.slice A0 l0.length c0] rfl (by(try simp only[List.map_toArray,List.map_cons,List.map_nil]);first|done|rfl|(simp only[Zi,Zh];rfl)) ?_;(with_reducible refine(Zr.calls k _ _ l0 true _ ?side1 ?side2 A2.out).mono ?_);(case side1=>repeat(first|exact(Kd.C_below HR0.out HB.out)|(with_reducible refine Kd.C_alloc ?_ _)|(with_reducible refine Kd.C_drewN ?_ _)|(with_reducible refine Kd.C_drew ?_)));(case side2=>exact HC0.out);rintro e w' ⟨rfl,⟨nd,rfl⟩⟩;refine⟨_,rfl,?_⟩))
   go_loopg [3,16] k (fun kq v3 v16 w'=>∃(x3_1:List ByteArray) (x16_1:Int),v16=.int .i64 x16_1∧Aside0 (Zo.l0 kq x3_1 l0 (l0.length:Int) x16_1=some r)∧Aside0 (kq≤k)∧Aside0 (Kd.R Kd.string 9 w' w.heap.size (fun _=>True) v3 x3_1)∧Aside0 (Below w.heap.size w w'))
   case atStart=>exact⟨(y9001),(0),(by first|rfl|(simp;done)|(simp[*];done)),H',⟨Nat.le_refl _⟩,⟨by(with_reducible repeat(first|apply Kd.R_alloc|apply Kd.R_drewN|apply Kd.R_drew));exact HO9003.out⟩,⟨by repeat(first|(with_reducible first|exact HB.out|apply Zl|apply Zk|apply Zm)|exact HB.out)⟩⟩
   case round=>
    clear H'
    try clear p2
    try clear c3
    try clear c4
    try clear c4b0
    try clear c4b1
    try clear c4b2
    obtain⟨x3_1,x16_1,rfl,HA,HK1,HO_3,HB⟩:=hrel
    cases gk with
    | zero=>exact absurd HA.out (by simp[Zo.l0])
    | succ k1=>
     have H:=HA.out
     clear HA
     simp only[Zo.l0] at H
     by_cases c9:x16_1<(l0.length:Int)
     ·rw[if_pos c9] at H
      have c9b0:decide (x16_1<(l0.length:Int))=true:=Zd c9
      clear c9
      by_cases c10:0≤x16_1
      ·rw[if_pos c10] at H
       have c10b0:decide (0≤x16_1)=true:=Zd c10
       clear c10
       by_cases c11:x16_1<(l0.length:Int)
       ·rw[if_pos c11] at H
        have c11b0:decide (x16_1<(l0.length:Int))=true:=Zd c11
        clear c11
        replace H:=Zf H
        obtain⟨t9007,A120,H⟩:=H
        replace H:((Zn.f k1 t9007).bind fun t9008=>(if 1+t9008.size≤9223372036854775807 then(if (rd l0 x16_1)<0 then(if 1+((⟨#[112]⟩:ByteArray) ++ t9008).size≤9223372036854775807 then(if x3_1.length<8796093022208 then(Zo.l0 k1 (x3_1 ++ [(⟨#[33]⟩:ByteArray) ++ ((⟨#[112]⟩:ByteArray) ++ t9008)]) l0 (l0.length:Int) (wrap64 (x16_1+1))) else(none)) else(none)) else(if x3_1.length<8796093022208 then(Zo.l0 k1 (x3_1 ++ [(⟨#[112]⟩:ByteArray) ++ t9008]) l0 (l0.length:Int) (wrap64 (x16_1+1))) else(none))) else(none)))=some r:=H
        have A12:=Za A120;clear A120
        replace H:=Zf H
        obtain⟨t9008,A130,H⟩:=H
        replace H:(if 1+t9008.size≤9223372036854775807 then(if (rd l0 x16_1)<0 then(if 1+((⟨#[112]⟩:ByteArray) ++ t9008).size≤9223372036854775807 then(if x3_1.length<8796093022208 then(Zo.l0 k1 (x3_1 ++ [(⟨#[33]⟩:ByteArray) ++ ((⟨#[112]⟩:ByteArray) ++ t9008)]) l0 (l0.length:Int) (wrap64 (x16_1+1))) else(none)) else(none)) else(if x3_1.length<8796093022208 then(Zo.l0 k1 (x3_1 ++ [(⟨#[112]⟩:ByteArray) ++ t9008]) l0 (l0.length:Int) (wrap64 (x16_1+1))) else(none))) else(none))=some r:=H
        have A13:=Za A130;clear A130
        by_cases c14:1+t9008.size≤9223372036854775807
        ·rw[if_pos c14] at H
         have c14b0:=eq_true c14
         have c14b1:decide (1+t9008.size≤9223372036854775807)=true:=Zd c14
         try have c14b2:(9223372036854775807<1+t9008.size)=False:=eq_false (Nat.not_lt.2 c14)
         by_cases c15:(rd l0 x16_1)<0
         ·rw[if_pos c15] at H
          have c15b0:decide ((rd l0 x16_1)<0)=true:=Zd c15
          clear c15
          by_cases c16:1+((⟨#[112]⟩:ByteArray) ++ t9008).size≤9223372036854775807
          ·rw[if_pos c16] at H
           have c16b0:=eq_true c16
           have c16b1:decide (1+((⟨#[112]⟩:ByteArray) ++ t9008).size≤9223372036854775807)=true:=Zd c16
           try have c16b2:(9223372036854775807<1+((⟨#[112]⟩:ByteArray) ++ t9008).size)=False:=eq_false (Nat.not_lt.2 c16)
           try have c16b4:(9223372036854775807<1+(1+t9008.size))=False:=eq_false (Nat.not_lt.2 (by have h_:=c16;simp only[ByteArray.size_append] at h_;exact h_))
           by_cases c17:x3_1.length<8796093022208
           ·rw[if_pos c17] at H
            have LMc17:=Za c17;clear c17
            obtain⟨y9009,hy9009⟩:∃y_:List ByteArray,y_=(x3_1 ++ [(⟨#[33]⟩:ByteArray) ++ ((⟨#[112]⟩:ByteArray) ++ t9008)]):=⟨_,rfl⟩
            replace H:(Zo.l0 k1 y9009 l0 (l0.length:Int) (wrap64 (x16_1+1)))=some r:=by first|(rw[hy9009];with_reducible exact H)|(have H2_:=(Zg _ _).symm.trans H;rw[hy9009];with_reducible exact H2_)|(have H2_:=(Zg _ _).symm.trans H;with_reducible exact H2_)|with_reducible exact H|(rw[hy9009];exact H)|exact H
            have Ny9009:=Za hy9009;clear hy9009
            have H':=Za H
            clear H
            have p9006:0≤(x16_1:Int):=Zc (by first|(with_reducible assumption)|assumption)
            have q9006:x16_1<(l0.length:Int):=Zc (by first|(with_reducible assumption)|assumption)
            obtain⟨ad9006,e9006,hx9006_0⟩:=Kd.at_int HR0.out x16_1 p9006 q9006
            cases e9006
            replace hx9006_0:=(HB.out.cell (Zb w _ hx9006_0)).trans hx9006_0
            replace p9006:=eq_true p9006
            replace q9006:=eq_true q9006
            go_wp2_with (first|((with_reducible refine ZD (f:=36) rfl ?_);refine ZN (some 21) rfl rfl Tryd.func36 (by kernel_rfl) rfl #[.int .i64 (rd l0 x16_1)] rfl (by(try simp only[List.map_toArray,List.map_cons,List.map_nil]);first|done|rfl|(simp only[Zi,Zh];rfl)) ?_;(with_reducible refine(Zy.calls (rd l0 x16_1) t9007 _ A12.out).mono ?_);rintro e w' ⟨rfl,⟨nd,rfl⟩⟩;refine⟨_,rfl,?_⟩)|((with_reducible refine ZD (f:=35) rfl ?_);refine ZN (some 22) rfl rfl Tryd.func35 (by kernel_rfl) rfl #[.int .i64 t9007] rfl (by(try simp only[List.map_toArray,List.map_cons,List.map_nil]);first|done|rfl|(simp only[Zi,Zh];rfl)) ?_;(with_reducible refine(Zn.calls k1 t9007 t9008 _ A13.out).mono ?_);rintro e w18 ⟨rfl,hb⟩;refine⟨_,rfl,?_⟩;replace HO_3:=Za (Kd.R_below (by(with_reducible repeat(first|apply Kd.R_alloc|apply Kd.R_drewN|apply Kd.R_drew));exact HO_3.out) hb);replace HB:=Za (Zw (by repeat(first|(with_reducible first|exact HB.out|apply Zl|apply Zk|apply Zm)|exact HB.out)) hb);(try clear hb);(try clear hb2);(try clear hk);(try clear hi))|((with_reducible refine Zai (b:=.append) (xs:=#[.tmp 28,.tmp 30]) rfl ?_);at_builtin;refine Kd.R_append Kd.string (w0:=w) w.heap.size rfl (.tmp 28) (.tmp 30) 56 9 (.string ⟨#[]⟩) 16 rfl Tryd.underlying56 info9 rfl (by decide) (by omega) u3 x3_1 ((⟨#[33]⟩:ByteArray) ++ ((⟨#[112]⟩:ByteArray) ++ t9008)) [.string ((⟨#[33]⟩:ByteArray) ++ ((⟨#[112]⟩:ByteArray) ++ t9008))] (fun _=>True) (fun _=>False) rfl rfl ?aP (fun _ hk=>hk.elim) ?aF ?aO ?aB ?aS ?aL ?_;(case aP=>exact rfl);(case aB=>exact(by repeat(first|(with_reducible first|exact HB.out|apply Zl|apply Zk|apply Zm)|exact HB.out)));(case aF=>exact(fun _ _=>trivial));(case aO=>exact(by(with_reducible repeat(first|apply Kd.R_alloc|apply Kd.R_drewN|apply Kd.R_drew));exact HO_3.out));(case aS=>exact(ZK (by repeat(first|(with_reducible first|exact HB.out|apply Zl|apply Zk|apply Zm)|exact HB.out))));(case aL=>have:=LMc17.out;omega);intro v9010 w19 ho hb hg hat;rw[← Ny9009.out] at ho;have HO9011:=Za (ho);replace HB:=Za (hb);clear HO_3;clear ho hb hg hat))
            go_roundg k1
            case measure=>have:=HK1.out;omega
            case rel=>exact⟨(y9009),(wrap64 (x16_1+1)),(by first|rfl|(simp;done)|(simp[*];done)),H',⟨by have:=HK1.out;omega⟩,⟨by(with_reducible repeat(first|apply Kd.R_alloc|apply Kd.R_drewN|apply Kd.R_drew));exact HO9011.out⟩,⟨by repeat(first|(with_reducible first|exact HB.out|apply Zl|apply Zk|apply Zm)|exact HB.out)⟩⟩
           ·rw[if_neg c17] at H
            exact absurd H (by simp)
          ·rw[if_neg c16] at H
           exact absurd H (by simp)
         ·rw[if_neg c15] at H
          have c15b0:decide ((rd l0 x16_1)<0)=false:=decide_eq_false c15
          clear c15
          by_cases c20:x3_1.length<8796093022208
          ·rw[if_pos c20] at H
           have LMc20:=Za c20;clear c20
           obtain⟨y9012,hy9012⟩:∃y_:List ByteArray,y_=(x3_1 ++ [(⟨#[112]⟩:ByteArray) ++ t9008]):=⟨_,rfl⟩
           replace H:(Zo.l0 k1 y9012 l0 (l0.length:Int) (wrap64 (x16_1+1)))=some r:=by first|(rw[hy9012];with_reducible exact H)|(have H2_:=(Zg _ _).symm.trans H;rw[hy9012];with_reducible exact H2_)|(have H2_:=(Zg _ _).symm.trans H;with_reducible exact H2_)|with_reducible exact H|(rw[hy9012];exact H)|exact H
           have Ny9012:=Za hy9012;clear hy9012
           have H':=Za H
           clear H
           have p9006:0≤(x16_1:Int):=Zc (by first|(with_reducible assumption)|assumption)
           have q9006:x16_1<(l0.length:Int):=Zc (by first|(with_reducible assumption)|assumption)
           obtain⟨ad9006,e9006,hx9006_0⟩:=Kd.at_int HR0.out x16_1 p9006 q9006
           cases e9006
           replace hx9006_0:=(HB.out.cell (Zb w _ hx9006_0)).trans hx9006_0
           replace p9006:=eq_true p9006
           replace q9006:=eq_true q9006
           go_wp2_with (first|((with_reducible refine ZD (f:=36) rfl ?_);refine ZN (some 21) rfl rfl Tryd.func36 (by kernel_rfl) rfl #[.int .i64 (rd l0 x16_1)] rfl (by(try simp only[List.map_toArray,List.map_cons,List.map_nil]);first|done|rfl|(simp only[Zi,Zh];rfl)) ?_;(with_reducible refine(Zy.calls (rd l0 x16_1) t9007 _ A12.out).mono ?_);rintro e w' ⟨rfl,⟨nd,rfl⟩⟩;refine⟨_,rfl,?_⟩)|((with_reducible refine ZD (f:=35) rfl ?_);refine ZN (some 22) rfl rfl Tryd.func35 (by kernel_rfl) rfl #[.int .i64 t9007] rfl (by(try simp only[List.map_toArray,List.map_cons,List.map_nil]);first|done|rfl|(simp only[Zi,Zh];rfl)) ?_;(with_reducible refine(Zn.calls k1 t9007 t9008 _ A13.out).mono ?_);rintro e w21 ⟨rfl,hb⟩;refine⟨_,rfl,?_⟩;replace HO_3:=Za (Kd.R_below (by(with_reducible repeat(first|apply Kd.R_alloc|apply Kd.R_drewN|apply Kd.R_drew));exact HO_3.out) hb);replace HB:=Za (Zw (by repeat(first|(with_reducible first|exact HB.out|apply Zl|apply Zk|apply Zm)|exact HB.out)) hb);(try clear hb);(try clear hb2);(try clear hk);(try clear hi))|((with_reducible refine Zai (b:=.append) (xs:=#[.tmp 28,.tmp 30]) rfl ?_);at_builtin;refine Kd.R_append Kd.string (w0:=w) w.heap.size rfl (.tmp 28) (.tmp 30) 56 9 (.string ⟨#[]⟩) 16 rfl Tryd.underlying56 info9 rfl (by decide) (by omega) u3 x3_1 ((⟨#[112]⟩:ByteArray) ++ t9008) [.string ((⟨#[112]⟩:ByteArray) ++ t9008)] (fun _=>True) (fun _=>False) rfl rfl ?aP (fun _ hk=>hk.elim) ?aF ?aO ?aB ?aS ?aL ?_;(case aP=>exact rfl);(case aB=>exact(by repeat(first|(with_reducible first|exact HB.out|apply Zl|apply Zk|apply Zm)|exact HB.out)));(case aF=>exact(fun _ _=>trivial));(case aO=>exact(by(with_reducible repeat(first|apply Kd.R_alloc|apply Kd.R_drewN|apply Kd.R_drew));exact HO_3.out));(case aS=>exact(ZK (by repeat(first|(with_reducible first|exact HB.out|apply Zl|apply Zk|apply Zm)|exact HB.out))));(case aL=>have:=LMc20.out;omega);intro v9013 w22 ho hb hg hat;rw[← Ny9012.out] at ho;have HO9014:=Za (ho);replace HB:=Za (hb);clear HO_3;clear ho hb hg hat))
           go_roundg k1
           case measure=>have:=HK1.out;omega
           case rel=>exact⟨(y9012),(wrap64 (x16_1+1)),(by first|rfl|(simp;done)|(simp[*];done)),H',⟨by have:=HK1.out;omega⟩,⟨by(with_reducible repeat(first|apply Kd.R_alloc|apply Kd.R_drewN|apply Kd.R_drew));exact HO9014.out⟩,⟨by repeat(first|(with_reducible first|exact HB.out|apply Zl|apply Zk|apply Zm)|exact HB.out)⟩⟩
          ·rw[if_neg c20] at H
           exact absurd H (by simp)
        ·rw[if_neg c14] at H
         exact absurd H (by simp)
       ·rw[if_neg c11] at H
        exact absurd H (by simp)
      ·rw[if_neg c10] at H
       exact absurd H (by simp)
     ·rw[if_neg c9] at H
      have c9b0:decide (x16_1<(l0.length:Int))=false:=decide_eq_false c9
      clear c9
      replace H:=Zf H
      obtain⟨t9005,A230,H⟩:=H
      replace H:(some t9005)=some r:=H
      have A23:=Za A230;clear A230
      obtain rfl:=Ze H
      obtain⟨Ao24,co24,eo24⟩:=Kd.R_slice HO_3.out
      subst eo24
      go_wp2_with (first|((with_reducible refine ZD (f:=37) rfl ?_);refine ZN (some 34) rfl rfl Tryd.func37 (by kernel_rfl) rfl #[.slice Ao24 x3_1.length co24,.string (⟨#[38]⟩:ByteArray)] rfl (by(try simp only[List.map_toArray,List.map_cons,List.map_nil]);first|done|rfl|(simp only[Zi,Zh];rfl)) ?_;(with_reducible refine(ZF.calls k1 _ _ x3_1 (⟨#[38]⟩:ByteArray) t9005 _ ?side1 ?side2 A23.out).mono ?_);(case side1=>repeat(first|exact(Kd.R_reads' HO_3.out).2.2|(with_reducible refine Kd.C_alloc ?_ _)|(with_reducible refine Kd.C_drewN ?_ _)|(with_reducible refine Kd.C_drew ?_)));(case side2=>exact(Kd.R_reads' HO_3.out).2.1);rintro e w' ⟨rfl,⟨nd,rfl⟩⟩;refine⟨_,rfl,?_⟩))
      go_ret
      exact⟨by first|rfl|(simp[Zu,Zt] <;> rfl)|(simp[*,Zu,Zt] <;> rfl),by repeat(first|(with_reducible first|exact HB.out|apply Zl|apply Zk|apply Zm)|exact HB.out)⟩
 ·replace c3:=Bool.eq_false_iff.mpr c3
  subst c3
  have H1:(some (⟨#[]⟩:ByteArray))=some r:=by rw[if_neg (show ¬(false=true) by decide)] at H;exact H
  clear H
  have H:=H1
  clear H1
  obtain rfl:=Ze H
  go_enter Tryd.func9,Tryd.ntmps9
  go_wp2_with (first|((with_reducible refine Zab (N:=7) rfl ?_);refine Kd.R_lit Kd.string _ 9 ?hg (N:=7) ?hd (xs:=([]:List ByteArray)) (inner:=[]) (ok:=fun _=>True) (okp:=fun _=>True) ?hr ?hp (fun _ hk=>hk) trivial (Below.refl _ _) (Nat.le_refl _) (by simp) ?_;(case hd=>rfl);(case hg=>rfl);(case hr=>first|(go_simp;done)|(go_simp;rfl));(case hp=>exact(Reps.none _ _));intro v9002 w25 ho26 hb hg_ hnew_;clear hg_ hnew_;(first|rw[← Ny9001.out] at ho26|(simp only[Int.reduceToNat] at ho26;rw[← Ny9001.out] at ho26));have HO9003:=Za (Kd.R_lower ho26 (ZK (by repeat(first|(with_reducible first|exact HB.out|apply Zl|apply Zk|apply Zm)|exact HB.out))));replace HB:=Za (Zw (by repeat(first|(with_reducible first|exact HB.out|apply Zl|apply Zk|apply Zm)|exact HB.out)) hb);clear hb ho26)|((with_reducible refine ZD (f:=34) rfl ?_);refine ZN (some 9) rfl rfl Tryd.func34 (by kernel_rfl) rfl #[.slice A0 l0.length c0] rfl (by(try simp only[List.map_toArray,List.map_cons,List.map_nil]);first|done|rfl|(simp only[Zi,Zh];rfl)) ?_;(with_reducible refine(Zr.calls k _ _ l0 false _ ?side1 ?side2 A2.out).mono ?_);(case side1=>repeat(first|exact(Kd.C_below HR0.out HB.out)|(with_reducible refine Kd.C_alloc ?_ _)|(with_reducible refine Kd.C_drewN ?_ _)|(with_reducible refine Kd.C_drew ?_)));(case side2=>exact HC0.out);rintro e w' ⟨rfl,⟨nd,rfl⟩⟩;refine⟨_,rfl,?_⟩))
  go_ret
  exact⟨by first|rfl|(simp[Zu,Zt] <;> rfl)|(simp[*,Zu,Zt] <;> rfl),by repeat(first|(with_reducible first|exact HB.out|apply Zl|apply Zk|apply Zm)|exact HB.out)⟩
end Go.Proofs.YthphnhmabieflaaDoor.Pr
