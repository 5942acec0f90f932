/- The texts of one claim, put together by a program of this session. -/
import Derived.Test.YthphnhmabieflaaDoorProg
import Derived.Below
import Derived.Deep.Draws
import Derived.Deep.AppendLies
import Derived.Maps.AppendAt
import Derived.OwnWalk
import Derived.Laws.BytesArg
import Derived.Laws.MakeOwn
import Derived.Laws.OwnMore
import Derived.Deep.OwnRows
import Derived.Tactics
import Derived.Lib.ConvBytes
import Derived.Laws.Slices
import Derived.WalkKit
import Derived.KernelRfl
import Derived.RowKit3
import Derived.Deep.LoopGhost
import Derived.Deep.QuietTactic
import Derived.BigQuiet
import Derived.WideLaws
import Derived.Deep.DeepCutAuto
import Derived.Deep.CutBlock
import Derived.Deep.RegionHeld3
import Derived.Laws.Rows
import Derived.Lib.AppendStr
import Derived.ArgAppend
import Derived.Laws.IdiomCopy
import Derived.OrdersHeld
import Derived.Laws.BitsLemmas
import Derived.RowKit
import Derived.ChangeArms
import Derived.ChangeSlices
import Derived.WideShapes
import Derived.Deep.Slices
import Derived.Test.YthphnhmabieflaaDoorBFt0
namespace Go.Proofs.YthphnhmabieflaaDoor.Pr
open Go.RowKit Go.Proofs.YthphnhmabieflaaDoorW.PrintWords Go.Proofs.YthphnhmabieflaaDoorW.PrintLast Go.Proofs.YthphnhmabieflaaDoorW.PrintMore
attribute [local go_sem] Zah Zaf Zas Zar Z8 Z7 Zag Zae
set_option linter.unusedVariables false
set_option linter.unusedSimpArgs false
def errW:Option Int→Value
 | none=>.nilIface
 | some c=>.iface 137 (.int .i64 c)
theorem ZA:errW none=.nilIface:=rfl
theorem Zz (c:Int):errW (some c)=.iface 137 (.int .i64 c):=rfl
theorem info3:(Tryd.prog.info? 3).map (fun i=>(i.zero,i.size,i.bytes))=some (some (.int .i64 0),1,8):=by kernel_rfl
theorem Zcw:(Tryd.prog.info? 9).map (fun i=>(i.zero,i.size,i.bytes))=some (some (.string ⟨#[]⟩),1,16):=by kernel_rfl
theorem info66:(Tryd.prog.info? 66).map (fun i=>(i.zero,i.size,i.bytes))=some (some (.agg #[(.int .i64 0),(.int .i64 0),(.int .i64 0),(.int .i64 0),(.bool false)]),5,40):=by kernel_rfl
theorem info73:(Tryd.prog.info? 73).map (fun i=>(i.zero,i.size,i.bytes))=some (some (.agg #[(.string ⟨#[]⟩),(.slice none 0 0),(.int .i64 0)]),3,48):=by kernel_rfl
def rd_L3 (xs:List (List Int)) (i:Int):(List Int):=xs.getD i.toNat ([]:List Int)
structure S89 where
 f0:ByteArray
 f1:(List Int)
 f2:Int
def z89:S89:=⟨(⟨#[]⟩:ByteArray),([]:List Int),(0:Int)⟩
def k89:Kd S89:=Kd.iso (Kd.pair Kd.string (Kd.pair (Kd.slice 3 (Kd.int .i64)) (Kd.int .i64))) (fun x:S89=>(x.f0,x.f1,x.f2))
theorem k89_open {w:World} {x:S89} {cs:List Value} (h:k89.K w x cs):∃A1 c1,cs=[.string x.f0,.slice A1 x.f1.length c1,.int .i64 x.f2]∧x.f1.length≤c1∧(Kd.int .i64).C w A1 x.f1.length x.f1:=by
 obtain⟨_,_,rfl,rfl,⟨_,_,rfl,⟨A1,c1,rfl,l1,g1⟩,rfl⟩⟩:=h
 exact⟨A1,c1,rfl,l1,g1⟩
def ZaI (xs:List S89) (i:Int):S89:=xs.getD i.toNat z89
theorem at_T89 {w:World} {A:Option Addr} {n:Nat} {xs:List S89} (h:Kd.C k89 w A n xs) (i:Int) (h0:0≤i) (h1:i<n):∃ad A1 c1,A=some ad∧w.cell? (ad.add (i.toNat * 3))=some (.string (ZaI xs i).f0)∧w.cell? ⟨(ad.add (i.toNat * 3)).block,(ad.add (i.toNat * 3)).off+1,none⟩=some (.slice A1 (ZaI xs i).f1.length c1)∧w.cell? ⟨(ad.add (i.toNat * 3)).block,(ad.add (i.toNat * 3)).off+2,none⟩=some (.int .i64 (ZaI xs i).f2)∧(ZaI xs i).f1.length≤c1∧(Kd.int .i64).C w A1 (ZaI xs i).f1.length (ZaI xs i).f1:=by
 obtain⟨ad,c,e,_,hK,hc0⟩:=Kd.C_get h z89 i h0 h1
 have hc:∀j u,c[j]? = some u→w.cell? (ad.add (i.toNat * 3+j))=some u:=hc0
 obtain⟨A1,c1,rfl,l1,g1⟩:=k89_open hK
 exact⟨ad,A1,c1,e,hc 0 _ rfl,by rw[← Zbf _ _ 1 (by omega)];exact hc 1 _ rfl,by rw[← Zbf _ _ 2 (by omega)];exact hc 2 _ rfl,l1,g1⟩
structure S93 where
 f0:Int
 f1:Int
 f2:Int
 f3:Int
 f4:Bool
def z93:S93:=⟨(0:Int),(0:Int),(0:Int),(0:Int),false⟩
def k93:Kd S93:=Kd.iso (Kd.pair (Kd.int .i64) (Kd.pair (Kd.int .i64) (Kd.pair (Kd.int .i64) (Kd.pair (Kd.int .i64) Kd.bool)))) (fun x:S93=>(x.f0,x.f1,x.f2,x.f3,x.f4))
theorem k93_open {w:World} {x:S93} {cs:List Value} (h:k93.K w x cs):cs=[.int .i64 x.f0,.int .i64 x.f1,.int .i64 x.f2,.int .i64 x.f3,.bool x.f4]:=by
 obtain⟨_,_,rfl,rfl,⟨_,_,rfl,rfl,⟨_,_,rfl,rfl,⟨_,_,rfl,rfl,rfl⟩⟩⟩⟩:=h
 exact rfl
def Za6 (xs:List S93) (i:Int):S93:=xs.getD i.toNat z93
theorem at_T93 {w:World} {A:Option Addr} {n:Nat} {xs:List S93} (h:Kd.C k93 w A n xs) (i:Int) (h0:0≤i) (h1:i<n):∃ad ,A=some ad∧w.cell? (ad.add (i.toNat * 5))=some (.int .i64 (Za6 xs i).f0)∧w.cell? ⟨(ad.add (i.toNat * 5)).block,(ad.add (i.toNat * 5)).off+1,none⟩=some (.int .i64 (Za6 xs i).f1)∧w.cell? ⟨(ad.add (i.toNat * 5)).block,(ad.add (i.toNat * 5)).off+2,none⟩=some (.int .i64 (Za6 xs i).f2)∧w.cell? ⟨(ad.add (i.toNat * 5)).block,(ad.add (i.toNat * 5)).off+3,none⟩=some (.int .i64 (Za6 xs i).f3)∧w.cell? ⟨(ad.add (i.toNat * 5)).block,(ad.add (i.toNat * 5)).off+4,none⟩=some (.bool (Za6 xs i).f4):=by
 obtain⟨ad,c,e,_,hK,hc0⟩:=Kd.C_get h z93 i h0 h1
 have hc:∀j u,c[j]? = some u→w.cell? (ad.add (i.toNat * 5+j))=some u:=hc0
 obtain rfl:=k93_open hK
 exact⟨ad,e,hc 0 _ rfl,by rw[← Zbf _ _ 1 (by omega)];exact hc 1 _ rfl,by rw[← Zbf _ _ 2 (by omega)];exact hc 2 _ rfl,by rw[← Zbf _ _ 3 (by omega)];exact hc 3 _ rfl,by rw[← Zbf _ _ 4 (by omega)];exact hc 4 _ rfl⟩
structure S73 where
 f0:ByteArray
 f1:(List Int)
 f2:Int
def z73:S73:=⟨(⟨#[]⟩:ByteArray),([]:List Int),(0:Int)⟩
def k73:Kd S73:=Kd.iso (Kd.pair Kd.string (Kd.pair (Kd.slice 3 (Kd.int .i64)) (Kd.int .i64))) (fun x:S73=>(x.f0,x.f1,x.f2))
theorem k73_open {w:World} {x:S73} {cs:List Value} (h:k73.K w x cs):∃A1 c1,cs=[.string x.f0,.slice A1 x.f1.length c1,.int .i64 x.f2]∧x.f1.length≤c1∧(Kd.int .i64).C w A1 x.f1.length x.f1:=by
 obtain⟨_,_,rfl,rfl,⟨_,_,rfl,⟨A1,c1,rfl,l1,g1⟩,rfl⟩⟩:=h
 exact⟨A1,c1,rfl,l1,g1⟩
theorem k73_openM {w:World} {base:Nat} {ok:Nat→Prop} {x:S73} {cs:List Value} (h:k73.M w base ok x cs):∃v1,cs=[.string x.f0,v1,.int .i64 x.f2]∧(Kd.int .i64).R 3 w base ok v1 x.f1:=by
 obtain⟨_,_,rfl,rfl,⟨_,_,rfl,⟨v1,rfl,g1⟩,rfl⟩⟩:=h
 exact⟨v1,rfl,g1⟩
theorem k73_mkM (w:World) (base:Nat) (ok:Nat→Prop) (x:S73) {v1:Value} (g1:(Kd.int .i64).R 3 w base ok v1 x.f1):k73.M w base ok x [.string x.f0,v1,.int .i64 x.f2]:=⟨[.string x.f0],[v1,.int .i64 x.f2],rfl,rfl,⟨[v1],[.int .i64 x.f2],rfl,⟨v1,rfl,g1⟩,rfl⟩⟩
def Zp (xs:List S73) (i:Int):S73:=xs.getD i.toNat z73
theorem Zan {w:World} {A:Option Addr} {n:Nat} {xs:List S73} (h:Kd.C k73 w A n xs) (i:Int) (h0:0≤i) (h1:i<n):∃ad A1 c1,A=some ad∧w.cell? (ad.add (i.toNat * 3))=some (.string (Zp xs i).f0)∧w.cell? ⟨(ad.add (i.toNat * 3)).block,(ad.add (i.toNat * 3)).off+1,none⟩=some (.slice A1 (Zp xs i).f1.length c1)∧w.cell? ⟨(ad.add (i.toNat * 3)).block,(ad.add (i.toNat * 3)).off+2,none⟩=some (.int .i64 (Zp xs i).f2)∧(Zp xs i).f1.length≤c1∧(Kd.int .i64).C w A1 (Zp xs i).f1.length (Zp xs i).f1:=by
 obtain⟨ad,c,e,_,hK,hc0⟩:=Kd.C_get h z73 i h0 h1
 have hc:∀j u,c[j]? = some u→w.cell? (ad.add (i.toNat * 3+j))=some u:=hc0
 obtain⟨A1,c1,rfl,l1,g1⟩:=k73_open hK
 exact⟨ad,A1,c1,e,hc 0 _ rfl,by rw[← Zbf _ _ 1 (by omega)];exact hc 1 _ rfl,by rw[← Zbf _ _ 2 (by omega)];exact hc 2 _ rfl,l1,g1⟩
structure S66 where
 f0:Int
 f1:Int
 f2:Int
 f3:Int
 f4:Bool
def z66:S66:=⟨(0:Int),(0:Int),(0:Int),(0:Int),false⟩
def k66:Kd S66:=Kd.iso (Kd.pair (Kd.int .i64) (Kd.pair (Kd.int .i64) (Kd.pair (Kd.int .i64) (Kd.pair (Kd.int .i64) Kd.bool)))) (fun x:S66=>(x.f0,x.f1,x.f2,x.f3,x.f4))
theorem k66_open {w:World} {x:S66} {cs:List Value} (h:k66.K w x cs):cs=[.int .i64 x.f0,.int .i64 x.f1,.int .i64 x.f2,.int .i64 x.f3,.bool x.f4]:=by
 obtain⟨_,_,rfl,rfl,⟨_,_,rfl,rfl,⟨_,_,rfl,rfl,⟨_,_,rfl,rfl,rfl⟩⟩⟩⟩:=h
 exact rfl
theorem k66_openM {w:World} {base:Nat} {ok:Nat→Prop} {x:S66} {cs:List Value} (h:k66.M w base ok x cs):cs=[.int .i64 x.f0,.int .i64 x.f1,.int .i64 x.f2,.int .i64 x.f3,.bool x.f4]:=by
 obtain⟨_,_,rfl,rfl,⟨_,_,rfl,rfl,⟨_,_,rfl,rfl,⟨_,_,rfl,rfl,rfl⟩⟩⟩⟩:=h
 exact rfl
theorem k66_mkM (w:World) (base:Nat) (ok:Nat→Prop) (x:S66)  : k66.M w base ok x [.int .i64 x.f0,.int .i64 x.f1,.int .i64 x.f2,.int .i64 x.f3,.bool x.f4]:=⟨[.int .i64 x.f0],[.int .i64 x.f1,.int .i64 x.f2,.int .i64 x.f3,.bool x.f4],rfl,rfl,⟨[.int .i64 x.f1],[.int .i64 x.f2,.int .i64 x.f3,.bool x.f4],rfl,rfl,⟨[.int .i64 x.f2],[.int .i64 x.f3,.bool x.f4],rfl,rfl,⟨[.int .i64 x.f3],[.bool x.f4],rfl,rfl,rfl⟩⟩⟩⟩
def Zw (xs:List S66) (i:Int):S66:=xs.getD i.toNat z66
theorem ZbT {w:World} {A:Option Addr} {n:Nat} {xs:List S66} (h:Kd.C k66 w A n xs) (i:Int) (h0:0≤i) (h1:i<n):∃ad ,A=some ad∧w.cell? (ad.add (i.toNat * 5))=some (.int .i64 (Zw xs i).f0)∧w.cell? ⟨(ad.add (i.toNat * 5)).block,(ad.add (i.toNat * 5)).off+1,none⟩=some (.int .i64 (Zw xs i).f1)∧w.cell? ⟨(ad.add (i.toNat * 5)).block,(ad.add (i.toNat * 5)).off+2,none⟩=some (.int .i64 (Zw xs i).f2)∧w.cell? ⟨(ad.add (i.toNat * 5)).block,(ad.add (i.toNat * 5)).off+3,none⟩=some (.int .i64 (Zw xs i).f3)∧w.cell? ⟨(ad.add (i.toNat * 5)).block,(ad.add (i.toNat * 5)).off+4,none⟩=some (.bool (Zw xs i).f4):=by
 obtain⟨ad,c,e,_,hK,hc0⟩:=Kd.C_get h z66 i h0 h1
 have hc:∀j u,c[j]? = some u→w.cell? (ad.add (i.toNat * 5+j))=some u:=hc0
 obtain rfl:=k66_open hK
 exact⟨ad,e,hc 0 _ rfl,by rw[← Zbf _ _ 1 (by omega)];exact hc 1 _ rfl,by rw[← Zbf _ _ 2 (by omega)];exact hc 2 _ rfl,by rw[← Zbf _ _ 3 (by omega)];exact hc 3 _ rfl,by rw[← Zbf _ _ 4 (by omega)];exact hc 4 _ rfl⟩
def rd_L9 (xs:List (List S73)) (i:Int):(List S73):=xs.getD i.toNat ([]:List S73)
def rd_L10 (xs:List (List S66)) (i:Int):(List S66):=xs.getD i.toNat ([]:List S66)
structure S36 where
 f0:(List S73)
 f1:(List S66)
 f2:Int
def z36:S36:=⟨([]:List S73),([]:List S66),(0:Int)⟩
def k36:Kd S36:=Kd.iso (Kd.pair (Kd.slice 73 k73) (Kd.pair (Kd.slice 66 k66) (Kd.int .i64))) (fun x:S36=>(x.f0,x.f1,x.f2))
def rd_T36 (xs:List S36) (i:Int):S36:=xs.getD i.toNat z36
def rd_L12 (xs:List (List S89)) (i:Int):(List S89):=xs.getD i.toNat ([]:List S89)
def rd_L13 (xs:List (List S93)) (i:Int):(List S93):=xs.getD i.toNat ([]:List S93)
structure S30 where
 f0:(List S89)
 f1:(List S93)
 f2:Int
def z30:S30:=⟨([]:List S89),([]:List S93),(0:Int)⟩
def k30:Kd S30:=Kd.iso (Kd.pair (Kd.slice 89 k89) (Kd.pair (Kd.slice 93 k93) (Kd.int .i64))) (fun x:S30=>(x.f0,x.f1,x.f2))
theorem ZdY {w:World} {x:S30} {cs:List Value} (h:k30.K w x cs):∃A0 c0 A1 c1,cs=[.slice A0 x.f0.length c0,.slice A1 x.f1.length c1,.int .i64 x.f2]∧x.f0.length≤c0∧k89.C w A0 x.f0.length x.f0∧x.f1.length≤c1∧k93.C w A1 x.f1.length x.f1:=by
 obtain⟨_,_,rfl,⟨A0,c0,rfl,l0,g0⟩,⟨_,_,rfl,⟨A1,c1,rfl,l1,g1⟩,rfl⟩⟩:=h
 exact⟨A0,c0,A1,c1,rfl,l0,g0,l1,g1⟩
def rd_T30 (xs:List S30) (i:Int):S30:=xs.getD i.toNat z30
end Go.Proofs.YthphnhmabieflaaDoor.Pr
namespace Go.Proofs.YthphnhmabieflaaDoor.Op
open Go.RowKit Go.ChangeShapes Go.WideShapes Go.Proofs.YthphnhmabieflaaDoorW.PrintWords
structure ZaY {α:Type} (P:Program) (d:Kd α) (t:TypeId) (ok:α→Prop):Prop where
 cells:P.cellsOf t=d.sz
 op:∀{H:Type} {enc:TypeId×Value→H} {w:World} {base fuel:Nat} {cs:List Value} {x:DataW H×List MemPlace},DataW.trod enc P w base (fun _=>true) true fuel t cs=some x→∃y,d.K w y cs∧ok y
theorem ZaY.int {P:Program} {t:TypeId} {k:IntKind} (ht:P.underlying t=some (.int k)) (hc:P.cellsOf t=1):ZaY P (Kd.int k) t (fun n=>(Lit.int k n).wf=true):=
 ⟨hc,fun h=>by
  obtain⟨n,rfl,_,hw⟩:=DataW.trod_int ht h
  exact⟨n,rfl,hw⟩⟩
theorem ZaY.bool {P:Program} {t:TypeId} (ht:P.underlying t=some .bool) (hc:P.cellsOf t=1):ZaY P Kd.bool t (fun _=>True):=
 ⟨hc,fun h=>by
  obtain⟨n,rfl,_⟩:=DataW.trod_bool ht h
  exact⟨n,rfl,trivial⟩⟩
theorem ZaY.string {P:Program} {t:TypeId} (ht:P.underlying t=some .string) (hc:P.cellsOf t=1):ZaY P Kd.string t (fun s=>s.size≤maxLen):=
 ⟨hc,fun h=>by
  obtain⟨n,rfl,_,hw⟩:=DataW.trod_string ht h
  exact⟨n,rfl,hw⟩⟩
theorem choose_list {β:Type} (Q:Nat→β→Prop) (n:Nat) (h:∀i,i<n→∃y,Q i y):∃l:List β,l.length=n∧∀i y,l[i]? = some y→Q i y:=by
 induction n with
 | zero=>exact⟨[],rfl,fun i y h=>by simp at h⟩
 | succ n ih=>
  obtain⟨l,hl,hq⟩:=ih (fun i hi=>h i (by omega))
  obtain⟨y,hy⟩:=h n (by omega)
  refine⟨l ++ [y],by simp[hl],fun i z hz=>?_⟩
  rcases Nat.lt_or_ge i l.length with hi|hi
  ·rw[List.getElem?_append_left hi] at hz
   exact hq i z hz
  ·have hlt:=(List.getElem?_eq_some_iff.1 hz).1
   rw[List.length_append,List.length_singleton] at hlt
   have e:i=l.length:=by omega
   subst e
   have hz':y=z:=by simpa using hz
   subst hz'
   rw[hl]
   exact hy
theorem ZaY.slice {α:Type} {P:Program} {d:Kd α} {t e:TypeId} {ok:α→Prop} (he:ZaY P d e ok) (ht:P.underlying t=some (.slice e)) (hc:P.cellsOf t=1) :
  ZaY P (Kd.slice e d) t (fun l=>l.length≤maxLen∧∀x∈l,ok x):=
 ⟨hc,fun {H enc w base fuel cs x} h=>by
  rcases DataW.trod_slice ht h with ⟨rfl,_⟩|⟨a,len,cap,elems,rest,n,_,rfl,_,hb,hl,hm,hlen,hel,_,_⟩
  ·exact⟨[],⟨none,0,rfl,Nat.le_refl _,rfl,by simp,fun h0=>absurd h0 (by simp)⟩,by simp⟩
  ·have key:∀i,i<len→∃y,ok y∧∃c,c.length=d.sz∧d.K w y c∧∀j u,c[j]? = some u→w.cell? (a.add (i * d.sz+j))=some u:=by
    intro i hi
    have hi':=hel i hi
    rw[Zl (by omega),Option.bind_eq_some_iff] at hi'
    obtain⟨cs',h1,h2⟩:=hi'
    obtain⟨y,hk,hy⟩:=he.op h2
    refine⟨y,hy,cs',d.K_len hk,hk,fun j u hu=>?_⟩
    have:=(World.cells?_some h1).2.2 j (by
     have:=(List.getElem?_eq_some_iff.1 hu).1
     rw[d.K_len hk] at this
     rw[he.cells];exact this)
    rw[he.cells] at this
    rw[Addr.add_add] at this
    rw[this,hu]
   obtain⟨l,hll,hq⟩:=choose_list _ len key
   refine⟨l,⟨some a,cap,by rw[hll],by omega,rfl,by rw[hll];simp only[maxLen] at hm;omega,fun h0=>⟨a,rfl,fun j p hj=>?_⟩⟩,by omega,fun x hx=>?_⟩
   ·obtain⟨_,hc'⟩:=hq j p hj
    exact hc'
   ·obtain⟨i,hi⟩:=List.getElem?_of_mem hx
    exact(hq i x hi).1⟩
theorem Zcb {α β:Type} {a:Kd α} {b:Kd β} {w:World} {x:α} {y:β} {cs:List Value} {off:Nat} (h0:a.K w x ((cs.drop off).take a.sz)) (h1:b.K w y ((cs.drop (off+a.sz)).take b.sz)) :
  (Kd.pair a b).K w (x,y) ((cs.drop off).take (Kd.pair a b).sz):=
 ⟨_,_,by show(cs.drop off).take (a.sz+b.sz)=_;rw[List.take_add,List.drop_drop],h0,h1⟩
theorem ZaY.fieldAt {α:Type} {P:Program} {d:Kd α} {t:TypeId} {ok:α→Prop} (ho:ZaY P d t ok) {H:Type} {enc:TypeId×Value→H} {w:World} {base fuel off:Nat} {cs:List Value} {x:Option (DataW H×List MemPlace)}
  (h:DataW.trod enc P w base (fun _=>true) true fuel t ((cs.drop off).take (P.cellsOf t))=x) (hx:x.isSome=true):∃y,d.K w y ((cs.drop off).take d.sz)∧ok y:=by
 obtain⟨z,rfl⟩:=Option.isSome_iff_exists.1 hx
 obtain⟨y,hk,hy⟩:=ho.op h
 rw[ho.cells] at hk
 exact⟨y,hk,hy⟩
end Go.Proofs.YthphnhmabieflaaDoor.Op
namespace Go.Proofs.YthphnhmabieflaaDoor.Pr
open Go.RowKit Go.Proofs.YthphnhmabieflaaDoorW.PrintWords Go.Proofs.YthphnhmabieflaaDoorW.PrintLast Go.Proofs.YthphnhmabieflaaDoorW.PrintMore
attribute [local go_sem] Zah Zaf Zas Zar Z8 Z7 Zag Zae
set_option linter.unusedVariables false
set_option linter.unusedSimpArgs false
open Go.Proofs.YthphnhmabieflaaDoor.Op Go.ChangeShapes Go.WideShapes
def okS89 (x:S89):Prop:=(fun s_:ByteArray=>s_.size≤maxLen) x.f0∧(fun l_:List Int=>l_.length≤maxLen∧∀x_∈l_,(fun n_:Int=>(Lit.int .i64 n_).wf=true) x_) x.f1∧(fun n_:Int=>(Lit.int .i64 n_).wf=true) x.f2
theorem op_k89:ZaY Tryd.prog k89 89 okS89:=
 ⟨by kernel_rfl,fun {H enc w base fuel cs x} h=>by
  obtain⟨xs,n,_,_,hl,hlen,hf⟩:=DataW.trod_struct Tryd.underlying89 h
  have hl':cs.length=3:=hl.trans (by kernel_rfl)
  have hlen':xs.length=3:=hlen
  obtain⟨y0,h0,o0⟩:=(ZaY.string Tryd.underlying9 (by kernel_rfl)).fieldAt (hf 0 _ rfl) (by rw[Zl (by omega)];rfl)
  obtain⟨y1,h1,o1⟩:=(ZaY.slice (ZaY.int Tryd.underlying3 (by kernel_rfl)) Tryd.underlying22 (by kernel_rfl)).fieldAt (hf 1 _ rfl) (by rw[Zl (by omega)];rfl)
  obtain⟨y2,h2,o2⟩:=(ZaY.int Tryd.underlying3 (by kernel_rfl)).fieldAt (hf 2 _ rfl) (by rw[Zl (by omega)];rfl)
  have hk:k89.K w ⟨y0,y1,y2⟩ ((cs.drop 0).take k89.sz):=(Zcb (off:=0) h0 (Zcb (off:=1) h1 h2))
  have hcs:(cs.drop 0).take k89.sz=cs:=by rw[List.drop_zero];exact List.take_of_length_le (by rw[hl'];exact Nat.le_refl _)
  rw[hcs] at hk
  exact⟨_,hk,o0,o1,o2⟩⟩
def okS93 (x:S93):Prop:=(fun n_:Int=>(Lit.int .i64 n_).wf=true) x.f0∧(fun n_:Int=>(Lit.int .i64 n_).wf=true) x.f1∧(fun n_:Int=>(Lit.int .i64 n_).wf=true) x.f2∧(fun n_:Int=>(Lit.int .i64 n_).wf=true) x.f3∧(fun _:Bool=>True) x.f4
theorem op_k93:ZaY Tryd.prog k93 93 okS93:=
 ⟨by kernel_rfl,fun {H enc w base fuel cs x} h=>by
  obtain⟨xs,n,_,_,hl,hlen,hf⟩:=DataW.trod_struct Tryd.underlying93 h
  have hl':cs.length=5:=hl.trans (by kernel_rfl)
  have hlen':xs.length=5:=hlen
  obtain⟨y0,h0,o0⟩:=(ZaY.int Tryd.underlying3 (by kernel_rfl)).fieldAt (hf 0 _ rfl) (by rw[Zl (by omega)];rfl)
  obtain⟨y1,h1,o1⟩:=(ZaY.int Tryd.underlying3 (by kernel_rfl)).fieldAt (hf 1 _ rfl) (by rw[Zl (by omega)];rfl)
  obtain⟨y2,h2,o2⟩:=(ZaY.int Tryd.underlying3 (by kernel_rfl)).fieldAt (hf 2 _ rfl) (by rw[Zl (by omega)];rfl)
  obtain⟨y3,h3,o3⟩:=(ZaY.int Tryd.underlying3 (by kernel_rfl)).fieldAt (hf 3 _ rfl) (by rw[Zl (by omega)];rfl)
  obtain⟨y4,h4,o4⟩:=(ZaY.bool Tryd.underlying4 (by kernel_rfl)).fieldAt (hf 4 _ rfl) (by rw[Zl (by omega)];rfl)
  have hk:k93.K w ⟨y0,y1,y2,y3,y4⟩ ((cs.drop 0).take k93.sz):=(Zcb (off:=0) h0 (Zcb (off:=1) h1 (Zcb (off:=2) h2 (Zcb (off:=3) h3 h4))))
  have hcs:(cs.drop 0).take k93.sz=cs:=by rw[List.drop_zero];exact List.take_of_length_le (by rw[hl'];exact Nat.le_refl _)
  rw[hcs] at hk
  exact⟨_,hk,o0,o1,o2,o3,o4⟩⟩
def okS30 (x:S30):Prop:=(fun l_:List (S89)=>l_.length≤maxLen∧∀x_∈l_,okS89 x_) x.f0∧(fun l_:List (S93)=>l_.length≤maxLen∧∀x_∈l_,okS93 x_) x.f1∧(fun n_:Int=>(Lit.int .i64 n_).wf=true) x.f2
theorem op_k30:ZaY Tryd.prog k30 30 okS30:=
 ⟨by kernel_rfl,fun {H enc w base fuel cs x} h=>by
  obtain⟨xs,n,_,_,hl,hlen,hf⟩:=DataW.trod_struct Tryd.underlying30 h
  have hl':cs.length=3:=hl.trans (by kernel_rfl)
  have hlen':xs.length=3:=hlen
  obtain⟨y0,h0,o0⟩:=(ZaY.slice op_k89 Tryd.underlying27 (by kernel_rfl)).fieldAt (hf 0 _ rfl) (by rw[Zl (by omega)];rfl)
  obtain⟨y1,h1,o1⟩:=(ZaY.slice op_k93 Tryd.underlying28 (by kernel_rfl)).fieldAt (hf 1 _ rfl) (by rw[Zl (by omega)];rfl)
  obtain⟨y2,h2,o2⟩:=(ZaY.int Tryd.underlying3 (by kernel_rfl)).fieldAt (hf 2 _ rfl) (by rw[Zl (by omega)];rfl)
  have hk:k30.K w ⟨y0,y1,y2⟩ ((cs.drop 0).take k30.sz):=(Zcb (off:=0) h0 (Zcb (off:=1) h1 h2))
  have hcs:(cs.drop 0).take k30.sz=cs:=by rw[List.drop_zero];exact List.take_of_length_le (by rw[hl'];exact Nat.le_refl _)
  rw[hcs] at hk
  exact⟨_,hk,o0,o1,o2⟩⟩
end Go.Proofs.YthphnhmabieflaaDoor.Pr
namespace Go.Proofs.YthphnhmabieflaaDoor.Ni
open Go.RowKit Go.Proofs.YthphnhmabieflaaDoorW.PrintWords
theorem ZH {w W:World} (hb:Below w.heap.size w W) {a:Addr} {v:Value} (h:w.cell? a=some v):W.cell? a=some v:=(hb.cell (Zc w _ h)).trans h
theorem wrap_succ {i:Int} (h0:0≤i) (h:i<9223372036854775807):wrap64 (i+1)=i+1:=by
 unfold wrap64;omega
theorem Zbb {i:Int} (h0 : -9223372036854775808≤i) (h:i≤9223372036854775807):wrap64 i=i:=by
 unfold wrap64;omega
theorem Zax {i n:Nat} (h:i<n) (hn:n≤9223372036854775807):wrap64 ((i:Int)+1)=((i+1:Nat):Int):=by
 unfold wrap64;omega
theorem wrap_pred {i:Nat} (h:0<i) (hn:i≤9223372036854775807):wrap64 ((i:Int) - 1)=((i - 1:Nat):Int):=by
 unfold wrap64;omega
theorem wf_i64 {n:Int} (h:(Lit.int .i64 n).wf=true) : -9223372036854775808≤n∧n≤9223372036854775807:=by
 simp[Lit.wf,IntKind.min,IntKind.max,IntKind.signed,IntKind.bits] at h
 omega
theorem Zbg (l:List Int) (i:Nat):rd l (i:Int)=l.getD i 0:=by unfold rd;rw[Int.toNat_natCast]
theorem ZaA {α:Type} {l:List α} {i:Nat} (h:i<l.length) (d:α):l.drop i=l.getD i d :: l.drop (i+1):=by
 rw[List.drop_eq_getElem_cons h,List.getD_eq_getElem?_getD,Zl h];rfl
theorem Zbp {α:Type} {l:List α} {i:Nat} (h:i<l.length) (d:α):l.getD i d∈l:=by
 rw[List.getD_eq_getElem?_getD,Zl h];exact List.getElem_mem h
theorem getD_some {α:Type} {l:List α} {i:Nat} (h:i<l.length) (d:α):l[i]? = some (l.getD i d):=by
 rw[List.getD_eq_getElem?_getD,Zl h];rfl
theorem ZdV {α:Type} (ys:List α) (z d:α) (i:Nat) (h:i<ys.length) (x:α) (hx:x=ys.getD i d):(ys.take i ++ List.replicate (ys.length - i) z).set i x=ys.take (i+1) ++ List.replicate (ys.length - (i+1)) z:=by
 subst hx
 have e:ys.length - i=(ys.length - (i+1))+1:=by omega
 rw[e,List.replicate_succ,List.set_append_right _ _ (by simp;omega)]
 have e2:i - (ys.take i).length=0:=by simp;omega
 rw[e2,List.set_cons_zero,List.take_succ_eq_append_getElem h,List.append_assoc]
 congr 2
 simp[List.getD_eq_getElem?_getD,Zl h]
theorem ZaM (n:Nat) (Q:Nat→Nat→Prop) (K:Nat) (hend:∀k,K≤k→Q (k+1) n) (hstep:∀k i,K≤k→i<n→Q k (i+1)→Q (k+1) i):∀(i k:Nat),i≤n→K+(n - i)<k→Q k i:=by
 have key:∀(d i k:Nat),i≤n→n - i=d→K+d<k→Q k i:=by
  intro d
  induction d with
  | zero=>
   intro i k hi hd hk
   obtain⟨m,rfl⟩:∃m,k=m+1:=⟨k - 1,by omega⟩
   obtain rfl:i=n:=by omega
   exact hend m (by omega)
  | succ d ih=>
   intro i k hi hd hk
   obtain⟨m,rfl⟩:∃m,k=m+1:=⟨k - 1,by omega⟩
   exact hstep m i (by omega) (by omega) (ih (i+1) m (by omega) (by omega) (by omega))
 intro i k hi hk
 exact key (n - i) i k hi rfl hk
theorem set_mid (pre:List Int) (x y:Int) (post:List Int):(pre ++ x :: post).set pre.length y=pre ++ y :: post:=by
 rw[List.set_append_right _ _ (Nat.le_refl _),Nat.sub_self,List.set_cons_zero]
def Zbn {α:Type} (p:α→Bool) (l:List α):Int:=match l.findIdx? p with|some i=>i|none=>-1
theorem ZbO {α:Type} (p:α→Bool) (l:List α) (k:Nat) (x:α) (hk:l[k]? = some x) (hx:p x=true) (hb:∀j y,j<k→l[j]? = some y→p y=false):Zbn p l=(k:Int):=by
 have h:l.findIdx? p=some k:=by
  rw[List.findIdx?_eq_some_iff_getElem]
  obtain⟨hl,he⟩:=List.getElem?_eq_some_iff.1 hk
  refine⟨hl,by rw[he];exact hx,fun j hj=>?_⟩
  have:=hb j _ hj (Zl (by omega))
  simp[this]
 simp[Zbn,h]
theorem ZbD {α:Type} (p:α→Bool) (l:List α) (hb:∀j y,j<l.length→l[j]? = some y→p y=false):Zbn p l=-1:=by
 have h:l.findIdx? p=none:=by
  rw[List.findIdx?_eq_none_iff]
  intro x hx
  obtain⟨j,hj⟩:=List.getElem?_of_mem hx
  exact hb j x (List.getElem?_eq_some_iff.1 hj).1 hj
 simp[Zbn,h]
theorem Zdv {α:Type} (p:α→Bool) (l:List α):decide (0≤Zbn p l)=l.any p:=by
 unfold Zbn
 cases h:l.findIdx? p with
 | some i=>
  rw[List.findIdx?_eq_some_iff_getElem] at h
  obtain⟨hl,hp,_⟩:=h
  have:l.any p=true:=List.any_eq_true.2 ⟨_,List.getElem_mem hl,hp⟩
  rw[this]
  exact Ze (Int.natCast_nonneg _)
 | none=>
  rw[List.findIdx?_eq_none_iff] at h
  have:l.any p=false:=by rw[List.any_eq_false];intro x hx;rw[h x hx];simp
  rw[this];rfl
theorem idxOf_bd {α:Type} (p:α→Bool) (l:List α) : -1≤Zbn p l∧Zbn p l<l.length:=by
 unfold Zbn
 cases h:l.findIdx? p with
 | some i=>
  rw[List.findIdx?_eq_some_iff_getElem] at h
  obtain⟨hl,_⟩:=h
  simp only;omega
 | none=>simp only;omega
def cnt0 (l:List Int):Int:=((l.filter (· == 0)).length:Int)
def Za7 (x:Int):Bool:=!(x == 0) && decide (-3≤x) && decide (x≤3)
def prp (x:Int):Int:=if x<0 then -x else x
def Zbm (p:Int):List Int→Bool
 | []=>true
 | x :: t=>Za7 x && decide (p<prp x) && Zbm (prp x) t
def labB (l:List Int):Bool:=Zbm 0 l
def valsB (l:List Int):Bool:=decide (l.length=3) && l.all (fun n=>decide (-1≤n) && decide (n≤1))
theorem Zbk (x:Int):Za7 x=true↔x≠0∧-3≤x∧x≤3:=by
 simp[Za7,and_assoc]
theorem Zcf {x:Int} (h:Za7 x=true):1≤prp x∧prp x≤3:=by
 have:=(Zbk x).1 h
 unfold prp;split <;> omega
def stFrom (v:List Int) (a:Int):List Int→Int
 | []=>a
 | x :: t=>stFrom v (min a (if x<0 then -(v.getD (prp x - 1).toNat 0) else v.getD (prp x - 1).toNat 0)) t
def stB (l v:List Int):Int:=stFrom v 1 l
def isNameB (s:ByteArray):Bool:=decide (1≤s.size) && decide (s.size≤8) && (List.range s.size).all fun i=>let c:=bt s i;(decide (97≤c) && decide (c≤122)) || (decide (0<i) && decide (48≤c) && decide (c≤57))
end Go.Proofs.YthphnhmabieflaaDoor.Ni
namespace Go.Proofs.YthphnhmabieflaaDoor.Pr
open Go.RowKit Go.Proofs.YthphnhmabieflaaDoorW.PrintWords Go.Proofs.YthphnhmabieflaaDoorW.PrintLast Go.Proofs.YthphnhmabieflaaDoorW.PrintMore
attribute [local go_sem] Zah Zaf Zas Zar Z8 Z7 Zag Zae
set_option linter.unusedVariables false
set_option linter.unusedSimpArgs false
def Zab.l0:Nat→List Int→List Int→Int→Option (List Int)
 | 0,_,_,_=>none
 | k+1,x0,x3,x4=>if x4<(x0.length:Int) then(if 0≤x4 then(if x4<(x3.length:Int) then(Zab.l0 k x0 (x3.set (x4:Int).toNat (rd x0 x4)) (wrap64 (x4+1))) else(none)) else(none)) else(some x3)
def Zab.f (k:Nat) (l0:List Int):Option (List Int):=if 0≤(l0.length:Int) then(if ((l0.length:Int):Int).toNat≤35184372088832 then(Zab.l0 k l0 (List.replicate ((l0.length:Int):Int).toNat 0) 0) else(none)) else(none)
set_option maxHeartbeats 8000000 in
set_option maxRecDepth 100000 in
theorem Zab.calls (k:Nat) (A0:Option Addr) (c0:Nat) (l0:List Int) (r:List Int) (w:World) (hr0:Kd.C (Kd.int .i64) w A0 l0.length l0) (hc0:l0.length≤c0) (h:Zab.f k l0=some r) :
  Calls Tryd.prog 10 #[.slice A0 l0.length c0] w fun e w'=>∃v0_:Value,e=.returned (v0_)∧Kd.R (Kd.int .i64) 3 w' w.heap.size (fun _=>True) v0_ r∧Below w.heap.size w w':=by
 have HR0:=Za hr0;have HC0:=Za hc0;clear hr0 hc0
 have HB:=Za (Below.refl w.heap.size w)
 have H:(if 0≤(l0.length:Int) then(if ((l0.length:Int):Int).toNat≤35184372088832 then(Zab.l0 k l0 (List.replicate ((l0.length:Int):Int).toNat 0) 0) else(none)) else(none))=some r:=h
 clear h
 by_cases c2:0≤(l0.length:Int)
 ·rw[if_pos c2] at H
  have c2b0:=eq_true c2
  have c2b1:decide (0≤(l0.length:Int))=true:=Ze c2
  clear c2
  by_cases c3:((l0.length:Int):Int).toNat≤35184372088832
  ·rw[if_pos c3] at H
   have c3b0:=eq_true c3
   have c3b1:decide (((l0.length:Int):Int).toNat≤35184372088832)=true:=Ze c3
   clear c3
   obtain⟨y10001,hy10001⟩:∃y_:List Int,y_=(List.replicate ((l0.length:Int):Int).toNat 0):=⟨_,rfl⟩
   replace H:(Zab.l0 k l0 y10001 0)=some r:=by first|(rw[hy10001];with_reducible exact H)|(have H2_:=(Zi _ _).symm.trans H;rw[hy10001];with_reducible exact H2_)|(have H2_:=(Zi _ _).symm.trans H;with_reducible exact H2_)|with_reducible exact H|(rw[hy10001];exact H)|exact H
   have Ny10001:=Za hy10001;clear hy10001
   have H':=Za H
   clear H
   go_enter Tryd.func10,Tryd.ntmps10
   go_wp2_with (first|((with_reducible refine ZN (N:=7) rfl ?_);refine Kd.R_make (Kd.int .i64) _ 3 rfl (N:=7) rfl 22 _ _ rfl (l0.length:Int) rfl rfl Tryd.underlying22 (.int .i64 0) 8 info3 rfl (by decide) (by omega) 0 (ok:=fun _=>True) (okp:=fun _=>True) rfl (fun _ hk=>hk) trivial (Zd (by first|(with_reducible assumption)|assumption)) (Nat.le_trans (Nat.mul_le_mul_right _ (Zd (by first|(with_reducible assumption)|assumption):(l0.length:Int).toNat≤35184372088832)) (by omega)) (Below.refl _ _) (Nat.le_refl _) ?_;intro v10002 w4 ho5 hb hg_ hnew_;clear hg_ hnew_;(first|rw[← Ny10001.out] at ho5|(simp only[Int.reduceToNat] at ho5;rw[← Ny10001.out] at ho5));have HO10003:=Za (Kd.R_lower ho5 (Zy (by repeat(first|(with_reducible first|exact HB.out|apply Zn|apply Zm|apply Zo)|exact HB.out))));replace HB:=Za (Zx (by repeat(first|(with_reducible first|exact HB.out|apply Zn|apply Zm|apply Zo)|exact HB.out)) hb);clear hb ho5))
   go_loopg [4] k (fun kq v4 w'=>∃(x3_1:List Int) (x4_1:Int),v4=.int .i64 x4_1∧Aside0 (Zab.l0 kq l0 x3_1 x4_1=some r)∧Aside0 (kq≤k)∧Aside0 (Kd.R (Kd.int .i64) 3 w' w.heap.size (fun _=>True) v10002 x3_1)∧Aside0 (Below w.heap.size w w'))
   case atStart=>exact⟨(y10001),(0),(by first|rfl|(simp;done)|(simp[*];done)),H',⟨Nat.le_refl _⟩,⟨by(with_reducible repeat(first|apply Kd.R_alloc|apply Kd.R_drewN|apply Kd.R_drew));exact HO10003.out⟩,⟨by repeat(first|(with_reducible first|exact HB.out|apply Zn|apply Zm|apply Zo)|exact HB.out)⟩⟩
   case round=>
    clear H'
    try clear c1
    try clear c2
    try clear c2b0
    try clear c2b1
    try clear p2
    try clear c3
    try clear c3b0
    try clear c3b1
    obtain⟨x3_1,x4_1,rfl,HA,HK1,HO_3,HB⟩:=hrel
    cases gk with
    | zero=>exact absurd HA.out (by simp[Zab.l0])
    | succ k1=>
     have H:=HA.out
     clear HA
     simp only[Zab.l0] at H
     by_cases c6:x4_1<(l0.length:Int)
     ·rw[if_pos c6] at H
      have c6b0:decide (x4_1<(l0.length:Int))=true:=Ze c6
      clear c6
      by_cases c7:0≤x4_1
      ·rw[if_pos c7] at H
       have c7b0:decide (0≤x4_1)=true:=Ze c7
       clear c7
       by_cases c8:x4_1<(x3_1.length:Int)
       ·rw[if_pos c8] at H
        have c8b0:decide (x4_1<(x3_1.length:Int))=true:=Ze c8
        clear c8
        obtain⟨y10005,hy10005⟩:∃y_:List Int,y_=(x3_1.set (x4_1:Int).toNat (rd l0 x4_1)):=⟨_,rfl⟩
        replace H:(Zab.l0 k1 l0 y10005 (wrap64 (x4_1+1)))=some r:=by first|(rw[hy10005];with_reducible exact H)|(have H2_:=(Zi _ _).symm.trans H;rw[hy10005];with_reducible exact H2_)|(have H2_:=(Zi _ _).symm.trans H;with_reducible exact H2_)|with_reducible exact H|(rw[hy10005];exact H)|exact H
        have Ny10005:=Za hy10005;clear hy10005
        have H':=Za H
        clear H
        have p10004:0≤(x4_1:Int):=Zd (by first|(with_reducible assumption)|assumption)
        have q10004:x4_1<(l0.length:Int):=Zd (by first|(with_reducible assumption)|assumption)
        obtain⟨ad10004,e10004,hx10004_0⟩:=Kd.at_int HR0.out x4_1 p10004 q10004
        cases e10004
        replace hx10004_0:=(HB.out.cell (Zc w _ hx10004_0)).trans hx10004_0
        replace p10004:=eq_true p10004
        replace q10004:=eq_true q10004
        have p9:0≤(x4_1:Int):=Zd (by first|(with_reducible assumption)|assumption)
        have q9:(x4_1:Int)<((x3_1.length:Int):Int):=Zd (by first|(with_reducible assumption)|assumption)
        obtain⟨go9,co9,eo9,gb9,gl9,cl9,HG9⟩:=Kd.R_form HO_3.out (by omega)
        (first|cases eo9|(injection eo9 with ea_ en_ ec_;(first|subst ea_|(injection ea_ with ea_;subst ea_));subst ec_;clear en_))
        have GB9:=Za gb9;have GG9:=Za HG9;clear gb9 gl9 HG9
        obtain⟨hx9_0,hf9_0⟩:=Kd.R_celln 0 HO_3.out (x4_1:Int) p9 q9
        replace p9:=eq_true p9
        replace q9:=eq_true q9
        have HP10:=Kd.R_putg HO_3.out (x4_1:Int) (rd l0 x4_1)
        go_wp2_with (first|((with_reducible refine Zc8 (t:=3) (p:=20) rfl ?_);refine ZcW (t:=3) (p:=20) (v:=?vo_w11) (w1:=(wr.setCell ⟨go9,(x4_1:Int).toNat,none⟩ (.int .i64 (rd l0 x4_1)))) ?hg ?ho ?hn ?hr ?_;(case ho=>rfl);(case hg=>rfl);(case hn=>rfl);(case hr=>first|(go_simp;done)|(go_simp;rfl));intro w11 hw;have hg:wr.grownBy w11 (some go9):=(by rw[hw];exact HP10.2);have hp_:Kd.R (Kd.int .i64) 3 w11 w.heap.size (fun _=>True) (.slice (some ⟨go9,0,none⟩) x3_1.length co9) y10005:=(by rw[hw,Ny10005.out];exact HP10.1);clear HP10;replace HO_3:=Za (hp_);replace HB:=Za ((by rw[hw];exact Zr (HB.out) GB9.out:Below w.heap.size w w11));clear hg hw hp_))
        go_roundg k1
        case measure=>have:=HK1.out;omega
        case rel=>exact⟨(y10005),(wrap64 (x4_1+1)),(by first|rfl|(simp;done)|(simp[*];done)),H',⟨by have:=HK1.out;omega⟩,⟨by(with_reducible repeat(first|apply Kd.R_alloc|apply Kd.R_drewN|apply Kd.R_drew));exact HO_3.out⟩,⟨by repeat(first|(with_reducible first|exact HB.out|apply Zn|apply Zm|apply Zo)|exact HB.out)⟩⟩
       ·rw[if_neg c8] at H
        exact absurd H (by simp)
      ·rw[if_neg c7] at H
       exact absurd H (by simp)
     ·rw[if_neg c6] at H
      have c6b0:decide (x4_1<(l0.length:Int))=false:=Zf c6
      clear c6
      obtain rfl:=Zg H
      go_wp2
      go_ret
      exact⟨_,by first|rfl|(simp[ZA,Zz] <;> rfl)|(simp[*,ZA,Zz] <;> rfl),by(with_reducible repeat(first|apply Kd.R_alloc|apply Kd.R_drewN|apply Kd.R_drew));exact HO_3.out,by repeat(first|(with_reducible first|exact HB.out|apply Zn|apply Zm|apply Zo)|exact HB.out)⟩
  ·rw[if_neg c3] at H
   exact absurd H (by simp)
 ·rw[if_neg c2] at H
  exact absurd H (by simp)
def ZaJ.l0:Nat→List Int→List Int→Int→Option (Bool)
 | 0,_,_,_=>none
 | k+1,x0,x1,x5=>if x5<(x0.length:Int) then(if 0≤x5 then(if x5<(x1.length:Int) then(if (rd x0 x5)=(rd x1 x5) then(ZaJ.l0 k x0 x1 (wrap64 (x5+1))) else(some false)) else(none)) else(none)) else(some true)
def ZaJ.f (k:Nat) (l0:List Int) (l1:List Int):Option (Bool):=if (l0.length:Int)=(l1.length:Int) then(ZaJ.l0 k l0 l1 0) else(some false)
set_option maxHeartbeats 8000000 in
set_option maxRecDepth 100000 in
theorem ZaJ.calls (k:Nat) (A0:Option Addr) (c0:Nat) (l0:List Int) (A1:Option Addr) (c1:Nat) (l1:List Int) (r:Bool) (w:World) (hr0:Kd.C (Kd.int .i64) w A0 l0.length l0) (hc0:l0.length≤c0) (hr1:Kd.C (Kd.int .i64) w A1 l1.length l1) (hc1:l1.length≤c1) (h:ZaJ.f k l0 l1=some r) :
  Calls Tryd.prog 12 #[.slice A0 l0.length c0,.slice A1 l1.length c1] w fun e w'=>e=.returned (.bool r)∧ZE w w':=by
 have HR0:=Za hr0;have HC0:=Za hc0;clear hr0 hc0;have HR1:=Za hr1;have HC1:=Za hc1;clear hr1 hc1
 have H:(if (l0.length:Int)=(l1.length:Int) then(ZaJ.l0 k l0 l1 0) else(some false))=some r:=h
 clear h
 by_cases c3:(l0.length:Int)=(l1.length:Int)
 ·rw[if_pos c3] at H
  have c3b0:((l0.length:Int) == (l1.length:Int))=true:=beq_iff_eq.mpr c3
  have c3b1:((l0.length:Int) != (l1.length:Int))=false:=bne_eq_false_iff_eq.mpr c3
  have c3b2:(l0.length == l1.length)=true:=by first|simpa using c3|(simp at c3 ⊢;omega)
  clear c3
  have H':=Za H
  clear H
  go_enter Tryd.func12,Tryd.ntmps12
  go_wp2
  repeat(go_quiet (fail);try go_wp2)
  go_loopg [5] k (fun kq v5 w'=>∃(x5_1:Int),v5=.int .i64 x5_1∧Aside0 (ZaJ.l0 kq l0 l1 x5_1=some r)∧Aside0 (kq≤k)∧ZE w w')
  case atStart=>exact⟨(0),(by first|rfl|(simp;done)|(simp[*];done)),H',⟨Nat.le_refl _⟩,by repeat(first|exact ZE.refl _|apply ZE.step)⟩
  case round=>
   clear H'
   try clear c1
   try clear p2
   try clear c3
   try clear c3b0
   try clear c3b1
   try clear c3b2
   obtain⟨x5_1,rfl,HA,HK1,⟨m1,rfl⟩⟩:=hrel
   cases gk with
   | zero=>exact absurd HA.out (by simp[ZaJ.l0])
   | succ k1=>
    have H:=HA.out
    clear HA
    simp only[ZaJ.l0] at H
    by_cases c4:x5_1<(l0.length:Int)
    ·rw[if_pos c4] at H
     have c4b0:decide (x5_1<(l0.length:Int))=true:=Ze c4
     clear c4
     by_cases c5:0≤x5_1
     ·rw[if_pos c5] at H
      have c5b0:decide (0≤x5_1)=true:=Ze c5
      clear c5
      by_cases c6:x5_1<(l1.length:Int)
      ·rw[if_pos c6] at H
       have c6b0:decide (x5_1<(l1.length:Int))=true:=Ze c6
       clear c6
       by_cases c7:(rd l0 x5_1)=(rd l1 x5_1)
       ·rw[if_pos c7] at H
        have c7b0:((rd l0 x5_1) == (rd l1 x5_1))=true:=beq_iff_eq.mpr c7
        have c7b1:((rd l0 x5_1) != (rd l1 x5_1))=false:=bne_eq_false_iff_eq.mpr c7
        clear c7
        have H':=Za H
        clear H
        have p12001:0≤(x5_1:Int):=Zd (by first|(with_reducible assumption)|assumption)
        have q12001:x5_1<(l0.length:Int):=Zd (by first|(with_reducible assumption)|assumption)
        obtain⟨ad12001,e12001,hx12001_0⟩:=Kd.at_int HR0.out x5_1 p12001 q12001
        cases e12001
        replace p12001:=eq_true p12001
        replace q12001:=eq_true q12001
        have p12002:0≤(x5_1:Int):=Zd (by first|(with_reducible assumption)|assumption)
        have q12002:x5_1<(l1.length:Int):=Zd (by first|(with_reducible assumption)|assumption)
        obtain⟨ad12002,e12002,hx12002_0⟩:=Kd.at_int HR1.out x5_1 p12002 q12002
        cases e12002
        replace p12002:=eq_true p12002
        replace q12002:=eq_true q12002
        go_wp2
        repeat(go_quiet (fail);try go_wp2)
        go_roundg k1
        case measure=>have:=HK1.out;omega
        case rel=>exact⟨(wrap64 (x5_1+1)),(by first|rfl|(simp;done)|(simp[*];done)),H',⟨by have:=HK1.out;omega⟩,by repeat(first|exact ZE.refl _|apply ZE.step)⟩
       ·rw[if_neg c7] at H
        have c7b0:((rd l0 x5_1) == (rd l1 x5_1))=false:=beq_eq_false_iff_ne.mpr c7
        have c7b1:((rd l0 x5_1) != (rd l1 x5_1))=true:=bne_iff_ne.mpr c7
        obtain rfl:=Zg H
        have p12001:0≤(x5_1:Int):=Zd (by first|(with_reducible assumption)|assumption)
        have q12001:x5_1<(l0.length:Int):=Zd (by first|(with_reducible assumption)|assumption)
        obtain⟨ad12001,e12001,hx12001_0⟩:=Kd.at_int HR0.out x5_1 p12001 q12001
        cases e12001
        replace p12001:=eq_true p12001
        replace q12001:=eq_true q12001
        have p12002:0≤(x5_1:Int):=Zd (by first|(with_reducible assumption)|assumption)
        have q12002:x5_1<(l1.length:Int):=Zd (by first|(with_reducible assumption)|assumption)
        obtain⟨ad12002,e12002,hx12002_0⟩:=Kd.at_int HR1.out x5_1 p12002 q12002
        cases e12002
        replace p12002:=eq_true p12002
        replace q12002:=eq_true q12002
        go_wp2
        repeat(go_quiet (fail);try go_wp2)
        go_ret
        exact⟨by first|rfl|(simp;done)|(simp[*];done),by repeat(first|exact ZE.refl _|apply ZE.step)⟩
      ·rw[if_neg c6] at H
       exact absurd H (by simp)
     ·rw[if_neg c5] at H
      exact absurd H (by simp)
    ·rw[if_neg c4] at H
     have c4b0:decide (x5_1<(l0.length:Int))=false:=Zf c4
     clear c4
     obtain rfl:=Zg H
     go_wp2
     repeat(go_quiet (fail);try go_wp2)
     go_ret
     exact⟨by first|rfl|(simp;done)|(simp[*];done),by repeat(first|exact ZE.refl _|apply ZE.step)⟩
 ·rw[if_neg c3] at H
  have c3b0:((l0.length:Int) == (l1.length:Int))=false:=beq_eq_false_iff_ne.mpr c3
  have c3b1:((l0.length:Int) != (l1.length:Int))=true:=bne_iff_ne.mpr c3
  have c3b2:(l0.length == l1.length)=false:=by first|simpa using c3|(simp at c3 ⊢;omega)
  obtain rfl:=Zg H
  go_enter Tryd.func12,Tryd.ntmps12
  go_wp2
  repeat(go_quiet (fail);try go_wp2)
  go_ret
  exact⟨by first|rfl|(simp;done)|(simp[*];done),by repeat(first|exact ZE.refl _|apply ZE.step)⟩
end Go.Proofs.YthphnhmabieflaaDoor.Pr
namespace Go.Proofs.YthphnhmabieflaaDoor.Pr
open Go.RowKit Go.Proofs.YthphnhmabieflaaDoorW.PrintWords Go.Proofs.YthphnhmabieflaaDoor.Ni
theorem toIntS_f (l:List Int) (hl:l.length≤35184372088832) (k:Nat) (hk:2 ^ 64≤k):Zab.f k l=some l:=by
 have key:=ZaM l.length (fun k i=>Zab.l0 k l (l.take i ++ List.replicate (l.length - i) 0) (i:Int)=some l) 0
  (fun k _=>by simp[Zab.l0])
  (fun k i _ hi ih=>by
   simp only[Zab.l0]
   rw[if_pos (by omega),if_pos (by omega),if_pos (by simp;omega),Zax hi (by omega),Int.toNat_natCast,ZdV l 0 0 i hi _ (Zbg l i)]
   exact ih) 0 k (Nat.zero_le _) (by omega)
 unfold Zab.f
 rw[if_pos (by omega),if_pos (by omega),Int.toNat_natCast]
 simpa using key
theorem eqIntS_f (l m:List Int) (hl:l.length≤9223372036854775807) (k:Nat) (hk:2 ^ 64≤k):ZaJ.f k l m=some (decide (l=m)):=by
 unfold ZaJ.f
 by_cases e:l.length=m.length
 ·rw[if_pos (by omega)]
  have key:=ZaM l.length (fun k i=>ZaJ.l0 k l m (i:Int)=some (decide (l.drop i=m.drop i))) 0
   (fun k _=>by
    simp only[ZaJ.l0]
    rw[if_neg (by omega),List.drop_of_length_le (Nat.le_refl _),List.drop_of_length_le (by omega)]
    simp)
   (fun k i _ hi ih=>by
    simp only[ZaJ.l0]
    rw[if_pos (by omega),if_pos (by omega),if_pos (by omega),Zbg,Zbg,Zax hi (by omega),ZaA hi 0,ZaA (show i<m.length by omega) 0]
    by_cases h:l.getD i 0=m.getD i 0
    ·rw[if_pos h,ih,h];simp
    ·rw[if_neg h]
     simp only[List.cons.injEq,h,false_and,decide_false]) 0 k (Nat.zero_le _) (by omega)
  simpa using key
 ·rw[if_neg (by omega)]
  have:l≠m:=fun h=>e (by rw[h])
  simp[this]
theorem ZdM (l:List Int) (hl:l.length≤9223372036854775807) (k:Nat) (hk:2 ^ 64≤k):ZaJ.f k l l=some true:=by
 rw[eqIntS_f l l hl k hk];simp
end Go.Proofs.YthphnhmabieflaaDoor.Pr
namespace Go.Proofs.YthphnhmabieflaaDoor.Pr
open Go.RowKit Go.Proofs.YthphnhmabieflaaDoorW.PrintWords Go.Proofs.YthphnhmabieflaaDoorW.PrintLast Go.Proofs.YthphnhmabieflaaDoorW.PrintMore
attribute [local go_sem] Zah Zaf Zas Zar Z8 Z7 Zag Zae
set_option linter.unusedVariables false
set_option linter.unusedSimpArgs false
def ZbV.f (k:Nat) (a0_0:ByteArray) (l0_1:List Int) (a0_2:Int):Option (ByteArray×List Int×Int):=(Zab.f k l0_1).bind fun t78004=>(some (a0_0,t78004,a0_2))
set_option maxHeartbeats 8000000 in
set_option maxRecDepth 100000 in
theorem ZbV.calls (k:Nat) (a0_0:ByteArray) (A0_1:Option Addr) (c0_1:Nat) (l0_1:List Int) (a0_2:Int) (r1:ByteArray) (r2:List Int) (r3:Int) (w:World) (hr0_1:Kd.C (Kd.int .i64) w A0_1 l0_1.length l0_1) (hc0_1:l0_1.length≤c0_1) (h:ZbV.f k a0_0 l0_1 a0_2=some (r1,r2,r3)) :
  Calls Tryd.prog 78 #[.agg #[.string a0_0,.slice A0_1 l0_1.length c0_1,.int .i64 a0_2]] w fun e w'=>∃v1_:Value,e=.returned (.agg #[.string r1,v1_,.int .i64 r3])∧Kd.R (Kd.int .i64) 3 w' w.heap.size (fun _=>True) v1_ r2∧Below w.heap.size w w':=by
 have hu89:=Tryd.underlying89
 have hu73:=Tryd.underlying73
 have HR0_1:=Za hr0_1;have HC0_1:=Za hc0_1;clear hr0_1 hc0_1
 have HB:=Za (Below.refl w.heap.size w)
 have H:((Zab.f k l0_1).bind fun t78004=>(some (a0_0,t78004,a0_2)))=some (r1,r2,r3):=h
 clear h
 replace H:=Zh H
 obtain⟨t78004,A20,H⟩:=H
 replace H:(some (a0_0,t78004,a0_2))=some (r1,r2,r3):=H
 have A2:=Za A20;clear A20
 simp only[Option.some.injEq,Prod.mk.injEq] at H
 obtain⟨rfl,rfl,rfl⟩:=H
 go_enter Tryd.func78,Tryd.ntmps78
 go_wp2_with (first|((with_reducible refine ZN (N:=1) rfl ?_);refine ZP ?hg (N:=1) ?hd (cs:=#[.string a0_0,.slice A0_1 l0_1.length c0_1,.int .i64 a0_2]) (t:=89) ?hr ?_;(case hd=>rfl);(case hg=>rfl);(case hr=>first|(go_simp;done)|(go_simp;rfl));intro gb78001 hg w3 hbox hb;have BK78001:=Za (hbox);have GW78001:=Za ((by rw[hg];exact(Zy (by repeat(first|(with_reducible first|exact HB.out|apply Zn|apply Zm|apply Zo)|exact HB.out))):w.heap.size≤gb78001));have GE78001:=Za ((by rw[hg];exact(Zy (by repeat(first|(with_reducible first|exact HB.out|apply Zn|apply Zm|apply Zo)|exact HB.out))):w.heap.size≤gb78001));replace HB:=Za (Zx (by repeat(first|(with_reducible first|exact HB.out|apply Zn|apply Zm|apply Zo)|exact HB.out)) hb);clear hb hbox hg)|((with_reducible refine ZN (N:=2) rfl ?_);refine ZP ?hg (N:=2) ?hd (cs:=#[.string (⟨#[]⟩:ByteArray),.slice none 0 0,.int .i64 0]) (t:=73) ?hr ?_;(case hd=>rfl);(case hg=>rfl);(case hr=>first|(go_simp;done)|(go_simp;rfl));intro gb78002 hg w4 hbox hb;have BK78002:=Za (hbox);have GW78002:=Za ((by rw[hg];exact(Zy (by repeat(first|(with_reducible first|exact HB.out|apply Zn|apply Zm|apply Zo|refine Zr ?_ GE78001.out)|exact HB.out))):w.heap.size≤gb78002));have GE78002:=Za ((by rw[hg];exact(Zy (by repeat(first|(with_reducible first|exact HB.out|apply Zn|apply Zm|apply Zo|refine Zr ?_ GE78001.out)|exact HB.out))):w.heap.size≤gb78002));have NB78001_78002:=Za ((by rw[hg];exact Nat.ne_of_lt (ZY (g:=gb78001) (o:=.cells #[.string a0_0,.slice A0_1 l0_1.length c0_1,.int .i64 a0_2] 89 (0,0)) (by(with_reducible repeat(first|refine Zu ?_ _|refine Zv ?_|refine Zs ?_ _));exact BK78001.out)):gb78001≠gb78002));have NB78002_78001:=Za ((by rw[hg];exact Nat.ne_of_gt (ZY (g:=gb78001) (o:=.cells #[.string a0_0,.slice A0_1 l0_1.length c0_1,.int .i64 a0_2] 89 (0,0)) (by(with_reducible repeat(first|refine Zu ?_ _|refine Zv ?_|refine Zs ?_ _));exact BK78001.out)):gb78002≠gb78001));replace BK78001:=Za (ZB (g:=gb78001) (o:=.cells #[.string a0_0,.slice A0_1 l0_1.length c0_1,.int .i64 a0_2] 89 (0,0)) (by(with_reducible repeat(first|refine Zu ?_ _|refine Zv ?_|refine Zs ?_ _));exact BK78001.out) hb);replace HB:=Za (Zx (by repeat(first|(with_reducible first|exact HB.out|apply Zn|apply Zm|apply Zo|refine Zr ?_ GE78001.out)|exact HB.out)) hb);clear hb hbox hg)|((with_reducible refine ZN (N:=3) rfl ?_);refine ZP ?hg (N:=3) ?hd (cs:=#[.string (⟨#[]⟩:ByteArray),.slice none 0 0,.int .i64 0]) (t:=73) ?hr ?_;(case hd=>rfl);(case hg=>rfl);(case hr=>first|(go_simp;done)|(go_simp;rfl));intro gb78003 hg w5 hbox hb;have BK78003:=Za (hbox);have GW78003:=Za ((by rw[hg];exact(Zy (by repeat(first|(with_reducible first|exact HB.out|apply Zn|apply Zm|apply Zo|refine Zr ?_ GE78001.out|refine Zr ?_ GE78002.out)|exact HB.out))):w.heap.size≤gb78003));have GE78003:=Za ((by rw[hg];exact(Zy (by repeat(first|(with_reducible first|exact HB.out|apply Zn|apply Zm|apply Zo|refine Zr ?_ GE78001.out|refine Zr ?_ GE78002.out)|exact HB.out))):w.heap.size≤gb78003));have NB78001_78003:=Za ((by rw[hg];exact Nat.ne_of_lt (ZY (g:=gb78001) (o:=.cells #[.string a0_0,.slice A0_1 l0_1.length c0_1,.int .i64 a0_2] 89 (0,0)) (by(with_reducible repeat(first|refine Zu ?_ _|refine Zv ?_|refine Zs ?_ _));exact BK78001.out)):gb78001≠gb78003));have NB78003_78001:=Za ((by rw[hg];exact Nat.ne_of_gt (ZY (g:=gb78001) (o:=.cells #[.string a0_0,.slice A0_1 l0_1.length c0_1,.int .i64 a0_2] 89 (0,0)) (by(with_reducible repeat(first|refine Zu ?_ _|refine Zv ?_|refine Zs ?_ _));exact BK78001.out)):gb78003≠gb78001));have NB78002_78003:=Za ((by rw[hg];exact Nat.ne_of_lt (ZY (g:=gb78002) (o:=.cells #[.string (⟨#[]⟩:ByteArray),.slice none 0 0,.int .i64 0] 73 (0,0)) (by(with_reducible repeat(first|refine Zu ?_ _|refine Zv ?_|refine Zs ?_ _));exact BK78002.out)):gb78002≠gb78003));have NB78003_78002:=Za ((by rw[hg];exact Nat.ne_of_gt (ZY (g:=gb78002) (o:=.cells #[.string (⟨#[]⟩:ByteArray),.slice none 0 0,.int .i64 0] 73 (0,0)) (by(with_reducible repeat(first|refine Zu ?_ _|refine Zv ?_|refine Zs ?_ _));exact BK78002.out)):gb78003≠gb78002));replace BK78001:=Za (ZB (g:=gb78001) (o:=.cells #[.string a0_0,.slice A0_1 l0_1.length c0_1,.int .i64 a0_2] 89 (0,0)) (by(with_reducible repeat(first|refine Zu ?_ _|refine Zv ?_|refine Zs ?_ _));exact BK78001.out) hb);replace BK78002:=Za (ZB (g:=gb78002) (o:=.cells #[.string (⟨#[]⟩:ByteArray),.slice none 0 0,.int .i64 0] 73 (0,0)) (by(with_reducible repeat(first|refine Zu ?_ _|refine Zv ?_|refine Zs ?_ _));exact BK78002.out) hb);replace HB:=Za (Zx (by repeat(first|(with_reducible first|exact HB.out|apply Zn|apply Zm|apply Zo|refine Zr ?_ GE78001.out|refine Zr ?_ GE78002.out)|exact HB.out)) hb);clear hb hbox hg;have hnb6:=NB78001_78002.out;have hnc6:=NB78002_78001.out;have hnb7:=NB78001_78003.out;have hnc7:=NB78003_78001.out;have hcz8_0:w5.cell? ⟨gb78001,0,none⟩=some (.string a0_0):=(Zq BK78001.out 0).trans rfl;have hcz8_1:w5.cell? ⟨gb78001,1,none⟩=some (.slice A0_1 l0_1.length c0_1):=(Zq BK78001.out 1).trans rfl;have hcz8_2:w5.cell? ⟨gb78001,2,none⟩=some (.int .i64 a0_2):=(Zq BK78001.out 2).trans rfl;have hfz8_0:=Zt BK78001.out 0;have hfz8_1:=Zt BK78001.out 1;have hfz8_2:=Zt BK78001.out 2;have hnb9:=NB78003_78002.out;have hnc9:=NB78002_78003.out;have hcz10_0:w5.cell? ⟨gb78003,0,none⟩=some (.string (⟨#[]⟩:ByteArray)):=(Zq BK78003.out 0).trans rfl;have hcz10_1:w5.cell? ⟨gb78003,1,none⟩=some (.slice none 0 0):=(Zq BK78003.out 1).trans rfl;have hcz10_2:w5.cell? ⟨gb78003,2,none⟩=some (.int .i64 0):=(Zq BK78003.out 2).trans rfl;have hfz10_0:=Zt BK78003.out 0;have hfz10_1:=Zt BK78003.out 1;have hfz10_2:=Zt BK78003.out 2)|((with_reducible refine ZG (f:=10) rfl ?_);refine ZX (some 9) rfl rfl Tryd.func10 (by kernel_rfl) rfl #[.slice A0_1 l0_1.length c0_1] rfl (by(try simp only[List.map_toArray,List.map_cons,List.map_nil]);first|done|rfl|(simp only[Zk,Zj];rfl)) ?_;(with_reducible refine(Zab.calls k _ _ l0_1 t78004 _ ?side1 ?side2 A2.out).mono ?_);(case side1=>exact Zb HR0_1.out (by repeat(first|(with_reducible first|exact HB.out|apply Zn|apply Zm|apply Zo|refine Zr ?_ GE78001.out|refine Zr ?_ GE78002.out|refine Zr ?_ GE78003.out)|exact HB.out)));(case side2=>exact HC0_1.out);rintro e w11 ⟨v78005,rfl,ho0,hb⟩;refine⟨_,rfl,?_⟩;have HO78006:=Za (Kd.R_lower ho0 (Zy (by repeat(first|(with_reducible first|exact HB.out|apply Zn|apply Zm|apply Zo|refine Zr ?_ GE78001.out|refine Zr ?_ GE78002.out|refine Zr ?_ GE78003.out)|exact HB.out))));replace BK78001:=Za (ZB (g:=gb78001) (o:=.cells #[.string a0_0,.slice A0_1 l0_1.length c0_1,.int .i64 a0_2] 89 (0,0)) (by(with_reducible repeat(first|refine Zu ?_ _|refine Zv ?_|refine Zs ?_ _));refine ZV ?_ NB78001_78003.out _;(with_reducible repeat(first|refine Zu ?_ _|refine Zv ?_|refine Zs ?_ _));exact BK78001.out) hb);replace BK78002:=Za (ZB (g:=gb78002) (o:=.cells #[.string (⟨#[]⟩:ByteArray),.slice none 0 0,.int .i64 0] 73 (0,0)) (by(with_reducible repeat(first|refine Zu ?_ _|refine Zv ?_|refine Zs ?_ _));refine ZV ?_ NB78002_78003.out _;(with_reducible repeat(first|refine Zu ?_ _|refine Zv ?_|refine Zs ?_ _));exact BK78002.out) hb);replace BK78003:=Za (ZB (g:=gb78003) (o:=.cells #[.string a0_0,.slice none 0 0,.int .i64 0] 73 (0,0)) (by(with_reducible repeat(first|refine Zu ?_ _|refine Zv ?_|refine Zs ?_ _));refine Z6 (cs:=#[.string (⟨#[]⟩:ByteArray),.slice none 0 0,.int .i64 0]) ?_ 0 _ rfl;(with_reducible repeat(first|refine Zu ?_ _|refine Zv ?_|refine Zs ?_ _));exact BK78003.out) hb);replace HB:=Za (Zx (by repeat(first|(with_reducible first|exact HB.out|apply Zn|apply Zm|apply Zo|refine Zr ?_ GE78001.out|refine Zr ?_ GE78002.out|refine Zr ?_ GE78003.out)|exact HB.out)) hb);(try clear hb);(try clear hb2);(try clear hk);(try clear hi);(try clear ho0);obtain⟨Ao12,co12,eo12⟩:=Kd.R_slice HO78006.out;subst eo12;have hcz13_0:w11.cell? ⟨gb78003,0,none⟩=some (.string a0_0):=(Zq BK78003.out 0).trans rfl;have hcz13_1:w11.cell? ⟨gb78003,1,none⟩=some (.slice none 0 0):=(Zq BK78003.out 1).trans rfl;have hcz13_2:w11.cell? ⟨gb78003,2,none⟩=some (.int .i64 0):=(Zq BK78003.out 2).trans rfl;have hfz13_0:=Zt BK78003.out 0;have hfz13_1:=Zt BK78003.out 1;have hfz13_2:=Zt BK78003.out 2;have hcz14_0:w11.cell? ⟨gb78001,0,none⟩=some (.string a0_0):=(Zq BK78001.out 0).trans rfl;have hcz14_1:w11.cell? ⟨gb78001,1,none⟩=some (.slice A0_1 l0_1.length c0_1):=(Zq BK78001.out 1).trans rfl;have hcz14_2:w11.cell? ⟨gb78001,2,none⟩=some (.int .i64 a0_2):=(Zq BK78001.out 2).trans rfl;have hfz14_0:=Zt BK78001.out 0;have hfz14_1:=Zt BK78001.out 1;have hfz14_2:=Zt BK78001.out 2;have hcz15_0:w11.cell? ⟨gb78002,0,none⟩=some (.string (⟨#[]⟩:ByteArray)):=(Zq BK78002.out 0).trans rfl;have hcz15_1:w11.cell? ⟨gb78002,1,none⟩=some (.slice none 0 0):=(Zq BK78002.out 1).trans rfl;have hcz15_2:w11.cell? ⟨gb78002,2,none⟩=some (.int .i64 0):=(Zq BK78002.out 2).trans rfl;have hfz15_0:=Zt BK78002.out 0;have hfz15_1:=Zt BK78002.out 1;have hfz15_2:=Zt BK78002.out 2))
 refine bodyPost_ret (results_cell_row rfl _ _ gb78002 73 #[.string a0_0,.slice Ao12 t78004.length co12,.int .i64 a0_2] (0,0) _ rfl (by(with_reducible repeat(first|refine Zu ?_ _|refine Zv ?_|refine Zs ?_ _));refine Z6 (cs:=#[.string a0_0,.slice Ao12 t78004.length co12,.int .i64 0]) ?_ 2 _ rfl;(with_reducible repeat(first|refine Zu ?_ _|refine Zv ?_|refine Zs ?_ _));refine Z6 (cs:=#[.string a0_0,.slice none 0 0,.int .i64 0]) ?_ 1 _ rfl;(with_reducible repeat(first|refine Zu ?_ _|refine Zv ?_|refine Zs ?_ _));refine Z6 (cs:=#[.string (⟨#[]⟩:ByteArray),.slice none 0 0,.int .i64 0]) ?_ 0 _ rfl;(with_reducible repeat(first|refine Zu ?_ _|refine Zv ?_|refine Zs ?_ _));refine ZV ?_ NB78002_78003.out _;(with_reducible repeat(first|refine Zu ?_ _|refine Zv ?_|refine Zs ?_ _));refine ZV ?_ NB78002_78003.out _;(with_reducible repeat(first|refine Zu ?_ _|refine Zv ?_|refine Zs ?_ _));exact BK78002.out) Tryd.underlying73 rfl (by kernel_rfl)) rfl ?_
 exact⟨_,by first|rfl|(simp[ZA,Zz] <;> rfl)|(simp[*,ZA,Zz] <;> rfl),by(with_reducible repeat(first|apply Kd.R_alloc|apply Kd.R_drewN|apply Kd.R_drew));exact Kd.R_mono (Kd.R_far (p:=⟨gb78002,2,none⟩) (Kd.R_far (p:=⟨gb78002,1,none⟩) (Kd.R_far (p:=⟨gb78002,0,none⟩) (Kd.R_far (p:=⟨gb78003,2,none⟩) (Kd.R_far (p:=⟨gb78003,1,none⟩) (Kd.R_types (Kd.R_types HO78006.out BK78003.out (by decide)) BK78002.out (by decide)) (fun _ hk=>hk.1.2) (.slice Ao12 t78004.length co12)) (fun _ hk=>hk.1.2) (.int .i64 a0_2)) (fun _ hk=>hk.2) (.string a0_0)) (fun _ hk=>hk.2) (.slice Ao12 t78004.length co12)) (fun _ hk=>hk.2) (.int .i64 a0_2)) (fun _ hk=>trivial),by repeat(first|(with_reducible first|exact HB.out|apply Zn|apply Zm|apply Zo|refine Zr ?_ GE78001.out|refine Zr ?_ GE78002.out|refine Zr ?_ GE78003.out)|exact HB.out)⟩
def Zat.l0:Nat→List (S89)→List (S73)→Int→Option ((List (S73)))
 | 0,_,_,_=>none
 | k+1,x0,x3,x4=>if x4<(x0.length:Int) then(if 0≤x4 then((ZbV.f k ((ZaI x0 x4).f0) ((ZaI x0 x4).f1) ((ZaI x0 x4).f2)).bind fun bt46005=>(if x4<(x3.length:Int) then(Zat.l0 k x0 (x3.set (x4:Int).toNat (⟨bt46005.1,bt46005.2.1,bt46005.2.2⟩:S73)) (wrap64 (x4+1))) else(none))) else(none)) else(some x3)
def Zat.f (k:Nat) (l0:List (S89)):Option ((List (S73))):=if 0≤(l0.length:Int) then(if ((l0.length:Int):Int).toNat≤5864062014805 then(Zat.l0 k l0 (List.replicate ((l0.length:Int):Int).toNat z73) 0) else(none)) else(none)
set_option maxHeartbeats 8000000 in
set_option maxRecDepth 100000 in
theorem Zat.calls (k:Nat) (A0:Option Addr) (c0:Nat) (l0:List (S89)) (r:List (S73)) (w:World) (hr0:Kd.C k89 w A0 l0.length l0) (hc0:l0.length≤c0) (h:Zat.f k l0=some r) :
  Calls Tryd.prog 46 #[.slice A0 l0.length c0] w fun e w'=>∃v0_:Value,e=.returned (v0_)∧Kd.S k73 73 w' w.heap.size (fun _=>True) v0_ r∧Below w.heap.size w w':=by
 have hu89:=Tryd.underlying89
 have hu73:=Tryd.underlying73
 have HR0:=Za hr0;have HC0:=Za hc0;clear hr0 hc0
 have HB:=Za (Below.refl w.heap.size w)
 have H:(if 0≤(l0.length:Int) then(if ((l0.length:Int):Int).toNat≤5864062014805 then(Zat.l0 k l0 (List.replicate ((l0.length:Int):Int).toNat z73) 0) else(none)) else(none))=some r:=h
 clear h
 by_cases c2:0≤(l0.length:Int)
 ·rw[if_pos c2] at H
  have c2b0:=eq_true c2
  have c2b1:decide (0≤(l0.length:Int))=true:=Ze c2
  clear c2
  by_cases c3:((l0.length:Int):Int).toNat≤5864062014805
  ·rw[if_pos c3] at H
   have c3b0:=eq_true c3
   have c3b1:decide (((l0.length:Int):Int).toNat≤5864062014805)=true:=Ze c3
   clear c3
   obtain⟨y46001,hy46001⟩:∃y_:List (S73),y_=(List.replicate ((l0.length:Int):Int).toNat z73):=⟨_,rfl⟩
   replace H:(Zat.l0 k l0 y46001 0)=some r:=by first|(rw[hy46001];with_reducible exact H)|(have H2_:=(Zi _ _).symm.trans H;rw[hy46001];with_reducible exact H2_)|(have H2_:=(Zi _ _).symm.trans H;with_reducible exact H2_)|with_reducible exact H|(rw[hy46001];exact H)|exact H
   have Ny46001:=Za hy46001;clear hy46001
   have H':=Za H
   clear H
   go_enter Tryd.func46,Tryd.ntmps46
   go_wp2_with (first|((with_reducible refine ZN (N:=7) rfl ?_);refine Kd.S_make k73 _ 73 rfl (N:=7) rfl 33 _ _ rfl (l0.length:Int) rfl rfl Tryd.underlying33 (.agg #[(.string ⟨#[]⟩),(.slice none 0 0),(.int .i64 0)]) 48 info73 rfl (by decide) (by omega) z73 (ok:=fun _=>True) (okp:=fun _=>True) (k73_mkM _ _ _ z73 (Kd.R_nil _ _ _ _ _)) (fun _ hk=>hk) trivial (Zd (by first|(with_reducible assumption)|assumption)) (Nat.le_trans (Nat.mul_le_mul_right _ (Zd (by first|(with_reducible assumption)|assumption):(l0.length:Int).toNat≤5864062014805)) (by omega)) (Below.refl _ _) (Nat.le_refl _) ?_;intro v46002 w4 ho5 hb hg_ hnew_;clear hg_ hnew_;(first|rw[← Ny46001.out] at ho5|(simp only[Int.reduceToNat] at ho5;rw[← Ny46001.out] at ho5));have HO46003:=Za (Kd.S_lower ho5 (Zy (by repeat(first|(with_reducible first|exact HB.out|apply Zn|apply Zm|apply Zo)|exact HB.out))));replace HB:=Za (Zx (by repeat(first|(with_reducible first|exact HB.out|apply Zn|apply Zm|apply Zo)|exact HB.out)) hb);clear hb ho5))
   go_loopg [4] k (fun kq v4 w'=>∃(x3_1:List (S73)) (x4_1:Int),v4=.int .i64 x4_1∧Aside0 (Zat.l0 kq l0 x3_1 x4_1=some r)∧Aside0 (kq≤k)∧Aside0 (Kd.S k73 73 w' w.heap.size (fun _=>True) v46002 x3_1)∧Aside0 (Below w.heap.size w w'))
   case atStart=>exact⟨(y46001),(0),(by first|rfl|(simp;done)|(simp[*];done)),H',⟨Nat.le_refl _⟩,⟨by(with_reducible repeat(first|apply Kd.S_alloc|apply Kd.S_drewN|apply Kd.S_drew));exact HO46003.out⟩,⟨by repeat(first|(with_reducible first|exact HB.out|apply Zn|apply Zm|apply Zo)|exact HB.out)⟩⟩
   case round=>
    clear H'
    try clear c2
    try clear c2b0
    try clear c2b1
    try clear p2
    try clear c3
    try clear c3b0
    try clear c3b1
    try clear c4
    obtain⟨x3_1,x4_1,rfl,HA,HK1,HO_3,HB⟩:=hrel
    cases gk with
    | zero=>exact absurd HA.out (by simp[Zat.l0])
    | succ k1=>
     have H:=HA.out
     clear HA
     simp only[Zat.l0] at H
     by_cases c6:x4_1<(l0.length:Int)
     ·rw[if_pos c6] at H
      have c6b0:decide (x4_1<(l0.length:Int))=true:=Ze c6
      clear c6
      by_cases c7:0≤x4_1
      ·rw[if_pos c7] at H
       have c7b0:decide (0≤x4_1)=true:=Ze c7
       clear c7
       replace H:=Zh H
       obtain⟨⟨t46005,t46006,t46009⟩,A80,H⟩:=H
       replace H:(if x4_1<(x3_1.length:Int) then(Zat.l0 k1 l0 (x3_1.set (x4_1:Int).toNat (⟨t46005,t46006,t46009⟩:S73)) (wrap64 (x4_1+1))) else(none))=some r:=H
       have A8:=Za A80;clear A80
       by_cases c9:x4_1<(x3_1.length:Int)
       ·rw[if_pos c9] at H
        have c9b0:decide (x4_1<(x3_1.length:Int))=true:=Ze c9
        clear c9
        obtain⟨y46010,hy46010⟩:∃y_:List (S73),y_=(x3_1.set (x4_1:Int).toNat (⟨t46005,t46006,t46009⟩:S73)):=⟨_,rfl⟩
        replace H:(Zat.l0 k1 l0 y46010 (wrap64 (x4_1+1)))=some r:=by first|(rw[hy46010];with_reducible exact H)|(have H2_:=(Zi _ _).symm.trans H;rw[hy46010];with_reducible exact H2_)|(have H2_:=(Zi _ _).symm.trans H;with_reducible exact H2_)|with_reducible exact H|(rw[hy46010];exact H)|exact H
        have Ny46010:=Za hy46010;clear hy46010
        have H':=Za H
        clear H
        have p46004:0≤(x4_1:Int):=Zd (by first|(with_reducible assumption)|assumption)
        have q46004:x4_1<(l0.length:Int):=Zd (by first|(with_reducible assumption)|assumption)
        obtain⟨ad46004,A46004_1,c46004_1,e46004,hx46004_0,hx46004_1,hx46004_2,hl46004_1,hi46004_1⟩:=at_T89 HR0.out x4_1 p46004 q46004
        cases e46004
        replace hx46004_0:=(HB.out.cell (Zc w _ hx46004_0)).trans hx46004_0
        replace hx46004_1:=(HB.out.cell (Zc w _ hx46004_1)).trans hx46004_1
        replace hx46004_2:=(HB.out.cell (Zc w _ hx46004_2)).trans hx46004_2
        have HR46004_1:=Za hi46004_1;have HC46004_1:=Za hl46004_1;clear hi46004_1 hl46004_1
        replace p46004:=eq_true p46004
        replace q46004:=eq_true q46004
        go_wp2_with (first|((with_reducible refine ZG (f:=78) rfl ?_);refine ZX (some 20) rfl rfl Tryd.func78 (by kernel_rfl) rfl #[.agg #[.string ((ZaI l0 x4_1).f0),.slice A46004_1 ((ZaI l0 x4_1).f1).length c46004_1,.int .i64 ((ZaI l0 x4_1).f2)]] rfl (by(try simp only[List.map_toArray,List.map_cons,List.map_nil]);first|done|rfl|(simp only[Zk,Zj];rfl)) ?_;(with_reducible refine(ZbV.calls k1 ((ZaI l0 x4_1).f0) _ _ ((ZaI l0 x4_1).f1) ((ZaI l0 x4_1).f2) t46005 t46006 t46009 _ ?side1 ?side2 A8.out).mono ?_);(case side1=>repeat(first|exact(Zb HR46004_1.out HB.out)|(with_reducible refine Kd.C_alloc ?_ _)|(with_reducible refine Kd.C_drewN ?_ _)|(with_reducible refine Kd.C_drew ?_)));(case side2=>exact HC46004_1.out);rintro e w11 ⟨v46007,rfl,ho0,hb⟩;refine⟨_,rfl,?_⟩;have HO46008:=Za (Kd.R_lower ho0 (Zy (by repeat(first|(with_reducible first|exact HB.out|apply Zn|apply Zm|apply Zo)|exact HB.out))));replace HO_3:=Za (Kd.S_elder' (by(with_reducible repeat(first|apply Kd.S_alloc|apply Kd.S_drewN|apply Kd.S_drew));exact HO_3.out) (Kd.R_base ho0) hb);replace HB:=Za (Zx (by repeat(first|(with_reducible first|exact HB.out|apply Zn|apply Zm|apply Zo)|exact HB.out)) hb);(try clear hb);(try clear hb2);(try clear hk);(try clear hi);(try clear ho0);obtain⟨As_,cs_,es_⟩:=Kd.R_slice HO46008.out;subst es_;have p10:0≤(x4_1:Int):=Zd (by first|(with_reducible assumption)|assumption);have q10:(x4_1:Int)<((x3_1.length:Int):Int):=Zd (by first|(with_reducible assumption)|assumption);obtain⟨go10,co10,eo10,gb10,gl10,cl10,HG10⟩:=Kd.S_form HO_3.out (by omega);(first|cases eo10|(injection eo10 with ea_ en_ ec_;(first|subst ea_|(injection ea_ with ea_;subst ea_));subst ec_;clear en_));have GB10:=Za gb10;have GG10:=Za HG10;clear gb10 gl10 HG10;obtain⟨_,ce10,hcl10,hM10,hcc10,hfr10,_,_⟩:=Kd.S_elem HO_3.out z73 (x4_1:Int) p10 q10;obtain⟨ve10_1,rfl,ge10_1⟩:=k73_openM hM10;have hx10_0:w11.cell? ⟨go10,(x4_1:Int).toNat * 3,none⟩=some (.string ((Zp x3_1 x4_1).f0)):=hcc10 0 _ rfl;have hx10_1:w11.cell? ⟨go10,(x4_1:Int).toNat * 3+1,none⟩=some (ve10_1):=hcc10 1 _ rfl;have hx10_2:w11.cell? ⟨go10,(x4_1:Int).toNat * 3+2,none⟩=some (.int .i64 ((Zp x3_1 x4_1).f2)):=hcc10 2 _ rfl;have hf10_0:w11.frozen? ⟨go10,(x4_1:Int).toNat * 3,none⟩=false:=hfr10 0;have hf10_1:w11.frozen? ⟨go10,(x4_1:Int).toNat * 3+1,none⟩=false:=hfr10 1;have hf10_2:w11.frozen? ⟨go10,(x4_1:Int).toNat * 3+2,none⟩=false:=hfr10 2;clear hcl10 hcc10 hfr10 hM10;replace p10:=eq_true p10;replace q10:=eq_true q10;have n_:=Za (Kd.S_mono (ok':=(fun k_=>some k_≠(.slice As_ t46006.length cs_:Value).ownBlock)) HO_3.out (fun k_ hk=>hk.2));clear HO_3;have HO_3:=n_;clear n_;have HX12:=Za (show Kd.S k73 73 w11 w.heap.size (fun k_=>((fun _=>True)) k_∧¬((fun k_=>some k_=(.slice As_ t46006.length cs_:Value).ownBlock)) k_) (.slice (some ⟨go10,0,none⟩) x3_1.length co10) x3_1 from(by(with_reducible repeat(first|apply Kd.S_alloc|apply Kd.S_drewN|apply Kd.S_drew));exact Kd.S_mono HO_3.out (fun k_ hk=>⟨trivial,fun e_=>hk e_⟩)));obtain⟨oki12,ce12,hcl12,hM12,hcc12,hfr12,hoki12,hH12⟩:=Kd.S_elem HX12.out z73 (x4_1:Int) (Zd (by first|(with_reducible assumption)|assumption)) (by have h_:(x4_1:Int)<((x3_1.length:Int):Int):=Zd (by first|(with_reducible assumption)|assumption);first|exact h_|(have e_:=(Kd.S_reads' HO_3.out).1;omega)|simpa using h_);obtain⟨ve12_1,rfl,ge12_1⟩:=k73_openM hM12;have HP12:=Kd.S_seg hH12 (Zd (by first|(with_reducible assumption)|assumption)) (by have h_:(x4_1:Int)<((x3_1.length:Int):Int):=Zd (by first|(with_reducible assumption)|assumption);first|exact h_|(have e_:=(Kd.S_reads' HO_3.out).1;omega)|simpa using h_) (seg:=[.string t46005,(.slice As_ t46006.length cs_),.int .i64 t46009]) (j:=0) (show 3≤3 from by decide) (x':=(⟨t46005,t46006,t46009⟩:S73)) (k73_mkM _ _ _ (⟨t46005,t46006,t46009⟩:S73) (Kd.R_mono (Kd.R_tight rfl (Kd.R_mono (ok':=fun k_=>((fun _=>True)) k_∧k_≠go10) (Kd.R_apart' (HO46008.out) (Kd.S_typed HO_3.out) (by decide)) (fun k_ hk=>⟨trivial,fun e_=>(hk.2) (by rw[e_];rfl)⟩))) (fun _ h_=>Or.inr (h_)))) (fun _ hk=>hk) (fun k_ hk_=>((Kd.R_mono (ok':=fun k_=>((fun _=>True)) k_∧k_≠go10) (Kd.R_apart' (HO46008.out) (Kd.S_typed HO_3.out) (by decide)) (fun k_ hk=>⟨trivial,fun e_=>(hk.2) (by rw[e_];rfl)⟩))).1 k_ hk_.symm);have hx12_0:=hcc12 0 _ rfl;(try simp only[show(k73).sz=3 from rfl,Nat.mul_one,Nat.add_zero] at hx12_0);have hf12_0:=hfr12 0;(try simp only[show(k73).sz=3 from rfl,Nat.mul_one,Nat.add_zero] at hf12_0);have hx12_1:=hcc12 1 _ rfl;(try simp only[show(k73).sz=3 from rfl,Nat.mul_one,Nat.add_zero] at hx12_1);have hf12_1:=hfr12 1;(try simp only[show(k73).sz=3 from rfl,Nat.mul_one,Nat.add_zero] at hf12_1);have hx12_2:=hcc12 2 _ rfl;(try simp only[show(k73).sz=3 from rfl,Nat.mul_one,Nat.add_zero] at hx12_2);have hf12_2:=hfr12 2;(try simp only[show(k73).sz=3 from rfl,Nat.mul_one,Nat.add_zero] at hf12_2);clear hcl12 hcc12 hfr12 hM12 hoki12 hH12)|((with_reducible refine Zc8 (t:=73) (p:=21) rfl ?_);refine ZcW (t:=73) (p:=21) (v:=?vo_w13) (w1:=(((w11.setCell ⟨go10,(x4_1:Int).toNat * 3,none⟩ (.string t46005)).setCell ⟨go10,(x4_1:Int).toNat * 3+1,none⟩ (.slice As_ t46006.length cs_)).setCell ⟨go10,(x4_1:Int).toNat * 3+2,none⟩ (.int .i64 t46009))) ?hg ?ho ?hn ?hr ?_;(case ho=>rfl);(case hg=>rfl);(case hn=>rfl);(case hr=>first|(go_simp;done)|(go_simp;rfl));intro w13 hw;have hg:w11.grownBy w13 (some go10):=(by rw[hw];exact HP12.2);have hp_:Kd.S k73 73 w13 w.heap.size (fun _=>True) (.slice (some ⟨go10,0,none⟩) x3_1.length co10) y46010:=(by rw[hw,Ny46010.out];exact HP12.1);clear HP12;replace HO_3:=Za (hp_);replace HB:=Za ((by rw[hw];exact Zr (Zr (Zr (HB.out) GB10.out) GB10.out) GB10.out:Below w.heap.size w w13));clear HO46008;clear hg hw hp_))
        go_roundg k1
        case measure=>have:=HK1.out;omega
        case rel=>exact⟨(y46010),(wrap64 (x4_1+1)),(by first|rfl|(simp;done)|(simp[*];done)),H',⟨by have:=HK1.out;omega⟩,⟨by(with_reducible repeat(first|apply Kd.S_alloc|apply Kd.S_drewN|apply Kd.S_drew));exact HO_3.out⟩,⟨by repeat(first|(with_reducible first|exact HB.out|apply Zn|apply Zm|apply Zo)|exact HB.out)⟩⟩
       ·rw[if_neg c9] at H
        exact absurd H (by simp)
      ·rw[if_neg c7] at H
       exact absurd H (by simp)
     ·rw[if_neg c6] at H
      have c6b0:decide (x4_1<(l0.length:Int))=false:=Zf c6
      clear c6
      obtain rfl:=Zg H
      go_wp2
      go_ret
      exact⟨_,by first|rfl|(simp[ZA,Zz] <;> rfl)|(simp[*,ZA,Zz] <;> rfl),by(with_reducible repeat(first|apply Kd.S_alloc|apply Kd.S_drewN|apply Kd.S_drew));exact HO_3.out,by repeat(first|(with_reducible first|exact HB.out|apply Zn|apply Zm|apply Zo)|exact HB.out)⟩
  ·rw[if_neg c3] at H
   exact absurd H (by simp)
 ·rw[if_neg c2] at H
  exact absurd H (by simp)
def Zce.f (a0_0:Int) (a0_1:Int) (a0_2:Int) (a0_3:Int) (a0_4:Bool):Option (Int×Int×Int×Int×Bool):=some (a0_0,a0_1,a0_2,a0_3,a0_4)
set_option maxHeartbeats 8000000 in
set_option maxRecDepth 100000 in
theorem Zce.calls (a0_0:Int) (a0_1:Int) (a0_2:Int) (a0_3:Int) (a0_4:Bool) (r1:Int) (r2:Int) (r3:Int) (r4:Int) (r5:Bool) (w:World) (h:Zce.f a0_0 a0_1 a0_2 a0_3 a0_4=some (r1,r2,r3,r4,r5)) :
  Calls Tryd.prog 79 #[.agg #[.int .i64 a0_0,.int .i64 a0_1,.int .i64 a0_2,.int .i64 a0_3,.bool a0_4]] w fun e w'=>e=.returned (.agg #[.int .i64 r1,.int .i64 r2,.int .i64 r3,.int .i64 r4,.bool r5])∧Below w.heap.size w w':=by
 have hu93:=Tryd.underlying93
 have hu66:=Tryd.underlying66
 have HB:=Za (Below.refl w.heap.size w)
 have H:(some (a0_0,a0_1,a0_2,a0_3,a0_4))=some (r1,r2,r3,r4,r5):=h
 clear h
 simp only[Option.some.injEq,Prod.mk.injEq] at H
 obtain⟨rfl,rfl,rfl,rfl,rfl⟩:=H
 go_enter Tryd.func79,Tryd.ntmps79
 go_wp2_with (first|((with_reducible refine ZN (N:=1) rfl ?_);refine ZP ?hg (N:=1) ?hd (cs:=#[.int .i64 a0_0,.int .i64 a0_1,.int .i64 a0_2,.int .i64 a0_3,.bool a0_4]) (t:=93) ?hr ?_;(case hd=>rfl);(case hg=>rfl);(case hr=>first|(go_simp;done)|(go_simp;rfl));intro gb79001 hg w2 hbox hb;have BK79001:=Za (hbox);have GW79001:=Za ((by rw[hg];exact(Zy (by repeat(first|(with_reducible first|exact HB.out|apply Zn|apply Zm|apply Zo)|exact HB.out))):w.heap.size≤gb79001));have GE79001:=Za ((by rw[hg];exact(Zy (by repeat(first|(with_reducible first|exact HB.out|apply Zn|apply Zm|apply Zo)|exact HB.out))):w.heap.size≤gb79001));replace HB:=Za (Zx (by repeat(first|(with_reducible first|exact HB.out|apply Zn|apply Zm|apply Zo)|exact HB.out)) hb);clear hb hbox hg)|((with_reducible refine ZN (N:=2) rfl ?_);refine ZP ?hg (N:=2) ?hd (cs:=#[.int .i64 0,.int .i64 0,.int .i64 0,.int .i64 0,.bool false]) (t:=66) ?hr ?_;(case hd=>rfl);(case hg=>rfl);(case hr=>first|(go_simp;done)|(go_simp;rfl));intro gb79002 hg w3 hbox hb;have BK79002:=Za (hbox);have GW79002:=Za ((by rw[hg];exact(Zy (by repeat(first|(with_reducible first|exact HB.out|apply Zn|apply Zm|apply Zo|refine Zr ?_ GE79001.out)|exact HB.out))):w.heap.size≤gb79002));have GE79002:=Za ((by rw[hg];exact(Zy (by repeat(first|(with_reducible first|exact HB.out|apply Zn|apply Zm|apply Zo|refine Zr ?_ GE79001.out)|exact HB.out))):w.heap.size≤gb79002));have NB79001_79002:=Za ((by rw[hg];exact Nat.ne_of_lt (ZY (g:=gb79001) (o:=.cells #[.int .i64 a0_0,.int .i64 a0_1,.int .i64 a0_2,.int .i64 a0_3,.bool a0_4] 93 (0,0)) (by(with_reducible repeat(first|refine Zu ?_ _|refine Zv ?_|refine Zs ?_ _));exact BK79001.out)):gb79001≠gb79002));have NB79002_79001:=Za ((by rw[hg];exact Nat.ne_of_gt (ZY (g:=gb79001) (o:=.cells #[.int .i64 a0_0,.int .i64 a0_1,.int .i64 a0_2,.int .i64 a0_3,.bool a0_4] 93 (0,0)) (by(with_reducible repeat(first|refine Zu ?_ _|refine Zv ?_|refine Zs ?_ _));exact BK79001.out)):gb79002≠gb79001));replace BK79001:=Za (ZB (g:=gb79001) (o:=.cells #[.int .i64 a0_0,.int .i64 a0_1,.int .i64 a0_2,.int .i64 a0_3,.bool a0_4] 93 (0,0)) (by(with_reducible repeat(first|refine Zu ?_ _|refine Zv ?_|refine Zs ?_ _));exact BK79001.out) hb);replace HB:=Za (Zx (by repeat(first|(with_reducible first|exact HB.out|apply Zn|apply Zm|apply Zo|refine Zr ?_ GE79001.out)|exact HB.out)) hb);clear hb hbox hg)|((with_reducible refine ZN (N:=3) rfl ?_);refine ZP ?hg (N:=3) ?hd (cs:=#[.int .i64 0,.int .i64 0,.int .i64 0,.int .i64 0,.bool false]) (t:=66) ?hr ?_;(case hd=>rfl);(case hg=>rfl);(case hr=>first|(go_simp;done)|(go_simp;rfl));intro gb79003 hg w4 hbox hb;have BK79003:=Za (hbox);have GW79003:=Za ((by rw[hg];exact(Zy (by repeat(first|(with_reducible first|exact HB.out|apply Zn|apply Zm|apply Zo|refine Zr ?_ GE79001.out|refine Zr ?_ GE79002.out)|exact HB.out))):w.heap.size≤gb79003));have GE79003:=Za ((by rw[hg];exact(Zy (by repeat(first|(with_reducible first|exact HB.out|apply Zn|apply Zm|apply Zo|refine Zr ?_ GE79001.out|refine Zr ?_ GE79002.out)|exact HB.out))):w.heap.size≤gb79003));have NB79001_79003:=Za ((by rw[hg];exact Nat.ne_of_lt (ZY (g:=gb79001) (o:=.cells #[.int .i64 a0_0,.int .i64 a0_1,.int .i64 a0_2,.int .i64 a0_3,.bool a0_4] 93 (0,0)) (by(with_reducible repeat(first|refine Zu ?_ _|refine Zv ?_|refine Zs ?_ _));exact BK79001.out)):gb79001≠gb79003));have NB79003_79001:=Za ((by rw[hg];exact Nat.ne_of_gt (ZY (g:=gb79001) (o:=.cells #[.int .i64 a0_0,.int .i64 a0_1,.int .i64 a0_2,.int .i64 a0_3,.bool a0_4] 93 (0,0)) (by(with_reducible repeat(first|refine Zu ?_ _|refine Zv ?_|refine Zs ?_ _));exact BK79001.out)):gb79003≠gb79001));have NB79002_79003:=Za ((by rw[hg];exact Nat.ne_of_lt (ZY (g:=gb79002) (o:=.cells #[.int .i64 0,.int .i64 0,.int .i64 0,.int .i64 0,.bool false] 66 (0,0)) (by(with_reducible repeat(first|refine Zu ?_ _|refine Zv ?_|refine Zs ?_ _));exact BK79002.out)):gb79002≠gb79003));have NB79003_79002:=Za ((by rw[hg];exact Nat.ne_of_gt (ZY (g:=gb79002) (o:=.cells #[.int .i64 0,.int .i64 0,.int .i64 0,.int .i64 0,.bool false] 66 (0,0)) (by(with_reducible repeat(first|refine Zu ?_ _|refine Zv ?_|refine Zs ?_ _));exact BK79002.out)):gb79003≠gb79002));replace BK79001:=Za (ZB (g:=gb79001) (o:=.cells #[.int .i64 a0_0,.int .i64 a0_1,.int .i64 a0_2,.int .i64 a0_3,.bool a0_4] 93 (0,0)) (by(with_reducible repeat(first|refine Zu ?_ _|refine Zv ?_|refine Zs ?_ _));exact BK79001.out) hb);replace BK79002:=Za (ZB (g:=gb79002) (o:=.cells #[.int .i64 0,.int .i64 0,.int .i64 0,.int .i64 0,.bool false] 66 (0,0)) (by(with_reducible repeat(first|refine Zu ?_ _|refine Zv ?_|refine Zs ?_ _));exact BK79002.out) hb);replace HB:=Za (Zx (by repeat(first|(with_reducible first|exact HB.out|apply Zn|apply Zm|apply Zo|refine Zr ?_ GE79001.out|refine Zr ?_ GE79002.out)|exact HB.out)) hb);clear hb hbox hg;have hnb5:=NB79001_79002.out;have hnc5:=NB79002_79001.out;have hnb6:=NB79001_79003.out;have hnc6:=NB79003_79001.out;have hcz7_0:w4.cell? ⟨gb79001,0,none⟩=some (.int .i64 a0_0):=(Zq BK79001.out 0).trans rfl;have hcz7_1:w4.cell? ⟨gb79001,1,none⟩=some (.int .i64 a0_1):=(Zq BK79001.out 1).trans rfl;have hcz7_2:w4.cell? ⟨gb79001,2,none⟩=some (.int .i64 a0_2):=(Zq BK79001.out 2).trans rfl;have hcz7_3:w4.cell? ⟨gb79001,3,none⟩=some (.int .i64 a0_3):=(Zq BK79001.out 3).trans rfl;have hcz7_4:w4.cell? ⟨gb79001,4,none⟩=some (.bool a0_4):=(Zq BK79001.out 4).trans rfl;have hfz7_0:=Zt BK79001.out 0;have hfz7_1:=Zt BK79001.out 1;have hfz7_2:=Zt BK79001.out 2;have hfz7_3:=Zt BK79001.out 3;have hfz7_4:=Zt BK79001.out 4;have hnb8:=NB79003_79002.out;have hnc8:=NB79002_79003.out;have hcz9_0:w4.cell? ⟨gb79003,0,none⟩=some (.int .i64 0):=(Zq BK79003.out 0).trans rfl;have hcz9_1:w4.cell? ⟨gb79003,1,none⟩=some (.int .i64 0):=(Zq BK79003.out 1).trans rfl;have hcz9_2:w4.cell? ⟨gb79003,2,none⟩=some (.int .i64 0):=(Zq BK79003.out 2).trans rfl;have hcz9_3:w4.cell? ⟨gb79003,3,none⟩=some (.int .i64 0):=(Zq BK79003.out 3).trans rfl;have hcz9_4:w4.cell? ⟨gb79003,4,none⟩=some (.bool false):=(Zq BK79003.out 4).trans rfl;have hfz9_0:=Zt BK79003.out 0;have hfz9_1:=Zt BK79003.out 1;have hfz9_2:=Zt BK79003.out 2;have hfz9_3:=Zt BK79003.out 3;have hfz9_4:=Zt BK79003.out 4;have hcz10_0:w4.cell? ⟨gb79002,0,none⟩=some (.int .i64 0):=(Zq BK79002.out 0).trans rfl;have hcz10_1:w4.cell? ⟨gb79002,1,none⟩=some (.int .i64 0):=(Zq BK79002.out 1).trans rfl;have hcz10_2:w4.cell? ⟨gb79002,2,none⟩=some (.int .i64 0):=(Zq BK79002.out 2).trans rfl;have hcz10_3:w4.cell? ⟨gb79002,3,none⟩=some (.int .i64 0):=(Zq BK79002.out 3).trans rfl;have hcz10_4:w4.cell? ⟨gb79002,4,none⟩=some (.bool false):=(Zq BK79002.out 4).trans rfl;have hfz10_0:=Zt BK79002.out 0;have hfz10_1:=Zt BK79002.out 1;have hfz10_2:=Zt BK79002.out 2;have hfz10_3:=Zt BK79002.out 3;have hfz10_4:=Zt BK79002.out 4))
 refine bodyPost_ret (results_cell_row rfl _ _ gb79002 66 #[.int .i64 a0_0,.int .i64 a0_1,.int .i64 a0_2,.int .i64 a0_3,.bool a0_4] (0,0) _ rfl (by(with_reducible repeat(first|refine Zu ?_ _|refine Zv ?_|refine Zs ?_ _));refine Z6 (cs:=#[.int .i64 a0_0,.int .i64 a0_1,.int .i64 a0_2,.int .i64 a0_3,.bool false]) ?_ 4 _ rfl;(with_reducible repeat(first|refine Zu ?_ _|refine Zv ?_|refine Zs ?_ _));refine Z6 (cs:=#[.int .i64 a0_0,.int .i64 a0_1,.int .i64 a0_2,.int .i64 0,.bool false]) ?_ 3 _ rfl;(with_reducible repeat(first|refine Zu ?_ _|refine Zv ?_|refine Zs ?_ _));refine Z6 (cs:=#[.int .i64 a0_0,.int .i64 a0_1,.int .i64 0,.int .i64 0,.bool false]) ?_ 2 _ rfl;(with_reducible repeat(first|refine Zu ?_ _|refine Zv ?_|refine Zs ?_ _));refine Z6 (cs:=#[.int .i64 a0_0,.int .i64 0,.int .i64 0,.int .i64 0,.bool false]) ?_ 1 _ rfl;(with_reducible repeat(first|refine Zu ?_ _|refine Zv ?_|refine Zs ?_ _));refine Z6 (cs:=#[.int .i64 0,.int .i64 0,.int .i64 0,.int .i64 0,.bool false]) ?_ 0 _ rfl;(with_reducible repeat(first|refine Zu ?_ _|refine Zv ?_|refine Zs ?_ _));refine ZV ?_ NB79002_79003.out _;(with_reducible repeat(first|refine Zu ?_ _|refine Zv ?_|refine Zs ?_ _));refine ZV ?_ NB79002_79003.out _;(with_reducible repeat(first|refine Zu ?_ _|refine Zv ?_|refine Zs ?_ _));refine ZV ?_ NB79002_79003.out _;(with_reducible repeat(first|refine Zu ?_ _|refine Zv ?_|refine Zs ?_ _));refine ZV ?_ NB79002_79003.out _;(with_reducible repeat(first|refine Zu ?_ _|refine Zv ?_|refine Zs ?_ _));refine ZV ?_ NB79002_79003.out _;(with_reducible repeat(first|refine Zu ?_ _|refine Zv ?_|refine Zs ?_ _));exact BK79002.out) Tryd.underlying66 rfl (by kernel_rfl)) rfl ?_
 exact⟨by first|rfl|(simp[ZA,Zz] <;> rfl)|(simp[*,ZA,Zz] <;> rfl),by repeat(first|(with_reducible first|exact HB.out|apply Zn|apply Zm|apply Zo|refine Zr ?_ GE79001.out|refine Zr ?_ GE79002.out|refine Zr ?_ GE79003.out)|exact HB.out)⟩
def Zaw.l0:Nat→List (S93)→List (S66)→Int→Option ((List (S66)))
 | 0,_,_,_=>none
 | k+1,x0,x3,x4=>if x4<(x0.length:Int) then(if 0≤x4 then((Zce.f ((Za6 x0 x4).f0) ((Za6 x0 x4).f1) ((Za6 x0 x4).f2) ((Za6 x0 x4).f3) ((Za6 x0 x4).f4)).bind fun bt47005=>(if x4<(x3.length:Int) then(Zaw.l0 k x0 (x3.set (x4:Int).toNat (⟨bt47005.1,bt47005.2.1,bt47005.2.2.1,bt47005.2.2.2.1,bt47005.2.2.2.2⟩:S66)) (wrap64 (x4+1))) else(none))) else(none)) else(some x3)
def Zaw.f (k:Nat) (l0:List (S93)):Option ((List (S66))):=if 0≤(l0.length:Int) then(if ((l0.length:Int):Int).toNat≤7036874417766 then(Zaw.l0 k l0 (List.replicate ((l0.length:Int):Int).toNat z66) 0) else(none)) else(none)
set_option maxHeartbeats 8000000 in
set_option maxRecDepth 100000 in
theorem Zaw.calls (k:Nat) (A0:Option Addr) (c0:Nat) (l0:List (S93)) (r:List (S66)) (w:World) (hr0:Kd.C k93 w A0 l0.length l0) (hc0:l0.length≤c0) (h:Zaw.f k l0=some r) :
  Calls Tryd.prog 47 #[.slice A0 l0.length c0] w fun e w'=>∃v0_:Value,e=.returned (v0_)∧Kd.R k66 66 w' w.heap.size (fun _=>True) v0_ r∧Below w.heap.size w w':=by
 have hu93:=Tryd.underlying93
 have hu66:=Tryd.underlying66
 have HR0:=Za hr0;have HC0:=Za hc0;clear hr0 hc0
 have HB:=Za (Below.refl w.heap.size w)
 have H:(if 0≤(l0.length:Int) then(if ((l0.length:Int):Int).toNat≤7036874417766 then(Zaw.l0 k l0 (List.replicate ((l0.length:Int):Int).toNat z66) 0) else(none)) else(none))=some r:=h
 clear h
 by_cases c2:0≤(l0.length:Int)
 ·rw[if_pos c2] at H
  have c2b0:=eq_true c2
  have c2b1:decide (0≤(l0.length:Int))=true:=Ze c2
  clear c2
  by_cases c3:((l0.length:Int):Int).toNat≤7036874417766
  ·rw[if_pos c3] at H
   have c3b0:=eq_true c3
   have c3b1:decide (((l0.length:Int):Int).toNat≤7036874417766)=true:=Ze c3
   clear c3
   obtain⟨y47001,hy47001⟩:∃y_:List (S66),y_=(List.replicate ((l0.length:Int):Int).toNat z66):=⟨_,rfl⟩
   replace H:(Zaw.l0 k l0 y47001 0)=some r:=by first|(rw[hy47001];with_reducible exact H)|(have H2_:=(Zi _ _).symm.trans H;rw[hy47001];with_reducible exact H2_)|(have H2_:=(Zi _ _).symm.trans H;with_reducible exact H2_)|with_reducible exact H|(rw[hy47001];exact H)|exact H
   have Ny47001:=Za hy47001;clear hy47001
   have H':=Za H
   clear H
   go_enter Tryd.func47,Tryd.ntmps47
   go_wp2_with (first|((with_reducible refine ZN (N:=7) rfl ?_);refine Kd.R_make k66 _ 66 rfl (N:=7) rfl 34 _ _ rfl (l0.length:Int) rfl rfl Tryd.underlying34 (.agg #[(.int .i64 0),(.int .i64 0),(.int .i64 0),(.int .i64 0),(.bool false)]) 40 info66 rfl (by decide) (by omega) z66 (ok:=fun _=>True) (okp:=fun _=>True) (k66_mkM _ _ _ z66 ) (fun _ hk=>hk) trivial (Zd (by first|(with_reducible assumption)|assumption)) (Nat.le_trans (Nat.mul_le_mul_right _ (Zd (by first|(with_reducible assumption)|assumption):(l0.length:Int).toNat≤7036874417766)) (by omega)) (Below.refl _ _) (Nat.le_refl _) ?_;intro v47002 w4 ho5 hb hg_ hnew_;clear hg_ hnew_;(first|rw[← Ny47001.out] at ho5|(simp only[Int.reduceToNat] at ho5;rw[← Ny47001.out] at ho5));have HO47003:=Za (Kd.R_lower ho5 (Zy (by repeat(first|(with_reducible first|exact HB.out|apply Zn|apply Zm|apply Zo)|exact HB.out))));replace HB:=Za (Zx (by repeat(first|(with_reducible first|exact HB.out|apply Zn|apply Zm|apply Zo)|exact HB.out)) hb);clear hb ho5))
   go_loopg [4] k (fun kq v4 w'=>∃(x3_1:List (S66)) (x4_1:Int),v4=.int .i64 x4_1∧Aside0 (Zaw.l0 kq l0 x3_1 x4_1=some r)∧Aside0 (kq≤k)∧Aside0 (Kd.R k66 66 w' w.heap.size (fun _=>True) v47002 x3_1)∧Aside0 (Below w.heap.size w w'))
   case atStart=>exact⟨(y47001),(0),(by first|rfl|(simp;done)|(simp[*];done)),H',⟨Nat.le_refl _⟩,⟨by(with_reducible repeat(first|apply Kd.R_alloc|apply Kd.R_drewN|apply Kd.R_drew));exact HO47003.out⟩,⟨by repeat(first|(with_reducible first|exact HB.out|apply Zn|apply Zm|apply Zo)|exact HB.out)⟩⟩
   case round=>
    clear H'
    try clear c2
    try clear c2b0
    try clear c2b1
    try clear p2
    try clear c3
    try clear c3b0
    try clear c3b1
    try clear c4
    obtain⟨x3_1,x4_1,rfl,HA,HK1,HO_3,HB⟩:=hrel
    cases gk with
    | zero=>exact absurd HA.out (by simp[Zaw.l0])
    | succ k1=>
     have H:=HA.out
     clear HA
     simp only[Zaw.l0] at H
     by_cases c6:x4_1<(l0.length:Int)
     ·rw[if_pos c6] at H
      have c6b0:decide (x4_1<(l0.length:Int))=true:=Ze c6
      clear c6
      by_cases c7:0≤x4_1
      ·rw[if_pos c7] at H
       have c7b0:decide (0≤x4_1)=true:=Ze c7
       clear c7
       replace H:=Zh H
       obtain⟨⟨t47005,t47006,t47007,t47008,t47009⟩,A80,H⟩:=H
       replace H:(if x4_1<(x3_1.length:Int) then(Zaw.l0 k1 l0 (x3_1.set (x4_1:Int).toNat (⟨t47005,t47006,t47007,t47008,t47009⟩:S66)) (wrap64 (x4_1+1))) else(none))=some r:=H
       have A8:=Za A80;clear A80
       by_cases c9:x4_1<(x3_1.length:Int)
       ·rw[if_pos c9] at H
        have c9b0:decide (x4_1<(x3_1.length:Int))=true:=Ze c9
        clear c9
        obtain⟨y47010,hy47010⟩:∃y_:List (S66),y_=(x3_1.set (x4_1:Int).toNat (⟨t47005,t47006,t47007,t47008,t47009⟩:S66)):=⟨_,rfl⟩
        replace H:(Zaw.l0 k1 l0 y47010 (wrap64 (x4_1+1)))=some r:=by first|(rw[hy47010];with_reducible exact H)|(have H2_:=(Zi _ _).symm.trans H;rw[hy47010];with_reducible exact H2_)|(have H2_:=(Zi _ _).symm.trans H;with_reducible exact H2_)|with_reducible exact H|(rw[hy47010];exact H)|exact H
        have Ny47010:=Za hy47010;clear hy47010
        have H':=Za H
        clear H
        have p47004:0≤(x4_1:Int):=Zd (by first|(with_reducible assumption)|assumption)
        have q47004:x4_1<(l0.length:Int):=Zd (by first|(with_reducible assumption)|assumption)
        obtain⟨ad47004,e47004,hx47004_0,hx47004_1,hx47004_2,hx47004_3,hx47004_4⟩:=at_T93 HR0.out x4_1 p47004 q47004
        cases e47004
        replace hx47004_0:=(HB.out.cell (Zc w _ hx47004_0)).trans hx47004_0
        replace hx47004_1:=(HB.out.cell (Zc w _ hx47004_1)).trans hx47004_1
        replace hx47004_2:=(HB.out.cell (Zc w _ hx47004_2)).trans hx47004_2
        replace hx47004_3:=(HB.out.cell (Zc w _ hx47004_3)).trans hx47004_3
        replace hx47004_4:=(HB.out.cell (Zc w _ hx47004_4)).trans hx47004_4
        replace p47004:=eq_true p47004
        replace q47004:=eq_true q47004
        go_wp2_with (first|((with_reducible refine ZG (f:=79) rfl ?_);refine ZX (some 20) rfl rfl Tryd.func79 (by kernel_rfl) rfl #[.agg #[.int .i64 ((Za6 l0 x4_1).f0),.int .i64 ((Za6 l0 x4_1).f1),.int .i64 ((Za6 l0 x4_1).f2),.int .i64 ((Za6 l0 x4_1).f3),.bool ((Za6 l0 x4_1).f4)]] rfl (by(try simp only[List.map_toArray,List.map_cons,List.map_nil]);first|done|rfl|(simp only[Zk,Zj];rfl)) ?_;(with_reducible refine(Zce.calls ((Za6 l0 x4_1).f0) ((Za6 l0 x4_1).f1) ((Za6 l0 x4_1).f2) ((Za6 l0 x4_1).f3) ((Za6 l0 x4_1).f4) t47005 t47006 t47007 t47008 t47009 _ A8.out).mono ?_);rintro e w11 ⟨rfl,hb⟩;refine⟨_,rfl,?_⟩;replace HO_3:=Za (Kd.R_below (by(with_reducible repeat(first|apply Kd.R_alloc|apply Kd.R_drewN|apply Kd.R_drew));exact HO_3.out) hb);replace HB:=Za (Zx (by repeat(first|(with_reducible first|exact HB.out|apply Zn|apply Zm|apply Zo)|exact HB.out)) hb);(try clear hb);(try clear hb2);(try clear hk);(try clear hi);have p10:0≤(x4_1:Int):=Zd (by first|(with_reducible assumption)|assumption);have q10:(x4_1:Int)<((x3_1.length:Int):Int):=Zd (by first|(with_reducible assumption)|assumption);obtain⟨go10,co10,eo10,gb10,gl10,cl10,HG10⟩:=Kd.R_form HO_3.out (by omega);(first|cases eo10|(injection eo10 with ea_ en_ ec_;(first|subst ea_|(injection ea_ with ea_;subst ea_));subst ec_;clear en_));have GB10:=Za gb10;have GG10:=Za HG10;clear gb10 gl10 HG10;obtain⟨ce10,hcl10,hM10,hcc10,hfr10⟩:=Kd.R_elem HO_3.out z66 (x4_1:Int) p10 q10;obtain rfl:=k66_openM hM10;have hx10_0:w11.cell? ⟨go10,(x4_1:Int).toNat * 5,none⟩=some (.int .i64 ((Zw x3_1 x4_1).f0)):=hcc10 0 _ rfl;have hx10_1:w11.cell? ⟨go10,(x4_1:Int).toNat * 5+1,none⟩=some (.int .i64 ((Zw x3_1 x4_1).f1)):=hcc10 1 _ rfl;have hx10_2:w11.cell? ⟨go10,(x4_1:Int).toNat * 5+2,none⟩=some (.int .i64 ((Zw x3_1 x4_1).f2)):=hcc10 2 _ rfl;have hx10_3:w11.cell? ⟨go10,(x4_1:Int).toNat * 5+3,none⟩=some (.int .i64 ((Zw x3_1 x4_1).f3)):=hcc10 3 _ rfl;have hx10_4:w11.cell? ⟨go10,(x4_1:Int).toNat * 5+4,none⟩=some (.bool ((Zw x3_1 x4_1).f4)):=hcc10 4 _ rfl;have hf10_0:w11.frozen? ⟨go10,(x4_1:Int).toNat * 5,none⟩=false:=hfr10 0;have hf10_1:w11.frozen? ⟨go10,(x4_1:Int).toNat * 5+1,none⟩=false:=hfr10 1;have hf10_2:w11.frozen? ⟨go10,(x4_1:Int).toNat * 5+2,none⟩=false:=hfr10 2;have hf10_3:w11.frozen? ⟨go10,(x4_1:Int).toNat * 5+3,none⟩=false:=hfr10 3;have hf10_4:w11.frozen? ⟨go10,(x4_1:Int).toNat * 5+4,none⟩=false:=hfr10 4;clear hcl10 hcc10 hfr10 hM10;replace p10:=eq_true p10;replace q10:=eq_true q10;have HX12:=Za (show Kd.R k66 66 w11 w.heap.size (fun _=>True) (.slice (some ⟨go10,0,none⟩) x3_1.length co10) x3_1 from(by(with_reducible repeat(first|apply Kd.R_alloc|apply Kd.R_drewN|apply Kd.R_drew));exact HO_3.out));obtain⟨ce12,hcl12,hM12,hcc12,hfr12⟩:=Kd.R_elem HX12.out z66 (x4_1:Int) (Zd (by first|(with_reducible assumption)|assumption)) (by have h_:(x4_1:Int)<((x3_1.length:Int):Int):=Zd (by first|(with_reducible assumption)|assumption);first|exact h_|(have e_:=(Kd.R_reads' HO_3.out).1;omega)|simpa using h_);obtain rfl:=k66_openM hM12;have HP12:=Kd.R_seg HX12.out (x4_1:Int) (Zd (by first|(with_reducible assumption)|assumption)) (by have h_:(x4_1:Int)<((x3_1.length:Int):Int):=Zd (by first|(with_reducible assumption)|assumption);first|exact h_|(have e_:=(Kd.R_reads' HO_3.out).1;omega)|simpa using h_) (seg:=[.int .i64 t47005,.int .i64 t47006,.int .i64 t47007,.int .i64 t47008,.bool t47009]) (j:=0) hcl12 hcc12 (show 5≤5 from by decide) (x':=(⟨t47005,t47006,t47007,t47008,t47009⟩:S66)) (k66_mkM _ _ _ (⟨t47005,t47006,t47007,t47008,t47009⟩:S66) ) (fun _ hk=>hk);have hx12_0:=hcc12 0 _ rfl;(try simp only[show(k66).sz=5 from rfl,Nat.mul_one,Nat.add_zero] at hx12_0);have hf12_0:=hfr12 0;(try simp only[show(k66).sz=5 from rfl,Nat.mul_one,Nat.add_zero] at hf12_0);have hx12_1:=hcc12 1 _ rfl;(try simp only[show(k66).sz=5 from rfl,Nat.mul_one,Nat.add_zero] at hx12_1);have hf12_1:=hfr12 1;(try simp only[show(k66).sz=5 from rfl,Nat.mul_one,Nat.add_zero] at hf12_1);have hx12_2:=hcc12 2 _ rfl;(try simp only[show(k66).sz=5 from rfl,Nat.mul_one,Nat.add_zero] at hx12_2);have hf12_2:=hfr12 2;(try simp only[show(k66).sz=5 from rfl,Nat.mul_one,Nat.add_zero] at hf12_2);have hx12_3:=hcc12 3 _ rfl;(try simp only[show(k66).sz=5 from rfl,Nat.mul_one,Nat.add_zero] at hx12_3);have hf12_3:=hfr12 3;(try simp only[show(k66).sz=5 from rfl,Nat.mul_one,Nat.add_zero] at hf12_3);have hx12_4:=hcc12 4 _ rfl;(try simp only[show(k66).sz=5 from rfl,Nat.mul_one,Nat.add_zero] at hx12_4);have hf12_4:=hfr12 4;(try simp only[show(k66).sz=5 from rfl,Nat.mul_one,Nat.add_zero] at hf12_4);clear hcl12 hcc12 hfr12 hM12)|((with_reducible refine Zc8 (t:=66) (p:=21) rfl ?_);refine ZcW (t:=66) (p:=21) (v:=?vo_w13) (w1:=(((((w11.setCell ⟨go10,(x4_1:Int).toNat * 5,none⟩ (.int .i64 t47005)).setCell ⟨go10,(x4_1:Int).toNat * 5+1,none⟩ (.int .i64 t47006)).setCell ⟨go10,(x4_1:Int).toNat * 5+2,none⟩ (.int .i64 t47007)).setCell ⟨go10,(x4_1:Int).toNat * 5+3,none⟩ (.int .i64 t47008)).setCell ⟨go10,(x4_1:Int).toNat * 5+4,none⟩ (.bool t47009))) ?hg ?ho ?hn ?hr ?_;(case ho=>rfl);(case hg=>rfl);(case hn=>rfl);(case hr=>first|(go_simp;done)|(go_simp;rfl));intro w13 hw;have hg:w11.grownBy w13 (some go10):=(by rw[hw];exact HP12.2);have hp_:Kd.R k66 66 w13 w.heap.size (fun _=>True) (.slice (some ⟨go10,0,none⟩) x3_1.length co10) y47010:=(by rw[hw,Ny47010.out];exact HP12.1);clear HP12;replace HO_3:=Za (hp_);replace HB:=Za ((by rw[hw];exact Zr (Zr (Zr (Zr (Zr (HB.out) GB10.out) GB10.out) GB10.out) GB10.out) GB10.out:Below w.heap.size w w13));clear hg hw hp_))
        go_roundg k1
        case measure=>have:=HK1.out;omega
        case rel=>exact⟨(y47010),(wrap64 (x4_1+1)),(by first|rfl|(simp;done)|(simp[*];done)),H',⟨by have:=HK1.out;omega⟩,⟨by(with_reducible repeat(first|apply Kd.R_alloc|apply Kd.R_drewN|apply Kd.R_drew));exact HO_3.out⟩,⟨by repeat(first|(with_reducible first|exact HB.out|apply Zn|apply Zm|apply Zo)|exact HB.out)⟩⟩
       ·rw[if_neg c9] at H
        exact absurd H (by simp)
      ·rw[if_neg c7] at H
       exact absurd H (by simp)
     ·rw[if_neg c6] at H
      have c6b0:decide (x4_1<(l0.length:Int))=false:=Zf c6
      clear c6
      obtain rfl:=Zg H
      go_wp2
      go_ret
      exact⟨_,by first|rfl|(simp[ZA,Zz] <;> rfl)|(simp[*,ZA,Zz] <;> rfl),by(with_reducible repeat(first|apply Kd.R_alloc|apply Kd.R_drewN|apply Kd.R_drew));exact HO_3.out,by repeat(first|(with_reducible first|exact HB.out|apply Zn|apply Zm|apply Zo)|exact HB.out)⟩
  ·rw[if_neg c3] at H
   exact absurd H (by simp)
 ·rw[if_neg c2] at H
  exact absurd H (by simp)
def ZaF.f (k:Nat) (l0_0:List (S89)) (l0_1:List (S93)) (a0_2:Int):Option ((List (S73))×(List (S66))×Int):=(Zat.f k l0_0).bind fun t15004=>((Zaw.f k l0_1).bind fun t15007=>(some (t15004,t15007,a0_2)))
set_option maxHeartbeats 8000000 in
set_option maxRecDepth 100000 in
theorem ZaF.calls (k:Nat) (A0_0:Option Addr) (c0_0:Nat) (l0_0:List (S89)) (A0_1:Option Addr) (c0_1:Nat) (l0_1:List (S93)) (a0_2:Int) (r1:List (S73)) (r2:List (S66)) (r3:Int) (w:World) (hr0_0:Kd.C k89 w A0_0 l0_0.length l0_0) (hc0_0:l0_0.length≤c0_0) (hr0_1:Kd.C k93 w A0_1 l0_1.length l0_1) (hc0_1:l0_1.length≤c0_1) (h:ZaF.f k l0_0 l0_1 a0_2=some (r1,r2,r3)) :
  Calls Tryd.prog 15 #[.agg #[.slice A0_0 l0_0.length c0_0,.slice A0_1 l0_1.length c0_1,.int .i64 a0_2]] w fun e w'=>∃v0_ v1_:Value,e=.returned (.agg #[v0_,v1_,.int .i64 r3])∧Kd.S k73 73 w' w.heap.size (fun _=>True) v0_ r1∧Kd.R k66 66 w' w.heap.size (fun _=>True) v1_ r2∧Below w.heap.size w w':=by
 have hu30:=Tryd.underlying30
 have hu36:=Tryd.underlying36
 have HR0_0:=Za hr0_0;have HC0_0:=Za hc0_0;clear hr0_0 hc0_0;have HR0_1:=Za hr0_1;have HC0_1:=Za hc0_1;clear hr0_1 hc0_1
 have HB:=Za (Below.refl w.heap.size w)
 have H:((Zat.f k l0_0).bind fun t15004=>((Zaw.f k l0_1).bind fun t15007=>(some (t15004,t15007,a0_2))))=some (r1,r2,r3):=h
 clear h
 replace H:=Zh H
 obtain⟨t15004,A20,H⟩:=H
 replace H:((Zaw.f k l0_1).bind fun t15007=>(some (t15004,t15007,a0_2)))=some (r1,r2,r3):=H
 have A2:=Za A20;clear A20
 replace H:=Zh H
 obtain⟨t15007,A30,H⟩:=H
 replace H:(some (t15004,t15007,a0_2))=some (r1,r2,r3):=H
 have A3:=Za A30;clear A30
 simp only[Option.some.injEq,Prod.mk.injEq] at H
 obtain⟨rfl,rfl,rfl⟩:=H
 go_enter Tryd.func15,Tryd.ntmps15
 go_wp2_with (first|((with_reducible refine ZN (N:=1) rfl ?_);refine ZP ?hg (N:=1) ?hd (cs:=#[.slice A0_0 l0_0.length c0_0,.slice A0_1 l0_1.length c0_1,.int .i64 a0_2]) (t:=30) ?hr ?_;(case hd=>rfl);(case hg=>rfl);(case hr=>first|(go_simp;done)|(go_simp;rfl));intro gb15001 hg w4 hbox hb;have BK15001:=Za (hbox);have GW15001:=Za ((by rw[hg];exact(Zy (by repeat(first|(with_reducible first|exact HB.out|apply Zn|apply Zm|apply Zo)|exact HB.out))):w.heap.size≤gb15001));have GE15001:=Za ((by rw[hg];exact(Zy (by repeat(first|(with_reducible first|exact HB.out|apply Zn|apply Zm|apply Zo)|exact HB.out))):w.heap.size≤gb15001));replace HB:=Za (Zx (by repeat(first|(with_reducible first|exact HB.out|apply Zn|apply Zm|apply Zo)|exact HB.out)) hb);clear hb hbox hg)|((with_reducible refine ZN (N:=2) rfl ?_);refine ZP ?hg (N:=2) ?hd (cs:=#[.slice none 0 0,.slice none 0 0,.int .i64 0]) (t:=36) ?hr ?_;(case hd=>rfl);(case hg=>rfl);(case hr=>first|(go_simp;done)|(go_simp;rfl));intro gb15002 hg w5 hbox hb;have BK15002:=Za (hbox);have GW15002:=Za ((by rw[hg];exact(Zy (by repeat(first|(with_reducible first|exact HB.out|apply Zn|apply Zm|apply Zo|refine Zr ?_ GE15001.out)|exact HB.out))):w.heap.size≤gb15002));have GE15002:=Za ((by rw[hg];exact(Zy (by repeat(first|(with_reducible first|exact HB.out|apply Zn|apply Zm|apply Zo|refine Zr ?_ GE15001.out)|exact HB.out))):w.heap.size≤gb15002));have NB15001_15002:=Za ((by rw[hg];exact Nat.ne_of_lt (ZY (g:=gb15001) (o:=.cells #[.slice A0_0 l0_0.length c0_0,.slice A0_1 l0_1.length c0_1,.int .i64 a0_2] 30 (0,0)) (by(with_reducible repeat(first|refine Zu ?_ _|refine Zv ?_|refine Zs ?_ _));exact BK15001.out)):gb15001≠gb15002));have NB15002_15001:=Za ((by rw[hg];exact Nat.ne_of_gt (ZY (g:=gb15001) (o:=.cells #[.slice A0_0 l0_0.length c0_0,.slice A0_1 l0_1.length c0_1,.int .i64 a0_2] 30 (0,0)) (by(with_reducible repeat(first|refine Zu ?_ _|refine Zv ?_|refine Zs ?_ _));exact BK15001.out)):gb15002≠gb15001));replace BK15001:=Za (ZB (g:=gb15001) (o:=.cells #[.slice A0_0 l0_0.length c0_0,.slice A0_1 l0_1.length c0_1,.int .i64 a0_2] 30 (0,0)) (by(with_reducible repeat(first|refine Zu ?_ _|refine Zv ?_|refine Zs ?_ _));exact BK15001.out) hb);replace HB:=Za (Zx (by repeat(first|(with_reducible first|exact HB.out|apply Zn|apply Zm|apply Zo|refine Zr ?_ GE15001.out)|exact HB.out)) hb);clear hb hbox hg)|((with_reducible refine ZN (N:=3) rfl ?_);refine ZP ?hg (N:=3) ?hd (cs:=#[.slice none 0 0,.slice none 0 0,.int .i64 0]) (t:=36) ?hr ?_;(case hd=>rfl);(case hg=>rfl);(case hr=>first|(go_simp;done)|(go_simp;rfl));intro gb15003 hg w6 hbox hb;have BK15003:=Za (hbox);have GW15003:=Za ((by rw[hg];exact(Zy (by repeat(first|(with_reducible first|exact HB.out|apply Zn|apply Zm|apply Zo|refine Zr ?_ GE15001.out|refine Zr ?_ GE15002.out)|exact HB.out))):w.heap.size≤gb15003));have GE15003:=Za ((by rw[hg];exact(Zy (by repeat(first|(with_reducible first|exact HB.out|apply Zn|apply Zm|apply Zo|refine Zr ?_ GE15001.out|refine Zr ?_ GE15002.out)|exact HB.out))):w.heap.size≤gb15003));have NB15001_15003:=Za ((by rw[hg];exact Nat.ne_of_lt (ZY (g:=gb15001) (o:=.cells #[.slice A0_0 l0_0.length c0_0,.slice A0_1 l0_1.length c0_1,.int .i64 a0_2] 30 (0,0)) (by(with_reducible repeat(first|refine Zu ?_ _|refine Zv ?_|refine Zs ?_ _));exact BK15001.out)):gb15001≠gb15003));have NB15003_15001:=Za ((by rw[hg];exact Nat.ne_of_gt (ZY (g:=gb15001) (o:=.cells #[.slice A0_0 l0_0.length c0_0,.slice A0_1 l0_1.length c0_1,.int .i64 a0_2] 30 (0,0)) (by(with_reducible repeat(first|refine Zu ?_ _|refine Zv ?_|refine Zs ?_ _));exact BK15001.out)):gb15003≠gb15001));have NB15002_15003:=Za ((by rw[hg];exact Nat.ne_of_lt (ZY (g:=gb15002) (o:=.cells #[.slice none 0 0,.slice none 0 0,.int .i64 0] 36 (0,0)) (by(with_reducible repeat(first|refine Zu ?_ _|refine Zv ?_|refine Zs ?_ _));exact BK15002.out)):gb15002≠gb15003));have NB15003_15002:=Za ((by rw[hg];exact Nat.ne_of_gt (ZY (g:=gb15002) (o:=.cells #[.slice none 0 0,.slice none 0 0,.int .i64 0] 36 (0,0)) (by(with_reducible repeat(first|refine Zu ?_ _|refine Zv ?_|refine Zs ?_ _));exact BK15002.out)):gb15003≠gb15002));replace BK15001:=Za (ZB (g:=gb15001) (o:=.cells #[.slice A0_0 l0_0.length c0_0,.slice A0_1 l0_1.length c0_1,.int .i64 a0_2] 30 (0,0)) (by(with_reducible repeat(first|refine Zu ?_ _|refine Zv ?_|refine Zs ?_ _));exact BK15001.out) hb);replace BK15002:=Za (ZB (g:=gb15002) (o:=.cells #[.slice none 0 0,.slice none 0 0,.int .i64 0] 36 (0,0)) (by(with_reducible repeat(first|refine Zu ?_ _|refine Zv ?_|refine Zs ?_ _));exact BK15002.out) hb);replace HB:=Za (Zx (by repeat(first|(with_reducible first|exact HB.out|apply Zn|apply Zm|apply Zo|refine Zr ?_ GE15001.out|refine Zr ?_ GE15002.out)|exact HB.out)) hb);clear hb hbox hg;have hnb7:=NB15001_15002.out;have hnc7:=NB15002_15001.out;have hnb8:=NB15001_15003.out;have hnc8:=NB15003_15001.out;have hcz9_0:w6.cell? ⟨gb15001,0,none⟩=some (.slice A0_0 l0_0.length c0_0):=(Zq BK15001.out 0).trans rfl;have hcz9_1:w6.cell? ⟨gb15001,1,none⟩=some (.slice A0_1 l0_1.length c0_1):=(Zq BK15001.out 1).trans rfl;have hcz9_2:w6.cell? ⟨gb15001,2,none⟩=some (.int .i64 a0_2):=(Zq BK15001.out 2).trans rfl;have hfz9_0:=Zt BK15001.out 0;have hfz9_1:=Zt BK15001.out 1;have hfz9_2:=Zt BK15001.out 2)|((with_reducible refine ZG (f:=46) rfl ?_);refine ZX (some 6) rfl rfl Tryd.func46 (by kernel_rfl) rfl #[.slice A0_0 l0_0.length c0_0] rfl (by(try simp only[List.map_toArray,List.map_cons,List.map_nil]);first|done|rfl|(simp only[Zk,Zj];rfl)) ?_;(with_reducible refine(Zat.calls k _ _ l0_0 t15004 _ ?side1 ?side2 A2.out).mono ?_);(case side1=>repeat(first|exact(Zb HR0_0.out HB.out)|(with_reducible refine Kd.C_alloc ?_ _)|(with_reducible refine Kd.C_drewN ?_ _)|(with_reducible refine Kd.C_drew ?_)));(case side2=>exact HC0_0.out);rintro e w10 ⟨v15005,rfl,ho0,hb⟩;refine⟨_,rfl,?_⟩;have HO15006:=Za (Kd.S_lower ho0 (Zy (by repeat(first|(with_reducible first|exact HB.out|apply Zn|apply Zm|apply Zo|refine Zr ?_ GE15001.out|refine Zr ?_ GE15002.out|refine Zr ?_ GE15003.out)|exact HB.out))));replace BK15001:=Za (ZB (g:=gb15001) (o:=.cells #[.slice A0_0 l0_0.length c0_0,.slice A0_1 l0_1.length c0_1,.int .i64 a0_2] 30 (0,0)) (by(with_reducible repeat(first|refine Zu ?_ _|refine Zv ?_|refine Zs ?_ _));exact BK15001.out) hb);replace BK15002:=Za (ZB (g:=gb15002) (o:=.cells #[.slice none 0 0,.slice none 0 0,.int .i64 0] 36 (0,0)) (by(with_reducible repeat(first|refine Zu ?_ _|refine Zv ?_|refine Zs ?_ _));exact BK15002.out) hb);replace BK15003:=Za (ZB (g:=gb15003) (o:=.cells #[.slice none 0 0,.slice none 0 0,.int .i64 0] 36 (0,0)) (by(with_reducible repeat(first|refine Zu ?_ _|refine Zv ?_|refine Zs ?_ _));exact BK15003.out) hb);replace HB:=Za (Zx (by repeat(first|(with_reducible first|exact HB.out|apply Zn|apply Zm|apply Zo|refine Zr ?_ GE15001.out|refine Zr ?_ GE15002.out|refine Zr ?_ GE15003.out)|exact HB.out)) hb);(try clear hb);(try clear hb2);(try clear hk);(try clear hi);(try clear ho0);obtain⟨Ao11,co11,eo11⟩:=Kd.S_slice HO15006.out;subst eo11;have hnb12:=NB15003_15002.out;have hnc12:=NB15002_15003.out;have hcz13_0:w10.cell? ⟨gb15003,0,none⟩=some (.slice none 0 0):=(Zq BK15003.out 0).trans rfl;have hcz13_1:w10.cell? ⟨gb15003,1,none⟩=some (.slice none 0 0):=(Zq BK15003.out 1).trans rfl;have hcz13_2:w10.cell? ⟨gb15003,2,none⟩=some (.int .i64 0):=(Zq BK15003.out 2).trans rfl;have hfz13_0:=Zt BK15003.out 0;have hfz13_1:=Zt BK15003.out 1;have hfz13_2:=Zt BK15003.out 2;have hcz14_0:w10.cell? ⟨gb15001,0,none⟩=some (.slice A0_0 l0_0.length c0_0):=(Zq BK15001.out 0).trans rfl;have hcz14_1:w10.cell? ⟨gb15001,1,none⟩=some (.slice A0_1 l0_1.length c0_1):=(Zq BK15001.out 1).trans rfl;have hcz14_2:w10.cell? ⟨gb15001,2,none⟩=some (.int .i64 a0_2):=(Zq BK15001.out 2).trans rfl;have hfz14_0:=Zt BK15001.out 0;have hfz14_1:=Zt BK15001.out 1;have hfz14_2:=Zt BK15001.out 2)|((with_reducible refine ZG (f:=47) rfl ?_);refine ZX (some 10) rfl rfl Tryd.func47 (by kernel_rfl) rfl #[.slice A0_1 l0_1.length c0_1] rfl (by(try simp only[List.map_toArray,List.map_cons,List.map_nil]);first|done|rfl|(simp only[Zk,Zj];rfl)) ?_;(with_reducible refine(Zaw.calls k _ _ l0_1 t15007 _ ?side1 ?side2 A3.out).mono ?_);(case side1=>exact Zb HR0_1.out (by repeat(first|(with_reducible first|exact HB.out|apply Zn|apply Zm|apply Zo|refine Zr ?_ GE15001.out|refine Zr ?_ GE15002.out|refine Zr ?_ GE15003.out)|exact HB.out)));(case side2=>exact HC0_1.out);rintro e w15 ⟨v15008,rfl,ho0,hb⟩;refine⟨_,rfl,?_⟩;have HO15009:=Za (Kd.R_lower ho0 (Zy (by repeat(first|(with_reducible first|exact HB.out|apply Zn|apply Zm|apply Zo|refine Zr ?_ GE15001.out|refine Zr ?_ GE15002.out|refine Zr ?_ GE15003.out)|exact HB.out))));replace HO15006:=Za (Kd.S_below (by(with_reducible repeat(first|apply Kd.S_alloc|apply Kd.S_drewN|apply Kd.S_drew));exact(Kd.S_mono (Kd.S_far (p:=⟨gb15003,0,none⟩) (Kd.S_types HO15006.out BK15003.out (by decide)) (fun _ hk=>hk.2) (.slice Ao11 t15004.length co11)) (fun _ h_=>h_.1))) hb);replace BK15001:=Za (ZB (g:=gb15001) (o:=.cells #[.slice A0_0 l0_0.length c0_0,.slice A0_1 l0_1.length c0_1,.int .i64 a0_2] 30 (0,0)) (by(with_reducible repeat(first|refine Zu ?_ _|refine Zv ?_|refine Zs ?_ _));refine ZV ?_ NB15001_15003.out _;(with_reducible repeat(first|refine Zu ?_ _|refine Zv ?_|refine Zs ?_ _));exact BK15001.out) hb);replace BK15002:=Za (ZB (g:=gb15002) (o:=.cells #[.slice none 0 0,.slice none 0 0,.int .i64 0] 36 (0,0)) (by(with_reducible repeat(first|refine Zu ?_ _|refine Zv ?_|refine Zs ?_ _));refine ZV ?_ NB15002_15003.out _;(with_reducible repeat(first|refine Zu ?_ _|refine Zv ?_|refine Zs ?_ _));exact BK15002.out) hb);replace BK15003:=Za (ZB (g:=gb15003) (o:=.cells #[.slice Ao11 t15004.length co11,.slice none 0 0,.int .i64 0] 36 (0,0)) (by(with_reducible repeat(first|refine Zu ?_ _|refine Zv ?_|refine Zs ?_ _));refine Z6 (cs:=#[.slice none 0 0,.slice none 0 0,.int .i64 0]) ?_ 0 _ rfl;(with_reducible repeat(first|refine Zu ?_ _|refine Zv ?_|refine Zs ?_ _));exact BK15003.out) hb);replace HB:=Za (Zx (by repeat(first|(with_reducible first|exact HB.out|apply Zn|apply Zm|apply Zo|refine Zr ?_ GE15001.out|refine Zr ?_ GE15002.out|refine Zr ?_ GE15003.out)|exact HB.out)) hb);(try clear hb);(try clear hb2);(try clear hk);(try clear hi);(try clear ho0);obtain⟨Ao16,co16,eo16⟩:=Kd.R_slice HO15009.out;subst eo16;have hcz17_0:w15.cell? ⟨gb15003,0,none⟩=some (.slice Ao11 t15004.length co11):=(Zq BK15003.out 0).trans rfl;have hcz17_1:w15.cell? ⟨gb15003,1,none⟩=some (.slice none 0 0):=(Zq BK15003.out 1).trans rfl;have hcz17_2:w15.cell? ⟨gb15003,2,none⟩=some (.int .i64 0):=(Zq BK15003.out 2).trans rfl;have hfz17_0:=Zt BK15003.out 0;have hfz17_1:=Zt BK15003.out 1;have hfz17_2:=Zt BK15003.out 2;have hcz18_0:w15.cell? ⟨gb15001,0,none⟩=some (.slice A0_0 l0_0.length c0_0):=(Zq BK15001.out 0).trans rfl;have hcz18_1:w15.cell? ⟨gb15001,1,none⟩=some (.slice A0_1 l0_1.length c0_1):=(Zq BK15001.out 1).trans rfl;have hcz18_2:w15.cell? ⟨gb15001,2,none⟩=some (.int .i64 a0_2):=(Zq BK15001.out 2).trans rfl;have hfz18_0:=Zt BK15001.out 0;have hfz18_1:=Zt BK15001.out 1;have hfz18_2:=Zt BK15001.out 2;have hcz19_0:w15.cell? ⟨gb15002,0,none⟩=some (.slice none 0 0):=(Zq BK15002.out 0).trans rfl;have hcz19_1:w15.cell? ⟨gb15002,1,none⟩=some (.slice none 0 0):=(Zq BK15002.out 1).trans rfl;have hcz19_2:w15.cell? ⟨gb15002,2,none⟩=some (.int .i64 0):=(Zq BK15002.out 2).trans rfl;have hfz19_0:=Zt BK15002.out 0;have hfz19_1:=Zt BK15002.out 1;have hfz19_2:=Zt BK15002.out 2))
 refine bodyPost_ret (results_cell_row rfl _ _ gb15002 36 #[.slice Ao11 t15004.length co11,.slice Ao16 t15007.length co16,.int .i64 a0_2] (0,0) _ rfl (by(with_reducible repeat(first|refine Zu ?_ _|refine Zv ?_|refine Zs ?_ _));refine Z6 (cs:=#[.slice Ao11 t15004.length co11,.slice Ao16 t15007.length co16,.int .i64 0]) ?_ 2 _ rfl;(with_reducible repeat(first|refine Zu ?_ _|refine Zv ?_|refine Zs ?_ _));refine Z6 (cs:=#[.slice Ao11 t15004.length co11,.slice none 0 0,.int .i64 0]) ?_ 1 _ rfl;(with_reducible repeat(first|refine Zu ?_ _|refine Zv ?_|refine Zs ?_ _));refine Z6 (cs:=#[.slice none 0 0,.slice none 0 0,.int .i64 0]) ?_ 0 _ rfl;(with_reducible repeat(first|refine Zu ?_ _|refine Zv ?_|refine Zs ?_ _));refine ZV ?_ NB15002_15003.out _;(with_reducible repeat(first|refine Zu ?_ _|refine Zv ?_|refine Zs ?_ _));refine ZV ?_ NB15002_15003.out _;(with_reducible repeat(first|refine Zu ?_ _|refine Zv ?_|refine Zs ?_ _));exact BK15002.out) Tryd.underlying36 rfl (by kernel_rfl)) rfl ?_
 exact⟨_,_,by first|rfl|(simp[ZA,Zz] <;> rfl)|(simp[*,ZA,Zz] <;> rfl),by(with_reducible repeat(first|apply Kd.S_alloc|apply Kd.S_drewN|apply Kd.S_drew));exact Kd.S_mono (Kd.S_far (p:=⟨gb15002,2,none⟩) (Kd.S_far (p:=⟨gb15002,1,none⟩) (Kd.S_far (p:=⟨gb15002,0,none⟩) (Kd.S_far (p:=⟨gb15003,2,none⟩) (Kd.S_far (p:=⟨gb15003,1,none⟩) (Kd.S_types (Kd.S_types HO15006.out BK15003.out (by decide)) BK15002.out (by decide)) (fun _ hk=>hk.1.2) (.slice Ao16 t15007.length co16)) (fun _ hk=>hk.1.2) (.int .i64 a0_2)) (fun _ hk=>hk.2) (.slice Ao11 t15004.length co11)) (fun _ hk=>hk.2) (.slice Ao16 t15007.length co16)) (fun _ hk=>hk.2) (.int .i64 a0_2)) (fun _ hk=>trivial),by(with_reducible repeat(first|apply Kd.R_alloc|apply Kd.R_drewN|apply Kd.R_drew));exact Kd.R_mono (Kd.R_far (p:=⟨gb15002,2,none⟩) (Kd.R_far (p:=⟨gb15002,1,none⟩) (Kd.R_far (p:=⟨gb15002,0,none⟩) (Kd.R_far (p:=⟨gb15003,2,none⟩) (Kd.R_far (p:=⟨gb15003,1,none⟩) (Kd.R_types (Kd.R_types HO15009.out BK15003.out (by decide)) BK15002.out (by decide)) (fun _ hk=>hk.1.2) (.slice Ao16 t15007.length co16)) (fun _ hk=>hk.1.2) (.int .i64 a0_2)) (fun _ hk=>hk.2) (.slice Ao11 t15004.length co11)) (fun _ hk=>hk.2) (.slice Ao16 t15007.length co16)) (fun _ hk=>hk.2) (.int .i64 a0_2)) (fun _ hk=>trivial),by repeat(first|(with_reducible first|exact HB.out|apply Zn|apply Zm|apply Zo|refine Zr ?_ GE15001.out|refine Zr ?_ GE15002.out|refine Zr ?_ GE15003.out)|exact HB.out)⟩
theorem ZaF.c (k:Nat) (A0_0:Option Addr) (c0_0:Nat) (l0_0:List (S89)) (A0_1:Option Addr) (c0_1:Nat) (l0_1:List (S93)) (a0_2:Int) (r1:List (S73)) (r2:List (S66)) (r3:Int) (w:World) (hr0_0:Kd.C k89 w A0_0 l0_0.length l0_0) (hc0_0:l0_0.length≤c0_0) (hr0_1:Kd.C k93 w A0_1 l0_1.length l0_1) (hc0_1:l0_1.length≤c0_1) (h:ZaF.f k l0_0 l0_1 a0_2=some (r1,r2,r3)) :
  Calls Tryd.prog 15 #[.agg #[.slice A0_0 l0_0.length c0_0,.slice A0_1 l0_1.length c0_1,.int .i64 a0_2]] w fun e w'=>∃A0_ c0_ A1_ c1_,e=.returned (.agg #[.slice A0_ r1.length c0_,.slice A1_ r2.length c1_,.int .i64 r3])∧Aside0 (r1.length≤c0_∧Kd.C k73 w' A0_ r1.length r1)∧Aside0 (r2.length≤c1_∧Kd.C k66 w' A1_ r2.length r2)∧Below w.heap.size w w':=
 (ZaF.calls k A0_0 c0_0 l0_0 A0_1 c0_1 l0_1 a0_2 r1 r2 r3 w hr0_0 hc0_0 hr0_1 hc0_1 h).mono fun e w' ⟨v0_,v1_,he,q0_,q1_,hb⟩=>by
  obtain⟨A0_,c0_,rfl,g0_⟩:=Kd.S_reads q0_
  obtain⟨A1_,c1_,rfl,g1_⟩:=Kd.R_reads q1_
  exact⟨A0_,c0_,A1_,c1_,he,⟨g0_⟩,⟨g1_⟩,hb⟩
def Zbt.f (l0:List Int) (a1:Int):Option (Int):=if (wrap64 (a1 - (l0.length:Int)))<0 then(some (-1)) else(some (wrap64 (a1 - (l0.length:Int))))
set_option maxHeartbeats 8000000 in
set_option maxRecDepth 100000 in
theorem Zbt.calls (A0:Option Addr) (c0:Nat) (l0:List Int) (a1:Int) (r:Int) (w:World) (hr0:Kd.C (Kd.int .i64) w A0 l0.length l0) (hc0:l0.length≤c0) (h:Zbt.f l0 a1=some r) :
  Calls Tryd.prog 102 #[.slice A0 l0.length c0,.int .i64 a1] w fun e w'=>e=.returned (.int .i64 r)∧ZE w w':=by
 have HR0:=Za hr0;have HC0:=Za hc0;clear hr0 hc0
 have H:(if (wrap64 (a1 - (l0.length:Int)))<0 then(some (-1)) else(some (wrap64 (a1 - (l0.length:Int)))))=some r:=h
 clear h
 by_cases c3:(wrap64 (a1 - (l0.length:Int)))<0
 ·rw[if_pos c3] at H
  have c3b0:decide ((wrap64 (a1 - (l0.length:Int)))<0)=true:=Ze c3
  clear c3
  obtain rfl:=Zg H
  go_enter Tryd.func102,Tryd.ntmps102
  go_wp2
  go_ret
  exact⟨by first|rfl|(simp;done)|(simp[*];done),by repeat(first|exact ZE.refl _|apply ZE.step)⟩
 ·rw[if_neg c3] at H
  have c3b0:decide ((wrap64 (a1 - (l0.length:Int)))<0)=false:=Zf c3
  clear c3
  obtain rfl:=Zg H
  go_enter Tryd.func102,Tryd.ntmps102
  go_wp2
  go_ret
  exact⟨by first|rfl|(simp;done)|(simp[*];done),by repeat(first|exact ZE.refl _|apply ZE.step)⟩
def ZbG.f (a0_0:ByteArray) (l0_1:List Int) (a0_2:Int) (a1:Int):Option (Int):=if (wrap64 (a1 - (a0_0.size:Int)))<0 then(some (-1)) else((Zbt.f l0_1 (wrap64 (a1 - (a0_0.size:Int)))).bind fun t75002=>(if t75002<0 then(some (-1)) else(some t75002)))
set_option maxHeartbeats 8000000 in
set_option maxRecDepth 100000 in
theorem ZbG.calls (a0_0:ByteArray) (A0_1:Option Addr) (c0_1:Nat) (l0_1:List Int) (a0_2:Int) (a1:Int) (r:Int) (w:World) (hr0_1:Kd.C (Kd.int .i64) w A0_1 l0_1.length l0_1) (hc0_1:l0_1.length≤c0_1) (h:ZbG.f a0_0 l0_1 a0_2 a1=some r) :
  Calls Tryd.prog 75 #[.agg #[.string a0_0,.slice A0_1 l0_1.length c0_1,.int .i64 a0_2],.int .i64 a1] w fun e w'=>e=.returned (.int .i64 r)∧Below w.heap.size w w':=by
 have hu89:=Tryd.underlying89
 have HR0_1:=Za hr0_1;have HC0_1:=Za hc0_1;clear hr0_1 hc0_1
 have HB:=Za (Below.refl w.heap.size w)
 have H:(if (wrap64 (a1 - (a0_0.size:Int)))<0 then(some (-1)) else((Zbt.f l0_1 (wrap64 (a1 - (a0_0.size:Int)))).bind fun t75002=>(if t75002<0 then(some (-1)) else(some t75002))))=some r:=h
 clear h
 by_cases c3:(wrap64 (a1 - (a0_0.size:Int)))<0
 ·rw[if_pos c3] at H
  have c3b0:decide ((wrap64 (a1 - (a0_0.size:Int)))<0)=true:=Ze c3
  clear c3
  obtain rfl:=Zg H
  go_enter Tryd.func75,Tryd.ntmps75
  go_wp2_with (first|((with_reducible refine ZN (N:=2) rfl ?_);refine ZP ?hg (N:=2) ?hd (cs:=#[.string a0_0,.slice A0_1 l0_1.length c0_1,.int .i64 a0_2]) (t:=89) ?hr ?_;(case hd=>rfl);(case hg=>rfl);(case hr=>first|(go_simp;done)|(go_simp;rfl));intro gb75001 hg w4 hbox hb;have BK75001:=Za (hbox);have GW75001:=Za ((by rw[hg];exact(Zy (by repeat(first|(with_reducible first|exact HB.out|apply Zn|apply Zm|apply Zo)|exact HB.out))):w.heap.size≤gb75001));have GE75001:=Za ((by rw[hg];exact(Zy (by repeat(first|(with_reducible first|exact HB.out|apply Zn|apply Zm|apply Zo)|exact HB.out))):w.heap.size≤gb75001));replace HB:=Za (Zx (by repeat(first|(with_reducible first|exact HB.out|apply Zn|apply Zm|apply Zo)|exact HB.out)) hb);clear hb hbox hg;have hcz5_0:w4.cell? ⟨gb75001,0,none⟩=some (.string a0_0):=(Zq BK75001.out 0).trans rfl;have hcz5_1:w4.cell? ⟨gb75001,1,none⟩=some (.slice A0_1 l0_1.length c0_1):=(Zq BK75001.out 1).trans rfl;have hcz5_2:w4.cell? ⟨gb75001,2,none⟩=some (.int .i64 a0_2):=(Zq BK75001.out 2).trans rfl;have hfz5_0:=Zt BK75001.out 0;have hfz5_1:=Zt BK75001.out 1;have hfz5_2:=Zt BK75001.out 2))
  go_ret
  exact⟨by first|rfl|(simp[ZA,Zz] <;> rfl)|(simp[*,ZA,Zz] <;> rfl),by repeat(first|(with_reducible first|exact HB.out|apply Zn|apply Zm|apply Zo|refine Zr ?_ GE75001.out)|exact HB.out)⟩
 ·rw[if_neg c3] at H
  have c3b0:decide ((wrap64 (a1 - (a0_0.size:Int)))<0)=false:=Zf c3
  clear c3
  replace H:=Zh H
  obtain⟨t75002,A60,H⟩:=H
  replace H:(if t75002<0 then(some (-1)) else(some t75002))=some r:=H
  have A6:=Za A60;clear A60
  by_cases c7:t75002<0
  ·rw[if_pos c7] at H
   have c7b0:decide (t75002<0)=true:=Ze c7
   clear c7
   obtain rfl:=Zg H
   go_enter Tryd.func75,Tryd.ntmps75
   go_wp2_with (first|((with_reducible refine ZN (N:=2) rfl ?_);refine ZP ?hg (N:=2) ?hd (cs:=#[.string a0_0,.slice A0_1 l0_1.length c0_1,.int .i64 a0_2]) (t:=89) ?hr ?_;(case hd=>rfl);(case hg=>rfl);(case hr=>first|(go_simp;done)|(go_simp;rfl));intro gb75001 hg w8 hbox hb;have BK75001:=Za (hbox);have GW75001:=Za ((by rw[hg];exact(Zy (by repeat(first|(with_reducible first|exact HB.out|apply Zn|apply Zm|apply Zo)|exact HB.out))):w.heap.size≤gb75001));have GE75001:=Za ((by rw[hg];exact(Zy (by repeat(first|(with_reducible first|exact HB.out|apply Zn|apply Zm|apply Zo)|exact HB.out))):w.heap.size≤gb75001));replace HB:=Za (Zx (by repeat(first|(with_reducible first|exact HB.out|apply Zn|apply Zm|apply Zo)|exact HB.out)) hb);clear hb hbox hg;have hcz9_0:w8.cell? ⟨gb75001,0,none⟩=some (.string a0_0):=(Zq BK75001.out 0).trans rfl;have hcz9_1:w8.cell? ⟨gb75001,1,none⟩=some (.slice A0_1 l0_1.length c0_1):=(Zq BK75001.out 1).trans rfl;have hcz9_2:w8.cell? ⟨gb75001,2,none⟩=some (.int .i64 a0_2):=(Zq BK75001.out 2).trans rfl;have hfz9_0:=Zt BK75001.out 0;have hfz9_1:=Zt BK75001.out 1;have hfz9_2:=Zt BK75001.out 2)|((with_reducible refine ZG (f:=102) rfl ?_);refine ZX (some 15) rfl rfl Tryd.func102 (by kernel_rfl) rfl #[.slice A0_1 l0_1.length c0_1,.int .i64 (wrap64 (a1 - (a0_0.size:Int)))] rfl (by(try simp only[List.map_toArray,List.map_cons,List.map_nil]);first|done|rfl|(simp only[Zk,Zj];rfl)) ?_;(with_reducible refine(Zbt.calls _ _ l0_1 (wrap64 (a1 - (a0_0.size:Int))) t75002 _ ?side1 ?side2 A6.out).mono ?_);(case side1=>repeat(first|exact(Zb HR0_1.out HB.out)|(with_reducible refine Kd.C_alloc ?_ _)|(with_reducible refine Kd.C_drewN ?_ _)|(with_reducible refine Kd.C_drew ?_)));(case side2=>exact HC0_1.out);rintro e w' ⟨rfl,⟨nd,rfl⟩⟩;refine⟨_,rfl,?_⟩))
   go_ret
   exact⟨by first|rfl|(simp[ZA,Zz] <;> rfl)|(simp[*,ZA,Zz] <;> rfl),by repeat(first|(with_reducible first|exact HB.out|apply Zn|apply Zm|apply Zo|refine Zr ?_ GE75001.out)|exact HB.out)⟩
  ·rw[if_neg c7] at H
   have c7b0:decide (t75002<0)=false:=Zf c7
   clear c7
   obtain rfl:=Zg H
   go_enter Tryd.func75,Tryd.ntmps75
   go_wp2_with (first|((with_reducible refine ZN (N:=2) rfl ?_);refine ZP ?hg (N:=2) ?hd (cs:=#[.string a0_0,.slice A0_1 l0_1.length c0_1,.int .i64 a0_2]) (t:=89) ?hr ?_;(case hd=>rfl);(case hg=>rfl);(case hr=>first|(go_simp;done)|(go_simp;rfl));intro gb75001 hg w10 hbox hb;have BK75001:=Za (hbox);have GW75001:=Za ((by rw[hg];exact(Zy (by repeat(first|(with_reducible first|exact HB.out|apply Zn|apply Zm|apply Zo)|exact HB.out))):w.heap.size≤gb75001));have GE75001:=Za ((by rw[hg];exact(Zy (by repeat(first|(with_reducible first|exact HB.out|apply Zn|apply Zm|apply Zo)|exact HB.out))):w.heap.size≤gb75001));replace HB:=Za (Zx (by repeat(first|(with_reducible first|exact HB.out|apply Zn|apply Zm|apply Zo)|exact HB.out)) hb);clear hb hbox hg;have hcz11_0:w10.cell? ⟨gb75001,0,none⟩=some (.string a0_0):=(Zq BK75001.out 0).trans rfl;have hcz11_1:w10.cell? ⟨gb75001,1,none⟩=some (.slice A0_1 l0_1.length c0_1):=(Zq BK75001.out 1).trans rfl;have hcz11_2:w10.cell? ⟨gb75001,2,none⟩=some (.int .i64 a0_2):=(Zq BK75001.out 2).trans rfl;have hfz11_0:=Zt BK75001.out 0;have hfz11_1:=Zt BK75001.out 1;have hfz11_2:=Zt BK75001.out 2)|((with_reducible refine ZG (f:=102) rfl ?_);refine ZX (some 15) rfl rfl Tryd.func102 (by kernel_rfl) rfl #[.slice A0_1 l0_1.length c0_1,.int .i64 (wrap64 (a1 - (a0_0.size:Int)))] rfl (by(try simp only[List.map_toArray,List.map_cons,List.map_nil]);first|done|rfl|(simp only[Zk,Zj];rfl)) ?_;(with_reducible refine(Zbt.calls _ _ l0_1 (wrap64 (a1 - (a0_0.size:Int))) t75002 _ ?side1 ?side2 A6.out).mono ?_);(case side1=>repeat(first|exact(Zb HR0_1.out HB.out)|(with_reducible refine Kd.C_alloc ?_ _)|(with_reducible refine Kd.C_drewN ?_ _)|(with_reducible refine Kd.C_drew ?_)));(case side2=>exact HC0_1.out);rintro e w' ⟨rfl,⟨nd,rfl⟩⟩;refine⟨_,rfl,?_⟩))
   go_ret
   exact⟨by first|rfl|(simp[ZA,Zz] <;> rfl)|(simp[*,ZA,Zz] <;> rfl),by repeat(first|(with_reducible first|exact HB.out|apply Zn|apply Zm|apply Zo|refine Zr ?_ GE75001.out)|exact HB.out)⟩
def Zau.l0:Nat→List (S89)→Int→Int→Option (Int)
 | 0,_,_,_=>none
 | k+1,x0,x1,x5=>if x5<(x0.length:Int) then(if 0≤x5 then((ZbG.f ((ZaI x0 x5).f0) ((ZaI x0 x5).f1) ((ZaI x0 x5).f2) x1).bind fun t41002=>(if t41002<0 then(some (-1)) else(Zau.l0 k x0 t41002 (wrap64 (x5+1))))) else(none)) else(some x1)
def Zau.f (k:Nat) (l0:List (S89)) (a1:Int):Option (Int):=if (wrap64 (a1 - (l0.length:Int)))<0 then(some (-1)) else(Zau.l0 k l0 (wrap64 (a1 - (l0.length:Int))) 0)
set_option maxHeartbeats 8000000 in
set_option maxRecDepth 100000 in
theorem Zau.calls (k:Nat) (A0:Option Addr) (c0:Nat) (l0:List (S89)) (a1:Int) (r:Int) (w:World) (hr0:Kd.C k89 w A0 l0.length l0) (hc0:l0.length≤c0) (h:Zau.f k l0 a1=some r) :
  Calls Tryd.prog 41 #[.slice A0 l0.length c0,.int .i64 a1] w fun e w'=>e=.returned (.int .i64 r)∧Below w.heap.size w w':=by
 have hu89:=Tryd.underlying89
 have HR0:=Za hr0;have HC0:=Za hc0;clear hr0 hc0
 have HB:=Za (Below.refl w.heap.size w)
 have H:(if (wrap64 (a1 - (l0.length:Int)))<0 then(some (-1)) else(Zau.l0 k l0 (wrap64 (a1 - (l0.length:Int))) 0))=some r:=h
 clear h
 by_cases c3:(wrap64 (a1 - (l0.length:Int)))<0
 ·rw[if_pos c3] at H
  have c3b0:decide ((wrap64 (a1 - (l0.length:Int)))<0)=true:=Ze c3
  clear c3
  obtain rfl:=Zg H
  go_enter Tryd.func41,Tryd.ntmps41
  go_wp2
  go_ret
  exact⟨by first|rfl|(simp[ZA,Zz] <;> rfl)|(simp[*,ZA,Zz] <;> rfl),by repeat(first|(with_reducible first|exact HB.out|apply Zn|apply Zm|apply Zo)|exact HB.out)⟩
 ·rw[if_neg c3] at H
  have c3b0:decide ((wrap64 (a1 - (l0.length:Int)))<0)=false:=Zf c3
  clear c3
  have H':=Za H
  clear H
  go_enter Tryd.func41,Tryd.ntmps41
  go_wp2
  go_loopg [1,5] k (fun kq v1 v5 w'=>∃(x1_1:Int) (x5_1:Int),v1=.int .i64 x1_1∧v5=.int .i64 x5_1∧Aside0 (Zau.l0 kq l0 x1_1 x5_1=some r)∧Aside0 (kq≤k)∧Aside0 (Below w.heap.size w w'))
  case atStart=>exact⟨(wrap64 (a1 - (l0.length:Int))),(0),(by first|rfl|(simp;done)|(simp[*];done)),(by first|rfl|(simp;done)|(simp[*];done)),H',⟨Nat.le_refl _⟩,⟨by repeat(first|(with_reducible first|exact HB.out|apply Zn|apply Zm|apply Zo)|exact HB.out)⟩⟩
  case round=>
   clear H'
   try clear p2
   try clear c3
   try clear c3b0
   obtain⟨x1_1,x5_1,rfl,rfl,HA,HK1,HB⟩:=hrel
   cases gk with
   | zero=>exact absurd HA.out (by simp[Zau.l0])
   | succ k1=>
    have H:=HA.out
    clear HA
    simp only[Zau.l0] at H
    by_cases c4:x5_1<(l0.length:Int)
    ·rw[if_pos c4] at H
     have c4b0:decide (x5_1<(l0.length:Int))=true:=Ze c4
     clear c4
     by_cases c5:0≤x5_1
     ·rw[if_pos c5] at H
      have c5b0:decide (0≤x5_1)=true:=Ze c5
      clear c5
      replace H:=Zh H
      obtain⟨t41002,A60,H⟩:=H
      replace H:(if t41002<0 then(some (-1)) else(Zau.l0 k1 l0 t41002 (wrap64 (x5_1+1))))=some r:=H
      have A6:=Za A60;clear A60
      by_cases c7:t41002<0
      ·rw[if_pos c7] at H
       have c7b0:decide (t41002<0)=true:=Ze c7
       clear c7
       obtain rfl:=Zg H
       have p41001:0≤(x5_1:Int):=Zd (by first|(with_reducible assumption)|assumption)
       have q41001:x5_1<(l0.length:Int):=Zd (by first|(with_reducible assumption)|assumption)
       obtain⟨ad41001,A41001_1,c41001_1,e41001,hx41001_0,hx41001_1,hx41001_2,hl41001_1,hi41001_1⟩:=at_T89 HR0.out x5_1 p41001 q41001
       cases e41001
       replace hx41001_0:=(HB.out.cell (Zc w _ hx41001_0)).trans hx41001_0
       replace hx41001_1:=(HB.out.cell (Zc w _ hx41001_1)).trans hx41001_1
       replace hx41001_2:=(HB.out.cell (Zc w _ hx41001_2)).trans hx41001_2
       have HR41001_1:=Za hi41001_1;have HC41001_1:=Za hl41001_1;clear hi41001_1 hl41001_1
       replace p41001:=eq_true p41001
       replace q41001:=eq_true q41001
       go_wp2_with (first|((with_reducible refine ZG (f:=75) rfl ?_);refine ZX (some 23) rfl rfl Tryd.func75 (by kernel_rfl) rfl #[.agg #[.string ((ZaI l0 x5_1).f0),.slice A41001_1 ((ZaI l0 x5_1).f1).length c41001_1,.int .i64 ((ZaI l0 x5_1).f2)],.int .i64 x1_1] rfl (by(try simp only[List.map_toArray,List.map_cons,List.map_nil]);first|done|rfl|(simp only[Zk,Zj];rfl)) ?_;(with_reducible refine(ZbG.calls ((ZaI l0 x5_1).f0) _ _ ((ZaI l0 x5_1).f1) ((ZaI l0 x5_1).f2) x1_1 t41002 _ ?side1 ?side2 A6.out).mono ?_);(case side1=>repeat(first|exact(Zb HR41001_1.out HB.out)|(with_reducible refine Kd.C_alloc ?_ _)|(with_reducible refine Kd.C_drewN ?_ _)|(with_reducible refine Kd.C_drew ?_)));(case side2=>exact HC41001_1.out);rintro e w8 ⟨rfl,hb⟩;refine⟨_,rfl,?_⟩;replace HB:=Za (Zx (by repeat(first|(with_reducible first|exact HB.out|apply Zn|apply Zm|apply Zo)|exact HB.out)) hb);(try clear hb);(try clear hb2);(try clear hk);(try clear hi)))
       go_ret
       exact⟨by first|rfl|(simp[ZA,Zz] <;> rfl)|(simp[*,ZA,Zz] <;> rfl),by repeat(first|(with_reducible first|exact HB.out|apply Zn|apply Zm|apply Zo)|exact HB.out)⟩
      ·rw[if_neg c7] at H
       have c7b0:decide (t41002<0)=false:=Zf c7
       clear c7
       have H':=Za H
       clear H
       have p41001:0≤(x5_1:Int):=Zd (by first|(with_reducible assumption)|assumption)
       have q41001:x5_1<(l0.length:Int):=Zd (by first|(with_reducible assumption)|assumption)
       obtain⟨ad41001,A41001_1,c41001_1,e41001,hx41001_0,hx41001_1,hx41001_2,hl41001_1,hi41001_1⟩:=at_T89 HR0.out x5_1 p41001 q41001
       cases e41001
       replace hx41001_0:=(HB.out.cell (Zc w _ hx41001_0)).trans hx41001_0
       replace hx41001_1:=(HB.out.cell (Zc w _ hx41001_1)).trans hx41001_1
       replace hx41001_2:=(HB.out.cell (Zc w _ hx41001_2)).trans hx41001_2
       have HR41001_1:=Za hi41001_1;have HC41001_1:=Za hl41001_1;clear hi41001_1 hl41001_1
       replace p41001:=eq_true p41001
       replace q41001:=eq_true q41001
       go_wp2_with (first|((with_reducible refine ZG (f:=75) rfl ?_);refine ZX (some 23) rfl rfl Tryd.func75 (by kernel_rfl) rfl #[.agg #[.string ((ZaI l0 x5_1).f0),.slice A41001_1 ((ZaI l0 x5_1).f1).length c41001_1,.int .i64 ((ZaI l0 x5_1).f2)],.int .i64 x1_1] rfl (by(try simp only[List.map_toArray,List.map_cons,List.map_nil]);first|done|rfl|(simp only[Zk,Zj];rfl)) ?_;(with_reducible refine(ZbG.calls ((ZaI l0 x5_1).f0) _ _ ((ZaI l0 x5_1).f1) ((ZaI l0 x5_1).f2) x1_1 t41002 _ ?side1 ?side2 A6.out).mono ?_);(case side1=>repeat(first|exact(Zb HR41001_1.out HB.out)|(with_reducible refine Kd.C_alloc ?_ _)|(with_reducible refine Kd.C_drewN ?_ _)|(with_reducible refine Kd.C_drew ?_)));(case side2=>exact HC41001_1.out);rintro e w9 ⟨rfl,hb⟩;refine⟨_,rfl,?_⟩;replace HB:=Za (Zx (by repeat(first|(with_reducible first|exact HB.out|apply Zn|apply Zm|apply Zo)|exact HB.out)) hb);(try clear hb);(try clear hb2);(try clear hk);(try clear hi)))
       go_roundg k1
       case measure=>have:=HK1.out;omega
       case rel=>exact⟨(t41002),(wrap64 (x5_1+1)),(by first|rfl|(simp;done)|(simp[*];done)),(by first|rfl|(simp;done)|(simp[*];done)),H',⟨by have:=HK1.out;omega⟩,⟨by repeat(first|(with_reducible first|exact HB.out|apply Zn|apply Zm|apply Zo)|exact HB.out)⟩⟩
     ·rw[if_neg c5] at H
      exact absurd H (by simp)
    ·rw[if_neg c4] at H
     have c4b0:decide (x5_1<(l0.length:Int))=false:=Zf c4
     clear c4
     obtain rfl:=Zg H
     go_wp2
     go_ret
     exact⟨by first|rfl|(simp[ZA,Zz] <;> rfl)|(simp[*,ZA,Zz] <;> rfl),by repeat(first|(with_reducible first|exact HB.out|apply Zn|apply Zm|apply Zo)|exact HB.out)⟩
def Zbs.f (l0:List (S93)) (a1:Int):Option (Int):=if (wrap64 (a1 - (l0.length:Int)))<0 then(some (-1)) else(some (wrap64 (a1 - (l0.length:Int))))
set_option maxHeartbeats 8000000 in
set_option maxRecDepth 100000 in
theorem Zbs.calls (A0:Option Addr) (c0:Nat) (l0:List (S93)) (a1:Int) (r:Int) (w:World) (hr0:Kd.C k93 w A0 l0.length l0) (hc0:l0.length≤c0) (h:Zbs.f l0 a1=some r) :
  Calls Tryd.prog 42 #[.slice A0 l0.length c0,.int .i64 a1] w fun e w'=>e=.returned (.int .i64 r)∧ZE w w':=by
 have HR0:=Za hr0;have HC0:=Za hc0;clear hr0 hc0
 have H:(if (wrap64 (a1 - (l0.length:Int)))<0 then(some (-1)) else(some (wrap64 (a1 - (l0.length:Int)))))=some r:=h
 clear h
 by_cases c3:(wrap64 (a1 - (l0.length:Int)))<0
 ·rw[if_pos c3] at H
  have c3b0:decide ((wrap64 (a1 - (l0.length:Int)))<0)=true:=Ze c3
  clear c3
  obtain rfl:=Zg H
  go_enter Tryd.func42,Tryd.ntmps42
  go_wp2
  go_ret
  exact⟨by first|rfl|(simp;done)|(simp[*];done),by repeat(first|exact ZE.refl _|apply ZE.step)⟩
 ·rw[if_neg c3] at H
  have c3b0:decide ((wrap64 (a1 - (l0.length:Int)))<0)=false:=Zf c3
  clear c3
  obtain rfl:=Zg H
  go_enter Tryd.func42,Tryd.ntmps42
  go_wp2
  go_ret
  exact⟨by first|rfl|(simp;done)|(simp[*];done),by repeat(first|exact ZE.refl _|apply ZE.step)⟩
def ZaV.f (k:Nat) (l0_0:List (S89)) (l0_1:List (S93)) (a0_2:Int) (a1:Int):Option (Int):=(Zau.f k l0_0 a1).bind fun t13002=>(if t13002<0 then(some (-1)) else((Zbs.f l0_1 t13002).bind fun t13003=>(if t13003<0 then(some (-1)) else(some t13003))))
set_option maxHeartbeats 8000000 in
set_option maxRecDepth 100000 in
theorem ZaV.calls (k:Nat) (A0_0:Option Addr) (c0_0:Nat) (l0_0:List (S89)) (A0_1:Option Addr) (c0_1:Nat) (l0_1:List (S93)) (a0_2:Int) (a1:Int) (r:Int) (w:World) (hr0_0:Kd.C k89 w A0_0 l0_0.length l0_0) (hc0_0:l0_0.length≤c0_0) (hr0_1:Kd.C k93 w A0_1 l0_1.length l0_1) (hc0_1:l0_1.length≤c0_1) (h:ZaV.f k l0_0 l0_1 a0_2 a1=some r) :
  Calls Tryd.prog 13 #[.agg #[.slice A0_0 l0_0.length c0_0,.slice A0_1 l0_1.length c0_1,.int .i64 a0_2],.int .i64 a1] w fun e w'=>e=.returned (.int .i64 r)∧Below w.heap.size w w':=by
 have hu30:=Tryd.underlying30
 have HR0_0:=Za hr0_0;have HC0_0:=Za hc0_0;clear hr0_0 hc0_0;have HR0_1:=Za hr0_1;have HC0_1:=Za hc0_1;clear hr0_1 hc0_1
 have HB:=Za (Below.refl w.heap.size w)
 have H:((Zau.f k l0_0 a1).bind fun t13002=>(if t13002<0 then(some (-1)) else((Zbs.f l0_1 t13002).bind fun t13003=>(if t13003<0 then(some (-1)) else(some t13003)))))=some r:=h
 clear h
 replace H:=Zh H
 obtain⟨t13002,A30,H⟩:=H
 replace H:(if t13002<0 then(some (-1)) else((Zbs.f l0_1 t13002).bind fun t13003=>(if t13003<0 then(some (-1)) else(some t13003))))=some r:=H
 have A3:=Za A30;clear A30
 by_cases c4:t13002<0
 ·rw[if_pos c4] at H
  have c4b0:decide (t13002<0)=true:=Ze c4
  clear c4
  obtain rfl:=Zg H
  go_enter Tryd.func13,Tryd.ntmps13
  go_wp2_with (first|((with_reducible refine ZN (N:=2) rfl ?_);refine ZP ?hg (N:=2) ?hd (cs:=#[.slice A0_0 l0_0.length c0_0,.slice A0_1 l0_1.length c0_1,.int .i64 a0_2]) (t:=30) ?hr ?_;(case hd=>rfl);(case hg=>rfl);(case hr=>first|(go_simp;done)|(go_simp;rfl));intro gb13001 hg w5 hbox hb;have BK13001:=Za (hbox);have GW13001:=Za ((by rw[hg];exact(Zy (by repeat(first|(with_reducible first|exact HB.out|apply Zn|apply Zm|apply Zo)|exact HB.out))):w.heap.size≤gb13001));have GE13001:=Za ((by rw[hg];exact(Zy (by repeat(first|(with_reducible first|exact HB.out|apply Zn|apply Zm|apply Zo)|exact HB.out))):w.heap.size≤gb13001));replace HB:=Za (Zx (by repeat(first|(with_reducible first|exact HB.out|apply Zn|apply Zm|apply Zo)|exact HB.out)) hb);clear hb hbox hg;have hcz6_0:w5.cell? ⟨gb13001,0,none⟩=some (.slice A0_0 l0_0.length c0_0):=(Zq BK13001.out 0).trans rfl;have hcz6_1:w5.cell? ⟨gb13001,1,none⟩=some (.slice A0_1 l0_1.length c0_1):=(Zq BK13001.out 1).trans rfl;have hcz6_2:w5.cell? ⟨gb13001,2,none⟩=some (.int .i64 a0_2):=(Zq BK13001.out 2).trans rfl;have hfz6_0:=Zt BK13001.out 0;have hfz6_1:=Zt BK13001.out 1;have hfz6_2:=Zt BK13001.out 2)|((with_reducible refine ZG (f:=41) rfl ?_);refine ZX (some 8) rfl rfl Tryd.func41 (by kernel_rfl) rfl #[.slice A0_0 l0_0.length c0_0,.int .i64 a1] rfl (by(try simp only[List.map_toArray,List.map_cons,List.map_nil]);first|done|rfl|(simp only[Zk,Zj];rfl)) ?_;(with_reducible refine(Zau.calls k _ _ l0_0 a1 t13002 _ ?side1 ?side2 A3.out).mono ?_);(case side1=>repeat(first|exact(Zb HR0_0.out HB.out)|(with_reducible refine Kd.C_alloc ?_ _)|(with_reducible refine Kd.C_drewN ?_ _)|(with_reducible refine Kd.C_drew ?_)));(case side2=>exact HC0_0.out);rintro e w7 ⟨rfl,hb⟩;refine⟨_,rfl,?_⟩;replace BK13001:=Za (ZB (g:=gb13001) (o:=.cells #[.slice A0_0 l0_0.length c0_0,.slice A0_1 l0_1.length c0_1,.int .i64 a0_2] 30 (0,0)) (by(with_reducible repeat(first|refine Zu ?_ _|refine Zv ?_|refine Zs ?_ _));exact BK13001.out) hb);replace HB:=Za (Zx (by repeat(first|(with_reducible first|exact HB.out|apply Zn|apply Zm|apply Zo|refine Zr ?_ GE13001.out)|exact HB.out)) hb);(try clear hb);(try clear hb2);(try clear hk);(try clear hi)))
  go_ret
  exact⟨by first|rfl|(simp[ZA,Zz] <;> rfl)|(simp[*,ZA,Zz] <;> rfl),by repeat(first|(with_reducible first|exact HB.out|apply Zn|apply Zm|apply Zo|refine Zr ?_ GE13001.out)|exact HB.out)⟩
 ·rw[if_neg c4] at H
  have c4b0:decide (t13002<0)=false:=Zf c4
  clear c4
  replace H:=Zh H
  obtain⟨t13003,A80,H⟩:=H
  replace H:(if t13003<0 then(some (-1)) else(some t13003))=some r:=H
  have A8:=Za A80;clear A80
  by_cases c9:t13003<0
  ·rw[if_pos c9] at H
   have c9b0:decide (t13003<0)=true:=Ze c9
   clear c9
   obtain rfl:=Zg H
   go_enter Tryd.func13,Tryd.ntmps13
   go_wp2_with (first|((with_reducible refine ZN (N:=2) rfl ?_);refine ZP ?hg (N:=2) ?hd (cs:=#[.slice A0_0 l0_0.length c0_0,.slice A0_1 l0_1.length c0_1,.int .i64 a0_2]) (t:=30) ?hr ?_;(case hd=>rfl);(case hg=>rfl);(case hr=>first|(go_simp;done)|(go_simp;rfl));intro gb13001 hg w10 hbox hb;have BK13001:=Za (hbox);have GW13001:=Za ((by rw[hg];exact(Zy (by repeat(first|(with_reducible first|exact HB.out|apply Zn|apply Zm|apply Zo)|exact HB.out))):w.heap.size≤gb13001));have GE13001:=Za ((by rw[hg];exact(Zy (by repeat(first|(with_reducible first|exact HB.out|apply Zn|apply Zm|apply Zo)|exact HB.out))):w.heap.size≤gb13001));replace HB:=Za (Zx (by repeat(first|(with_reducible first|exact HB.out|apply Zn|apply Zm|apply Zo)|exact HB.out)) hb);clear hb hbox hg;have hcz11_0:w10.cell? ⟨gb13001,0,none⟩=some (.slice A0_0 l0_0.length c0_0):=(Zq BK13001.out 0).trans rfl;have hcz11_1:w10.cell? ⟨gb13001,1,none⟩=some (.slice A0_1 l0_1.length c0_1):=(Zq BK13001.out 1).trans rfl;have hcz11_2:w10.cell? ⟨gb13001,2,none⟩=some (.int .i64 a0_2):=(Zq BK13001.out 2).trans rfl;have hfz11_0:=Zt BK13001.out 0;have hfz11_1:=Zt BK13001.out 1;have hfz11_2:=Zt BK13001.out 2)|((with_reducible refine ZG (f:=41) rfl ?_);refine ZX (some 8) rfl rfl Tryd.func41 (by kernel_rfl) rfl #[.slice A0_0 l0_0.length c0_0,.int .i64 a1] rfl (by(try simp only[List.map_toArray,List.map_cons,List.map_nil]);first|done|rfl|(simp only[Zk,Zj];rfl)) ?_;(with_reducible refine(Zau.calls k _ _ l0_0 a1 t13002 _ ?side1 ?side2 A3.out).mono ?_);(case side1=>repeat(first|exact(Zb HR0_0.out HB.out)|(with_reducible refine Kd.C_alloc ?_ _)|(with_reducible refine Kd.C_drewN ?_ _)|(with_reducible refine Kd.C_drew ?_)));(case side2=>exact HC0_0.out);rintro e w12 ⟨rfl,hb⟩;refine⟨_,rfl,?_⟩;replace BK13001:=Za (ZB (g:=gb13001) (o:=.cells #[.slice A0_0 l0_0.length c0_0,.slice A0_1 l0_1.length c0_1,.int .i64 a0_2] 30 (0,0)) (by(with_reducible repeat(first|refine Zu ?_ _|refine Zv ?_|refine Zs ?_ _));exact BK13001.out) hb);replace HB:=Za (Zx (by repeat(first|(with_reducible first|exact HB.out|apply Zn|apply Zm|apply Zo|refine Zr ?_ GE13001.out)|exact HB.out)) hb);(try clear hb);(try clear hb2);(try clear hk);(try clear hi);have hcz13_0:w12.cell? ⟨gb13001,0,none⟩=some (.slice A0_0 l0_0.length c0_0):=(Zq BK13001.out 0).trans rfl;have hcz13_1:w12.cell? ⟨gb13001,1,none⟩=some (.slice A0_1 l0_1.length c0_1):=(Zq BK13001.out 1).trans rfl;have hcz13_2:w12.cell? ⟨gb13001,2,none⟩=some (.int .i64 a0_2):=(Zq BK13001.out 2).trans rfl;have hfz13_0:=Zt BK13001.out 0;have hfz13_1:=Zt BK13001.out 1;have hfz13_2:=Zt BK13001.out 2)|((with_reducible refine ZG (f:=42) rfl ?_);refine ZX (some 14) rfl rfl Tryd.func42 (by kernel_rfl) rfl #[.slice A0_1 l0_1.length c0_1,.int .i64 t13002] rfl (by(try simp only[List.map_toArray,List.map_cons,List.map_nil]);first|done|rfl|(simp only[Zk,Zj];rfl)) ?_;(with_reducible refine(Zbs.calls _ _ l0_1 t13002 t13003 _ ?side1 ?side2 A8.out).mono ?_);(case side1=>repeat(first|exact(Zb HR0_1.out HB.out)|(with_reducible refine Kd.C_alloc ?_ _)|(with_reducible refine Kd.C_drewN ?_ _)|(with_reducible refine Kd.C_drew ?_)));(case side2=>exact HC0_1.out);rintro e w' ⟨rfl,⟨nd,rfl⟩⟩;refine⟨_,rfl,?_⟩))
   go_ret
   exact⟨by first|rfl|(simp[ZA,Zz] <;> rfl)|(simp[*,ZA,Zz] <;> rfl),by repeat(first|(with_reducible first|exact HB.out|apply Zn|apply Zm|apply Zo|refine Zr ?_ GE13001.out)|exact HB.out)⟩
  ·rw[if_neg c9] at H
   have c9b0:decide (t13003<0)=false:=Zf c9
   clear c9
   obtain rfl:=Zg H
   go_enter Tryd.func13,Tryd.ntmps13
   go_wp2_with (first|((with_reducible refine ZN (N:=2) rfl ?_);refine ZP ?hg (N:=2) ?hd (cs:=#[.slice A0_0 l0_0.length c0_0,.slice A0_1 l0_1.length c0_1,.int .i64 a0_2]) (t:=30) ?hr ?_;(case hd=>rfl);(case hg=>rfl);(case hr=>first|(go_simp;done)|(go_simp;rfl));intro gb13001 hg w14 hbox hb;have BK13001:=Za (hbox);have GW13001:=Za ((by rw[hg];exact(Zy (by repeat(first|(with_reducible first|exact HB.out|apply Zn|apply Zm|apply Zo)|exact HB.out))):w.heap.size≤gb13001));have GE13001:=Za ((by rw[hg];exact(Zy (by repeat(first|(with_reducible first|exact HB.out|apply Zn|apply Zm|apply Zo)|exact HB.out))):w.heap.size≤gb13001));replace HB:=Za (Zx (by repeat(first|(with_reducible first|exact HB.out|apply Zn|apply Zm|apply Zo)|exact HB.out)) hb);clear hb hbox hg;have hcz15_0:w14.cell? ⟨gb13001,0,none⟩=some (.slice A0_0 l0_0.length c0_0):=(Zq BK13001.out 0).trans rfl;have hcz15_1:w14.cell? ⟨gb13001,1,none⟩=some (.slice A0_1 l0_1.length c0_1):=(Zq BK13001.out 1).trans rfl;have hcz15_2:w14.cell? ⟨gb13001,2,none⟩=some (.int .i64 a0_2):=(Zq BK13001.out 2).trans rfl;have hfz15_0:=Zt BK13001.out 0;have hfz15_1:=Zt BK13001.out 1;have hfz15_2:=Zt BK13001.out 2)|((with_reducible refine ZG (f:=41) rfl ?_);refine ZX (some 8) rfl rfl Tryd.func41 (by kernel_rfl) rfl #[.slice A0_0 l0_0.length c0_0,.int .i64 a1] rfl (by(try simp only[List.map_toArray,List.map_cons,List.map_nil]);first|done|rfl|(simp only[Zk,Zj];rfl)) ?_;(with_reducible refine(Zau.calls k _ _ l0_0 a1 t13002 _ ?side1 ?side2 A3.out).mono ?_);(case side1=>repeat(first|exact(Zb HR0_0.out HB.out)|(with_reducible refine Kd.C_alloc ?_ _)|(with_reducible refine Kd.C_drewN ?_ _)|(with_reducible refine Kd.C_drew ?_)));(case side2=>exact HC0_0.out);rintro e w16 ⟨rfl,hb⟩;refine⟨_,rfl,?_⟩;replace BK13001:=Za (ZB (g:=gb13001) (o:=.cells #[.slice A0_0 l0_0.length c0_0,.slice A0_1 l0_1.length c0_1,.int .i64 a0_2] 30 (0,0)) (by(with_reducible repeat(first|refine Zu ?_ _|refine Zv ?_|refine Zs ?_ _));exact BK13001.out) hb);replace HB:=Za (Zx (by repeat(first|(with_reducible first|exact HB.out|apply Zn|apply Zm|apply Zo|refine Zr ?_ GE13001.out)|exact HB.out)) hb);(try clear hb);(try clear hb2);(try clear hk);(try clear hi);have hcz17_0:w16.cell? ⟨gb13001,0,none⟩=some (.slice A0_0 l0_0.length c0_0):=(Zq BK13001.out 0).trans rfl;have hcz17_1:w16.cell? ⟨gb13001,1,none⟩=some (.slice A0_1 l0_1.length c0_1):=(Zq BK13001.out 1).trans rfl;have hcz17_2:w16.cell? ⟨gb13001,2,none⟩=some (.int .i64 a0_2):=(Zq BK13001.out 2).trans rfl;have hfz17_0:=Zt BK13001.out 0;have hfz17_1:=Zt BK13001.out 1;have hfz17_2:=Zt BK13001.out 2)|((with_reducible refine ZG (f:=42) rfl ?_);refine ZX (some 14) rfl rfl Tryd.func42 (by kernel_rfl) rfl #[.slice A0_1 l0_1.length c0_1,.int .i64 t13002] rfl (by(try simp only[List.map_toArray,List.map_cons,List.map_nil]);first|done|rfl|(simp only[Zk,Zj];rfl)) ?_;(with_reducible refine(Zbs.calls _ _ l0_1 t13002 t13003 _ ?side1 ?side2 A8.out).mono ?_);(case side1=>repeat(first|exact(Zb HR0_1.out HB.out)|(with_reducible refine Kd.C_alloc ?_ _)|(with_reducible refine Kd.C_drewN ?_ _)|(with_reducible refine Kd.C_drew ?_)));(case side2=>exact HC0_1.out);rintro e w' ⟨rfl,⟨nd,rfl⟩⟩;refine⟨_,rfl,?_⟩))
   go_ret
   exact⟨by first|rfl|(simp[ZA,Zz] <;> rfl)|(simp[*,ZA,Zz] <;> rfl),by repeat(first|(with_reducible first|exact HB.out|apply Zn|apply Zm|apply Zo|refine Zr ?_ GE13001.out)|exact HB.out)⟩
def Z5.f (a0:Int) (a1:Int) (a2:Int):Option (Bool):=if a0≥a1 then(some (decide (a0≤a2))) else(some false)
set_option maxHeartbeats 8000000 in
set_option maxRecDepth 100000 in
theorem Z5.calls (a0:Int) (a1:Int) (a2:Int) (r:Bool) (w:World) (h:Z5.f a0 a1 a2=some r) :
  Calls Tryd.prog 44 #[.int .i64 a0,.int .i64 a1,.int .i64 a2] w fun e w'=>e=.returned (.bool r)∧ZE w w':=by
 have H:(if a0≥a1 then(some (decide (a0≤a2))) else(some false))=some r:=h
 clear h
 by_cases c4:a0≥a1
 ·rw[if_pos c4] at H
  have c4b0:decide (a1≤a0)=true:=Ze c4
  clear c4
  obtain rfl:=Zg H
  go_enter Tryd.func44,Tryd.ntmps44
  go_wp2
  go_ret
  exact⟨by first|rfl|(simp;done)|(simp[*];done),by repeat(first|exact ZE.refl _|apply ZE.step)⟩
 ·rw[if_neg c4] at H
  have c4b0:decide (a1≤a0)=false:=Zf c4
  clear c4
  obtain rfl:=Zg H
  go_enter Tryd.func44,Tryd.ntmps44
  go_wp2
  go_ret
  exact⟨by first|rfl|(simp;done)|(simp[*];done),by repeat(first|exact ZE.refl _|apply ZE.step)⟩
end Go.Proofs.YthphnhmabieflaaDoor.Pr
namespace Go.Proofs.YthphnhmabieflaaDoor.Pr
open Go.RowKit Go.Proofs.YthphnhmabieflaaDoorW.PrintWords Go.Proofs.YthphnhmabieflaaDoor.Ni
abbrev LNode:=S89
abbrev Z2:=S73
abbrev LTie:=S93
abbrev PTie:=S66
def cvN (x:LNode):Z2:=⟨x.f0,x.f1,x.f2⟩
def cvT (x:LTie):PTie:=⟨x.f0,x.f1,x.f2,x.f3,x.f4⟩
theorem Zbi (l:List Z2) (i:Nat):Zp l (i:Int)=l.getD i z73:=by unfold Zp;rw[Int.toNat_natCast]
theorem Zdy (l:List PTie) (i:Nat):Zw l (i:Int)=l.getD i z66:=by unfold Zw;rw[Int.toNat_natCast]
theorem rdLN_nat (l:List LNode) (i:Nat):ZaI l (i:Int)=l.getD i z89:=by unfold ZaI;rw[Int.toNat_natCast]
theorem rdLT_nat (l:List LTie) (i:Nat):Za6 l (i:Int)=l.getD i z93:=by unfold Za6;rw[Int.toNat_natCast]
theorem zN:cvN z89=z73:=rfl
theorem zT:cvT z93=z66:=rfl
theorem getD_map {α β:Type} (f:α→β) (l:List α) (i:Nat) (a:α) (b:β) (h:f a=b):(l.map f).getD i b=f (l.getD i a):=by
 subst h
 rw[List.getD_eq_getElem?_getD,List.getD_eq_getElem?_getD,List.getElem?_map]
 cases l[i]? <;> rfl
def ZcU (ns:List LNode) (ts:List LTie):Prop:=ns.length≤1048576∧ts.length≤1048576∧∀n∈ns,n.f0.size≤1048576∧n.f1.length≤1048576
def SmallP (ns:List Z2) (ts:List PTie):Prop:=ns.length≤1048576∧ts.length≤1048576∧∀n∈ns,n.f0.size≤1048576∧n.f1.length≤1048576
theorem ZcU.cv {ns:List LNode} {ts:List LTie} (h:ZcU ns ts):SmallP (ns.map cvN) (ts.map cvT):=by
 refine⟨by simpa using h.1,by simpa using h.2.1,fun n hn=>?_⟩
 obtain⟨m,hm,rfl⟩:=List.mem_map.1 hn
 exact h.2.2 m hm
end Go.Proofs.YthphnhmabieflaaDoor.Pr
namespace Go.Proofs.YthphnhmabieflaaDoor.Pr
open Go.RowKit Go.Proofs.YthphnhmabieflaaDoorW.PrintWords Go.Proofs.YthphnhmabieflaaDoorW.PrintLast Go.Proofs.YthphnhmabieflaaDoorW.PrintMore
attribute [local go_sem] Zah Zaf Zas Zar Z8 Z7 Zag Zae
set_option linter.unusedVariables false
set_option linter.unusedSimpArgs false
def ZaB.l0:Nat→ByteArray→List (S73)→Int→Int→Option (Int)
 | 0,_,_,_,_=>none
 | k+1,x1,x8,x9,x10=>if x10<x9 then(if 0≤x10 then(if x10<(x8.length:Int) then(if ((Zp x8 x10).f0).toList=x1.toList then(some x10) else(ZaB.l0 k x1 x8 x9 (wrap64 (x10+1)))) else(none)) else(none)) else(some (-1))
def ZaB.f (k:Nat) (l0_0:List (S73)) (l0_1:List (S66)) (a0_2:Int) (a1:ByteArray):Option (Int):=ZaB.l0 k a1 l0_0 (l0_0.length:Int) 0
set_option maxHeartbeats 8000000 in
set_option maxRecDepth 100000 in
theorem ZaB.calls (k:Nat) (A0_0:Option Addr) (c0_0:Nat) (l0_0:List (S73)) (A0_1:Option Addr) (c0_1:Nat) (l0_1:List (S66)) (a0_2:Int) (a1:ByteArray) (r:Int) (w:World) (hr0_0:Kd.C k73 w A0_0 l0_0.length l0_0) (hc0_0:l0_0.length≤c0_0) (hr0_1:Kd.C k66 w A0_1 l0_1.length l0_1) (hc0_1:l0_1.length≤c0_1) (h:ZaB.f k l0_0 l0_1 a0_2 a1=some r) :
  Calls Tryd.prog 104 #[.agg #[.slice A0_0 l0_0.length c0_0,.slice A0_1 l0_1.length c0_1,.int .i64 a0_2],.string a1] w fun e w'=>e=.returned (.int .i64 r)∧Below w.heap.size w w':=by
 have hu36:=Tryd.underlying36
 have hu73:=Tryd.underlying73
 have HR0_0:=Za hr0_0;have HC0_0:=Za hc0_0;clear hr0_0 hc0_0;have HR0_1:=Za hr0_1;have HC0_1:=Za hc0_1;clear hr0_1 hc0_1
 have HB:=Za (Below.refl w.heap.size w)
 have H:(ZaB.l0 k a1 l0_0 (l0_0.length:Int) 0)=some r:=h
 clear h
 have H':=Za H
 clear H
 go_enter Tryd.func104,Tryd.ntmps104
 go_wp2_with (first|((with_reducible refine ZN (N:=2) rfl ?_);refine ZP ?hg (N:=2) ?hd (cs:=#[.slice A0_0 l0_0.length c0_0,.slice A0_1 l0_1.length c0_1,.int .i64 a0_2]) (t:=36) ?hr ?_;(case hd=>rfl);(case hg=>rfl);(case hr=>first|(go_simp;done)|(go_simp;rfl));intro gb104001 hg w3 hbox hb;have BK104001:=Za (hbox);have GW104001:=Za ((by rw[hg];exact(Zy (by repeat(first|(with_reducible first|exact HB.out|apply Zn|apply Zm|apply Zo)|exact HB.out))):w.heap.size≤gb104001));have GE104001:=Za ((by rw[hg];exact(Zy (by repeat(first|(with_reducible first|exact HB.out|apply Zn|apply Zm|apply Zo)|exact HB.out))):w.heap.size≤gb104001));replace HB:=Za (Zx (by repeat(first|(with_reducible first|exact HB.out|apply Zn|apply Zm|apply Zo)|exact HB.out)) hb);clear hb hbox hg;have hcz4_0:w3.cell? ⟨gb104001,0,none⟩=some (.slice A0_0 l0_0.length c0_0):=(Zq BK104001.out 0).trans rfl;have hcz4_1:w3.cell? ⟨gb104001,1,none⟩=some (.slice A0_1 l0_1.length c0_1):=(Zq BK104001.out 1).trans rfl;have hcz4_2:w3.cell? ⟨gb104001,2,none⟩=some (.int .i64 a0_2):=(Zq BK104001.out 2).trans rfl;have hfz4_0:=Zt BK104001.out 0;have hfz4_1:=Zt BK104001.out 1;have hfz4_2:=Zt BK104001.out 2))
 go_loopg [10] k (fun kq v10 w'=>∃(x10_1:Int),v10=.int .i64 x10_1∧Aside0 (ZaB.l0 kq a1 l0_0 (l0_0.length:Int) x10_1=some r)∧Aside0 (kq≤k)∧Aside0 (w'.heap[gb104001]? = some (.cells #[(.slice A0_0 l0_0.length c0_0),(.slice A0_1 l0_1.length c0_1),.int .i64 a0_2] 36 (0,0)))∧Aside0 (Below w.heap.size w w'))
 case atStart=>exact⟨(0),(by first|rfl|(simp;done)|(simp[*];done)),H',⟨Nat.le_refl _⟩,⟨by(with_reducible repeat(first|refine Zu ?_ _|refine Zv ?_|refine Zs ?_ _));exact BK104001.out⟩,⟨by repeat(first|(with_reducible first|exact HB.out|apply Zn|apply Zm|apply Zo|refine Zr ?_ GE104001.out)|exact HB.out)⟩⟩
 case round=>
  clear H'
  try clear c1
  try clear p2
  try clear hcz4_0
  try clear hcz4_1
  try clear hcz4_2
  try clear hfz4_0
  try clear hfz4_1
  try clear hfz4_2
  obtain⟨x10_1,rfl,HA,HK1,BK104001,HB⟩:=hrel
  cases gk with
  | zero=>exact absurd HA.out (by simp[ZaB.l0])
  | succ k1=>
   have H:=HA.out
   clear HA
   simp only[ZaB.l0] at H
   by_cases c5:x10_1<(l0_0.length:Int)
   ·rw[if_pos c5] at H
    have c5b0:decide (x10_1<(l0_0.length:Int))=true:=Ze c5
    clear c5
    by_cases c6:0≤x10_1
    ·rw[if_pos c6] at H
     have c6b0:decide (0≤x10_1)=true:=Ze c6
     clear c6
     by_cases c7:x10_1<(l0_0.length:Int)
     ·rw[if_pos c7] at H
      have c7b0:decide (x10_1<(l0_0.length:Int))=true:=Ze c7
      clear c7
      by_cases c8:((Zp l0_0 x10_1).f0).toList=a1.toList
      ·rw[if_pos c8] at H
       have c8b0:(((Zp l0_0 x10_1).f0).toList == a1.toList)=true:=beq_iff_eq.mpr c8
       have c8b1:(((Zp l0_0 x10_1).f0).toList != a1.toList)=false:=bne_eq_false_iff_eq.mpr c8
       clear c8
       obtain rfl:=Zg H
       have p104002:0≤(x10_1:Int):=Zd (by first|(with_reducible assumption)|assumption)
       have q104002:x10_1<(l0_0.length:Int):=Zd (by first|(with_reducible assumption)|assumption)
       obtain⟨ad104002,A104002_1,c104002_1,e104002,hx104002_0,hx104002_1,hx104002_2,hl104002_1,hi104002_1⟩:=Zan HR0_0.out x10_1 p104002 q104002
       cases e104002
       replace hx104002_0:=(HB.out.cell (Zc w _ hx104002_0)).trans hx104002_0
       replace hx104002_1:=(HB.out.cell (Zc w _ hx104002_1)).trans hx104002_1
       replace hx104002_2:=(HB.out.cell (Zc w _ hx104002_2)).trans hx104002_2
       have HR104002_1:=Za hi104002_1;have HC104002_1:=Za hl104002_1;clear hi104002_1 hl104002_1
       replace p104002:=eq_true p104002
       replace q104002:=eq_true q104002
       go_wp2_with (first|((with_reducible refine ZN (N:=6) rfl ?_);refine ZP ?hg (N:=6) ?hd (cs:=#[.string (⟨#[]⟩:ByteArray),.slice none 0 0,.int .i64 0]) (t:=73) ?hr ?_;(case hd=>rfl);(case hg=>rfl);(case hr=>first|(go_simp;done)|(go_simp;rfl));intro gb104003 hg w9 hbox hb;have BK104003:=Za (hbox);have GW104003:=Za ((by rw[hg];exact(Zy (by repeat(first|(with_reducible first|exact HB.out|apply Zn|apply Zm|apply Zo|refine Zr ?_ GE104001.out)|exact HB.out))):w.heap.size≤gb104003));have GE104003:=Za ((by rw[hg];exact(Zy (by repeat(first|(with_reducible first|exact HB.out|apply Zn|apply Zm|apply Zo|refine Zr ?_ GE104001.out)|exact HB.out))):w.heap.size≤gb104003));have NB104001_104003:=Za ((by rw[hg];exact Nat.ne_of_lt (ZY (g:=gb104001) (o:=.cells #[.slice (some ad104002) l0_0.length c0_0,.slice A0_1 l0_1.length c0_1,.int .i64 a0_2] 36 (0,0)) (by(with_reducible repeat(first|refine Zu ?_ _|refine Zv ?_|refine Zs ?_ _));exact BK104001.out)):gb104001≠gb104003));have NB104003_104001:=Za ((by rw[hg];exact Nat.ne_of_gt (ZY (g:=gb104001) (o:=.cells #[.slice (some ad104002) l0_0.length c0_0,.slice A0_1 l0_1.length c0_1,.int .i64 a0_2] 36 (0,0)) (by(with_reducible repeat(first|refine Zu ?_ _|refine Zv ?_|refine Zs ?_ _));exact BK104001.out)):gb104003≠gb104001));replace BK104001:=Za (ZB (g:=gb104001) (o:=.cells #[.slice (some ad104002) l0_0.length c0_0,.slice A0_1 l0_1.length c0_1,.int .i64 a0_2] 36 (0,0)) (by(with_reducible repeat(first|refine Zu ?_ _|refine Zv ?_|refine Zs ?_ _));exact BK104001.out) hb);replace HB:=Za (Zx (by repeat(first|(with_reducible first|exact HB.out|apply Zn|apply Zm|apply Zo|refine Zr ?_ GE104001.out)|exact HB.out)) hb);clear hb hbox hg;have hnb10:=NB104003_104001.out;have hnc10:=NB104001_104003.out;have hcz11_0:w9.cell? ⟨gb104003,0,none⟩=some (.string (⟨#[]⟩:ByteArray)):=(Zq BK104003.out 0).trans rfl;have hcz11_1:w9.cell? ⟨gb104003,1,none⟩=some (.slice none 0 0):=(Zq BK104003.out 1).trans rfl;have hcz11_2:w9.cell? ⟨gb104003,2,none⟩=some (.int .i64 0):=(Zq BK104003.out 2).trans rfl;have hfz11_0:=Zt BK104003.out 0;have hfz11_1:=Zt BK104003.out 1;have hfz11_2:=Zt BK104003.out 2))
       go_ret
       exact⟨by first|rfl|(simp[ZA,Zz] <;> rfl)|(simp[*,ZA,Zz] <;> rfl),by repeat(first|(with_reducible first|exact HB.out|apply Zn|apply Zm|apply Zo|refine Zr ?_ GE104001.out|refine Zr ?_ GE104003.out)|exact HB.out)⟩
      ·rw[if_neg c8] at H
       have c8b0:(((Zp l0_0 x10_1).f0).toList == a1.toList)=false:=beq_eq_false_iff_ne.mpr c8
       have c8b1:(((Zp l0_0 x10_1).f0).toList != a1.toList)=true:=bne_iff_ne.mpr c8
       have H':=Za H
       clear H
       have p104002:0≤(x10_1:Int):=Zd (by first|(with_reducible assumption)|assumption)
       have q104002:x10_1<(l0_0.length:Int):=Zd (by first|(with_reducible assumption)|assumption)
       obtain⟨ad104002,A104002_1,c104002_1,e104002,hx104002_0,hx104002_1,hx104002_2,hl104002_1,hi104002_1⟩:=Zan HR0_0.out x10_1 p104002 q104002
       cases e104002
       replace hx104002_0:=(HB.out.cell (Zc w _ hx104002_0)).trans hx104002_0
       replace hx104002_1:=(HB.out.cell (Zc w _ hx104002_1)).trans hx104002_1
       replace hx104002_2:=(HB.out.cell (Zc w _ hx104002_2)).trans hx104002_2
       have HR104002_1:=Za hi104002_1;have HC104002_1:=Za hl104002_1;clear hi104002_1 hl104002_1
       replace p104002:=eq_true p104002
       replace q104002:=eq_true q104002
       go_wp2_with (first|((with_reducible refine ZN (N:=6) rfl ?_);refine ZP ?hg (N:=6) ?hd (cs:=#[.string (⟨#[]⟩:ByteArray),.slice none 0 0,.int .i64 0]) (t:=73) ?hr ?_;(case hd=>rfl);(case hg=>rfl);(case hr=>first|(go_simp;done)|(go_simp;rfl));intro gb104003 hg w12 hbox hb;have BK104003:=Za (hbox);have GW104003:=Za ((by rw[hg];exact(Zy (by repeat(first|(with_reducible first|exact HB.out|apply Zn|apply Zm|apply Zo|refine Zr ?_ GE104001.out)|exact HB.out))):w.heap.size≤gb104003));have GE104003:=Za ((by rw[hg];exact(Zy (by repeat(first|(with_reducible first|exact HB.out|apply Zn|apply Zm|apply Zo|refine Zr ?_ GE104001.out)|exact HB.out))):w.heap.size≤gb104003));have NB104001_104003:=Za ((by rw[hg];exact Nat.ne_of_lt (ZY (g:=gb104001) (o:=.cells #[.slice (some ad104002) l0_0.length c0_0,.slice A0_1 l0_1.length c0_1,.int .i64 a0_2] 36 (0,0)) (by(with_reducible repeat(first|refine Zu ?_ _|refine Zv ?_|refine Zs ?_ _));exact BK104001.out)):gb104001≠gb104003));have NB104003_104001:=Za ((by rw[hg];exact Nat.ne_of_gt (ZY (g:=gb104001) (o:=.cells #[.slice (some ad104002) l0_0.length c0_0,.slice A0_1 l0_1.length c0_1,.int .i64 a0_2] 36 (0,0)) (by(with_reducible repeat(first|refine Zu ?_ _|refine Zv ?_|refine Zs ?_ _));exact BK104001.out)):gb104003≠gb104001));replace BK104001:=Za (ZB (g:=gb104001) (o:=.cells #[.slice (some ad104002) l0_0.length c0_0,.slice A0_1 l0_1.length c0_1,.int .i64 a0_2] 36 (0,0)) (by(with_reducible repeat(first|refine Zu ?_ _|refine Zv ?_|refine Zs ?_ _));exact BK104001.out) hb);replace HB:=Za (Zx (by repeat(first|(with_reducible first|exact HB.out|apply Zn|apply Zm|apply Zo|refine Zr ?_ GE104001.out)|exact HB.out)) hb);clear hb hbox hg;have hnb13:=NB104003_104001.out;have hnc13:=NB104001_104003.out;have hcz14_0:w12.cell? ⟨gb104003,0,none⟩=some (.string (⟨#[]⟩:ByteArray)):=(Zq BK104003.out 0).trans rfl;have hcz14_1:w12.cell? ⟨gb104003,1,none⟩=some (.slice none 0 0):=(Zq BK104003.out 1).trans rfl;have hcz14_2:w12.cell? ⟨gb104003,2,none⟩=some (.int .i64 0):=(Zq BK104003.out 2).trans rfl;have hfz14_0:=Zt BK104003.out 0;have hfz14_1:=Zt BK104003.out 1;have hfz14_2:=Zt BK104003.out 2))
       go_roundg k1
       case measure=>have:=HK1.out;omega
       case rel=>exact⟨(wrap64 (x10_1+1)),(by first|rfl|(simp;done)|(simp[*];done)),H',⟨by have:=HK1.out;omega⟩,⟨by(with_reducible repeat(first|refine Zu ?_ _|refine Zv ?_|refine Zs ?_ _));refine ZV ?_ NB104001_104003.out _;(with_reducible repeat(first|refine Zu ?_ _|refine Zv ?_|refine Zs ?_ _));refine ZV ?_ NB104001_104003.out _;(with_reducible repeat(first|refine Zu ?_ _|refine Zv ?_|refine Zs ?_ _));refine ZV ?_ NB104001_104003.out _;(with_reducible repeat(first|refine Zu ?_ _|refine Zv ?_|refine Zs ?_ _));exact BK104001.out⟩,⟨by repeat(first|(with_reducible first|exact HB.out|apply Zn|apply Zm|apply Zo|refine Zr ?_ GE104001.out|refine Zr ?_ GE104003.out)|exact HB.out)⟩⟩
     ·rw[if_neg c7] at H
      exact absurd H (by simp)
    ·rw[if_neg c6] at H
     exact absurd H (by simp)
   ·rw[if_neg c5] at H
    have c5b0:decide (x10_1<(l0_0.length:Int))=false:=Zf c5
    clear c5
    obtain rfl:=Zg H
    go_wp2
    go_ret
    exact⟨by first|rfl|(simp[ZA,Zz] <;> rfl)|(simp[*,ZA,Zz] <;> rfl),by repeat(first|(with_reducible first|exact HB.out|apply Zn|apply Zm|apply Zo|refine Zr ?_ GE104001.out)|exact HB.out)⟩
end Go.Proofs.YthphnhmabieflaaDoor.Pr
namespace Go.Proofs.YthphnhmabieflaaDoor.Pr
open Go.RowKit Go.Proofs.YthphnhmabieflaaDoorW.PrintWords Go.Proofs.YthphnhmabieflaaDoor.Ni
def ZcE (ns:List Z2) (s:ByteArray):Int:=Zbn (fun n=>decide (n.f0.toList=s.toList)) ns
theorem ZdT (ns:List Z2) (ts:List PTie) (z:Int) (s:ByteArray) (hl:ns.length≤9223372036854775807) (k:Nat) (hk:2 ^ 64≤k):ZaB.f k ns ts z s=some (ZcE ns s):=by
 have key:=ZaM ns.length (fun k i=>(∀j y,j<i→ns[j]? = some y→decide (y.f0.toList=s.toList)=false)→ZaB.l0 k s ns ns.length (i:Int)=some (ZcE ns s)) 0
  (fun k _ hb=>by
   simp only[ZaB.l0]
   rw[if_neg (by omega),ZcE,ZbD _ _ hb])
  (fun k i _ hi ih hb=>by
   simp only[ZaB.l0]
   rw[if_pos (by omega),if_pos (by omega),if_pos (by omega),Zbi,Zax hi (by omega)]
   by_cases h:(ns.getD i z73).f0.toList=s.toList
   ·rw[if_pos h,ZcE,ZbO _ ns i _ (getD_some hi z73) (Ze h) hb]
   ·rw[if_neg h,ih]
    intro j y hj hy
    by_cases e:j=i
    ·subst e
     rw[getD_some hi z73] at hy
     cases hy
     exact Zf h
    ·exact hb j y (by omega) hy) 0 k (Nat.zero_le _) (by omega)
 unfold ZaB.f
 exact key (fun j y hj=>absurd hj (by omega))
end Go.Proofs.YthphnhmabieflaaDoor.Pr
