/- The texts of one claim, put together by a program of this session. -/
import Derived.Test.YthphnhmabieflaaDoorProg
import Derived.Below
import Derived.Deep.Draws
import Derived.Deep.AppendLies
import Derived.Maps.AppendAt
import Derived.OwnWalk
import Derived.Laws.BytesArg
import Derived.Laws.MakeOwn
import Derived.Laws.OwnMore
import Derived.Deep.OwnRows
import Derived.Tactics
import Derived.Lib.ConvBytes
import Derived.Laws.Slices
import Derived.WalkKit
import Derived.KernelRfl
import Derived.RowKit3
import Derived.Deep.LoopGhost
import Derived.Deep.QuietTactic
import Derived.BigQuiet
import Derived.WideLaws
import Derived.Deep.DeepCutAuto
import Derived.Deep.CutBlock
import Derived.Deep.RegionHeld3
import Derived.Laws.Rows
import Derived.Lib.AppendStr
import Derived.ArgAppend
import Derived.Laws.IdiomCopy
import Derived.OrdersHeld
import Derived.Laws.BitsLemmas
import Derived.RowKit
import Derived.ChangeArms
import Derived.ChangeSlices
import Derived.WideShapes
import Derived.Deep.Slices
import Derived.Test.YthphnhmabieflaaDoorBPl0
namespace Go.Proofs.YthphnhmabieflaaDoor.Pr
open Go.RowKit Go.Proofs.YthphnhmabieflaaDoorW.PrintWords Go.Proofs.YthphnhmabieflaaDoorW.PrintLast Go.Proofs.YthphnhmabieflaaDoorW.PrintMore
attribute [local go_sem] Zal Zaj Zas Zar Zaf Zae Zak Zai
set_option linter.unusedVariables false
set_option linter.unusedSimpArgs false
def errW:Option Int→Value
 | none=>.nilIface
 | some c=>.iface 137 (.int .i64 c)
theorem Zr:errW none=.nilIface:=rfl
theorem Zq (c:Int):errW (some c)=.iface 137 (.int .i64 c):=rfl
theorem info3:(Tryd.prog.info? 3).map (fun i=>(i.zero,i.size,i.bytes))=some (some (.int .i64 0),1,8):=by kernel_rfl
theorem ZaM:(Tryd.prog.info? 9).map (fun i=>(i.zero,i.size,i.bytes))=some (some (.string ⟨#[]⟩),1,16):=by kernel_rfl
theorem info66:(Tryd.prog.info? 66).map (fun i=>(i.zero,i.size,i.bytes))=some (some (.agg #[(.int .i64 0),(.int .i64 0),(.int .i64 0),(.int .i64 0),(.bool false)]),5,40):=by kernel_rfl
theorem info73:(Tryd.prog.info? 73).map (fun i=>(i.zero,i.size,i.bytes))=some (some (.agg #[(.string ⟨#[]⟩),(.slice none 0 0),(.int .i64 0)]),3,48):=by kernel_rfl
def rd_L3 (xs:List (List Int)) (i:Int):(List Int):=xs.getD i.toNat ([]:List Int)
structure S89 where
 f0:ByteArray
 f1:(List Int)
 f2:Int
def z89:S89:=⟨(⟨#[]⟩:ByteArray),([]:List Int),(0:Int)⟩
def k89:Kd S89:=Kd.iso (Kd.pair Kd.string (Kd.pair (Kd.slice 3 (Kd.int .i64)) (Kd.int .i64))) (fun x:S89=>(x.f0,x.f1,x.f2))
theorem k89_open {w:World} {x:S89} {cs:List Value} (h:k89.K w x cs):∃A1 c1,cs=[.string x.f0,.slice A1 x.f1.length c1,.int .i64 x.f2]∧x.f1.length≤c1∧(Kd.int .i64).C w A1 x.f1.length x.f1:=by
 obtain⟨_,_,rfl,rfl,⟨_,_,rfl,⟨A1,c1,rfl,l1,g1⟩,rfl⟩⟩:=h
 exact⟨A1,c1,rfl,l1,g1⟩
def ZaX (xs:List S89) (i:Int):S89:=xs.getD i.toNat z89
theorem at_T89 {w:World} {A:Option Addr} {n:Nat} {xs:List S89} (h:Kd.C k89 w A n xs) (i:Int) (h0:0≤i) (h1:i<n):∃ad A1 c1,A=some ad∧w.cell? (ad.add (i.toNat * 3))=some (.string (ZaX xs i).f0)∧w.cell? ⟨(ad.add (i.toNat * 3)).block,(ad.add (i.toNat * 3)).off+1,none⟩=some (.slice A1 (ZaX xs i).f1.length c1)∧w.cell? ⟨(ad.add (i.toNat * 3)).block,(ad.add (i.toNat * 3)).off+2,none⟩=some (.int .i64 (ZaX xs i).f2)∧(ZaX xs i).f1.length≤c1∧(Kd.int .i64).C w A1 (ZaX xs i).f1.length (ZaX xs i).f1:=by
 obtain⟨ad,c,e,_,hK,hc0⟩:=Kd.C_get h z89 i h0 h1
 have hc:∀j u,c[j]? = some u→w.cell? (ad.add (i.toNat * 3+j))=some u:=hc0
 obtain⟨A1,c1,rfl,l1,g1⟩:=k89_open hK
 exact⟨ad,A1,c1,e,hc 0 _ rfl,by rw[← Zah _ _ 1 (by omega)];exact hc 1 _ rfl,by rw[← Zah _ _ 2 (by omega)];exact hc 2 _ rfl,l1,g1⟩
structure S93 where
 f0:Int
 f1:Int
 f2:Int
 f3:Int
 f4:Bool
def z93:S93:=⟨(0:Int),(0:Int),(0:Int),(0:Int),false⟩
def k93:Kd S93:=Kd.iso (Kd.pair (Kd.int .i64) (Kd.pair (Kd.int .i64) (Kd.pair (Kd.int .i64) (Kd.pair (Kd.int .i64) Kd.bool)))) (fun x:S93=>(x.f0,x.f1,x.f2,x.f3,x.f4))
theorem k93_open {w:World} {x:S93} {cs:List Value} (h:k93.K w x cs):cs=[.int .i64 x.f0,.int .i64 x.f1,.int .i64 x.f2,.int .i64 x.f3,.bool x.f4]:=by
 obtain⟨_,_,rfl,rfl,⟨_,_,rfl,rfl,⟨_,_,rfl,rfl,⟨_,_,rfl,rfl,rfl⟩⟩⟩⟩:=h
 exact rfl
def Za7 (xs:List S93) (i:Int):S93:=xs.getD i.toNat z93
theorem at_T93 {w:World} {A:Option Addr} {n:Nat} {xs:List S93} (h:Kd.C k93 w A n xs) (i:Int) (h0:0≤i) (h1:i<n):∃ad ,A=some ad∧w.cell? (ad.add (i.toNat * 5))=some (.int .i64 (Za7 xs i).f0)∧w.cell? ⟨(ad.add (i.toNat * 5)).block,(ad.add (i.toNat * 5)).off+1,none⟩=some (.int .i64 (Za7 xs i).f1)∧w.cell? ⟨(ad.add (i.toNat * 5)).block,(ad.add (i.toNat * 5)).off+2,none⟩=some (.int .i64 (Za7 xs i).f2)∧w.cell? ⟨(ad.add (i.toNat * 5)).block,(ad.add (i.toNat * 5)).off+3,none⟩=some (.int .i64 (Za7 xs i).f3)∧w.cell? ⟨(ad.add (i.toNat * 5)).block,(ad.add (i.toNat * 5)).off+4,none⟩=some (.bool (Za7 xs i).f4):=by
 obtain⟨ad,c,e,_,hK,hc0⟩:=Kd.C_get h z93 i h0 h1
 have hc:∀j u,c[j]? = some u→w.cell? (ad.add (i.toNat * 5+j))=some u:=hc0
 obtain rfl:=k93_open hK
 exact⟨ad,e,hc 0 _ rfl,by rw[← Zah _ _ 1 (by omega)];exact hc 1 _ rfl,by rw[← Zah _ _ 2 (by omega)];exact hc 2 _ rfl,by rw[← Zah _ _ 3 (by omega)];exact hc 3 _ rfl,by rw[← Zah _ _ 4 (by omega)];exact hc 4 _ rfl⟩
structure S73 where
 f0:ByteArray
 f1:(List Int)
 f2:Int
def z73:S73:=⟨(⟨#[]⟩:ByteArray),([]:List Int),(0:Int)⟩
def k73:Kd S73:=Kd.iso (Kd.pair Kd.string (Kd.pair (Kd.slice 3 (Kd.int .i64)) (Kd.int .i64))) (fun x:S73=>(x.f0,x.f1,x.f2))
theorem k73_open {w:World} {x:S73} {cs:List Value} (h:k73.K w x cs):∃A1 c1,cs=[.string x.f0,.slice A1 x.f1.length c1,.int .i64 x.f2]∧x.f1.length≤c1∧(Kd.int .i64).C w A1 x.f1.length x.f1:=by
 obtain⟨_,_,rfl,rfl,⟨_,_,rfl,⟨A1,c1,rfl,l1,g1⟩,rfl⟩⟩:=h
 exact⟨A1,c1,rfl,l1,g1⟩
theorem k73_openM {w:World} {base:Nat} {ok:Nat→Prop} {x:S73} {cs:List Value} (h:k73.M w base ok x cs):∃v1,cs=[.string x.f0,v1,.int .i64 x.f2]∧(Kd.int .i64).R 3 w base ok v1 x.f1:=by
 obtain⟨_,_,rfl,rfl,⟨_,_,rfl,⟨v1,rfl,g1⟩,rfl⟩⟩:=h
 exact⟨v1,rfl,g1⟩
theorem k73_mkM (w:World) (base:Nat) (ok:Nat→Prop) (x:S73) {v1:Value} (g1:(Kd.int .i64).R 3 w base ok v1 x.f1):k73.M w base ok x [.string x.f0,v1,.int .i64 x.f2]:=⟨[.string x.f0],[v1,.int .i64 x.f2],rfl,rfl,⟨[v1],[.int .i64 x.f2],rfl,⟨v1,rfl,g1⟩,rfl⟩⟩
def Zay (xs:List S73) (i:Int):S73:=xs.getD i.toNat z73
theorem at_T73 {w:World} {A:Option Addr} {n:Nat} {xs:List S73} (h:Kd.C k73 w A n xs) (i:Int) (h0:0≤i) (h1:i<n):∃ad A1 c1,A=some ad∧w.cell? (ad.add (i.toNat * 3))=some (.string (Zay xs i).f0)∧w.cell? ⟨(ad.add (i.toNat * 3)).block,(ad.add (i.toNat * 3)).off+1,none⟩=some (.slice A1 (Zay xs i).f1.length c1)∧w.cell? ⟨(ad.add (i.toNat * 3)).block,(ad.add (i.toNat * 3)).off+2,none⟩=some (.int .i64 (Zay xs i).f2)∧(Zay xs i).f1.length≤c1∧(Kd.int .i64).C w A1 (Zay xs i).f1.length (Zay xs i).f1:=by
 obtain⟨ad,c,e,_,hK,hc0⟩:=Kd.C_get h z73 i h0 h1
 have hc:∀j u,c[j]? = some u→w.cell? (ad.add (i.toNat * 3+j))=some u:=hc0
 obtain⟨A1,c1,rfl,l1,g1⟩:=k73_open hK
 exact⟨ad,A1,c1,e,hc 0 _ rfl,by rw[← Zah _ _ 1 (by omega)];exact hc 1 _ rfl,by rw[← Zah _ _ 2 (by omega)];exact hc 2 _ rfl,l1,g1⟩
structure S66 where
 f0:Int
 f1:Int
 f2:Int
 f3:Int
 f4:Bool
def z66:S66:=⟨(0:Int),(0:Int),(0:Int),(0:Int),false⟩
def k66:Kd S66:=Kd.iso (Kd.pair (Kd.int .i64) (Kd.pair (Kd.int .i64) (Kd.pair (Kd.int .i64) (Kd.pair (Kd.int .i64) Kd.bool)))) (fun x:S66=>(x.f0,x.f1,x.f2,x.f3,x.f4))
theorem k66_open {w:World} {x:S66} {cs:List Value} (h:k66.K w x cs):cs=[.int .i64 x.f0,.int .i64 x.f1,.int .i64 x.f2,.int .i64 x.f3,.bool x.f4]:=by
 obtain⟨_,_,rfl,rfl,⟨_,_,rfl,rfl,⟨_,_,rfl,rfl,⟨_,_,rfl,rfl,rfl⟩⟩⟩⟩:=h
 exact rfl
theorem k66_openM {w:World} {base:Nat} {ok:Nat→Prop} {x:S66} {cs:List Value} (h:k66.M w base ok x cs):cs=[.int .i64 x.f0,.int .i64 x.f1,.int .i64 x.f2,.int .i64 x.f3,.bool x.f4]:=by
 obtain⟨_,_,rfl,rfl,⟨_,_,rfl,rfl,⟨_,_,rfl,rfl,⟨_,_,rfl,rfl,rfl⟩⟩⟩⟩:=h
 exact rfl
theorem k66_mkM (w:World) (base:Nat) (ok:Nat→Prop) (x:S66)  : k66.M w base ok x [.int .i64 x.f0,.int .i64 x.f1,.int .i64 x.f2,.int .i64 x.f3,.bool x.f4]:=⟨[.int .i64 x.f0],[.int .i64 x.f1,.int .i64 x.f2,.int .i64 x.f3,.bool x.f4],rfl,rfl,⟨[.int .i64 x.f1],[.int .i64 x.f2,.int .i64 x.f3,.bool x.f4],rfl,rfl,⟨[.int .i64 x.f2],[.int .i64 x.f3,.bool x.f4],rfl,rfl,⟨[.int .i64 x.f3],[.bool x.f4],rfl,rfl,rfl⟩⟩⟩⟩
def Zan (xs:List S66) (i:Int):S66:=xs.getD i.toNat z66
theorem at_T66 {w:World} {A:Option Addr} {n:Nat} {xs:List S66} (h:Kd.C k66 w A n xs) (i:Int) (h0:0≤i) (h1:i<n):∃ad ,A=some ad∧w.cell? (ad.add (i.toNat * 5))=some (.int .i64 (Zan xs i).f0)∧w.cell? ⟨(ad.add (i.toNat * 5)).block,(ad.add (i.toNat * 5)).off+1,none⟩=some (.int .i64 (Zan xs i).f1)∧w.cell? ⟨(ad.add (i.toNat * 5)).block,(ad.add (i.toNat * 5)).off+2,none⟩=some (.int .i64 (Zan xs i).f2)∧w.cell? ⟨(ad.add (i.toNat * 5)).block,(ad.add (i.toNat * 5)).off+3,none⟩=some (.int .i64 (Zan xs i).f3)∧w.cell? ⟨(ad.add (i.toNat * 5)).block,(ad.add (i.toNat * 5)).off+4,none⟩=some (.bool (Zan xs i).f4):=by
 obtain⟨ad,c,e,_,hK,hc0⟩:=Kd.C_get h z66 i h0 h1
 have hc:∀j u,c[j]? = some u→w.cell? (ad.add (i.toNat * 5+j))=some u:=hc0
 obtain rfl:=k66_open hK
 exact⟨ad,e,hc 0 _ rfl,by rw[← Zah _ _ 1 (by omega)];exact hc 1 _ rfl,by rw[← Zah _ _ 2 (by omega)];exact hc 2 _ rfl,by rw[← Zah _ _ 3 (by omega)];exact hc 3 _ rfl,by rw[← Zah _ _ 4 (by omega)];exact hc 4 _ rfl⟩
def rd_L9 (xs:List (List S73)) (i:Int):(List S73):=xs.getD i.toNat ([]:List S73)
def rd_L10 (xs:List (List S66)) (i:Int):(List S66):=xs.getD i.toNat ([]:List S66)
structure S36 where
 f0:(List S73)
 f1:(List S66)
 f2:Int
def z36:S36:=⟨([]:List S73),([]:List S66),(0:Int)⟩
def k36:Kd S36:=Kd.iso (Kd.pair (Kd.slice 73 k73) (Kd.pair (Kd.slice 66 k66) (Kd.int .i64))) (fun x:S36=>(x.f0,x.f1,x.f2))
def rd_T36 (xs:List S36) (i:Int):S36:=xs.getD i.toNat z36
def rd_L12 (xs:List (List S89)) (i:Int):(List S89):=xs.getD i.toNat ([]:List S89)
def rd_L13 (xs:List (List S93)) (i:Int):(List S93):=xs.getD i.toNat ([]:List S93)
structure S30 where
 f0:(List S89)
 f1:(List S93)
 f2:Int
def z30:S30:=⟨([]:List S89),([]:List S93),(0:Int)⟩
def k30:Kd S30:=Kd.iso (Kd.pair (Kd.slice 89 k89) (Kd.pair (Kd.slice 93 k93) (Kd.int .i64))) (fun x:S30=>(x.f0,x.f1,x.f2))
theorem k30_open {w:World} {x:S30} {cs:List Value} (h:k30.K w x cs):∃A0 c0 A1 c1,cs=[.slice A0 x.f0.length c0,.slice A1 x.f1.length c1,.int .i64 x.f2]∧x.f0.length≤c0∧k89.C w A0 x.f0.length x.f0∧x.f1.length≤c1∧k93.C w A1 x.f1.length x.f1:=by
 obtain⟨_,_,rfl,⟨A0,c0,rfl,l0,g0⟩,⟨_,_,rfl,⟨A1,c1,rfl,l1,g1⟩,rfl⟩⟩:=h
 exact⟨A0,c0,A1,c1,rfl,l0,g0,l1,g1⟩
def rd_T30 (xs:List S30) (i:Int):S30:=xs.getD i.toNat z30
end Go.Proofs.YthphnhmabieflaaDoor.Pr
namespace Go.Proofs.YthphnhmabieflaaDoor.Op
open Go.RowKit Go.ChangeShapes Go.WideShapes Go.Proofs.YthphnhmabieflaaDoorW.PrintWords
structure Zac {α:Type} (P:Program) (d:Kd α) (t:TypeId) (ok:α→Prop):Prop where
 cells:P.cellsOf t=d.sz
 op:∀{H:Type} {enc:TypeId×Value→H} {w:World} {base fuel:Nat} {cs:List Value} {x:DataW H×List MemPlace},DataW.trod enc P w base (fun _=>true) true fuel t cs=some x→∃y,d.K w y cs∧ok y
theorem Zac.int {P:Program} {t:TypeId} {k:IntKind} (ht:P.underlying t=some (.int k)) (hc:P.cellsOf t=1):Zac P (Kd.int k) t (fun n=>(Lit.int k n).wf=true):=
 ⟨hc,fun h=>by
  obtain⟨n,rfl,_,hw⟩:=DataW.trod_int ht h
  exact⟨n,rfl,hw⟩⟩
theorem Zac.bool {P:Program} {t:TypeId} (ht:P.underlying t=some .bool) (hc:P.cellsOf t=1):Zac P Kd.bool t (fun _=>True):=
 ⟨hc,fun h=>by
  obtain⟨n,rfl,_⟩:=DataW.trod_bool ht h
  exact⟨n,rfl,trivial⟩⟩
theorem Zac.string {P:Program} {t:TypeId} (ht:P.underlying t=some .string) (hc:P.cellsOf t=1):Zac P Kd.string t (fun s=>s.size≤maxLen):=
 ⟨hc,fun h=>by
  obtain⟨n,rfl,_,hw⟩:=DataW.trod_string ht h
  exact⟨n,rfl,hw⟩⟩
theorem choose_list {β:Type} (Q:Nat→β→Prop) (n:Nat) (h:∀i,i<n→∃y,Q i y):∃l:List β,l.length=n∧∀i y,l[i]? = some y→Q i y:=by
 induction n with
 | zero=>exact⟨[],rfl,fun i y h=>by simp at h⟩
 | succ n ih=>
  obtain⟨l,hl,hq⟩:=ih (fun i hi=>h i (by omega))
  obtain⟨y,hy⟩:=h n (by omega)
  refine⟨l ++ [y],by simp[hl],fun i z hz=>?_⟩
  rcases Nat.lt_or_ge i l.length with hi|hi
  ·rw[List.getElem?_append_left hi] at hz
   exact hq i z hz
  ·have hlt:=(List.getElem?_eq_some_iff.1 hz).1
   rw[List.length_append,List.length_singleton] at hlt
   have e:i=l.length:=by omega
   subst e
   have hz':y=z:=by simpa using hz
   subst hz'
   rw[hl]
   exact hy
theorem Zac.slice {α:Type} {P:Program} {d:Kd α} {t e:TypeId} {ok:α→Prop} (he:Zac P d e ok) (ht:P.underlying t=some (.slice e)) (hc:P.cellsOf t=1) :
  Zac P (Kd.slice e d) t (fun l=>l.length≤maxLen∧∀x∈l,ok x):=
 ⟨hc,fun {H enc w base fuel cs x} h=>by
  rcases DataW.trod_slice ht h with ⟨rfl,_⟩|⟨a,len,cap,elems,rest,n,_,rfl,_,hb,hl,hm,hlen,hel,_,_⟩
  ·exact⟨[],⟨none,0,rfl,Nat.le_refl _,rfl,by simp,fun h0=>absurd h0 (by simp)⟩,by simp⟩
  ·have key:∀i,i<len→∃y,ok y∧∃c,c.length=d.sz∧d.K w y c∧∀j u,c[j]? = some u→w.cell? (a.add (i * d.sz+j))=some u:=by
    intro i hi
    have hi':=hel i hi
    rw[Zk (by omega),Option.bind_eq_some_iff] at hi'
    obtain⟨cs',h1,h2⟩:=hi'
    obtain⟨y,hk,hy⟩:=he.op h2
    refine⟨y,hy,cs',d.K_len hk,hk,fun j u hu=>?_⟩
    have:=(World.cells?_some h1).2.2 j (by
     have:=(List.getElem?_eq_some_iff.1 hu).1
     rw[d.K_len hk] at this
     rw[he.cells];exact this)
    rw[he.cells] at this
    rw[Addr.add_add] at this
    rw[this,hu]
   obtain⟨l,hll,hq⟩:=choose_list _ len key
   refine⟨l,⟨some a,cap,by rw[hll],by omega,rfl,by rw[hll];simp only[maxLen] at hm;omega,fun h0=>⟨a,rfl,fun j p hj=>?_⟩⟩,by omega,fun x hx=>?_⟩
   ·obtain⟨_,hc'⟩:=hq j p hj
    exact hc'
   ·obtain⟨i,hi⟩:=List.getElem?_of_mem hx
    exact(hq i x hi).1⟩
theorem ZaP {α β:Type} {a:Kd α} {b:Kd β} {w:World} {x:α} {y:β} {cs:List Value} {off:Nat} (h0:a.K w x ((cs.drop off).take a.sz)) (h1:b.K w y ((cs.drop (off+a.sz)).take b.sz)) :
  (Kd.pair a b).K w (x,y) ((cs.drop off).take (Kd.pair a b).sz):=
 ⟨_,_,by show(cs.drop off).take (a.sz+b.sz)=_;rw[List.take_add,List.drop_drop],h0,h1⟩
theorem Zac.fieldAt {α:Type} {P:Program} {d:Kd α} {t:TypeId} {ok:α→Prop} (ho:Zac P d t ok) {H:Type} {enc:TypeId×Value→H} {w:World} {base fuel off:Nat} {cs:List Value} {x:Option (DataW H×List MemPlace)}
  (h:DataW.trod enc P w base (fun _=>true) true fuel t ((cs.drop off).take (P.cellsOf t))=x) (hx:x.isSome=true):∃y,d.K w y ((cs.drop off).take d.sz)∧ok y:=by
 obtain⟨z,rfl⟩:=Option.isSome_iff_exists.1 hx
 obtain⟨y,hk,hy⟩:=ho.op h
 rw[ho.cells] at hk
 exact⟨y,hk,hy⟩
end Go.Proofs.YthphnhmabieflaaDoor.Op
namespace Go.Proofs.YthphnhmabieflaaDoor.Pr
open Go.RowKit Go.Proofs.YthphnhmabieflaaDoorW.PrintWords Go.Proofs.YthphnhmabieflaaDoorW.PrintLast Go.Proofs.YthphnhmabieflaaDoorW.PrintMore
attribute [local go_sem] Zal Zaj Zas Zar Zaf Zae Zak Zai
set_option linter.unusedVariables false
set_option linter.unusedSimpArgs false
open Go.Proofs.YthphnhmabieflaaDoor.Op Go.ChangeShapes Go.WideShapes
def okS89 (x:S89):Prop:=(fun s_:ByteArray=>s_.size≤maxLen) x.f0∧(fun l_:List Int=>l_.length≤maxLen∧∀x_∈l_,(fun n_:Int=>(Lit.int .i64 n_).wf=true) x_) x.f1∧(fun n_:Int=>(Lit.int .i64 n_).wf=true) x.f2
theorem op_k89:Zac Tryd.prog k89 89 okS89:=
 ⟨by kernel_rfl,fun {H enc w base fuel cs x} h=>by
  obtain⟨xs,n,_,_,hl,hlen,hf⟩:=DataW.trod_struct Tryd.underlying89 h
  have hl':cs.length=3:=hl.trans (by kernel_rfl)
  have hlen':xs.length=3:=hlen
  obtain⟨y0,h0,o0⟩:=(Zac.string Tryd.underlying9 (by kernel_rfl)).fieldAt (hf 0 _ rfl) (by rw[Zk (by omega)];rfl)
  obtain⟨y1,h1,o1⟩:=(Zac.slice (Zac.int Tryd.underlying3 (by kernel_rfl)) Tryd.underlying22 (by kernel_rfl)).fieldAt (hf 1 _ rfl) (by rw[Zk (by omega)];rfl)
  obtain⟨y2,h2,o2⟩:=(Zac.int Tryd.underlying3 (by kernel_rfl)).fieldAt (hf 2 _ rfl) (by rw[Zk (by omega)];rfl)
  have hk:k89.K w ⟨y0,y1,y2⟩ ((cs.drop 0).take k89.sz):=(ZaP (off:=0) h0 (ZaP (off:=1) h1 h2))
  have hcs:(cs.drop 0).take k89.sz=cs:=by rw[List.drop_zero];exact List.take_of_length_le (by rw[hl'];exact Nat.le_refl _)
  rw[hcs] at hk
  exact⟨_,hk,o0,o1,o2⟩⟩
def okS93 (x:S93):Prop:=(fun n_:Int=>(Lit.int .i64 n_).wf=true) x.f0∧(fun n_:Int=>(Lit.int .i64 n_).wf=true) x.f1∧(fun n_:Int=>(Lit.int .i64 n_).wf=true) x.f2∧(fun n_:Int=>(Lit.int .i64 n_).wf=true) x.f3∧(fun _:Bool=>True) x.f4
theorem op_k93:Zac Tryd.prog k93 93 okS93:=
 ⟨by kernel_rfl,fun {H enc w base fuel cs x} h=>by
  obtain⟨xs,n,_,_,hl,hlen,hf⟩:=DataW.trod_struct Tryd.underlying93 h
  have hl':cs.length=5:=hl.trans (by kernel_rfl)
  have hlen':xs.length=5:=hlen
  obtain⟨y0,h0,o0⟩:=(Zac.int Tryd.underlying3 (by kernel_rfl)).fieldAt (hf 0 _ rfl) (by rw[Zk (by omega)];rfl)
  obtain⟨y1,h1,o1⟩:=(Zac.int Tryd.underlying3 (by kernel_rfl)).fieldAt (hf 1 _ rfl) (by rw[Zk (by omega)];rfl)
  obtain⟨y2,h2,o2⟩:=(Zac.int Tryd.underlying3 (by kernel_rfl)).fieldAt (hf 2 _ rfl) (by rw[Zk (by omega)];rfl)
  obtain⟨y3,h3,o3⟩:=(Zac.int Tryd.underlying3 (by kernel_rfl)).fieldAt (hf 3 _ rfl) (by rw[Zk (by omega)];rfl)
  obtain⟨y4,h4,o4⟩:=(Zac.bool Tryd.underlying4 (by kernel_rfl)).fieldAt (hf 4 _ rfl) (by rw[Zk (by omega)];rfl)
  have hk:k93.K w ⟨y0,y1,y2,y3,y4⟩ ((cs.drop 0).take k93.sz):=(ZaP (off:=0) h0 (ZaP (off:=1) h1 (ZaP (off:=2) h2 (ZaP (off:=3) h3 h4))))
  have hcs:(cs.drop 0).take k93.sz=cs:=by rw[List.drop_zero];exact List.take_of_length_le (by rw[hl'];exact Nat.le_refl _)
  rw[hcs] at hk
  exact⟨_,hk,o0,o1,o2,o3,o4⟩⟩
def okS30 (x:S30):Prop:=(fun l_:List (S89)=>l_.length≤maxLen∧∀x_∈l_,okS89 x_) x.f0∧(fun l_:List (S93)=>l_.length≤maxLen∧∀x_∈l_,okS93 x_) x.f1∧(fun n_:Int=>(Lit.int .i64 n_).wf=true) x.f2
theorem op_k30:Zac Tryd.prog k30 30 okS30:=
 ⟨by kernel_rfl,fun {H enc w base fuel cs x} h=>by
  obtain⟨xs,n,_,_,hl,hlen,hf⟩:=DataW.trod_struct Tryd.underlying30 h
  have hl':cs.length=3:=hl.trans (by kernel_rfl)
  have hlen':xs.length=3:=hlen
  obtain⟨y0,h0,o0⟩:=(Zac.slice op_k89 Tryd.underlying27 (by kernel_rfl)).fieldAt (hf 0 _ rfl) (by rw[Zk (by omega)];rfl)
  obtain⟨y1,h1,o1⟩:=(Zac.slice op_k93 Tryd.underlying28 (by kernel_rfl)).fieldAt (hf 1 _ rfl) (by rw[Zk (by omega)];rfl)
  obtain⟨y2,h2,o2⟩:=(Zac.int Tryd.underlying3 (by kernel_rfl)).fieldAt (hf 2 _ rfl) (by rw[Zk (by omega)];rfl)
  have hk:k30.K w ⟨y0,y1,y2⟩ ((cs.drop 0).take k30.sz):=(ZaP (off:=0) h0 (ZaP (off:=1) h1 h2))
  have hcs:(cs.drop 0).take k30.sz=cs:=by rw[List.drop_zero];exact List.take_of_length_le (by rw[hl'];exact Nat.le_refl _)
  rw[hcs] at hk
  exact⟨_,hk,o0,o1,o2⟩⟩
end Go.Proofs.YthphnhmabieflaaDoor.Pr
namespace Go.Proofs.YthphnhmabieflaaDoor.Ni
open Go.RowKit Go.Proofs.YthphnhmabieflaaDoorW.PrintWords
theorem kcell {w W:World} (hb:Below w.heap.size w W) {a:Addr} {v:Value} (h:w.cell? a=some v):W.cell? a=some v:=(hb.cell (Zb w _ h)).trans h
theorem wrap_succ {i:Int} (h0:0≤i) (h:i<9223372036854775807):wrap64 (i+1)=i+1:=by
 unfold wrap64;omega
theorem Z4 {i:Int} (h0 : -9223372036854775808≤i) (h:i≤9223372036854775807):wrap64 i=i:=by
 unfold wrap64;omega
theorem Z9 {i n:Nat} (h:i<n) (hn:n≤9223372036854775807):wrap64 ((i:Int)+1)=((i+1:Nat):Int):=by
 unfold wrap64;omega
theorem wrap_pred {i:Nat} (h:0<i) (hn:i≤9223372036854775807):wrap64 ((i:Int) - 1)=((i - 1:Nat):Int):=by
 unfold wrap64;omega
theorem wf_i64 {n:Int} (h:(Lit.int .i64 n).wf=true) : -9223372036854775808≤n∧n≤9223372036854775807:=by
 simp[Lit.wf,IntKind.min,IntKind.max,IntKind.signed,IntKind.bits] at h
 omega
theorem ZaG (l:List Int) (i:Nat):rd l (i:Int)=l.getD i 0:=by unfold rd;rw[Int.toNat_natCast]
theorem Zag {α:Type} {l:List α} {i:Nat} (h:i<l.length) (d:α):l.drop i=l.getD i d :: l.drop (i+1):=by
 rw[List.drop_eq_getElem_cons h,List.getD_eq_getElem?_getD,Zk h];rfl
theorem Zba {α:Type} {l:List α} {i:Nat} (h:i<l.length) (d:α):l.getD i d∈l:=by
 rw[List.getD_eq_getElem?_getD,Zk h];exact List.getElem_mem h
theorem getD_some {α:Type} {l:List α} {i:Nat} (h:i<l.length) (d:α):l[i]? = some (l.getD i d):=by
 rw[List.getD_eq_getElem?_getD,Zk h];rfl
theorem set_step {α:Type} (ys:List α) (z d:α) (i:Nat) (h:i<ys.length) (x:α) (hx:x=ys.getD i d):(ys.take i ++ List.replicate (ys.length - i) z).set i x=ys.take (i+1) ++ List.replicate (ys.length - (i+1)) z:=by
 subst hx
 have e:ys.length - i=(ys.length - (i+1))+1:=by omega
 rw[e,List.replicate_succ,List.set_append_right _ _ (by simp;omega)]
 have e2:i - (ys.take i).length=0:=by simp;omega
 rw[e2,List.set_cons_zero,List.take_succ_eq_append_getElem h,List.append_assoc]
 congr 2
 simp[List.getD_eq_getElem?_getD,Zk h]
theorem Zat (n:Nat) (Q:Nat→Nat→Prop) (K:Nat) (hend:∀k,K≤k→Q (k+1) n) (hstep:∀k i,K≤k→i<n→Q k (i+1)→Q (k+1) i):∀(i k:Nat),i≤n→K+(n - i)<k→Q k i:=by
 have key:∀(d i k:Nat),i≤n→n - i=d→K+d<k→Q k i:=by
  intro d
  induction d with
  | zero=>
   intro i k hi hd hk
   obtain⟨m,rfl⟩:∃m,k=m+1:=⟨k - 1,by omega⟩
   obtain rfl:i=n:=by omega
   exact hend m (by omega)
  | succ d ih=>
   intro i k hi hd hk
   obtain⟨m,rfl⟩:∃m,k=m+1:=⟨k - 1,by omega⟩
   exact hstep m i (by omega) (by omega) (ih (i+1) m (by omega) (by omega) (by omega))
 intro i k hi hk
 exact key (n - i) i k hi rfl hk
theorem set_mid (pre:List Int) (x y:Int) (post:List Int):(pre ++ x :: post).set pre.length y=pre ++ y :: post:=by
 rw[List.set_append_right _ _ (Nat.le_refl _),Nat.sub_self,List.set_cons_zero]
def ZaR {α:Type} (p:α→Bool) (l:List α):Int:=match l.findIdx? p with|some i=>i|none=>-1
theorem idxOf_hit {α:Type} (p:α→Bool) (l:List α) (k:Nat) (x:α) (hk:l[k]? = some x) (hx:p x=true) (hb:∀j y,j<k→l[j]? = some y→p y=false):ZaR p l=(k:Int):=by
 have h:l.findIdx? p=some k:=by
  rw[List.findIdx?_eq_some_iff_getElem]
  obtain⟨hl,he⟩:=List.getElem?_eq_some_iff.1 hk
  refine⟨hl,by rw[he];exact hx,fun j hj=>?_⟩
  have:=hb j _ hj (Zk (by omega))
  simp[this]
 simp[ZaR,h]
theorem Zcd {α:Type} (p:α→Bool) (l:List α) (hb:∀j y,j<l.length→l[j]? = some y→p y=false):ZaR p l=-1:=by
 have h:l.findIdx? p=none:=by
  rw[List.findIdx?_eq_none_iff]
  intro x hx
  obtain⟨j,hj⟩:=List.getElem?_of_mem hx
  exact hb j x (List.getElem?_eq_some_iff.1 hj).1 hj
 simp[ZaR,h]
theorem idxOf_any {α:Type} (p:α→Bool) (l:List α):decide (0≤ZaR p l)=l.any p:=by
 unfold ZaR
 cases h:l.findIdx? p with
 | some i=>
  rw[List.findIdx?_eq_some_iff_getElem] at h
  obtain⟨hl,hp,_⟩:=h
  have:l.any p=true:=List.any_eq_true.2 ⟨_,List.getElem_mem hl,hp⟩
  rw[this]
  exact Zd (Int.natCast_nonneg _)
 | none=>
  rw[List.findIdx?_eq_none_iff] at h
  have:l.any p=false:=by rw[List.any_eq_false];intro x hx;rw[h x hx];simp
  rw[this];rfl
theorem idxOf_bd {α:Type} (p:α→Bool) (l:List α) : -1≤ZaR p l∧ZaR p l<l.length:=by
 unfold ZaR
 cases h:l.findIdx? p with
 | some i=>
  rw[List.findIdx?_eq_some_iff_getElem] at h
  obtain⟨hl,_⟩:=h
  simp only;omega
 | none=>simp only;omega
def cnt0 (l:List Int):Int:=((l.filter (· == 0)).length:Int)
def Zaq (x:Int):Bool:=!(x == 0) && decide (-3≤x) && decide (x≤3)
def prp (x:Int):Int:=if x<0 then -x else x
def Zax (p:Int):List Int→Bool
 | []=>true
 | x :: t=>Zaq x && decide (p<prp x) && Zax (prp x) t
def labB (l:List Int):Bool:=Zax 0 l
def valsB (l:List Int):Bool:=decide (l.length=3) && l.all (fun n=>decide (-1≤n) && decide (n≤1))
theorem Zaz (x:Int):Zaq x=true↔x≠0∧-3≤x∧x≤3:=by
 simp[Zaq,and_assoc]
theorem Za3 {x:Int} (h:Zaq x=true):1≤prp x∧prp x≤3:=by
 have:=(Zaz x).1 h
 unfold prp;split <;> omega
def stFrom (v:List Int) (a:Int):List Int→Int
 | []=>a
 | x :: t=>stFrom v (min a (if x<0 then -(v.getD (prp x - 1).toNat 0) else v.getD (prp x - 1).toNat 0)) t
def stB (l v:List Int):Int:=stFrom v 1 l
def isNameB (s:ByteArray):Bool:=decide (1≤s.size) && decide (s.size≤8) && (List.range s.size).all fun i=>let c:=bt s i;(decide (97≤c) && decide (c≤122)) || (decide (0<i) && decide (48≤c) && decide (c≤57))
end Go.Proofs.YthphnhmabieflaaDoor.Ni
namespace Go.Proofs.YthphnhmabieflaaDoor.Pr
open Go.RowKit Go.Proofs.YthphnhmabieflaaDoorW.PrintWords Go.Proofs.YthphnhmabieflaaDoorW.PrintLast Go.Proofs.YthphnhmabieflaaDoorW.PrintMore
attribute [local go_sem] Zal Zaj Zas Zar Zaf Zae Zak Zai
set_option linter.unusedVariables false
set_option linter.unusedSimpArgs false
def ZY.l0:Nat→List Int→List Int→Int→Option (List Int)
 | 0,_,_,_=>none
 | k+1,x0,x3,x4=>if x4<(x0.length:Int) then(if 0≤x4 then(if x4<(x3.length:Int) then(ZY.l0 k x0 (x3.set (x4:Int).toNat (rd x0 x4)) (wrap64 (x4+1))) else(none)) else(none)) else(some x3)
def ZY.f (k:Nat) (l0:List Int):Option (List Int):=if 0≤(l0.length:Int) then(if ((l0.length:Int):Int).toNat≤35184372088832 then(ZY.l0 k l0 (List.replicate ((l0.length:Int):Int).toNat 0) 0) else(none)) else(none)
set_option maxHeartbeats 8000000 in
set_option maxRecDepth 100000 in
theorem ZY.calls (k:Nat) (A0:Option Addr) (c0:Nat) (l0:List Int) (r:List Int) (w:World) (hr0:Kd.C (Kd.int .i64) w A0 l0.length l0) (hc0:l0.length≤c0) (h:ZY.f k l0=some r) :
  Calls Tryd.prog 10 #[.slice A0 l0.length c0] w fun e w'=>∃v0_:Value,e=.returned (v0_)∧Kd.R (Kd.int .i64) 3 w' w.heap.size (fun _=>True) v0_ r∧Below w.heap.size w w':=by
 have HR0:=Za hr0;have HC0:=Za hc0;clear hr0 hc0
 have HB:=Za (Below.refl w.heap.size w)
 have H:(if 0≤(l0.length:Int) then(if ((l0.length:Int):Int).toNat≤35184372088832 then(ZY.l0 k l0 (List.replicate ((l0.length:Int):Int).toNat 0) 0) else(none)) else(none))=some r:=h
 clear h
 by_cases c2:0≤(l0.length:Int)
 ·rw[if_pos c2] at H
  have c2b0:=eq_true c2
  have c2b1:decide (0≤(l0.length:Int))=true:=Zd c2
  clear c2
  by_cases c3:((l0.length:Int):Int).toNat≤35184372088832
  ·rw[if_pos c3] at H
   have c3b0:=eq_true c3
   have c3b1:decide (((l0.length:Int):Int).toNat≤35184372088832)=true:=Zd c3
   clear c3
   obtain⟨y10001,hy10001⟩:∃y_:List Int,y_=(List.replicate ((l0.length:Int):Int).toNat 0):=⟨_,rfl⟩
   replace H:(ZY.l0 k l0 y10001 0)=some r:=by first|(rw[hy10001];with_reducible exact H)|(have H2_:=(Zh _ _).symm.trans H;rw[hy10001];with_reducible exact H2_)|(have H2_:=(Zh _ _).symm.trans H;with_reducible exact H2_)|with_reducible exact H|(rw[hy10001];exact H)|exact H
   have Ny10001:=Za hy10001;clear hy10001
   have H':=Za H
   clear H
   go_enter Tryd.func10,Tryd.ntmps10
   go_wp2_with (first|((with_reducible refine Z5 (N:=7) rfl ?_);refine Kd.R_make (Kd.int .i64) _ 3 rfl (N:=7) rfl 22 _ _ rfl (l0.length:Int) rfl rfl Tryd.underlying22 (.int .i64 0) 8 info3 rfl (by decide) (by omega) 0 (ok:=fun _=>True) (okp:=fun _=>True) rfl (fun _ hk=>hk) trivial (Zc (by first|(with_reducible assumption)|assumption)) (Nat.le_trans (Nat.mul_le_mul_right _ (Zc (by first|(with_reducible assumption)|assumption):(l0.length:Int).toNat≤35184372088832)) (by omega)) (Below.refl _ _) (Nat.le_refl _) ?_;intro v10002 w4 ho5 hb hg_ hnew_;clear hg_ hnew_;(first|rw[← Ny10001.out] at ho5|(simp only[Int.reduceToNat] at ho5;rw[← Ny10001.out] at ho5));have HO10003:=Za (Kd.R_lower ho5 (Zy (by repeat(first|(with_reducible first|exact HB.out|apply Zm|apply Zl|apply Zn)|exact HB.out))));replace HB:=Za (Zu (by repeat(first|(with_reducible first|exact HB.out|apply Zm|apply Zl|apply Zn)|exact HB.out)) hb);clear hb ho5))
   go_loopg [4] k (fun kq v4 w'=>∃(x3_1:List Int) (x4_1:Int),v4=.int .i64 x4_1∧Aside0 (ZY.l0 kq l0 x3_1 x4_1=some r)∧Aside0 (kq≤k)∧Aside0 (Kd.R (Kd.int .i64) 3 w' w.heap.size (fun _=>True) v10002 x3_1)∧Aside0 (Below w.heap.size w w'))
   case atStart=>exact⟨(y10001),(0),(by first|rfl|(simp;done)|(simp[*];done)),H',⟨Nat.le_refl _⟩,⟨by(with_reducible repeat(first|apply Kd.R_alloc|apply Kd.R_drewN|apply Kd.R_drew));exact HO10003.out⟩,⟨by repeat(first|(with_reducible first|exact HB.out|apply Zm|apply Zl|apply Zn)|exact HB.out)⟩⟩
   case round=>
    clear H'
    try clear c1
    try clear c2
    try clear c2b0
    try clear c2b1
    try clear p2
    try clear c3
    try clear c3b0
    try clear c3b1
    obtain⟨x3_1,x4_1,rfl,HA,HK1,HO_3,HB⟩:=hrel
    cases gk with
    | zero=>exact absurd HA.out (by simp[ZY.l0])
    | succ k1=>
     have H:=HA.out
     clear HA
     simp only[ZY.l0] at H
     by_cases c6:x4_1<(l0.length:Int)
     ·rw[if_pos c6] at H
      have c6b0:decide (x4_1<(l0.length:Int))=true:=Zd c6
      clear c6
      by_cases c7:0≤x4_1
      ·rw[if_pos c7] at H
       have c7b0:decide (0≤x4_1)=true:=Zd c7
       clear c7
       by_cases c8:x4_1<(x3_1.length:Int)
       ·rw[if_pos c8] at H
        have c8b0:decide (x4_1<(x3_1.length:Int))=true:=Zd c8
        clear c8
        obtain⟨y10005,hy10005⟩:∃y_:List Int,y_=(x3_1.set (x4_1:Int).toNat (rd l0 x4_1)):=⟨_,rfl⟩
        replace H:(ZY.l0 k1 l0 y10005 (wrap64 (x4_1+1)))=some r:=by first|(rw[hy10005];with_reducible exact H)|(have H2_:=(Zh _ _).symm.trans H;rw[hy10005];with_reducible exact H2_)|(have H2_:=(Zh _ _).symm.trans H;with_reducible exact H2_)|with_reducible exact H|(rw[hy10005];exact H)|exact H
        have Ny10005:=Za hy10005;clear hy10005
        have H':=Za H
        clear H
        have p10004:0≤(x4_1:Int):=Zc (by first|(with_reducible assumption)|assumption)
        have q10004:x4_1<(l0.length:Int):=Zc (by first|(with_reducible assumption)|assumption)
        obtain⟨ad10004,e10004,hx10004_0⟩:=Kd.at_int HR0.out x4_1 p10004 q10004
        cases e10004
        replace hx10004_0:=(HB.out.cell (Zb w _ hx10004_0)).trans hx10004_0
        replace p10004:=eq_true p10004
        replace q10004:=eq_true q10004
        have p9:0≤(x4_1:Int):=Zc (by first|(with_reducible assumption)|assumption)
        have q9:(x4_1:Int)<((x3_1.length:Int):Int):=Zc (by first|(with_reducible assumption)|assumption)
        obtain⟨go9,co9,eo9,gb9,gl9,cl9,HG9⟩:=Kd.R_form HO_3.out (by omega)
        (first|cases eo9|(injection eo9 with ea_ en_ ec_;(first|subst ea_|(injection ea_ with ea_;subst ea_));subst ec_;clear en_))
        have GB9:=Za gb9;have GG9:=Za HG9;clear gb9 gl9 HG9
        obtain⟨hx9_0,hf9_0⟩:=Kd.R_celln 0 HO_3.out (x4_1:Int) p9 q9
        replace p9:=eq_true p9
        replace q9:=eq_true q9
        have HP10:=Kd.R_putg HO_3.out (x4_1:Int) (rd l0 x4_1)
        go_wp2_with (first|((with_reducible refine Zcf (t:=3) (p:=20) rfl ?_);refine ZbP (t:=3) (p:=20) (v:=?vo_w11) (w1:=(wr.setCell ⟨go9,(x4_1:Int).toNat,none⟩ (.int .i64 (rd l0 x4_1)))) ?hg ?ho ?hn ?hr ?_;(case ho=>rfl);(case hg=>rfl);(case hn=>rfl);(case hr=>first|(go_simp;done)|(go_simp;rfl));intro w11 hw;have hg:wr.grownBy w11 (some go9):=(by rw[hw];exact HP10.2);have hp_:Kd.R (Kd.int .i64) 3 w11 w.heap.size (fun _=>True) (.slice (some ⟨go9,0,none⟩) x3_1.length co9) y10005:=(by rw[hw,Ny10005.out];exact HP10.1);clear HP10;replace HO_3:=Za (hp_);replace HB:=Za ((by rw[hw];exact ZH (HB.out) GB9.out:Below w.heap.size w w11));clear hg hw hp_))
        go_roundg k1
        case measure=>have:=HK1.out;omega
        case rel=>exact⟨(y10005),(wrap64 (x4_1+1)),(by first|rfl|(simp;done)|(simp[*];done)),H',⟨by have:=HK1.out;omega⟩,⟨by(with_reducible repeat(first|apply Kd.R_alloc|apply Kd.R_drewN|apply Kd.R_drew));exact HO_3.out⟩,⟨by repeat(first|(with_reducible first|exact HB.out|apply Zm|apply Zl|apply Zn)|exact HB.out)⟩⟩
       ·rw[if_neg c8] at H
        exact absurd H (by simp)
      ·rw[if_neg c7] at H
       exact absurd H (by simp)
     ·rw[if_neg c6] at H
      have c6b0:decide (x4_1<(l0.length:Int))=false:=Ze c6
      clear c6
      obtain rfl:=Zf H
      go_wp2
      go_ret
      exact⟨_,by first|rfl|(simp[Zr,Zq] <;> rfl)|(simp[*,Zr,Zq] <;> rfl),by(with_reducible repeat(first|apply Kd.R_alloc|apply Kd.R_drewN|apply Kd.R_drew));exact HO_3.out,by repeat(first|(with_reducible first|exact HB.out|apply Zm|apply Zl|apply Zn)|exact HB.out)⟩
  ·rw[if_neg c3] at H
   exact absurd H (by simp)
 ·rw[if_neg c2] at H
  exact absurd H (by simp)
def ZV.l0:Nat→List Int→List Int→Int→Option (Bool)
 | 0,_,_,_=>none
 | k+1,x0,x1,x5=>if x5<(x0.length:Int) then(if 0≤x5 then(if x5<(x1.length:Int) then(if (rd x0 x5)=(rd x1 x5) then(ZV.l0 k x0 x1 (wrap64 (x5+1))) else(some false)) else(none)) else(none)) else(some true)
def ZV.f (k:Nat) (l0:List Int) (l1:List Int):Option (Bool):=if (l0.length:Int)=(l1.length:Int) then(ZV.l0 k l0 l1 0) else(some false)
set_option maxHeartbeats 8000000 in
set_option maxRecDepth 100000 in
theorem ZV.calls (k:Nat) (A0:Option Addr) (c0:Nat) (l0:List Int) (A1:Option Addr) (c1:Nat) (l1:List Int) (r:Bool) (w:World) (hr0:Kd.C (Kd.int .i64) w A0 l0.length l0) (hc0:l0.length≤c0) (hr1:Kd.C (Kd.int .i64) w A1 l1.length l1) (hc1:l1.length≤c1) (h:ZV.f k l0 l1=some r) :
  Calls Tryd.prog 12 #[.slice A0 l0.length c0,.slice A1 l1.length c1] w fun e w'=>e=.returned (.bool r)∧Zw w w':=by
 have HR0:=Za hr0;have HC0:=Za hc0;clear hr0 hc0;have HR1:=Za hr1;have HC1:=Za hc1;clear hr1 hc1
 have H:(if (l0.length:Int)=(l1.length:Int) then(ZV.l0 k l0 l1 0) else(some false))=some r:=h
 clear h
 by_cases c3:(l0.length:Int)=(l1.length:Int)
 ·rw[if_pos c3] at H
  have c3b0:((l0.length:Int) == (l1.length:Int))=true:=beq_iff_eq.mpr c3
  have c3b1:((l0.length:Int) != (l1.length:Int))=false:=bne_eq_false_iff_eq.mpr c3
  have c3b2:(l0.length == l1.length)=true:=by first|simpa using c3|(simp at c3 ⊢;omega)
  clear c3
  have H':=Za H
  clear H
  go_enter Tryd.func12,Tryd.ntmps12
  go_wp2
  repeat(go_quiet (fail);try go_wp2)
  go_loopg [5] k (fun kq v5 w'=>∃(x5_1:Int),v5=.int .i64 x5_1∧Aside0 (ZV.l0 kq l0 l1 x5_1=some r)∧Aside0 (kq≤k)∧Zw w w')
  case atStart=>exact⟨(0),(by first|rfl|(simp;done)|(simp[*];done)),H',⟨Nat.le_refl _⟩,by repeat(first|exact Zw.refl _|apply Zw.step)⟩
  case round=>
   clear H'
   try clear c1
   try clear p2
   try clear c3
   try clear c3b0
   try clear c3b1
   try clear c3b2
   obtain⟨x5_1,rfl,HA,HK1,⟨m1,rfl⟩⟩:=hrel
   cases gk with
   | zero=>exact absurd HA.out (by simp[ZV.l0])
   | succ k1=>
    have H:=HA.out
    clear HA
    simp only[ZV.l0] at H
    by_cases c4:x5_1<(l0.length:Int)
    ·rw[if_pos c4] at H
     have c4b0:decide (x5_1<(l0.length:Int))=true:=Zd c4
     clear c4
     by_cases c5:0≤x5_1
     ·rw[if_pos c5] at H
      have c5b0:decide (0≤x5_1)=true:=Zd c5
      clear c5
      by_cases c6:x5_1<(l1.length:Int)
      ·rw[if_pos c6] at H
       have c6b0:decide (x5_1<(l1.length:Int))=true:=Zd c6
       clear c6
       by_cases c7:(rd l0 x5_1)=(rd l1 x5_1)
       ·rw[if_pos c7] at H
        have c7b0:((rd l0 x5_1) == (rd l1 x5_1))=true:=beq_iff_eq.mpr c7
        have c7b1:((rd l0 x5_1) != (rd l1 x5_1))=false:=bne_eq_false_iff_eq.mpr c7
        clear c7
        have H':=Za H
        clear H
        have p12001:0≤(x5_1:Int):=Zc (by first|(with_reducible assumption)|assumption)
        have q12001:x5_1<(l0.length:Int):=Zc (by first|(with_reducible assumption)|assumption)
        obtain⟨ad12001,e12001,hx12001_0⟩:=Kd.at_int HR0.out x5_1 p12001 q12001
        cases e12001
        replace p12001:=eq_true p12001
        replace q12001:=eq_true q12001
        have p12002:0≤(x5_1:Int):=Zc (by first|(with_reducible assumption)|assumption)
        have q12002:x5_1<(l1.length:Int):=Zc (by first|(with_reducible assumption)|assumption)
        obtain⟨ad12002,e12002,hx12002_0⟩:=Kd.at_int HR1.out x5_1 p12002 q12002
        cases e12002
        replace p12002:=eq_true p12002
        replace q12002:=eq_true q12002
        go_wp2
        repeat(go_quiet (fail);try go_wp2)
        go_roundg k1
        case measure=>have:=HK1.out;omega
        case rel=>exact⟨(wrap64 (x5_1+1)),(by first|rfl|(simp;done)|(simp[*];done)),H',⟨by have:=HK1.out;omega⟩,by repeat(first|exact Zw.refl _|apply Zw.step)⟩
       ·rw[if_neg c7] at H
        have c7b0:((rd l0 x5_1) == (rd l1 x5_1))=false:=beq_eq_false_iff_ne.mpr c7
        have c7b1:((rd l0 x5_1) != (rd l1 x5_1))=true:=bne_iff_ne.mpr c7
        obtain rfl:=Zf H
        have p12001:0≤(x5_1:Int):=Zc (by first|(with_reducible assumption)|assumption)
        have q12001:x5_1<(l0.length:Int):=Zc (by first|(with_reducible assumption)|assumption)
        obtain⟨ad12001,e12001,hx12001_0⟩:=Kd.at_int HR0.out x5_1 p12001 q12001
        cases e12001
        replace p12001:=eq_true p12001
        replace q12001:=eq_true q12001
        have p12002:0≤(x5_1:Int):=Zc (by first|(with_reducible assumption)|assumption)
        have q12002:x5_1<(l1.length:Int):=Zc (by first|(with_reducible assumption)|assumption)
        obtain⟨ad12002,e12002,hx12002_0⟩:=Kd.at_int HR1.out x5_1 p12002 q12002
        cases e12002
        replace p12002:=eq_true p12002
        replace q12002:=eq_true q12002
        go_wp2
        repeat(go_quiet (fail);try go_wp2)
        go_ret
        exact⟨by first|rfl|(simp;done)|(simp[*];done),by repeat(first|exact Zw.refl _|apply Zw.step)⟩
      ·rw[if_neg c6] at H
       exact absurd H (by simp)
     ·rw[if_neg c5] at H
      exact absurd H (by simp)
    ·rw[if_neg c4] at H
     have c4b0:decide (x5_1<(l0.length:Int))=false:=Ze c4
     clear c4
     obtain rfl:=Zf H
     go_wp2
     repeat(go_quiet (fail);try go_wp2)
     go_ret
     exact⟨by first|rfl|(simp;done)|(simp[*];done),by repeat(first|exact Zw.refl _|apply Zw.step)⟩
 ·rw[if_neg c3] at H
  have c3b0:((l0.length:Int) == (l1.length:Int))=false:=beq_eq_false_iff_ne.mpr c3
  have c3b1:((l0.length:Int) != (l1.length:Int))=true:=bne_iff_ne.mpr c3
  have c3b2:(l0.length == l1.length)=false:=by first|simpa using c3|(simp at c3 ⊢;omega)
  obtain rfl:=Zf H
  go_enter Tryd.func12,Tryd.ntmps12
  go_wp2
  repeat(go_quiet (fail);try go_wp2)
  go_ret
  exact⟨by first|rfl|(simp;done)|(simp[*];done),by repeat(first|exact Zw.refl _|apply Zw.step)⟩
end Go.Proofs.YthphnhmabieflaaDoor.Pr
namespace Go.Proofs.YthphnhmabieflaaDoor.Pr
open Go.RowKit Go.Proofs.YthphnhmabieflaaDoorW.PrintWords Go.Proofs.YthphnhmabieflaaDoor.Ni
theorem toIntS_f (l:List Int) (hl:l.length≤35184372088832) (k:Nat) (hk:2 ^ 64≤k):ZY.f k l=some l:=by
 have key:=Zat l.length (fun k i=>ZY.l0 k l (l.take i ++ List.replicate (l.length - i) 0) (i:Int)=some l) 0
  (fun k _=>by simp[ZY.l0])
  (fun k i _ hi ih=>by
   simp only[ZY.l0]
   rw[if_pos (by omega),if_pos (by omega),if_pos (by simp;omega),Z9 hi (by omega),Int.toNat_natCast,set_step l 0 0 i hi _ (ZaG l i)]
   exact ih) 0 k (Nat.zero_le _) (by omega)
 unfold ZY.f
 rw[if_pos (by omega),if_pos (by omega),Int.toNat_natCast]
 simpa using key
theorem eqIntS_f (l m:List Int) (hl:l.length≤9223372036854775807) (k:Nat) (hk:2 ^ 64≤k):ZV.f k l m=some (decide (l=m)):=by
 unfold ZV.f
 by_cases e:l.length=m.length
 ·rw[if_pos (by omega)]
  have key:=Zat l.length (fun k i=>ZV.l0 k l m (i:Int)=some (decide (l.drop i=m.drop i))) 0
   (fun k _=>by
    simp only[ZV.l0]
    rw[if_neg (by omega),List.drop_of_length_le (Nat.le_refl _),List.drop_of_length_le (by omega)]
    simp)
   (fun k i _ hi ih=>by
    simp only[ZV.l0]
    rw[if_pos (by omega),if_pos (by omega),if_pos (by omega),ZaG,ZaG,Z9 hi (by omega),Zag hi 0,Zag (show i<m.length by omega) 0]
    by_cases h:l.getD i 0=m.getD i 0
    ·rw[if_pos h,ih,h];simp
    ·rw[if_neg h]
     simp only[List.cons.injEq,h,false_and,decide_false]) 0 k (Nat.zero_le _) (by omega)
  simpa using key
 ·rw[if_neg (by omega)]
  have:l≠m:=fun h=>e (by rw[h])
  simp[this]
theorem ZbT (l:List Int) (hl:l.length≤9223372036854775807) (k:Nat) (hk:2 ^ 64≤k):ZV.f k l l=some true:=by
 rw[eqIntS_f l l hl k hk];simp
end Go.Proofs.YthphnhmabieflaaDoor.Pr
namespace Go.Proofs.YthphnhmabieflaaDoor.Pr
open Go.RowKit Go.Proofs.YthphnhmabieflaaDoorW.PrintWords Go.Proofs.YthphnhmabieflaaDoorW.PrintLast Go.Proofs.YthphnhmabieflaaDoorW.PrintMore
attribute [local go_sem] Zal Zaj Zas Zar Zaf Zae Zak Zai
set_option linter.unusedVariables false
set_option linter.unusedSimpArgs false
def ZS.l0:Nat→List Int→Int→Int→Option (Int×List Int)
 | 0,_,_,_=>none
 | k+1,x0,x1,x5=>if x5<(x0.length:Int) then(if 0≤x5 then(ZS.l0 k (x0.set (x5:Int).toNat x1) (wrap64 (x1+1)) (wrap64 (x5+1))) else(none)) else(some (x1,x0))
def ZS.f (k:Nat) (l0:List Int) (a1:Int):Option (Int×List Int):=ZS.l0 k l0 a1 0
set_option maxHeartbeats 8000000 in
set_option maxRecDepth 100000 in
theorem ZS.calls (k:Nat) (P0_:Nat→Prop) (u9000_:Value) (l0:List Int) (a1:Int) (r1:Int) (r2:List Int) (w0 w:World) (hB:Below w0.heap.size w0 w) (ho0:Kd.R (Kd.int .i64) 3 w w0.heap.size P0_ u9000_ l0) (h:ZS.f k l0 a1=some (r1,r2)) :
  Calls Tryd.prog 24 #[u9000_,.int .i64 a1] w fun e w'=>e=.returned (.int .i64 r1)∧Kd.R (Kd.int .i64) 3 w' w0.heap.size (fun k_=>(P0_ k_∨w.heap.size≤k_)) u9000_ r2∧Below w0.heap.size w0 w'∧Kept w w' (fun k_=>P0_ k_):=by
 have HO0:=Za (show Kd.R (Kd.int .i64) 3 w w0.heap.size (fun k_=>(P0_ k_∨w.heap.size≤k_)) u9000_ l0 from Kd.R_mono ho0 (fun k_ hk=>(.inl hk)))
 have HK:=Za (Kept.refl w (fun k_=>P0_ k_))
 have HW0:=Za hB.size
 have HB:=Za hB;clear hB
 have H:(ZS.l0 k l0 a1 0)=some (r1,r2):=h
 clear h
 have H':=Za H
 clear H
 go_enter Tryd.func24,Tryd.ntmps24
 go_wp2
 go_loopg [1,5] k (fun kq v1 v5 w'=>∃(x0_1:List Int) (x1_1:Int) (x5_1:Int),v1=.int .i64 x1_1∧v5=.int .i64 x5_1∧Aside0 (ZS.l0 kq x0_1 x1_1 x5_1=some (r1,r2))∧Aside0 (kq≤k)∧Aside0 (Kd.R (Kd.int .i64) 3 w' w0.heap.size (fun k_=>(P0_ k_∨w.heap.size≤k_)) u9000_ x0_1)∧Aside0 (Kept w w' (fun k_=>P0_ k_))∧Aside0 (Below w0.heap.size w0 w'))
 case atStart=>exact⟨(l0),(a1),(0),(by first|rfl|(simp;done)|(simp[*];done)),(by first|rfl|(simp;done)|(simp[*];done)),H',⟨Nat.le_refl _⟩,⟨by(with_reducible repeat(first|apply Kd.R_alloc|apply Kd.R_drewN|apply Kd.R_drew));exact HO0.out⟩,⟨by repeat(first|(with_reducible first|exact HK.out|apply Kept.alloc|apply Kept.drewN|apply Kept.drew)|exact HK.out)⟩,⟨by repeat(first|(with_reducible first|exact HB.out|apply Zm|apply Zl|apply Zn)|exact HB.out)⟩⟩
 case round=>
  clear H'
  try clear c2
  try clear p2
  obtain⟨x0_1,x1_1,x5_1,rfl,rfl,HA,HK1,HO_0,HK,HB⟩:=hrel
  cases gk with
  | zero=>exact absurd HA.out (by simp[ZS.l0])
  | succ k1=>
   have H:=HA.out
   clear HA
   simp only[ZS.l0] at H
   by_cases c3:x5_1<(x0_1.length:Int)
   ·rw[if_pos c3] at H
    have c3b0:decide (x5_1<(x0_1.length:Int))=true:=Zd c3
    clear c3
    by_cases c4:0≤x5_1
    ·rw[if_pos c4] at H
     have c4b0:decide (0≤x5_1)=true:=Zd c4
     clear c4
     obtain⟨y24001,hy24001⟩:∃y_:List Int,y_=(x0_1.set (x5_1:Int).toNat x1_1):=⟨_,rfl⟩
     replace H:(ZS.l0 k1 y24001 (wrap64 (x1_1+1)) (wrap64 (x5_1+1)))=some (r1,r2):=by first|(rw[hy24001];with_reducible exact H)|(have H2_:=(Zh _ _).symm.trans H;rw[hy24001];with_reducible exact H2_)|(have H2_:=(Zh _ _).symm.trans H;with_reducible exact H2_)|with_reducible exact H|(rw[hy24001];exact H)|exact H
     have Ny24001:=Za hy24001;clear hy24001
     have H':=Za H
     clear H
     obtain⟨Ao6,co6,eo6⟩:=Kd.R_slice HO_0.out
     subst eo6
     have p5:0≤(x5_1:Int):=Zc (by first|(with_reducible assumption)|assumption)
     have q5:(x5_1:Int)<((x0_1.length:Int):Int):=Zc (by first|(with_reducible assumption)|assumption)
     obtain⟨go5,co5,eo5,gb5,gl5,cl5,HG5⟩:=Kd.R_form HO_0.out (by omega)
     (first|cases eo5|(injection eo5 with ea_ en_ ec_;(first|subst ea_|(injection ea_ with ea_;subst ea_));subst ec_;clear en_))
     have GB5:=Za gb5;have GG5:=Za HG5;clear gb5 gl5 HG5
     have HMgo5:=Za (show(P0_ go5∨w.heap.size≤go5) from(HO_0.out.1 _ rfl))
     obtain⟨hx5_0,hf5_0⟩:=Kd.R_celln 0 HO_0.out (x5_1:Int) p5 q5
     replace p5:=eq_true p5
     replace q5:=eq_true q5
     have HP7:=Kd.R_putg HO_0.out (x5_1:Int) x1_1
     go_wp2_with (first|((with_reducible refine Zcf (t:=3) (p:=15) rfl ?_);refine ZbP (t:=3) (p:=15) (v:=?vo_w8) (w1:=(wr.setCell ⟨go5,(x5_1:Int).toNat,none⟩ (.int .i64 x1_1))) ?hg ?ho ?hn ?hr ?_;(case ho=>rfl);(case hg=>rfl);(case hn=>rfl);(case hr=>first|(go_simp;done)|(go_simp;rfl));intro w8 hw;have hg:wr.grownBy w8 (some go5):=(by rw[hw];exact HP7.2);have hp_:Kd.R (Kd.int .i64) 3 w8 w0.heap.size (fun k_=>(P0_ k_∨w.heap.size≤k_)) (.slice (some ⟨go5,0,none⟩) x0_1.length co6) y24001:=(by rw[hw,Ny24001.out];exact HP7.1);clear HP7;replace HB:=Za ((by rw[hw];exact ZH (HB.out) GB5.out:Below w0.heap.size w0 w8));replace HK:=Za (Kept.of_grown (S:=(fun k_=>P0_ k_)) hg (by repeat(first|(with_reducible first|exact HK.out|apply Kept.alloc|apply Kept.drewN|apply Kept.drew)|exact HK.out)) (fun k_ e_=>(HO_0.out.1 k_ e_)));replace HO_0:=Za (hp_);clear hg hw hp_))
     go_roundg k1
     case measure=>have:=HK1.out;omega
     case rel=>exact⟨(y24001),(wrap64 (x1_1+1)),(wrap64 (x5_1+1)),(by first|rfl|(simp;done)|(simp[*];done)),(by first|rfl|(simp;done)|(simp[*];done)),H',⟨by have:=HK1.out;omega⟩,⟨by(with_reducible repeat(first|apply Kd.R_alloc|apply Kd.R_drewN|apply Kd.R_drew));exact HO_0.out⟩,⟨by repeat(first|(with_reducible first|exact HK.out|apply Kept.alloc|apply Kept.drewN|apply Kept.drew)|exact HK.out)⟩,⟨by repeat(first|(with_reducible first|exact HB.out|apply Zm|apply Zl|apply Zn)|exact HB.out)⟩⟩
    ·rw[if_neg c4] at H
     exact absurd H (by simp)
   ·rw[if_neg c3] at H
    have c3b0:decide (x5_1<(x0_1.length:Int))=false:=Ze c3
    clear c3
    simp only[Option.some.injEq,Prod.mk.injEq] at H
    obtain⟨rfl,rfl⟩:=H
    obtain⟨Ao9,co9,eo9⟩:=Kd.R_slice HO_0.out
    subst eo9
    go_wp2
    go_ret
    exact⟨by first|rfl|(simp[Zr,Zq] <;> rfl)|(simp[*,Zr,Zq] <;> rfl),by(with_reducible repeat(first|apply Kd.R_alloc|apply Kd.R_drewN|apply Kd.R_drew));exact HO_0.out,by repeat(first|(with_reducible first|exact HB.out|apply Zm|apply Zl|apply Zn)|exact HB.out),by repeat(first|(with_reducible first|exact HK.out|apply Kept.alloc|apply Kept.drewN|apply Kept.drew)|exact HK.out)⟩
def ZU.l0:Nat→List Int→Int→Int→Option (Int)
 | 0,_,_,_=>none
 | k+1,x0,x1,x5=>if x5<(x0.length:Int) then(if 0≤x5 then(if (rd x0 x5)=x1 then(ZU.l0 k x0 (wrap64 (x1+1)) (wrap64 (x5+1))) else(some (-1))) else(none)) else(some x1)
def ZU.f (k:Nat) (l0:List Int) (a1:Int):Option (Int):=ZU.l0 k l0 a1 0
set_option maxHeartbeats 8000000 in
set_option maxRecDepth 100000 in
theorem ZU.calls (k:Nat) (A0:Option Addr) (c0:Nat) (l0:List Int) (a1:Int) (r:Int) (w:World) (hr0:Kd.C (Kd.int .i64) w A0 l0.length l0) (hc0:l0.length≤c0) (h:ZU.f k l0 a1=some r) :
  Calls Tryd.prog 25 #[.slice A0 l0.length c0,.int .i64 a1] w fun e w'=>e=.returned (.int .i64 r)∧Zw w w':=by
 have HR0:=Za hr0;have HC0:=Za hc0;clear hr0 hc0
 have H:(ZU.l0 k l0 a1 0)=some r:=h
 clear h
 have H':=Za H
 clear H
 go_enter Tryd.func25,Tryd.ntmps25
 go_wp2
 go_loopg [1,5] k (fun kq v1 v5 w'=>∃(x1_1:Int) (x5_1:Int),v1=.int .i64 x1_1∧v5=.int .i64 x5_1∧Aside0 (ZU.l0 kq l0 x1_1 x5_1=some r)∧Aside0 (kq≤k)∧Zw w w')
 case atStart=>exact⟨(a1),(0),(by first|rfl|(simp;done)|(simp[*];done)),(by first|rfl|(simp;done)|(simp[*];done)),H',⟨Nat.le_refl _⟩,by repeat(first|exact Zw.refl _|apply Zw.step)⟩
 case round=>
  clear H'
  try clear c2
  try clear p2
  obtain⟨x1_1,x5_1,rfl,rfl,HA,HK1,⟨m1,rfl⟩⟩:=hrel
  cases gk with
  | zero=>exact absurd HA.out (by simp[ZU.l0])
  | succ k1=>
   have H:=HA.out
   clear HA
   simp only[ZU.l0] at H
   by_cases c3:x5_1<(l0.length:Int)
   ·rw[if_pos c3] at H
    have c3b0:decide (x5_1<(l0.length:Int))=true:=Zd c3
    clear c3
    by_cases c4:0≤x5_1
    ·rw[if_pos c4] at H
     have c4b0:decide (0≤x5_1)=true:=Zd c4
     clear c4
     by_cases c5:(rd l0 x5_1)=x1_1
     ·rw[if_pos c5] at H
      have c5b0:((rd l0 x5_1) == x1_1)=true:=beq_iff_eq.mpr c5
      have c5b1:((rd l0 x5_1) != x1_1)=false:=bne_eq_false_iff_eq.mpr c5
      clear c5
      have H':=Za H
      clear H
      have p25001:0≤(x5_1:Int):=Zc (by first|(with_reducible assumption)|assumption)
      have q25001:x5_1<(l0.length:Int):=Zc (by first|(with_reducible assumption)|assumption)
      obtain⟨ad25001,e25001,hx25001_0⟩:=Kd.at_int HR0.out x5_1 p25001 q25001
      cases e25001
      replace p25001:=eq_true p25001
      replace q25001:=eq_true q25001
      go_wp2
      go_roundg k1
      case measure=>have:=HK1.out;omega
      case rel=>exact⟨(wrap64 (x1_1+1)),(wrap64 (x5_1+1)),(by first|rfl|(simp;done)|(simp[*];done)),(by first|rfl|(simp;done)|(simp[*];done)),H',⟨by have:=HK1.out;omega⟩,by repeat(first|exact Zw.refl _|apply Zw.step)⟩
     ·rw[if_neg c5] at H
      have c5b0:((rd l0 x5_1) == x1_1)=false:=beq_eq_false_iff_ne.mpr c5
      have c5b1:((rd l0 x5_1) != x1_1)=true:=bne_iff_ne.mpr c5
      obtain rfl:=Zf H
      have p25001:0≤(x5_1:Int):=Zc (by first|(with_reducible assumption)|assumption)
      have q25001:x5_1<(l0.length:Int):=Zc (by first|(with_reducible assumption)|assumption)
      obtain⟨ad25001,e25001,hx25001_0⟩:=Kd.at_int HR0.out x5_1 p25001 q25001
      cases e25001
      replace p25001:=eq_true p25001
      replace q25001:=eq_true q25001
      go_wp2
      go_ret
      exact⟨by first|rfl|(simp;done)|(simp[*];done),by repeat(first|exact Zw.refl _|apply Zw.step)⟩
    ·rw[if_neg c4] at H
     exact absurd H (by simp)
   ·rw[if_neg c3] at H
    have c3b0:decide (x5_1<(l0.length:Int))=false:=Ze c3
    clear c3
    obtain rfl:=Zf H
    go_wp2
    go_ret
    exact⟨by first|rfl|(simp;done)|(simp[*];done),by repeat(first|exact Zw.refl _|apply Zw.step)⟩
end Go.Proofs.YthphnhmabieflaaDoor.Pr
namespace Go.Proofs.YthphnhmabieflaaDoor.Pr
open Go.RowKit Go.Proofs.YthphnhmabieflaaDoorW.PrintWords Go.Proofs.YthphnhmabieflaaDoor.Ni
def Zam (a:Int):Nat→List Int
 | 0=>[]
 | n+1=>a :: Zam (a+1) n
theorem Zab:∀(n:Nat) (a:Int),(Zam a n).length=n
 | 0,_=>rfl
 | n+1,a=>by rw[Zam,List.length_cons,Zab n]
theorem Zbr:∀(n i:Nat) (a:Int),i<n→(Zam a n).getD i 0=a+i
 | n+1,0,a,_=>by simp[Zam]
 | n+1,i+1,a,h=>by
  rw[Zam,List.getD_cons_succ,Zbr n i (a+1) (by omega)];omega
theorem marks_split:∀(n i:Nat) (a:Int),i<n→(Zam a n).drop i=(a+i) :: (Zam a n).drop (i+1):=by
 intro n i a h
 rw[Zag (by rw[Zab];exact h) 0,Zbr n i a h]
theorem markIntS_f (l:List Int) (hl:l.length≤1048576) (a:Int) (h0:0≤a) (h1:a≤1152921504606846976) (k:Nat) (hk:2 ^ 64≤k):ZS.f k l a=some (a+l.length,Zam a l.length):=by
 have key:=Zat l.length (fun k i=>ZS.l0 k ((Zam a l.length).take i ++ l.drop i) (a+i) (i:Int)=some (a+l.length,Zam a l.length)) 0
  (fun k _=>by
   simp only[ZS.l0]
   rw[if_neg (by simp[Zab]),List.drop_length,List.append_nil,List.take_of_length_le (by rw[Zab];exact Nat.le_refl _)])
  (fun k i _ hi ih=>by
   simp only[ZS.l0]
   rw[if_pos (by simp[Zab];omega),if_pos (by omega),Z9 hi (by omega),Z4 (i:=a+i+1) (by omega) (by omega),Int.toNat_natCast]
   have e:((Zam a l.length).take i ++ l.drop i).set i (a+i)=(Zam a l.length).take (i+1) ++ l.drop (i+1):=by
    have hlen:((Zam a l.length).take i).length=i:=by rw[Zi,Zab];omega
    rw[List.set_append_right _ _ (by omega),hlen,Nat.sub_self,Zag hi 0,List.set_cons_zero,List.take_succ_eq_append_getElem (by rw[Zab];exact hi),List.append_assoc]
    congr 1
    have:=Zbr l.length i a hi
    rw[List.getD_eq_getElem?_getD,Zk (by rw[Zab];exact hi)] at this
    simp only[Option.getD_some] at this
    rw[this];rfl
   rw[e,show a+(i:Int)+1=a+((i+1:Nat):Int) by omega]
   exact ih) 0 k (Nat.zero_le _) (by omega)
 unfold ZS.f
 simpa using key
theorem heldIntS_f (n:Nat) (hl:n≤1048576) (a:Int) (h0:0≤a) (h1:a≤1152921504606846976) (k:Nat) (hk:2 ^ 64≤k):ZU.f k (Zam a n) a=some (a+n):=by
 have key:=Zat n (fun k i=>ZU.l0 k (Zam a n) (a+i) (i:Int)=some (a+n)) 0
  (fun k _=>by
   simp only[ZU.l0]
   rw[if_neg (by rw[Zab];omega)])
  (fun k i _ hi ih=>by
   simp only[ZU.l0]
   rw[if_pos (by rw[Zab];omega),if_pos (by omega),ZaG,Zbr n i a hi,if_pos rfl,Z9 hi (by omega),Z4 (i:=a+i+1) (by omega) (by omega),show a+(i:Int)+1=a+((i+1:Nat):Int) by omega]
   exact ih) 0 k (Nat.zero_le _) (by omega)
 unfold ZU.f
 simpa using key
theorem markIntS_k (w0 w:World) (b:Nat) (v:Value) (l:List Int) (hB:Below w0.heap.size w0 w) (hr:Kd.R (Kd.int .i64) 3 w w0.heap.size (fun k=>k<b) v l) (hl:l.length≤1048576) (a:Int) (h0:0≤a) (h1:a≤562949953421312) :
  Calls Tryd.prog 24 #[v,.int .i64 a] w fun e w'=>e=.returned (.int .i64 (a+l.length))∧Kd.R (Kd.int .i64) 3 w' w0.heap.size (fun k=>k<b) v (Zam a l.length)∧Below w0.heap.size w0 w'∧Kept w w' (fun k=>k<b):=by
 have hb:=hr.1
 have h:=ZS.calls (2 ^ 64) (fun k=>some k=v.ownBlock) v l a _ _ w0 w hB (Kd.R_tight (by rfl) hr) (markIntS_f l hl a h0 (by omega) (2 ^ 64) (Nat.le_refl _))
 refine h.mono ?_
 rintro e w' ⟨he,h2,h3,h4⟩
 exact⟨he,Kd.R_mono (Kd.R_tight (by rfl) h2) (fun k hk=>hb k hk.symm),h3,h4.mono (fun k hk=>hb k hk.symm)⟩
theorem marked_reads {w:World} {base:Nat} {ok:Nat→Prop} {A:Option Addr} {n c:Nat} {a:Int} (h:Kd.R (Kd.int .i64) 3 w base ok (.slice A n c) (Zam a n)):n≤c∧Kd.C (Kd.int .i64) w A n (Zam a n):=by
 have h2:=Kd.R_reads' h
 rw[Zab] at h2
 exact h2.2
theorem Zce (w:World) (A:Option Addr) (c:Nat) (a:Int) (n:Nat) (hr:Kd.C (Kd.int .i64) w A n (Zam a n)) (hc:n≤c) (hl:n≤1048576) (h0:0≤a) (h1:a≤562949953421312) :
  Calls Tryd.prog 25 #[.slice A n c,.int .i64 a] w fun e w'=>e=.returned (.int .i64 (a+n))∧Below w.heap.size w w':=by
 have h:=ZU.calls (2 ^ 64) A c (Zam a n) a _ w (by rw[Zab];exact hr) (by rw[Zab];exact hc) (heldIntS_f n hl a h0 (by omega) (2 ^ 64) (Nat.le_refl _))
 rw[Zab] at h
 exact h.mono fun _ _ ⟨he,hd⟩=>⟨he,hd.below⟩
end Go.Proofs.YthphnhmabieflaaDoor.Pr
namespace Go.Proofs.YthphnhmabieflaaDoor.Pr
open Go.RowKit Go.Proofs.YthphnhmabieflaaDoorW.PrintWords Go.Proofs.YthphnhmabieflaaDoorW.PrintLast Go.Proofs.YthphnhmabieflaaDoorW.PrintMore
attribute [local go_sem] Zal Zaj Zas Zar Zaf Zae Zak Zai
set_option linter.unusedVariables false
set_option linter.unusedSimpArgs false
def ZL.f (a0:Int):Option (Int):=if a0<0 then(some (wrap64 (-a0))) else(some a0)
set_option maxHeartbeats 8000000 in
set_option maxRecDepth 100000 in
theorem ZL.calls (a0:Int) (r:Int) (w:World) (h:ZL.f a0=some r) :
  Calls Tryd.prog 36 #[.int .i64 a0] w fun e w'=>e=.returned (.int .i64 r)∧Zw w w':=by
 have H:(if a0<0 then(some (wrap64 (-a0))) else(some a0))=some r:=h
 clear h
 by_cases c2:a0<0
 ·rw[if_pos c2] at H
  have c2b0:decide (a0<0)=true:=Zd c2
  clear c2
  obtain rfl:=Zf H
  go_enter Tryd.func36,Tryd.ntmps36
  go_wp2
  go_ret
  exact⟨by first|rfl|(simp;done)|(simp[*];done),by repeat(first|exact Zw.refl _|apply Zw.step)⟩
 ·rw[if_neg c2] at H
  have c2b0:decide (a0<0)=false:=Ze c2
  clear c2
  obtain rfl:=Zf H
  go_enter Tryd.func36,Tryd.ntmps36
  go_wp2
  go_ret
  exact⟨by first|rfl|(simp;done)|(simp[*];done),by repeat(first|exact Zw.refl _|apply Zw.step)⟩
def Z3.f (a0:Int) (a1:Int) (a2:Int):Option (Bool):=if a0≥a1 then(some (decide (a0≤a2))) else(some false)
set_option maxHeartbeats 8000000 in
set_option maxRecDepth 100000 in
theorem Z3.calls (a0:Int) (a1:Int) (a2:Int) (r:Bool) (w:World) (h:Z3.f a0 a1 a2=some r) :
  Calls Tryd.prog 44 #[.int .i64 a0,.int .i64 a1,.int .i64 a2] w fun e w'=>e=.returned (.bool r)∧Zw w w':=by
 have H:(if a0≥a1 then(some (decide (a0≤a2))) else(some false))=some r:=h
 clear h
 by_cases c4:a0≥a1
 ·rw[if_pos c4] at H
  have c4b0:decide (a1≤a0)=true:=Zd c4
  clear c4
  obtain rfl:=Zf H
  go_enter Tryd.func44,Tryd.ntmps44
  go_wp2
  go_ret
  exact⟨by first|rfl|(simp;done)|(simp[*];done),by repeat(first|exact Zw.refl _|apply Zw.step)⟩
 ·rw[if_neg c4] at H
  have c4b0:decide (a1≤a0)=false:=Ze c4
  clear c4
  obtain rfl:=Zf H
  go_enter Tryd.func44,Tryd.ntmps44
  go_wp2
  go_ret
  exact⟨by first|rfl|(simp;done)|(simp[*];done),by repeat(first|exact Zw.refl _|apply Zw.step)⟩
def Zz.l0:Nat→List Int→List Int→Int→Int→Option (Bool)
 | 0,_,_,_,_=>none
 | k+1,x0,x5,x6,x7=>if x7<x6 then(if 0≤x7 then(if x7<(x5.length:Int) then(if (rd x5 x7)=0 then(some false) else((Z3.f (rd x5 x7) (-3) 3).bind fun t34002=>(if t34002=true then(if x7 > 0 then(if 0≤(wrap64 (x7 - 1)) then(if (wrap64 (x7 - 1))<(x0.length:Int) then((ZL.f (rd x0 (wrap64 (x7 - 1)))).bind fun t34004=>((ZL.f (rd x5 x7)).bind fun t34005=>(if t34004≥t34005 then(some false) else(Zz.l0 k x0 x5 x6 (wrap64 (x7+1)))))) else(none)) else(none)) else(Zz.l0 k x0 x5 x6 (wrap64 (x7+1)))) else(some false)))) else(none)) else(none)) else(some true)
def Zz.f (k:Nat) (l0:List Int):Option (Bool):=Zz.l0 k l0 l0 (l0.length:Int) 0
set_option maxHeartbeats 8000000 in
set_option maxRecDepth 100000 in
theorem Zz.calls (k:Nat) (A0:Option Addr) (c0:Nat) (l0:List Int) (r:Bool) (w:World) (hr0:Kd.C (Kd.int .i64) w A0 l0.length l0) (hc0:l0.length≤c0) (h:Zz.f k l0=some r) :
  Calls Tryd.prog 34 #[.slice A0 l0.length c0] w fun e w'=>e=.returned (.bool r)∧Zw w w':=by
 have HR0:=Za hr0;have HC0:=Za hc0;clear hr0 hc0
 have H:(Zz.l0 k l0 l0 (l0.length:Int) 0)=some r:=h
 clear h
 have H':=Za H
 clear H
 go_enter Tryd.func34,Tryd.ntmps34
 go_wp2
 go_loopg [7] k (fun kq v7 w'=>∃(x7_1:Int),v7=.int .i64 x7_1∧Aside0 (Zz.l0 kq l0 l0 (l0.length:Int) x7_1=some r)∧Aside0 (kq≤k)∧Zw w w')
 case atStart=>exact⟨(0),(by first|rfl|(simp;done)|(simp[*];done)),H',⟨Nat.le_refl _⟩,by repeat(first|exact Zw.refl _|apply Zw.step)⟩
 case round=>
  clear H'
  obtain⟨x7_1,rfl,HA,HK1,⟨m1,rfl⟩⟩:=hrel
  cases gk with
  | zero=>exact absurd HA.out (by simp[Zz.l0])
  | succ k1=>
   have H:=HA.out
   clear HA
   simp only[Zz.l0] at H
   by_cases c2:x7_1<(l0.length:Int)
   ·rw[if_pos c2] at H
    have c2b0:decide (x7_1<(l0.length:Int))=true:=Zd c2
    clear c2
    by_cases c3:0≤x7_1
    ·rw[if_pos c3] at H
     have c3b0:decide (0≤x7_1)=true:=Zd c3
     clear c3
     by_cases c4:x7_1<(l0.length:Int)
     ·rw[if_pos c4] at H
      have c4b0:decide (x7_1<(l0.length:Int))=true:=Zd c4
      clear c4
      by_cases c5:(rd l0 x7_1)=0
      ·rw[if_pos c5] at H
       have c5b0:((rd l0 x7_1) == 0)=true:=beq_iff_eq.mpr c5
       have c5b1:((rd l0 x7_1) != 0)=false:=bne_eq_false_iff_eq.mpr c5
       clear c5
       obtain rfl:=Zf H
       have p34001:0≤(x7_1:Int):=Zc (by first|(with_reducible assumption)|assumption)
       have q34001:x7_1<(l0.length:Int):=Zc (by first|(with_reducible assumption)|assumption)
       obtain⟨ad34001,e34001,hx34001_0⟩:=Kd.at_int HR0.out x7_1 p34001 q34001
       cases e34001
       replace p34001:=eq_true p34001
       replace q34001:=eq_true q34001
       go_wp2
       go_ret
       exact⟨by first|rfl|(simp;done)|(simp[*];done),by repeat(first|exact Zw.refl _|apply Zw.step)⟩
      ·rw[if_neg c5] at H
       have c5b0:((rd l0 x7_1) == 0)=false:=beq_eq_false_iff_ne.mpr c5
       have c5b1:((rd l0 x7_1) != 0)=true:=bne_iff_ne.mpr c5
       replace H:=Zg H
       obtain⟨t34002,A60,H⟩:=H
       replace H:(if t34002=true then(if x7_1 > 0 then(if 0≤(wrap64 (x7_1 - 1)) then(if (wrap64 (x7_1 - 1))<(l0.length:Int) then((ZL.f (rd l0 (wrap64 (x7_1 - 1)))).bind fun t34004=>((ZL.f (rd l0 x7_1)).bind fun t34005=>(if t34004≥t34005 then(some false) else(Zz.l0 k1 l0 l0 (l0.length:Int) (wrap64 (x7_1+1)))))) else(none)) else(none)) else(Zz.l0 k1 l0 l0 (l0.length:Int) (wrap64 (x7_1+1)))) else(some false))=some r:=H
       have A6:=Za A60;clear A60
       by_cases c7:t34002=true
       ·subst c7
        have H1:(if x7_1 > 0 then(if 0≤(wrap64 (x7_1 - 1)) then(if (wrap64 (x7_1 - 1))<(l0.length:Int) then((ZL.f (rd l0 (wrap64 (x7_1 - 1)))).bind fun t34004=>((ZL.f (rd l0 x7_1)).bind fun t34005=>(if t34004≥t34005 then(some false) else(Zz.l0 k1 l0 l0 (l0.length:Int) (wrap64 (x7_1+1)))))) else(none)) else(none)) else(Zz.l0 k1 l0 l0 (l0.length:Int) (wrap64 (x7_1+1))))=some r:=by rw[if_pos rfl] at H;exact H
        clear H
        have H:=H1
        clear H1
        by_cases c8:x7_1 > 0
        ·rw[if_pos c8] at H
         have c8b0:decide (0<x7_1)=true:=Zd c8
         clear c8
         obtain⟨ji9,hji9⟩:∃j_:Int,(wrap64 (x7_1 - 1))=j_:=⟨_,rfl⟩
         replace H:(if 0≤(ji9) then(if (ji9)<(l0.length:Int) then((ZL.f (rd l0 (ji9))).bind fun t34004=>((ZL.f (rd l0 x7_1)).bind fun t34005=>(if t34004≥t34005 then(some false) else(Zz.l0 k1 l0 l0 (l0.length:Int) (wrap64 (x7_1+1)))))) else(none)) else(none))=some r:=by first|(rw[hji9] at H;exact H)|(simp only[hji9] at H ⊢;exact H)
         (try rw[hji9] at A6)
         have hji9w:(IntKind.i64.wrap (x7_1 - 1))=ji9:=(Z6 _).trans hji9
         by_cases c10:0≤(ji9)
         ·rw[if_pos c10] at H
          have c10b0:decide (0≤(ji9))=true:=Zd c10
          clear c10
          by_cases c11:(ji9)<(l0.length:Int)
          ·rw[if_pos c11] at H
           have c11b0:decide ((ji9)<(l0.length:Int))=true:=Zd c11
           clear c11
           replace H:=Zg H
           obtain⟨t34004,A120,H⟩:=H
           replace H:((ZL.f (rd l0 x7_1)).bind fun t34005=>(if t34004≥t34005 then(some false) else(Zz.l0 k1 l0 l0 (l0.length:Int) (wrap64 (x7_1+1)))))=some r:=H
           have A12:=Za A120;clear A120
           replace H:=Zg H
           obtain⟨t34005,A130,H⟩:=H
           replace H:(if t34004≥t34005 then(some false) else(Zz.l0 k1 l0 l0 (l0.length:Int) (wrap64 (x7_1+1))))=some r:=H
           have A13:=Za A130;clear A130
           by_cases c14:t34004≥t34005
           ·rw[if_pos c14] at H
            have c14b0:decide (t34005≤t34004)=true:=Zd c14
            clear c14
            obtain rfl:=Zf H
            have p34001:0≤(x7_1:Int):=Zc (by first|(with_reducible assumption)|assumption)
            have q34001:x7_1<(l0.length:Int):=Zc (by first|(with_reducible assumption)|assumption)
            obtain⟨ad34001,e34001,hx34001_0⟩:=Kd.at_int HR0.out x7_1 p34001 q34001
            cases e34001
            replace p34001:=eq_true p34001
            replace q34001:=eq_true q34001
            go_wp2_with (first|(go_at_call 44;(with_reducible refine(Z3.calls (rd l0 x7_1) (-3) 3 true _ A6.out).mono ?_);rintro e w' ⟨rfl,⟨nd,rfl⟩⟩;have p34003:0≤((ji9):Int):=Zc (by first|(with_reducible assumption)|assumption);have q34003:(ji9)<(l0.length:Int):=Zc (by first|(with_reducible assumption)|assumption);obtain⟨ad34003,e34003,hx34003_0⟩:=Kd.at_int HR0.out (ji9) p34003 q34003;obtain rfl:ad34001=ad34003:=(by injection e34003);replace p34003:=eq_true p34003;replace q34003:=eq_true q34003)|(go_at_call 36;(with_reducible refine(ZL.calls (rd l0 (ji9)) t34004 _ A12.out).mono ?_);rintro e w' ⟨rfl,⟨nd,rfl⟩⟩)|(go_at_call 36;(with_reducible refine(ZL.calls (rd l0 x7_1) t34005 _ A13.out).mono ?_);rintro e w' ⟨rfl,⟨nd,rfl⟩⟩))
            go_ret
            exact⟨by first|rfl|(simp;done)|(simp only[← hji9] <;> (first|rfl|simp))|(simp[*];done),by repeat(first|exact Zw.refl _|apply Zw.step)⟩
           ·rw[if_neg c14] at H
            have c14b0:decide (t34005≤t34004)=false:=Ze c14
            clear c14
            have H':=Za H
            clear H
            have p34001:0≤(x7_1:Int):=Zc (by first|(with_reducible assumption)|assumption)
            have q34001:x7_1<(l0.length:Int):=Zc (by first|(with_reducible assumption)|assumption)
            obtain⟨ad34001,e34001,hx34001_0⟩:=Kd.at_int HR0.out x7_1 p34001 q34001
            cases e34001
            replace p34001:=eq_true p34001
            replace q34001:=eq_true q34001
            go_wp2_with (first|(go_at_call 44;(with_reducible refine(Z3.calls (rd l0 x7_1) (-3) 3 true _ A6.out).mono ?_);rintro e w' ⟨rfl,⟨nd,rfl⟩⟩;have p34003:0≤((ji9):Int):=Zc (by first|(with_reducible assumption)|assumption);have q34003:(ji9)<(l0.length:Int):=Zc (by first|(with_reducible assumption)|assumption);obtain⟨ad34003,e34003,hx34003_0⟩:=Kd.at_int HR0.out (ji9) p34003 q34003;obtain rfl:ad34001=ad34003:=(by injection e34003);replace p34003:=eq_true p34003;replace q34003:=eq_true q34003)|(go_at_call 36;(with_reducible refine(ZL.calls (rd l0 (ji9)) t34004 _ A12.out).mono ?_);rintro e w' ⟨rfl,⟨nd,rfl⟩⟩)|(go_at_call 36;(with_reducible refine(ZL.calls (rd l0 x7_1) t34005 _ A13.out).mono ?_);rintro e w' ⟨rfl,⟨nd,rfl⟩⟩))
            go_roundg k1
            case measure=>have:=HK1.out;omega
            case rel=>exact⟨(wrap64 (x7_1+1)),(by first|rfl|(simp;done)|(simp[*];done)),H',⟨by have:=HK1.out;omega⟩,by repeat(first|exact Zw.refl _|apply Zw.step)⟩
          ·rw[if_neg c11] at H
           exact absurd H (by simp)
         ·rw[if_neg c10] at H
          exact absurd H (by simp)
        ·rw[if_neg c8] at H
         have c8b0:decide (0<x7_1)=false:=Ze c8
         clear c8
         have H':=Za H
         clear H
         have p34001:0≤(x7_1:Int):=Zc (by first|(with_reducible assumption)|assumption)
         have q34001:x7_1<(l0.length:Int):=Zc (by first|(with_reducible assumption)|assumption)
         obtain⟨ad34001,e34001,hx34001_0⟩:=Kd.at_int HR0.out x7_1 p34001 q34001
         cases e34001
         replace p34001:=eq_true p34001
         replace q34001:=eq_true q34001
         go_wp2_with (first|(go_at_call 44;(with_reducible refine(Z3.calls (rd l0 x7_1) (-3) 3 true _ A6.out).mono ?_);rintro e w' ⟨rfl,⟨nd,rfl⟩⟩))
         go_roundg k1
         case measure=>have:=HK1.out;omega
         case rel=>exact⟨(wrap64 (x7_1+1)),(by first|rfl|(simp;done)|(simp[*];done)),H',⟨by have:=HK1.out;omega⟩,by repeat(first|exact Zw.refl _|apply Zw.step)⟩
       ·replace c7:=Bool.eq_false_iff.mpr c7
        subst c7
        have H1:(some false)=some r:=by rw[if_neg (show ¬(false=true) by decide)] at H;exact H
        clear H
        have H:=H1
        clear H1
        obtain rfl:=Zf H
        have p34001:0≤(x7_1:Int):=Zc (by first|(with_reducible assumption)|assumption)
        have q34001:x7_1<(l0.length:Int):=Zc (by first|(with_reducible assumption)|assumption)
        obtain⟨ad34001,e34001,hx34001_0⟩:=Kd.at_int HR0.out x7_1 p34001 q34001
        cases e34001
        replace p34001:=eq_true p34001
        replace q34001:=eq_true q34001
        go_wp2_with (first|(go_at_call 44;(with_reducible refine(Z3.calls (rd l0 x7_1) (-3) 3 false _ A6.out).mono ?_);rintro e w' ⟨rfl,⟨nd,rfl⟩⟩))
        go_ret
        exact⟨by first|rfl|(simp;done)|(simp[*];done),by repeat(first|exact Zw.refl _|apply Zw.step)⟩
     ·rw[if_neg c4] at H
      exact absurd H (by simp)
    ·rw[if_neg c3] at H
     exact absurd H (by simp)
   ·rw[if_neg c2] at H
    have c2b0:decide (x7_1<(l0.length:Int))=false:=Ze c2
    clear c2
    obtain rfl:=Zf H
    go_wp2
    go_ret
    exact⟨by first|rfl|(simp;done)|(simp[*];done),by repeat(first|exact Zw.refl _|apply Zw.step)⟩
mutual
def ZB.l0:Nat→ByteArray→ByteArray→List ByteArray→Int→Int→Option (List ByteArray)
 | 0,_,_,_,_,_=>none
 | k+1,x0,x1,x5,x6,x7=>if x7<(x0.size:Int) then(ZB.l1 k x0 x1 x5 x6 x7 0) else(if 0≤x6 then(if x6≤(x0.size:Int) then(if x5.length<8796093022208 then(some (x5 ++ [x0.extract (x6:Int).toNat x0.size])) else(none)) else(none)) else(none))
def ZB.l1:Nat→ByteArray→ByteArray→List ByteArray→Int→Int→Int→Option (List ByteArray)
 | 0,_,_,_,_,_,_=>none
 | k+1,x0,x1,x5,x6,x7,x8=>if x8<(x1.size:Int) then(if 0≤x7 then(if x7<(x0.size:Int) then(if 0≤x8 then(if (bt x0 x7)=(bt x1 x8) then(if 0≤x6 then(if x6≤x7 then(if x7≤(x0.size:Int) then(if x5.length<8796093022208 then(ZB.l0 k x0 x1 (x5 ++ [x0.extract (x6:Int).toNat (x7:Int).toNat]) (wrap64 (x7+1)) (wrap64 (x7+1))) else(none)) else(none)) else(none)) else(none)) else(ZB.l1 k x0 x1 x5 x6 x7 (wrap64 (x8+1)))) else(none)) else(none)) else(none)) else(ZB.l0 k x0 x1 x5 x6 (wrap64 (x7+1)))
end
def ZB.f (k:Nat) (a0:ByteArray) (a1:ByteArray):Option (List ByteArray):=ZB.l0 k a0 a1 (([]:List ByteArray)) 0 0
set_option maxHeartbeats 8000000 in
set_option maxRecDepth 100000 in
theorem ZB.calls (k:Nat) (a0:ByteArray) (a1:ByteArray) (r:List ByteArray) (w:World) (h:ZB.f k a0 a1=some r) :
  Calls Tryd.prog 54 #[.string a0,.string a1] w fun e w'=>∃v0_:Value,e=.returned (v0_)∧Kd.R Kd.string 9 w' w.heap.size (fun _=>True) v0_ r∧Below w.heap.size w w':=by
 have HB:=Za (Below.refl w.heap.size w)
 have H:(ZB.l0 k a0 a1 (([]:List ByteArray)) 0 0)=some r:=h
 clear h
 obtain⟨y54001,hy54001⟩:∃y_:List ByteArray,y_=(([]:List ByteArray)):=⟨_,rfl⟩
 replace H:(ZB.l0 k a0 a1 y54001 0 0)=some r:=by first|(rw[hy54001];with_reducible exact H)|(have H2_:=(Zh _ _).symm.trans H;rw[hy54001];with_reducible exact H2_)|(have H2_:=(Zh _ _).symm.trans H;with_reducible exact H2_)|with_reducible exact H|(rw[hy54001];exact H)|exact H
 have Ny54001:=Za hy54001;clear hy54001
 have H':=Za H
 clear H
 go_enter Tryd.func54,Tryd.ntmps54
 go_wp2_with (first|((with_reducible refine Z5 (N:=9) rfl ?_);refine Kd.R_lit Kd.string _ 9 ?hg (N:=9) ?hd (xs:=([]:List ByteArray)) (inner:=[]) (ok:=fun _=>True) (okp:=fun _=>True) ?hr ?hp (fun _ hk=>hk) trivial (Below.refl _ _) (Nat.le_refl _) (by simp) ?_;(case hd=>rfl);(case hg=>rfl);(case hr=>first|(go_simp;done)|(go_simp;rfl));(case hp=>exact(Reps.none _ _));intro v54002 w3 ho4 hb hg_ hnew_;clear hg_ hnew_;(first|rw[← Ny54001.out] at ho4|(simp only[Int.reduceToNat] at ho4;rw[← Ny54001.out] at ho4));have HO54003:=Za (Kd.R_lower ho4 (Zy (by repeat(first|(with_reducible first|exact HB.out|apply Zm|apply Zl|apply Zn)|exact HB.out))));replace HB:=Za (Zu (by repeat(first|(with_reducible first|exact HB.out|apply Zm|apply Zl|apply Zn)|exact HB.out)) hb);clear hb ho4))
 repeat(go_quiet (first|((with_reducible refine Z5 (N:=9) rfl ?_);refine Kd.R_lit Kd.string _ 9 ?hg (N:=9) ?hd (xs:=([]:List ByteArray)) (inner:=[]) (ok:=fun _=>True) (okp:=fun _=>True) ?hr ?hp (fun _ hk=>hk) trivial (Below.refl _ _) (Nat.le_refl _) (by simp) ?_;(case hd=>rfl);(case hg=>rfl);(case hr=>first|(go_simp;done)|(go_simp;rfl));(case hp=>exact(Reps.none _ _));intro v54002 w3 ho4 hb hg_ hnew_;clear hg_ hnew_;(first|rw[← Ny54001.out] at ho4|(simp only[Int.reduceToNat] at ho4;rw[← Ny54001.out] at ho4));have HO54003:=Za (Kd.R_lower ho4 (Zy (by repeat(first|(with_reducible first|exact HB.out|apply Zm|apply Zl|apply Zn)|exact HB.out))));replace HB:=Za (Zu (by repeat(first|(with_reducible first|exact HB.out|apply Zm|apply Zl|apply Zn)|exact HB.out)) hb);clear hb ho4));try go_wp2_with (first|((with_reducible refine Z5 (N:=9) rfl ?_);refine Kd.R_lit Kd.string _ 9 ?hg (N:=9) ?hd (xs:=([]:List ByteArray)) (inner:=[]) (ok:=fun _=>True) (okp:=fun _=>True) ?hr ?hp (fun _ hk=>hk) trivial (Below.refl _ _) (Nat.le_refl _) (by simp) ?_;(case hd=>rfl);(case hg=>rfl);(case hr=>first|(go_simp;done)|(go_simp;rfl));(case hp=>exact(Reps.none _ _));intro v54002 w3 ho4 hb hg_ hnew_;clear hg_ hnew_;(first|rw[← Ny54001.out] at ho4|(simp only[Int.reduceToNat] at ho4;rw[← Ny54001.out] at ho4));have HO54003:=Za (Kd.R_lower ho4 (Zy (by repeat(first|(with_reducible first|exact HB.out|apply Zm|apply Zl|apply Zn)|exact HB.out))));replace HB:=Za (Zu (by repeat(first|(with_reducible first|exact HB.out|apply Zm|apply Zl|apply Zn)|exact HB.out)) hb);clear hb ho4)))
 go_loopg [5,6,7] k (fun kq v5 v6 v7 w'=>∃(x5_1:List ByteArray) (x6_1:Int) (x7_1:Int),v6=.int .i64 x6_1∧v7=.int .i64 x7_1∧Aside0 (ZB.l0 kq a0 a1 x5_1 x6_1 x7_1=some r)∧Aside0 (kq≤k)∧Aside0 (Kd.R Kd.string 9 w' w.heap.size (fun _=>True) v5 x5_1)∧Aside0 (Below w.heap.size w w'))
 case atStart=>exact⟨(y54001),(0),(0),(by first|rfl|(simp;done)|(simp[*];done)),(by first|rfl|(simp;done)|(simp[*];done)),H',⟨Nat.le_refl _⟩,⟨by(with_reducible repeat(first|apply Kd.R_alloc|apply Kd.R_drewN|apply Kd.R_drew));exact HO54003.out⟩,⟨by repeat(first|(with_reducible first|exact HB.out|apply Zm|apply Zl|apply Zn)|exact HB.out)⟩⟩
 case round=>
  clear H'
  try clear p2
  obtain⟨x5_1,x6_1,x7_1,rfl,rfl,HA,HK1,HO_5,HB⟩:=hrel
  cases gk with
  | zero=>exact absurd HA.out (by simp[ZB.l0])
  | succ k1=>
   have H:=HA.out
   clear HA
   simp only[ZB.l0] at H
   by_cases c5:x7_1<(a0.size:Int)
   ·rw[if_pos c5] at H
    have c5b0:decide (x7_1<(a0.size:Int))=true:=Zd c5
    clear c5
    have H':=Za H
    clear H
    go_wp2
    repeat(go_quiet (fail);try go_wp2)
    go_loopg [5,6,8] k1 (fun kq v5 v6 v8 w'=>∃(x5_2:List ByteArray) (x6_2:Int) (x8_2:Int),v6=.int .i64 x6_2∧v8=.int .i64 x8_2∧Aside0 (ZB.l1 kq a0 a1 x5_2 x6_2 x7_1 x8_2=some r)∧Aside0 (kq≤k1)∧Aside0 (Kd.R Kd.string 9 w' w.heap.size (fun _=>True) v5 x5_2)∧Aside0 (Below w.heap.size w w'))
    case atStart=>exact⟨(x5_1),(x6_1),(0),(by first|rfl|(simp;done)|(simp[*];done)),(by first|rfl|(simp;done)|(simp[*];done)),H',⟨Nat.le_refl _⟩,⟨by(with_reducible repeat(first|apply Kd.R_alloc|apply Kd.R_drewN|apply Kd.R_drew));exact HO_5.out⟩,⟨by repeat(first|(with_reducible first|exact HB.out|apply Zm|apply Zl|apply Zn)|exact HB.out)⟩⟩
    case round=>
     clear H'
     try clear p2
     try clear c5
     try clear c5b0
     try clear p2
     obtain⟨x5_2,x6_2,x8_2,rfl,rfl,HA,HK2,HO_5,HB⟩:=hrel
     cases gk with
     | zero=>exact absurd HA.out (by simp[ZB.l1])
     | succ k2=>
      have H:=HA.out
      clear HA
      simp only[ZB.l1] at H
      by_cases c6:x8_2<(a1.size:Int)
      ·rw[if_pos c6] at H
       have c6b0:decide (x8_2<(a1.size:Int))=true:=Zd c6
       clear c6
       by_cases c7:0≤x7_1
       ·rw[if_pos c7] at H
        have c7b0:decide (0≤x7_1)=true:=Zd c7
        clear c7
        by_cases c8:x7_1<(a0.size:Int)
        ·rw[if_pos c8] at H
         have c8b0:decide (x7_1<(a0.size:Int))=true:=Zd c8
         clear c8
         by_cases c10:0≤x8_2
         ·rw[if_pos c10] at H
          have c10b0:decide (0≤x8_2)=true:=Zd c10
          clear c10
          by_cases c12:(bt a0 x7_1)=(bt a1 x8_2)
          ·rw[if_pos c12] at H
           have c12b0:((bt a0 x7_1) == (bt a1 x8_2))=true:=beq_iff_eq.mpr c12
           have c12b1:((bt a0 x7_1) != (bt a1 x8_2))=false:=bne_eq_false_iff_eq.mpr c12
           clear c12
           by_cases c13:0≤x6_2
           ·rw[if_pos c13] at H
            have c13b0:=eq_true c13
            have c13b1:decide (0≤x6_2)=true:=Zd c13
            clear c13
            by_cases c14:x6_2≤x7_1
            ·rw[if_pos c14] at H
             have c14b0:=eq_true c14
             have c14b1:decide (x6_2≤x7_1)=true:=Zd c14
             clear c14
             by_cases c15:x7_1≤(a0.size:Int)
             ·rw[if_pos c15] at H
              have c15b0:=eq_true c15
              have c15b1:decide (x7_1≤(a0.size:Int))=true:=Zd c15
              clear c15
              by_cases c16:x5_2.length<8796093022208
              ·rw[if_pos c16] at H
               have LMc16:=Za c16;clear c16
               obtain⟨y54007,hy54007⟩:∃y_:List ByteArray,y_=(x5_2 ++ [a0.extract (x6_2:Int).toNat (x7_1:Int).toNat]):=⟨_,rfl⟩
               replace H:(ZB.l0 k2 a0 a1 y54007 (wrap64 (x7_1+1)) (wrap64 (x7_1+1)))=some r:=by first|(rw[hy54007];with_reducible exact H)|(have H2_:=(Zh _ _).symm.trans H;rw[hy54007];with_reducible exact H2_)|(have H2_:=(Zh _ _).symm.trans H;with_reducible exact H2_)|with_reducible exact H|(rw[hy54007];exact H)|exact H
               have Ny54007:=Za hy54007;clear hy54007
               have H':=Za H
               clear H
               have p9:0≤(x7_1:Int):=Zc (by first|(with_reducible assumption)|assumption)
               have q9:x7_1<(a0.size:Int):=Zc (by first|(with_reducible assumption)|assumption)
               have hx9:=Zaw a0 x7_1
               replace p9:=eq_true p9
               replace q9:=eq_true q9
               have p11:0≤(x8_2:Int):=Zc (by first|(with_reducible assumption)|assumption)
               have q11:x8_2<(a1.size:Int):=Zc (by first|(with_reducible assumption)|assumption)
               have hx11:=Zaw a1 x8_2
               replace p11:=eq_true p11
               replace q11:=eq_true q11
               go_wp2_with (first|((with_reducible refine ZW (b:=.append) (xs:=#[.tmp 29,.tmp 34]) rfl ?_);at_builtin;refine Kd.R_append Kd.string (w0:=w) w.heap.size rfl (.tmp 29) (.tmp 34) 56 9 (.string ⟨#[]⟩) 16 rfl Tryd.underlying56 ZaM rfl (by decide) (by omega) u5 x5_2 (a0.extract (x6_2:Int).toNat (x7_1:Int).toNat) [.string (a0.extract (x6_2:Int).toNat (x7_1:Int).toNat)] (fun _=>True) (fun _=>False) rfl rfl ?aP (fun _ hk=>hk.elim) ?aF ?aO ?aB ?aS ?aL ?_;(case aP=>exact rfl);(case aB=>exact(by repeat(first|(with_reducible first|exact HB.out|apply Zm|apply Zl|apply Zn)|exact HB.out)));(case aF=>exact(fun _ _=>trivial));(case aO=>exact(by(with_reducible repeat(first|apply Kd.R_alloc|apply Kd.R_drewN|apply Kd.R_drew));exact HO_5.out));(case aS=>exact(Zy (by repeat(first|(with_reducible first|exact HB.out|apply Zm|apply Zl|apply Zn)|exact HB.out))));(case aL=>have:=LMc16.out;omega);intro v54008 w17 ho hb hg hat;rw[← Ny54007.out] at ho;have HO54009:=Za (ho);replace HB:=Za (hb);clear HO_5;clear ho hb hg hat))
               repeat(go_quiet (first|((with_reducible refine ZW (b:=.append) (xs:=#[.tmp 29,.tmp 34]) rfl ?_);at_builtin;refine Kd.R_append Kd.string (w0:=w) w.heap.size rfl (.tmp 29) (.tmp 34) 56 9 (.string ⟨#[]⟩) 16 rfl Tryd.underlying56 ZaM rfl (by decide) (by omega) u5 x5_2 (a0.extract (x6_2:Int).toNat (x7_1:Int).toNat) [.string (a0.extract (x6_2:Int).toNat (x7_1:Int).toNat)] (fun _=>True) (fun _=>False) rfl rfl ?aP (fun _ hk=>hk.elim) ?aF ?aO ?aB ?aS ?aL ?_;(case aP=>exact rfl);(case aB=>exact(by repeat(first|(with_reducible first|exact HB.out|apply Zm|apply Zl|apply Zn)|exact HB.out)));(case aF=>exact(fun _ _=>trivial));(case aO=>exact(by(with_reducible repeat(first|apply Kd.R_alloc|apply Kd.R_drewN|apply Kd.R_drew));exact HO_5.out));(case aS=>exact(Zy (by repeat(first|(with_reducible first|exact HB.out|apply Zm|apply Zl|apply Zn)|exact HB.out))));(case aL=>have:=LMc16.out;omega);intro v54008 w17 ho hb hg hat;rw[← Ny54007.out] at ho;have HO54009:=Za (ho);replace HB:=Za (hb);clear HO_5;clear ho hb hg hat));try go_wp2_with (first|((with_reducible refine ZW (b:=.append) (xs:=#[.tmp 29,.tmp 34]) rfl ?_);at_builtin;refine Kd.R_append Kd.string (w0:=w) w.heap.size rfl (.tmp 29) (.tmp 34) 56 9 (.string ⟨#[]⟩) 16 rfl Tryd.underlying56 ZaM rfl (by decide) (by omega) u5 x5_2 (a0.extract (x6_2:Int).toNat (x7_1:Int).toNat) [.string (a0.extract (x6_2:Int).toNat (x7_1:Int).toNat)] (fun _=>True) (fun _=>False) rfl rfl ?aP (fun _ hk=>hk.elim) ?aF ?aO ?aB ?aS ?aL ?_;(case aP=>exact rfl);(case aB=>exact(by repeat(first|(with_reducible first|exact HB.out|apply Zm|apply Zl|apply Zn)|exact HB.out)));(case aF=>exact(fun _ _=>trivial));(case aO=>exact(by(with_reducible repeat(first|apply Kd.R_alloc|apply Kd.R_drewN|apply Kd.R_drew));exact HO_5.out));(case aS=>exact(Zy (by repeat(first|(with_reducible first|exact HB.out|apply Zm|apply Zl|apply Zn)|exact HB.out))));(case aL=>have:=LMc16.out;omega);intro v54008 w17 ho hb hg hat;rw[← Ny54007.out] at ho;have HO54009:=Za (ho);replace HB:=Za (hb);clear HO_5;clear ho hb hg hat)))
               go_roundg k2
               case measure=>have:=HK1.out;have:=HK2.out;omega
               case rel=>exact⟨(y54007),(wrap64 (x7_1+1)),(wrap64 (x7_1+1)),(by first|rfl|(simp;done)|(simp[*];done)),(by first|rfl|(simp;done)|(simp[*];done)),H',⟨by have:=HK1.out;have:=HK2.out;omega⟩,⟨by(with_reducible repeat(first|apply Kd.R_alloc|apply Kd.R_drewN|apply Kd.R_drew));exact HO54009.out⟩,⟨by repeat(first|(with_reducible first|exact HB.out|apply Zm|apply Zl|apply Zn)|exact HB.out)⟩⟩
              ·rw[if_neg c16] at H
               exact absurd H (by simp)
             ·rw[if_neg c15] at H
              exact absurd H (by simp)
            ·rw[if_neg c14] at H
             exact absurd H (by simp)
           ·rw[if_neg c13] at H
            exact absurd H (by simp)
          ·rw[if_neg c12] at H
           have c12b0:((bt a0 x7_1) == (bt a1 x8_2))=false:=beq_eq_false_iff_ne.mpr c12
           have c12b1:((bt a0 x7_1) != (bt a1 x8_2))=true:=bne_iff_ne.mpr c12
           have H':=Za H
           clear H
           have p9:0≤(x7_1:Int):=Zc (by first|(with_reducible assumption)|assumption)
           have q9:x7_1<(a0.size:Int):=Zc (by first|(with_reducible assumption)|assumption)
           have hx9:=Zaw a0 x7_1
           replace p9:=eq_true p9
           replace q9:=eq_true q9
           have p11:0≤(x8_2:Int):=Zc (by first|(with_reducible assumption)|assumption)
           have q11:x8_2<(a1.size:Int):=Zc (by first|(with_reducible assumption)|assumption)
           have hx11:=Zaw a1 x8_2
           replace p11:=eq_true p11
           replace q11:=eq_true q11
           go_wp2
           repeat(go_quiet (fail);try go_wp2)
           go_roundg k2
           case measure=>have:=HK1.out;have:=HK2.out;omega
           case rel=>exact⟨(x5_2),(x6_2),(wrap64 (x8_2+1)),(by first|rfl|(simp;done)|(simp[*];done)),(by first|rfl|(simp;done)|(simp[*];done)),H',⟨by have:=HK1.out;have:=HK2.out;omega⟩,⟨by(with_reducible repeat(first|apply Kd.R_alloc|apply Kd.R_drewN|apply Kd.R_drew));exact HO_5.out⟩,⟨by repeat(first|(with_reducible first|exact HB.out|apply Zm|apply Zl|apply Zn)|exact HB.out)⟩⟩
         ·rw[if_neg c10] at H
          exact absurd H (by simp)
        ·rw[if_neg c8] at H
         exact absurd H (by simp)
       ·rw[if_neg c7] at H
        exact absurd H (by simp)
      ·rw[if_neg c6] at H
       have c6b0:decide (x8_2<(a1.size:Int))=false:=Ze c6
       clear c6
       have H':=Za H
       clear H
       go_wp2
       repeat(go_quiet (fail);try go_wp2)
       go_roundg k2
       case measure=>have:=HK1.out;have:=HK2.out;omega
       case rel=>exact⟨(x5_2),(x6_2),(wrap64 (x7_1+1)),(by first|rfl|(simp;done)|(simp[*];done)),(by first|rfl|(simp;done)|(simp[*];done)),H',⟨by have:=HK1.out;have:=HK2.out;omega⟩,⟨by(with_reducible repeat(first|apply Kd.R_alloc|apply Kd.R_drewN|apply Kd.R_drew));exact HO_5.out⟩,⟨by repeat(first|(with_reducible first|exact HB.out|apply Zm|apply Zl|apply Zn)|exact HB.out)⟩⟩
   ·rw[if_neg c5] at H
    have c5b0:decide (x7_1<(a0.size:Int))=false:=Ze c5
    clear c5
    by_cases c18:0≤x6_1
    ·rw[if_pos c18] at H
     have c18b0:=eq_true c18
     have c18b1:decide (0≤x6_1)=true:=Zd c18
     clear c18
     by_cases c19:x6_1≤(a0.size:Int)
     ·rw[if_pos c19] at H
      have c19b0:=eq_true c19
      have c19b1:decide (x6_1≤(a0.size:Int))=true:=Zd c19
      clear c19
      by_cases c20:x5_1.length<8796093022208
      ·rw[if_pos c20] at H
       have LMc20:=Za c20;clear c20
       obtain⟨y54004,hy54004⟩:∃y_:List ByteArray,y_=(x5_1 ++ [a0.extract (x6_1:Int).toNat a0.size]):=⟨_,rfl⟩
       replace H:(some y54004)=some r:=by first|(rw[hy54004];with_reducible exact H)|(have H2_:=(Zh _ _).symm.trans H;rw[hy54004];with_reducible exact H2_)|(have H2_:=(Zh _ _).symm.trans H;with_reducible exact H2_)|with_reducible exact H|(rw[hy54004];exact H)|exact H
       have Ny54004:=Za hy54004;clear hy54004
       obtain rfl:=Zf H
       go_wp2_with (first|((with_reducible refine ZW (b:=.append) (xs:=#[.tmp 38,.tmp 42]) rfl ?_);at_builtin;refine Kd.R_append Kd.string (w0:=w) w.heap.size rfl (.tmp 38) (.tmp 42) 56 9 (.string ⟨#[]⟩) 16 rfl Tryd.underlying56 ZaM rfl (by decide) (by omega) u5 x5_1 (a0.extract (x6_1:Int).toNat a0.size) [.string (a0.extract (x6_1:Int).toNat a0.size)] (fun _=>True) (fun _=>False) rfl rfl ?aP (fun _ hk=>hk.elim) ?aF ?aO ?aB ?aS ?aL ?_;(case aP=>exact rfl);(case aB=>exact(by repeat(first|(with_reducible first|exact HB.out|apply Zm|apply Zl|apply Zn)|exact HB.out)));(case aF=>exact(fun _ _=>trivial));(case aO=>exact(by(with_reducible repeat(first|apply Kd.R_alloc|apply Kd.R_drewN|apply Kd.R_drew));exact HO_5.out));(case aS=>exact(Zy (by repeat(first|(with_reducible first|exact HB.out|apply Zm|apply Zl|apply Zn)|exact HB.out))));(case aL=>have:=LMc20.out;omega);intro v54005 w21 ho hb hg hat;rw[← Ny54004.out] at ho;have HO54006:=Za (ho);replace HB:=Za (hb);clear HO_5;clear ho hb hg hat))
       repeat(go_quiet (first|((with_reducible refine ZW (b:=.append) (xs:=#[.tmp 38,.tmp 42]) rfl ?_);at_builtin;refine Kd.R_append Kd.string (w0:=w) w.heap.size rfl (.tmp 38) (.tmp 42) 56 9 (.string ⟨#[]⟩) 16 rfl Tryd.underlying56 ZaM rfl (by decide) (by omega) u5 x5_1 (a0.extract (x6_1:Int).toNat a0.size) [.string (a0.extract (x6_1:Int).toNat a0.size)] (fun _=>True) (fun _=>False) rfl rfl ?aP (fun _ hk=>hk.elim) ?aF ?aO ?aB ?aS ?aL ?_;(case aP=>exact rfl);(case aB=>exact(by repeat(first|(with_reducible first|exact HB.out|apply Zm|apply Zl|apply Zn)|exact HB.out)));(case aF=>exact(fun _ _=>trivial));(case aO=>exact(by(with_reducible repeat(first|apply Kd.R_alloc|apply Kd.R_drewN|apply Kd.R_drew));exact HO_5.out));(case aS=>exact(Zy (by repeat(first|(with_reducible first|exact HB.out|apply Zm|apply Zl|apply Zn)|exact HB.out))));(case aL=>have:=LMc20.out;omega);intro v54005 w21 ho hb hg hat;rw[← Ny54004.out] at ho;have HO54006:=Za (ho);replace HB:=Za (hb);clear HO_5;clear ho hb hg hat));try go_wp2_with (first|((with_reducible refine ZW (b:=.append) (xs:=#[.tmp 38,.tmp 42]) rfl ?_);at_builtin;refine Kd.R_append Kd.string (w0:=w) w.heap.size rfl (.tmp 38) (.tmp 42) 56 9 (.string ⟨#[]⟩) 16 rfl Tryd.underlying56 ZaM rfl (by decide) (by omega) u5 x5_1 (a0.extract (x6_1:Int).toNat a0.size) [.string (a0.extract (x6_1:Int).toNat a0.size)] (fun _=>True) (fun _=>False) rfl rfl ?aP (fun _ hk=>hk.elim) ?aF ?aO ?aB ?aS ?aL ?_;(case aP=>exact rfl);(case aB=>exact(by repeat(first|(with_reducible first|exact HB.out|apply Zm|apply Zl|apply Zn)|exact HB.out)));(case aF=>exact(fun _ _=>trivial));(case aO=>exact(by(with_reducible repeat(first|apply Kd.R_alloc|apply Kd.R_drewN|apply Kd.R_drew));exact HO_5.out));(case aS=>exact(Zy (by repeat(first|(with_reducible first|exact HB.out|apply Zm|apply Zl|apply Zn)|exact HB.out))));(case aL=>have:=LMc20.out;omega);intro v54005 w21 ho hb hg hat;rw[← Ny54004.out] at ho;have HO54006:=Za (ho);replace HB:=Za (hb);clear HO_5;clear ho hb hg hat)))
       go_ret
       exact⟨_,by first|rfl|(simp[Zr,Zq] <;> rfl)|(simp[*,Zr,Zq] <;> rfl),by(with_reducible repeat(first|apply Kd.R_alloc|apply Kd.R_drewN|apply Kd.R_drew));exact HO54006.out,by repeat(first|(with_reducible first|exact HB.out|apply Zm|apply Zl|apply Zn)|exact HB.out)⟩
      ·rw[if_neg c20] at H
       exact absurd H (by simp)
     ·rw[if_neg c19] at H
      exact absurd H (by simp)
    ·rw[if_neg c18] at H
     exact absurd H (by simp)
mutual
def Zt.l0:Nat→Int→ByteArray→Option (ByteArray)
 | 0,_,_=>none
 | k+1,x0,x3=>if x0 > 9 then((some (([(wrap64 (48+(Int.tmod x0 10))) % 256]:List Int):List Int)).bind fun y35008=>(if (strOfNums y35008).size+x3.size≤9223372036854775807 then(Zt.l0 k (wrap64 (Int.tdiv x0 10)) ((strOfNums y35008) ++ x3)) else(none))) else((some (([(wrap64 (48+x0)) % 256]:List Int):List Int)).bind fun y35011=>(if (strOfNums y35011).size+x3.size≤9223372036854775807 then(some ((strOfNums y35011) ++ x3)) else(none)))
def Zt.f:Nat→Int→Option (ByteArray)
 | 0,_=>none
 | k+1,a0=>if a0<0 then(if (wrap64 (Int.tdiv a0 10))=0 then((some (([(wrap64 (48 - a0)) % 256]:List Int):List Int)).bind fun y35001=>(if 1+(strOfNums y35001).size≤9223372036854775807 then(some ((⟨#[45]⟩:ByteArray) ++ (strOfNums y35001))) else(none))) else((Zt.f k (wrap64 (Int.tdiv a0 10))).bind fun t35004=>((some (([(wrap64 (48 - (Int.tmod a0 10))) % 256]:List Int):List Int)).bind fun y35005=>(if t35004.size+(strOfNums y35005).size≤9223372036854775807 then(some (t35004 ++ (strOfNums y35005))) else(none))))) else(Zt.l0 k a0 (⟨#[]⟩:ByteArray))
end
def Zt.T4:Bool×List (List Nat×List Nat):=(true,[([],[]),([0],[0]),([1],[1]),([],[]),([3],[3]),([4],[4]),([5],[5]),([6],[6]),([7],[7]),([2,8],[2,8]),([9,2,0,1,2,3,4,5,6,7,8,9],[9])])
def Zt.B4:List Nat:=[0,1,3,0,8,24,56,120,248,511,1023]
theorem Zt.tab4:rtab .any (opsOf Tryd.f35 4)=Zt.T4:=by kernel_rfl
theorem Zt.bits4:Zbi Zt.T4.2 Zt.B4=true:=by kernel_rfl
set_option maxHeartbeats 8000000 in
set_option maxRecDepth 100000 in
theorem Zt.calls (k:Nat):∀(a0:Int) (r:ByteArray) (w:World) (h:Zt.f k a0=some r),
  Calls Tryd.prog 35 #[.int .i64 a0] w fun e w'=>e=.returned (.string r)∧Below w.heap.size w w':=by
 induction k using Nat.strongRecOn with
 | _ k ih=>
 intro a0 r w h
 cases k with
 | zero=>exact absurd h (by simp[Zt.f])
 | succ k=>
 simp only[Zt.f] at h
 have HB:=Za (Below.refl w.heap.size w)
 have H:(if a0<0 then(if (wrap64 (Int.tdiv a0 10))=0 then((some (([(wrap64 (48 - a0)) % 256]:List Int):List Int)).bind fun y35001=>(if 1+(strOfNums y35001).size≤9223372036854775807 then(some ((⟨#[45]⟩:ByteArray) ++ (strOfNums y35001))) else(none))) else((Zt.f k (wrap64 (Int.tdiv a0 10))).bind fun t35004=>((some (([(wrap64 (48 - (Int.tmod a0 10))) % 256]:List Int):List Int)).bind fun y35005=>(if t35004.size+(strOfNums y35005).size≤9223372036854775807 then(some (t35004 ++ (strOfNums y35005))) else(none))))) else(Zt.l0 k a0 (⟨#[]⟩:ByteArray)))=some r:=h
 clear h
 by_cases c2:a0<0
 ·rw[if_pos c2] at H
  have c2b0:decide (a0<0)=true:=Zd c2
  clear c2
  by_cases c3:(wrap64 (Int.tdiv a0 10))=0
  ·rw[if_pos c3] at H
   have c3b0:((wrap64 (Int.tdiv a0 10)) == 0)=true:=beq_iff_eq.mpr c3
   have c3b1:((wrap64 (Int.tdiv a0 10)) != 0)=false:=bne_eq_false_iff_eq.mpr c3
   clear c3
   obtain⟨y35001,hy35001⟩:∃y_:List Int,y_=(([(wrap64 (48 - a0)) % 256]:List Int)):=⟨_,rfl⟩
   replace H:(if 1+(strOfNums y35001).size≤9223372036854775807 then(some ((⟨#[45]⟩:ByteArray) ++ (strOfNums y35001))) else(none))=some r:=by first|(rw[hy35001];with_reducible exact H)|(have H2_:=(Zh _ _).symm.trans H;rw[hy35001];with_reducible exact H2_)|(have H2_:=(Zh _ _).symm.trans H;with_reducible exact H2_)|with_reducible exact H|(rw[hy35001];exact H)|exact H
   have Ny35001:=Za hy35001;clear hy35001
   by_cases c4:1+(strOfNums y35001).size≤9223372036854775807
   ·rw[if_pos c4] at H
    have c4b0:=eq_true c4
    have c4b1:decide (1+(strOfNums y35001).size≤9223372036854775807)=true:=Zd c4
    try have c4b2:(9223372036854775807<1+(strOfNums y35001).size)=False:=eq_false (Nat.not_lt.2 c4)
    obtain rfl:=Zf H
    go_enter Tryd.func35,Tryd.ntmps35
    go_wp2_with (first|((with_reducible refine Z5 (N:=12) rfl ?_);refine Kd.R_lit (Kd.int .u8) _ 5 ?hg (N:=12) ?hd (xs:=([(wrap64 (48 - a0)) % 256]:List Int)) (inner:=[.int .u8 ((wrap64 (48 - a0)) % 256)]) (ok:=fun _=>True) (okp:=fun _=>True) ?hr ?hp (fun _ hk=>hk) trivial (Below.refl _ _) (Nat.le_refl _) (by simp) ?_;(case hd=>rfl);(case hg=>rfl);(case hr=>first|(go_simp;done)|(go_simp;rfl));(case hp=>exact(Reps.one (show Kd.M (Kd.int .u8) _ _ _ ((wrap64 (48 - a0)) % 256) [.int .u8 ((wrap64 (48 - a0)) % 256)] from rfl) (Reps.none _ _)));intro v35002 w5 ho6 hb hg_ hnew_;clear hg_ hnew_;(first|rw[← Ny35001.out] at ho6|(simp only[Int.reduceToNat] at ho6;rw[← Ny35001.out] at ho6));have HO35003:=Za (Kd.R_lower ho6 (Zy (by repeat(first|(with_reducible first|exact HB.out|apply Zm|apply Zl|apply Zn)|exact HB.out))));replace HB:=Za (Zu (by repeat(first|(with_reducible first|exact HB.out|apply Zm|apply Zl|apply Zn)|exact HB.out)) hb);clear hb ho6;have hcv7:=ZaJ (P:=Tryd.prog) Tryd.underlying48 Tryd.underlying5 Tryd.underlying9 (Kd.own_of_R HO35003.out)))
    go_ret
    exact⟨by first|rfl|(simp[Zr,Zq] <;> rfl)|(simp[*,Zr,Zq] <;> rfl),by repeat(first|(with_reducible first|exact HB.out|apply Zm|apply Zl|apply Zn)|exact HB.out)⟩
   ·rw[if_neg c4] at H
    exact absurd H (by simp)
  ·rw[if_neg c3] at H
   have c3b0:((wrap64 (Int.tdiv a0 10)) == 0)=false:=beq_eq_false_iff_ne.mpr c3
   have c3b1:((wrap64 (Int.tdiv a0 10)) != 0)=true:=bne_iff_ne.mpr c3
   replace H:=Zg H
   obtain⟨t35004,A80,H⟩:=H
   replace H:((some (([(wrap64 (48 - (Int.tmod a0 10))) % 256]:List Int):List Int)).bind fun y35005=>(if t35004.size+(strOfNums y35005).size≤9223372036854775807 then(some (t35004 ++ (strOfNums y35005))) else(none)))=some r:=H
   have A8:=Za A80;clear A80
   obtain⟨y35005,hy35005⟩:∃y_:List Int,y_=(([(wrap64 (48 - (Int.tmod a0 10))) % 256]:List Int)):=⟨_,rfl⟩
   replace H:(if t35004.size+(strOfNums y35005).size≤9223372036854775807 then(some (t35004 ++ (strOfNums y35005))) else(none))=some r:=by first|(rw[hy35005];with_reducible exact H)|(have H2_:=(Zh _ _).symm.trans H;rw[hy35005];with_reducible exact H2_)|(have H2_:=(Zh _ _).symm.trans H;with_reducible exact H2_)|with_reducible exact H|(rw[hy35005];exact H)|exact H
   have Ny35005:=Za hy35005;clear hy35005
   by_cases c9:t35004.size+(strOfNums y35005).size≤9223372036854775807
   ·rw[if_pos c9] at H
    have c9b0:=eq_true c9
    have c9b1:decide (t35004.size+(strOfNums y35005).size≤9223372036854775807)=true:=Zd c9
    try have c9b2:(9223372036854775807<t35004.size+(strOfNums y35005).size)=False:=eq_false (Nat.not_lt.2 c9)
    obtain rfl:=Zf H
    go_enter Tryd.func35,Tryd.ntmps35
    try go_wp2
    replace HB:=Za (Zn HB.out)
    refine start_ (n:=11) (S:=fun w'=>True) (ds:=[]) #[false,false,false,false,false,false,false,false,false,false,false] (by kernel_rfl) rfl rfl trivial (fun hHeld=>?_);refine with_tabW Zt.tab4 Zt.bits4 (fun HT_ HW_=>?_)
    generalize w.drew=w10 at HB hHeld ⊢
    refine pure_ (i:=0) (N:=some 15) (v:=?_) (a':=?_) #[true,false,false,false,false,false,false,false,false,false,false] rfl rfl (Za0 HT_.out (by kernel_rfl)) (fun _ _ _ h=>h) (Or.inl ⟨by rfl,?_⟩) ?_ ?_
    rotate_left
    ·intro w'
     go_simp
     with_reducible rfl
    rotate_left
    ·simp only[Act.put,List.setIfInBounds_toArray,List.set_cons_zero,List.set_cons_succ,Z6,Z8]
     rfl
    refine pure_ (i:=1) (N:=some 16) (v:=?_) (a':=?_) #[true,true,false,false,false,false,false,false,false,false,false] rfl rfl (Za0 HT_.out (by kernel_rfl)) (fun _ _ _ h=>h) (Or.inl ⟨by rfl,?_⟩) ?_ ?_
    rotate_left
    ·intro w'
     go_simp
     with_reducible rfl
    rotate_left
    ·simp only[Act.put,List.setIfInBounds_toArray,List.set_cons_zero,List.set_cons_succ,Z6,Z8]
     rfl
    refine pure_ (i:=3) (N:=some 18) (v:=?_) (a':=?_) #[true,true,false,true,false,false,false,false,false,false,false] rfl rfl (Za0 HT_.out (by kernel_rfl)) (fun _ _ _ h=>h) (Or.inl ⟨by rfl,?_⟩) ?_ ?_
    rotate_left
    ·intro w'
     go_simp
     with_reducible rfl
    rotate_left
    ·simp only[Act.put,List.setIfInBounds_toArray,List.set_cons_zero,List.set_cons_succ,Z6,Z8]
     rfl
    refine pure_ (i:=4) (N:=some 19) (v:=?_) (a':=?_) #[true,true,false,true,true,false,false,false,false,false,false] rfl rfl (Za0 HT_.out (by kernel_rfl)) (fun _ _ _ h=>h) (Or.inl ⟨by rfl,?_⟩) ?_ ?_
    rotate_left
    ·intro w'
     go_simp
     with_reducible rfl
    rotate_left
    ·simp only[Act.put,List.setIfInBounds_toArray,List.set_cons_zero,List.set_cons_succ,Z6,Z8]
     rfl
    refine pure_ (i:=5) (N:=some 20) (v:=?_) (a':=?_) #[true,true,false,true,true,true,false,false,false,false,false] rfl rfl (Za0 HT_.out (by kernel_rfl)) (fun _ _ _ h=>h) (Or.inl ⟨by rfl,?_⟩) ?_ ?_
    rotate_left
    ·intro w'
     go_simp
     with_reducible rfl
    rotate_left
    ·simp only[Act.put,List.setIfInBounds_toArray,List.set_cons_zero,List.set_cons_succ,Z6,Z8]
     rfl
    refine pure_ (i:=6) (N:=some 21) (v:=?_) (a':=?_) #[true,true,false,true,true,true,true,false,false,false,false] rfl rfl (Za0 HT_.out (by kernel_rfl)) (fun _ _ _ h=>h) (Or.inl ⟨by rfl,?_⟩) ?_ ?_
    rotate_left
    ·intro w'
     go_simp
     with_reducible rfl
    rotate_left
    ·simp only[Act.put,List.setIfInBounds_toArray,List.set_cons_zero,List.set_cons_succ,Z6,Z8]
     rfl
    refine join_ (σ:=Value) 2 #[true,true,true,true,true,true,true,true,true,false,false] (fun s_=>[(17,.string t35004),(22,s_),(23,.string (strOfNums y35005))]) (fun s_ w'=>(Kd.R (Kd.int .u8) 5 w' w.heap.size (fun _=>True) s_ y35005)∧(Below w.heap.size w w')) ?_ ?_
    rotate_left
    ·intro hCont
     refine two_ (i:=2) (j:=7) (Ni:=some 17) (Nj:=some 22) #[true,true,true,true,true,true,true,false,false,false,false] #[true,true,false,true,true,true,true,true,false,false,false] rfl rfl rfl rfl (two_of HT_.out (by kernel_rfl)) (by decide) (by decide) (fun K hK=>?_) (fun K hK=>?_)
     ·skip
      refine goes_ Tryd.func35 (by kernel_rfl) rfl #[.int .i64 (wrap64 (Int.tdiv a0 10))] (by rfl) rfl rfl (by(try simp only[List.map_toArray,List.map_cons,List.map_nil]);first|done|rfl|(simp only[Zj,Zi];rfl)) ?_
      with_reducible refine(ih k (by omega) (wrap64 (Int.tdiv a0 10)) t35004 _ A8.out).mono ?_
      rintro e w11 ⟨rfl,hb⟩
      refine⟨_,rfl,?_⟩
      replace HB:=Za (Zu (by repeat(first|(with_reducible first|exact HB.out|apply Zm|apply Zl|apply Zn)|exact HB.out)) hb)
      (try clear hb)
      (try clear hb2)
      (try clear hk)
      (try clear hi)
      refine hK.out _ _ trivial (fun hHeld=>?_)
      clear hK K
      refine ZaL (a':=?_) ?_ ?_
      rotate_left
      ·show Act.put _ (some 17) _=_
       simp only[Act.put,List.setIfInBounds_toArray,List.set_cons_zero,List.set_cons_succ,Z6,Z8]
       rfl
      refine one_ (i:=7) (N:=some 22) #[true,true,true,true,true,true,true,true,false,false,false] rfl rfl (one_of HT_.out (by kernel_rfl)) (by decide) (fun K hK=>?_)
      refine Kd.R_lit_step (Kd.int .u8) _ 5 ?hg (N:=22) ?hd (xs:=([(wrap64 (48 - (Int.tmod a0 10))) % 256]:List Int)) (inner:=[.int .u8 ((wrap64 (48 - (Int.tmod a0 10))) % 256)]) (ok:=fun _=>True) (okp:=fun _=>True) ?hr ?hp (fun _ hk=>hk) trivial (Below.refl _ _) (Nat.le_refl _) (by simp) ?_;(case hd=>rfl);(case hg=>rfl);(case hr=>first|(go_simp;done)|(go_simp;rfl));(case hp=>exact(Reps.one (show Kd.M (Kd.int .u8) _ _ _ ((wrap64 (48 - (Int.tmod a0 10))) % 256) [.int .u8 ((wrap64 (48 - (Int.tmod a0 10))) % 256)] from rfl) (Reps.none _ _)))
      intro v35006 w12 ho13 hb hg_ hnew_
      clear hg_ hnew_
      (first|rw[← Ny35005.out] at ho13|(simp only[Int.reduceToNat] at ho13;rw[← Ny35005.out] at ho13))
      have HO35007:=Za (Kd.R_lower ho13 (Zy (by repeat(first|(with_reducible first|exact HB.out|apply Zm|apply Zl|apply Zn)|exact HB.out))));replace HB:=Za (Zu (by repeat(first|(with_reducible first|exact HB.out|apply Zm|apply Zl|apply Zn)|exact HB.out)) hb)
      clear hb ho13
      refine hK.out _ _ trivial (fun hHeld=>?_)
      clear hK K
      refine ZaL (a':=?_) ?_ ?_
      rotate_left
      ·show Act.put _ (some 22) _=_
       simp only[Act.put,List.setIfInBounds_toArray,List.set_cons_zero,List.set_cons_succ,Z6,Z8]
       rfl
      refine one_ (i:=8) (N:=some 23) #[true,true,true,true,true,true,true,true,true,false,false] rfl rfl (one_of HT_.out (by kernel_rfl)) (by decide) (fun K hK=>?_)
      have hcv14:=ZaJ (P:=Tryd.prog) Tryd.underlying48 Tryd.underlying5 Tryd.underlying9 (Kd.own_of_R HO35007.out)
      refine value_ (w1:=?_) (v:=?_) (by rfl) rfl ?_ ?_
      rotate_left 2
      ·go_simp
       constructor
       ·rfl
       ·rfl
      clear hcv14
      refine hK.out _ _ trivial (fun hHeld=>?_)
      clear hK K
      refine ZaL (a':=?_) ?_ ?_
      rotate_left
      ·show Act.put _ (some 23) _=_
       simp only[Act.put,List.setIfInBounds_toArray,List.set_cons_zero,List.set_cons_succ,Z6,Z8]
       rfl
      exact ZaL (by simp only[Za8,Act.put,List.setIfInBounds_toArray,List.set_cons_zero,List.set_cons_succ]) (hCont (v35006) _ ⟨(by(with_reducible repeat(first|apply Kd.R_alloc|apply Kd.R_drewN|apply Kd.R_drew));exact HO35007.out),(by repeat(first|(with_reducible first|exact HB.out|apply Zm|apply Zl|apply Zn)|exact HB.out))⟩)
     ·skip
      refine Kd.R_lit_step (Kd.int .u8) _ 5 ?hg (N:=22) ?hd (xs:=([(wrap64 (48 - (Int.tmod a0 10))) % 256]:List Int)) (inner:=[.int .u8 ((wrap64 (48 - (Int.tmod a0 10))) % 256)]) (ok:=fun _=>True) (okp:=fun _=>True) ?hr ?hp (fun _ hk=>hk) trivial (Below.refl _ _) (Nat.le_refl _) (by simp) ?_;(case hd=>rfl);(case hg=>rfl);(case hr=>first|(go_simp;done)|(go_simp;rfl));(case hp=>exact(Reps.one (show Kd.M (Kd.int .u8) _ _ _ ((wrap64 (48 - (Int.tmod a0 10))) % 256) [.int .u8 ((wrap64 (48 - (Int.tmod a0 10))) % 256)] from rfl) (Reps.none _ _)))
      intro v35006 w11 ho12 hb hg_ hnew_
      clear hg_ hnew_
      (first|rw[← Ny35005.out] at ho12|(simp only[Int.reduceToNat] at ho12;rw[← Ny35005.out] at ho12))
      have HO35007:=Za (Kd.R_lower ho12 (Zy (by repeat(first|(with_reducible first|exact HB.out|apply Zm|apply Zl|apply Zn)|exact HB.out))));replace HB:=Za (Zu (by repeat(first|(with_reducible first|exact HB.out|apply Zm|apply Zl|apply Zn)|exact HB.out)) hb)
      clear hb ho12
      refine hK.out _ _ trivial (fun hHeld=>?_)
      clear hK K
      refine ZaL (a':=?_) ?_ ?_
      rotate_left
      ·show Act.put _ (some 22) _=_
       simp only[Act.put,List.setIfInBounds_toArray,List.set_cons_zero,List.set_cons_succ,Z6,Z8]
       rfl
      refine two_ (i:=2) (j:=8) (Ni:=some 17) (Nj:=some 23) #[true,true,true,true,true,true,true,true,false,false,false] #[true,true,false,true,true,true,true,true,true,false,false] rfl rfl rfl rfl (two_of HT_.out (by kernel_rfl)) (by decide) (by decide) (fun K hK=>?_) (fun K hK=>?_)
      ·skip
       refine goes_ Tryd.func35 (by kernel_rfl) rfl #[.int .i64 (wrap64 (Int.tdiv a0 10))] (by rfl) rfl rfl (by(try simp only[List.map_toArray,List.map_cons,List.map_nil]);first|done|rfl|(simp only[Zj,Zi];rfl)) ?_
       with_reducible refine(ih k (by omega) (wrap64 (Int.tdiv a0 10)) t35004 _ A8.out).mono ?_
       rintro e w13 ⟨rfl,hb⟩
       refine⟨_,rfl,?_⟩
       replace HO35007:=Za (Kd.R_below (by(with_reducible repeat(first|apply Kd.R_alloc|apply Kd.R_drewN|apply Kd.R_drew));exact HO35007.out) hb);replace HB:=Za (Zu (by repeat(first|(with_reducible first|exact HB.out|apply Zm|apply Zl|apply Zn)|exact HB.out)) hb)
       (try clear hb)
       (try clear hb2)
       (try clear hk)
       (try clear hi)
       refine hK.out _ _ trivial (fun hHeld=>?_)
       clear hK K
       refine ZaL (a':=?_) ?_ ?_
       rotate_left
       ·show Act.put _ (some 17) _=_
        simp only[Act.put,List.setIfInBounds_toArray,List.set_cons_zero,List.set_cons_succ,Z6,Z8]
        rfl
       refine one_ (i:=8) (N:=some 23) #[true,true,true,true,true,true,true,true,true,false,false] rfl rfl (one_of HT_.out (by kernel_rfl)) (by decide) (fun K hK=>?_)
       have hcv14:=ZaJ (P:=Tryd.prog) Tryd.underlying48 Tryd.underlying5 Tryd.underlying9 (Kd.own_of_R HO35007.out)
       refine value_ (w1:=?_) (v:=?_) (by rfl) rfl ?_ ?_
       rotate_left 2
       ·go_simp
        constructor
        ·rfl
        ·rfl
       clear hcv14
       refine hK.out _ _ trivial (fun hHeld=>?_)
       clear hK K
       refine ZaL (a':=?_) ?_ ?_
       rotate_left
       ·show Act.put _ (some 23) _=_
        simp only[Act.put,List.setIfInBounds_toArray,List.set_cons_zero,List.set_cons_succ,Z6,Z8]
        rfl
       exact ZaL (by simp only[Za8,Act.put,List.setIfInBounds_toArray,List.set_cons_zero,List.set_cons_succ]) (hCont (v35006) _ ⟨(by(with_reducible repeat(first|apply Kd.R_alloc|apply Kd.R_drewN|apply Kd.R_drew));exact HO35007.out),(by repeat(first|(with_reducible first|exact HB.out|apply Zm|apply Zl|apply Zn)|exact HB.out))⟩)
      ·skip
       have hcv13:=ZaJ (P:=Tryd.prog) Tryd.underlying48 Tryd.underlying5 Tryd.underlying9 (Kd.own_of_R HO35007.out)
       refine value_ (w1:=?_) (v:=?_) (by rfl) rfl ?_ ?_
       rotate_left 2
       ·go_simp
        constructor
        ·rfl
        ·rfl
       clear hcv13
       refine hK.out _ _ trivial (fun hHeld=>?_)
       clear hK K
       refine ZaL (a':=?_) ?_ ?_
       rotate_left
       ·show Act.put _ (some 23) _=_
        simp only[Act.put,List.setIfInBounds_toArray,List.set_cons_zero,List.set_cons_succ,Z6,Z8]
        rfl
       refine one_ (i:=2) (N:=some 17) #[true,true,true,true,true,true,true,true,true,false,false] rfl rfl (one_of HT_.out (by kernel_rfl)) (by decide) (fun K hK=>?_)
       refine goes_ Tryd.func35 (by kernel_rfl) rfl #[.int .i64 (wrap64 (Int.tdiv a0 10))] (by rfl) rfl rfl (by(try simp only[List.map_toArray,List.map_cons,List.map_nil]);first|done|rfl|(simp only[Zj,Zi];rfl)) ?_
       with_reducible refine(ih k (by omega) (wrap64 (Int.tdiv a0 10)) t35004 _ A8.out).mono ?_
       rintro e w14 ⟨rfl,hb⟩
       refine⟨_,rfl,?_⟩
       replace HO35007:=Za (Kd.R_below (by(with_reducible repeat(first|apply Kd.R_alloc|apply Kd.R_drewN|apply Kd.R_drew));exact HO35007.out) hb);replace HB:=Za (Zu (by repeat(first|(with_reducible first|exact HB.out|apply Zm|apply Zl|apply Zn)|exact HB.out)) hb)
       (try clear hb)
       (try clear hb2)
       (try clear hk)
       (try clear hi)
       refine hK.out _ _ trivial (fun hHeld=>?_)
       clear hK K
       refine ZaL (a':=?_) ?_ ?_
       rotate_left
       ·show Act.put _ (some 17) _=_
        simp only[Act.put,List.setIfInBounds_toArray,List.set_cons_zero,List.set_cons_succ,Z6,Z8]
        rfl
       exact ZaL (by simp only[Za8,Act.put,List.setIfInBounds_toArray,List.set_cons_zero,List.set_cons_succ]) (hCont (v35006) _ ⟨(by(with_reducible repeat(first|apply Kd.R_alloc|apply Kd.R_drewN|apply Kd.R_drew));exact HO35007.out),(by repeat(first|(with_reducible first|exact HB.out|apply Zm|apply Zl|apply Zn)|exact HB.out))⟩)
    rintro v35006 w15 ⟨h0_,h1_⟩
    have HO35007:Aside0 (Kd.R (Kd.int .u8) 5 w15 w.heap.size (fun _=>True) v35006 y35005):=⟨h0_⟩;replace HB:Aside0 (Below w.heap.size w w15):=⟨h1_⟩;clear h0_ h1_
    have hHeld:=trivial
    refine ZaL (a':=?_) ?_ ?_
    rotate_left
    ·simp only[Za8,Act.put,List.setIfInBounds_toArray,List.set_cons_zero,List.set_cons_succ]
     rfl
    refine pure_ (i:=9) (N:=some 24) (v:=?_) (a':=?_) #[true,true,true,true,true,true,true,true,true,true,false] rfl rfl (Za0 HT_.out (by kernel_rfl)) (fun _ _ _ h=>h) (Or.inl ⟨by rfl,?_⟩) ?_ ?_
    rotate_left
    ·intro w'
     go_simp
     with_reducible rfl
    rotate_left
    ·simp only[Act.put,List.setIfInBounds_toArray,List.set_cons_zero,List.set_cons_succ,Z6,Z8]
     rfl
    refine pure_ (i:=10) (N:=some 2) (v:=?_) (a':=?_) #[true,true,true,true,true,true,true,true,true,true,true] rfl rfl (Za0 HT_.out (by kernel_rfl)) (fun _ _ _ h=>h) (Or.inl ⟨by rfl,?_⟩) ?_ ?_
    rotate_left
    ·intro w'
     go_simp
     with_reducible rfl
    rotate_left
    ·simp only[Act.put,List.setIfInBounds_toArray,List.set_cons_zero,List.set_cons_succ,Z6,Z8]
     rfl
    refine done_ (done_of HT_.out (by kernel_rfl)) ?_
    try go_wp2
    go_ret
    exact⟨by first|rfl|(simp[Zr,Zq] <;> rfl)|(simp[*,Zr,Zq] <;> rfl),by repeat(first|(with_reducible first|exact HB.out|apply Zm|apply Zl|apply Zn)|exact HB.out)⟩
   ·rw[if_neg c9] at H
    exact absurd H (by simp)
 ·rw[if_neg c2] at H
  have c2b0:decide (a0<0)=false:=Ze c2
  clear c2
  have H':=Za H
  clear H
  go_enter Tryd.func35,Tryd.ntmps35
  go_wp2
  go_loopg [0,3] k (fun kq v0 v3 w'=>∃(x0_1:Int) (x3_1:ByteArray),v0=.int .i64 x0_1∧v3=.string x3_1∧Aside0 (Zt.l0 kq x0_1 x3_1=some r)∧Aside0 (kq≤k)∧Aside0 (Below w.heap.size w w'))
  case atStart=>exact⟨(a0),((⟨#[]⟩:ByteArray)),(by first|rfl|(simp;done)|(simp[*];done)),(by first|rfl|(simp;done)|(simp[*];done)),H',⟨Nat.le_refl _⟩,⟨by repeat(first|(with_reducible first|exact HB.out|apply Zm|apply Zl|apply Zn)|exact HB.out)⟩⟩
  case round=>
   clear H'
   try clear hcv1
   try clear c2
   try clear c2b0
   try clear p2
   try clear c3
   try clear c3b0
   try clear c3b1
   try clear c4
   try clear c4b0
   try clear c4b1
   try clear c4b2
   try clear p6
   try clear hcv7
   try clear c9
   try clear c9b0
   try clear c9b1
   try clear c9b2
   try clear hcv13
   try clear hcv14
   obtain⟨x0_1,x3_1,rfl,rfl,HA,HK1,HB⟩:=hrel
   cases gk with
   | zero=>exact absurd HA.out (by simp[Zt.l0])
   | succ k1=>
    have H:=HA.out
    clear HA
    simp only[Zt.l0] at H
    by_cases c16:x0_1 > 9
    ·rw[if_pos c16] at H
     have c16b0:decide (9<x0_1)=true:=Zd c16
     clear c16
     obtain⟨y35008,hy35008⟩:∃y_:List Int,y_=(([(wrap64 (48+(Int.tmod x0_1 10))) % 256]:List Int)):=⟨_,rfl⟩
     replace H:(if (strOfNums y35008).size+x3_1.size≤9223372036854775807 then(Zt.l0 k1 (wrap64 (Int.tdiv x0_1 10)) ((strOfNums y35008) ++ x3_1)) else(none))=some r:=by first|(rw[hy35008];with_reducible exact H)|(have H2_:=(Zh _ _).symm.trans H;rw[hy35008];with_reducible exact H2_)|(have H2_:=(Zh _ _).symm.trans H;with_reducible exact H2_)|with_reducible exact H|(rw[hy35008];exact H)|exact H
     have Ny35008:=Za hy35008;clear hy35008
     by_cases c17:(strOfNums y35008).size+x3_1.size≤9223372036854775807
     ·rw[if_pos c17] at H
      have c17b0:=eq_true c17
      have c17b1:decide ((strOfNums y35008).size+x3_1.size≤9223372036854775807)=true:=Zd c17
      try have c17b2:(9223372036854775807<(strOfNums y35008).size+x3_1.size)=False:=eq_false (Nat.not_lt.2 c17)
      have H':=Za H
      clear H
      go_wp2_with (first|((with_reducible refine Z5 (N:=31) rfl ?_);refine Kd.R_lit (Kd.int .u8) _ 5 ?hg (N:=31) ?hd (xs:=([(wrap64 (48+(Int.tmod x0_1 10))) % 256]:List Int)) (inner:=[.int .u8 ((wrap64 (48+(Int.tmod x0_1 10))) % 256)]) (ok:=fun _=>True) (okp:=fun _=>True) ?hr ?hp (fun _ hk=>hk) trivial (Below.refl _ _) (Nat.le_refl _) (by simp) ?_;(case hd=>rfl);(case hg=>rfl);(case hr=>first|(go_simp;done)|(go_simp;rfl));(case hp=>exact(Reps.one (show Kd.M (Kd.int .u8) _ _ _ ((wrap64 (48+(Int.tmod x0_1 10))) % 256) [.int .u8 ((wrap64 (48+(Int.tmod x0_1 10))) % 256)] from rfl) (Reps.none _ _)));intro v35009 w18 ho19 hb hg_ hnew_;clear hg_ hnew_;(first|rw[← Ny35008.out] at ho19|(simp only[Int.reduceToNat] at ho19;rw[← Ny35008.out] at ho19));have HO35010:=Za (Kd.R_lower ho19 (Zy (by repeat(first|(with_reducible first|exact HB.out|apply Zm|apply Zl|apply Zn)|exact HB.out))));replace HB:=Za (Zu (by repeat(first|(with_reducible first|exact HB.out|apply Zm|apply Zl|apply Zn)|exact HB.out)) hb);clear hb ho19;have hcv20:=ZaJ (P:=Tryd.prog) Tryd.underlying48 Tryd.underlying5 Tryd.underlying9 (Kd.own_of_R HO35010.out)))
      go_roundg k1
      case measure=>have:=HK1.out;omega
      case rel=>exact⟨(wrap64 (Int.tdiv x0_1 10)),((strOfNums y35008) ++ x3_1),(by first|rfl|(simp;done)|(simp[*];done)),(by first|rfl|(simp;done)|(simp[*];done)),H',⟨by have:=HK1.out;omega⟩,⟨by repeat(first|(with_reducible first|exact HB.out|apply Zm|apply Zl|apply Zn)|exact HB.out)⟩⟩
     ·rw[if_neg c17] at H
      exact absurd H (by simp)
    ·rw[if_neg c16] at H
     have c16b0:decide (9<x0_1)=false:=Ze c16
     clear c16
     obtain⟨y35011,hy35011⟩:∃y_:List Int,y_=(([(wrap64 (48+x0_1)) % 256]:List Int)):=⟨_,rfl⟩
     replace H:(if (strOfNums y35011).size+x3_1.size≤9223372036854775807 then(some ((strOfNums y35011) ++ x3_1)) else(none))=some r:=by first|(rw[hy35011];with_reducible exact H)|(have H2_:=(Zh _ _).symm.trans H;rw[hy35011];with_reducible exact H2_)|(have H2_:=(Zh _ _).symm.trans H;with_reducible exact H2_)|with_reducible exact H|(rw[hy35011];exact H)|exact H
     have Ny35011:=Za hy35011;clear hy35011
     by_cases c21:(strOfNums y35011).size+x3_1.size≤9223372036854775807
     ·rw[if_pos c21] at H
      have c21b0:=eq_true c21
      have c21b1:decide ((strOfNums y35011).size+x3_1.size≤9223372036854775807)=true:=Zd c21
      try have c21b2:(9223372036854775807<(strOfNums y35011).size+x3_1.size)=False:=eq_false (Nat.not_lt.2 c21)
      obtain rfl:=Zf H
      go_wp2_with (first|((with_reducible refine Z5 (N:=40) rfl ?_);refine Kd.R_lit (Kd.int .u8) _ 5 ?hg (N:=40) ?hd (xs:=([(wrap64 (48+x0_1)) % 256]:List Int)) (inner:=[.int .u8 ((wrap64 (48+x0_1)) % 256)]) (ok:=fun _=>True) (okp:=fun _=>True) ?hr ?hp (fun _ hk=>hk) trivial (Below.refl _ _) (Nat.le_refl _) (by simp) ?_;(case hd=>rfl);(case hg=>rfl);(case hr=>first|(go_simp;done)|(go_simp;rfl));(case hp=>exact(Reps.one (show Kd.M (Kd.int .u8) _ _ _ ((wrap64 (48+x0_1)) % 256) [.int .u8 ((wrap64 (48+x0_1)) % 256)] from rfl) (Reps.none _ _)));intro v35012 w22 ho23 hb hg_ hnew_;clear hg_ hnew_;(first|rw[← Ny35011.out] at ho23|(simp only[Int.reduceToNat] at ho23;rw[← Ny35011.out] at ho23));have HO35013:=Za (Kd.R_lower ho23 (Zy (by repeat(first|(with_reducible first|exact HB.out|apply Zm|apply Zl|apply Zn)|exact HB.out))));replace HB:=Za (Zu (by repeat(first|(with_reducible first|exact HB.out|apply Zm|apply Zl|apply Zn)|exact HB.out)) hb);clear hb ho23;have hcv24:=ZaJ (P:=Tryd.prog) Tryd.underlying48 Tryd.underlying5 Tryd.underlying9 (Kd.own_of_R HO35013.out)))
      go_ret
      exact⟨by first|rfl|(simp[Zr,Zq] <;> rfl)|(simp[*,Zr,Zq] <;> rfl),by repeat(first|(with_reducible first|exact HB.out|apply Zm|apply Zl|apply Zn)|exact HB.out)⟩
     ·rw[if_neg c21] at H
      exact absurd H (by simp)
def ZN.l0:Nat→ByteArray→Int→Option (Bool)
 | 0,_,_=>none
 | k+1,x0,x3=>if x3<(x0.size:Int) then(if 0≤x3 then(if (bt x0 x3)<48 then(some false) else(if (bt x0 x3) > 57 then(some false) else(ZN.l0 k x0 (wrap64 (x3+1))))) else(none)) else(some (decide ((x0.size:Int) > 0)))
def ZN.f (k:Nat) (a0:ByteArray):Option (Bool):=ZN.l0 k a0 0
set_option maxHeartbeats 8000000 in
set_option maxRecDepth 100000 in
theorem ZN.calls (k:Nat) (a0:ByteArray) (r:Bool) (w:World) (h:ZN.f k a0=some r) :
  Calls Tryd.prog 86 #[.string a0] w fun e w'=>e=.returned (.bool r)∧Zw w w':=by
 have H:(ZN.l0 k a0 0)=some r:=h
 clear h
 have H':=Za H
 clear H
 go_enter Tryd.func86,Tryd.ntmps86
 go_wp2
 go_loopg [3] k (fun kq v3 w'=>∃(x3_1:Int),v3=.int .i64 x3_1∧Aside0 (ZN.l0 kq a0 x3_1=some r)∧Aside0 (kq≤k)∧Zw w w')
 case atStart=>exact⟨(0),(by first|rfl|(simp;done)|(simp[*];done)),H',⟨Nat.le_refl _⟩,by repeat(first|exact Zw.refl _|apply Zw.step)⟩
 case round=>
  clear H'
  obtain⟨x3_1,rfl,HA,HK1,⟨m1,rfl⟩⟩:=hrel
  cases gk with
  | zero=>exact absurd HA.out (by simp[ZN.l0])
  | succ k1=>
   have H:=HA.out
   clear HA
   simp only[ZN.l0] at H
   by_cases c2:x3_1<(a0.size:Int)
   ·rw[if_pos c2] at H
    have c2b0:decide (x3_1<(a0.size:Int))=true:=Zd c2
    clear c2
    by_cases c3:0≤x3_1
    ·rw[if_pos c3] at H
     have c3b0:decide (0≤x3_1)=true:=Zd c3
     clear c3
     by_cases c5:(bt a0 x3_1)<48
     ·rw[if_pos c5] at H
      have c5b0:decide ((bt a0 x3_1)<48)=true:=Zd c5
      clear c5
      obtain rfl:=Zf H
      have p4:0≤(x3_1:Int):=Zc (by first|(with_reducible assumption)|assumption)
      have q4:x3_1<(a0.size:Int):=Zc (by first|(with_reducible assumption)|assumption)
      have hx4:=Zaw a0 x3_1
      replace p4:=eq_true p4
      replace q4:=eq_true q4
      go_wp2
      go_ret
      exact⟨by first|rfl|(simp;done)|(simp[*];done),by repeat(first|exact Zw.refl _|apply Zw.step)⟩
     ·rw[if_neg c5] at H
      have c5b0:decide ((bt a0 x3_1)<48)=false:=Ze c5
      clear c5
      by_cases c7:(bt a0 x3_1) > 57
      ·rw[if_pos c7] at H
       have c7b0:decide (57<(bt a0 x3_1))=true:=Zd c7
       clear c7
       obtain rfl:=Zf H
       have p4:0≤(x3_1:Int):=Zc (by first|(with_reducible assumption)|assumption)
       have q4:x3_1<(a0.size:Int):=Zc (by first|(with_reducible assumption)|assumption)
       have hx4:=Zaw a0 x3_1
       replace p4:=eq_true p4
       replace q4:=eq_true q4
       have p6:0≤(x3_1:Int):=Zc (by first|(with_reducible assumption)|assumption)
       have q6:x3_1<(a0.size:Int):=Zc (by first|(with_reducible assumption)|assumption)
       have hx6:=Zaw a0 x3_1
       replace p6:=eq_true p6
       replace q6:=eq_true q6
       go_wp2
       go_ret
       exact⟨by first|rfl|(simp;done)|(simp[*];done),by repeat(first|exact Zw.refl _|apply Zw.step)⟩
      ·rw[if_neg c7] at H
       have c7b0:decide (57<(bt a0 x3_1))=false:=Ze c7
       clear c7
       have H':=Za H
       clear H
       have p4:0≤(x3_1:Int):=Zc (by first|(with_reducible assumption)|assumption)
       have q4:x3_1<(a0.size:Int):=Zc (by first|(with_reducible assumption)|assumption)
       have hx4:=Zaw a0 x3_1
       replace p4:=eq_true p4
       replace q4:=eq_true q4
       have p6:0≤(x3_1:Int):=Zc (by first|(with_reducible assumption)|assumption)
       have q6:x3_1<(a0.size:Int):=Zc (by first|(with_reducible assumption)|assumption)
       have hx6:=Zaw a0 x3_1
       replace p6:=eq_true p6
       replace q6:=eq_true q6
       go_wp2
       go_roundg k1
       case measure=>have:=HK1.out;omega
       case rel=>exact⟨(wrap64 (x3_1+1)),(by first|rfl|(simp;done)|(simp[*];done)),H',⟨by have:=HK1.out;omega⟩,by repeat(first|exact Zw.refl _|apply Zw.step)⟩
    ·rw[if_neg c3] at H
     exact absurd H (by simp)
   ·rw[if_neg c2] at H
    have c2b0:decide (x3_1<(a0.size:Int))=false:=Ze c2
    clear c2
    obtain rfl:=Zf H
    go_wp2
    go_ret
    exact⟨by first|rfl|(simp;done)|(simp[*];done),by repeat(first|exact Zw.refl _|apply Zw.step)⟩
mutual
def Zs.j0:Nat→ByteArray→Bool→Option (Int×Bool)
 | 0,_,_=>none
 | k+1,x0,x4=>if x4=true then(if 1≤(x0.size:Int) then(Zs.j1 k x0 x4 (x0.extract 1 x0.size)) else(none)) else(Zs.j1 k x0 x4 x0)
def Zs.j1:Nat→ByteArray→Bool→ByteArray→Option (Int×Bool)
 | 0,_,_,_=>none
 | k+1,x0,x4,x5=>(ZN.f k x5).bind fun t55001=>(if t55001=true then(Zs.j2 k x0 x4 x5 (decide ((x5.size:Int) > 19))) else(Zs.j2 k x0 x4 x5 true))
def Zs.j2:Nat→ByteArray→Bool→ByteArray→Bool→Option (Int×Bool)
 | 0,_,_,_,_=>none
 | k+1,x0,x4,x5,x28=>if x28=true then(some (0,false)) else(Zs.l0 k x0 x4 x5 0 0)
def Zs.l0:Nat→ByteArray→Bool→ByteArray→Int→Int→Option (Int×Bool)
 | 0,_,_,_,_,_=>none
 | k+1,x0,x4,x5,x6,x7=>if x7<(x5.size:Int) then(if 0≤x7 then(if x6<(wrap64 (Int.tdiv (wrap64 ((-9223372036854775808)+(wrap64 ((wrap64 (bt x5 x7)) - 48)))) 10)) then(some (0,false)) else(Zs.l0 k x0 x4 x5 (wrap64 ((wrap64 (x6 * 10)) - (wrap64 ((wrap64 (bt x5 x7)) - 48)))) (wrap64 (x7+1)))) else(none)) else(if x4=true then((Zt.f k x6).bind fun t55002=>(if t55002.toList=x0.toList then(some (x6,true)) else(some (0,false)))) else(if x6=(-9223372036854775808) then(some (0,false)) else((Zt.f k (wrap64 (-x6))).bind fun t55003=>(if t55003.toList=x0.toList then(some (wrap64 (-x6),true)) else(some (0,false))))))
end
def Zs.f (k:Nat) (a0:ByteArray):Option (Int×Bool):=if (a0.size:Int) > 0 then(if 0<(a0.size:Int) then(Zs.j0 k a0 ((bt a0 0) == 45)) else(none)) else(Zs.j0 k a0 false)
set_option maxHeartbeats 8000000 in
set_option maxRecDepth 100000 in
theorem Zs.calls (k:Nat) (a0:ByteArray) (r1:Int) (r2:Bool) (w:World) (h:Zs.f k a0=some (r1,r2)) :
  Calls Tryd.prog 55 #[.string a0] w fun e w'=>e=.returned (.tuple #[.int .i64 r1,.bool r2])∧Below w.heap.size w w':=by
 have HB:=Za (Below.refl w.heap.size w)
 have H:(if (a0.size:Int) > 0 then(if 0<(a0.size:Int) then(Zs.j0 k a0 ((bt a0 0) == 45)) else(none)) else(Zs.j0 k a0 false))=some (r1,r2):=h
 clear h;have HC2:=Za H;clear H
 go_enter Tryd.func55,Tryd.ntmps55
 go_upto_region 1 with (fail)
 go_cut [4] (fun v4 wc=>∃(kq:Nat) (x4_1:Bool),v4=.bool x4_1∧Aside0 (Zs.j0 kq a0 x4_1=some (r1,r2))∧Aside0 (kq≤k)∧Aside0 (Below w.heap.size w wc))
 case first=>
  have H:=HC2.out
  clear HC2
  by_cases c3:(a0.size:Int) > 0
  ·rw[if_pos c3] at H
   have c3b0:decide (0<(a0.size:Int))=true:=Zd c3
   have c3b1:decide (0<a0.size)=true:=Zd (by omega)
   clear c3
   (first|rw[c3b0]|(simp only[Z6,Z8];rw[c3b0])|skip)
   by_cases c4:0<(a0.size:Int)
   ·rw[if_pos c4] at H
    have c4b0:decide (0<(a0.size:Int))=true:=Zd c4
    have c4b1:decide (0<a0.size)=true:=Zd (by omega)
    clear c4
    have H':=Za H
    clear H
    have p5:0≤(0:Int):=(by omega)
    have q5:0<a0.size:=(by have:(0:Int)<(a0.size:Int):=Zc (by first|(with_reducible assumption)|assumption);omega)
    have hx5:∀h:0<a0.size,((a0[0]'h).toNat:Int)=bt a0 0:=Zaw a0 0
    clear p5
    have qi5:(0<(a0.size:Int))=True:=eq_true (Zc (by first|(with_reducible assumption)|assumption))
    replace q5:=eq_true q5
    go_wp2
    go_meet
    case rel=>exact⟨_,(((bt a0 0) == 45)),(by first|rfl|(simp;done)|(simp[*];done)),H',⟨by first|omega|exact Nat.le_refl _⟩,⟨by repeat(first|(with_reducible first|exact HB.out|apply Zm|apply Zl|apply Zn)|exact HB.out)⟩⟩
   ·rw[if_neg c4] at H
    exact absurd H (by simp)
  ·rw[if_neg c3] at H
   have c3b0:decide (0<(a0.size:Int))=false:=Ze c3
   have c3b1:decide (0<a0.size)=false:=Ze (by omega)
   clear c3
   (first|rw[c3b0]|(simp only[Z6,Z8];rw[c3b0])|skip)
   have H':=Za H
   clear H
   go_wp2
   go_meet
   case rel=>exact⟨_,(false),(by first|rfl|(simp;done)|(simp[*];done)),H',⟨by first|omega|exact Nat.le_refl _⟩,⟨by repeat(first|(with_reducible first|exact HB.out|apply Zm|apply Zl|apply Zn)|exact HB.out)⟩⟩
 case rest=>
  clear HC2
  try clear p2
  try clear c3
  try clear c3b0
  try clear c3b1
  try clear c4
  try clear c4b0
  try clear c4b1
  try clear c5
  try clear p5
  try clear q5
  try clear hx5
  try clear qi5
  try clear p5
  try clear q5
  obtain⟨kq,x4_1,rfl,HA,HJ1,HB⟩:=hcut
  cases kq with
  | zero=>exact absurd HA.out (by simp[Zs.j0])
  | succ kj1=>
   have H:=HA.out
   clear HA
   simp only[Zs.j0] at H
   have HC6:=Za H;clear H
   go_upto_if 18 with (fail)
   go_cut [5] (fun v5 wc=>∃(kq:Nat) (x5_5:ByteArray),v5=.string x5_5∧Aside0 (Zs.j1 kq a0 x4_1 x5_5=some (r1,r2))∧Aside0 (kq≤kj1)∧Aside0 (Below w.heap.size w wc))
   case first=>
    have H:=HC6.out
    clear HC6
    by_cases c7:x4_1=true
    ·subst c7
     have H1:(if 1≤(a0.size:Int) then(Zs.j1 kj1 a0 true (a0.extract 1 a0.size)) else(none))=some (r1,r2):=by rw[if_pos rfl] at H;exact H
     clear H
     have H:=H1
     clear H1
     by_cases c8:1≤(a0.size:Int)
     ·rw[if_pos c8] at H
      have c8b0:=eq_true c8
      have c8b1:decide (1≤(a0.size:Int))=true:=Zd c8
      clear c8
      have H':=Za H
      clear H
      go_wp2
      go_meet
      case rel=>exact⟨_,(a0.extract 1 a0.size),(by first|rfl|(simp;done)|(simp[*];done)),H',⟨by have:=HJ1.out;first|omega|exact Nat.le_refl _⟩,⟨by repeat(first|(with_reducible first|exact HB.out|apply Zm|apply Zl|apply Zn)|exact HB.out)⟩⟩
     ·rw[if_neg c8] at H
      exact absurd H (by simp)
    ·replace c7:=Bool.eq_false_iff.mpr c7
     subst c7
     have H1:(Zs.j1 kj1 a0 false a0)=some (r1,r2):=by rw[if_neg (show ¬(false=true) by decide)] at H;exact H
     clear H
     have H:=H1
     clear H1
     have H':=Za H
     clear H
     go_wp2
     go_meet
     case rel=>exact⟨_,(a0),(by first|rfl|(simp;done)|(simp[*];done)),H',⟨by have:=HJ1.out;first|omega|exact Nat.le_refl _⟩,⟨by repeat(first|(with_reducible first|exact HB.out|apply Zm|apply Zl|apply Zn)|exact HB.out)⟩⟩
   case rest=>
    clear HC6
    try clear p2
    try clear c3
    try clear c3b0
    try clear c3b1
    try clear c4
    try clear c4b0
    try clear c4b1
    try clear c5
    try clear p5
    try clear q5
    try clear hx5
    try clear qi5
    try clear c7
    try clear c8
    try clear c8b0
    try clear c8b1
    try clear p2
    try clear p5
    try clear q5
    obtain⟨kq,x5_5,rfl,HA,HJ5,HB⟩:=hcut
    cases kq with
    | zero=>exact absurd HA.out (by simp[Zs.j1])
    | succ kj5=>
     have H:=HA.out
     clear HA
     simp only[Zs.j1] at H
     have HC9:=Za H;clear H
     go_upto_region 5 with (fail)
     go_cut [28] (fun v28 wc=>∃(kq:Nat) (x28_8:Bool),v28=.bool x28_8∧Aside0 (Zs.j2 kq a0 x4_1 x5_5 x28_8=some (r1,r2))∧Aside0 (kq≤kj5)∧Aside0 (Below w.heap.size w wc))
     case first=>
      have H:=HC9.out
      clear HC9
      replace H:=Zg H
      obtain⟨t55001,A100,H⟩:=H
      replace H:(if t55001=true then(Zs.j2 kj5 a0 x4_1 x5_5 (decide ((x5_5.size:Int) > 19))) else(Zs.j2 kj5 a0 x4_1 x5_5 true))=some (r1,r2):=H
      have A10:=Za A100;clear A100
      by_cases c11:t55001=true
      ·subst c11
       have H1:(Zs.j2 kj5 a0 x4_1 x5_5 (decide ((x5_5.size:Int) > 19)))=some (r1,r2):=by rw[if_pos rfl] at H;exact H
       clear H
       have H:=H1
       clear H1
       have H':=Za H
       clear H
       go_wp2_with (first|((with_reducible refine ZA (f:=86) rfl ?_);refine ZT (some 22) rfl rfl Tryd.func86 (by kernel_rfl) rfl #[.string x5_5] rfl (by(try simp only[List.map_toArray,List.map_cons,List.map_nil]);first|done|rfl|(simp only[Zj,Zi];rfl)) ?_;(with_reducible refine(ZN.calls kj5 x5_5 true _ A10.out).mono ?_);rintro e w' ⟨rfl,⟨nd,rfl⟩⟩;refine⟨_,rfl,?_⟩))
       go_meet
       case rel=>exact⟨_,(decide ((x5_5.size:Int) > 19)),(by first|rfl|(simp;done)|(simp[*];done)),H',⟨by have:=HJ1.out;have:=HJ5.out;first|omega|exact Nat.le_refl _⟩,⟨by repeat(first|(with_reducible first|exact HB.out|apply Zm|apply Zl|apply Zn)|exact HB.out)⟩⟩
      ·replace c11:=Bool.eq_false_iff.mpr c11
       subst c11
       have H1:(Zs.j2 kj5 a0 x4_1 x5_5 true)=some (r1,r2):=by rw[if_neg (show ¬(false=true) by decide)] at H;exact H
       clear H
       have H:=H1
       clear H1
       have H':=Za H
       clear H
       go_wp2_with (first|((with_reducible refine ZA (f:=86) rfl ?_);refine ZT (some 22) rfl rfl Tryd.func86 (by kernel_rfl) rfl #[.string x5_5] rfl (by(try simp only[List.map_toArray,List.map_cons,List.map_nil]);first|done|rfl|(simp only[Zj,Zi];rfl)) ?_;(with_reducible refine(ZN.calls kj5 x5_5 false _ A10.out).mono ?_);rintro e w' ⟨rfl,⟨nd,rfl⟩⟩;refine⟨_,rfl,?_⟩))
       go_meet
       case rel=>exact⟨_,(true),(by first|rfl|(simp;done)|(simp[*];done)),H',⟨by have:=HJ1.out;have:=HJ5.out;first|omega|exact Nat.le_refl _⟩,⟨by repeat(first|(with_reducible first|exact HB.out|apply Zm|apply Zl|apply Zn)|exact HB.out)⟩⟩
     case rest=>
      clear HC9
      try clear c1
      try clear p2
      try clear c3
      try clear c3b0
      try clear c3b1
      try clear c4
      try clear c4b0
      try clear c4b1
      try clear c5
      try clear p5
      try clear q5
      try clear hx5
      try clear qi5
      try clear c7
      try clear c8
      try clear c8b0
      try clear c8b1
      try clear c11
      try clear p2
      try clear p5
      try clear q5
      obtain⟨kq,x28_8,rfl,HA,HJ8,HB⟩:=hcut
      cases kq with
      | zero=>exact absurd HA.out (by simp[Zs.j2])
      | succ kj8=>
       have H:=HA.out
       clear HA
       simp only[Zs.j2] at H
       by_cases c12:x28_8=true
       ·subst c12
        have H1:(some (0,false))=some (r1,r2):=by rw[if_pos rfl] at H;exact H
        clear H
        have H:=H1
        clear H1
        simp only[Option.some.injEq,Prod.mk.injEq] at H
        obtain⟨rfl,rfl⟩:=H
        go_wp2
        go_ret2
        exact⟨by first|rfl|(simp[Zr,Zq] <;> rfl)|(simp[*,Zr,Zq] <;> rfl),by repeat(first|(with_reducible first|exact HB.out|apply Zm|apply Zl|apply Zn)|exact HB.out)⟩
       ·replace c12:=Bool.eq_false_iff.mpr c12
        subst c12
        have H1:(Zs.l0 kj8 a0 x4_1 x5_5 0 0)=some (r1,r2):=by rw[if_neg (show ¬(false=true) by decide)] at H;exact H
        clear H
        have H:=H1
        clear H1
        have H':=Za H
        clear H
        go_wp2
        go_loopg [6,7] kj8 (fun kq v6 v7 w'=>∃(x6_4:Int) (x7_4:Int),v6=.int .i64 x6_4∧v7=.int .i64 x7_4∧Aside0 (Zs.l0 kq a0 x4_1 x5_5 x6_4 x7_4=some (r1,r2))∧Aside0 (kq≤kj8)∧Aside0 (Below w.heap.size w w'))
        case atStart=>exact⟨(0),(0),(by first|rfl|(simp;done)|(simp[*];done)),(by first|rfl|(simp;done)|(simp[*];done)),H',⟨Nat.le_refl _⟩,⟨by repeat(first|(with_reducible first|exact HB.out|apply Zm|apply Zl|apply Zn)|exact HB.out)⟩⟩
        case round=>
         clear H'
         try clear c1
         try clear p2
         try clear c3
         try clear c3b0
         try clear c3b1
         try clear c4
         try clear c4b0
         try clear c4b1
         try clear c5
         try clear p5
         try clear q5
         try clear hx5
         try clear qi5
         try clear c7
         try clear c8
         try clear c8b0
         try clear c8b1
         try clear c11
         try clear c12
         try clear p2
         try clear p5
         try clear q5
         obtain⟨x6_4,x7_4,rfl,rfl,HA,HK4,HB⟩:=hrel
         cases gk with
         | zero=>exact absurd HA.out (by simp[Zs.l0])
         | succ k4=>
          have H:=HA.out
          clear HA
          simp only[Zs.l0] at H
          by_cases c13:x7_4<(x5_5.size:Int)
          ·rw[if_pos c13] at H
           have c13b0:decide (x7_4<(x5_5.size:Int))=true:=Zd c13
           clear c13
           by_cases c14:0≤x7_4
           ·rw[if_pos c14] at H
            have c14b0:decide (0≤x7_4)=true:=Zd c14
            clear c14
            by_cases c16:x6_4<(wrap64 (Int.tdiv (wrap64 ((-9223372036854775808)+(wrap64 ((wrap64 (bt x5_5 x7_4)) - 48)))) 10))
            ·rw[if_pos c16] at H
             have c16b0:decide (x6_4<(wrap64 (Int.tdiv (wrap64 ((-9223372036854775808)+(wrap64 ((wrap64 (bt x5_5 x7_4)) - 48)))) 10)))=true:=Zd c16
             clear c16
             simp only[Option.some.injEq,Prod.mk.injEq] at H
             obtain⟨rfl,rfl⟩:=H
             have p15:0≤(x7_4:Int):=Zc (by first|(with_reducible assumption)|assumption)
             have q15:x7_4<(x5_5.size:Int):=Zc (by first|(with_reducible assumption)|assumption)
             have hx15:=Zaw x5_5 x7_4
             replace p15:=eq_true p15
             replace q15:=eq_true q15
             go_wp2
             go_ret2
             exact⟨by first|rfl|(simp[Zr,Zq] <;> rfl)|(simp[*,Zr,Zq] <;> rfl),by repeat(first|(with_reducible first|exact HB.out|apply Zm|apply Zl|apply Zn)|exact HB.out)⟩
            ·rw[if_neg c16] at H
             have c16b0:decide (x6_4<(wrap64 (Int.tdiv (wrap64 ((-9223372036854775808)+(wrap64 ((wrap64 (bt x5_5 x7_4)) - 48)))) 10)))=false:=Ze c16
             clear c16
             have H':=Za H
             clear H
             have p15:0≤(x7_4:Int):=Zc (by first|(with_reducible assumption)|assumption)
             have q15:x7_4<(x5_5.size:Int):=Zc (by first|(with_reducible assumption)|assumption)
             have hx15:=Zaw x5_5 x7_4
             replace p15:=eq_true p15
             replace q15:=eq_true q15
             go_wp2
             go_roundg k4
             case measure=>have:=HJ1.out;have:=HJ5.out;have:=HJ8.out;have:=HK4.out;omega
             case rel=>exact⟨(wrap64 ((wrap64 (x6_4 * 10)) - (wrap64 ((wrap64 (bt x5_5 x7_4)) - 48)))),(wrap64 (x7_4+1)),(by first|rfl|(simp;done)|(simp[*];done)),(by first|rfl|(simp;done)|(simp[*];done)),H',⟨by have:=HJ1.out;have:=HJ5.out;have:=HJ8.out;have:=HK4.out;omega⟩,⟨by repeat(first|(with_reducible first|exact HB.out|apply Zm|apply Zl|apply Zn)|exact HB.out)⟩⟩
           ·rw[if_neg c14] at H
            exact absurd H (by simp)
          ·rw[if_neg c13] at H
           have c13b0:decide (x7_4<(x5_5.size:Int))=false:=Ze c13
           clear c13
           by_cases c17:x4_1=true
           ·subst c17
            have H1:((Zt.f k4 x6_4).bind fun t55002=>(if t55002.toList=a0.toList then(some (x6_4,true)) else(some (0,false))))=some (r1,r2):=by rw[if_pos rfl] at H;exact H
            clear H
            have H:=H1
            clear H1
            replace H:=Zg H
            obtain⟨t55002,A180,H⟩:=H
            replace H:(if t55002.toList=a0.toList then(some (x6_4,true)) else(some (0,false)))=some (r1,r2):=H
            have A18:=Za A180;clear A180
            by_cases c19:t55002.toList=a0.toList
            ·rw[if_pos c19] at H
             have c19b0:(t55002.toList == a0.toList)=true:=beq_iff_eq.mpr c19
             have c19b1:(t55002.toList != a0.toList)=false:=bne_eq_false_iff_eq.mpr c19
             clear c19
             simp only[Option.some.injEq,Prod.mk.injEq] at H
             obtain⟨rfl,rfl⟩:=H
             go_wp2_with (first|((with_reducible refine ZA (f:=35) rfl ?_);refine ZT (some 56) rfl rfl Tryd.func35 (by kernel_rfl) rfl #[.int .i64 x6_4] rfl (by(try simp only[List.map_toArray,List.map_cons,List.map_nil]);first|done|rfl|(simp only[Zj,Zi];rfl)) ?_;(with_reducible refine(Zt.calls k4 x6_4 t55002 _ A18.out).mono ?_);rintro e w20 ⟨rfl,hb⟩;refine⟨_,rfl,?_⟩;replace HB:=Za (Zu (by repeat(first|(with_reducible first|exact HB.out|apply Zm|apply Zl|apply Zn)|exact HB.out)) hb);(try clear hb);(try clear hb2);(try clear hk);(try clear hi)))
             go_ret2
             exact⟨by first|rfl|(simp[Zr,Zq] <;> rfl)|(simp[*,Zr,Zq] <;> rfl),by repeat(first|(with_reducible first|exact HB.out|apply Zm|apply Zl|apply Zn)|exact HB.out)⟩
            ·rw[if_neg c19] at H
             have c19b0:(t55002.toList == a0.toList)=false:=beq_eq_false_iff_ne.mpr c19
             have c19b1:(t55002.toList != a0.toList)=true:=bne_iff_ne.mpr c19
             simp only[Option.some.injEq,Prod.mk.injEq] at H
             obtain⟨rfl,rfl⟩:=H
             go_wp2_with (first|((with_reducible refine ZA (f:=35) rfl ?_);refine ZT (some 56) rfl rfl Tryd.func35 (by kernel_rfl) rfl #[.int .i64 x6_4] rfl (by(try simp only[List.map_toArray,List.map_cons,List.map_nil]);first|done|rfl|(simp only[Zj,Zi];rfl)) ?_;(with_reducible refine(Zt.calls k4 x6_4 t55002 _ A18.out).mono ?_);rintro e w21 ⟨rfl,hb⟩;refine⟨_,rfl,?_⟩;replace HB:=Za (Zu (by repeat(first|(with_reducible first|exact HB.out|apply Zm|apply Zl|apply Zn)|exact HB.out)) hb);(try clear hb);(try clear hb2);(try clear hk);(try clear hi)))
             go_ret2
             exact⟨by first|rfl|(simp[Zr,Zq] <;> rfl)|(simp[*,Zr,Zq] <;> rfl),by repeat(first|(with_reducible first|exact HB.out|apply Zm|apply Zl|apply Zn)|exact HB.out)⟩
           ·replace c17:=Bool.eq_false_iff.mpr c17
            subst c17
            have H1:(if x6_4=(-9223372036854775808) then(some (0,false)) else((Zt.f k4 (wrap64 (-x6_4))).bind fun t55003=>(if t55003.toList=a0.toList then(some (wrap64 (-x6_4),true)) else(some (0,false)))))=some (r1,r2):=by rw[if_neg (show ¬(false=true) by decide)] at H;exact H
            clear H
            have H:=H1
            clear H1
            by_cases c22:x6_4=(-9223372036854775808)
            ·rw[if_pos c22] at H
             have c22b0:(x6_4 == (-9223372036854775808))=true:=beq_iff_eq.mpr c22
             have c22b1:(x6_4 != (-9223372036854775808))=false:=bne_eq_false_iff_eq.mpr c22
             clear c22
             simp only[Option.some.injEq,Prod.mk.injEq] at H
             obtain⟨rfl,rfl⟩:=H
             go_wp2
             go_ret2
             exact⟨by first|rfl|(simp[Zr,Zq] <;> rfl)|(simp[*,Zr,Zq] <;> rfl),by repeat(first|(with_reducible first|exact HB.out|apply Zm|apply Zl|apply Zn)|exact HB.out)⟩
            ·rw[if_neg c22] at H
             have c22b0:(x6_4 == (-9223372036854775808))=false:=beq_eq_false_iff_ne.mpr c22
             have c22b1:(x6_4 != (-9223372036854775808))=true:=bne_iff_ne.mpr c22
             replace H:=Zg H
             obtain⟨t55003,A230,H⟩:=H
             replace H:(if t55003.toList=a0.toList then(some (wrap64 (-x6_4),true)) else(some (0,false)))=some (r1,r2):=H
             have A23:=Za A230;clear A230
             by_cases c24:t55003.toList=a0.toList
             ·rw[if_pos c24] at H
              have c24b0:(t55003.toList == a0.toList)=true:=beq_iff_eq.mpr c24
              have c24b1:(t55003.toList != a0.toList)=false:=bne_eq_false_iff_eq.mpr c24
              clear c24
              simp only[Option.some.injEq,Prod.mk.injEq] at H
              obtain⟨rfl,rfl⟩:=H
              go_wp2_with (first|((with_reducible refine ZA (f:=35) rfl ?_);refine ZT (some 56) rfl rfl Tryd.func35 (by kernel_rfl) rfl #[.int .i64 (wrap64 (-x6_4))] rfl (by(try simp only[List.map_toArray,List.map_cons,List.map_nil]);first|done|rfl|(simp only[Zj,Zi];rfl)) ?_;(with_reducible refine(Zt.calls k4 (wrap64 (-x6_4)) t55003 _ A23.out).mono ?_);rintro e w25 ⟨rfl,hb⟩;refine⟨_,rfl,?_⟩;replace HB:=Za (Zu (by repeat(first|(with_reducible first|exact HB.out|apply Zm|apply Zl|apply Zn)|exact HB.out)) hb);(try clear hb);(try clear hb2);(try clear hk);(try clear hi)))
              go_ret2
              exact⟨by first|rfl|(simp[Zr,Zq] <;> rfl)|(simp[*,Zr,Zq] <;> rfl),by repeat(first|(with_reducible first|exact HB.out|apply Zm|apply Zl|apply Zn)|exact HB.out)⟩
             ·rw[if_neg c24] at H
              have c24b0:(t55003.toList == a0.toList)=false:=beq_eq_false_iff_ne.mpr c24
              have c24b1:(t55003.toList != a0.toList)=true:=bne_iff_ne.mpr c24
              simp only[Option.some.injEq,Prod.mk.injEq] at H
              obtain⟨rfl,rfl⟩:=H
              go_wp2_with (first|((with_reducible refine ZA (f:=35) rfl ?_);refine ZT (some 56) rfl rfl Tryd.func35 (by kernel_rfl) rfl #[.int .i64 (wrap64 (-x6_4))] rfl (by(try simp only[List.map_toArray,List.map_cons,List.map_nil]);first|done|rfl|(simp only[Zj,Zi];rfl)) ?_;(with_reducible refine(Zt.calls k4 (wrap64 (-x6_4)) t55003 _ A23.out).mono ?_);rintro e w26 ⟨rfl,hb⟩;refine⟨_,rfl,?_⟩;replace HB:=Za (Zu (by repeat(first|(with_reducible first|exact HB.out|apply Zm|apply Zl|apply Zn)|exact HB.out)) hb);(try clear hb);(try clear hb2);(try clear hk);(try clear hi)))
              go_ret2
              exact⟨by first|rfl|(simp[Zr,Zq] <;> rfl)|(simp[*,Zr,Zq] <;> rfl),by repeat(first|(with_reducible first|exact HB.out|apply Zm|apply Zl|apply Zn)|exact HB.out)⟩
def Z1.l0:Nat→ByteArray→ByteArray→List ByteArray→Int→Int→Option (ByteArray)
 | 0,_,_,_,_,_=>none
 | k+1,x1,x5,x8,x9,x10=>if x10<x9 then(if 0≤x10 then(if x10<(x8.length:Int) then(if x10 > 0 then(if x5.size+x1.size≤9223372036854775807 then(if (x5 ++ x1).size+(rdOf ByteArray.empty x8 x10).size≤9223372036854775807 then(Z1.l0 k x1 ((x5 ++ x1) ++ (rdOf ByteArray.empty x8 x10)) x8 x9 (wrap64 (x10+1))) else(none)) else(none)) else(if x5.size+(rdOf ByteArray.empty x8 x10).size≤9223372036854775807 then(Z1.l0 k x1 (x5 ++ (rdOf ByteArray.empty x8 x10)) x8 x9 (wrap64 (x10+1))) else(none))) else(none)) else(none)) else(some x5)
def Z1.f (k:Nat) (l0:List ByteArray) (a1:ByteArray):Option (ByteArray):=Z1.l0 k a1 (⟨#[]⟩:ByteArray) l0 (l0.length:Int) 0
set_option maxHeartbeats 8000000 in
set_option maxRecDepth 100000 in
theorem Z1.calls (k:Nat) (A0:Option Addr) (c0:Nat) (l0:List ByteArray) (a1:ByteArray) (r:ByteArray) (w:World) (hr0:Kd.C Kd.string w A0 l0.length l0) (hc0:l0.length≤c0) (h:Z1.f k l0 a1=some r) :
  Calls Tryd.prog 37 #[.slice A0 l0.length c0,.string a1] w fun e w'=>e=.returned (.string r)∧Zw w w':=by
 have HR0:=Za hr0;have HC0:=Za hc0;clear hr0 hc0
 have H:(Z1.l0 k a1 (⟨#[]⟩:ByteArray) l0 (l0.length:Int) 0)=some r:=h
 clear h
 have H':=Za H
 clear H
 go_enter Tryd.func37,Tryd.ntmps37
 go_wp2
 go_loopg [5,10] k (fun kq v5 v10 w'=>∃(x5_1:ByteArray) (x10_1:Int),v5=.string x5_1∧v10=.int .i64 x10_1∧Aside0 (Z1.l0 kq a1 x5_1 l0 (l0.length:Int) x10_1=some r)∧Aside0 (kq≤k)∧Zw w w')
 case atStart=>exact⟨((⟨#[]⟩:ByteArray)),(0),(by first|rfl|(simp;done)|(simp[*];done)),(by first|rfl|(simp;done)|(simp[*];done)),H',⟨Nat.le_refl _⟩,by repeat(first|exact Zw.refl _|apply Zw.step)⟩
 case round=>
  clear H'
  try clear p2
  obtain⟨x5_1,x10_1,rfl,rfl,HA,HK1,⟨m1,rfl⟩⟩:=hrel
  cases gk with
  | zero=>exact absurd HA.out (by simp[Z1.l0])
  | succ k1=>
   have H:=HA.out
   clear HA
   simp only[Z1.l0] at H
   by_cases c3:x10_1<(l0.length:Int)
   ·rw[if_pos c3] at H
    have c3b0:decide (x10_1<(l0.length:Int))=true:=Zd c3
    clear c3
    by_cases c4:0≤x10_1
    ·rw[if_pos c4] at H
     have c4b0:decide (0≤x10_1)=true:=Zd c4
     clear c4
     by_cases c5:x10_1<(l0.length:Int)
     ·rw[if_pos c5] at H
      have c5b0:decide (x10_1<(l0.length:Int))=true:=Zd c5
      clear c5
      by_cases c6:x10_1 > 0
      ·rw[if_pos c6] at H
       have c6b0:decide (0<x10_1)=true:=Zd c6
       clear c6
       by_cases c7:x5_1.size+a1.size≤9223372036854775807
       ·rw[if_pos c7] at H
        have c7b0:=eq_true c7
        have c7b1:decide (x5_1.size+a1.size≤9223372036854775807)=true:=Zd c7
        try have c7b2:(9223372036854775807<x5_1.size+a1.size)=False:=eq_false (Nat.not_lt.2 c7)
        by_cases c8:(x5_1 ++ a1).size+(rdOf ByteArray.empty l0 x10_1).size≤9223372036854775807
        ·rw[if_pos c8] at H
         have c8b0:=eq_true c8
         have c8b1:decide ((x5_1 ++ a1).size+(rdOf ByteArray.empty l0 x10_1).size≤9223372036854775807)=true:=Zd c8
         try have c8b2:(9223372036854775807<(x5_1 ++ a1).size+(rdOf ByteArray.empty l0 x10_1).size)=False:=eq_false (Nat.not_lt.2 c8)
         try have c8b4:(9223372036854775807<(x5_1.size+a1.size)+(rdOf ByteArray.empty l0 x10_1).size)=False:=eq_false (Nat.not_lt.2 (by have h_:=c8;simp only[ByteArray.size_append] at h_;exact h_))
         have H':=Za H
         clear H
         have p37001:0≤(x10_1:Int):=Zc (by first|(with_reducible assumption)|assumption)
         have q37001:x10_1<(l0.length:Int):=Zc (by first|(with_reducible assumption)|assumption)
         obtain⟨ad37001,e37001,hx37001_0⟩:=Kd.at_string HR0.out x10_1 p37001 q37001
         cases e37001
         replace p37001:=eq_true p37001
         replace q37001:=eq_true q37001
         go_wp2
         go_roundg k1
         case measure=>have:=HK1.out;omega
         case rel=>exact⟨((x5_1 ++ a1) ++ (rdOf ByteArray.empty l0 x10_1)),(wrap64 (x10_1+1)),(by first|rfl|(simp;done)|(simp[*];done)),(by first|rfl|(simp;done)|(simp[*];done)),H',⟨by have:=HK1.out;omega⟩,by repeat(first|exact Zw.refl _|apply Zw.step)⟩
        ·rw[if_neg c8] at H
         exact absurd H (by simp)
       ·rw[if_neg c7] at H
        exact absurd H (by simp)
      ·rw[if_neg c6] at H
       have c6b0:decide (0<x10_1)=false:=Ze c6
       clear c6
       by_cases c9:x5_1.size+(rdOf ByteArray.empty l0 x10_1).size≤9223372036854775807
       ·rw[if_pos c9] at H
        have c9b0:=eq_true c9
        have c9b1:decide (x5_1.size+(rdOf ByteArray.empty l0 x10_1).size≤9223372036854775807)=true:=Zd c9
        try have c9b2:(9223372036854775807<x5_1.size+(rdOf ByteArray.empty l0 x10_1).size)=False:=eq_false (Nat.not_lt.2 c9)
        have H':=Za H
        clear H
        have p37001:0≤(x10_1:Int):=Zc (by first|(with_reducible assumption)|assumption)
        have q37001:x10_1<(l0.length:Int):=Zc (by first|(with_reducible assumption)|assumption)
        obtain⟨ad37001,e37001,hx37001_0⟩:=Kd.at_string HR0.out x10_1 p37001 q37001
        cases e37001
        replace p37001:=eq_true p37001
        replace q37001:=eq_true q37001
        go_wp2
        go_roundg k1
        case measure=>have:=HK1.out;omega
        case rel=>exact⟨(x5_1 ++ (rdOf ByteArray.empty l0 x10_1)),(wrap64 (x10_1+1)),(by first|rfl|(simp;done)|(simp[*];done)),(by first|rfl|(simp;done)|(simp[*];done)),H',⟨by have:=HK1.out;omega⟩,by repeat(first|exact Zw.refl _|apply Zw.step)⟩
       ·rw[if_neg c9] at H
        exact absurd H (by simp)
     ·rw[if_neg c5] at H
      exact absurd H (by simp)
    ·rw[if_neg c4] at H
     exact absurd H (by simp)
   ·rw[if_neg c3] at H
    have c3b0:decide (x10_1<(l0.length:Int))=false:=Ze c3
    clear c3
    obtain rfl:=Zf H
    go_wp2
    go_ret
    exact⟨by first|rfl|(simp;done)|(simp[*];done),by repeat(first|exact Zw.refl _|apply Zw.step)⟩
end Go.Proofs.YthphnhmabieflaaDoor.Pr
