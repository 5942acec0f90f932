/- The texts of one claim, put together by a program of this session. -/
import Derived.Test.YtammpmadchekeaaProg
import Derived.Below
import Derived.Deep.Draws
import Derived.Deep.AppendLies
import Derived.Maps.AppendAt
import Derived.OwnWalk
import Derived.Laws.BytesArg
import Derived.Laws.MakeOwn
import Derived.Laws.OwnMore
import Derived.Deep.OwnRows
import Derived.Tactics
import Derived.Lib.ConvBytes
import Derived.Laws.Slices
import Derived.WalkKit
import Derived.KernelRfl
import Derived.RowKit3
import Derived.Deep.LoopGhost
import Derived.Deep.QuietTactic
import Derived.BigQuiet
import Derived.WideLaws
import Derived.Deep.DeepCutAuto
import Derived.Deep.CutBlock
import Derived.Deep.RegionHeld3
import Derived.Laws.Rows
import Derived.Lib.AppendStr
import Derived.ArgAppend
import Derived.Laws.IdiomCopy
import Derived.OrdersHeld
import Derived.Laws.BitsLemmas
import Derived.RowKit
import Derived.ChangeArms
import Derived.ChangeSlices
import Derived.WideShapes
import Derived.Deep.Slices
import Derived.Shelf.Abstract
import Derived.Lib.SliceRun
import Derived.WalkSpells
import Derived.Test.YtammpmadchekeaaBWl0
namespace Go.Proofs.Ytammpmadchekeaa.Pr
open Go.RowKit Go.Proofs.YtammpmadchekeaaW.PrintWords Go.Proofs.YtammpmadchekeaaW.PrintLast Go.Proofs.YtammpmadchekeaaW.PrintMore
attribute [local go_sem] ZV ZT Z0 ZZ ZN ZM ZU ZS
set_option linter.unusedVariables false
set_option linter.unusedSimpArgs false
def errW:Option Int→Value
 | none=>.nilIface
 | some c=>.iface 0 (.int .i64 c)
theorem ZG:errW none=.nilIface:=rfl
theorem ZF (c:Int):errW (some c)=.iface 0 (.int .i64 c):=rfl
theorem info3:(Try.prog.info? 3).map (fun i=>(i.zero,i.size,i.bytes))=some (some (.int .i64 0),1,8):=by kernel_rfl
theorem info42:(Try.prog.info? 42).map (fun i=>(i.zero,i.size,i.bytes))=some (some (.agg #[(.string ⟨#[]⟩),(.slice none 0 0),(.int .i64 0)]),3,48):=by kernel_rfl
theorem info77:(Try.prog.info? 77).map (fun i=>(i.zero,i.size,i.bytes))=some (some (.agg #[(.int .i64 0),(.int .i64 0),(.int .i64 0),(.int .i64 0),(.bool false)]),5,40):=by kernel_rfl
def rd_L2 (xs:List (List Int)) (i:Int):(List Int):=xs.getD i.toNat ([]:List Int)
structure S39 where
 f0:ByteArray
 f1:(List Int)
 f2:Int
def z39:S39:=⟨(⟨#[]⟩:ByteArray),([]:List Int),(0:Int)⟩
def k39:Kd S39:=Kd.iso (Kd.pair Kd.string (Kd.pair (Kd.slice 3 (Kd.int .i64)) (Kd.int .i64))) (fun x:S39=>(x.f0,x.f1,x.f2))
theorem k39_open {w:World} {x:S39} {cs:List Value} (h:k39.K w x cs):∃A1 c1,cs=[.string x.f0,.slice A1 x.f1.length c1,.int .i64 x.f2]∧x.f1.length≤c1∧(Kd.int .i64).C w A1 x.f1.length x.f1:=by
 obtain⟨_,_,rfl,rfl,⟨_,_,rfl,⟨A1,c1,rfl,l1,g1⟩,rfl⟩⟩:=h
 exact⟨A1,c1,rfl,l1,g1⟩
def Zak (xs:List S39) (i:Int):S39:=xs.getD i.toNat z39
theorem at_T39 {w:World} {A:Option Addr} {n:Nat} {xs:List S39} (h:Kd.C k39 w A n xs) (i:Int) (h0:0≤i) (h1:i<n):∃ad A1 c1,A=some ad∧w.cell? (ad.add (i.toNat * 3))=some (.string (Zak xs i).f0)∧w.cell? ⟨(ad.add (i.toNat * 3)).block,(ad.add (i.toNat * 3)).off+1,none⟩=some (.slice A1 (Zak xs i).f1.length c1)∧w.cell? ⟨(ad.add (i.toNat * 3)).block,(ad.add (i.toNat * 3)).off+2,none⟩=some (.int .i64 (Zak xs i).f2)∧(Zak xs i).f1.length≤c1∧(Kd.int .i64).C w A1 (Zak xs i).f1.length (Zak xs i).f1:=by
 obtain⟨ad,c,e,_,hK,hc0⟩:=Kd.C_get h z39 i h0 h1
 have hc:∀j u,c[j]? = some u→w.cell? (ad.add (i.toNat * 3+j))=some u:=hc0
 obtain⟨A1,c1,rfl,l1,g1⟩:=k39_open hK
 exact⟨ad,A1,c1,e,hc 0 _ rfl,by rw[← ZB _ _ 1 (by omega)];exact hc 1 _ rfl,by rw[← ZB _ _ 2 (by omega)];exact hc 2 _ rfl,l1,g1⟩
structure S84 where
 f0:Int
 f1:Int
 f2:Int
 f3:Int
 f4:Bool
def z84:S84:=⟨(0:Int),(0:Int),(0:Int),(0:Int),false⟩
def k84:Kd S84:=Kd.iso (Kd.pair (Kd.int .i64) (Kd.pair (Kd.int .i64) (Kd.pair (Kd.int .i64) (Kd.pair (Kd.int .i64) Kd.bool)))) (fun x:S84=>(x.f0,x.f1,x.f2,x.f3,x.f4))
theorem k84_open {w:World} {x:S84} {cs:List Value} (h:k84.K w x cs):cs=[.int .i64 x.f0,.int .i64 x.f1,.int .i64 x.f2,.int .i64 x.f3,.bool x.f4]:=by
 obtain⟨_,_,rfl,rfl,⟨_,_,rfl,rfl,⟨_,_,rfl,rfl,⟨_,_,rfl,rfl,rfl⟩⟩⟩⟩:=h
 exact rfl
def rd_T84 (xs:List S84) (i:Int):S84:=xs.getD i.toNat z84
theorem at_T84 {w:World} {A:Option Addr} {n:Nat} {xs:List S84} (h:Kd.C k84 w A n xs) (i:Int) (h0:0≤i) (h1:i<n):∃ad ,A=some ad∧w.cell? (ad.add (i.toNat * 5))=some (.int .i64 (rd_T84 xs i).f0)∧w.cell? ⟨(ad.add (i.toNat * 5)).block,(ad.add (i.toNat * 5)).off+1,none⟩=some (.int .i64 (rd_T84 xs i).f1)∧w.cell? ⟨(ad.add (i.toNat * 5)).block,(ad.add (i.toNat * 5)).off+2,none⟩=some (.int .i64 (rd_T84 xs i).f2)∧w.cell? ⟨(ad.add (i.toNat * 5)).block,(ad.add (i.toNat * 5)).off+3,none⟩=some (.int .i64 (rd_T84 xs i).f3)∧w.cell? ⟨(ad.add (i.toNat * 5)).block,(ad.add (i.toNat * 5)).off+4,none⟩=some (.bool (rd_T84 xs i).f4):=by
 obtain⟨ad,c,e,_,hK,hc0⟩:=Kd.C_get h z84 i h0 h1
 have hc:∀j u,c[j]? = some u→w.cell? (ad.add (i.toNat * 5+j))=some u:=hc0
 obtain rfl:=k84_open hK
 exact⟨ad,e,hc 0 _ rfl,by rw[← ZB _ _ 1 (by omega)];exact hc 1 _ rfl,by rw[← ZB _ _ 2 (by omega)];exact hc 2 _ rfl,by rw[← ZB _ _ 3 (by omega)];exact hc 3 _ rfl,by rw[← ZB _ _ 4 (by omega)];exact hc 4 _ rfl⟩
structure S42 where
 f0:ByteArray
 f1:(List Int)
 f2:Int
def z42:S42:=⟨(⟨#[]⟩:ByteArray),([]:List Int),(0:Int)⟩
def k42:Kd S42:=Kd.iso (Kd.pair Kd.string (Kd.pair (Kd.slice 3 (Kd.int .i64)) (Kd.int .i64))) (fun x:S42=>(x.f0,x.f1,x.f2))
theorem k42_open {w:World} {x:S42} {cs:List Value} (h:k42.K w x cs):∃A1 c1,cs=[.string x.f0,.slice A1 x.f1.length c1,.int .i64 x.f2]∧x.f1.length≤c1∧(Kd.int .i64).C w A1 x.f1.length x.f1:=by
 obtain⟨_,_,rfl,rfl,⟨_,_,rfl,⟨A1,c1,rfl,l1,g1⟩,rfl⟩⟩:=h
 exact⟨A1,c1,rfl,l1,g1⟩
theorem k42_openM {w:World} {base:Nat} {ok:Nat→Prop} {x:S42} {cs:List Value} (h:k42.M w base ok x cs):∃v1,cs=[.string x.f0,v1,.int .i64 x.f2]∧(Kd.int .i64).R 3 w base ok v1 x.f1:=by
 obtain⟨_,_,rfl,rfl,⟨_,_,rfl,⟨v1,rfl,g1⟩,rfl⟩⟩:=h
 exact⟨v1,rfl,g1⟩
theorem k42_mkM (w:World) (base:Nat) (ok:Nat→Prop) (x:S42) {v1:Value} (g1:(Kd.int .i64).R 3 w base ok v1 x.f1):k42.M w base ok x [.string x.f0,v1,.int .i64 x.f2]:=⟨[.string x.f0],[v1,.int .i64 x.f2],rfl,rfl,⟨[v1],[.int .i64 x.f2],rfl,⟨v1,rfl,g1⟩,rfl⟩⟩
def Zaj (xs:List S42) (i:Int):S42:=xs.getD i.toNat z42
theorem at_T42 {w:World} {A:Option Addr} {n:Nat} {xs:List S42} (h:Kd.C k42 w A n xs) (i:Int) (h0:0≤i) (h1:i<n):∃ad A1 c1,A=some ad∧w.cell? (ad.add (i.toNat * 3))=some (.string (Zaj xs i).f0)∧w.cell? ⟨(ad.add (i.toNat * 3)).block,(ad.add (i.toNat * 3)).off+1,none⟩=some (.slice A1 (Zaj xs i).f1.length c1)∧w.cell? ⟨(ad.add (i.toNat * 3)).block,(ad.add (i.toNat * 3)).off+2,none⟩=some (.int .i64 (Zaj xs i).f2)∧(Zaj xs i).f1.length≤c1∧(Kd.int .i64).C w A1 (Zaj xs i).f1.length (Zaj xs i).f1:=by
 obtain⟨ad,c,e,_,hK,hc0⟩:=Kd.C_get h z42 i h0 h1
 have hc:∀j u,c[j]? = some u→w.cell? (ad.add (i.toNat * 3+j))=some u:=hc0
 obtain⟨A1,c1,rfl,l1,g1⟩:=k42_open hK
 exact⟨ad,A1,c1,e,hc 0 _ rfl,by rw[← ZB _ _ 1 (by omega)];exact hc 1 _ rfl,by rw[← ZB _ _ 2 (by omega)];exact hc 2 _ rfl,l1,g1⟩
structure S77 where
 f0:Int
 f1:Int
 f2:Int
 f3:Int
 f4:Bool
def z77:S77:=⟨(0:Int),(0:Int),(0:Int),(0:Int),false⟩
def k77:Kd S77:=Kd.iso (Kd.pair (Kd.int .i64) (Kd.pair (Kd.int .i64) (Kd.pair (Kd.int .i64) (Kd.pair (Kd.int .i64) Kd.bool)))) (fun x:S77=>(x.f0,x.f1,x.f2,x.f3,x.f4))
theorem k77_open {w:World} {x:S77} {cs:List Value} (h:k77.K w x cs):cs=[.int .i64 x.f0,.int .i64 x.f1,.int .i64 x.f2,.int .i64 x.f3,.bool x.f4]:=by
 obtain⟨_,_,rfl,rfl,⟨_,_,rfl,rfl,⟨_,_,rfl,rfl,⟨_,_,rfl,rfl,rfl⟩⟩⟩⟩:=h
 exact rfl
theorem k77_openM {w:World} {base:Nat} {ok:Nat→Prop} {x:S77} {cs:List Value} (h:k77.M w base ok x cs):cs=[.int .i64 x.f0,.int .i64 x.f1,.int .i64 x.f2,.int .i64 x.f3,.bool x.f4]:=by
 obtain⟨_,_,rfl,rfl,⟨_,_,rfl,rfl,⟨_,_,rfl,rfl,⟨_,_,rfl,rfl,rfl⟩⟩⟩⟩:=h
 exact rfl
theorem k77_mkM (w:World) (base:Nat) (ok:Nat→Prop) (x:S77)  : k77.M w base ok x [.int .i64 x.f0,.int .i64 x.f1,.int .i64 x.f2,.int .i64 x.f3,.bool x.f4]:=⟨[.int .i64 x.f0],[.int .i64 x.f1,.int .i64 x.f2,.int .i64 x.f3,.bool x.f4],rfl,rfl,⟨[.int .i64 x.f1],[.int .i64 x.f2,.int .i64 x.f3,.bool x.f4],rfl,rfl,⟨[.int .i64 x.f2],[.int .i64 x.f3,.bool x.f4],rfl,rfl,⟨[.int .i64 x.f3],[.bool x.f4],rfl,rfl,rfl⟩⟩⟩⟩
def rd_T77 (xs:List S77) (i:Int):S77:=xs.getD i.toNat z77
theorem at_T77 {w:World} {A:Option Addr} {n:Nat} {xs:List S77} (h:Kd.C k77 w A n xs) (i:Int) (h0:0≤i) (h1:i<n):∃ad ,A=some ad∧w.cell? (ad.add (i.toNat * 5))=some (.int .i64 (rd_T77 xs i).f0)∧w.cell? ⟨(ad.add (i.toNat * 5)).block,(ad.add (i.toNat * 5)).off+1,none⟩=some (.int .i64 (rd_T77 xs i).f1)∧w.cell? ⟨(ad.add (i.toNat * 5)).block,(ad.add (i.toNat * 5)).off+2,none⟩=some (.int .i64 (rd_T77 xs i).f2)∧w.cell? ⟨(ad.add (i.toNat * 5)).block,(ad.add (i.toNat * 5)).off+3,none⟩=some (.int .i64 (rd_T77 xs i).f3)∧w.cell? ⟨(ad.add (i.toNat * 5)).block,(ad.add (i.toNat * 5)).off+4,none⟩=some (.bool (rd_T77 xs i).f4):=by
 obtain⟨ad,c,e,_,hK,hc0⟩:=Kd.C_get h z77 i h0 h1
 have hc:∀j u,c[j]? = some u→w.cell? (ad.add (i.toNat * 5+j))=some u:=hc0
 obtain rfl:=k77_open hK
 exact⟨ad,e,hc 0 _ rfl,by rw[← ZB _ _ 1 (by omega)];exact hc 1 _ rfl,by rw[← ZB _ _ 2 (by omega)];exact hc 2 _ rfl,by rw[← ZB _ _ 3 (by omega)];exact hc 3 _ rfl,by rw[← ZB _ _ 4 (by omega)];exact hc 4 _ rfl⟩
def rd_L8 (xs:List (List S42)) (i:Int):(List S42):=xs.getD i.toNat ([]:List S42)
def rd_L9 (xs:List (List S77)) (i:Int):(List S77):=xs.getD i.toNat ([]:List S77)
structure S55 where
 f0:(List S42)
 f1:(List S77)
 f2:Int
def z55:S55:=⟨([]:List S42),([]:List S77),(0:Int)⟩
def k55:Kd S55:=Kd.iso (Kd.pair (Kd.slice 42 k42) (Kd.pair (Kd.slice 77 k77) (Kd.int .i64))) (fun x:S55=>(x.f0,x.f1,x.f2))
def rd_T55 (xs:List S55) (i:Int):S55:=xs.getD i.toNat z55
structure S31 where
 f0:Int
 f1:(List Int)
 f2:(List Int)
def z31:S31:=⟨(0:Int),([]:List Int),([]:List Int)⟩
def k31:Kd S31:=Kd.iso (Kd.pair (Kd.int .i64) (Kd.pair (Kd.slice 3 (Kd.int .i64)) (Kd.slice 3 (Kd.int .i64)))) (fun x:S31=>(x.f0,x.f1,x.f2))
theorem k31_open {w:World} {x:S31} {cs:List Value} (h:k31.K w x cs):∃A1 c1 A2 c2,cs=[.int .i64 x.f0,.slice A1 x.f1.length c1,.slice A2 x.f2.length c2]∧x.f1.length≤c1∧(Kd.int .i64).C w A1 x.f1.length x.f1∧x.f2.length≤c2∧(Kd.int .i64).C w A2 x.f2.length x.f2:=by
 obtain⟨_,_,rfl,rfl,⟨_,_,rfl,⟨A1,c1,rfl,l1,g1⟩,⟨A2,c2,rfl,l2,g2⟩⟩⟩:=h
 exact⟨A1,c1,A2,c2,rfl,l1,g1,l2,g2⟩
def rd_T31 (xs:List S31) (i:Int):S31:=xs.getD i.toNat z31
def rd_L12 (xs:List (List S39)) (i:Int):(List S39):=xs.getD i.toNat ([]:List S39)
def rd_L13 (xs:List (List S84)) (i:Int):(List S84):=xs.getD i.toNat ([]:List S84)
structure S49 where
 f0:(List S39)
 f1:(List S84)
 f2:Int
def z49:S49:=⟨([]:List S39),([]:List S84),(0:Int)⟩
def k49:Kd S49:=Kd.iso (Kd.pair (Kd.slice 39 k39) (Kd.pair (Kd.slice 84 k84) (Kd.int .i64))) (fun x:S49=>(x.f0,x.f1,x.f2))
theorem k49_open {w:World} {x:S49} {cs:List Value} (h:k49.K w x cs):∃A0 c0 A1 c1,cs=[.slice A0 x.f0.length c0,.slice A1 x.f1.length c1,.int .i64 x.f2]∧x.f0.length≤c0∧k39.C w A0 x.f0.length x.f0∧x.f1.length≤c1∧k84.C w A1 x.f1.length x.f1:=by
 obtain⟨_,_,rfl,⟨A0,c0,rfl,l0,g0⟩,⟨_,_,rfl,⟨A1,c1,rfl,l1,g1⟩,rfl⟩⟩:=h
 exact⟨A0,c0,A1,c1,rfl,l0,g0,l1,g1⟩
def rd_T49 (xs:List S49) (i:Int):S49:=xs.getD i.toNat z49
end Go.Proofs.Ytammpmadchekeaa.Pr
namespace Go.Proofs.Ytammpmadchekeaa.Op
open Go.RowKit Go.ChangeShapes Go.WideShapes Go.Proofs.YtammpmadchekeaaW.PrintWords
structure Zv {α:Type} (P:Program) (d:Kd α) (t:TypeId) (ok:α→Prop):Prop where
 cells:P.cellsOf t=d.sz
 op:∀{H:Type} {enc:TypeId×Value→H} {w:World} {base fuel:Nat} {cs:List Value} {x:DataW H×List MemPlace},DataW.trod enc P w base (fun _=>true) true fuel t cs=some x→∃y,d.K w y cs∧ok y
theorem Zv.int {P:Program} {t:TypeId} {k:IntKind} (ht:P.underlying t=some (.int k)) (hc:P.cellsOf t=1):Zv P (Kd.int k) t (fun n=>(Lit.int k n).wf=true):=
 ⟨hc,fun h=>by
  obtain⟨n,rfl,_,hw⟩:=DataW.trod_int ht h
  exact⟨n,rfl,hw⟩⟩
theorem Zv.bool {P:Program} {t:TypeId} (ht:P.underlying t=some .bool) (hc:P.cellsOf t=1):Zv P Kd.bool t (fun _=>True):=
 ⟨hc,fun h=>by
  obtain⟨n,rfl,_⟩:=DataW.trod_bool ht h
  exact⟨n,rfl,trivial⟩⟩
theorem Zv.string {P:Program} {t:TypeId} (ht:P.underlying t=some .string) (hc:P.cellsOf t=1):Zv P Kd.string t (fun s=>s.size≤maxLen):=
 ⟨hc,fun h=>by
  obtain⟨n,rfl,_,hw⟩:=DataW.trod_string ht h
  exact⟨n,rfl,hw⟩⟩
theorem choose_list {β:Type} (Q:Nat→β→Prop) (n:Nat) (h:∀i,i<n→∃y,Q i y):∃l:List β,l.length=n∧∀i y,l[i]? = some y→Q i y:=by
 induction n with
 | zero=>exact⟨[],rfl,fun i y h=>by simp at h⟩
 | succ n ih=>
  obtain⟨l,hl,hq⟩:=ih (fun i hi=>h i (by omega))
  obtain⟨y,hy⟩:=h n (by omega)
  refine⟨l ++ [y],by simp[hl],fun i z hz=>?_⟩
  rcases Nat.lt_or_ge i l.length with hi|hi
  ·rw[List.getElem?_append_left hi] at hz
   exact hq i z hz
  ·have hlt:=(List.getElem?_eq_some_iff.1 hz).1
   rw[List.length_append,List.length_singleton] at hlt
   have e:i=l.length:=by omega
   subst e
   have hz':y=z:=by simpa using hz
   subst hz'
   rw[hl]
   exact hy
theorem Zv.slice {α:Type} {P:Program} {d:Kd α} {t e:TypeId} {ok:α→Prop} (he:Zv P d e ok) (ht:P.underlying t=some (.slice e)) (hc:P.cellsOf t=1) :
  Zv P (Kd.slice e d) t (fun l=>l.length≤maxLen∧∀x∈l,ok x):=
 ⟨hc,fun {H enc w base fuel cs x} h=>by
  rcases DataW.trod_slice ht h with ⟨rfl,_⟩|⟨a,len,cap,elems,rest,n,_,rfl,_,hb,hl,hm,hlen,hel,_,_⟩
  ·exact⟨[],⟨none,0,rfl,Nat.le_refl _,rfl,by simp,fun h0=>absurd h0 (by simp)⟩,by simp⟩
  ·have key:∀i,i<len→∃y,ok y∧∃c,c.length=d.sz∧d.K w y c∧∀j u,c[j]? = some u→w.cell? (a.add (i * d.sz+j))=some u:=by
    intro i hi
    have hi':=hel i hi
    rw[Zg (by omega),Option.bind_eq_some_iff] at hi'
    obtain⟨cs',h1,h2⟩:=hi'
    obtain⟨y,hk,hy⟩:=he.op h2
    refine⟨y,hy,cs',d.K_len hk,hk,fun j u hu=>?_⟩
    have:=(World.cells?_some h1).2.2 j (by
     have:=(List.getElem?_eq_some_iff.1 hu).1
     rw[d.K_len hk] at this
     rw[he.cells];exact this)
    rw[he.cells] at this
    rw[Addr.add_add] at this
    rw[this,hu]
   obtain⟨l,hll,hq⟩:=choose_list _ len key
   refine⟨l,⟨some a,cap,by rw[hll],by omega,rfl,by rw[hll];simp only[maxLen] at hm;omega,fun h0=>⟨a,rfl,fun j p hj=>?_⟩⟩,by omega,fun x hx=>?_⟩
   ·obtain⟨_,hc'⟩:=hq j p hj
    exact hc'
   ·obtain⟨i,hi⟩:=List.getElem?_of_mem hx
    exact(hq i x hi).1⟩
theorem ZQ {α β:Type} {a:Kd α} {b:Kd β} {w:World} {x:α} {y:β} {cs:List Value} {off:Nat} (h0:a.K w x ((cs.drop off).take a.sz)) (h1:b.K w y ((cs.drop (off+a.sz)).take b.sz)) :
  (Kd.pair a b).K w (x,y) ((cs.drop off).take (Kd.pair a b).sz):=
 ⟨_,_,by show(cs.drop off).take (a.sz+b.sz)=_;rw[List.take_add,List.drop_drop],h0,h1⟩
theorem Zv.fieldAt {α:Type} {P:Program} {d:Kd α} {t:TypeId} {ok:α→Prop} (ho:Zv P d t ok) {H:Type} {enc:TypeId×Value→H} {w:World} {base fuel off:Nat} {cs:List Value} {x:Option (DataW H×List MemPlace)}
  (h:DataW.trod enc P w base (fun _=>true) true fuel t ((cs.drop off).take (P.cellsOf t))=x) (hx:x.isSome=true):∃y,d.K w y ((cs.drop off).take d.sz)∧ok y:=by
 obtain⟨z,rfl⟩:=Option.isSome_iff_exists.1 hx
 obtain⟨y,hk,hy⟩:=ho.op h
 rw[ho.cells] at hk
 exact⟨y,hk,hy⟩
end Go.Proofs.Ytammpmadchekeaa.Op
namespace Go.Proofs.Ytammpmadchekeaa.Pr
open Go.RowKit Go.Proofs.YtammpmadchekeaaW.PrintWords Go.Proofs.YtammpmadchekeaaW.PrintLast Go.Proofs.YtammpmadchekeaaW.PrintMore
attribute [local go_sem] ZV ZT Z0 ZZ ZN ZM ZU ZS
set_option linter.unusedVariables false
set_option linter.unusedSimpArgs false
open Go.Proofs.Ytammpmadchekeaa.Op Go.ChangeShapes Go.WideShapes
def okS31 (x:S31):Prop:=(fun n_:Int=>(Lit.int .i64 n_).wf=true) x.f0∧(fun l_:List Int=>l_.length≤maxLen∧∀x_∈l_,(fun n_:Int=>(Lit.int .i64 n_).wf=true) x_) x.f1∧(fun l_:List Int=>l_.length≤maxLen∧∀x_∈l_,(fun n_:Int=>(Lit.int .i64 n_).wf=true) x_) x.f2
theorem op_k31:Zv Try.prog k31 31 okS31:=
 ⟨by kernel_rfl,fun {H enc w base fuel cs x} h=>by
  obtain⟨xs,n,_,_,hl,hlen,hf⟩:=DataW.trod_struct Try.underlying31 h
  have hl':cs.length=3:=hl.trans (by kernel_rfl)
  have hlen':xs.length=3:=hlen
  obtain⟨y0,h0,o0⟩:=(Zv.int Try.underlying3 (by kernel_rfl)).fieldAt (hf 0 _ rfl) (by rw[Zg (by omega)];rfl)
  obtain⟨y1,h1,o1⟩:=(Zv.slice (Zv.int Try.underlying3 (by kernel_rfl)) Try.underlying22 (by kernel_rfl)).fieldAt (hf 1 _ rfl) (by rw[Zg (by omega)];rfl)
  obtain⟨y2,h2,o2⟩:=(Zv.slice (Zv.int Try.underlying3 (by kernel_rfl)) Try.underlying22 (by kernel_rfl)).fieldAt (hf 2 _ rfl) (by rw[Zg (by omega)];rfl)
  have hk:k31.K w ⟨y0,y1,y2⟩ ((cs.drop 0).take k31.sz):=(ZQ (off:=0) h0 (ZQ (off:=1) h1 h2))
  have hcs:(cs.drop 0).take k31.sz=cs:=by rw[List.drop_zero];exact List.take_of_length_le (by rw[hl'];exact Nat.le_refl _)
  rw[hcs] at hk
  exact⟨_,hk,o0,o1,o2⟩⟩
def okS39 (x:S39):Prop:=(fun s_:ByteArray=>s_.size≤maxLen) x.f0∧(fun l_:List Int=>l_.length≤maxLen∧∀x_∈l_,(fun n_:Int=>(Lit.int .i64 n_).wf=true) x_) x.f1∧(fun n_:Int=>(Lit.int .i64 n_).wf=true) x.f2
theorem op_k39:Zv Try.prog k39 39 okS39:=
 ⟨by kernel_rfl,fun {H enc w base fuel cs x} h=>by
  obtain⟨xs,n,_,_,hl,hlen,hf⟩:=DataW.trod_struct Try.underlying39 h
  have hl':cs.length=3:=hl.trans (by kernel_rfl)
  have hlen':xs.length=3:=hlen
  obtain⟨y0,h0,o0⟩:=(Zv.string Try.underlying9 (by kernel_rfl)).fieldAt (hf 0 _ rfl) (by rw[Zg (by omega)];rfl)
  obtain⟨y1,h1,o1⟩:=(Zv.slice (Zv.int Try.underlying3 (by kernel_rfl)) Try.underlying22 (by kernel_rfl)).fieldAt (hf 1 _ rfl) (by rw[Zg (by omega)];rfl)
  obtain⟨y2,h2,o2⟩:=(Zv.int Try.underlying3 (by kernel_rfl)).fieldAt (hf 2 _ rfl) (by rw[Zg (by omega)];rfl)
  have hk:k39.K w ⟨y0,y1,y2⟩ ((cs.drop 0).take k39.sz):=(ZQ (off:=0) h0 (ZQ (off:=1) h1 h2))
  have hcs:(cs.drop 0).take k39.sz=cs:=by rw[List.drop_zero];exact List.take_of_length_le (by rw[hl'];exact Nat.le_refl _)
  rw[hcs] at hk
  exact⟨_,hk,o0,o1,o2⟩⟩
def okS84 (x:S84):Prop:=(fun n_:Int=>(Lit.int .i64 n_).wf=true) x.f0∧(fun n_:Int=>(Lit.int .i64 n_).wf=true) x.f1∧(fun n_:Int=>(Lit.int .i64 n_).wf=true) x.f2∧(fun n_:Int=>(Lit.int .i64 n_).wf=true) x.f3∧(fun _:Bool=>True) x.f4
theorem op_k84:Zv Try.prog k84 84 okS84:=
 ⟨by kernel_rfl,fun {H enc w base fuel cs x} h=>by
  obtain⟨xs,n,_,_,hl,hlen,hf⟩:=DataW.trod_struct Try.underlying84 h
  have hl':cs.length=5:=hl.trans (by kernel_rfl)
  have hlen':xs.length=5:=hlen
  obtain⟨y0,h0,o0⟩:=(Zv.int Try.underlying3 (by kernel_rfl)).fieldAt (hf 0 _ rfl) (by rw[Zg (by omega)];rfl)
  obtain⟨y1,h1,o1⟩:=(Zv.int Try.underlying3 (by kernel_rfl)).fieldAt (hf 1 _ rfl) (by rw[Zg (by omega)];rfl)
  obtain⟨y2,h2,o2⟩:=(Zv.int Try.underlying3 (by kernel_rfl)).fieldAt (hf 2 _ rfl) (by rw[Zg (by omega)];rfl)
  obtain⟨y3,h3,o3⟩:=(Zv.int Try.underlying3 (by kernel_rfl)).fieldAt (hf 3 _ rfl) (by rw[Zg (by omega)];rfl)
  obtain⟨y4,h4,o4⟩:=(Zv.bool Try.underlying4 (by kernel_rfl)).fieldAt (hf 4 _ rfl) (by rw[Zg (by omega)];rfl)
  have hk:k84.K w ⟨y0,y1,y2,y3,y4⟩ ((cs.drop 0).take k84.sz):=(ZQ (off:=0) h0 (ZQ (off:=1) h1 (ZQ (off:=2) h2 (ZQ (off:=3) h3 h4))))
  have hcs:(cs.drop 0).take k84.sz=cs:=by rw[List.drop_zero];exact List.take_of_length_le (by rw[hl'];exact Nat.le_refl _)
  rw[hcs] at hk
  exact⟨_,hk,o0,o1,o2,o3,o4⟩⟩
def okS49 (x:S49):Prop:=(fun l_:List (S39)=>l_.length≤maxLen∧∀x_∈l_,okS39 x_) x.f0∧(fun l_:List (S84)=>l_.length≤maxLen∧∀x_∈l_,okS84 x_) x.f1∧(fun n_:Int=>(Lit.int .i64 n_).wf=true) x.f2
theorem op_k49:Zv Try.prog k49 49 okS49:=
 ⟨by kernel_rfl,fun {H enc w base fuel cs x} h=>by
  obtain⟨xs,n,_,_,hl,hlen,hf⟩:=DataW.trod_struct Try.underlying49 h
  have hl':cs.length=3:=hl.trans (by kernel_rfl)
  have hlen':xs.length=3:=hlen
  obtain⟨y0,h0,o0⟩:=(Zv.slice op_k39 Try.underlying46 (by kernel_rfl)).fieldAt (hf 0 _ rfl) (by rw[Zg (by omega)];rfl)
  obtain⟨y1,h1,o1⟩:=(Zv.slice op_k84 Try.underlying47 (by kernel_rfl)).fieldAt (hf 1 _ rfl) (by rw[Zg (by omega)];rfl)
  obtain⟨y2,h2,o2⟩:=(Zv.int Try.underlying3 (by kernel_rfl)).fieldAt (hf 2 _ rfl) (by rw[Zg (by omega)];rfl)
  have hk:k49.K w ⟨y0,y1,y2⟩ ((cs.drop 0).take k49.sz):=(ZQ (off:=0) h0 (ZQ (off:=1) h1 h2))
  have hcs:(cs.drop 0).take k49.sz=cs:=by rw[List.drop_zero];exact List.take_of_length_le (by rw[hl'];exact Nat.le_refl _)
  rw[hcs] at hk
  exact⟨_,hk,o0,o1,o2⟩⟩
end Go.Proofs.Ytammpmadchekeaa.Pr
namespace Go.Proofs.Ytammpmadchekeaa.Pr
open Go.RowKit Go.Proofs.YtammpmadchekeaaW.PrintWords Go.Proofs.YtammpmadchekeaaW.PrintLast Go.Proofs.YtammpmadchekeaaW.PrintMore
attribute [local go_sem] ZV ZT Z0 ZZ ZN ZM ZU ZS
set_option linter.unusedVariables false
set_option linter.unusedSimpArgs false
def Zk.l0:Nat→List Int→List Int→Int→Option (List Int)
 | 0,_,_,_=>none
 | k+1,x0,x3,x4=>if x4<(x0.length:Int) then(if 0≤x4 then(if x4<(x3.length:Int) then(Zk.l0 k x0 (x3.set (x4:Int).toNat (rd x0 x4)) (wrap64 (x4+1))) else(none)) else(none)) else(some x3)
def Zk.f (k:Nat) (l0:List Int):Option (List Int):=if 0≤(l0.length:Int) then(if ((l0.length:Int):Int).toNat≤35184372088832 then(Zk.l0 k l0 (List.replicate ((l0.length:Int):Int).toNat 0) 0) else(none)) else(none)
set_option maxHeartbeats 8000000 in
set_option maxRecDepth 100000 in
theorem Zk.calls (k:Nat) (A0:Option Addr) (c0:Nat) (l0:List Int) (r:List Int) (w:World) (hr0:Kd.C (Kd.int .i64) w A0 l0.length l0) (hc0:l0.length≤c0) (h:Zk.f k l0=some r) :
  Calls Try.prog 15 #[.slice A0 l0.length c0] w fun e w'=>∃v0_:Value,e=.returned (v0_)∧Kd.R (Kd.int .i64) 3 w' w.heap.size (fun _=>True) v0_ r∧Below w.heap.size w w':=by
 have HR0:=Za hr0;have HC0:=Za hc0;clear hr0 hc0
 have HB:=Za (Below.refl w.heap.size w)
 have H:(if 0≤(l0.length:Int) then(if ((l0.length:Int):Int).toNat≤35184372088832 then(Zk.l0 k l0 (List.replicate ((l0.length:Int):Int).toNat 0) 0) else(none)) else(none))=some r:=h
 clear h
 by_cases c2:0≤(l0.length:Int)
 ·rw[if_pos c2] at H
  have c2b0:=eq_true c2
  have c2b1:decide (0≤(l0.length:Int))=true:=decide_eq_true c2
  clear c2
  by_cases c3:((l0.length:Int):Int).toNat≤35184372088832
  ·rw[if_pos c3] at H
   have c3b0:=eq_true c3
   have c3b1:decide (((l0.length:Int):Int).toNat≤35184372088832)=true:=decide_eq_true c3
   clear c3
   obtain⟨y15001,hy15001⟩:∃y_:List Int,y_=(List.replicate ((l0.length:Int):Int).toNat 0):=⟨_,rfl⟩
   replace H:(Zk.l0 k l0 y15001 0)=some r:=by first|(rw[hy15001];with_reducible exact H)|(have H2_:=(Zd _ _).symm.trans H;rw[hy15001];with_reducible exact H2_)|(have H2_:=(Zd _ _).symm.trans H;with_reducible exact H2_)|with_reducible exact H|(rw[hy15001];exact H)|exact H
   have Ny15001:=Za hy15001;clear hy15001
   have H':=Za H
   clear H
   go_enter Try.func15,Try.ntmps15
   go_wp2_with (first|((with_reducible refine ZaD (N:=7) rfl ?_);refine Kd.R_make (Kd.int .i64) _ 3 rfl (N:=7) rfl 22 _ _ rfl (l0.length:Int) rfl rfl Try.underlying22 (.int .i64 0) 8 info3 rfl (by decide) (by omega) 0 (ok:=fun _=>True) (okp:=fun _=>True) rfl (fun _ hk=>hk) trivial (Zb (by first|(with_reducible assumption)|assumption)) (Nat.le_trans (Nat.mul_le_mul_right _ (Zb (by first|(with_reducible assumption)|assumption):(l0.length:Int).toNat≤35184372088832)) (by omega)) (Below.refl _ _) (Nat.le_refl _) ?_;intro v15002 w4 ho5 hb hg_ hnew_;clear hg_ hnew_;(first|rw[← Ny15001.out] at ho5|(simp only[Int.reduceToNat] at ho5;rw[← Ny15001.out] at ho5));have n0_:=Za (Kd.R_lower ho5 (ZC (by repeat(first|(with_reducible first|exact HB.out|apply Zj|apply Zh|apply Zl)|exact HB.out))));have n1_:=Za (ZD (by repeat(first|(with_reducible first|exact HB.out|apply Zj|apply Zh|apply Zl)|exact HB.out)) hb);clear HB;have HO15003:=n0_;have HB:=n1_;clear n0_ n1_;clear hb ho5))
   go_loopg [4] k (fun kq v4 w'=>∃(x3_1:List Int) (x4_1:Int),v4=.int .i64 x4_1∧Aside0 (Zk.l0 kq l0 x3_1 x4_1=some r)∧Aside0 (kq≤k)∧Aside0 (Kd.R (Kd.int .i64) 3 w' w.heap.size (fun _=>True) v15002 x3_1)∧Aside0 (Below w.heap.size w w'))
   case atStart=>exact⟨(y15001),(0),(by first|rfl|(simp;done)|(simp[*];done)),H',⟨Nat.le_refl _⟩,⟨by(with_reducible repeat(first|apply Kd.R_alloc|apply Kd.R_drewN|apply Kd.R_drew));exact HO15003.out⟩,⟨by repeat(first|(with_reducible first|exact HB.out|apply Zj|apply Zh|apply Zl)|exact HB.out)⟩⟩
   case round=>
    clear H'
    try clear c1
    try clear c2
    try clear c2b0
    try clear c2b1
    try clear p2
    try clear c3
    try clear c3b0
    try clear c3b1
    obtain⟨x3_1,x4_1,rfl,HA,HK1,HO_3,HB⟩:=hrel
    cases gk with
    | zero=>exact absurd HA.out (by simp[Zk.l0])
    | succ k1=>
     have H:=HA.out
     clear HA
     simp only[Zk.l0] at H
     by_cases c6:x4_1<(l0.length:Int)
     ·rw[if_pos c6] at H
      have c6b0:decide (x4_1<(l0.length:Int))=true:=decide_eq_true c6
      clear c6
      by_cases c7:0≤x4_1
      ·rw[if_pos c7] at H
       have c7b0:decide (0≤x4_1)=true:=decide_eq_true c7
       clear c7
       by_cases c8:x4_1<(x3_1.length:Int)
       ·rw[if_pos c8] at H
        have c8b0:decide (x4_1<(x3_1.length:Int))=true:=decide_eq_true c8
        clear c8
        obtain⟨y15005,hy15005⟩:∃y_:List Int,y_=(x3_1.set (x4_1:Int).toNat (rd l0 x4_1)):=⟨_,rfl⟩
        replace H:(Zk.l0 k1 l0 y15005 (wrap64 (x4_1+1)))=some r:=by first|(rw[hy15005];with_reducible exact H)|(have H2_:=(Zd _ _).symm.trans H;rw[hy15005];with_reducible exact H2_)|(have H2_:=(Zd _ _).symm.trans H;with_reducible exact H2_)|with_reducible exact H|(rw[hy15005];exact H)|exact H
        have Ny15005:=Za hy15005;clear hy15005
        have H':=Za H
        clear H
        have p15004:0≤(x4_1:Int):=Zb (by first|(with_reducible assumption)|assumption)
        have q15004:x4_1<(l0.length:Int):=Zb (by first|(with_reducible assumption)|assumption)
        obtain⟨ad15004,e15004,hx15004_0⟩:=Kd.at_int HR0.out x4_1 p15004 q15004
        cases e15004
        replace hx15004_0:=(HB.out.cell (World.block_lt_of_cell? w _ hx15004_0)).trans hx15004_0
        replace p15004:=eq_true p15004
        replace q15004:=eq_true q15004
        have p9:0≤(x4_1:Int):=Zb (by first|(with_reducible assumption)|assumption)
        have q9:(x4_1:Int)<((x3_1.length:Int):Int):=Zb (by first|(with_reducible assumption)|assumption)
        obtain⟨go9,co9,eo9,gb9,gl9,cl9,HG9⟩:=Kd.R_form HO_3.out (by omega)
        (first|cases eo9|(injection eo9 with ea_ en_ ec_;(first|subst ea_|(injection ea_ with ea_;subst ea_));subst ec_;clear en_))
        have GB9:=Za gb9;have GG9:=Za HG9;clear gb9 gl9 HG9
        obtain⟨hx9_0,hf9_0⟩:=Kd.R_celln 0 HO_3.out (x4_1:Int) p9 q9
        replace p9:=eq_true p9
        replace q9:=eq_true q9
        have HP10:=Kd.R_putg HO_3.out (x4_1:Int) (rd l0 x4_1)
        go_wp2_with (first|((with_reducible refine ZaJ (t:=3) (p:=20) rfl ?_);refine Zay (t:=3) (p:=20) (v:=?vo_w11) (w1:=(wr.setCell ⟨go9,(x4_1:Int).toNat,none⟩ (.int .i64 (rd l0 x4_1)))) ?hg ?ho ?hn ?hr ?_;(case ho=>rfl);(case hg=>rfl);(case hn=>rfl);(case hr=>first|(go_simp;done)|(go_simp;rfl));intro w11 hw;have hg:wr.grownBy w11 (some go9):=(by rw[hw];exact HP10.2);have hp_:Kd.R (Kd.int .i64) 3 w11 w.heap.size (fun _=>True) (.slice (some ⟨go9,0,none⟩) x3_1.length co9) y15005:=(by rw[hw,Ny15005.out];exact HP10.1);clear HP10;have n0_:=Za (hp_);have n1_:=Za ((by rw[hw];exact below_set (HB.out) GB9.out:Below w.heap.size w w11));clear HO_3;clear HB;have HO_3:=n0_;have HB:=n1_;clear n0_ n1_;clear hg hw hp_))
        go_roundg k1
        case measure=>have:=HK1.out;omega
        case rel=>exact⟨(y15005),(wrap64 (x4_1+1)),(by first|rfl|(simp;done)|(simp[*];done)),H',⟨by have:=HK1.out;omega⟩,⟨by(with_reducible repeat(first|apply Kd.R_alloc|apply Kd.R_drewN|apply Kd.R_drew));exact HO_3.out⟩,⟨by repeat(first|(with_reducible first|exact HB.out|apply Zj|apply Zh|apply Zl)|exact HB.out)⟩⟩
       ·rw[if_neg c8] at H
        exact absurd H (by simp)
      ·rw[if_neg c7] at H
       exact absurd H (by simp)
     ·rw[if_neg c6] at H
      have c6b0:decide (x4_1<(l0.length:Int))=false:=decide_eq_false c6
      clear c6
      obtain rfl:=Option.some.inj H
      go_wp2
      go_ret
      exact⟨_,by first|rfl|(simp[ZG,ZF] <;> rfl)|(simp[*,ZG,ZF] <;> rfl),by(with_reducible repeat(first|apply Kd.R_alloc|apply Kd.R_drewN|apply Kd.R_drew));exact HO_3.out,by repeat(first|(with_reducible first|exact HB.out|apply Zj|apply Zh|apply Zl)|exact HB.out)⟩
  ·rw[if_neg c3] at H
   exact absurd H (by simp)
 ·rw[if_neg c2] at H
  exact absurd H (by simp)
def Zi.l0:Nat→List Int→List Int→Int→Option (Bool)
 | 0,_,_,_=>none
 | k+1,x0,x1,x5=>if x5<(x0.length:Int) then(if 0≤x5 then(if x5<(x1.length:Int) then(if (rd x0 x5)=(rd x1 x5) then(Zi.l0 k x0 x1 (wrap64 (x5+1))) else(some false)) else(none)) else(none)) else(some true)
def Zi.f (k:Nat) (l0:List Int) (l1:List Int):Option (Bool):=if (l0.length:Int)=(l1.length:Int) then(Zi.l0 k l0 l1 0) else(some false)
set_option maxHeartbeats 8000000 in
set_option maxRecDepth 100000 in
theorem Zi.calls (k:Nat) (A0:Option Addr) (c0:Nat) (l0:List Int) (A1:Option Addr) (c1:Nat) (l1:List Int) (r:Bool) (w:World) (hr0:Kd.C (Kd.int .i64) w A0 l0.length l0) (hc0:l0.length≤c0) (hr1:Kd.C (Kd.int .i64) w A1 l1.length l1) (hc1:l1.length≤c1) (h:Zi.f k l0 l1=some r) :
  Calls Try.prog 17 #[.slice A0 l0.length c0,.slice A1 l1.length c1] w fun e w'=>e=.returned (.bool r)∧Zs w w':=by
 have HR0:=Za hr0;have HC0:=Za hc0;clear hr0 hc0;have HR1:=Za hr1;have HC1:=Za hc1;clear hr1 hc1
 have H:(if (l0.length:Int)=(l1.length:Int) then(Zi.l0 k l0 l1 0) else(some false))=some r:=h
 clear h
 by_cases c3:(l0.length:Int)=(l1.length:Int)
 ·rw[if_pos c3] at H
  have c3b0:((l0.length:Int) == (l1.length:Int))=true:=beq_iff_eq.mpr c3
  have c3b1:((l0.length:Int) != (l1.length:Int))=false:=bne_eq_false_iff_eq.mpr c3
  have c3b2:(l0.length == l1.length)=true:=by first|simpa using c3|(simp at c3 ⊢;omega)
  clear c3
  have H':=Za H
  clear H
  go_enter Try.func17,Try.ntmps17
  go_wp2
  repeat(go_quiet (fail);try go_wp2)
  go_loopg [5] k (fun kq v5 w'=>∃(x5_1:Int),v5=.int .i64 x5_1∧Aside0 (Zi.l0 kq l0 l1 x5_1=some r)∧Aside0 (kq≤k)∧Zs w w')
  case atStart=>exact⟨(0),(by first|rfl|(simp;done)|(simp[*];done)),H',⟨Nat.le_refl _⟩,by repeat(first|exact Zs.refl _|apply Zs.step)⟩
  case round=>
   clear H'
   try clear c1
   try clear p2
   try clear c3
   try clear c3b0
   try clear c3b1
   try clear c3b2
   obtain⟨x5_1,rfl,HA,HK1,⟨m1,rfl⟩⟩:=hrel
   cases gk with
   | zero=>exact absurd HA.out (by simp[Zi.l0])
   | succ k1=>
    have H:=HA.out
    clear HA
    simp only[Zi.l0] at H
    by_cases c4:x5_1<(l0.length:Int)
    ·rw[if_pos c4] at H
     have c4b0:decide (x5_1<(l0.length:Int))=true:=decide_eq_true c4
     clear c4
     by_cases c5:0≤x5_1
     ·rw[if_pos c5] at H
      have c5b0:decide (0≤x5_1)=true:=decide_eq_true c5
      clear c5
      by_cases c6:x5_1<(l1.length:Int)
      ·rw[if_pos c6] at H
       have c6b0:decide (x5_1<(l1.length:Int))=true:=decide_eq_true c6
       clear c6
       by_cases c7:(rd l0 x5_1)=(rd l1 x5_1)
       ·rw[if_pos c7] at H
        have c7b0:((rd l0 x5_1) == (rd l1 x5_1))=true:=beq_iff_eq.mpr c7
        have c7b1:((rd l0 x5_1) != (rd l1 x5_1))=false:=bne_eq_false_iff_eq.mpr c7
        clear c7
        have H':=Za H
        clear H
        have p17001:0≤(x5_1:Int):=Zb (by first|(with_reducible assumption)|assumption)
        have q17001:x5_1<(l0.length:Int):=Zb (by first|(with_reducible assumption)|assumption)
        obtain⟨ad17001,e17001,hx17001_0⟩:=Kd.at_int HR0.out x5_1 p17001 q17001
        cases e17001
        replace p17001:=eq_true p17001
        replace q17001:=eq_true q17001
        have p17002:0≤(x5_1:Int):=Zb (by first|(with_reducible assumption)|assumption)
        have q17002:x5_1<(l1.length:Int):=Zb (by first|(with_reducible assumption)|assumption)
        obtain⟨ad17002,e17002,hx17002_0⟩:=Kd.at_int HR1.out x5_1 p17002 q17002
        cases e17002
        replace p17002:=eq_true p17002
        replace q17002:=eq_true q17002
        go_wp2
        repeat(go_quiet (fail);try go_wp2)
        go_roundg k1
        case measure=>have:=HK1.out;omega
        case rel=>exact⟨(wrap64 (x5_1+1)),(by first|rfl|(simp;done)|(simp[*];done)),H',⟨by have:=HK1.out;omega⟩,by repeat(first|exact Zs.refl _|apply Zs.step)⟩
       ·rw[if_neg c7] at H
        have c7b0:((rd l0 x5_1) == (rd l1 x5_1))=false:=beq_eq_false_iff_ne.mpr c7
        have c7b1:((rd l0 x5_1) != (rd l1 x5_1))=true:=bne_iff_ne.mpr c7
        obtain rfl:=Option.some.inj H
        have p17001:0≤(x5_1:Int):=Zb (by first|(with_reducible assumption)|assumption)
        have q17001:x5_1<(l0.length:Int):=Zb (by first|(with_reducible assumption)|assumption)
        obtain⟨ad17001,e17001,hx17001_0⟩:=Kd.at_int HR0.out x5_1 p17001 q17001
        cases e17001
        replace p17001:=eq_true p17001
        replace q17001:=eq_true q17001
        have p17002:0≤(x5_1:Int):=Zb (by first|(with_reducible assumption)|assumption)
        have q17002:x5_1<(l1.length:Int):=Zb (by first|(with_reducible assumption)|assumption)
        obtain⟨ad17002,e17002,hx17002_0⟩:=Kd.at_int HR1.out x5_1 p17002 q17002
        cases e17002
        replace p17002:=eq_true p17002
        replace q17002:=eq_true q17002
        go_wp2
        repeat(go_quiet (fail);try go_wp2)
        go_ret
        exact⟨by first|rfl|(simp;done)|(simp[*];done),by repeat(first|exact Zs.refl _|apply Zs.step)⟩
      ·rw[if_neg c6] at H
       exact absurd H (by simp)
     ·rw[if_neg c5] at H
      exact absurd H (by simp)
    ·rw[if_neg c4] at H
     have c4b0:decide (x5_1<(l0.length:Int))=false:=decide_eq_false c4
     clear c4
     obtain rfl:=Option.some.inj H
     go_wp2
     repeat(go_quiet (fail);try go_wp2)
     go_ret
     exact⟨by first|rfl|(simp;done)|(simp[*];done),by repeat(first|exact Zs.refl _|apply Zs.step)⟩
 ·rw[if_neg c3] at H
  have c3b0:((l0.length:Int) == (l1.length:Int))=false:=beq_eq_false_iff_ne.mpr c3
  have c3b1:((l0.length:Int) != (l1.length:Int))=true:=bne_iff_ne.mpr c3
  have c3b2:(l0.length == l1.length)=false:=by first|simpa using c3|(simp at c3 ⊢;omega)
  obtain rfl:=Option.some.inj H
  go_enter Try.func17,Try.ntmps17
  go_wp2
  repeat(go_quiet (fail);try go_wp2)
  go_ret
  exact⟨by first|rfl|(simp;done)|(simp[*];done),by repeat(first|exact Zs.refl _|apply Zs.step)⟩
def Zm.l0:Nat→Int→List Int→List Int→Int→Int→Option (List Int)
 | 0,_,_,_,_,_=>none
 | k+1,x1,x5,x9,x10,x11=>if x11<x10 then(if 0≤x11 then(if x11<(x9.length:Int) then(if (rd x9 x11)=x1 then(Zm.l0 k x1 x5 x9 x10 (wrap64 (x11+1))) else(if (rd x9 x11)=(wrap64 (-x1)) then(Zm.l0 k x1 x5 x9 x10 (wrap64 (x11+1))) else(if x5.length<17592186044416 then(Zm.l0 k x1 (x5 ++ [rd x9 x11]) x9 x10 (wrap64 (x11+1))) else(none)))) else(none)) else(none)) else(some x5)
def Zm.f (k:Nat) (l0:List Int) (a1:Int):Option (List Int):=Zm.l0 k a1 (([]:List Int)) l0 (l0.length:Int) 0
set_option maxHeartbeats 8000000 in
set_option maxRecDepth 100000 in
theorem Zm.calls (k:Nat) (A0:Option Addr) (c0:Nat) (l0:List Int) (a1:Int) (r:List Int) (w:World) (hr0:Kd.C (Kd.int .i64) w A0 l0.length l0) (hc0:l0.length≤c0) (h:Zm.f k l0 a1=some r) :
  Calls Try.prog 22 #[.slice A0 l0.length c0,.int .i64 a1] w fun e w'=>∃v0_:Value,e=.returned (v0_)∧Kd.R (Kd.int .i64) 3 w' w.heap.size (fun _=>True) v0_ r∧Below w.heap.size w w':=by
 have HR0:=Za hr0;have HC0:=Za hc0;clear hr0 hc0
 have HB:=Za (Below.refl w.heap.size w)
 have H:(Zm.l0 k a1 (([]:List Int)) l0 (l0.length:Int) 0)=some r:=h
 clear h
 obtain⟨y22001,hy22001⟩:∃y_:List Int,y_=(([]:List Int)):=⟨_,rfl⟩
 replace H:(Zm.l0 k a1 y22001 l0 (l0.length:Int) 0)=some r:=by first|(rw[hy22001];with_reducible exact H)|(have H2_:=(Zd _ _).symm.trans H;rw[hy22001];with_reducible exact H2_)|(have H2_:=(Zd _ _).symm.trans H;with_reducible exact H2_)|with_reducible exact H|(rw[hy22001];exact H)|exact H
 have Ny22001:=Za hy22001;clear hy22001
 have H':=Za H
 clear H
 go_enter Try.func22,Try.ntmps22
 go_wp2_with (first|((with_reducible refine ZaD (N:=8) rfl ?_);refine Kd.R_lit (Kd.int .i64) _ 3 ?hg (N:=8) ?hd (xs:=([]:List Int)) (inner:=[]) (ok:=fun _=>True) (okp:=fun _=>True) ?hr ?hp (fun _ hk=>hk) trivial (Below.refl _ _) (Nat.le_refl _) (by simp) ?_;(case hd=>rfl);(case hg=>rfl);(case hr=>first|(go_simp;done)|(go_simp;rfl));(case hp=>exact(Reps.none _ _));intro v22002 w3 ho4 hb hg_ hnew_;clear hg_ hnew_;(first|rw[← Ny22001.out] at ho4|(simp only[Int.reduceToNat] at ho4;rw[← Ny22001.out] at ho4));have n0_:=Za (Kd.R_lower ho4 (ZC (by repeat(first|(with_reducible first|exact HB.out|apply Zj|apply Zh|apply Zl)|exact HB.out))));have n1_:=Za (ZD (by repeat(first|(with_reducible first|exact HB.out|apply Zj|apply Zh|apply Zl)|exact HB.out)) hb);clear HB;have HO22003:=n0_;have HB:=n1_;clear n0_ n1_;clear hb ho4))
 go_loopg [5,11] k (fun kq v5 v11 w'=>∃(x5_1:List Int) (x11_1:Int),v11=.int .i64 x11_1∧Aside0 (Zm.l0 kq a1 x5_1 l0 (l0.length:Int) x11_1=some r)∧Aside0 (kq≤k)∧Aside0 (Kd.R (Kd.int .i64) 3 w' w.heap.size (fun _=>True) v5 x5_1)∧Aside0 (Below w.heap.size w w'))
 case atStart=>exact⟨(y22001),(0),(by first|rfl|(simp;done)|(simp[*];done)),H',⟨Nat.le_refl _⟩,⟨by(with_reducible repeat(first|apply Kd.R_alloc|apply Kd.R_drewN|apply Kd.R_drew));exact HO22003.out⟩,⟨by repeat(first|(with_reducible first|exact HB.out|apply Zj|apply Zh|apply Zl)|exact HB.out)⟩⟩
 case round=>
  clear H'
  try clear c2
  try clear p2
  obtain⟨x5_1,x11_1,rfl,HA,HK1,HO_5,HB⟩:=hrel
  cases gk with
  | zero=>exact absurd HA.out (by simp[Zm.l0])
  | succ k1=>
   have H:=HA.out
   clear HA
   simp only[Zm.l0] at H
   by_cases c5:x11_1<(l0.length:Int)
   ·rw[if_pos c5] at H
    have c5b0:decide (x11_1<(l0.length:Int))=true:=decide_eq_true c5
    clear c5
    by_cases c6:0≤x11_1
    ·rw[if_pos c6] at H
     have c6b0:decide (0≤x11_1)=true:=decide_eq_true c6
     clear c6
     by_cases c7:x11_1<(l0.length:Int)
     ·rw[if_pos c7] at H
      have c7b0:decide (x11_1<(l0.length:Int))=true:=decide_eq_true c7
      clear c7
      by_cases c8:(rd l0 x11_1)=a1
      ·rw[if_pos c8] at H
       have c8b0:((rd l0 x11_1) == a1)=true:=beq_iff_eq.mpr c8
       have c8b1:((rd l0 x11_1) != a1)=false:=bne_eq_false_iff_eq.mpr c8
       clear c8
       have H':=Za H
       clear H
       have p22004:0≤(x11_1:Int):=Zb (by first|(with_reducible assumption)|assumption)
       have q22004:x11_1<(l0.length:Int):=Zb (by first|(with_reducible assumption)|assumption)
       obtain⟨ad22004,e22004,hx22004_0⟩:=Kd.at_int HR0.out x11_1 p22004 q22004
       cases e22004
       replace hx22004_0:=(HB.out.cell (World.block_lt_of_cell? w _ hx22004_0)).trans hx22004_0
       replace p22004:=eq_true p22004
       replace q22004:=eq_true q22004
       go_wp2
       go_roundg k1
       case measure=>have:=HK1.out;omega
       case rel=>exact⟨(x5_1),(wrap64 (x11_1+1)),(by first|rfl|(simp;done)|(simp[*];done)),H',⟨by have:=HK1.out;omega⟩,⟨by(with_reducible repeat(first|apply Kd.R_alloc|apply Kd.R_drewN|apply Kd.R_drew));exact HO_5.out⟩,⟨by repeat(first|(with_reducible first|exact HB.out|apply Zj|apply Zh|apply Zl)|exact HB.out)⟩⟩
      ·rw[if_neg c8] at H
       have c8b0:((rd l0 x11_1) == a1)=false:=beq_eq_false_iff_ne.mpr c8
       have c8b1:((rd l0 x11_1) != a1)=true:=bne_iff_ne.mpr c8
       by_cases c9:(rd l0 x11_1)=(wrap64 (-a1))
       ·rw[if_pos c9] at H
        have c9b0:((rd l0 x11_1) == (wrap64 (-a1)))=true:=beq_iff_eq.mpr c9
        have c9b1:((rd l0 x11_1) != (wrap64 (-a1)))=false:=bne_eq_false_iff_eq.mpr c9
        clear c9
        have H':=Za H
        clear H
        have p22004:0≤(x11_1:Int):=Zb (by first|(with_reducible assumption)|assumption)
        have q22004:x11_1<(l0.length:Int):=Zb (by first|(with_reducible assumption)|assumption)
        obtain⟨ad22004,e22004,hx22004_0⟩:=Kd.at_int HR0.out x11_1 p22004 q22004
        cases e22004
        replace hx22004_0:=(HB.out.cell (World.block_lt_of_cell? w _ hx22004_0)).trans hx22004_0
        replace p22004:=eq_true p22004
        replace q22004:=eq_true q22004
        go_wp2
        go_roundg k1
        case measure=>have:=HK1.out;omega
        case rel=>exact⟨(x5_1),(wrap64 (x11_1+1)),(by first|rfl|(simp;done)|(simp[*];done)),H',⟨by have:=HK1.out;omega⟩,⟨by(with_reducible repeat(first|apply Kd.R_alloc|apply Kd.R_drewN|apply Kd.R_drew));exact HO_5.out⟩,⟨by repeat(first|(with_reducible first|exact HB.out|apply Zj|apply Zh|apply Zl)|exact HB.out)⟩⟩
       ·rw[if_neg c9] at H
        have c9b0:((rd l0 x11_1) == (wrap64 (-a1)))=false:=beq_eq_false_iff_ne.mpr c9
        have c9b1:((rd l0 x11_1) != (wrap64 (-a1)))=true:=bne_iff_ne.mpr c9
        by_cases c10:x5_1.length<17592186044416
        ·rw[if_pos c10] at H
         have LMc10:=Za c10;clear c10
         obtain⟨y22005,hy22005⟩:∃y_:List Int,y_=(x5_1 ++ [rd l0 x11_1]):=⟨_,rfl⟩
         replace H:(Zm.l0 k1 a1 y22005 l0 (l0.length:Int) (wrap64 (x11_1+1)))=some r:=by first|(rw[hy22005];with_reducible exact H)|(have H2_:=(Zd _ _).symm.trans H;rw[hy22005];with_reducible exact H2_)|(have H2_:=(Zd _ _).symm.trans H;with_reducible exact H2_)|with_reducible exact H|(rw[hy22005];exact H)|exact H
         have Ny22005:=Za hy22005;clear hy22005
         have H':=Za H
         clear H
         have p22004:0≤(x11_1:Int):=Zb (by first|(with_reducible assumption)|assumption)
         have q22004:x11_1<(l0.length:Int):=Zb (by first|(with_reducible assumption)|assumption)
         obtain⟨ad22004,e22004,hx22004_0⟩:=Kd.at_int HR0.out x11_1 p22004 q22004
         cases e22004
         replace hx22004_0:=(HB.out.cell (World.block_lt_of_cell? w _ hx22004_0)).trans hx22004_0
         replace p22004:=eq_true p22004
         replace q22004:=eq_true q22004
         go_wp2_with (first|((with_reducible refine Zav (b:=.append) (xs:=#[.tmp 24,.tmp 26]) rfl ?_);at_builtin;refine Kd.R_append (Kd.int .i64) (w0:=w) w.heap.size rfl (.tmp 24) (.tmp 26) 22 3 (.int .i64 0) 8 rfl Try.underlying22 info3 rfl (by decide) (by omega) u5 x5_1 (rd l0 x11_1) [.int .i64 (rd l0 x11_1)] (fun _=>True) (fun _=>False) rfl rfl ?aP (fun _ hk=>hk.elim) ?aF ?aO ?aB ?aS ?aL ?_;(case aP=>exact rfl);(case aB=>exact(by repeat(first|(with_reducible first|exact HB.out|apply Zj|apply Zh|apply Zl)|exact HB.out)));(case aF=>exact(fun _ _=>trivial));(case aO=>exact(by(with_reducible repeat(first|apply Kd.R_alloc|apply Kd.R_drewN|apply Kd.R_drew));exact HO_5.out));(case aS=>exact(ZC (by repeat(first|(with_reducible first|exact HB.out|apply Zj|apply Zh|apply Zl)|exact HB.out))));(case aL=>have:=LMc10.out;omega);intro v22006 w11 ho hb hg hat;rw[← Ny22005.out] at ho;have n0_:=Za (hb);have n1_:=Za (ho);clear HB;clear HO_5;have HB:=n0_;have HO22007:=n1_;clear n0_ n1_;clear ho hb hg hat))
         go_roundg k1
         case measure=>have:=HK1.out;omega
         case rel=>exact⟨(y22005),(wrap64 (x11_1+1)),(by first|rfl|(simp;done)|(simp[*];done)),H',⟨by have:=HK1.out;omega⟩,⟨by(with_reducible repeat(first|apply Kd.R_alloc|apply Kd.R_drewN|apply Kd.R_drew));exact HO22007.out⟩,⟨by repeat(first|(with_reducible first|exact HB.out|apply Zj|apply Zh|apply Zl)|exact HB.out)⟩⟩
        ·rw[if_neg c10] at H
         exact absurd H (by simp)
     ·rw[if_neg c7] at H
      exact absurd H (by simp)
    ·rw[if_neg c6] at H
     exact absurd H (by simp)
   ·rw[if_neg c5] at H
    have c5b0:decide (x11_1<(l0.length:Int))=false:=decide_eq_false c5
    clear c5
    obtain rfl:=Option.some.inj H
    go_wp2
    go_ret
    exact⟨_,by first|rfl|(simp[ZG,ZF] <;> rfl)|(simp[*,ZG,ZF] <;> rfl),by(with_reducible repeat(first|apply Kd.R_alloc|apply Kd.R_drewN|apply Kd.R_drew));exact HO_5.out,by repeat(first|(with_reducible first|exact HB.out|apply Zj|apply Zh|apply Zl)|exact HB.out)⟩
end Go.Proofs.Ytammpmadchekeaa.Pr
namespace Go.Proofs.Ytammpmadchekeaa.Ni
open Go.RowKit Go.Proofs.YtammpmadchekeaaW.PrintWords
theorem kcell {w W:World} (hb:Below w.heap.size w W) {a:Addr} {v:Value} (h:w.cell? a=some v):W.cell? a=some v:=(hb.cell (World.block_lt_of_cell? w _ h)).trans h
theorem wrap_succ {i:Int} (h0:0≤i) (h:i<9223372036854775807):wrap64 (i+1)=i+1:=by
 unfold wrap64;omega
theorem wrap_id {i:Int} (h0 : -9223372036854775808≤i) (h:i≤9223372036854775807):wrap64 i=i:=by
 unfold wrap64;omega
theorem Z9 {i n:Nat} (h:i<n) (hn:n≤9223372036854775807):wrap64 ((i:Int)+1)=((i+1:Nat):Int):=by
 unfold wrap64;omega
theorem wrap_pred {i:Nat} (h:0<i) (hn:i≤9223372036854775807):wrap64 ((i:Int) - 1)=((i - 1:Nat):Int):=by
 unfold wrap64;omega
theorem wf_i64 {n:Int} (h:(Lit.int .i64 n).wf=true) : -9223372036854775808≤n∧n≤9223372036854775807:=by
 simp[Lit.wf,IntKind.min,IntKind.max,IntKind.signed,IntKind.bits] at h
 omega
theorem Zai (l:List Int) (i:Nat):rd l (i:Int)=l.getD i 0:=by unfold rd;rw[Int.toNat_natCast]
theorem ZW {α:Type} {l:List α} {i:Nat} (h:i<l.length) (d:α):l.drop i=l.getD i d :: l.drop (i+1):=by
 rw[List.drop_eq_getElem_cons h,List.getD_eq_getElem?_getD,Zg h];rfl
theorem getD_mem {α:Type} {l:List α} {i:Nat} (h:i<l.length) (d:α):l.getD i d∈l:=by
 rw[List.getD_eq_getElem?_getD,Zg h];exact List.getElem_mem h
theorem getD_some {α:Type} {l:List α} {i:Nat} (h:i<l.length) (d:α):l[i]? = some (l.getD i d):=by
 rw[List.getD_eq_getElem?_getD,Zg h];rfl
theorem set_step {α:Type} (ys:List α) (z d:α) (i:Nat) (h:i<ys.length) (x:α) (hx:x=ys.getD i d):(ys.take i ++ List.replicate (ys.length - i) z).set i x=ys.take (i+1) ++ List.replicate (ys.length - (i+1)) z:=by
 subst hx
 have e:ys.length - i=(ys.length - (i+1))+1:=by omega
 rw[e,List.replicate_succ,List.set_append_right _ _ (by simp;omega)]
 have e2:i - (ys.take i).length=0:=by simp;omega
 rw[e2,List.set_cons_zero,List.take_succ_eq_append_getElem h,List.append_assoc]
 congr 2
 simp[List.getD_eq_getElem?_getD,Zg h]
theorem Zal (n:Nat) (Q:Nat→Nat→Prop) (K:Nat) (hend:∀k,K≤k→Q (k+1) n) (hstep:∀k i,K≤k→i<n→Q k (i+1)→Q (k+1) i):∀(i k:Nat),i≤n→K+(n - i)<k→Q k i:=by
 have key:∀(d i k:Nat),i≤n→n - i=d→K+d<k→Q k i:=by
  intro d
  induction d with
  | zero=>
   intro i k hi hd hk
   obtain⟨m,rfl⟩:∃m,k=m+1:=⟨k - 1,by omega⟩
   obtain rfl:i=n:=by omega
   exact hend m (by omega)
  | succ d ih=>
   intro i k hi hd hk
   obtain⟨m,rfl⟩:∃m,k=m+1:=⟨k - 1,by omega⟩
   exact hstep m i (by omega) (by omega) (ih (i+1) m (by omega) (by omega) (by omega))
 intro i k hi hk
 exact key (n - i) i k hi rfl hk
theorem set_mid (pre:List Int) (x y:Int) (post:List Int):(pre ++ x :: post).set pre.length y=pre ++ y :: post:=by
 rw[List.set_append_right _ _ (Nat.le_refl _),Nat.sub_self,List.set_cons_zero]
def ZI {α:Type} (p:α→Bool) (l:List α):Int:=match l.findIdx? p with|some i=>i|none=>-1
theorem idxOf_hit {α:Type} (p:α→Bool) (l:List α) (k:Nat) (x:α) (hk:l[k]? = some x) (hx:p x=true) (hb:∀j y,j<k→l[j]? = some y→p y=false):ZI p l=(k:Int):=by
 have h:l.findIdx? p=some k:=by
  rw[List.findIdx?_eq_some_iff_getElem]
  obtain⟨hl,he⟩:=List.getElem?_eq_some_iff.1 hk
  refine⟨hl,by rw[he];exact hx,fun j hj=>?_⟩
  have:=hb j _ hj (Zg (by omega))
  simp[this]
 simp[ZI,h]
theorem idxOf_miss {α:Type} (p:α→Bool) (l:List α) (hb:∀j y,j<l.length→l[j]? = some y→p y=false):ZI p l=-1:=by
 have h:l.findIdx? p=none:=by
  rw[List.findIdx?_eq_none_iff]
  intro x hx
  obtain⟨j,hj⟩:=List.getElem?_of_mem hx
  exact hb j x (List.getElem?_eq_some_iff.1 hj).1 hj
 simp[ZI,h]
theorem idxOf_any {α:Type} (p:α→Bool) (l:List α):decide (0≤ZI p l)=l.any p:=by
 unfold ZI
 cases h:l.findIdx? p with
 | some i=>
  rw[List.findIdx?_eq_some_iff_getElem] at h
  obtain⟨hl,hp,_⟩:=h
  have:l.any p=true:=List.any_eq_true.2 ⟨_,List.getElem_mem hl,hp⟩
  rw[this]
  exact decide_eq_true (Int.natCast_nonneg _)
 | none=>
  rw[List.findIdx?_eq_none_iff] at h
  have:l.any p=false:=by rw[List.any_eq_false];intro x hx;rw[h x hx];simp
  rw[this];rfl
theorem idxOf_bd {α:Type} (p:α→Bool) (l:List α) : -1≤ZI p l∧ZI p l<l.length:=by
 unfold ZI
 cases h:l.findIdx? p with
 | some i=>
  rw[List.findIdx?_eq_some_iff_getElem] at h
  obtain⟨hl,_⟩:=h
  simp only;omega
 | none=>simp only;omega
def cnt0 (l:List Int):Int:=((l.filter (· == 0)).length:Int)
def litOk (x:Int):Bool:=!(x == 0) && decide (-3≤x) && decide (x≤3)
def prp (x:Int):Int:=if x<0 then -x else x
def labFrom (p:Int):List Int→Bool
 | []=>true
 | x :: t=>litOk x && decide (p<prp x) && labFrom (prp x) t
def labB (l:List Int):Bool:=labFrom 0 l
def valsB (l:List Int):Bool:=decide (l.length=3) && l.all (fun n=>decide (-1≤n) && decide (n≤1))
theorem litOk_iff (x:Int):litOk x=true↔x≠0∧-3≤x∧x≤3:=by
 simp[litOk,and_assoc]
theorem prp_pos {x:Int} (h:litOk x=true):1≤prp x∧prp x≤3:=by
 have:=(litOk_iff x).1 h
 unfold prp;split <;> omega
def stFrom (v:List Int) (a:Int):List Int→Int
 | []=>a
 | x :: t=>stFrom v (min a (if x<0 then -(v.getD (prp x - 1).toNat 0) else v.getD (prp x - 1).toNat 0)) t
def stB (l v:List Int):Int:=stFrom v 1 l
def isNameB (s:ByteArray):Bool:=decide (1≤s.size) && decide (s.size≤8) && (List.range s.size).all fun i=>let c:=bt s i;(decide (97≤c) && decide (c≤122)) || (decide (0<i) && decide (48≤c) && decide (c≤57))
end Go.Proofs.Ytammpmadchekeaa.Ni
namespace Go.Proofs.Ytammpmadchekeaa.Pr
open Go.RowKit Go.Proofs.YtammpmadchekeaaW.PrintWords Go.Proofs.Ytammpmadchekeaa.Ni
abbrev IR (w:World) (B g n c:Nat) (xs:List Int):Prop:=Kd.R (Kd.int .i64) 3 w B (fun k=>k=g) (.slice (some ⟨g,0,none⟩) n c) xs
theorem IR.of {w:World} {B g n c:Nat} {ok:Nat→Prop} {xs:List Int} (h:Kd.R (Kd.int .i64) 3 w B ok (.slice (some ⟨g,0,none⟩) n c) xs):IR w B g n c xs:=
 ⟨fun k hk=>by simp[Value.ownBlock] at hk;exact hk.symm,h.2⟩
theorem IR.cell {w:World} {B g n c:Nat} {xs:List Int} (h:IR w B g n c xs) {i:Int} (h0:0≤i) (h1:i<n):w.cell? ⟨g,i.toNat,none⟩=some (.int .i64 (rd xs i))∧w.frozen? ⟨g,i.toNat,none⟩=false:=Kd.R_celln 0 h i h0 h1
theorem IR.put {w:World} {B g n c:Nat} {xs:List Int} (h:IR w B g n c xs) (i x:Int):IR (w.setCell ⟨g,i.toNat,none⟩ (.int .i64 x)) B g n c (xs.set i.toNat x):=Kd.R_putn h i x
theorem IR.far {w:World} {B g n c:Nat} {xs:List Int} (h:IR w B g n c xs) {p:Addr} (ne:g≠p.block) (u:Value):IR (w.setCell p u) B g n c xs:=Kd.R_far h (fun k hk=>by subst hk;exact ne) u
theorem IR.low {w w1:World} {B g n c:Nat} {xs:List Int} (h:IR w B g n c xs) (hb:Below w.heap.size w w1):IR w1 B g n c xs:=Kd.R_below h hb
theorem IR.lt {w:World} {B g n c:Nat} {xs:List Int} (h:IR w B g n c xs):g<w.heap.size:=Kd.R_lt h g (by simp[Value.ownBlock])
theorem IR.base {w:World} {B g n c:Nat} {xs:List Int} (h:IR w B g n c xs):B≤g:=Kd.R_base h g (by simp[Value.ownBlock])
theorem IR.reads {w:World} {B g n c:Nat} {xs:List Int} (h:IR w B g n c xs):n=xs.length∧n≤c∧Kd.C (Kd.int .i64) w (some ⟨g,0,none⟩) xs.length xs:=Kd.R_reads' h
abbrev BR (w:World) (B g n c:Nat) (xs:List Bool):Prop:=Kd.R Kd.bool 4 w B (fun k=>k=g) (.slice (some ⟨g,0,none⟩) n c) xs
theorem BR.of {w:World} {B g n c:Nat} {ok:Nat→Prop} {xs:List Bool} (h:Kd.R Kd.bool 4 w B ok (.slice (some ⟨g,0,none⟩) n c) xs):BR w B g n c xs:=
 ⟨fun k hk=>by simp[Value.ownBlock] at hk;exact hk.symm,h.2⟩
theorem BR.cell {w:World} {B g n c:Nat} {xs:List Bool} (h:BR w B g n c xs) {i:Int} (h0:0≤i) (h1:i<n):w.cell? ⟨g,i.toNat,none⟩=some (.bool (xs.getD i.toNat false))∧w.frozen? ⟨g,i.toNat,none⟩=false:=Kd.R_celln false h i h0 h1
theorem BR.put {w:World} {B g n c:Nat} {xs:List Bool} (h:BR w B g n c xs) (i:Int) (x:Bool):BR (w.setCell ⟨g,i.toNat,none⟩ (.bool x)) B g n c (xs.set i.toNat x):=Kd.R_putn h i x
theorem BR.far {w:World} {B g n c:Nat} {xs:List Bool} (h:BR w B g n c xs) {p:Addr} (ne:g≠p.block) (u:Value):BR (w.setCell p u) B g n c xs:=Kd.R_far h (fun k hk=>by subst hk;exact ne) u
theorem BR.low {w w1:World} {B g n c:Nat} {xs:List Bool} (h:BR w B g n c xs) (hb:Below w.heap.size w w1):BR w1 B g n c xs:=Kd.R_below h hb
theorem BR.lt {w:World} {B g n c:Nat} {xs:List Bool} (h:BR w B g n c xs):g<w.heap.size:=Kd.R_lt h g (by simp[Value.ownBlock])
theorem BR.base {w:World} {B g n c:Nat} {xs:List Bool} (h:BR w B g n c xs):B≤g:=Kd.R_base h g (by simp[Value.ownBlock])
end Go.Proofs.Ytammpmadchekeaa.Pr
namespace Go.Proofs.Ytammpmadchekeaa.Pr
open Go.RowKit Go.Proofs.YtammpmadchekeaaW.PrintWords Go.Proofs.YtammpmadchekeaaW.PrintLast Go.Proofs.YtammpmadchekeaaW.PrintMore
attribute [local go_sem] ZV ZT Z0 ZZ ZN ZM ZU ZS
set_option linter.unusedVariables false
set_option linter.unusedSimpArgs false
open Go.Proofs.Ytammpmadchekeaa.Ni
set_option maxHeartbeats 4000000 in
theorem ZR.any (p:Int→Bool) (g:Nat) (lb:Array Value) (eg:∀args w,(callFunc g args).run Try.prog w=.ok (.enter g args) w) (A0:Option Addr) (c0:Nat) (l0:List Int) (w:World) (hr0:Kd.C (Kd.int .i64) w A0 l0.length l0)
  (hp:∀(W:World) (x:Int),x∈l0→Below w.heap.size w W→Calls Try.prog g (#[.int .i64 x] ++ lb) W fun e w'=>e=.returned (.bool (p x))∧Below W.heap.size W w') :
  Calls Try.prog 83 #[.slice A0 l0.length c0,.func (.func g) #[] lb] w fun e w'=>e=.returned (.int .i64 (ZI p l0))∧Below w.heap.size w w':=by
 have HR0:=Za hr0;have HP:=Za hp;clear hr0 hp
 have HL:l0.length≤9223372036854775807:=HR0.out.2.1
 go_enter Try.func83,Try.ntmps83
 go_wp2
 go_loopg [5,8] l0.length (fun gg _ s8 wr=>∃kk:Nat,Aside0 (kk≤l0.length)∧Aside0 (l0.length - kk≤gg)∧s8=.int .i64 kk∧Aside0 (Below w.heap.size w wr)∧Aside0 (∀j y,j<kk→l0[j]? = some y→p y=false))
 case atStart=>exact⟨0,⟨Nat.zero_le _⟩,⟨by omega⟩,rfl,⟨Below.refl _ _⟩,⟨fun j y hj=>absurd hj (Nat.not_lt_zero _)⟩⟩
 case round=>
  obtain⟨kk,HK,HG,rfl,HB,HN⟩:=hrel
  by_cases hlt:kk<l0.length
  ·have hltz:(kk:Int)<(l0.length:Int):=by omega
   obtain⟨ad,e1,hx0⟩:=Kd.at_int HR0.out (kk:Int) (by omega) hltz
   cases e1
   replace hx0:=(HB.out.cell (World.block_lt_of_cell? w _ hx0)).trans hx0
   rw[Int.toNat_natCast] at hx0
   have hxe:l0[kk]? = some (rd l0 (kk:Int)):=by
    unfold rd
    rw[Int.toNat_natCast,List.getD_eq_getElem?_getD,Zg hlt];rfl
   generalize rd l0 (kk:Int)=y at hx0 hxe
   have HX:=Za hxe;clear hxe
   have hcall:=HP.out wr y (List.mem_of_getElem? HX.out) HB.out
   cases hq:p y with
   | true=>
    have HQ:=Za hq
    rw[hq] at hcall
    clear hq
    go_wp2_with (go_at_fn g;refine hcall.mono ?_;rintro e w' ⟨rfl,hb⟩)
    go_ret
    exact⟨by rw[idxOf_hit p l0 kk y HX.out HQ.out HN.out];rfl,HB.out.trans (hb.mono HB.out.size)⟩
   | false=>
    have HQ:=Za hq
    rw[hq] at hcall
    clear hq
    go_wp2_with (go_at_fn g;refine hcall.mono ?_;rintro e w' ⟨rfl,hb⟩)
    go_roundg (l0.length - (kk+1))
    case measure=>have:=HG.out;omega
    case rel=>
     refine⟨kk+1,⟨by omega⟩,⟨by omega⟩,by go_num,⟨HB.out.trans (hb.mono HB.out.size)⟩,⟨fun j y' hj hy=>?_⟩⟩
     by_cases e:j=kk
     ·subst e
      rw[HX.out] at hy
      cases hy
      exact HQ.out
     ·exact HN.out j y' (by omega) hy
  ·have hltz:¬(kk:Int)<(l0.length:Int):=by omega
   have:kk=l0.length:=by have:=HK.out;omega
   subst this
   go_wp2
   go_ret
   exact⟨by rw[idxOf_miss p l0 HN.out];rfl,HB.out⟩
theorem Zr.clr {B g cap:Nat}:∀(m i n:Nat) (w:World) (xs:List Int),i+m=n→IR w B g n cap xs→IR (w.setCells g i (List.replicate m (.int .i64 0))) B g n cap (xs.take i ++ List.replicate m 0)
 | 0,i,n,w,xs,h,hr=>by
  have hn:=hr.reads.1
  rw[List.take_of_length_le (by omega)];simpa [World.setCells] using hr
 | m+1,i,n,w,xs,h,hr=>by
  have hn:=hr.reads.1
  have h1:=Zr.clr m (i+1) n _ _ (by omega) (hr.put (i:Int) 0)
  rw[Int.toNat_natCast] at h1
  rw[List.replicate_succ]
  show IR ((w.setCell ⟨g,i,none⟩ (.int .i64 0)).setCells g (i+1) (List.replicate m (.int .i64 0))) B g n cap _
  rw[show xs.take i ++ List.replicate (m+1) 0=(xs.set i 0).take (i+1) ++ List.replicate m 0 by
   rw[List.take_succ_eq_append_getElem (by simp;omega),List.getElem_set_self,List.take_set_of_le (Nat.le_refl _),List.append_assoc];rfl]
  exact h1
theorem Zr.clrB {b g:Nat} {w0:World} (hb:b≤g):∀(m i:Nat) (w:World),Below b w0 w→Below b w0 (w.setCells g i (List.replicate m (.int .i64 0)))
 | 0,_,_,h=>h
 | m+1,i,w,h=>Zr.clrB hb m (i+1) _ (h.setCell (p:=⟨g,i,none⟩) hb _)
theorem idxOf_all {α:Type} {p:α→Bool} {l:List α} (h:ZI p l=-1):∀x∈l,p x=false:=by
 unfold ZI at h
 cases hf:l.findIdx? p with
 | none=>rw[List.findIdx?_eq_none_iff] at hf;exact hf
 | some i=>rw[hf] at h;simp only at h;omega
theorem idxOf_first {α:Type} {p:α→Bool} {l:List α} {i:Nat} (h:ZI p l=(i:Int)):i<l.length∧(l.take i).filter (fun x=>!p x)=l.take i∧(l.take (i+1)).filter (fun x=>!p x)=l.take i:=by
 unfold ZI at h
 cases hf:l.findIdx? p with
 | none=>rw[hf] at h;simp only at h;omega
 | some j=>
  rw[hf] at h
  have:j=i:=by simp only at h;omega
  subst this
  obtain⟨h1,h2,h3⟩:=List.findIdx?_eq_some_iff_getElem.1 hf
  have h4:(l.take j).filter (fun x=>!p x)=l.take j:=by
   rw[List.filter_eq_self]
   intro x hx
   obtain⟨q,hq,rfl⟩:=List.mem_iff_getElem.1 hx
   rw[Ze] at hq
   have:=h3 q (by omega)
   rw[List.getElem_take]
   simpa using this
  refine⟨h1,h4,?_⟩
  rw[List.take_succ_eq_append_getElem h1,List.filter_append,h4]
  simp[h2]
set_option maxHeartbeats 4000000 in
set_option maxRecDepth 100000 in
theorem Zr.own (p:Int→Bool) (fn:Nat) (lb:Array Value) (eg:∀args w,(callFunc fn args).run Try.prog w=.ok (.enter fn args) w) (B b gr n cap:Nat) (xs:List Int) (w:World) (hS:IR w B gr n cap xs) (hb:b≤gr∧b≤w.heap.size) (hn:n≤1048576)
  (hp:∀(W:World) (x:Int),Below b w W→Calls Try.prog fn (#[.int .i64 x] ++ lb) W fun e w'=>e=.returned (.bool (p x))∧Below W.heap.size W w') :
  Calls Try.prog 54 #[.slice (some ⟨gr,0,none⟩) n cap,.func (.func fn) #[] lb] w fun e w'=>e=.returned (.slice (some ⟨gr,0,none⟩) (xs.filter fun x=>!p x).length cap)∧IR w' B gr (xs.filter fun x=>!p x).length cap (xs.filter fun x=>!p x)∧Below b w w':=by
 have HS:=Za hS;have HP:=Za hp
 have HNL:=Za hS.reads.1
 obtain⟨hb1,hb2⟩:=hb
 have hnc:n≤cap:=hS.reads.2.1
 have hcm:cap≤9223372036854775807:=by
  obtain⟨_,inner,ho,_⟩:=hS
  obtain⟨_,h2⟩:=ho
  rcases h2 with ⟨h3,_⟩|⟨g,c,cur,h3,_,_,_,h4,_⟩
  ·cases h3
  ·injection h3 with _ _ h5;subst h5;exact h4
 have hIX:=ZR.any p fn lb eg (some ⟨gr,0,none⟩) cap xs w hS.reads.2.2 (fun W x _ hb'=>hp W x (hb'.mono hb2))
 rw[← hS.reads.1] at hIX
 have HIX:=Za hIX
 have HZ:=Za (show ∀w,(zeroValue 3).run Try.prog w=.ok (.int .i64 0) w from fun w=>by kernel_rfl)
 clear hS hp hIX
 obtain⟨ys,hys⟩:∃ys,ys=xs.filter fun x=>!p x:=⟨_,rfl⟩
 have HY:=Za hys
 rw[← hys]
 clear hys
 rcases(show(ZI p xs=-1)∨∃i:Nat,ZI p xs=(i:Int) by
  unfold ZI
  cases xs.findIdx? p with
  | none=>left;rfl
  | some i=>right;exact⟨i,rfl⟩) with hi|⟨i0,hi⟩
 ·rw[hi] at HIX
  have HE:=Za (show ys=xs by rw[HY.out,List.filter_eq_self];intro x hx;rw[idxOf_all hi x hx];rfl)
  have HEL:=Za (show ys.length=n by rw[HE.out,HNL.out])
  generalize ys.length=m at HEL ⊢
  obtain rfl:=HEL.out
  clear HEL hi
  go_enter Try.func54,Try.ntmps54
  go_wp2_with (go_at_call 83;refine HIX.out.mono ?_;rintro e w1 ⟨rfl,hb⟩)
  go_ret
  exact⟨rfl,by rw[HE.out];exact HS.out.low hb,hb.mono hb2⟩
 ·rw[hi] at HIX
  obtain⟨q1,q2,q3⟩:=idxOf_first hi
  have hin:i0<n:=by have:=HNL.out;omega
  have HQ:=Za (And.intro q2 q3)
  have hne:((i0:Int) == -1)=false:=by rw[beq_eq_false_iff_ne];omega
  clear q1 q2 q3 hi
  go_enter Try.func54,Try.ntmps54
  go_wp2_with (go_at_call 83;refine HIX.out.mono ?_;rintro e w1 ⟨rfl,hb⟩)
  have HB1:=Za (hb.mono hb2)
  have HS1:=Za (HS.out.low hb)
  clear hb HIX
  go_loopg [5,6] n (fun gg s5 s6 wr=>∃(i j:Nat) (zs:List Int),s5=.int .i64 (i:Int)∧s6=.int .i64 (j:Int)∧Aside0 (i<j∧j≤n)∧Aside0 (n - j≤gg)∧Aside0 (IR wr B gr n cap zs)∧Aside0 (zs.length=n∧zs.take i=(xs.take j).filter (fun x=>!p x)∧zs.drop j=xs.drop j)∧Aside0 (Below b w wr))
  case atStart=>exact⟨i0,i0+1,xs,rfl,by go_num,⟨by omega⟩,⟨by omega⟩,HS1,⟨HNL.out.symm,HQ.out.2.symm,rfl⟩,HB1⟩
  case round=>
   obtain⟨i,j,zs,rfl,rfl,HIJ,HG,HR,HZS,HB⟩:=hrel
   have hgr:=HR.out.lt
   by_cases hjn:j<n
   ·have hjz:(j:Int)<(n:Int):=by omega
    have hiz:(i:Int)<(n:Int):=by have:=HIJ.out;omega
    have h0i:(0:Int)≤(i:Int):=by omega
    have h0j:(0:Int)≤(j:Int):=by omega
    obtain⟨xj,_⟩:=HR.out.cell h0j hjz
    rw[Zai,Int.toNat_natCast] at xj
    have HX:=Za (show zs.drop j=zs.getD j 0 :: zs.drop (j+1) from ZW (by have:=HZS.out.1;omega) 0)
    have HX2:=Za (show xs.drop j=xs.getD j 0 :: xs.drop (j+1) from ZW (by have:=HNL.out;omega) 0)
    have HV:=Za (show zs.getD j 0=xs.getD j 0∧zs.drop (j+1)=xs.drop (j+1) by
     have h:=HZS.out.2.2
     rw[HX.out,HX2.out] at h
     exact List.cons.inj h)
    have HTK:=Za (show xs.take (j+1)=xs.take j ++ [xs.getD j 0] by
     have h:=HNL.out
     rw[List.take_succ_eq_append_getElem (by omega),List.getD_eq_getElem?_getD,Zg (by omega)];rfl)
    rw[HV.out.1] at xj
    have hcall:=HP.out wr (xs.getD j 0) HB.out
    generalize xs.getD j 0=x at xj HTK hcall
    clear HX HX2
    cases hq:p x with
    | true=>
     rw[hq] at hcall
     have HF:=Za (show(xs.take (j+1)).filter (fun x=>!p x)=(xs.take j).filter (fun x=>!p x) by rw[HTK.out,List.filter_append];simp[hq])
     clear hq
     go_wp2_with (go_at_fn fn;refine hcall.mono ?_;rintro e w' ⟨rfl,hb⟩)
     go_roundg (n - (j+1))
     case measure=>have:=HG.out;omega
     case rel=>exact⟨i,j+1,zs,rfl,by go_num,⟨by have:=HIJ.out;omega⟩,⟨by omega⟩,⟨HR.out.low hb⟩,⟨HZS.out.1,by rw[HZS.out.2.1,HF.out],HV.out.2⟩,⟨HB.out.trans (hb.mono (Nat.le_trans hb2 HB.out.size))⟩⟩
    | false=>
     rw[hq] at hcall
     have HF:=Za (show(xs.take (j+1)).filter (fun x=>!p x)=(xs.take j).filter (fun x=>!p x) ++ [x] by rw[HTK.out,List.filter_append];simp[hq])
     clear hq
     go_wp2_with (go_at_fn fn;refine hcall.mono ?_;rintro e w' ⟨rfl,hb⟩;have HR2:=Za (HR.out.low hb);have HB2:=Za (HB.out.trans (hb.mono (Nat.le_trans hb2 HB.out.size)));clear hb;obtain⟨xi,zi⟩:=HR2.out.cell h0i hiz;rw[Int.toNat_natCast] at xi zi;have hgr2:=HR2.out.lt)
     go_roundg (n - (j+1))
     case measure=>have:=HG.out;omega
     case rel=>
      refine⟨i+1,j+1,zs.set i x,by go_num,by go_num,⟨by have:=HIJ.out;omega⟩,⟨by omega⟩,⟨?_⟩,⟨by rw[List.length_set];exact HZS.out.1,?_,?_⟩,⟨HB2.out.setCell (p:=⟨gr,i,none⟩) hb1 _⟩⟩
      ·exact HR2.out.put (i:Int) x
      ·have h1:=HIJ.out
       have h2:=HZS.out.1
       rw[HF.out,← HZS.out.2.1,List.take_succ_eq_append_getElem (by rw[List.length_set];omega),List.getElem_set_self,List.take_set_of_le (Nat.le_refl _)]
      ·rw[← HV.out.2,List.drop_set_of_lt (by have:=HIJ.out;omega)]
   ·have hjz:¬(j:Int)<(n:Int):=by omega
    obtain rfl:n=j:=by have:=HIJ.out;omega
    have hin2:i<n:=HIJ.out.1
    have hi0:(0:Int)≤(i:Int):=by omega
    have hiz:(i:Int)≤(n:Int):=by omega
    have hic:¬cap=i:=by omega
    have hicap:i≤cap:=by omega
    have hin3:i≤n:=by omega
    have hcl:∀ty,(Builtin.clear_ #[22] ty #[.slice (some ⟨gr,i,none⟩) (n - i) (cap - i)]).run Try.prog wr=.ok (.tuple #[]) (wr.setCells gr i (List.replicate (n - i) (.int .i64 0))):=
     fun ty=>Lib.run_clear_slice wr 22 3 ty (.int .i64 0) Try.underlying22 HZ.out rfl rfl gr i _ _ (by omega) (fun t ht=>by
      have:=(HR.out.cell (i:=((i+t:Nat):Int)) (by omega) (by omega)).1
      rw[Int.toNat_natCast] at this;rw[this];rfl) (fun t ht=>by
      have:=(HR.out.cell (i:=((i+t:Nat):Int)) (by omega) (by omega)).2
      rw[Int.toNat_natCast] at this;exact this)
    have HYS:=Za (show zs.take i=ys by rw[HZS.out.2.1,HY.out,List.take_of_length_le (by rw[HNL.out];omega)])
    have HYL:=Za (show ys.length=i by rw[← HYS.out,Ze,HZS.out.1];omega)
    go_wp2
    go_ret
    rw[HYL.out]
    refine⟨rfl,?_,Zr.clrB hb1 (n - i) i wr HB.out⟩
    have h:=Zr.clr (n - i) i n wr zs (by omega) HR.out
    have h2:=Kd.R_take (m:=i) h (by rw[List.length_append,Ze,List.length_replicate,HZS.out.1];omega)
    rw[List.take_append_of_le_length (by rw[Ze,HZS.out.1];omega),List.take_take,Nat.min_self,HYS.out] at h2
    exact h2
set_option maxHeartbeats 4000000 in
theorem Zr.nil_ (fn:Nat) (lb:Array Value) (eg:∀args w,(callFunc fn args).run Try.prog w=.ok (.enter fn args) w) (A:Option Addr) (c:Nat) (w:World) (hr:Kd.C (Kd.int .i64) w A ([]:List Int).length []) :
  Calls Try.prog 54 #[.slice A 0 c,.func (.func fn) #[] lb] w fun e w'=>e=.returned (.slice A 0 c)∧Below w.heap.size w w':=by
 have HIX:=Za (ZR.any (fun _=>true) fn lb eg A c [] w hr (fun _ _ h=>absurd h (by simp)))
 rw[show ZI (fun _:Int=>true) ([]:List Int)=-1 from rfl] at HIX
 clear hr
 go_enter Try.func54,Try.ntmps54
 go_wp2_with (go_at_call 83;refine HIX.out.mono ?_;rintro e w1 ⟨rfl,hb⟩)
 go_ret
 exact⟨rfl,hb⟩
end Go.Proofs.Ytammpmadchekeaa.Pr
namespace Go.Proofs.Ytammpmadchekeaa.Pr
open Go.RowKit Go.Proofs.YtammpmadchekeaaW.PrintWords Go.Proofs.YtammpmadchekeaaW.PrintLast Go.Proofs.YtammpmadchekeaaW.PrintMore
attribute [local go_sem] ZV ZT Z0 ZZ ZN ZM ZU ZS
set_option linter.unusedVariables false
set_option linter.unusedSimpArgs false
def ZA.f (l0:List Int):Option (List Int):=if l0.length<17592186044416 then some l0 else none
set_option maxHeartbeats 4000000 in
set_option maxRecDepth 100000 in
theorem ZA.calls (A0:Option Addr) (c0:Nat) (l0:List Int) (r:List Int) (w:World) (hr0:Kd.C (Kd.int .i64) w A0 l0.length l0) (hc0:l0.length≤c0) (h:ZA.f l0=some r) :
  Calls Try.prog 55 #[.slice A0 l0.length c0] w fun e w'=>∃v0_:Value,e=.returned (v0_)∧Kd.R (Kd.int .i64) 3 w' w.heap.size (fun _=>True) v0_ r∧Below w.heap.size w w':=by
 unfold ZA.f at h
 by_cases hl:l0.length<17592186044416
 case neg=>rw[if_neg hl] at h;exact absurd h (by simp)
 rw[if_pos hl] at h
 obtain rfl:=Option.some.inj h
 have HR0:=Za hr0;have HLM:=Za hl
 have hsn:=fun (W:World) (A:Option Addr) (n c:Nat)=>Lib.run_eql_slice_nil (P:=Try.prog) W 22 3 A n c 0 0 Try.underlying22
 clear hr0 hc0 hl h
 cases A0 with
 | none=>
  have hn:l0=[]:=by
   cases l0 with
   | nil=>rfl
   | cons a l=>
    obtain⟨ad,he,_⟩:=HR0.out.2.2 (by simp)
    cases he
  have HN:=Za hn;clear hn
  generalize hq:l0.length=n
  clear hq
  go_enter Try.func55,Try.ntmps55
  go_wp2
  go_ret
  exact⟨_,rfl,by rw[HN.out];exact Kd.R_nil _ _ _ _ _,Below.refl _ _⟩
 | some A0=>
  go_enter Try.func55,Try.ntmps55
  go_wp2_with (first|((with_reducible refine ZaD (N:=5) rfl ?_);refine Kd.R_lit (Kd.int .i64) _ 3 ?hg (N:=5) ?hd (xs:=([]:List Int)) (inner:=[]) (ok:=fun _=>True) (okp:=fun _=>True) ?hr ?hp (fun _ hk=>hk) trivial (Below.refl _ _) (Nat.le_refl _) (by simp) ?_;(case hd=>rfl);(case hg=>rfl);(case hr=>first|(go_simp;done)|(go_simp;rfl));(case hp=>exact(Reps.none _ _));intro v1 w3 ho hb _ _;have HO:=Za ho;have HB:=Za hb;clear ho hb)|((with_reducible refine Zav (b:=.append) (xs:=#[.tmp 5,.tmp 6]) rfl ?_);at_builtin;refine Kd.R_append_row (Value.int .i64) 0 (w0:=w) w.heap.size rfl (.tmp 5) (.tmp 6) 22 3 (.int .i64 0) 8 rfl Try.underlying22 info3 rfl (by decide) v1 [] l0 _ _ _ (fun _=>True) rfl rfl (fun _ _=>trivial) HO.out (Kd.C_below HR0.out HB.out) HB.out HB.out.size ?aL ?_;(case aL=>have:=HLM.out;simp only[List.length_nil];omega);intro v2 w5 ho hb hg hat;have HO2:=Za ho;have HB2:=Za hb;clear ho hb hg hat))
  go_ret
  exact⟨_,rfl,HO2.out,HB2.out⟩
end Go.Proofs.Ytammpmadchekeaa.Pr
namespace Go.Proofs.Ytammpmadchekeaa.Pr
open Go.RowKit Go.Proofs.YtammpmadchekeaaW.PrintWords Go.Proofs.YtammpmadchekeaaW.PrintLast Go.Proofs.YtammpmadchekeaaW.PrintMore
attribute [local go_sem] ZV ZT Z0 ZZ ZN ZM ZU ZS
set_option linter.unusedVariables false
set_option linter.unusedSimpArgs false
open Go.Proofs.Ytammpmadchekeaa.Ni
def litB (q x:Int):Bool:=decide (x=q) || decide (x=wrap64 (-q))
def Zq.f (l0:List Int) (a1:Int):Option (List Int):=if l0.length≤1048576 then some (l0.filter fun x=>!litB a1 x) else none
set_option maxHeartbeats 4000000 in
theorem Zam.clo (B:Nat) (q x:Int) (W:World) (hB:W.cell? ⟨B,0,none⟩=some (.int .i64 q)) :
  Calls Try.prog 56 #[.int .i64 x,.pointer (some ⟨B,0,none⟩)] W fun e w'=>e=.returned (.bool (litB q x))∧Below W.heap.size W w':=by
 have hlt:B<W.heap.size:=World.block_lt_of_cell? W _ hB
 by_cases h1:x=q
 ·subst h1
  have hb:(x == x)=true:=by simp
  have HF:=Za (show litB x x=true by simp[litB])
  go_enter Try.func56,Try.ntmps56
  go_wp2
  go_ret
  exact⟨by rw[HF.out];rfl,Below.refl _ _⟩
 ·have hb:(x == q)=false:=by simpa using h1
  have HF:=Za (show litB q x=(x == wrap64 (-q)) by unfold litB;rw[decide_eq_false h1,Bool.false_or,Bool.eq_iff_iff];simp)
  clear h1
  go_enter Try.func56,Try.ntmps56
  go_wp2
  go_ret
  exact⟨by rw[HF.out];rfl,Below.refl _ _⟩
set_option maxHeartbeats 4000000 in
set_option maxRecDepth 100000 in
theorem Zq.calls (A0:Option Addr) (c0:Nat) (l0:List Int) (a1:Int) (r:List Int) (w:World) (hr0:Kd.C (Kd.int .i64) w A0 l0.length l0) (hc0:l0.length≤c0) (h:Zq.f l0 a1=some r) :
  Calls Try.prog 23 #[.slice A0 l0.length c0,.int .i64 a1] w fun e w'=>∃v0_:Value,e=.returned (v0_)∧Kd.R (Kd.int .i64) 3 w' w.heap.size (fun _=>True) v0_ r∧Below w.heap.size w w':=by
 unfold Zq.f at h
 by_cases hl:l0.length≤1048576
 case neg=>rw[if_neg hl] at h;exact absurd h (by simp)
 rw[if_pos hl] at h
 obtain rfl:=Option.some.inj h
 have B1:=Za (Zj (Below.refl w.heap.size w) (.cells #[.int .i64 a1] 3))
 have K0:=Za (show(w.alloc (.cells #[.int .i64 a1] 3)).cell? ⟨w.heap.size,0,none⟩=some (.int .i64 a1) by go_simp)
 have HCL:=Za fun (W:World) (hb:Below w.heap.size w W)=>ZA.calls A0 c0 l0 l0 W (Kd.C_below hr0 hb) hc0 (by unfold ZA.f;rw[if_pos (by omega)])
 have HDE:=Za fun (W:World) (gr cap:Nat) (hS:IR W (w.heap.size+1) gr l0.length cap l0) (hW:w.heap.size+1≤W.heap.size) (hk:W.cell? ⟨w.heap.size,0,none⟩=some (.int .i64 a1))=>Zr.own (litB a1) 56 #[.pointer (some ⟨w.heap.size,0,none⟩)] (enters_of Try.func56 (by kernel_rfl) rfl) (w.heap.size+1) (w.heap.size+1) gr l0.length cap l0 W hS ⟨hS.base,hW⟩ hl
  (fun W' x hb'=>Zam.clo w.heap.size a1 x W' ((hb'.cell (p:=⟨w.heap.size,0,none⟩) (by dsimp only;omega)).trans hk))
 have HLL:=Za hl;clear hr0 hc0 h hl
 rcases(show Aside0 (l0=[])∨Aside0 (0<l0.length) by cases l0 with|nil=>exact .inl ⟨rfl⟩|cons a t=>exact .inr ⟨by simp⟩) with hz|hpos
 ·have HN:=Za (show(l0.filter fun x=>!litB a1 x)=[] by rw[hz.out];rfl)
  have HCL2:=Za fun (W:World) (hb:Below w.heap.size w W)=>(HCL.out W hb).mono fun e w' ⟨v,h1,h2,h3⟩=>(⟨v,h1,by rw[hz.out] at h2;exact h2,h3⟩:∃v:Value,e=Ending.returned v∧Kd.R (Kd.int .i64) 3 w' W.heap.size (fun _=>True) v []∧Below W.heap.size W w')
  have HDN:=Za fun (W:World) (A:Option Addr) (c:Nat) (hr:Kd.C (Kd.int .i64) W A ([]:List Int).length [])=>Zr.nil_ 56 #[.pointer (some ⟨w.heap.size,0,none⟩)] (enters_of Try.func56 (by kernel_rfl) rfl) A c W hr
  clear HCL HDE
  rw[HN.out]
  go_enter Try.func23,Try.ntmps23
  go_wp2_with (first|(go_at_call 55;refine(HCL2.out _ B1.out).mono ?_;rintro e w1 ⟨v1,rfl,ho,hb⟩;obtain⟨A,c,e1,_,hrd⟩:=Kd.R_reads ho;subst e1;have HO:=Za ho;have HRD:=Za hrd;have HB:=Za (B1.out.trans (hb.mono B1.out.size));clear ho hb hrd)|(go_at_call 54;refine(HDN.out _ A c HRD.out).mono ?_;rintro e w2 ⟨rfl,hb⟩))
  go_ret
  exact⟨_,rfl,Kd.R_mono (Kd.R_lower (Kd.R_below HO.out hb) B1.out.size) (fun _ _=>trivial),HB.out.trans (hb.mono HB.out.size)⟩
 ·go_enter Try.func23,Try.ntmps23
  go_wp2_with (first|(go_at_call 55;refine(HCL.out _ B1.out).mono ?_;rintro e w1 ⟨v1,rfl,ho,hb⟩;obtain⟨gr,cap,e1,_⟩:=Kd.R_form ho hpos.out;subst e1;have HB:=Za (B1.out.trans (hb.mono B1.out.size));have HS:=Za (IR.of (Kd.R_lower ho (show w.heap.size+1≤(w.alloc (.cells #[.int .i64 a1] 3)).heap.size by simp)));have HK:=Za (kcell hb K0.out);clear ho hb)|(go_at_call 54;refine(HDE.out _ gr cap HS.out (World.block_lt_of_cell? _ _ HK.out) HK.out).mono ?_;rintro e w2 ⟨rfl,hs,hb⟩))
  go_ret
  exact⟨_,rfl,Kd.R_mono (Kd.R_lower hs (Nat.le_succ _)) (fun _ _=>trivial),HB.out.trans (hb.mono (Nat.le_succ _))⟩
end Go.Proofs.Ytammpmadchekeaa.Pr
namespace Go.Proofs.Ytammpmadchekeaa.Pr
open Go.RowKit Go.Proofs.YtammpmadchekeaaW.PrintWords Go.Proofs.YtammpmadchekeaaW.PrintLast Go.Proofs.YtammpmadchekeaaW.PrintMore
attribute [local go_sem] ZV ZT Z0 ZZ ZN ZM ZU ZS
set_option linter.unusedVariables false
set_option linter.unusedSimpArgs false
def Zn.l0:Nat→List Int→Int→Int→Option (Int×List Int)
 | 0,_,_,_=>none
 | k+1,x0,x1,x5=>if x5<(x0.length:Int) then(if 0≤x5 then(Zn.l0 k (x0.set (x5:Int).toNat x1) (wrap64 (x1+1)) (wrap64 (x5+1))) else(none)) else(some (x1,x0))
def Zn.f (k:Nat) (l0:List Int) (a1:Int):Option (Int×List Int):=Zn.l0 k l0 a1 0
set_option maxHeartbeats 8000000 in
set_option maxRecDepth 100000 in
theorem Zn.calls (k:Nat) (P0_:Nat→Prop) (u9000_:Value) (l0:List Int) (a1:Int) (r1:Int) (r2:List Int) (w0 w:World) (hB:Below w0.heap.size w0 w) (ho0:Kd.R (Kd.int .i64) 3 w w0.heap.size P0_ u9000_ l0) (h:Zn.f k l0 a1=some (r1,r2)) :
  Calls Try.prog 24 #[u9000_,.int .i64 a1] w fun e w'=>e=.returned (.int .i64 r1)∧Kd.R (Kd.int .i64) 3 w' w0.heap.size (fun k_=>(P0_ k_∨w.heap.size≤k_)) u9000_ r2∧Below w0.heap.size w0 w'∧Kept w w' (fun k_=>P0_ k_):=by
 have HO0:=Za (show Kd.R (Kd.int .i64) 3 w w0.heap.size (fun k_=>(P0_ k_∨w.heap.size≤k_)) u9000_ l0 from Kd.R_mono ho0 (fun k_ hk=>(.inl hk)))
 have HK:=Za (Kept.refl w (fun k_=>P0_ k_))
 have HW0:=Za hB.size
 have HB:=Za hB;clear hB
 have H:(Zn.l0 k l0 a1 0)=some (r1,r2):=h
 clear h
 have H':=Za H
 clear H
 go_enter Try.func24,Try.ntmps24
 go_wp2
 go_loopg [1,5] k (fun kq v1 v5 w'=>∃(x0_1:List Int) (x1_1:Int) (x5_1:Int),v1=.int .i64 x1_1∧v5=.int .i64 x5_1∧Aside0 (Zn.l0 kq x0_1 x1_1 x5_1=some (r1,r2))∧Aside0 (kq≤k)∧Aside0 (Kd.R (Kd.int .i64) 3 w' w0.heap.size (fun k_=>(P0_ k_∨w.heap.size≤k_)) u9000_ x0_1)∧Aside0 (Kept w w' (fun k_=>P0_ k_))∧Aside0 (Below w0.heap.size w0 w'))
 case atStart=>exact⟨(l0),(a1),(0),(by first|rfl|(simp;done)|(simp[*];done)),(by first|rfl|(simp;done)|(simp[*];done)),H',⟨Nat.le_refl _⟩,⟨by(with_reducible repeat(first|apply Kd.R_alloc|apply Kd.R_drewN|apply Kd.R_drew));exact HO0.out⟩,⟨by repeat(first|(with_reducible first|exact HK.out|apply Kept.alloc|apply Kept.drewN|apply Kept.drew)|exact HK.out)⟩,⟨by repeat(first|(with_reducible first|exact HB.out|apply Zj|apply Zh|apply Zl)|exact HB.out)⟩⟩
 case round=>
  clear H'
  try clear c2
  try clear p2
  obtain⟨x0_1,x1_1,x5_1,rfl,rfl,HA,HK1,HO_0,HK,HB⟩:=hrel
  cases gk with
  | zero=>exact absurd HA.out (by simp[Zn.l0])
  | succ k1=>
   have H:=HA.out
   clear HA
   simp only[Zn.l0] at H
   by_cases c3:x5_1<(x0_1.length:Int)
   ·rw[if_pos c3] at H
    have c3b0:decide (x5_1<(x0_1.length:Int))=true:=decide_eq_true c3
    clear c3
    by_cases c4:0≤x5_1
    ·rw[if_pos c4] at H
     have c4b0:decide (0≤x5_1)=true:=decide_eq_true c4
     clear c4
     obtain⟨y24001,hy24001⟩:∃y_:List Int,y_=(x0_1.set (x5_1:Int).toNat x1_1):=⟨_,rfl⟩
     replace H:(Zn.l0 k1 y24001 (wrap64 (x1_1+1)) (wrap64 (x5_1+1)))=some (r1,r2):=by first|(rw[hy24001];with_reducible exact H)|(have H2_:=(Zd _ _).symm.trans H;rw[hy24001];with_reducible exact H2_)|(have H2_:=(Zd _ _).symm.trans H;with_reducible exact H2_)|with_reducible exact H|(rw[hy24001];exact H)|exact H
     have Ny24001:=Za hy24001;clear hy24001
     have H':=Za H
     clear H
     obtain⟨Ao6,co6,eo6⟩:=Kd.R_slice HO_0.out
     subst eo6
     have p5:0≤(x5_1:Int):=Zb (by first|(with_reducible assumption)|assumption)
     have q5:(x5_1:Int)<((x0_1.length:Int):Int):=Zb (by first|(with_reducible assumption)|assumption)
     obtain⟨go5,co5,eo5,gb5,gl5,cl5,HG5⟩:=Kd.R_form HO_0.out (by omega)
     (first|cases eo5|(injection eo5 with ea_ en_ ec_;(first|subst ea_|(injection ea_ with ea_;subst ea_));subst ec_;clear en_))
     have GB5:=Za gb5;have GG5:=Za HG5;clear gb5 gl5 HG5
     have HMgo5:=Za (show(P0_ go5∨w.heap.size≤go5) from(HO_0.out.1 _ rfl))
     obtain⟨hx5_0,hf5_0⟩:=Kd.R_celln 0 HO_0.out (x5_1:Int) p5 q5
     replace p5:=eq_true p5
     replace q5:=eq_true q5
     have HP7:=Kd.R_putg HO_0.out (x5_1:Int) x1_1
     go_wp2_with (first|((with_reducible refine ZaJ (t:=3) (p:=15) rfl ?_);refine Zay (t:=3) (p:=15) (v:=?vo_w8) (w1:=(wr.setCell ⟨go5,(x5_1:Int).toNat,none⟩ (.int .i64 x1_1))) ?hg ?ho ?hn ?hr ?_;(case ho=>rfl);(case hg=>rfl);(case hn=>rfl);(case hr=>first|(go_simp;done)|(go_simp;rfl));intro w8 hw;have hg:wr.grownBy w8 (some go5):=(by rw[hw];exact HP7.2);have hp_:Kd.R (Kd.int .i64) 3 w8 w0.heap.size (fun k_=>(P0_ k_∨w.heap.size≤k_)) (.slice (some ⟨go5,0,none⟩) x0_1.length co6) y24001:=(by rw[hw,Ny24001.out];exact HP7.1);clear HP7;have n0_:=Za (hp_);have n1_:=Za ((by rw[hw];exact below_set (HB.out) GB5.out:Below w0.heap.size w0 w8));have n2_:=Za (Kept.of_grown (S:=(fun k_=>P0_ k_)) hg (by repeat(first|(with_reducible first|exact HK.out|apply Kept.alloc|apply Kept.drewN|apply Kept.drew)|exact HK.out)) (fun k_ e_=>(HO_0.out.1 k_ e_)));clear HO_0;clear HB;clear HK;have HO_0:=n0_;have HB:=n1_;have HK:=n2_;clear n0_ n1_ n2_;clear hg hw hp_))
     go_roundg k1
     case measure=>have:=HK1.out;omega
     case rel=>exact⟨(y24001),(wrap64 (x1_1+1)),(wrap64 (x5_1+1)),(by first|rfl|(simp;done)|(simp[*];done)),(by first|rfl|(simp;done)|(simp[*];done)),H',⟨by have:=HK1.out;omega⟩,⟨by(with_reducible repeat(first|apply Kd.R_alloc|apply Kd.R_drewN|apply Kd.R_drew));exact HO_0.out⟩,⟨by repeat(first|(with_reducible first|exact HK.out|apply Kept.alloc|apply Kept.drewN|apply Kept.drew)|exact HK.out)⟩,⟨by repeat(first|(with_reducible first|exact HB.out|apply Zj|apply Zh|apply Zl)|exact HB.out)⟩⟩
    ·rw[if_neg c4] at H
     exact absurd H (by simp)
   ·rw[if_neg c3] at H
    have c3b0:decide (x5_1<(x0_1.length:Int))=false:=decide_eq_false c3
    clear c3
    simp only[Option.some.injEq,Prod.mk.injEq] at H
    obtain⟨rfl,rfl⟩:=H
    obtain⟨Ao9,co9,eo9⟩:=Kd.R_slice HO_0.out
    subst eo9
    go_wp2
    go_ret
    exact⟨by first|rfl|(simp[ZG,ZF] <;> rfl)|(simp[*,ZG,ZF] <;> rfl),by(with_reducible repeat(first|apply Kd.R_alloc|apply Kd.R_drewN|apply Kd.R_drew));exact HO_0.out,by repeat(first|(with_reducible first|exact HB.out|apply Zj|apply Zh|apply Zl)|exact HB.out),by repeat(first|(with_reducible first|exact HK.out|apply Kept.alloc|apply Kept.drewN|apply Kept.drew)|exact HK.out)⟩
def Zo.l0:Nat→List Int→Int→Int→Option (Int)
 | 0,_,_,_=>none
 | k+1,x0,x1,x5=>if x5<(x0.length:Int) then(if 0≤x5 then(if (rd x0 x5)=x1 then(Zo.l0 k x0 (wrap64 (x1+1)) (wrap64 (x5+1))) else(some (-1))) else(none)) else(some x1)
def Zo.f (k:Nat) (l0:List Int) (a1:Int):Option (Int):=Zo.l0 k l0 a1 0
set_option maxHeartbeats 8000000 in
set_option maxRecDepth 100000 in
theorem Zo.calls (k:Nat) (A0:Option Addr) (c0:Nat) (l0:List Int) (a1:Int) (r:Int) (w:World) (hr0:Kd.C (Kd.int .i64) w A0 l0.length l0) (hc0:l0.length≤c0) (h:Zo.f k l0 a1=some r) :
  Calls Try.prog 25 #[.slice A0 l0.length c0,.int .i64 a1] w fun e w'=>e=.returned (.int .i64 r)∧Zs w w':=by
 have HR0:=Za hr0;have HC0:=Za hc0;clear hr0 hc0
 have H:(Zo.l0 k l0 a1 0)=some r:=h
 clear h
 have H':=Za H
 clear H
 go_enter Try.func25,Try.ntmps25
 go_wp2
 go_loopg [1,5] k (fun kq v1 v5 w'=>∃(x1_1:Int) (x5_1:Int),v1=.int .i64 x1_1∧v5=.int .i64 x5_1∧Aside0 (Zo.l0 kq l0 x1_1 x5_1=some r)∧Aside0 (kq≤k)∧Zs w w')
 case atStart=>exact⟨(a1),(0),(by first|rfl|(simp;done)|(simp[*];done)),(by first|rfl|(simp;done)|(simp[*];done)),H',⟨Nat.le_refl _⟩,by repeat(first|exact Zs.refl _|apply Zs.step)⟩
 case round=>
  clear H'
  try clear c2
  try clear p2
  obtain⟨x1_1,x5_1,rfl,rfl,HA,HK1,⟨m1,rfl⟩⟩:=hrel
  cases gk with
  | zero=>exact absurd HA.out (by simp[Zo.l0])
  | succ k1=>
   have H:=HA.out
   clear HA
   simp only[Zo.l0] at H
   by_cases c3:x5_1<(l0.length:Int)
   ·rw[if_pos c3] at H
    have c3b0:decide (x5_1<(l0.length:Int))=true:=decide_eq_true c3
    clear c3
    by_cases c4:0≤x5_1
    ·rw[if_pos c4] at H
     have c4b0:decide (0≤x5_1)=true:=decide_eq_true c4
     clear c4
     by_cases c5:(rd l0 x5_1)=x1_1
     ·rw[if_pos c5] at H
      have c5b0:((rd l0 x5_1) == x1_1)=true:=beq_iff_eq.mpr c5
      have c5b1:((rd l0 x5_1) != x1_1)=false:=bne_eq_false_iff_eq.mpr c5
      clear c5
      have H':=Za H
      clear H
      have p25001:0≤(x5_1:Int):=Zb (by first|(with_reducible assumption)|assumption)
      have q25001:x5_1<(l0.length:Int):=Zb (by first|(with_reducible assumption)|assumption)
      obtain⟨ad25001,e25001,hx25001_0⟩:=Kd.at_int HR0.out x5_1 p25001 q25001
      cases e25001
      replace p25001:=eq_true p25001
      replace q25001:=eq_true q25001
      go_wp2
      go_roundg k1
      case measure=>have:=HK1.out;omega
      case rel=>exact⟨(wrap64 (x1_1+1)),(wrap64 (x5_1+1)),(by first|rfl|(simp;done)|(simp[*];done)),(by first|rfl|(simp;done)|(simp[*];done)),H',⟨by have:=HK1.out;omega⟩,by repeat(first|exact Zs.refl _|apply Zs.step)⟩
     ·rw[if_neg c5] at H
      have c5b0:((rd l0 x5_1) == x1_1)=false:=beq_eq_false_iff_ne.mpr c5
      have c5b1:((rd l0 x5_1) != x1_1)=true:=bne_iff_ne.mpr c5
      obtain rfl:=Option.some.inj H
      have p25001:0≤(x5_1:Int):=Zb (by first|(with_reducible assumption)|assumption)
      have q25001:x5_1<(l0.length:Int):=Zb (by first|(with_reducible assumption)|assumption)
      obtain⟨ad25001,e25001,hx25001_0⟩:=Kd.at_int HR0.out x5_1 p25001 q25001
      cases e25001
      replace p25001:=eq_true p25001
      replace q25001:=eq_true q25001
      go_wp2
      go_ret
      exact⟨by first|rfl|(simp;done)|(simp[*];done),by repeat(first|exact Zs.refl _|apply Zs.step)⟩
    ·rw[if_neg c4] at H
     exact absurd H (by simp)
   ·rw[if_neg c3] at H
    have c3b0:decide (x5_1<(l0.length:Int))=false:=decide_eq_false c3
    clear c3
    obtain rfl:=Option.some.inj H
    go_wp2
    go_ret
    exact⟨by first|rfl|(simp;done)|(simp[*];done),by repeat(first|exact Zs.refl _|apply Zs.step)⟩
end Go.Proofs.Ytammpmadchekeaa.Pr
namespace Go.Proofs.Ytammpmadchekeaa.Pr
open Go.RowKit Go.Proofs.YtammpmadchekeaaW.PrintWords Go.Proofs.Ytammpmadchekeaa.Ni
theorem ZaS (l:List Int) (q:Int) (hl:l.length≤1048576) (k:Nat) (hk:2 ^ 64≤k):Zm.f k l q=some (l.filter fun x=>!litB q x):=by
 have key:=Zal l.length (fun k i=>∀acc:List Int,acc.length≤i→Zm.l0 k q acc l (l.length:Int) (i:Int)=some (acc ++ (l.drop i).filter fun x=>!litB q x)) 0
  (fun k _ acc _=>by
   simp only[Zm.l0]
   rw[if_neg (by omega),List.drop_length,List.filter_nil,List.append_nil])
  (fun k i _ hi ih acc ha=>by
   simp only[Zm.l0]
   rw[if_pos (by omega),if_pos (by omega),if_pos (by omega),Z9 hi (by omega),ZW hi 0,List.filter_cons,Zai]
   generalize l.getD i 0=x
   unfold litB
   by_cases h1:x=q
   ·rw[if_pos h1,ih acc (by omega),decide_eq_true h1];rfl
   ·rw[if_neg h1,decide_eq_false h1,Bool.false_or]
    by_cases h2:x=wrap64 (-q)
    ·rw[if_pos h2,ih acc (by omega),decide_eq_true h2];rfl
    ·rw[if_neg h2,if_pos (by omega),ih _ (by simp;omega),decide_eq_false h2,Bool.not_false,if_pos rfl,List.append_assoc];rfl) 0 k (Nat.zero_le _) (by omega)
 unfold Zm.f
 simpa using key [] (by simp)
theorem toIntS_f (l:List Int) (hl:l.length≤35184372088832) (k:Nat) (hk:2 ^ 64≤k):Zk.f k l=some l:=by
 have key:=Zal l.length (fun k i=>Zk.l0 k l (l.take i ++ List.replicate (l.length - i) 0) (i:Int)=some l) 0
  (fun k _=>by simp[Zk.l0])
  (fun k i _ hi ih=>by
   simp only[Zk.l0]
   rw[if_pos (by omega),if_pos (by omega),if_pos (by simp;omega),Z9 hi (by omega),Int.toNat_natCast,set_step l 0 0 i hi _ (Zai l i)]
   exact ih) 0 k (Nat.zero_le _) (by omega)
 unfold Zk.f
 rw[if_pos (by omega),if_pos (by omega),Int.toNat_natCast]
 simpa using key
theorem eqIntS_f (l m:List Int) (hl:l.length≤9223372036854775807) (k:Nat) (hk:2 ^ 64≤k):Zi.f k l m=some (decide (l=m)):=by
 unfold Zi.f
 by_cases e:l.length=m.length
 ·rw[if_pos (by omega)]
  have key:=Zal l.length (fun k i=>Zi.l0 k l m (i:Int)=some (decide (l.drop i=m.drop i))) 0
   (fun k _=>by
    simp only[Zi.l0]
    rw[if_neg (by omega),List.drop_of_length_le (Nat.le_refl _),List.drop_of_length_le (by omega)]
    simp)
   (fun k i _ hi ih=>by
    simp only[Zi.l0]
    rw[if_pos (by omega),if_pos (by omega),if_pos (by omega),Zai,Zai,Z9 hi (by omega),ZW hi 0,ZW (show i<m.length by omega) 0]
    by_cases h:l.getD i 0=m.getD i 0
    ·rw[if_pos h,ih,h];simp
    ·rw[if_neg h]
     simp only[List.cons.injEq,h,false_and,decide_false]) 0 k (Nat.zero_le _) (by omega)
  simpa using key
 ·rw[if_neg (by omega)]
  have:l≠m:=fun h=>e (by rw[h])
  simp[this]
theorem eqIntS_refl (l:List Int) (hl:l.length≤9223372036854775807) (k:Nat) (hk:2 ^ 64≤k):Zi.f k l l=some true:=by
 rw[eqIntS_f l l hl k hk];simp
def ZL (a:Int):Nat→List Int
 | 0=>[]
 | n+1=>a :: ZL (a+1) n
theorem ZE:∀(n:Nat) (a:Int),(ZL a n).length=n
 | 0,_=>rfl
 | n+1,a=>by rw[ZL,List.length_cons,ZE n]
theorem Zao:∀(n i:Nat) (a:Int),i<n→(ZL a n).getD i 0=a+i
 | n+1,0,a,_=>by simp[ZL]
 | n+1,i+1,a,h=>by
  rw[ZL,List.getD_cons_succ,Zao n i (a+1) (by omega)];omega
theorem marks_split:∀(n i:Nat) (a:Int),i<n→(ZL a n).drop i=(a+i) :: (ZL a n).drop (i+1):=by
 intro n i a h
 rw[ZW (by rw[ZE];exact h) 0,Zao n i a h]
theorem ZaI (l:List Int) (hl:l.length≤1048576) (a:Int) (h0:0≤a) (h1:a≤1152921504606846976) (k:Nat) (hk:2 ^ 64≤k):Zn.f k l a=some (a+l.length,ZL a l.length):=by
 have key:=Zal l.length (fun k i=>Zn.l0 k ((ZL a l.length).take i ++ l.drop i) (a+i) (i:Int)=some (a+l.length,ZL a l.length)) 0
  (fun k _=>by
   simp only[Zn.l0]
   rw[if_neg (by simp[ZE]),List.drop_length,List.append_nil,List.take_of_length_le (by rw[ZE];exact Nat.le_refl _)])
  (fun k i _ hi ih=>by
   simp only[Zn.l0]
   rw[if_pos (by simp[ZE];omega),if_pos (by omega),Z9 hi (by omega),wrap_id (i:=a+i+1) (by omega) (by omega),Int.toNat_natCast]
   have e:((ZL a l.length).take i ++ l.drop i).set i (a+i)=(ZL a l.length).take (i+1) ++ l.drop (i+1):=by
    have hlen:((ZL a l.length).take i).length=i:=by rw[Ze,ZE];omega
    rw[List.set_append_right _ _ (by omega),hlen,Nat.sub_self,ZW hi 0,List.set_cons_zero,List.take_succ_eq_append_getElem (by rw[ZE];exact hi),List.append_assoc]
    congr 1
    have:=Zao l.length i a hi
    rw[List.getD_eq_getElem?_getD,Zg (by rw[ZE];exact hi)] at this
    simp only[Option.getD_some] at this
    rw[this];rfl
   rw[e,show a+(i:Int)+1=a+((i+1:Nat):Int) by omega]
   exact ih) 0 k (Nat.zero_le _) (by omega)
 unfold Zn.f
 simpa using key
theorem heldIntS_f (n:Nat) (hl:n≤1048576) (a:Int) (h0:0≤a) (h1:a≤1152921504606846976) (k:Nat) (hk:2 ^ 64≤k):Zo.f k (ZL a n) a=some (a+n):=by
 have key:=Zal n (fun k i=>Zo.l0 k (ZL a n) (a+i) (i:Int)=some (a+n)) 0
  (fun k _=>by
   simp only[Zo.l0]
   rw[if_neg (by rw[ZE];omega)])
  (fun k i _ hi ih=>by
   simp only[Zo.l0]
   rw[if_pos (by rw[ZE];omega),if_pos (by omega),Zai,Zao n i a hi,if_pos rfl,Z9 hi (by omega),wrap_id (i:=a+i+1) (by omega) (by omega),show a+(i:Int)+1=a+((i+1:Nat):Int) by omega]
   exact ih) 0 k (Nat.zero_le _) (by omega)
 unfold Zo.f
 simpa using key
end Go.Proofs.Ytammpmadchekeaa.Pr
