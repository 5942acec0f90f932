/- The texts of one claim, put together by a program of this session. -/
import Derived.Test.YtammpmadchekeaaProg
import Derived.Below
import Derived.Deep.Draws
import Derived.Deep.AppendLies
import Derived.Maps.AppendAt
import Derived.OwnWalk
import Derived.Laws.BytesArg
import Derived.Laws.MakeOwn
import Derived.Laws.OwnMore
import Derived.Deep.OwnRows
import Derived.Tactics
import Derived.Lib.ConvBytes
import Derived.Laws.Slices
import Derived.WalkKit
import Derived.KernelRfl
import Derived.RowKit3
import Derived.Deep.LoopGhost
import Derived.Deep.QuietTactic
import Derived.BigQuiet
import Derived.WideLaws
import Derived.Deep.DeepCutAuto
import Derived.Deep.CutBlock
import Derived.Deep.RegionHeld3
import Derived.Laws.Rows
import Derived.Lib.AppendStr
import Derived.ArgAppend
import Derived.Laws.IdiomCopy
import Derived.OrdersHeld
import Derived.Laws.BitsLemmas
import Derived.RowKit
import Derived.ChangeArms
import Derived.ChangeSlices
import Derived.WideShapes
import Derived.Deep.Slices
import Derived.Test.YtammpmadchekeaaBSs0
namespace Go.Proofs.Ytammpmadchekeaa.Pr
open Go.RowKit Go.Proofs.YtammpmadchekeaaW.PrintWords Go.Proofs.YtammpmadchekeaaW.PrintLast Go.Proofs.YtammpmadchekeaaW.PrintMore
attribute [local go_sem] Zac Zaa Zah Zag Z2 Z1 Zab Z9
set_option linter.unusedVariables false
set_option linter.unusedSimpArgs false
def errW:Option Int→Value
 | none=>.nilIface
 | some c=>.iface 0 (.int .i64 c)
theorem ZC:errW none=.nilIface:=rfl
theorem ZB (c:Int):errW (some c)=.iface 0 (.int .i64 c):=rfl
theorem info3:(Try.prog.info? 3).map (fun i=>(i.zero,i.size,i.bytes))=some (some (.int .i64 0),1,8):=by kernel_rfl
theorem info42:(Try.prog.info? 42).map (fun i=>(i.zero,i.size,i.bytes))=some (some (.agg #[(.string ⟨#[]⟩),(.slice none 0 0),(.int .i64 0)]),3,48):=by kernel_rfl
theorem info77:(Try.prog.info? 77).map (fun i=>(i.zero,i.size,i.bytes))=some (some (.agg #[(.int .i64 0),(.int .i64 0),(.int .i64 0),(.int .i64 0),(.bool false)]),5,40):=by kernel_rfl
def rd_L2 (xs:List (List Int)) (i:Int):(List Int):=xs.getD i.toNat ([]:List Int)
structure S39 where
 f0:ByteArray
 f1:(List Int)
 f2:Int
def z39:S39:=⟨(⟨#[]⟩:ByteArray),([]:List Int),(0:Int)⟩
def k39:Kd S39:=Kd.iso (Kd.pair Kd.string (Kd.pair (Kd.slice 3 (Kd.int .i64)) (Kd.int .i64))) (fun x:S39=>(x.f0,x.f1,x.f2))
theorem k39_open {w:World} {x:S39} {cs:List Value} (h:k39.K w x cs):∃A1 c1,cs=[.string x.f0,.slice A1 x.f1.length c1,.int .i64 x.f2]∧x.f1.length≤c1∧(Kd.int .i64).C w A1 x.f1.length x.f1:=by
 obtain⟨_,_,rfl,rfl,⟨_,_,rfl,⟨A1,c1,rfl,l1,g1⟩,rfl⟩⟩:=h
 exact⟨A1,c1,rfl,l1,g1⟩
def ZJ (xs:List S39) (i:Int):S39:=xs.getD i.toNat z39
theorem at_T39 {w:World} {A:Option Addr} {n:Nat} {xs:List S39} (h:Kd.C k39 w A n xs) (i:Int) (h0:0≤i) (h1:i<n):∃ad A1 c1,A=some ad∧w.cell? (ad.add (i.toNat * 3))=some (.string (ZJ xs i).f0)∧w.cell? ⟨(ad.add (i.toNat * 3)).block,(ad.add (i.toNat * 3)).off+1,none⟩=some (.slice A1 (ZJ xs i).f1.length c1)∧w.cell? ⟨(ad.add (i.toNat * 3)).block,(ad.add (i.toNat * 3)).off+2,none⟩=some (.int .i64 (ZJ xs i).f2)∧(ZJ xs i).f1.length≤c1∧(Kd.int .i64).C w A1 (ZJ xs i).f1.length (ZJ xs i).f1:=by
 obtain⟨ad,c,e,_,hK,hc0⟩:=Kd.C_get h z39 i h0 h1
 have hc:∀j u,c[j]? = some u→w.cell? (ad.add (i.toNat * 3+j))=some u:=hc0
 obtain⟨A1,c1,rfl,l1,g1⟩:=k39_open hK
 exact⟨ad,A1,c1,e,hc 0 _ rfl,by rw[← Z7 _ _ 1 (by omega)];exact hc 1 _ rfl,by rw[← Z7 _ _ 2 (by omega)];exact hc 2 _ rfl,l1,g1⟩
structure S84 where
 f0:Int
 f1:Int
 f2:Int
 f3:Int
 f4:Bool
def z84:S84:=⟨(0:Int),(0:Int),(0:Int),(0:Int),false⟩
def k84:Kd S84:=Kd.iso (Kd.pair (Kd.int .i64) (Kd.pair (Kd.int .i64) (Kd.pair (Kd.int .i64) (Kd.pair (Kd.int .i64) Kd.bool)))) (fun x:S84=>(x.f0,x.f1,x.f2,x.f3,x.f4))
theorem k84_open {w:World} {x:S84} {cs:List Value} (h:k84.K w x cs):cs=[.int .i64 x.f0,.int .i64 x.f1,.int .i64 x.f2,.int .i64 x.f3,.bool x.f4]:=by
 obtain⟨_,_,rfl,rfl,⟨_,_,rfl,rfl,⟨_,_,rfl,rfl,⟨_,_,rfl,rfl,rfl⟩⟩⟩⟩:=h
 exact rfl
def ZZ (xs:List S84) (i:Int):S84:=xs.getD i.toNat z84
theorem at_T84 {w:World} {A:Option Addr} {n:Nat} {xs:List S84} (h:Kd.C k84 w A n xs) (i:Int) (h0:0≤i) (h1:i<n):∃ad ,A=some ad∧w.cell? (ad.add (i.toNat * 5))=some (.int .i64 (ZZ xs i).f0)∧w.cell? ⟨(ad.add (i.toNat * 5)).block,(ad.add (i.toNat * 5)).off+1,none⟩=some (.int .i64 (ZZ xs i).f1)∧w.cell? ⟨(ad.add (i.toNat * 5)).block,(ad.add (i.toNat * 5)).off+2,none⟩=some (.int .i64 (ZZ xs i).f2)∧w.cell? ⟨(ad.add (i.toNat * 5)).block,(ad.add (i.toNat * 5)).off+3,none⟩=some (.int .i64 (ZZ xs i).f3)∧w.cell? ⟨(ad.add (i.toNat * 5)).block,(ad.add (i.toNat * 5)).off+4,none⟩=some (.bool (ZZ xs i).f4):=by
 obtain⟨ad,c,e,_,hK,hc0⟩:=Kd.C_get h z84 i h0 h1
 have hc:∀j u,c[j]? = some u→w.cell? (ad.add (i.toNat * 5+j))=some u:=hc0
 obtain rfl:=k84_open hK
 exact⟨ad,e,hc 0 _ rfl,by rw[← Z7 _ _ 1 (by omega)];exact hc 1 _ rfl,by rw[← Z7 _ _ 2 (by omega)];exact hc 2 _ rfl,by rw[← Z7 _ _ 3 (by omega)];exact hc 3 _ rfl,by rw[← Z7 _ _ 4 (by omega)];exact hc 4 _ rfl⟩
structure S42 where
 f0:ByteArray
 f1:(List Int)
 f2:Int
def z42:S42:=⟨(⟨#[]⟩:ByteArray),([]:List Int),(0:Int)⟩
def k42:Kd S42:=Kd.iso (Kd.pair Kd.string (Kd.pair (Kd.slice 3 (Kd.int .i64)) (Kd.int .i64))) (fun x:S42=>(x.f0,x.f1,x.f2))
theorem k42_open {w:World} {x:S42} {cs:List Value} (h:k42.K w x cs):∃A1 c1,cs=[.string x.f0,.slice A1 x.f1.length c1,.int .i64 x.f2]∧x.f1.length≤c1∧(Kd.int .i64).C w A1 x.f1.length x.f1:=by
 obtain⟨_,_,rfl,rfl,⟨_,_,rfl,⟨A1,c1,rfl,l1,g1⟩,rfl⟩⟩:=h
 exact⟨A1,c1,rfl,l1,g1⟩
theorem k42_openM {w:World} {base:Nat} {ok:Nat→Prop} {x:S42} {cs:List Value} (h:k42.M w base ok x cs):∃v1,cs=[.string x.f0,v1,.int .i64 x.f2]∧(Kd.int .i64).R 3 w base ok v1 x.f1:=by
 obtain⟨_,_,rfl,rfl,⟨_,_,rfl,⟨v1,rfl,g1⟩,rfl⟩⟩:=h
 exact⟨v1,rfl,g1⟩
theorem k42_mkM (w:World) (base:Nat) (ok:Nat→Prop) (x:S42) {v1:Value} (g1:(Kd.int .i64).R 3 w base ok v1 x.f1):k42.M w base ok x [.string x.f0,v1,.int .i64 x.f2]:=⟨[.string x.f0],[v1,.int .i64 x.f2],rfl,rfl,⟨[v1],[.int .i64 x.f2],rfl,⟨v1,rfl,g1⟩,rfl⟩⟩
def Z5 (xs:List S42) (i:Int):S42:=xs.getD i.toNat z42
theorem ZaU {w:World} {A:Option Addr} {n:Nat} {xs:List S42} (h:Kd.C k42 w A n xs) (i:Int) (h0:0≤i) (h1:i<n):∃ad A1 c1,A=some ad∧w.cell? (ad.add (i.toNat * 3))=some (.string (Z5 xs i).f0)∧w.cell? ⟨(ad.add (i.toNat * 3)).block,(ad.add (i.toNat * 3)).off+1,none⟩=some (.slice A1 (Z5 xs i).f1.length c1)∧w.cell? ⟨(ad.add (i.toNat * 3)).block,(ad.add (i.toNat * 3)).off+2,none⟩=some (.int .i64 (Z5 xs i).f2)∧(Z5 xs i).f1.length≤c1∧(Kd.int .i64).C w A1 (Z5 xs i).f1.length (Z5 xs i).f1:=by
 obtain⟨ad,c,e,_,hK,hc0⟩:=Kd.C_get h z42 i h0 h1
 have hc:∀j u,c[j]? = some u→w.cell? (ad.add (i.toNat * 3+j))=some u:=hc0
 obtain⟨A1,c1,rfl,l1,g1⟩:=k42_open hK
 exact⟨ad,A1,c1,e,hc 0 _ rfl,by rw[← Z7 _ _ 1 (by omega)];exact hc 1 _ rfl,by rw[← Z7 _ _ 2 (by omega)];exact hc 2 _ rfl,l1,g1⟩
structure S77 where
 f0:Int
 f1:Int
 f2:Int
 f3:Int
 f4:Bool
def z77:S77:=⟨(0:Int),(0:Int),(0:Int),(0:Int),false⟩
def k77:Kd S77:=Kd.iso (Kd.pair (Kd.int .i64) (Kd.pair (Kd.int .i64) (Kd.pair (Kd.int .i64) (Kd.pair (Kd.int .i64) Kd.bool)))) (fun x:S77=>(x.f0,x.f1,x.f2,x.f3,x.f4))
theorem k77_open {w:World} {x:S77} {cs:List Value} (h:k77.K w x cs):cs=[.int .i64 x.f0,.int .i64 x.f1,.int .i64 x.f2,.int .i64 x.f3,.bool x.f4]:=by
 obtain⟨_,_,rfl,rfl,⟨_,_,rfl,rfl,⟨_,_,rfl,rfl,⟨_,_,rfl,rfl,rfl⟩⟩⟩⟩:=h
 exact rfl
theorem k77_openM {w:World} {base:Nat} {ok:Nat→Prop} {x:S77} {cs:List Value} (h:k77.M w base ok x cs):cs=[.int .i64 x.f0,.int .i64 x.f1,.int .i64 x.f2,.int .i64 x.f3,.bool x.f4]:=by
 obtain⟨_,_,rfl,rfl,⟨_,_,rfl,rfl,⟨_,_,rfl,rfl,⟨_,_,rfl,rfl,rfl⟩⟩⟩⟩:=h
 exact rfl
theorem k77_mkM (w:World) (base:Nat) (ok:Nat→Prop) (x:S77)  : k77.M w base ok x [.int .i64 x.f0,.int .i64 x.f1,.int .i64 x.f2,.int .i64 x.f3,.bool x.f4]:=⟨[.int .i64 x.f0],[.int .i64 x.f1,.int .i64 x.f2,.int .i64 x.f3,.bool x.f4],rfl,rfl,⟨[.int .i64 x.f1],[.int .i64 x.f2,.int .i64 x.f3,.bool x.f4],rfl,rfl,⟨[.int .i64 x.f2],[.int .i64 x.f3,.bool x.f4],rfl,rfl,⟨[.int .i64 x.f3],[.bool x.f4],rfl,rfl,rfl⟩⟩⟩⟩
def ZA (xs:List S77) (i:Int):S77:=xs.getD i.toNat z77
theorem ZaB {w:World} {A:Option Addr} {n:Nat} {xs:List S77} (h:Kd.C k77 w A n xs) (i:Int) (h0:0≤i) (h1:i<n):∃ad ,A=some ad∧w.cell? (ad.add (i.toNat * 5))=some (.int .i64 (ZA xs i).f0)∧w.cell? ⟨(ad.add (i.toNat * 5)).block,(ad.add (i.toNat * 5)).off+1,none⟩=some (.int .i64 (ZA xs i).f1)∧w.cell? ⟨(ad.add (i.toNat * 5)).block,(ad.add (i.toNat * 5)).off+2,none⟩=some (.int .i64 (ZA xs i).f2)∧w.cell? ⟨(ad.add (i.toNat * 5)).block,(ad.add (i.toNat * 5)).off+3,none⟩=some (.int .i64 (ZA xs i).f3)∧w.cell? ⟨(ad.add (i.toNat * 5)).block,(ad.add (i.toNat * 5)).off+4,none⟩=some (.bool (ZA xs i).f4):=by
 obtain⟨ad,c,e,_,hK,hc0⟩:=Kd.C_get h z77 i h0 h1
 have hc:∀j u,c[j]? = some u→w.cell? (ad.add (i.toNat * 5+j))=some u:=hc0
 obtain rfl:=k77_open hK
 exact⟨ad,e,hc 0 _ rfl,by rw[← Z7 _ _ 1 (by omega)];exact hc 1 _ rfl,by rw[← Z7 _ _ 2 (by omega)];exact hc 2 _ rfl,by rw[← Z7 _ _ 3 (by omega)];exact hc 3 _ rfl,by rw[← Z7 _ _ 4 (by omega)];exact hc 4 _ rfl⟩
def rd_L8 (xs:List (List S42)) (i:Int):(List S42):=xs.getD i.toNat ([]:List S42)
def rd_L9 (xs:List (List S77)) (i:Int):(List S77):=xs.getD i.toNat ([]:List S77)
structure S55 where
 f0:(List S42)
 f1:(List S77)
 f2:Int
def z55:S55:=⟨([]:List S42),([]:List S77),(0:Int)⟩
def k55:Kd S55:=Kd.iso (Kd.pair (Kd.slice 42 k42) (Kd.pair (Kd.slice 77 k77) (Kd.int .i64))) (fun x:S55=>(x.f0,x.f1,x.f2))
def rd_T55 (xs:List S55) (i:Int):S55:=xs.getD i.toNat z55
structure S31 where
 f0:Int
 f1:(List Int)
 f2:(List Int)
def z31:S31:=⟨(0:Int),([]:List Int),([]:List Int)⟩
def k31:Kd S31:=Kd.iso (Kd.pair (Kd.int .i64) (Kd.pair (Kd.slice 3 (Kd.int .i64)) (Kd.slice 3 (Kd.int .i64)))) (fun x:S31=>(x.f0,x.f1,x.f2))
theorem k31_open {w:World} {x:S31} {cs:List Value} (h:k31.K w x cs):∃A1 c1 A2 c2,cs=[.int .i64 x.f0,.slice A1 x.f1.length c1,.slice A2 x.f2.length c2]∧x.f1.length≤c1∧(Kd.int .i64).C w A1 x.f1.length x.f1∧x.f2.length≤c2∧(Kd.int .i64).C w A2 x.f2.length x.f2:=by
 obtain⟨_,_,rfl,rfl,⟨_,_,rfl,⟨A1,c1,rfl,l1,g1⟩,⟨A2,c2,rfl,l2,g2⟩⟩⟩:=h
 exact⟨A1,c1,A2,c2,rfl,l1,g1,l2,g2⟩
def rd_T31 (xs:List S31) (i:Int):S31:=xs.getD i.toNat z31
def rd_L12 (xs:List (List S39)) (i:Int):(List S39):=xs.getD i.toNat ([]:List S39)
def rd_L13 (xs:List (List S84)) (i:Int):(List S84):=xs.getD i.toNat ([]:List S84)
structure S49 where
 f0:(List S39)
 f1:(List S84)
 f2:Int
def z49:S49:=⟨([]:List S39),([]:List S84),(0:Int)⟩
def k49:Kd S49:=Kd.iso (Kd.pair (Kd.slice 39 k39) (Kd.pair (Kd.slice 84 k84) (Kd.int .i64))) (fun x:S49=>(x.f0,x.f1,x.f2))
theorem k49_open {w:World} {x:S49} {cs:List Value} (h:k49.K w x cs):∃A0 c0 A1 c1,cs=[.slice A0 x.f0.length c0,.slice A1 x.f1.length c1,.int .i64 x.f2]∧x.f0.length≤c0∧k39.C w A0 x.f0.length x.f0∧x.f1.length≤c1∧k84.C w A1 x.f1.length x.f1:=by
 obtain⟨_,_,rfl,⟨A0,c0,rfl,l0,g0⟩,⟨_,_,rfl,⟨A1,c1,rfl,l1,g1⟩,rfl⟩⟩:=h
 exact⟨A0,c0,A1,c1,rfl,l0,g0,l1,g1⟩
def rd_T49 (xs:List S49) (i:Int):S49:=xs.getD i.toNat z49
end Go.Proofs.Ytammpmadchekeaa.Pr
namespace Go.Proofs.Ytammpmadchekeaa.Op
open Go.RowKit Go.ChangeShapes Go.WideShapes Go.Proofs.YtammpmadchekeaaW.PrintWords
structure ZT {α:Type} (P:Program) (d:Kd α) (t:TypeId) (ok:α→Prop):Prop where
 cells:P.cellsOf t=d.sz
 op:∀{H:Type} {enc:TypeId×Value→H} {w:World} {base fuel:Nat} {cs:List Value} {x:DataW H×List MemPlace},DataW.trod enc P w base (fun _=>true) true fuel t cs=some x→∃y,d.K w y cs∧ok y
theorem ZT.int {P:Program} {t:TypeId} {k:IntKind} (ht:P.underlying t=some (.int k)) (hc:P.cellsOf t=1):ZT P (Kd.int k) t (fun n=>(Lit.int k n).wf=true):=
 ⟨hc,fun h=>by
  obtain⟨n,rfl,_,hw⟩:=DataW.trod_int ht h
  exact⟨n,rfl,hw⟩⟩
theorem ZT.bool {P:Program} {t:TypeId} (ht:P.underlying t=some .bool) (hc:P.cellsOf t=1):ZT P Kd.bool t (fun _=>True):=
 ⟨hc,fun h=>by
  obtain⟨n,rfl,_⟩:=DataW.trod_bool ht h
  exact⟨n,rfl,trivial⟩⟩
theorem ZT.string {P:Program} {t:TypeId} (ht:P.underlying t=some .string) (hc:P.cellsOf t=1):ZT P Kd.string t (fun s=>s.size≤maxLen):=
 ⟨hc,fun h=>by
  obtain⟨n,rfl,_,hw⟩:=DataW.trod_string ht h
  exact⟨n,rfl,hw⟩⟩
theorem choose_list {β:Type} (Q:Nat→β→Prop) (n:Nat) (h:∀i,i<n→∃y,Q i y):∃l:List β,l.length=n∧∀i y,l[i]? = some y→Q i y:=by
 induction n with
 | zero=>exact⟨[],rfl,fun i y h=>by simp at h⟩
 | succ n ih=>
  obtain⟨l,hl,hq⟩:=ih (fun i hi=>h i (by omega))
  obtain⟨y,hy⟩:=h n (by omega)
  refine⟨l ++ [y],by simp[hl],fun i z hz=>?_⟩
  rcases Nat.lt_or_ge i l.length with hi|hi
  ·rw[List.getElem?_append_left hi] at hz
   exact hq i z hz
  ·have hlt:=(List.getElem?_eq_some_iff.1 hz).1
   rw[List.length_append,List.length_singleton] at hlt
   have e:i=l.length:=by omega
   subst e
   have hz':y=z:=by simpa using hz
   subst hz'
   rw[hl]
   exact hy
theorem ZT.slice {α:Type} {P:Program} {d:Kd α} {t e:TypeId} {ok:α→Prop} (he:ZT P d e ok) (ht:P.underlying t=some (.slice e)) (hc:P.cellsOf t=1) :
  ZT P (Kd.slice e d) t (fun l=>l.length≤maxLen∧∀x∈l,ok x):=
 ⟨hc,fun {H enc w base fuel cs x} h=>by
  rcases DataW.trod_slice ht h with ⟨rfl,_⟩|⟨a,len,cap,elems,rest,n,_,rfl,_,hb,hl,hm,hlen,hel,_,_⟩
  ·exact⟨[],⟨none,0,rfl,Nat.le_refl _,rfl,by simp,fun h0=>absurd h0 (by simp)⟩,by simp⟩
  ·have key:∀i,i<len→∃y,ok y∧∃c,c.length=d.sz∧d.K w y c∧∀j u,c[j]? = some u→w.cell? (a.add (i * d.sz+j))=some u:=by
    intro i hi
    have hi':=hel i hi
    rw[Zk (by omega),Option.bind_eq_some_iff] at hi'
    obtain⟨cs',h1,h2⟩:=hi'
    obtain⟨y,hk,hy⟩:=he.op h2
    refine⟨y,hy,cs',d.K_len hk,hk,fun j u hu=>?_⟩
    have:=(World.cells?_some h1).2.2 j (by
     have:=(List.getElem?_eq_some_iff.1 hu).1
     rw[d.K_len hk] at this
     rw[he.cells];exact this)
    rw[he.cells] at this
    rw[Addr.add_add] at this
    rw[this,hu]
   obtain⟨l,hll,hq⟩:=choose_list _ len key
   refine⟨l,⟨some a,cap,by rw[hll],by omega,rfl,by rw[hll];simp only[maxLen] at hm;omega,fun h0=>⟨a,rfl,fun j p hj=>?_⟩⟩,by omega,fun x hx=>?_⟩
   ·obtain⟨_,hc'⟩:=hq j p hj
    exact hc'
   ·obtain⟨i,hi⟩:=List.getElem?_of_mem hx
    exact(hq i x hi).1⟩
theorem Zap {α β:Type} {a:Kd α} {b:Kd β} {w:World} {x:α} {y:β} {cs:List Value} {off:Nat} (h0:a.K w x ((cs.drop off).take a.sz)) (h1:b.K w y ((cs.drop (off+a.sz)).take b.sz)) :
  (Kd.pair a b).K w (x,y) ((cs.drop off).take (Kd.pair a b).sz):=
 ⟨_,_,by show(cs.drop off).take (a.sz+b.sz)=_;rw[List.take_add,List.drop_drop],h0,h1⟩
theorem ZT.fieldAt {α:Type} {P:Program} {d:Kd α} {t:TypeId} {ok:α→Prop} (ho:ZT P d t ok) {H:Type} {enc:TypeId×Value→H} {w:World} {base fuel off:Nat} {cs:List Value} {x:Option (DataW H×List MemPlace)}
  (h:DataW.trod enc P w base (fun _=>true) true fuel t ((cs.drop off).take (P.cellsOf t))=x) (hx:x.isSome=true):∃y,d.K w y ((cs.drop off).take d.sz)∧ok y:=by
 obtain⟨z,rfl⟩:=Option.isSome_iff_exists.1 hx
 obtain⟨y,hk,hy⟩:=ho.op h
 rw[ho.cells] at hk
 exact⟨y,hk,hy⟩
end Go.Proofs.Ytammpmadchekeaa.Op
namespace Go.Proofs.Ytammpmadchekeaa.Pr
open Go.RowKit Go.Proofs.YtammpmadchekeaaW.PrintWords Go.Proofs.YtammpmadchekeaaW.PrintLast Go.Proofs.YtammpmadchekeaaW.PrintMore
attribute [local go_sem] Zac Zaa Zah Zag Z2 Z1 Zab Z9
set_option linter.unusedVariables false
set_option linter.unusedSimpArgs false
open Go.Proofs.Ytammpmadchekeaa.Op Go.ChangeShapes Go.WideShapes
def okS31 (x:S31):Prop:=(fun n_:Int=>(Lit.int .i64 n_).wf=true) x.f0∧(fun l_:List Int=>l_.length≤maxLen∧∀x_∈l_,(fun n_:Int=>(Lit.int .i64 n_).wf=true) x_) x.f1∧(fun l_:List Int=>l_.length≤maxLen∧∀x_∈l_,(fun n_:Int=>(Lit.int .i64 n_).wf=true) x_) x.f2
theorem op_k31:ZT Try.prog k31 31 okS31:=
 ⟨by kernel_rfl,fun {H enc w base fuel cs x} h=>by
  obtain⟨xs,n,_,_,hl,hlen,hf⟩:=DataW.trod_struct Try.underlying31 h
  have hl':cs.length=3:=hl.trans (by kernel_rfl)
  have hlen':xs.length=3:=hlen
  obtain⟨y0,h0,o0⟩:=(ZT.int Try.underlying3 (by kernel_rfl)).fieldAt (hf 0 _ rfl) (by rw[Zk (by omega)];rfl)
  obtain⟨y1,h1,o1⟩:=(ZT.slice (ZT.int Try.underlying3 (by kernel_rfl)) Try.underlying22 (by kernel_rfl)).fieldAt (hf 1 _ rfl) (by rw[Zk (by omega)];rfl)
  obtain⟨y2,h2,o2⟩:=(ZT.slice (ZT.int Try.underlying3 (by kernel_rfl)) Try.underlying22 (by kernel_rfl)).fieldAt (hf 2 _ rfl) (by rw[Zk (by omega)];rfl)
  have hk:k31.K w ⟨y0,y1,y2⟩ ((cs.drop 0).take k31.sz):=(Zap (off:=0) h0 (Zap (off:=1) h1 h2))
  have hcs:(cs.drop 0).take k31.sz=cs:=by rw[List.drop_zero];exact List.take_of_length_le (by rw[hl'];exact Nat.le_refl _)
  rw[hcs] at hk
  exact⟨_,hk,o0,o1,o2⟩⟩
def okS39 (x:S39):Prop:=(fun s_:ByteArray=>s_.size≤maxLen) x.f0∧(fun l_:List Int=>l_.length≤maxLen∧∀x_∈l_,(fun n_:Int=>(Lit.int .i64 n_).wf=true) x_) x.f1∧(fun n_:Int=>(Lit.int .i64 n_).wf=true) x.f2
theorem op_k39:ZT Try.prog k39 39 okS39:=
 ⟨by kernel_rfl,fun {H enc w base fuel cs x} h=>by
  obtain⟨xs,n,_,_,hl,hlen,hf⟩:=DataW.trod_struct Try.underlying39 h
  have hl':cs.length=3:=hl.trans (by kernel_rfl)
  have hlen':xs.length=3:=hlen
  obtain⟨y0,h0,o0⟩:=(ZT.string Try.underlying9 (by kernel_rfl)).fieldAt (hf 0 _ rfl) (by rw[Zk (by omega)];rfl)
  obtain⟨y1,h1,o1⟩:=(ZT.slice (ZT.int Try.underlying3 (by kernel_rfl)) Try.underlying22 (by kernel_rfl)).fieldAt (hf 1 _ rfl) (by rw[Zk (by omega)];rfl)
  obtain⟨y2,h2,o2⟩:=(ZT.int Try.underlying3 (by kernel_rfl)).fieldAt (hf 2 _ rfl) (by rw[Zk (by omega)];rfl)
  have hk:k39.K w ⟨y0,y1,y2⟩ ((cs.drop 0).take k39.sz):=(Zap (off:=0) h0 (Zap (off:=1) h1 h2))
  have hcs:(cs.drop 0).take k39.sz=cs:=by rw[List.drop_zero];exact List.take_of_length_le (by rw[hl'];exact Nat.le_refl _)
  rw[hcs] at hk
  exact⟨_,hk,o0,o1,o2⟩⟩
def okS84 (x:S84):Prop:=(fun n_:Int=>(Lit.int .i64 n_).wf=true) x.f0∧(fun n_:Int=>(Lit.int .i64 n_).wf=true) x.f1∧(fun n_:Int=>(Lit.int .i64 n_).wf=true) x.f2∧(fun n_:Int=>(Lit.int .i64 n_).wf=true) x.f3∧(fun _:Bool=>True) x.f4
theorem op_k84:ZT Try.prog k84 84 okS84:=
 ⟨by kernel_rfl,fun {H enc w base fuel cs x} h=>by
  obtain⟨xs,n,_,_,hl,hlen,hf⟩:=DataW.trod_struct Try.underlying84 h
  have hl':cs.length=5:=hl.trans (by kernel_rfl)
  have hlen':xs.length=5:=hlen
  obtain⟨y0,h0,o0⟩:=(ZT.int Try.underlying3 (by kernel_rfl)).fieldAt (hf 0 _ rfl) (by rw[Zk (by omega)];rfl)
  obtain⟨y1,h1,o1⟩:=(ZT.int Try.underlying3 (by kernel_rfl)).fieldAt (hf 1 _ rfl) (by rw[Zk (by omega)];rfl)
  obtain⟨y2,h2,o2⟩:=(ZT.int Try.underlying3 (by kernel_rfl)).fieldAt (hf 2 _ rfl) (by rw[Zk (by omega)];rfl)
  obtain⟨y3,h3,o3⟩:=(ZT.int Try.underlying3 (by kernel_rfl)).fieldAt (hf 3 _ rfl) (by rw[Zk (by omega)];rfl)
  obtain⟨y4,h4,o4⟩:=(ZT.bool Try.underlying4 (by kernel_rfl)).fieldAt (hf 4 _ rfl) (by rw[Zk (by omega)];rfl)
  have hk:k84.K w ⟨y0,y1,y2,y3,y4⟩ ((cs.drop 0).take k84.sz):=(Zap (off:=0) h0 (Zap (off:=1) h1 (Zap (off:=2) h2 (Zap (off:=3) h3 h4))))
  have hcs:(cs.drop 0).take k84.sz=cs:=by rw[List.drop_zero];exact List.take_of_length_le (by rw[hl'];exact Nat.le_refl _)
  rw[hcs] at hk
  exact⟨_,hk,o0,o1,o2,o3,o4⟩⟩
def okS49 (x:S49):Prop:=(fun l_:List (S39)=>l_.length≤maxLen∧∀x_∈l_,okS39 x_) x.f0∧(fun l_:List (S84)=>l_.length≤maxLen∧∀x_∈l_,okS84 x_) x.f1∧(fun n_:Int=>(Lit.int .i64 n_).wf=true) x.f2
theorem op_k49:ZT Try.prog k49 49 okS49:=
 ⟨by kernel_rfl,fun {H enc w base fuel cs x} h=>by
  obtain⟨xs,n,_,_,hl,hlen,hf⟩:=DataW.trod_struct Try.underlying49 h
  have hl':cs.length=3:=hl.trans (by kernel_rfl)
  have hlen':xs.length=3:=hlen
  obtain⟨y0,h0,o0⟩:=(ZT.slice op_k39 Try.underlying46 (by kernel_rfl)).fieldAt (hf 0 _ rfl) (by rw[Zk (by omega)];rfl)
  obtain⟨y1,h1,o1⟩:=(ZT.slice op_k84 Try.underlying47 (by kernel_rfl)).fieldAt (hf 1 _ rfl) (by rw[Zk (by omega)];rfl)
  obtain⟨y2,h2,o2⟩:=(ZT.int Try.underlying3 (by kernel_rfl)).fieldAt (hf 2 _ rfl) (by rw[Zk (by omega)];rfl)
  have hk:k49.K w ⟨y0,y1,y2⟩ ((cs.drop 0).take k49.sz):=(Zap (off:=0) h0 (Zap (off:=1) h1 h2))
  have hcs:(cs.drop 0).take k49.sz=cs:=by rw[List.drop_zero];exact List.take_of_length_le (by rw[hl'];exact Nat.le_refl _)
  rw[hcs] at hk
  exact⟨_,hk,o0,o1,o2⟩⟩
end Go.Proofs.Ytammpmadchekeaa.Pr
namespace Go.Proofs.Ytammpmadchekeaa.Ni
open Go.RowKit Go.Proofs.YtammpmadchekeaaW.PrintWords
theorem Zu {w W:World} (hb:Below w.heap.size w W) {a:Addr} {v:Value} (h:w.cell? a=some v):W.cell? a=some v:=(hb.cell (Zc w _ h)).trans h
theorem wrap_succ {i:Int} (h0:0≤i) (h:i<9223372036854775807):wrap64 (i+1)=i+1:=by
 unfold wrap64;omega
theorem Za0 {i:Int} (h0 : -9223372036854775808≤i) (h:i≤9223372036854775807):wrap64 i=i:=by
 unfold wrap64;omega
theorem Zar {i n:Nat} (h:i<n) (hn:n≤9223372036854775807):wrap64 ((i:Int)+1)=((i+1:Nat):Int):=by
 unfold wrap64;omega
theorem wrap_pred {i:Nat} (h:0<i) (hn:i≤9223372036854775807):wrap64 ((i:Int) - 1)=((i - 1:Nat):Int):=by
 unfold wrap64;omega
theorem wf_i64 {n:Int} (h:(Lit.int .i64 n).wf=true) : -9223372036854775808≤n∧n≤9223372036854775807:=by
 simp[Lit.wf,IntKind.min,IntKind.max,IntKind.signed,IntKind.bits] at h
 omega
theorem ZaJ (l:List Int) (i:Nat):rd l (i:Int)=l.getD i 0:=by unfold rd;rw[Int.toNat_natCast]
theorem ZX {α:Type} {l:List α} {i:Nat} (h:i<l.length) (d:α):l.drop i=l.getD i d :: l.drop (i+1):=by
 rw[List.drop_eq_getElem_cons h,List.getD_eq_getElem?_getD,Zk h];rfl
theorem ZaK {α:Type} {l:List α} {i:Nat} (h:i<l.length) (d:α):l.getD i d∈l:=by
 rw[List.getD_eq_getElem?_getD,Zk h];exact List.getElem_mem h
theorem getD_some {α:Type} {l:List α} {i:Nat} (h:i<l.length) (d:α):l[i]? = some (l.getD i d):=by
 rw[List.getD_eq_getElem?_getD,Zk h];rfl
theorem Za9 {α:Type} (ys:List α) (z d:α) (i:Nat) (h:i<ys.length) (x:α) (hx:x=ys.getD i d):(ys.take i ++ List.replicate (ys.length - i) z).set i x=ys.take (i+1) ++ List.replicate (ys.length - (i+1)) z:=by
 subst hx
 have e:ys.length - i=(ys.length - (i+1))+1:=by omega
 rw[e,List.replicate_succ,List.set_append_right _ _ (by simp;omega)]
 have e2:i - (ys.take i).length=0:=by simp;omega
 rw[e2,List.set_cons_zero,List.take_succ_eq_append_getElem h,List.append_assoc]
 congr 2
 simp[List.getD_eq_getElem?_getD,Zk h]
theorem Zat (n:Nat) (Q:Nat→Nat→Prop) (K:Nat) (hend:∀k,K≤k→Q (k+1) n) (hstep:∀k i,K≤k→i<n→Q k (i+1)→Q (k+1) i):∀(i k:Nat),i≤n→K+(n - i)<k→Q k i:=by
 have key:∀(d i k:Nat),i≤n→n - i=d→K+d<k→Q k i:=by
  intro d
  induction d with
  | zero=>
   intro i k hi hd hk
   obtain⟨m,rfl⟩:∃m,k=m+1:=⟨k - 1,by omega⟩
   obtain rfl:i=n:=by omega
   exact hend m (by omega)
  | succ d ih=>
   intro i k hi hd hk
   obtain⟨m,rfl⟩:∃m,k=m+1:=⟨k - 1,by omega⟩
   exact hstep m i (by omega) (by omega) (ih (i+1) m (by omega) (by omega) (by omega))
 intro i k hi hk
 exact key (n - i) i k hi rfl hk
theorem set_mid (pre:List Int) (x y:Int) (post:List Int):(pre ++ x :: post).set pre.length y=pre ++ y :: post:=by
 rw[List.set_append_right _ _ (Nat.le_refl _),Nat.sub_self,List.set_cons_zero]
def ZaE {α:Type} (p:α→Bool) (l:List α):Int:=match l.findIdx? p with|some i=>i|none=>-1
theorem idxOf_hit {α:Type} (p:α→Bool) (l:List α) (k:Nat) (x:α) (hk:l[k]? = some x) (hx:p x=true) (hb:∀j y,j<k→l[j]? = some y→p y=false):ZaE p l=(k:Int):=by
 have h:l.findIdx? p=some k:=by
  rw[List.findIdx?_eq_some_iff_getElem]
  obtain⟨hl,he⟩:=List.getElem?_eq_some_iff.1 hk
  refine⟨hl,by rw[he];exact hx,fun j hj=>?_⟩
  have:=hb j _ hj (Zk (by omega))
  simp[this]
 simp[ZaE,h]
theorem idxOf_miss {α:Type} (p:α→Bool) (l:List α) (hb:∀j y,j<l.length→l[j]? = some y→p y=false):ZaE p l=-1:=by
 have h:l.findIdx? p=none:=by
  rw[List.findIdx?_eq_none_iff]
  intro x hx
  obtain⟨j,hj⟩:=List.getElem?_of_mem hx
  exact hb j x (List.getElem?_eq_some_iff.1 hj).1 hj
 simp[ZaE,h]
theorem idxOf_any {α:Type} (p:α→Bool) (l:List α):decide (0≤ZaE p l)=l.any p:=by
 unfold ZaE
 cases h:l.findIdx? p with
 | some i=>
  rw[List.findIdx?_eq_some_iff_getElem] at h
  obtain⟨hl,hp,_⟩:=h
  have:l.any p=true:=List.any_eq_true.2 ⟨_,List.getElem_mem hl,hp⟩
  rw[this]
  exact Ze (Int.natCast_nonneg _)
 | none=>
  rw[List.findIdx?_eq_none_iff] at h
  have:l.any p=false:=by rw[List.any_eq_false];intro x hx;rw[h x hx];simp
  rw[this];rfl
theorem idxOf_bd {α:Type} (p:α→Bool) (l:List α) : -1≤ZaE p l∧ZaE p l<l.length:=by
 unfold ZaE
 cases h:l.findIdx? p with
 | some i=>
  rw[List.findIdx?_eq_some_iff_getElem] at h
  obtain⟨hl,_⟩:=h
  simp only;omega
 | none=>simp only;omega
def cnt0 (l:List Int):Int:=((l.filter (· == 0)).length:Int)
def litOk (x:Int):Bool:=!(x == 0) && decide (-3≤x) && decide (x≤3)
def prp (x:Int):Int:=if x<0 then -x else x
def labFrom (p:Int):List Int→Bool
 | []=>true
 | x :: t=>litOk x && decide (p<prp x) && labFrom (prp x) t
def labB (l:List Int):Bool:=labFrom 0 l
def valsB (l:List Int):Bool:=decide (l.length=3) && l.all (fun n=>decide (-1≤n) && decide (n≤1))
theorem litOk_iff (x:Int):litOk x=true↔x≠0∧-3≤x∧x≤3:=by
 simp[litOk,and_assoc]
theorem prp_pos {x:Int} (h:litOk x=true):1≤prp x∧prp x≤3:=by
 have:=(litOk_iff x).1 h
 unfold prp;split <;> omega
def stFrom (v:List Int) (a:Int):List Int→Int
 | []=>a
 | x :: t=>stFrom v (min a (if x<0 then -(v.getD (prp x - 1).toNat 0) else v.getD (prp x - 1).toNat 0)) t
def stB (l v:List Int):Int:=stFrom v 1 l
def isNameB (s:ByteArray):Bool:=decide (1≤s.size) && decide (s.size≤8) && (List.range s.size).all fun i=>let c:=bt s i;(decide (97≤c) && decide (c≤122)) || (decide (0<i) && decide (48≤c) && decide (c≤57))
end Go.Proofs.Ytammpmadchekeaa.Ni
namespace Go.Proofs.Ytammpmadchekeaa.Pr
open Go.RowKit Go.Proofs.YtammpmadchekeaaW.PrintWords Go.Proofs.YtammpmadchekeaaW.PrintLast Go.Proofs.YtammpmadchekeaaW.PrintMore
attribute [local go_sem] Zac Zaa Zah Zag Z2 Z1 Zab Z9
set_option linter.unusedVariables false
set_option linter.unusedSimpArgs false
def ZH.l0:Nat→List Int→List Int→Int→Option (List Int)
 | 0,_,_,_=>none
 | k+1,x0,x3,x4=>if x4<(x0.length:Int) then(if 0≤x4 then(if x4<(x3.length:Int) then(ZH.l0 k x0 (x3.set (x4:Int).toNat (rd x0 x4)) (wrap64 (x4+1))) else(none)) else(none)) else(some x3)
def ZH.f (k:Nat) (l0:List Int):Option (List Int):=if 0≤(l0.length:Int) then(if ((l0.length:Int):Int).toNat≤35184372088832 then(ZH.l0 k l0 (List.replicate ((l0.length:Int):Int).toNat 0) 0) else(none)) else(none)
set_option maxHeartbeats 8000000 in
set_option maxRecDepth 100000 in
theorem ZH.calls (k:Nat) (A0:Option Addr) (c0:Nat) (l0:List Int) (r:List Int) (w:World) (hr0:Kd.C (Kd.int .i64) w A0 l0.length l0) (hc0:l0.length≤c0) (h:ZH.f k l0=some r) :
  Calls Try.prog 15 #[.slice A0 l0.length c0] w fun e w'=>∃v0_:Value,e=.returned (v0_)∧Kd.R (Kd.int .i64) 3 w' w.heap.size (fun _=>True) v0_ r∧Below w.heap.size w w':=by
 have HR0:=Za hr0;have HC0:=Za hc0;clear hr0 hc0
 have HB:=Za (Below.refl w.heap.size w)
 have H:(if 0≤(l0.length:Int) then(if ((l0.length:Int):Int).toNat≤35184372088832 then(ZH.l0 k l0 (List.replicate ((l0.length:Int):Int).toNat 0) 0) else(none)) else(none))=some r:=h
 clear h
 by_cases c2:0≤(l0.length:Int)
 ·rw[if_pos c2] at H
  have c2b0:=eq_true c2
  have c2b1:decide (0≤(l0.length:Int))=true:=Ze c2
  clear c2
  by_cases c3:((l0.length:Int):Int).toNat≤35184372088832
  ·rw[if_pos c3] at H
   have c3b0:=eq_true c3
   have c3b1:decide (((l0.length:Int):Int).toNat≤35184372088832)=true:=Ze c3
   clear c3
   obtain⟨y15001,hy15001⟩:∃y_:List Int,y_=(List.replicate ((l0.length:Int):Int).toNat 0):=⟨_,rfl⟩
   replace H:(ZH.l0 k l0 y15001 0)=some r:=by first|(rw[hy15001];with_reducible exact H)|(have H2_:=(Zh _ _).symm.trans H;rw[hy15001];with_reducible exact H2_)|(have H2_:=(Zh _ _).symm.trans H;with_reducible exact H2_)|with_reducible exact H|(rw[hy15001];exact H)|exact H
   have Ny15001:=Za hy15001;clear hy15001
   have H':=Za H
   clear H
   go_enter Try.func15,Try.ntmps15
   go_wp2_with (first|((with_reducible refine ZI (N:=7) rfl ?_);refine Kd.R_make (Kd.int .i64) _ 3 rfl (N:=7) rfl 22 _ _ rfl (l0.length:Int) rfl rfl Try.underlying22 (.int .i64 0) 8 info3 rfl (by decide) (by omega) 0 (ok:=fun _=>True) (okp:=fun _=>True) rfl (fun _ hk=>hk) trivial (Zd (by first|(with_reducible assumption)|assumption)) (Nat.le_trans (Nat.mul_le_mul_right _ (Zd (by first|(with_reducible assumption)|assumption):(l0.length:Int).toNat≤35184372088832)) (by omega)) (Below.refl _ _) (Nat.le_refl _) ?_;intro v15002 w4 ho5 hb hg_ hnew_;clear hg_ hnew_;(first|rw[← Ny15001.out] at ho5|(simp only[Int.reduceToNat] at ho5;rw[← Ny15001.out] at ho5));have n0_:=Za (Kd.R_lower ho5 (Zv (by repeat(first|(with_reducible first|exact HB.out|apply Zl|apply Zm|apply Zn)|exact HB.out))));have n1_:=Za (Zw (by repeat(first|(with_reducible first|exact HB.out|apply Zl|apply Zm|apply Zn)|exact HB.out)) hb);clear HB;have HO15003:=n0_;have HB:=n1_;clear n0_ n1_;clear hb ho5))
   go_loopg [4] k (fun kq v4 w'=>∃(x3_1:List Int) (x4_1:Int),v4=.int .i64 x4_1∧Aside0 (ZH.l0 kq l0 x3_1 x4_1=some r)∧Aside0 (kq≤k)∧Aside0 (Kd.R (Kd.int .i64) 3 w' w.heap.size (fun _=>True) v15002 x3_1)∧Aside0 (Below w.heap.size w w'))
   case atStart=>exact⟨(y15001),(0),(by first|rfl|(simp;done)|(simp[*];done)),H',⟨Nat.le_refl _⟩,⟨by(with_reducible repeat(first|apply Kd.R_alloc|apply Kd.R_drewN|apply Kd.R_drew));exact HO15003.out⟩,⟨by repeat(first|(with_reducible first|exact HB.out|apply Zl|apply Zm|apply Zn)|exact HB.out)⟩⟩
   case round=>
    clear H'
    try clear c1
    try clear c2
    try clear c2b0
    try clear c2b1
    try clear p2
    try clear c3
    try clear c3b0
    try clear c3b1
    obtain⟨x3_1,x4_1,rfl,HA,HK1,HO_3,HB⟩:=hrel
    cases gk with
    | zero=>exact absurd HA.out (by simp[ZH.l0])
    | succ k1=>
     have H:=HA.out
     clear HA
     simp only[ZH.l0] at H
     by_cases c6:x4_1<(l0.length:Int)
     ·rw[if_pos c6] at H
      have c6b0:decide (x4_1<(l0.length:Int))=true:=Ze c6
      clear c6
      by_cases c7:0≤x4_1
      ·rw[if_pos c7] at H
       have c7b0:decide (0≤x4_1)=true:=Ze c7
       clear c7
       by_cases c8:x4_1<(x3_1.length:Int)
       ·rw[if_pos c8] at H
        have c8b0:decide (x4_1<(x3_1.length:Int))=true:=Ze c8
        clear c8
        obtain⟨y15005,hy15005⟩:∃y_:List Int,y_=(x3_1.set (x4_1:Int).toNat (rd l0 x4_1)):=⟨_,rfl⟩
        replace H:(ZH.l0 k1 l0 y15005 (wrap64 (x4_1+1)))=some r:=by first|(rw[hy15005];with_reducible exact H)|(have H2_:=(Zh _ _).symm.trans H;rw[hy15005];with_reducible exact H2_)|(have H2_:=(Zh _ _).symm.trans H;with_reducible exact H2_)|with_reducible exact H|(rw[hy15005];exact H)|exact H
        have Ny15005:=Za hy15005;clear hy15005
        have H':=Za H
        clear H
        have p15004:0≤(x4_1:Int):=Zd (by first|(with_reducible assumption)|assumption)
        have q15004:x4_1<(l0.length:Int):=Zd (by first|(with_reducible assumption)|assumption)
        obtain⟨ad15004,e15004,hx15004_0⟩:=Kd.at_int HR0.out x4_1 p15004 q15004
        cases e15004
        replace hx15004_0:=(HB.out.cell (Zc w _ hx15004_0)).trans hx15004_0
        replace p15004:=eq_true p15004
        replace q15004:=eq_true q15004
        have p9:0≤(x4_1:Int):=Zd (by first|(with_reducible assumption)|assumption)
        have q9:(x4_1:Int)<((x3_1.length:Int):Int):=Zd (by first|(with_reducible assumption)|assumption)
        obtain⟨go9,co9,eo9,gb9,gl9,cl9,HG9⟩:=Kd.R_form HO_3.out (by omega)
        (first|cases eo9|(injection eo9 with ea_ en_ ec_;(first|subst ea_|(injection ea_ with ea_;subst ea_));subst ec_;clear en_))
        have GB9:=Za gb9;have GG9:=Za HG9;clear gb9 gl9 HG9
        obtain⟨hx9_0,hf9_0⟩:=Kd.R_celln 0 HO_3.out (x4_1:Int) p9 q9
        replace p9:=eq_true p9
        replace q9:=eq_true q9
        have HP10:=Kd.R_putg HO_3.out (x4_1:Int) (rd l0 x4_1)
        go_wp2_with (first|((with_reducible refine ZaW (t:=3) (p:=20) rfl ?_);refine ZaS (t:=3) (p:=20) (v:=?vo_w11) (w1:=(wr.setCell ⟨go9,(x4_1:Int).toNat,none⟩ (.int .i64 (rd l0 x4_1)))) ?hg ?ho ?hn ?hr ?_;(case ho=>rfl);(case hg=>rfl);(case hn=>rfl);(case hr=>first|(go_simp;done)|(go_simp;rfl));intro w11 hw;have hg:wr.grownBy w11 (some go9):=(by rw[hw];exact HP10.2);have hp_:Kd.R (Kd.int .i64) 3 w11 w.heap.size (fun _=>True) (.slice (some ⟨go9,0,none⟩) x3_1.length co9) y15005:=(by rw[hw,Ny15005.out];exact HP10.1);clear HP10;have n0_:=Za (hp_);have n1_:=Za ((by rw[hw];exact Zp (HB.out) GB9.out:Below w.heap.size w w11));clear HO_3;clear HB;have HO_3:=n0_;have HB:=n1_;clear n0_ n1_;clear hg hw hp_))
        go_roundg k1
        case measure=>have:=HK1.out;omega
        case rel=>exact⟨(y15005),(wrap64 (x4_1+1)),(by first|rfl|(simp;done)|(simp[*];done)),H',⟨by have:=HK1.out;omega⟩,⟨by(with_reducible repeat(first|apply Kd.R_alloc|apply Kd.R_drewN|apply Kd.R_drew));exact HO_3.out⟩,⟨by repeat(first|(with_reducible first|exact HB.out|apply Zl|apply Zm|apply Zn)|exact HB.out)⟩⟩
       ·rw[if_neg c8] at H
        exact absurd H (by simp)
      ·rw[if_neg c7] at H
       exact absurd H (by simp)
     ·rw[if_neg c6] at H
      have c6b0:decide (x4_1<(l0.length:Int))=false:=Zf c6
      clear c6
      obtain rfl:=Zg H
      go_wp2
      go_ret
      exact⟨_,by first|rfl|(simp[ZC,ZB] <;> rfl)|(simp[*,ZC,ZB] <;> rfl),by(with_reducible repeat(first|apply Kd.R_alloc|apply Kd.R_drewN|apply Kd.R_drew));exact HO_3.out,by repeat(first|(with_reducible first|exact HB.out|apply Zl|apply Zm|apply Zn)|exact HB.out)⟩
  ·rw[if_neg c3] at H
   exact absurd H (by simp)
 ·rw[if_neg c2] at H
  exact absurd H (by simp)
def ZM.l0:Nat→List Int→List Int→Int→Option (Bool)
 | 0,_,_,_=>none
 | k+1,x0,x1,x5=>if x5<(x0.length:Int) then(if 0≤x5 then(if x5<(x1.length:Int) then(if (rd x0 x5)=(rd x1 x5) then(ZM.l0 k x0 x1 (wrap64 (x5+1))) else(some false)) else(none)) else(none)) else(some true)
def ZM.f (k:Nat) (l0:List Int) (l1:List Int):Option (Bool):=if (l0.length:Int)=(l1.length:Int) then(ZM.l0 k l0 l1 0) else(some false)
set_option maxHeartbeats 8000000 in
set_option maxRecDepth 100000 in
theorem ZM.calls (k:Nat) (A0:Option Addr) (c0:Nat) (l0:List Int) (A1:Option Addr) (c1:Nat) (l1:List Int) (r:Bool) (w:World) (hr0:Kd.C (Kd.int .i64) w A0 l0.length l0) (hc0:l0.length≤c0) (hr1:Kd.C (Kd.int .i64) w A1 l1.length l1) (hc1:l1.length≤c1) (h:ZM.f k l0 l1=some r) :
  Calls Try.prog 17 #[.slice A0 l0.length c0,.slice A1 l1.length c1] w fun e w'=>e=.returned (.bool r)∧Zx w w':=by
 have HR0:=Za hr0;have HC0:=Za hc0;clear hr0 hc0;have HR1:=Za hr1;have HC1:=Za hc1;clear hr1 hc1
 have H:(if (l0.length:Int)=(l1.length:Int) then(ZM.l0 k l0 l1 0) else(some false))=some r:=h
 clear h
 by_cases c3:(l0.length:Int)=(l1.length:Int)
 ·rw[if_pos c3] at H
  have c3b0:((l0.length:Int) == (l1.length:Int))=true:=beq_iff_eq.mpr c3
  have c3b1:((l0.length:Int) != (l1.length:Int))=false:=bne_eq_false_iff_eq.mpr c3
  have c3b2:(l0.length == l1.length)=true:=by first|simpa using c3|(simp at c3 ⊢;omega)
  clear c3
  have H':=Za H
  clear H
  go_enter Try.func17,Try.ntmps17
  go_wp2
  repeat(go_quiet (fail);try go_wp2)
  go_loopg [5] k (fun kq v5 w'=>∃(x5_1:Int),v5=.int .i64 x5_1∧Aside0 (ZM.l0 kq l0 l1 x5_1=some r)∧Aside0 (kq≤k)∧Zx w w')
  case atStart=>exact⟨(0),(by first|rfl|(simp;done)|(simp[*];done)),H',⟨Nat.le_refl _⟩,by repeat(first|exact Zx.refl _|apply Zx.step)⟩
  case round=>
   clear H'
   try clear c1
   try clear p2
   try clear c3
   try clear c3b0
   try clear c3b1
   try clear c3b2
   obtain⟨x5_1,rfl,HA,HK1,⟨m1,rfl⟩⟩:=hrel
   cases gk with
   | zero=>exact absurd HA.out (by simp[ZM.l0])
   | succ k1=>
    have H:=HA.out
    clear HA
    simp only[ZM.l0] at H
    by_cases c4:x5_1<(l0.length:Int)
    ·rw[if_pos c4] at H
     have c4b0:decide (x5_1<(l0.length:Int))=true:=Ze c4
     clear c4
     by_cases c5:0≤x5_1
     ·rw[if_pos c5] at H
      have c5b0:decide (0≤x5_1)=true:=Ze c5
      clear c5
      by_cases c6:x5_1<(l1.length:Int)
      ·rw[if_pos c6] at H
       have c6b0:decide (x5_1<(l1.length:Int))=true:=Ze c6
       clear c6
       by_cases c7:(rd l0 x5_1)=(rd l1 x5_1)
       ·rw[if_pos c7] at H
        have c7b0:((rd l0 x5_1) == (rd l1 x5_1))=true:=beq_iff_eq.mpr c7
        have c7b1:((rd l0 x5_1) != (rd l1 x5_1))=false:=bne_eq_false_iff_eq.mpr c7
        clear c7
        have H':=Za H
        clear H
        have p17001:0≤(x5_1:Int):=Zd (by first|(with_reducible assumption)|assumption)
        have q17001:x5_1<(l0.length:Int):=Zd (by first|(with_reducible assumption)|assumption)
        obtain⟨ad17001,e17001,hx17001_0⟩:=Kd.at_int HR0.out x5_1 p17001 q17001
        cases e17001
        replace p17001:=eq_true p17001
        replace q17001:=eq_true q17001
        have p17002:0≤(x5_1:Int):=Zd (by first|(with_reducible assumption)|assumption)
        have q17002:x5_1<(l1.length:Int):=Zd (by first|(with_reducible assumption)|assumption)
        obtain⟨ad17002,e17002,hx17002_0⟩:=Kd.at_int HR1.out x5_1 p17002 q17002
        cases e17002
        replace p17002:=eq_true p17002
        replace q17002:=eq_true q17002
        go_wp2
        repeat(go_quiet (fail);try go_wp2)
        go_roundg k1
        case measure=>have:=HK1.out;omega
        case rel=>exact⟨(wrap64 (x5_1+1)),(by first|rfl|(simp;done)|(simp[*];done)),H',⟨by have:=HK1.out;omega⟩,by repeat(first|exact Zx.refl _|apply Zx.step)⟩
       ·rw[if_neg c7] at H
        have c7b0:((rd l0 x5_1) == (rd l1 x5_1))=false:=beq_eq_false_iff_ne.mpr c7
        have c7b1:((rd l0 x5_1) != (rd l1 x5_1))=true:=bne_iff_ne.mpr c7
        obtain rfl:=Zg H
        have p17001:0≤(x5_1:Int):=Zd (by first|(with_reducible assumption)|assumption)
        have q17001:x5_1<(l0.length:Int):=Zd (by first|(with_reducible assumption)|assumption)
        obtain⟨ad17001,e17001,hx17001_0⟩:=Kd.at_int HR0.out x5_1 p17001 q17001
        cases e17001
        replace p17001:=eq_true p17001
        replace q17001:=eq_true q17001
        have p17002:0≤(x5_1:Int):=Zd (by first|(with_reducible assumption)|assumption)
        have q17002:x5_1<(l1.length:Int):=Zd (by first|(with_reducible assumption)|assumption)
        obtain⟨ad17002,e17002,hx17002_0⟩:=Kd.at_int HR1.out x5_1 p17002 q17002
        cases e17002
        replace p17002:=eq_true p17002
        replace q17002:=eq_true q17002
        go_wp2
        repeat(go_quiet (fail);try go_wp2)
        go_ret
        exact⟨by first|rfl|(simp;done)|(simp[*];done),by repeat(first|exact Zx.refl _|apply Zx.step)⟩
      ·rw[if_neg c6] at H
       exact absurd H (by simp)
     ·rw[if_neg c5] at H
      exact absurd H (by simp)
    ·rw[if_neg c4] at H
     have c4b0:decide (x5_1<(l0.length:Int))=false:=Zf c4
     clear c4
     obtain rfl:=Zg H
     go_wp2
     repeat(go_quiet (fail);try go_wp2)
     go_ret
     exact⟨by first|rfl|(simp;done)|(simp[*];done),by repeat(first|exact Zx.refl _|apply Zx.step)⟩
 ·rw[if_neg c3] at H
  have c3b0:((l0.length:Int) == (l1.length:Int))=false:=beq_eq_false_iff_ne.mpr c3
  have c3b1:((l0.length:Int) != (l1.length:Int))=true:=bne_iff_ne.mpr c3
  have c3b2:(l0.length == l1.length)=false:=by first|simpa using c3|(simp at c3 ⊢;omega)
  obtain rfl:=Zg H
  go_enter Try.func17,Try.ntmps17
  go_wp2
  repeat(go_quiet (fail);try go_wp2)
  go_ret
  exact⟨by first|rfl|(simp;done)|(simp[*];done),by repeat(first|exact Zx.refl _|apply Zx.step)⟩
end Go.Proofs.Ytammpmadchekeaa.Pr
namespace Go.Proofs.Ytammpmadchekeaa.Pr
open Go.RowKit Go.Proofs.YtammpmadchekeaaW.PrintWords Go.Proofs.Ytammpmadchekeaa.Ni
theorem toIntS_f (l:List Int) (hl:l.length≤35184372088832) (k:Nat) (hk:2 ^ 64≤k):ZH.f k l=some l:=by
 have key:=Zat l.length (fun k i=>ZH.l0 k l (l.take i ++ List.replicate (l.length - i) 0) (i:Int)=some l) 0
  (fun k _=>by simp[ZH.l0])
  (fun k i _ hi ih=>by
   simp only[ZH.l0]
   rw[if_pos (by omega),if_pos (by omega),if_pos (by simp;omega),Zar hi (by omega),Int.toNat_natCast,Za9 l 0 0 i hi _ (ZaJ l i)]
   exact ih) 0 k (Nat.zero_le _) (by omega)
 unfold ZH.f
 rw[if_pos (by omega),if_pos (by omega),Int.toNat_natCast]
 simpa using key
theorem eqIntS_f (l m:List Int) (hl:l.length≤9223372036854775807) (k:Nat) (hk:2 ^ 64≤k):ZM.f k l m=some (decide (l=m)):=by
 unfold ZM.f
 by_cases e:l.length=m.length
 ·rw[if_pos (by omega)]
  have key:=Zat l.length (fun k i=>ZM.l0 k l m (i:Int)=some (decide (l.drop i=m.drop i))) 0
   (fun k _=>by
    simp only[ZM.l0]
    rw[if_neg (by omega),List.drop_of_length_le (Nat.le_refl _),List.drop_of_length_le (by omega)]
    simp)
   (fun k i _ hi ih=>by
    simp only[ZM.l0]
    rw[if_pos (by omega),if_pos (by omega),if_pos (by omega),ZaJ,ZaJ,Zar hi (by omega),ZX hi 0,ZX (show i<m.length by omega) 0]
    by_cases h:l.getD i 0=m.getD i 0
    ·rw[if_pos h,ih,h];simp
    ·rw[if_neg h]
     simp only[List.cons.injEq,h,false_and,decide_false]) 0 k (Nat.zero_le _) (by omega)
  simpa using key
 ·rw[if_neg (by omega)]
  have:l≠m:=fun h=>e (by rw[h])
  simp[this]
theorem eqIntS_refl (l:List Int) (hl:l.length≤9223372036854775807) (k:Nat) (hk:2 ^ 64≤k):ZM.f k l l=some true:=by
 rw[eqIntS_f l l hl k hk];simp
end Go.Proofs.Ytammpmadchekeaa.Pr
namespace Go.Proofs.Ytammpmadchekeaa.Pr
open Go.RowKit Go.Proofs.YtammpmadchekeaaW.PrintWords Go.Proofs.YtammpmadchekeaaW.PrintLast Go.Proofs.YtammpmadchekeaaW.PrintMore
attribute [local go_sem] Zac Zaa Zah Zag Z2 Z1 Zab Z9
set_option linter.unusedVariables false
set_option linter.unusedSimpArgs false
def Zaq.f (k:Nat) (a0_0:ByteArray) (l0_1:List Int) (a0_2:Int):Option (ByteArray×List Int×Int):=(ZH.f k l0_1).bind fun t37004=>(some (a0_0,t37004,a0_2))
set_option maxHeartbeats 8000000 in
set_option maxRecDepth 100000 in
theorem Zaq.calls (k:Nat) (a0_0:ByteArray) (A0_1:Option Addr) (c0_1:Nat) (l0_1:List Int) (a0_2:Int) (r1:ByteArray) (r2:List Int) (r3:Int) (w:World) (hr0_1:Kd.C (Kd.int .i64) w A0_1 l0_1.length l0_1) (hc0_1:l0_1.length≤c0_1) (h:Zaq.f k a0_0 l0_1 a0_2=some (r1,r2,r3)) :
  Calls Try.prog 37 #[.agg #[.string a0_0,.slice A0_1 l0_1.length c0_1,.int .i64 a0_2]] w fun e w'=>∃v1_:Value,e=.returned (.agg #[.string r1,v1_,.int .i64 r3])∧Kd.R (Kd.int .i64) 3 w' w.heap.size (fun _=>True) v1_ r2∧Below w.heap.size w w':=by
 have hu39:=Try.underlying39
 have hu42:=Try.underlying42
 have HR0_1:=Za hr0_1;have HC0_1:=Za hc0_1;clear hr0_1 hc0_1
 have HB:=Za (Below.refl w.heap.size w)
 have H:((ZH.f k l0_1).bind fun t37004=>(some (a0_0,t37004,a0_2)))=some (r1,r2,r3):=h
 clear h
 replace H:=Option.bind_eq_some_iff.mp H
 obtain⟨t37004,A20,H⟩:=H
 replace H:(some (a0_0,t37004,a0_2))=some (r1,r2,r3):=H
 have A2:=Za A20;clear A20
 simp only[Option.some.injEq,Prod.mk.injEq] at H
 obtain⟨rfl,rfl,rfl⟩:=H
 go_enter Try.func37,Try.ntmps37
 go_wp2_with (first|((with_reducible refine ZI (N:=1) rfl ?_);refine ZK ?hg (N:=1) ?hd (cs:=#[.string a0_0,.slice A0_1 l0_1.length c0_1,.int .i64 a0_2]) (t:=39) ?hr ?_;(case hd=>rfl);(case hg=>rfl);(case hr=>first|(go_simp;done)|(go_simp;rfl));intro gb37001 hg w3 hbox hb;have n0_:=Za (Zw (by repeat(first|(with_reducible first|exact HB.out|apply Zl|apply Zm|apply Zn)|exact HB.out)) hb);have n1_:=Za (hbox);have n2_:=Za ((by rw[hg];exact(Zv (by repeat(first|(with_reducible first|exact HB.out|apply Zl|apply Zm|apply Zn)|exact HB.out))):w.heap.size≤gb37001));have n3_:=Za ((by rw[hg];exact(Zv (by repeat(first|(with_reducible first|exact HB.out|apply Zl|apply Zm|apply Zn)|exact HB.out))):w.heap.size≤gb37001));clear HB;have HB:=n0_;have BK37001:=n1_;have GW37001:=n2_;have GE37001:=n3_;clear n0_ n1_ n2_ n3_;clear hb hbox hg)|((with_reducible refine ZI (N:=2) rfl ?_);refine ZK ?hg (N:=2) ?hd (cs:=#[.string (⟨#[]⟩:ByteArray),.slice none 0 0,.int .i64 0]) (t:=42) ?hr ?_;(case hd=>rfl);(case hg=>rfl);(case hr=>first|(go_simp;done)|(go_simp;rfl));intro gb37002 hg w4 hbox hb;have n0_:=Za (ZG (g:=gb37001) (o:=.cells #[.string a0_0,.slice A0_1 l0_1.length c0_1,.int .i64 a0_2] 39 (0,0)) (by(with_reducible repeat(first|refine Zr ?_ _|refine Zt ?_|refine Zs ?_ _));exact BK37001.out) hb);have n1_:=Za (Zw (by repeat(first|(with_reducible first|exact HB.out|apply Zl|apply Zm|apply Zn|refine Zp ?_ GE37001.out)|exact HB.out)) hb);have n2_:=Za (hbox);have n3_:=Za ((by rw[hg];exact(Zv (by repeat(first|(with_reducible first|exact HB.out|apply Zl|apply Zm|apply Zn|refine Zp ?_ GE37001.out)|exact HB.out))):w.heap.size≤gb37002));have n4_:=Za ((by rw[hg];exact(Zv (by repeat(first|(with_reducible first|exact HB.out|apply Zl|apply Zm|apply Zn|refine Zp ?_ GE37001.out)|exact HB.out))):w.heap.size≤gb37002));have n5_:=Za ((by rw[hg];exact Nat.ne_of_lt (ZQ (g:=gb37001) (o:=.cells #[.string a0_0,.slice A0_1 l0_1.length c0_1,.int .i64 a0_2] 39 (0,0)) (by(with_reducible repeat(first|refine Zr ?_ _|refine Zt ?_|refine Zs ?_ _));exact BK37001.out)):gb37001≠gb37002));have n6_:=Za ((by rw[hg];exact Nat.ne_of_gt (ZQ (g:=gb37001) (o:=.cells #[.string a0_0,.slice A0_1 l0_1.length c0_1,.int .i64 a0_2] 39 (0,0)) (by(with_reducible repeat(first|refine Zr ?_ _|refine Zt ?_|refine Zs ?_ _));exact BK37001.out)):gb37002≠gb37001));clear BK37001;clear HB;have BK37001:=n0_;have HB:=n1_;have BK37002:=n2_;have GW37002:=n3_;have GE37002:=n4_;have NB37001_37002:=n5_;have NB37002_37001:=n6_;clear n0_ n1_ n2_ n3_ n4_ n5_ n6_;clear hb hbox hg)|((with_reducible refine ZI (N:=3) rfl ?_);refine ZK ?hg (N:=3) ?hd (cs:=#[.string (⟨#[]⟩:ByteArray),.slice none 0 0,.int .i64 0]) (t:=42) ?hr ?_;(case hd=>rfl);(case hg=>rfl);(case hr=>first|(go_simp;done)|(go_simp;rfl));intro gb37003 hg w5 hbox hb;have n0_:=Za (ZG (g:=gb37001) (o:=.cells #[.string a0_0,.slice A0_1 l0_1.length c0_1,.int .i64 a0_2] 39 (0,0)) (by(with_reducible repeat(first|refine Zr ?_ _|refine Zt ?_|refine Zs ?_ _));exact BK37001.out) hb);have n1_:=Za (ZG (g:=gb37002) (o:=.cells #[.string (⟨#[]⟩:ByteArray),.slice none 0 0,.int .i64 0] 42 (0,0)) (by(with_reducible repeat(first|refine Zr ?_ _|refine Zt ?_|refine Zs ?_ _));exact BK37002.out) hb);have n2_:=Za (Zw (by repeat(first|(with_reducible first|exact HB.out|apply Zl|apply Zm|apply Zn|refine Zp ?_ GE37001.out|refine Zp ?_ GE37002.out)|exact HB.out)) hb);have n3_:=Za (hbox);have n4_:=Za ((by rw[hg];exact(Zv (by repeat(first|(with_reducible first|exact HB.out|apply Zl|apply Zm|apply Zn|refine Zp ?_ GE37001.out|refine Zp ?_ GE37002.out)|exact HB.out))):w.heap.size≤gb37003));have n5_:=Za ((by rw[hg];exact(Zv (by repeat(first|(with_reducible first|exact HB.out|apply Zl|apply Zm|apply Zn|refine Zp ?_ GE37001.out|refine Zp ?_ GE37002.out)|exact HB.out))):w.heap.size≤gb37003));have n6_:=Za ((by rw[hg];exact Nat.ne_of_lt (ZQ (g:=gb37001) (o:=.cells #[.string a0_0,.slice A0_1 l0_1.length c0_1,.int .i64 a0_2] 39 (0,0)) (by(with_reducible repeat(first|refine Zr ?_ _|refine Zt ?_|refine Zs ?_ _));exact BK37001.out)):gb37001≠gb37003));have n7_:=Za ((by rw[hg];exact Nat.ne_of_gt (ZQ (g:=gb37001) (o:=.cells #[.string a0_0,.slice A0_1 l0_1.length c0_1,.int .i64 a0_2] 39 (0,0)) (by(with_reducible repeat(first|refine Zr ?_ _|refine Zt ?_|refine Zs ?_ _));exact BK37001.out)):gb37003≠gb37001));have n8_:=Za ((by rw[hg];exact Nat.ne_of_lt (ZQ (g:=gb37002) (o:=.cells #[.string (⟨#[]⟩:ByteArray),.slice none 0 0,.int .i64 0] 42 (0,0)) (by(with_reducible repeat(first|refine Zr ?_ _|refine Zt ?_|refine Zs ?_ _));exact BK37002.out)):gb37002≠gb37003));have n9_:=Za ((by rw[hg];exact Nat.ne_of_gt (ZQ (g:=gb37002) (o:=.cells #[.string (⟨#[]⟩:ByteArray),.slice none 0 0,.int .i64 0] 42 (0,0)) (by(with_reducible repeat(first|refine Zr ?_ _|refine Zt ?_|refine Zs ?_ _));exact BK37002.out)):gb37003≠gb37002));clear BK37001;clear BK37002;clear HB;have BK37001:=n0_;have BK37002:=n1_;have HB:=n2_;have BK37003:=n3_;have GW37003:=n4_;have GE37003:=n5_;have NB37001_37003:=n6_;have NB37003_37001:=n7_;have NB37002_37003:=n8_;have NB37003_37002:=n9_;clear n0_ n1_ n2_ n3_ n4_ n5_ n6_ n7_ n8_ n9_;clear hb hbox hg;have hnb6:=NB37001_37002.out;have hnc6:=NB37002_37001.out;have hnb7:=NB37001_37003.out;have hnc7:=NB37003_37001.out;have hcz8_0:w5.cell? ⟨gb37001,0,none⟩=some (.string a0_0):=(Zq BK37001.out 0).trans rfl;have hcz8_1:w5.cell? ⟨gb37001,1,none⟩=some (.slice A0_1 l0_1.length c0_1):=(Zq BK37001.out 1).trans rfl;have hcz8_2:w5.cell? ⟨gb37001,2,none⟩=some (.int .i64 a0_2):=(Zq BK37001.out 2).trans rfl;have hfz8_0:=Zo BK37001.out 0;have hfz8_1:=Zo BK37001.out 1;have hfz8_2:=Zo BK37001.out 2;have hnb9:=NB37003_37002.out;have hnc9:=NB37002_37003.out;have hcz10_0:w5.cell? ⟨gb37003,0,none⟩=some (.string (⟨#[]⟩:ByteArray)):=(Zq BK37003.out 0).trans rfl;have hcz10_1:w5.cell? ⟨gb37003,1,none⟩=some (.slice none 0 0):=(Zq BK37003.out 1).trans rfl;have hcz10_2:w5.cell? ⟨gb37003,2,none⟩=some (.int .i64 0):=(Zq BK37003.out 2).trans rfl;have hfz10_0:=Zo BK37003.out 0;have hfz10_1:=Zo BK37003.out 1;have hfz10_2:=Zo BK37003.out 2)|((with_reducible refine ZS (f:=15) rfl ?_);refine Zal (some 9) rfl rfl Try.func15 (by kernel_rfl) rfl #[.slice A0_1 l0_1.length c0_1] rfl (by(try simp only[List.map_toArray,List.map_cons,List.map_nil]);first|done|rfl|(simp only[Zj,Zi];rfl)) ?_;(with_reducible refine(ZH.calls k _ _ l0_1 t37004 _ ?side1 ?side2 A2.out).mono ?_);(case side1=>exact Zb HR0_1.out (by repeat(first|(with_reducible first|exact HB.out|apply Zl|apply Zm|apply Zn|refine Zp ?_ GE37001.out|refine Zp ?_ GE37002.out|refine Zp ?_ GE37003.out)|exact HB.out)));(case side2=>exact HC0_1.out);rintro e w11 ⟨v37005,rfl,ho0,hb⟩;refine⟨_,rfl,?_⟩;have n0_:=Za (Kd.R_lower ho0 (Zv (by repeat(first|(with_reducible first|exact HB.out|apply Zl|apply Zm|apply Zn|refine Zp ?_ GE37001.out|refine Zp ?_ GE37002.out|refine Zp ?_ GE37003.out)|exact HB.out))));have n1_:=Za (ZG (g:=gb37001) (o:=.cells #[.string a0_0,.slice A0_1 l0_1.length c0_1,.int .i64 a0_2] 39 (0,0)) (by(with_reducible repeat(first|refine Zr ?_ _|refine Zt ?_|refine Zs ?_ _));refine Zaj ?_ NB37001_37003.out _;(with_reducible repeat(first|refine Zr ?_ _|refine Zt ?_|refine Zs ?_ _));exact BK37001.out) hb);have n2_:=Za (ZG (g:=gb37002) (o:=.cells #[.string (⟨#[]⟩:ByteArray),.slice none 0 0,.int .i64 0] 42 (0,0)) (by(with_reducible repeat(first|refine Zr ?_ _|refine Zt ?_|refine Zs ?_ _));refine Zaj ?_ NB37002_37003.out _;(with_reducible repeat(first|refine Zr ?_ _|refine Zt ?_|refine Zs ?_ _));exact BK37002.out) hb);have n3_:=Za (ZG (g:=gb37003) (o:=.cells #[.string a0_0,.slice none 0 0,.int .i64 0] 42 (0,0)) (by(with_reducible repeat(first|refine Zr ?_ _|refine Zt ?_|refine Zs ?_ _));refine Zai (cs:=#[.string (⟨#[]⟩:ByteArray),.slice none 0 0,.int .i64 0]) ?_ 0 _ rfl;(with_reducible repeat(first|refine Zr ?_ _|refine Zt ?_|refine Zs ?_ _));exact BK37003.out) hb);have n4_:=Za (Zw (by repeat(first|(with_reducible first|exact HB.out|apply Zl|apply Zm|apply Zn|refine Zp ?_ GE37001.out|refine Zp ?_ GE37002.out|refine Zp ?_ GE37003.out)|exact HB.out)) hb);clear BK37001;clear BK37002;clear BK37003;clear HB;have HO37006:=n0_;have BK37001:=n1_;have BK37002:=n2_;have BK37003:=n3_;have HB:=n4_;clear n0_ n1_ n2_ n3_ n4_;(try clear hb);(try clear hb2);(try clear hk);(try clear hi);(try clear ho0);obtain⟨Ao12,co12,eo12⟩:=Kd.R_slice HO37006.out;subst eo12;have hcz13_0:w11.cell? ⟨gb37003,0,none⟩=some (.string a0_0):=(Zq BK37003.out 0).trans rfl;have hcz13_1:w11.cell? ⟨gb37003,1,none⟩=some (.slice none 0 0):=(Zq BK37003.out 1).trans rfl;have hcz13_2:w11.cell? ⟨gb37003,2,none⟩=some (.int .i64 0):=(Zq BK37003.out 2).trans rfl;have hfz13_0:=Zo BK37003.out 0;have hfz13_1:=Zo BK37003.out 1;have hfz13_2:=Zo BK37003.out 2;have hcz14_0:w11.cell? ⟨gb37001,0,none⟩=some (.string a0_0):=(Zq BK37001.out 0).trans rfl;have hcz14_1:w11.cell? ⟨gb37001,1,none⟩=some (.slice A0_1 l0_1.length c0_1):=(Zq BK37001.out 1).trans rfl;have hcz14_2:w11.cell? ⟨gb37001,2,none⟩=some (.int .i64 a0_2):=(Zq BK37001.out 2).trans rfl;have hfz14_0:=Zo BK37001.out 0;have hfz14_1:=Zo BK37001.out 1;have hfz14_2:=Zo BK37001.out 2;have hcz15_0:w11.cell? ⟨gb37002,0,none⟩=some (.string (⟨#[]⟩:ByteArray)):=(Zq BK37002.out 0).trans rfl;have hcz15_1:w11.cell? ⟨gb37002,1,none⟩=some (.slice none 0 0):=(Zq BK37002.out 1).trans rfl;have hcz15_2:w11.cell? ⟨gb37002,2,none⟩=some (.int .i64 0):=(Zq BK37002.out 2).trans rfl;have hfz15_0:=Zo BK37002.out 0;have hfz15_1:=Zo BK37002.out 1;have hfz15_2:=Zo BK37002.out 2))
 refine bodyPost_ret (results_cell_row rfl _ _ gb37002 42 #[.string a0_0,.slice Ao12 t37004.length co12,.int .i64 a0_2] (0,0) _ rfl (by(with_reducible repeat(first|refine Zr ?_ _|refine Zt ?_|refine Zs ?_ _));refine Zai (cs:=#[.string a0_0,.slice Ao12 t37004.length co12,.int .i64 0]) ?_ 2 _ rfl;(with_reducible repeat(first|refine Zr ?_ _|refine Zt ?_|refine Zs ?_ _));refine Zai (cs:=#[.string a0_0,.slice none 0 0,.int .i64 0]) ?_ 1 _ rfl;(with_reducible repeat(first|refine Zr ?_ _|refine Zt ?_|refine Zs ?_ _));refine Zai (cs:=#[.string (⟨#[]⟩:ByteArray),.slice none 0 0,.int .i64 0]) ?_ 0 _ rfl;(with_reducible repeat(first|refine Zr ?_ _|refine Zt ?_|refine Zs ?_ _));refine Zaj ?_ NB37002_37003.out _;(with_reducible repeat(first|refine Zr ?_ _|refine Zt ?_|refine Zs ?_ _));refine Zaj ?_ NB37002_37003.out _;(with_reducible repeat(first|refine Zr ?_ _|refine Zt ?_|refine Zs ?_ _));exact BK37002.out) Try.underlying42 rfl (by kernel_rfl)) rfl ?_
 exact⟨_,by first|rfl|(simp[ZC,ZB] <;> rfl)|(simp[*,ZC,ZB] <;> rfl),by(with_reducible repeat(first|apply Kd.R_alloc|apply Kd.R_drewN|apply Kd.R_drew));exact Kd.R_mono (Kd.R_far (p:=⟨gb37002,2,none⟩) (Kd.R_far (p:=⟨gb37002,1,none⟩) (Kd.R_far (p:=⟨gb37002,0,none⟩) (Kd.R_far (p:=⟨gb37003,2,none⟩) (Kd.R_far (p:=⟨gb37003,1,none⟩) (Kd.R_types (Kd.R_types HO37006.out BK37003.out (by decide)) BK37002.out (by decide)) (fun _ hk=>hk.1.2) (.slice Ao12 t37004.length co12)) (fun _ hk=>hk.1.2) (.int .i64 a0_2)) (fun _ hk=>hk.2) (.string a0_0)) (fun _ hk=>hk.2) (.slice Ao12 t37004.length co12)) (fun _ hk=>hk.2) (.int .i64 a0_2)) (fun _ hk=>trivial),by repeat(first|(with_reducible first|exact HB.out|apply Zl|apply Zm|apply Zn|refine Zp ?_ GE37001.out|refine Zp ?_ GE37002.out|refine Zp ?_ GE37003.out)|exact HB.out)⟩
def ZD.l0:Nat→List (S39)→List (S42)→Int→Option ((List (S42)))
 | 0,_,_,_=>none
 | k+1,x0,x3,x4=>if x4<(x0.length:Int) then(if 0≤x4 then((Zaq.f k ((ZJ x0 x4).f0) ((ZJ x0 x4).f1) ((ZJ x0 x4).f2)).bind fun bt69005=>(if x4<(x3.length:Int) then(ZD.l0 k x0 (x3.set (x4:Int).toNat (⟨bt69005.1,bt69005.2.1,bt69005.2.2⟩:S42)) (wrap64 (x4+1))) else(none))) else(none)) else(some x3)
def ZD.f (k:Nat) (l0:List (S39)):Option ((List (S42))):=if 0≤(l0.length:Int) then(if ((l0.length:Int):Int).toNat≤5864062014805 then(ZD.l0 k l0 (List.replicate ((l0.length:Int):Int).toNat z42) 0) else(none)) else(none)
set_option maxHeartbeats 8000000 in
set_option maxRecDepth 100000 in
theorem ZD.calls (k:Nat) (A0:Option Addr) (c0:Nat) (l0:List (S39)) (r:List (S42)) (w:World) (hr0:Kd.C k39 w A0 l0.length l0) (hc0:l0.length≤c0) (h:ZD.f k l0=some r) :
  Calls Try.prog 69 #[.slice A0 l0.length c0] w fun e w'=>∃v0_:Value,e=.returned (v0_)∧Kd.S k42 42 w' w.heap.size (fun _=>True) v0_ r∧Below w.heap.size w w':=by
 have hu39:=Try.underlying39
 have hu42:=Try.underlying42
 have HR0:=Za hr0;have HC0:=Za hc0;clear hr0 hc0
 have HB:=Za (Below.refl w.heap.size w)
 have H:(if 0≤(l0.length:Int) then(if ((l0.length:Int):Int).toNat≤5864062014805 then(ZD.l0 k l0 (List.replicate ((l0.length:Int):Int).toNat z42) 0) else(none)) else(none))=some r:=h
 clear h
 by_cases c2:0≤(l0.length:Int)
 ·rw[if_pos c2] at H
  have c2b0:=eq_true c2
  have c2b1:decide (0≤(l0.length:Int))=true:=Ze c2
  clear c2
  by_cases c3:((l0.length:Int):Int).toNat≤5864062014805
  ·rw[if_pos c3] at H
   have c3b0:=eq_true c3
   have c3b1:decide (((l0.length:Int):Int).toNat≤5864062014805)=true:=Ze c3
   clear c3
   obtain⟨y69001,hy69001⟩:∃y_:List (S42),y_=(List.replicate ((l0.length:Int):Int).toNat z42):=⟨_,rfl⟩
   replace H:(ZD.l0 k l0 y69001 0)=some r:=by first|(rw[hy69001];with_reducible exact H)|(have H2_:=(Zh _ _).symm.trans H;rw[hy69001];with_reducible exact H2_)|(have H2_:=(Zh _ _).symm.trans H;with_reducible exact H2_)|with_reducible exact H|(rw[hy69001];exact H)|exact H
   have Ny69001:=Za hy69001;clear hy69001
   have H':=Za H
   clear H
   go_enter Try.func69,Try.ntmps69
   go_wp2_with (first|((with_reducible refine ZI (N:=7) rfl ?_);refine Kd.S_make k42 _ 42 rfl (N:=7) rfl 52 _ _ rfl (l0.length:Int) rfl rfl Try.underlying52 (.agg #[(.string ⟨#[]⟩),(.slice none 0 0),(.int .i64 0)]) 48 info42 rfl (by decide) (by omega) z42 (ok:=fun _=>True) (okp:=fun _=>True) (k42_mkM _ _ _ z42 (Kd.R_nil _ _ _ _ _)) (fun _ hk=>hk) trivial (Zd (by first|(with_reducible assumption)|assumption)) (Nat.le_trans (Nat.mul_le_mul_right _ (Zd (by first|(with_reducible assumption)|assumption):(l0.length:Int).toNat≤5864062014805)) (by omega)) (Below.refl _ _) (Nat.le_refl _) ?_;intro v69002 w4 ho5 hb hg_ hnew_;clear hg_ hnew_;(first|rw[← Ny69001.out] at ho5|(simp only[Int.reduceToNat] at ho5;rw[← Ny69001.out] at ho5));have n0_:=Za (Kd.S_lower ho5 (Zv (by repeat(first|(with_reducible first|exact HB.out|apply Zl|apply Zm|apply Zn)|exact HB.out))));have n1_:=Za (Zw (by repeat(first|(with_reducible first|exact HB.out|apply Zl|apply Zm|apply Zn)|exact HB.out)) hb);clear HB;have HO69003:=n0_;have HB:=n1_;clear n0_ n1_;clear hb ho5))
   go_loopg [4] k (fun kq v4 w'=>∃(x3_1:List (S42)) (x4_1:Int),v4=.int .i64 x4_1∧Aside0 (ZD.l0 kq l0 x3_1 x4_1=some r)∧Aside0 (kq≤k)∧Aside0 (Kd.S k42 42 w' w.heap.size (fun _=>True) v69002 x3_1)∧Aside0 (Below w.heap.size w w'))
   case atStart=>exact⟨(y69001),(0),(by first|rfl|(simp;done)|(simp[*];done)),H',⟨Nat.le_refl _⟩,⟨by(with_reducible repeat(first|apply Kd.S_alloc|apply Kd.S_drewN|apply Kd.S_drew));exact HO69003.out⟩,⟨by repeat(first|(with_reducible first|exact HB.out|apply Zl|apply Zm|apply Zn)|exact HB.out)⟩⟩
   case round=>
    clear H'
    try clear c2
    try clear c2b0
    try clear c2b1
    try clear p2
    try clear c3
    try clear c3b0
    try clear c3b1
    obtain⟨x3_1,x4_1,rfl,HA,HK1,HO_3,HB⟩:=hrel
    cases gk with
    | zero=>exact absurd HA.out (by simp[ZD.l0])
    | succ k1=>
     have H:=HA.out
     clear HA
     simp only[ZD.l0] at H
     by_cases c6:x4_1<(l0.length:Int)
     ·rw[if_pos c6] at H
      have c6b0:decide (x4_1<(l0.length:Int))=true:=Ze c6
      clear c6
      by_cases c7:0≤x4_1
      ·rw[if_pos c7] at H
       have c7b0:decide (0≤x4_1)=true:=Ze c7
       clear c7
       replace H:=Option.bind_eq_some_iff.mp H
       obtain⟨⟨t69005,t69006,t69009⟩,A80,H⟩:=H
       replace H:(if x4_1<(x3_1.length:Int) then(ZD.l0 k1 l0 (x3_1.set (x4_1:Int).toNat (⟨t69005,t69006,t69009⟩:S42)) (wrap64 (x4_1+1))) else(none))=some r:=H
       have A8:=Za A80;clear A80
       by_cases c9:x4_1<(x3_1.length:Int)
       ·rw[if_pos c9] at H
        have c9b0:decide (x4_1<(x3_1.length:Int))=true:=Ze c9
        clear c9
        obtain⟨y69010,hy69010⟩:∃y_:List (S42),y_=(x3_1.set (x4_1:Int).toNat (⟨t69005,t69006,t69009⟩:S42)):=⟨_,rfl⟩
        replace H:(ZD.l0 k1 l0 y69010 (wrap64 (x4_1+1)))=some r:=by first|(rw[hy69010];with_reducible exact H)|(have H2_:=(Zh _ _).symm.trans H;rw[hy69010];with_reducible exact H2_)|(have H2_:=(Zh _ _).symm.trans H;with_reducible exact H2_)|with_reducible exact H|(rw[hy69010];exact H)|exact H
        have Ny69010:=Za hy69010;clear hy69010
        have H':=Za H
        clear H
        have p69004:0≤(x4_1:Int):=Zd (by first|(with_reducible assumption)|assumption)
        have q69004:x4_1<(l0.length:Int):=Zd (by first|(with_reducible assumption)|assumption)
        obtain⟨ad69004,A69004_1,c69004_1,e69004,hx69004_0,hx69004_1,hx69004_2,hl69004_1,hi69004_1⟩:=at_T39 HR0.out x4_1 p69004 q69004
        cases e69004
        replace hx69004_0:=(HB.out.cell (Zc w _ hx69004_0)).trans hx69004_0
        replace hx69004_1:=(HB.out.cell (Zc w _ hx69004_1)).trans hx69004_1
        replace hx69004_2:=(HB.out.cell (Zc w _ hx69004_2)).trans hx69004_2
        have HR69004_1:=Za hi69004_1;have HC69004_1:=Za hl69004_1;clear hi69004_1 hl69004_1
        replace p69004:=eq_true p69004
        replace q69004:=eq_true q69004
        go_wp2_with (first|((with_reducible refine ZS (f:=37) rfl ?_);refine Zal (some 20) rfl rfl Try.func37 (by kernel_rfl) rfl #[.agg #[.string ((ZJ l0 x4_1).f0),.slice A69004_1 ((ZJ l0 x4_1).f1).length c69004_1,.int .i64 ((ZJ l0 x4_1).f2)]] rfl (by(try simp only[List.map_toArray,List.map_cons,List.map_nil]);first|done|rfl|(simp only[Zj,Zi];rfl)) ?_;(with_reducible refine(Zaq.calls k1 ((ZJ l0 x4_1).f0) _ _ ((ZJ l0 x4_1).f1) ((ZJ l0 x4_1).f2) t69005 t69006 t69009 _ ?side1 ?side2 A8.out).mono ?_);(case side1=>repeat(first|exact(Zb HR69004_1.out HB.out)|(with_reducible refine Kd.C_alloc ?_ _)|(with_reducible refine Kd.C_drewN ?_ _)|(with_reducible refine Kd.C_drew ?_)));(case side2=>exact HC69004_1.out);rintro e w11 ⟨v69007,rfl,ho0,hb⟩;refine⟨_,rfl,?_⟩;have n0_:=Za (Kd.S_elder' (by(with_reducible repeat(first|apply Kd.S_alloc|apply Kd.S_drewN|apply Kd.S_drew));exact HO_3.out) (Kd.R_base ho0) hb);have n1_:=Za (Kd.R_lower ho0 (Zv (by repeat(first|(with_reducible first|exact HB.out|apply Zl|apply Zm|apply Zn)|exact HB.out))));have n2_:=Za (Zw (by repeat(first|(with_reducible first|exact HB.out|apply Zl|apply Zm|apply Zn)|exact HB.out)) hb);clear HO_3;clear HB;have HO_3:=n0_;have HO69008:=n1_;have HB:=n2_;clear n0_ n1_ n2_;(try clear hb);(try clear hb2);(try clear hk);(try clear hi);(try clear ho0);obtain⟨As_,cs_,es_⟩:=Kd.R_slice HO69008.out;subst es_;have p10:0≤(x4_1:Int):=Zd (by first|(with_reducible assumption)|assumption);have q10:(x4_1:Int)<((x3_1.length:Int):Int):=Zd (by first|(with_reducible assumption)|assumption);obtain⟨go10,co10,eo10,gb10,gl10,cl10,HG10⟩:=Kd.S_form HO_3.out (by omega);(first|cases eo10|(injection eo10 with ea_ en_ ec_;(first|subst ea_|(injection ea_ with ea_;subst ea_));subst ec_;clear en_));have GB10:=Za gb10;have GG10:=Za HG10;clear gb10 gl10 HG10;obtain⟨_,ce10,hcl10,hM10,hcc10,hfr10,_,_⟩:=Kd.S_elem HO_3.out z42 (x4_1:Int) p10 q10;obtain⟨ve10_1,rfl,ge10_1⟩:=k42_openM hM10;have hx10_0:w11.cell? ⟨go10,(x4_1:Int).toNat * 3,none⟩=some (.string ((Z5 x3_1 x4_1).f0)):=hcc10 0 _ rfl;have hx10_1:w11.cell? ⟨go10,(x4_1:Int).toNat * 3+1,none⟩=some (ve10_1):=hcc10 1 _ rfl;have hx10_2:w11.cell? ⟨go10,(x4_1:Int).toNat * 3+2,none⟩=some (.int .i64 ((Z5 x3_1 x4_1).f2)):=hcc10 2 _ rfl;have hf10_0:w11.frozen? ⟨go10,(x4_1:Int).toNat * 3,none⟩=false:=hfr10 0;have hf10_1:w11.frozen? ⟨go10,(x4_1:Int).toNat * 3+1,none⟩=false:=hfr10 1;have hf10_2:w11.frozen? ⟨go10,(x4_1:Int).toNat * 3+2,none⟩=false:=hfr10 2;clear hcl10 hcc10 hfr10 hM10;replace p10:=eq_true p10;replace q10:=eq_true q10;have n_:=Za (Kd.S_mono (ok':=(fun k_=>some k_≠(.slice As_ t69006.length cs_:Value).ownBlock)) HO_3.out (fun k_ hk=>hk.2));clear HO_3;have HO_3:=n_;clear n_;have HX12:=Za (show Kd.S k42 42 w11 w.heap.size (fun k_=>((fun _=>True)) k_∧¬((fun k_=>some k_=(.slice As_ t69006.length cs_:Value).ownBlock)) k_) (.slice (some ⟨go10,0,none⟩) x3_1.length co10) x3_1 from(by(with_reducible repeat(first|apply Kd.S_alloc|apply Kd.S_drewN|apply Kd.S_drew));exact Kd.S_mono HO_3.out (fun k_ hk=>⟨trivial,fun e_=>hk e_⟩)));obtain⟨oki12,ce12,hcl12,hM12,hcc12,hfr12,hoki12,hH12⟩:=Kd.S_elem HX12.out z42 (x4_1:Int) (Zd (by first|(with_reducible assumption)|assumption)) (by have h_:(x4_1:Int)<((x3_1.length:Int):Int):=Zd (by first|(with_reducible assumption)|assumption);first|exact h_|(have e_:=(Kd.S_reads' HO_3.out).1;omega)|simpa using h_);obtain⟨ve12_1,rfl,ge12_1⟩:=k42_openM hM12;have HP12:=Kd.S_seg hH12 (Zd (by first|(with_reducible assumption)|assumption)) (by have h_:(x4_1:Int)<((x3_1.length:Int):Int):=Zd (by first|(with_reducible assumption)|assumption);first|exact h_|(have e_:=(Kd.S_reads' HO_3.out).1;omega)|simpa using h_) (seg:=[.string t69005,(.slice As_ t69006.length cs_),.int .i64 t69009]) (j:=0) (show 3≤3 from by decide) (x':=(⟨t69005,t69006,t69009⟩:S42)) (k42_mkM _ _ _ (⟨t69005,t69006,t69009⟩:S42) (Kd.R_mono (Kd.R_tight rfl (Kd.R_mono (ok':=fun k_=>((fun _=>True)) k_∧k_≠go10) (Kd.R_apart' (HO69008.out) (Kd.S_typed HO_3.out) (by decide)) (fun k_ hk=>⟨trivial,fun e_=>(hk.2) (by rw[e_];rfl)⟩))) (fun _ h_=>Or.inr (h_)))) (fun _ hk=>hk) (fun k_ hk_=>((Kd.R_mono (ok':=fun k_=>((fun _=>True)) k_∧k_≠go10) (Kd.R_apart' (HO69008.out) (Kd.S_typed HO_3.out) (by decide)) (fun k_ hk=>⟨trivial,fun e_=>(hk.2) (by rw[e_];rfl)⟩))).1 k_ hk_.symm);have hx12_0:=hcc12 0 _ rfl;(try simp only[show(k42).sz=3 from rfl,Nat.mul_one,Nat.add_zero] at hx12_0);have hf12_0:=hfr12 0;(try simp only[show(k42).sz=3 from rfl,Nat.mul_one,Nat.add_zero] at hf12_0);have hx12_1:=hcc12 1 _ rfl;(try simp only[show(k42).sz=3 from rfl,Nat.mul_one,Nat.add_zero] at hx12_1);have hf12_1:=hfr12 1;(try simp only[show(k42).sz=3 from rfl,Nat.mul_one,Nat.add_zero] at hf12_1);have hx12_2:=hcc12 2 _ rfl;(try simp only[show(k42).sz=3 from rfl,Nat.mul_one,Nat.add_zero] at hx12_2);have hf12_2:=hfr12 2;(try simp only[show(k42).sz=3 from rfl,Nat.mul_one,Nat.add_zero] at hf12_2);clear hcl12 hcc12 hfr12 hM12 hoki12 hH12)|((with_reducible refine ZaW (t:=42) (p:=21) rfl ?_);refine ZaS (t:=42) (p:=21) (v:=?vo_w13) (w1:=(((w11.setCell ⟨go10,(x4_1:Int).toNat * 3,none⟩ (.string t69005)).setCell ⟨go10,(x4_1:Int).toNat * 3+1,none⟩ (.slice As_ t69006.length cs_)).setCell ⟨go10,(x4_1:Int).toNat * 3+2,none⟩ (.int .i64 t69009))) ?hg ?ho ?hn ?hr ?_;(case ho=>rfl);(case hg=>rfl);(case hn=>rfl);(case hr=>first|(go_simp;done)|(go_simp;rfl));intro w13 hw;have hg:w11.grownBy w13 (some go10):=(by rw[hw];exact HP12.2);have hp_:Kd.S k42 42 w13 w.heap.size (fun _=>True) (.slice (some ⟨go10,0,none⟩) x3_1.length co10) y69010:=(by rw[hw,Ny69010.out];exact HP12.1);clear HP12;have n0_:=Za (hp_);have n1_:=Za ((by rw[hw];exact Zp (Zp (Zp (HB.out) GB10.out) GB10.out) GB10.out:Below w.heap.size w w13));clear HO_3;clear HB;clear HO69008;have HO_3:=n0_;have HB:=n1_;clear n0_ n1_;clear hg hw hp_))
        go_roundg k1
        case measure=>have:=HK1.out;omega
        case rel=>exact⟨(y69010),(wrap64 (x4_1+1)),(by first|rfl|(simp;done)|(simp[*];done)),H',⟨by have:=HK1.out;omega⟩,⟨by(with_reducible repeat(first|apply Kd.S_alloc|apply Kd.S_drewN|apply Kd.S_drew));exact HO_3.out⟩,⟨by repeat(first|(with_reducible first|exact HB.out|apply Zl|apply Zm|apply Zn)|exact HB.out)⟩⟩
       ·rw[if_neg c9] at H
        exact absurd H (by simp)
      ·rw[if_neg c7] at H
       exact absurd H (by simp)
     ·rw[if_neg c6] at H
      have c6b0:decide (x4_1<(l0.length:Int))=false:=Zf c6
      clear c6
      obtain rfl:=Zg H
      go_wp2
      go_ret
      exact⟨_,by first|rfl|(simp[ZC,ZB] <;> rfl)|(simp[*,ZC,ZB] <;> rfl),by(with_reducible repeat(first|apply Kd.S_alloc|apply Kd.S_drewN|apply Kd.S_drew));exact HO_3.out,by repeat(first|(with_reducible first|exact HB.out|apply Zl|apply Zm|apply Zn)|exact HB.out)⟩
  ·rw[if_neg c3] at H
   exact absurd H (by simp)
 ·rw[if_neg c2] at H
  exact absurd H (by simp)
def Zaw.f (a0_0:Int) (a0_1:Int) (a0_2:Int) (a0_3:Int) (a0_4:Bool):Option (Int×Int×Int×Int×Bool):=some (a0_0,a0_1,a0_2,a0_3,a0_4)
set_option maxHeartbeats 8000000 in
set_option maxRecDepth 100000 in
theorem Zaw.calls (a0_0:Int) (a0_1:Int) (a0_2:Int) (a0_3:Int) (a0_4:Bool) (r1:Int) (r2:Int) (r3:Int) (r4:Int) (r5:Bool) (w:World) (h:Zaw.f a0_0 a0_1 a0_2 a0_3 a0_4=some (r1,r2,r3,r4,r5)) :
  Calls Try.prog 85 #[.agg #[.int .i64 a0_0,.int .i64 a0_1,.int .i64 a0_2,.int .i64 a0_3,.bool a0_4]] w fun e w'=>e=.returned (.agg #[.int .i64 r1,.int .i64 r2,.int .i64 r3,.int .i64 r4,.bool r5])∧Below w.heap.size w w':=by
 have hu84:=Try.underlying84
 have hu77:=Try.underlying77
 have HB:=Za (Below.refl w.heap.size w)
 have H:(some (a0_0,a0_1,a0_2,a0_3,a0_4))=some (r1,r2,r3,r4,r5):=h
 clear h
 simp only[Option.some.injEq,Prod.mk.injEq] at H
 obtain⟨rfl,rfl,rfl,rfl,rfl⟩:=H
 go_enter Try.func85,Try.ntmps85
 go_wp2_with (first|((with_reducible refine ZI (N:=1) rfl ?_);refine ZK ?hg (N:=1) ?hd (cs:=#[.int .i64 a0_0,.int .i64 a0_1,.int .i64 a0_2,.int .i64 a0_3,.bool a0_4]) (t:=84) ?hr ?_;(case hd=>rfl);(case hg=>rfl);(case hr=>first|(go_simp;done)|(go_simp;rfl));intro gb85001 hg w2 hbox hb;have n0_:=Za (Zw (by repeat(first|(with_reducible first|exact HB.out|apply Zl|apply Zm|apply Zn)|exact HB.out)) hb);have n1_:=Za (hbox);have n2_:=Za ((by rw[hg];exact(Zv (by repeat(first|(with_reducible first|exact HB.out|apply Zl|apply Zm|apply Zn)|exact HB.out))):w.heap.size≤gb85001));have n3_:=Za ((by rw[hg];exact(Zv (by repeat(first|(with_reducible first|exact HB.out|apply Zl|apply Zm|apply Zn)|exact HB.out))):w.heap.size≤gb85001));clear HB;have HB:=n0_;have BK85001:=n1_;have GW85001:=n2_;have GE85001:=n3_;clear n0_ n1_ n2_ n3_;clear hb hbox hg)|((with_reducible refine ZI (N:=2) rfl ?_);refine ZK ?hg (N:=2) ?hd (cs:=#[.int .i64 0,.int .i64 0,.int .i64 0,.int .i64 0,.bool false]) (t:=77) ?hr ?_;(case hd=>rfl);(case hg=>rfl);(case hr=>first|(go_simp;done)|(go_simp;rfl));intro gb85002 hg w3 hbox hb;have n0_:=Za (ZG (g:=gb85001) (o:=.cells #[.int .i64 a0_0,.int .i64 a0_1,.int .i64 a0_2,.int .i64 a0_3,.bool a0_4] 84 (0,0)) (by(with_reducible repeat(first|refine Zr ?_ _|refine Zt ?_|refine Zs ?_ _));exact BK85001.out) hb);have n1_:=Za (Zw (by repeat(first|(with_reducible first|exact HB.out|apply Zl|apply Zm|apply Zn|refine Zp ?_ GE85001.out)|exact HB.out)) hb);have n2_:=Za (hbox);have n3_:=Za ((by rw[hg];exact(Zv (by repeat(first|(with_reducible first|exact HB.out|apply Zl|apply Zm|apply Zn|refine Zp ?_ GE85001.out)|exact HB.out))):w.heap.size≤gb85002));have n4_:=Za ((by rw[hg];exact(Zv (by repeat(first|(with_reducible first|exact HB.out|apply Zl|apply Zm|apply Zn|refine Zp ?_ GE85001.out)|exact HB.out))):w.heap.size≤gb85002));have n5_:=Za ((by rw[hg];exact Nat.ne_of_lt (ZQ (g:=gb85001) (o:=.cells #[.int .i64 a0_0,.int .i64 a0_1,.int .i64 a0_2,.int .i64 a0_3,.bool a0_4] 84 (0,0)) (by(with_reducible repeat(first|refine Zr ?_ _|refine Zt ?_|refine Zs ?_ _));exact BK85001.out)):gb85001≠gb85002));have n6_:=Za ((by rw[hg];exact Nat.ne_of_gt (ZQ (g:=gb85001) (o:=.cells #[.int .i64 a0_0,.int .i64 a0_1,.int .i64 a0_2,.int .i64 a0_3,.bool a0_4] 84 (0,0)) (by(with_reducible repeat(first|refine Zr ?_ _|refine Zt ?_|refine Zs ?_ _));exact BK85001.out)):gb85002≠gb85001));clear BK85001;clear HB;have BK85001:=n0_;have HB:=n1_;have BK85002:=n2_;have GW85002:=n3_;have GE85002:=n4_;have NB85001_85002:=n5_;have NB85002_85001:=n6_;clear n0_ n1_ n2_ n3_ n4_ n5_ n6_;clear hb hbox hg)|((with_reducible refine ZI (N:=3) rfl ?_);refine ZK ?hg (N:=3) ?hd (cs:=#[.int .i64 0,.int .i64 0,.int .i64 0,.int .i64 0,.bool false]) (t:=77) ?hr ?_;(case hd=>rfl);(case hg=>rfl);(case hr=>first|(go_simp;done)|(go_simp;rfl));intro gb85003 hg w4 hbox hb;have n0_:=Za (ZG (g:=gb85001) (o:=.cells #[.int .i64 a0_0,.int .i64 a0_1,.int .i64 a0_2,.int .i64 a0_3,.bool a0_4] 84 (0,0)) (by(with_reducible repeat(first|refine Zr ?_ _|refine Zt ?_|refine Zs ?_ _));exact BK85001.out) hb);have n1_:=Za (ZG (g:=gb85002) (o:=.cells #[.int .i64 0,.int .i64 0,.int .i64 0,.int .i64 0,.bool false] 77 (0,0)) (by(with_reducible repeat(first|refine Zr ?_ _|refine Zt ?_|refine Zs ?_ _));exact BK85002.out) hb);have n2_:=Za (Zw (by repeat(first|(with_reducible first|exact HB.out|apply Zl|apply Zm|apply Zn|refine Zp ?_ GE85001.out|refine Zp ?_ GE85002.out)|exact HB.out)) hb);have n3_:=Za (hbox);have n4_:=Za ((by rw[hg];exact(Zv (by repeat(first|(with_reducible first|exact HB.out|apply Zl|apply Zm|apply Zn|refine Zp ?_ GE85001.out|refine Zp ?_ GE85002.out)|exact HB.out))):w.heap.size≤gb85003));have n5_:=Za ((by rw[hg];exact(Zv (by repeat(first|(with_reducible first|exact HB.out|apply Zl|apply Zm|apply Zn|refine Zp ?_ GE85001.out|refine Zp ?_ GE85002.out)|exact HB.out))):w.heap.size≤gb85003));have n6_:=Za ((by rw[hg];exact Nat.ne_of_lt (ZQ (g:=gb85001) (o:=.cells #[.int .i64 a0_0,.int .i64 a0_1,.int .i64 a0_2,.int .i64 a0_3,.bool a0_4] 84 (0,0)) (by(with_reducible repeat(first|refine Zr ?_ _|refine Zt ?_|refine Zs ?_ _));exact BK85001.out)):gb85001≠gb85003));have n7_:=Za ((by rw[hg];exact Nat.ne_of_gt (ZQ (g:=gb85001) (o:=.cells #[.int .i64 a0_0,.int .i64 a0_1,.int .i64 a0_2,.int .i64 a0_3,.bool a0_4] 84 (0,0)) (by(with_reducible repeat(first|refine Zr ?_ _|refine Zt ?_|refine Zs ?_ _));exact BK85001.out)):gb85003≠gb85001));have n8_:=Za ((by rw[hg];exact Nat.ne_of_lt (ZQ (g:=gb85002) (o:=.cells #[.int .i64 0,.int .i64 0,.int .i64 0,.int .i64 0,.bool false] 77 (0,0)) (by(with_reducible repeat(first|refine Zr ?_ _|refine Zt ?_|refine Zs ?_ _));exact BK85002.out)):gb85002≠gb85003));have n9_:=Za ((by rw[hg];exact Nat.ne_of_gt (ZQ (g:=gb85002) (o:=.cells #[.int .i64 0,.int .i64 0,.int .i64 0,.int .i64 0,.bool false] 77 (0,0)) (by(with_reducible repeat(first|refine Zr ?_ _|refine Zt ?_|refine Zs ?_ _));exact BK85002.out)):gb85003≠gb85002));clear BK85001;clear BK85002;clear HB;have BK85001:=n0_;have BK85002:=n1_;have HB:=n2_;have BK85003:=n3_;have GW85003:=n4_;have GE85003:=n5_;have NB85001_85003:=n6_;have NB85003_85001:=n7_;have NB85002_85003:=n8_;have NB85003_85002:=n9_;clear n0_ n1_ n2_ n3_ n4_ n5_ n6_ n7_ n8_ n9_;clear hb hbox hg;have hnb5:=NB85001_85002.out;have hnc5:=NB85002_85001.out;have hnb6:=NB85001_85003.out;have hnc6:=NB85003_85001.out;have hcz7_0:w4.cell? ⟨gb85001,0,none⟩=some (.int .i64 a0_0):=(Zq BK85001.out 0).trans rfl;have hcz7_1:w4.cell? ⟨gb85001,1,none⟩=some (.int .i64 a0_1):=(Zq BK85001.out 1).trans rfl;have hcz7_2:w4.cell? ⟨gb85001,2,none⟩=some (.int .i64 a0_2):=(Zq BK85001.out 2).trans rfl;have hcz7_3:w4.cell? ⟨gb85001,3,none⟩=some (.int .i64 a0_3):=(Zq BK85001.out 3).trans rfl;have hcz7_4:w4.cell? ⟨gb85001,4,none⟩=some (.bool a0_4):=(Zq BK85001.out 4).trans rfl;have hfz7_0:=Zo BK85001.out 0;have hfz7_1:=Zo BK85001.out 1;have hfz7_2:=Zo BK85001.out 2;have hfz7_3:=Zo BK85001.out 3;have hfz7_4:=Zo BK85001.out 4;have hnb8:=NB85003_85002.out;have hnc8:=NB85002_85003.out;have hcz9_0:w4.cell? ⟨gb85003,0,none⟩=some (.int .i64 0):=(Zq BK85003.out 0).trans rfl;have hcz9_1:w4.cell? ⟨gb85003,1,none⟩=some (.int .i64 0):=(Zq BK85003.out 1).trans rfl;have hcz9_2:w4.cell? ⟨gb85003,2,none⟩=some (.int .i64 0):=(Zq BK85003.out 2).trans rfl;have hcz9_3:w4.cell? ⟨gb85003,3,none⟩=some (.int .i64 0):=(Zq BK85003.out 3).trans rfl;have hcz9_4:w4.cell? ⟨gb85003,4,none⟩=some (.bool false):=(Zq BK85003.out 4).trans rfl;have hfz9_0:=Zo BK85003.out 0;have hfz9_1:=Zo BK85003.out 1;have hfz9_2:=Zo BK85003.out 2;have hfz9_3:=Zo BK85003.out 3;have hfz9_4:=Zo BK85003.out 4;have hcz10_0:w4.cell? ⟨gb85002,0,none⟩=some (.int .i64 0):=(Zq BK85002.out 0).trans rfl;have hcz10_1:w4.cell? ⟨gb85002,1,none⟩=some (.int .i64 0):=(Zq BK85002.out 1).trans rfl;have hcz10_2:w4.cell? ⟨gb85002,2,none⟩=some (.int .i64 0):=(Zq BK85002.out 2).trans rfl;have hcz10_3:w4.cell? ⟨gb85002,3,none⟩=some (.int .i64 0):=(Zq BK85002.out 3).trans rfl;have hcz10_4:w4.cell? ⟨gb85002,4,none⟩=some (.bool false):=(Zq BK85002.out 4).trans rfl;have hfz10_0:=Zo BK85002.out 0;have hfz10_1:=Zo BK85002.out 1;have hfz10_2:=Zo BK85002.out 2;have hfz10_3:=Zo BK85002.out 3;have hfz10_4:=Zo BK85002.out 4))
 refine bodyPost_ret (results_cell_row rfl _ _ gb85002 77 #[.int .i64 a0_0,.int .i64 a0_1,.int .i64 a0_2,.int .i64 a0_3,.bool a0_4] (0,0) _ rfl (by(with_reducible repeat(first|refine Zr ?_ _|refine Zt ?_|refine Zs ?_ _));refine Zai (cs:=#[.int .i64 a0_0,.int .i64 a0_1,.int .i64 a0_2,.int .i64 a0_3,.bool false]) ?_ 4 _ rfl;(with_reducible repeat(first|refine Zr ?_ _|refine Zt ?_|refine Zs ?_ _));refine Zai (cs:=#[.int .i64 a0_0,.int .i64 a0_1,.int .i64 a0_2,.int .i64 0,.bool false]) ?_ 3 _ rfl;(with_reducible repeat(first|refine Zr ?_ _|refine Zt ?_|refine Zs ?_ _));refine Zai (cs:=#[.int .i64 a0_0,.int .i64 a0_1,.int .i64 0,.int .i64 0,.bool false]) ?_ 2 _ rfl;(with_reducible repeat(first|refine Zr ?_ _|refine Zt ?_|refine Zs ?_ _));refine Zai (cs:=#[.int .i64 a0_0,.int .i64 0,.int .i64 0,.int .i64 0,.bool false]) ?_ 1 _ rfl;(with_reducible repeat(first|refine Zr ?_ _|refine Zt ?_|refine Zs ?_ _));refine Zai (cs:=#[.int .i64 0,.int .i64 0,.int .i64 0,.int .i64 0,.bool false]) ?_ 0 _ rfl;(with_reducible repeat(first|refine Zr ?_ _|refine Zt ?_|refine Zs ?_ _));refine Zaj ?_ NB85002_85003.out _;(with_reducible repeat(first|refine Zr ?_ _|refine Zt ?_|refine Zs ?_ _));refine Zaj ?_ NB85002_85003.out _;(with_reducible repeat(first|refine Zr ?_ _|refine Zt ?_|refine Zs ?_ _));refine Zaj ?_ NB85002_85003.out _;(with_reducible repeat(first|refine Zr ?_ _|refine Zt ?_|refine Zs ?_ _));refine Zaj ?_ NB85002_85003.out _;(with_reducible repeat(first|refine Zr ?_ _|refine Zt ?_|refine Zs ?_ _));refine Zaj ?_ NB85002_85003.out _;(with_reducible repeat(first|refine Zr ?_ _|refine Zt ?_|refine Zs ?_ _));exact BK85002.out) Try.underlying77 rfl (by kernel_rfl)) rfl ?_
 exact⟨by first|rfl|(simp[ZC,ZB] <;> rfl)|(simp[*,ZC,ZB] <;> rfl),by repeat(first|(with_reducible first|exact HB.out|apply Zl|apply Zm|apply Zn|refine Zp ?_ GE85001.out|refine Zp ?_ GE85002.out|refine Zp ?_ GE85003.out)|exact HB.out)⟩
def ZF.l0:Nat→List (S84)→List (S77)→Int→Option ((List (S77)))
 | 0,_,_,_=>none
 | k+1,x0,x3,x4=>if x4<(x0.length:Int) then(if 0≤x4 then((Zaw.f ((ZZ x0 x4).f0) ((ZZ x0 x4).f1) ((ZZ x0 x4).f2) ((ZZ x0 x4).f3) ((ZZ x0 x4).f4)).bind fun bt70005=>(if x4<(x3.length:Int) then(ZF.l0 k x0 (x3.set (x4:Int).toNat (⟨bt70005.1,bt70005.2.1,bt70005.2.2.1,bt70005.2.2.2.1,bt70005.2.2.2.2⟩:S77)) (wrap64 (x4+1))) else(none))) else(none)) else(some x3)
def ZF.f (k:Nat) (l0:List (S84)):Option ((List (S77))):=if 0≤(l0.length:Int) then(if ((l0.length:Int):Int).toNat≤7036874417766 then(ZF.l0 k l0 (List.replicate ((l0.length:Int):Int).toNat z77) 0) else(none)) else(none)
set_option maxHeartbeats 8000000 in
set_option maxRecDepth 100000 in
theorem ZF.calls (k:Nat) (A0:Option Addr) (c0:Nat) (l0:List (S84)) (r:List (S77)) (w:World) (hr0:Kd.C k84 w A0 l0.length l0) (hc0:l0.length≤c0) (h:ZF.f k l0=some r) :
  Calls Try.prog 70 #[.slice A0 l0.length c0] w fun e w'=>∃v0_:Value,e=.returned (v0_)∧Kd.R k77 77 w' w.heap.size (fun _=>True) v0_ r∧Below w.heap.size w w':=by
 have hu84:=Try.underlying84
 have hu77:=Try.underlying77
 have HR0:=Za hr0;have HC0:=Za hc0;clear hr0 hc0
 have HB:=Za (Below.refl w.heap.size w)
 have H:(if 0≤(l0.length:Int) then(if ((l0.length:Int):Int).toNat≤7036874417766 then(ZF.l0 k l0 (List.replicate ((l0.length:Int):Int).toNat z77) 0) else(none)) else(none))=some r:=h
 clear h
 by_cases c2:0≤(l0.length:Int)
 ·rw[if_pos c2] at H
  have c2b0:=eq_true c2
  have c2b1:decide (0≤(l0.length:Int))=true:=Ze c2
  clear c2
  by_cases c3:((l0.length:Int):Int).toNat≤7036874417766
  ·rw[if_pos c3] at H
   have c3b0:=eq_true c3
   have c3b1:decide (((l0.length:Int):Int).toNat≤7036874417766)=true:=Ze c3
   clear c3
   obtain⟨y70001,hy70001⟩:∃y_:List (S77),y_=(List.replicate ((l0.length:Int):Int).toNat z77):=⟨_,rfl⟩
   replace H:(ZF.l0 k l0 y70001 0)=some r:=by first|(rw[hy70001];with_reducible exact H)|(have H2_:=(Zh _ _).symm.trans H;rw[hy70001];with_reducible exact H2_)|(have H2_:=(Zh _ _).symm.trans H;with_reducible exact H2_)|with_reducible exact H|(rw[hy70001];exact H)|exact H
   have Ny70001:=Za hy70001;clear hy70001
   have H':=Za H
   clear H
   go_enter Try.func70,Try.ntmps70
   go_wp2_with (first|((with_reducible refine ZI (N:=7) rfl ?_);refine Kd.R_make k77 _ 77 rfl (N:=7) rfl 53 _ _ rfl (l0.length:Int) rfl rfl Try.underlying53 (.agg #[(.int .i64 0),(.int .i64 0),(.int .i64 0),(.int .i64 0),(.bool false)]) 40 info77 rfl (by decide) (by omega) z77 (ok:=fun _=>True) (okp:=fun _=>True) (k77_mkM _ _ _ z77 ) (fun _ hk=>hk) trivial (Zd (by first|(with_reducible assumption)|assumption)) (Nat.le_trans (Nat.mul_le_mul_right _ (Zd (by first|(with_reducible assumption)|assumption):(l0.length:Int).toNat≤7036874417766)) (by omega)) (Below.refl _ _) (Nat.le_refl _) ?_;intro v70002 w4 ho5 hb hg_ hnew_;clear hg_ hnew_;(first|rw[← Ny70001.out] at ho5|(simp only[Int.reduceToNat] at ho5;rw[← Ny70001.out] at ho5));have n0_:=Za (Kd.R_lower ho5 (Zv (by repeat(first|(with_reducible first|exact HB.out|apply Zl|apply Zm|apply Zn)|exact HB.out))));have n1_:=Za (Zw (by repeat(first|(with_reducible first|exact HB.out|apply Zl|apply Zm|apply Zn)|exact HB.out)) hb);clear HB;have HO70003:=n0_;have HB:=n1_;clear n0_ n1_;clear hb ho5))
   go_loopg [4] k (fun kq v4 w'=>∃(x3_1:List (S77)) (x4_1:Int),v4=.int .i64 x4_1∧Aside0 (ZF.l0 kq l0 x3_1 x4_1=some r)∧Aside0 (kq≤k)∧Aside0 (Kd.R k77 77 w' w.heap.size (fun _=>True) v70002 x3_1)∧Aside0 (Below w.heap.size w w'))
   case atStart=>exact⟨(y70001),(0),(by first|rfl|(simp;done)|(simp[*];done)),H',⟨Nat.le_refl _⟩,⟨by(with_reducible repeat(first|apply Kd.R_alloc|apply Kd.R_drewN|apply Kd.R_drew));exact HO70003.out⟩,⟨by repeat(first|(with_reducible first|exact HB.out|apply Zl|apply Zm|apply Zn)|exact HB.out)⟩⟩
   case round=>
    clear H'
    try clear c2
    try clear c2b0
    try clear c2b1
    try clear p2
    try clear c3
    try clear c3b0
    try clear c3b1
    obtain⟨x3_1,x4_1,rfl,HA,HK1,HO_3,HB⟩:=hrel
    cases gk with
    | zero=>exact absurd HA.out (by simp[ZF.l0])
    | succ k1=>
     have H:=HA.out
     clear HA
     simp only[ZF.l0] at H
     by_cases c6:x4_1<(l0.length:Int)
     ·rw[if_pos c6] at H
      have c6b0:decide (x4_1<(l0.length:Int))=true:=Ze c6
      clear c6
      by_cases c7:0≤x4_1
      ·rw[if_pos c7] at H
       have c7b0:decide (0≤x4_1)=true:=Ze c7
       clear c7
       replace H:=Option.bind_eq_some_iff.mp H
       obtain⟨⟨t70005,t70006,t70007,t70008,t70009⟩,A80,H⟩:=H
       replace H:(if x4_1<(x3_1.length:Int) then(ZF.l0 k1 l0 (x3_1.set (x4_1:Int).toNat (⟨t70005,t70006,t70007,t70008,t70009⟩:S77)) (wrap64 (x4_1+1))) else(none))=some r:=H
       have A8:=Za A80;clear A80
       by_cases c9:x4_1<(x3_1.length:Int)
       ·rw[if_pos c9] at H
        have c9b0:decide (x4_1<(x3_1.length:Int))=true:=Ze c9
        clear c9
        obtain⟨y70010,hy70010⟩:∃y_:List (S77),y_=(x3_1.set (x4_1:Int).toNat (⟨t70005,t70006,t70007,t70008,t70009⟩:S77)):=⟨_,rfl⟩
        replace H:(ZF.l0 k1 l0 y70010 (wrap64 (x4_1+1)))=some r:=by first|(rw[hy70010];with_reducible exact H)|(have H2_:=(Zh _ _).symm.trans H;rw[hy70010];with_reducible exact H2_)|(have H2_:=(Zh _ _).symm.trans H;with_reducible exact H2_)|with_reducible exact H|(rw[hy70010];exact H)|exact H
        have Ny70010:=Za hy70010;clear hy70010
        have H':=Za H
        clear H
        have p70004:0≤(x4_1:Int):=Zd (by first|(with_reducible assumption)|assumption)
        have q70004:x4_1<(l0.length:Int):=Zd (by first|(with_reducible assumption)|assumption)
        obtain⟨ad70004,e70004,hx70004_0,hx70004_1,hx70004_2,hx70004_3,hx70004_4⟩:=at_T84 HR0.out x4_1 p70004 q70004
        cases e70004
        replace hx70004_0:=(HB.out.cell (Zc w _ hx70004_0)).trans hx70004_0
        replace hx70004_1:=(HB.out.cell (Zc w _ hx70004_1)).trans hx70004_1
        replace hx70004_2:=(HB.out.cell (Zc w _ hx70004_2)).trans hx70004_2
        replace hx70004_3:=(HB.out.cell (Zc w _ hx70004_3)).trans hx70004_3
        replace hx70004_4:=(HB.out.cell (Zc w _ hx70004_4)).trans hx70004_4
        replace p70004:=eq_true p70004
        replace q70004:=eq_true q70004
        go_wp2_with (first|((with_reducible refine ZS (f:=85) rfl ?_);refine Zal (some 20) rfl rfl Try.func85 (by kernel_rfl) rfl #[.agg #[.int .i64 ((ZZ l0 x4_1).f0),.int .i64 ((ZZ l0 x4_1).f1),.int .i64 ((ZZ l0 x4_1).f2),.int .i64 ((ZZ l0 x4_1).f3),.bool ((ZZ l0 x4_1).f4)]] rfl (by(try simp only[List.map_toArray,List.map_cons,List.map_nil]);first|done|rfl|(simp only[Zj,Zi];rfl)) ?_;(with_reducible refine(Zaw.calls ((ZZ l0 x4_1).f0) ((ZZ l0 x4_1).f1) ((ZZ l0 x4_1).f2) ((ZZ l0 x4_1).f3) ((ZZ l0 x4_1).f4) t70005 t70006 t70007 t70008 t70009 _ A8.out).mono ?_);rintro e w11 ⟨rfl,hb⟩;refine⟨_,rfl,?_⟩;have n0_:=Za (Kd.R_below (by(with_reducible repeat(first|apply Kd.R_alloc|apply Kd.R_drewN|apply Kd.R_drew));exact HO_3.out) hb);have n1_:=Za (Zw (by repeat(first|(with_reducible first|exact HB.out|apply Zl|apply Zm|apply Zn)|exact HB.out)) hb);clear HO_3;clear HB;have HO_3:=n0_;have HB:=n1_;clear n0_ n1_;(try clear hb);(try clear hb2);(try clear hk);(try clear hi);have p10:0≤(x4_1:Int):=Zd (by first|(with_reducible assumption)|assumption);have q10:(x4_1:Int)<((x3_1.length:Int):Int):=Zd (by first|(with_reducible assumption)|assumption);obtain⟨go10,co10,eo10,gb10,gl10,cl10,HG10⟩:=Kd.R_form HO_3.out (by omega);(first|cases eo10|(injection eo10 with ea_ en_ ec_;(first|subst ea_|(injection ea_ with ea_;subst ea_));subst ec_;clear en_));have GB10:=Za gb10;have GG10:=Za HG10;clear gb10 gl10 HG10;obtain⟨ce10,hcl10,hM10,hcc10,hfr10⟩:=Kd.R_elem HO_3.out z77 (x4_1:Int) p10 q10;obtain rfl:=k77_openM hM10;have hx10_0:w11.cell? ⟨go10,(x4_1:Int).toNat * 5,none⟩=some (.int .i64 ((ZA x3_1 x4_1).f0)):=hcc10 0 _ rfl;have hx10_1:w11.cell? ⟨go10,(x4_1:Int).toNat * 5+1,none⟩=some (.int .i64 ((ZA x3_1 x4_1).f1)):=hcc10 1 _ rfl;have hx10_2:w11.cell? ⟨go10,(x4_1:Int).toNat * 5+2,none⟩=some (.int .i64 ((ZA x3_1 x4_1).f2)):=hcc10 2 _ rfl;have hx10_3:w11.cell? ⟨go10,(x4_1:Int).toNat * 5+3,none⟩=some (.int .i64 ((ZA x3_1 x4_1).f3)):=hcc10 3 _ rfl;have hx10_4:w11.cell? ⟨go10,(x4_1:Int).toNat * 5+4,none⟩=some (.bool ((ZA x3_1 x4_1).f4)):=hcc10 4 _ rfl;have hf10_0:w11.frozen? ⟨go10,(x4_1:Int).toNat * 5,none⟩=false:=hfr10 0;have hf10_1:w11.frozen? ⟨go10,(x4_1:Int).toNat * 5+1,none⟩=false:=hfr10 1;have hf10_2:w11.frozen? ⟨go10,(x4_1:Int).toNat * 5+2,none⟩=false:=hfr10 2;have hf10_3:w11.frozen? ⟨go10,(x4_1:Int).toNat * 5+3,none⟩=false:=hfr10 3;have hf10_4:w11.frozen? ⟨go10,(x4_1:Int).toNat * 5+4,none⟩=false:=hfr10 4;clear hcl10 hcc10 hfr10 hM10;replace p10:=eq_true p10;replace q10:=eq_true q10;have HX12:=Za (show Kd.R k77 77 w11 w.heap.size (fun _=>True) (.slice (some ⟨go10,0,none⟩) x3_1.length co10) x3_1 from(by(with_reducible repeat(first|apply Kd.R_alloc|apply Kd.R_drewN|apply Kd.R_drew));exact HO_3.out));obtain⟨ce12,hcl12,hM12,hcc12,hfr12⟩:=Kd.R_elem HX12.out z77 (x4_1:Int) (Zd (by first|(with_reducible assumption)|assumption)) (by have h_:(x4_1:Int)<((x3_1.length:Int):Int):=Zd (by first|(with_reducible assumption)|assumption);first|exact h_|(have e_:=(Kd.R_reads' HO_3.out).1;omega)|simpa using h_);obtain rfl:=k77_openM hM12;have HP12:=Kd.R_seg HX12.out (x4_1:Int) (Zd (by first|(with_reducible assumption)|assumption)) (by have h_:(x4_1:Int)<((x3_1.length:Int):Int):=Zd (by first|(with_reducible assumption)|assumption);first|exact h_|(have e_:=(Kd.R_reads' HO_3.out).1;omega)|simpa using h_) (seg:=[.int .i64 t70005,.int .i64 t70006,.int .i64 t70007,.int .i64 t70008,.bool t70009]) (j:=0) hcl12 hcc12 (show 5≤5 from by decide) (x':=(⟨t70005,t70006,t70007,t70008,t70009⟩:S77)) (k77_mkM _ _ _ (⟨t70005,t70006,t70007,t70008,t70009⟩:S77) ) (fun _ hk=>hk);have hx12_0:=hcc12 0 _ rfl;(try simp only[show(k77).sz=5 from rfl,Nat.mul_one,Nat.add_zero] at hx12_0);have hf12_0:=hfr12 0;(try simp only[show(k77).sz=5 from rfl,Nat.mul_one,Nat.add_zero] at hf12_0);have hx12_1:=hcc12 1 _ rfl;(try simp only[show(k77).sz=5 from rfl,Nat.mul_one,Nat.add_zero] at hx12_1);have hf12_1:=hfr12 1;(try simp only[show(k77).sz=5 from rfl,Nat.mul_one,Nat.add_zero] at hf12_1);have hx12_2:=hcc12 2 _ rfl;(try simp only[show(k77).sz=5 from rfl,Nat.mul_one,Nat.add_zero] at hx12_2);have hf12_2:=hfr12 2;(try simp only[show(k77).sz=5 from rfl,Nat.mul_one,Nat.add_zero] at hf12_2);have hx12_3:=hcc12 3 _ rfl;(try simp only[show(k77).sz=5 from rfl,Nat.mul_one,Nat.add_zero] at hx12_3);have hf12_3:=hfr12 3;(try simp only[show(k77).sz=5 from rfl,Nat.mul_one,Nat.add_zero] at hf12_3);have hx12_4:=hcc12 4 _ rfl;(try simp only[show(k77).sz=5 from rfl,Nat.mul_one,Nat.add_zero] at hx12_4);have hf12_4:=hfr12 4;(try simp only[show(k77).sz=5 from rfl,Nat.mul_one,Nat.add_zero] at hf12_4);clear hcl12 hcc12 hfr12 hM12)|((with_reducible refine ZaW (t:=77) (p:=21) rfl ?_);refine ZaS (t:=77) (p:=21) (v:=?vo_w13) (w1:=(((((w11.setCell ⟨go10,(x4_1:Int).toNat * 5,none⟩ (.int .i64 t70005)).setCell ⟨go10,(x4_1:Int).toNat * 5+1,none⟩ (.int .i64 t70006)).setCell ⟨go10,(x4_1:Int).toNat * 5+2,none⟩ (.int .i64 t70007)).setCell ⟨go10,(x4_1:Int).toNat * 5+3,none⟩ (.int .i64 t70008)).setCell ⟨go10,(x4_1:Int).toNat * 5+4,none⟩ (.bool t70009))) ?hg ?ho ?hn ?hr ?_;(case ho=>rfl);(case hg=>rfl);(case hn=>rfl);(case hr=>first|(go_simp;done)|(go_simp;rfl));intro w13 hw;have hg:w11.grownBy w13 (some go10):=(by rw[hw];exact HP12.2);have hp_:Kd.R k77 77 w13 w.heap.size (fun _=>True) (.slice (some ⟨go10,0,none⟩) x3_1.length co10) y70010:=(by rw[hw,Ny70010.out];exact HP12.1);clear HP12;have n0_:=Za (hp_);have n1_:=Za ((by rw[hw];exact Zp (Zp (Zp (Zp (Zp (HB.out) GB10.out) GB10.out) GB10.out) GB10.out) GB10.out:Below w.heap.size w w13));clear HO_3;clear HB;have HO_3:=n0_;have HB:=n1_;clear n0_ n1_;clear hg hw hp_))
        go_roundg k1
        case measure=>have:=HK1.out;omega
        case rel=>exact⟨(y70010),(wrap64 (x4_1+1)),(by first|rfl|(simp;done)|(simp[*];done)),H',⟨by have:=HK1.out;omega⟩,⟨by(with_reducible repeat(first|apply Kd.R_alloc|apply Kd.R_drewN|apply Kd.R_drew));exact HO_3.out⟩,⟨by repeat(first|(with_reducible first|exact HB.out|apply Zl|apply Zm|apply Zn)|exact HB.out)⟩⟩
       ·rw[if_neg c9] at H
        exact absurd H (by simp)
      ·rw[if_neg c7] at H
       exact absurd H (by simp)
     ·rw[if_neg c6] at H
      have c6b0:decide (x4_1<(l0.length:Int))=false:=Zf c6
      clear c6
      obtain rfl:=Zg H
      go_wp2
      go_ret
      exact⟨_,by first|rfl|(simp[ZC,ZB] <;> rfl)|(simp[*,ZC,ZB] <;> rfl),by(with_reducible repeat(first|apply Kd.R_alloc|apply Kd.R_drewN|apply Kd.R_drew));exact HO_3.out,by repeat(first|(with_reducible first|exact HB.out|apply Zl|apply Zm|apply Zn)|exact HB.out)⟩
  ·rw[if_neg c3] at H
   exact absurd H (by simp)
 ·rw[if_neg c2] at H
  exact absurd H (by simp)
def ZO.f (k:Nat) (l0_0:List (S39)) (l0_1:List (S84)) (a0_2:Int):Option ((List (S42))×(List (S77))×Int):=(ZD.f k l0_0).bind fun t42004=>((ZF.f k l0_1).bind fun t42007=>(some (t42004,t42007,a0_2)))
set_option maxHeartbeats 8000000 in
set_option maxRecDepth 100000 in
theorem ZO.calls (k:Nat) (A0_0:Option Addr) (c0_0:Nat) (l0_0:List (S39)) (A0_1:Option Addr) (c0_1:Nat) (l0_1:List (S84)) (a0_2:Int) (r1:List (S42)) (r2:List (S77)) (r3:Int) (w:World) (hr0_0:Kd.C k39 w A0_0 l0_0.length l0_0) (hc0_0:l0_0.length≤c0_0) (hr0_1:Kd.C k84 w A0_1 l0_1.length l0_1) (hc0_1:l0_1.length≤c0_1) (h:ZO.f k l0_0 l0_1 a0_2=some (r1,r2,r3)) :
  Calls Try.prog 42 #[.agg #[.slice A0_0 l0_0.length c0_0,.slice A0_1 l0_1.length c0_1,.int .i64 a0_2]] w fun e w'=>∃v0_ v1_:Value,e=.returned (.agg #[v0_,v1_,.int .i64 r3])∧Kd.S k42 42 w' w.heap.size (fun _=>True) v0_ r1∧Kd.R k77 77 w' w.heap.size (fun _=>True) v1_ r2∧Below w.heap.size w w':=by
 have hu49:=Try.underlying49
 have hu55:=Try.underlying55
 have HR0_0:=Za hr0_0;have HC0_0:=Za hc0_0;clear hr0_0 hc0_0;have HR0_1:=Za hr0_1;have HC0_1:=Za hc0_1;clear hr0_1 hc0_1
 have HB:=Za (Below.refl w.heap.size w)
 have H:((ZD.f k l0_0).bind fun t42004=>((ZF.f k l0_1).bind fun t42007=>(some (t42004,t42007,a0_2))))=some (r1,r2,r3):=h
 clear h
 replace H:=Option.bind_eq_some_iff.mp H
 obtain⟨t42004,A20,H⟩:=H
 replace H:((ZF.f k l0_1).bind fun t42007=>(some (t42004,t42007,a0_2)))=some (r1,r2,r3):=H
 have A2:=Za A20;clear A20
 replace H:=Option.bind_eq_some_iff.mp H
 obtain⟨t42007,A30,H⟩:=H
 replace H:(some (t42004,t42007,a0_2))=some (r1,r2,r3):=H
 have A3:=Za A30;clear A30
 simp only[Option.some.injEq,Prod.mk.injEq] at H
 obtain⟨rfl,rfl,rfl⟩:=H
 go_enter Try.func42,Try.ntmps42
 go_wp2_with (first|((with_reducible refine ZI (N:=1) rfl ?_);refine ZK ?hg (N:=1) ?hd (cs:=#[.slice A0_0 l0_0.length c0_0,.slice A0_1 l0_1.length c0_1,.int .i64 a0_2]) (t:=49) ?hr ?_;(case hd=>rfl);(case hg=>rfl);(case hr=>first|(go_simp;done)|(go_simp;rfl));intro gb42001 hg w4 hbox hb;have n0_:=Za (Zw (by repeat(first|(with_reducible first|exact HB.out|apply Zl|apply Zm|apply Zn)|exact HB.out)) hb);have n1_:=Za (hbox);have n2_:=Za ((by rw[hg];exact(Zv (by repeat(first|(with_reducible first|exact HB.out|apply Zl|apply Zm|apply Zn)|exact HB.out))):w.heap.size≤gb42001));have n3_:=Za ((by rw[hg];exact(Zv (by repeat(first|(with_reducible first|exact HB.out|apply Zl|apply Zm|apply Zn)|exact HB.out))):w.heap.size≤gb42001));clear HB;have HB:=n0_;have BK42001:=n1_;have GW42001:=n2_;have GE42001:=n3_;clear n0_ n1_ n2_ n3_;clear hb hbox hg)|((with_reducible refine ZI (N:=2) rfl ?_);refine ZK ?hg (N:=2) ?hd (cs:=#[.slice none 0 0,.slice none 0 0,.int .i64 0]) (t:=55) ?hr ?_;(case hd=>rfl);(case hg=>rfl);(case hr=>first|(go_simp;done)|(go_simp;rfl));intro gb42002 hg w5 hbox hb;have n0_:=Za (ZG (g:=gb42001) (o:=.cells #[.slice A0_0 l0_0.length c0_0,.slice A0_1 l0_1.length c0_1,.int .i64 a0_2] 49 (0,0)) (by(with_reducible repeat(first|refine Zr ?_ _|refine Zt ?_|refine Zs ?_ _));exact BK42001.out) hb);have n1_:=Za (Zw (by repeat(first|(with_reducible first|exact HB.out|apply Zl|apply Zm|apply Zn|refine Zp ?_ GE42001.out)|exact HB.out)) hb);have n2_:=Za (hbox);have n3_:=Za ((by rw[hg];exact(Zv (by repeat(first|(with_reducible first|exact HB.out|apply Zl|apply Zm|apply Zn|refine Zp ?_ GE42001.out)|exact HB.out))):w.heap.size≤gb42002));have n4_:=Za ((by rw[hg];exact(Zv (by repeat(first|(with_reducible first|exact HB.out|apply Zl|apply Zm|apply Zn|refine Zp ?_ GE42001.out)|exact HB.out))):w.heap.size≤gb42002));have n5_:=Za ((by rw[hg];exact Nat.ne_of_lt (ZQ (g:=gb42001) (o:=.cells #[.slice A0_0 l0_0.length c0_0,.slice A0_1 l0_1.length c0_1,.int .i64 a0_2] 49 (0,0)) (by(with_reducible repeat(first|refine Zr ?_ _|refine Zt ?_|refine Zs ?_ _));exact BK42001.out)):gb42001≠gb42002));have n6_:=Za ((by rw[hg];exact Nat.ne_of_gt (ZQ (g:=gb42001) (o:=.cells #[.slice A0_0 l0_0.length c0_0,.slice A0_1 l0_1.length c0_1,.int .i64 a0_2] 49 (0,0)) (by(with_reducible repeat(first|refine Zr ?_ _|refine Zt ?_|refine Zs ?_ _));exact BK42001.out)):gb42002≠gb42001));clear BK42001;clear HB;have BK42001:=n0_;have HB:=n1_;have BK42002:=n2_;have GW42002:=n3_;have GE42002:=n4_;have NB42001_42002:=n5_;have NB42002_42001:=n6_;clear n0_ n1_ n2_ n3_ n4_ n5_ n6_;clear hb hbox hg)|((with_reducible refine ZI (N:=3) rfl ?_);refine ZK ?hg (N:=3) ?hd (cs:=#[.slice none 0 0,.slice none 0 0,.int .i64 0]) (t:=55) ?hr ?_;(case hd=>rfl);(case hg=>rfl);(case hr=>first|(go_simp;done)|(go_simp;rfl));intro gb42003 hg w6 hbox hb;have n0_:=Za (ZG (g:=gb42001) (o:=.cells #[.slice A0_0 l0_0.length c0_0,.slice A0_1 l0_1.length c0_1,.int .i64 a0_2] 49 (0,0)) (by(with_reducible repeat(first|refine Zr ?_ _|refine Zt ?_|refine Zs ?_ _));exact BK42001.out) hb);have n1_:=Za (ZG (g:=gb42002) (o:=.cells #[.slice none 0 0,.slice none 0 0,.int .i64 0] 55 (0,0)) (by(with_reducible repeat(first|refine Zr ?_ _|refine Zt ?_|refine Zs ?_ _));exact BK42002.out) hb);have n2_:=Za (Zw (by repeat(first|(with_reducible first|exact HB.out|apply Zl|apply Zm|apply Zn|refine Zp ?_ GE42001.out|refine Zp ?_ GE42002.out)|exact HB.out)) hb);have n3_:=Za (hbox);have n4_:=Za ((by rw[hg];exact(Zv (by repeat(first|(with_reducible first|exact HB.out|apply Zl|apply Zm|apply Zn|refine Zp ?_ GE42001.out|refine Zp ?_ GE42002.out)|exact HB.out))):w.heap.size≤gb42003));have n5_:=Za ((by rw[hg];exact(Zv (by repeat(first|(with_reducible first|exact HB.out|apply Zl|apply Zm|apply Zn|refine Zp ?_ GE42001.out|refine Zp ?_ GE42002.out)|exact HB.out))):w.heap.size≤gb42003));have n6_:=Za ((by rw[hg];exact Nat.ne_of_lt (ZQ (g:=gb42001) (o:=.cells #[.slice A0_0 l0_0.length c0_0,.slice A0_1 l0_1.length c0_1,.int .i64 a0_2] 49 (0,0)) (by(with_reducible repeat(first|refine Zr ?_ _|refine Zt ?_|refine Zs ?_ _));exact BK42001.out)):gb42001≠gb42003));have n7_:=Za ((by rw[hg];exact Nat.ne_of_gt (ZQ (g:=gb42001) (o:=.cells #[.slice A0_0 l0_0.length c0_0,.slice A0_1 l0_1.length c0_1,.int .i64 a0_2] 49 (0,0)) (by(with_reducible repeat(first|refine Zr ?_ _|refine Zt ?_|refine Zs ?_ _));exact BK42001.out)):gb42003≠gb42001));have n8_:=Za ((by rw[hg];exact Nat.ne_of_lt (ZQ (g:=gb42002) (o:=.cells #[.slice none 0 0,.slice none 0 0,.int .i64 0] 55 (0,0)) (by(with_reducible repeat(first|refine Zr ?_ _|refine Zt ?_|refine Zs ?_ _));exact BK42002.out)):gb42002≠gb42003));have n9_:=Za ((by rw[hg];exact Nat.ne_of_gt (ZQ (g:=gb42002) (o:=.cells #[.slice none 0 0,.slice none 0 0,.int .i64 0] 55 (0,0)) (by(with_reducible repeat(first|refine Zr ?_ _|refine Zt ?_|refine Zs ?_ _));exact BK42002.out)):gb42003≠gb42002));clear BK42001;clear BK42002;clear HB;have BK42001:=n0_;have BK42002:=n1_;have HB:=n2_;have BK42003:=n3_;have GW42003:=n4_;have GE42003:=n5_;have NB42001_42003:=n6_;have NB42003_42001:=n7_;have NB42002_42003:=n8_;have NB42003_42002:=n9_;clear n0_ n1_ n2_ n3_ n4_ n5_ n6_ n7_ n8_ n9_;clear hb hbox hg;have hnb7:=NB42001_42002.out;have hnc7:=NB42002_42001.out;have hnb8:=NB42001_42003.out;have hnc8:=NB42003_42001.out;have hcz9_0:w6.cell? ⟨gb42001,0,none⟩=some (.slice A0_0 l0_0.length c0_0):=(Zq BK42001.out 0).trans rfl;have hcz9_1:w6.cell? ⟨gb42001,1,none⟩=some (.slice A0_1 l0_1.length c0_1):=(Zq BK42001.out 1).trans rfl;have hcz9_2:w6.cell? ⟨gb42001,2,none⟩=some (.int .i64 a0_2):=(Zq BK42001.out 2).trans rfl;have hfz9_0:=Zo BK42001.out 0;have hfz9_1:=Zo BK42001.out 1;have hfz9_2:=Zo BK42001.out 2)|((with_reducible refine ZS (f:=69) rfl ?_);refine Zal (some 6) rfl rfl Try.func69 (by kernel_rfl) rfl #[.slice A0_0 l0_0.length c0_0] rfl (by(try simp only[List.map_toArray,List.map_cons,List.map_nil]);first|done|rfl|(simp only[Zj,Zi];rfl)) ?_;(with_reducible refine(ZD.calls k _ _ l0_0 t42004 _ ?side1 ?side2 A2.out).mono ?_);(case side1=>repeat(first|exact(Zb HR0_0.out HB.out)|(with_reducible refine Kd.C_alloc ?_ _)|(with_reducible refine Kd.C_drewN ?_ _)|(with_reducible refine Kd.C_drew ?_)));(case side2=>exact HC0_0.out);rintro e w10 ⟨v42005,rfl,ho0,hb⟩;refine⟨_,rfl,?_⟩;have n0_:=Za (Kd.S_lower ho0 (Zv (by repeat(first|(with_reducible first|exact HB.out|apply Zl|apply Zm|apply Zn|refine Zp ?_ GE42001.out|refine Zp ?_ GE42002.out|refine Zp ?_ GE42003.out)|exact HB.out))));have n1_:=Za (ZG (g:=gb42001) (o:=.cells #[.slice A0_0 l0_0.length c0_0,.slice A0_1 l0_1.length c0_1,.int .i64 a0_2] 49 (0,0)) (by(with_reducible repeat(first|refine Zr ?_ _|refine Zt ?_|refine Zs ?_ _));exact BK42001.out) hb);have n2_:=Za (ZG (g:=gb42002) (o:=.cells #[.slice none 0 0,.slice none 0 0,.int .i64 0] 55 (0,0)) (by(with_reducible repeat(first|refine Zr ?_ _|refine Zt ?_|refine Zs ?_ _));exact BK42002.out) hb);have n3_:=Za (ZG (g:=gb42003) (o:=.cells #[.slice none 0 0,.slice none 0 0,.int .i64 0] 55 (0,0)) (by(with_reducible repeat(first|refine Zr ?_ _|refine Zt ?_|refine Zs ?_ _));exact BK42003.out) hb);have n4_:=Za (Zw (by repeat(first|(with_reducible first|exact HB.out|apply Zl|apply Zm|apply Zn|refine Zp ?_ GE42001.out|refine Zp ?_ GE42002.out|refine Zp ?_ GE42003.out)|exact HB.out)) hb);clear BK42001;clear BK42002;clear BK42003;clear HB;have HO42006:=n0_;have BK42001:=n1_;have BK42002:=n2_;have BK42003:=n3_;have HB:=n4_;clear n0_ n1_ n2_ n3_ n4_;(try clear hb);(try clear hb2);(try clear hk);(try clear hi);(try clear ho0);obtain⟨Ao11,co11,eo11⟩:=Kd.S_slice HO42006.out;subst eo11;have hnb12:=NB42003_42002.out;have hnc12:=NB42002_42003.out;have hcz13_0:w10.cell? ⟨gb42003,0,none⟩=some (.slice none 0 0):=(Zq BK42003.out 0).trans rfl;have hcz13_1:w10.cell? ⟨gb42003,1,none⟩=some (.slice none 0 0):=(Zq BK42003.out 1).trans rfl;have hcz13_2:w10.cell? ⟨gb42003,2,none⟩=some (.int .i64 0):=(Zq BK42003.out 2).trans rfl;have hfz13_0:=Zo BK42003.out 0;have hfz13_1:=Zo BK42003.out 1;have hfz13_2:=Zo BK42003.out 2;have hcz14_0:w10.cell? ⟨gb42001,0,none⟩=some (.slice A0_0 l0_0.length c0_0):=(Zq BK42001.out 0).trans rfl;have hcz14_1:w10.cell? ⟨gb42001,1,none⟩=some (.slice A0_1 l0_1.length c0_1):=(Zq BK42001.out 1).trans rfl;have hcz14_2:w10.cell? ⟨gb42001,2,none⟩=some (.int .i64 a0_2):=(Zq BK42001.out 2).trans rfl;have hfz14_0:=Zo BK42001.out 0;have hfz14_1:=Zo BK42001.out 1;have hfz14_2:=Zo BK42001.out 2)|((with_reducible refine ZS (f:=70) rfl ?_);refine Zal (some 10) rfl rfl Try.func70 (by kernel_rfl) rfl #[.slice A0_1 l0_1.length c0_1] rfl (by(try simp only[List.map_toArray,List.map_cons,List.map_nil]);first|done|rfl|(simp only[Zj,Zi];rfl)) ?_;(with_reducible refine(ZF.calls k _ _ l0_1 t42007 _ ?side1 ?side2 A3.out).mono ?_);(case side1=>exact Zb HR0_1.out (by repeat(first|(with_reducible first|exact HB.out|apply Zl|apply Zm|apply Zn|refine Zp ?_ GE42001.out|refine Zp ?_ GE42002.out|refine Zp ?_ GE42003.out)|exact HB.out)));(case side2=>exact HC0_1.out);rintro e w15 ⟨v42008,rfl,ho0,hb⟩;refine⟨_,rfl,?_⟩;have n0_:=Za (Kd.S_below (by(with_reducible repeat(first|apply Kd.S_alloc|apply Kd.S_drewN|apply Kd.S_drew));exact(Kd.S_mono (Kd.S_far (p:=⟨gb42003,0,none⟩) (Kd.S_types HO42006.out BK42003.out (by decide)) (fun _ hk=>hk.2) (.slice Ao11 t42004.length co11)) (fun _ h_=>h_.1))) hb);have n1_:=Za (Kd.R_lower ho0 (Zv (by repeat(first|(with_reducible first|exact HB.out|apply Zl|apply Zm|apply Zn|refine Zp ?_ GE42001.out|refine Zp ?_ GE42002.out|refine Zp ?_ GE42003.out)|exact HB.out))));have n2_:=Za (ZG (g:=gb42001) (o:=.cells #[.slice A0_0 l0_0.length c0_0,.slice A0_1 l0_1.length c0_1,.int .i64 a0_2] 49 (0,0)) (by(with_reducible repeat(first|refine Zr ?_ _|refine Zt ?_|refine Zs ?_ _));refine Zaj ?_ NB42001_42003.out _;(with_reducible repeat(first|refine Zr ?_ _|refine Zt ?_|refine Zs ?_ _));exact BK42001.out) hb);have n3_:=Za (ZG (g:=gb42002) (o:=.cells #[.slice none 0 0,.slice none 0 0,.int .i64 0] 55 (0,0)) (by(with_reducible repeat(first|refine Zr ?_ _|refine Zt ?_|refine Zs ?_ _));refine Zaj ?_ NB42002_42003.out _;(with_reducible repeat(first|refine Zr ?_ _|refine Zt ?_|refine Zs ?_ _));exact BK42002.out) hb);have n4_:=Za (ZG (g:=gb42003) (o:=.cells #[.slice Ao11 t42004.length co11,.slice none 0 0,.int .i64 0] 55 (0,0)) (by(with_reducible repeat(first|refine Zr ?_ _|refine Zt ?_|refine Zs ?_ _));refine Zai (cs:=#[.slice none 0 0,.slice none 0 0,.int .i64 0]) ?_ 0 _ rfl;(with_reducible repeat(first|refine Zr ?_ _|refine Zt ?_|refine Zs ?_ _));exact BK42003.out) hb);have n5_:=Za (Zw (by repeat(first|(with_reducible first|exact HB.out|apply Zl|apply Zm|apply Zn|refine Zp ?_ GE42001.out|refine Zp ?_ GE42002.out|refine Zp ?_ GE42003.out)|exact HB.out)) hb);clear HO42006;clear BK42001;clear BK42002;clear BK42003;clear HB;have HO42006:=n0_;have HO42009:=n1_;have BK42001:=n2_;have BK42002:=n3_;have BK42003:=n4_;have HB:=n5_;clear n0_ n1_ n2_ n3_ n4_ n5_;(try clear hb);(try clear hb2);(try clear hk);(try clear hi);(try clear ho0);obtain⟨Ao16,co16,eo16⟩:=Kd.R_slice HO42009.out;subst eo16;have hcz17_0:w15.cell? ⟨gb42003,0,none⟩=some (.slice Ao11 t42004.length co11):=(Zq BK42003.out 0).trans rfl;have hcz17_1:w15.cell? ⟨gb42003,1,none⟩=some (.slice none 0 0):=(Zq BK42003.out 1).trans rfl;have hcz17_2:w15.cell? ⟨gb42003,2,none⟩=some (.int .i64 0):=(Zq BK42003.out 2).trans rfl;have hfz17_0:=Zo BK42003.out 0;have hfz17_1:=Zo BK42003.out 1;have hfz17_2:=Zo BK42003.out 2;have hcz18_0:w15.cell? ⟨gb42001,0,none⟩=some (.slice A0_0 l0_0.length c0_0):=(Zq BK42001.out 0).trans rfl;have hcz18_1:w15.cell? ⟨gb42001,1,none⟩=some (.slice A0_1 l0_1.length c0_1):=(Zq BK42001.out 1).trans rfl;have hcz18_2:w15.cell? ⟨gb42001,2,none⟩=some (.int .i64 a0_2):=(Zq BK42001.out 2).trans rfl;have hfz18_0:=Zo BK42001.out 0;have hfz18_1:=Zo BK42001.out 1;have hfz18_2:=Zo BK42001.out 2;have hcz19_0:w15.cell? ⟨gb42002,0,none⟩=some (.slice none 0 0):=(Zq BK42002.out 0).trans rfl;have hcz19_1:w15.cell? ⟨gb42002,1,none⟩=some (.slice none 0 0):=(Zq BK42002.out 1).trans rfl;have hcz19_2:w15.cell? ⟨gb42002,2,none⟩=some (.int .i64 0):=(Zq BK42002.out 2).trans rfl;have hfz19_0:=Zo BK42002.out 0;have hfz19_1:=Zo BK42002.out 1;have hfz19_2:=Zo BK42002.out 2))
 refine bodyPost_ret (results_cell_row rfl _ _ gb42002 55 #[.slice Ao11 t42004.length co11,.slice Ao16 t42007.length co16,.int .i64 a0_2] (0,0) _ rfl (by(with_reducible repeat(first|refine Zr ?_ _|refine Zt ?_|refine Zs ?_ _));refine Zai (cs:=#[.slice Ao11 t42004.length co11,.slice Ao16 t42007.length co16,.int .i64 0]) ?_ 2 _ rfl;(with_reducible repeat(first|refine Zr ?_ _|refine Zt ?_|refine Zs ?_ _));refine Zai (cs:=#[.slice Ao11 t42004.length co11,.slice none 0 0,.int .i64 0]) ?_ 1 _ rfl;(with_reducible repeat(first|refine Zr ?_ _|refine Zt ?_|refine Zs ?_ _));refine Zai (cs:=#[.slice none 0 0,.slice none 0 0,.int .i64 0]) ?_ 0 _ rfl;(with_reducible repeat(first|refine Zr ?_ _|refine Zt ?_|refine Zs ?_ _));refine Zaj ?_ NB42002_42003.out _;(with_reducible repeat(first|refine Zr ?_ _|refine Zt ?_|refine Zs ?_ _));refine Zaj ?_ NB42002_42003.out _;(with_reducible repeat(first|refine Zr ?_ _|refine Zt ?_|refine Zs ?_ _));exact BK42002.out) Try.underlying55 rfl (by kernel_rfl)) rfl ?_
 exact⟨_,_,by first|rfl|(simp[ZC,ZB] <;> rfl)|(simp[*,ZC,ZB] <;> rfl),by(with_reducible repeat(first|apply Kd.S_alloc|apply Kd.S_drewN|apply Kd.S_drew));exact Kd.S_mono (Kd.S_far (p:=⟨gb42002,2,none⟩) (Kd.S_far (p:=⟨gb42002,1,none⟩) (Kd.S_far (p:=⟨gb42002,0,none⟩) (Kd.S_far (p:=⟨gb42003,2,none⟩) (Kd.S_far (p:=⟨gb42003,1,none⟩) (Kd.S_types (Kd.S_types HO42006.out BK42003.out (by decide)) BK42002.out (by decide)) (fun _ hk=>hk.1.2) (.slice Ao16 t42007.length co16)) (fun _ hk=>hk.1.2) (.int .i64 a0_2)) (fun _ hk=>hk.2) (.slice Ao11 t42004.length co11)) (fun _ hk=>hk.2) (.slice Ao16 t42007.length co16)) (fun _ hk=>hk.2) (.int .i64 a0_2)) (fun _ hk=>trivial),by(with_reducible repeat(first|apply Kd.R_alloc|apply Kd.R_drewN|apply Kd.R_drew));exact Kd.R_mono (Kd.R_far (p:=⟨gb42002,2,none⟩) (Kd.R_far (p:=⟨gb42002,1,none⟩) (Kd.R_far (p:=⟨gb42002,0,none⟩) (Kd.R_far (p:=⟨gb42003,2,none⟩) (Kd.R_far (p:=⟨gb42003,1,none⟩) (Kd.R_types (Kd.R_types HO42009.out BK42003.out (by decide)) BK42002.out (by decide)) (fun _ hk=>hk.1.2) (.slice Ao16 t42007.length co16)) (fun _ hk=>hk.1.2) (.int .i64 a0_2)) (fun _ hk=>hk.2) (.slice Ao11 t42004.length co11)) (fun _ hk=>hk.2) (.slice Ao16 t42007.length co16)) (fun _ hk=>hk.2) (.int .i64 a0_2)) (fun _ hk=>trivial),by repeat(first|(with_reducible first|exact HB.out|apply Zl|apply Zm|apply Zn|refine Zp ?_ GE42001.out|refine Zp ?_ GE42002.out|refine Zp ?_ GE42003.out)|exact HB.out)⟩
theorem ZO.c (k:Nat) (A0_0:Option Addr) (c0_0:Nat) (l0_0:List (S39)) (A0_1:Option Addr) (c0_1:Nat) (l0_1:List (S84)) (a0_2:Int) (r1:List (S42)) (r2:List (S77)) (r3:Int) (w:World) (hr0_0:Kd.C k39 w A0_0 l0_0.length l0_0) (hc0_0:l0_0.length≤c0_0) (hr0_1:Kd.C k84 w A0_1 l0_1.length l0_1) (hc0_1:l0_1.length≤c0_1) (h:ZO.f k l0_0 l0_1 a0_2=some (r1,r2,r3)) :
  Calls Try.prog 42 #[.agg #[.slice A0_0 l0_0.length c0_0,.slice A0_1 l0_1.length c0_1,.int .i64 a0_2]] w fun e w'=>∃A0_ c0_ A1_ c1_,e=.returned (.agg #[.slice A0_ r1.length c0_,.slice A1_ r2.length c1_,.int .i64 r3])∧Aside0 (r1.length≤c0_∧Kd.C k42 w' A0_ r1.length r1)∧Aside0 (r2.length≤c1_∧Kd.C k77 w' A1_ r2.length r2)∧Below w.heap.size w w':=
 (ZO.calls k A0_0 c0_0 l0_0 A0_1 c0_1 l0_1 a0_2 r1 r2 r3 w hr0_0 hc0_0 hr0_1 hc0_1 h).mono fun e w' ⟨v0_,v1_,he,q0_,q1_,hb⟩=>by
  obtain⟨A0_,c0_,rfl,g0_⟩:=Kd.S_reads q0_
  obtain⟨A1_,c1_,rfl,g1_⟩:=Kd.R_reads q1_
  exact⟨A0_,c0_,A1_,c1_,he,⟨g0_⟩,⟨g1_⟩,hb⟩
def Zaf.f (l0:List Int) (a1:Int):Option (Int):=if (wrap64 (a1 - (l0.length:Int)))<0 then(some (-1)) else(some (wrap64 (a1 - (l0.length:Int))))
set_option maxHeartbeats 8000000 in
set_option maxRecDepth 100000 in
theorem Zaf.calls (A0:Option Addr) (c0:Nat) (l0:List Int) (a1:Int) (r:Int) (w:World) (hr0:Kd.C (Kd.int .i64) w A0 l0.length l0) (hc0:l0.length≤c0) (h:Zaf.f l0 a1=some r) :
  Calls Try.prog 57 #[.slice A0 l0.length c0,.int .i64 a1] w fun e w'=>e=.returned (.int .i64 r)∧Zx w w':=by
 have HR0:=Za hr0;have HC0:=Za hc0;clear hr0 hc0
 have H:(if (wrap64 (a1 - (l0.length:Int)))<0 then(some (-1)) else(some (wrap64 (a1 - (l0.length:Int)))))=some r:=h
 clear h
 by_cases c3:(wrap64 (a1 - (l0.length:Int)))<0
 ·rw[if_pos c3] at H
  have c3b0:decide ((wrap64 (a1 - (l0.length:Int)))<0)=true:=Ze c3
  clear c3
  obtain rfl:=Zg H
  go_enter Try.func57,Try.ntmps57
  go_wp2
  go_ret
  exact⟨by first|rfl|(simp;done)|(simp[*];done),by repeat(first|exact Zx.refl _|apply Zx.step)⟩
 ·rw[if_neg c3] at H
  have c3b0:decide ((wrap64 (a1 - (l0.length:Int)))<0)=false:=Zf c3
  clear c3
  obtain rfl:=Zg H
  go_enter Try.func57,Try.ntmps57
  go_wp2
  go_ret
  exact⟨by first|rfl|(simp;done)|(simp[*];done),by repeat(first|exact Zx.refl _|apply Zx.step)⟩
def Zam.f (a0_0:ByteArray) (l0_1:List Int) (a0_2:Int) (a1:Int):Option (Int):=if (wrap64 (a1 - (a0_0.size:Int)))<0 then(some (-1)) else((Zaf.f l0_1 (wrap64 (a1 - (a0_0.size:Int)))).bind fun t35002=>(if t35002<0 then(some (-1)) else(some t35002)))
set_option maxHeartbeats 8000000 in
set_option maxRecDepth 100000 in
theorem Zam.calls (a0_0:ByteArray) (A0_1:Option Addr) (c0_1:Nat) (l0_1:List Int) (a0_2:Int) (a1:Int) (r:Int) (w:World) (hr0_1:Kd.C (Kd.int .i64) w A0_1 l0_1.length l0_1) (hc0_1:l0_1.length≤c0_1) (h:Zam.f a0_0 l0_1 a0_2 a1=some r) :
  Calls Try.prog 35 #[.agg #[.string a0_0,.slice A0_1 l0_1.length c0_1,.int .i64 a0_2],.int .i64 a1] w fun e w'=>e=.returned (.int .i64 r)∧Below w.heap.size w w':=by
 have hu39:=Try.underlying39
 have HR0_1:=Za hr0_1;have HC0_1:=Za hc0_1;clear hr0_1 hc0_1
 have HB:=Za (Below.refl w.heap.size w)
 have H:(if (wrap64 (a1 - (a0_0.size:Int)))<0 then(some (-1)) else((Zaf.f l0_1 (wrap64 (a1 - (a0_0.size:Int)))).bind fun t35002=>(if t35002<0 then(some (-1)) else(some t35002))))=some r:=h
 clear h
 by_cases c3:(wrap64 (a1 - (a0_0.size:Int)))<0
 ·rw[if_pos c3] at H
  have c3b0:decide ((wrap64 (a1 - (a0_0.size:Int)))<0)=true:=Ze c3
  clear c3
  obtain rfl:=Zg H
  go_enter Try.func35,Try.ntmps35
  go_wp2_with (first|((with_reducible refine ZI (N:=2) rfl ?_);refine ZK ?hg (N:=2) ?hd (cs:=#[.string a0_0,.slice A0_1 l0_1.length c0_1,.int .i64 a0_2]) (t:=39) ?hr ?_;(case hd=>rfl);(case hg=>rfl);(case hr=>first|(go_simp;done)|(go_simp;rfl));intro gb35001 hg w4 hbox hb;have n0_:=Za (Zw (by repeat(first|(with_reducible first|exact HB.out|apply Zl|apply Zm|apply Zn)|exact HB.out)) hb);have n1_:=Za (hbox);have n2_:=Za ((by rw[hg];exact(Zv (by repeat(first|(with_reducible first|exact HB.out|apply Zl|apply Zm|apply Zn)|exact HB.out))):w.heap.size≤gb35001));have n3_:=Za ((by rw[hg];exact(Zv (by repeat(first|(with_reducible first|exact HB.out|apply Zl|apply Zm|apply Zn)|exact HB.out))):w.heap.size≤gb35001));clear HB;have HB:=n0_;have BK35001:=n1_;have GW35001:=n2_;have GE35001:=n3_;clear n0_ n1_ n2_ n3_;clear hb hbox hg;have hcz5_0:w4.cell? ⟨gb35001,0,none⟩=some (.string a0_0):=(Zq BK35001.out 0).trans rfl;have hcz5_1:w4.cell? ⟨gb35001,1,none⟩=some (.slice A0_1 l0_1.length c0_1):=(Zq BK35001.out 1).trans rfl;have hcz5_2:w4.cell? ⟨gb35001,2,none⟩=some (.int .i64 a0_2):=(Zq BK35001.out 2).trans rfl;have hfz5_0:=Zo BK35001.out 0;have hfz5_1:=Zo BK35001.out 1;have hfz5_2:=Zo BK35001.out 2))
  go_ret
  exact⟨by first|rfl|(simp[ZC,ZB] <;> rfl)|(simp[*,ZC,ZB] <;> rfl),by repeat(first|(with_reducible first|exact HB.out|apply Zl|apply Zm|apply Zn|refine Zp ?_ GE35001.out)|exact HB.out)⟩
 ·rw[if_neg c3] at H
  have c3b0:decide ((wrap64 (a1 - (a0_0.size:Int)))<0)=false:=Zf c3
  clear c3
  replace H:=Option.bind_eq_some_iff.mp H
  obtain⟨t35002,A60,H⟩:=H
  replace H:(if t35002<0 then(some (-1)) else(some t35002))=some r:=H
  have A6:=Za A60;clear A60
  by_cases c7:t35002<0
  ·rw[if_pos c7] at H
   have c7b0:decide (t35002<0)=true:=Ze c7
   clear c7
   obtain rfl:=Zg H
   go_enter Try.func35,Try.ntmps35
   go_wp2_with (first|((with_reducible refine ZI (N:=2) rfl ?_);refine ZK ?hg (N:=2) ?hd (cs:=#[.string a0_0,.slice A0_1 l0_1.length c0_1,.int .i64 a0_2]) (t:=39) ?hr ?_;(case hd=>rfl);(case hg=>rfl);(case hr=>first|(go_simp;done)|(go_simp;rfl));intro gb35001 hg w8 hbox hb;have n0_:=Za (Zw (by repeat(first|(with_reducible first|exact HB.out|apply Zl|apply Zm|apply Zn)|exact HB.out)) hb);have n1_:=Za (hbox);have n2_:=Za ((by rw[hg];exact(Zv (by repeat(first|(with_reducible first|exact HB.out|apply Zl|apply Zm|apply Zn)|exact HB.out))):w.heap.size≤gb35001));have n3_:=Za ((by rw[hg];exact(Zv (by repeat(first|(with_reducible first|exact HB.out|apply Zl|apply Zm|apply Zn)|exact HB.out))):w.heap.size≤gb35001));clear HB;have HB:=n0_;have BK35001:=n1_;have GW35001:=n2_;have GE35001:=n3_;clear n0_ n1_ n2_ n3_;clear hb hbox hg;have hcz9_0:w8.cell? ⟨gb35001,0,none⟩=some (.string a0_0):=(Zq BK35001.out 0).trans rfl;have hcz9_1:w8.cell? ⟨gb35001,1,none⟩=some (.slice A0_1 l0_1.length c0_1):=(Zq BK35001.out 1).trans rfl;have hcz9_2:w8.cell? ⟨gb35001,2,none⟩=some (.int .i64 a0_2):=(Zq BK35001.out 2).trans rfl;have hfz9_0:=Zo BK35001.out 0;have hfz9_1:=Zo BK35001.out 1;have hfz9_2:=Zo BK35001.out 2)|((with_reducible refine ZS (f:=57) rfl ?_);refine Zal (some 15) rfl rfl Try.func57 (by kernel_rfl) rfl #[.slice A0_1 l0_1.length c0_1,.int .i64 (wrap64 (a1 - (a0_0.size:Int)))] rfl (by(try simp only[List.map_toArray,List.map_cons,List.map_nil]);first|done|rfl|(simp only[Zj,Zi];rfl)) ?_;(with_reducible refine(Zaf.calls _ _ l0_1 (wrap64 (a1 - (a0_0.size:Int))) t35002 _ ?side1 ?side2 A6.out).mono ?_);(case side1=>repeat(first|exact(Zb HR0_1.out HB.out)|(with_reducible refine Kd.C_alloc ?_ _)|(with_reducible refine Kd.C_drewN ?_ _)|(with_reducible refine Kd.C_drew ?_)));(case side2=>exact HC0_1.out);rintro e w' ⟨rfl,⟨nd,rfl⟩⟩;refine⟨_,rfl,?_⟩))
   go_ret
   exact⟨by first|rfl|(simp[ZC,ZB] <;> rfl)|(simp[*,ZC,ZB] <;> rfl),by repeat(first|(with_reducible first|exact HB.out|apply Zl|apply Zm|apply Zn|refine Zp ?_ GE35001.out)|exact HB.out)⟩
  ·rw[if_neg c7] at H
   have c7b0:decide (t35002<0)=false:=Zf c7
   clear c7
   obtain rfl:=Zg H
   go_enter Try.func35,Try.ntmps35
   go_wp2_with (first|((with_reducible refine ZI (N:=2) rfl ?_);refine ZK ?hg (N:=2) ?hd (cs:=#[.string a0_0,.slice A0_1 l0_1.length c0_1,.int .i64 a0_2]) (t:=39) ?hr ?_;(case hd=>rfl);(case hg=>rfl);(case hr=>first|(go_simp;done)|(go_simp;rfl));intro gb35001 hg w10 hbox hb;have n0_:=Za (Zw (by repeat(first|(with_reducible first|exact HB.out|apply Zl|apply Zm|apply Zn)|exact HB.out)) hb);have n1_:=Za (hbox);have n2_:=Za ((by rw[hg];exact(Zv (by repeat(first|(with_reducible first|exact HB.out|apply Zl|apply Zm|apply Zn)|exact HB.out))):w.heap.size≤gb35001));have n3_:=Za ((by rw[hg];exact(Zv (by repeat(first|(with_reducible first|exact HB.out|apply Zl|apply Zm|apply Zn)|exact HB.out))):w.heap.size≤gb35001));clear HB;have HB:=n0_;have BK35001:=n1_;have GW35001:=n2_;have GE35001:=n3_;clear n0_ n1_ n2_ n3_;clear hb hbox hg;have hcz11_0:w10.cell? ⟨gb35001,0,none⟩=some (.string a0_0):=(Zq BK35001.out 0).trans rfl;have hcz11_1:w10.cell? ⟨gb35001,1,none⟩=some (.slice A0_1 l0_1.length c0_1):=(Zq BK35001.out 1).trans rfl;have hcz11_2:w10.cell? ⟨gb35001,2,none⟩=some (.int .i64 a0_2):=(Zq BK35001.out 2).trans rfl;have hfz11_0:=Zo BK35001.out 0;have hfz11_1:=Zo BK35001.out 1;have hfz11_2:=Zo BK35001.out 2)|((with_reducible refine ZS (f:=57) rfl ?_);refine Zal (some 15) rfl rfl Try.func57 (by kernel_rfl) rfl #[.slice A0_1 l0_1.length c0_1,.int .i64 (wrap64 (a1 - (a0_0.size:Int)))] rfl (by(try simp only[List.map_toArray,List.map_cons,List.map_nil]);first|done|rfl|(simp only[Zj,Zi];rfl)) ?_;(with_reducible refine(Zaf.calls _ _ l0_1 (wrap64 (a1 - (a0_0.size:Int))) t35002 _ ?side1 ?side2 A6.out).mono ?_);(case side1=>repeat(first|exact(Zb HR0_1.out HB.out)|(with_reducible refine Kd.C_alloc ?_ _)|(with_reducible refine Kd.C_drewN ?_ _)|(with_reducible refine Kd.C_drew ?_)));(case side2=>exact HC0_1.out);rintro e w' ⟨rfl,⟨nd,rfl⟩⟩;refine⟨_,rfl,?_⟩))
   go_ret
   exact⟨by first|rfl|(simp[ZC,ZB] <;> rfl)|(simp[*,ZC,ZB] <;> rfl),by repeat(first|(with_reducible first|exact HB.out|apply Zl|apply Zm|apply Zn|refine Zp ?_ GE35001.out)|exact HB.out)⟩
def ZE.l0:Nat→List (S39)→Int→Int→Option (Int)
 | 0,_,_,_=>none
 | k+1,x0,x1,x5=>if x5<(x0.length:Int) then(if 0≤x5 then((Zam.f ((ZJ x0 x5).f0) ((ZJ x0 x5).f1) ((ZJ x0 x5).f2) x1).bind fun t67002=>(if t67002<0 then(some (-1)) else(ZE.l0 k x0 t67002 (wrap64 (x5+1))))) else(none)) else(some x1)
def ZE.f (k:Nat) (l0:List (S39)) (a1:Int):Option (Int):=if (wrap64 (a1 - (l0.length:Int)))<0 then(some (-1)) else(ZE.l0 k l0 (wrap64 (a1 - (l0.length:Int))) 0)
set_option maxHeartbeats 8000000 in
set_option maxRecDepth 100000 in
theorem ZE.calls (k:Nat) (A0:Option Addr) (c0:Nat) (l0:List (S39)) (a1:Int) (r:Int) (w:World) (hr0:Kd.C k39 w A0 l0.length l0) (hc0:l0.length≤c0) (h:ZE.f k l0 a1=some r) :
  Calls Try.prog 67 #[.slice A0 l0.length c0,.int .i64 a1] w fun e w'=>e=.returned (.int .i64 r)∧Below w.heap.size w w':=by
 have hu39:=Try.underlying39
 have HR0:=Za hr0;have HC0:=Za hc0;clear hr0 hc0
 have HB:=Za (Below.refl w.heap.size w)
 have H:(if (wrap64 (a1 - (l0.length:Int)))<0 then(some (-1)) else(ZE.l0 k l0 (wrap64 (a1 - (l0.length:Int))) 0))=some r:=h
 clear h
 by_cases c3:(wrap64 (a1 - (l0.length:Int)))<0
 ·rw[if_pos c3] at H
  have c3b0:decide ((wrap64 (a1 - (l0.length:Int)))<0)=true:=Ze c3
  clear c3
  obtain rfl:=Zg H
  go_enter Try.func67,Try.ntmps67
  go_wp2
  go_ret
  exact⟨by first|rfl|(simp[ZC,ZB] <;> rfl)|(simp[*,ZC,ZB] <;> rfl),by repeat(first|(with_reducible first|exact HB.out|apply Zl|apply Zm|apply Zn)|exact HB.out)⟩
 ·rw[if_neg c3] at H
  have c3b0:decide ((wrap64 (a1 - (l0.length:Int)))<0)=false:=Zf c3
  clear c3
  have H':=Za H
  clear H
  go_enter Try.func67,Try.ntmps67
  go_wp2
  go_loopg [1,5] k (fun kq v1 v5 w'=>∃(x1_1:Int) (x5_1:Int),v1=.int .i64 x1_1∧v5=.int .i64 x5_1∧Aside0 (ZE.l0 kq l0 x1_1 x5_1=some r)∧Aside0 (kq≤k)∧Aside0 (Below w.heap.size w w'))
  case atStart=>exact⟨(wrap64 (a1 - (l0.length:Int))),(0),(by first|rfl|(simp;done)|(simp[*];done)),(by first|rfl|(simp;done)|(simp[*];done)),H',⟨Nat.le_refl _⟩,⟨by repeat(first|(with_reducible first|exact HB.out|apply Zl|apply Zm|apply Zn)|exact HB.out)⟩⟩
  case round=>
   clear H'
   try clear p2
   try clear c3
   try clear c3b0
   obtain⟨x1_1,x5_1,rfl,rfl,HA,HK1,HB⟩:=hrel
   cases gk with
   | zero=>exact absurd HA.out (by simp[ZE.l0])
   | succ k1=>
    have H:=HA.out
    clear HA
    simp only[ZE.l0] at H
    by_cases c4:x5_1<(l0.length:Int)
    ·rw[if_pos c4] at H
     have c4b0:decide (x5_1<(l0.length:Int))=true:=Ze c4
     clear c4
     by_cases c5:0≤x5_1
     ·rw[if_pos c5] at H
      have c5b0:decide (0≤x5_1)=true:=Ze c5
      clear c5
      replace H:=Option.bind_eq_some_iff.mp H
      obtain⟨t67002,A60,H⟩:=H
      replace H:(if t67002<0 then(some (-1)) else(ZE.l0 k1 l0 t67002 (wrap64 (x5_1+1))))=some r:=H
      have A6:=Za A60;clear A60
      by_cases c7:t67002<0
      ·rw[if_pos c7] at H
       have c7b0:decide (t67002<0)=true:=Ze c7
       clear c7
       obtain rfl:=Zg H
       have p67001:0≤(x5_1:Int):=Zd (by first|(with_reducible assumption)|assumption)
       have q67001:x5_1<(l0.length:Int):=Zd (by first|(with_reducible assumption)|assumption)
       obtain⟨ad67001,A67001_1,c67001_1,e67001,hx67001_0,hx67001_1,hx67001_2,hl67001_1,hi67001_1⟩:=at_T39 HR0.out x5_1 p67001 q67001
       cases e67001
       replace hx67001_0:=(HB.out.cell (Zc w _ hx67001_0)).trans hx67001_0
       replace hx67001_1:=(HB.out.cell (Zc w _ hx67001_1)).trans hx67001_1
       replace hx67001_2:=(HB.out.cell (Zc w _ hx67001_2)).trans hx67001_2
       have HR67001_1:=Za hi67001_1;have HC67001_1:=Za hl67001_1;clear hi67001_1 hl67001_1
       replace p67001:=eq_true p67001
       replace q67001:=eq_true q67001
       go_wp2_with (first|((with_reducible refine ZS (f:=35) rfl ?_);refine Zal (some 23) rfl rfl Try.func35 (by kernel_rfl) rfl #[.agg #[.string ((ZJ l0 x5_1).f0),.slice A67001_1 ((ZJ l0 x5_1).f1).length c67001_1,.int .i64 ((ZJ l0 x5_1).f2)],.int .i64 x1_1] rfl (by(try simp only[List.map_toArray,List.map_cons,List.map_nil]);first|done|rfl|(simp only[Zj,Zi];rfl)) ?_;(with_reducible refine(Zam.calls ((ZJ l0 x5_1).f0) _ _ ((ZJ l0 x5_1).f1) ((ZJ l0 x5_1).f2) x1_1 t67002 _ ?side1 ?side2 A6.out).mono ?_);(case side1=>repeat(first|exact(Zb HR67001_1.out HB.out)|(with_reducible refine Kd.C_alloc ?_ _)|(with_reducible refine Kd.C_drewN ?_ _)|(with_reducible refine Kd.C_drew ?_)));(case side2=>exact HC67001_1.out);rintro e w8 ⟨rfl,hb⟩;refine⟨_,rfl,?_⟩;have n0_:=Za (Zw (by repeat(first|(with_reducible first|exact HB.out|apply Zl|apply Zm|apply Zn)|exact HB.out)) hb);clear HB;have HB:=n0_;clear n0_;(try clear hb);(try clear hb2);(try clear hk);(try clear hi)))
       go_ret
       exact⟨by first|rfl|(simp[ZC,ZB] <;> rfl)|(simp[*,ZC,ZB] <;> rfl),by repeat(first|(with_reducible first|exact HB.out|apply Zl|apply Zm|apply Zn)|exact HB.out)⟩
      ·rw[if_neg c7] at H
       have c7b0:decide (t67002<0)=false:=Zf c7
       clear c7
       have H':=Za H
       clear H
       have p67001:0≤(x5_1:Int):=Zd (by first|(with_reducible assumption)|assumption)
       have q67001:x5_1<(l0.length:Int):=Zd (by first|(with_reducible assumption)|assumption)
       obtain⟨ad67001,A67001_1,c67001_1,e67001,hx67001_0,hx67001_1,hx67001_2,hl67001_1,hi67001_1⟩:=at_T39 HR0.out x5_1 p67001 q67001
       cases e67001
       replace hx67001_0:=(HB.out.cell (Zc w _ hx67001_0)).trans hx67001_0
       replace hx67001_1:=(HB.out.cell (Zc w _ hx67001_1)).trans hx67001_1
       replace hx67001_2:=(HB.out.cell (Zc w _ hx67001_2)).trans hx67001_2
       have HR67001_1:=Za hi67001_1;have HC67001_1:=Za hl67001_1;clear hi67001_1 hl67001_1
       replace p67001:=eq_true p67001
       replace q67001:=eq_true q67001
       go_wp2_with (first|((with_reducible refine ZS (f:=35) rfl ?_);refine Zal (some 23) rfl rfl Try.func35 (by kernel_rfl) rfl #[.agg #[.string ((ZJ l0 x5_1).f0),.slice A67001_1 ((ZJ l0 x5_1).f1).length c67001_1,.int .i64 ((ZJ l0 x5_1).f2)],.int .i64 x1_1] rfl (by(try simp only[List.map_toArray,List.map_cons,List.map_nil]);first|done|rfl|(simp only[Zj,Zi];rfl)) ?_;(with_reducible refine(Zam.calls ((ZJ l0 x5_1).f0) _ _ ((ZJ l0 x5_1).f1) ((ZJ l0 x5_1).f2) x1_1 t67002 _ ?side1 ?side2 A6.out).mono ?_);(case side1=>repeat(first|exact(Zb HR67001_1.out HB.out)|(with_reducible refine Kd.C_alloc ?_ _)|(with_reducible refine Kd.C_drewN ?_ _)|(with_reducible refine Kd.C_drew ?_)));(case side2=>exact HC67001_1.out);rintro e w9 ⟨rfl,hb⟩;refine⟨_,rfl,?_⟩;have n0_:=Za (Zw (by repeat(first|(with_reducible first|exact HB.out|apply Zl|apply Zm|apply Zn)|exact HB.out)) hb);clear HB;have HB:=n0_;clear n0_;(try clear hb);(try clear hb2);(try clear hk);(try clear hi)))
       go_roundg k1
       case measure=>have:=HK1.out;omega
       case rel=>exact⟨(t67002),(wrap64 (x5_1+1)),(by first|rfl|(simp;done)|(simp[*];done)),(by first|rfl|(simp;done)|(simp[*];done)),H',⟨by have:=HK1.out;omega⟩,⟨by repeat(first|(with_reducible first|exact HB.out|apply Zl|apply Zm|apply Zn)|exact HB.out)⟩⟩
     ·rw[if_neg c5] at H
      exact absurd H (by simp)
    ·rw[if_neg c4] at H
     have c4b0:decide (x5_1<(l0.length:Int))=false:=Zf c4
     clear c4
     obtain rfl:=Zg H
     go_wp2
     go_ret
     exact⟨by first|rfl|(simp[ZC,ZB] <;> rfl)|(simp[*,ZC,ZB] <;> rfl),by repeat(first|(with_reducible first|exact HB.out|apply Zl|apply Zm|apply Zn)|exact HB.out)⟩
def Zae.f (l0:List (S84)) (a1:Int):Option (Int):=if (wrap64 (a1 - (l0.length:Int)))<0 then(some (-1)) else(some (wrap64 (a1 - (l0.length:Int))))
set_option maxHeartbeats 8000000 in
set_option maxRecDepth 100000 in
theorem Zae.calls (A0:Option Addr) (c0:Nat) (l0:List (S84)) (a1:Int) (r:Int) (w:World) (hr0:Kd.C k84 w A0 l0.length l0) (hc0:l0.length≤c0) (h:Zae.f l0 a1=some r) :
  Calls Try.prog 68 #[.slice A0 l0.length c0,.int .i64 a1] w fun e w'=>e=.returned (.int .i64 r)∧Zx w w':=by
 have HR0:=Za hr0;have HC0:=Za hc0;clear hr0 hc0
 have H:(if (wrap64 (a1 - (l0.length:Int)))<0 then(some (-1)) else(some (wrap64 (a1 - (l0.length:Int)))))=some r:=h
 clear h
 by_cases c3:(wrap64 (a1 - (l0.length:Int)))<0
 ·rw[if_pos c3] at H
  have c3b0:decide ((wrap64 (a1 - (l0.length:Int)))<0)=true:=Ze c3
  clear c3
  obtain rfl:=Zg H
  go_enter Try.func68,Try.ntmps68
  go_wp2
  go_ret
  exact⟨by first|rfl|(simp;done)|(simp[*];done),by repeat(first|exact Zx.refl _|apply Zx.step)⟩
 ·rw[if_neg c3] at H
  have c3b0:decide ((wrap64 (a1 - (l0.length:Int)))<0)=false:=Zf c3
  clear c3
  obtain rfl:=Zg H
  go_enter Try.func68,Try.ntmps68
  go_wp2
  go_ret
  exact⟨by first|rfl|(simp;done)|(simp[*];done),by repeat(first|exact Zx.refl _|apply Zx.step)⟩
def Z0.f (k:Nat) (l0_0:List (S39)) (l0_1:List (S84)) (a0_2:Int) (a1:Int):Option (Int):=(ZE.f k l0_0 a1).bind fun t40002=>(if t40002<0 then(some (-1)) else((Zae.f l0_1 t40002).bind fun t40003=>(if t40003<0 then(some (-1)) else(some t40003))))
set_option maxHeartbeats 8000000 in
set_option maxRecDepth 100000 in
theorem Z0.calls (k:Nat) (A0_0:Option Addr) (c0_0:Nat) (l0_0:List (S39)) (A0_1:Option Addr) (c0_1:Nat) (l0_1:List (S84)) (a0_2:Int) (a1:Int) (r:Int) (w:World) (hr0_0:Kd.C k39 w A0_0 l0_0.length l0_0) (hc0_0:l0_0.length≤c0_0) (hr0_1:Kd.C k84 w A0_1 l0_1.length l0_1) (hc0_1:l0_1.length≤c0_1) (h:Z0.f k l0_0 l0_1 a0_2 a1=some r) :
  Calls Try.prog 40 #[.agg #[.slice A0_0 l0_0.length c0_0,.slice A0_1 l0_1.length c0_1,.int .i64 a0_2],.int .i64 a1] w fun e w'=>e=.returned (.int .i64 r)∧Below w.heap.size w w':=by
 have hu49:=Try.underlying49
 have HR0_0:=Za hr0_0;have HC0_0:=Za hc0_0;clear hr0_0 hc0_0;have HR0_1:=Za hr0_1;have HC0_1:=Za hc0_1;clear hr0_1 hc0_1
 have HB:=Za (Below.refl w.heap.size w)
 have H:((ZE.f k l0_0 a1).bind fun t40002=>(if t40002<0 then(some (-1)) else((Zae.f l0_1 t40002).bind fun t40003=>(if t40003<0 then(some (-1)) else(some t40003)))))=some r:=h
 clear h
 replace H:=Option.bind_eq_some_iff.mp H
 obtain⟨t40002,A30,H⟩:=H
 replace H:(if t40002<0 then(some (-1)) else((Zae.f l0_1 t40002).bind fun t40003=>(if t40003<0 then(some (-1)) else(some t40003))))=some r:=H
 have A3:=Za A30;clear A30
 by_cases c4:t40002<0
 ·rw[if_pos c4] at H
  have c4b0:decide (t40002<0)=true:=Ze c4
  clear c4
  obtain rfl:=Zg H
  go_enter Try.func40,Try.ntmps40
  go_wp2_with (first|((with_reducible refine ZI (N:=2) rfl ?_);refine ZK ?hg (N:=2) ?hd (cs:=#[.slice A0_0 l0_0.length c0_0,.slice A0_1 l0_1.length c0_1,.int .i64 a0_2]) (t:=49) ?hr ?_;(case hd=>rfl);(case hg=>rfl);(case hr=>first|(go_simp;done)|(go_simp;rfl));intro gb40001 hg w5 hbox hb;have n0_:=Za (Zw (by repeat(first|(with_reducible first|exact HB.out|apply Zl|apply Zm|apply Zn)|exact HB.out)) hb);have n1_:=Za (hbox);have n2_:=Za ((by rw[hg];exact(Zv (by repeat(first|(with_reducible first|exact HB.out|apply Zl|apply Zm|apply Zn)|exact HB.out))):w.heap.size≤gb40001));have n3_:=Za ((by rw[hg];exact(Zv (by repeat(first|(with_reducible first|exact HB.out|apply Zl|apply Zm|apply Zn)|exact HB.out))):w.heap.size≤gb40001));clear HB;have HB:=n0_;have BK40001:=n1_;have GW40001:=n2_;have GE40001:=n3_;clear n0_ n1_ n2_ n3_;clear hb hbox hg;have hcz6_0:w5.cell? ⟨gb40001,0,none⟩=some (.slice A0_0 l0_0.length c0_0):=(Zq BK40001.out 0).trans rfl;have hcz6_1:w5.cell? ⟨gb40001,1,none⟩=some (.slice A0_1 l0_1.length c0_1):=(Zq BK40001.out 1).trans rfl;have hcz6_2:w5.cell? ⟨gb40001,2,none⟩=some (.int .i64 a0_2):=(Zq BK40001.out 2).trans rfl;have hfz6_0:=Zo BK40001.out 0;have hfz6_1:=Zo BK40001.out 1;have hfz6_2:=Zo BK40001.out 2)|((with_reducible refine ZS (f:=67) rfl ?_);refine Zal (some 8) rfl rfl Try.func67 (by kernel_rfl) rfl #[.slice A0_0 l0_0.length c0_0,.int .i64 a1] rfl (by(try simp only[List.map_toArray,List.map_cons,List.map_nil]);first|done|rfl|(simp only[Zj,Zi];rfl)) ?_;(with_reducible refine(ZE.calls k _ _ l0_0 a1 t40002 _ ?side1 ?side2 A3.out).mono ?_);(case side1=>repeat(first|exact(Zb HR0_0.out HB.out)|(with_reducible refine Kd.C_alloc ?_ _)|(with_reducible refine Kd.C_drewN ?_ _)|(with_reducible refine Kd.C_drew ?_)));(case side2=>exact HC0_0.out);rintro e w7 ⟨rfl,hb⟩;refine⟨_,rfl,?_⟩;have n0_:=Za (ZG (g:=gb40001) (o:=.cells #[.slice A0_0 l0_0.length c0_0,.slice A0_1 l0_1.length c0_1,.int .i64 a0_2] 49 (0,0)) (by(with_reducible repeat(first|refine Zr ?_ _|refine Zt ?_|refine Zs ?_ _));exact BK40001.out) hb);have n1_:=Za (Zw (by repeat(first|(with_reducible first|exact HB.out|apply Zl|apply Zm|apply Zn|refine Zp ?_ GE40001.out)|exact HB.out)) hb);clear BK40001;clear HB;have BK40001:=n0_;have HB:=n1_;clear n0_ n1_;(try clear hb);(try clear hb2);(try clear hk);(try clear hi)))
  go_ret
  exact⟨by first|rfl|(simp[ZC,ZB] <;> rfl)|(simp[*,ZC,ZB] <;> rfl),by repeat(first|(with_reducible first|exact HB.out|apply Zl|apply Zm|apply Zn|refine Zp ?_ GE40001.out)|exact HB.out)⟩
 ·rw[if_neg c4] at H
  have c4b0:decide (t40002<0)=false:=Zf c4
  clear c4
  replace H:=Option.bind_eq_some_iff.mp H
  obtain⟨t40003,A80,H⟩:=H
  replace H:(if t40003<0 then(some (-1)) else(some t40003))=some r:=H
  have A8:=Za A80;clear A80
  by_cases c9:t40003<0
  ·rw[if_pos c9] at H
   have c9b0:decide (t40003<0)=true:=Ze c9
   clear c9
   obtain rfl:=Zg H
   go_enter Try.func40,Try.ntmps40
   go_wp2_with (first|((with_reducible refine ZI (N:=2) rfl ?_);refine ZK ?hg (N:=2) ?hd (cs:=#[.slice A0_0 l0_0.length c0_0,.slice A0_1 l0_1.length c0_1,.int .i64 a0_2]) (t:=49) ?hr ?_;(case hd=>rfl);(case hg=>rfl);(case hr=>first|(go_simp;done)|(go_simp;rfl));intro gb40001 hg w10 hbox hb;have n0_:=Za (Zw (by repeat(first|(with_reducible first|exact HB.out|apply Zl|apply Zm|apply Zn)|exact HB.out)) hb);have n1_:=Za (hbox);have n2_:=Za ((by rw[hg];exact(Zv (by repeat(first|(with_reducible first|exact HB.out|apply Zl|apply Zm|apply Zn)|exact HB.out))):w.heap.size≤gb40001));have n3_:=Za ((by rw[hg];exact(Zv (by repeat(first|(with_reducible first|exact HB.out|apply Zl|apply Zm|apply Zn)|exact HB.out))):w.heap.size≤gb40001));clear HB;have HB:=n0_;have BK40001:=n1_;have GW40001:=n2_;have GE40001:=n3_;clear n0_ n1_ n2_ n3_;clear hb hbox hg;have hcz11_0:w10.cell? ⟨gb40001,0,none⟩=some (.slice A0_0 l0_0.length c0_0):=(Zq BK40001.out 0).trans rfl;have hcz11_1:w10.cell? ⟨gb40001,1,none⟩=some (.slice A0_1 l0_1.length c0_1):=(Zq BK40001.out 1).trans rfl;have hcz11_2:w10.cell? ⟨gb40001,2,none⟩=some (.int .i64 a0_2):=(Zq BK40001.out 2).trans rfl;have hfz11_0:=Zo BK40001.out 0;have hfz11_1:=Zo BK40001.out 1;have hfz11_2:=Zo BK40001.out 2)|((with_reducible refine ZS (f:=67) rfl ?_);refine Zal (some 8) rfl rfl Try.func67 (by kernel_rfl) rfl #[.slice A0_0 l0_0.length c0_0,.int .i64 a1] rfl (by(try simp only[List.map_toArray,List.map_cons,List.map_nil]);first|done|rfl|(simp only[Zj,Zi];rfl)) ?_;(with_reducible refine(ZE.calls k _ _ l0_0 a1 t40002 _ ?side1 ?side2 A3.out).mono ?_);(case side1=>repeat(first|exact(Zb HR0_0.out HB.out)|(with_reducible refine Kd.C_alloc ?_ _)|(with_reducible refine Kd.C_drewN ?_ _)|(with_reducible refine Kd.C_drew ?_)));(case side2=>exact HC0_0.out);rintro e w12 ⟨rfl,hb⟩;refine⟨_,rfl,?_⟩;have n0_:=Za (ZG (g:=gb40001) (o:=.cells #[.slice A0_0 l0_0.length c0_0,.slice A0_1 l0_1.length c0_1,.int .i64 a0_2] 49 (0,0)) (by(with_reducible repeat(first|refine Zr ?_ _|refine Zt ?_|refine Zs ?_ _));exact BK40001.out) hb);have n1_:=Za (Zw (by repeat(first|(with_reducible first|exact HB.out|apply Zl|apply Zm|apply Zn|refine Zp ?_ GE40001.out)|exact HB.out)) hb);clear BK40001;clear HB;have BK40001:=n0_;have HB:=n1_;clear n0_ n1_;(try clear hb);(try clear hb2);(try clear hk);(try clear hi);have hcz13_0:w12.cell? ⟨gb40001,0,none⟩=some (.slice A0_0 l0_0.length c0_0):=(Zq BK40001.out 0).trans rfl;have hcz13_1:w12.cell? ⟨gb40001,1,none⟩=some (.slice A0_1 l0_1.length c0_1):=(Zq BK40001.out 1).trans rfl;have hcz13_2:w12.cell? ⟨gb40001,2,none⟩=some (.int .i64 a0_2):=(Zq BK40001.out 2).trans rfl;have hfz13_0:=Zo BK40001.out 0;have hfz13_1:=Zo BK40001.out 1;have hfz13_2:=Zo BK40001.out 2)|((with_reducible refine ZS (f:=68) rfl ?_);refine Zal (some 14) rfl rfl Try.func68 (by kernel_rfl) rfl #[.slice A0_1 l0_1.length c0_1,.int .i64 t40002] rfl (by(try simp only[List.map_toArray,List.map_cons,List.map_nil]);first|done|rfl|(simp only[Zj,Zi];rfl)) ?_;(with_reducible refine(Zae.calls _ _ l0_1 t40002 t40003 _ ?side1 ?side2 A8.out).mono ?_);(case side1=>repeat(first|exact(Zb HR0_1.out HB.out)|(with_reducible refine Kd.C_alloc ?_ _)|(with_reducible refine Kd.C_drewN ?_ _)|(with_reducible refine Kd.C_drew ?_)));(case side2=>exact HC0_1.out);rintro e w' ⟨rfl,⟨nd,rfl⟩⟩;refine⟨_,rfl,?_⟩))
   go_ret
   exact⟨by first|rfl|(simp[ZC,ZB] <;> rfl)|(simp[*,ZC,ZB] <;> rfl),by repeat(first|(with_reducible first|exact HB.out|apply Zl|apply Zm|apply Zn|refine Zp ?_ GE40001.out)|exact HB.out)⟩
  ·rw[if_neg c9] at H
   have c9b0:decide (t40003<0)=false:=Zf c9
   clear c9
   obtain rfl:=Zg H
   go_enter Try.func40,Try.ntmps40
   go_wp2_with (first|((with_reducible refine ZI (N:=2) rfl ?_);refine ZK ?hg (N:=2) ?hd (cs:=#[.slice A0_0 l0_0.length c0_0,.slice A0_1 l0_1.length c0_1,.int .i64 a0_2]) (t:=49) ?hr ?_;(case hd=>rfl);(case hg=>rfl);(case hr=>first|(go_simp;done)|(go_simp;rfl));intro gb40001 hg w14 hbox hb;have n0_:=Za (Zw (by repeat(first|(with_reducible first|exact HB.out|apply Zl|apply Zm|apply Zn)|exact HB.out)) hb);have n1_:=Za (hbox);have n2_:=Za ((by rw[hg];exact(Zv (by repeat(first|(with_reducible first|exact HB.out|apply Zl|apply Zm|apply Zn)|exact HB.out))):w.heap.size≤gb40001));have n3_:=Za ((by rw[hg];exact(Zv (by repeat(first|(with_reducible first|exact HB.out|apply Zl|apply Zm|apply Zn)|exact HB.out))):w.heap.size≤gb40001));clear HB;have HB:=n0_;have BK40001:=n1_;have GW40001:=n2_;have GE40001:=n3_;clear n0_ n1_ n2_ n3_;clear hb hbox hg;have hcz15_0:w14.cell? ⟨gb40001,0,none⟩=some (.slice A0_0 l0_0.length c0_0):=(Zq BK40001.out 0).trans rfl;have hcz15_1:w14.cell? ⟨gb40001,1,none⟩=some (.slice A0_1 l0_1.length c0_1):=(Zq BK40001.out 1).trans rfl;have hcz15_2:w14.cell? ⟨gb40001,2,none⟩=some (.int .i64 a0_2):=(Zq BK40001.out 2).trans rfl;have hfz15_0:=Zo BK40001.out 0;have hfz15_1:=Zo BK40001.out 1;have hfz15_2:=Zo BK40001.out 2)|((with_reducible refine ZS (f:=67) rfl ?_);refine Zal (some 8) rfl rfl Try.func67 (by kernel_rfl) rfl #[.slice A0_0 l0_0.length c0_0,.int .i64 a1] rfl (by(try simp only[List.map_toArray,List.map_cons,List.map_nil]);first|done|rfl|(simp only[Zj,Zi];rfl)) ?_;(with_reducible refine(ZE.calls k _ _ l0_0 a1 t40002 _ ?side1 ?side2 A3.out).mono ?_);(case side1=>repeat(first|exact(Zb HR0_0.out HB.out)|(with_reducible refine Kd.C_alloc ?_ _)|(with_reducible refine Kd.C_drewN ?_ _)|(with_reducible refine Kd.C_drew ?_)));(case side2=>exact HC0_0.out);rintro e w16 ⟨rfl,hb⟩;refine⟨_,rfl,?_⟩;have n0_:=Za (ZG (g:=gb40001) (o:=.cells #[.slice A0_0 l0_0.length c0_0,.slice A0_1 l0_1.length c0_1,.int .i64 a0_2] 49 (0,0)) (by(with_reducible repeat(first|refine Zr ?_ _|refine Zt ?_|refine Zs ?_ _));exact BK40001.out) hb);have n1_:=Za (Zw (by repeat(first|(with_reducible first|exact HB.out|apply Zl|apply Zm|apply Zn|refine Zp ?_ GE40001.out)|exact HB.out)) hb);clear BK40001;clear HB;have BK40001:=n0_;have HB:=n1_;clear n0_ n1_;(try clear hb);(try clear hb2);(try clear hk);(try clear hi);have hcz17_0:w16.cell? ⟨gb40001,0,none⟩=some (.slice A0_0 l0_0.length c0_0):=(Zq BK40001.out 0).trans rfl;have hcz17_1:w16.cell? ⟨gb40001,1,none⟩=some (.slice A0_1 l0_1.length c0_1):=(Zq BK40001.out 1).trans rfl;have hcz17_2:w16.cell? ⟨gb40001,2,none⟩=some (.int .i64 a0_2):=(Zq BK40001.out 2).trans rfl;have hfz17_0:=Zo BK40001.out 0;have hfz17_1:=Zo BK40001.out 1;have hfz17_2:=Zo BK40001.out 2)|((with_reducible refine ZS (f:=68) rfl ?_);refine Zal (some 14) rfl rfl Try.func68 (by kernel_rfl) rfl #[.slice A0_1 l0_1.length c0_1,.int .i64 t40002] rfl (by(try simp only[List.map_toArray,List.map_cons,List.map_nil]);first|done|rfl|(simp only[Zj,Zi];rfl)) ?_;(with_reducible refine(Zae.calls _ _ l0_1 t40002 t40003 _ ?side1 ?side2 A8.out).mono ?_);(case side1=>repeat(first|exact(Zb HR0_1.out HB.out)|(with_reducible refine Kd.C_alloc ?_ _)|(with_reducible refine Kd.C_drewN ?_ _)|(with_reducible refine Kd.C_drew ?_)));(case side2=>exact HC0_1.out);rintro e w' ⟨rfl,⟨nd,rfl⟩⟩;refine⟨_,rfl,?_⟩))
   go_ret
   exact⟨by first|rfl|(simp[ZC,ZB] <;> rfl)|(simp[*,ZC,ZB] <;> rfl),by repeat(first|(with_reducible first|exact HB.out|apply Zl|apply Zm|apply Zn|refine Zp ?_ GE40001.out)|exact HB.out)⟩
end Go.Proofs.Ytammpmadchekeaa.Pr
namespace Go.Proofs.Ytammpmadchekeaa.Pr
open Go.RowKit Go.Proofs.YtammpmadchekeaaW.PrintWords Go.Proofs.Ytammpmadchekeaa.Ni
abbrev LNode:=S39
abbrev PNode:=S42
abbrev LTie:=S84
abbrev PTie:=S77
def cvN (x:LNode):PNode:=⟨x.f0,x.f1,x.f2⟩
def cvT (x:LTie):PTie:=⟨x.f0,x.f1,x.f2,x.f3,x.f4⟩
theorem rdN_nat (l:List PNode) (i:Nat):Z5 l (i:Int)=l.getD i z42:=by unfold Z5;rw[Int.toNat_natCast]
theorem rdT_nat (l:List PTie) (i:Nat):ZA l (i:Int)=l.getD i z77:=by unfold ZA;rw[Int.toNat_natCast]
theorem rdLN_nat (l:List LNode) (i:Nat):ZJ l (i:Int)=l.getD i z39:=by unfold ZJ;rw[Int.toNat_natCast]
theorem rdLT_nat (l:List LTie) (i:Nat):ZZ l (i:Int)=l.getD i z84:=by unfold ZZ;rw[Int.toNat_natCast]
theorem zN:cvN z39=z42:=rfl
theorem zT:cvT z84=z77:=rfl
theorem getD_map {α β:Type} (f:α→β) (l:List α) (i:Nat) (a:α) (b:β) (h:f a=b):(l.map f).getD i b=f (l.getD i a):=by
 subst h
 rw[List.getD_eq_getElem?_getD,List.getD_eq_getElem?_getD,List.getElem?_map]
 cases l[i]? <;> rfl
def ZaQ (ns:List LNode) (ts:List LTie):Prop:=ns.length≤1048576∧ts.length≤1048576∧∀n∈ns,n.f0.size≤1048576∧n.f1.length≤1048576
def SmallP (ns:List PNode) (ts:List PTie):Prop:=ns.length≤1048576∧ts.length≤1048576∧∀n∈ns,n.f0.size≤1048576∧n.f1.length≤1048576
theorem ZaQ.cv {ns:List LNode} {ts:List LTie} (h:ZaQ ns ts):SmallP (ns.map cvN) (ts.map cvT):=by
 refine⟨by simpa using h.1,by simpa using h.2.1,fun n hn=>?_⟩
 obtain⟨m,hm,rfl⟩:=List.mem_map.1 hn
 exact h.2.2 m hm
def eqF (p:S42→S42→Bool):List S42→List S42→Bool
 | [],[]=>true
 | x :: s,y :: t=>p x y && eqF p s t
 | _,_=>false
theorem eqF_len {p:S42→S42→Bool}:∀(s t:List S42),s.length≠t.length→eqF p s t=false
 | [],[],h=>absurd rfl h
 | [],_ :: _,_=>rfl
 | _ :: _,[],_=>rfl
 | x :: s,y :: t,h=>by
  rw[eqF,eqF_len s t (by simpa using h),Bool.and_false]
def Z4 (x y:S42):Bool:=decide (x.f0.toList=y.f0.toList) && (decide (x.f1=y.f1) && decide (x.f2=y.f2))
def tieE (x y:PTie):Bool:=(!(x.f0 == y.f0) || (!(x.f1 == y.f1) || (!(x.f2 == y.f2) || (!(x.f3 == y.f3) || (!(x.f4 == y.f4))))))
def eqT:List PTie→List PTie→Bool
 | [],[]=>true
 | x :: s,y :: t=>!(tieE x y) && eqT s t
 | _,_=>false
theorem eqT_len:∀(s t:List PTie),s.length≠t.length→eqT s t=false
 | [],[],h=>absurd rfl h
 | [],_ :: _,_=>rfl
 | _ :: _,[],_=>rfl
 | x :: s,y :: t,h=>by
  rw[eqT,eqT_len s t (by simpa using h),Bool.and_false]
end Go.Proofs.Ytammpmadchekeaa.Pr
namespace Go.Proofs.Ytammpmadchekeaa.Pr
open Go.RowKit Go.Proofs.YtammpmadchekeaaW.PrintWords Go.Proofs.YtammpmadchekeaaW.PrintLast Go.Proofs.YtammpmadchekeaaW.PrintMore
attribute [local go_sem] Zac Zaa Zah Zag Z2 Z1 Zab Z9
set_option linter.unusedVariables false
set_option linter.unusedSimpArgs false
def ZL.l0:Nat→List Int→List Int→Int→Int→Option (Bool)
 | 0,_,_,_,_=>none
 | k+1,x1,x12,x13,x14=>if x14<x13 then(if 0≤x14 then(if x14<(x12.length:Int) then(if x14<(x1.length:Int) then(if (rd x12 x14)=(rd x1 x14) then(ZL.l0 k x1 x12 x13 (wrap64 (x14+1))) else(some false)) else(none)) else(none)) else(none)) else(some true)
def ZL.f (k:Nat) (l0:List Int) (l1:List Int):Option (Bool):=if (l0.length:Int)=(l1.length:Int) then(ZL.l0 k l1 l0 (l0.length:Int) 0) else(some false)
set_option maxHeartbeats 8000000 in
set_option maxRecDepth 100000 in
theorem ZL.calls (k:Nat) (A0:Option Addr) (c0:Nat) (l0:List Int) (A1:Option Addr) (c1:Nat) (l1:List Int) (r:Bool) (w:World) (hr0:Kd.C (Kd.int .i64) w A0 l0.length l0) (hc0:l0.length≤c0) (hr1:Kd.C (Kd.int .i64) w A1 l1.length l1) (hc1:l1.length≤c1) (h:ZL.f k l0 l1=some r) :
  Calls Try.prog 58 #[.slice A0 l0.length c0,.slice A1 l1.length c1] w fun e w'=>e=.returned (.bool r)∧Zx w w':=by
 have HR0:=Za hr0;have HC0:=Za hc0;clear hr0 hc0;have HR1:=Za hr1;have HC1:=Za hc1;clear hr1 hc1
 have H:(if (l0.length:Int)=(l1.length:Int) then(ZL.l0 k l1 l0 (l0.length:Int) 0) else(some false))=some r:=h
 clear h
 by_cases c3:(l0.length:Int)=(l1.length:Int)
 ·rw[if_pos c3] at H
  have c3b0:((l0.length:Int) == (l1.length:Int))=true:=beq_iff_eq.mpr c3
  have c3b1:((l0.length:Int) != (l1.length:Int))=false:=bne_eq_false_iff_eq.mpr c3
  have c3b2:(l0.length == l1.length)=true:=by first|simpa using c3|(simp at c3 ⊢;omega)
  clear c3
  have H':=Za H
  clear H
  go_enter Try.func58,Try.ntmps58
  go_wp2
  go_loopg [14] k (fun kq v14 w'=>∃(x14_1:Int),v14=.int .i64 x14_1∧Aside0 (ZL.l0 kq l1 l0 (l0.length:Int) x14_1=some r)∧Aside0 (kq≤k)∧Zx w w')
  case atStart=>exact⟨(0),(by first|rfl|(simp;done)|(simp[*];done)),H',⟨Nat.le_refl _⟩,by repeat(first|exact Zx.refl _|apply Zx.step)⟩
  case round=>
   clear H'
   try clear c1
   try clear p2
   try clear c3
   try clear c3b0
   try clear c3b1
   try clear c3b2
   obtain⟨x14_1,rfl,HA,HK1,⟨m1,rfl⟩⟩:=hrel
   cases gk with
   | zero=>exact absurd HA.out (by simp[ZL.l0])
   | succ k1=>
    have H:=HA.out
    clear HA
    simp only[ZL.l0] at H
    by_cases c4:x14_1<(l0.length:Int)
    ·rw[if_pos c4] at H
     have c4b0:decide (x14_1<(l0.length:Int))=true:=Ze c4
     clear c4
     by_cases c5:0≤x14_1
     ·rw[if_pos c5] at H
      have c5b0:decide (0≤x14_1)=true:=Ze c5
      clear c5
      by_cases c6:x14_1<(l0.length:Int)
      ·rw[if_pos c6] at H
       have c6b0:decide (x14_1<(l0.length:Int))=true:=Ze c6
       clear c6
       by_cases c7:x14_1<(l1.length:Int)
       ·rw[if_pos c7] at H
        have c7b0:decide (x14_1<(l1.length:Int))=true:=Ze c7
        clear c7
        by_cases c8:(rd l0 x14_1)=(rd l1 x14_1)
        ·rw[if_pos c8] at H
         have c8b0:((rd l0 x14_1) == (rd l1 x14_1))=true:=beq_iff_eq.mpr c8
         have c8b1:((rd l0 x14_1) != (rd l1 x14_1))=false:=bne_eq_false_iff_eq.mpr c8
         clear c8
         have H':=Za H
         clear H
         have p58001:0≤(x14_1:Int):=Zd (by first|(with_reducible assumption)|assumption)
         have q58001:x14_1<(l0.length:Int):=Zd (by first|(with_reducible assumption)|assumption)
         obtain⟨ad58001,e58001,hx58001_0⟩:=Kd.at_int HR0.out x14_1 p58001 q58001
         cases e58001
         replace p58001:=eq_true p58001
         replace q58001:=eq_true q58001
         have p58002:0≤(x14_1:Int):=Zd (by first|(with_reducible assumption)|assumption)
         have q58002:x14_1<(l1.length:Int):=Zd (by first|(with_reducible assumption)|assumption)
         obtain⟨ad58002,e58002,hx58002_0⟩:=Kd.at_int HR1.out x14_1 p58002 q58002
         cases e58002
         replace p58002:=eq_true p58002
         replace q58002:=eq_true q58002
         go_wp2
         go_roundg k1
         case measure=>have:=HK1.out;omega
         case rel=>exact⟨(wrap64 (x14_1+1)),(by first|rfl|(simp;done)|(simp[*];done)),H',⟨by have:=HK1.out;omega⟩,by repeat(first|exact Zx.refl _|apply Zx.step)⟩
        ·rw[if_neg c8] at H
         have c8b0:((rd l0 x14_1) == (rd l1 x14_1))=false:=beq_eq_false_iff_ne.mpr c8
         have c8b1:((rd l0 x14_1) != (rd l1 x14_1))=true:=bne_iff_ne.mpr c8
         obtain rfl:=Zg H
         have p58001:0≤(x14_1:Int):=Zd (by first|(with_reducible assumption)|assumption)
         have q58001:x14_1<(l0.length:Int):=Zd (by first|(with_reducible assumption)|assumption)
         obtain⟨ad58001,e58001,hx58001_0⟩:=Kd.at_int HR0.out x14_1 p58001 q58001
         cases e58001
         replace p58001:=eq_true p58001
         replace q58001:=eq_true q58001
         have p58002:0≤(x14_1:Int):=Zd (by first|(with_reducible assumption)|assumption)
         have q58002:x14_1<(l1.length:Int):=Zd (by first|(with_reducible assumption)|assumption)
         obtain⟨ad58002,e58002,hx58002_0⟩:=Kd.at_int HR1.out x14_1 p58002 q58002
         cases e58002
         replace p58002:=eq_true p58002
         replace q58002:=eq_true q58002
         go_wp2
         go_ret
         exact⟨by first|rfl|(simp;done)|(simp[*];done),by repeat(first|exact Zx.refl _|apply Zx.step)⟩
       ·rw[if_neg c7] at H
        exact absurd H (by simp)
      ·rw[if_neg c6] at H
       exact absurd H (by simp)
     ·rw[if_neg c5] at H
      exact absurd H (by simp)
    ·rw[if_neg c4] at H
     have c4b0:decide (x14_1<(l0.length:Int))=false:=Zf c4
     clear c4
     obtain rfl:=Zg H
     go_wp2
     go_ret
     exact⟨by first|rfl|(simp;done)|(simp[*];done),by repeat(first|exact Zx.refl _|apply Zx.step)⟩
 ·rw[if_neg c3] at H
  have c3b0:((l0.length:Int) == (l1.length:Int))=false:=beq_eq_false_iff_ne.mpr c3
  have c3b1:((l0.length:Int) != (l1.length:Int))=true:=bne_iff_ne.mpr c3
  have c3b2:(l0.length == l1.length)=false:=by first|simpa using c3|(simp at c3 ⊢;omega)
  obtain rfl:=Zg H
  go_enter Try.func58,Try.ntmps58
  go_wp2
  go_ret
  exact⟨by first|rfl|(simp;done)|(simp[*];done),by repeat(first|exact Zx.refl _|apply Zx.step)⟩
def Zy.l0:Nat→List Int→List Int→Int→Int→Option (Bool)
 | 0,_,_,_,_=>none
 | k+1,x0,x1,x12,x13=>if x13<x12 then(if 0≤x13 then(if x13<(x0.length:Int) then(if x13<(x1.length:Int) then(if (rd x0 x13)=(rd x1 x13) then(Zy.l0 k x0 x1 x12 (wrap64 (x13+1))) else(some false)) else(none)) else(none)) else(none)) else(some true)
def Zy.f (k:Nat) (l0:List Int) (l1:List Int):Option (Bool):=if (l0.length:Int)=(l1.length:Int) then(Zy.l0 k l0 l1 (l0.length:Int) 0) else(some false)
set_option maxHeartbeats 8000000 in
set_option maxRecDepth 100000 in
theorem Zy.calls (k:Nat) (A0:Option Addr) (c0:Nat) (l0:List Int) (A1:Option Addr) (c1:Nat) (l1:List Int) (r:Bool) (w:World) (hr0:Kd.C (Kd.int .i64) w A0 l0.length l0) (hc0:l0.length≤c0) (hr1:Kd.C (Kd.int .i64) w A1 l1.length l1) (hc1:l1.length≤c1) (h:Zy.f k l0 l1=some r) :
  Calls Try.prog 59 #[.slice A0 l0.length c0,.slice A1 l1.length c1] w fun e w'=>e=.returned (.bool r)∧Zx w w':=by
 have HR0:=Za hr0;have HC0:=Za hc0;clear hr0 hc0;have HR1:=Za hr1;have HC1:=Za hc1;clear hr1 hc1
 have H:(if (l0.length:Int)=(l1.length:Int) then(Zy.l0 k l0 l1 (l0.length:Int) 0) else(some false))=some r:=h
 clear h
 by_cases c3:(l0.length:Int)=(l1.length:Int)
 ·rw[if_pos c3] at H
  have c3b0:((l0.length:Int) == (l1.length:Int))=true:=beq_iff_eq.mpr c3
  have c3b1:((l0.length:Int) != (l1.length:Int))=false:=bne_eq_false_iff_eq.mpr c3
  have c3b2:(l0.length == l1.length)=true:=by first|simpa using c3|(simp at c3 ⊢;omega)
  clear c3
  have H':=Za H
  clear H
  go_enter Try.func59,Try.ntmps59
  go_wp2
  repeat(go_quiet (fail);try go_wp2)
  go_loopg [13] k (fun kq v13 w'=>∃(x13_1:Int),v13=.int .i64 x13_1∧Aside0 (Zy.l0 kq l0 l1 (l0.length:Int) x13_1=some r)∧Aside0 (kq≤k)∧Zx w w')
  case atStart=>exact⟨(0),(by first|rfl|(simp;done)|(simp[*];done)),H',⟨Nat.le_refl _⟩,by repeat(first|exact Zx.refl _|apply Zx.step)⟩
  case round=>
   clear H'
   try clear c1
   try clear p2
   try clear c3
   try clear c3b0
   try clear c3b1
   try clear c3b2
   obtain⟨x13_1,rfl,HA,HK1,⟨m1,rfl⟩⟩:=hrel
   cases gk with
   | zero=>exact absurd HA.out (by simp[Zy.l0])
   | succ k1=>
    have H:=HA.out
    clear HA
    simp only[Zy.l0] at H
    by_cases c4:x13_1<(l0.length:Int)
    ·rw[if_pos c4] at H
     have c4b0:decide (x13_1<(l0.length:Int))=true:=Ze c4
     clear c4
     by_cases c5:0≤x13_1
     ·rw[if_pos c5] at H
      have c5b0:decide (0≤x13_1)=true:=Ze c5
      clear c5
      by_cases c6:x13_1<(l0.length:Int)
      ·rw[if_pos c6] at H
       have c6b0:decide (x13_1<(l0.length:Int))=true:=Ze c6
       clear c6
       by_cases c7:x13_1<(l1.length:Int)
       ·rw[if_pos c7] at H
        have c7b0:decide (x13_1<(l1.length:Int))=true:=Ze c7
        clear c7
        by_cases c8:(rd l0 x13_1)=(rd l1 x13_1)
        ·rw[if_pos c8] at H
         have c8b0:((rd l0 x13_1) == (rd l1 x13_1))=true:=beq_iff_eq.mpr c8
         have c8b1:((rd l0 x13_1) != (rd l1 x13_1))=false:=bne_eq_false_iff_eq.mpr c8
         clear c8
         have H':=Za H
         clear H
         have p59001:0≤(x13_1:Int):=Zd (by first|(with_reducible assumption)|assumption)
         have q59001:x13_1<(l0.length:Int):=Zd (by first|(with_reducible assumption)|assumption)
         obtain⟨ad59001,e59001,hx59001_0⟩:=Kd.at_int HR0.out x13_1 p59001 q59001
         cases e59001
         replace p59001:=eq_true p59001
         replace q59001:=eq_true q59001
         have p59002:0≤(x13_1:Int):=Zd (by first|(with_reducible assumption)|assumption)
         have q59002:x13_1<(l1.length:Int):=Zd (by first|(with_reducible assumption)|assumption)
         obtain⟨ad59002,e59002,hx59002_0⟩:=Kd.at_int HR1.out x13_1 p59002 q59002
         cases e59002
         replace p59002:=eq_true p59002
         replace q59002:=eq_true q59002
         go_wp2
         repeat(go_quiet (fail);try go_wp2)
         go_roundg k1
         case measure=>have:=HK1.out;omega
         case rel=>exact⟨(wrap64 (x13_1+1)),(by first|rfl|(simp;done)|(simp[*];done)),H',⟨by have:=HK1.out;omega⟩,by repeat(first|exact Zx.refl _|apply Zx.step)⟩
        ·rw[if_neg c8] at H
         have c8b0:((rd l0 x13_1) == (rd l1 x13_1))=false:=beq_eq_false_iff_ne.mpr c8
         have c8b1:((rd l0 x13_1) != (rd l1 x13_1))=true:=bne_iff_ne.mpr c8
         obtain rfl:=Zg H
         have p59001:0≤(x13_1:Int):=Zd (by first|(with_reducible assumption)|assumption)
         have q59001:x13_1<(l0.length:Int):=Zd (by first|(with_reducible assumption)|assumption)
         obtain⟨ad59001,e59001,hx59001_0⟩:=Kd.at_int HR0.out x13_1 p59001 q59001
         cases e59001
         replace p59001:=eq_true p59001
         replace q59001:=eq_true q59001
         have p59002:0≤(x13_1:Int):=Zd (by first|(with_reducible assumption)|assumption)
         have q59002:x13_1<(l1.length:Int):=Zd (by first|(with_reducible assumption)|assumption)
         obtain⟨ad59002,e59002,hx59002_0⟩:=Kd.at_int HR1.out x13_1 p59002 q59002
         cases e59002
         replace p59002:=eq_true p59002
         replace q59002:=eq_true q59002
         go_wp2
         repeat(go_quiet (fail);try go_wp2)
         go_ret
         exact⟨by first|rfl|(simp;done)|(simp[*];done),by repeat(first|exact Zx.refl _|apply Zx.step)⟩
       ·rw[if_neg c7] at H
        exact absurd H (by simp)
      ·rw[if_neg c6] at H
       exact absurd H (by simp)
     ·rw[if_neg c5] at H
      exact absurd H (by simp)
    ·rw[if_neg c4] at H
     have c4b0:decide (x13_1<(l0.length:Int))=false:=Zf c4
     clear c4
     obtain rfl:=Zg H
     go_wp2
     repeat(go_quiet (fail);try go_wp2)
     go_ret
     exact⟨by first|rfl|(simp;done)|(simp[*];done),by repeat(first|exact Zx.refl _|apply Zx.step)⟩
 ·rw[if_neg c3] at H
  have c3b0:((l0.length:Int) == (l1.length:Int))=false:=beq_eq_false_iff_ne.mpr c3
  have c3b1:((l0.length:Int) != (l1.length:Int))=true:=bne_iff_ne.mpr c3
  have c3b2:(l0.length == l1.length)=false:=by first|simpa using c3|(simp at c3 ⊢;omega)
  obtain rfl:=Zg H
  go_enter Try.func59,Try.ntmps59
  go_wp2
  repeat(go_quiet (fail);try go_wp2)
  go_ret
  exact⟨by first|rfl|(simp;done)|(simp[*];done),by repeat(first|exact Zx.refl _|apply Zx.step)⟩
end Go.Proofs.Ytammpmadchekeaa.Pr
