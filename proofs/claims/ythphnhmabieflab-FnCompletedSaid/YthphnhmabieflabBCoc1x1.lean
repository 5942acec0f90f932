/- The texts of one claim, put together by a program of this session. -/
import Derived.Test.YthphnhmabieflabProg
import Derived.Below
import Derived.Deep.Draws
import Derived.Deep.AppendLies
import Derived.Maps.AppendAt
import Derived.OwnWalk
import Derived.Laws.BytesArg
import Derived.Laws.MakeOwn
import Derived.Laws.OwnMore
import Derived.Deep.OwnRows
import Derived.Tactics
import Derived.Lib.ConvBytes
import Derived.Laws.Slices
import Derived.WalkKit
import Derived.KernelRfl
import Derived.RowKit3
import Derived.Deep.LoopGhost
import Derived.Deep.QuietTactic
import Derived.BigQuiet
import Derived.WideLaws
import Derived.Deep.DeepCutAuto
import Derived.Deep.CutBlock
import Derived.Deep.RegionHeld3
import Derived.Laws.Rows
import Derived.Lib.AppendStr
import Derived.ArgAppend
import Derived.Laws.IdiomCopy
import Derived.OrdersHeld
import Derived.Laws.BitsLemmas
import Derived.RowKit
import Derived.ChangeArms
import Derived.ChangeSlices
import Derived.WideShapes
import Derived.Deep.Slices
import Derived.Test.YthphnhmabieflabBCo0
namespace Go.Proofs.Ythphnhmabieflab.Pr
open Go.RowKit Go.Proofs.YthphnhmabieflabW.PrintWords Go.Proofs.YthphnhmabieflabW.PrintLast Go.Proofs.YthphnhmabieflabW.PrintMore
attribute [local go_sem] Zaj Zah Zaq Zap Zab Zaa Zai Zag
set_option linter.unusedVariables false
set_option linter.unusedSimpArgs false
def errW:Option Int→Value
 | none=>.nilIface
 | some c=>.iface 0 (.int .i64 c)
theorem ZC:errW none=.nilIface:=rfl
theorem ZB (c:Int):errW (some c)=.iface 0 (.int .i64 c):=rfl
theorem Zbg:(Try.prog.info? 3).map (fun i=>(i.zero,i.size,i.bytes))=some (some (.int .i64 0),1,8):=by kernel_rfl
theorem info4:(Try.prog.info? 4).map (fun i=>(i.zero,i.size,i.bytes))=some (some (.bool false),1,1):=by kernel_rfl
theorem info84:(Try.prog.info? 84).map (fun i=>(i.zero,i.size,i.bytes))=some (some (.agg #[(.int .i64 0),(.int .i64 0),(.int .i64 0),(.int .i64 0)]),4,32):=by kernel_rfl
theorem ZcV:(Try.prog.info? 123).map (fun i=>(i.zero,i.size,i.bytes))=some (some (.agg #[(.int .i64 0),(.int .i64 0),(.int .i64 0)]),3,24):=by kernel_rfl
theorem info128:(Try.prog.info? 128).map (fun i=>(i.zero,i.size,i.bytes))=some (some (.agg #[(.string ⟨#[]⟩),(.slice none 0 0),(.int .i64 0)]),3,48):=by kernel_rfl
def rd_L1 (xs:List (List Int)) (i:Int):(List Int):=xs.getD i.toNat ([]:List Int)
structure S35 where
 f0:Int
 f1:Int
def z35:S35:=⟨(0:Int),(0:Int)⟩
def k35:Kd S35:=Kd.iso (Kd.pair (Kd.int .i64) (Kd.int .i64)) (fun x:S35=>(x.f0,x.f1))
theorem k35_open {w:World} {x:S35} {cs:List Value} (h:k35.K w x cs):cs=[.int .i64 x.f0,.int .i64 x.f1]:=by
 obtain⟨_,_,rfl,rfl,rfl⟩:=h
 exact rfl
theorem k35_mkM (w:World) (base:Nat) (ok:Nat→Prop) (x:S35)  : k35.M w base ok x [.int .i64 x.f0,.int .i64 x.f1]:=⟨[.int .i64 x.f0],[.int .i64 x.f1],rfl,rfl,rfl⟩
def rd_T35 (xs:List S35) (i:Int):S35:=xs.getD i.toNat z35
structure S84 where
 f0:Int
 f1:Int
 f2:S35
def z84:S84:=⟨(0:Int),(0:Int),z35⟩
def k84:Kd S84:=Kd.iso (Kd.pair (Kd.int .i64) (Kd.pair (Kd.int .i64) k35)) (fun x:S84=>(x.f0,x.f1,x.f2))
theorem k84_open {w:World} {x:S84} {cs:List Value} (h:k84.K w x cs):cs=[.int .i64 x.f0,.int .i64 x.f1,.int .i64 x.f2.f0,.int .i64 x.f2.f1]:=by
 obtain⟨_,_,rfl,rfl,⟨_,_,rfl,rfl,s2⟩⟩:=h
 obtain rfl:=k35_open s2
 exact rfl
theorem k84_mkM (w:World) (base:Nat) (ok:Nat→Prop) (x:S84)  : k84.M w base ok x [.int .i64 x.f0,.int .i64 x.f1,.int .i64 x.f2.f0,.int .i64 x.f2.f1]:=⟨[.int .i64 x.f0],[.int .i64 x.f1,.int .i64 x.f2.f0,.int .i64 x.f2.f1],rfl,rfl,⟨[.int .i64 x.f1],[.int .i64 x.f2.f0,.int .i64 x.f2.f1],rfl,rfl,(k35_mkM w base ok x.f2 )⟩⟩
def ZA (xs:List S84) (i:Int):S84:=xs.getD i.toNat z84
theorem at_T84 {w:World} {A:Option Addr} {n:Nat} {xs:List S84} (h:Kd.C k84 w A n xs) (i:Int) (h0:0≤i) (h1:i<n):∃ad ,A=some ad∧w.cell? (ad.add (i.toNat * 4))=some (.int .i64 (ZA xs i).f0)∧w.cell? ⟨(ad.add (i.toNat * 4)).block,(ad.add (i.toNat * 4)).off+1,none⟩=some (.int .i64 (ZA xs i).f1)∧w.cell? ⟨(ad.add (i.toNat * 4)).block,(ad.add (i.toNat * 4)).off+2,none⟩=some (.int .i64 (ZA xs i).f2.f0)∧w.cell? ⟨(ad.add (i.toNat * 4)).block,(ad.add (i.toNat * 4)).off+3,none⟩=some (.int .i64 (ZA xs i).f2.f1):=by
 obtain⟨ad,c,e,_,hK,hc0⟩:=Kd.C_get h z84 i h0 h1
 have hc:∀j u,c[j]? = some u→w.cell? (ad.add (i.toNat * 4+j))=some u:=hc0
 obtain rfl:=k84_open hK
 exact⟨ad,e,hc 0 _ rfl,by rw[← Za5 _ _ 1 (by omega)];exact hc 1 _ rfl,by rw[← Za5 _ _ 2 (by omega)];exact hc 2 _ rfl,by rw[← Za5 _ _ 3 (by omega)];exact hc 3 _ rfl⟩
def rd_L5 (xs:List (List S84)) (i:Int):(List S84):=xs.getD i.toNat ([]:List S84)
structure S31 where
 f0:Int
 f1:(List S84)
def z31:S31:=⟨(0:Int),([]:List S84)⟩
def k31:Kd S31:=Kd.iso (Kd.pair (Kd.int .i64) (Kd.slice 84 k84)) (fun x:S31=>(x.f0,x.f1))
def rd_T31 (xs:List S31) (i:Int):S31:=xs.getD i.toNat z31
structure S123 where
 f0:Int
 f1:Int
 f2:Int
def z123:S123:=⟨(0:Int),(0:Int),(0:Int)⟩
def k123:Kd S123:=Kd.iso (Kd.pair (Kd.int .i64) (Kd.pair (Kd.int .i64) (Kd.int .i64))) (fun x:S123=>(x.f0,x.f1,x.f2))
theorem k123_open {w:World} {x:S123} {cs:List Value} (h:k123.K w x cs):cs=[.int .i64 x.f0,.int .i64 x.f1,.int .i64 x.f2]:=by
 obtain⟨_,_,rfl,rfl,⟨_,_,rfl,rfl,rfl⟩⟩:=h
 exact rfl
theorem Zcs (w:World) (base:Nat) (ok:Nat→Prop) (x:S123)  : k123.M w base ok x [.int .i64 x.f0,.int .i64 x.f1,.int .i64 x.f2]:=⟨[.int .i64 x.f0],[.int .i64 x.f1,.int .i64 x.f2],rfl,rfl,⟨[.int .i64 x.f1],[.int .i64 x.f2],rfl,rfl,rfl⟩⟩
def Za6 (xs:List S123) (i:Int):S123:=xs.getD i.toNat z123
theorem Zb8 {w:World} {A:Option Addr} {n:Nat} {xs:List S123} (h:Kd.C k123 w A n xs) (i:Int) (h0:0≤i) (h1:i<n):∃ad ,A=some ad∧w.cell? (ad.add (i.toNat * 3))=some (.int .i64 (Za6 xs i).f0)∧w.cell? ⟨(ad.add (i.toNat * 3)).block,(ad.add (i.toNat * 3)).off+1,none⟩=some (.int .i64 (Za6 xs i).f1)∧w.cell? ⟨(ad.add (i.toNat * 3)).block,(ad.add (i.toNat * 3)).off+2,none⟩=some (.int .i64 (Za6 xs i).f2):=by
 obtain⟨ad,c,e,_,hK,hc0⟩:=Kd.C_get h z123 i h0 h1
 have hc:∀j u,c[j]? = some u→w.cell? (ad.add (i.toNat * 3+j))=some u:=hc0
 obtain rfl:=k123_open hK
 exact⟨ad,e,hc 0 _ rfl,by rw[← Za5 _ _ 1 (by omega)];exact hc 1 _ rfl,by rw[← Za5 _ _ 2 (by omega)];exact hc 2 _ rfl⟩
def rd_L8 (xs:List (List S123)) (i:Int):(List S123):=xs.getD i.toNat ([]:List S123)
structure S78 where
 f0:Int
 f1:(List S123)
def z78:S78:=⟨(0:Int),([]:List S123)⟩
def k78:Kd S78:=Kd.iso (Kd.pair (Kd.int .i64) (Kd.slice 123 k123)) (fun x:S78=>(x.f0,x.f1))
def rd_T78 (xs:List S78) (i:Int):S78:=xs.getD i.toNat z78
structure S106 where
 f0:Int
 f1:Int
 f2:Int
 f3:Int
 f4:Bool
def z106:S106:=⟨(0:Int),(0:Int),(0:Int),(0:Int),false⟩
def k106:Kd S106:=Kd.iso (Kd.pair (Kd.int .i64) (Kd.pair (Kd.int .i64) (Kd.pair (Kd.int .i64) (Kd.pair (Kd.int .i64) Kd.bool)))) (fun x:S106=>(x.f0,x.f1,x.f2,x.f3,x.f4))
theorem k106_open {w:World} {x:S106} {cs:List Value} (h:k106.K w x cs):cs=[.int .i64 x.f0,.int .i64 x.f1,.int .i64 x.f2,.int .i64 x.f3,.bool x.f4]:=by
 obtain⟨_,_,rfl,rfl,⟨_,_,rfl,rfl,⟨_,_,rfl,rfl,⟨_,_,rfl,rfl,rfl⟩⟩⟩⟩:=h
 exact rfl
def Zcl (xs:List S106) (i:Int):S106:=xs.getD i.toNat z106
theorem at_T106 {w:World} {A:Option Addr} {n:Nat} {xs:List S106} (h:Kd.C k106 w A n xs) (i:Int) (h0:0≤i) (h1:i<n):∃ad ,A=some ad∧w.cell? (ad.add (i.toNat * 5))=some (.int .i64 (Zcl xs i).f0)∧w.cell? ⟨(ad.add (i.toNat * 5)).block,(ad.add (i.toNat * 5)).off+1,none⟩=some (.int .i64 (Zcl xs i).f1)∧w.cell? ⟨(ad.add (i.toNat * 5)).block,(ad.add (i.toNat * 5)).off+2,none⟩=some (.int .i64 (Zcl xs i).f2)∧w.cell? ⟨(ad.add (i.toNat * 5)).block,(ad.add (i.toNat * 5)).off+3,none⟩=some (.int .i64 (Zcl xs i).f3)∧w.cell? ⟨(ad.add (i.toNat * 5)).block,(ad.add (i.toNat * 5)).off+4,none⟩=some (.bool (Zcl xs i).f4):=by
 obtain⟨ad,c,e,_,hK,hc0⟩:=Kd.C_get h z106 i h0 h1
 have hc:∀j u,c[j]? = some u→w.cell? (ad.add (i.toNat * 5+j))=some u:=hc0
 obtain rfl:=k106_open hK
 exact⟨ad,e,hc 0 _ rfl,by rw[← Za5 _ _ 1 (by omega)];exact hc 1 _ rfl,by rw[← Za5 _ _ 2 (by omega)];exact hc 2 _ rfl,by rw[← Za5 _ _ 3 (by omega)];exact hc 3 _ rfl,by rw[← Za5 _ _ 4 (by omega)];exact hc 4 _ rfl⟩
structure S128 where
 f0:ByteArray
 f1:(List Int)
 f2:Int
def z128:S128:=⟨(⟨#[]⟩:ByteArray),([]:List Int),(0:Int)⟩
def k128:Kd S128:=Kd.iso (Kd.pair Kd.string (Kd.pair (Kd.slice 3 (Kd.int .i64)) (Kd.int .i64))) (fun x:S128=>(x.f0,x.f1,x.f2))
theorem k128_open {w:World} {x:S128} {cs:List Value} (h:k128.K w x cs):∃A1 c1,cs=[.string x.f0,.slice A1 x.f1.length c1,.int .i64 x.f2]∧x.f1.length≤c1∧(Kd.int .i64).C w A1 x.f1.length x.f1:=by
 obtain⟨_,_,rfl,rfl,⟨_,_,rfl,⟨A1,c1,rfl,l1,g1⟩,rfl⟩⟩:=h
 exact⟨A1,c1,rfl,l1,g1⟩
def Zb6 (xs:List S128) (i:Int):S128:=xs.getD i.toNat z128
theorem at_T128 {w:World} {A:Option Addr} {n:Nat} {xs:List S128} (h:Kd.C k128 w A n xs) (i:Int) (h0:0≤i) (h1:i<n):∃ad A1 c1,A=some ad∧w.cell? (ad.add (i.toNat * 3))=some (.string (Zb6 xs i).f0)∧w.cell? ⟨(ad.add (i.toNat * 3)).block,(ad.add (i.toNat * 3)).off+1,none⟩=some (.slice A1 (Zb6 xs i).f1.length c1)∧w.cell? ⟨(ad.add (i.toNat * 3)).block,(ad.add (i.toNat * 3)).off+2,none⟩=some (.int .i64 (Zb6 xs i).f2)∧(Zb6 xs i).f1.length≤c1∧(Kd.int .i64).C w A1 (Zb6 xs i).f1.length (Zb6 xs i).f1:=by
 obtain⟨ad,c,e,_,hK,hc0⟩:=Kd.C_get h z128 i h0 h1
 have hc:∀j u,c[j]? = some u→w.cell? (ad.add (i.toNat * 3+j))=some u:=hc0
 obtain⟨A1,c1,rfl,l1,g1⟩:=k128_open hK
 exact⟨ad,A1,c1,e,hc 0 _ rfl,by rw[← Za5 _ _ 1 (by omega)];exact hc 1 _ rfl,by rw[← Za5 _ _ 2 (by omega)];exact hc 2 _ rfl,l1,g1⟩
def rd_L14 (xs:List (List S128)) (i:Int):(List S128):=xs.getD i.toNat ([]:List S128)
def rd_L15 (xs:List (List S106)) (i:Int):(List S106):=xs.getD i.toNat ([]:List S106)
structure S51 where
 f0:(List S128)
 f1:(List S106)
 f2:Int
def z51:S51:=⟨([]:List S128),([]:List S106),(0:Int)⟩
def k51:Kd S51:=Kd.iso (Kd.pair (Kd.slice 128 k128) (Kd.pair (Kd.slice 106 k106) (Kd.int .i64))) (fun x:S51=>(x.f0,x.f1,x.f2))
def rd_T51 (xs:List S51) (i:Int):S51:=xs.getD i.toNat z51
def rd_L17 (xs:List (List Int)) (i:Int):(List Int):=xs.getD i.toNat ([]:List Int)
end Go.Proofs.Ythphnhmabieflab.Pr
namespace Go.Proofs.Ythphnhmabieflab.Op
open Go.RowKit Go.ChangeShapes Go.WideShapes Go.Proofs.YthphnhmabieflabW.PrintWords
structure ZbE {α:Type} (P:Program) (d:Kd α) (t:TypeId) (ok:α→Prop):Prop where
 cells:P.cellsOf t=d.sz
 op:∀{H:Type} {enc:TypeId×Value→H} {w:World} {base fuel:Nat} {cs:List Value} {x:DataW H×List MemPlace},DataW.trod enc P w base (fun _=>true) true fuel t cs=some x→∃y,d.K w y cs∧ok y
theorem ZbE.int {P:Program} {t:TypeId} {k:IntKind} (ht:P.underlying t=some (.int k)) (hc:P.cellsOf t=1):ZbE P (Kd.int k) t (fun n=>(Lit.int k n).wf=true):=
 ⟨hc,fun h=>by
  obtain⟨n,rfl,_,hw⟩:=DataW.trod_int ht h
  exact⟨n,rfl,hw⟩⟩
theorem ZbE.bool {P:Program} {t:TypeId} (ht:P.underlying t=some .bool) (hc:P.cellsOf t=1):ZbE P Kd.bool t (fun _=>True):=
 ⟨hc,fun h=>by
  obtain⟨n,rfl,_⟩:=DataW.trod_bool ht h
  exact⟨n,rfl,trivial⟩⟩
theorem ZbE.string {P:Program} {t:TypeId} (ht:P.underlying t=some .string) (hc:P.cellsOf t=1):ZbE P Kd.string t (fun s=>s.size≤maxLen):=
 ⟨hc,fun h=>by
  obtain⟨n,rfl,_,hw⟩:=DataW.trod_string ht h
  exact⟨n,rfl,hw⟩⟩
theorem choose_list {β:Type} (Q:Nat→β→Prop) (n:Nat) (h:∀i,i<n→∃y,Q i y):∃l:List β,l.length=n∧∀i y,l[i]? = some y→Q i y:=by
 induction n with
 | zero=>exact⟨[],rfl,fun i y h=>by simp at h⟩
 | succ n ih=>
  obtain⟨l,hl,hq⟩:=ih (fun i hi=>h i (by omega))
  obtain⟨y,hy⟩:=h n (by omega)
  refine⟨l ++ [y],by simp[hl],fun i z hz=>?_⟩
  rcases Nat.lt_or_ge i l.length with hi|hi
  ·rw[List.getElem?_append_left hi] at hz
   exact hq i z hz
  ·have hlt:=(List.getElem?_eq_some_iff.1 hz).1
   rw[List.length_append,List.length_singleton] at hlt
   have e:i=l.length:=by omega
   subst e
   have hz':y=z:=by simpa using hz
   subst hz'
   rw[hl]
   exact hy
theorem ZbE.slice {α:Type} {P:Program} {d:Kd α} {t e:TypeId} {ok:α→Prop} (he:ZbE P d e ok) (ht:P.underlying t=some (.slice e)) (hc:P.cellsOf t=1) :
  ZbE P (Kd.slice e d) t (fun l=>l.length≤maxLen∧∀x∈l,ok x):=
 ⟨hc,fun {H enc w base fuel cs x} h=>by
  rcases DataW.trod_slice ht h with ⟨rfl,_⟩|⟨a,len,cap,elems,rest,n,_,rfl,_,hb,hl,hm,hlen,hel,_,_⟩
  ·exact⟨[],⟨none,0,rfl,Nat.le_refl _,rfl,by simp,fun h0=>absurd h0 (by simp)⟩,by simp⟩
  ·have key:∀i,i<len→∃y,ok y∧∃c,c.length=d.sz∧d.K w y c∧∀j u,c[j]? = some u→w.cell? (a.add (i * d.sz+j))=some u:=by
    intro i hi
    have hi':=hel i hi
    rw[Zl (by omega),Option.bind_eq_some_iff] at hi'
    obtain⟨cs',h1,h2⟩:=hi'
    obtain⟨y,hk,hy⟩:=he.op h2
    refine⟨y,hy,cs',d.K_len hk,hk,fun j u hu=>?_⟩
    have:=(World.cells?_some h1).2.2 j (by
     have:=(List.getElem?_eq_some_iff.1 hu).1
     rw[d.K_len hk] at this
     rw[he.cells];exact this)
    rw[he.cells] at this
    rw[Addr.add_add] at this
    rw[this,hu]
   obtain⟨l,hll,hq⟩:=choose_list _ len key
   refine⟨l,⟨some a,cap,by rw[hll],by omega,rfl,by rw[hll];simp only[maxLen] at hm;omega,fun h0=>⟨a,rfl,fun j p hj=>?_⟩⟩,by omega,fun x hx=>?_⟩
   ·obtain⟨_,hc'⟩:=hq j p hj
    exact hc'
   ·obtain⟨i,hi⟩:=List.getElem?_of_mem hx
    exact(hq i x hi).1⟩
theorem pair_at {α β:Type} {a:Kd α} {b:Kd β} {w:World} {x:α} {y:β} {cs:List Value} {off:Nat} (h0:a.K w x ((cs.drop off).take a.sz)) (h1:b.K w y ((cs.drop (off+a.sz)).take b.sz)) :
  (Kd.pair a b).K w (x,y) ((cs.drop off).take (Kd.pair a b).sz):=
 ⟨_,_,by show(cs.drop off).take (a.sz+b.sz)=_;rw[List.take_add,List.drop_drop],h0,h1⟩
theorem ZbE.fieldAt {α:Type} {P:Program} {d:Kd α} {t:TypeId} {ok:α→Prop} (ho:ZbE P d t ok) {H:Type} {enc:TypeId×Value→H} {w:World} {base fuel off:Nat} {cs:List Value} {x:Option (DataW H×List MemPlace)}
  (h:DataW.trod enc P w base (fun _=>true) true fuel t ((cs.drop off).take (P.cellsOf t))=x) (hx:x.isSome=true):∃y,d.K w y ((cs.drop off).take d.sz)∧ok y:=by
 obtain⟨z,rfl⟩:=Option.isSome_iff_exists.1 hx
 obtain⟨y,hk,hy⟩:=ho.op h
 rw[ho.cells] at hk
 exact⟨y,hk,hy⟩
end Go.Proofs.Ythphnhmabieflab.Op
namespace Go.Proofs.Ythphnhmabieflab.Pr
open Go.RowKit Go.Proofs.YthphnhmabieflabW.PrintWords Go.Proofs.YthphnhmabieflabW.PrintLast Go.Proofs.YthphnhmabieflabW.PrintMore
attribute [local go_sem] Zaj Zah Zaq Zap Zab Zaa Zai Zag
set_option linter.unusedVariables false
set_option linter.unusedSimpArgs false
open Go.Proofs.Ythphnhmabieflab.Op Go.ChangeShapes Go.WideShapes
end Go.Proofs.Ythphnhmabieflab.Pr
namespace Go.Proofs.Ythphnhmabieflab.Pr
open Go.RowKit Go.Proofs.YthphnhmabieflabW.PrintWords Go.Proofs.YthphnhmabieflabW.PrintLast Go.Proofs.YthphnhmabieflabW.PrintMore
attribute [local go_sem] Zaj Zah Zaq Zap Zab Zaa Zai Zag
set_option linter.unusedVariables false
set_option linter.unusedSimpArgs false
def Zt (w0 W:World) (g:Nat) (f0:List Int) (f1:Int) (f2:Int):Prop:=∃A0 c0,W.heap[g]? = some (.cells #[.slice A0 f0.length c0,.int .i64 f1,.int .i64 f2] 115 (0,0))∧w0.heap.size≤g∧Kd.C (Kd.int .u8) w0 A0 f0.length f0
theorem Zt.grown {w0 W:World} {g:Nat} {f0:List Int} {f1:Int} {f2:Int} {W1:World} {row:Option Nat} (h:Zt w0 W g f0 f1 f2) (hw:W.grownBy W1 row) (hne:some g≠row):Zt w0 W1 g f0 f1 f2:=by
 obtain⟨A0,c0,hb,hg,hr0⟩:=h
 exact⟨A0,c0,Z0 hb hw hne,hg,hr0⟩
theorem Zt.own_neN {w0 W:World} {g:Nat} {f0:List Int} {f1:Int} {f2:Int} {α:Type} {d:Kd α} {e:Nat} {base:Nat} {ok:Nat→Prop} {v:Value} {xs:List α} (h:Zt w0 W g f0 f1 f2) (ho:Kd.N d e W base ok v xs) (ht:e≠115):some g≠v.ownBlock:=by
 obtain⟨A0,c0,hb,hg,hr0⟩:=h
 exact Kd.N_ne ho hb ht
theorem Zt.fresh {w0 W:World} {g:Nat} {f0:List Int} {f1:Int} {f2:Int} (h:Zt w0 W g f0 f1 f2):∀k,W.heap.size≤k→k≠g:=by
 obtain⟨A0,c0,hb,hg,hr0⟩:=h
 exact Kd.freshB hb
theorem Zt.kept {w0 W:World} {g:Nat} {f0:List Int} {f1:Int} {f2:Int} {W1:World} {S:Nat→Prop} (h:Zt w0 W g f0 f1 f2) (hk:Kept W W1 S) (hne:¬S g):Zt w0 W1 g f0 f1 f2:=by
 obtain⟨A0,c0,hb,hg,hr0⟩:=h
 exact⟨A0,c0,blk_kept hb hk hne,hg,hr0⟩
theorem Zt.below {w0 W:World} {g:Nat} {f0:List Int} {f1:Int} {f2:Int} {W1:World} (h:Zt w0 W g f0 f1 f2) (hw:Below W.heap.size W W1):Zt w0 W1 g f0 f1 f2:=h.grown (Zcn hw none) (by simp)
theorem Zt.alloc {w0 W:World} {g:Nat} {f0:List Int} {f1:Int} {f2:Int} (h:Zt w0 W g f0 f1 f2) (o:Obj):Zt w0 (W.alloc o) g f0 f1 f2:=h.below (Zq (Below.refl _ _) o)
theorem Zt.drewN {w0 W:World} {g:Nat} {f0:List Int} {f1:Int} {f2:Int} (h:Zt w0 W g f0 f1 f2) (m:Nat):Zt w0 (W.drewN m) g f0 f1 f2:=h
theorem Zt.drew {w0 W:World} {g:Nat} {f0:List Int} {f1:Int} {f2:Int} (h:Zt w0 W g f0 f1 f2):Zt w0 W.drew g f0 f1 f2:=h
theorem Zt.at_ {w0 W:World} {g:Nat} {f0:List Int} {f1:Int} {f2:Int} {w':World} {m:Nat} (hq:W.drewN m=w') (h:Zt w0 W g f0 f1 f2):Zt w0 w' g f0 f1 f2:=by subst hq;exact Zt.drewN h m
theorem Zt.apart {w0 W:World} {g:Nat} {f0:List Int} {f1:Int} {f2:Int} {α:Type} {d:Kd α} {e:Nat} {base:Nat} {ok:Nat→Prop} {v:Value} {xs:List α} (h:Zt w0 W g f0 f1 f2) (ho:d.R e W base ok v xs) (ht:∀q,q∈e :: d.E→q≠115):d.R e W base (fun k=>ok k∧k≠g) v xs:=by
 obtain⟨A0,c0,hb,hg,hr0⟩:=h
 exact Kd.R_types ho hb ht
theorem Zt.own_ne {w0 W:World} {g:Nat} {f0:List Int} {f1:Int} {f2:Int} {α:Type} {d:Kd α} {e:Nat} {base:Nat} {ok:Nat→Prop} {v:Value} {xs:List α} (h:Zt w0 W g f0 f1 f2) (ho:d.R e W base ok v xs) (ht:e≠115):some g≠v.ownBlock:=by
 obtain⟨A0,c0,hb,hg,hr0⟩:=h
 exact Kd.R_ne ho hb ht
theorem Zt.apartQ {w0 W:World} {g:Nat} {f0:List Int} {f1:Int} {f2:Int} {α:Type} {d:Kd α} {e:Nat} {base:Nat} {ok:Nat→Prop} {v:Value} {xs:List α} (h:Zt w0 W g f0 f1 f2) (ho:d.Q e W base ok v xs) (ht:∀q,q∈e :: d.E→q≠115):d.Q e W base (fun k=>ok k∧k≠g) v xs:=by
 obtain⟨A0,c0,hb,hg,hr0⟩:=h
 exact Kd.Q_types ho hb ht
theorem Zt.own_neQ {w0 W:World} {g:Nat} {f0:List Int} {f1:Int} {f2:Int} {α:Type} {d:Kd α} {e:Nat} {base:Nat} {ok:Nat→Prop} {v:Value} {xs:List α} (h:Zt w0 W g f0 f1 f2) (ho:d.Q e W base ok v xs) (ht:e≠115):some g≠v.ownBlock:=by
 obtain⟨A0,c0,hb,hg,hr0⟩:=h
 exact Kd.Q_ne ho hb ht
theorem Zt.apartS {w0 W:World} {g:Nat} {f0:List Int} {f1:Int} {f2:Int} {α:Type} {d:Kd α} {e:Nat} {base:Nat} {ok:Nat→Prop} {v:Value} {xs:List α} (h:Zt w0 W g f0 f1 f2) (ho:d.S e W base ok v xs) (ht:∀q,q∈e :: d.E→q≠115):d.S e W base (fun k=>ok k∧k≠g) v xs:=by
 obtain⟨A0,c0,hb,hg,hr0⟩:=h
 exact Kd.S_types ho hb ht
theorem Zt.own_neS {w0 W:World} {g:Nat} {f0:List Int} {f1:Int} {f2:Int} {α:Type} {d:Kd α} {e:Nat} {base:Nat} {ok:Nat→Prop} {v:Value} {xs:List α} (h:Zt w0 W g f0 f1 f2) (ho:d.S e W base ok v xs) (ht:e≠115):some g≠v.ownBlock:=by
 obtain⟨A0,c0,hb,hg,hr0⟩:=h
 exact Kd.S_ne ho hb ht
theorem Zt.lt {w0 W:World} {g:Nat} {f0:List Int} {f1:Int} {f2:Int} (h:Zt w0 W g f0 f1 f2):g<W.heap.size:=by
 obtain⟨A0,c0,hb,hg,hr0⟩:=h
 exact ZH hb
theorem Zt.ge {w0 W:World} {g:Nat} {f0:List Int} {f1:Int} {f2:Int} (h:Zt w0 W g f0 f1 f2):w0.heap.size≤g:=by
 obtain⟨A0,c0,hb,hg,hr0⟩:=h
 exact hg
theorem Zt.ne_blk {w0 W:World} {g:Nat} {f0:List Int} {f1:Int} {f2:Int} {a:Nat} {cs:Array Value} {t:TypeId} {fr:Nat×Nat} (h:Zt w0 W g f0 f1 f2) (hb2:W.heap[a]? = some (.cells cs t fr)) (ht:t≠115):g≠a:=by
 obtain⟨A0,c0,hb,hg,hr0⟩:=h
 rintro rfl
 rw[hb] at hb2
 injection hb2 with hb2
 injection hb2 with _ ht2
 exact ht ht2.symm
theorem Zt.far {w0 W:World} {g:Nat} {f0:List Int} {f1:Int} {f2:Int} {p:Addr} (h:Zt w0 W g f0 f1 f2) (hne:g≠p.block) (u:Value):Zt w0 (W.setCell p u) g f0 f1 f2:=by
 obtain⟨A0,c0,hb,hg,hr0⟩:=h
 exact⟨A0,c0,ZD hb hne u,hg,hr0⟩
theorem Zdp {W:World} {g:Nat} {A0:Option Addr} {c0:Nat} {f0:List Int} {f1:Int} {f2:Int} (h:W.heap[g]? = some (.cells #[.slice A0 f0.length c0,.int .i64 f1,.int .i64 f2] 115 (0,0))):W.cell? ⟨g,0,none⟩=some (.slice A0 f0.length c0):=(Zv h 0).trans rfl
theorem Zdo {W:World} {g:Nat} {A0:Option Addr} {c0:Nat} {f0:List Int} {f1:Int} {f2:Int} (h:W.heap[g]? = some (.cells #[.slice A0 f0.length c0,.int .i64 f1,.int .i64 f2] 115 (0,0))):W.cell? ⟨g,1,none⟩=some (.int .i64 f1):=(Zv h 1).trans rfl
theorem Zt.set_1 {w0 W:World} {g:Nat} {f0:List Int} {f1:Int} {f2:Int} (h:Zt w0 W g f0 f1 f2) (x:Int):Zt w0 (W.setCell ⟨g,1,none⟩ (.int .i64 x)) g f0 x f2:=by
 obtain⟨A0,c0,hb,hg,hr0⟩:=h
 exact⟨A0,c0,by simpa using ZcY hb 1 (.int .i64 x),hg,hr0⟩
theorem Zdn {W:World} {g:Nat} {A0:Option Addr} {c0:Nat} {f0:List Int} {f1:Int} {f2:Int} (h:W.heap[g]? = some (.cells #[.slice A0 f0.length c0,.int .i64 f1,.int .i64 f2] 115 (0,0))):W.cell? ⟨g,2,none⟩=some (.int .i64 f2):=(Zv h 2).trans rfl
theorem Zt.set_2 {w0 W:World} {g:Nat} {f0:List Int} {f1:Int} {f2:Int} (h:Zt w0 W g f0 f1 f2) (x:Int):Zt w0 (W.setCell ⟨g,2,none⟩ (.int .i64 x)) g f0 f1 x:=by
 obtain⟨A0,c0,hb,hg,hr0⟩:=h
 exact⟨A0,c0,by simpa using ZcY hb 2 (.int .i64 x),hg,hr0⟩
theorem Zt.new (w0 W:World) (A0:Option Addr) (c0:Nat) (f0:List Int) (f1:Int) (f2:Int) (hB:Below w0.heap.size w0 W) (hr0:Kd.C (Kd.int .u8) w0 A0 f0.length f0):Zt w0 (W.alloc (.cells #[.slice A0 f0.length c0,.int .i64 f1,.int .i64 f2] 115)) W.heap.size f0 f1 f2:=⟨A0,c0,by simpa using heap_alloc_new W _,hB.size,hr0⟩
def ZX.f (s0_0:List Int) (s0_1:Int) (s0_2:Int):Option (Int×Int×Int):=if s0_1<(s0_0.length:Int) then(if 0≤s0_1 then(some (Go.bits .and .i64 (wrap64 ((Go.bits .and .i64 (Go.bits .xor .i64 ((wrap64 ((wrap64 (s0_2 * 6364136223846793005))+1442695040888963407)) / 8589934592) ((wrap64 ((wrap64 (s0_2 * 6364136223846793005))+1442695040888963407)) / 35184372088832)) 255)+(wrap64 (rd s0_0 s0_1)))) 255,wrap64 (s0_1+1),wrap64 ((wrap64 (s0_2 * 6364136223846793005))+1442695040888963407))) else(none)) else(some (Go.bits .and .i64 (Go.bits .xor .i64 ((wrap64 ((wrap64 (s0_2 * 6364136223846793005))+1442695040888963407)) / 8589934592) ((wrap64 ((wrap64 (s0_2 * 6364136223846793005))+1442695040888963407)) / 35184372088832)) 255,s0_1,wrap64 ((wrap64 (s0_2 * 6364136223846793005))+1442695040888963407)))
set_option maxHeartbeats 8000000 in
set_option maxRecDepth 100000 in
theorem ZX.calls (g:Nat) (s0_0:List Int) (s0_1:Int) (s0_2:Int) (r1:Int) (r2:Int) (r3:Int) (w0 w:World) (hI:Zt w0 w g s0_0 s0_1 s0_2) (hB:Below w0.heap.size w0 w) (h:ZX.f s0_0 s0_1 s0_2=some (r1,r2,r3)) :
  Calls Try.prog 45 #[.pointer (some ⟨g,0,none⟩)] w fun e w'=>e=.returned (.int .i64 r1)∧Zt w0 w' g s0_0 r2 r3∧Below w0.heap.size w0 w'∧Zz w w' g none:=by
 have HI0:=Za hI
 have HK:=Za (Zz.refl w g none)
 have HL:=Za hB.size
 clear hI
 have HW0:=Za hB.size
 have HB:=Za hB;clear hB
 have H:(if s0_1<(s0_0.length:Int) then(if 0≤s0_1 then(some (Go.bits .and .i64 (wrap64 ((Go.bits .and .i64 (Go.bits .xor .i64 ((wrap64 ((wrap64 (s0_2 * 6364136223846793005))+1442695040888963407)) / 8589934592) ((wrap64 ((wrap64 (s0_2 * 6364136223846793005))+1442695040888963407)) / 35184372088832)) 255)+(wrap64 (rd s0_0 s0_1)))) 255,wrap64 (s0_1+1),wrap64 ((wrap64 (s0_2 * 6364136223846793005))+1442695040888963407))) else(none)) else(some (Go.bits .and .i64 (Go.bits .xor .i64 ((wrap64 ((wrap64 (s0_2 * 6364136223846793005))+1442695040888963407)) / 8589934592) ((wrap64 ((wrap64 (s0_2 * 6364136223846793005))+1442695040888963407)) / 35184372088832)) 255,s0_1,wrap64 ((wrap64 (s0_2 * 6364136223846793005))+1442695040888963407))))=some (r1,r2,r3):=h
 clear h
 by_cases c2:s0_1<(s0_0.length:Int)
 ·rw[if_pos c2] at H
  have c2b0:decide (s0_1<(s0_0.length:Int))=true:=Ze c2
  clear c2
  by_cases c3:0≤s0_1
  ·rw[if_pos c3] at H
   have c3b0:decide (0≤s0_1)=true:=Ze c3
   clear c3
   simp only[Option.some.injEq,Prod.mk.injEq] at H
   obtain⟨rfl,rfl,rfl⟩:=H
   obtain⟨ASz4_0,cSz4_0,HGz4,hgz4,HSz4_0⟩:=HI0.out
   have hcz4_0:=Zdp HGz4
   have hcz4_1:=Zdo HGz4
   have hcz4_2:=Zdn HGz4
   have hfz4_1:=Zu HGz4 1
   have hfz4_2:=Zu HGz4 2
   clear HGz4 hgz4
   have p45001:0≤(s0_1:Int):=Zd (by first|(with_reducible assumption)|assumption)
   have q45001:s0_1<(s0_0.length:Int):=Zd (by first|(with_reducible assumption)|assumption)
   obtain⟨ad45001,e45001,hx45001_0⟩:=Kd.at_int HSz4_0 s0_1 p45001 q45001
   cases e45001
   have hn45001_0:ad45001.block≠g:=Nat.ne_of_lt (Nat.lt_of_lt_of_le (by have:=Zc _ _ hx45001_0;first|rwa [Zb0] at this|exact this) (Zt.ge HI0.out))
   replace hx45001_0:=Zbr HB.out hx45001_0
   replace hx45001_0:=(ZaE (p:=⟨g,2,none⟩) (by first|(rw[Zb0];exact hn45001_0)|(show(Addr.add _ _).block≠_;rw[Zb0];exact hn45001_0)|exact hn45001_0) (.int .i64 (wrap64 ((wrap64 (s0_2 * 6364136223846793005))+1442695040888963407)))).trans hx45001_0
   (try have hy45001_0:=fun (n_:Nat)=>(show(((w.drewN n_).setCell ⟨g,2,none⟩ (.int .i64 (wrap64 ((wrap64 (s0_2 * 6364136223846793005))+1442695040888963407))))).cell? _=some _ from hx45001_0))
   clear hn45001_0
   replace p45001:=eq_true p45001
   replace q45001:=eq_true q45001
   go_enter Try.func45,Try.ntmps45
   go_wp2
   repeat(go_quiet (fail);try go_wp2)
   go_ret
   exact⟨by first|rfl|(simp[ZC,ZB] <;> rfl)|(simp[*,ZC,ZB] <;> rfl),by repeat(first|(with_reducible first|exact HI0.out|apply Zt.alloc|apply Zt.drewN|apply Zt.drew|apply Zt.set_1|apply Zt.set_2)|exact HI0.out),by repeat(first|(with_reducible first|exact HB.out|apply Zq|apply Zm|apply Zs|refine Zp ?_ (Zt.ge HI0.out))|exact HB.out),by repeat(first|(with_reducible first|exact HK.out|apply Zz.set_|apply ZI|apply ZN|apply ZJ)|exact HK.out)⟩
  ·rw[if_neg c3] at H
   exact absurd H (by simp)
 ·rw[if_neg c2] at H
  have c2b0:decide (s0_1<(s0_0.length:Int))=false:=Zf c2
  clear c2
  simp only[Option.some.injEq,Prod.mk.injEq] at H
  obtain⟨rfl,rfl,rfl⟩:=H
  obtain⟨ASz5_0,cSz5_0,HGz5,hgz5,HSz5_0⟩:=HI0.out
  have hcz5_0:=Zdp HGz5
  have hcz5_1:=Zdo HGz5
  have hcz5_2:=Zdn HGz5
  have hfz5_1:=Zu HGz5 1
  have hfz5_2:=Zu HGz5 2
  clear HGz5 hgz5
  go_enter Try.func45,Try.ntmps45
  go_wp2
  repeat(go_quiet (fail);try go_wp2)
  go_ret
  exact⟨by first|rfl|(simp[ZC,ZB] <;> rfl)|(simp[*,ZC,ZB] <;> rfl),by repeat(first|(with_reducible first|exact HI0.out|apply Zt.alloc|apply Zt.drewN|apply Zt.drew|apply Zt.set_1|apply Zt.set_2)|exact HI0.out),by repeat(first|(with_reducible first|exact HB.out|apply Zq|apply Zm|apply Zs|refine Zp ?_ (Zt.ge HI0.out))|exact HB.out),by repeat(first|(with_reducible first|exact HK.out|apply Zz.set_|apply ZI|apply ZN|apply ZJ)|exact HK.out)⟩
def ZW.f (s0_0:List Int) (s0_1:Int) (s0_2:Int) (a1:Int):Option (Int×Int×Int):=if a1≤0 then(some (0,s0_1,s0_2)) else(if a1≤256 then((ZX.f s0_0 s0_1 s0_2).bind fun bt55001=>(if a1=0 then(none) else(some (Int.tmod bt55001.1 a1,bt55001.2.1,bt55001.2.2)))) else((ZX.f s0_0 s0_1 s0_2).bind fun bt55004=>((ZX.f s0_0 bt55004.2.1 bt55004.2.2).bind fun bt55007=>((ZX.f s0_0 bt55007.2.1 bt55007.2.2).bind fun bt55010=>((ZX.f s0_0 bt55010.2.1 bt55010.2.2).bind fun bt55013=>(if a1=0 then(none) else(some (Int.tmod (wrap64 ((wrap64 ((wrap64 ((wrap64 (bt55004.1 * 16777216))+(wrap64 (bt55007.1 * 65536))))+(wrap64 (bt55010.1 * 256))))+bt55013.1)) a1,bt55013.2.1,bt55013.2.2))))))))
set_option maxHeartbeats 8000000 in
set_option maxRecDepth 100000 in
theorem ZW.calls (g:Nat) (s0_0:List Int) (s0_1:Int) (s0_2:Int) (a1:Int) (r1:Int) (r2:Int) (r3:Int) (w0 w:World) (hI:Zt w0 w g s0_0 s0_1 s0_2) (hB:Below w0.heap.size w0 w) (h:ZW.f s0_0 s0_1 s0_2 a1=some (r1,r2,r3)) :
  Calls Try.prog 55 #[.pointer (some ⟨g,0,none⟩),.int .i64 a1] w fun e w'=>e=.returned (.int .i64 r1)∧Zt w0 w' g s0_0 r2 r3∧Below w0.heap.size w0 w'∧Zz w w' g none:=by
 have HI0:=Za hI
 have HK:=Za (Zz.refl w g none)
 have HL:=Za hB.size
 clear hI
 have HW0:=Za hB.size
 have HB:=Za hB;clear hB
 have H:(if a1≤0 then(some (0,s0_1,s0_2)) else(if a1≤256 then((ZX.f s0_0 s0_1 s0_2).bind fun bt55001=>(if a1=0 then(none) else(some (Int.tmod bt55001.1 a1,bt55001.2.1,bt55001.2.2)))) else((ZX.f s0_0 s0_1 s0_2).bind fun bt55004=>((ZX.f s0_0 bt55004.2.1 bt55004.2.2).bind fun bt55007=>((ZX.f s0_0 bt55007.2.1 bt55007.2.2).bind fun bt55010=>((ZX.f s0_0 bt55010.2.1 bt55010.2.2).bind fun bt55013=>(if a1=0 then(none) else(some (Int.tmod (wrap64 ((wrap64 ((wrap64 ((wrap64 (bt55004.1 * 16777216))+(wrap64 (bt55007.1 * 65536))))+(wrap64 (bt55010.1 * 256))))+bt55013.1)) a1,bt55013.2.1,bt55013.2.2)))))))))=some (r1,r2,r3):=h
 clear h
 by_cases c3:a1≤0
 ·rw[if_pos c3] at H
  have c3b0:decide (a1≤0)=true:=Ze c3
  clear c3
  simp only[Option.some.injEq,Prod.mk.injEq] at H
  obtain⟨rfl,rfl,rfl⟩:=H
  go_enter Try.func55,Try.ntmps55
  go_wp2
  go_ret
  exact⟨by first|rfl|(simp[ZC,ZB] <;> rfl)|(simp[*,ZC,ZB] <;> rfl),by repeat(first|(with_reducible first|exact HI0.out|apply Zt.alloc|apply Zt.drewN|apply Zt.drew|apply Zt.set_1|apply Zt.set_2)|exact HI0.out),by repeat(first|(with_reducible first|exact HB.out|apply Zq|apply Zm|apply Zs|refine Zp ?_ (Zt.ge HI0.out))|exact HB.out),by repeat(first|(with_reducible first|exact HK.out|apply Zz.set_|apply ZI|apply ZN|apply ZJ)|exact HK.out)⟩
 ·rw[if_neg c3] at H
  have c3b0:decide (a1≤0)=false:=Zf c3
  clear c3
  by_cases c4:a1≤256
  ·rw[if_pos c4] at H
   have c4b0:decide (a1≤256)=true:=Ze c4
   clear c4
   replace H:=Zh H
   obtain⟨⟨t55001,t55002,t55003⟩,A50,H⟩:=H
   replace H:(if a1=0 then(none) else(some (Int.tmod t55001 a1,t55002,t55003)))=some (r1,r2,r3):=H
   have A5:=Za A50;clear A50
   by_cases c6:a1=0
   ·rw[if_pos c6] at H
    exact absurd H (by simp)
   ·rw[if_neg c6] at H
    have c6b0:(a1 == 0)=false:=beq_eq_false_iff_ne.mpr c6
    have c6b1:(a1 != 0)=true:=bne_iff_ne.mpr c6
    simp only[Option.some.injEq,Prod.mk.injEq] at H
    obtain⟨rfl,rfl,rfl⟩:=H
    go_enter Try.func55,Try.ntmps55
    go_wp2_with (first|((with_reducible refine ZF (f:=45) rfl ?_);refine ZY (some 14) rfl rfl Try.func45 (by kernel_rfl) rfl #[.pointer (some ⟨g,0,none⟩)] rfl (by(try simp only[List.map_toArray,List.map_cons,List.map_nil]);first|done|rfl|(simp only[Zk,Zj];rfl)) ?_;(with_reducible refine(ZX.calls g s0_0 s0_1 s0_2 t55001 t55002 t55003 w0 _ ?side1 ?side2 A5.out).mono ?_);(case side1=>repeat(first|(with_reducible first|exact HI0.out|apply Zt.alloc|apply Zt.drewN|apply Zt.drew|apply Zt.set_1|apply Zt.set_2)|exact HI0.out));(case side2=>repeat(first|(with_reducible first|exact HB.out|apply Zq|apply Zm|apply Zs|refine Zp ?_ (Zt.ge HI0.out))|exact HB.out));rintro e w7 ⟨rfl,hi,hb,hk⟩;refine⟨_,rfl,?_⟩;replace HK:=Za (Zz.trans (by repeat(first|(with_reducible first|exact HK.out|apply Zz.set_|apply ZI|apply ZN|apply ZJ)|exact HK.out)) hk (.inl rfl));replace HB:=Za (hb);replace HI0:=Za (hi);(try clear hb);(try clear hb2);(try clear hk);(try clear hi)))
    go_ret
    exact⟨by first|rfl|(simp[ZC,ZB] <;> rfl)|(simp[*,ZC,ZB] <;> rfl),by repeat(first|(with_reducible first|exact HI0.out|apply Zt.alloc|apply Zt.drewN|apply Zt.drew|apply Zt.set_1|apply Zt.set_2)|exact HI0.out),by repeat(first|(with_reducible first|exact HB.out|apply Zq|apply Zm|apply Zs|refine Zp ?_ (Zt.ge HI0.out))|exact HB.out),by repeat(first|(with_reducible first|exact HK.out|apply Zz.set_|apply ZI|apply ZN|apply ZJ)|exact HK.out)⟩
  ·rw[if_neg c4] at H
   have c4b0:decide (a1≤256)=false:=Zf c4
   clear c4
   replace H:=Zh H
   obtain⟨⟨t55004,t55005,t55006⟩,A80,H⟩:=H
   replace H:((ZX.f s0_0 t55005 t55006).bind fun bt55007=>((ZX.f s0_0 bt55007.2.1 bt55007.2.2).bind fun bt55010=>((ZX.f s0_0 bt55010.2.1 bt55010.2.2).bind fun bt55013=>(if a1=0 then(none) else(some (Int.tmod (wrap64 ((wrap64 ((wrap64 ((wrap64 (t55004 * 16777216))+(wrap64 (bt55007.1 * 65536))))+(wrap64 (bt55010.1 * 256))))+bt55013.1)) a1,bt55013.2.1,bt55013.2.2))))))=some (r1,r2,r3):=H
   have A8:=Za A80;clear A80
   replace H:=Zh H
   obtain⟨⟨t55007,t55008,t55009⟩,A90,H⟩:=H
   replace H:((ZX.f s0_0 t55008 t55009).bind fun bt55010=>((ZX.f s0_0 bt55010.2.1 bt55010.2.2).bind fun bt55013=>(if a1=0 then(none) else(some (Int.tmod (wrap64 ((wrap64 ((wrap64 ((wrap64 (t55004 * 16777216))+(wrap64 (t55007 * 65536))))+(wrap64 (bt55010.1 * 256))))+bt55013.1)) a1,bt55013.2.1,bt55013.2.2)))))=some (r1,r2,r3):=H
   have A9:=Za A90;clear A90
   replace H:=Zh H
   obtain⟨⟨t55010,t55011,t55012⟩,A100,H⟩:=H
   replace H:((ZX.f s0_0 t55011 t55012).bind fun bt55013=>(if a1=0 then(none) else(some (Int.tmod (wrap64 ((wrap64 ((wrap64 ((wrap64 (t55004 * 16777216))+(wrap64 (t55007 * 65536))))+(wrap64 (t55010 * 256))))+bt55013.1)) a1,bt55013.2.1,bt55013.2.2))))=some (r1,r2,r3):=H
   have A10:=Za A100;clear A100
   replace H:=Zh H
   obtain⟨⟨t55013,t55014,t55015⟩,A110,H⟩:=H
   replace H:(if a1=0 then(none) else(some (Int.tmod (wrap64 ((wrap64 ((wrap64 ((wrap64 (t55004 * 16777216))+(wrap64 (t55007 * 65536))))+(wrap64 (t55010 * 256))))+t55013)) a1,t55014,t55015)))=some (r1,r2,r3):=H
   have A11:=Za A110;clear A110
   by_cases c12:a1=0
   ·rw[if_pos c12] at H
    exact absurd H (by simp)
   ·rw[if_neg c12] at H
    have c12b0:(a1 == 0)=false:=beq_eq_false_iff_ne.mpr c12
    have c12b1:(a1 != 0)=true:=bne_iff_ne.mpr c12
    simp only[Option.some.injEq,Prod.mk.injEq] at H
    obtain⟨rfl,rfl,rfl⟩:=H
    go_enter Try.func55,Try.ntmps55
    go_wp2_with (first|((with_reducible refine ZF (f:=45) rfl ?_);refine ZY (some 18) rfl rfl Try.func45 (by kernel_rfl) rfl #[.pointer (some ⟨g,0,none⟩)] rfl (by(try simp only[List.map_toArray,List.map_cons,List.map_nil]);first|done|rfl|(simp only[Zk,Zj];rfl)) ?_;(with_reducible refine(ZX.calls g s0_0 s0_1 s0_2 t55004 t55005 t55006 w0 _ ?side1 ?side2 A8.out).mono ?_);(case side1=>repeat(first|(with_reducible first|exact HI0.out|apply Zt.alloc|apply Zt.drewN|apply Zt.drew|apply Zt.set_1|apply Zt.set_2)|exact HI0.out));(case side2=>repeat(first|(with_reducible first|exact HB.out|apply Zq|apply Zm|apply Zs|refine Zp ?_ (Zt.ge HI0.out))|exact HB.out));rintro e w13 ⟨rfl,hi,hb,hk⟩;refine⟨_,rfl,?_⟩;replace HK:=Za (Zz.trans (by repeat(first|(with_reducible first|exact HK.out|apply Zz.set_|apply ZI|apply ZN|apply ZJ)|exact HK.out)) hk (.inl rfl));replace HB:=Za (hb);replace HI0:=Za (hi);(try clear hb);(try clear hb2);(try clear hk);(try clear hi))|((with_reducible refine ZF (f:=45) rfl ?_);refine ZY (some 20) rfl rfl Try.func45 (by kernel_rfl) rfl #[.pointer (some ⟨g,0,none⟩)] rfl (by(try simp only[List.map_toArray,List.map_cons,List.map_nil]);first|done|rfl|(simp only[Zk,Zj];rfl)) ?_;(with_reducible refine(ZX.calls g s0_0 t55005 t55006 t55007 t55008 t55009 w0 _ ?side1 ?side2 A9.out).mono ?_);(case side1=>repeat(first|(with_reducible first|exact HI0.out|apply Zt.alloc|apply Zt.drewN|apply Zt.drew|apply Zt.set_1|apply Zt.set_2)|exact HI0.out));(case side2=>repeat(first|(with_reducible first|exact HB.out|apply Zq|apply Zm|apply Zs|refine Zp ?_ (Zt.ge HI0.out))|exact HB.out));rintro e w14 ⟨rfl,hi,hb,hk⟩;refine⟨_,rfl,?_⟩;replace HK:=Za (Zz.trans (by repeat(first|(with_reducible first|exact HK.out|apply Zz.set_|apply ZI|apply ZN|apply ZJ)|exact HK.out)) hk (.inl rfl));replace HB:=Za (hb);replace HI0:=Za (hi);(try clear hb);(try clear hb2);(try clear hk);(try clear hi))|((with_reducible refine ZF (f:=45) rfl ?_);refine ZY (some 22) rfl rfl Try.func45 (by kernel_rfl) rfl #[.pointer (some ⟨g,0,none⟩)] rfl (by(try simp only[List.map_toArray,List.map_cons,List.map_nil]);first|done|rfl|(simp only[Zk,Zj];rfl)) ?_;(with_reducible refine(ZX.calls g s0_0 t55008 t55009 t55010 t55011 t55012 w0 _ ?side1 ?side2 A10.out).mono ?_);(case side1=>repeat(first|(with_reducible first|exact HI0.out|apply Zt.alloc|apply Zt.drewN|apply Zt.drew|apply Zt.set_1|apply Zt.set_2)|exact HI0.out));(case side2=>repeat(first|(with_reducible first|exact HB.out|apply Zq|apply Zm|apply Zs|refine Zp ?_ (Zt.ge HI0.out))|exact HB.out));rintro e w15 ⟨rfl,hi,hb,hk⟩;refine⟨_,rfl,?_⟩;replace HK:=Za (Zz.trans (by repeat(first|(with_reducible first|exact HK.out|apply Zz.set_|apply ZI|apply ZN|apply ZJ)|exact HK.out)) hk (.inl rfl));replace HB:=Za (hb);replace HI0:=Za (hi);(try clear hb);(try clear hb2);(try clear hk);(try clear hi))|((with_reducible refine ZF (f:=45) rfl ?_);refine ZY (some 24) rfl rfl Try.func45 (by kernel_rfl) rfl #[.pointer (some ⟨g,0,none⟩)] rfl (by(try simp only[List.map_toArray,List.map_cons,List.map_nil]);first|done|rfl|(simp only[Zk,Zj];rfl)) ?_;(with_reducible refine(ZX.calls g s0_0 t55011 t55012 t55013 t55014 t55015 w0 _ ?side1 ?side2 A11.out).mono ?_);(case side1=>repeat(first|(with_reducible first|exact HI0.out|apply Zt.alloc|apply Zt.drewN|apply Zt.drew|apply Zt.set_1|apply Zt.set_2)|exact HI0.out));(case side2=>repeat(first|(with_reducible first|exact HB.out|apply Zq|apply Zm|apply Zs|refine Zp ?_ (Zt.ge HI0.out))|exact HB.out));rintro e w16 ⟨rfl,hi,hb,hk⟩;refine⟨_,rfl,?_⟩;replace HK:=Za (Zz.trans (by repeat(first|(with_reducible first|exact HK.out|apply Zz.set_|apply ZI|apply ZN|apply ZJ)|exact HK.out)) hk (.inl rfl));replace HB:=Za (hb);replace HI0:=Za (hi);(try clear hb);(try clear hb2);(try clear hk);(try clear hi)))
    go_ret
    exact⟨by first|rfl|(simp[ZC,ZB] <;> rfl)|(simp[*,ZC,ZB] <;> rfl),by repeat(first|(with_reducible first|exact HI0.out|apply Zt.alloc|apply Zt.drewN|apply Zt.drew|apply Zt.set_1|apply Zt.set_2)|exact HI0.out),by repeat(first|(with_reducible first|exact HB.out|apply Zq|apply Zm|apply Zs|refine Zp ?_ (Zt.ge HI0.out))|exact HB.out),by repeat(first|(with_reducible first|exact HK.out|apply Zz.set_|apply ZI|apply ZN|apply ZJ)|exact HK.out)⟩
def ZaL.f (s0_0:List Int) (s0_1:Int) (s0_2:Int):Option (Int×Int×Int×Int):=(ZW.f s0_0 s0_1 s0_2 21).bind fun bt118002=>((ZW.f s0_0 bt118002.2.1 bt118002.2.2 8).bind fun bt118005=>(some (wrap64 (bt118002.1 - 10),wrap64 ((wrap64 (bt118002.1 - 10))+bt118005.1),bt118005.2.1,bt118005.2.2)))
set_option maxHeartbeats 8000000 in
set_option maxRecDepth 100000 in
theorem ZaL.calls (g:Nat) (s0_0:List Int) (s0_1:Int) (s0_2:Int) (r1:Int) (r2:Int) (r3:Int) (r4:Int) (w0 w:World) (hI:Zt w0 w g s0_0 s0_1 s0_2) (hB:Below w0.heap.size w0 w) (h:ZaL.f s0_0 s0_1 s0_2=some (r1,r2,r3,r4)) :
  Calls Try.prog 118 #[.pointer (some ⟨g,0,none⟩)] w fun e w'=>e=.returned (.agg #[.int .i64 r1,.int .i64 r2])∧Zt w0 w' g s0_0 r3 r4∧Below w0.heap.size w0 w'∧Zz w w' g none:=by
 have hu35:=Try.underlying35
 have HI0:=Za hI
 have HK:=Za (Zz.refl w g none)
 have HL:=Za hB.size
 clear hI
 have HW0:=Za hB.size
 have HB:=Za hB;clear hB
 have H:((ZW.f s0_0 s0_1 s0_2 21).bind fun bt118002=>((ZW.f s0_0 bt118002.2.1 bt118002.2.2 8).bind fun bt118005=>(some (wrap64 (bt118002.1 - 10),wrap64 ((wrap64 (bt118002.1 - 10))+bt118005.1),bt118005.2.1,bt118005.2.2))))=some (r1,r2,r3,r4):=h
 clear h
 replace H:=Zh H
 obtain⟨⟨t118002,t118003,t118004⟩,A20,H⟩:=H
 replace H:((ZW.f s0_0 t118003 t118004 8).bind fun bt118005=>(some (wrap64 (t118002 - 10),wrap64 ((wrap64 (t118002 - 10))+bt118005.1),bt118005.2.1,bt118005.2.2)))=some (r1,r2,r3,r4):=H
 have A2:=Za A20;clear A20
 replace H:=Zh H
 obtain⟨⟨t118005,t118006,t118007⟩,A30,H⟩:=H
 replace H:(some (wrap64 (t118002 - 10),wrap64 ((wrap64 (t118002 - 10))+t118005),t118006,t118007))=some (r1,r2,r3,r4):=H
 have A3:=Za A30;clear A30
 simp only[Option.some.injEq,Prod.mk.injEq] at H
 obtain⟨rfl,rfl,rfl,rfl⟩:=H
 go_enter Try.func118,Try.ntmps118
 go_wp2_with (first|((with_reducible refine ZM (N:=2) rfl ?_);refine ZK ?hg (N:=2) ?hd (cs:=#[.int .i64 0,.int .i64 0]) (t:=35) ?hr ?_;(case hd=>rfl);(case hg=>rfl);(case hr=>first|(go_simp;done)|(go_simp;rfl));intro gb118001 hg w4 hbox hb;have BK118001:=Za (hbox);have GW118001:=Za ((by rw[hg];exact(Zar (w:=w) (g:=g) (row:=none) (by repeat(first|(with_reducible first|exact HK.out|apply Zz.set_|apply ZI|apply ZN|apply ZJ)|exact HK.out))):w.heap.size≤gb118001));have GE118001:=Za ((Nat.le_trans HW0.out (by rw[hg];exact(Zar (w:=w) (g:=g) (row:=none) (by repeat(first|(with_reducible first|exact HK.out|apply Zz.set_|apply ZI|apply ZN|apply ZJ)|exact HK.out))):w.heap.size≤gb118001):w0.heap.size≤gb118001));have NB0_118001:=Za ((by rw[hg];exact Nat.ne_of_lt (Zt.lt (show Zt w0 _ g s0_0 s0_1 s0_2 from by repeat(first|(with_reducible first|exact HI0.out|apply Zt.alloc|apply Zt.drewN|apply Zt.drew|apply Zt.set_1|apply Zt.set_2)|exact HI0.out))):g≠gb118001));have NB118001_0:=Za ((by rw[hg];exact Nat.ne_of_gt (Zt.lt (show Zt w0 _ g s0_0 s0_1 s0_2 from by repeat(first|(with_reducible first|exact HI0.out|apply Zt.alloc|apply Zt.drewN|apply Zt.drew|apply Zt.set_1|apply Zt.set_2)|exact HI0.out))):gb118001≠g));replace HK:=Za (Zz.trans (by repeat(first|(with_reducible first|exact HK.out|apply Zz.set_|apply ZI|apply ZN|apply ZJ)|exact HK.out)) (Zz.of_below hb g none) (.inl rfl));replace HB:=Za (Zx (by repeat(first|(with_reducible first|exact HB.out|apply Zq|apply Zm|apply Zs|refine Zp ?_ (Zt.ge HI0.out))|exact HB.out)) hb);replace HI0:=Za (Zt.below (by repeat(first|(with_reducible first|exact HI0.out|apply Zt.alloc|apply Zt.drewN|apply Zt.drew|apply Zt.set_1|apply Zt.set_2)|exact HI0.out)) hb);clear hb hbox hg)|((with_reducible refine ZF (f:=55) rfl ?_);refine ZY (some 5) rfl rfl Try.func55 (by kernel_rfl) rfl #[.pointer (some ⟨g,0,none⟩),.int .i64 21] rfl (by(try simp only[List.map_toArray,List.map_cons,List.map_nil]);first|done|rfl|(simp only[Zk,Zj];rfl)) ?_;(with_reducible refine(ZW.calls g s0_0 s0_1 s0_2 21 t118002 t118003 t118004 w0 _ ?side1 ?side2 A2.out).mono ?_);(case side1=>repeat(first|(with_reducible first|exact HI0.out|apply Zt.alloc|apply Zt.drewN|apply Zt.drew|apply Zt.set_1|apply Zt.set_2|refine Zt.far ?_ NB0_118001.out _)|exact HI0.out));(case side2=>repeat(first|(with_reducible first|exact HB.out|apply Zq|apply Zm|apply Zs|refine Zp ?_ (Zt.ge HI0.out)|refine Zp ?_ GE118001.out)|exact HB.out));rintro e w5 ⟨rfl,hi,hb,hk⟩;refine⟨_,rfl,?_⟩;replace BK118001:=Za (Zz.blk hk (g':=gb118001) (o:=.cells #[.int .i64 0,.int .i64 0] 35 (0,0)) (by(with_reducible repeat(first|refine Zo ?_ _|refine Zr ?_|refine Zn ?_ _));exact BK118001.out) NB118001_0.out (by simp));replace HK:=Za (Zz.trans (by repeat(first|(with_reducible first|exact HK.out|apply Zz.set_|apply ZI|apply ZN|apply ZJ|refine ZT ?_ GW118001.out _)|exact HK.out)) hk (.inl rfl));replace HB:=Za (hb);replace HI0:=Za (hi);(try clear hb);(try clear hb2);(try clear hk);(try clear hi))|((with_reducible refine ZF (f:=55) rfl ?_);refine ZY (some 10) rfl rfl Try.func55 (by kernel_rfl) rfl #[.pointer (some ⟨g,0,none⟩),.int .i64 8] rfl (by(try simp only[List.map_toArray,List.map_cons,List.map_nil]);first|done|rfl|(simp only[Zk,Zj];rfl)) ?_;(with_reducible refine(ZW.calls g s0_0 t118003 t118004 8 t118005 t118006 t118007 w0 _ ?side1 ?side2 A3.out).mono ?_);(case side1=>repeat(first|(with_reducible first|exact HI0.out|apply Zt.alloc|apply Zt.drewN|apply Zt.drew|apply Zt.set_1|apply Zt.set_2|refine Zt.far ?_ NB0_118001.out _)|exact HI0.out));(case side2=>repeat(first|(with_reducible first|exact HB.out|apply Zq|apply Zm|apply Zs|refine Zp ?_ (Zt.ge HI0.out)|refine Zp ?_ GE118001.out)|exact HB.out));rintro e w6 ⟨rfl,hi,hb,hk⟩;refine⟨_,rfl,?_⟩;replace BK118001:=Za (Zz.blk hk (g':=gb118001) (o:=.cells #[.int .i64 0,.int .i64 0] 35 (0,0)) (by(with_reducible repeat(first|refine Zo ?_ _|refine Zr ?_|refine Zn ?_ _));exact BK118001.out) NB118001_0.out (by simp));replace HK:=Za (Zz.trans (by repeat(first|(with_reducible first|exact HK.out|apply Zz.set_|apply ZI|apply ZN|apply ZJ|refine ZT ?_ GW118001.out _)|exact HK.out)) hk (.inl rfl));replace HB:=Za (hb);replace HI0:=Za (hi);(try clear hb);(try clear hb2);(try clear hk);(try clear hi);have hnb7:=NB118001_0.out;have hnc7:=NB0_118001.out;have hcz8_0:w6.cell? ⟨gb118001,0,none⟩=some (.int .i64 0):=(Zv BK118001.out 0).trans rfl;have hcz8_1:w6.cell? ⟨gb118001,1,none⟩=some (.int .i64 0):=(Zv BK118001.out 1).trans rfl;have hfz8_0:=Zu BK118001.out 0;have hfz8_1:=Zu BK118001.out 1))
 refine bodyPost_ret (results_cell_row rfl _ _ gb118001 35 #[.int .i64 (wrap64 (t118002 - 10)),.int .i64 (wrap64 ((wrap64 (t118002 - 10))+t118005))] (0,0) _ rfl (by(with_reducible repeat(first|refine Zo ?_ _|refine Zr ?_|refine Zn ?_ _));refine ZL (cs:=#[.int .i64 (wrap64 (t118002 - 10)),.int .i64 0]) ?_ 1 _ rfl;(with_reducible repeat(first|refine Zo ?_ _|refine Zr ?_|refine Zn ?_ _));refine ZL (cs:=#[.int .i64 0,.int .i64 0]) ?_ 0 _ rfl;(with_reducible repeat(first|refine Zo ?_ _|refine Zr ?_|refine Zn ?_ _));exact BK118001.out) Try.underlying35 rfl (by kernel_rfl)) rfl ?_
 exact⟨by first|rfl|(simp[ZC,ZB] <;> rfl)|(simp[*,ZC,ZB] <;> rfl),by repeat(first|(with_reducible first|exact HI0.out|apply Zt.alloc|apply Zt.drewN|apply Zt.drew|apply Zt.set_1|apply Zt.set_2|refine Zt.far ?_ NB0_118001.out _)|exact HI0.out),by repeat(first|(with_reducible first|exact HB.out|apply Zq|apply Zm|apply Zs|refine Zp ?_ (Zt.ge HI0.out)|refine Zp ?_ GE118001.out)|exact HB.out),by repeat(first|(with_reducible first|exact HK.out|apply Zz.set_|apply ZI|apply ZN|apply ZJ|refine ZT ?_ GW118001.out _)|exact HK.out)⟩
def Za2.f (s0_0:List Int) (s0_1:Int) (s0_2:Int):Option (Int×Int×Int×Int):=(ZaL.f s0_0 s0_1 s0_2).bind fun bt80002=>((ZW.f s0_0 bt80002.2.2.1 bt80002.2.2.2 8).bind fun bt80007=>(if bt80007.1=0 then(some ((-1000000),bt80002.2.1,bt80007.2.1,bt80007.2.2)) else(if bt80007.1=1 then(some (bt80002.1,1000000,bt80007.2.1,bt80007.2.2)) else(if bt80007.1=2 then(some ((-1000000),1000000,bt80007.2.1,bt80007.2.2)) else(some (bt80002.1,bt80002.2.1,bt80007.2.1,bt80007.2.2))))))
set_option maxHeartbeats 8000000 in
set_option maxRecDepth 100000 in
theorem Za2.calls (g:Nat) (s0_0:List Int) (s0_1:Int) (s0_2:Int) (r1:Int) (r2:Int) (r3:Int) (r4:Int) (w0 w:World) (hI:Zt w0 w g s0_0 s0_1 s0_2) (hB:Below w0.heap.size w0 w) (h:Za2.f s0_0 s0_1 s0_2=some (r1,r2,r3,r4)) :
  Calls Try.prog 80 #[.pointer (some ⟨g,0,none⟩)] w fun e w'=>e=.returned (.agg #[.int .i64 r1,.int .i64 r2])∧Zt w0 w' g s0_0 r3 r4∧Below w0.heap.size w0 w'∧Zz w w' g none:=by
 have hu35:=Try.underlying35
 have HI0:=Za hI
 have HK:=Za (Zz.refl w g none)
 have HL:=Za hB.size
 clear hI
 have HW0:=Za hB.size
 have HB:=Za hB;clear hB
 have H:((ZaL.f s0_0 s0_1 s0_2).bind fun bt80002=>((ZW.f s0_0 bt80002.2.2.1 bt80002.2.2.2 8).bind fun bt80007=>(if bt80007.1=0 then(some ((-1000000),bt80002.2.1,bt80007.2.1,bt80007.2.2)) else(if bt80007.1=1 then(some (bt80002.1,1000000,bt80007.2.1,bt80007.2.2)) else(if bt80007.1=2 then(some ((-1000000),1000000,bt80007.2.1,bt80007.2.2)) else(some (bt80002.1,bt80002.2.1,bt80007.2.1,bt80007.2.2)))))))=some (r1,r2,r3,r4):=h
 clear h
 replace H:=Zh H
 obtain⟨⟨t80002,t80003,t80004,t80005⟩,A20,H⟩:=H
 replace H:((ZW.f s0_0 t80004 t80005 8).bind fun bt80007=>(if bt80007.1=0 then(some ((-1000000),t80003,bt80007.2.1,bt80007.2.2)) else(if bt80007.1=1 then(some (t80002,1000000,bt80007.2.1,bt80007.2.2)) else(if bt80007.1=2 then(some ((-1000000),1000000,bt80007.2.1,bt80007.2.2)) else(some (t80002,t80003,bt80007.2.1,bt80007.2.2))))))=some (r1,r2,r3,r4):=H
 have A2:=Za A20;clear A20
 replace H:=Zh H
 obtain⟨⟨t80007,t80008,t80009⟩,A30,H⟩:=H
 replace H:(if t80007=0 then(some ((-1000000),t80003,t80008,t80009)) else(if t80007=1 then(some (t80002,1000000,t80008,t80009)) else(if t80007=2 then(some ((-1000000),1000000,t80008,t80009)) else(some (t80002,t80003,t80008,t80009)))))=some (r1,r2,r3,r4):=H
 have A3:=Za A30;clear A30
 by_cases c4:t80007=0
 ·rw[if_pos c4] at H
  have c4b0:(t80007 == 0)=true:=beq_iff_eq.mpr c4
  have c4b1:(t80007 != 0)=false:=bne_eq_false_iff_eq.mpr c4
  clear c4
  simp only[Option.some.injEq,Prod.mk.injEq] at H
  obtain⟨rfl,rfl,rfl,rfl⟩:=H
  go_enter Try.func80,Try.ntmps80
  go_wp2_with (first|((with_reducible refine ZM (N:=2) rfl ?_);refine ZK ?hg (N:=2) ?hd (cs:=#[.int .i64 0,.int .i64 0]) (t:=35) ?hr ?_;(case hd=>rfl);(case hg=>rfl);(case hr=>first|(go_simp;done)|(go_simp;rfl));intro gb80001 hg w5 hbox hb;have BK80001:=Za (hbox);have GW80001:=Za ((by rw[hg];exact(Zar (w:=w) (g:=g) (row:=none) (by repeat(first|(with_reducible first|exact HK.out|apply Zz.set_|apply ZI|apply ZN|apply ZJ)|exact HK.out))):w.heap.size≤gb80001));have GE80001:=Za ((Nat.le_trans HW0.out (by rw[hg];exact(Zar (w:=w) (g:=g) (row:=none) (by repeat(first|(with_reducible first|exact HK.out|apply Zz.set_|apply ZI|apply ZN|apply ZJ)|exact HK.out))):w.heap.size≤gb80001):w0.heap.size≤gb80001));have NB0_80001:=Za ((by rw[hg];exact Nat.ne_of_lt (Zt.lt (show Zt w0 _ g s0_0 s0_1 s0_2 from by repeat(first|(with_reducible first|exact HI0.out|apply Zt.alloc|apply Zt.drewN|apply Zt.drew|apply Zt.set_1|apply Zt.set_2)|exact HI0.out))):g≠gb80001));have NB80001_0:=Za ((by rw[hg];exact Nat.ne_of_gt (Zt.lt (show Zt w0 _ g s0_0 s0_1 s0_2 from by repeat(first|(with_reducible first|exact HI0.out|apply Zt.alloc|apply Zt.drewN|apply Zt.drew|apply Zt.set_1|apply Zt.set_2)|exact HI0.out))):gb80001≠g));replace HK:=Za (Zz.trans (by repeat(first|(with_reducible first|exact HK.out|apply Zz.set_|apply ZI|apply ZN|apply ZJ)|exact HK.out)) (Zz.of_below hb g none) (.inl rfl));replace HB:=Za (Zx (by repeat(first|(with_reducible first|exact HB.out|apply Zq|apply Zm|apply Zs|refine Zp ?_ (Zt.ge HI0.out))|exact HB.out)) hb);replace HI0:=Za (Zt.below (by repeat(first|(with_reducible first|exact HI0.out|apply Zt.alloc|apply Zt.drewN|apply Zt.drew|apply Zt.set_1|apply Zt.set_2)|exact HI0.out)) hb);clear hb hbox hg)|((with_reducible refine ZF (f:=118) rfl ?_);refine ZY (some 5) rfl rfl Try.func118 (by kernel_rfl) rfl #[.pointer (some ⟨g,0,none⟩)] rfl (by(try simp only[List.map_toArray,List.map_cons,List.map_nil]);first|done|rfl|(simp only[Zk,Zj];rfl)) ?_;(with_reducible refine(ZaL.calls g s0_0 s0_1 s0_2 t80002 t80003 t80004 t80005 w0 _ ?side1 ?side2 A2.out).mono ?_);(case side1=>repeat(first|(with_reducible first|exact HI0.out|apply Zt.alloc|apply Zt.drewN|apply Zt.drew|apply Zt.set_1|apply Zt.set_2|refine Zt.far ?_ NB0_80001.out _)|exact HI0.out));(case side2=>repeat(first|(with_reducible first|exact HB.out|apply Zq|apply Zm|apply Zs|refine Zp ?_ (Zt.ge HI0.out)|refine Zp ?_ GE80001.out)|exact HB.out));rintro e w6 ⟨rfl,hi,hb,hk⟩;refine⟨_,rfl,?_⟩;replace BK80001:=Za (Zz.blk hk (g':=gb80001) (o:=.cells #[.int .i64 0,.int .i64 0] 35 (0,0)) (by(with_reducible repeat(first|refine Zo ?_ _|refine Zr ?_|refine Zn ?_ _));exact BK80001.out) NB80001_0.out (by simp));replace HK:=Za (Zz.trans (by repeat(first|(with_reducible first|exact HK.out|apply Zz.set_|apply ZI|apply ZN|apply ZJ|refine ZT ?_ GW80001.out _)|exact HK.out)) hk (.inl rfl));replace HB:=Za (hb);replace HI0:=Za (hi);(try clear hb);(try clear hb2);(try clear hk);(try clear hi))|((with_reducible refine ZM (N:=3) rfl ?_);refine ZK ?hg (N:=3) ?hd (cs:=#[.int .i64 0,.int .i64 0]) (t:=35) ?hr ?_;(case hd=>rfl);(case hg=>rfl);(case hr=>first|(go_simp;done)|(go_simp;rfl));intro gb80006 hg w7 hbox hb;have BK80006:=Za (hbox);have GW80006:=Za ((by rw[hg];exact(Zar (w:=w) (g:=g) (row:=none) (by repeat(first|(with_reducible first|exact HK.out|apply Zz.set_|apply ZI|apply ZN|apply ZJ|refine ZT ?_ GW80001.out _)|exact HK.out))):w.heap.size≤gb80006));have GE80006:=Za ((Nat.le_trans HW0.out (by rw[hg];exact(Zar (w:=w) (g:=g) (row:=none) (by repeat(first|(with_reducible first|exact HK.out|apply Zz.set_|apply ZI|apply ZN|apply ZJ|refine ZT ?_ GW80001.out _)|exact HK.out))):w.heap.size≤gb80006):w0.heap.size≤gb80006));have NB80001_80006:=Za ((by rw[hg];exact Nat.ne_of_lt (ZH (g:=gb80001) (o:=.cells #[.int .i64 0,.int .i64 0] 35 (0,0)) (by(with_reducible repeat(first|refine Zo ?_ _|refine Zr ?_|refine Zn ?_ _));exact BK80001.out)):gb80001≠gb80006));have NB80006_80001:=Za ((by rw[hg];exact Nat.ne_of_gt (ZH (g:=gb80001) (o:=.cells #[.int .i64 0,.int .i64 0] 35 (0,0)) (by(with_reducible repeat(first|refine Zo ?_ _|refine Zr ?_|refine Zn ?_ _));exact BK80001.out)):gb80006≠gb80001));have NB0_80006:=Za ((by rw[hg];exact Nat.ne_of_lt (Zt.lt (show Zt w0 _ g s0_0 t80004 t80005 from by repeat(first|(with_reducible first|exact HI0.out|apply Zt.alloc|apply Zt.drewN|apply Zt.drew|apply Zt.set_1|apply Zt.set_2|refine Zt.far ?_ NB0_80001.out _)|exact HI0.out))):g≠gb80006));have NB80006_0:=Za ((by rw[hg];exact Nat.ne_of_gt (Zt.lt (show Zt w0 _ g s0_0 t80004 t80005 from by repeat(first|(with_reducible first|exact HI0.out|apply Zt.alloc|apply Zt.drewN|apply Zt.drew|apply Zt.set_1|apply Zt.set_2|refine Zt.far ?_ NB0_80001.out _)|exact HI0.out))):gb80006≠g));replace BK80001:=Za (Zy (g:=gb80001) (o:=.cells #[.int .i64 0,.int .i64 0] 35 (0,0)) (by(with_reducible repeat(first|refine Zo ?_ _|refine Zr ?_|refine Zn ?_ _));exact BK80001.out) hb);replace HK:=Za (Zz.trans (by repeat(first|(with_reducible first|exact HK.out|apply Zz.set_|apply ZI|apply ZN|apply ZJ|refine ZT ?_ GW80001.out _)|exact HK.out)) (Zz.of_below hb g none) (.inl rfl));replace HB:=Za (Zx (by repeat(first|(with_reducible first|exact HB.out|apply Zq|apply Zm|apply Zs|refine Zp ?_ (Zt.ge HI0.out)|refine Zp ?_ GE80001.out)|exact HB.out)) hb);replace HI0:=Za (Zt.below (by repeat(first|(with_reducible first|exact HI0.out|apply Zt.alloc|apply Zt.drewN|apply Zt.drew|apply Zt.set_1|apply Zt.set_2|refine Zt.far ?_ NB0_80001.out _)|exact HI0.out)) hb);clear hb hbox hg;have hnb8:=NB80006_80001.out;have hnc8:=NB80001_80006.out;have hnb9:=NB80006_0.out;have hnc9:=NB0_80006.out;have hcz10_0:w7.cell? ⟨gb80006,0,none⟩=some (.int .i64 0):=(Zv BK80006.out 0).trans rfl;have hcz10_1:w7.cell? ⟨gb80006,1,none⟩=some (.int .i64 0):=(Zv BK80006.out 1).trans rfl;have hfz10_0:=Zu BK80006.out 0;have hfz10_1:=Zu BK80006.out 1)|((with_reducible refine ZF (f:=55) rfl ?_);refine ZY (some 7) rfl rfl Try.func55 (by kernel_rfl) rfl #[.pointer (some ⟨g,0,none⟩),.int .i64 8] rfl (by(try simp only[List.map_toArray,List.map_cons,List.map_nil]);first|done|rfl|(simp only[Zk,Zj];rfl)) ?_;(with_reducible refine(ZW.calls g s0_0 t80004 t80005 8 t80007 t80008 t80009 w0 _ ?side1 ?side2 A3.out).mono ?_);(case side1=>repeat(first|(with_reducible first|exact HI0.out|apply Zt.alloc|apply Zt.drewN|apply Zt.drew|apply Zt.set_1|apply Zt.set_2|refine Zt.far ?_ NB0_80001.out _|refine Zt.far ?_ NB0_80006.out _)|exact HI0.out));(case side2=>repeat(first|(with_reducible first|exact HB.out|apply Zq|apply Zm|apply Zs|refine Zp ?_ (Zt.ge HI0.out)|refine Zp ?_ GE80001.out|refine Zp ?_ GE80006.out)|exact HB.out));rintro e w11 ⟨rfl,hi,hb,hk⟩;refine⟨_,rfl,?_⟩;replace BK80001:=Za (Zz.blk hk (g':=gb80001) (o:=.cells #[.int .i64 0,.int .i64 0] 35 (0,0)) (by(with_reducible repeat(first|refine Zo ?_ _|refine Zr ?_|refine Zn ?_ _));refine ZD ?_ NB80001_80006.out _;(with_reducible repeat(first|refine Zo ?_ _|refine Zr ?_|refine Zn ?_ _));refine ZD ?_ NB80001_80006.out _;(with_reducible repeat(first|refine Zo ?_ _|refine Zr ?_|refine Zn ?_ _));exact BK80001.out) NB80001_0.out (by simp));replace BK80006:=Za (Zz.blk hk (g':=gb80006) (o:=.cells #[.int .i64 t80002,.int .i64 t80003] 35 (0,0)) (by(with_reducible repeat(first|refine Zo ?_ _|refine Zr ?_|refine Zn ?_ _));refine ZL (cs:=#[.int .i64 t80002,.int .i64 0]) ?_ 1 _ rfl;(with_reducible repeat(first|refine Zo ?_ _|refine Zr ?_|refine Zn ?_ _));refine ZL (cs:=#[.int .i64 0,.int .i64 0]) ?_ 0 _ rfl;(with_reducible repeat(first|refine Zo ?_ _|refine Zr ?_|refine Zn ?_ _));exact BK80006.out) NB80006_0.out (by simp));replace HK:=Za (Zz.trans (by repeat(first|(with_reducible first|exact HK.out|apply Zz.set_|apply ZI|apply ZN|apply ZJ|refine ZT ?_ GW80001.out _|refine ZT ?_ GW80006.out _)|exact HK.out)) hk (.inl rfl));replace HB:=Za (hb);replace HI0:=Za (hi);(try clear hb);(try clear hb2);(try clear hk);(try clear hi);have hcz12_0:w11.cell? ⟨gb80006,0,none⟩=some (.int .i64 t80002):=(Zv BK80006.out 0).trans rfl;have hcz12_1:w11.cell? ⟨gb80006,1,none⟩=some (.int .i64 t80003):=(Zv BK80006.out 1).trans rfl;have hfz12_0:=Zu BK80006.out 0;have hfz12_1:=Zu BK80006.out 1;have hnb13:=NB80001_0.out;have hnc13:=NB0_80001.out;have hcz14_0:w11.cell? ⟨gb80001,0,none⟩=some (.int .i64 0):=(Zv BK80001.out 0).trans rfl;have hcz14_1:w11.cell? ⟨gb80001,1,none⟩=some (.int .i64 0):=(Zv BK80001.out 1).trans rfl;have hfz14_0:=Zu BK80001.out 0;have hfz14_1:=Zu BK80001.out 1))
  refine bodyPost_ret (results_cell_row rfl _ _ gb80001 35 #[.int .i64 (-1000000),.int .i64 t80003] (0,0) _ rfl (by(with_reducible repeat(first|refine Zo ?_ _|refine Zr ?_|refine Zn ?_ _));refine ZL (cs:=#[.int .i64 (-1000000),.int .i64 0]) ?_ 1 _ rfl;(with_reducible repeat(first|refine Zo ?_ _|refine Zr ?_|refine Zn ?_ _));refine ZL (cs:=#[.int .i64 0,.int .i64 0]) ?_ 0 _ rfl;(with_reducible repeat(first|refine Zo ?_ _|refine Zr ?_|refine Zn ?_ _));refine ZD ?_ NB80001_80006.out _;(with_reducible repeat(first|refine Zo ?_ _|refine Zr ?_|refine Zn ?_ _));exact BK80001.out) Try.underlying35 rfl (by kernel_rfl)) rfl ?_
  exact⟨by first|rfl|(simp[ZC,ZB] <;> rfl)|(simp[*,ZC,ZB] <;> rfl),by repeat(first|(with_reducible first|exact HI0.out|apply Zt.alloc|apply Zt.drewN|apply Zt.drew|apply Zt.set_1|apply Zt.set_2|refine Zt.far ?_ NB0_80001.out _|refine Zt.far ?_ NB0_80006.out _)|exact HI0.out),by repeat(first|(with_reducible first|exact HB.out|apply Zq|apply Zm|apply Zs|refine Zp ?_ (Zt.ge HI0.out)|refine Zp ?_ GE80001.out|refine Zp ?_ GE80006.out)|exact HB.out),by repeat(first|(with_reducible first|exact HK.out|apply Zz.set_|apply ZI|apply ZN|apply ZJ|refine ZT ?_ GW80001.out _|refine ZT ?_ GW80006.out _)|exact HK.out)⟩
 ·rw[if_neg c4] at H
  have c4b0:(t80007 == 0)=false:=beq_eq_false_iff_ne.mpr c4
  have c4b1:(t80007 != 0)=true:=bne_iff_ne.mpr c4
  by_cases c15:t80007=1
  ·rw[if_pos c15] at H
   have c15b0:(t80007 == 1)=true:=beq_iff_eq.mpr c15
   have c15b1:(t80007 != 1)=false:=bne_eq_false_iff_eq.mpr c15
   clear c15
   simp only[Option.some.injEq,Prod.mk.injEq] at H
   obtain⟨rfl,rfl,rfl,rfl⟩:=H
   go_enter Try.func80,Try.ntmps80
   go_wp2_with (first|((with_reducible refine ZM (N:=2) rfl ?_);refine ZK ?hg (N:=2) ?hd (cs:=#[.int .i64 0,.int .i64 0]) (t:=35) ?hr ?_;(case hd=>rfl);(case hg=>rfl);(case hr=>first|(go_simp;done)|(go_simp;rfl));intro gb80001 hg w16 hbox hb;have BK80001:=Za (hbox);have GW80001:=Za ((by rw[hg];exact(Zar (w:=w) (g:=g) (row:=none) (by repeat(first|(with_reducible first|exact HK.out|apply Zz.set_|apply ZI|apply ZN|apply ZJ)|exact HK.out))):w.heap.size≤gb80001));have GE80001:=Za ((Nat.le_trans HW0.out (by rw[hg];exact(Zar (w:=w) (g:=g) (row:=none) (by repeat(first|(with_reducible first|exact HK.out|apply Zz.set_|apply ZI|apply ZN|apply ZJ)|exact HK.out))):w.heap.size≤gb80001):w0.heap.size≤gb80001));have NB0_80001:=Za ((by rw[hg];exact Nat.ne_of_lt (Zt.lt (show Zt w0 _ g s0_0 s0_1 s0_2 from by repeat(first|(with_reducible first|exact HI0.out|apply Zt.alloc|apply Zt.drewN|apply Zt.drew|apply Zt.set_1|apply Zt.set_2)|exact HI0.out))):g≠gb80001));have NB80001_0:=Za ((by rw[hg];exact Nat.ne_of_gt (Zt.lt (show Zt w0 _ g s0_0 s0_1 s0_2 from by repeat(first|(with_reducible first|exact HI0.out|apply Zt.alloc|apply Zt.drewN|apply Zt.drew|apply Zt.set_1|apply Zt.set_2)|exact HI0.out))):gb80001≠g));replace HK:=Za (Zz.trans (by repeat(first|(with_reducible first|exact HK.out|apply Zz.set_|apply ZI|apply ZN|apply ZJ)|exact HK.out)) (Zz.of_below hb g none) (.inl rfl));replace HB:=Za (Zx (by repeat(first|(with_reducible first|exact HB.out|apply Zq|apply Zm|apply Zs|refine Zp ?_ (Zt.ge HI0.out))|exact HB.out)) hb);replace HI0:=Za (Zt.below (by repeat(first|(with_reducible first|exact HI0.out|apply Zt.alloc|apply Zt.drewN|apply Zt.drew|apply Zt.set_1|apply Zt.set_2)|exact HI0.out)) hb);clear hb hbox hg)|((with_reducible refine ZF (f:=118) rfl ?_);refine ZY (some 5) rfl rfl Try.func118 (by kernel_rfl) rfl #[.pointer (some ⟨g,0,none⟩)] rfl (by(try simp only[List.map_toArray,List.map_cons,List.map_nil]);first|done|rfl|(simp only[Zk,Zj];rfl)) ?_;(with_reducible refine(ZaL.calls g s0_0 s0_1 s0_2 t80002 t80003 t80004 t80005 w0 _ ?side1 ?side2 A2.out).mono ?_);(case side1=>repeat(first|(with_reducible first|exact HI0.out|apply Zt.alloc|apply Zt.drewN|apply Zt.drew|apply Zt.set_1|apply Zt.set_2|refine Zt.far ?_ NB0_80001.out _)|exact HI0.out));(case side2=>repeat(first|(with_reducible first|exact HB.out|apply Zq|apply Zm|apply Zs|refine Zp ?_ (Zt.ge HI0.out)|refine Zp ?_ GE80001.out)|exact HB.out));rintro e w17 ⟨rfl,hi,hb,hk⟩;refine⟨_,rfl,?_⟩;replace BK80001:=Za (Zz.blk hk (g':=gb80001) (o:=.cells #[.int .i64 0,.int .i64 0] 35 (0,0)) (by(with_reducible repeat(first|refine Zo ?_ _|refine Zr ?_|refine Zn ?_ _));exact BK80001.out) NB80001_0.out (by simp));replace HK:=Za (Zz.trans (by repeat(first|(with_reducible first|exact HK.out|apply Zz.set_|apply ZI|apply ZN|apply ZJ|refine ZT ?_ GW80001.out _)|exact HK.out)) hk (.inl rfl));replace HB:=Za (hb);replace HI0:=Za (hi);(try clear hb);(try clear hb2);(try clear hk);(try clear hi))|((with_reducible refine ZM (N:=3) rfl ?_);refine ZK ?hg (N:=3) ?hd (cs:=#[.int .i64 0,.int .i64 0]) (t:=35) ?hr ?_;(case hd=>rfl);(case hg=>rfl);(case hr=>first|(go_simp;done)|(go_simp;rfl));intro gb80006 hg w18 hbox hb;have BK80006:=Za (hbox);have GW80006:=Za ((by rw[hg];exact(Zar (w:=w) (g:=g) (row:=none) (by repeat(first|(with_reducible first|exact HK.out|apply Zz.set_|apply ZI|apply ZN|apply ZJ|refine ZT ?_ GW80001.out _)|exact HK.out))):w.heap.size≤gb80006));have GE80006:=Za ((Nat.le_trans HW0.out (by rw[hg];exact(Zar (w:=w) (g:=g) (row:=none) (by repeat(first|(with_reducible first|exact HK.out|apply Zz.set_|apply ZI|apply ZN|apply ZJ|refine ZT ?_ GW80001.out _)|exact HK.out))):w.heap.size≤gb80006):w0.heap.size≤gb80006));have NB80001_80006:=Za ((by rw[hg];exact Nat.ne_of_lt (ZH (g:=gb80001) (o:=.cells #[.int .i64 0,.int .i64 0] 35 (0,0)) (by(with_reducible repeat(first|refine Zo ?_ _|refine Zr ?_|refine Zn ?_ _));exact BK80001.out)):gb80001≠gb80006));have NB80006_80001:=Za ((by rw[hg];exact Nat.ne_of_gt (ZH (g:=gb80001) (o:=.cells #[.int .i64 0,.int .i64 0] 35 (0,0)) (by(with_reducible repeat(first|refine Zo ?_ _|refine Zr ?_|refine Zn ?_ _));exact BK80001.out)):gb80006≠gb80001));have NB0_80006:=Za ((by rw[hg];exact Nat.ne_of_lt (Zt.lt (show Zt w0 _ g s0_0 t80004 t80005 from by repeat(first|(with_reducible first|exact HI0.out|apply Zt.alloc|apply Zt.drewN|apply Zt.drew|apply Zt.set_1|apply Zt.set_2|refine Zt.far ?_ NB0_80001.out _)|exact HI0.out))):g≠gb80006));have NB80006_0:=Za ((by rw[hg];exact Nat.ne_of_gt (Zt.lt (show Zt w0 _ g s0_0 t80004 t80005 from by repeat(first|(with_reducible first|exact HI0.out|apply Zt.alloc|apply Zt.drewN|apply Zt.drew|apply Zt.set_1|apply Zt.set_2|refine Zt.far ?_ NB0_80001.out _)|exact HI0.out))):gb80006≠g));replace BK80001:=Za (Zy (g:=gb80001) (o:=.cells #[.int .i64 0,.int .i64 0] 35 (0,0)) (by(with_reducible repeat(first|refine Zo ?_ _|refine Zr ?_|refine Zn ?_ _));exact BK80001.out) hb);replace HK:=Za (Zz.trans (by repeat(first|(with_reducible first|exact HK.out|apply Zz.set_|apply ZI|apply ZN|apply ZJ|refine ZT ?_ GW80001.out _)|exact HK.out)) (Zz.of_below hb g none) (.inl rfl));replace HB:=Za (Zx (by repeat(first|(with_reducible first|exact HB.out|apply Zq|apply Zm|apply Zs|refine Zp ?_ (Zt.ge HI0.out)|refine Zp ?_ GE80001.out)|exact HB.out)) hb);replace HI0:=Za (Zt.below (by repeat(first|(with_reducible first|exact HI0.out|apply Zt.alloc|apply Zt.drewN|apply Zt.drew|apply Zt.set_1|apply Zt.set_2|refine Zt.far ?_ NB0_80001.out _)|exact HI0.out)) hb);clear hb hbox hg;have hnb19:=NB80006_80001.out;have hnc19:=NB80001_80006.out;have hnb20:=NB80006_0.out;have hnc20:=NB0_80006.out;have hcz21_0:w18.cell? ⟨gb80006,0,none⟩=some (.int .i64 0):=(Zv BK80006.out 0).trans rfl;have hcz21_1:w18.cell? ⟨gb80006,1,none⟩=some (.int .i64 0):=(Zv BK80006.out 1).trans rfl;have hfz21_0:=Zu BK80006.out 0;have hfz21_1:=Zu BK80006.out 1)|((with_reducible refine ZF (f:=55) rfl ?_);refine ZY (some 7) rfl rfl Try.func55 (by kernel_rfl) rfl #[.pointer (some ⟨g,0,none⟩),.int .i64 8] rfl (by(try simp only[List.map_toArray,List.map_cons,List.map_nil]);first|done|rfl|(simp only[Zk,Zj];rfl)) ?_;(with_reducible refine(ZW.calls g s0_0 t80004 t80005 8 t80007 t80008 t80009 w0 _ ?side1 ?side2 A3.out).mono ?_);(case side1=>repeat(first|(with_reducible first|exact HI0.out|apply Zt.alloc|apply Zt.drewN|apply Zt.drew|apply Zt.set_1|apply Zt.set_2|refine Zt.far ?_ NB0_80001.out _|refine Zt.far ?_ NB0_80006.out _)|exact HI0.out));(case side2=>repeat(first|(with_reducible first|exact HB.out|apply Zq|apply Zm|apply Zs|refine Zp ?_ (Zt.ge HI0.out)|refine Zp ?_ GE80001.out|refine Zp ?_ GE80006.out)|exact HB.out));rintro e w22 ⟨rfl,hi,hb,hk⟩;refine⟨_,rfl,?_⟩;replace BK80001:=Za (Zz.blk hk (g':=gb80001) (o:=.cells #[.int .i64 0,.int .i64 0] 35 (0,0)) (by(with_reducible repeat(first|refine Zo ?_ _|refine Zr ?_|refine Zn ?_ _));refine ZD ?_ NB80001_80006.out _;(with_reducible repeat(first|refine Zo ?_ _|refine Zr ?_|refine Zn ?_ _));refine ZD ?_ NB80001_80006.out _;(with_reducible repeat(first|refine Zo ?_ _|refine Zr ?_|refine Zn ?_ _));exact BK80001.out) NB80001_0.out (by simp));replace BK80006:=Za (Zz.blk hk (g':=gb80006) (o:=.cells #[.int .i64 t80002,.int .i64 t80003] 35 (0,0)) (by(with_reducible repeat(first|refine Zo ?_ _|refine Zr ?_|refine Zn ?_ _));refine ZL (cs:=#[.int .i64 t80002,.int .i64 0]) ?_ 1 _ rfl;(with_reducible repeat(first|refine Zo ?_ _|refine Zr ?_|refine Zn ?_ _));refine ZL (cs:=#[.int .i64 0,.int .i64 0]) ?_ 0 _ rfl;(with_reducible repeat(first|refine Zo ?_ _|refine Zr ?_|refine Zn ?_ _));exact BK80006.out) NB80006_0.out (by simp));replace HK:=Za (Zz.trans (by repeat(first|(with_reducible first|exact HK.out|apply Zz.set_|apply ZI|apply ZN|apply ZJ|refine ZT ?_ GW80001.out _|refine ZT ?_ GW80006.out _)|exact HK.out)) hk (.inl rfl));replace HB:=Za (hb);replace HI0:=Za (hi);(try clear hb);(try clear hb2);(try clear hk);(try clear hi);have hcz23_0:w22.cell? ⟨gb80006,0,none⟩=some (.int .i64 t80002):=(Zv BK80006.out 0).trans rfl;have hcz23_1:w22.cell? ⟨gb80006,1,none⟩=some (.int .i64 t80003):=(Zv BK80006.out 1).trans rfl;have hfz23_0:=Zu BK80006.out 0;have hfz23_1:=Zu BK80006.out 1;have hnb24:=NB80001_0.out;have hnc24:=NB0_80001.out;have hcz25_0:w22.cell? ⟨gb80001,0,none⟩=some (.int .i64 0):=(Zv BK80001.out 0).trans rfl;have hcz25_1:w22.cell? ⟨gb80001,1,none⟩=some (.int .i64 0):=(Zv BK80001.out 1).trans rfl;have hfz25_0:=Zu BK80001.out 0;have hfz25_1:=Zu BK80001.out 1))
   refine bodyPost_ret (results_cell_row rfl _ _ gb80001 35 #[.int .i64 t80002,.int .i64 1000000] (0,0) _ rfl (by(with_reducible repeat(first|refine Zo ?_ _|refine Zr ?_|refine Zn ?_ _));refine ZL (cs:=#[.int .i64 t80002,.int .i64 0]) ?_ 1 _ rfl;(with_reducible repeat(first|refine Zo ?_ _|refine Zr ?_|refine Zn ?_ _));refine ZL (cs:=#[.int .i64 0,.int .i64 0]) ?_ 0 _ rfl;(with_reducible repeat(first|refine Zo ?_ _|refine Zr ?_|refine Zn ?_ _));refine ZD ?_ NB80001_80006.out _;(with_reducible repeat(first|refine Zo ?_ _|refine Zr ?_|refine Zn ?_ _));exact BK80001.out) Try.underlying35 rfl (by kernel_rfl)) rfl ?_
   exact⟨by first|rfl|(simp[ZC,ZB] <;> rfl)|(simp[*,ZC,ZB] <;> rfl),by repeat(first|(with_reducible first|exact HI0.out|apply Zt.alloc|apply Zt.drewN|apply Zt.drew|apply Zt.set_1|apply Zt.set_2|refine Zt.far ?_ NB0_80001.out _|refine Zt.far ?_ NB0_80006.out _)|exact HI0.out),by repeat(first|(with_reducible first|exact HB.out|apply Zq|apply Zm|apply Zs|refine Zp ?_ (Zt.ge HI0.out)|refine Zp ?_ GE80001.out|refine Zp ?_ GE80006.out)|exact HB.out),by repeat(first|(with_reducible first|exact HK.out|apply Zz.set_|apply ZI|apply ZN|apply ZJ|refine ZT ?_ GW80001.out _|refine ZT ?_ GW80006.out _)|exact HK.out)⟩
  ·rw[if_neg c15] at H
   have c15b0:(t80007 == 1)=false:=beq_eq_false_iff_ne.mpr c15
   have c15b1:(t80007 != 1)=true:=bne_iff_ne.mpr c15
   by_cases c26:t80007=2
   ·rw[if_pos c26] at H
    have c26b0:(t80007 == 2)=true:=beq_iff_eq.mpr c26
    have c26b1:(t80007 != 2)=false:=bne_eq_false_iff_eq.mpr c26
    clear c26
    simp only[Option.some.injEq,Prod.mk.injEq] at H
    obtain⟨rfl,rfl,rfl,rfl⟩:=H
    go_enter Try.func80,Try.ntmps80
    go_wp2_with (first|((with_reducible refine ZM (N:=2) rfl ?_);refine ZK ?hg (N:=2) ?hd (cs:=#[.int .i64 0,.int .i64 0]) (t:=35) ?hr ?_;(case hd=>rfl);(case hg=>rfl);(case hr=>first|(go_simp;done)|(go_simp;rfl));intro gb80001 hg w27 hbox hb;have BK80001:=Za (hbox);have GW80001:=Za ((by rw[hg];exact(Zar (w:=w) (g:=g) (row:=none) (by repeat(first|(with_reducible first|exact HK.out|apply Zz.set_|apply ZI|apply ZN|apply ZJ)|exact HK.out))):w.heap.size≤gb80001));have GE80001:=Za ((Nat.le_trans HW0.out (by rw[hg];exact(Zar (w:=w) (g:=g) (row:=none) (by repeat(first|(with_reducible first|exact HK.out|apply Zz.set_|apply ZI|apply ZN|apply ZJ)|exact HK.out))):w.heap.size≤gb80001):w0.heap.size≤gb80001));have NB0_80001:=Za ((by rw[hg];exact Nat.ne_of_lt (Zt.lt (show Zt w0 _ g s0_0 s0_1 s0_2 from by repeat(first|(with_reducible first|exact HI0.out|apply Zt.alloc|apply Zt.drewN|apply Zt.drew|apply Zt.set_1|apply Zt.set_2)|exact HI0.out))):g≠gb80001));have NB80001_0:=Za ((by rw[hg];exact Nat.ne_of_gt (Zt.lt (show Zt w0 _ g s0_0 s0_1 s0_2 from by repeat(first|(with_reducible first|exact HI0.out|apply Zt.alloc|apply Zt.drewN|apply Zt.drew|apply Zt.set_1|apply Zt.set_2)|exact HI0.out))):gb80001≠g));replace HK:=Za (Zz.trans (by repeat(first|(with_reducible first|exact HK.out|apply Zz.set_|apply ZI|apply ZN|apply ZJ)|exact HK.out)) (Zz.of_below hb g none) (.inl rfl));replace HB:=Za (Zx (by repeat(first|(with_reducible first|exact HB.out|apply Zq|apply Zm|apply Zs|refine Zp ?_ (Zt.ge HI0.out))|exact HB.out)) hb);replace HI0:=Za (Zt.below (by repeat(first|(with_reducible first|exact HI0.out|apply Zt.alloc|apply Zt.drewN|apply Zt.drew|apply Zt.set_1|apply Zt.set_2)|exact HI0.out)) hb);clear hb hbox hg)|((with_reducible refine ZF (f:=118) rfl ?_);refine ZY (some 5) rfl rfl Try.func118 (by kernel_rfl) rfl #[.pointer (some ⟨g,0,none⟩)] rfl (by(try simp only[List.map_toArray,List.map_cons,List.map_nil]);first|done|rfl|(simp only[Zk,Zj];rfl)) ?_;(with_reducible refine(ZaL.calls g s0_0 s0_1 s0_2 t80002 t80003 t80004 t80005 w0 _ ?side1 ?side2 A2.out).mono ?_);(case side1=>repeat(first|(with_reducible first|exact HI0.out|apply Zt.alloc|apply Zt.drewN|apply Zt.drew|apply Zt.set_1|apply Zt.set_2|refine Zt.far ?_ NB0_80001.out _)|exact HI0.out));(case side2=>repeat(first|(with_reducible first|exact HB.out|apply Zq|apply Zm|apply Zs|refine Zp ?_ (Zt.ge HI0.out)|refine Zp ?_ GE80001.out)|exact HB.out));rintro e w28 ⟨rfl,hi,hb,hk⟩;refine⟨_,rfl,?_⟩;replace BK80001:=Za (Zz.blk hk (g':=gb80001) (o:=.cells #[.int .i64 0,.int .i64 0] 35 (0,0)) (by(with_reducible repeat(first|refine Zo ?_ _|refine Zr ?_|refine Zn ?_ _));exact BK80001.out) NB80001_0.out (by simp));replace HK:=Za (Zz.trans (by repeat(first|(with_reducible first|exact HK.out|apply Zz.set_|apply ZI|apply ZN|apply ZJ|refine ZT ?_ GW80001.out _)|exact HK.out)) hk (.inl rfl));replace HB:=Za (hb);replace HI0:=Za (hi);(try clear hb);(try clear hb2);(try clear hk);(try clear hi))|((with_reducible refine ZM (N:=3) rfl ?_);refine ZK ?hg (N:=3) ?hd (cs:=#[.int .i64 0,.int .i64 0]) (t:=35) ?hr ?_;(case hd=>rfl);(case hg=>rfl);(case hr=>first|(go_simp;done)|(go_simp;rfl));intro gb80006 hg w29 hbox hb;have BK80006:=Za (hbox);have GW80006:=Za ((by rw[hg];exact(Zar (w:=w) (g:=g) (row:=none) (by repeat(first|(with_reducible first|exact HK.out|apply Zz.set_|apply ZI|apply ZN|apply ZJ|refine ZT ?_ GW80001.out _)|exact HK.out))):w.heap.size≤gb80006));have GE80006:=Za ((Nat.le_trans HW0.out (by rw[hg];exact(Zar (w:=w) (g:=g) (row:=none) (by repeat(first|(with_reducible first|exact HK.out|apply Zz.set_|apply ZI|apply ZN|apply ZJ|refine ZT ?_ GW80001.out _)|exact HK.out))):w.heap.size≤gb80006):w0.heap.size≤gb80006));have NB80001_80006:=Za ((by rw[hg];exact Nat.ne_of_lt (ZH (g:=gb80001) (o:=.cells #[.int .i64 0,.int .i64 0] 35 (0,0)) (by(with_reducible repeat(first|refine Zo ?_ _|refine Zr ?_|refine Zn ?_ _));exact BK80001.out)):gb80001≠gb80006));have NB80006_80001:=Za ((by rw[hg];exact Nat.ne_of_gt (ZH (g:=gb80001) (o:=.cells #[.int .i64 0,.int .i64 0] 35 (0,0)) (by(with_reducible repeat(first|refine Zo ?_ _|refine Zr ?_|refine Zn ?_ _));exact BK80001.out)):gb80006≠gb80001));have NB0_80006:=Za ((by rw[hg];exact Nat.ne_of_lt (Zt.lt (show Zt w0 _ g s0_0 t80004 t80005 from by repeat(first|(with_reducible first|exact HI0.out|apply Zt.alloc|apply Zt.drewN|apply Zt.drew|apply Zt.set_1|apply Zt.set_2|refine Zt.far ?_ NB0_80001.out _)|exact HI0.out))):g≠gb80006));have NB80006_0:=Za ((by rw[hg];exact Nat.ne_of_gt (Zt.lt (show Zt w0 _ g s0_0 t80004 t80005 from by repeat(first|(with_reducible first|exact HI0.out|apply Zt.alloc|apply Zt.drewN|apply Zt.drew|apply Zt.set_1|apply Zt.set_2|refine Zt.far ?_ NB0_80001.out _)|exact HI0.out))):gb80006≠g));replace BK80001:=Za (Zy (g:=gb80001) (o:=.cells #[.int .i64 0,.int .i64 0] 35 (0,0)) (by(with_reducible repeat(first|refine Zo ?_ _|refine Zr ?_|refine Zn ?_ _));exact BK80001.out) hb);replace HK:=Za (Zz.trans (by repeat(first|(with_reducible first|exact HK.out|apply Zz.set_|apply ZI|apply ZN|apply ZJ|refine ZT ?_ GW80001.out _)|exact HK.out)) (Zz.of_below hb g none) (.inl rfl));replace HB:=Za (Zx (by repeat(first|(with_reducible first|exact HB.out|apply Zq|apply Zm|apply Zs|refine Zp ?_ (Zt.ge HI0.out)|refine Zp ?_ GE80001.out)|exact HB.out)) hb);replace HI0:=Za (Zt.below (by repeat(first|(with_reducible first|exact HI0.out|apply Zt.alloc|apply Zt.drewN|apply Zt.drew|apply Zt.set_1|apply Zt.set_2|refine Zt.far ?_ NB0_80001.out _)|exact HI0.out)) hb);clear hb hbox hg;have hnb30:=NB80006_80001.out;have hnc30:=NB80001_80006.out;have hnb31:=NB80006_0.out;have hnc31:=NB0_80006.out;have hcz32_0:w29.cell? ⟨gb80006,0,none⟩=some (.int .i64 0):=(Zv BK80006.out 0).trans rfl;have hcz32_1:w29.cell? ⟨gb80006,1,none⟩=some (.int .i64 0):=(Zv BK80006.out 1).trans rfl;have hfz32_0:=Zu BK80006.out 0;have hfz32_1:=Zu BK80006.out 1)|((with_reducible refine ZF (f:=55) rfl ?_);refine ZY (some 7) rfl rfl Try.func55 (by kernel_rfl) rfl #[.pointer (some ⟨g,0,none⟩),.int .i64 8] rfl (by(try simp only[List.map_toArray,List.map_cons,List.map_nil]);first|done|rfl|(simp only[Zk,Zj];rfl)) ?_;(with_reducible refine(ZW.calls g s0_0 t80004 t80005 8 t80007 t80008 t80009 w0 _ ?side1 ?side2 A3.out).mono ?_);(case side1=>repeat(first|(with_reducible first|exact HI0.out|apply Zt.alloc|apply Zt.drewN|apply Zt.drew|apply Zt.set_1|apply Zt.set_2|refine Zt.far ?_ NB0_80001.out _|refine Zt.far ?_ NB0_80006.out _)|exact HI0.out));(case side2=>repeat(first|(with_reducible first|exact HB.out|apply Zq|apply Zm|apply Zs|refine Zp ?_ (Zt.ge HI0.out)|refine Zp ?_ GE80001.out|refine Zp ?_ GE80006.out)|exact HB.out));rintro e w33 ⟨rfl,hi,hb,hk⟩;refine⟨_,rfl,?_⟩;replace BK80001:=Za (Zz.blk hk (g':=gb80001) (o:=.cells #[.int .i64 0,.int .i64 0] 35 (0,0)) (by(with_reducible repeat(first|refine Zo ?_ _|refine Zr ?_|refine Zn ?_ _));refine ZD ?_ NB80001_80006.out _;(with_reducible repeat(first|refine Zo ?_ _|refine Zr ?_|refine Zn ?_ _));refine ZD ?_ NB80001_80006.out _;(with_reducible repeat(first|refine Zo ?_ _|refine Zr ?_|refine Zn ?_ _));exact BK80001.out) NB80001_0.out (by simp));replace BK80006:=Za (Zz.blk hk (g':=gb80006) (o:=.cells #[.int .i64 t80002,.int .i64 t80003] 35 (0,0)) (by(with_reducible repeat(first|refine Zo ?_ _|refine Zr ?_|refine Zn ?_ _));refine ZL (cs:=#[.int .i64 t80002,.int .i64 0]) ?_ 1 _ rfl;(with_reducible repeat(first|refine Zo ?_ _|refine Zr ?_|refine Zn ?_ _));refine ZL (cs:=#[.int .i64 0,.int .i64 0]) ?_ 0 _ rfl;(with_reducible repeat(first|refine Zo ?_ _|refine Zr ?_|refine Zn ?_ _));exact BK80006.out) NB80006_0.out (by simp));replace HK:=Za (Zz.trans (by repeat(first|(with_reducible first|exact HK.out|apply Zz.set_|apply ZI|apply ZN|apply ZJ|refine ZT ?_ GW80001.out _|refine ZT ?_ GW80006.out _)|exact HK.out)) hk (.inl rfl));replace HB:=Za (hb);replace HI0:=Za (hi);(try clear hb);(try clear hb2);(try clear hk);(try clear hi);have hnb34:=NB80001_0.out;have hnc34:=NB0_80001.out;have hcz35_0:w33.cell? ⟨gb80001,0,none⟩=some (.int .i64 0):=(Zv BK80001.out 0).trans rfl;have hcz35_1:w33.cell? ⟨gb80001,1,none⟩=some (.int .i64 0):=(Zv BK80001.out 1).trans rfl;have hfz35_0:=Zu BK80001.out 0;have hfz35_1:=Zu BK80001.out 1))
    refine bodyPost_ret (results_cell_row rfl _ _ gb80001 35 #[.int .i64 (-1000000),.int .i64 1000000] (0,0) _ rfl (by(with_reducible repeat(first|refine Zo ?_ _|refine Zr ?_|refine Zn ?_ _));refine ZL (cs:=#[.int .i64 (-1000000),.int .i64 0]) ?_ 1 _ rfl;(with_reducible repeat(first|refine Zo ?_ _|refine Zr ?_|refine Zn ?_ _));refine ZL (cs:=#[.int .i64 0,.int .i64 0]) ?_ 0 _ rfl;(with_reducible repeat(first|refine Zo ?_ _|refine Zr ?_|refine Zn ?_ _));exact BK80001.out) Try.underlying35 rfl (by kernel_rfl)) rfl ?_
    exact⟨by first|rfl|(simp[ZC,ZB] <;> rfl)|(simp[*,ZC,ZB] <;> rfl),by repeat(first|(with_reducible first|exact HI0.out|apply Zt.alloc|apply Zt.drewN|apply Zt.drew|apply Zt.set_1|apply Zt.set_2|refine Zt.far ?_ NB0_80001.out _|refine Zt.far ?_ NB0_80006.out _)|exact HI0.out),by repeat(first|(with_reducible first|exact HB.out|apply Zq|apply Zm|apply Zs|refine Zp ?_ (Zt.ge HI0.out)|refine Zp ?_ GE80001.out|refine Zp ?_ GE80006.out)|exact HB.out),by repeat(first|(with_reducible first|exact HK.out|apply Zz.set_|apply ZI|apply ZN|apply ZJ|refine ZT ?_ GW80001.out _|refine ZT ?_ GW80006.out _)|exact HK.out)⟩
   ·rw[if_neg c26] at H
    have c26b0:(t80007 == 2)=false:=beq_eq_false_iff_ne.mpr c26
    have c26b1:(t80007 != 2)=true:=bne_iff_ne.mpr c26
    simp only[Option.some.injEq,Prod.mk.injEq] at H
    obtain⟨rfl,rfl,rfl,rfl⟩:=H
    go_enter Try.func80,Try.ntmps80
    go_wp2_with (first|((with_reducible refine ZM (N:=2) rfl ?_);refine ZK ?hg (N:=2) ?hd (cs:=#[.int .i64 0,.int .i64 0]) (t:=35) ?hr ?_;(case hd=>rfl);(case hg=>rfl);(case hr=>first|(go_simp;done)|(go_simp;rfl));intro gb80001 hg w36 hbox hb;have BK80001:=Za (hbox);have GW80001:=Za ((by rw[hg];exact(Zar (w:=w) (g:=g) (row:=none) (by repeat(first|(with_reducible first|exact HK.out|apply Zz.set_|apply ZI|apply ZN|apply ZJ)|exact HK.out))):w.heap.size≤gb80001));have GE80001:=Za ((Nat.le_trans HW0.out (by rw[hg];exact(Zar (w:=w) (g:=g) (row:=none) (by repeat(first|(with_reducible first|exact HK.out|apply Zz.set_|apply ZI|apply ZN|apply ZJ)|exact HK.out))):w.heap.size≤gb80001):w0.heap.size≤gb80001));have NB0_80001:=Za ((by rw[hg];exact Nat.ne_of_lt (Zt.lt (show Zt w0 _ g s0_0 s0_1 s0_2 from by repeat(first|(with_reducible first|exact HI0.out|apply Zt.alloc|apply Zt.drewN|apply Zt.drew|apply Zt.set_1|apply Zt.set_2)|exact HI0.out))):g≠gb80001));have NB80001_0:=Za ((by rw[hg];exact Nat.ne_of_gt (Zt.lt (show Zt w0 _ g s0_0 s0_1 s0_2 from by repeat(first|(with_reducible first|exact HI0.out|apply Zt.alloc|apply Zt.drewN|apply Zt.drew|apply Zt.set_1|apply Zt.set_2)|exact HI0.out))):gb80001≠g));replace HK:=Za (Zz.trans (by repeat(first|(with_reducible first|exact HK.out|apply Zz.set_|apply ZI|apply ZN|apply ZJ)|exact HK.out)) (Zz.of_below hb g none) (.inl rfl));replace HB:=Za (Zx (by repeat(first|(with_reducible first|exact HB.out|apply Zq|apply Zm|apply Zs|refine Zp ?_ (Zt.ge HI0.out))|exact HB.out)) hb);replace HI0:=Za (Zt.below (by repeat(first|(with_reducible first|exact HI0.out|apply Zt.alloc|apply Zt.drewN|apply Zt.drew|apply Zt.set_1|apply Zt.set_2)|exact HI0.out)) hb);clear hb hbox hg)|((with_reducible refine ZF (f:=118) rfl ?_);refine ZY (some 5) rfl rfl Try.func118 (by kernel_rfl) rfl #[.pointer (some ⟨g,0,none⟩)] rfl (by(try simp only[List.map_toArray,List.map_cons,List.map_nil]);first|done|rfl|(simp only[Zk,Zj];rfl)) ?_;(with_reducible refine(ZaL.calls g s0_0 s0_1 s0_2 t80002 t80003 t80004 t80005 w0 _ ?side1 ?side2 A2.out).mono ?_);(case side1=>repeat(first|(with_reducible first|exact HI0.out|apply Zt.alloc|apply Zt.drewN|apply Zt.drew|apply Zt.set_1|apply Zt.set_2|refine Zt.far ?_ NB0_80001.out _)|exact HI0.out));(case side2=>repeat(first|(with_reducible first|exact HB.out|apply Zq|apply Zm|apply Zs|refine Zp ?_ (Zt.ge HI0.out)|refine Zp ?_ GE80001.out)|exact HB.out));rintro e w37 ⟨rfl,hi,hb,hk⟩;refine⟨_,rfl,?_⟩;replace BK80001:=Za (Zz.blk hk (g':=gb80001) (o:=.cells #[.int .i64 0,.int .i64 0] 35 (0,0)) (by(with_reducible repeat(first|refine Zo ?_ _|refine Zr ?_|refine Zn ?_ _));exact BK80001.out) NB80001_0.out (by simp));replace HK:=Za (Zz.trans (by repeat(first|(with_reducible first|exact HK.out|apply Zz.set_|apply ZI|apply ZN|apply ZJ|refine ZT ?_ GW80001.out _)|exact HK.out)) hk (.inl rfl));replace HB:=Za (hb);replace HI0:=Za (hi);(try clear hb);(try clear hb2);(try clear hk);(try clear hi))|((with_reducible refine ZM (N:=3) rfl ?_);refine ZK ?hg (N:=3) ?hd (cs:=#[.int .i64 0,.int .i64 0]) (t:=35) ?hr ?_;(case hd=>rfl);(case hg=>rfl);(case hr=>first|(go_simp;done)|(go_simp;rfl));intro gb80006 hg w38 hbox hb;have BK80006:=Za (hbox);have GW80006:=Za ((by rw[hg];exact(Zar (w:=w) (g:=g) (row:=none) (by repeat(first|(with_reducible first|exact HK.out|apply Zz.set_|apply ZI|apply ZN|apply ZJ|refine ZT ?_ GW80001.out _)|exact HK.out))):w.heap.size≤gb80006));have GE80006:=Za ((Nat.le_trans HW0.out (by rw[hg];exact(Zar (w:=w) (g:=g) (row:=none) (by repeat(first|(with_reducible first|exact HK.out|apply Zz.set_|apply ZI|apply ZN|apply ZJ|refine ZT ?_ GW80001.out _)|exact HK.out))):w.heap.size≤gb80006):w0.heap.size≤gb80006));have NB80001_80006:=Za ((by rw[hg];exact Nat.ne_of_lt (ZH (g:=gb80001) (o:=.cells #[.int .i64 0,.int .i64 0] 35 (0,0)) (by(with_reducible repeat(first|refine Zo ?_ _|refine Zr ?_|refine Zn ?_ _));exact BK80001.out)):gb80001≠gb80006));have NB80006_80001:=Za ((by rw[hg];exact Nat.ne_of_gt (ZH (g:=gb80001) (o:=.cells #[.int .i64 0,.int .i64 0] 35 (0,0)) (by(with_reducible repeat(first|refine Zo ?_ _|refine Zr ?_|refine Zn ?_ _));exact BK80001.out)):gb80006≠gb80001));have NB0_80006:=Za ((by rw[hg];exact Nat.ne_of_lt (Zt.lt (show Zt w0 _ g s0_0 t80004 t80005 from by repeat(first|(with_reducible first|exact HI0.out|apply Zt.alloc|apply Zt.drewN|apply Zt.drew|apply Zt.set_1|apply Zt.set_2|refine Zt.far ?_ NB0_80001.out _)|exact HI0.out))):g≠gb80006));have NB80006_0:=Za ((by rw[hg];exact Nat.ne_of_gt (Zt.lt (show Zt w0 _ g s0_0 t80004 t80005 from by repeat(first|(with_reducible first|exact HI0.out|apply Zt.alloc|apply Zt.drewN|apply Zt.drew|apply Zt.set_1|apply Zt.set_2|refine Zt.far ?_ NB0_80001.out _)|exact HI0.out))):gb80006≠g));replace BK80001:=Za (Zy (g:=gb80001) (o:=.cells #[.int .i64 0,.int .i64 0] 35 (0,0)) (by(with_reducible repeat(first|refine Zo ?_ _|refine Zr ?_|refine Zn ?_ _));exact BK80001.out) hb);replace HK:=Za (Zz.trans (by repeat(first|(with_reducible first|exact HK.out|apply Zz.set_|apply ZI|apply ZN|apply ZJ|refine ZT ?_ GW80001.out _)|exact HK.out)) (Zz.of_below hb g none) (.inl rfl));replace HB:=Za (Zx (by repeat(first|(with_reducible first|exact HB.out|apply Zq|apply Zm|apply Zs|refine Zp ?_ (Zt.ge HI0.out)|refine Zp ?_ GE80001.out)|exact HB.out)) hb);replace HI0:=Za (Zt.below (by repeat(first|(with_reducible first|exact HI0.out|apply Zt.alloc|apply Zt.drewN|apply Zt.drew|apply Zt.set_1|apply Zt.set_2|refine Zt.far ?_ NB0_80001.out _)|exact HI0.out)) hb);clear hb hbox hg;have hnb39:=NB80006_80001.out;have hnc39:=NB80001_80006.out;have hnb40:=NB80006_0.out;have hnc40:=NB0_80006.out;have hcz41_0:w38.cell? ⟨gb80006,0,none⟩=some (.int .i64 0):=(Zv BK80006.out 0).trans rfl;have hcz41_1:w38.cell? ⟨gb80006,1,none⟩=some (.int .i64 0):=(Zv BK80006.out 1).trans rfl;have hfz41_0:=Zu BK80006.out 0;have hfz41_1:=Zu BK80006.out 1)|((with_reducible refine ZF (f:=55) rfl ?_);refine ZY (some 7) rfl rfl Try.func55 (by kernel_rfl) rfl #[.pointer (some ⟨g,0,none⟩),.int .i64 8] rfl (by(try simp only[List.map_toArray,List.map_cons,List.map_nil]);first|done|rfl|(simp only[Zk,Zj];rfl)) ?_;(with_reducible refine(ZW.calls g s0_0 t80004 t80005 8 t80007 t80008 t80009 w0 _ ?side1 ?side2 A3.out).mono ?_);(case side1=>repeat(first|(with_reducible first|exact HI0.out|apply Zt.alloc|apply Zt.drewN|apply Zt.drew|apply Zt.set_1|apply Zt.set_2|refine Zt.far ?_ NB0_80001.out _|refine Zt.far ?_ NB0_80006.out _)|exact HI0.out));(case side2=>repeat(first|(with_reducible first|exact HB.out|apply Zq|apply Zm|apply Zs|refine Zp ?_ (Zt.ge HI0.out)|refine Zp ?_ GE80001.out|refine Zp ?_ GE80006.out)|exact HB.out));rintro e w42 ⟨rfl,hi,hb,hk⟩;refine⟨_,rfl,?_⟩;replace BK80001:=Za (Zz.blk hk (g':=gb80001) (o:=.cells #[.int .i64 0,.int .i64 0] 35 (0,0)) (by(with_reducible repeat(first|refine Zo ?_ _|refine Zr ?_|refine Zn ?_ _));refine ZD ?_ NB80001_80006.out _;(with_reducible repeat(first|refine Zo ?_ _|refine Zr ?_|refine Zn ?_ _));refine ZD ?_ NB80001_80006.out _;(with_reducible repeat(first|refine Zo ?_ _|refine Zr ?_|refine Zn ?_ _));exact BK80001.out) NB80001_0.out (by simp));replace BK80006:=Za (Zz.blk hk (g':=gb80006) (o:=.cells #[.int .i64 t80002,.int .i64 t80003] 35 (0,0)) (by(with_reducible repeat(first|refine Zo ?_ _|refine Zr ?_|refine Zn ?_ _));refine ZL (cs:=#[.int .i64 t80002,.int .i64 0]) ?_ 1 _ rfl;(with_reducible repeat(first|refine Zo ?_ _|refine Zr ?_|refine Zn ?_ _));refine ZL (cs:=#[.int .i64 0,.int .i64 0]) ?_ 0 _ rfl;(with_reducible repeat(first|refine Zo ?_ _|refine Zr ?_|refine Zn ?_ _));exact BK80006.out) NB80006_0.out (by simp));replace HK:=Za (Zz.trans (by repeat(first|(with_reducible first|exact HK.out|apply Zz.set_|apply ZI|apply ZN|apply ZJ|refine ZT ?_ GW80001.out _|refine ZT ?_ GW80006.out _)|exact HK.out)) hk (.inl rfl));replace HB:=Za (hb);replace HI0:=Za (hi);(try clear hb);(try clear hb2);(try clear hk);(try clear hi);have hcz43_0:w42.cell? ⟨gb80006,0,none⟩=some (.int .i64 t80002):=(Zv BK80006.out 0).trans rfl;have hcz43_1:w42.cell? ⟨gb80006,1,none⟩=some (.int .i64 t80003):=(Zv BK80006.out 1).trans rfl;have hfz43_0:=Zu BK80006.out 0;have hfz43_1:=Zu BK80006.out 1;have hnb44:=NB80001_0.out;have hnc44:=NB0_80001.out;have hcz45_0:w42.cell? ⟨gb80001,0,none⟩=some (.int .i64 0):=(Zv BK80001.out 0).trans rfl;have hcz45_1:w42.cell? ⟨gb80001,1,none⟩=some (.int .i64 0):=(Zv BK80001.out 1).trans rfl;have hfz45_0:=Zu BK80001.out 0;have hfz45_1:=Zu BK80001.out 1))
    refine bodyPost_ret (results_cell_row rfl _ _ gb80001 35 #[.int .i64 t80002,.int .i64 t80003] (0,0) _ rfl (by(with_reducible repeat(first|refine Zo ?_ _|refine Zr ?_|refine Zn ?_ _));refine ZL (cs:=#[.int .i64 t80002,.int .i64 0]) ?_ 1 _ rfl;(with_reducible repeat(first|refine Zo ?_ _|refine Zr ?_|refine Zn ?_ _));refine ZL (cs:=#[.int .i64 0,.int .i64 0]) ?_ 0 _ rfl;(with_reducible repeat(first|refine Zo ?_ _|refine Zr ?_|refine Zn ?_ _));exact BK80001.out) Try.underlying35 rfl (by kernel_rfl)) rfl ?_
    exact⟨by first|rfl|(simp[ZC,ZB] <;> rfl)|(simp[*,ZC,ZB] <;> rfl),by repeat(first|(with_reducible first|exact HI0.out|apply Zt.alloc|apply Zt.drewN|apply Zt.drew|apply Zt.set_1|apply Zt.set_2|refine Zt.far ?_ NB0_80001.out _|refine Zt.far ?_ NB0_80006.out _)|exact HI0.out),by repeat(first|(with_reducible first|exact HB.out|apply Zq|apply Zm|apply Zs|refine Zp ?_ (Zt.ge HI0.out)|refine Zp ?_ GE80001.out|refine Zp ?_ GE80006.out)|exact HB.out),by repeat(first|(with_reducible first|exact HK.out|apply Zz.set_|apply ZI|apply ZN|apply ZJ|refine ZT ?_ GW80001.out _|refine ZT ?_ GW80006.out _)|exact HK.out)⟩
mutual
def ZO.l0:Nat→Int→List Int→Int→Int→Int→List (S84)→Option (Int×(List (S84))×Int×Int)
 | 0,_,_,_,_,_,_=>none
 | k+1,x4,x1000,x1001,x1002,x42006000,x42006001=>if x4<x42006000 then((ZW.f x1000 x1001 x1002 5).bind fun bt42006=>((ZW.f x1000 bt42006.2.1 bt42006.2.2 x4).bind fun bt42009=>((ZW.f x1000 bt42009.2.1 bt42009.2.2 6).bind fun bt42012=>(if x42006001.length<4398046511104 then(ZO.l0 k (wrap64 (x4+1)) x1000 bt42012.2.1 bt42012.2.2 x42006000 (x42006001 ++ [(⟨bt42009.1,x4,(⟨bt42006.1,wrap64 (bt42006.1+bt42012.1)⟩:S35)⟩:S84)])) else(none))))) else((ZW.f x1000 x1001 x1002 4).bind fun bt42018=>(ZO.l1 k bt42018.1 x1000 bt42018.2.1 bt42018.2.2 x42006000 x42006001))
def ZO.l1:Nat→Int→List Int→Int→Int→Int→List (S84)→Option (Int×(List (S84))×Int×Int)
 | 0,_,_,_,_,_,_=>none
 | k+1,x6,x1000,x1001,x1002,x42006000,x42006001=>if x6 > 0 then((ZW.f x1000 x1001 x1002 x42006000).bind fun bt42021=>((ZW.f x1000 bt42021.2.1 bt42021.2.2 x42006000).bind fun bt42024=>((Za2.f x1000 bt42024.2.1 bt42024.2.2).bind fun bt42027=>(if x42006001.length<4398046511104 then(ZO.l1 k (wrap64 (x6 - 1)) x1000 bt42027.2.2.1 bt42027.2.2.2 x42006000 (x42006001 ++ [(⟨bt42021.1,bt42024.1,(⟨bt42027.1,bt42027.2.1⟩:S35)⟩:S84)])) else(none))))) else(some (x42006000,x42006001,x1001,x1002))
end
def ZO.f (k:Nat) (s0_0:List Int) (s0_1:Int) (s0_2:Int):Option (Int×(List (S84))×Int×Int):=(ZW.f s0_0 s0_1 s0_2 4).bind fun bt42002=>(ZO.l0 k 1 s0_0 bt42002.2.1 bt42002.2.2 (wrap64 (2+bt42002.1)) ([]:List (S84)))
def ZO.T6:Bool×List (List Nat×List Nat):=(true,[([],[]),([0],[0]),([],[]),([],[]),([2,3],[2,3]),([],[]),([],[]),([],[]),([],[]),([8,4],[8]),([7,9],[7,9]),([6,10],[6,10]),([4,5,11],[4,5,11]),([12],[12]),([1,13,9],[1,13]),([0,1,2,3,4,5,6,7,8,9,10,11,12,13,14],[]),([15,14,14,0,1,2,3,4,5,6,7,8,9,10,11,12,13,14],[14,15])])
def ZO.B6:List Nat:=[0,1,0,0,12,0,0,0,0,284,924,2012,4092,8188,16383,32767,65535]
theorem ZO.tab6:rtab .any (opsOf Try.f42 6)=ZO.T6:=by kernel_rfl
theorem ZO.bits6:Zbi ZO.T6.2 ZO.B6=true:=by kernel_rfl
def ZO.T10:Bool×List (List Nat×List Nat):=(true,[([],[]),([0],[0]),([],[]),([],[]),([3],[3]),([2,4],[2,4]),([],[]),([],[]),([7],[7]),([6,8,5],[6,8]),([],[]),([10,9],[10]),([5,9,11],[5,9,11]),([12],[12]),([1,13,11],[1,13]),([0,1,2,3,4,5,6,7,8,9,10,11,12,13,14],[]),([15,14,14,0,1,2,3,4,5,6,7,8,9,10,11,12,13,14],[14,15])])
def ZO.B10:List Nat:=[0,1,0,0,8,28,0,0,128,508,0,2044,4092,8188,16383,32767,65535]
theorem ZO.tab10:rtab .any (opsOf Try.f42 10)=ZO.T10:=by kernel_rfl
theorem ZO.bits10:Zbi ZO.T10.2 ZO.B10=true:=by kernel_rfl
set_option maxHeartbeats 8000000 in
set_option maxRecDepth 100000 in
theorem ZO.calls (k:Nat) (g:Nat) (s0_0:List Int) (s0_1:Int) (s0_2:Int) (r1:Int) (r2:List (S84)) (r3:Int) (r4:Int) (w0 w:World) (hI:Zt w0 w g s0_0 s0_1 s0_2) (hB:Below w0.heap.size w0 w) (h:ZO.f k s0_0 s0_1 s0_2=some (r1,r2,r3,r4)) :
  Calls Try.prog 42 #[.pointer (some ⟨g,0,none⟩)] w fun e w'=>∃v1_:Value,e=.returned (.agg #[.int .i64 r1,v1_])∧Kd.R k84 84 w' w.heap.size (fun _=>True) v1_ r2∧Zt w0 w' g s0_0 r3 r4∧Below w0.heap.size w0 w'∧Zz w w' g none:=by
 have hu31:=Try.underlying31
 have hu35:=Try.underlying35
 have hu84:=Try.underlying84
 have HI0:=Za hI
 have HK:=Za (Zz.refl w g none)
 have HL:=Za hB.size
 clear hI
 have HW0:=Za hB.size
 have HB:=Za hB;clear hB
 have H:((ZW.f s0_0 s0_1 s0_2 4).bind fun bt42002=>(ZO.l0 k 1 s0_0 bt42002.2.1 bt42002.2.2 (wrap64 (2+bt42002.1)) ([]:List (S84))))=some (r1,r2,r3,r4):=h
 clear h
 replace H:=Zh H
 obtain⟨⟨t42002,t42003,t42004⟩,A20,H⟩:=H
 replace H:(ZO.l0 k 1 s0_0 t42003 t42004 (wrap64 (2+t42002)) ([]:List (S84)))=some (r1,r2,r3,r4):=H
 have A2:=Za A20;clear A20
 have H':=Za H
 clear H
 go_enter Try.func42,Try.ntmps42
 go_wp2_with (first|((with_reducible refine ZM (N:=2) rfl ?_);refine ZK ?hg (N:=2) ?hd (cs:=#[.int .i64 0,.slice none 0 0]) (t:=31) ?hr ?_;(case hd=>rfl);(case hg=>rfl);(case hr=>first|(go_simp;done)|(go_simp;rfl));intro gb42001 hg w3 hbox hb;have BK42001:=Za (hbox);have GW42001:=Za ((by rw[hg];exact(Zar (w:=w) (g:=g) (row:=none) (by repeat(first|(with_reducible first|exact HK.out|apply Zz.set_|apply ZI|apply ZN|apply ZJ)|exact HK.out))):w.heap.size≤gb42001));have GE42001:=Za ((Nat.le_trans HW0.out (by rw[hg];exact(Zar (w:=w) (g:=g) (row:=none) (by repeat(first|(with_reducible first|exact HK.out|apply Zz.set_|apply ZI|apply ZN|apply ZJ)|exact HK.out))):w.heap.size≤gb42001):w0.heap.size≤gb42001));have NB0_42001:=Za ((by rw[hg];exact Nat.ne_of_lt (Zt.lt (show Zt w0 _ g s0_0 s0_1 s0_2 from by repeat(first|(with_reducible first|exact HI0.out|apply Zt.alloc|apply Zt.drewN|apply Zt.drew|apply Zt.set_1|apply Zt.set_2)|exact HI0.out))):g≠gb42001));have NB42001_0:=Za ((by rw[hg];exact Nat.ne_of_gt (Zt.lt (show Zt w0 _ g s0_0 s0_1 s0_2 from by repeat(first|(with_reducible first|exact HI0.out|apply Zt.alloc|apply Zt.drewN|apply Zt.drew|apply Zt.set_1|apply Zt.set_2)|exact HI0.out))):gb42001≠g));replace HK:=Za (Zz.trans (by repeat(first|(with_reducible first|exact HK.out|apply Zz.set_|apply ZI|apply ZN|apply ZJ)|exact HK.out)) (Zz.of_below hb g none) (.inl rfl));replace HB:=Za (Zx (by repeat(first|(with_reducible first|exact HB.out|apply Zq|apply Zm|apply Zs|refine Zp ?_ (Zt.ge HI0.out))|exact HB.out)) hb);replace HI0:=Za (Zt.below (by repeat(first|(with_reducible first|exact HI0.out|apply Zt.alloc|apply Zt.drewN|apply Zt.drew|apply Zt.set_1|apply Zt.set_2)|exact HI0.out)) hb);clear hb hbox hg)|((with_reducible refine ZF (f:=55) rfl ?_);refine ZY (some 8) rfl rfl Try.func55 (by kernel_rfl) rfl #[.pointer (some ⟨g,0,none⟩),.int .i64 4] rfl (by(try simp only[List.map_toArray,List.map_cons,List.map_nil]);first|done|rfl|(simp only[Zk,Zj];rfl)) ?_;(with_reducible refine(ZW.calls g s0_0 s0_1 s0_2 4 t42002 t42003 t42004 w0 _ ?side1 ?side2 A2.out).mono ?_);(case side1=>repeat(first|(with_reducible first|exact HI0.out|apply Zt.alloc|apply Zt.drewN|apply Zt.drew|apply Zt.set_1|apply Zt.set_2|refine Zt.far ?_ NB0_42001.out _)|exact HI0.out));(case side2=>repeat(first|(with_reducible first|exact HB.out|apply Zq|apply Zm|apply Zs|refine Zp ?_ (Zt.ge HI0.out)|refine Zp ?_ GE42001.out)|exact HB.out));rintro e w4 ⟨rfl,hi,hb,hk⟩;refine⟨_,rfl,?_⟩;replace BK42001:=Za (Zz.blk hk (g':=gb42001) (o:=.cells #[.int .i64 0,.slice none 0 0] 31 (0,0)) (by(with_reducible repeat(first|refine Zo ?_ _|refine Zr ?_|refine Zn ?_ _));exact BK42001.out) NB42001_0.out (by simp));replace HK:=Za (Zz.trans (by repeat(first|(with_reducible first|exact HK.out|apply Zz.set_|apply ZI|apply ZN|apply ZJ|refine ZT ?_ GW42001.out _)|exact HK.out)) hk (.inl rfl));replace HB:=Za (hb);replace HI0:=Za (hi);(try clear hb);(try clear hb2);(try clear hk);(try clear hi))|((with_reducible refine ZM (N:=3) rfl ?_);refine ZK ?hg (N:=3) ?hd (cs:=#[.int .i64 0,.slice none 0 0]) (t:=31) ?hr ?_;(case hd=>rfl);(case hg=>rfl);(case hr=>first|(go_simp;done)|(go_simp;rfl));intro gb42005 hg w5 hbox hb;have BK42005:=Za (hbox);have GW42005:=Za ((by rw[hg];exact(Zar (w:=w) (g:=g) (row:=none) (by repeat(first|(with_reducible first|exact HK.out|apply Zz.set_|apply ZI|apply ZN|apply ZJ|refine ZT ?_ GW42001.out _)|exact HK.out))):w.heap.size≤gb42005));have GE42005:=Za ((Nat.le_trans HW0.out (by rw[hg];exact(Zar (w:=w) (g:=g) (row:=none) (by repeat(first|(with_reducible first|exact HK.out|apply Zz.set_|apply ZI|apply ZN|apply ZJ|refine ZT ?_ GW42001.out _)|exact HK.out))):w.heap.size≤gb42005):w0.heap.size≤gb42005));have NB42001_42005:=Za ((by rw[hg];exact Nat.ne_of_lt (ZH (g:=gb42001) (o:=.cells #[.int .i64 0,.slice none 0 0] 31 (0,0)) (by(with_reducible repeat(first|refine Zo ?_ _|refine Zr ?_|refine Zn ?_ _));exact BK42001.out)):gb42001≠gb42005));have NB42005_42001:=Za ((by rw[hg];exact Nat.ne_of_gt (ZH (g:=gb42001) (o:=.cells #[.int .i64 0,.slice none 0 0] 31 (0,0)) (by(with_reducible repeat(first|refine Zo ?_ _|refine Zr ?_|refine Zn ?_ _));exact BK42001.out)):gb42005≠gb42001));have NB0_42005:=Za ((by rw[hg];exact Nat.ne_of_lt (Zt.lt (show Zt w0 _ g s0_0 t42003 t42004 from by repeat(first|(with_reducible first|exact HI0.out|apply Zt.alloc|apply Zt.drewN|apply Zt.drew|apply Zt.set_1|apply Zt.set_2|refine Zt.far ?_ NB0_42001.out _)|exact HI0.out))):g≠gb42005));have NB42005_0:=Za ((by rw[hg];exact Nat.ne_of_gt (Zt.lt (show Zt w0 _ g s0_0 t42003 t42004 from by repeat(first|(with_reducible first|exact HI0.out|apply Zt.alloc|apply Zt.drewN|apply Zt.drew|apply Zt.set_1|apply Zt.set_2|refine Zt.far ?_ NB0_42001.out _)|exact HI0.out))):gb42005≠g));replace BK42001:=Za (Zy (g:=gb42001) (o:=.cells #[.int .i64 0,.slice none 0 0] 31 (0,0)) (by(with_reducible repeat(first|refine Zo ?_ _|refine Zr ?_|refine Zn ?_ _));exact BK42001.out) hb);replace HK:=Za (Zz.trans (by repeat(first|(with_reducible first|exact HK.out|apply Zz.set_|apply ZI|apply ZN|apply ZJ|refine ZT ?_ GW42001.out _)|exact HK.out)) (Zz.of_below hb g none) (.inl rfl));replace HB:=Za (Zx (by repeat(first|(with_reducible first|exact HB.out|apply Zq|apply Zm|apply Zs|refine Zp ?_ (Zt.ge HI0.out)|refine Zp ?_ GE42001.out)|exact HB.out)) hb);replace HI0:=Za (Zt.below (by repeat(first|(with_reducible first|exact HI0.out|apply Zt.alloc|apply Zt.drewN|apply Zt.drew|apply Zt.set_1|apply Zt.set_2|refine Zt.far ?_ NB0_42001.out _)|exact HI0.out)) hb);clear hb hbox hg;have hnb6:=NB42005_42001.out;have hnc6:=NB42001_42005.out;have hnb7:=NB42005_0.out;have hnc7:=NB0_42005.out;have hcz8_0:w5.cell? ⟨gb42005,0,none⟩=some (.int .i64 0):=(Zv BK42005.out 0).trans rfl;have hcz8_1:w5.cell? ⟨gb42005,1,none⟩=some (.slice none 0 0):=(Zv BK42005.out 1).trans rfl;have hfz8_0:=Zu BK42005.out 0;have hfz8_1:=Zu BK42005.out 1))
 go_loopg [4] k (fun kq v4 w'=>∃(x4_1:Int) (x1001_1:Int) (x1002_1:Int) (x42006001_1:List (S84)) (u42006001:Value),v4=.int .i64 x4_1∧Aside0 (ZO.l0 kq x4_1 s0_0 x1001_1 x1002_1 (wrap64 (2+t42002)) x42006001_1=some (r1,r2,r3,r4))∧Aside0 (kq≤k)∧Aside0 (Kd.R k84 84 w' w.heap.size (fun _=>True) u42006001 x42006001_1)∧Aside0 (w'.heap[gb42001]? = some (.cells #[.int .i64 0,(.slice none 0 0)] 31 (0,0)))∧Aside0 (w'.heap[gb42005]? = some (.cells #[.int .i64 (wrap64 (2+t42002)),u42006001] 31 (0,0)))∧Aside0 (Zt w0 w' g s0_0 x1001_1 x1002_1)∧Aside0 (Zz w w' g none)∧Aside0 (Below w0.heap.size w0 w'))
 case atStart=>exact⟨(1),(t42003),(t42004),(([]:List (S84))),(.slice none 0 0),(by first|rfl|(simp;done)|(simp[*];done)),H',⟨Nat.le_refl _⟩,⟨by first|exact Kd.R_nil _ _ _ _ _|exact Kd.N_nil _ _ _ _ _|exact Kd.V_nil _ _ _ _ _|exact Kd.Q_nil _ _ _ _ _|exact Kd.S_nil _ _ _ _ _⟩,⟨by(with_reducible repeat(first|refine Zo ?_ _|refine Zr ?_|refine Zn ?_ _));refine ZD ?_ NB42001_42005.out _;(with_reducible repeat(first|refine Zo ?_ _|refine Zr ?_|refine Zn ?_ _));refine ZD ?_ NB42001_42005.out _;(with_reducible repeat(first|refine Zo ?_ _|refine Zr ?_|refine Zn ?_ _));exact BK42001.out⟩,⟨by(with_reducible repeat(first|refine Zo ?_ _|refine Zr ?_|refine Zn ?_ _));refine ZL (cs:=#[.int .i64 (wrap64 (2+t42002)),.slice none 0 0]) ?_ 1 _ rfl;(with_reducible repeat(first|refine Zo ?_ _|refine Zr ?_|refine Zn ?_ _));refine ZL (cs:=#[.int .i64 0,.slice none 0 0]) ?_ 0 _ rfl;(with_reducible repeat(first|refine Zo ?_ _|refine Zr ?_|refine Zn ?_ _));exact BK42005.out⟩,⟨by repeat(first|(with_reducible first|exact HI0.out|apply Zt.alloc|apply Zt.drewN|apply Zt.drew|apply Zt.set_1|apply Zt.set_2|refine Zt.far ?_ NB0_42001.out _|refine Zt.far ?_ NB0_42005.out _)|exact HI0.out)⟩,⟨by repeat(first|(with_reducible first|exact HK.out|apply Zz.set_|apply ZI|apply ZN|apply ZJ|refine ZT ?_ GW42001.out _|refine ZT ?_ GW42005.out _)|exact HK.out)⟩,⟨by repeat(first|(with_reducible first|exact HB.out|apply Zq|apply Zm|apply Zs|refine Zp ?_ (Zt.ge HI0.out)|refine Zp ?_ GE42001.out|refine Zp ?_ GE42005.out)|exact HB.out)⟩⟩
 case round=>
  clear H'
  try clear p2
  try clear c4
  try clear c5
  try clear c6
  try clear p6
  try clear c7
  try clear hcz8_0
  try clear hcz8_1
  try clear hfz8_0
  try clear hfz8_1
  obtain⟨x4_1,x1001_1,x1002_1,x42006001_1,u42006001,rfl,HA,HK1,HO_42006001,BK42001,BK42005,HI0,HK,HB⟩:=hrel
  cases gk with
  | zero=>exact absurd HA.out (by simp[ZO.l0])
  | succ k1=>
   have H:=HA.out
   clear HA
   simp only[ZO.l0] at H
   by_cases c9:x4_1<(wrap64 (2+t42002))
   ·rw[if_pos c9] at H
    have c9b0:decide (x4_1<(wrap64 (2+t42002)))=true:=Ze c9
    clear c9
    replace H:=Zh H
    obtain⟨⟨t42006,t42007,t42008⟩,A100,H⟩:=H
    replace H:((ZW.f s0_0 t42007 t42008 x4_1).bind fun bt42009=>((ZW.f s0_0 bt42009.2.1 bt42009.2.2 6).bind fun bt42012=>(if x42006001_1.length<4398046511104 then(ZO.l0 k1 (wrap64 (x4_1+1)) s0_0 bt42012.2.1 bt42012.2.2 (wrap64 (2+t42002)) (x42006001_1 ++ [(⟨bt42009.1,x4_1,(⟨t42006,wrap64 (t42006+bt42012.1)⟩:S35)⟩:S84)])) else(none))))=some (r1,r2,r3,r4):=H
    have A10:=Za A100;clear A100
    replace H:=Zh H
    obtain⟨⟨t42009,t42010,t42011⟩,A110,H⟩:=H
    replace H:((ZW.f s0_0 t42010 t42011 6).bind fun bt42012=>(if x42006001_1.length<4398046511104 then(ZO.l0 k1 (wrap64 (x4_1+1)) s0_0 bt42012.2.1 bt42012.2.2 (wrap64 (2+t42002)) (x42006001_1 ++ [(⟨t42009,x4_1,(⟨t42006,wrap64 (t42006+bt42012.1)⟩:S35)⟩:S84)])) else(none)))=some (r1,r2,r3,r4):=H
    have A11:=Za A110;clear A110
    replace H:=Zh H
    obtain⟨⟨t42012,t42013,t42014⟩,A120,H⟩:=H
    replace H:(if x42006001_1.length<4398046511104 then(ZO.l0 k1 (wrap64 (x4_1+1)) s0_0 t42013 t42014 (wrap64 (2+t42002)) (x42006001_1 ++ [(⟨t42009,x4_1,(⟨t42006,wrap64 (t42006+t42012)⟩:S35)⟩:S84)])) else(none))=some (r1,r2,r3,r4):=H
    have A12:=Za A120;clear A120
    by_cases c13:x42006001_1.length<4398046511104
    ·rw[if_pos c13] at H
     have LMc13:=Za c13;clear c13
     obtain⟨y42015,hy42015⟩:∃y_:List (S84),y_=(x42006001_1 ++ [(⟨t42009,x4_1,(⟨t42006,wrap64 (t42006+t42012)⟩:S35)⟩:S84)]):=⟨_,rfl⟩
     replace H:(ZO.l0 k1 (wrap64 (x4_1+1)) s0_0 t42013 t42014 (wrap64 (2+t42002)) y42015)=some (r1,r2,r3,r4):=by first|(rw[hy42015];with_reducible exact H)|(have H2_:=(Zi _ _).symm.trans H;rw[hy42015];with_reducible exact H2_)|(have H2_:=(Zi _ _).symm.trans H;with_reducible exact H2_)|with_reducible exact H|(rw[hy42015];exact H)|exact H
     have Ny42015:=Za hy42015;clear hy42015
     have H':=Za H
     clear H
     have hnb14:=NB42005_42001.out
     have hnc14:=NB42001_42005.out
     have hnb15:=NB42005_0.out
     have hnc15:=NB0_42005.out
     have hcz16_0:wr.cell? ⟨gb42005,0,none⟩=some (.int .i64 (wrap64 (2+t42002))):=(Zv BK42005.out 0).trans rfl
     have hcz16_1:wr.cell? ⟨gb42005,1,none⟩=some (u42006001):=(Zv BK42005.out 1).trans rfl
     have hfz16_0:=Zu BK42005.out 0
     have hfz16_1:=Zu BK42005.out 1
     try go_wp2_with (first|((with_reducible refine ZF (f:=55) rfl ?_);refine ZY (some 18) rfl rfl Try.func55 (by kernel_rfl) rfl #[.pointer (some ⟨g,0,none⟩),.int .i64 5] rfl (by(try simp only[List.map_toArray,List.map_cons,List.map_nil]);first|done|rfl|(simp only[Zk,Zj];rfl)) ?_;(with_reducible refine(ZW.calls g s0_0 x1001_1 x1002_1 5 t42006 t42007 t42008 w0 _ ?side1 ?side2 A10.out).mono ?_);(case side1=>repeat(first|(with_reducible first|exact HI0.out|apply Zt.alloc|apply Zt.drewN|apply Zt.drew|apply Zt.set_1|apply Zt.set_2|refine Zt.far ?_ NB0_42001.out _|refine Zt.far ?_ NB0_42005.out _)|exact HI0.out));(case side2=>repeat(first|(with_reducible first|exact HB.out|apply Zq|apply Zm|apply Zs|refine Zp ?_ (Zt.ge HI0.out)|refine Zp ?_ GE42001.out|refine Zp ?_ GE42005.out)|exact HB.out));rintro e w17 ⟨rfl,hi,hb,hk⟩;refine⟨_,rfl,?_⟩;replace HO_42006001:=Za (Kd.R_mono (Kd.R_keep (Zt.apart (show Zt w0 _ g s0_0 x1001_1 x1002_1 from by repeat(first|(with_reducible first|exact HI0.out|apply Zt.alloc|apply Zt.drewN|apply Zt.drew|apply Zt.set_1|apply Zt.set_2|refine Zt.far ?_ NB0_42001.out _|refine Zt.far ?_ NB0_42005.out _)|exact HI0.out)) (by(with_reducible repeat(first|apply Kd.R_alloc|apply Kd.R_drewN|apply Kd.R_drew));exact HO_42006001.out) (by decide)) hk (fun _ h=>h.2)) (fun _ h=>h.1));replace BK42001:=Za (Zz.blk hk (g':=gb42001) (o:=.cells #[.int .i64 0,.slice none 0 0] 31 (0,0)) (by(with_reducible repeat(first|refine Zo ?_ _|refine Zr ?_|refine Zn ?_ _));exact BK42001.out) NB42001_0.out (by simp));replace BK42005:=Za (Zz.blk hk (g':=gb42005) (o:=.cells #[.int .i64 (wrap64 (2+t42002)),u42006001] 31 (0,0)) (by(with_reducible repeat(first|refine Zo ?_ _|refine Zr ?_|refine Zn ?_ _));exact BK42005.out) NB42005_0.out (by simp));replace HK:=Za (Zz.trans (by repeat(first|(with_reducible first|exact HK.out|apply Zz.set_|apply ZI|apply ZN|apply ZJ|refine ZT ?_ GW42001.out _|refine ZT ?_ GW42005.out _)|exact HK.out)) hk (.inl rfl));replace HB:=Za (hb);replace HI0:=Za (hi);(try clear hb);(try clear hb2);(try clear hk);(try clear hi)))
     replace HO_42006001:=Za (Kd.R_drew HO_42006001.out);replace BK42001:=Za (Zr BK42001.out);replace BK42005:=Za (Zr BK42005.out);replace HI0:=Za (Zt.drew HI0.out);replace HK:=Za (ZN HK.out);replace HB:=Za (Zs HB.out)
     refine ZbL (n:=17) (S:=fun w'=>w'.cell? ⟨gb42005,0,none⟩=some (.int .i64 (wrap64 (2+t42002)))∧w'.cell? ⟨gb42005,1,none⟩=some (u42006001)) (ds:=[16]) #[false,false,false,false,false,false,false,false,false,false,false,false,false,false,false,false,false] (by kernel_rfl) rfl rfl ⟨(Zv BK42005.out 0).trans rfl,(Zv BK42005.out 1).trans rfl⟩ (fun hHeld=>?_);refine Zby ZO.tab6 ZO.bits6 (fun HT_ HW_=>?_)
     generalize w17.drew=w18 at HO_42006001 BK42001 BK42005 HI0 HK HB hHeld ⊢
     refine Z7 (i:=0) (N:=some 19) (v:=?_) (a':=?_) #[true,false,false,false,false,false,false,false,false,false,false,false,false,false,false,false,false] rfl rfl (Z6 HT_.out (by kernel_rfl)) (fun _ _ _ h=>h) (Or.inl ⟨by rfl,?_⟩) ?_ ?_
     rotate_left
     ·intro w'
      go_simp
      with_reducible rfl
     rotate_left
     ·simp only[Act.put,List.setIfInBounds_toArray,List.set_cons_zero,List.set_cons_succ,ZQ,ZR]
      rfl
     refine Z7 (i:=2) (N:=some 21) (v:=?_) (a':=?_) #[true,false,true,false,false,false,false,false,false,false,false,false,false,false,false,false,false] rfl rfl (Z6 HT_.out (by kernel_rfl)) (fun _ _ _ h=>h) (Or.inl ⟨by rfl,?_⟩) ?_ ?_
     rotate_left
     ·intro w'
      go_simp
      with_reducible rfl
     rotate_left
     ·simp only[Act.put,List.setIfInBounds_toArray,List.set_cons_zero,List.set_cons_succ,ZQ,ZR]
      rfl
     refine Z7 (i:=3) (N:=some 22) (v:=?_) (a':=?_) #[true,false,true,true,false,false,false,false,false,false,false,false,false,false,false,false,false] rfl rfl (Z6 HT_.out (by kernel_rfl)) (fun _ _ _ h=>h) (Or.inl ⟨by rfl,?_⟩) ?_ ?_
     rotate_left
     ·intro w'
      go_simp
      with_reducible rfl
     rotate_left
     ·simp only[Act.put,List.setIfInBounds_toArray,List.set_cons_zero,List.set_cons_succ,ZQ,ZR]
      rfl
     refine Z7 (i:=5) (N:=some 24) (v:=?_) (a':=?_) #[true,false,true,true,false,true,false,false,false,false,false,false,false,false,false,false,false] rfl rfl (Z6 HT_.out (by kernel_rfl)) (fun _ _ _ h=>h) (Or.inl ⟨by rfl,?_⟩) ?_ ?_
     rotate_left
     ·intro w'
      go_simp
      with_reducible rfl
     rotate_left
     ·simp only[Act.put,List.setIfInBounds_toArray,List.set_cons_zero,List.set_cons_succ,ZQ,ZR]
      rfl
     refine Z7 (i:=6) (N:=some 25) (v:=?_) (a':=?_) #[true,false,true,true,false,true,true,false,false,false,false,false,false,false,false,false,false] rfl rfl (Z6 HT_.out (by kernel_rfl)) (fun _ _ _ h=>h) (Or.inl ⟨by rfl,?_⟩) ?_ ?_
     rotate_left
     ·intro w'
      go_simp
      with_reducible rfl
     rotate_left
     ·simp only[Act.put,List.setIfInBounds_toArray,List.set_cons_zero,List.set_cons_succ,ZQ,ZR]
      rfl
     refine Z7 (i:=7) (N:=some 26) (v:=?_) (a':=?_) #[true,false,true,true,false,true,true,true,false,false,false,false,false,false,false,false,false] rfl rfl (Z6 HT_.out (by kernel_rfl)) (fun _ _ _ h=>h) (Or.inl ⟨by rfl,?_⟩) ?_ ?_
     rotate_left
     ·intro w'
      go_simp
      with_reducible rfl
     rotate_left
     ·simp only[Act.put,List.setIfInBounds_toArray,List.set_cons_zero,List.set_cons_succ,ZQ,ZR]
      rfl
     refine Z7 (i:=8) (N:=some 27) (v:=?_) (a':=?_) #[true,false,true,true,false,true,true,true,true,false,false,false,false,false,false,false,false] rfl rfl (Z6 HT_.out (by kernel_rfl)) (fun _ _ _ h=>h) (Or.inl ⟨by rfl,?_⟩) ?_ ?_
     rotate_left
     ·intro w'
      go_simp
      with_reducible rfl
     rotate_left
     ·simp only[Act.put,List.setIfInBounds_toArray,List.set_cons_zero,List.set_cons_succ,ZQ,ZR]
      rfl
     refine take_ (i:=1) (N:=some 20) (v:=?_) (a':=?_) #[true,true,true,true,false,true,true,true,true,false,false,false,false,false,false,false,false] rfl rfl (ZaU HT_.out HW_.out (by kernel_rfl)) (fun _ _ _ h=>h) (Or.inl ⟨by rfl,?_⟩) hHeld ?_ ?_
     rotate_left
     ·rintro w' ⟨s0,s1⟩
      go_simp
      with_reducible rfl
     rotate_left
     ·simp only[Act.put,List.setIfInBounds_toArray,List.set_cons_zero,List.set_cons_succ,ZQ,ZR]
      rfl
     refine one_ (i:=4) (N:=some 23) #[true,true,true,true,true,true,true,true,true,false,false,false,false,false,false,false,false] rfl rfl (ZaI HT_.out (by kernel_rfl)) (by decide) (fun K hK=>?_)
     refine Zbh Try.func55 (by kernel_rfl) rfl #[.pointer (some ⟨g,0,none⟩),.int .i64 x4_1] (by rfl) rfl rfl (by(try simp only[List.map_toArray,List.map_cons,List.map_nil]);first|done|rfl|(simp only[Zk,Zj];rfl)) ?_
     with_reducible refine(ZW.calls g s0_0 t42007 t42008 x4_1 t42009 t42010 t42011 w0 _ ?side1 ?side2 A11.out).mono ?_
     (case side1=>repeat(first|(with_reducible first|exact HI0.out|apply Zt.alloc|apply Zt.drewN|apply Zt.drew|apply Zt.set_1|apply Zt.set_2|refine Zt.far ?_ NB0_42001.out _|refine Zt.far ?_ NB0_42005.out _)|exact HI0.out))
     (case side2=>repeat(first|(with_reducible first|exact HB.out|apply Zq|apply Zm|apply Zs|refine Zp ?_ (Zt.ge HI0.out)|refine Zp ?_ GE42001.out|refine Zp ?_ GE42005.out)|exact HB.out))
     rintro e w19 ⟨rfl,hi,hb,hk⟩
     refine⟨_,rfl,?_⟩
     replace HO_42006001:=Za (Kd.R_mono (Kd.R_keep (Zt.apart (show Zt w0 _ g s0_0 t42007 t42008 from by repeat(first|(with_reducible first|exact HI0.out|apply Zt.alloc|apply Zt.drewN|apply Zt.drew|apply Zt.set_1|apply Zt.set_2|refine Zt.far ?_ NB0_42001.out _|refine Zt.far ?_ NB0_42005.out _)|exact HI0.out)) (by(with_reducible repeat(first|apply Kd.R_alloc|apply Kd.R_drewN|apply Kd.R_drew));exact HO_42006001.out) (by decide)) hk (fun _ h=>h.2)) (fun _ h=>h.1));replace BK42001:=Za (Zz.blk hk (g':=gb42001) (o:=.cells #[.int .i64 0,.slice none 0 0] 31 (0,0)) (by(with_reducible repeat(first|refine Zo ?_ _|refine Zr ?_|refine Zn ?_ _));exact BK42001.out) NB42001_0.out (by simp));replace BK42005:=Za (Zz.blk hk (g':=gb42005) (o:=.cells #[.int .i64 (wrap64 (2+t42002)),u42006001] 31 (0,0)) (by(with_reducible repeat(first|refine Zo ?_ _|refine Zr ?_|refine Zn ?_ _));exact BK42005.out) NB42005_0.out (by simp));replace HK:=Za (Zz.trans (by repeat(first|(with_reducible first|exact HK.out|apply Zz.set_|apply ZI|apply ZN|apply ZJ|refine ZT ?_ GW42001.out _|refine ZT ?_ GW42005.out _)|exact HK.out)) hk (.inl rfl));replace HB:=Za (hb);replace HI0:=Za (hi)
     (try clear hb)
     (try clear hb2)
     (try clear hk)
     (try clear hi)
     refine hK.out _ _ ⟨(Zv BK42005.out 0).trans rfl,(Zv BK42005.out 1).trans rfl⟩ (fun hHeld=>?_)
     clear hK K
     refine Zau (a':=?_) ?_ ?_
     rotate_left
     ·show Act.put _ (some 23) _=_
      simp only[Act.put,List.setIfInBounds_toArray,List.set_cons_zero,List.set_cons_succ,ZQ,ZR]
      rfl
     refine one_ (i:=9) (N:=some 28) #[true,true,true,true,true,true,true,true,true,true,false,false,false,false,false,false,false] rfl rfl (ZaI HT_.out (by kernel_rfl)) (by decide) (fun K hK=>?_)
     refine Zbh Try.func55 (by kernel_rfl) rfl #[.pointer (some ⟨g,0,none⟩),.int .i64 6] (by rfl) rfl rfl (by(try simp only[List.map_toArray,List.map_cons,List.map_nil]);first|done|rfl|(simp only[Zk,Zj];rfl)) ?_
     with_reducible refine(ZW.calls g s0_0 t42010 t42011 6 t42012 t42013 t42014 w0 _ ?side1 ?side2 A12.out).mono ?_
     (case side1=>repeat(first|(with_reducible first|exact HI0.out|apply Zt.alloc|apply Zt.drewN|apply Zt.drew|apply Zt.set_1|apply Zt.set_2|refine Zt.far ?_ NB0_42001.out _|refine Zt.far ?_ NB0_42005.out _)|exact HI0.out))
     (case side2=>repeat(first|(with_reducible first|exact HB.out|apply Zq|apply Zm|apply Zs|refine Zp ?_ (Zt.ge HI0.out)|refine Zp ?_ GE42001.out|refine Zp ?_ GE42005.out)|exact HB.out))
     rintro e w20 ⟨rfl,hi,hb,hk⟩
     refine⟨_,rfl,?_⟩
     replace HO_42006001:=Za (Kd.R_mono (Kd.R_keep (Zt.apart (show Zt w0 _ g s0_0 t42010 t42011 from by repeat(first|(with_reducible first|exact HI0.out|apply Zt.alloc|apply Zt.drewN|apply Zt.drew|apply Zt.set_1|apply Zt.set_2|refine Zt.far ?_ NB0_42001.out _|refine Zt.far ?_ NB0_42005.out _)|exact HI0.out)) (by(with_reducible repeat(first|apply Kd.R_alloc|apply Kd.R_drewN|apply Kd.R_drew));exact HO_42006001.out) (by decide)) hk (fun _ h=>h.2)) (fun _ h=>h.1));replace BK42001:=Za (Zz.blk hk (g':=gb42001) (o:=.cells #[.int .i64 0,.slice none 0 0] 31 (0,0)) (by(with_reducible repeat(first|refine Zo ?_ _|refine Zr ?_|refine Zn ?_ _));exact BK42001.out) NB42001_0.out (by simp));replace BK42005:=Za (Zz.blk hk (g':=gb42005) (o:=.cells #[.int .i64 (wrap64 (2+t42002)),u42006001] 31 (0,0)) (by(with_reducible repeat(first|refine Zo ?_ _|refine Zr ?_|refine Zn ?_ _));exact BK42005.out) NB42005_0.out (by simp));replace HK:=Za (Zz.trans (by repeat(first|(with_reducible first|exact HK.out|apply Zz.set_|apply ZI|apply ZN|apply ZJ|refine ZT ?_ GW42001.out _|refine ZT ?_ GW42005.out _)|exact HK.out)) hk (.inl rfl));replace HB:=Za (hb);replace HI0:=Za (hi)
     (try clear hb)
     (try clear hb2)
     (try clear hk)
     (try clear hi)
     refine hK.out _ _ ⟨(Zv BK42005.out 0).trans rfl,(Zv BK42005.out 1).trans rfl⟩ (fun hHeld=>?_)
     clear hK K
     refine Zau (a':=?_) ?_ ?_
     rotate_left
     ·show Act.put _ (some 28) _=_
      simp only[Act.put,List.setIfInBounds_toArray,List.set_cons_zero,List.set_cons_succ,ZQ,ZR]
      rfl
     refine Z7 (i:=10) (N:=some 29) (v:=?_) (a':=?_) #[true,true,true,true,true,true,true,true,true,true,true,false,false,false,false,false,false] rfl rfl (Z6 HT_.out (by kernel_rfl)) (fun _ _ _ h=>h) (Or.inl ⟨by rfl,?_⟩) ?_ ?_
     rotate_left
     ·intro w'
      go_simp
      with_reducible rfl
     rotate_left
     ·simp only[Act.put,List.setIfInBounds_toArray,List.set_cons_zero,List.set_cons_succ,ZQ,ZR]
      rfl
     refine Z7 (i:=11) (N:=some 30) (v:=?_) (a':=?_) #[true,true,true,true,true,true,true,true,true,true,true,true,false,false,false,false,false] rfl rfl (Z6 HT_.out (by kernel_rfl)) (fun _ _ _ h=>h) (Or.inl ⟨by rfl,?_⟩) ?_ ?_
     rotate_left
     ·intro w'
      go_simp
      with_reducible rfl
     rotate_left
     ·simp only[Act.put,List.setIfInBounds_toArray,List.set_cons_zero,List.set_cons_succ,ZQ,ZR]
      rfl
     refine Z7 (i:=12) (N:=some 31) (v:=?_) (a':=?_) #[true,true,true,true,true,true,true,true,true,true,true,true,true,false,false,false,false] rfl rfl (Z6 HT_.out (by kernel_rfl)) (fun _ _ _ h=>h) (Or.inl ⟨by rfl,?_⟩) ?_ ?_
     rotate_left
     ·intro w'
      go_simp
      with_reducible rfl
     rotate_left
     ·simp only[Act.put,List.setIfInBounds_toArray,List.set_cons_zero,List.set_cons_succ,ZQ,ZR]
      rfl
     refine one_ (i:=13) (N:=some 32) #[true,true,true,true,true,true,true,true,true,true,true,true,true,true,false,false,false] rfl rfl (ZaI HT_.out (by kernel_rfl)) (by decide) (fun K hK=>?_)
     refine value_ (w1:=?_) (v:=?_) (by rfl) rfl ?_ ?_
     rotate_left 2
     ·go_simp
      constructor
      ·rfl
      ·rfl
     refine hK.out _ _ ⟨(Zv (Zn BK42005.out _) 0).trans rfl,(Zv (Zn BK42005.out _) 1).trans rfl⟩ (fun hHeld=>?_)
     clear hK K
     refine Zau (a':=?_) ?_ ?_
     rotate_left
     ·show Act.put _ (some 32) _=_
      simp only[Act.put,List.setIfInBounds_toArray,List.set_cons_zero,List.set_cons_succ,ZQ,ZR]
      rfl
     refine one_ (i:=14) (N:=some 33) #[true,true,true,true,true,true,true,true,true,true,true,true,true,true,true,false,false] rfl rfl (ZaI HT_.out (by kernel_rfl)) (by decide) (fun K hK=>?_)
     refine Kd.R_append_step k84 w.heap.size (by rfl) (.tmp 20) (.tmp 32) 29 84 (.agg #[(.int .i64 0),(.int .i64 0),(.int .i64 0),(.int .i64 0)]) 32 rfl Try.underlying29 info84 rfl (by decide) (by omega) u42006001 x42006001_1 (⟨t42009,x4_1,(⟨t42006,wrap64 (t42006+t42012)⟩:S35)⟩:S84) [.int .i64 t42009,.int .i64 x4_1,.int .i64 t42006,.int .i64 (wrap64 (t42006+t42012))] (fun _=>True) (fun _=>False) rfl rfl ?aP (fun _ hk=>hk.elim) ?aF ?aO (Below.refl _ _) ?aS ?aL ?_
     (case aP=>exact k84_mkM _ _ _ (⟨t42009,x4_1,(⟨t42006,wrap64 (t42006+t42012)⟩:S35)⟩:S84))
     (case aF=>exact(fun _ _=>trivial))
     (case aO=>exact(by(with_reducible repeat(first|apply Kd.R_alloc|apply Kd.R_drewN|apply Kd.R_drew));exact HO_42006001.out))
     (case aS=>exact(Zar (w:=w) (g:=g) (row:=none) (by repeat(first|(with_reducible first|exact HK.out|apply Zz.set_|apply ZI|apply ZN|apply ZJ|refine ZT ?_ GW42001.out _|refine ZT ?_ GW42005.out _)|exact HK.out))))
     (case aL=>have:=LMc13.out;omega)
     intro v42016 w21 ho hb hg hat
     rw[← Ny42015.out] at ho
     have HO42017:=Za (ho);replace BK42001:=Za (Z0 (g:=gb42001) (o:=.cells #[.int .i64 0,.slice none 0 0] 31 (0,0)) (by(with_reducible repeat(first|refine Zo ?_ _|refine Zr ?_|refine Zn ?_ _));exact BK42001.out) hg (Kd.R_ne HO_42006001.out BK42001.out (by decide)));replace BK42005:=Za (Z0 (g:=gb42005) (o:=.cells #[.int .i64 (wrap64 (2+t42002)),u42006001] 31 (0,0)) (by(with_reducible repeat(first|refine Zo ?_ _|refine Zr ?_|refine Zn ?_ _));exact BK42005.out) hg (Kd.R_ne HO_42006001.out BK42005.out (by decide)));replace HB:=Za (ZcP (by repeat(first|(with_reducible first|exact HB.out|apply Zq|apply Zm|apply Zs|refine Zp ?_ (Zt.ge HI0.out)|refine Zp ?_ GE42001.out|refine Zp ?_ GE42005.out)|exact HB.out)) HL.out hb);replace HI0:=Za (Zt.grown (by repeat(first|(with_reducible first|exact HI0.out|apply Zt.alloc|apply Zt.drewN|apply Zt.drew|apply Zt.set_1|apply Zt.set_2|refine Zt.far ?_ NB0_42001.out _|refine Zt.far ?_ NB0_42005.out _)|exact HI0.out)) hg (Zt.own_ne HI0.out HO_42006001.out (by decide)));replace HK:=Za (Zz.trans (by repeat(first|(with_reducible first|exact HK.out|apply Zz.set_|apply ZI|apply ZN|apply ZJ|refine ZT ?_ GW42001.out _|refine ZT ?_ GW42005.out _)|exact HK.out)) (Zz.of_grown hg g) (Kd.R_base2 HO_42006001.out));clear HO_42006001 ho hb hg hat
     obtain⟨Ao22,co22,eo22⟩:=Kd.R_slice HO42017.out
     (first|subst eo22|(injection eo22 with f1_ f2_ f3_;have f4_:=f1_.symm;have f5_:=f3_.symm;clear f1_ f2_ f3_;subst f4_;subst f5_))
     refine hK.out _ _ ⟨(Zv BK42005.out 0).trans rfl,(Zv BK42005.out 1).trans rfl⟩ (fun hHeld=>?_)
     clear hK K
     refine Zau (a':=?_) ?_ ?_
     rotate_left
     ·show Act.put _ (some 33) _=_
      simp only[Act.put,List.setIfInBounds_toArray,List.set_cons_zero,List.set_cons_succ,ZQ,ZR]
      rfl
     refine Z7 (i:=15) (N:=some 34) (v:=?_) (a':=?_) #[true,true,true,true,true,true,true,true,true,true,true,true,true,true,true,true,false] rfl rfl (Z6 HT_.out (by kernel_rfl)) (fun _ _ _ h=>h) (Or.inl ⟨by rfl,?_⟩) ?_ ?_
     rotate_left
     ·intro w'
      go_simp
      with_reducible rfl
     rotate_left
     ·simp only[Act.put,List.setIfInBounds_toArray,List.set_cons_zero,List.set_cons_succ,ZQ,ZR]
      rfl
     refine last_ (i:=16) (N:=none) #[true,true,true,true,true,true,true,true,true,true,true,true,true,true,true,true,true] rfl rfl (ZaI HT_.out (by kernel_rfl)) (by decide) (fun K hK=>?_)
     have hs23:w21.cell? ⟨gb42005,1,none⟩=some (u42006001):=(Zv BK42005.out 1).trans rfl
     have hfs23:=Zu BK42005.out 1
     have hns23_0:=NB42001_42005.out
     have hms23_0:=NB42005_42001.out
     refine skip_ (w1:=?_) (by rfl) rfl ?_ ?_
     rotate_left
     ·go_simp
      rfl
     refine hK.out _ _ ?_
     clear hK K
     refine Zb5 (ZbT HT_.out (by kernel_rfl)) ?_
     try go_wp2
     go_roundg k1
     case measure=>have:=HK1.out;omega
     case rel=>exact⟨(wrap64 (x4_1+1)),(t42013),(t42014),(y42015),(.slice Ao22 y42015.length co22),(by first|rfl|(simp;done)|(simp[*];done)),H',⟨by have:=HK1.out;omega⟩,⟨by(with_reducible repeat(first|apply Kd.R_alloc|apply Kd.R_drewN|apply Kd.R_drew));exact Kd.R_mono (Kd.R_far (p:=⟨gb42005,1,none⟩) (Kd.R_types HO42017.out BK42005.out (by decide)) (fun _ hk=>hk.2) (.slice Ao22 y42015.length co22)) (fun _ hk=>trivial)⟩,⟨by(with_reducible repeat(first|refine Zo ?_ _|refine Zr ?_|refine Zn ?_ _));refine ZD ?_ NB42001_42005.out _;(with_reducible repeat(first|refine Zo ?_ _|refine Zr ?_|refine Zn ?_ _));exact BK42001.out⟩,⟨by(with_reducible repeat(first|refine Zo ?_ _|refine Zr ?_|refine Zn ?_ _));refine ZL (cs:=#[.int .i64 (wrap64 (2+t42002)),u42006001]) ?_ 1 _ rfl;(with_reducible repeat(first|refine Zo ?_ _|refine Zr ?_|refine Zn ?_ _));exact BK42005.out⟩,⟨by repeat(first|(with_reducible first|exact HI0.out|apply Zt.alloc|apply Zt.drewN|apply Zt.drew|apply Zt.set_1|apply Zt.set_2|refine Zt.far ?_ NB0_42001.out _|refine Zt.far ?_ NB0_42005.out _)|exact HI0.out)⟩,⟨by repeat(first|(with_reducible first|exact HK.out|apply Zz.set_|apply ZI|apply ZN|apply ZJ|refine ZT ?_ GW42001.out _|refine ZT ?_ GW42005.out _)|exact HK.out)⟩,⟨by repeat(first|(with_reducible first|exact HB.out|apply Zq|apply Zm|apply Zs|refine Zp ?_ (Zt.ge HI0.out)|refine Zp ?_ GE42001.out|refine Zp ?_ GE42005.out)|exact HB.out)⟩⟩
    ·rw[if_neg c13] at H
     exact absurd H (by simp)
   ·rw[if_neg c9] at H
    have c9b0:decide (x4_1<(wrap64 (2+t42002)))=false:=Zf c9
    clear c9
    replace H:=Zh H
    obtain⟨⟨t42018,t42019,t42020⟩,A240,H⟩:=H
    replace H:(ZO.l1 k1 t42018 s0_0 t42019 t42020 (wrap64 (2+t42002)) x42006001_1)=some (r1,r2,r3,r4):=H
    have A24:=Za A240;clear A240
    have H':=Za H
    clear H
    have hnb25:=NB42005_42001.out
    have hnc25:=NB42001_42005.out
    have hnb26:=NB42005_0.out
    have hnc26:=NB0_42005.out
    have hcz27_0:wr.cell? ⟨gb42005,0,none⟩=some (.int .i64 (wrap64 (2+t42002))):=(Zv BK42005.out 0).trans rfl
    have hcz27_1:wr.cell? ⟨gb42005,1,none⟩=some (u42006001):=(Zv BK42005.out 1).trans rfl
    have hfz27_0:=Zu BK42005.out 0
    have hfz27_1:=Zu BK42005.out 1
    go_wp2_with (first|((with_reducible refine ZF (f:=55) rfl ?_);refine ZY (some 36) rfl rfl Try.func55 (by kernel_rfl) rfl #[.pointer (some ⟨g,0,none⟩),.int .i64 4] rfl (by(try simp only[List.map_toArray,List.map_cons,List.map_nil]);first|done|rfl|(simp only[Zk,Zj];rfl)) ?_;(with_reducible refine(ZW.calls g s0_0 x1001_1 x1002_1 4 t42018 t42019 t42020 w0 _ ?side1 ?side2 A24.out).mono ?_);(case side1=>repeat(first|(with_reducible first|exact HI0.out|apply Zt.alloc|apply Zt.drewN|apply Zt.drew|apply Zt.set_1|apply Zt.set_2|refine Zt.far ?_ NB0_42001.out _|refine Zt.far ?_ NB0_42005.out _)|exact HI0.out));(case side2=>repeat(first|(with_reducible first|exact HB.out|apply Zq|apply Zm|apply Zs|refine Zp ?_ (Zt.ge HI0.out)|refine Zp ?_ GE42001.out|refine Zp ?_ GE42005.out)|exact HB.out));rintro e w28 ⟨rfl,hi,hb,hk⟩;refine⟨_,rfl,?_⟩;replace HO_42006001:=Za (Kd.R_mono (Kd.R_keep (Zt.apart (show Zt w0 _ g s0_0 x1001_1 x1002_1 from by repeat(first|(with_reducible first|exact HI0.out|apply Zt.alloc|apply Zt.drewN|apply Zt.drew|apply Zt.set_1|apply Zt.set_2|refine Zt.far ?_ NB0_42001.out _|refine Zt.far ?_ NB0_42005.out _)|exact HI0.out)) (by(with_reducible repeat(first|apply Kd.R_alloc|apply Kd.R_drewN|apply Kd.R_drew));exact HO_42006001.out) (by decide)) hk (fun _ h=>h.2)) (fun _ h=>h.1));replace BK42001:=Za (Zz.blk hk (g':=gb42001) (o:=.cells #[.int .i64 0,.slice none 0 0] 31 (0,0)) (by(with_reducible repeat(first|refine Zo ?_ _|refine Zr ?_|refine Zn ?_ _));exact BK42001.out) NB42001_0.out (by simp));replace BK42005:=Za (Zz.blk hk (g':=gb42005) (o:=.cells #[.int .i64 (wrap64 (2+t42002)),u42006001] 31 (0,0)) (by(with_reducible repeat(first|refine Zo ?_ _|refine Zr ?_|refine Zn ?_ _));exact BK42005.out) NB42005_0.out (by simp));replace HK:=Za (Zz.trans (by repeat(first|(with_reducible first|exact HK.out|apply Zz.set_|apply ZI|apply ZN|apply ZJ|refine ZT ?_ GW42001.out _|refine ZT ?_ GW42005.out _)|exact HK.out)) hk (.inl rfl));replace HB:=Za (hb);replace HI0:=Za (hi);(try clear hb);(try clear hb2);(try clear hk);(try clear hi)))
    go_loopg [6] k1 (fun kq v6 w'=>∃(x6_2:Int) (x1001_2:Int) (x1002_2:Int) (x42006001_2:List (S84)) (u42006001:Value),v6=.int .i64 x6_2∧Aside0 (ZO.l1 kq x6_2 s0_0 x1001_2 x1002_2 (wrap64 (2+t42002)) x42006001_2=some (r1,r2,r3,r4))∧Aside0 (kq≤k1)∧Aside0 (Kd.R k84 84 w' w.heap.size (fun _=>True) u42006001 x42006001_2)∧Aside0 (w'.heap[gb42001]? = some (.cells #[.int .i64 0,(.slice none 0 0)] 31 (0,0)))∧Aside0 (w'.heap[gb42005]? = some (.cells #[.int .i64 (wrap64 (2+t42002)),u42006001] 31 (0,0)))∧Aside0 (Zt w0 w' g s0_0 x1001_2 x1002_2)∧Aside0 (Zz w w' g none)∧Aside0 (Below w0.heap.size w0 w'))
    case atStart=>exact⟨(t42018),(t42019),(t42020),(x42006001_1),(u42006001),(by first|rfl|(simp;done)|(simp[*];done)),H',⟨Nat.le_refl _⟩,⟨by(with_reducible repeat(first|apply Kd.R_alloc|apply Kd.R_drewN|apply Kd.R_drew));exact HO_42006001.out⟩,⟨by(with_reducible repeat(first|refine Zo ?_ _|refine Zr ?_|refine Zn ?_ _));exact BK42001.out⟩,⟨by(with_reducible repeat(first|refine Zo ?_ _|refine Zr ?_|refine Zn ?_ _));exact BK42005.out⟩,⟨by repeat(first|(with_reducible first|exact HI0.out|apply Zt.alloc|apply Zt.drewN|apply Zt.drew|apply Zt.set_1|apply Zt.set_2|refine Zt.far ?_ NB0_42001.out _|refine Zt.far ?_ NB0_42005.out _)|exact HI0.out)⟩,⟨by repeat(first|(with_reducible first|exact HK.out|apply Zz.set_|apply ZI|apply ZN|apply ZJ|refine ZT ?_ GW42001.out _|refine ZT ?_ GW42005.out _)|exact HK.out)⟩,⟨by repeat(first|(with_reducible first|exact HB.out|apply Zq|apply Zm|apply Zs|refine Zp ?_ (Zt.ge HI0.out)|refine Zp ?_ GE42001.out|refine Zp ?_ GE42005.out)|exact HB.out)⟩⟩
    case round=>
     clear H'
     try clear c1
     try clear c2
     try clear p2
     try clear c4
     try clear c5
     try clear c6
     try clear p6
     try clear c7
     try clear c9
     try clear c9b0
     try clear c13
     try clear c14
     try clear c15
     try clear c25
     try clear c26
     try clear hcz16_0
     try clear hcz16_1
     try clear hcz27_0
     try clear hcz27_1
     try clear hcz8_0
     try clear hcz8_1
     try clear hfz16_0
     try clear hfz16_1
     try clear hfz27_0
     try clear hfz27_1
     try clear hfz8_0
     try clear hfz8_1
     try clear p2
     try clear p6
     obtain⟨x6_2,x1001_2,x1002_2,x42006001_2,u42006001,rfl,HA,HK2,HO_42006001,BK42001,BK42005,HI0,HK,HB⟩:=hrel
     cases gk with
     | zero=>exact absurd HA.out (by simp[ZO.l1])
     | succ k2=>
      have H:=HA.out
      clear HA
      simp only[ZO.l1] at H
      by_cases c29:x6_2 > 0
      ·rw[if_pos c29] at H
       have c29b0:decide (0<x6_2)=true:=Ze c29
       clear c29
       replace H:=Zh H
       obtain⟨⟨t42021,t42022,t42023⟩,A300,H⟩:=H
       replace H:((ZW.f s0_0 t42022 t42023 (wrap64 (2+t42002))).bind fun bt42024=>((Za2.f s0_0 bt42024.2.1 bt42024.2.2).bind fun bt42027=>(if x42006001_2.length<4398046511104 then(ZO.l1 k2 (wrap64 (x6_2 - 1)) s0_0 bt42027.2.2.1 bt42027.2.2.2 (wrap64 (2+t42002)) (x42006001_2 ++ [(⟨t42021,bt42024.1,(⟨bt42027.1,bt42027.2.1⟩:S35)⟩:S84)])) else(none))))=some (r1,r2,r3,r4):=H
       have A30:=Za A300;clear A300
       replace H:=Zh H
       obtain⟨⟨t42024,t42025,t42026⟩,A310,H⟩:=H
       replace H:((Za2.f s0_0 t42025 t42026).bind fun bt42027=>(if x42006001_2.length<4398046511104 then(ZO.l1 k2 (wrap64 (x6_2 - 1)) s0_0 bt42027.2.2.1 bt42027.2.2.2 (wrap64 (2+t42002)) (x42006001_2 ++ [(⟨t42021,t42024,(⟨bt42027.1,bt42027.2.1⟩:S35)⟩:S84)])) else(none)))=some (r1,r2,r3,r4):=H
       have A31:=Za A310;clear A310
       replace H:=Zh H
       obtain⟨⟨t42027,t42028,t42029,t42030⟩,A320,H⟩:=H
       replace H:(if x42006001_2.length<4398046511104 then(ZO.l1 k2 (wrap64 (x6_2 - 1)) s0_0 t42029 t42030 (wrap64 (2+t42002)) (x42006001_2 ++ [(⟨t42021,t42024,(⟨t42027,t42028⟩:S35)⟩:S84)])) else(none))=some (r1,r2,r3,r4):=H
       have A32:=Za A320;clear A320
       by_cases c33:x42006001_2.length<4398046511104
       ·rw[if_pos c33] at H
        have LMc33:=Za c33;clear c33
        obtain⟨y42031,hy42031⟩:∃y_:List (S84),y_=(x42006001_2 ++ [(⟨t42021,t42024,(⟨t42027,t42028⟩:S35)⟩:S84)]):=⟨_,rfl⟩
        replace H:(ZO.l1 k2 (wrap64 (x6_2 - 1)) s0_0 t42029 t42030 (wrap64 (2+t42002)) y42031)=some (r1,r2,r3,r4):=by first|(rw[hy42031];with_reducible exact H)|(have H2_:=(Zi _ _).symm.trans H;rw[hy42031];with_reducible exact H2_)|(have H2_:=(Zi _ _).symm.trans H;with_reducible exact H2_)|with_reducible exact H|(rw[hy42031];exact H)|exact H
        have Ny42031:=Za hy42031;clear hy42031
        have H':=Za H
        clear H
        try go_wp2
        replace HO_42006001:=Za (Kd.R_drew HO_42006001.out);replace BK42001:=Za (Zr BK42001.out);replace BK42005:=Za (Zr BK42005.out);replace HI0:=Za (Zt.drew HI0.out);replace HK:=Za (ZN HK.out);replace HB:=Za (Zs HB.out)
        refine ZbL (n:=17) (S:=fun w'=>w'.cell? ⟨gb42005,0,none⟩=some (.int .i64 (wrap64 (2+t42002)))∧w'.cell? ⟨gb42005,1,none⟩=some (u42006001)) (ds:=[16]) #[false,false,false,false,false,false,false,false,false,false,false,false,false,false,false,false,false] (by kernel_rfl) rfl rfl ⟨(Zv BK42005.out 0).trans rfl,(Zv BK42005.out 1).trans rfl⟩ (fun hHeld=>?_);refine Zby ZO.tab10 ZO.bits10 (fun HT_ HW_=>?_)
        generalize wr.drew=w34 at HO_42006001 BK42001 BK42005 HI0 HK HB hHeld ⊢
        refine Z7 (i:=0) (N:=some 41) (v:=?_) (a':=?_) #[true,false,false,false,false,false,false,false,false,false,false,false,false,false,false,false,false] rfl rfl (Z6 HT_.out (by kernel_rfl)) (fun _ _ _ h=>h) (Or.inl ⟨by rfl,?_⟩) ?_ ?_
        rotate_left
        ·intro w'
         go_simp
         with_reducible rfl
        rotate_left
        ·simp only[Act.put,List.setIfInBounds_toArray,List.set_cons_zero,List.set_cons_succ,ZQ,ZR]
         rfl
        refine Z7 (i:=2) (N:=some 43) (v:=?_) (a':=?_) #[true,false,true,false,false,false,false,false,false,false,false,false,false,false,false,false,false] rfl rfl (Z6 HT_.out (by kernel_rfl)) (fun _ _ _ h=>h) (Or.inl ⟨by rfl,?_⟩) ?_ ?_
        rotate_left
        ·intro w'
         go_simp
         with_reducible rfl
        rotate_left
        ·simp only[Act.put,List.setIfInBounds_toArray,List.set_cons_zero,List.set_cons_succ,ZQ,ZR]
         rfl
        refine Z7 (i:=3) (N:=some 44) (v:=?_) (a':=?_) #[true,false,true,true,false,false,false,false,false,false,false,false,false,false,false,false,false] rfl rfl (Z6 HT_.out (by kernel_rfl)) (fun _ _ _ h=>h) (Or.inl ⟨by rfl,?_⟩) ?_ ?_
        rotate_left
        ·intro w'
         go_simp
         with_reducible rfl
        rotate_left
        ·simp only[Act.put,List.setIfInBounds_toArray,List.set_cons_zero,List.set_cons_succ,ZQ,ZR]
         rfl
        refine Z7 (i:=6) (N:=some 47) (v:=?_) (a':=?_) #[true,false,true,true,false,false,true,false,false,false,false,false,false,false,false,false,false] rfl rfl (Z6 HT_.out (by kernel_rfl)) (fun _ _ _ h=>h) (Or.inl ⟨by rfl,?_⟩) ?_ ?_
        rotate_left
        ·intro w'
         go_simp
         with_reducible rfl
        rotate_left
        ·simp only[Act.put,List.setIfInBounds_toArray,List.set_cons_zero,List.set_cons_succ,ZQ,ZR]
         rfl
        refine Z7 (i:=7) (N:=some 48) (v:=?_) (a':=?_) #[true,false,true,true,false,false,true,true,false,false,false,false,false,false,false,false,false] rfl rfl (Z6 HT_.out (by kernel_rfl)) (fun _ _ _ h=>h) (Or.inl ⟨by rfl,?_⟩) ?_ ?_
        rotate_left
        ·intro w'
         go_simp
         with_reducible rfl
        rotate_left
        ·simp only[Act.put,List.setIfInBounds_toArray,List.set_cons_zero,List.set_cons_succ,ZQ,ZR]
         rfl
        refine Z7 (i:=10) (N:=some 51) (v:=?_) (a':=?_) #[true,false,true,true,false,false,true,true,false,false,true,false,false,false,false,false,false] rfl rfl (Z6 HT_.out (by kernel_rfl)) (fun _ _ _ h=>h) (Or.inl ⟨by rfl,?_⟩) ?_ ?_
        rotate_left
        ·intro w'
         go_simp
         with_reducible rfl
        rotate_left
        ·simp only[Act.put,List.setIfInBounds_toArray,List.set_cons_zero,List.set_cons_succ,ZQ,ZR]
         rfl
        refine take_ (i:=1) (N:=some 42) (v:=?_) (a':=?_) #[true,true,true,true,false,false,true,true,false,false,true,false,false,false,false,false,false] rfl rfl (ZaU HT_.out HW_.out (by kernel_rfl)) (fun _ _ _ h=>h) (Or.inl ⟨by rfl,?_⟩) hHeld ?_ ?_
        rotate_left
        ·rintro w' ⟨s0,s1⟩
         go_simp
         with_reducible rfl
        rotate_left
        ·simp only[Act.put,List.setIfInBounds_toArray,List.set_cons_zero,List.set_cons_succ,ZQ,ZR]
         rfl
        refine take_ (i:=4) (N:=some 45) (v:=?_) (a':=?_) #[true,true,true,true,true,false,true,true,false,false,true,false,false,false,false,false,false] rfl rfl (ZaU HT_.out HW_.out (by kernel_rfl)) (fun _ _ _ h=>h) (Or.inl ⟨by rfl,?_⟩) hHeld ?_ ?_
        rotate_left
        ·rintro w' ⟨s0,s1⟩
         go_simp
         with_reducible rfl
        rotate_left
        ·simp only[Act.put,List.setIfInBounds_toArray,List.set_cons_zero,List.set_cons_succ,ZQ,ZR]
         rfl
        refine take_ (i:=8) (N:=some 49) (v:=?_) (a':=?_) #[true,true,true,true,true,false,true,true,true,false,true,false,false,false,false,false,false] rfl rfl (ZaU HT_.out HW_.out (by kernel_rfl)) (fun _ _ _ h=>h) (Or.inl ⟨by rfl,?_⟩) hHeld ?_ ?_
        rotate_left
        ·rintro w' ⟨s0,s1⟩
         go_simp
         with_reducible rfl
        rotate_left
        ·simp only[Act.put,List.setIfInBounds_toArray,List.set_cons_zero,List.set_cons_succ,ZQ,ZR]
         rfl
        refine one_ (i:=5) (N:=some 46) #[true,true,true,true,true,true,true,true,true,false,true,false,false,false,false,false,false] rfl rfl (ZaI HT_.out (by kernel_rfl)) (by decide) (fun K hK=>?_)
        refine Zbh Try.func55 (by kernel_rfl) rfl #[.pointer (some ⟨g,0,none⟩),.int .i64 (wrap64 (2+t42002))] (by rfl) rfl rfl (by(try simp only[List.map_toArray,List.map_cons,List.map_nil]);first|done|rfl|(simp only[Zk,Zj];rfl)) ?_
        with_reducible refine(ZW.calls g s0_0 x1001_2 x1002_2 (wrap64 (2+t42002)) t42021 t42022 t42023 w0 _ ?side1 ?side2 A30.out).mono ?_
        (case side1=>repeat(first|(with_reducible first|exact HI0.out|apply Zt.alloc|apply Zt.drewN|apply Zt.drew|apply Zt.set_1|apply Zt.set_2|refine Zt.far ?_ NB0_42001.out _|refine Zt.far ?_ NB0_42005.out _)|exact HI0.out))
        (case side2=>repeat(first|(with_reducible first|exact HB.out|apply Zq|apply Zm|apply Zs|refine Zp ?_ (Zt.ge HI0.out)|refine Zp ?_ GE42001.out|refine Zp ?_ GE42005.out)|exact HB.out))
        rintro e w35 ⟨rfl,hi,hb,hk⟩
        refine⟨_,rfl,?_⟩
        replace HO_42006001:=Za (Kd.R_mono (Kd.R_keep (Zt.apart (show Zt w0 _ g s0_0 x1001_2 x1002_2 from by repeat(first|(with_reducible first|exact HI0.out|apply Zt.alloc|apply Zt.drewN|apply Zt.drew|apply Zt.set_1|apply Zt.set_2|refine Zt.far ?_ NB0_42001.out _|refine Zt.far ?_ NB0_42005.out _)|exact HI0.out)) (by(with_reducible repeat(first|apply Kd.R_alloc|apply Kd.R_drewN|apply Kd.R_drew));exact HO_42006001.out) (by decide)) hk (fun _ h=>h.2)) (fun _ h=>h.1));replace BK42001:=Za (Zz.blk hk (g':=gb42001) (o:=.cells #[.int .i64 0,.slice none 0 0] 31 (0,0)) (by(with_reducible repeat(first|refine Zo ?_ _|refine Zr ?_|refine Zn ?_ _));exact BK42001.out) NB42001_0.out (by simp));replace BK42005:=Za (Zz.blk hk (g':=gb42005) (o:=.cells #[.int .i64 (wrap64 (2+t42002)),u42006001] 31 (0,0)) (by(with_reducible repeat(first|refine Zo ?_ _|refine Zr ?_|refine Zn ?_ _));exact BK42005.out) NB42005_0.out (by simp));replace HK:=Za (Zz.trans (by repeat(first|(with_reducible first|exact HK.out|apply Zz.set_|apply ZI|apply ZN|apply ZJ|refine ZT ?_ GW42001.out _|refine ZT ?_ GW42005.out _)|exact HK.out)) hk (.inl rfl));replace HB:=Za (hb);replace HI0:=Za (hi)
        (try clear hb)
        (try clear hb2)
        (try clear hk)
        (try clear hi)
        refine hK.out _ _ ⟨(Zv BK42005.out 0).trans rfl,(Zv BK42005.out 1).trans rfl⟩ (fun hHeld=>?_)
        clear hK K
        refine Zau (a':=?_) ?_ ?_
        rotate_left
        ·show Act.put _ (some 46) _=_
         simp only[Act.put,List.setIfInBounds_toArray,List.set_cons_zero,List.set_cons_succ,ZQ,ZR]
         rfl
        refine one_ (i:=9) (N:=some 50) #[true,true,true,true,true,true,true,true,true,true,true,false,false,false,false,false,false] rfl rfl (ZaI HT_.out (by kernel_rfl)) (by decide) (fun K hK=>?_)
        refine Zbh Try.func55 (by kernel_rfl) rfl #[.pointer (some ⟨g,0,none⟩),.int .i64 (wrap64 (2+t42002))] (by rfl) rfl rfl (by(try simp only[List.map_toArray,List.map_cons,List.map_nil]);first|done|rfl|(simp only[Zk,Zj];rfl)) ?_
        with_reducible refine(ZW.calls g s0_0 t42022 t42023 (wrap64 (2+t42002)) t42024 t42025 t42026 w0 _ ?side1 ?side2 A31.out).mono ?_
        (case side1=>repeat(first|(with_reducible first|exact HI0.out|apply Zt.alloc|apply Zt.drewN|apply Zt.drew|apply Zt.set_1|apply Zt.set_2|refine Zt.far ?_ NB0_42001.out _|refine Zt.far ?_ NB0_42005.out _)|exact HI0.out))
        (case side2=>repeat(first|(with_reducible first|exact HB.out|apply Zq|apply Zm|apply Zs|refine Zp ?_ (Zt.ge HI0.out)|refine Zp ?_ GE42001.out|refine Zp ?_ GE42005.out)|exact HB.out))
        rintro e w36 ⟨rfl,hi,hb,hk⟩
        refine⟨_,rfl,?_⟩
        replace HO_42006001:=Za (Kd.R_mono (Kd.R_keep (Zt.apart (show Zt w0 _ g s0_0 t42022 t42023 from by repeat(first|(with_reducible first|exact HI0.out|apply Zt.alloc|apply Zt.drewN|apply Zt.drew|apply Zt.set_1|apply Zt.set_2|refine Zt.far ?_ NB0_42001.out _|refine Zt.far ?_ NB0_42005.out _)|exact HI0.out)) (by(with_reducible repeat(first|apply Kd.R_alloc|apply Kd.R_drewN|apply Kd.R_drew));exact HO_42006001.out) (by decide)) hk (fun _ h=>h.2)) (fun _ h=>h.1));replace BK42001:=Za (Zz.blk hk (g':=gb42001) (o:=.cells #[.int .i64 0,.slice none 0 0] 31 (0,0)) (by(with_reducible repeat(first|refine Zo ?_ _|refine Zr ?_|refine Zn ?_ _));exact BK42001.out) NB42001_0.out (by simp));replace BK42005:=Za (Zz.blk hk (g':=gb42005) (o:=.cells #[.int .i64 (wrap64 (2+t42002)),u42006001] 31 (0,0)) (by(with_reducible repeat(first|refine Zo ?_ _|refine Zr ?_|refine Zn ?_ _));exact BK42005.out) NB42005_0.out (by simp));replace HK:=Za (Zz.trans (by repeat(first|(with_reducible first|exact HK.out|apply Zz.set_|apply ZI|apply ZN|apply ZJ|refine ZT ?_ GW42001.out _|refine ZT ?_ GW42005.out _)|exact HK.out)) hk (.inl rfl));replace HB:=Za (hb);replace HI0:=Za (hi)
        (try clear hb)
        (try clear hb2)
        (try clear hk)
        (try clear hi)
        refine hK.out _ _ ⟨(Zv BK42005.out 0).trans rfl,(Zv BK42005.out 1).trans rfl⟩ (fun hHeld=>?_)
        clear hK K
        refine Zau (a':=?_) ?_ ?_
        rotate_left
        ·show Act.put _ (some 50) _=_
         simp only[Act.put,List.setIfInBounds_toArray,List.set_cons_zero,List.set_cons_succ,ZQ,ZR]
         rfl
        refine one_ (i:=11) (N:=some 52) #[true,true,true,true,true,true,true,true,true,true,true,true,false,false,false,false,false] rfl rfl (ZaI HT_.out (by kernel_rfl)) (by decide) (fun K hK=>?_)
        refine Zbh Try.func80 (by kernel_rfl) rfl #[.pointer (some ⟨g,0,none⟩)] (by rfl) rfl rfl (by(try simp only[List.map_toArray,List.map_cons,List.map_nil]);first|done|rfl|(simp only[Zk,Zj];rfl)) ?_
        with_reducible refine(Za2.calls g s0_0 t42025 t42026 t42027 t42028 t42029 t42030 w0 _ ?side1 ?side2 A32.out).mono ?_
        (case side1=>repeat(first|(with_reducible first|exact HI0.out|apply Zt.alloc|apply Zt.drewN|apply Zt.drew|apply Zt.set_1|apply Zt.set_2|refine Zt.far ?_ NB0_42001.out _|refine Zt.far ?_ NB0_42005.out _)|exact HI0.out))
        (case side2=>repeat(first|(with_reducible first|exact HB.out|apply Zq|apply Zm|apply Zs|refine Zp ?_ (Zt.ge HI0.out)|refine Zp ?_ GE42001.out|refine Zp ?_ GE42005.out)|exact HB.out))
        rintro e w37 ⟨rfl,hi,hb,hk⟩
        refine⟨_,rfl,?_⟩
        replace HO_42006001:=Za (Kd.R_mono (Kd.R_keep (Zt.apart (show Zt w0 _ g s0_0 t42025 t42026 from by repeat(first|(with_reducible first|exact HI0.out|apply Zt.alloc|apply Zt.drewN|apply Zt.drew|apply Zt.set_1|apply Zt.set_2|refine Zt.far ?_ NB0_42001.out _|refine Zt.far ?_ NB0_42005.out _)|exact HI0.out)) (by(with_reducible repeat(first|apply Kd.R_alloc|apply Kd.R_drewN|apply Kd.R_drew));exact HO_42006001.out) (by decide)) hk (fun _ h=>h.2)) (fun _ h=>h.1));replace BK42001:=Za (Zz.blk hk (g':=gb42001) (o:=.cells #[.int .i64 0,.slice none 0 0] 31 (0,0)) (by(with_reducible repeat(first|refine Zo ?_ _|refine Zr ?_|refine Zn ?_ _));exact BK42001.out) NB42001_0.out (by simp));replace BK42005:=Za (Zz.blk hk (g':=gb42005) (o:=.cells #[.int .i64 (wrap64 (2+t42002)),u42006001] 31 (0,0)) (by(with_reducible repeat(first|refine Zo ?_ _|refine Zr ?_|refine Zn ?_ _));exact BK42005.out) NB42005_0.out (by simp));replace HK:=Za (Zz.trans (by repeat(first|(with_reducible first|exact HK.out|apply Zz.set_|apply ZI|apply ZN|apply ZJ|refine ZT ?_ GW42001.out _|refine ZT ?_ GW42005.out _)|exact HK.out)) hk (.inl rfl));replace HB:=Za (hb);replace HI0:=Za (hi)
        (try clear hb)
        (try clear hb2)
        (try clear hk)
        (try clear hi)
        refine hK.out _ _ ⟨(Zv BK42005.out 0).trans rfl,(Zv BK42005.out 1).trans rfl⟩ (fun hHeld=>?_)
        clear hK K
        refine Zau (a':=?_) ?_ ?_
        rotate_left
        ·show Act.put _ (some 52) _=_
         simp only[Act.put,List.setIfInBounds_toArray,List.set_cons_zero,List.set_cons_succ,ZQ,ZR]
         rfl
        refine Z7 (i:=12) (N:=some 53) (v:=?_) (a':=?_) #[true,true,true,true,true,true,true,true,true,true,true,true,true,false,false,false,false] rfl rfl (Z6 HT_.out (by kernel_rfl)) (fun _ _ _ h=>h) (Or.inl ⟨by rfl,?_⟩) ?_ ?_
        rotate_left
        ·intro w'
         go_simp
         with_reducible rfl
        rotate_left
        ·simp only[Act.put,List.setIfInBounds_toArray,List.set_cons_zero,List.set_cons_succ,ZQ,ZR]
         rfl
        refine one_ (i:=13) (N:=some 54) #[true,true,true,true,true,true,true,true,true,true,true,true,true,true,false,false,false] rfl rfl (ZaI HT_.out (by kernel_rfl)) (by decide) (fun K hK=>?_)
        refine value_ (w1:=?_) (v:=?_) (by rfl) rfl ?_ ?_
        rotate_left 2
        ·go_simp
         constructor
         ·rfl
         ·rfl
        refine hK.out _ _ ⟨(Zv (Zn BK42005.out _) 0).trans rfl,(Zv (Zn BK42005.out _) 1).trans rfl⟩ (fun hHeld=>?_)
        clear hK K
        refine Zau (a':=?_) ?_ ?_
        rotate_left
        ·show Act.put _ (some 54) _=_
         simp only[Act.put,List.setIfInBounds_toArray,List.set_cons_zero,List.set_cons_succ,ZQ,ZR]
         rfl
        refine one_ (i:=14) (N:=some 55) #[true,true,true,true,true,true,true,true,true,true,true,true,true,true,true,false,false] rfl rfl (ZaI HT_.out (by kernel_rfl)) (by decide) (fun K hK=>?_)
        refine Kd.R_append_step k84 w.heap.size (by rfl) (.tmp 42) (.tmp 54) 29 84 (.agg #[(.int .i64 0),(.int .i64 0),(.int .i64 0),(.int .i64 0)]) 32 rfl Try.underlying29 info84 rfl (by decide) (by omega) u42006001 x42006001_2 (⟨t42021,t42024,(⟨t42027,t42028⟩:S35)⟩:S84) [.int .i64 t42021,.int .i64 t42024,.int .i64 t42027,.int .i64 t42028] (fun _=>True) (fun _=>False) rfl rfl ?aP (fun _ hk=>hk.elim) ?aF ?aO (Below.refl _ _) ?aS ?aL ?_
        (case aP=>exact k84_mkM _ _ _ (⟨t42021,t42024,(⟨t42027,t42028⟩:S35)⟩:S84))
        (case aF=>exact(fun _ _=>trivial))
        (case aO=>exact(by(with_reducible repeat(first|apply Kd.R_alloc|apply Kd.R_drewN|apply Kd.R_drew));exact HO_42006001.out))
        (case aS=>exact(Zar (w:=w) (g:=g) (row:=none) (by repeat(first|(with_reducible first|exact HK.out|apply Zz.set_|apply ZI|apply ZN|apply ZJ|refine ZT ?_ GW42001.out _|refine ZT ?_ GW42005.out _)|exact HK.out))))
        (case aL=>have:=LMc33.out;omega)
        intro v42032 w38 ho hb hg hat
        rw[← Ny42031.out] at ho
        have HO42033:=Za (ho);replace BK42001:=Za (Z0 (g:=gb42001) (o:=.cells #[.int .i64 0,.slice none 0 0] 31 (0,0)) (by(with_reducible repeat(first|refine Zo ?_ _|refine Zr ?_|refine Zn ?_ _));exact BK42001.out) hg (Kd.R_ne HO_42006001.out BK42001.out (by decide)));replace BK42005:=Za (Z0 (g:=gb42005) (o:=.cells #[.int .i64 (wrap64 (2+t42002)),u42006001] 31 (0,0)) (by(with_reducible repeat(first|refine Zo ?_ _|refine Zr ?_|refine Zn ?_ _));exact BK42005.out) hg (Kd.R_ne HO_42006001.out BK42005.out (by decide)));replace HB:=Za (ZcP (by repeat(first|(with_reducible first|exact HB.out|apply Zq|apply Zm|apply Zs|refine Zp ?_ (Zt.ge HI0.out)|refine Zp ?_ GE42001.out|refine Zp ?_ GE42005.out)|exact HB.out)) HL.out hb);replace HI0:=Za (Zt.grown (by repeat(first|(with_reducible first|exact HI0.out|apply Zt.alloc|apply Zt.drewN|apply Zt.drew|apply Zt.set_1|apply Zt.set_2|refine Zt.far ?_ NB0_42001.out _|refine Zt.far ?_ NB0_42005.out _)|exact HI0.out)) hg (Zt.own_ne HI0.out HO_42006001.out (by decide)));replace HK:=Za (Zz.trans (by repeat(first|(with_reducible first|exact HK.out|apply Zz.set_|apply ZI|apply ZN|apply ZJ|refine ZT ?_ GW42001.out _|refine ZT ?_ GW42005.out _)|exact HK.out)) (Zz.of_grown hg g) (Kd.R_base2 HO_42006001.out));clear HO_42006001 ho hb hg hat
        obtain⟨Ao39,co39,eo39⟩:=Kd.R_slice HO42033.out
        (first|subst eo39|(injection eo39 with f1_ f2_ f3_;have f4_:=f1_.symm;have f5_:=f3_.symm;clear f1_ f2_ f3_;subst f4_;subst f5_))
        refine hK.out _ _ ⟨(Zv BK42005.out 0).trans rfl,(Zv BK42005.out 1).trans rfl⟩ (fun hHeld=>?_)
        clear hK K
        refine Zau (a':=?_) ?_ ?_
        rotate_left
        ·show Act.put _ (some 55) _=_
         simp only[Act.put,List.setIfInBounds_toArray,List.set_cons_zero,List.set_cons_succ,ZQ,ZR]
         rfl
        refine Z7 (i:=15) (N:=some 56) (v:=?_) (a':=?_) #[true,true,true,true,true,true,true,true,true,true,true,true,true,true,true,true,false] rfl rfl (Z6 HT_.out (by kernel_rfl)) (fun _ _ _ h=>h) (Or.inl ⟨by rfl,?_⟩) ?_ ?_
        rotate_left
        ·intro w'
         go_simp
         with_reducible rfl
        rotate_left
        ·simp only[Act.put,List.setIfInBounds_toArray,List.set_cons_zero,List.set_cons_succ,ZQ,ZR]
         rfl
        refine last_ (i:=16) (N:=none) #[true,true,true,true,true,true,true,true,true,true,true,true,true,true,true,true,true] rfl rfl (ZaI HT_.out (by kernel_rfl)) (by decide) (fun K hK=>?_)
        have hs40:w38.cell? ⟨gb42005,1,none⟩=some (u42006001):=(Zv BK42005.out 1).trans rfl
        have hfs40:=Zu BK42005.out 1
        have hns40_0:=NB42001_42005.out
        have hms40_0:=NB42005_42001.out
        refine skip_ (w1:=?_) (by rfl) rfl ?_ ?_
        rotate_left
        ·go_simp
         rfl
        refine hK.out _ _ ?_
        clear hK K
        refine Zb5 (ZbT HT_.out (by kernel_rfl)) ?_
        try go_wp2
        go_roundg k2
        case measure=>have:=HK1.out;have:=HK2.out;omega
        case rel=>exact⟨(wrap64 (x6_2 - 1)),(t42029),(t42030),(y42031),(.slice Ao39 y42031.length co39),(by first|rfl|(simp;done)|(simp[*];done)),H',⟨by have:=HK1.out;have:=HK2.out;omega⟩,⟨by(with_reducible repeat(first|apply Kd.R_alloc|apply Kd.R_drewN|apply Kd.R_drew));exact Kd.R_mono (Kd.R_far (p:=⟨gb42005,1,none⟩) (Kd.R_types HO42033.out BK42005.out (by decide)) (fun _ hk=>hk.2) (.slice Ao39 y42031.length co39)) (fun _ hk=>trivial)⟩,⟨by(with_reducible repeat(first|refine Zo ?_ _|refine Zr ?_|refine Zn ?_ _));refine ZD ?_ NB42001_42005.out _;(with_reducible repeat(first|refine Zo ?_ _|refine Zr ?_|refine Zn ?_ _));exact BK42001.out⟩,⟨by(with_reducible repeat(first|refine Zo ?_ _|refine Zr ?_|refine Zn ?_ _));refine ZL (cs:=#[.int .i64 (wrap64 (2+t42002)),u42006001]) ?_ 1 _ rfl;(with_reducible repeat(first|refine Zo ?_ _|refine Zr ?_|refine Zn ?_ _));exact BK42005.out⟩,⟨by repeat(first|(with_reducible first|exact HI0.out|apply Zt.alloc|apply Zt.drewN|apply Zt.drew|apply Zt.set_1|apply Zt.set_2|refine Zt.far ?_ NB0_42001.out _|refine Zt.far ?_ NB0_42005.out _)|exact HI0.out)⟩,⟨by repeat(first|(with_reducible first|exact HK.out|apply Zz.set_|apply ZI|apply ZN|apply ZJ|refine ZT ?_ GW42001.out _|refine ZT ?_ GW42005.out _)|exact HK.out)⟩,⟨by repeat(first|(with_reducible first|exact HB.out|apply Zq|apply Zm|apply Zs|refine Zp ?_ (Zt.ge HI0.out)|refine Zp ?_ GE42001.out|refine Zp ?_ GE42005.out)|exact HB.out)⟩⟩
       ·rw[if_neg c33] at H
        exact absurd H (by simp)
      ·rw[if_neg c29] at H
       have c29b0:decide (0<x6_2)=false:=Zf c29
       clear c29
       simp only[Option.some.injEq,Prod.mk.injEq] at H
       obtain⟨rfl,rfl,rfl,rfl⟩:=H
       have hnb41:=NB42005_42001.out
       have hnc41:=NB42001_42005.out
       have hnb42:=NB42005_0.out
       have hnc42:=NB0_42005.out
       have hcz43_0:wr.cell? ⟨gb42005,0,none⟩=some (.int .i64 (wrap64 (2+t42002))):=(Zv BK42005.out 0).trans rfl
       have hcz43_1:wr.cell? ⟨gb42005,1,none⟩=some (u42006001):=(Zv BK42005.out 1).trans rfl
       have hfz43_0:=Zu BK42005.out 0
       have hfz43_1:=Zu BK42005.out 1
       have hnb44:=NB42001_0.out
       have hnc44:=NB0_42001.out
       have hcz45_0:wr.cell? ⟨gb42001,0,none⟩=some (.int .i64 0):=(Zv BK42001.out 0).trans rfl
       have hcz45_1:wr.cell? ⟨gb42001,1,none⟩=some (.slice none 0 0):=(Zv BK42001.out 1).trans rfl
       have hfz45_0:=Zu BK42001.out 0
       have hfz45_1:=Zu BK42001.out 1
       obtain⟨Ao46,co46,eo46⟩:=Kd.R_slice HO_42006001.out
       subst eo46
       go_wp2
       refine bodyPost_ret (results_cell_row rfl _ _ gb42001 31 #[.int .i64 (wrap64 (2+t42002)),.slice Ao46 x42006001_2.length co46] (0,0) _ rfl (by(with_reducible repeat(first|refine Zo ?_ _|refine Zr ?_|refine Zn ?_ _));refine ZL (cs:=#[.int .i64 (wrap64 (2+t42002)),.slice none 0 0]) ?_ 1 _ rfl;(with_reducible repeat(first|refine Zo ?_ _|refine Zr ?_|refine Zn ?_ _));refine ZL (cs:=#[.int .i64 0,.slice none 0 0]) ?_ 0 _ rfl;(with_reducible repeat(first|refine Zo ?_ _|refine Zr ?_|refine Zn ?_ _));exact BK42001.out) Try.underlying31 rfl (by kernel_rfl)) rfl ?_
       exact⟨_,by first|rfl|(simp[ZC,ZB] <;> rfl)|(simp[*,ZC,ZB] <;> rfl),by(with_reducible repeat(first|apply Kd.R_alloc|apply Kd.R_drewN|apply Kd.R_drew));exact Kd.R_mono (Kd.R_far (p:=⟨gb42001,1,none⟩) (Kd.R_far (p:=⟨gb42001,0,none⟩) (Kd.R_types HO_42006001.out BK42001.out (by decide)) (fun _ hk=>hk.2) (.int .i64 (wrap64 (2+t42002)))) (fun _ hk=>hk.2) (.slice Ao46 x42006001_2.length co46)) (fun _ hk=>trivial),by repeat(first|(with_reducible first|exact HI0.out|apply Zt.alloc|apply Zt.drewN|apply Zt.drew|apply Zt.set_1|apply Zt.set_2|refine Zt.far ?_ NB0_42001.out _|refine Zt.far ?_ NB0_42005.out _)|exact HI0.out),by repeat(first|(with_reducible first|exact HB.out|apply Zq|apply Zm|apply Zs|refine Zp ?_ (Zt.ge HI0.out)|refine Zp ?_ GE42001.out|refine Zp ?_ GE42005.out)|exact HB.out),by repeat(first|(with_reducible first|exact HK.out|apply Zz.set_|apply ZI|apply ZN|apply ZJ|refine ZT ?_ GW42001.out _|refine ZT ?_ GW42005.out _)|exact HK.out)⟩
end Go.Proofs.Ythphnhmabieflab.Pr
namespace Go.Proofs.Ythphnhmabieflab.Ni
open Go.RowKit Go.Proofs.YthphnhmabieflabW.PrintWords
theorem Z2 {w W:World} (hb:Below w.heap.size w W) {a:Addr} {v:Value} (h:w.cell? a=some v):W.cell? a=some v:=(hb.cell (Zc w _ h)).trans h
theorem wrap_succ {i:Int} (h0:0≤i) (h:i<9223372036854775807):wrap64 (i+1)=i+1:=by
 unfold wrap64;omega
theorem Zal {i:Int} (h0 : -9223372036854775808≤i) (h:i≤9223372036854775807):wrap64 i=i:=by
 unfold wrap64;omega
theorem Zbf {i n:Nat} (h:i<n) (hn:n≤9223372036854775807):wrap64 ((i:Int)+1)=((i+1:Nat):Int):=by
 unfold wrap64;omega
theorem wrap_pred {i:Nat} (h:0<i) (hn:i≤9223372036854775807):wrap64 ((i:Int) - 1)=((i - 1:Nat):Int):=by
 unfold wrap64;omega
theorem wf_i64 {n:Int} (h:(Lit.int .i64 n).wf=true) : -9223372036854775808≤n∧n≤9223372036854775807:=by
 simp[Lit.wf,IntKind.min,IntKind.max,IntKind.signed,IntKind.bits] at h
 omega
theorem Za3 (l:List Int) (i:Nat):rd l (i:Int)=l.getD i 0:=by unfold rd;rw[Int.toNat_natCast]
theorem Zbo {α:Type} {l:List α} {i:Nat} (h:i<l.length) (d:α):l.drop i=l.getD i d :: l.drop (i+1):=by
 rw[List.drop_eq_getElem_cons h,List.getD_eq_getElem?_getD,Zl h];rfl
theorem ZbH {α:Type} {l:List α} {i:Nat} (h:i<l.length) (d:α):l.getD i d∈l:=by
 rw[List.getD_eq_getElem?_getD,Zl h];exact List.getElem_mem h
theorem getD_some {α:Type} {l:List α} {i:Nat} (h:i<l.length) (d:α):l[i]? = some (l.getD i d):=by
 rw[List.getD_eq_getElem?_getD,Zl h];rfl
theorem set_step {α:Type} (ys:List α) (z d:α) (i:Nat) (h:i<ys.length) (x:α) (hx:x=ys.getD i d):(ys.take i ++ List.replicate (ys.length - i) z).set i x=ys.take (i+1) ++ List.replicate (ys.length - (i+1)) z:=by
 subst hx
 have e:ys.length - i=(ys.length - (i+1))+1:=by omega
 rw[e,List.replicate_succ,List.set_append_right _ _ (by simp;omega)]
 have e2:i - (ys.take i).length=0:=by simp;omega
 rw[e2,List.set_cons_zero,List.take_succ_eq_append_getElem h,List.append_assoc]
 congr 2
 simp[List.getD_eq_getElem?_getD,Zl h]
theorem Zcm (n:Nat) (Q:Nat→Nat→Prop) (K:Nat) (hend:∀k,K≤k→Q (k+1) n) (hstep:∀k i,K≤k→i<n→Q k (i+1)→Q (k+1) i):∀(i k:Nat),i≤n→K+(n - i)<k→Q k i:=by
 have key:∀(d i k:Nat),i≤n→n - i=d→K+d<k→Q k i:=by
  intro d
  induction d with
  | zero=>
   intro i k hi hd hk
   obtain⟨m,rfl⟩:∃m,k=m+1:=⟨k - 1,by omega⟩
   obtain rfl:i=n:=by omega
   exact hend m (by omega)
  | succ d ih=>
   intro i k hi hd hk
   obtain⟨m,rfl⟩:∃m,k=m+1:=⟨k - 1,by omega⟩
   exact hstep m i (by omega) (by omega) (ih (i+1) m (by omega) (by omega) (by omega))
 intro i k hi hk
 exact key (n - i) i k hi rfl hk
theorem set_mid (pre:List Int) (x y:Int) (post:List Int):(pre ++ x :: post).set pre.length y=pre ++ y :: post:=by
 rw[List.set_append_right _ _ (Nat.le_refl _),Nat.sub_self,List.set_cons_zero]
def Zbq {α:Type} (p:α→Bool) (l:List α):Int:=match l.findIdx? p with|some i=>i|none=>-1
theorem ZcM {α:Type} (p:α→Bool) (l:List α) (k:Nat) (x:α) (hk:l[k]? = some x) (hx:p x=true) (hb:∀j y,j<k→l[j]? = some y→p y=false):Zbq p l=(k:Int):=by
 have h:l.findIdx? p=some k:=by
  rw[List.findIdx?_eq_some_iff_getElem]
  obtain⟨hl,he⟩:=List.getElem?_eq_some_iff.1 hk
  refine⟨hl,by rw[he];exact hx,fun j hj=>?_⟩
  have:=hb j _ hj (Zl (by omega))
  simp[this]
 simp[Zbq,h]
theorem Zb2 {α:Type} (p:α→Bool) (l:List α) (hb:∀j y,j<l.length→l[j]? = some y→p y=false):Zbq p l=-1:=by
 have h:l.findIdx? p=none:=by
  rw[List.findIdx?_eq_none_iff]
  intro x hx
  obtain⟨j,hj⟩:=List.getElem?_of_mem hx
  exact hb j x (List.getElem?_eq_some_iff.1 hj).1 hj
 simp[Zbq,h]
theorem ZcN {α:Type} (p:α→Bool) (l:List α):decide (0≤Zbq p l)=l.any p:=by
 unfold Zbq
 cases h:l.findIdx? p with
 | some i=>
  rw[List.findIdx?_eq_some_iff_getElem] at h
  obtain⟨hl,hp,_⟩:=h
  have:l.any p=true:=List.any_eq_true.2 ⟨_,List.getElem_mem hl,hp⟩
  rw[this]
  exact Ze (Int.natCast_nonneg _)
 | none=>
  rw[List.findIdx?_eq_none_iff] at h
  have:l.any p=false:=by rw[List.any_eq_false];intro x hx;rw[h x hx];simp
  rw[this];rfl
theorem idxOf_bd {α:Type} (p:α→Bool) (l:List α) : -1≤Zbq p l∧Zbq p l<l.length:=by
 unfold Zbq
 cases h:l.findIdx? p with
 | some i=>
  rw[List.findIdx?_eq_some_iff_getElem] at h
  obtain⟨hl,_⟩:=h
  simp only;omega
 | none=>simp only;omega
def cnt0 (l:List Int):Int:=((l.filter (· == 0)).length:Int)
def litOk (x:Int):Bool:=!(x == 0) && decide (-3≤x) && decide (x≤3)
def prp (x:Int):Int:=if x<0 then -x else x
def labFrom (p:Int):List Int→Bool
 | []=>true
 | x :: t=>litOk x && decide (p<prp x) && labFrom (prp x) t
def labB (l:List Int):Bool:=labFrom 0 l
def valsB (l:List Int):Bool:=decide (l.length=3) && l.all (fun n=>decide (-1≤n) && decide (n≤1))
theorem litOk_iff (x:Int):litOk x=true↔x≠0∧-3≤x∧x≤3:=by
 simp[litOk,and_assoc]
theorem prp_pos {x:Int} (h:litOk x=true):1≤prp x∧prp x≤3:=by
 have:=(litOk_iff x).1 h
 unfold prp;split <;> omega
def stFrom (v:List Int) (a:Int):List Int→Int
 | []=>a
 | x :: t=>stFrom v (min a (if x<0 then -(v.getD (prp x - 1).toNat 0) else v.getD (prp x - 1).toNat 0)) t
def stB (l v:List Int):Int:=stFrom v 1 l
def isNameB (s:ByteArray):Bool:=decide (1≤s.size) && decide (s.size≤8) && (List.range s.size).all fun i=>let c:=bt s i;(decide (97≤c) && decide (c≤122)) || (decide (0<i) && decide (48≤c) && decide (c≤57))
end Go.Proofs.Ythphnhmabieflab.Ni
