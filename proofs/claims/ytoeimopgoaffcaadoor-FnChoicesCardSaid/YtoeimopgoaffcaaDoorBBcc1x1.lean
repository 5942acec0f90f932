/- By a program of this session. -/
import Derived.Test.YtoeimopgoaffcaaDoorProg
import Derived.ChangeArms
import Derived.ChangeSlices
import Derived.WideShapes
import Derived.Deep.Slices
import Derived.Lib.AppendIntMem
import Derived.Shelf.Abstract
import Derived.Test.YtoeimopgoaffcaaDoorBBc0
set_option maxHeartbeats 8000000
set_option maxRecDepth 100000
namespace Go.Proofs.YtoeimopgoaffcaaDoor.Pr
open RowKit YtoeimopgoaffcaaDoorW.PrintWords YtoeimopgoaffcaaDoorW.PrintLast YtoeimopgoaffcaaDoorW.PrintMore
attribute [local go_sem] Zat Zar ZaG ZaF Zal Zak Zas Zaq
set_option linter.unusedVariables false
set_option linter.unusedSimpArgs false
def errW:Option Int→Value
 | none=>.nilIface
 | some c=>.iface 150 (.int .i64 c)
theorem ZD:errW none=.nilIface:=rfl
theorem ZC (c:Int):errW (some c)=.iface 150 (.int .i64 c):=rfl
theorem ZbN:(Tryd.prog.info? 3).map (fun i=>(i.zero,i.size,i.bytes))=some (some (.int .i64 0),1,8):=by kernel_rfl
theorem info9:(Tryd.prog.info? 9).map (fun i=>(i.zero,i.size,i.bytes))=some (some (.string ⟨#[]⟩),1,16):=by kernel_rfl
theorem info54:(Tryd.prog.info? 54).map (fun i=>(i.zero,i.size,i.bytes))=some (some (.agg #[(.string ⟨#[]⟩),(.slice none 0 0),(.int .i64 0)]),3,48):=by kernel_rfl
theorem info81:(Tryd.prog.info? 81).map (fun i=>(i.zero,i.size,i.bytes))=some (some (.agg #[(.int .i64 0),(.int .i64 0),(.int .i64 0),(.int .i64 0),(.bool false)]),5,40):=by kernel_rfl
theorem info113:(Tryd.prog.info? 113).map (fun i=>(i.zero,i.size,i.bytes))=some (some (.agg #[(.int .i64 0),(.int .i64 0),(.int .i64 0),(.int .i64 0)]),4,32):=by kernel_rfl
theorem ZdN:(Tryd.prog.info? 121).map (fun i=>(i.zero,i.size,i.bytes))=some (some (.agg #[(.int .i64 0),(.int .i64 0),(.int .i64 0)]),3,24):=by kernel_rfl
structure S54 where
 f0:ByteArray
 f1:(List Int)
 f2:Int
def z54:S54:=⟨(⟨#[]⟩:ByteArray),([]:List Int),(0:Int)⟩
def k54:Kd S54:=Kd.iso (Kd.pair Kd.string (Kd.pair (Kd.slice 3 (Kd.int .i64)) (Kd.int .i64))) (fun x:S54=>(x.f0,x.f1,x.f2))
theorem Zd5 {w:World} {x:S54} {cs:List Value} (h:k54.K w x cs):∃A1 c1,cs=[.string x.f0,.slice A1 x.f1.length c1,.int .i64 x.f2]∧x.f1.length≤c1∧(Kd.int .i64).C w A1 x.f1.length x.f1:=by
 obtain⟨_,_,rfl,rfl,⟨_,_,rfl,⟨A1,c1,rfl,l1,g1⟩,rfl⟩⟩:=h
 exact⟨A1,c1,rfl,l1,g1⟩
theorem Zcd (w:World) (base:Nat) (ok:Nat→Prop) (x:S54) {v1:Value} (g1:(Kd.int .i64).R 3 w base ok v1 x.f1):k54.M w base ok x [.string x.f0,v1,.int .i64 x.f2]:=⟨[.string x.f0],[v1,.int .i64 x.f2],rfl,rfl,⟨[v1],[.int .i64 x.f2],rfl,⟨v1,rfl,g1⟩,rfl⟩⟩
theorem k54_openF {W:World} {ok:Nat→Prop} {x:S54} {cs:List Value} (h:Kd.FK k54 W ok x cs):∃A1 c1,cs=[.string x.f0,.slice A1 x.f1.length c1,.int .i64 x.f2]∧x.f1.length≤c1∧Kd.F (Kd.int .i64) W ok A1 x.f1.length x.f1:=by
 obtain⟨A1,c1,rfl,l1,_⟩:=Zd5 (Kd.FK_now h)
 exact⟨A1,c1,rfl,l1,(fun W' hW=>by obtain⟨A1_,c1_,he,l1_,g1_⟩:=Zd5 (h W' hW);injection (Zg (show some (Value.slice A1 x.f1.length c1)=some (Value.slice A1_ x.f1.length c1_) from congrArg (fun l=>l[1]?) he)) with ha_ _ _;rw[ha_];exact g1_)⟩
def Zy (xs:List S54) (i:Int):S54:=xs.getD i.toNat z54
theorem Zbw {w:World} {A:Option Addr} {n:Nat} {xs:List S54} (h:Kd.C k54 w A n xs) (i:Int) (h0:0≤i) (h1:i<n):∃ad A1 c1,A=some ad∧w.cell? (ad.add (i.toNat * 3))=some (.string (Zy xs i).f0)∧w.cell? ⟨(ad.add (i.toNat * 3)).block,(ad.add (i.toNat * 3)).off+1,none⟩=some (.slice A1 (Zy xs i).f1.length c1)∧w.cell? ⟨(ad.add (i.toNat * 3)).block,(ad.add (i.toNat * 3)).off+2,none⟩=some (.int .i64 (Zy xs i).f2)∧(Zy xs i).f1.length≤c1∧(Kd.int .i64).C w A1 (Zy xs i).f1.length (Zy xs i).f1:=by
 obtain⟨ad,c,e,_,hK,hc0⟩:=Kd.C_get h z54 i h0 h1
 have hc:∀j u,c[j]? = some u→w.cell? (ad.add (i.toNat * 3+j))=some u:=hc0
 obtain⟨A1,c1,rfl,l1,g1⟩:=Zd5 hK
 exact⟨ad,A1,c1,e,hc 0 _ rfl,by rw[← Zbj _ _ 1 (by omega)];exact hc 1 _ rfl,by rw[← Zbj _ _ 2 (by omega)];exact hc 2 _ rfl,l1,g1⟩
structure S81 where
 f0:Int
 f1:Int
 f2:Int
 f3:Int
 f4:Bool
def z81:S81:=⟨(0:Int),(0:Int),(0:Int),(0:Int),false⟩
def k81:Kd S81:=Kd.iso (Kd.pair (Kd.int .i64) (Kd.pair (Kd.int .i64) (Kd.pair (Kd.int .i64) (Kd.pair (Kd.int .i64) Kd.bool)))) (fun x:S81=>(x.f0,x.f1,x.f2,x.f3,x.f4))
theorem k81_open {w:World} {x:S81} {cs:List Value} (h:k81.K w x cs):cs=[.int .i64 x.f0,.int .i64 x.f1,.int .i64 x.f2,.int .i64 x.f3,.bool x.f4]:=by
 obtain⟨_,_,rfl,rfl,⟨_,_,rfl,rfl,⟨_,_,rfl,rfl,⟨_,_,rfl,rfl,rfl⟩⟩⟩⟩:=h
 exact rfl
theorem ZcK (w:World) (base:Nat) (ok:Nat→Prop) (x:S81)  : k81.M w base ok x [.int .i64 x.f0,.int .i64 x.f1,.int .i64 x.f2,.int .i64 x.f3,.bool x.f4]:=⟨[.int .i64 x.f0],[.int .i64 x.f1,.int .i64 x.f2,.int .i64 x.f3,.bool x.f4],rfl,rfl,⟨[.int .i64 x.f1],[.int .i64 x.f2,.int .i64 x.f3,.bool x.f4],rfl,rfl,⟨[.int .i64 x.f2],[.int .i64 x.f3,.bool x.f4],rfl,rfl,⟨[.int .i64 x.f3],[.bool x.f4],rfl,rfl,rfl⟩⟩⟩⟩
def Zz (xs:List S81) (i:Int):S81:=xs.getD i.toNat z81
theorem Zck {w:World} {A:Option Addr} {n:Nat} {xs:List S81} (h:Kd.C k81 w A n xs) (i:Int) (h0:0≤i) (h1:i<n):∃ad ,A=some ad∧w.cell? (ad.add (i.toNat * 5))=some (.int .i64 (Zz xs i).f0)∧w.cell? ⟨(ad.add (i.toNat * 5)).block,(ad.add (i.toNat * 5)).off+1,none⟩=some (.int .i64 (Zz xs i).f1)∧w.cell? ⟨(ad.add (i.toNat * 5)).block,(ad.add (i.toNat * 5)).off+2,none⟩=some (.int .i64 (Zz xs i).f2)∧w.cell? ⟨(ad.add (i.toNat * 5)).block,(ad.add (i.toNat * 5)).off+3,none⟩=some (.int .i64 (Zz xs i).f3)∧w.cell? ⟨(ad.add (i.toNat * 5)).block,(ad.add (i.toNat * 5)).off+4,none⟩=some (.bool (Zz xs i).f4):=by
 obtain⟨ad,c,e,_,hK,hc0⟩:=Kd.C_get h z81 i h0 h1
 have hc:∀j u,c[j]? = some u→w.cell? (ad.add (i.toNat * 5+j))=some u:=hc0
 obtain rfl:=k81_open hK
 exact⟨ad,e,hc 0 _ rfl,by rw[← Zbj _ _ 1 (by omega)];exact hc 1 _ rfl,by rw[← Zbj _ _ 2 (by omega)];exact hc 2 _ rfl,by rw[← Zbj _ _ 3 (by omega)];exact hc 3 _ rfl,by rw[← Zbj _ _ 4 (by omega)];exact hc 4 _ rfl⟩
structure S39 where
 f0:(List S54)
 f1:(List S81)
 f2:Int
structure S44 where
 f0:(List Int)
 f1:(List Int)
structure S111 where
 f0:Int
 f1:Int
def z111:S111:=⟨(0:Int),(0:Int)⟩
def k111:Kd S111:=Kd.iso (Kd.pair (Kd.int .i64) (Kd.int .i64)) (fun x:S111=>(x.f0,x.f1))
theorem k111_open {w:World} {x:S111} {cs:List Value} (h:k111.K w x cs):cs=[.int .i64 x.f0,.int .i64 x.f1]:=by
 obtain⟨_,_,rfl,rfl,rfl⟩:=h
 exact rfl
theorem k111_mkM (w:World) (base:Nat) (ok:Nat→Prop) (x:S111)  : k111.M w base ok x [.int .i64 x.f0,.int .i64 x.f1]:=⟨[.int .i64 x.f0],[.int .i64 x.f1],rfl,rfl,rfl⟩
structure S113 where
 f0:Int
 f1:Int
 f2:S111
def z113:S113:=⟨(0:Int),(0:Int),z111⟩
def k113:Kd S113:=Kd.iso (Kd.pair (Kd.int .i64) (Kd.pair (Kd.int .i64) k111)) (fun x:S113=>(x.f0,x.f1,x.f2))
theorem k113_open {w:World} {x:S113} {cs:List Value} (h:k113.K w x cs):cs=[.int .i64 x.f0,.int .i64 x.f1,.int .i64 x.f2.f0,.int .i64 x.f2.f1]:=by
 obtain⟨_,_,rfl,rfl,⟨_,_,rfl,rfl,s2⟩⟩:=h
 obtain rfl:=k111_open s2
 exact rfl
theorem k113_mkM (w:World) (base:Nat) (ok:Nat→Prop) (x:S113)  : k113.M w base ok x [.int .i64 x.f0,.int .i64 x.f1,.int .i64 x.f2.f0,.int .i64 x.f2.f1]:=⟨[.int .i64 x.f0],[.int .i64 x.f1,.int .i64 x.f2.f0,.int .i64 x.f2.f1],rfl,rfl,⟨[.int .i64 x.f1],[.int .i64 x.f2.f0,.int .i64 x.f2.f1],rfl,rfl,(k111_mkM w base ok x.f2 )⟩⟩
def Zb2 (xs:List S113) (i:Int):S113:=xs.getD i.toNat z113
theorem at_T113 {w:World} {A:Option Addr} {n:Nat} {xs:List S113} (h:Kd.C k113 w A n xs) (i:Int) (h0:0≤i) (h1:i<n):∃ad ,A=some ad∧w.cell? (ad.add (i.toNat * 4))=some (.int .i64 (Zb2 xs i).f0)∧w.cell? ⟨(ad.add (i.toNat * 4)).block,(ad.add (i.toNat * 4)).off+1,none⟩=some (.int .i64 (Zb2 xs i).f1)∧w.cell? ⟨(ad.add (i.toNat * 4)).block,(ad.add (i.toNat * 4)).off+2,none⟩=some (.int .i64 (Zb2 xs i).f2.f0)∧w.cell? ⟨(ad.add (i.toNat * 4)).block,(ad.add (i.toNat * 4)).off+3,none⟩=some (.int .i64 (Zb2 xs i).f2.f1):=by
 obtain⟨ad,c,e,_,hK,hc0⟩:=Kd.C_get h z113 i h0 h1
 have hc:∀j u,c[j]? = some u→w.cell? (ad.add (i.toNat * 4+j))=some u:=hc0
 obtain rfl:=k113_open hK
 exact⟨ad,e,hc 0 _ rfl,by rw[← Zbj _ _ 1 (by omega)];exact hc 1 _ rfl,by rw[← Zbj _ _ 2 (by omega)];exact hc 2 _ rfl,by rw[← Zbj _ _ 3 (by omega)];exact hc 3 _ rfl⟩
structure S50 where
 f0:Int
 f1:(List S113)
structure S121 where
 f0:Int
 f1:Int
 f2:Int
def z121:S121:=⟨(0:Int),(0:Int),(0:Int)⟩
def k121:Kd S121:=Kd.iso (Kd.pair (Kd.int .i64) (Kd.pair (Kd.int .i64) (Kd.int .i64))) (fun x:S121=>(x.f0,x.f1,x.f2))
theorem k121_open {w:World} {x:S121} {cs:List Value} (h:k121.K w x cs):cs=[.int .i64 x.f0,.int .i64 x.f1,.int .i64 x.f2]:=by
 obtain⟨_,_,rfl,rfl,⟨_,_,rfl,rfl,rfl⟩⟩:=h
 exact rfl
theorem Zdg (w:World) (base:Nat) (ok:Nat→Prop) (x:S121)  : k121.M w base ok x [.int .i64 x.f0,.int .i64 x.f1,.int .i64 x.f2]:=⟨[.int .i64 x.f0],[.int .i64 x.f1,.int .i64 x.f2],rfl,rfl,⟨[.int .i64 x.f1],[.int .i64 x.f2],rfl,rfl,rfl⟩⟩
def Zbz (xs:List S121) (i:Int):S121:=xs.getD i.toNat z121
theorem Zda {w:World} {A:Option Addr} {n:Nat} {xs:List S121} (h:Kd.C k121 w A n xs) (i:Int) (h0:0≤i) (h1:i<n):∃ad ,A=some ad∧w.cell? (ad.add (i.toNat * 3))=some (.int .i64 (Zbz xs i).f0)∧w.cell? ⟨(ad.add (i.toNat * 3)).block,(ad.add (i.toNat * 3)).off+1,none⟩=some (.int .i64 (Zbz xs i).f1)∧w.cell? ⟨(ad.add (i.toNat * 3)).block,(ad.add (i.toNat * 3)).off+2,none⟩=some (.int .i64 (Zbz xs i).f2):=by
 obtain⟨ad,c,e,_,hK,hc0⟩:=Kd.C_get h z121 i h0 h1
 have hc:∀j u,c[j]? = some u→w.cell? (ad.add (i.toNat * 3+j))=some u:=hc0
 obtain rfl:=k121_open hK
 exact⟨ad,e,hc 0 _ rfl,by rw[← Zbj _ _ 1 (by omega)];exact hc 1 _ rfl,by rw[← Zbj _ _ 2 (by omega)];exact hc 2 _ rfl⟩
structure S91 where
 f0:Int
 f1:(List S121)
end Go.Proofs.YtoeimopgoaffcaaDoor.Pr
namespace Go.Proofs.YtoeimopgoaffcaaDoor.Op
open RowKit ChangeShapes WideShapes YtoeimopgoaffcaaDoorW.PrintWords
structure Zcl {α:Type} (P:Program) (d:Kd α) (t:TypeId) (ok:α→Prop):Prop where
 cells:P.cellsOf t=d.sz
 op:∀{H:Type} {enc:TypeId×Value→H} {w:World} {base fuel:Nat} {cs:List Value} {x:DataW H×List MemPlace},DataW.trod enc P w base (fun _=>true) true fuel t cs=some x→∃y,d.K w y cs∧ok y
theorem Zcl.int {P:Program} {t:TypeId} {k:IntKind} (ht:P.underlying t=some (.int k)) (hc:P.cellsOf t=1):Zcl P (Kd.int k) t (fun n=>(Lit.int k n).wf=true):=
 ⟨hc,fun h=>by
  obtain⟨n,rfl,_,hw⟩:=DataW.trod_int ht h
  exact⟨n,rfl,hw⟩⟩
theorem Zcl.bool {P:Program} {t:TypeId} (ht:P.underlying t=some .bool) (hc:P.cellsOf t=1):Zcl P Kd.bool t (fun _=>True):=
 ⟨hc,fun h=>by
  obtain⟨n,rfl,_⟩:=DataW.trod_bool ht h
  exact⟨n,rfl,trivial⟩⟩
theorem Zcl.string {P:Program} {t:TypeId} (ht:P.underlying t=some .string) (hc:P.cellsOf t=1):Zcl P Kd.string t (fun s=>s.size≤maxLen):=
 ⟨hc,fun h=>by
  obtain⟨n,rfl,_,hw⟩:=DataW.trod_string ht h
  exact⟨n,rfl,hw⟩⟩
theorem choose_list {β:Type} (Q:Nat→β→Prop) (n:Nat) (h:∀i,i<n→∃y,Q i y):∃l:List β,l.length=n∧∀i y,l[i]? = some y→Q i y:=by
 induction n with
 | zero=>exact⟨[],rfl,fun i y h=>by simp at h⟩
 | succ n ih=>
  obtain⟨l,hl,hq⟩:=ih (fun i hi=>h i (by omega))
  obtain⟨y,hy⟩:=h n (by omega)
  refine⟨l ++ [y],by simp[hl],fun i z hz=>?_⟩
  rcases Nat.lt_or_ge i l.length with hi|hi
  ·rw[List.getElem?_append_left hi] at hz
   exact hq i z hz
  ·have hlt:=(List.getElem?_eq_some_iff.1 hz).1
   rw[List.length_append,List.length_singleton] at hlt
   have e:i=l.length:=by omega
   subst e
   have hz':y=z:=by simpa using hz
   subst hz'
   rw[hl]
   exact hy
theorem Zcl.slice {α:Type} {P:Program} {d:Kd α} {t e:TypeId} {ok:α→Prop} (he:Zcl P d e ok) (ht:P.underlying t=some (.slice e)) (hc:P.cellsOf t=1) :
  Zcl P (Kd.slice e d) t (fun l=>l.length≤maxLen∧∀x∈l,ok x):=
 ⟨hc,fun {H enc w base fuel cs x} h=>by
  rcases DataW.trod_slice ht h with ⟨rfl,_⟩|⟨a,len,cap,elems,rest,n,_,rfl,_,hb,hl,hm,hlen,hel,_,_⟩
  ·exact⟨[],⟨none,0,rfl,Nat.le_refl _,rfl,by simp,fun h0=>absurd h0 (by simp)⟩,by simp⟩
  ·have key:∀i,i<len→∃y,ok y∧∃c,c.length=d.sz∧d.K w y c∧∀j u,c[j]? = some u→w.cell? (a.add (i * d.sz+j))=some u:=by
    intro i hi
    have hi':=hel i hi
    rw[Zl (by omega),Option.bind_eq_some_iff] at hi'
    obtain⟨cs',h1,h2⟩:=hi'
    obtain⟨y,hk,hy⟩:=he.op h2
    refine⟨y,hy,cs',d.K_len hk,hk,fun j u hu=>?_⟩
    have:=(World.cells?_some h1).2.2 j (by
     have:=(List.getElem?_eq_some_iff.1 hu).1
     rw[d.K_len hk] at this
     rw[he.cells];exact this)
    rw[he.cells] at this
    rw[Addr.add_add] at this
    rw[this,hu]
   obtain⟨l,hll,hq⟩:=choose_list _ len key
   refine⟨l,⟨some a,cap,by rw[hll],by omega,rfl,by rw[hll];simp only[maxLen] at hm;omega,fun h0=>⟨a,rfl,fun j p hj=>?_⟩⟩,by omega,fun x hx=>?_⟩
   ·obtain⟨_,hc'⟩:=hq j p hj
    exact hc'
   ·obtain⟨i,hi⟩:=List.getElem?_of_mem hx
    exact(hq i x hi).1⟩
end Go.Proofs.YtoeimopgoaffcaaDoor.Op
namespace Go.Proofs.YtoeimopgoaffcaaDoor.Pr
open RowKit YtoeimopgoaffcaaDoorW.PrintWords YtoeimopgoaffcaaDoorW.PrintLast YtoeimopgoaffcaaDoorW.PrintMore
attribute [local go_sem] Zat Zar ZaG ZaF Zal Zak Zas Zaq
set_option linter.unusedVariables false
set_option linter.unusedSimpArgs false
open Go.Proofs.YtoeimopgoaffcaaDoor.Op ChangeShapes WideShapes
section
variable {P:Program} {ops:Array Oper} {Q:Exit→Act→World→Prop} {md:Region.Mode} {S:World→Prop} {ds:List Nat}
theorem pu {fuel:Nat} {l:Array Bool} {a:Act} {w:World} (i:Nat) {N:Option Tmp} {oi:Oper} {v:Value} {l':Array Bool} {a':Act} (h:ZT P md ops Q S ds fuel l' a' w) (hi:ops[i]? = some oi:=by rfl) (hN:oi.dst=N:=by rfl)
  (_hl:l.setIfInBounds i true=l':=by(simp only[List.setIfInBounds_toArray,List.set_cons_zero,List.set_cons_succ];rfl)) (hc:anyB md ops l l' i=true:=by kernel_rfl) (hQ:∀c a w,Q (.panic c) (a.put oi.dst v) w→Q (.panic c) a w:=by exact fun _ _ _ h=>h)
  (hy:Yields P ops oi v a:=by(refine Or.inl ⟨by rfl,?_⟩;intro w';go_simp;with_reducible rfl)) (ha:a.put N v=a':=by(simp only[Act.put,List.setIfInBounds_toArray,List.set_cons_zero,List.set_cons_succ,i64_w,i32_w];rfl)):ZT P md ops Q S ds (fuel+1) l a w:=
 pure_ l' hi hN hc hQ hy ha h
theorem tk {fuel:Nat} {l:Array Bool} {a:Act} {w:World} (i:Nat) (hS:S w) {N:Option Tmp} {oi:Oper} {v:Value} {l':Array Bool} {a':Act} (h:ZT P md ops Q S ds fuel l' a' w) (hi:ops[i]? = some oi:=by rfl) (hN:oi.dst=N:=by rfl)
  (_hl:l.setIfInBounds i true=l':=by(simp only[List.setIfInBounds_toArray,List.set_cons_zero,List.set_cons_succ];rfl)) (hc:takeB md ops ds l l' i=true:=by kernel_rfl) (hQ:∀c a w,Q (.panic c) (a.put oi.dst v) w→Q (.panic c) a w:=by exact fun _ _ _ h=>h)
  (hy:YieldsIf P ops S oi v a:=by(refine Or.inl ⟨by rfl,?_⟩;intro w' hs_;go_simp;with_reducible rfl)) (ha:a.put N v=a':=by(simp only[Act.put,List.setIfInBounds_toArray,List.set_cons_zero,List.set_cons_succ,i64_w,i32_w];rfl)):ZT P md ops Q S ds (fuel+1) l a w:=
 take_ l' hi hN hc hQ hy hS ha h
theorem onl {fuel:Nat} {l:Array Bool} {a:Act} {w:World} (i:Nat) {N:Option Tmp} {oi:Oper} {l':Array Bool}
  (h:∀K:Act→World→Prop,Shut (∀a' w',S w'→(S w'→ZT P md ops Q S ds fuel l' a' w')→K a' w')→if Region.wanted oi (yielded ops a.tmps)=true then Oper.wp P oi a w K Q else K (a.put N undef) w) (hi:ops[i]? = some oi:=by rfl) (hN:oi.dst=N:=by rfl)
  (_hl:l.setIfInBounds i true=l':=by(simp only[List.setIfInBounds_toArray,List.set_cons_zero,List.set_cons_succ];rfl)) (hc:ZcQ md ops l l' i=true:=by kernel_rfl) (hd:i ∉ ds:=by decide):ZT P md ops Q S ds (fuel+1) l a w:=
 one_ l' hi hN hc hd h
theorem nrm {fuel:Nat} {l:Array Bool} {a:Act} {w:World} (N:Option Tmp) {v:Value} {a':Act} (h:ZT P md ops Q S ds fuel l a' w) (ha:a.put N v=a':=by(simp only[Act.put,List.setIfInBounds_toArray,List.set_cons_zero,List.set_cons_succ,i64_w,i32_w];rfl)):ZT P md ops Q S ds fuel l (a.put N v) w:=
 norm_ ha h
end
def TW (w : World) : Prop := Lib.TabBelow Tryd.prog w.heap.size w "internal/strconv.uint64pow10" .u64 Lib.pow10Tab
theorem TW.below {w w':World} (h:TW w) (hb:Below w.heap.size w w'):TW w':=fun w2 h2=>h w2 (hb.trans (h2.mono hb.size))
theorem var_below {P:Program} {w:World} {name:String} {cs:Array Value} (h:w.var? P name=some cs):∀w',Below w.heap.size w w'→w'.var? P name=some cs:=fun w' hb=>by
 unfold World.var? at *
 cases hg:P.globalNamed name with
 | none=>simp[hg] at h
 | some g=>
  simp only[hg,Zi] at h ⊢
  have hlt:g<w.heap.size:=by
   rcases Nat.lt_or_ge g w.heap.size with h'|h'
   ·exact h'
   ·rw[Array.getElem?_eq_none h'] at h;simp at h
  rw[hb.block g hlt]
  exact h
def EW (w : World) : Prop := (∃ tp p, ∀ w', Below w.heap.size w w' → w'.var? Tryd.prog "strconv.ErrSyntax" = some #[.iface tp p]) ∧ ∃ tp p, ∀ w', Below w.heap.size w w' → w'.var? Tryd.prog "strconv.ErrRange" = some #[.iface tp p]
theorem EW.below {w w':World} (h:EW w) (hb:Below w.heap.size w w'):EW w':=by
 obtain⟨⟨t1,p1,h1⟩,t2,p2,h2⟩:=h
 exact⟨⟨t1,p1,fun w2 h=>h1 w2 (hb.trans (h.mono hb.size))⟩,t2,p2,fun w2 h=>h2 w2 (hb.trans (h.mono hb.size))⟩
theorem EW.of {w : World} {t1 t2 : TypeId} {p1 p2 : Value} (h1 : w.var? Tryd.prog "strconv.ErrSyntax" = some #[.iface t1 p1]) (h2 : w.var? Tryd.prog "strconv.ErrRange" = some #[.iface t2 p2]) : EW w := ⟨⟨t1, p1, var_below h1⟩, t2, p2, var_below h2⟩
theorem R_spot {α:Type} {d:Kd α} {e n c:Nat} {w:World} {base:Nat} {ok:Nat→Prop} {A:Option Addr} {xs:List α} (h:d.R e w base ok (.slice A n c) xs):∀ad,A=some ad→ad.spot=none:=by
 intro ad hA
 obtain⟨_,inner,ho,_⟩:=h
 obtain⟨_,h2⟩:=ho
 rcases h2 with ⟨h3,_⟩|⟨g,c,cur,h3,_⟩
 ·injection h3 with h4;rw[hA] at h4;cases h4
 ·injection h3 with h4;rw[hA] at h4;cases h4;rfl
theorem add_spot (b o j:Nat):(⟨b,o,none⟩:Addr).add j=⟨b,o+j,none⟩:=by
 unfold Addr.add
 split
 ·rename_i h;subst h;rfl
 ·rfl
end Go.Proofs.YtoeimopgoaffcaaDoor.Pr
namespace Go.Proofs.YtoeimopgoaffcaaDoor.Ni
open RowKit YtoeimopgoaffcaaDoorW.PrintWords
theorem ZE {w W:World} (hb:Below w.heap.size w W) {a:Addr} {v:Value} (h:w.cell? a=some v):W.cell? a=some v:=(hb.cell (Zc w _ h)).trans h
theorem Z1 {i:Int} (h0 : -9223372036854775808≤i) (h:i≤9223372036854775807):wrap64 i=i:=by
 unfold wrap64;omega
theorem Z9 {i n:Nat} (h:i<n) (hn:n≤9223372036854775807):wrap64 ((i:Int)+1)=((i+1:Nat):Int):=by
 unfold wrap64;omega
theorem wrap_pred {i:Nat} (h:0<i) (hn:i≤9223372036854775807):wrap64 ((i:Int) - 1)=((i - 1:Nat):Int):=by
 unfold wrap64;omega
theorem Zbq (l:List Int) (i:Nat):rd l (i:Int)=l.getD i 0:=by unfold rd;rw[Int.toNat_natCast]
theorem Za2 {α:Type} {l:List α} {i:Nat} (h:i<l.length) (d:α):l.drop i=l.getD i d :: l.drop (i+1):=by
 rw[List.drop_eq_getElem_cons h,List.getD_eq_getElem?_getD,Zl h];rfl
theorem ZaY {α:Type} {l:List α} {i:Nat} (h:i<l.length) (d:α):l.getD i d∈l:=by
 rw[List.getD_eq_getElem?_getD,Zl h];exact List.getElem_mem h
theorem getD_some {α:Type} {l:List α} {i:Nat} (h:i<l.length) (d:α):l[i]? = some (l.getD i d):=by
 rw[List.getD_eq_getElem?_getD,Zl h];rfl
theorem Zc7 (n:Nat) (Q:Nat→Nat→Prop) (K:Nat) (hend:∀k,K≤k→Q (k+1) n) (hstep:∀k i,K≤k→i<n→Q k (i+1)→Q (k+1) i):∀(i k:Nat),i≤n→K+(n - i)<k→Q k i:=by
 have key:∀(d i k:Nat),i≤n→n - i=d→K+d<k→Q k i:=by
  intro d
  induction d with
  | zero=>
   intro i k hi hd hk
   obtain⟨m,rfl⟩:∃m,k=m+1:=⟨k - 1,by omega⟩
   obtain rfl:i=n:=by omega
   exact hend m (by omega)
  | succ d ih=>
   intro i k hi hd hk
   obtain⟨m,rfl⟩:∃m,k=m+1:=⟨k - 1,by omega⟩
   exact hstep m i (by omega) (by omega) (ih (i+1) m (by omega) (by omega) (by omega))
 intro i k hi hk
 exact key (n - i) i k hi rfl hk
theorem set_mid (pre:List Int) (x y:Int) (post:List Int):(pre ++ x :: post).set pre.length y=pre ++ y :: post:=by
 rw[List.set_append_right _ _ (Nat.le_refl _),Nat.sub_self,List.set_cons_zero]
def ZaK {α:Type} (p:α→Bool) (l:List α):Int:=match l.findIdx? p with|some i=>i|none=>-1
theorem ZbZ {α:Type} (p:α→Bool) (l:List α) (k:Nat) (x:α) (hk:l[k]? = some x) (hx:p x=true) (hb:∀j y,j<k→l[j]? = some y→p y=false):ZaK p l=(k:Int):=by
 have h:l.findIdx? p=some k:=by
  rw[List.findIdx?_eq_some_iff_getElem]
  obtain⟨hl,he⟩:=List.getElem?_eq_some_iff.1 hk
  refine⟨hl,by rw[he];exact hx,fun j hj=>?_⟩
  have:=hb j _ hj (Zl (by omega))
  simp[this]
 simp[ZaK,h]
theorem ZbP {α:Type} (p:α→Bool) (l:List α) (hb:∀j y,j<l.length→l[j]? = some y→p y=false):ZaK p l=-1:=by
 have h:l.findIdx? p=none:=by
  rw[List.findIdx?_eq_none_iff]
  intro x hx
  obtain⟨j,hj⟩:=List.getElem?_of_mem hx
  exact hb j x (List.getElem?_eq_some_iff.1 hj).1 hj
 simp[ZaK,h]
theorem Zce {α:Type} (p:α→Bool) (l:List α):decide (0≤ZaK p l)=l.any p:=by
 unfold ZaK
 cases h:l.findIdx? p with
 | some i=>
  rw[List.findIdx?_eq_some_iff_getElem] at h
  obtain⟨hl,hp,_⟩:=h
  have:l.any p=true:=List.any_eq_true.2 ⟨_,List.getElem_mem hl,hp⟩
  rw[this]
  exact Ze (Int.natCast_nonneg _)
 | none=>
  rw[List.findIdx?_eq_none_iff] at h
  have:l.any p=false:=by rw[List.any_eq_false];intro x hx;rw[h x hx];simp
  rw[this];rfl
theorem Zd8 {α:Type} (p:α→Bool) (l:List α) : -1≤ZaK p l∧ZaK p l<l.length:=by
 unfold ZaK
 cases h:l.findIdx? p with
 | some i=>
  rw[List.findIdx?_eq_some_iff_getElem] at h
  obtain⟨hl,_⟩:=h
  simp only;omega
 | none=>simp only;omega
def ZbC (x:Int):Bool:=!(x == 0) && decide (-3≤x) && decide (x≤3)
def prp (x:Int):Int:=if x<0 then -x else x
def ZbI (p:Int):List Int→Bool
 | []=>true
 | x :: t=>ZbC x && decide (p<prp x) && ZbI (prp x) t
def labB (l:List Int):Bool:=ZbI 0 l
def ZbM (l:List Int):Bool:=decide (l.length=3) && l.all (fun n=>decide (-1≤n) && decide (n≤1))
theorem Zcc (x:Int):ZbC x=true↔x≠0∧-3≤x∧x≤3:=by
 simp[ZbC,and_assoc]
theorem prp_pos {x:Int} (h:ZbC x=true):1≤prp x∧prp x≤3:=by
 have:=(Zcc x).1 h
 unfold prp;split <;> omega
def stFrom (v:List Int) (a:Int):List Int→Int
 | []=>a
 | x :: t=>stFrom v (min a (if x<0 then -(v.getD (prp x - 1).toNat 0) else v.getD (prp x - 1).toNat 0)) t
def stB (l v:List Int):Int:=stFrom v 1 l
end Go.Proofs.YtoeimopgoaffcaaDoor.Ni
namespace Go.Proofs.YtoeimopgoaffcaaDoor.Pr
open RowKit YtoeimopgoaffcaaDoorW.PrintWords YtoeimopgoaffcaaDoorW.PrintLast YtoeimopgoaffcaaDoorW.PrintMore
attribute [local go_sem] Zat Zar ZaG ZaF Zal Zak Zas Zaq
set_option linter.unusedVariables false
set_option linter.unusedSimpArgs false
open Ni
theorem ZcO.any (p:Int→Bool) (g:Nat) (lb:Array Value) (eg:∀args w,(callFunc g args).run Tryd.prog w=.ok (.enter g args) w) (A0:Option Addr) (c0:Nat) (l0:List Int) (w:World) (hr0:Kd.C (Kd.int .i64) w A0 l0.length l0)
  (hp:∀(W:World) (x:Int),x∈l0→Below w.heap.size w W→Calls Tryd.prog g (#[.int .i64 x] ++ lb) W fun e w'=>e=.returned (.bool (p x))∧Below W.heap.size W w') :
  Calls Tryd.prog 64 #[.slice A0 l0.length c0,.func (.func g) #[] lb] w fun e w'=>e=.returned (.int .i64 (ZaK p l0))∧Below w.heap.size w w':=by
 have HR0:=Za hr0;have HP:=Za hp;clear hr0 hp
 have HL:l0.length≤9223372036854775807:=HR0.out.2.1
 go_enter Tryd.func64,Tryd.ntmps64
 go_wp2
 go_loopg [5,8] l0.length (fun gg _ s8 wr=>∃kk:Nat,Aside0 (kk≤l0.length)∧Aside0 (l0.length - kk≤gg)∧s8=.int .i64 kk∧Aside0 (Below w.heap.size w wr)∧Aside0 (∀j y,j<kk→l0[j]? = some y→p y=false))
 case atStart=>exact⟨0,⟨Nat.zero_le _⟩,⟨by omega⟩,rfl,⟨Below.refl _ _⟩,⟨fun j y hj=>absurd hj (Nat.not_lt_zero _)⟩⟩
 case round=>
  obtain⟨kk,HK,HG,rfl,HB,HN⟩:=hrel
  by_cases hlt:kk<l0.length
  ·have hltz:(kk:Int)<(l0.length:Int):=by omega
   obtain⟨ad,e1,hx0⟩:=Kd.at_int HR0.out (kk:Int) (by omega) hltz
   cases e1
   replace hx0:=(HB.out.cell (Zc w _ hx0)).trans hx0
   rw[Int.toNat_natCast] at hx0
   have hxe:l0[kk]? = some (rd l0 (kk:Int)):=by
    unfold rd
    rw[Int.toNat_natCast,List.getD_eq_getElem?_getD,Zl hlt];rfl
   generalize rd l0 (kk:Int)=y at hx0 hxe
   have HX:=Za hxe;clear hxe
   have hcall:=HP.out wr y (List.mem_of_getElem? HX.out) HB.out
   cases hq:p y with
   | true=>
    have HQ:=Za hq
    rw[hq] at hcall
    clear hq
    go_wp2_with (go_at_fn g;refine hcall.mono ?_;rintro e w' ⟨rfl,hb⟩)
    go_ret
    exact⟨by rw[ZbZ p l0 kk y HX.out HQ.out HN.out];rfl,HB.out.trans (hb.mono HB.out.size)⟩
   | false=>
    have HQ:=Za hq
    rw[hq] at hcall
    clear hq
    go_wp2_with (go_at_fn g;refine hcall.mono ?_;rintro e w' ⟨rfl,hb⟩)
    go_roundg (l0.length - (kk+1))
    case measure=>have:=HG.out;omega
    case rel=>
     refine⟨kk+1,⟨by omega⟩,⟨by omega⟩,by go_num,⟨HB.out.trans (hb.mono HB.out.size)⟩,⟨fun j y' hj hy=>?_⟩⟩
     by_cases e:j=kk
     ·subst e
      rw[HX.out] at hy
      cases hy
      exact HQ.out
     ·exact HN.out j y' (by omega) hy
  ·have hltz:¬(kk:Int)<(l0.length:Int):=by omega
   have:kk=l0.length:=by have:=HK.out;omega
   subst this
   go_wp2
   go_ret
   exact⟨by rw[ZbP p l0 HN.out];rfl,HB.out⟩
theorem Zbp.any (p:Int→Bool) (g:Nat) (lb:Array Value) (eg:∀args w,(callFunc g args).run Tryd.prog w=.ok (.enter g args) w) (A0:Option Addr) (c0:Nat) (l0:List Int) (w:World) (hr0:Kd.C (Kd.int .i64) w A0 l0.length l0)
  (hp:∀(W:World) (x:Int),x∈l0→Below w.heap.size w W→Calls Tryd.prog g (#[.int .i64 x] ++ lb) W fun e w'=>e=.returned (.bool (p x))∧Below W.heap.size W w') :
  Calls Tryd.prog 32 #[.slice A0 l0.length c0,.func (.func g) #[] lb] w fun e w'=>e=.returned (.bool (l0.any p))∧Below w.heap.size w w':=by
 have HI:=Za (ZcO.any p g lb eg A0 c0 l0 w hr0 hp)
 clear hr0 hp
 have HE:=Za (Zce p l0)
 go_enter Tryd.func32,Tryd.ntmps32
 go_wp2_with (go_at_call 64;refine HI.out.mono ?_;rintro e w' ⟨rfl,hb⟩)
 go_ret
 exact⟨by rw[← HE.out];rfl,hb⟩
def ZbX.f (a0:Int):Option (Bool):=if a0<(-1) then(some true) else(some (decide (a0 > 1)))
theorem ZbX.calls (a0:Int) (r:Bool) (w:World) (h:ZbX.f a0=some r) :
  Calls Tryd.prog 41 #[.int .i64 a0] w fun e w'=>e=.returned (.bool r)∧ZQ w w':=by
 have H:(if a0<(-1) then(some true) else(some (decide (a0 > 1))))=some r:=h
 clear h
 by_cases c2:a0<(-1)
 ·rw[if_pos c2] at H
  have c2b0:decide (a0<(-1))=true:=Ze c2
  clear c2
  obtain rfl:=Zg H
  go_enter Tryd.func41,Tryd.ntmps41
  go_wp2
  go_ret
  exact⟨by first|rfl|(simp;done)|(simp[*];done),by repeat(first|exact ZQ.refl _|apply ZQ.step)⟩
 ·rw[if_neg c2] at H
  have c2b0:decide (a0<(-1))=false:=Zf c2
  clear c2
  obtain rfl:=Zg H
  go_enter Tryd.func41,Tryd.ntmps41
  go_wp2
  go_ret
  exact⟨by first|rfl|(simp;done)|(simp[*];done),by repeat(first|exact ZQ.refl _|apply ZQ.step)⟩
def Zbi.f (l0:List Int):Option Bool:=some (ZbM l0)
theorem Zbi.calls (A0:Option Addr) (c0:Nat) (l0:List Int) (r:Bool) (w:World) (hr0:Kd.C (Kd.int .i64) w A0 l0.length l0) (hc0:l0.length≤c0) (h:Zbi.f l0=some r) :
  Calls Tryd.prog 12 #[.slice A0 l0.length c0] w fun e w'=>e=.returned (.bool r)∧Below w.heap.size w w':=by
 obtain rfl:ZbM l0=r:=Zg h
 have hv:l0.length=3→(!(l0.any fun n=>decide (n < -1) || decide (n > 1)))=ZbM l0:=fun hl=>by
  unfold ZbM
  rw[Ze hl,Bool.true_and,List.not_any_eq_all_not]
  congr 1
  funext n
  rw[Bool.eq_iff_iff]
  simp
 have hn:¬l0.length=3→ZbM l0=false:=fun hl=>by simp[ZbM,hl]
 have HV:=Za hv;have HN:=Za hn
 have HC:=Za (Zbp.any (fun n=>decide (n < -1) || decide (n > 1)) 41 #[] (enters_of Tryd.func41 (by kernel_rfl) rfl) A0 c0 l0 w hr0
  (fun W x _ _=>(ZbX.calls x (decide (x < -1) || decide (x > 1)) W (by
   unfold ZbX.f
   by_cases h1:x < -1
   ·rw[if_pos h1,Ze h1];rfl
   ·rw[if_neg h1,Zf h1];rfl)).mono fun e w' ⟨he,hd⟩=>⟨he,hd.below⟩))
 clear hv hn h hr0 hc0
 by_cases hl:l0.length=3
 ·have h3:((l0.length:Int) == 3)=true:=by rw[beq_iff_eq];omega
  have HL:=Za hl;clear hl
  go_enter Tryd.func12,Tryd.ntmps12
  go_wp2_with (go_at_call 32;refine HC.out.mono ?_;rintro e w' ⟨rfl,hb⟩)
  go_ret
  exact⟨by rw[← HV.out HL.out];rfl,hb⟩
 ·have h3:((l0.length:Int) == 3)=false:=by rw[beq_eq_false_iff_ne];omega
  have HL:=Za hl;clear hl
  go_enter Tryd.func12,Tryd.ntmps12
  go_wp2
  go_ret
  exact⟨by rw[HN.out HL.out];rfl,Below.refl _ _⟩
def Zag.f (a0:Int):Option (Int):=some (mx a0 (wrap64 (-a0)))
theorem Zag.calls (a0:Int) (r:Int) (w:World) (h:Zag.f a0=some r) :
  Calls Tryd.prog 30 #[.int .i64 a0] w fun e w'=>e=.returned (.int .i64 r)∧Below w.heap.size w w':=by
 have HB:=Za (Below.refl w.heap.size w)
 have H:(some (mx a0 (wrap64 (-a0))))=some r:=h
 clear h
 obtain⟨ji2,hji2⟩:∃j_:Int,(mx a0 (wrap64 (-a0)))=j_:=⟨_,rfl⟩
 replace H:(some ji2)=some r:=by first|(rw[hji2] at H;exact H)|(simp only[hji2] at H ⊢;exact H)
 have hji2_:(if a0<(wrap64 (-a0)) then(wrap64 (-a0)) else a0)=ji2:=hji2
 obtain rfl:=Zg H
 go_enter Tryd.func30,Tryd.ntmps30
 go_wp2
 go_ret
 exact⟨by first|rfl|(simp[ZD,ZC] <;> rfl)|(simp only[← hji2];first|rfl|(simp[ZD,ZC] <;> rfl))|(simp[*,ZD,ZC] <;> rfl),by repeat(first|(with_reducible first|exact HB.out|apply Zn|apply Zm|apply Zp)|exact HB.out)⟩
def impl_holds.f (a0:Int) (l1:List Int):Option (Int):=(Zag.f a0).bind fun t1=>(if 0≤(wrap64 (t1 - 1)) then(if (wrap64 (t1 - 1))<(l1.length:Int) then(if a0<0 then(some (wrap64 (-(rd l1 (wrap64 (t1 - 1)))))) else(some (rd l1 (wrap64 (t1 - 1))))) else(none)) else(none))
theorem impl_holds.calls (a0:Int) (A1:Option Addr) (c1:Nat) (l1:List Int) (r:Int) (w:World) (hr1:Kd.C (Kd.int .i64) w A1 l1.length l1) (hc1:l1.length≤c1) (h:impl_holds.f a0 l1=some r) :
  Calls Tryd.prog 40 #[.int .i64 a0,.slice A1 l1.length c1] w fun e w'=>e=.returned (.int .i64 r)∧Below w.heap.size w w':=by
 have HR1:=Za hr1;have HC1:=Za hc1;clear hr1 hc1
 have HB:=Za (Below.refl w.heap.size w)
 have H:((Zag.f a0).bind fun t1=>(if 0≤(wrap64 (t1 - 1)) then(if (wrap64 (t1 - 1))<(l1.length:Int) then(if a0<0 then(some (wrap64 (-(rd l1 (wrap64 (t1 - 1)))))) else(some (rd l1 (wrap64 (t1 - 1))))) else(none)) else(none)))=some r:=h
 clear h
 replace H:=Zh H
 obtain⟨t1,A30,H⟩:=H
 replace H:(if 0≤(wrap64 (t1 - 1)) then(if (wrap64 (t1 - 1))<(l1.length:Int) then(if a0<0 then(some (wrap64 (-(rd l1 (wrap64 (t1 - 1)))))) else(some (rd l1 (wrap64 (t1 - 1))))) else(none)) else(none))=some r:=H
 have A3:=Za A30;clear A30
 obtain⟨ji4,hji4⟩:∃j_:Int,(wrap64 (t1 - 1))=j_:=⟨_,rfl⟩
 replace H:(if 0≤(ji4) then(if (ji4)<(l1.length:Int) then(if a0<0 then(some (wrap64 (-(rd l1 (ji4))))) else(some (rd l1 (ji4)))) else(none)) else(none))=some r:=by first|(rw[hji4] at H;exact H)|(simp only[hji4] at H ⊢;exact H)
 (try rw[hji4] at A3)
 have hji4w:(IntKind.i64.wrap (t1 - 1))=ji4:=(i64_w _).trans hji4
 by_cases c5:0≤(ji4)
 ·rw[if_pos c5] at H
  have c5b0:decide (0≤(ji4))=true:=Ze c5
  clear c5
  by_cases c6:(ji4)<(l1.length:Int)
  ·rw[if_pos c6] at H
   have c6b0:decide ((ji4)<(l1.length:Int))=true:=Ze c6
   clear c6
   by_cases c7:a0<0
   ·rw[if_pos c7] at H
    have c7b0:decide (a0<0)=true:=Ze c7
    clear c7
    obtain rfl:=Zg H
    go_enter Tryd.func40,Tryd.ntmps40
    go_wp2_with (first|((with_reducible refine ZU (f:=30) rfl ?_);refine Zaj (some 8) rfl rfl Tryd.func30 (by kernel_rfl) rfl #[.int .i64 a0] rfl (by(try simp only[List.map_toArray,List.map_cons,List.map_nil]);first|done|rfl|(simp only[Zk,Zj];rfl)) ?_;(with_reducible refine(Zag.calls a0 t1 _ A3.out).mono ?_);rintro e w8 ⟨rfl,hb⟩;refine⟨_,rfl,?_⟩;replace HB:=Za (Zx (by repeat(first|(with_reducible first|exact HB.out|apply Zn|apply Zm|apply Zp)|exact HB.out)) hb);(try clear hb);(try clear hb2);(try clear hk);(try clear hi);have p2:0≤((ji4):Int):=Zd (by first|(with_reducible assumption)|assumption);have q2:(ji4)<(l1.length:Int):=Zd (by first|(with_reducible assumption)|assumption);obtain⟨ad2,e2,hx2_0⟩:=Kd.at_int HR1.out (ji4) p2 q2;cases e2;replace hx2_0:=(HB.out.cell (Zc w _ hx2_0)).trans hx2_0;replace p2:=eq_true p2;replace q2:=eq_true q2))
    go_ret
    exact⟨by first|rfl|(simp[ZD,ZC] <;> rfl)|(simp only[← hji4];first|rfl|(simp[ZD,ZC] <;> rfl))|(simp[*,ZD,ZC] <;> rfl),by repeat(first|(with_reducible first|exact HB.out|apply Zn|apply Zm|apply Zp)|exact HB.out)⟩
   ·rw[if_neg c7] at H
    have c7b0:decide (a0<0)=false:=Zf c7
    clear c7
    obtain rfl:=Zg H
    go_enter Tryd.func40,Tryd.ntmps40
    go_wp2_with (first|((with_reducible refine ZU (f:=30) rfl ?_);refine Zaj (some 8) rfl rfl Tryd.func30 (by kernel_rfl) rfl #[.int .i64 a0] rfl (by(try simp only[List.map_toArray,List.map_cons,List.map_nil]);first|done|rfl|(simp only[Zk,Zj];rfl)) ?_;(with_reducible refine(Zag.calls a0 t1 _ A3.out).mono ?_);rintro e w9 ⟨rfl,hb⟩;refine⟨_,rfl,?_⟩;replace HB:=Za (Zx (by repeat(first|(with_reducible first|exact HB.out|apply Zn|apply Zm|apply Zp)|exact HB.out)) hb);(try clear hb);(try clear hb2);(try clear hk);(try clear hi);have p2:0≤((ji4):Int):=Zd (by first|(with_reducible assumption)|assumption);have q2:(ji4)<(l1.length:Int):=Zd (by first|(with_reducible assumption)|assumption);obtain⟨ad2,e2,hx2_0⟩:=Kd.at_int HR1.out (ji4) p2 q2;cases e2;replace hx2_0:=(HB.out.cell (Zc w _ hx2_0)).trans hx2_0;replace p2:=eq_true p2;replace q2:=eq_true q2))
    go_ret
    exact⟨by first|rfl|(simp[ZD,ZC] <;> rfl)|(simp only[← hji4];first|rfl|(simp[ZD,ZC] <;> rfl))|(simp[*,ZD,ZC] <;> rfl),by repeat(first|(with_reducible first|exact HB.out|apply Zn|apply Zm|apply Zp)|exact HB.out)⟩
  ·rw[if_neg c6] at H
   exact absurd H (by simp)
 ·rw[if_neg c5] at H
  exact absurd H (by simp)
def ZV.l0:Nat→List Int→List Int→Int→Int→Option (Bool)
 | 0,_,_,_,_=>none
 | k+1,x0,x5,x6,x7=>if x7<x6 then(if 0≤x7 then(if x7<(x5.length:Int) then(if (rd x5 x7)=0 then(some false) else(if (rd x5 x7)<(-3) then(some false) else(if (rd x5 x7) > 3 then(some false) else(if x7 > 0 then(if 0≤(wrap64 (x7 - 1)) then(if (wrap64 (x7 - 1))<(x0.length:Int) then((Zag.f (rd x0 (wrap64 (x7 - 1)))).bind fun t8003=>((Zag.f (rd x5 x7)).bind fun t8004=>(if t8003≥t8004 then(some false) else(ZV.l0 k x0 x5 x6 (wrap64 (x7+1)))))) else(none)) else(none)) else(ZV.l0 k x0 x5 x6 (wrap64 (x7+1))))))) else(none)) else(none)) else(some true)
def ZV.f (k:Nat) (l0:List Int):Option (Bool):=ZV.l0 k l0 l0 (l0.length:Int) 0
theorem ZV.calls (k:Nat) (A0:Option Addr) (c0:Nat) (l0:List Int) (r:Bool) (w:World) (hr0:Kd.C (Kd.int .i64) w A0 l0.length l0) (hc0:l0.length≤c0) (h:ZV.f k l0=some r) :
  Calls Tryd.prog 8 #[.slice A0 l0.length c0] w fun e w'=>e=.returned (.bool r)∧Below w.heap.size w w':=by
 have HR0:=Za hr0;have HC0:=Za hc0;clear hr0 hc0
 have HB:=Za (Below.refl w.heap.size w)
 have H:(ZV.l0 k l0 l0 (l0.length:Int) 0)=some r:=h
 clear h
 have H':=Za H
 clear H
 go_enter Tryd.func8,Tryd.ntmps8
 go_wp2
 go_loopg [7] k (fun kq v7 w'=>∃(x7_1:Int),v7=.int .i64 x7_1∧Aside0 (ZV.l0 kq l0 l0 (l0.length:Int) x7_1=some r)∧Aside0 (kq≤k)∧Aside0 (Below w.heap.size w w'))
 case atStart=>exact⟨(0),(by first|rfl|(simp;done)|(simp[*];done)),H',⟨Nat.le_refl _⟩,⟨by repeat(first|(with_reducible first|exact HB.out|apply Zn|apply Zm|apply Zp)|exact HB.out)⟩⟩
 case round=>
  clear H'
  obtain⟨x7_1,rfl,HA,HK1,HB⟩:=hrel
  cases gk with
  | zero=>exact absurd HA.out (by simp[ZV.l0])
  | succ k1=>
   have H:=HA.out
   clear HA
   simp only[ZV.l0] at H
   by_cases c2:x7_1<(l0.length:Int)
   ·rw[if_pos c2] at H
    have c2b0:decide (x7_1<(l0.length:Int))=true:=Ze c2
    clear c2
    by_cases c3:0≤x7_1
    ·rw[if_pos c3] at H
     have c3b0:decide (0≤x7_1)=true:=Ze c3
     clear c3
     by_cases c4:x7_1<(l0.length:Int)
     ·rw[if_pos c4] at H
      have c4b0:decide (x7_1<(l0.length:Int))=true:=Ze c4
      clear c4
      by_cases c5:(rd l0 x7_1)=0
      ·rw[if_pos c5] at H
       have c5b0:((rd l0 x7_1) == 0)=true:=beq_iff_eq.mpr c5
       have c5b1:((rd l0 x7_1) != 0)=false:=bne_eq_false_iff_eq.mpr c5
       clear c5
       obtain rfl:=Zg H
       have p8001:0≤(x7_1:Int):=Zd (by first|(with_reducible assumption)|assumption)
       have q8001:x7_1<(l0.length:Int):=Zd (by first|(with_reducible assumption)|assumption)
       obtain⟨ad8001,e8001,hx8001_0⟩:=Kd.at_int HR0.out x7_1 p8001 q8001
       cases e8001
       replace hx8001_0:=(HB.out.cell (Zc w _ hx8001_0)).trans hx8001_0
       replace p8001:=eq_true p8001
       replace q8001:=eq_true q8001
       go_wp2
       go_ret
       exact⟨by first|rfl|(simp[ZD,ZC] <;> rfl)|(simp[*,ZD,ZC] <;> rfl),by repeat(first|(with_reducible first|exact HB.out|apply Zn|apply Zm|apply Zp)|exact HB.out)⟩
      ·rw[if_neg c5] at H
       have c5b0:((rd l0 x7_1) == 0)=false:=beq_eq_false_iff_ne.mpr c5
       have c5b1:((rd l0 x7_1) != 0)=true:=bne_iff_ne.mpr c5
       by_cases c6:(rd l0 x7_1)<(-3)
       ·rw[if_pos c6] at H
        have c6b0:decide ((rd l0 x7_1)<(-3))=true:=Ze c6
        clear c6
        obtain rfl:=Zg H
        have p8001:0≤(x7_1:Int):=Zd (by first|(with_reducible assumption)|assumption)
        have q8001:x7_1<(l0.length:Int):=Zd (by first|(with_reducible assumption)|assumption)
        obtain⟨ad8001,e8001,hx8001_0⟩:=Kd.at_int HR0.out x7_1 p8001 q8001
        cases e8001
        replace hx8001_0:=(HB.out.cell (Zc w _ hx8001_0)).trans hx8001_0
        replace p8001:=eq_true p8001
        replace q8001:=eq_true q8001
        go_wp2
        go_ret
        exact⟨by first|rfl|(simp[ZD,ZC] <;> rfl)|(simp[*,ZD,ZC] <;> rfl),by repeat(first|(with_reducible first|exact HB.out|apply Zn|apply Zm|apply Zp)|exact HB.out)⟩
       ·rw[if_neg c6] at H
        have c6b0:decide ((rd l0 x7_1)<(-3))=false:=Zf c6
        clear c6
        by_cases c7:(rd l0 x7_1) > 3
        ·rw[if_pos c7] at H
         have c7b0:decide (3<(rd l0 x7_1))=true:=Ze c7
         clear c7
         obtain rfl:=Zg H
         have p8001:0≤(x7_1:Int):=Zd (by first|(with_reducible assumption)|assumption)
         have q8001:x7_1<(l0.length:Int):=Zd (by first|(with_reducible assumption)|assumption)
         obtain⟨ad8001,e8001,hx8001_0⟩:=Kd.at_int HR0.out x7_1 p8001 q8001
         cases e8001
         replace hx8001_0:=(HB.out.cell (Zc w _ hx8001_0)).trans hx8001_0
         replace p8001:=eq_true p8001
         replace q8001:=eq_true q8001
         go_wp2
         go_ret
         exact⟨by first|rfl|(simp[ZD,ZC] <;> rfl)|(simp[*,ZD,ZC] <;> rfl),by repeat(first|(with_reducible first|exact HB.out|apply Zn|apply Zm|apply Zp)|exact HB.out)⟩
        ·rw[if_neg c7] at H
         have c7b0:decide (3<(rd l0 x7_1))=false:=Zf c7
         clear c7
         by_cases c8:x7_1 > 0
         ·rw[if_pos c8] at H
          have c8b0:decide (0<x7_1)=true:=Ze c8
          clear c8
          obtain⟨ji9,hji9⟩:∃j_:Int,(wrap64 (x7_1 - 1))=j_:=⟨_,rfl⟩
          replace H:(if 0≤(ji9) then(if (ji9)<(l0.length:Int) then((Zag.f (rd l0 (ji9))).bind fun t8003=>((Zag.f (rd l0 x7_1)).bind fun t8004=>(if t8003≥t8004 then(some false) else(ZV.l0 k1 l0 l0 (l0.length:Int) (wrap64 (x7_1+1)))))) else(none)) else(none))=some r:=by first|(rw[hji9] at H;exact H)|(simp only[hji9] at H ⊢;exact H)
          have hji9w:(IntKind.i64.wrap (x7_1 - 1))=ji9:=(i64_w _).trans hji9
          by_cases c10:0≤(ji9)
          ·rw[if_pos c10] at H
           have c10b0:decide (0≤(ji9))=true:=Ze c10
           clear c10
           by_cases c11:(ji9)<(l0.length:Int)
           ·rw[if_pos c11] at H
            have c11b0:decide ((ji9)<(l0.length:Int))=true:=Ze c11
            clear c11
            replace H:=Zh H
            obtain⟨t8003,A120,H⟩:=H
            replace H:((Zag.f (rd l0 x7_1)).bind fun t8004=>(if t8003≥t8004 then(some false) else(ZV.l0 k1 l0 l0 (l0.length:Int) (wrap64 (x7_1+1)))))=some r:=H
            have A12:=Za A120;clear A120
            replace H:=Zh H
            obtain⟨t8004,A130,H⟩:=H
            replace H:(if t8003≥t8004 then(some false) else(ZV.l0 k1 l0 l0 (l0.length:Int) (wrap64 (x7_1+1))))=some r:=H
            have A13:=Za A130;clear A130
            by_cases c14:t8003≥t8004
            ·rw[if_pos c14] at H
             have c14b0:decide (t8004≤t8003)=true:=Ze c14
             clear c14
             obtain rfl:=Zg H
             have p8001:0≤(x7_1:Int):=Zd (by first|(with_reducible assumption)|assumption)
             have q8001:x7_1<(l0.length:Int):=Zd (by first|(with_reducible assumption)|assumption)
             obtain⟨ad8001,e8001,hx8001_0⟩:=Kd.at_int HR0.out x7_1 p8001 q8001
             cases e8001
             replace hx8001_0:=(HB.out.cell (Zc w _ hx8001_0)).trans hx8001_0
             replace p8001:=eq_true p8001
             replace q8001:=eq_true q8001
             have p8002:0≤((ji9):Int):=Zd (by first|(with_reducible assumption)|assumption)
             have q8002:(ji9)<(l0.length:Int):=Zd (by first|(with_reducible assumption)|assumption)
             obtain⟨ad8002,e8002,hx8002_0⟩:=Kd.at_int HR0.out (ji9) p8002 q8002
             obtain rfl:ad8001=ad8002:=(by injection e8002)
             replace hx8002_0:=(HB.out.cell (Zc w _ hx8002_0)).trans hx8002_0
             replace p8002:=eq_true p8002
             replace q8002:=eq_true q8002
             go_wp2_with (first|(go_at_call 30;(with_reducible refine(Zag.calls (rd l0 (ji9)) t8003 _ A12.out).mono ?_);rintro e w15 ⟨rfl,hb⟩;replace HB:=Za (Zx (by repeat(first|(with_reducible first|exact HB.out|apply Zn|apply Zm|apply Zp)|exact HB.out)) hb);(try clear hb);(try clear hb2);(try clear hk);(try clear hi))|(go_at_call 30;(with_reducible refine(Zag.calls (rd l0 x7_1) t8004 _ A13.out).mono ?_);rintro e w16 ⟨rfl,hb⟩;replace HB:=Za (Zx (by repeat(first|(with_reducible first|exact HB.out|apply Zn|apply Zm|apply Zp)|exact HB.out)) hb);(try clear hb);(try clear hb2);(try clear hk);(try clear hi)))
             go_ret
             exact⟨by first|rfl|(simp[ZD,ZC] <;> rfl)|(simp only[← hji9];first|rfl|(simp[ZD,ZC] <;> rfl))|(simp[*,ZD,ZC] <;> rfl),by repeat(first|(with_reducible first|exact HB.out|apply Zn|apply Zm|apply Zp)|exact HB.out)⟩
            ·rw[if_neg c14] at H
             have c14b0:decide (t8004≤t8003)=false:=Zf c14
             clear c14
             have H':=Za H
             clear H
             have p8001:0≤(x7_1:Int):=Zd (by first|(with_reducible assumption)|assumption)
             have q8001:x7_1<(l0.length:Int):=Zd (by first|(with_reducible assumption)|assumption)
             obtain⟨ad8001,e8001,hx8001_0⟩:=Kd.at_int HR0.out x7_1 p8001 q8001
             cases e8001
             replace hx8001_0:=(HB.out.cell (Zc w _ hx8001_0)).trans hx8001_0
             replace p8001:=eq_true p8001
             replace q8001:=eq_true q8001
             have p8002:0≤((ji9):Int):=Zd (by first|(with_reducible assumption)|assumption)
             have q8002:(ji9)<(l0.length:Int):=Zd (by first|(with_reducible assumption)|assumption)
             obtain⟨ad8002,e8002,hx8002_0⟩:=Kd.at_int HR0.out (ji9) p8002 q8002
             obtain rfl:ad8001=ad8002:=(by injection e8002)
             replace hx8002_0:=(HB.out.cell (Zc w _ hx8002_0)).trans hx8002_0
             replace p8002:=eq_true p8002
             replace q8002:=eq_true q8002
             go_wp2_with (first|(go_at_call 30;(with_reducible refine(Zag.calls (rd l0 (ji9)) t8003 _ A12.out).mono ?_);rintro e w17 ⟨rfl,hb⟩;replace HB:=Za (Zx (by repeat(first|(with_reducible first|exact HB.out|apply Zn|apply Zm|apply Zp)|exact HB.out)) hb);(try clear hb);(try clear hb2);(try clear hk);(try clear hi))|(go_at_call 30;(with_reducible refine(Zag.calls (rd l0 x7_1) t8004 _ A13.out).mono ?_);rintro e w18 ⟨rfl,hb⟩;replace HB:=Za (Zx (by repeat(first|(with_reducible first|exact HB.out|apply Zn|apply Zm|apply Zp)|exact HB.out)) hb);(try clear hb);(try clear hb2);(try clear hk);(try clear hi)))
             go_roundg k1
             case measure=>have:=HK1.out;omega
             case rel=>exact⟨(wrap64 (x7_1+1)),(by first|rfl|(simp;done)|(simp[*];done)),H',⟨by have:=HK1.out;omega⟩,⟨by repeat(first|(with_reducible first|exact HB.out|apply Zn|apply Zm|apply Zp)|exact HB.out)⟩⟩
           ·rw[if_neg c11] at H
            exact absurd H (by simp)
          ·rw[if_neg c10] at H
           exact absurd H (by simp)
         ·rw[if_neg c8] at H
          have c8b0:decide (0<x7_1)=false:=Zf c8
          clear c8
          have H':=Za H
          clear H
          have p8001:0≤(x7_1:Int):=Zd (by first|(with_reducible assumption)|assumption)
          have q8001:x7_1<(l0.length:Int):=Zd (by first|(with_reducible assumption)|assumption)
          obtain⟨ad8001,e8001,hx8001_0⟩:=Kd.at_int HR0.out x7_1 p8001 q8001
          cases e8001
          replace hx8001_0:=(HB.out.cell (Zc w _ hx8001_0)).trans hx8001_0
          replace p8001:=eq_true p8001
          replace q8001:=eq_true q8001
          go_wp2
          go_roundg k1
          case measure=>have:=HK1.out;omega
          case rel=>exact⟨(wrap64 (x7_1+1)),(by first|rfl|(simp;done)|(simp[*];done)),H',⟨by have:=HK1.out;omega⟩,⟨by repeat(first|(with_reducible first|exact HB.out|apply Zn|apply Zm|apply Zp)|exact HB.out)⟩⟩
     ·rw[if_neg c4] at H
      exact absurd H (by simp)
    ·rw[if_neg c3] at H
     exact absurd H (by simp)
   ·rw[if_neg c2] at H
    have c2b0:decide (x7_1<(l0.length:Int))=false:=Zf c2
    clear c2
    obtain rfl:=Zg H
    go_wp2
    go_ret
    exact⟨by first|rfl|(simp[ZD,ZC] <;> rfl)|(simp[*,ZD,ZC] <;> rfl),by repeat(first|(with_reducible first|exact HB.out|apply Zn|apply Zm|apply Zp)|exact HB.out)⟩
mutual
def ZM.j0:Nat→List Int→List Int→Bool→Option (Int)
 | 0,_,_,_=>none
 | k+1,x0,x1,x15=>if x15=true then(some (-1)) else(ZM.l0 k x1 1 x0 (x0.length:Int) 0)
def ZM.l0:Nat→List Int→Int→List Int→Int→Int→Option (Int)
 | 0,_,_,_,_,_=>none
 | k+1,x1,x5,x16,x17,x18=>if x18<x17 then(if 0≤x18 then(if x18<(x16.length:Int) then((impl_holds.f (rd x16 x18) x1).bind fun t4=>(ZM.l0 k x1 (mn x5 t4) x16 x17 (wrap64 (x18+1)))) else(none)) else(none)) else(some x5)
end
def ZM.f (k:Nat) (l0:List Int) (l1:List Int):Option (Int):=(ZV.f k l0).bind fun t1=>(if t1=true then((Zbi.f l1).bind fun t2=>(ZM.j0 k l0 l1 (!t2))) else(ZM.j0 k l0 l1 true))
theorem ZM.calls (k:Nat) (A0:Option Addr) (c0:Nat) (l0:List Int) (A1:Option Addr) (c1:Nat) (l1:List Int) (r:Int) (w:World) (hr0:Kd.C (Kd.int .i64) w A0 l0.length l0) (hc0:l0.length≤c0) (hr1:Kd.C (Kd.int .i64) w A1 l1.length l1) (hc1:l1.length≤c1) (h:ZM.f k l0 l1=some r) :
  Calls Tryd.prog 11 #[.slice A0 l0.length c0,.slice A1 l1.length c1] w fun e w'=>e=.returned (.int .i64 r)∧Below w.heap.size w w':=by
 have HR0:=Za hr0;have HC0:=Za hc0;clear hr0 hc0;have HR1:=Za hr1;have HC1:=Za hc1;clear hr1 hc1
 have HB:=Za (Below.refl w.heap.size w)
 have H:((ZV.f k l0).bind fun t1=>(if t1=true then((Zbi.f l1).bind fun t2=>(ZM.j0 k l0 l1 (!t2))) else(ZM.j0 k l0 l1 true)))=some r:=h
 clear h;have HC3:=Za H;clear H
 go_enter Tryd.func11,Tryd.ntmps11
 go_upto_region 1 with (fail)
 go_cut [15] (fun v15 wc=>∃(kq:Nat) (x15_2:Bool),v15=.bool x15_2∧Aside0 (ZM.j0 kq l0 l1 x15_2=some r)∧Aside0 (kq≤k)∧Aside0 (Below w.heap.size w wc))
 case first=>
  have H:=HC3.out
  clear HC3
  replace H:=Zh H
  obtain⟨t1,A40,H⟩:=H
  replace H:(if t1=true then((Zbi.f l1).bind fun t2=>(ZM.j0 k l0 l1 (!t2))) else(ZM.j0 k l0 l1 true))=some r:=H
  have A4:=Za A40;clear A40
  by_cases c5:t1=true
  ·subst c5
   have H1:((Zbi.f l1).bind fun t2=>(ZM.j0 k l0 l1 (!t2)))=some r:=by rw[if_pos rfl] at H;exact H
   clear H
   have H:=H1
   clear H1
   replace H:=Zh H
   obtain⟨t2,A60,H⟩:=H
   replace H:(ZM.j0 k l0 l1 (!t2))=some r:=H
   have A6:=Za A60;clear A60
   have H':=Za H
   clear H
   go_wp2_with (first|((with_reducible refine ZU (f:=8) rfl ?_);refine Zaj (some 9) rfl rfl Tryd.func8 (by kernel_rfl) rfl #[.slice A0 l0.length c0] rfl (by(try simp only[List.map_toArray,List.map_cons,List.map_nil]);first|done|rfl|(simp only[Zk,Zj];rfl)) ?_;(with_reducible refine(ZV.calls k _ _ l0 true _ ?side1 ?side2 A4.out).mono ?_);(case side1=>repeat(first|exact(Zb HR0.out HB.out)|(with_reducible refine Kd.C_alloc ?_ _)|(with_reducible refine Kd.C_drewN ?_ _)|(with_reducible refine Kd.C_drew ?_)));(case side2=>exact HC0.out);rintro e w7 ⟨rfl,hb⟩;refine⟨_,rfl,?_⟩;replace HB:=Za (Zx (by repeat(first|(with_reducible first|exact HB.out|apply Zn|apply Zm|apply Zp)|exact HB.out)) hb);(try clear hb);(try clear hb2);(try clear hk);(try clear hi))|(go_at_call 12;(with_reducible refine(Zbi.calls _ _ l1 t2 _ ?side1 ?side2 A6.out).mono ?_);(case side1=>repeat(first|exact(Zb HR1.out HB.out)|(with_reducible refine Kd.C_alloc ?_ _)|(with_reducible refine Kd.C_drewN ?_ _)|(with_reducible refine Kd.C_drew ?_)));(case side2=>exact HC1.out);rintro e w8 ⟨rfl,hb⟩;replace HB:=Za (Zx (by repeat(first|(with_reducible first|exact HB.out|apply Zn|apply Zm|apply Zp)|exact HB.out)) hb);(try clear hb);(try clear hb2);(try clear hk);(try clear hi)))
   go_meet
   case rel=>exact⟨_,(!t2),(by first|rfl|(simp;done)|(simp[*];done)),H',⟨by first|omega|exact Nat.le_refl _⟩,⟨by repeat(first|(with_reducible first|exact HB.out|apply Zn|apply Zm|apply Zp)|exact HB.out)⟩⟩
  ·replace c5:=Bool.eq_false_iff.mpr c5
   subst c5
   have H1:(ZM.j0 k l0 l1 true)=some r:=by rw[if_neg (show ¬(false=true) by decide)] at H;exact H
   clear H
   have H:=H1
   clear H1
   have H':=Za H
   clear H
   go_wp2_with (first|((with_reducible refine ZU (f:=8) rfl ?_);refine Zaj (some 9) rfl rfl Tryd.func8 (by kernel_rfl) rfl #[.slice A0 l0.length c0] rfl (by(try simp only[List.map_toArray,List.map_cons,List.map_nil]);first|done|rfl|(simp only[Zk,Zj];rfl)) ?_;(with_reducible refine(ZV.calls k _ _ l0 false _ ?side1 ?side2 A4.out).mono ?_);(case side1=>repeat(first|exact(Zb HR0.out HB.out)|(with_reducible refine Kd.C_alloc ?_ _)|(with_reducible refine Kd.C_drewN ?_ _)|(with_reducible refine Kd.C_drew ?_)));(case side2=>exact HC0.out);rintro e w9 ⟨rfl,hb⟩;refine⟨_,rfl,?_⟩;replace HB:=Za (Zx (by repeat(first|(with_reducible first|exact HB.out|apply Zn|apply Zm|apply Zp)|exact HB.out)) hb);(try clear hb);(try clear hb2);(try clear hk);(try clear hi)))
   go_meet
   case rel=>exact⟨_,(true),(by first|rfl|(simp;done)|(simp[*];done)),H',⟨by first|omega|exact Nat.le_refl _⟩,⟨by repeat(first|(with_reducible first|exact HB.out|apply Zn|apply Zm|apply Zp)|exact HB.out)⟩⟩
 case rest=>
  clear HC3
  try clear c1
  try clear p2
  try clear c5
  try clear c8
  obtain⟨kq,x15_2,rfl,HA,HJ2,HB⟩:=hcut
  cases kq with
  | zero=>exact absurd HA.out (by simp[ZM.j0])
  | succ kj2=>
   have H:=HA.out
   clear HA
   simp only[ZM.j0] at H
   by_cases c10:x15_2=true
   ·subst c10
    have H1:(some (-1))=some r:=by rw[if_pos rfl] at H;exact H
    clear H
    have H:=H1
    clear H1
    obtain rfl:=Zg H
    go_wp2
    go_ret
    exact⟨by first|rfl|(simp[ZD,ZC] <;> rfl)|(simp[*,ZD,ZC] <;> rfl),by repeat(first|(with_reducible first|exact HB.out|apply Zn|apply Zm|apply Zp)|exact HB.out)⟩
   ·replace c10:=Bool.eq_false_iff.mpr c10
    subst c10
    have H1:(ZM.l0 kj2 l1 1 l0 (l0.length:Int) 0)=some r:=by rw[if_neg (show ¬(false=true) by decide)] at H;exact H
    clear H
    have H:=H1
    clear H1
    have H':=Za H
    clear H
    go_wp2
    go_loopg [5,18] kj2 (fun kq v5 v18 w'=>∃(x5_2:Int) (x18_2:Int),v5=.int .i64 x5_2∧v18=.int .i64 x18_2∧Aside0 (ZM.l0 kq l1 x5_2 l0 (l0.length:Int) x18_2=some r)∧Aside0 (kq≤kj2)∧Aside0 (Below w.heap.size w w'))
    case atStart=>exact⟨(1),(0),(by first|rfl|(simp;done)|(simp[*];done)),(by first|rfl|(simp;done)|(simp[*];done)),H',⟨Nat.le_refl _⟩,⟨by repeat(first|(with_reducible first|exact HB.out|apply Zn|apply Zm|apply Zp)|exact HB.out)⟩⟩
    case round=>
     clear H'
     try clear c1
     try clear p2
     try clear c5
     try clear c8
     try clear c10
     try clear p2
     obtain⟨x5_2,x18_2,rfl,rfl,HA,HK2,HB⟩:=hrel
     cases gk with
     | zero=>exact absurd HA.out (by simp[ZM.l0])
     | succ k2=>
      have H:=HA.out
      clear HA
      simp only[ZM.l0] at H
      by_cases c11:x18_2<(l0.length:Int)
      ·rw[if_pos c11] at H
       have c11b0:decide (x18_2<(l0.length:Int))=true:=Ze c11
       clear c11
       by_cases c12:0≤x18_2
       ·rw[if_pos c12] at H
        have c12b0:decide (0≤x18_2)=true:=Ze c12
        clear c12
        by_cases c13:x18_2<(l0.length:Int)
        ·rw[if_pos c13] at H
         have c13b0:decide (x18_2<(l0.length:Int))=true:=Ze c13
         clear c13
         replace H:=Zh H
         obtain⟨t4,A140,H⟩:=H
         replace H:(ZM.l0 k2 l1 (mn x5_2 t4) l0 (l0.length:Int) (wrap64 (x18_2+1)))=some r:=H
         have A14:=Za A140;clear A140
         obtain⟨ji15,hji15⟩:∃j_:Int,(mn x5_2 t4)=j_:=⟨_,rfl⟩
         replace H:(ZM.l0 k2 l1 ji15 l0 (l0.length:Int) (wrap64 (x18_2+1)))=some r:=by first|(rw[hji15] at H;exact H)|(simp only[hji15] at H ⊢;exact H)
         (try rw[hji15] at A14)
         have hji15_:(if t4<x5_2 then t4 else x5_2)=ji15:=hji15
         have H':=Za H
         clear H
         have p3:0≤(x18_2:Int):=Zd (by first|(with_reducible assumption)|assumption)
         have q3:x18_2<(l0.length:Int):=Zd (by first|(with_reducible assumption)|assumption)
         obtain⟨ad3,e3,hx3_0⟩:=Kd.at_int HR0.out x18_2 p3 q3
         cases e3
         replace hx3_0:=(HB.out.cell (Zc w _ hx3_0)).trans hx3_0
         replace p3:=eq_true p3
         replace q3:=eq_true q3
         go_wp2_with (first|((with_reducible refine ZU (f:=40) rfl ?_);refine Zaj (some 25) rfl rfl Tryd.func40 (by kernel_rfl) rfl #[.int .i64 (rd l0 x18_2),.slice A1 l1.length c1] rfl (by(try simp only[List.map_toArray,List.map_cons,List.map_nil]);first|done|rfl|(simp only[Zk,Zj];rfl)) ?_;(with_reducible refine(impl_holds.calls (rd l0 x18_2) _ _ l1 t4 _ ?side1 ?side2 A14.out).mono ?_);(case side1=>repeat(first|exact(Zb HR1.out HB.out)|(with_reducible refine Kd.C_alloc ?_ _)|(with_reducible refine Kd.C_drewN ?_ _)|(with_reducible refine Kd.C_drew ?_)));(case side2=>exact HC1.out);rintro e w16 ⟨rfl,hb⟩;refine⟨_,rfl,?_⟩;replace HB:=Za (Zx (by repeat(first|(with_reducible first|exact HB.out|apply Zn|apply Zm|apply Zp)|exact HB.out)) hb);(try clear hb);(try clear hb2);(try clear hk);(try clear hi)))
         go_roundg k2
         case measure=>have:=HJ2.out;have:=HK2.out;omega
         case rel=>exact⟨(ji15),(wrap64 (x18_2+1)),(by first|rfl|(simp;done)|(simp only[← hji15] <;> (first|rfl|simp))|(simp[*];done)),(by first|rfl|(simp;done)|(simp[*];done)),H',⟨by have:=HJ2.out;have:=HK2.out;omega⟩,⟨by repeat(first|(with_reducible first|exact HB.out|apply Zn|apply Zm|apply Zp)|exact HB.out)⟩⟩
        ·rw[if_neg c13] at H
         exact absurd H (by simp)
       ·rw[if_neg c12] at H
        exact absurd H (by simp)
      ·rw[if_neg c11] at H
       have c11b0:decide (x18_2<(l0.length:Int))=false:=Zf c11
       clear c11
       obtain rfl:=Zg H
       go_wp2
       go_ret
       exact⟨by first|rfl|(simp[ZD,ZC] <;> rfl)|(simp[*,ZD,ZC] <;> rfl),by repeat(first|(with_reducible first|exact HB.out|apply Zn|apply Zm|apply Zp)|exact HB.out)⟩
def ZB (w0 W:World) (g:Nat) (f0:List Int) (f1:Int) (f2:Int):Prop:=∃A0 c0,W.heap[g]? = some (.cells #[.slice A0 f0.length c0,.int .i64 f1,.int .i64 f2] 106 (0,0))∧w0.heap.size≤g∧Kd.C (Kd.int .u8) w0 A0 f0.length f0
theorem ZB.grown {w0 W:World} {g:Nat} {f0:List Int} {f1:Int} {f2:Int} {W1:World} {row:Option Nat} (h:ZB w0 W g f0 f1 f2) (hw:W.grownBy W1 row) (hne:some g≠row):ZB w0 W1 g f0 f1 f2:=by
 obtain⟨A0,c0,hb,hg,hr0⟩:=h
 exact⟨A0,c0,Zao hb hw hne,hg,hr0⟩
theorem ZB.kept {w0 W:World} {g:Nat} {f0:List Int} {f1:Int} {f2:Int} {W1:World} {S:Nat→Prop} (h:ZB w0 W g f0 f1 f2) (hk:Kept W W1 S) (hne:¬S g):ZB w0 W1 g f0 f1 f2:=by
 obtain⟨A0,c0,hb,hg,hr0⟩:=h
 exact⟨A0,c0,blk_kept hb hk hne,hg,hr0⟩
theorem ZB.below {w0 W:World} {g:Nat} {f0:List Int} {f1:Int} {f2:Int} {W1:World} (h:ZB w0 W g f0 f1 f2) (hw:Below W.heap.size W W1):ZB w0 W1 g f0 f1 f2:=h.grown (Zc9 hw none) (by simp)
theorem ZB.alloc {w0 W:World} {g:Nat} {f0:List Int} {f1:Int} {f2:Int} (h:ZB w0 W g f0 f1 f2) (o:Obj):ZB w0 (W.alloc o) g f0 f1 f2:=h.below (Zn (Below.refl _ _) o)
theorem ZB.drewN {w0 W:World} {g:Nat} {f0:List Int} {f1:Int} {f2:Int} (h:ZB w0 W g f0 f1 f2) (m:Nat):ZB w0 (W.drewN m) g f0 f1 f2:=h
theorem ZB.drew {w0 W:World} {g:Nat} {f0:List Int} {f1:Int} {f2:Int} (h:ZB w0 W g f0 f1 f2):ZB w0 W.drew g f0 f1 f2:=h
theorem ZB.at_ {w0 W:World} {g:Nat} {f0:List Int} {f1:Int} {f2:Int} {w':World} {m:Nat} (hq:W.drewN m=w') (h:ZB w0 W g f0 f1 f2):ZB w0 w' g f0 f1 f2:=by subst hq;exact ZB.drewN h m
theorem ZB.apart {w0 W:World} {g:Nat} {f0:List Int} {f1:Int} {f2:Int} {α:Type} {d:Kd α} {e:Nat} {base:Nat} {ok:Nat→Prop} {v:Value} {xs:List α} (h:ZB w0 W g f0 f1 f2) (ho:d.R e W base ok v xs) (ht:∀q,q∈e :: d.E→q≠106):d.R e W base (fun k=>ok k∧k≠g) v xs:=by
 obtain⟨A0,c0,hb,hg,hr0⟩:=h
 exact Kd.R_types ho hb ht
theorem ZB.own_ne {w0 W:World} {g:Nat} {f0:List Int} {f1:Int} {f2:Int} {α:Type} {d:Kd α} {e:Nat} {base:Nat} {ok:Nat→Prop} {v:Value} {xs:List α} (h:ZB w0 W g f0 f1 f2) (ho:d.R e W base ok v xs) (ht:e≠106):some g≠v.ownBlock:=by
 obtain⟨A0,c0,hb,hg,hr0⟩:=h
 exact Kd.R_ne ho hb ht
theorem ZB.lt {w0 W:World} {g:Nat} {f0:List Int} {f1:Int} {f2:Int} (h:ZB w0 W g f0 f1 f2):g<W.heap.size:=by
 obtain⟨A0,c0,hb,hg,hr0⟩:=h
 exact ZR hb
theorem ZB.ge {w0 W:World} {g:Nat} {f0:List Int} {f1:Int} {f2:Int} (h:ZB w0 W g f0 f1 f2):w0.heap.size≤g:=by
 obtain⟨A0,c0,hb,hg,hr0⟩:=h
 exact hg
theorem ZB.ne_blk {w0 W:World} {g:Nat} {f0:List Int} {f1:Int} {f2:Int} {a:Nat} {cs:Array Value} {t:TypeId} {fr:Nat×Nat} (h:ZB w0 W g f0 f1 f2) (hb2:W.heap[a]? = some (.cells cs t fr)) (ht:t≠106):g≠a:=by
 obtain⟨A0,c0,hb,hg,hr0⟩:=h
 rintro rfl
 rw[hb] at hb2
 injection hb2 with hb2
 injection hb2 with _ ht2
 exact ht ht2.symm
theorem ZB.far {w0 W:World} {g:Nat} {f0:List Int} {f1:Int} {f2:Int} {p:Addr} (h:ZB w0 W g f0 f1 f2) (hne:g≠p.block) (u:Value):ZB w0 (W.setCell p u) g f0 f1 f2:=by
 obtain⟨A0,c0,hb,hg,hr0⟩:=h
 exact⟨A0,c0,ZF hb hne u,hg,hr0⟩
theorem Zey {W:World} {g:Nat} {A0:Option Addr} {c0:Nat} {f0:List Int} {f1:Int} {f2:Int} (h:W.heap[g]? = some (.cells #[.slice A0 f0.length c0,.int .i64 f1,.int .i64 f2] 106 (0,0))):W.cell? ⟨g,0,none⟩=some (.slice A0 f0.length c0):=(Zo h 0).trans rfl
theorem Zex {W:World} {g:Nat} {A0:Option Addr} {c0:Nat} {f0:List Int} {f1:Int} {f2:Int} (h:W.heap[g]? = some (.cells #[.slice A0 f0.length c0,.int .i64 f1,.int .i64 f2] 106 (0,0))):W.cell? ⟨g,1,none⟩=some (.int .i64 f1):=(Zo h 1).trans rfl
theorem ZB.set_1 {w0 W:World} {g:Nat} {f0:List Int} {f1:Int} {f2:Int} (h:ZB w0 W g f0 f1 f2) (x:Int):ZB w0 (W.setCell ⟨g,1,none⟩ (.int .i64 x)) g f0 x f2:=by
 obtain⟨A0,c0,hb,hg,hr0⟩:=h
 exact⟨A0,c0,by simpa using ZdP hb 1 (.int .i64 x),hg,hr0⟩
theorem Zew {W:World} {g:Nat} {A0:Option Addr} {c0:Nat} {f0:List Int} {f1:Int} {f2:Int} (h:W.heap[g]? = some (.cells #[.slice A0 f0.length c0,.int .i64 f1,.int .i64 f2] 106 (0,0))):W.cell? ⟨g,2,none⟩=some (.int .i64 f2):=(Zo h 2).trans rfl
theorem ZB.set_2 {w0 W:World} {g:Nat} {f0:List Int} {f1:Int} {f2:Int} (h:ZB w0 W g f0 f1 f2) (x:Int):ZB w0 (W.setCell ⟨g,2,none⟩ (.int .i64 x)) g f0 f1 x:=by
 obtain⟨A0,c0,hb,hg,hr0⟩:=h
 exact⟨A0,c0,by simpa using ZdP hb 2 (.int .i64 x),hg,hr0⟩
theorem ZB.new (w0 W:World) (A0:Option Addr) (c0:Nat) (f0:List Int) (f1:Int) (f2:Int) (hB:Below w0.heap.size w0 W) (hr0:Kd.C (Kd.int .u8) w0 A0 f0.length f0):ZB w0 (W.alloc (.cells #[.slice A0 f0.length c0,.int .i64 f1,.int .i64 f2] 106)) W.heap.size f0 f1 f2:=⟨A0,c0,by simpa using heap_alloc_new W _,hB.size,hr0⟩
def ZS.f (s0_0:List Int) (s0_1:Int) (s0_2:Int):Option (Int×Int×Int):=if s0_1<(s0_0.length:Int) then(if 0≤s0_1 then(some (Go.bits .and .i64 (wrap64 ((Go.bits .and .i64 (Go.bits .xor .i64 ((wrap64 ((wrap64 (s0_2 * 6364136223846793005))+1442695040888963407)) / 8589934592) ((wrap64 ((wrap64 (s0_2 * 6364136223846793005))+1442695040888963407)) / 35184372088832)) 255)+(wrap64 (rd s0_0 s0_1)))) 255,wrap64 (s0_1+1),wrap64 ((wrap64 (s0_2 * 6364136223846793005))+1442695040888963407))) else(none)) else(some (Go.bits .and .i64 (Go.bits .xor .i64 ((wrap64 ((wrap64 (s0_2 * 6364136223846793005))+1442695040888963407)) / 8589934592) ((wrap64 ((wrap64 (s0_2 * 6364136223846793005))+1442695040888963407)) / 35184372088832)) 255,s0_1,wrap64 ((wrap64 (s0_2 * 6364136223846793005))+1442695040888963407)))
theorem ZS.calls (g:Nat) (s0_0:List Int) (s0_1:Int) (s0_2:Int) (r1:Int) (r2:Int) (r3:Int) (w0 w:World) (hI:ZB w0 w g s0_0 s0_1 s0_2) (hB:Below w0.heap.size w0 w) (h:ZS.f s0_0 s0_1 s0_2=some (r1,r2,r3)) :
  Calls Tryd.prog 50 #[.pointer (some ⟨g,0,none⟩)] w fun e w'=>e=.returned (.int .i64 r1)∧ZB w0 w' g s0_0 r2 r3∧Below w0.heap.size w0 w'∧ZI w w' g none:=by
 have HI0:=Za hI
 have HK:=Za (ZI.refl w g none)
 have HL:=Za hB.size
 clear hI
 have HW0:=Za hB.size
 have HB:=Za hB;clear hB
 have H:(if s0_1<(s0_0.length:Int) then(if 0≤s0_1 then(some (Go.bits .and .i64 (wrap64 ((Go.bits .and .i64 (Go.bits .xor .i64 ((wrap64 ((wrap64 (s0_2 * 6364136223846793005))+1442695040888963407)) / 8589934592) ((wrap64 ((wrap64 (s0_2 * 6364136223846793005))+1442695040888963407)) / 35184372088832)) 255)+(wrap64 (rd s0_0 s0_1)))) 255,wrap64 (s0_1+1),wrap64 ((wrap64 (s0_2 * 6364136223846793005))+1442695040888963407))) else(none)) else(some (Go.bits .and .i64 (Go.bits .xor .i64 ((wrap64 ((wrap64 (s0_2 * 6364136223846793005))+1442695040888963407)) / 8589934592) ((wrap64 ((wrap64 (s0_2 * 6364136223846793005))+1442695040888963407)) / 35184372088832)) 255,s0_1,wrap64 ((wrap64 (s0_2 * 6364136223846793005))+1442695040888963407))))=some (r1,r2,r3):=h
 clear h
 by_cases c2:s0_1<(s0_0.length:Int)
 ·rw[if_pos c2] at H
  have c2b0:decide (s0_1<(s0_0.length:Int))=true:=Ze c2
  clear c2
  by_cases c3:0≤s0_1
  ·rw[if_pos c3] at H
   have c3b0:decide (0≤s0_1)=true:=Ze c3
   clear c3
   simp only[Option.some.injEq,Prod.mk.injEq] at H
   obtain⟨rfl,rfl,rfl⟩:=H
   obtain⟨ASz4_0,cSz4_0,HGz4,hgz4,HSz4_0⟩:=HI0.out
   have hcz4_0:=Zey HGz4
   have hcz4_1:=Zex HGz4
   have hcz4_2:=Zew HGz4
   have hfz4_1:=Zu HGz4 1
   have hfz4_2:=Zu HGz4 2
   clear HGz4 hgz4
   have p1:0≤(s0_1:Int):=Zd (by first|(with_reducible assumption)|assumption)
   have q1:s0_1<(s0_0.length:Int):=Zd (by first|(with_reducible assumption)|assumption)
   obtain⟨ad1,e1,hx1_0⟩:=Kd.at_int HSz4_0 s0_1 p1 q1
   cases e1
   have hn1_0:ad1.block≠g:=Nat.ne_of_lt (Nat.lt_of_lt_of_le (by have:=Zc _ _ hx1_0;first|rwa [ZcC] at this|exact this) (ZB.ge HI0.out))
   replace hx1_0:=ZbQ HB.out hx1_0
   replace hx1_0:=(ZcZ (p:=⟨g,2,none⟩) (by first|(rw[ZcC];exact hn1_0)|(show(Addr.add _ _).block≠_;rw[ZcC];exact hn1_0)|exact hn1_0) (.int .i64 (wrap64 ((wrap64 (s0_2 * 6364136223846793005))+1442695040888963407)))).trans hx1_0
   (try have hy1_0:=fun (n_:Nat)=>(show(((w.drewN n_).setCell ⟨g,2,none⟩ (.int .i64 (wrap64 ((wrap64 (s0_2 * 6364136223846793005))+1442695040888963407))))).cell? _=some _ from hx1_0))
   clear hn1_0
   replace p1:=eq_true p1
   replace q1:=eq_true q1
   go_enter Tryd.func50,Tryd.ntmps50
   go_wp2
   repeat(go_quiet (fail);try go_wp2)
   go_ret
   exact⟨by first|rfl|(simp[ZD,ZC] <;> rfl)|(simp[*,ZD,ZC] <;> rfl),by repeat(first|(with_reducible first|exact HI0.out|apply ZB.alloc|apply ZB.drewN|apply ZB.drew|apply ZB.set_1|apply ZB.set_2)|exact HI0.out),by repeat(first|(with_reducible first|exact HB.out|apply Zn|apply Zm|apply Zp|refine Zq ?_ (ZB.ge HI0.out))|exact HB.out),by repeat(first|(with_reducible first|exact HK.out|apply ZI.set_|apply Za3|apply Zbg|apply Za4)|exact HK.out)⟩
  ·rw[if_neg c3] at H
   exact absurd H (by simp)
 ·rw[if_neg c2] at H
  have c2b0:decide (s0_1<(s0_0.length:Int))=false:=Zf c2
  clear c2
  simp only[Option.some.injEq,Prod.mk.injEq] at H
  obtain⟨rfl,rfl,rfl⟩:=H
  obtain⟨ASz5_0,cSz5_0,HGz5,hgz5,HSz5_0⟩:=HI0.out
  have hcz5_0:=Zey HGz5
  have hcz5_1:=Zex HGz5
  have hcz5_2:=Zew HGz5
  have hfz5_1:=Zu HGz5 1
  have hfz5_2:=Zu HGz5 2
  clear HGz5 hgz5
  go_enter Tryd.func50,Tryd.ntmps50
  go_wp2
  repeat(go_quiet (fail);try go_wp2)
  go_ret
  exact⟨by first|rfl|(simp[ZD,ZC] <;> rfl)|(simp[*,ZD,ZC] <;> rfl),by repeat(first|(with_reducible first|exact HI0.out|apply ZB.alloc|apply ZB.drewN|apply ZB.drew|apply ZB.set_1|apply ZB.set_2)|exact HI0.out),by repeat(first|(with_reducible first|exact HB.out|apply Zn|apply Zm|apply Zp|refine Zq ?_ (ZB.ge HI0.out))|exact HB.out),by repeat(first|(with_reducible first|exact HK.out|apply ZI.set_|apply Za3|apply Zbg|apply Za4)|exact HK.out)⟩
def ZH.f (s0_0:List Int) (s0_1:Int) (s0_2:Int) (a1:Int):Option (Int×Int×Int):=if a1≤0 then(some (0,s0_1,s0_2)) else(if a1≤256 then((ZS.f s0_0 s0_1 s0_2).bind fun bt1=>(if a1=0 then(none) else(some (Int.tmod bt1.1 a1,bt1.2.1,bt1.2.2)))) else((ZS.f s0_0 s0_1 s0_2).bind fun bt4=>((ZS.f s0_0 bt4.2.1 bt4.2.2).bind fun bt7=>((ZS.f s0_0 bt7.2.1 bt7.2.2).bind fun bt10=>((ZS.f s0_0 bt10.2.1 bt10.2.2).bind fun bt13=>(if a1=0 then(none) else(some (Int.tmod (wrap64 ((wrap64 ((wrap64 ((wrap64 (bt4.1 * 16777216))+(wrap64 (bt7.1 * 65536))))+(wrap64 (bt10.1 * 256))))+bt13.1)) a1,bt13.2.1,bt13.2.2))))))))
theorem ZH.calls (g:Nat) (s0_0:List Int) (s0_1:Int) (s0_2:Int) (a1:Int) (r1:Int) (r2:Int) (r3:Int) (w0 w:World) (hI:ZB w0 w g s0_0 s0_1 s0_2) (hB:Below w0.heap.size w0 w) (h:ZH.f s0_0 s0_1 s0_2 a1=some (r1,r2,r3)) :
  Calls Tryd.prog 59 #[.pointer (some ⟨g,0,none⟩),.int .i64 a1] w fun e w'=>e=.returned (.int .i64 r1)∧ZB w0 w' g s0_0 r2 r3∧Below w0.heap.size w0 w'∧ZI w w' g none:=by
 have HI0:=Za hI
 have HK:=Za (ZI.refl w g none)
 have HL:=Za hB.size
 clear hI
 have HW0:=Za hB.size
 have HB:=Za hB;clear hB
 have H:(if a1≤0 then(some (0,s0_1,s0_2)) else(if a1≤256 then((ZS.f s0_0 s0_1 s0_2).bind fun bt1=>(if a1=0 then(none) else(some (Int.tmod bt1.1 a1,bt1.2.1,bt1.2.2)))) else((ZS.f s0_0 s0_1 s0_2).bind fun bt4=>((ZS.f s0_0 bt4.2.1 bt4.2.2).bind fun bt7=>((ZS.f s0_0 bt7.2.1 bt7.2.2).bind fun bt10=>((ZS.f s0_0 bt10.2.1 bt10.2.2).bind fun bt13=>(if a1=0 then(none) else(some (Int.tmod (wrap64 ((wrap64 ((wrap64 ((wrap64 (bt4.1 * 16777216))+(wrap64 (bt7.1 * 65536))))+(wrap64 (bt10.1 * 256))))+bt13.1)) a1,bt13.2.1,bt13.2.2)))))))))=some (r1,r2,r3):=h
 clear h
 by_cases c3:a1≤0
 ·rw[if_pos c3] at H
  have c3b0:decide (a1≤0)=true:=Ze c3
  clear c3
  simp only[Option.some.injEq,Prod.mk.injEq] at H
  obtain⟨rfl,rfl,rfl⟩:=H
  go_enter Tryd.func59,Tryd.ntmps59
  go_wp2
  go_ret
  exact⟨by first|rfl|(simp[ZD,ZC] <;> rfl)|(simp[*,ZD,ZC] <;> rfl),by repeat(first|(with_reducible first|exact HI0.out|apply ZB.alloc|apply ZB.drewN|apply ZB.drew|apply ZB.set_1|apply ZB.set_2)|exact HI0.out),by repeat(first|(with_reducible first|exact HB.out|apply Zn|apply Zm|apply Zp|refine Zq ?_ (ZB.ge HI0.out))|exact HB.out),by repeat(first|(with_reducible first|exact HK.out|apply ZI.set_|apply Za3|apply Zbg|apply Za4)|exact HK.out)⟩
 ·rw[if_neg c3] at H
  have c3b0:decide (a1≤0)=false:=Zf c3
  clear c3
  by_cases c4:a1≤256
  ·rw[if_pos c4] at H
   have c4b0:decide (a1≤256)=true:=Ze c4
   clear c4
   replace H:=Zh H
   obtain⟨⟨t1,t2,t3⟩,A50,H⟩:=H
   replace H:(if a1=0 then(none) else(some (Int.tmod t1 a1,t2,t3)))=some (r1,r2,r3):=H
   have A5:=Za A50;clear A50
   by_cases c6:a1=0
   ·rw[if_pos c6] at H
    exact absurd H (by simp)
   ·rw[if_neg c6] at H
    have c6b0:(a1 == 0)=false:=beq_eq_false_iff_ne.mpr c6
    have c6b1:(a1 != 0)=true:=bne_iff_ne.mpr c6
    simp only[Option.some.injEq,Prod.mk.injEq] at H
    obtain⟨rfl,rfl,rfl⟩:=H
    go_enter Tryd.func59,Tryd.ntmps59
    go_wp2_with (first|((with_reducible refine ZU (f:=50) rfl ?_);refine Zaj (some 14) rfl rfl Tryd.func50 (by kernel_rfl) rfl #[.pointer (some ⟨g,0,none⟩)] rfl (by(try simp only[List.map_toArray,List.map_cons,List.map_nil]);first|done|rfl|(simp only[Zk,Zj];rfl)) ?_;(with_reducible refine(ZS.calls g s0_0 s0_1 s0_2 t1 t2 t3 w0 _ ?side1 ?side2 A5.out).mono ?_);(case side1=>repeat(first|(with_reducible first|exact HI0.out|apply ZB.alloc|apply ZB.drewN|apply ZB.drew|apply ZB.set_1|apply ZB.set_2)|exact HI0.out));(case side2=>repeat(first|(with_reducible first|exact HB.out|apply Zn|apply Zm|apply Zp|refine Zq ?_ (ZB.ge HI0.out))|exact HB.out));rintro e w7 ⟨rfl,hi,hb,hk⟩;refine⟨_,rfl,?_⟩;replace HK:=Za (ZI.trans (by repeat(first|(with_reducible first|exact HK.out|apply ZI.set_|apply Za3|apply Zbg|apply Za4)|exact HK.out)) hk (.inl rfl));replace HB:=Za (hb);replace HI0:=Za (hi);(try clear hb);(try clear hb2);(try clear hk);(try clear hi)))
    go_ret
    exact⟨by first|rfl|(simp[ZD,ZC] <;> rfl)|(simp[*,ZD,ZC] <;> rfl),by repeat(first|(with_reducible first|exact HI0.out|apply ZB.alloc|apply ZB.drewN|apply ZB.drew|apply ZB.set_1|apply ZB.set_2)|exact HI0.out),by repeat(first|(with_reducible first|exact HB.out|apply Zn|apply Zm|apply Zp|refine Zq ?_ (ZB.ge HI0.out))|exact HB.out),by repeat(first|(with_reducible first|exact HK.out|apply ZI.set_|apply Za3|apply Zbg|apply Za4)|exact HK.out)⟩
  ·rw[if_neg c4] at H
   have c4b0:decide (a1≤256)=false:=Zf c4
   clear c4
   replace H:=Zh H
   obtain⟨⟨t4,t5,t6⟩,A80,H⟩:=H
   replace H:((ZS.f s0_0 t5 t6).bind fun bt7=>((ZS.f s0_0 bt7.2.1 bt7.2.2).bind fun bt10=>((ZS.f s0_0 bt10.2.1 bt10.2.2).bind fun bt13=>(if a1=0 then(none) else(some (Int.tmod (wrap64 ((wrap64 ((wrap64 ((wrap64 (t4 * 16777216))+(wrap64 (bt7.1 * 65536))))+(wrap64 (bt10.1 * 256))))+bt13.1)) a1,bt13.2.1,bt13.2.2))))))=some (r1,r2,r3):=H
   have A8:=Za A80;clear A80
   replace H:=Zh H
   obtain⟨⟨t7,t8,t9⟩,A90,H⟩:=H
   replace H:((ZS.f s0_0 t8 t9).bind fun bt10=>((ZS.f s0_0 bt10.2.1 bt10.2.2).bind fun bt13=>(if a1=0 then(none) else(some (Int.tmod (wrap64 ((wrap64 ((wrap64 ((wrap64 (t4 * 16777216))+(wrap64 (t7 * 65536))))+(wrap64 (bt10.1 * 256))))+bt13.1)) a1,bt13.2.1,bt13.2.2)))))=some (r1,r2,r3):=H
   have A9:=Za A90;clear A90
   replace H:=Zh H
   obtain⟨⟨t10,t11,t12⟩,A100,H⟩:=H
   replace H:((ZS.f s0_0 t11 t12).bind fun bt13=>(if a1=0 then(none) else(some (Int.tmod (wrap64 ((wrap64 ((wrap64 ((wrap64 (t4 * 16777216))+(wrap64 (t7 * 65536))))+(wrap64 (t10 * 256))))+bt13.1)) a1,bt13.2.1,bt13.2.2))))=some (r1,r2,r3):=H
   have A10:=Za A100;clear A100
   replace H:=Zh H
   obtain⟨⟨t13,t14,t15⟩,A110,H⟩:=H
   replace H:(if a1=0 then(none) else(some (Int.tmod (wrap64 ((wrap64 ((wrap64 ((wrap64 (t4 * 16777216))+(wrap64 (t7 * 65536))))+(wrap64 (t10 * 256))))+t13)) a1,t14,t15)))=some (r1,r2,r3):=H
   have A11:=Za A110;clear A110
   by_cases c12:a1=0
   ·rw[if_pos c12] at H
    exact absurd H (by simp)
   ·rw[if_neg c12] at H
    have c12b0:(a1 == 0)=false:=beq_eq_false_iff_ne.mpr c12
    have c12b1:(a1 != 0)=true:=bne_iff_ne.mpr c12
    simp only[Option.some.injEq,Prod.mk.injEq] at H
    obtain⟨rfl,rfl,rfl⟩:=H
    go_enter Tryd.func59,Tryd.ntmps59
    go_wp2_with (first|((with_reducible refine ZU (f:=50) rfl ?_);refine Zaj (some 18) rfl rfl Tryd.func50 (by kernel_rfl) rfl #[.pointer (some ⟨g,0,none⟩)] rfl (by(try simp only[List.map_toArray,List.map_cons,List.map_nil]);first|done|rfl|(simp only[Zk,Zj];rfl)) ?_;(with_reducible refine(ZS.calls g s0_0 s0_1 s0_2 t4 t5 t6 w0 _ ?side1 ?side2 A8.out).mono ?_);(case side1=>repeat(first|(with_reducible first|exact HI0.out|apply ZB.alloc|apply ZB.drewN|apply ZB.drew|apply ZB.set_1|apply ZB.set_2)|exact HI0.out));(case side2=>repeat(first|(with_reducible first|exact HB.out|apply Zn|apply Zm|apply Zp|refine Zq ?_ (ZB.ge HI0.out))|exact HB.out));rintro e w13 ⟨rfl,hi,hb,hk⟩;refine⟨_,rfl,?_⟩;replace HK:=Za (ZI.trans (by repeat(first|(with_reducible first|exact HK.out|apply ZI.set_|apply Za3|apply Zbg|apply Za4)|exact HK.out)) hk (.inl rfl));replace HB:=Za (hb);replace HI0:=Za (hi);(try clear hb);(try clear hb2);(try clear hk);(try clear hi))|((with_reducible refine ZU (f:=50) rfl ?_);refine Zaj (some 20) rfl rfl Tryd.func50 (by kernel_rfl) rfl #[.pointer (some ⟨g,0,none⟩)] rfl (by(try simp only[List.map_toArray,List.map_cons,List.map_nil]);first|done|rfl|(simp only[Zk,Zj];rfl)) ?_;(with_reducible refine(ZS.calls g s0_0 t5 t6 t7 t8 t9 w0 _ ?side1 ?side2 A9.out).mono ?_);(case side1=>repeat(first|(with_reducible first|exact HI0.out|apply ZB.alloc|apply ZB.drewN|apply ZB.drew|apply ZB.set_1|apply ZB.set_2)|exact HI0.out));(case side2=>repeat(first|(with_reducible first|exact HB.out|apply Zn|apply Zm|apply Zp|refine Zq ?_ (ZB.ge HI0.out))|exact HB.out));rintro e w14 ⟨rfl,hi,hb,hk⟩;refine⟨_,rfl,?_⟩;replace HK:=Za (ZI.trans (by repeat(first|(with_reducible first|exact HK.out|apply ZI.set_|apply Za3|apply Zbg|apply Za4)|exact HK.out)) hk (.inl rfl));replace HB:=Za (hb);replace HI0:=Za (hi);(try clear hb);(try clear hb2);(try clear hk);(try clear hi))|((with_reducible refine ZU (f:=50) rfl ?_);refine Zaj (some 22) rfl rfl Tryd.func50 (by kernel_rfl) rfl #[.pointer (some ⟨g,0,none⟩)] rfl (by(try simp only[List.map_toArray,List.map_cons,List.map_nil]);first|done|rfl|(simp only[Zk,Zj];rfl)) ?_;(with_reducible refine(ZS.calls g s0_0 t8 t9 t10 t11 t12 w0 _ ?side1 ?side2 A10.out).mono ?_);(case side1=>repeat(first|(with_reducible first|exact HI0.out|apply ZB.alloc|apply ZB.drewN|apply ZB.drew|apply ZB.set_1|apply ZB.set_2)|exact HI0.out));(case side2=>repeat(first|(with_reducible first|exact HB.out|apply Zn|apply Zm|apply Zp|refine Zq ?_ (ZB.ge HI0.out))|exact HB.out));rintro e w15 ⟨rfl,hi,hb,hk⟩;refine⟨_,rfl,?_⟩;replace HK:=Za (ZI.trans (by repeat(first|(with_reducible first|exact HK.out|apply ZI.set_|apply Za3|apply Zbg|apply Za4)|exact HK.out)) hk (.inl rfl));replace HB:=Za (hb);replace HI0:=Za (hi);(try clear hb);(try clear hb2);(try clear hk);(try clear hi))|((with_reducible refine ZU (f:=50) rfl ?_);refine Zaj (some 24) rfl rfl Tryd.func50 (by kernel_rfl) rfl #[.pointer (some ⟨g,0,none⟩)] rfl (by(try simp only[List.map_toArray,List.map_cons,List.map_nil]);first|done|rfl|(simp only[Zk,Zj];rfl)) ?_;(with_reducible refine(ZS.calls g s0_0 t11 t12 t13 t14 t15 w0 _ ?side1 ?side2 A11.out).mono ?_);(case side1=>repeat(first|(with_reducible first|exact HI0.out|apply ZB.alloc|apply ZB.drewN|apply ZB.drew|apply ZB.set_1|apply ZB.set_2)|exact HI0.out));(case side2=>repeat(first|(with_reducible first|exact HB.out|apply Zn|apply Zm|apply Zp|refine Zq ?_ (ZB.ge HI0.out))|exact HB.out));rintro e w16 ⟨rfl,hi,hb,hk⟩;refine⟨_,rfl,?_⟩;replace HK:=Za (ZI.trans (by repeat(first|(with_reducible first|exact HK.out|apply ZI.set_|apply Za3|apply Zbg|apply Za4)|exact HK.out)) hk (.inl rfl));replace HB:=Za (hb);replace HI0:=Za (hi);(try clear hb);(try clear hb2);(try clear hk);(try clear hi)))
    go_ret
    exact⟨by first|rfl|(simp[ZD,ZC] <;> rfl)|(simp[*,ZD,ZC] <;> rfl),by repeat(first|(with_reducible first|exact HI0.out|apply ZB.alloc|apply ZB.drewN|apply ZB.drew|apply ZB.set_1|apply ZB.set_2)|exact HI0.out),by repeat(first|(with_reducible first|exact HB.out|apply Zn|apply Zm|apply Zp|refine Zq ?_ (ZB.ge HI0.out))|exact HB.out),by repeat(first|(with_reducible first|exact HK.out|apply ZI.set_|apply Za3|apply Zbg|apply Za4)|exact HK.out)⟩
def ZaD.f (s0_0:List Int) (s0_1:Int) (s0_2:Int) (a1:Int):Option (Bool×Int×Int):=(ZH.f s0_0 s0_1 s0_2 a1).bind fun bt1=>(some ((bt1.1 == 0),bt1.2.1,bt1.2.2))
theorem ZaD.calls (g:Nat) (s0_0:List Int) (s0_1:Int) (s0_2:Int) (a1:Int) (r1:Bool) (r2:Int) (r3:Int) (w0 w:World) (hI:ZB w0 w g s0_0 s0_1 s0_2) (hB:Below w0.heap.size w0 w) (h:ZaD.f s0_0 s0_1 s0_2 a1=some (r1,r2,r3)) :
  Calls Tryd.prog 70 #[.pointer (some ⟨g,0,none⟩),.int .i64 a1] w fun e w'=>e=.returned (.bool r1)∧ZB w0 w' g s0_0 r2 r3∧Below w0.heap.size w0 w'∧ZI w w' g none:=by
 have HI0:=Za hI
 have HK:=Za (ZI.refl w g none)
 have HL:=Za hB.size
 clear hI
 have HW0:=Za hB.size
 have HB:=Za hB;clear hB
 have H:((ZH.f s0_0 s0_1 s0_2 a1).bind fun bt1=>(some ((bt1.1 == 0),bt1.2.1,bt1.2.2)))=some (r1,r2,r3):=h
 clear h
 replace H:=Zh H
 obtain⟨⟨t1,t2,t3⟩,A30,H⟩:=H
 replace H:(some ((t1 == 0),t2,t3))=some (r1,r2,r3):=H
 have A3:=Za A30;clear A30
 simp only[Option.some.injEq,Prod.mk.injEq] at H
 obtain⟨rfl,rfl,rfl⟩:=H
 go_enter Tryd.func70,Tryd.ntmps70
 go_wp2_with (first|((with_reducible refine ZU (f:=59) rfl ?_);refine Zaj (some 7) rfl rfl Tryd.func59 (by kernel_rfl) rfl #[.pointer (some ⟨g,0,none⟩),.int .i64 a1] rfl (by(try simp only[List.map_toArray,List.map_cons,List.map_nil]);first|done|rfl|(simp only[Zk,Zj];rfl)) ?_;(with_reducible refine(ZH.calls g s0_0 s0_1 s0_2 a1 t1 t2 t3 w0 _ ?side1 ?side2 A3.out).mono ?_);(case side1=>repeat(first|(with_reducible first|exact HI0.out|apply ZB.alloc|apply ZB.drewN|apply ZB.drew|apply ZB.set_1|apply ZB.set_2)|exact HI0.out));(case side2=>repeat(first|(with_reducible first|exact HB.out|apply Zn|apply Zm|apply Zp|refine Zq ?_ (ZB.ge HI0.out))|exact HB.out));rintro e w4 ⟨rfl,hi,hb,hk⟩;refine⟨_,rfl,?_⟩;replace HK:=Za (ZI.trans (by repeat(first|(with_reducible first|exact HK.out|apply ZI.set_|apply Za3|apply Zbg|apply Za4)|exact HK.out)) hk (.inl rfl));replace HB:=Za (hb);replace HI0:=Za (hi);(try clear hb);(try clear hb2);(try clear hk);(try clear hi)))
 go_ret
 exact⟨by first|rfl|(simp[ZD,ZC] <;> rfl)|(simp[*,ZD,ZC] <;> rfl),by repeat(first|(with_reducible first|exact HI0.out|apply ZB.alloc|apply ZB.drewN|apply ZB.drew|apply ZB.set_1|apply ZB.set_2)|exact HI0.out),by repeat(first|(with_reducible first|exact HB.out|apply Zn|apply Zm|apply Zp|refine Zq ?_ (ZB.ge HI0.out))|exact HB.out),by repeat(first|(with_reducible first|exact HK.out|apply ZI.set_|apply Za3|apply Zbg|apply Za4)|exact HK.out)⟩
structure Dr (V w0 w W:World) (g:Nat) (b:List Int) (i h:Int) (uN uT:Value) (ns:List S54) (ts:List S81):Prop where
 cu:ZB w0 W g b i h
 rn:Kd.R k54 54 W w.heap.size (fun k=>w.heap.size≤k) uN ns
 rt:Kd.R k81 81 W w.heap.size (fun k=>w.heap.size≤k) uT ts
 hb:Below w0.heap.size w0 W
 kp:ZI w W g none
 ws:w0.heap.size≤w.heap.size
 vz:V.heap.size≤W.heap.size
 sb:∀(x:Nat) (cs:Array Value),V.heap[x]? = some (.cells cs 39 (0,0))→W.heap[x]? = some (.cells cs 39 (0,0))
section
variable {V w0 w W w1:World} {g gs:Nat} {b:List Int} {i h i' h':Int} {uN uT cN cT v1:Value} {z:Int} {ns ns1:List S54} {ts ts1:List S81} {cs:Array Value}
theorem Dr.keep (d:Dr V w0 w W g b i h uN uT ns ts) (cu:ZB w0 w1 g b i' h') (hb:Below w0.heap.size w0 w1) (hk:ZI W w1 g none):Dr V w0 w w1 g b i' h' uN uT ns ts:=
 ⟨cu,Kd.R_mono (Kd.R_keep (d.cu.apart d.rn (by decide)) hk (fun _ h=>h.2)) (fun _ h=>h.1),Kd.R_mono (Kd.R_keep (d.cu.apart d.rt (by decide)) hk (fun _ h=>h.2)) (fun _ h=>h.1),hb,d.kp.trans hk (.inl rfl),d.ws,Nat.le_trans d.vz hk.1,fun x cs h=>ZI.blk hk (d.sb x cs h) (fun e=>d.cu.ne_blk (d.sb x cs h) (by decide) e.symm) (by simp)⟩
theorem Dr.keepB (d:Dr V w0 w W g b i h uN uT ns ts) (hx:W.heap[gs]? = some (.cells cs 39 (0,0))) (hk:ZI W w1 g none):w1.heap[gs]? = some (.cells cs 39 (0,0)):=ZI.blk hk hx (fun e=>d.cu.ne_blk hx (by decide) e.symm) (by simp)
theorem Dr.below (d:Dr V w0 w W g b i h uN uT ns ts) (hb:Below W.heap.size W w1):Dr V w0 w w1 g b i h uN uT ns ts:=
 ⟨d.cu.below hb,Kd.R_below d.rn hb,Kd.R_below d.rt hb,ZcH d.hb d.hb.size hb,d.kp.trans (ZI.of_below hb g none) (.inl rfl),d.ws,Nat.le_trans d.vz hb.size,fun x cs h=>Zw (d.sb x cs h) hb⟩
theorem Dr.tie (d:Dr V w0 w W g b i h uN uT ns ts) (ho:Kd.R k81 81 w1 w.heap.size (fun k=>w.heap.size≤k) v1 ts1) (hb:Below w.heap.size W w1) (hg:W.grownBy w1 uT.ownBlock):Dr V w0 w w1 g b i h uN v1 ns ts1:=
 ⟨d.cu.grown hg (d.cu.own_ne d.rt (by decide)),Kd.R_over d.rn d.rt (by decide) hg,ho,ZdD d.hb d.ws hb,d.kp.trans (ZI.of_grown hg g) (Kd.R_base2 d.rt),d.ws,Nat.le_trans d.vz hg.size,fun x cs h=>Zao (d.sb x cs h) hg (Kd.R_ne d.rt (d.sb x cs h) (by decide))⟩
theorem Dr.tieB (d:Dr V w0 w W g b i h uN uT ns ts) (hx:W.heap[gs]? = some (.cells cs 39 (0,0))) (hg:W.grownBy w1 uT.ownBlock):w1.heap[gs]? = some (.cells cs 39 (0,0)):=Zao hx hg (Kd.R_ne d.rt hx (by decide))
theorem Dr.node (d:Dr V w0 w W g b i h uN uT ns ts) (ho:Kd.R k54 54 w1 w.heap.size (fun k=>w.heap.size≤k) v1 ns1) (hb:Below w.heap.size W w1) (hg:W.grownBy w1 uN.ownBlock):Dr V w0 w w1 g b i h v1 uT ns1 ts:=
 ⟨d.cu.grown hg (d.cu.own_ne d.rn (by decide)),ho,Kd.R_over d.rt d.rn (by decide) hg,ZdD d.hb d.ws hb,d.kp.trans (ZI.of_grown hg g) (Kd.R_base2 d.rn),d.ws,Nat.le_trans d.vz hg.size,fun x cs h=>Zao (d.sb x cs h) hg (Kd.R_ne d.rn (d.sb x cs h) (by decide))⟩
theorem Dr.nodeB (d:Dr V w0 w W g b i h uN uT ns ts) (hx:W.heap[gs]? = some (.cells cs 39 (0,0))) (hg:W.grownBy w1 uN.ownBlock):w1.heap[gs]? = some (.cells cs 39 (0,0)):=Zao hx hg (Kd.R_ne d.rn hx (by decide))
theorem Dr.put (d:Dr V w0 w W g b i h uN uT ns ts) (hx:W.heap[gs]? = some (.cells cs 39 (0,0))) (ge:w.heap.size≤gs∧V.heap.size≤gs) (j:Nat) (v:Value):Dr V w0 w (W.setCell ⟨gs,j,none⟩ v) g b i h uN uT ns ts:=
 ⟨d.cu.far (p:=⟨gs,j,none⟩) (d.cu.ne_blk hx (by decide)) v,Kd.R_mono (Kd.R_far (p:=⟨gs,j,none⟩) (Kd.R_types d.rn hx (by decide)) (fun _ hk=>hk.2) v) (fun _ hk=>hk.1),Kd.R_mono (Kd.R_far (p:=⟨gs,j,none⟩) (Kd.R_types d.rt hx (by decide)) (fun _ hk=>hk.2) v) (fun _ hk=>hk.1),Zq d.hb (Nat.le_trans d.ws ge.1),Zdf d.kp ge.1 v,d.ws,by simp only[World.setCell,Array.size_modify];exact d.vz,fun x cs h=>ZF (d.sb x cs h) (p:=⟨gs,j,none⟩) (Nat.ne_of_lt (Nat.lt_of_lt_of_le (ZR h) ge.2)) v⟩
theorem Dr.lit (d:Dr V w0 w W g b i h uN uT ns ts) (ho:Kd.R k54 54 w1 W.heap.size (fun _=>True) v1 ns1) (hb:Below W.heap.size W w1):Dr V w0 w w1 g b i h v1 uT ns1 ts:=
 ⟨(d.below hb).cu,Kd.R_mono (Kd.R_lower (Kd.R_newM (M:=fun k_=>w.heap.size≤k_) ho d.kp.1 (fun _ h=>h)) d.kp.1) (fun _ h=>h.1),(d.below hb).rt,(d.below hb).hb,(d.below hb).kp,d.ws,(d.below hb).vz,(d.below hb).sb⟩
theorem Dr.put3 (d:Dr V w0 w W g b i h uN uT ns ts) (hx:W.heap[gs]? = some (.cells #[cN,cT,v1] 39 (0,0))) (ge:w.heap.size≤gs∧V.heap.size≤gs) (a c e:Value) :
  Dr V w0 w (((W.setCell ⟨gs,0,none⟩ a).setCell ⟨gs,1,none⟩ c).setCell ⟨gs,2,none⟩ e) g b i h uN uT ns ts∧(((W.setCell ⟨gs,0,none⟩ a).setCell ⟨gs,1,none⟩ c).setCell ⟨gs,2,none⟩ e).heap[gs]? = some (.cells #[a,c,e] 39 (0,0)):=by
 have P0:=ZO (cs:=#[cN,cT,v1]) hx 0 a rfl
 have P1:=ZO (cs:=#[a,cT,v1]) P0 1 c rfl
 have P2:=ZO (cs:=#[a,c,v1]) P1 2 e rfl
 exact⟨((d.put hx ge 0 a).put P0 ge 1 c).put P1 ge 2 e,P2⟩
theorem Dr.base (d:Dr V w0 w W g b i h uN uT ns ts):Dr W w0 w W g b i h uN uT ns ts:=⟨d.cu,d.rn,d.rt,d.hb,d.kp,d.ws,Nat.le_refl _,fun _ _ h=>h⟩
theorem Dr.new {w0 w:World} {g:Nat} {b:List Int} {i h:Int} (cu:ZB w0 w g b i h) (hb:Below w0.heap.size w0 w):Dr w0 w0 w w g b i h (.slice none 0 0) (.slice none 0 0) [] []:=⟨cu,Kd.R_nil _ _ _ _ _,Kd.R_nil _ _ _ _ _,hb,ZI.refl _ _ _,hb.size,hb.size,fun x cs h=>Zw h hb⟩
theorem ZaZ {n:Nat} (hb:Below n W w1) (hg:W.grownBy w1 none):Below W.heap.size W w1:=⟨hb.os,hb.tape,hb.output,hb.size,fun i hi=>hg.block i hi (by simp)⟩
theorem Dr.litN (d:Dr V w0 w W g b i h uN uT ns ts) (ho:Kd.R k54 54 w1 w.heap.size (fun k=>w.heap.size≤k) v1 ns1) (hb:Below W.heap.size W w1):Dr V w0 w w1 g b i h v1 uT ns1 ts:=
 ⟨(d.below hb).cu,ho,(d.below hb).rt,(d.below hb).hb,(d.below hb).kp,d.ws,(d.below hb).vz,(d.below hb).sb⟩
theorem Dr.litT (d:Dr V w0 w W g b i h uN uT ns ts) (ho:Kd.R k81 81 w1 w.heap.size (fun k=>w.heap.size≤k) v1 ts1) (hb:Below W.heap.size W w1):Dr V w0 w w1 g b i h uN v1 ns ts1:=
 ⟨(d.below hb).cu,(d.below hb).rn,ho,(d.below hb).hb,(d.below hb).kp,d.ws,(d.below hb).vz,(d.below hb).sb⟩
theorem Zeb {w0 w W w1:World} {g gr:Nat} {b:List Int} {i o:Int} {v0 v1:Value} {z:Int} {c0 c1 c2:Value} {ns:List S54} {ts:List S81} (gw:w.heap.size≤gr) (hw:w0.heap.size≤w.heap.size) (hr:W.heap[gr]? = some (.cells #[c0,c1,c2] 39 (0,0))) (kW:ZI w W g none) (ne:gr≠g) (hn:Kd.N k54 54 w1 W.heap.size (fun k=>W.heap.size≤k∧some k≠v1.ownBlock) v0 ns) (ht:Kd.R k81 81 w1 W.heap.size (fun k=>W.heap.size≤k) v1 ts) (cu:ZB w0 w1 g b i o) (hb:Below w0.heap.size w0 w1) (kp:ZI W w1 g none) :
  (((w1.setCell ⟨gr,0,none⟩ v0).setCell ⟨gr,1,none⟩ v1).setCell ⟨gr,2,none⟩ (.int .i64 z)).heap[gr]? = some (.cells #[v0,v1,.int .i64 z] 39 (0,0)) ∧
  Kd.N k54 54 (((w1.setCell ⟨gr,0,none⟩ v0).setCell ⟨gr,1,none⟩ v1).setCell ⟨gr,2,none⟩ (.int .i64 z)) w.heap.size (fun k_=>(w.heap.size≤k_)∧some k_≠v1.ownBlock) v0 ns ∧
  Kd.R k81 81 (((w1.setCell ⟨gr,0,none⟩ v0).setCell ⟨gr,1,none⟩ v1).setCell ⟨gr,2,none⟩ (.int .i64 z)) w.heap.size (fun k_=>(w.heap.size≤k_)) v1 ts ∧
  ZB w0 (((w1.setCell ⟨gr,0,none⟩ v0).setCell ⟨gr,1,none⟩ v1).setCell ⟨gr,2,none⟩ (.int .i64 z)) g b i o ∧
  Below w0.heap.size w0 (((w1.setCell ⟨gr,0,none⟩ v0).setCell ⟨gr,1,none⟩ v1).setCell ⟨gr,2,none⟩ (.int .i64 z)) ∧
  ZI w (((w1.setCell ⟨gr,0,none⟩ v0).setCell ⟨gr,1,none⟩ v1).setCell ⟨gr,2,none⟩ (.int .i64 z)) g none:=by
 have h1:=ZI.blk kp hr ne (by simp)
 have lt:=ZR hr
 have P0:=ZO (cs:=#[c0,c1,c2]) h1 0 v0 rfl
 have P1:=ZO (cs:=#[v0,c1,c2]) P0 1 v1 rfl
 have P2:=ZO (cs:=#[v0,v1,c2]) P1 2 (.int .i64 z) rfl
 have A:∀k,W.heap.size≤k→k≠gr:=fun k hk=>by omega
 have L:∀k,W.heap.size≤k→w.heap.size≤k:=fun k hk=>Nat.le_trans kW.1 hk
 refine⟨P2,?_,?_,((cu.far (p:=⟨gr,0,none⟩) ne.symm _).far (p:=⟨gr,1,none⟩) ne.symm _).far (p:=⟨gr,2,none⟩) ne.symm _,Zq (Zq (Zq hb (Nat.le_trans hw gw)) (Nat.le_trans hw gw)) (Nat.le_trans hw gw),Zdf (Zdf (Zdf (kW.trans kp (.inl rfl)) gw _) gw _) gw _⟩
 ·exact Kd.N_lower (Kd.N_mono (Kd.N_far (p:=⟨gr,2,none⟩) (Kd.N_far (p:=⟨gr,1,none⟩) (Kd.N_far (p:=⟨gr,0,none⟩) hn (fun k hk=>A k hk.1) _) (fun k hk=>A k hk.1) _) (fun k hk=>A k hk.1) _) (fun k hk=>⟨L k hk.1,hk.2⟩)) kW.1
 ·exact Kd.R_lower (Kd.R_mono (Kd.R_far (p:=⟨gr,2,none⟩) (Kd.R_far (p:=⟨gr,1,none⟩) (Kd.R_far (p:=⟨gr,0,none⟩) ht (fun k hk=>A k hk) _) (fun k hk=>A k hk) _) (fun k hk=>A k hk) _) (fun k hk=>L k hk)) kW.1
end
end Go.Proofs.YtoeimopgoaffcaaDoor.Pr
