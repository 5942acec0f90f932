/- The texts of one claim, put together by a program of this session. -/
import Derived.Lib.AppendIntMem
import Derived.Deep.LoopGhost
import Derived.Shelf.Abstract
import Derived.Test.YtoeimopgoaffcaaGreatDoorBBpc1x1
namespace Go.Proofs.YtoeimopgoaffcaaGreatDoor.Pr
open Go.RowKit Go.Proofs.YtoeimopgoaffcaaGreatDoorW.PrintWords
def TW (w : World) : Prop := Lib.TabBelow Tryz.prog w.heap.size w "internal/strconv.uint64pow10" .u64 Lib.pow10Tab
theorem TW.below {w w':World} (h:TW w) (hb:Below w.heap.size w w'):TW w':=fun w2 h2=>h w2 (hb.trans (h2.mono hb.size))
theorem var_below {P:Program} {w:World} {name:String} {cs:Array Value} (h:w.var? P name=some cs):∀w',Below w.heap.size w w'→w'.var? P name=some cs:=fun w' hb=>by
 unfold World.var? at *
 cases hg:P.globalNamed name with
 | none=>simp[hg] at h
 | some g=>
  simp only[hg,Zi] at h ⊢
  have hlt:g<w.heap.size:=by
   rcases Nat.lt_or_ge g w.heap.size with h'|h'
   ·exact h'
   ·rw[Array.getElem?_eq_none h'] at h;simp at h
  rw[hb.block g hlt]
  exact h
def EW (w : World) : Prop := (∃ tp p, ∀ w', Below w.heap.size w w' → w'.var? Tryz.prog "strconv.ErrSyntax" = some #[.iface tp p]) ∧ ∃ tp p, ∀ w', Below w.heap.size w w' → w'.var? Tryz.prog "strconv.ErrRange" = some #[.iface tp p]
theorem EW.below {w w':World} (h:EW w) (hb:Below w.heap.size w w'):EW w':=by
 obtain⟨⟨t1,p1,h1⟩,t2,p2,h2⟩:=h
 exact⟨⟨t1,p1,fun w2 h=>h1 w2 (hb.trans (h.mono hb.size))⟩,t2,p2,fun w2 h=>h2 w2 (hb.trans (h.mono hb.size))⟩
theorem EW.of {w : World} {t1 t2 : TypeId} {p1 p2 : Value} (h1 : w.var? Tryz.prog "strconv.ErrSyntax" = some #[.iface t1 p1]) (h2 : w.var? Tryz.prog "strconv.ErrRange" = some #[.iface t2 p2]) : EW w := ⟨⟨t1, p1, var_below h1⟩, t2, p2, var_below h2⟩
theorem R_spot {α:Type} {d:Kd α} {e n c:Nat} {w:World} {base:Nat} {ok:Nat→Prop} {A:Option Addr} {xs:List α} (h:d.R e w base ok (.slice A n c) xs):∀ad,A=some ad→ad.spot=none:=by
 intro ad hA
 obtain⟨_,inner,ho,_⟩:=h
 obtain⟨_,h2⟩:=ho
 rcases h2 with ⟨h3,_⟩|⟨g,c,cur,h3,_⟩
 ·injection h3 with h4;rw[hA] at h4;cases h4
 ·injection h3 with h4;rw[hA] at h4;cases h4;rfl
theorem add_spot (b o j:Nat):(⟨b,o,none⟩:Addr).add j=⟨b,o+j,none⟩:=by
 unfold Addr.add
 split
 ·rename_i h;subst h;rfl
 ·rfl
end Go.Proofs.YtoeimopgoaffcaaGreatDoor.Pr
namespace Go.Proofs.YtoeimopgoaffcaaGreatDoor.Pr
open Go.RowKit Go.Proofs.YtoeimopgoaffcaaGreatDoorW.PrintWords Go.Proofs.YtoeimopgoaffcaaGreatDoorW.PrintLast Go.Proofs.YtoeimopgoaffcaaGreatDoorW.PrintMore
attribute [local go_sem] Z2 Z0 Zac Zab ZU ZT Z1 ZZ
set_option linter.unusedVariables false
set_option linter.unusedSimpArgs false
open Go.Proofs.YtoeimopgoaffcaaGreatDoor.Ni
set_option maxHeartbeats 4000000 in
theorem impl_Node_82.any (p:S39→Bool) (g:Nat) (lb:Array Value) (eg:∀args w,(callFunc g args).run Tryz.prog w=.ok (.enter g args) w) (A0:Option Addr) (c0:Nat) (l0:List S39) (w:World) (hr0:Kd.C k39 w A0 l0.length l0)
  (hp:∀(W:World) (x:S39) (A1_:Option Addr) (c1_:Nat),x∈l0→Below w.heap.size w W→x.f1.length≤c1_→Kd.C (Kd.int .i64) W A1_ x.f1.length x.f1→Calls Tryz.prog g (#[.agg #[.string x.f0,.slice A1_ x.f1.length c1_,.int .i64 x.f2]] ++ lb) W fun e w'=>e=.returned (.bool (p x))∧Below W.heap.size W w') :
  Calls Tryz.prog 82 #[.slice A0 l0.length c0,.func (.func g) #[] lb] w fun e w'=>e=.returned (.int .i64 (ZaZ p l0))∧Below w.heap.size w w':=by
 have HR0:=Za hr0;have HP:=Za hp;clear hr0 hp
 have HL:l0.length≤9223372036854775807:=HR0.out.2.1
 go_enter Tryz.func82,Tryz.ntmps82
 go_wp2
 go_loopg [5,8] l0.length (fun gg _ s8 wr=>∃kk:Nat,Aside0 (kk≤l0.length)∧Aside0 (l0.length - kk≤gg)∧s8=.int .i64 kk∧Aside0 (Below w.heap.size w wr)∧Aside0 (∀j y,j<kk→l0[j]? = some y→p y=false))
 case atStart=>exact⟨0,⟨Nat.zero_le _⟩,⟨by omega⟩,rfl,⟨Below.refl _ _⟩,⟨fun j y hj=>absurd hj (Nat.not_lt_zero _)⟩⟩
 case round=>
  obtain⟨kk,HK,HG,rfl,HB,HN⟩:=hrel
  by_cases hlt:kk<l0.length
  ·have hltz:(kk:Int)<(l0.length:Int):=by omega
   obtain⟨ad,A1_,c1_,e1,hx0,hx1,hx2,l1_,g1_⟩:=ZaG HR0.out (kk:Int) (by omega) hltz
   cases e1
   replace hx0:=(HB.out.cell (Zc w _ hx0)).trans hx0
   rw[Int.toNat_natCast] at hx0
   replace hx1:=(HB.out.cell (Zc w _ hx1)).trans hx1
   rw[Int.toNat_natCast] at hx1
   replace hx2:=(HB.out.cell (Zc w _ hx2)).trans hx2
   rw[Int.toNat_natCast] at hx2
   have hxe:l0[kk]? = some (ZD l0 (kk:Int)):=by
    unfold ZD
    rw[Int.toNat_natCast,List.getD_eq_getElem?_getD,Zl hlt];rfl
   generalize ZD l0 (kk:Int)=y at hx0 hx1 hx2 l1_ g1_ hxe
   have HX:=Za hxe;clear hxe
   have hcall:=HP.out wr y A1_ c1_ (List.mem_of_getElem? HX.out) HB.out l1_ (Zb g1_ HB.out)
   clear g1_ l1_
   cases hq:p y with
   | true=>
    have HQ:=Za hq
    rw[hq] at hcall
    clear hq
    go_wp2_with (go_at_fn g;refine hcall.mono ?_;rintro e w' ⟨rfl,hb⟩)
    go_ret
    exact⟨by rw[ZbP p l0 kk y HX.out HQ.out HN.out];rfl,HB.out.trans (hb.mono HB.out.size)⟩
   | false=>
    have HQ:=Za hq
    rw[hq] at hcall
    clear hq
    go_wp2_with (go_at_fn g;refine hcall.mono ?_;rintro e w' ⟨rfl,hb⟩)
    go_roundg (l0.length - (kk+1))
    case measure=>have:=HG.out;omega
    case rel=>
     refine⟨kk+1,⟨by omega⟩,⟨by omega⟩,by go_num,⟨HB.out.trans (hb.mono HB.out.size)⟩,⟨fun j y' hj hy=>?_⟩⟩
     by_cases e:j=kk
     ·subst e
      rw[HX.out] at hy
      cases hy
      exact HQ.out
     ·exact HN.out j y' (by omega) hy
  ·have hltz:¬(kk:Int)<(l0.length:Int):=by omega
   have:kk=l0.length:=by have:=HK.out;omega
   subst this
   go_wp2
   go_ret
   exact⟨by rw[Zbz p l0 HN.out];rfl,HB.out⟩
def Zbm (ns:List S39) (p:Int):Int:=ZaZ (fun n=>decide (0<p) && decide (n.f2=p)) ns
def ZaX.f (l0_0:List (S39)) (l0_1:List (S82)) (a0_2:Int) (a1:Int):Option Int:=some (Zbm l0_0 a1)
theorem ZeW.clo (B:Nat) (p:Int) (W:World) (hB:W.cell? ⟨B,0,none⟩=some (.int .i64 p)) (x:S39) (A1_:Option Addr) (c1_:Nat) :
  Calls Tryz.prog 154 #[.agg #[.string x.f0,.slice A1_ x.f1.length c1_,.int .i64 x.f2],.pointer (some ⟨B,0,none⟩)] W fun e w'=>e=.returned (.bool (decide (0<p) && decide (x.f2=p)))∧Below W.heap.size W w':=by
 have hlt:B<W.heap.size:=Zc W _ hB
 have HE:=Za (show(x.f2 == p)=decide (x.f2=p) by rw[Bool.eq_iff_iff];simp)
 cases hp:decide (0<p) with
 | false=>
  go_enter Tryz.func154,Tryz.ntmps154
  go_wp2
  go_ret
  exact⟨rfl,(Below.refl _ _).alloc (Nat.le_refl _) _⟩
 | true=>
  go_enter Tryz.func154,Tryz.ntmps154
  go_wp2
  go_ret
  exact⟨by rw[← HE.out];rfl,(Below.refl _ _).alloc (Nat.le_refl _) _⟩
set_option maxHeartbeats 4000000 in
theorem ZaX.calls (A0_0:Option Addr) (c0_0:Nat) (l0_0:List (S39)) (A0_1:Option Addr) (c0_1:Nat) (l0_1:List (S82)) (a0_2:Int) (a1:Int) (r:Int) (w:World) (hr0_0:Kd.C k39 w A0_0 l0_0.length l0_0) (hc0_0:l0_0.length≤c0_0) (hr0_1:Kd.C k82 w A0_1 l0_1.length l0_1) (hc0_1:l0_1.length≤c0_1) (h:ZaX.f l0_0 l0_1 a0_2 a1=some r) :
  Calls Tryz.prog 88 #[.agg #[.slice A0_0 l0_0.length c0_0,.slice A0_1 l0_1.length c0_1,.int .i64 a0_2],.int .i64 a1] w fun e w'=>e=.returned (.int .i64 r)∧Below w.heap.size w w':=by
 obtain rfl:=Zg h
 have HC':=Za fun (W:World) (B:Nat) (hb:Below w.heap.size w W) (hcell:W.cell? ⟨B,0,none⟩=some (.int .i64 a1))=>impl_Node_82.any (fun n=>decide (0<a1) && decide (n.f2=a1)) 154 #[.pointer (some ⟨B,0,none⟩)] (enters_of Tryz.func154 (by kernel_rfl) rfl) A0_0 c0_0 l0_0 W (Zb hr0_0 hb)
    (fun W' x A1_ c1_ _ hb' _ _=>ZeW.clo B a1 W' ((hb'.cell (Zc W _ hcell)).trans hcell) x A1_ c1_)
 clear hr0_0 hr0_1 h
 have HB2:=Za (((Below.refl w.heap.size w).alloc (Nat.le_refl _) (.cells #[.slice A0_0 l0_0.length c0_0,.slice A0_1 l0_1.length c0_1,.int .i64 a0_2] 25)).alloc (by simp) (.cells #[.int .i64 a1] 3))
 have hu:=Tryz.underlying25
 go_enter Tryz.func88,Tryz.ntmps88
 go_wp2_with fail
 refine(HC'.out _ _ HB2.out (by go_simp)).mono ?_
 rintro e w' ⟨rfl,hb⟩
 go_wp2
 go_ret
 exact⟨rfl,HB2.out.trans (hb.mono HB2.out.size)⟩
end Go.Proofs.YtoeimopgoaffcaaGreatDoor.Pr
namespace Go.Proofs.YtoeimopgoaffcaaGreatDoor.Pr
open Go.RowKit Go.Proofs.YtoeimopgoaffcaaGreatDoorW.PrintWords Go.Proofs.YtoeimopgoaffcaaGreatDoorW.PrintLast Go.Proofs.YtoeimopgoaffcaaGreatDoorW.PrintMore
attribute [local go_sem] Z2 Z0 Zac Zab ZU ZT Z1 ZZ
set_option linter.unusedVariables false
set_option linter.unusedSimpArgs false
def Zaf.l0:Nat→List Int→List (S82)→Int→Int→Option (List Int)
 | 0,_,_,_,_=>none
 | k+1,x3,x7,x8,x9=>if x9<x8 then(if 0≤x9 then(if x9<(x7.length:Int) then(if (Zu x7 x9).f4=true then(if x3.length<17592186044416 then(Zaf.l0 k (x3 ++ [x9]) x7 x8 (wrap64 (x9+1))) else(none)) else(Zaf.l0 k x3 x7 x8 (wrap64 (x9+1)))) else(none)) else(none)) else(some x3)
def Zaf.f (k:Nat) (l0_0:List (S39)) (l0_1:List (S82)) (a0_2:Int):Option (List Int):=Zaf.l0 k ([]:List Int) l0_1 (l0_1.length:Int) 0
set_option maxHeartbeats 8000000 in
set_option maxRecDepth 100000 in
theorem Zaf.calls (k:Nat) (A0_0:Option Addr) (c0_0:Nat) (l0_0:List (S39)) (A0_1:Option Addr) (c0_1:Nat) (l0_1:List (S82)) (a0_2:Int) (r:List Int) (w:World) (hr0_0:Kd.C k39 w A0_0 l0_0.length l0_0) (hc0_0:l0_0.length≤c0_0) (hr0_1:Kd.C k82 w A0_1 l0_1.length l0_1) (hc0_1:l0_1.length≤c0_1) (h:Zaf.f k l0_0 l0_1 a0_2=some r) :
  Calls Tryz.prog 90 #[.agg #[.slice A0_0 l0_0.length c0_0,.slice A0_1 l0_1.length c0_1,.int .i64 a0_2]] w fun e w'=>∃v0_:Value,e=.returned (v0_)∧Kd.R (Kd.int .i64) 3 w' w.heap.size (fun _=>True) v0_ r∧Below w.heap.size w w':=by
 have hu25:=Tryz.underlying25
 have hu82:=Tryz.underlying82
 have HR0_0:=Za hr0_0;have HC0_0:=Za hc0_0;clear hr0_0 hc0_0;have HR0_1:=Za hr0_1;have HC0_1:=Za hc0_1;clear hr0_1 hc0_1
 have HB:=Za (Below.refl w.heap.size w)
 have H:(Zaf.l0 k ([]:List Int) l0_1 (l0_1.length:Int) 0)=some r:=h
 clear h
 have H':=Za H
 clear H
 go_enter Tryz.func90,Tryz.ntmps90
 go_wp2_with (first|((with_reducible refine ZI (N:=1) rfl ?_);refine ZG ?hg (N:=1) ?hd (cs:=#[.slice A0_0 l0_0.length c0_0,.slice A0_1 l0_1.length c0_1,.int .i64 a0_2]) (t:=25) ?hr ?_;(case hd=>rfl);(case hg=>rfl);(case hr=>first|(go_simp;done)|(go_simp;rfl));intro gb90001 hg w2 hbox hb;have BK90001:=Za (hbox);have GW90001:=Za ((by rw[hg];exact(ZC (by repeat(first|(with_reducible first|exact HB.out|apply Zn|apply Zm|apply Zo)|exact HB.out))):w.heap.size≤gb90001));have GE90001:=Za ((by rw[hg];exact(ZC (by repeat(first|(with_reducible first|exact HB.out|apply Zn|apply Zm|apply Zo)|exact HB.out))):w.heap.size≤gb90001));replace HB:=Za (Zt (by repeat(first|(with_reducible first|exact HB.out|apply Zn|apply Zm|apply Zo)|exact HB.out)) hb);clear hb hbox hg;have hcz3_0:w2.cell? ⟨gb90001,0,none⟩=some (.slice A0_0 l0_0.length c0_0):=(Zp BK90001.out 0).trans rfl;have hcz3_1:w2.cell? ⟨gb90001,1,none⟩=some (.slice A0_1 l0_1.length c0_1):=(Zp BK90001.out 1).trans rfl;have hcz3_2:w2.cell? ⟨gb90001,2,none⟩=some (.int .i64 a0_2):=(Zp BK90001.out 2).trans rfl;have hfz3_0:=Zs BK90001.out 0;have hfz3_1:=Zs BK90001.out 1;have hfz3_2:=Zs BK90001.out 2))
 go_loopg [3,9] k (fun kq v3 v9 w'=>∃(x3_1:List Int) (x9_1:Int),v9=.int .i64 x9_1∧Aside0 (Zaf.l0 kq x3_1 l0_1 (l0_1.length:Int) x9_1=some r)∧Aside0 (kq≤k)∧Aside0 (Kd.R (Kd.int .i64) 3 w' w.heap.size (fun _=>True) v3 x3_1)∧Aside0 (w'.heap[gb90001]? = some (.cells #[(.slice A0_0 l0_0.length c0_0),(.slice A0_1 l0_1.length c0_1),.int .i64 a0_2] 25 (0,0)))∧Aside0 (Below w.heap.size w w'))
 case atStart=>exact⟨(([]:List Int)),(0),(by first|rfl|(simp;done)|(simp[*];done)),H',⟨Nat.le_refl _⟩,⟨by first|exact Kd.R_nil _ _ _ _ _|exact Kd.N_nil _ _ _ _ _|exact Kd.V_nil _ _ _ _ _|exact Kd.Q_nil _ _ _ _ _|exact Kd.S_nil _ _ _ _ _⟩,⟨by(with_reducible repeat(first|refine Zw ?_ _|refine ZB ?_|refine Zv ?_ _));exact BK90001.out⟩,⟨by repeat(first|(with_reducible first|exact HB.out|apply Zn|apply Zm|apply Zo|refine Zq ?_ GE90001.out)|exact HB.out)⟩⟩
 case round=>
  clear H'
  try clear p2
  obtain⟨x3_1,x9_1,rfl,HA,HK1,HO_3,BK90001,HB⟩:=hrel
  cases gk with
  | zero=>exact absurd HA.out (by simp[Zaf.l0])
  | succ k1=>
   have H:=HA.out
   clear HA
   simp only[Zaf.l0] at H
   by_cases c4:x9_1<(l0_1.length:Int)
   ·rw[if_pos c4] at H
    have c4b0:decide (x9_1<(l0_1.length:Int))=true:=Ze c4
    clear c4
    by_cases c5:0≤x9_1
    ·rw[if_pos c5] at H
     have c5b0:decide (0≤x9_1)=true:=Ze c5
     clear c5
     by_cases c6:x9_1<(l0_1.length:Int)
     ·rw[if_pos c6] at H
      have c6b0:decide (x9_1<(l0_1.length:Int))=true:=Ze c6
      clear c6
      obtain⟨bq7,hbq7⟩:∃b_:Bool,b_=((Zu l0_1 x9_1).f4):=⟨_,rfl⟩
      replace H:(if bq7=true then(if x3_1.length<17592186044416 then(Zaf.l0 k1 (x3_1 ++ [x9_1]) l0_1 (l0_1.length:Int) (wrap64 (x9_1+1))) else(none)) else(Zaf.l0 k1 x3_1 l0_1 (l0_1.length:Int) (wrap64 (x9_1+1))))=some r:=by rw[← hbq7] at H;exact H
      have Nbq7:=Za hbq7;clear hbq7
      by_cases c8:bq7=true
      ·subst c8
       rw[if_pos rfl] at H
       by_cases c9:x3_1.length<17592186044416
       ·rw[if_pos c9] at H
        have LMc9:=Za c9;clear c9
        obtain⟨y90004,hy90004⟩:∃y_:List Int,y_=(x3_1 ++ [x9_1]):=⟨_,rfl⟩
        replace H:(Zaf.l0 k1 y90004 l0_1 (l0_1.length:Int) (wrap64 (x9_1+1)))=some r:=by first|(rw[hy90004];with_reducible exact H)|(have H2_:=(Zi _ _).symm.trans H;rw[hy90004];with_reducible exact H2_)|(have H2_:=(Zi _ _).symm.trans H;with_reducible exact H2_)|with_reducible exact H|(rw[hy90004];exact H)|exact H
        have Ny90004:=Za hy90004;clear hy90004
        have H':=Za H
        clear H
        have p90002:0≤(x9_1:Int):=Zd (by first|(with_reducible assumption)|assumption)
        have q90002:x9_1<(l0_1.length:Int):=Zd (by first|(with_reducible assumption)|assumption)
        obtain⟨ad90002,e90002,hx90002_0,hx90002_1,hx90002_2,hx90002_3,hx90002_4⟩:=Zbp HR0_1.out x9_1 p90002 q90002
        (try rw[← Nbq7.out] at hx90002_4)
        cases e90002
        replace hx90002_0:=(HB.out.cell (Zc w _ hx90002_0)).trans hx90002_0
        replace hx90002_1:=(HB.out.cell (Zc w _ hx90002_1)).trans hx90002_1
        replace hx90002_2:=(HB.out.cell (Zc w _ hx90002_2)).trans hx90002_2
        replace hx90002_3:=(HB.out.cell (Zc w _ hx90002_3)).trans hx90002_3
        replace hx90002_4:=(HB.out.cell (Zc w _ hx90002_4)).trans hx90002_4
        replace p90002:=eq_true p90002
        replace q90002:=eq_true q90002
        go_wp2_with (first|((with_reducible refine ZI (N:=5) rfl ?_);refine ZG ?hg (N:=5) ?hd (cs:=#[.int .i64 0,.int .i64 0,.int .i64 0,.int .i64 0,.bool false]) (t:=82) ?hr ?_;(case hd=>rfl);(case hg=>rfl);(case hr=>first|(go_simp;done)|(go_simp;rfl));intro gb90003 hg w10 hbox hb;have n0_:=Za (Kd.R_below (by(with_reducible repeat(first|apply Kd.R_alloc|apply Kd.R_drewN|apply Kd.R_drew));exact HO_3.out) hb);have n1_:=Za (Zx (g:=gb90001) (o:=.cells #[.slice A0_0 l0_0.length c0_0,.slice (some ad90002) l0_1.length c0_1,.int .i64 a0_2] 25 (0,0)) BK90001.out hb);have n2_:=Za (Zt (by repeat(first|(with_reducible first|exact HB.out|apply Zn|apply Zm|apply Zo|refine Zq ?_ GE90001.out)|exact HB.out)) hb);have n3_:=Za (hbox);have n4_:=Za ((by rw[hg];exact(ZC (by repeat(first|(with_reducible first|exact HB.out|apply Zn|apply Zm|apply Zo|refine Zq ?_ GE90001.out)|exact HB.out))):w.heap.size≤gb90003));have n5_:=n4_;have n6_:=Za ((by rw[hg];exact Nat.ne_of_lt (ZW (g:=gb90001) (o:=.cells #[.slice A0_0 l0_0.length c0_0,.slice (some ad90002) l0_1.length c0_1,.int .i64 a0_2] 25 (0,0)) BK90001.out):gb90001≠gb90003));have n7_:=Za n6_.out.symm;clear HO_3;clear BK90001;clear HB;have HO_3:=n0_;have BK90001:=n1_;have HB:=n2_;have BK90003:=n3_;have GW90003:=n4_;have GE90003:=n5_;have NB90001_90003:=n6_;have NB90003_90001:=n7_;clear n0_ n1_ n2_ n3_ n4_ n5_ n6_ n7_;clear hb hbox hg;have hnb11:=NB90003_90001.out;have hnc11:=NB90001_90003.out;have hcz12_0:w10.cell? ⟨gb90003,0,none⟩=some (.int .i64 0):=(Zp BK90003.out 0).trans rfl;have hcz12_1:w10.cell? ⟨gb90003,1,none⟩=some (.int .i64 0):=(Zp BK90003.out 1).trans rfl;have hcz12_2:w10.cell? ⟨gb90003,2,none⟩=some (.int .i64 0):=(Zp BK90003.out 2).trans rfl;have hcz12_3:w10.cell? ⟨gb90003,3,none⟩=some (.int .i64 0):=(Zp BK90003.out 3).trans rfl;have hcz12_4:w10.cell? ⟨gb90003,4,none⟩=some (.bool false):=(Zp BK90003.out 4).trans rfl;have hfz12_0:=Zs BK90003.out 0;have hfz12_1:=Zs BK90003.out 1;have hfz12_2:=Zs BK90003.out 2;have hfz12_3:=Zs BK90003.out 3;have hfz12_4:=Zs BK90003.out 4)|((with_reducible refine Zbj (b:=.append) (xs:=#[.tmp 16,.tmp 18]) rfl ?_);at_builtin;refine Kd.R_append (Kd.int .i64) (w0:=w) w.heap.size rfl (.tmp 16) (.tmp 18) 37 3 (.int .i64 0) 8 rfl Tryz.underlying37 info3 rfl (by decide) (by omega) u3 x3_1 x9_1 [.int .i64 x9_1] (fun _=>True) (fun _=>False) rfl (by first|(go_simp;done)|(go_simp;rfl)) ?aP (fun _ hk=>hk.elim) ?aF ?aO ?aB ?aS ?aL ?_;(case aP=>exact rfl);(case aB=>exact(by repeat(first|(with_reducible first|exact HB.out|apply Zn|apply Zm|apply Zo|refine Zq ?_ GE90001.out|refine Zq ?_ GE90003.out)|exact HB.out)));(case aF=>exact(fun _ _=>trivial));(case aO=>exact(by(with_reducible repeat(first|apply Kd.R_alloc|apply Kd.R_drewN|apply Kd.R_drew));exact Kd.R_mono (Kd.R_far (p:=⟨gb90003,4,none⟩) (Kd.R_far (p:=⟨gb90003,3,none⟩) (Kd.R_far (p:=⟨gb90003,2,none⟩) (Kd.R_far (p:=⟨gb90003,1,none⟩) (Kd.R_far (p:=⟨gb90003,0,none⟩) (Kd.R_types HO_3.out BK90003.out (by decide)) (fun _ hk=>hk.2) (.int .i64 ((Zu l0_1 x9_1).f0))) (fun _ hk=>hk.2) (.int .i64 ((Zu l0_1 x9_1).f1))) (fun _ hk=>hk.2) (.int .i64 ((Zu l0_1 x9_1).f2))) (fun _ hk=>hk.2) (.int .i64 ((Zu l0_1 x9_1).f3))) (fun _ hk=>hk.2) (.bool true)) (fun _ hk=>trivial)));(case aS=>exact(ZC (by repeat(first|(with_reducible first|exact HB.out|apply Zn|apply Zm|apply Zo|refine Zq ?_ GE90001.out|refine Zq ?_ GE90003.out)|exact HB.out))));(case aL=>have:=LMc9.out;omega);intro v90005 w13 ho hb hg hat;rw[← Ny90004.out] at ho;have HO90006:=Za (ho);replace BK90001:=Za (Za7 (g:=gb90001) (o:=.cells #[.slice A0_0 l0_0.length c0_0,.slice (some ad90002) l0_1.length c0_1,.int .i64 a0_2] 25 (0,0)) (by(with_reducible repeat(first|refine Zw ?_ _|refine ZB ?_|refine Zv ?_ _));refine ZL ?_ NB90001_90003.out _;(with_reducible repeat(first|refine Zw ?_ _|refine ZB ?_|refine Zv ?_ _));refine ZL ?_ NB90001_90003.out _;(with_reducible repeat(first|refine Zw ?_ _|refine ZB ?_|refine Zv ?_ _));refine ZL ?_ NB90001_90003.out _;(with_reducible repeat(first|refine Zw ?_ _|refine ZB ?_|refine Zv ?_ _));refine ZL ?_ NB90001_90003.out _;(with_reducible repeat(first|refine Zw ?_ _|refine ZB ?_|refine Zv ?_ _));refine ZL ?_ NB90001_90003.out _;(with_reducible repeat(first|refine Zw ?_ _|refine ZB ?_|refine Zv ?_ _));exact BK90001.out) hg (Kd.R_ne HO_3.out BK90001.out (by decide)));replace BK90003:=Za (Za7 (g:=gb90003) (o:=.cells #[.int .i64 ((Zu l0_1 x9_1).f0),.int .i64 ((Zu l0_1 x9_1).f1),.int .i64 ((Zu l0_1 x9_1).f2),.int .i64 ((Zu l0_1 x9_1).f3),.bool true] 82 (0,0)) (by(with_reducible repeat(first|refine Zw ?_ _|refine ZB ?_|refine Zv ?_ _));refine ZP (cs:=#[.int .i64 ((Zu l0_1 x9_1).f0),.int .i64 ((Zu l0_1 x9_1).f1),.int .i64 ((Zu l0_1 x9_1).f2),.int .i64 ((Zu l0_1 x9_1).f3),.bool false]) ?_ 4 _ rfl;(with_reducible repeat(first|refine Zw ?_ _|refine ZB ?_|refine Zv ?_ _));refine ZP (cs:=#[.int .i64 ((Zu l0_1 x9_1).f0),.int .i64 ((Zu l0_1 x9_1).f1),.int .i64 ((Zu l0_1 x9_1).f2),.int .i64 0,.bool false]) ?_ 3 _ rfl;(with_reducible repeat(first|refine Zw ?_ _|refine ZB ?_|refine Zv ?_ _));refine ZP (cs:=#[.int .i64 ((Zu l0_1 x9_1).f0),.int .i64 ((Zu l0_1 x9_1).f1),.int .i64 0,.int .i64 0,.bool false]) ?_ 2 _ rfl;(with_reducible repeat(first|refine Zw ?_ _|refine ZB ?_|refine Zv ?_ _));refine ZP (cs:=#[.int .i64 ((Zu l0_1 x9_1).f0),.int .i64 0,.int .i64 0,.int .i64 0,.bool false]) ?_ 1 _ rfl;(with_reducible repeat(first|refine Zw ?_ _|refine ZB ?_|refine Zv ?_ _));refine ZP (cs:=#[.int .i64 0,.int .i64 0,.int .i64 0,.int .i64 0,.bool false]) ?_ 0 _ rfl;(with_reducible repeat(first|refine Zw ?_ _|refine ZB ?_|refine Zv ?_ _));exact BK90003.out) hg (Kd.R_ne HO_3.out BK90003.out (by decide)));replace HB:=Za (hb);clear HO_3;clear ho hb hg hat))
        go_roundg k1
        case measure=>have:=HK1.out;omega
        case rel=>exact⟨(y90004),(wrap64 (x9_1+1)),(by first|rfl|(simp;done)|(simp[*];done)),H',⟨by have:=HK1.out;omega⟩,⟨by(with_reducible repeat(first|apply Kd.R_alloc|apply Kd.R_drewN|apply Kd.R_drew));exact HO90006.out⟩,⟨by(with_reducible repeat(first|refine Zw ?_ _|refine ZB ?_|refine Zv ?_ _));exact BK90001.out⟩,⟨by repeat(first|(with_reducible first|exact HB.out|apply Zn|apply Zm|apply Zo|refine Zq ?_ GE90001.out|refine Zq ?_ GE90003.out)|exact HB.out)⟩⟩
       ·rw[if_neg c9] at H
        exact absurd H (by simp)
      ·replace c8:=Bool.eq_false_iff.mpr c8
       subst c8
       have H1:(Zaf.l0 k1 x3_1 l0_1 (l0_1.length:Int) (wrap64 (x9_1+1)))=some r:=by rw[if_neg (show ¬(false=true) by decide)] at H;exact H
       clear H
       have H:=H1
       clear H1
       have H':=Za H
       clear H
       have p90002:0≤(x9_1:Int):=Zd (by first|(with_reducible assumption)|assumption)
       have q90002:x9_1<(l0_1.length:Int):=Zd (by first|(with_reducible assumption)|assumption)
       obtain⟨ad90002,e90002,hx90002_0,hx90002_1,hx90002_2,hx90002_3,hx90002_4⟩:=Zbp HR0_1.out x9_1 p90002 q90002
       (try rw[← Nbq7.out] at hx90002_4)
       cases e90002
       replace hx90002_0:=(HB.out.cell (Zc w _ hx90002_0)).trans hx90002_0
       replace hx90002_1:=(HB.out.cell (Zc w _ hx90002_1)).trans hx90002_1
       replace hx90002_2:=(HB.out.cell (Zc w _ hx90002_2)).trans hx90002_2
       replace hx90002_3:=(HB.out.cell (Zc w _ hx90002_3)).trans hx90002_3
       replace hx90002_4:=(HB.out.cell (Zc w _ hx90002_4)).trans hx90002_4
       replace p90002:=eq_true p90002
       replace q90002:=eq_true q90002
       go_wp2_with (first|((with_reducible refine ZI (N:=5) rfl ?_);refine ZG ?hg (N:=5) ?hd (cs:=#[.int .i64 0,.int .i64 0,.int .i64 0,.int .i64 0,.bool false]) (t:=82) ?hr ?_;(case hd=>rfl);(case hg=>rfl);(case hr=>first|(go_simp;done)|(go_simp;rfl));intro gb90003 hg w14 hbox hb;have n0_:=Za (Kd.R_below (by(with_reducible repeat(first|apply Kd.R_alloc|apply Kd.R_drewN|apply Kd.R_drew));exact HO_3.out) hb);have n1_:=Za (Zx (g:=gb90001) (o:=.cells #[.slice A0_0 l0_0.length c0_0,.slice (some ad90002) l0_1.length c0_1,.int .i64 a0_2] 25 (0,0)) BK90001.out hb);have n2_:=Za (Zt (by repeat(first|(with_reducible first|exact HB.out|apply Zn|apply Zm|apply Zo|refine Zq ?_ GE90001.out)|exact HB.out)) hb);have n3_:=Za (hbox);have n4_:=Za ((by rw[hg];exact(ZC (by repeat(first|(with_reducible first|exact HB.out|apply Zn|apply Zm|apply Zo|refine Zq ?_ GE90001.out)|exact HB.out))):w.heap.size≤gb90003));have n5_:=n4_;have n6_:=Za ((by rw[hg];exact Nat.ne_of_lt (ZW (g:=gb90001) (o:=.cells #[.slice A0_0 l0_0.length c0_0,.slice (some ad90002) l0_1.length c0_1,.int .i64 a0_2] 25 (0,0)) BK90001.out):gb90001≠gb90003));have n7_:=Za n6_.out.symm;clear HO_3;clear BK90001;clear HB;have HO_3:=n0_;have BK90001:=n1_;have HB:=n2_;have BK90003:=n3_;have GW90003:=n4_;have GE90003:=n5_;have NB90001_90003:=n6_;have NB90003_90001:=n7_;clear n0_ n1_ n2_ n3_ n4_ n5_ n6_ n7_;clear hb hbox hg;have hnb15:=NB90003_90001.out;have hnc15:=NB90001_90003.out;have hcz16_0:w14.cell? ⟨gb90003,0,none⟩=some (.int .i64 0):=(Zp BK90003.out 0).trans rfl;have hcz16_1:w14.cell? ⟨gb90003,1,none⟩=some (.int .i64 0):=(Zp BK90003.out 1).trans rfl;have hcz16_2:w14.cell? ⟨gb90003,2,none⟩=some (.int .i64 0):=(Zp BK90003.out 2).trans rfl;have hcz16_3:w14.cell? ⟨gb90003,3,none⟩=some (.int .i64 0):=(Zp BK90003.out 3).trans rfl;have hcz16_4:w14.cell? ⟨gb90003,4,none⟩=some (.bool false):=(Zp BK90003.out 4).trans rfl;have hfz16_0:=Zs BK90003.out 0;have hfz16_1:=Zs BK90003.out 1;have hfz16_2:=Zs BK90003.out 2;have hfz16_3:=Zs BK90003.out 3;have hfz16_4:=Zs BK90003.out 4))
       go_roundg k1
       case measure=>have:=HK1.out;omega
       case rel=>exact⟨(x3_1),(wrap64 (x9_1+1)),(by first|rfl|(simp;done)|(simp[*];done)),H',⟨by have:=HK1.out;omega⟩,⟨by(with_reducible repeat(first|apply Kd.R_alloc|apply Kd.R_drewN|apply Kd.R_drew));exact Kd.R_mono (Kd.R_far (p:=⟨gb90003,4,none⟩) (Kd.R_far (p:=⟨gb90003,3,none⟩) (Kd.R_far (p:=⟨gb90003,2,none⟩) (Kd.R_far (p:=⟨gb90003,1,none⟩) (Kd.R_far (p:=⟨gb90003,0,none⟩) (Kd.R_types HO_3.out BK90003.out (by decide)) (fun _ hk=>hk.2) (.int .i64 ((Zu l0_1 x9_1).f0))) (fun _ hk=>hk.2) (.int .i64 ((Zu l0_1 x9_1).f1))) (fun _ hk=>hk.2) (.int .i64 ((Zu l0_1 x9_1).f2))) (fun _ hk=>hk.2) (.int .i64 ((Zu l0_1 x9_1).f3))) (fun _ hk=>hk.2) (.bool false)) (fun _ hk=>trivial)⟩,⟨by(with_reducible repeat(first|refine Zw ?_ _|refine ZB ?_|refine Zv ?_ _));refine ZL ?_ NB90001_90003.out _;(with_reducible repeat(first|refine Zw ?_ _|refine ZB ?_|refine Zv ?_ _));refine ZL ?_ NB90001_90003.out _;(with_reducible repeat(first|refine Zw ?_ _|refine ZB ?_|refine Zv ?_ _));refine ZL ?_ NB90001_90003.out _;(with_reducible repeat(first|refine Zw ?_ _|refine ZB ?_|refine Zv ?_ _));refine ZL ?_ NB90001_90003.out _;(with_reducible repeat(first|refine Zw ?_ _|refine ZB ?_|refine Zv ?_ _));refine ZL ?_ NB90001_90003.out _;(with_reducible repeat(first|refine Zw ?_ _|refine ZB ?_|refine Zv ?_ _));exact BK90001.out⟩,⟨by repeat(first|(with_reducible first|exact HB.out|apply Zn|apply Zm|apply Zo|refine Zq ?_ GE90001.out|refine Zq ?_ GE90003.out)|exact HB.out)⟩⟩
     ·rw[if_neg c6] at H
      exact absurd H (by simp)
    ·rw[if_neg c5] at H
     exact absurd H (by simp)
   ·rw[if_neg c4] at H
    have c4b0:decide (x9_1<(l0_1.length:Int))=false:=Zf c4
    clear c4
    obtain rfl:=Zg H
    go_wp2
    go_ret
    exact⟨_,by first|rfl|(simp[ZA,Zz] <;> rfl)|(simp[*,ZA,Zz] <;> rfl),by(with_reducible repeat(first|apply Kd.R_alloc|apply Kd.R_drewN|apply Kd.R_drew));exact HO_3.out,by repeat(first|(with_reducible first|exact HB.out|apply Zn|apply Zm|apply Zo|refine Zq ?_ GE90001.out)|exact HB.out)⟩
end Go.Proofs.YtoeimopgoaffcaaGreatDoor.Pr
