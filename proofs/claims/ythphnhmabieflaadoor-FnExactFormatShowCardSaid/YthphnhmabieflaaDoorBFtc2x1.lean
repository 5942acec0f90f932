/- The texts of one claim, put together by a program of this session. -/
import Derived.Test.YthphnhmabieflaaDoorBFtc1x1
import Derived.Test.YthphnhmabieflaaDoorBFtc1x10
import Derived.Test.YthphnhmabieflaaDoorBFtc1x11
import Derived.Test.YthphnhmabieflaaDoorBFtc1x7
namespace Go.Proofs.YthphnhmabieflaaDoor.Pr
open Go.RowKit Go.Proofs.YthphnhmabieflaaDoorW.PrintWords Go.Proofs.YthphnhmabieflaaDoorW.PrintLast Go.Proofs.YthphnhmabieflaaDoorW.PrintMore
attribute [local go_sem] Zah Zaf Zas Zar Z8 Z7 Zag Zae
set_option linter.unusedVariables false
set_option linter.unusedSimpArgs false
theorem Zab.c (k:Nat) (A0:Option Addr) (c0:Nat) (l0:List Int) (r:List Int) (w:World) (hr0:Kd.C (Kd.int .i64) w A0 l0.length l0) (hc0:l0.length≤c0) (h:Zab.f k l0=some r) :
  Calls Tryd.prog 10 #[.slice A0 l0.length c0] w fun e w'=>∃A0_ c0_,e=.returned (.slice A0_ r.length c0_)∧Aside0 (r.length≤c0_∧Kd.C (Kd.int .i64) w' A0_ r.length r)∧Below w.heap.size w w':=
 (Zab.calls k A0 c0 l0 r w hr0 hc0 h).mono fun e w' ⟨v0_,he,q0_,hb⟩=>by
  obtain⟨A0_,c0_,rfl,g0_⟩:=Kd.R_reads q0_
  exact⟨A0_,c0_,he,⟨g0_⟩,hb⟩
mutual
def ZL.j0:Nat→List Int→Bool→List (S73)→List (S66)→Int→Option (ByteArray)
 | 0,_,_,_,_,_=>none
 | k+1,x1,x18,x18002000,x18002001,x18002002=>if x18=true then(some (⟨#[]⟩:ByteArray)) else(ZL.l0 k (([]:List ByteArray)) x1 (x1.length:Int) 0 x18002000 x18002001 x18002002)
def ZL.l0:Nat→List ByteArray→List Int→Int→Int→List (S73)→List (S66)→Int→Option (ByteArray)
 | 0,_,_,_,_,_,_,_=>none
 | k+1,x5,x20,x21,x22,x18002000,x18002001,x18002002=>if x22<x21 then(if 0≤x22 then(if x22<(x20.length:Int) then(if (rd x20 x22)=(-1) then(ZL.l0 k x5 x20 x21 (wrap64 (x22+1)) x18002000 x18002001 x18002002) else(if x22<(x18002000.length:Int) then(if ((Zp x18002000 x22).f0).size+1≤9223372036854775807 then((ZF.f k (rd x20 x22)).bind fun t18008=>(if (((Zp x18002000 x22).f0) ++ (⟨#[64]⟩:ByteArray)).size+t18008.size≤9223372036854775807 then(if x5.length<8796093022208 then(ZL.l0 k (x5 ++ [(((Zp x18002000 x22).f0) ++ (⟨#[64]⟩:ByteArray)) ++ t18008]) x20 x21 (wrap64 (x22+1)) x18002000 x18002001 x18002002) else(none)) else(none))) else(none)) else(none))) else(none)) else(none)) else(if (x5.length:Int)=0 then(some (⟨#[45]⟩:ByteArray)) else((ZaH.f k x5 (⟨#[32]⟩:ByteArray)).bind fun t18012=>(some t18012)))
end
def ZL.f (k:Nat) (l0_0:List (S73)) (l0_1:List (S66)) (a0_2:Int) (l1:List Int):Option (ByteArray):=(ZT.f k l0_0 l0_1 a0_2).bind fun t18002=>(if t18002=true then(ZL.j0 k l1 ((l1.length:Int) != (l0_0.length:Int)) l0_0 l0_1 a0_2) else(ZL.j0 k l1 true l0_0 l0_1 a0_2))
def ZL.T8:Bool×List (List Nat×List Nat):=(true,[([],[]),([],[]),([1],[1]),([],[]),([2,3],[2,3]),([4],[4]),([5],[5]),([6],[6]),([],[]),([8],[8]),([7,9],[7,9]),([10],[10]),([0,11,9],[0,11]),([12,12,0,1,2,3,4,5,6,7,8,9,10,11,12],[0,12])])
def ZL.B8:List Nat:=[0,0,2,0,14,30,62,126,0,256,1022,2046,4095,8191]
theorem ZL.tab8:rtab .any (opsOf Tryd.f18 8)=ZL.T8:=by kernel_rfl
theorem ZL.bits8:Zbz ZL.T8.2 ZL.B8=true:=by kernel_rfl
set_option maxHeartbeats 8000000 in
set_option maxRecDepth 100000 in
theorem ZL.calls (k:Nat) (A0_0:Option Addr) (c0_0:Nat) (l0_0:List (S73)) (A0_1:Option Addr) (c0_1:Nat) (l0_1:List (S66)) (a0_2:Int) (A1:Option Addr) (c1:Nat) (l1:List Int) (r:ByteArray) (w:World) (hr0_0:Kd.C k73 w A0_0 l0_0.length l0_0) (hc0_0:l0_0.length≤c0_0) (hr0_1:Kd.C k66 w A0_1 l0_1.length l0_1) (hc0_1:l0_1.length≤c0_1) (hr1:Kd.C (Kd.int .i64) w A1 l1.length l1) (hc1:l1.length≤c1) (h:ZL.f k l0_0 l0_1 a0_2 l1=some r) :
  Calls Tryd.prog 18 #[.agg #[.slice A0_0 l0_0.length c0_0,.slice A0_1 l0_1.length c0_1,.int .i64 a0_2],.slice A1 l1.length c1] w fun e w'=>e=.returned (.string r)∧Below w.heap.size w w':=by
 have hu36:=Tryd.underlying36
 have HR0_0:=Za hr0_0;have HC0_0:=Za hc0_0;clear hr0_0 hc0_0;have HR0_1:=Za hr0_1;have HC0_1:=Za hc0_1;clear hr0_1 hc0_1;have HR1:=Za hr1;have HC1:=Za hc1;clear hr1 hc1
 have HB:=Za (Below.refl w.heap.size w)
 have H:((ZT.f k l0_0 l0_1 a0_2).bind fun t18002=>(if t18002=true then(ZL.j0 k l1 ((l1.length:Int) != (l0_0.length:Int)) l0_0 l0_1 a0_2) else(ZL.j0 k l1 true l0_0 l0_1 a0_2)))=some r:=h
 clear h;have HC3:=Za H;clear H
 go_enter Tryd.func18,Tryd.ntmps18
 go_upto_region 1 with (first|((with_reducible refine ZN (N:=2) rfl ?_);(try(refine ZaP (by rfl) ?_;dsimp only));refine ZP ?hg (N:=2) ?hd (cs:=#[.slice A0_0 l0_0.length c0_0,.slice A0_1 l0_1.length c0_1,.int .i64 a0_2]) (t:=36) ?hr ?_;(case hd=>rfl);(case hg=>rfl);(case hr=>first|(go_simp;done)|(go_simp;rfl));intro gb18001 hg w4 hbox hb;have BK18001:=Za (hbox);have GW18001:=Za ((by rw[hg];exact(Zy (by repeat(first|(with_reducible first|exact HB.out|apply Zn|apply Zm|apply Zo)|exact HB.out))):w.heap.size≤gb18001));have GE18001:=Za ((by rw[hg];exact(Zy (by repeat(first|(with_reducible first|exact HB.out|apply Zn|apply Zm|apply Zo)|exact HB.out))):w.heap.size≤gb18001));replace HB:=Za (Zx (by repeat(first|(with_reducible first|exact HB.out|apply Zn|apply Zm|apply Zo)|exact HB.out)) hb);clear hb hbox hg))
 (try simp only[Act.put,List.setIfInBounds_toArray,List.set_cons_zero,List.set_cons_succ])
 go_cut [18] (fun v18 wc=>∃(kq:Nat) (x18_2:Bool),v18=.bool x18_2∧Aside0 (ZL.j0 kq l1 x18_2 l0_0 l0_1 a0_2=some r)∧Aside0 (kq≤k)∧Aside0 (wc.heap[gb18001]? = some (.cells #[(.slice A0_0 l0_0.length c0_0),(.slice A0_1 l0_1.length c0_1),.int .i64 a0_2] 36 (0,0)))∧Aside0 (Below w.heap.size w wc))
 case first=>
  have H:=HC3.out
  clear HC3
  replace H:=Zh H
  obtain⟨t18002,A50,H⟩:=H
  replace H:(if t18002=true then(ZL.j0 k l1 ((l1.length:Int) != (l0_0.length:Int)) l0_0 l0_1 a0_2) else(ZL.j0 k l1 true l0_0 l0_1 a0_2))=some r:=H
  have A5:=Za A50;clear A50
  by_cases c6:t18002=true
  ·subst c6
   have H1:(ZL.j0 k l1 ((l1.length:Int) != (l0_0.length:Int)) l0_0 l0_1 a0_2)=some r:=by rw[if_pos rfl] at H;exact H
   clear H
   have H:=H1
   clear H1
   have H':=Za H
   clear H
   have hcz7_0:w4.cell? ⟨gb18001,0,none⟩=some (.slice A0_0 l0_0.length c0_0):=(Zq BK18001.out 0).trans rfl
   have hcz7_1:w4.cell? ⟨gb18001,1,none⟩=some (.slice A0_1 l0_1.length c0_1):=(Zq BK18001.out 1).trans rfl
   have hcz7_2:w4.cell? ⟨gb18001,2,none⟩=some (.int .i64 a0_2):=(Zq BK18001.out 2).trans rfl
   have hfz7_0:=Zt BK18001.out 0
   have hfz7_1:=Zt BK18001.out 1
   have hfz7_2:=Zt BK18001.out 2
   go_wp2_with (first|((with_reducible refine ZG (f:=43) rfl ?_);refine ZX (some 9) rfl rfl Tryd.func43 (by kernel_rfl) rfl #[.agg #[.slice A0_0 l0_0.length c0_0,.slice A0_1 l0_1.length c0_1,.int .i64 a0_2]] rfl (by(try simp only[List.map_toArray,List.map_cons,List.map_nil]);first|done|rfl|(simp only[Zk,Zj];rfl)) ?_;(with_reducible refine(ZT.calls k _ _ l0_0 _ _ l0_1 a0_2 true _ ?side1 ?side2 ?side3 ?side4 A5.out).mono ?_);(case side1=>repeat(first|exact(Zb HR0_0.out HB.out)|(with_reducible refine Kd.C_alloc ?_ _)|(with_reducible refine Kd.C_drewN ?_ _)|(with_reducible refine Kd.C_drew ?_)));(case side2=>exact HC0_0.out);(case side3=>repeat(first|exact(Zb HR0_1.out HB.out)|(with_reducible refine Kd.C_alloc ?_ _)|(with_reducible refine Kd.C_drewN ?_ _)|(with_reducible refine Kd.C_drew ?_)));(case side4=>exact HC0_1.out);rintro e w8 ⟨rfl,hb⟩;refine⟨_,rfl,?_⟩;replace BK18001:=Za (ZB (g:=gb18001) (o:=.cells #[.slice A0_0 l0_0.length c0_0,.slice A0_1 l0_1.length c0_1,.int .i64 a0_2] 36 (0,0)) (by(with_reducible repeat(first|refine Zu ?_ _|refine Zv ?_|refine Zs ?_ _));exact BK18001.out) hb);replace HB:=Za (Zx (by repeat(first|(with_reducible first|exact HB.out|apply Zn|apply Zm|apply Zo|refine Zr ?_ GE18001.out)|exact HB.out)) hb);(try clear hb);(try clear hb2);(try clear hk);(try clear hi);have hcz9_0:w8.cell? ⟨gb18001,0,none⟩=some (.slice A0_0 l0_0.length c0_0):=(Zq BK18001.out 0).trans rfl;have hcz9_1:w8.cell? ⟨gb18001,1,none⟩=some (.slice A0_1 l0_1.length c0_1):=(Zq BK18001.out 1).trans rfl;have hcz9_2:w8.cell? ⟨gb18001,2,none⟩=some (.int .i64 a0_2):=(Zq BK18001.out 2).trans rfl;have hfz9_0:=Zt BK18001.out 0;have hfz9_1:=Zt BK18001.out 1;have hfz9_2:=Zt BK18001.out 2))
   go_meet
   case rel=>exact⟨_,(((l1.length:Int) != (l0_0.length:Int))),(by first|rfl|(simp;done)|(simp[*];done)),H',⟨by first|omega|exact Nat.le_refl _⟩,⟨by(with_reducible repeat(first|refine Zu ?_ _|refine Zv ?_|refine Zs ?_ _));exact BK18001.out⟩,⟨by repeat(first|(with_reducible first|exact HB.out|apply Zn|apply Zm|apply Zo|refine Zr ?_ GE18001.out)|exact HB.out)⟩⟩
  ·replace c6:=Bool.eq_false_iff.mpr c6
   subst c6
   have H1:(ZL.j0 k l1 true l0_0 l0_1 a0_2)=some r:=by rw[if_neg (show ¬(false=true) by decide)] at H;exact H
   clear H
   have H:=H1
   clear H1
   have H':=Za H
   clear H
   have hcz10_0:w4.cell? ⟨gb18001,0,none⟩=some (.slice A0_0 l0_0.length c0_0):=(Zq BK18001.out 0).trans rfl
   have hcz10_1:w4.cell? ⟨gb18001,1,none⟩=some (.slice A0_1 l0_1.length c0_1):=(Zq BK18001.out 1).trans rfl
   have hcz10_2:w4.cell? ⟨gb18001,2,none⟩=some (.int .i64 a0_2):=(Zq BK18001.out 2).trans rfl
   have hfz10_0:=Zt BK18001.out 0
   have hfz10_1:=Zt BK18001.out 1
   have hfz10_2:=Zt BK18001.out 2
   go_wp2_with (first|((with_reducible refine ZG (f:=43) rfl ?_);refine ZX (some 9) rfl rfl Tryd.func43 (by kernel_rfl) rfl #[.agg #[.slice A0_0 l0_0.length c0_0,.slice A0_1 l0_1.length c0_1,.int .i64 a0_2]] rfl (by(try simp only[List.map_toArray,List.map_cons,List.map_nil]);first|done|rfl|(simp only[Zk,Zj];rfl)) ?_;(with_reducible refine(ZT.calls k _ _ l0_0 _ _ l0_1 a0_2 false _ ?side1 ?side2 ?side3 ?side4 A5.out).mono ?_);(case side1=>repeat(first|exact(Zb HR0_0.out HB.out)|(with_reducible refine Kd.C_alloc ?_ _)|(with_reducible refine Kd.C_drewN ?_ _)|(with_reducible refine Kd.C_drew ?_)));(case side2=>exact HC0_0.out);(case side3=>repeat(first|exact(Zb HR0_1.out HB.out)|(with_reducible refine Kd.C_alloc ?_ _)|(with_reducible refine Kd.C_drewN ?_ _)|(with_reducible refine Kd.C_drew ?_)));(case side4=>exact HC0_1.out);rintro e w11 ⟨rfl,hb⟩;refine⟨_,rfl,?_⟩;replace BK18001:=Za (ZB (g:=gb18001) (o:=.cells #[.slice A0_0 l0_0.length c0_0,.slice A0_1 l0_1.length c0_1,.int .i64 a0_2] 36 (0,0)) (by(with_reducible repeat(first|refine Zu ?_ _|refine Zv ?_|refine Zs ?_ _));exact BK18001.out) hb);replace HB:=Za (Zx (by repeat(first|(with_reducible first|exact HB.out|apply Zn|apply Zm|apply Zo|refine Zr ?_ GE18001.out)|exact HB.out)) hb);(try clear hb);(try clear hb2);(try clear hk);(try clear hi)))
   go_meet
   case rel=>exact⟨_,(true),(by first|rfl|(simp;done)|(simp[*];done)),H',⟨by first|omega|exact Nat.le_refl _⟩,⟨by(with_reducible repeat(first|refine Zu ?_ _|refine Zv ?_|refine Zs ?_ _));exact BK18001.out⟩,⟨by repeat(first|(with_reducible first|exact HB.out|apply Zn|apply Zm|apply Zo|refine Zr ?_ GE18001.out)|exact HB.out)⟩⟩
 case rest=>
  clear HC3
  try clear c1
  try clear p2
  try clear c4
  try clear c6
  try clear hcz10_0
  try clear hcz10_1
  try clear hcz10_2
  try clear hcz7_0
  try clear hcz7_1
  try clear hcz7_2
  try clear hcz9_0
  try clear hcz9_1
  try clear hcz9_2
  try clear hfz10_0
  try clear hfz10_1
  try clear hfz10_2
  try clear hfz7_0
  try clear hfz7_1
  try clear hfz7_2
  try clear hfz9_0
  try clear hfz9_1
  try clear hfz9_2
  obtain⟨kq,x18_2,rfl,HA,HJ2,BK18001,HB⟩:=hcut
  cases kq with
  | zero=>exact absurd HA.out (by simp[ZL.j0])
  | succ kj2=>
   have H:=HA.out
   clear HA
   simp only[ZL.j0] at H
   by_cases c12:x18_2=true
   ·subst c12
    have H1:(some (⟨#[]⟩:ByteArray))=some r:=by rw[if_pos rfl] at H;exact H
    clear H
    have H:=H1
    clear H1
    obtain rfl:=Zg H
    go_wp2
    go_ret
    exact⟨by first|rfl|(simp[ZA,Zz] <;> rfl)|(simp[*,ZA,Zz] <;> rfl),by repeat(first|(with_reducible first|exact HB.out|apply Zn|apply Zm|apply Zo|refine Zr ?_ GE18001.out)|exact HB.out)⟩
   ·replace c12:=Bool.eq_false_iff.mpr c12
    subst c12
    have H1:(ZL.l0 kj2 (([]:List ByteArray)) l1 (l1.length:Int) 0 l0_0 l0_1 a0_2)=some r:=by rw[if_neg (show ¬(false=true) by decide)] at H;exact H
    clear H
    have H:=H1
    clear H1
    obtain⟨y18003,hy18003⟩:∃y_:List ByteArray,y_=(([]:List ByteArray)):=⟨_,rfl⟩
    replace H:(ZL.l0 kj2 y18003 l1 (l1.length:Int) 0 l0_0 l0_1 a0_2)=some r:=by first|(rw[hy18003];with_reducible exact H)|(have H2_:=(Zi _ _).symm.trans H;rw[hy18003];with_reducible exact H2_)|(have H2_:=(Zi _ _).symm.trans H;with_reducible exact H2_)|with_reducible exact H|(rw[hy18003];exact H)|exact H
    have Ny18003:=Za hy18003;clear hy18003
    have H':=Za H
    clear H
    go_wp2_with (first|((with_reducible refine ZN (N:=19) rfl ?_);(try(refine ZaP (by rfl) ?_;dsimp only));refine Kd.R_lit Kd.string _ 9 ?hg (N:=19) ?hd (xs:=([]:List ByteArray)) (inner:=[]) (ok:=fun _=>True) (okp:=fun _=>True) ?hr ?hp (fun _ hk=>hk) trivial (Below.refl _ _) (Nat.le_refl _) (by simp) ?_;(case hd=>rfl);(case hg=>rfl);(case hr=>first|(go_simp;done)|(go_simp;rfl));(case hp=>exact(Reps.none _ _));intro v18004 w13 ho14 hb hg_ hnew_;clear hg_ hnew_;(first|rw[← Ny18003.out] at ho14|(simp only[Int.reduceToNat] at ho14;rw[← Ny18003.out] at ho14));have HO18005:=Za (Kd.R_lower ho14 (Zy (by repeat(first|(with_reducible first|exact HB.out|apply Zn|apply Zm|apply Zo|refine Zr ?_ GE18001.out)|exact HB.out))));replace BK18001:=Za (ZB (g:=gb18001) (o:=.cells #[.slice A0_0 l0_0.length c0_0,.slice A0_1 l0_1.length c0_1,.int .i64 a0_2] 36 (0,0)) (by(with_reducible repeat(first|refine Zu ?_ _|refine Zv ?_|refine Zs ?_ _));exact BK18001.out) hb);replace HB:=Za (Zx (by repeat(first|(with_reducible first|exact HB.out|apply Zn|apply Zm|apply Zo|refine Zr ?_ GE18001.out)|exact HB.out)) hb);clear hb ho14))
    go_loopg [5,22] kj2 (fun kq v5 v22 w'=>∃(x5_2:List ByteArray) (x22_2:Int),v22=.int .i64 x22_2∧Aside0 (ZL.l0 kq x5_2 l1 (l1.length:Int) x22_2 l0_0 l0_1 a0_2=some r)∧Aside0 (kq≤kj2)∧Aside0 (Kd.R Kd.string 9 w' w.heap.size (fun _=>True) v5 x5_2)∧Aside0 (w'.heap[gb18001]? = some (.cells #[(.slice A0_0 l0_0.length c0_0),(.slice A0_1 l0_1.length c0_1),.int .i64 a0_2] 36 (0,0)))∧Aside0 (Below w.heap.size w w'))
    case atStart=>exact⟨(y18003),(0),(by first|rfl|(simp;done)|(simp[*];done)),H',⟨Nat.le_refl _⟩,⟨by(with_reducible repeat(first|apply Kd.R_alloc|apply Kd.R_drewN|apply Kd.R_drew));exact HO18005.out⟩,⟨by(with_reducible repeat(first|refine Zu ?_ _|refine Zv ?_|refine Zs ?_ _));exact BK18001.out⟩,⟨by repeat(first|(with_reducible first|exact HB.out|apply Zn|apply Zm|apply Zo|refine Zr ?_ GE18001.out)|exact HB.out)⟩⟩
    case round=>
     clear H'
     try clear c1
     try clear p2
     try clear c4
     try clear c6
     try clear c12
     try clear hcz10_0
     try clear hcz10_1
     try clear hcz10_2
     try clear hcz7_0
     try clear hcz7_1
     try clear hcz7_2
     try clear hcz9_0
     try clear hcz9_1
     try clear hcz9_2
     try clear hfz10_0
     try clear hfz10_1
     try clear hfz10_2
     try clear hfz7_0
     try clear hfz7_1
     try clear hfz7_2
     try clear hfz9_0
     try clear hfz9_1
     try clear hfz9_2
     try clear p2
     obtain⟨x5_2,x22_2,rfl,HA,HK2,HO_5,BK18001,HB⟩:=hrel
     cases gk with
     | zero=>exact absurd HA.out (by simp[ZL.l0])
     | succ k2=>
      have H:=HA.out
      clear HA
      simp only[ZL.l0] at H
      by_cases c15:x22_2<(l1.length:Int)
      ·rw[if_pos c15] at H
       have c15b0:decide (x22_2<(l1.length:Int))=true:=Ze c15
       clear c15
       by_cases c16:0≤x22_2
       ·rw[if_pos c16] at H
        have c16b0:decide (0≤x22_2)=true:=Ze c16
        clear c16
        by_cases c17:x22_2<(l1.length:Int)
        ·rw[if_pos c17] at H
         have c17b0:decide (x22_2<(l1.length:Int))=true:=Ze c17
         clear c17
         by_cases c18:(rd l1 x22_2)=(-1)
         ·rw[if_pos c18] at H
          have c18b0:((rd l1 x22_2) == (-1))=true:=beq_iff_eq.mpr c18
          have c18b1:((rd l1 x22_2) != (-1))=false:=bne_eq_false_iff_eq.mpr c18
          clear c18
          have H':=Za H
          clear H
          have p18006:0≤(x22_2:Int):=Zd (by first|(with_reducible assumption)|assumption)
          have q18006:x22_2<(l1.length:Int):=Zd (by first|(with_reducible assumption)|assumption)
          obtain⟨ad18006,e18006,hx18006_0⟩:=Kd.at_int HR1.out x22_2 p18006 q18006
          cases e18006
          replace hx18006_0:=(HB.out.cell (Zc w _ hx18006_0)).trans hx18006_0
          replace p18006:=eq_true p18006
          replace q18006:=eq_true q18006
          go_wp2
          go_roundg k2
          case measure=>have:=HJ2.out;have:=HK2.out;omega
          case rel=>exact⟨(x5_2),(wrap64 (x22_2+1)),(by first|rfl|(simp;done)|(simp[*];done)),H',⟨by have:=HJ2.out;have:=HK2.out;omega⟩,⟨by(with_reducible repeat(first|apply Kd.R_alloc|apply Kd.R_drewN|apply Kd.R_drew));exact HO_5.out⟩,⟨by(with_reducible repeat(first|refine Zu ?_ _|refine Zv ?_|refine Zs ?_ _));exact BK18001.out⟩,⟨by repeat(first|(with_reducible first|exact HB.out|apply Zn|apply Zm|apply Zo|refine Zr ?_ GE18001.out)|exact HB.out)⟩⟩
         ·rw[if_neg c18] at H
          have c18b0:((rd l1 x22_2) == (-1))=false:=beq_eq_false_iff_ne.mpr c18
          have c18b1:((rd l1 x22_2) != (-1))=true:=bne_iff_ne.mpr c18
          by_cases c19:x22_2<(l0_0.length:Int)
          ·rw[if_pos c19] at H
           have c19b0:decide (x22_2<(l0_0.length:Int))=true:=Ze c19
           clear c19
           by_cases c20:((Zp l0_0 x22_2).f0).size+1≤9223372036854775807
           ·rw[if_pos c20] at H
            have c20b0:=eq_true c20
            have c20b1:decide (((Zp l0_0 x22_2).f0).size+1≤9223372036854775807)=true:=Ze c20
            try have c20b2:(9223372036854775807<((Zp l0_0 x22_2).f0).size+1)=False:=eq_false (Nat.not_lt.2 c20)
            replace H:=Zh H
            obtain⟨t18008,A210,H⟩:=H
            replace H:(if (((Zp l0_0 x22_2).f0) ++ (⟨#[64]⟩:ByteArray)).size+t18008.size≤9223372036854775807 then(if x5_2.length<8796093022208 then(ZL.l0 k2 (x5_2 ++ [(((Zp l0_0 x22_2).f0) ++ (⟨#[64]⟩:ByteArray)) ++ t18008]) l1 (l1.length:Int) (wrap64 (x22_2+1)) l0_0 l0_1 a0_2) else(none)) else(none))=some r:=H
            have A21:=Za A210;clear A210
            by_cases c22:(((Zp l0_0 x22_2).f0) ++ (⟨#[64]⟩:ByteArray)).size+t18008.size≤9223372036854775807
            ·rw[if_pos c22] at H
             have c22b0:=eq_true c22
             have c22b1:decide ((((Zp l0_0 x22_2).f0) ++ (⟨#[64]⟩:ByteArray)).size+t18008.size≤9223372036854775807)=true:=Ze c22
             try have c22b2:(9223372036854775807<(((Zp l0_0 x22_2).f0) ++ (⟨#[64]⟩:ByteArray)).size+t18008.size)=False:=eq_false (Nat.not_lt.2 c22)
             try have c22b4:(9223372036854775807<(((Zp l0_0 x22_2).f0).size+1)+t18008.size)=False:=eq_false (Nat.not_lt.2 (by have h_:=c22;simp only[ByteArray.size_append] at h_;exact h_))
             by_cases c23:x5_2.length<8796093022208
             ·rw[if_pos c23] at H
              have LMc23:=Za c23;clear c23
              obtain⟨y18009,hy18009⟩:∃y_:List ByteArray,y_=(x5_2 ++ [(((Zp l0_0 x22_2).f0) ++ (⟨#[64]⟩:ByteArray)) ++ t18008]):=⟨_,rfl⟩
              replace H:(ZL.l0 k2 y18009 l1 (l1.length:Int) (wrap64 (x22_2+1)) l0_0 l0_1 a0_2)=some r:=by first|(rw[hy18009];with_reducible exact H)|(have H2_:=(Zi _ _).symm.trans H;rw[hy18009];with_reducible exact H2_)|(have H2_:=(Zi _ _).symm.trans H;with_reducible exact H2_)|with_reducible exact H|(rw[hy18009];exact H)|exact H
              have Ny18009:=Za hy18009;clear hy18009
              have H':=Za H
              clear H
              have p18006:0≤(x22_2:Int):=Zd (by first|(with_reducible assumption)|assumption)
              have q18006:x22_2<(l1.length:Int):=Zd (by first|(with_reducible assumption)|assumption)
              obtain⟨ad18006,e18006,hx18006_0⟩:=Kd.at_int HR1.out x22_2 p18006 q18006
              cases e18006
              replace hx18006_0:=(HB.out.cell (Zc w _ hx18006_0)).trans hx18006_0
              replace p18006:=eq_true p18006
              replace q18006:=eq_true q18006
              try go_wp2
              replace HO_5:=Za (Kd.R_drew HO_5.out);replace BK18001:=Za (Zv BK18001.out);replace HB:=Za (Zo HB.out)
              have p18007:0≤(x22_2:Int):=Zd (by first|(with_reducible assumption)|assumption)
              have q18007:x22_2<(l0_0.length:Int):=Zd (by first|(with_reducible assumption)|assumption)
              obtain⟨ad18007,A18007_1,c18007_1,e18007,hx18007_0,hx18007_1,hx18007_2,hl18007_1,hi18007_1⟩:=Zan HR0_0.out x22_2 p18007 q18007
              have hw18007_2:=hx18007_2
              have hw18007_1:=hx18007_1
              have hw18007_0:=hx18007_0
              cases e18007
              replace hx18007_0:=(HB.out.cell (Zc w _ hx18007_0)).trans hx18007_0
              replace hx18007_1:=(HB.out.cell (Zc w _ hx18007_1)).trans hx18007_1
              replace hx18007_2:=(HB.out.cell (Zc w _ hx18007_2)).trans hx18007_2
              have HR18007_1:=Za hi18007_1;have HC18007_1:=Za hl18007_1;clear hi18007_1 hl18007_1
              replace p18007:=eq_true p18007
              replace q18007:=eq_true q18007
              refine Zbq (n:=14) (S:=fun w'=>w'.cell? ⟨gb18001,0,none⟩=some (.slice (some ad18007) l0_0.length c0_0)∧w'.cell? ⟨gb18001,1,none⟩=some (.slice A0_1 l0_1.length c0_1)∧w'.cell? ⟨gb18001,2,none⟩=some (.int .i64 a0_2)∧w'.cell? (ad18007.add ((x22_2).toNat * 3))=some (.string ((Zp l0_0 x22_2).f0))∧w'.cell? ⟨(ad18007.add ((x22_2).toNat * 3)).block,(ad18007.add ((x22_2).toNat * 3)).off+1,none⟩=some (.slice A18007_1 ((Zp l0_0 x22_2).f1).length c18007_1)∧w'.cell? ⟨(ad18007.add ((x22_2).toNat * 3)).block,(ad18007.add ((x22_2).toNat * 3)).off+2,none⟩=some (.int .i64 ((Zp l0_0 x22_2).f2))) (ds:=[]) #[false,false,false,false,false,false,false,false,false,false,false,false,false,false] (by kernel_rfl) rfl rfl ⟨(Zq BK18001.out 0).trans rfl,(Zq BK18001.out 1).trans rfl,(Zq BK18001.out 2).trans rfl,((HB.out.cell (Zc w _ hw18007_0)).trans hw18007_0),((HB.out.cell (Zc w _ hw18007_1)).trans hw18007_1),((HB.out.cell (Zc w _ hw18007_2)).trans hw18007_2)⟩ (fun hHeld=>?_);refine Zbe ZL.tab8 ZL.bits8 (fun HT_ HW_=>?_)
              generalize wr.drew=w24 at HO_5 BK18001 HB HR18007_1 hx18007_0 hx18007_1 hx18007_2 hHeld ⊢
              refine ZO (i:=0) (N:=some 29) (v:=?_) (a':=?_) #[true,false,false,false,false,false,false,false,false,false,false,false,false,false] rfl rfl (ZJ HT_.out (by kernel_rfl)) (fun _ _ _ h=>h) (Or.inl ⟨by rfl,?_⟩) ?_ ?_
              rotate_left
              ·intro w'
               go_simp
               with_reducible rfl
              rotate_left
              ·simp only[Act.put,List.setIfInBounds_toArray,List.set_cons_zero,List.set_cons_succ,ZC,ZD]
               rfl
              refine ZO (i:=1) (N:=some 30) (v:=?_) (a':=?_) #[true,true,false,false,false,false,false,false,false,false,false,false,false,false] rfl rfl (ZJ HT_.out (by kernel_rfl)) (fun _ _ _ h=>h) (Or.inl ⟨by rfl,?_⟩) ?_ ?_
              rotate_left
              ·intro w'
               go_simp
               with_reducible rfl
              rotate_left
              ·simp only[Act.put,List.setIfInBounds_toArray,List.set_cons_zero,List.set_cons_succ,ZC,ZD]
               rfl
              refine ZO (i:=3) (N:=some 32) (v:=?_) (a':=?_) #[true,true,false,true,false,false,false,false,false,false,false,false,false,false] rfl rfl (ZJ HT_.out (by kernel_rfl)) (fun _ _ _ h=>h) (Or.inl ⟨by rfl,?_⟩) ?_ ?_
              rotate_left
              ·intro w'
               go_simp
               with_reducible rfl
              rotate_left
              ·simp only[Act.put,List.setIfInBounds_toArray,List.set_cons_zero,List.set_cons_succ,ZC,ZD]
               rfl
              refine ZO (i:=8) (N:=some 37) (v:=?_) (a':=?_) #[true,true,false,true,false,false,false,false,true,false,false,false,false,false] rfl rfl (ZJ HT_.out (by kernel_rfl)) (fun _ _ _ h=>h) (Or.inl ⟨by rfl,?_⟩) ?_ ?_
              rotate_left
              ·intro w'
               go_simp
               with_reducible rfl
              rotate_left
              ·simp only[Act.put,List.setIfInBounds_toArray,List.set_cons_zero,List.set_cons_succ,ZC,ZD]
               rfl
              refine take_ (i:=2) (N:=some 31) (v:=?_) (a':=?_) #[true,true,true,true,false,false,false,false,true,false,false,false,false,false] rfl rfl (Z3 HT_.out HW_.out (by kernel_rfl)) (fun _ _ _ h=>h) (Or.inl ⟨by rfl,?_⟩) hHeld ?_ ?_
              rotate_left
              ·rintro w' ⟨s0,s1,s2,s3,s4,s5⟩
               go_simp
               with_reducible rfl
              rotate_left
              ·simp only[Act.put,List.setIfInBounds_toArray,List.set_cons_zero,List.set_cons_succ,ZC,ZD]
               rfl
              refine ZO (i:=4) (N:=some 33) (v:=?_) (a':=?_) #[true,true,true,true,true,false,false,false,true,false,false,false,false,false] rfl rfl (ZJ HT_.out (by kernel_rfl)) (fun _ _ _ h=>h) (Or.inl ⟨by rfl,?_⟩) ?_ ?_
              rotate_left
              ·intro w'
               go_simp
               with_reducible rfl
              rotate_left
              ·simp only[Act.put,List.setIfInBounds_toArray,List.set_cons_zero,List.set_cons_succ,ZC,ZD]
               rfl
              refine ZO (i:=5) (N:=some 34) (v:=?_) (a':=?_) #[true,true,true,true,true,true,false,false,true,false,false,false,false,false] rfl rfl (ZJ HT_.out (by kernel_rfl)) (fun _ _ _ h=>h) (Or.inl ⟨by rfl,?_⟩) ?_ ?_
              rotate_left
              ·intro w'
               go_simp
               with_reducible rfl
              rotate_left
              ·simp only[Act.put,List.setIfInBounds_toArray,List.set_cons_zero,List.set_cons_succ,ZC,ZD]
               rfl
              refine take_ (i:=6) (N:=some 35) (v:=?_) (a':=?_) #[true,true,true,true,true,true,true,false,true,false,false,false,false,false] rfl rfl (Z3 HT_.out HW_.out (by kernel_rfl)) (fun _ _ _ h=>h) (Or.inl ⟨by rfl,?_⟩) hHeld ?_ ?_
              rotate_left
              ·rintro w' ⟨s0,s1,s2,s3,s4,s5⟩
               go_simp
               with_reducible rfl
              rotate_left
              ·simp only[Act.put,List.setIfInBounds_toArray,List.set_cons_zero,List.set_cons_succ,ZC,ZD]
               rfl
              refine ZO (i:=7) (N:=some 36) (v:=?_) (a':=?_) #[true,true,true,true,true,true,true,true,true,false,false,false,false,false] rfl rfl (ZJ HT_.out (by kernel_rfl)) (fun _ _ _ h=>h) (Or.inl ⟨by rfl,?_⟩) ?_ ?_
              rotate_left
              ·intro w'
               go_simp
               with_reducible rfl
              rotate_left
              ·simp only[Act.put,List.setIfInBounds_toArray,List.set_cons_zero,List.set_cons_succ,ZC,ZD]
               rfl
              refine one_ (i:=9) (N:=some 38) #[true,true,true,true,true,true,true,true,true,true,false,false,false,false] rfl rfl (ZaR HT_.out (by kernel_rfl)) (by decide) (fun K hK=>?_)
              refine ZaX Tryd.func35 (by kernel_rfl) rfl #[.int .i64 (rd l1 x22_2)] (by rfl) rfl rfl (by(try simp only[List.map_toArray,List.map_cons,List.map_nil]);first|done|rfl|(simp only[Zk,Zj];rfl)) ?_
              with_reducible refine(ZF.calls k2 (rd l1 x22_2) t18008 _ A21.out).mono ?_
              rintro e w25 ⟨rfl,hb⟩
              refine⟨_,rfl,?_⟩
              replace HO_5:=Za (Kd.R_below (by(with_reducible repeat(first|apply Kd.R_alloc|apply Kd.R_drewN|apply Kd.R_drew));exact HO_5.out) hb);replace BK18001:=Za (ZB (g:=gb18001) (o:=.cells #[.slice (some ad18007) l0_0.length c0_0,.slice A0_1 l0_1.length c0_1,.int .i64 a0_2] 36 (0,0)) (by(with_reducible repeat(first|refine Zu ?_ _|refine Zv ?_|refine Zs ?_ _));exact BK18001.out) hb);replace HB:=Za (Zx (by repeat(first|(with_reducible first|exact HB.out|apply Zn|apply Zm|apply Zo|refine Zr ?_ GE18001.out)|exact HB.out)) hb)
              (try clear hb)
              (try clear hb2)
              (try clear hk)
              (try clear hi)
              refine hK.out _ _ ⟨(Zq BK18001.out 0).trans rfl,(Zq BK18001.out 1).trans rfl,(Zq BK18001.out 2).trans rfl,((HB.out.cell (Zc w _ hw18007_0)).trans hw18007_0),((HB.out.cell (Zc w _ hw18007_1)).trans hw18007_1),((HB.out.cell (Zc w _ hw18007_2)).trans hw18007_2)⟩ (fun hHeld=>?_)
              clear hK K
              refine ZaE (a':=?_) ?_ ?_
              rotate_left
              ·show Act.put _ (some 38) _=_
               simp only[Act.put,List.setIfInBounds_toArray,List.set_cons_zero,List.set_cons_succ,ZC,ZD]
               rfl
              refine ZO (i:=10) (N:=some 39) (v:=?_) (a':=?_) #[true,true,true,true,true,true,true,true,true,true,true,false,false,false] rfl rfl (ZJ HT_.out (by kernel_rfl)) (fun _ _ _ h=>h) (Or.inl ⟨by rfl,?_⟩) ?_ ?_
              rotate_left
              ·intro w'
               go_simp
               with_reducible rfl
              rotate_left
              ·simp only[Act.put,List.setIfInBounds_toArray,List.set_cons_zero,List.set_cons_succ,ZC,ZD]
               rfl
              refine one_ (i:=11) (N:=some 40) #[true,true,true,true,true,true,true,true,true,true,true,true,false,false] rfl rfl (ZaR HT_.out (by kernel_rfl)) (by decide) (fun K hK=>?_)
              refine value_ (w1:=?_) (v:=?_) (by rfl) rfl ?_ ?_
              rotate_left 2
              ·go_simp
               constructor
               ·rfl
               ·rfl
              refine hK.out _ _ ⟨(Zq (Zs BK18001.out _) 0).trans rfl,(Zq (Zs BK18001.out _) 1).trans rfl,(Zq (Zs BK18001.out _) 2).trans rfl,(World.cell?_alloc_lt _ _ _ (Zc _ _ (((HB.out.cell (Zc w _ hw18007_0)).trans hw18007_0)))).trans (((HB.out.cell (Zc w _ hw18007_0)).trans hw18007_0)),(World.cell?_alloc_lt _ _ _ (Zc _ _ (((HB.out.cell (Zc w _ hw18007_1)).trans hw18007_1)))).trans (((HB.out.cell (Zc w _ hw18007_1)).trans hw18007_1)),(World.cell?_alloc_lt _ _ _ (Zc _ _ (((HB.out.cell (Zc w _ hw18007_2)).trans hw18007_2)))).trans (((HB.out.cell (Zc w _ hw18007_2)).trans hw18007_2))⟩ (fun hHeld=>?_)
              clear hK K
              refine ZaE (a':=?_) ?_ ?_
              rotate_left
              ·show Act.put _ (some 40) _=_
               simp only[Act.put,List.setIfInBounds_toArray,List.set_cons_zero,List.set_cons_succ,ZC,ZD]
               rfl
              refine one_ (i:=12) (N:=some 41) #[true,true,true,true,true,true,true,true,true,true,true,true,true,false] rfl rfl (ZaR HT_.out (by kernel_rfl)) (by decide) (fun K hK=>?_)
              refine Kd.R_append_step Kd.string (w0:=w) w.heap.size (by rfl) (.tmp 29) (.tmp 40) 56 9 (.string ⟨#[]⟩) 16 rfl Tryd.underlying56 Zcw rfl (by decide) (by omega) u5 x5_2 ((((Zp l0_0 x22_2).f0) ++ (⟨#[64]⟩:ByteArray)) ++ t18008) [.string ((((Zp l0_0 x22_2).f0) ++ (⟨#[64]⟩:ByteArray)) ++ t18008)] (fun _=>True) (fun _=>False) rfl rfl ?aP (fun _ hk=>hk.elim) ?aF ?aO ?aB ?aS ?aL ?_
              (case aP=>exact rfl)
              (case aB=>exact(by repeat(first|(with_reducible first|exact HB.out|apply Zn|apply Zm|apply Zo|refine Zr ?_ GE18001.out)|exact HB.out)))
              (case aF=>exact(fun _ _=>trivial))
              (case aO=>exact(by(with_reducible repeat(first|apply Kd.R_alloc|apply Kd.R_drewN|apply Kd.R_drew));exact HO_5.out))
              (case aS=>exact(Zy (by repeat(first|(with_reducible first|exact HB.out|apply Zn|apply Zm|apply Zo|refine Zr ?_ GE18001.out)|exact HB.out))))
              (case aL=>have:=LMc23.out;omega)
              intro v18010 w26 ho hb hg hat
              rw[← Ny18009.out] at ho
              have HO18011:=Za (ho);replace BK18001:=Za (ZbY (g:=gb18001) (o:=.cells #[.slice (some ad18007) l0_0.length c0_0,.slice A0_1 l0_1.length c0_1,.int .i64 a0_2] 36 (0,0)) (by(with_reducible repeat(first|refine Zu ?_ _|refine Zv ?_|refine Zs ?_ _));exact BK18001.out) hg (Kd.R_ne HO_5.out BK18001.out (by decide)));replace HB:=Za (hb);clear HO_5 ho hb hg hat
              refine hK.out _ _ ⟨(Zq BK18001.out 0).trans rfl,(Zq BK18001.out 1).trans rfl,(Zq BK18001.out 2).trans rfl,((HB.out.cell (Zc w _ hw18007_0)).trans hw18007_0),((HB.out.cell (Zc w _ hw18007_1)).trans hw18007_1),((HB.out.cell (Zc w _ hw18007_2)).trans hw18007_2)⟩ (fun hHeld=>?_)
              clear hK K
              refine ZaE (a':=?_) ?_ ?_
              rotate_left
              ·show Act.put _ (some 41) _=_
               simp only[Act.put,List.setIfInBounds_toArray,List.set_cons_zero,List.set_cons_succ,ZC,ZD]
               rfl
              refine ZO (i:=13) (N:=some 5) (v:=?_) (a':=?_) #[true,true,true,true,true,true,true,true,true,true,true,true,true,true] rfl rfl (ZJ HT_.out (by kernel_rfl)) (fun _ _ _ h=>h) (Or.inl ⟨by rfl,?_⟩) ?_ ?_
              rotate_left
              ·intro w'
               go_simp
               with_reducible rfl
              rotate_left
              ·simp only[Act.put,List.setIfInBounds_toArray,List.set_cons_zero,List.set_cons_succ,ZC,ZD]
               rfl
              refine ZbJ (ZbA HT_.out (by kernel_rfl)) ?_
              try go_wp2
              go_roundg k2
              case measure=>have:=HJ2.out;have:=HK2.out;omega
              case rel=>exact⟨(y18009),(wrap64 (x22_2+1)),(by first|rfl|(simp;done)|(simp[*];done)),H',⟨by have:=HJ2.out;have:=HK2.out;omega⟩,⟨by(with_reducible repeat(first|apply Kd.R_alloc|apply Kd.R_drewN|apply Kd.R_drew));exact HO18011.out⟩,⟨by(with_reducible repeat(first|refine Zu ?_ _|refine Zv ?_|refine Zs ?_ _));exact BK18001.out⟩,⟨by repeat(first|(with_reducible first|exact HB.out|apply Zn|apply Zm|apply Zo|refine Zr ?_ GE18001.out)|exact HB.out)⟩⟩
             ·rw[if_neg c23] at H
              exact absurd H (by simp)
            ·rw[if_neg c22] at H
             exact absurd H (by simp)
           ·rw[if_neg c20] at H
            exact absurd H (by simp)
          ·rw[if_neg c19] at H
           exact absurd H (by simp)
        ·rw[if_neg c17] at H
         exact absurd H (by simp)
       ·rw[if_neg c16] at H
        exact absurd H (by simp)
      ·rw[if_neg c15] at H
       have c15b0:decide (x22_2<(l1.length:Int))=false:=Zf c15
       clear c15
       by_cases c27:(x5_2.length:Int)=0
       ·rw[if_pos c27] at H
        have c27b0:((x5_2.length:Int) == 0)=true:=beq_iff_eq.mpr c27
        have c27b1:((x5_2.length:Int) != 0)=false:=bne_eq_false_iff_eq.mpr c27
        clear c27
        obtain rfl:=Zg H
        obtain⟨Ao28,co28,eo28⟩:=Kd.R_slice HO_5.out
        subst eo28
        go_wp2
        go_ret
        exact⟨by first|rfl|(simp[ZA,Zz] <;> rfl)|(simp[*,ZA,Zz] <;> rfl),by repeat(first|(with_reducible first|exact HB.out|apply Zn|apply Zm|apply Zo|refine Zr ?_ GE18001.out)|exact HB.out)⟩
       ·rw[if_neg c27] at H
        have c27b0:((x5_2.length:Int) == 0)=false:=beq_eq_false_iff_ne.mpr c27
        have c27b1:((x5_2.length:Int) != 0)=true:=bne_iff_ne.mpr c27
        have c27b2:¬(x5_2=[]):=fun h_=>c27 (by rw[h_];rfl)
        replace H:=Zh H
        obtain⟨t18012,A290,H⟩:=H
        replace H:(some t18012)=some r:=H
        have A29:=Za A290;clear A290
        obtain rfl:=Zg H
        obtain⟨Ao30,co30,eo30⟩:=Kd.R_slice HO_5.out
        subst eo30
        go_wp2_with (first|((with_reducible refine ZG (f:=37) rfl ?_);refine ZX (some 47) rfl rfl Tryd.func37 (by kernel_rfl) rfl #[.slice Ao30 x5_2.length co30,.string (⟨#[32]⟩:ByteArray)] rfl (by(try simp only[List.map_toArray,List.map_cons,List.map_nil]);first|done|rfl|(simp only[Zk,Zj];rfl)) ?_;(with_reducible refine(ZaH.calls k2 _ _ x5_2 (⟨#[32]⟩:ByteArray) t18012 _ ?side1 ?side2 A29.out).mono ?_);(case side1=>repeat(first|exact(Kd.R_reads' HO_5.out).2.2|(with_reducible refine Kd.C_alloc ?_ _)|(with_reducible refine Kd.C_drewN ?_ _)|(with_reducible refine Kd.C_drew ?_)));(case side2=>exact(Kd.R_reads' HO_5.out).2.1);rintro e w' ⟨rfl,⟨nd,rfl⟩⟩;refine⟨_,rfl,?_⟩))
        go_ret
        exact⟨by first|rfl|(simp[ZA,Zz] <;> rfl)|(simp[*,ZA,Zz] <;> rfl),by repeat(first|(with_reducible first|exact HB.out|apply Zn|apply Zm|apply Zo|refine Zr ?_ GE18001.out)|exact HB.out)⟩
def ZbR.f (l0:List ByteArray) (a1:ByteArray):Option (ByteArray):=if (l0.length:Int)=0 then(some (⟨#[45]⟩:ByteArray)) else((Zai.f l0 a1).bind fun t53001=>(some t53001))
set_option maxHeartbeats 8000000 in
set_option maxRecDepth 100000 in
theorem ZbR.calls (A0:Option Addr) (c0:Nat) (l0:List ByteArray) (a1:ByteArray) (r:ByteArray) (w:World) (hr0:Kd.C Kd.string w A0 l0.length l0) (hc0:l0.length≤c0) (hs0:∀ad,A0=some ad→ad.spot=none) (h:ZbR.f l0 a1=some r) :
  Calls Tryd.prog 53 #[.slice A0 l0.length c0,.string a1] w fun e w'=>e=.returned (.string r)∧Below w.heap.size w w':=by
 have HS0:=Za hs0;clear hs0;have HR0:=Za hr0;have HC0:=Za hc0;clear hr0 hc0
 have HB:=Za (Below.refl w.heap.size w)
 have H:(if (l0.length:Int)=0 then(some (⟨#[45]⟩:ByteArray)) else((Zai.f l0 a1).bind fun t53001=>(some t53001)))=some r:=h
 clear h
 by_cases c3:(l0.length:Int)=0
 ·rw[if_pos c3] at H
  have c3b0:((l0.length:Int) == 0)=true:=beq_iff_eq.mpr c3
  have c3b1:((l0.length:Int) != 0)=false:=bne_eq_false_iff_eq.mpr c3
  clear c3
  obtain rfl:=Zg H
  go_enter Tryd.func53,Tryd.ntmps53
  go_wp2
  go_ret
  exact⟨by first|rfl|(simp[ZA,Zz] <;> rfl)|(simp[*,ZA,Zz] <;> rfl),by repeat(first|(with_reducible first|exact HB.out|apply Zn|apply Zm|apply Zo)|exact HB.out)⟩
 ·rw[if_neg c3] at H
  have c3b0:((l0.length:Int) == 0)=false:=beq_eq_false_iff_ne.mpr c3
  have c3b1:((l0.length:Int) != 0)=true:=bne_iff_ne.mpr c3
  have c3b2:¬(l0=[]):=fun h_=>c3 (by rw[h_];rfl)
  replace H:=Zh H
  obtain⟨t53001,A40,H⟩:=H
  replace H:(some t53001)=some r:=H
  have A4:=Za A40;clear A40
  obtain rfl:=Zg H
  go_enter Tryd.func53,Tryd.ntmps53
  go_wp2_with (first|((with_reducible refine ZG (f:=40) rfl ?_);refine ZX (some 10) rfl rfl Tryd.func40 (by kernel_rfl) rfl #[.slice A0 l0.length c0,.string a1] rfl (by(try simp only[List.map_toArray,List.map_cons,List.map_nil]);first|done|rfl|(simp only[Zk,Zj];rfl)) ?_;(with_reducible refine(Zai.calls _ _ l0 a1 t53001 _ ?side1 ?side2 ?sideS A4.out).mono ?_);(case sideS=>exact HS0.out);(case side1=>repeat(first|exact HR0.out|(with_reducible refine Kd.C_alloc ?_ _)|(with_reducible refine Kd.C_drewN ?_ _)|(with_reducible refine Kd.C_drew ?_)));(case side2=>exact HC0.out);rintro e w5 ⟨rfl,hb⟩;refine⟨_,rfl,?_⟩;replace HB:=Za (Zx (by repeat(first|(with_reducible first|exact HB.out|apply Zn|apply Zm|apply Zo)|exact HB.out)) hb);(try clear hb);(try clear hb2);(try clear hk);(try clear hi)))
  go_ret
  exact⟨by first|rfl|(simp[ZA,Zz] <;> rfl)|(simp[*,ZA,Zz] <;> rfl),by repeat(first|(with_reducible first|exact HB.out|apply Zn|apply Zm|apply Zo)|exact HB.out)⟩
mutual
def ZM.j0:Nat→List Int→Bool→List (S73)→List (S66)→Int→Option (ByteArray)
 | 0,_,_,_,_,_=>none
 | k+1,x1,x18,x19002000,x19002001,x19002002=>if x18=true then(some (⟨#[]⟩:ByteArray)) else(ZM.l0 k ([]:List ByteArray) x1 (x1.length:Int) 0 x19002000 x19002001 x19002002)
def ZM.l0:Nat→List ByteArray→List Int→Int→Int→List (S73)→List (S66)→Int→Option (ByteArray)
 | 0,_,_,_,_,_,_,_=>none
 | k+1,x5,x19,x20,x21,x19002000,x19002001,x19002002=>if x21<x20 then(if 0≤x21 then(if x21<(x19.length:Int) then(if (rd x19 x21)=(-1) then(ZM.l0 k x5 x19 x20 (wrap64 (x21+1)) x19002000 x19002001 x19002002) else(if x21<(x19002000.length:Int) then(if ((Zp x19002000 x21).f0).size+1≤9223372036854775807 then((ZR.f (rd x19 x21)).bind fun t19005=>(if (((Zp x19002000 x21).f0) ++ (⟨#[64]⟩:ByteArray)).size+t19005.size≤9223372036854775807 then(if x5.length<8796093022208 then(ZM.l0 k (x5 ++ [(((Zp x19002000 x21).f0) ++ (⟨#[64]⟩:ByteArray)) ++ t19005]) x19 x20 (wrap64 (x21+1)) x19002000 x19002001 x19002002) else(none)) else(none))) else(none)) else(none))) else(none)) else(none)) else((ZbR.f x5 (⟨#[32]⟩:ByteArray)).bind fun t19009=>(some t19009))
end
def ZM.f (k:Nat) (l0_0:List (S73)) (l0_1:List (S66)) (a0_2:Int) (l1:List Int):Option (ByteArray):=(ZaG.f l0_0 l0_1 a0_2).bind fun t19002=>(if t19002=true then(ZM.j0 k l1 ((l1.length:Int) != (l0_0.length:Int)) l0_0 l0_1 a0_2) else(ZM.j0 k l1 true l0_0 l0_1 a0_2))
def ZM.T8:Bool×List (List Nat×List Nat):=(true,[([],[]),([],[]),([1],[1]),([],[]),([2,3],[2,3]),([4],[4]),([5],[5]),([6],[6]),([],[]),([8],[8]),([7,9],[7,9]),([10],[10]),([0,11,9],[0,11]),([12,12,0,1,2,3,4,5,6,7,8,9,10,11,12],[0,12])])
def ZM.B8:List Nat:=[0,0,2,0,14,30,62,126,0,256,1022,2046,4095,8191]
theorem ZM.tab8:rtab .any (opsOf Tryd.f19 8)=ZM.T8:=by kernel_rfl
theorem ZM.bits8:Zbz ZM.T8.2 ZM.B8=true:=by kernel_rfl
set_option maxHeartbeats 8000000 in
set_option maxRecDepth 100000 in
theorem ZM.calls (k:Nat) (A0_0:Option Addr) (c0_0:Nat) (l0_0:List (S73)) (A0_1:Option Addr) (c0_1:Nat) (l0_1:List (S66)) (a0_2:Int) (A1:Option Addr) (c1:Nat) (l1:List Int) (r:ByteArray) (w:World) (hr0_0:Kd.C k73 w A0_0 l0_0.length l0_0) (hc0_0:l0_0.length≤c0_0) (hr0_1:Kd.C k66 w A0_1 l0_1.length l0_1) (hc0_1:l0_1.length≤c0_1) (hr1:Kd.C (Kd.int .i64) w A1 l1.length l1) (hc1:l1.length≤c1) (ht:TW w) (h:ZM.f k l0_0 l0_1 a0_2 l1=some r) :
  Calls Tryd.prog 19 #[.agg #[.slice A0_0 l0_0.length c0_0,.slice A0_1 l0_1.length c0_1,.int .i64 a0_2],.slice A1 l1.length c1] w fun e w'=>e=.returned (.string r)∧Below w.heap.size w w':=by
 have HTW:=Za ht;clear ht
 have hu36:=Tryd.underlying36
 have HR0_0:=Za hr0_0;have HC0_0:=Za hc0_0;clear hr0_0 hc0_0;have HR0_1:=Za hr0_1;have HC0_1:=Za hc0_1;clear hr0_1 hc0_1;have HR1:=Za hr1;have HC1:=Za hc1;clear hr1 hc1
 have HB:=Za (Below.refl w.heap.size w)
 have H:((ZaG.f l0_0 l0_1 a0_2).bind fun t19002=>(if t19002=true then(ZM.j0 k l1 ((l1.length:Int) != (l0_0.length:Int)) l0_0 l0_1 a0_2) else(ZM.j0 k l1 true l0_0 l0_1 a0_2)))=some r:=h
 clear h;have HC3:=Za H;clear H
 go_enter Tryd.func19,Tryd.ntmps19
 go_upto_region 1 with (first|((with_reducible refine ZN (N:=2) rfl ?_);(try(refine ZaP (by rfl) ?_;dsimp only));refine ZP ?hg (N:=2) ?hd (cs:=#[.slice A0_0 l0_0.length c0_0,.slice A0_1 l0_1.length c0_1,.int .i64 a0_2]) (t:=36) ?hr ?_;(case hd=>rfl);(case hg=>rfl);(case hr=>first|(go_simp;done)|(go_simp;rfl));intro gb19001 hg w4 hbox hb;have BK19001:=Za (hbox);have GW19001:=Za ((by rw[hg];exact(Zy (by repeat(first|(with_reducible first|exact HB.out|apply Zn|apply Zm|apply Zo)|exact HB.out))):w.heap.size≤gb19001));have GE19001:=Za ((by rw[hg];exact(Zy (by repeat(first|(with_reducible first|exact HB.out|apply Zn|apply Zm|apply Zo)|exact HB.out))):w.heap.size≤gb19001));replace HB:=Za (Zx (by repeat(first|(with_reducible first|exact HB.out|apply Zn|apply Zm|apply Zo)|exact HB.out)) hb);clear hb hbox hg))
 (try simp only[Act.put,List.setIfInBounds_toArray,List.set_cons_zero,List.set_cons_succ])
 go_cut [18] (fun v18 wc=>∃(kq:Nat) (x18_2:Bool),v18=.bool x18_2∧Aside0 (ZM.j0 kq l1 x18_2 l0_0 l0_1 a0_2=some r)∧Aside0 (kq≤k)∧Aside0 (wc.heap[gb19001]? = some (.cells #[(.slice A0_0 l0_0.length c0_0),(.slice A0_1 l0_1.length c0_1),.int .i64 a0_2] 36 (0,0)))∧Aside0 (Below w.heap.size w wc))
 case first=>
  have H:=HC3.out
  clear HC3
  replace H:=Zh H
  obtain⟨t19002,A50,H⟩:=H
  replace H:(if t19002=true then(ZM.j0 k l1 ((l1.length:Int) != (l0_0.length:Int)) l0_0 l0_1 a0_2) else(ZM.j0 k l1 true l0_0 l0_1 a0_2))=some r:=H
  have A5:=Za A50;clear A50
  by_cases c6:t19002=true
  ·subst c6
   have H1:(ZM.j0 k l1 ((l1.length:Int) != (l0_0.length:Int)) l0_0 l0_1 a0_2)=some r:=by rw[if_pos rfl] at H;exact H
   clear H
   have H:=H1
   clear H1
   have H':=Za H
   clear H
   have hcz7_0:w4.cell? ⟨gb19001,0,none⟩=some (.slice A0_0 l0_0.length c0_0):=(Zq BK19001.out 0).trans rfl
   have hcz7_1:w4.cell? ⟨gb19001,1,none⟩=some (.slice A0_1 l0_1.length c0_1):=(Zq BK19001.out 1).trans rfl
   have hcz7_2:w4.cell? ⟨gb19001,2,none⟩=some (.int .i64 a0_2):=(Zq BK19001.out 2).trans rfl
   have hfz7_0:=Zt BK19001.out 0
   have hfz7_1:=Zt BK19001.out 1
   have hfz7_2:=Zt BK19001.out 2
   go_wp2_with (first|((with_reducible refine ZG (f:=48) rfl ?_);refine ZX (some 9) rfl rfl Tryd.func48 (by kernel_rfl) rfl #[.agg #[.slice A0_0 l0_0.length c0_0,.slice A0_1 l0_1.length c0_1,.int .i64 a0_2]] rfl (by(try simp only[List.map_toArray,List.map_cons,List.map_nil]);first|done|rfl|(simp only[Zk,Zj];rfl)) ?_;(with_reducible refine(ZaG.calls _ _ l0_0 _ _ l0_1 a0_2 true _ ?side1 ?side2 ?side3 ?side4 A5.out).mono ?_);(case side1=>repeat(first|exact(Zb HR0_0.out HB.out)|(with_reducible refine Kd.C_alloc ?_ _)|(with_reducible refine Kd.C_drewN ?_ _)|(with_reducible refine Kd.C_drew ?_)));(case side2=>exact HC0_0.out);(case side3=>repeat(first|exact(Zb HR0_1.out HB.out)|(with_reducible refine Kd.C_alloc ?_ _)|(with_reducible refine Kd.C_drewN ?_ _)|(with_reducible refine Kd.C_drew ?_)));(case side4=>exact HC0_1.out);rintro e w8 ⟨rfl,hb⟩;refine⟨_,rfl,?_⟩;replace BK19001:=Za (ZB (g:=gb19001) (o:=.cells #[.slice A0_0 l0_0.length c0_0,.slice A0_1 l0_1.length c0_1,.int .i64 a0_2] 36 (0,0)) (by(with_reducible repeat(first|refine Zu ?_ _|refine Zv ?_|refine Zs ?_ _));exact BK19001.out) hb);replace HB:=Za (Zx (by repeat(first|(with_reducible first|exact HB.out|apply Zn|apply Zm|apply Zo|refine Zr ?_ GE19001.out)|exact HB.out)) hb);(try clear hb);(try clear hb2);(try clear hk);(try clear hi);have hcz9_0:w8.cell? ⟨gb19001,0,none⟩=some (.slice A0_0 l0_0.length c0_0):=(Zq BK19001.out 0).trans rfl;have hcz9_1:w8.cell? ⟨gb19001,1,none⟩=some (.slice A0_1 l0_1.length c0_1):=(Zq BK19001.out 1).trans rfl;have hcz9_2:w8.cell? ⟨gb19001,2,none⟩=some (.int .i64 a0_2):=(Zq BK19001.out 2).trans rfl;have hfz9_0:=Zt BK19001.out 0;have hfz9_1:=Zt BK19001.out 1;have hfz9_2:=Zt BK19001.out 2))
   go_meet
   case rel=>exact⟨_,(((l1.length:Int) != (l0_0.length:Int))),(by first|rfl|(simp;done)|(simp[*];done)),H',⟨by first|omega|exact Nat.le_refl _⟩,⟨by(with_reducible repeat(first|refine Zu ?_ _|refine Zv ?_|refine Zs ?_ _));exact BK19001.out⟩,⟨by repeat(first|(with_reducible first|exact HB.out|apply Zn|apply Zm|apply Zo|refine Zr ?_ GE19001.out)|exact HB.out)⟩⟩
  ·replace c6:=Bool.eq_false_iff.mpr c6
   subst c6
   have H1:(ZM.j0 k l1 true l0_0 l0_1 a0_2)=some r:=by rw[if_neg (show ¬(false=true) by decide)] at H;exact H
   clear H
   have H:=H1
   clear H1
   have H':=Za H
   clear H
   have hcz10_0:w4.cell? ⟨gb19001,0,none⟩=some (.slice A0_0 l0_0.length c0_0):=(Zq BK19001.out 0).trans rfl
   have hcz10_1:w4.cell? ⟨gb19001,1,none⟩=some (.slice A0_1 l0_1.length c0_1):=(Zq BK19001.out 1).trans rfl
   have hcz10_2:w4.cell? ⟨gb19001,2,none⟩=some (.int .i64 a0_2):=(Zq BK19001.out 2).trans rfl
   have hfz10_0:=Zt BK19001.out 0
   have hfz10_1:=Zt BK19001.out 1
   have hfz10_2:=Zt BK19001.out 2
   go_wp2_with (first|((with_reducible refine ZG (f:=48) rfl ?_);refine ZX (some 9) rfl rfl Tryd.func48 (by kernel_rfl) rfl #[.agg #[.slice A0_0 l0_0.length c0_0,.slice A0_1 l0_1.length c0_1,.int .i64 a0_2]] rfl (by(try simp only[List.map_toArray,List.map_cons,List.map_nil]);first|done|rfl|(simp only[Zk,Zj];rfl)) ?_;(with_reducible refine(ZaG.calls _ _ l0_0 _ _ l0_1 a0_2 false _ ?side1 ?side2 ?side3 ?side4 A5.out).mono ?_);(case side1=>repeat(first|exact(Zb HR0_0.out HB.out)|(with_reducible refine Kd.C_alloc ?_ _)|(with_reducible refine Kd.C_drewN ?_ _)|(with_reducible refine Kd.C_drew ?_)));(case side2=>exact HC0_0.out);(case side3=>repeat(first|exact(Zb HR0_1.out HB.out)|(with_reducible refine Kd.C_alloc ?_ _)|(with_reducible refine Kd.C_drewN ?_ _)|(with_reducible refine Kd.C_drew ?_)));(case side4=>exact HC0_1.out);rintro e w11 ⟨rfl,hb⟩;refine⟨_,rfl,?_⟩;replace BK19001:=Za (ZB (g:=gb19001) (o:=.cells #[.slice A0_0 l0_0.length c0_0,.slice A0_1 l0_1.length c0_1,.int .i64 a0_2] 36 (0,0)) (by(with_reducible repeat(first|refine Zu ?_ _|refine Zv ?_|refine Zs ?_ _));exact BK19001.out) hb);replace HB:=Za (Zx (by repeat(first|(with_reducible first|exact HB.out|apply Zn|apply Zm|apply Zo|refine Zr ?_ GE19001.out)|exact HB.out)) hb);(try clear hb);(try clear hb2);(try clear hk);(try clear hi)))
   go_meet
   case rel=>exact⟨_,(true),(by first|rfl|(simp;done)|(simp[*];done)),H',⟨by first|omega|exact Nat.le_refl _⟩,⟨by(with_reducible repeat(first|refine Zu ?_ _|refine Zv ?_|refine Zs ?_ _));exact BK19001.out⟩,⟨by repeat(first|(with_reducible first|exact HB.out|apply Zn|apply Zm|apply Zo|refine Zr ?_ GE19001.out)|exact HB.out)⟩⟩
 case rest=>
  clear HC3
  try clear c1
  try clear p2
  try clear c4
  try clear c6
  try clear hcz10_0
  try clear hcz10_1
  try clear hcz10_2
  try clear hcz7_0
  try clear hcz7_1
  try clear hcz7_2
  try clear hcz9_0
  try clear hcz9_1
  try clear hcz9_2
  try clear hfz10_0
  try clear hfz10_1
  try clear hfz10_2
  try clear hfz7_0
  try clear hfz7_1
  try clear hfz7_2
  try clear hfz9_0
  try clear hfz9_1
  try clear hfz9_2
  obtain⟨kq,x18_2,rfl,HA,HJ2,BK19001,HB⟩:=hcut
  cases kq with
  | zero=>exact absurd HA.out (by simp[ZM.j0])
  | succ kj2=>
   have H:=HA.out
   clear HA
   simp only[ZM.j0] at H
   by_cases c12:x18_2=true
   ·subst c12
    have H1:(some (⟨#[]⟩:ByteArray))=some r:=by rw[if_pos rfl] at H;exact H
    clear H
    have H:=H1
    clear H1
    obtain rfl:=Zg H
    go_wp2
    go_ret
    exact⟨by first|rfl|(simp[ZA,Zz] <;> rfl)|(simp[*,ZA,Zz] <;> rfl),by repeat(first|(with_reducible first|exact HB.out|apply Zn|apply Zm|apply Zo|refine Zr ?_ GE19001.out)|exact HB.out)⟩
   ·replace c12:=Bool.eq_false_iff.mpr c12
    subst c12
    have H1:(ZM.l0 kj2 ([]:List ByteArray) l1 (l1.length:Int) 0 l0_0 l0_1 a0_2)=some r:=by rw[if_neg (show ¬(false=true) by decide)] at H;exact H
    clear H
    have H:=H1
    clear H1
    have H':=Za H
    clear H
    go_wp2
    go_loopg [5,21] kj2 (fun kq v5 v21 w'=>∃(x5_2:List ByteArray) (x21_2:Int),v21=.int .i64 x21_2∧Aside0 (ZM.l0 kq x5_2 l1 (l1.length:Int) x21_2 l0_0 l0_1 a0_2=some r)∧Aside0 (kq≤kj2)∧Aside0 (Kd.R Kd.string 9 w' w.heap.size (fun _=>True) v5 x5_2)∧Aside0 (w'.heap[gb19001]? = some (.cells #[(.slice A0_0 l0_0.length c0_0),(.slice A0_1 l0_1.length c0_1),.int .i64 a0_2] 36 (0,0)))∧Aside0 (Below w.heap.size w w'))
    case atStart=>exact⟨(([]:List ByteArray)),(0),(by first|rfl|(simp;done)|(simp[*];done)),H',⟨Nat.le_refl _⟩,⟨by first|exact Kd.R_nil _ _ _ _ _|exact Kd.N_nil _ _ _ _ _|exact Kd.V_nil _ _ _ _ _|exact Kd.Q_nil _ _ _ _ _|exact Kd.S_nil _ _ _ _ _⟩,⟨by(with_reducible repeat(first|refine Zu ?_ _|refine Zv ?_|refine Zs ?_ _));exact BK19001.out⟩,⟨by repeat(first|(with_reducible first|exact HB.out|apply Zn|apply Zm|apply Zo|refine Zr ?_ GE19001.out)|exact HB.out)⟩⟩
    case round=>
     clear H'
     try clear c1
     try clear p2
     try clear c4
     try clear c6
     try clear c12
     try clear hcz10_0
     try clear hcz10_1
     try clear hcz10_2
     try clear hcz7_0
     try clear hcz7_1
     try clear hcz7_2
     try clear hcz9_0
     try clear hcz9_1
     try clear hcz9_2
     try clear hfz10_0
     try clear hfz10_1
     try clear hfz10_2
     try clear hfz7_0
     try clear hfz7_1
     try clear hfz7_2
     try clear hfz9_0
     try clear hfz9_1
     try clear hfz9_2
     try clear p2
     obtain⟨x5_2,x21_2,rfl,HA,HK2,HO_5,BK19001,HB⟩:=hrel
     cases gk with
     | zero=>exact absurd HA.out (by simp[ZM.l0])
     | succ k2=>
      have H:=HA.out
      clear HA
      simp only[ZM.l0] at H
      by_cases c13:x21_2<(l1.length:Int)
      ·rw[if_pos c13] at H
       have c13b0:decide (x21_2<(l1.length:Int))=true:=Ze c13
       clear c13
       by_cases c14:0≤x21_2
       ·rw[if_pos c14] at H
        have c14b0:decide (0≤x21_2)=true:=Ze c14
        clear c14
        by_cases c15:x21_2<(l1.length:Int)
        ·rw[if_pos c15] at H
         have c15b0:decide (x21_2<(l1.length:Int))=true:=Ze c15
         clear c15
         by_cases c16:(rd l1 x21_2)=(-1)
         ·rw[if_pos c16] at H
          have c16b0:((rd l1 x21_2) == (-1))=true:=beq_iff_eq.mpr c16
          have c16b1:((rd l1 x21_2) != (-1))=false:=bne_eq_false_iff_eq.mpr c16
          clear c16
          have H':=Za H
          clear H
          have p19003:0≤(x21_2:Int):=Zd (by first|(with_reducible assumption)|assumption)
          have q19003:x21_2<(l1.length:Int):=Zd (by first|(with_reducible assumption)|assumption)
          obtain⟨ad19003,e19003,hx19003_0⟩:=Kd.at_int HR1.out x21_2 p19003 q19003
          cases e19003
          replace hx19003_0:=(HB.out.cell (Zc w _ hx19003_0)).trans hx19003_0
          replace p19003:=eq_true p19003
          replace q19003:=eq_true q19003
          go_wp2
          go_roundg k2
          case measure=>have:=HJ2.out;have:=HK2.out;omega
          case rel=>exact⟨(x5_2),(wrap64 (x21_2+1)),(by first|rfl|(simp;done)|(simp[*];done)),H',⟨by have:=HJ2.out;have:=HK2.out;omega⟩,⟨by(with_reducible repeat(first|apply Kd.R_alloc|apply Kd.R_drewN|apply Kd.R_drew));exact HO_5.out⟩,⟨by(with_reducible repeat(first|refine Zu ?_ _|refine Zv ?_|refine Zs ?_ _));exact BK19001.out⟩,⟨by repeat(first|(with_reducible first|exact HB.out|apply Zn|apply Zm|apply Zo|refine Zr ?_ GE19001.out)|exact HB.out)⟩⟩
         ·rw[if_neg c16] at H
          have c16b0:((rd l1 x21_2) == (-1))=false:=beq_eq_false_iff_ne.mpr c16
          have c16b1:((rd l1 x21_2) != (-1))=true:=bne_iff_ne.mpr c16
          by_cases c17:x21_2<(l0_0.length:Int)
          ·rw[if_pos c17] at H
           have c17b0:decide (x21_2<(l0_0.length:Int))=true:=Ze c17
           clear c17
           by_cases c18:((Zp l0_0 x21_2).f0).size+1≤9223372036854775807
           ·rw[if_pos c18] at H
            have c18b0:=eq_true c18
            have c18b1:decide (((Zp l0_0 x21_2).f0).size+1≤9223372036854775807)=true:=Ze c18
            try have c18b2:(9223372036854775807<((Zp l0_0 x21_2).f0).size+1)=False:=eq_false (Nat.not_lt.2 c18)
            replace H:=Zh H
            obtain⟨t19005,A190,H⟩:=H
            replace H:(if (((Zp l0_0 x21_2).f0) ++ (⟨#[64]⟩:ByteArray)).size+t19005.size≤9223372036854775807 then(if x5_2.length<8796093022208 then(ZM.l0 k2 (x5_2 ++ [(((Zp l0_0 x21_2).f0) ++ (⟨#[64]⟩:ByteArray)) ++ t19005]) l1 (l1.length:Int) (wrap64 (x21_2+1)) l0_0 l0_1 a0_2) else(none)) else(none))=some r:=H
            have A19:=Za A190;clear A190
            by_cases c20:(((Zp l0_0 x21_2).f0) ++ (⟨#[64]⟩:ByteArray)).size+t19005.size≤9223372036854775807
            ·rw[if_pos c20] at H
             have c20b0:=eq_true c20
             have c20b1:decide ((((Zp l0_0 x21_2).f0) ++ (⟨#[64]⟩:ByteArray)).size+t19005.size≤9223372036854775807)=true:=Ze c20
             try have c20b2:(9223372036854775807<(((Zp l0_0 x21_2).f0) ++ (⟨#[64]⟩:ByteArray)).size+t19005.size)=False:=eq_false (Nat.not_lt.2 c20)
             try have c20b4:(9223372036854775807<(((Zp l0_0 x21_2).f0).size+1)+t19005.size)=False:=eq_false (Nat.not_lt.2 (by have h_:=c20;simp only[ByteArray.size_append] at h_;exact h_))
             by_cases c21:x5_2.length<8796093022208
             ·rw[if_pos c21] at H
              have LMc21:=Za c21;clear c21
              obtain⟨y19006,hy19006⟩:∃y_:List ByteArray,y_=(x5_2 ++ [(((Zp l0_0 x21_2).f0) ++ (⟨#[64]⟩:ByteArray)) ++ t19005]):=⟨_,rfl⟩
              replace H:(ZM.l0 k2 y19006 l1 (l1.length:Int) (wrap64 (x21_2+1)) l0_0 l0_1 a0_2)=some r:=by first|(rw[hy19006];with_reducible exact H)|(have H2_:=(Zi _ _).symm.trans H;rw[hy19006];with_reducible exact H2_)|(have H2_:=(Zi _ _).symm.trans H;with_reducible exact H2_)|with_reducible exact H|(rw[hy19006];exact H)|exact H
              have Ny19006:=Za hy19006;clear hy19006
              have H':=Za H
              clear H
              have p19003:0≤(x21_2:Int):=Zd (by first|(with_reducible assumption)|assumption)
              have q19003:x21_2<(l1.length:Int):=Zd (by first|(with_reducible assumption)|assumption)
              obtain⟨ad19003,e19003,hx19003_0⟩:=Kd.at_int HR1.out x21_2 p19003 q19003
              cases e19003
              replace hx19003_0:=(HB.out.cell (Zc w _ hx19003_0)).trans hx19003_0
              replace p19003:=eq_true p19003
              replace q19003:=eq_true q19003
              try go_wp2
              replace HO_5:=Za (Kd.R_drew HO_5.out);replace BK19001:=Za (Zv BK19001.out);replace HB:=Za (Zo HB.out)
              have p19004:0≤(x21_2:Int):=Zd (by first|(with_reducible assumption)|assumption)
              have q19004:x21_2<(l0_0.length:Int):=Zd (by first|(with_reducible assumption)|assumption)
              obtain⟨ad19004,A19004_1,c19004_1,e19004,hx19004_0,hx19004_1,hx19004_2,hl19004_1,hi19004_1⟩:=Zan HR0_0.out x21_2 p19004 q19004
              have hw19004_2:=hx19004_2
              have hw19004_1:=hx19004_1
              have hw19004_0:=hx19004_0
              cases e19004
              replace hx19004_0:=(HB.out.cell (Zc w _ hx19004_0)).trans hx19004_0
              replace hx19004_1:=(HB.out.cell (Zc w _ hx19004_1)).trans hx19004_1
              replace hx19004_2:=(HB.out.cell (Zc w _ hx19004_2)).trans hx19004_2
              have HR19004_1:=Za hi19004_1;have HC19004_1:=Za hl19004_1;clear hi19004_1 hl19004_1
              replace p19004:=eq_true p19004
              replace q19004:=eq_true q19004
              refine Zbq (n:=14) (S:=fun w'=>w'.cell? ⟨gb19001,0,none⟩=some (.slice (some ad19004) l0_0.length c0_0)∧w'.cell? ⟨gb19001,1,none⟩=some (.slice A0_1 l0_1.length c0_1)∧w'.cell? ⟨gb19001,2,none⟩=some (.int .i64 a0_2)∧w'.cell? (ad19004.add ((x21_2).toNat * 3))=some (.string ((Zp l0_0 x21_2).f0))∧w'.cell? ⟨(ad19004.add ((x21_2).toNat * 3)).block,(ad19004.add ((x21_2).toNat * 3)).off+1,none⟩=some (.slice A19004_1 ((Zp l0_0 x21_2).f1).length c19004_1)∧w'.cell? ⟨(ad19004.add ((x21_2).toNat * 3)).block,(ad19004.add ((x21_2).toNat * 3)).off+2,none⟩=some (.int .i64 ((Zp l0_0 x21_2).f2))) (ds:=[]) #[false,false,false,false,false,false,false,false,false,false,false,false,false,false] (by kernel_rfl) rfl rfl ⟨(Zq BK19001.out 0).trans rfl,(Zq BK19001.out 1).trans rfl,(Zq BK19001.out 2).trans rfl,((HB.out.cell (Zc w _ hw19004_0)).trans hw19004_0),((HB.out.cell (Zc w _ hw19004_1)).trans hw19004_1),((HB.out.cell (Zc w _ hw19004_2)).trans hw19004_2)⟩ (fun hHeld=>?_);refine Zbe ZM.tab8 ZM.bits8 (fun HT_ HW_=>?_)
              generalize wr.drew=w22 at HO_5 BK19001 HB HR19004_1 hx19004_0 hx19004_1 hx19004_2 hHeld ⊢
              refine ZO (i:=0) (N:=some 28) (v:=?_) (a':=?_) #[true,false,false,false,false,false,false,false,false,false,false,false,false,false] rfl rfl (ZJ HT_.out (by kernel_rfl)) (fun _ _ _ h=>h) (Or.inl ⟨by rfl,?_⟩) ?_ ?_
              rotate_left
              ·intro w'
               go_simp
               with_reducible rfl
              rotate_left
              ·simp only[Act.put,List.setIfInBounds_toArray,List.set_cons_zero,List.set_cons_succ,ZC,ZD]
               rfl
              refine ZO (i:=1) (N:=some 29) (v:=?_) (a':=?_) #[true,true,false,false,false,false,false,false,false,false,false,false,false,false] rfl rfl (ZJ HT_.out (by kernel_rfl)) (fun _ _ _ h=>h) (Or.inl ⟨by rfl,?_⟩) ?_ ?_
              rotate_left
              ·intro w'
               go_simp
               with_reducible rfl
              rotate_left
              ·simp only[Act.put,List.setIfInBounds_toArray,List.set_cons_zero,List.set_cons_succ,ZC,ZD]
               rfl
              refine ZO (i:=3) (N:=some 31) (v:=?_) (a':=?_) #[true,true,false,true,false,false,false,false,false,false,false,false,false,false] rfl rfl (ZJ HT_.out (by kernel_rfl)) (fun _ _ _ h=>h) (Or.inl ⟨by rfl,?_⟩) ?_ ?_
              rotate_left
              ·intro w'
               go_simp
               with_reducible rfl
              rotate_left
              ·simp only[Act.put,List.setIfInBounds_toArray,List.set_cons_zero,List.set_cons_succ,ZC,ZD]
               rfl
              refine ZO (i:=8) (N:=some 36) (v:=?_) (a':=?_) #[true,true,false,true,false,false,false,false,true,false,false,false,false,false] rfl rfl (ZJ HT_.out (by kernel_rfl)) (fun _ _ _ h=>h) (Or.inl ⟨by rfl,?_⟩) ?_ ?_
              rotate_left
              ·intro w'
               go_simp
               with_reducible rfl
              rotate_left
              ·simp only[Act.put,List.setIfInBounds_toArray,List.set_cons_zero,List.set_cons_succ,ZC,ZD]
               rfl
              refine take_ (i:=2) (N:=some 30) (v:=?_) (a':=?_) #[true,true,true,true,false,false,false,false,true,false,false,false,false,false] rfl rfl (Z3 HT_.out HW_.out (by kernel_rfl)) (fun _ _ _ h=>h) (Or.inl ⟨by rfl,?_⟩) hHeld ?_ ?_
              rotate_left
              ·rintro w' ⟨s0,s1,s2,s3,s4,s5⟩
               go_simp
               with_reducible rfl
              rotate_left
              ·simp only[Act.put,List.setIfInBounds_toArray,List.set_cons_zero,List.set_cons_succ,ZC,ZD]
               rfl
              refine ZO (i:=4) (N:=some 32) (v:=?_) (a':=?_) #[true,true,true,true,true,false,false,false,true,false,false,false,false,false] rfl rfl (ZJ HT_.out (by kernel_rfl)) (fun _ _ _ h=>h) (Or.inl ⟨by rfl,?_⟩) ?_ ?_
              rotate_left
              ·intro w'
               go_simp
               with_reducible rfl
              rotate_left
              ·simp only[Act.put,List.setIfInBounds_toArray,List.set_cons_zero,List.set_cons_succ,ZC,ZD]
               rfl
              refine ZO (i:=5) (N:=some 33) (v:=?_) (a':=?_) #[true,true,true,true,true,true,false,false,true,false,false,false,false,false] rfl rfl (ZJ HT_.out (by kernel_rfl)) (fun _ _ _ h=>h) (Or.inl ⟨by rfl,?_⟩) ?_ ?_
              rotate_left
              ·intro w'
               go_simp
               with_reducible rfl
              rotate_left
              ·simp only[Act.put,List.setIfInBounds_toArray,List.set_cons_zero,List.set_cons_succ,ZC,ZD]
               rfl
              refine take_ (i:=6) (N:=some 34) (v:=?_) (a':=?_) #[true,true,true,true,true,true,true,false,true,false,false,false,false,false] rfl rfl (Z3 HT_.out HW_.out (by kernel_rfl)) (fun _ _ _ h=>h) (Or.inl ⟨by rfl,?_⟩) hHeld ?_ ?_
              rotate_left
              ·rintro w' ⟨s0,s1,s2,s3,s4,s5⟩
               go_simp
               with_reducible rfl
              rotate_left
              ·simp only[Act.put,List.setIfInBounds_toArray,List.set_cons_zero,List.set_cons_succ,ZC,ZD]
               rfl
              refine ZO (i:=7) (N:=some 35) (v:=?_) (a':=?_) #[true,true,true,true,true,true,true,true,true,false,false,false,false,false] rfl rfl (ZJ HT_.out (by kernel_rfl)) (fun _ _ _ h=>h) (Or.inl ⟨by rfl,?_⟩) ?_ ?_
              rotate_left
              ·intro w'
               go_simp
               with_reducible rfl
              rotate_left
              ·simp only[Act.put,List.setIfInBounds_toArray,List.set_cons_zero,List.set_cons_succ,ZC,ZD]
               rfl
              refine one_ (i:=9) (N:=some 37) #[true,true,true,true,true,true,true,true,true,true,false,false,false,false] rfl rfl (ZaR HT_.out (by kernel_rfl)) (by decide) (fun K hK=>?_)
              refine ZaX Tryd.func38 (by kernel_rfl) rfl #[.int .i64 (rd l1 x21_2)] (by rfl) rfl rfl (by(try simp only[List.map_toArray,List.map_cons,List.map_nil]);first|done|rfl|(simp only[Zk,Zj];rfl)) ?_
              with_reducible refine(ZR.calls (rd l1 x21_2) t19005 _ ?sideT A19.out).mono ?_
              case sideT=>exact TW.below HTW.out (by repeat(first|(with_reducible first|exact HB.out|apply Zn|apply Zm|apply Zo|refine Zr ?_ GE19001.out)|exact HB.out))
              rintro e w23 ⟨rfl,hb⟩
              refine⟨_,rfl,?_⟩
              replace HO_5:=Za (Kd.R_below (by(with_reducible repeat(first|apply Kd.R_alloc|apply Kd.R_drewN|apply Kd.R_drew));exact HO_5.out) hb);replace BK19001:=Za (ZB (g:=gb19001) (o:=.cells #[.slice (some ad19004) l0_0.length c0_0,.slice A0_1 l0_1.length c0_1,.int .i64 a0_2] 36 (0,0)) (by(with_reducible repeat(first|refine Zu ?_ _|refine Zv ?_|refine Zs ?_ _));exact BK19001.out) hb);replace HB:=Za (Zx (by repeat(first|(with_reducible first|exact HB.out|apply Zn|apply Zm|apply Zo|refine Zr ?_ GE19001.out)|exact HB.out)) hb)
              (try clear hb)
              (try clear hb2)
              (try clear hk)
              (try clear hi)
              refine hK.out _ _ ⟨(Zq BK19001.out 0).trans rfl,(Zq BK19001.out 1).trans rfl,(Zq BK19001.out 2).trans rfl,((HB.out.cell (Zc w _ hw19004_0)).trans hw19004_0),((HB.out.cell (Zc w _ hw19004_1)).trans hw19004_1),((HB.out.cell (Zc w _ hw19004_2)).trans hw19004_2)⟩ (fun hHeld=>?_)
              clear hK K
              refine ZaE (a':=?_) ?_ ?_
              rotate_left
              ·show Act.put _ (some 37) _=_
               simp only[Act.put,List.setIfInBounds_toArray,List.set_cons_zero,List.set_cons_succ,ZC,ZD]
               rfl
              refine ZO (i:=10) (N:=some 38) (v:=?_) (a':=?_) #[true,true,true,true,true,true,true,true,true,true,true,false,false,false] rfl rfl (ZJ HT_.out (by kernel_rfl)) (fun _ _ _ h=>h) (Or.inl ⟨by rfl,?_⟩) ?_ ?_
              rotate_left
              ·intro w'
               go_simp
               with_reducible rfl
              rotate_left
              ·simp only[Act.put,List.setIfInBounds_toArray,List.set_cons_zero,List.set_cons_succ,ZC,ZD]
               rfl
              refine one_ (i:=11) (N:=some 39) #[true,true,true,true,true,true,true,true,true,true,true,true,false,false] rfl rfl (ZaR HT_.out (by kernel_rfl)) (by decide) (fun K hK=>?_)
              refine value_ (w1:=?_) (v:=?_) (by rfl) rfl ?_ ?_
              rotate_left 2
              ·go_simp
               constructor
               ·rfl
               ·rfl
              refine hK.out _ _ ⟨(Zq (Zs BK19001.out _) 0).trans rfl,(Zq (Zs BK19001.out _) 1).trans rfl,(Zq (Zs BK19001.out _) 2).trans rfl,(World.cell?_alloc_lt _ _ _ (Zc _ _ (((HB.out.cell (Zc w _ hw19004_0)).trans hw19004_0)))).trans (((HB.out.cell (Zc w _ hw19004_0)).trans hw19004_0)),(World.cell?_alloc_lt _ _ _ (Zc _ _ (((HB.out.cell (Zc w _ hw19004_1)).trans hw19004_1)))).trans (((HB.out.cell (Zc w _ hw19004_1)).trans hw19004_1)),(World.cell?_alloc_lt _ _ _ (Zc _ _ (((HB.out.cell (Zc w _ hw19004_2)).trans hw19004_2)))).trans (((HB.out.cell (Zc w _ hw19004_2)).trans hw19004_2))⟩ (fun hHeld=>?_)
              clear hK K
              refine ZaE (a':=?_) ?_ ?_
              rotate_left
              ·show Act.put _ (some 39) _=_
               simp only[Act.put,List.setIfInBounds_toArray,List.set_cons_zero,List.set_cons_succ,ZC,ZD]
               rfl
              refine one_ (i:=12) (N:=some 40) #[true,true,true,true,true,true,true,true,true,true,true,true,true,false] rfl rfl (ZaR HT_.out (by kernel_rfl)) (by decide) (fun K hK=>?_)
              refine Kd.R_append_step Kd.string (w0:=w) w.heap.size (by rfl) (.tmp 28) (.tmp 39) 56 9 (.string ⟨#[]⟩) 16 rfl Tryd.underlying56 Zcw rfl (by decide) (by omega) u5 x5_2 ((((Zp l0_0 x21_2).f0) ++ (⟨#[64]⟩:ByteArray)) ++ t19005) [.string ((((Zp l0_0 x21_2).f0) ++ (⟨#[64]⟩:ByteArray)) ++ t19005)] (fun _=>True) (fun _=>False) rfl rfl ?aP (fun _ hk=>hk.elim) ?aF ?aO ?aB ?aS ?aL ?_
              (case aP=>exact rfl)
              (case aB=>exact(by repeat(first|(with_reducible first|exact HB.out|apply Zn|apply Zm|apply Zo|refine Zr ?_ GE19001.out)|exact HB.out)))
              (case aF=>exact(fun _ _=>trivial))
              (case aO=>exact(by(with_reducible repeat(first|apply Kd.R_alloc|apply Kd.R_drewN|apply Kd.R_drew));exact HO_5.out))
              (case aS=>exact(Zy (by repeat(first|(with_reducible first|exact HB.out|apply Zn|apply Zm|apply Zo|refine Zr ?_ GE19001.out)|exact HB.out))))
              (case aL=>have:=LMc21.out;omega)
              intro v19007 w24 ho hb hg hat
              rw[← Ny19006.out] at ho
              have HO19008:=Za (ho);replace BK19001:=Za (ZbY (g:=gb19001) (o:=.cells #[.slice (some ad19004) l0_0.length c0_0,.slice A0_1 l0_1.length c0_1,.int .i64 a0_2] 36 (0,0)) (by(with_reducible repeat(first|refine Zu ?_ _|refine Zv ?_|refine Zs ?_ _));exact BK19001.out) hg (Kd.R_ne HO_5.out BK19001.out (by decide)));replace HB:=Za (hb);clear HO_5 ho hb hg hat
              refine hK.out _ _ ⟨(Zq BK19001.out 0).trans rfl,(Zq BK19001.out 1).trans rfl,(Zq BK19001.out 2).trans rfl,((HB.out.cell (Zc w _ hw19004_0)).trans hw19004_0),((HB.out.cell (Zc w _ hw19004_1)).trans hw19004_1),((HB.out.cell (Zc w _ hw19004_2)).trans hw19004_2)⟩ (fun hHeld=>?_)
              clear hK K
              refine ZaE (a':=?_) ?_ ?_
              rotate_left
              ·show Act.put _ (some 40) _=_
               simp only[Act.put,List.setIfInBounds_toArray,List.set_cons_zero,List.set_cons_succ,ZC,ZD]
               rfl
              refine ZO (i:=13) (N:=some 5) (v:=?_) (a':=?_) #[true,true,true,true,true,true,true,true,true,true,true,true,true,true] rfl rfl (ZJ HT_.out (by kernel_rfl)) (fun _ _ _ h=>h) (Or.inl ⟨by rfl,?_⟩) ?_ ?_
              rotate_left
              ·intro w'
               go_simp
               with_reducible rfl
              rotate_left
              ·simp only[Act.put,List.setIfInBounds_toArray,List.set_cons_zero,List.set_cons_succ,ZC,ZD]
               rfl
              refine ZbJ (ZbA HT_.out (by kernel_rfl)) ?_
              try go_wp2
              go_roundg k2
              case measure=>have:=HJ2.out;have:=HK2.out;omega
              case rel=>exact⟨(y19006),(wrap64 (x21_2+1)),(by first|rfl|(simp;done)|(simp[*];done)),H',⟨by have:=HJ2.out;have:=HK2.out;omega⟩,⟨by(with_reducible repeat(first|apply Kd.R_alloc|apply Kd.R_drewN|apply Kd.R_drew));exact HO19008.out⟩,⟨by(with_reducible repeat(first|refine Zu ?_ _|refine Zv ?_|refine Zs ?_ _));exact BK19001.out⟩,⟨by repeat(first|(with_reducible first|exact HB.out|apply Zn|apply Zm|apply Zo|refine Zr ?_ GE19001.out)|exact HB.out)⟩⟩
             ·rw[if_neg c21] at H
              exact absurd H (by simp)
            ·rw[if_neg c20] at H
             exact absurd H (by simp)
           ·rw[if_neg c18] at H
            exact absurd H (by simp)
          ·rw[if_neg c17] at H
           exact absurd H (by simp)
        ·rw[if_neg c15] at H
         exact absurd H (by simp)
       ·rw[if_neg c14] at H
        exact absurd H (by simp)
      ·rw[if_neg c13] at H
       have c13b0:decide (x21_2<(l1.length:Int))=false:=Zf c13
       clear c13
       replace H:=Zh H
       obtain⟨t19009,A250,H⟩:=H
       replace H:(some t19009)=some r:=H
       have A25:=Za A250;clear A250
       obtain rfl:=Zg H
       obtain⟨Ao26,co26,eo26⟩:=Kd.R_slice HO_5.out
       subst eo26
       go_wp2_with (first|((with_reducible refine ZG (f:=53) rfl ?_);refine ZX (some 43) rfl rfl Tryd.func53 (by kernel_rfl) rfl #[.slice Ao26 x5_2.length co26,.string (⟨#[32]⟩:ByteArray)] rfl (by(try simp only[List.map_toArray,List.map_cons,List.map_nil]);first|done|rfl|(simp only[Zk,Zj];rfl)) ?_;(with_reducible refine(ZbR.calls _ _ x5_2 (⟨#[32]⟩:ByteArray) t19009 _ ?side1 ?side2 ?sideS A25.out).mono ?_);(case sideS=>exact R_spot HO_5.out);(case side1=>repeat(first|exact(Kd.R_reads' HO_5.out).2.2|(with_reducible refine Kd.C_alloc ?_ _)|(with_reducible refine Kd.C_drewN ?_ _)|(with_reducible refine Kd.C_drew ?_)));(case side2=>exact(Kd.R_reads' HO_5.out).2.1);rintro e w27 ⟨rfl,hb⟩;refine⟨_,rfl,?_⟩;replace HO_5:=Za (Kd.R_below (by(with_reducible repeat(first|apply Kd.R_alloc|apply Kd.R_drewN|apply Kd.R_drew));exact HO_5.out) hb);replace BK19001:=Za (ZB (g:=gb19001) (o:=.cells #[.slice A0_0 l0_0.length c0_0,.slice A0_1 l0_1.length c0_1,.int .i64 a0_2] 36 (0,0)) (by(with_reducible repeat(first|refine Zu ?_ _|refine Zv ?_|refine Zs ?_ _));exact BK19001.out) hb);replace HB:=Za (Zx (by repeat(first|(with_reducible first|exact HB.out|apply Zn|apply Zm|apply Zo|refine Zr ?_ GE19001.out)|exact HB.out)) hb);(try clear hb);(try clear hb2);(try clear hk);(try clear hi)))
       go_ret
       exact⟨by first|rfl|(simp[ZA,Zz] <;> rfl)|(simp[*,ZA,Zz] <;> rfl),by repeat(first|(with_reducible first|exact HB.out|apply Zn|apply Zm|apply Zo|refine Zr ?_ GE19001.out)|exact HB.out)⟩
end Go.Proofs.YthphnhmabieflaaDoor.Pr
set_option linter.unusedSimpArgs false
set_option linter.unusedVariables false
namespace Go.Proofs.YthphnhmabieflaaDoor.Pr
open Go.RowKit Go.Proofs.YthphnhmabieflaaDoorW.PrintWords Go.Proofs.YthphnhmabieflaaDoor.Ni
theorem Zds (m:Nat) (s:List UInt8):∀(l:List (List UInt8)),(∀x∈l,x.length≤m)→(Lib.join l s).length≤(m+s.length) * l.length
 | [],_=>by simp[Lib.join]
 | x :: t,h=>by
  have h1:∀l:List (List UInt8),(∀x∈l,x.length≤m)→(Lib.joinTail s l).length≤(m+s.length) * l.length:=by
   intro l
   induction l with
   | nil=>intro _;simp[Lib.joinTail]
   | cons y r ih=>
    intro hy
    have h2:=ih (fun z hz=>hy z (by simp[hz]))
    have h3:=hy y (by simp)
    rw[Zb8,List.length_append,List.length_append,List.length_cons,Nat.mul_succ];omega
  have h2:=h1 t (fun z hz=>h z (by simp[hz]))
  have h3:=h x (by simp)
  rw[Lib.join_cons,List.length_append,List.length_cons,Nat.mul_succ];omega
theorem ZcJ:∀(l:List (List UInt8)),bl (l.map bs)=l
 | []=>rfl
 | x :: t=>by
  show(bs x).data.toList :: bl (t.map bs)=_
  rw[Zbd,ZcJ t]
def timW (ns:List Z2) (i:Nat):List Int→List (List UInt8)
 | []=>[]
 | x :: t=>if x=-1 then timW ns (i+1) t else(nmL ns i ++ [64] ++ Lib.itoa x) :: timW ns (i+1) t
def timT (l:List (List UInt8)):List UInt8:=if l=[] then[45] else Lib.join l [32]
theorem ZeN {ns:List Z2} (ts:List PTie) (z:Int) (hn:Zac ns=true) (l:List Int) (hl:l.length=ns.length) (hx:∀x∈l,-9223372036854775808≤x∧x≤9223372036854775807) (k:Nat) (hk:2 ^ 65≤k):ZM.l0 k [] l l.length 0 ns ts z=some (bs (timT (timW ns 0 l))):=by
 have h7:=Zb4 hn
 have key:=ZaM l.length (fun k i=>∀acc:List (List UInt8),acc.length≤i→(∀x∈acc,x.length≤29)→ZM.l0 k (acc.map bs) l (l.length:Int) (i:Int) ns ts z=some (bs (timT (acc ++ timW ns i (l.drop i))))) 0
  (fun k _ acc ha hb=>by
   simp only[ZM.l0]
   rw[if_neg (by omega),List.drop_length,timW,List.append_nil]
   unfold ZbR.f timT
   by_cases h:acc=[]
   ·subst h;rfl
   ·rw[if_neg (by cases acc with|nil=>exact absurd rfl h|cons x t=>simp;omega),if_neg h]
    have hj:=Zds 29 [32] acc hb
    rw[List.length_singleton] at hj
    rw[show(⟨#[32]⟩:ByteArray)=bs [32] from rfl,Zcl _ _ (by simp;omega) (by rw[ZcJ,Zbd];omega),ZcJ,Zbd]
    rfl)
  (fun k i hk hi ih acc ha hb=>by
   simp only[ZM.l0]
   have hb2:=hx _ (Zbp hi 0)
   have hnm:=Zcd hn (show(0:Int)≤(i:Int) by omega) (by omega)
   rw[if_pos (by omega),if_pos (by omega),if_pos (by omega),Zbg,ZaA hi 0,Zax hi (by omega),timW]
   by_cases e:l.getD i 0=-1
   ·rw[if_pos e,if_pos e]
    exact ih acc (by omega) hb
   ·have h2:=Zba _ hb2.1 hb2.2
    rw[if_neg e,if_neg e,if_pos (by omega),nm_bs,show(⟨#[64]⟩:ByteArray)=bs [64] from rfl,ZaZ _ hb2.1 hb2.2,Zi,ZaW,ZaW,ZaD,ZaD,ZaD,if_pos (by omega),if_pos (by simp only[List.length_append,List.length_singleton];omega),if_pos (by simp;omega)]
    have:=ih (acc ++ [nmL ns i ++ [64] ++ Lib.itoa (l.getD i 0)]) (by simp;omega) (fun x hx'=>by
     rcases List.mem_append.1 hx' with h|h
     ·exact hb x h
     ·rw[List.mem_singleton] at h;subst h;simp only[List.length_append,List.length_singleton];omega)
    rw[List.map_append,List.append_assoc acc] at this
    exact this) 0 k (Nat.zero_le _) (by omega)
 simpa using key [] (by simp) (fun x hx=>by cases hx)
theorem ZeI {ns:List Z2} (ts:List PTie) (z:Int) (hn:Zac ns=true) (l:List Int) (hl:l.length=ns.length) (hx:∀x∈l,-9223372036854775808≤x∧x≤9223372036854775807) (k:Nat) (hk:2 ^ 65≤k):ZL.l0 k [] l l.length 0 ns ts z=some (bs (timT (timW ns 0 l))):=by
 have h7:=Zb4 hn
 have key:=ZaM l.length (fun k i=>∀acc:List (List UInt8),acc.length≤i→(∀x∈acc,x.length≤29)→ZL.l0 k (acc.map bs) l (l.length:Int) (i:Int) ns ts z=some (bs (timT (acc ++ timW ns i (l.drop i))))) (2 ^ 64)
  (fun k hk acc ha hb=>by
   simp only[ZL.l0]
   rw[if_neg (by omega),List.drop_length,timW,List.append_nil]
   unfold timT
   by_cases h:acc=[]
   ·subst h;rfl
   ·rw[if_neg (by cases acc with|nil=>exact absurd rfl h|cons x t=>simp;omega),if_neg h]
    have hj:=Zds 29 [32] acc hb
    rw[List.length_singleton] at hj
    rw[show(⟨#[32]⟩:ByteArray)=bs [32] from rfl,ZdG _ _ (by simp;omega) (by rw[ZcJ,Zbd];omega) k (by omega),ZcJ,Zbd]
    rfl)
  (fun k i hk hi ih acc ha hb=>by
   simp only[ZL.l0]
   have hb2:=hx _ (Zbp hi 0)
   have hnm:=Zcd hn (show(0:Int)≤(i:Int) by omega) (by omega)
   rw[if_pos (by omega),if_pos (by omega),if_pos (by omega),Zbg,ZaA hi 0,Zax hi (by omega),timW]
   by_cases e:l.getD i 0=-1
   ·rw[if_pos e,if_pos e]
    exact ih acc (by omega) hb
   ·have h2:=Zba _ hb2.1 hb2.2
    rw[if_neg e,if_neg e,if_pos (by omega),nm_bs,show(⟨#[64]⟩:ByteArray)=bs [64] from rfl,Zbh _ hb2.1 hb2.2 k (by omega),Zi,ZaW,ZaW,ZaD,ZaD,ZaD,if_pos (by omega),if_pos (by simp only[List.length_append,List.length_singleton];omega),if_pos (by simp;omega)]
    have:=ih (acc ++ [nmL ns i ++ [64] ++ Lib.itoa (l.getD i 0)]) (by simp;omega) (fun x hx'=>by
     rcases List.mem_append.1 hx' with h|h
     ·exact hb x h
     ·rw[List.mem_singleton] at h;subst h;simp only[List.length_append,List.length_singleton];omega)
    rw[List.map_append,List.append_assoc acc] at this
    exact this) 0 k (Nat.zero_le _) (by omega)
 simpa using key [] (by simp) (fun x hx=>by cases hx)
def ftimB (ns:List Z2) (ts:List PTie) (z:Int) (l:List Int):ByteArray:=if ZaL ns ts z=true∧l.length=ns.length then bs (timT (timW ns 0 l)) else⟨#[]⟩
theorem Zdt {ns:List Z2} {ts:List PTie} {z:Int} (l:List Int) (hx:∀x∈l,-9223372036854775808≤x∧x≤9223372036854775807) (hf:fitN ns=true) (k:Nat) (hk:2 ^ 66≤k):ZM.f k ns ts z l=some (ftimB ns ts z l):=by
 obtain⟨m,rfl⟩:∃m,k=m+1:=⟨k - 1,by omega⟩
 unfold ZM.f ftimB
 rw[Zcs hf,Zi]
 simp only[ZM.j0]
 cases hp:ZaL ns ts z with
 | false=>rfl
 | true=>
  rw[if_pos rfl]
  by_cases h:l.length=ns.length
  ·rw[show((l.length:Int) != (ns.length:Int))=false by simp[h],if_neg (by simp),ZeN ts z (ZbL hp) l h hx m (by omega),if_pos ⟨rfl,h⟩]
  ·rw[show((l.length:Int) != (ns.length:Int))=true by simp;omega,if_pos rfl,if_neg (fun hh=>h hh.2)]
theorem Zdj {ns:List Z2} {ts:List PTie} {z:Int} (l:List Int) (hx:∀x∈l,-9223372036854775808≤x∧x≤9223372036854775807) (hf:fitN ns=true) (k:Nat) (hk:2 ^ 66≤k):ZL.f k ns ts z l=some (ftimB ns ts z l):=by
 obtain⟨m,rfl⟩:∃m,k=m+1:=⟨k - 1,by omega⟩
 unfold ZL.f ftimB
 rw[Zcp ns ts z hf _ (by omega),Zi]
 simp only[ZL.j0]
 cases hp:ZaL ns ts z with
 | false=>rfl
 | true=>
  rw[if_pos rfl]
  by_cases h:l.length=ns.length
  ·rw[show((l.length:Int) != (ns.length:Int))=false by simp[h],if_neg (by simp),ZeI ts z (ZbL hp) l h hx m (by omega),if_pos ⟨rfl,h⟩]
  ·rw[show((l.length:Int) != (ns.length:Int))=true by simp;omega,if_pos rfl,if_neg (fun hh=>h hh.2)]
end Go.Proofs.YthphnhmabieflaaDoor.Pr
