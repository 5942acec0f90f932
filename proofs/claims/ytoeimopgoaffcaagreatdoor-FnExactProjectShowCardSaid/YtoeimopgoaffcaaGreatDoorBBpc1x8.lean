/- The texts of one claim, put together by a program of this session. -/
import Derived.Test.YtoeimopgoaffcaaGreatDoorBBpc1x1
import Derived.Test.YtoeimopgoaffcaaGreatDoorBBpc1x2
import Derived.Test.YtoeimopgoaffcaaGreatDoorBBpc1x3
import Derived.Test.YtoeimopgoaffcaaGreatDoorBBpc1x4
import Derived.Test.YtoeimopgoaffcaaGreatDoorBBpc1x5
import Derived.Test.YtoeimopgoaffcaaGreatDoorBBpc1x7
namespace Go.Proofs.YtoeimopgoaffcaaGreatDoor.Pr
open Go.RowKit Go.Proofs.YtoeimopgoaffcaaGreatDoorW.PrintWords Go.Proofs.YtoeimopgoaffcaaGreatDoorW.PrintLast Go.Proofs.YtoeimopgoaffcaaGreatDoorW.PrintMore
attribute [local go_sem] Z2 Z0 Zac Zab ZU ZT Z1 ZZ
set_option linter.unusedVariables false
set_option linter.unusedSimpArgs false
mutual
def Z9.j0:Nat→Bool→List (S39)→List (S82)→Int→Option (Bool)
 | 0,_,_,_,_=>none
 | k+1,x18,x57002000,x57002001,x57002002=>if x18=true then(some false) else(Z9.l0 k (x57002001.length:Int) 0 x57002000 x57002001 x57002002)
def Z9.l0:Nat→Int→Int→List (S39)→List (S82)→Int→Option (Bool)
 | 0,_,_,_,_,_=>none
 | k+1,x21,x22,x57002000,x57002001,x57002002=>if x22<x21 then((Zb6.f x57002000 x57002001 x57002002 x22).bind fun t57004=>(if t57004=true then(Z9.l0 k x21 (wrap64 (x22+1)) x57002000 x57002001 x57002002) else(some false))) else(some true)
end
def Z9.f (k:Nat) (l0_0:List (S39)) (l0_1:List (S82)) (a0_2:Int):Option (Bool):=(Zba.f l0_0 l0_1 a0_2).bind fun t57002=>(if t57002=true then(if (l0_1.length:Int) > 14 then(Z9.j0 k true l0_0 l0_1 a0_2) else((ZY.f a0_2 1 10).bind fun t57003=>(Z9.j0 k (!t57003) l0_0 l0_1 a0_2))) else(Z9.j0 k true l0_0 l0_1 a0_2))
set_option maxHeartbeats 8000000 in
set_option maxRecDepth 100000 in
theorem Z9.calls (k:Nat) (A0_0:Option Addr) (c0_0:Nat) (l0_0:List (S39)) (A0_1:Option Addr) (c0_1:Nat) (l0_1:List (S82)) (a0_2:Int) (r:Bool) (w:World) (hr0_0:Kd.C k39 w A0_0 l0_0.length l0_0) (hc0_0:l0_0.length≤c0_0) (hr0_1:Kd.C k82 w A0_1 l0_1.length l0_1) (hc0_1:l0_1.length≤c0_1) (h:Z9.f k l0_0 l0_1 a0_2=some r) :
  Calls Tryz.prog 57 #[.agg #[.slice A0_0 l0_0.length c0_0,.slice A0_1 l0_1.length c0_1,.int .i64 a0_2]] w fun e w'=>e=.returned (.bool r)∧Below w.heap.size w w':=by
 have hu25:=Tryz.underlying25
 have HR0_0:=Za hr0_0;have HC0_0:=Za hc0_0;clear hr0_0 hc0_0;have HR0_1:=Za hr0_1;have HC0_1:=Za hc0_1;clear hr0_1 hc0_1
 have HB:=Za (Below.refl w.heap.size w)
 have H:((Zba.f l0_0 l0_1 a0_2).bind fun t57002=>(if t57002=true then(if (l0_1.length:Int) > 14 then(Z9.j0 k true l0_0 l0_1 a0_2) else((ZY.f a0_2 1 10).bind fun t57003=>(Z9.j0 k (!t57003) l0_0 l0_1 a0_2))) else(Z9.j0 k true l0_0 l0_1 a0_2)))=some r:=h
 clear h;have HC2:=Za H;clear H
 go_enter Tryz.func57,Tryz.ntmps57
 go_upto_region 1 with (first|((with_reducible refine ZI (N:=1) rfl ?_);refine ZG ?hg (N:=1) ?hd (cs:=#[.slice A0_0 l0_0.length c0_0,.slice A0_1 l0_1.length c0_1,.int .i64 a0_2]) (t:=25) ?hr ?_;(case hd=>rfl);(case hg=>rfl);(case hr=>first|(go_simp;done)|(go_simp;rfl));intro gb57001 hg w3 hbox hb;have BK57001:=Za (hbox);have GW57001:=Za ((by rw[hg];exact(ZC (by repeat(first|(with_reducible first|exact HB.out|apply Zn|apply Zm|apply Zo)|exact HB.out))):w.heap.size≤gb57001));have GE57001:=Za ((by rw[hg];exact(ZC (by repeat(first|(with_reducible first|exact HB.out|apply Zn|apply Zm|apply Zo)|exact HB.out))):w.heap.size≤gb57001));replace HB:=Za (Zt (by repeat(first|(with_reducible first|exact HB.out|apply Zn|apply Zm|apply Zo)|exact HB.out)) hb);clear hb hbox hg))
 (try simp only[Act.put,List.setIfInBounds_toArray,List.set_cons_zero,List.set_cons_succ])
 go_cut [18] (fun v18 wc=>∃(kq:Nat) (x18_1:Bool),v18=.bool x18_1∧Aside0 (Z9.j0 kq x18_1 l0_0 l0_1 a0_2=some r)∧Aside0 (kq≤k)∧Aside0 (wc.heap[gb57001]? = some (.cells #[(.slice A0_0 l0_0.length c0_0),(.slice A0_1 l0_1.length c0_1),.int .i64 a0_2] 25 (0,0)))∧Aside0 (Below w.heap.size w wc))
 case first=>
  have H:=HC2.out
  clear HC2
  replace H:=Zh H
  obtain⟨t57002,A40,H⟩:=H;have A4:=Za A40;clear A40
  by_cases c5:t57002=true
  ·subst c5
   rw[if_pos rfl] at H
   by_cases c6:(l0_1.length:Int) > 14
   ·rw[if_pos c6] at H
    have c6b0:decide (14<(l0_1.length:Int))=true:=Ze c6
    clear c6
    have H':=Za H
    clear H
    have hcz7_0:w3.cell? ⟨gb57001,0,none⟩=some (.slice A0_0 l0_0.length c0_0):=(Zp BK57001.out 0).trans rfl
    have hcz7_1:w3.cell? ⟨gb57001,1,none⟩=some (.slice A0_1 l0_1.length c0_1):=(Zp BK57001.out 1).trans rfl
    have hcz7_2:w3.cell? ⟨gb57001,2,none⟩=some (.int .i64 a0_2):=(Zp BK57001.out 2).trans rfl
    go_wp2_with (first|((with_reducible refine ZK (f:=126) rfl ?_);refine Z6 (some 5) rfl rfl Tryz.func126 (by kernel_rfl) rfl #[.agg #[.slice A0_0 l0_0.length c0_0,.slice A0_1 l0_1.length c0_1,.int .i64 a0_2]] rfl (by(try simp only[List.map_toArray,List.map_cons,List.map_nil]);first|done|rfl|(simp only[Zk,Zj];rfl)) ?_;(with_reducible refine(Zba.calls _ _ l0_0 _ _ l0_1 a0_2 true _ ?side1 ?side2 ?side3 ?side4 A4.out).mono ?_);(case side1=>repeat(first|exact(Zb HR0_0.out HB.out)|(with_reducible refine Kd.C_alloc ?_ _)|(with_reducible refine Kd.C_drewN ?_ _)|(with_reducible refine Kd.C_drew ?_)));(case side2=>exact HC0_0.out);(case side3=>repeat(first|exact(Zb HR0_1.out HB.out)|(with_reducible refine Kd.C_alloc ?_ _)|(with_reducible refine Kd.C_drewN ?_ _)|(with_reducible refine Kd.C_drew ?_)));(case side4=>exact HC0_1.out);rintro e w8 ⟨rfl,hb⟩;refine⟨_,rfl,?_⟩;replace BK57001:=Za (Zx (g:=gb57001) (o:=.cells #[.slice A0_0 l0_0.length c0_0,.slice A0_1 l0_1.length c0_1,.int .i64 a0_2] 25 (0,0)) BK57001.out hb);replace HB:=Za (Zt (by repeat(first|(with_reducible first|exact HB.out|apply Zn|apply Zm|apply Zo|refine Zq ?_ GE57001.out)|exact HB.out)) hb);have hcz9_0:w8.cell? ⟨gb57001,0,none⟩=some (.slice A0_0 l0_0.length c0_0):=(Zp BK57001.out 0).trans rfl;have hcz9_1:w8.cell? ⟨gb57001,1,none⟩=some (.slice A0_1 l0_1.length c0_1):=(Zp BK57001.out 1).trans rfl;have hcz9_2:w8.cell? ⟨gb57001,2,none⟩=some (.int .i64 a0_2):=(Zp BK57001.out 2).trans rfl))
    go_meet
    case rel=>exact⟨_,(true),(by first|rfl|(simp;done)|(simp[*];done)),H',⟨by first|omega|exact Nat.le_refl _⟩,⟨by(with_reducible repeat(first|refine Zw ?_ _|refine ZB ?_|refine Zv ?_ _));exact BK57001.out⟩,⟨by repeat(first|(with_reducible first|exact HB.out|apply Zn|apply Zm|apply Zo|refine Zq ?_ GE57001.out)|exact HB.out)⟩⟩
   ·rw[if_neg c6] at H
    have c6b0:decide (14<(l0_1.length:Int))=false:=Zf c6
    clear c6
    replace H:=Zh H
    obtain⟨t57003,A100,H⟩:=H;have A10:=Za A100;clear A100
    have H':=Za H
    clear H
    have hcz11_0:w3.cell? ⟨gb57001,0,none⟩=some (.slice A0_0 l0_0.length c0_0):=(Zp BK57001.out 0).trans rfl
    have hcz11_1:w3.cell? ⟨gb57001,1,none⟩=some (.slice A0_1 l0_1.length c0_1):=(Zp BK57001.out 1).trans rfl
    have hcz11_2:w3.cell? ⟨gb57001,2,none⟩=some (.int .i64 a0_2):=(Zp BK57001.out 2).trans rfl
    go_wp2_with (first|((with_reducible refine ZK (f:=126) rfl ?_);refine Z6 (some 5) rfl rfl Tryz.func126 (by kernel_rfl) rfl #[.agg #[.slice A0_0 l0_0.length c0_0,.slice A0_1 l0_1.length c0_1,.int .i64 a0_2]] rfl (by(try simp only[List.map_toArray,List.map_cons,List.map_nil]);first|done|rfl|(simp only[Zk,Zj];rfl)) ?_;(with_reducible refine(Zba.calls _ _ l0_0 _ _ l0_1 a0_2 true _ ?side1 ?side2 ?side3 ?side4 A4.out).mono ?_);(case side1=>repeat(first|exact(Zb HR0_0.out HB.out)|(with_reducible refine Kd.C_alloc ?_ _)|(with_reducible refine Kd.C_drewN ?_ _)|(with_reducible refine Kd.C_drew ?_)));(case side2=>exact HC0_0.out);(case side3=>repeat(first|exact(Zb HR0_1.out HB.out)|(with_reducible refine Kd.C_alloc ?_ _)|(with_reducible refine Kd.C_drewN ?_ _)|(with_reducible refine Kd.C_drew ?_)));(case side4=>exact HC0_1.out);rintro e w12 ⟨rfl,hb⟩;refine⟨_,rfl,?_⟩;replace BK57001:=Za (Zx (g:=gb57001) (o:=.cells #[.slice A0_0 l0_0.length c0_0,.slice A0_1 l0_1.length c0_1,.int .i64 a0_2] 25 (0,0)) BK57001.out hb);replace HB:=Za (Zt (by repeat(first|(with_reducible first|exact HB.out|apply Zn|apply Zm|apply Zo|refine Zq ?_ GE57001.out)|exact HB.out)) hb);have hcz13_0:w12.cell? ⟨gb57001,0,none⟩=some (.slice A0_0 l0_0.length c0_0):=(Zp BK57001.out 0).trans rfl;have hcz13_1:w12.cell? ⟨gb57001,1,none⟩=some (.slice A0_1 l0_1.length c0_1):=(Zp BK57001.out 1).trans rfl;have hcz13_2:w12.cell? ⟨gb57001,2,none⟩=some (.int .i64 a0_2):=(Zp BK57001.out 2).trans rfl)|(go_at_call 127;(with_reducible refine(ZY.calls a0_2 1 10 t57003 _ A10.out).mono ?_);rintro e w' ⟨rfl,⟨nd,rfl⟩⟩))
    go_meet
    case rel=>exact⟨_,(!t57003),(by first|rfl|(simp;done)|(simp[*];done)),H',⟨by first|omega|exact Nat.le_refl _⟩,⟨by(with_reducible repeat(first|refine Zw ?_ _|refine ZB ?_|refine Zv ?_ _));exact BK57001.out⟩,⟨by repeat(first|(with_reducible first|exact HB.out|apply Zn|apply Zm|apply Zo|refine Zq ?_ GE57001.out)|exact HB.out)⟩⟩
  ·replace c5:=Bool.eq_false_iff.mpr c5
   subst c5
   have H1:(Z9.j0 k true l0_0 l0_1 a0_2)=some r:=by rw[if_neg (show ¬(false=true) by decide)] at H;exact H
   clear H
   have H:=H1
   clear H1
   have H':=Za H
   clear H
   have hcz14_0:w3.cell? ⟨gb57001,0,none⟩=some (.slice A0_0 l0_0.length c0_0):=(Zp BK57001.out 0).trans rfl
   have hcz14_1:w3.cell? ⟨gb57001,1,none⟩=some (.slice A0_1 l0_1.length c0_1):=(Zp BK57001.out 1).trans rfl
   have hcz14_2:w3.cell? ⟨gb57001,2,none⟩=some (.int .i64 a0_2):=(Zp BK57001.out 2).trans rfl
   go_wp2_with (first|((with_reducible refine ZK (f:=126) rfl ?_);refine Z6 (some 5) rfl rfl Tryz.func126 (by kernel_rfl) rfl #[.agg #[.slice A0_0 l0_0.length c0_0,.slice A0_1 l0_1.length c0_1,.int .i64 a0_2]] rfl (by(try simp only[List.map_toArray,List.map_cons,List.map_nil]);first|done|rfl|(simp only[Zk,Zj];rfl)) ?_;(with_reducible refine(Zba.calls _ _ l0_0 _ _ l0_1 a0_2 false _ ?side1 ?side2 ?side3 ?side4 A4.out).mono ?_);(case side1=>repeat(first|exact(Zb HR0_0.out HB.out)|(with_reducible refine Kd.C_alloc ?_ _)|(with_reducible refine Kd.C_drewN ?_ _)|(with_reducible refine Kd.C_drew ?_)));(case side2=>exact HC0_0.out);(case side3=>repeat(first|exact(Zb HR0_1.out HB.out)|(with_reducible refine Kd.C_alloc ?_ _)|(with_reducible refine Kd.C_drewN ?_ _)|(with_reducible refine Kd.C_drew ?_)));(case side4=>exact HC0_1.out);rintro e w15 ⟨rfl,hb⟩;refine⟨_,rfl,?_⟩;replace BK57001:=Za (Zx (g:=gb57001) (o:=.cells #[.slice A0_0 l0_0.length c0_0,.slice A0_1 l0_1.length c0_1,.int .i64 a0_2] 25 (0,0)) BK57001.out hb);replace HB:=Za (Zt (by repeat(first|(with_reducible first|exact HB.out|apply Zn|apply Zm|apply Zo|refine Zq ?_ GE57001.out)|exact HB.out)) hb);(try clear hi)))
   go_meet
   case rel=>exact⟨_,(true),(by first|rfl|(simp;done)|(simp[*];done)),H',⟨by first|omega|exact Nat.le_refl _⟩,⟨by(with_reducible repeat(first|refine Zw ?_ _|refine ZB ?_|refine Zv ?_ _));exact BK57001.out⟩,⟨by repeat(first|(with_reducible first|exact HB.out|apply Zn|apply Zm|apply Zo|refine Zq ?_ GE57001.out)|exact HB.out)⟩⟩
 case rest=>
  clear HC2
  try clear c1
  try clear p2
  try clear c5
  try clear c6
  try clear c6b0
  try clear c6b1
  try clear c12
  obtain⟨kq,x18_1,rfl,HA,HJ1,BK57001,HB⟩:=hcut
  cases kq with
  | zero=>exact absurd HA.out (by simp[Z9.j0])
  | succ kj1=>
   have H:=HA.out
   clear HA
   simp only[Z9.j0] at H
   by_cases c16:x18_1=true
   ·subst c16
    rw[if_pos rfl] at H
    obtain rfl:=Zg H
    go_wp2
    go_ret
    exact⟨by first|rfl|(simp[ZA,Zz] <;> rfl)|(simp[*,ZA,Zz] <;> rfl),by repeat(first|(with_reducible first|exact HB.out|apply Zn|apply Zm|apply Zo|refine Zq ?_ GE57001.out)|exact HB.out)⟩
   ·replace c16:=Bool.eq_false_iff.mpr c16
    subst c16
    have H1:(Z9.l0 kj1 (l0_1.length:Int) 0 l0_0 l0_1 a0_2)=some r:=by rw[if_neg (show ¬(false=true) by decide)] at H;exact H
    clear H
    have H:=H1
    clear H1
    have H':=Za H
    clear H
    have hcz17_0:wc.cell? ⟨gb57001,0,none⟩=some (.slice A0_0 l0_0.length c0_0):=(Zp BK57001.out 0).trans rfl
    have hcz17_1:wc.cell? ⟨gb57001,1,none⟩=some (.slice A0_1 l0_1.length c0_1):=(Zp BK57001.out 1).trans rfl
    have hcz17_2:wc.cell? ⟨gb57001,2,none⟩=some (.int .i64 a0_2):=(Zp BK57001.out 2).trans rfl
    go_wp2
    go_loopg [22] kj1 (fun kq v22 w'=>∃(x22_2:Int),v22=.int .i64 x22_2∧Aside0 (Z9.l0 kq (l0_1.length:Int) x22_2 l0_0 l0_1 a0_2=some r)∧Aside0 (kq≤kj1)∧Aside0 (w'.heap[gb57001]? = some (.cells #[(.slice A0_0 l0_0.length c0_0),(.slice A0_1 l0_1.length c0_1),.int .i64 a0_2] 25 (0,0)))∧Aside0 (Below w.heap.size w w'))
    case atStart=>exact⟨(0),(by first|rfl|(simp;done)|(simp[*];done)),H',⟨Nat.le_refl _⟩,⟨by(with_reducible repeat(first|refine Zw ?_ _|refine ZB ?_|refine Zv ?_ _));exact BK57001.out⟩,⟨by repeat(first|(with_reducible first|exact HB.out|apply Zn|apply Zm|apply Zo|refine Zq ?_ GE57001.out)|exact HB.out)⟩⟩
    case round=>
     clear H'
     try clear c1
     try clear p2
     try clear c5
     try clear c6
     try clear c6b0
     try clear c6b1
     try clear c12
     try clear c16
     try clear p2
     obtain⟨x22_2,rfl,HA,HK2,BK57001,HB⟩:=hrel
     cases gk with
     | zero=>exact absurd HA.out (by simp[Z9.l0])
     | succ k2=>
      have H:=HA.out
      clear HA
      simp only[Z9.l0] at H
      by_cases c18:x22_2<(l0_1.length:Int)
      ·rw[if_pos c18] at H
       have c18b0:decide (x22_2<(l0_1.length:Int))=true:=Ze c18
       clear c18
       replace H:=Zh H
       obtain⟨t57004,A190,H⟩:=H;have A19:=Za A190;clear A190
       by_cases c20:t57004=true
       ·subst c20
        rw[if_pos rfl] at H
        have H':=Za H
        clear H
        have hcz21_0:wr.cell? ⟨gb57001,0,none⟩=some (.slice A0_0 l0_0.length c0_0):=(Zp BK57001.out 0).trans rfl
        have hcz21_1:wr.cell? ⟨gb57001,1,none⟩=some (.slice A0_1 l0_1.length c0_1):=(Zp BK57001.out 1).trans rfl
        have hcz21_2:wr.cell? ⟨gb57001,2,none⟩=some (.int .i64 a0_2):=(Zp BK57001.out 2).trans rfl
        go_wp2_with (first|((with_reducible refine ZK (f:=128) rfl ?_);refine Z6 (some 27) rfl rfl Tryz.func128 (by kernel_rfl) rfl #[.agg #[.slice A0_0 l0_0.length c0_0,.slice A0_1 l0_1.length c0_1,.int .i64 a0_2],.int .i64 x22_2] rfl (by(try simp only[List.map_toArray,List.map_cons,List.map_nil]);first|done|rfl|(simp only[Zk,Zj];rfl)) ?_;(with_reducible refine(Zb6.calls _ _ l0_0 _ _ l0_1 a0_2 x22_2 true _ ?side1 ?side2 ?side3 ?side4 A19.out).mono ?_);(case side1=>repeat(first|exact(Zb HR0_0.out HB.out)|(with_reducible refine Kd.C_alloc ?_ _)|(with_reducible refine Kd.C_drewN ?_ _)|(with_reducible refine Kd.C_drew ?_)));(case side2=>exact HC0_0.out);(case side3=>repeat(first|exact(Zb HR0_1.out HB.out)|(with_reducible refine Kd.C_alloc ?_ _)|(with_reducible refine Kd.C_drewN ?_ _)|(with_reducible refine Kd.C_drew ?_)));(case side4=>exact HC0_1.out);rintro e w22 ⟨rfl,hb⟩;refine⟨_,rfl,?_⟩;replace BK57001:=Za (Zx (g:=gb57001) (o:=.cells #[.slice A0_0 l0_0.length c0_0,.slice A0_1 l0_1.length c0_1,.int .i64 a0_2] 25 (0,0)) BK57001.out hb);replace HB:=Za (Zt (by repeat(first|(with_reducible first|exact HB.out|apply Zn|apply Zm|apply Zo|refine Zq ?_ GE57001.out)|exact HB.out)) hb);(try clear hi)))
        go_roundg k2
        case measure=>have:=HJ1.out;have:=HK2.out;omega
        case rel=>exact⟨(wrap64 (x22_2+1)),(by first|rfl|(simp;done)|(simp[*];done)),H',⟨by have:=HJ1.out;have:=HK2.out;omega⟩,⟨by(with_reducible repeat(first|refine Zw ?_ _|refine ZB ?_|refine Zv ?_ _));exact BK57001.out⟩,⟨by repeat(first|(with_reducible first|exact HB.out|apply Zn|apply Zm|apply Zo|refine Zq ?_ GE57001.out)|exact HB.out)⟩⟩
       ·replace c20:=Bool.eq_false_iff.mpr c20
        subst c20
        have H1:(some false)=some r:=by rw[if_neg (show ¬(false=true) by decide)] at H;exact H
        clear H
        have H:=H1
        clear H1
        obtain rfl:=Zg H
        have hcz23_0:wr.cell? ⟨gb57001,0,none⟩=some (.slice A0_0 l0_0.length c0_0):=(Zp BK57001.out 0).trans rfl
        have hcz23_1:wr.cell? ⟨gb57001,1,none⟩=some (.slice A0_1 l0_1.length c0_1):=(Zp BK57001.out 1).trans rfl
        have hcz23_2:wr.cell? ⟨gb57001,2,none⟩=some (.int .i64 a0_2):=(Zp BK57001.out 2).trans rfl
        go_wp2_with (first|((with_reducible refine ZK (f:=128) rfl ?_);refine Z6 (some 27) rfl rfl Tryz.func128 (by kernel_rfl) rfl #[.agg #[.slice A0_0 l0_0.length c0_0,.slice A0_1 l0_1.length c0_1,.int .i64 a0_2],.int .i64 x22_2] rfl (by(try simp only[List.map_toArray,List.map_cons,List.map_nil]);first|done|rfl|(simp only[Zk,Zj];rfl)) ?_;(with_reducible refine(Zb6.calls _ _ l0_0 _ _ l0_1 a0_2 x22_2 false _ ?side1 ?side2 ?side3 ?side4 A19.out).mono ?_);(case side1=>repeat(first|exact(Zb HR0_0.out HB.out)|(with_reducible refine Kd.C_alloc ?_ _)|(with_reducible refine Kd.C_drewN ?_ _)|(with_reducible refine Kd.C_drew ?_)));(case side2=>exact HC0_0.out);(case side3=>repeat(first|exact(Zb HR0_1.out HB.out)|(with_reducible refine Kd.C_alloc ?_ _)|(with_reducible refine Kd.C_drewN ?_ _)|(with_reducible refine Kd.C_drew ?_)));(case side4=>exact HC0_1.out);rintro e w24 ⟨rfl,hb⟩;refine⟨_,rfl,?_⟩;replace BK57001:=Za (Zx (g:=gb57001) (o:=.cells #[.slice A0_0 l0_0.length c0_0,.slice A0_1 l0_1.length c0_1,.int .i64 a0_2] 25 (0,0)) BK57001.out hb);replace HB:=Za (Zt (by repeat(first|(with_reducible first|exact HB.out|apply Zn|apply Zm|apply Zo|refine Zq ?_ GE57001.out)|exact HB.out)) hb);(try clear hi)))
        go_ret
        exact⟨by first|rfl|(simp[ZA,Zz] <;> rfl)|(simp[*,ZA,Zz] <;> rfl),by repeat(first|(with_reducible first|exact HB.out|apply Zn|apply Zm|apply Zo|refine Zq ?_ GE57001.out)|exact HB.out)⟩
      ·rw[if_neg c18] at H
       have c18b0:decide (x22_2<(l0_1.length:Int))=false:=Zf c18
       clear c18
       obtain rfl:=Zg H
       go_wp2
       go_ret
       exact⟨by first|rfl|(simp[ZA,Zz] <;> rfl)|(simp[*,ZA,Zz] <;> rfl),by repeat(first|(with_reducible first|exact HB.out|apply Zn|apply Zm|apply Zo|refine Zq ?_ GE57001.out)|exact HB.out)⟩
mutual
def ZO.j0:Nat→List Int→Bool→List (S39)→List (S82)→Int→List Int→List Int→Option (Bool)
 | 0,_,_,_,_,_,_,_=>none
 | k+1,x5,x26,x94002000,x94002001,x94002002,x94003000,x94003001=>if x26=true then(some false) else(ZO.l0 k x5 (x5.length:Int) 0 x94002000 x94002001 x94002002 x94003000 x94003001)
def ZO.l0:Nat→List Int→Int→Int→List (S39)→List (S82)→Int→List Int→List Int→Option (Bool)
 | 0,_,_,_,_,_,_,_,_=>none
 | k+1,x27,x28,x29,x94002000,x94002001,x94002002,x94003000,x94003001=>if x29<x28 then(if 0≤x29 then(if x29<(x27.length:Int) then(if x29<(x94003000.length:Int) then(if 0≤(rd x27 x29) then(if (rd x27 x29)<(x94002001.length:Int) then((ZY.f (rd x94003000 x29) ((Zu x94002001 (rd x27 x29)).f2) ((Zu x94002001 (rd x27 x29)).f3)).bind fun t94011=>(if t94011=true then(ZO.l0 k x27 x28 (wrap64 (x29+1)) x94002000 x94002001 x94002002 x94003000 x94003001) else(some false))) else(none)) else(none)) else(none)) else(none)) else(none)) else(ZO.l1 k x94003001 (x94003001.length:Int) 0 x94002000 x94002001 x94002002)
def ZO.l1:Nat→List Int→Int→Int→List (S39)→List (S82)→Int→Option (Bool)
 | 0,_,_,_,_,_,_=>none
 | k+1,x55,x56,x57,x94002000,x94002001,x94002002=>if x57<x56 then(if 0≤x57 then(if x57<(x55.length:Int) then(if (rd x55 x57)=1 then(if (rd x55 x57)=(-1) then((Z5.f k x94002000 x94002001 x94002002 (wrap64 (x57+1))).bind fun t94013=>(if t94013<0 then(some false) else(ZO.l1 k x55 x56 (wrap64 (x57+1)) x94002000 x94002001 x94002002))) else(ZO.l1 k x55 x56 (wrap64 (x57+1)) x94002000 x94002001 x94002002)) else(if (rd x55 x57)=(-1) then((Z5.f k x94002000 x94002001 x94002002 (wrap64 (x57+1))).bind fun t94014=>(if t94014<0 then(some false) else(ZO.l1 k x55 x56 (wrap64 (x57+1)) x94002000 x94002001 x94002002))) else(some false))) else(none)) else(none)) else(some true)
end
def ZO.f (k:Nat) (l0_0:List (S39)) (l0_1:List (S82)) (a0_2:Int) (l1_0:List Int) (l1_1:List Int):Option (Bool):=(Z9.f k l0_0 l0_1 a0_2).bind fun t94003=>(if t94003=true then((Zad.f k l0_0 l0_1 a0_2).bind fun t94004=>(if (l1_0.length:Int)=(t94004.length:Int) then(ZO.j0 k t94004 ((l1_1.length:Int) != 3) l0_0 l0_1 a0_2 l1_0 l1_1) else(ZO.j0 k t94004 true l0_0 l0_1 a0_2 l1_0 l1_1))) else(some false))
set_option maxHeartbeats 8000000 in
set_option maxRecDepth 100000 in
theorem ZO.calls (k:Nat) (A0_0:Option Addr) (c0_0:Nat) (l0_0:List (S39)) (A0_1:Option Addr) (c0_1:Nat) (l0_1:List (S82)) (a0_2:Int) (A1_0:Option Addr) (c1_0:Nat) (l1_0:List Int) (A1_1:Option Addr) (c1_1:Nat) (l1_1:List Int) (r:Bool) (w:World) (hr0_0:Kd.C k39 w A0_0 l0_0.length l0_0) (hc0_0:l0_0.length≤c0_0) (hr0_1:Kd.C k82 w A0_1 l0_1.length l0_1) (hc0_1:l0_1.length≤c0_1) (hr1_0:Kd.C (Kd.int .i64) w A1_0 l1_0.length l1_0) (hc1_0:l1_0.length≤c1_0) (hr1_1:Kd.C (Kd.int .i64) w A1_1 l1_1.length l1_1) (hc1_1:l1_1.length≤c1_1) (h:ZO.f k l0_0 l0_1 a0_2 l1_0 l1_1=some r) :
  Calls Tryz.prog 94 #[.agg #[.slice A0_0 l0_0.length c0_0,.slice A0_1 l0_1.length c0_1,.int .i64 a0_2],.agg #[.slice A1_0 l1_0.length c1_0,.slice A1_1 l1_1.length c1_1]] w fun e w'=>e=.returned (.bool r)∧Below w.heap.size w w':=by
 have hu25:=Tryz.underlying25
 have hu58:=Tryz.underlying58
 have HR0_0:=Za hr0_0;have HC0_0:=Za hc0_0;clear hr0_0 hc0_0;have HR0_1:=Za hr0_1;have HC0_1:=Za hc0_1;clear hr0_1 hc0_1;have HR1_0:=Za hr1_0;have HC1_0:=Za hc1_0;clear hr1_0 hc1_0;have HR1_1:=Za hr1_1;have HC1_1:=Za hc1_1;clear hr1_1 hc1_1
 have HB:=Za (Below.refl w.heap.size w)
 have H:((Z9.f k l0_0 l0_1 a0_2).bind fun t94003=>(if t94003=true then((Zad.f k l0_0 l0_1 a0_2).bind fun t94004=>(if (l1_0.length:Int)=(t94004.length:Int) then(ZO.j0 k t94004 ((l1_1.length:Int) != 3) l0_0 l0_1 a0_2 l1_0 l1_1) else(ZO.j0 k t94004 true l0_0 l0_1 a0_2 l1_0 l1_1))) else(some false)))=some r:=h
 clear h
 replace H:=Zh H
 obtain⟨t94003,A30,H⟩:=H;have A3:=Za A30;clear A30
 by_cases c4:t94003=true
 ·subst c4
  rw[if_pos rfl] at H
  replace H:=Zh H
  obtain⟨t94004,A50,H⟩:=H;have A5:=Za A50;clear A50;have HC6:=Za H;clear H
  go_enter Tryz.func94,Tryz.ntmps94
  go_upto_region 4 with (first|((with_reducible refine ZI (N:=2) rfl ?_);refine ZG ?hg (N:=2) ?hd (cs:=#[.slice A0_0 l0_0.length c0_0,.slice A0_1 l0_1.length c0_1,.int .i64 a0_2]) (t:=25) ?hr ?_;(case hd=>rfl);(case hg=>rfl);(case hr=>first|(go_simp;done)|(go_simp;rfl));intro gb94001 hg w7 hbox hb;have BK94001:=Za (hbox);have GW94001:=Za ((by rw[hg];exact(ZC (by repeat(first|(with_reducible first|exact HB.out|apply Zn|apply Zm|apply Zo)|exact HB.out))):w.heap.size≤gb94001));have GE94001:=Za ((by rw[hg];exact(ZC (by repeat(first|(with_reducible first|exact HB.out|apply Zn|apply Zm|apply Zo)|exact HB.out))):w.heap.size≤gb94001));replace HB:=Za (Zt (by repeat(first|(with_reducible first|exact HB.out|apply Zn|apply Zm|apply Zo)|exact HB.out)) hb);clear hb hbox hg)|((with_reducible refine ZI (N:=3) rfl ?_);refine ZG ?hg (N:=3) ?hd (cs:=#[.slice A1_0 l1_0.length c1_0,.slice A1_1 l1_1.length c1_1]) (t:=58) ?hr ?_;(case hd=>rfl);(case hg=>rfl);(case hr=>first|(go_simp;done)|(go_simp;rfl));intro gb94002 hg w8 hbox hb;have n0_:=Za (Zx (g:=gb94001) (o:=.cells #[.slice A0_0 l0_0.length c0_0,.slice A0_1 l0_1.length c0_1,.int .i64 a0_2] 25 (0,0)) BK94001.out hb);have n1_:=Za (Zt (by repeat(first|(with_reducible first|exact HB.out|apply Zn|apply Zm|apply Zo|refine Zq ?_ GE94001.out)|exact HB.out)) hb);have n2_:=Za (hbox);have n3_:=Za ((by rw[hg];exact(ZC (by repeat(first|(with_reducible first|exact HB.out|apply Zn|apply Zm|apply Zo|refine Zq ?_ GE94001.out)|exact HB.out))):w.heap.size≤gb94002));have n4_:=n3_;have n5_:=Za ((by rw[hg];exact Nat.ne_of_lt (ZW (g:=gb94001) (o:=.cells #[.slice A0_0 l0_0.length c0_0,.slice A0_1 l0_1.length c0_1,.int .i64 a0_2] 25 (0,0)) BK94001.out):gb94001≠gb94002));have n6_:=Za n5_.out.symm;clear BK94001;clear HB;have BK94001:=n0_;have HB:=n1_;have BK94002:=n2_;have GW94002:=n3_;have GE94002:=n4_;have NB94001_94002:=n5_;have NB94002_94001:=n6_;clear n0_ n1_ n2_ n3_ n4_ n5_ n6_;clear hb hbox hg;have hcz10_0:w8.cell? ⟨gb94001,0,none⟩=some (.slice A0_0 l0_0.length c0_0):=(Zp BK94001.out 0).trans rfl;have hcz10_1:w8.cell? ⟨gb94001,1,none⟩=some (.slice A0_1 l0_1.length c0_1):=(Zp BK94001.out 1).trans rfl;have hcz10_2:w8.cell? ⟨gb94001,2,none⟩=some (.int .i64 a0_2):=(Zp BK94001.out 2).trans rfl)|(go_at_call 57;(with_reducible refine(Z9.calls k _ _ l0_0 _ _ l0_1 a0_2 true _ ?side1 ?side2 ?side3 ?side4 A3.out).mono ?_);(case side1=>repeat(first|exact(Zb HR0_0.out HB.out)|(with_reducible refine Kd.C_alloc ?_ _)|(with_reducible refine Kd.C_drewN ?_ _)|(with_reducible refine Kd.C_drew ?_)));(case side2=>exact HC0_0.out);(case side3=>repeat(first|exact(Zb HR0_1.out HB.out)|(with_reducible refine Kd.C_alloc ?_ _)|(with_reducible refine Kd.C_drewN ?_ _)|(with_reducible refine Kd.C_drew ?_)));(case side4=>exact HC0_1.out);rintro e w11 ⟨rfl,hb⟩;replace BK94001:=Za (Zx (g:=gb94001) (o:=.cells #[.slice A0_0 l0_0.length c0_0,.slice A0_1 l0_1.length c0_1,.int .i64 a0_2] 25 (0,0)) BK94001.out hb);replace BK94002:=Za (Zx (g:=gb94002) (o:=.cells #[.slice A1_0 l1_0.length c1_0,.slice A1_1 l1_1.length c1_1] 58 (0,0)) BK94002.out hb);replace HB:=Za (Zt (by repeat(first|(with_reducible first|exact HB.out|apply Zn|apply Zm|apply Zo|refine Zq ?_ GE94001.out|refine Zq ?_ GE94002.out)|exact HB.out)) hb);have hcz12_0:w11.cell? ⟨gb94001,0,none⟩=some (.slice A0_0 l0_0.length c0_0):=(Zp BK94001.out 0).trans rfl;have hcz12_1:w11.cell? ⟨gb94001,1,none⟩=some (.slice A0_1 l0_1.length c0_1):=(Zp BK94001.out 1).trans rfl;have hcz12_2:w11.cell? ⟨gb94001,2,none⟩=some (.int .i64 a0_2):=(Zp BK94001.out 2).trans rfl)|(go_at_call 156;(with_reducible refine(Zad.calls k _ _ l0_0 _ _ l0_1 a0_2 t94004 _ ?side1 ?side2 ?side3 ?side4 A5.out).mono ?_);(case side1=>repeat(first|exact(Zb HR0_0.out HB.out)|(with_reducible refine Kd.C_alloc ?_ _)|(with_reducible refine Kd.C_drewN ?_ _)|(with_reducible refine Kd.C_drew ?_)));(case side2=>exact HC0_0.out);(case side3=>repeat(first|exact(Zb HR0_1.out HB.out)|(with_reducible refine Kd.C_alloc ?_ _)|(with_reducible refine Kd.C_drewN ?_ _)|(with_reducible refine Kd.C_drew ?_)));(case side4=>exact HC0_1.out);rintro e w13 ⟨v94005,rfl,ho0,hb⟩;have HO94006:=Za (Kd.R_lower ho0 (ZC (by repeat(first|(with_reducible first|exact HB.out|apply Zn|apply Zm|apply Zo|refine Zq ?_ GE94001.out|refine Zq ?_ GE94002.out)|exact HB.out))));replace BK94001:=Za (Zx (g:=gb94001) (o:=.cells #[.slice A0_0 l0_0.length c0_0,.slice A0_1 l0_1.length c0_1,.int .i64 a0_2] 25 (0,0)) BK94001.out hb);replace BK94002:=Za (Zx (g:=gb94002) (o:=.cells #[.slice A1_0 l1_0.length c1_0,.slice A1_1 l1_1.length c1_1] 58 (0,0)) BK94002.out hb);replace HB:=Za (Zt (by repeat(first|(with_reducible first|exact HB.out|apply Zn|apply Zm|apply Zo|refine Zq ?_ GE94001.out|refine Zq ?_ GE94002.out)|exact HB.out)) hb);(try clear ho0)))
  repeat(go_quiet (first|((with_reducible refine ZI (N:=2) rfl ?_);refine ZG ?hg (N:=2) ?hd (cs:=#[.slice A0_0 l0_0.length c0_0,.slice A0_1 l0_1.length c0_1,.int .i64 a0_2]) (t:=25) ?hr ?_;(case hd=>rfl);(case hg=>rfl);(case hr=>first|(go_simp;done)|(go_simp;rfl));intro gb94001 hg w7 hbox hb;have BK94001:=Za (hbox);have GW94001:=Za ((by rw[hg];exact(ZC (by repeat(first|(with_reducible first|exact HB.out|apply Zn|apply Zm|apply Zo)|exact HB.out))):w.heap.size≤gb94001));have GE94001:=Za ((by rw[hg];exact(ZC (by repeat(first|(with_reducible first|exact HB.out|apply Zn|apply Zm|apply Zo)|exact HB.out))):w.heap.size≤gb94001));replace HB:=Za (Zt (by repeat(first|(with_reducible first|exact HB.out|apply Zn|apply Zm|apply Zo)|exact HB.out)) hb);clear hb hbox hg)|((with_reducible refine ZI (N:=3) rfl ?_);refine ZG ?hg (N:=3) ?hd (cs:=#[.slice A1_0 l1_0.length c1_0,.slice A1_1 l1_1.length c1_1]) (t:=58) ?hr ?_;(case hd=>rfl);(case hg=>rfl);(case hr=>first|(go_simp;done)|(go_simp;rfl));intro gb94002 hg w8 hbox hb;have n0_:=Za (Zx (g:=gb94001) (o:=.cells #[.slice A0_0 l0_0.length c0_0,.slice A0_1 l0_1.length c0_1,.int .i64 a0_2] 25 (0,0)) BK94001.out hb);have n1_:=Za (Zt (by repeat(first|(with_reducible first|exact HB.out|apply Zn|apply Zm|apply Zo|refine Zq ?_ GE94001.out)|exact HB.out)) hb);have n2_:=Za (hbox);have n3_:=Za ((by rw[hg];exact(ZC (by repeat(first|(with_reducible first|exact HB.out|apply Zn|apply Zm|apply Zo|refine Zq ?_ GE94001.out)|exact HB.out))):w.heap.size≤gb94002));have n4_:=n3_;have n5_:=Za ((by rw[hg];exact Nat.ne_of_lt (ZW (g:=gb94001) (o:=.cells #[.slice A0_0 l0_0.length c0_0,.slice A0_1 l0_1.length c0_1,.int .i64 a0_2] 25 (0,0)) BK94001.out):gb94001≠gb94002));have n6_:=Za n5_.out.symm;clear BK94001;clear HB;have BK94001:=n0_;have HB:=n1_;have BK94002:=n2_;have GW94002:=n3_;have GE94002:=n4_;have NB94001_94002:=n5_;have NB94002_94001:=n6_;clear n0_ n1_ n2_ n3_ n4_ n5_ n6_;clear hb hbox hg;have hcz10_0:w8.cell? ⟨gb94001,0,none⟩=some (.slice A0_0 l0_0.length c0_0):=(Zp BK94001.out 0).trans rfl;have hcz10_1:w8.cell? ⟨gb94001,1,none⟩=some (.slice A0_1 l0_1.length c0_1):=(Zp BK94001.out 1).trans rfl;have hcz10_2:w8.cell? ⟨gb94001,2,none⟩=some (.int .i64 a0_2):=(Zp BK94001.out 2).trans rfl)|(go_at_call 57;(with_reducible refine(Z9.calls k _ _ l0_0 _ _ l0_1 a0_2 true _ ?side1 ?side2 ?side3 ?side4 A3.out).mono ?_);(case side1=>repeat(first|exact(Zb HR0_0.out HB.out)|(with_reducible refine Kd.C_alloc ?_ _)|(with_reducible refine Kd.C_drewN ?_ _)|(with_reducible refine Kd.C_drew ?_)));(case side2=>exact HC0_0.out);(case side3=>repeat(first|exact(Zb HR0_1.out HB.out)|(with_reducible refine Kd.C_alloc ?_ _)|(with_reducible refine Kd.C_drewN ?_ _)|(with_reducible refine Kd.C_drew ?_)));(case side4=>exact HC0_1.out);rintro e w11 ⟨rfl,hb⟩;replace BK94001:=Za (Zx (g:=gb94001) (o:=.cells #[.slice A0_0 l0_0.length c0_0,.slice A0_1 l0_1.length c0_1,.int .i64 a0_2] 25 (0,0)) BK94001.out hb);replace BK94002:=Za (Zx (g:=gb94002) (o:=.cells #[.slice A1_0 l1_0.length c1_0,.slice A1_1 l1_1.length c1_1] 58 (0,0)) BK94002.out hb);replace HB:=Za (Zt (by repeat(first|(with_reducible first|exact HB.out|apply Zn|apply Zm|apply Zo|refine Zq ?_ GE94001.out|refine Zq ?_ GE94002.out)|exact HB.out)) hb);have hcz12_0:w11.cell? ⟨gb94001,0,none⟩=some (.slice A0_0 l0_0.length c0_0):=(Zp BK94001.out 0).trans rfl;have hcz12_1:w11.cell? ⟨gb94001,1,none⟩=some (.slice A0_1 l0_1.length c0_1):=(Zp BK94001.out 1).trans rfl;have hcz12_2:w11.cell? ⟨gb94001,2,none⟩=some (.int .i64 a0_2):=(Zp BK94001.out 2).trans rfl)|(go_at_call 156;(with_reducible refine(Zad.calls k _ _ l0_0 _ _ l0_1 a0_2 t94004 _ ?side1 ?side2 ?side3 ?side4 A5.out).mono ?_);(case side1=>repeat(first|exact(Zb HR0_0.out HB.out)|(with_reducible refine Kd.C_alloc ?_ _)|(with_reducible refine Kd.C_drewN ?_ _)|(with_reducible refine Kd.C_drew ?_)));(case side2=>exact HC0_0.out);(case side3=>repeat(first|exact(Zb HR0_1.out HB.out)|(with_reducible refine Kd.C_alloc ?_ _)|(with_reducible refine Kd.C_drewN ?_ _)|(with_reducible refine Kd.C_drew ?_)));(case side4=>exact HC0_1.out);rintro e w13 ⟨v94005,rfl,ho0,hb⟩;have HO94006:=Za (Kd.R_lower ho0 (ZC (by repeat(first|(with_reducible first|exact HB.out|apply Zn|apply Zm|apply Zo|refine Zq ?_ GE94001.out|refine Zq ?_ GE94002.out)|exact HB.out))));replace BK94001:=Za (Zx (g:=gb94001) (o:=.cells #[.slice A0_0 l0_0.length c0_0,.slice A0_1 l0_1.length c0_1,.int .i64 a0_2] 25 (0,0)) BK94001.out hb);replace BK94002:=Za (Zx (g:=gb94002) (o:=.cells #[.slice A1_0 l1_0.length c1_0,.slice A1_1 l1_1.length c1_1] 58 (0,0)) BK94002.out hb);replace HB:=Za (Zt (by repeat(first|(with_reducible first|exact HB.out|apply Zn|apply Zm|apply Zo|refine Zq ?_ GE94001.out|refine Zq ?_ GE94002.out)|exact HB.out)) hb);(try clear ho0)));go_upto_region 4 with (first|((with_reducible refine ZI (N:=2) rfl ?_);refine ZG ?hg (N:=2) ?hd (cs:=#[.slice A0_0 l0_0.length c0_0,.slice A0_1 l0_1.length c0_1,.int .i64 a0_2]) (t:=25) ?hr ?_;(case hd=>rfl);(case hg=>rfl);(case hr=>first|(go_simp;done)|(go_simp;rfl));intro gb94001 hg w7 hbox hb;have BK94001:=Za (hbox);have GW94001:=Za ((by rw[hg];exact(ZC (by repeat(first|(with_reducible first|exact HB.out|apply Zn|apply Zm|apply Zo)|exact HB.out))):w.heap.size≤gb94001));have GE94001:=Za ((by rw[hg];exact(ZC (by repeat(first|(with_reducible first|exact HB.out|apply Zn|apply Zm|apply Zo)|exact HB.out))):w.heap.size≤gb94001));replace HB:=Za (Zt (by repeat(first|(with_reducible first|exact HB.out|apply Zn|apply Zm|apply Zo)|exact HB.out)) hb);clear hb hbox hg)|((with_reducible refine ZI (N:=3) rfl ?_);refine ZG ?hg (N:=3) ?hd (cs:=#[.slice A1_0 l1_0.length c1_0,.slice A1_1 l1_1.length c1_1]) (t:=58) ?hr ?_;(case hd=>rfl);(case hg=>rfl);(case hr=>first|(go_simp;done)|(go_simp;rfl));intro gb94002 hg w8 hbox hb;have n0_:=Za (Zx (g:=gb94001) (o:=.cells #[.slice A0_0 l0_0.length c0_0,.slice A0_1 l0_1.length c0_1,.int .i64 a0_2] 25 (0,0)) BK94001.out hb);have n1_:=Za (Zt (by repeat(first|(with_reducible first|exact HB.out|apply Zn|apply Zm|apply Zo|refine Zq ?_ GE94001.out)|exact HB.out)) hb);have n2_:=Za (hbox);have n3_:=Za ((by rw[hg];exact(ZC (by repeat(first|(with_reducible first|exact HB.out|apply Zn|apply Zm|apply Zo|refine Zq ?_ GE94001.out)|exact HB.out))):w.heap.size≤gb94002));have n4_:=n3_;have n5_:=Za ((by rw[hg];exact Nat.ne_of_lt (ZW (g:=gb94001) (o:=.cells #[.slice A0_0 l0_0.length c0_0,.slice A0_1 l0_1.length c0_1,.int .i64 a0_2] 25 (0,0)) BK94001.out):gb94001≠gb94002));have n6_:=Za n5_.out.symm;clear BK94001;clear HB;have BK94001:=n0_;have HB:=n1_;have BK94002:=n2_;have GW94002:=n3_;have GE94002:=n4_;have NB94001_94002:=n5_;have NB94002_94001:=n6_;clear n0_ n1_ n2_ n3_ n4_ n5_ n6_;clear hb hbox hg;have hcz10_0:w8.cell? ⟨gb94001,0,none⟩=some (.slice A0_0 l0_0.length c0_0):=(Zp BK94001.out 0).trans rfl;have hcz10_1:w8.cell? ⟨gb94001,1,none⟩=some (.slice A0_1 l0_1.length c0_1):=(Zp BK94001.out 1).trans rfl;have hcz10_2:w8.cell? ⟨gb94001,2,none⟩=some (.int .i64 a0_2):=(Zp BK94001.out 2).trans rfl)|(go_at_call 57;(with_reducible refine(Z9.calls k _ _ l0_0 _ _ l0_1 a0_2 true _ ?side1 ?side2 ?side3 ?side4 A3.out).mono ?_);(case side1=>repeat(first|exact(Zb HR0_0.out HB.out)|(with_reducible refine Kd.C_alloc ?_ _)|(with_reducible refine Kd.C_drewN ?_ _)|(with_reducible refine Kd.C_drew ?_)));(case side2=>exact HC0_0.out);(case side3=>repeat(first|exact(Zb HR0_1.out HB.out)|(with_reducible refine Kd.C_alloc ?_ _)|(with_reducible refine Kd.C_drewN ?_ _)|(with_reducible refine Kd.C_drew ?_)));(case side4=>exact HC0_1.out);rintro e w11 ⟨rfl,hb⟩;replace BK94001:=Za (Zx (g:=gb94001) (o:=.cells #[.slice A0_0 l0_0.length c0_0,.slice A0_1 l0_1.length c0_1,.int .i64 a0_2] 25 (0,0)) BK94001.out hb);replace BK94002:=Za (Zx (g:=gb94002) (o:=.cells #[.slice A1_0 l1_0.length c1_0,.slice A1_1 l1_1.length c1_1] 58 (0,0)) BK94002.out hb);replace HB:=Za (Zt (by repeat(first|(with_reducible first|exact HB.out|apply Zn|apply Zm|apply Zo|refine Zq ?_ GE94001.out|refine Zq ?_ GE94002.out)|exact HB.out)) hb);have hcz12_0:w11.cell? ⟨gb94001,0,none⟩=some (.slice A0_0 l0_0.length c0_0):=(Zp BK94001.out 0).trans rfl;have hcz12_1:w11.cell? ⟨gb94001,1,none⟩=some (.slice A0_1 l0_1.length c0_1):=(Zp BK94001.out 1).trans rfl;have hcz12_2:w11.cell? ⟨gb94001,2,none⟩=some (.int .i64 a0_2):=(Zp BK94001.out 2).trans rfl)|(go_at_call 156;(with_reducible refine(Zad.calls k _ _ l0_0 _ _ l0_1 a0_2 t94004 _ ?side1 ?side2 ?side3 ?side4 A5.out).mono ?_);(case side1=>repeat(first|exact(Zb HR0_0.out HB.out)|(with_reducible refine Kd.C_alloc ?_ _)|(with_reducible refine Kd.C_drewN ?_ _)|(with_reducible refine Kd.C_drew ?_)));(case side2=>exact HC0_0.out);(case side3=>repeat(first|exact(Zb HR0_1.out HB.out)|(with_reducible refine Kd.C_alloc ?_ _)|(with_reducible refine Kd.C_drewN ?_ _)|(with_reducible refine Kd.C_drew ?_)));(case side4=>exact HC0_1.out);rintro e w13 ⟨v94005,rfl,ho0,hb⟩;have HO94006:=Za (Kd.R_lower ho0 (ZC (by repeat(first|(with_reducible first|exact HB.out|apply Zn|apply Zm|apply Zo|refine Zq ?_ GE94001.out|refine Zq ?_ GE94002.out)|exact HB.out))));replace BK94001:=Za (Zx (g:=gb94001) (o:=.cells #[.slice A0_0 l0_0.length c0_0,.slice A0_1 l0_1.length c0_1,.int .i64 a0_2] 25 (0,0)) BK94001.out hb);replace BK94002:=Za (Zx (g:=gb94002) (o:=.cells #[.slice A1_0 l1_0.length c1_0,.slice A1_1 l1_1.length c1_1] 58 (0,0)) BK94002.out hb);replace HB:=Za (Zt (by repeat(first|(with_reducible first|exact HB.out|apply Zn|apply Zm|apply Zo|refine Zq ?_ GE94001.out|refine Zq ?_ GE94002.out)|exact HB.out)) hb);(try clear ho0))))
  (try simp only[Act.put,List.setIfInBounds_toArray,List.set_cons_zero,List.set_cons_succ])
  go_cut [26] (fun v26 wc=>∃(kq:Nat) (x26_5:Bool),v26=.bool x26_5∧Aside0 (ZO.j0 kq t94004 x26_5 l0_0 l0_1 a0_2 l1_0 l1_1=some r)∧Aside0 (kq≤k)∧Aside0 (Kd.R (Kd.int .i64) 3 wc w.heap.size (fun _=>True) v94005 t94004)∧Aside0 (wc.heap[gb94001]? = some (.cells #[(.slice A0_0 l0_0.length c0_0),(.slice A0_1 l0_1.length c0_1),.int .i64 a0_2] 25 (0,0)))∧Aside0 (wc.heap[gb94002]? = some (.cells #[(.slice A1_0 l1_0.length c1_0),(.slice A1_1 l1_1.length c1_1)] 58 (0,0)))∧Aside0 (Below w.heap.size w wc))
  case first=>
   have H:=HC6.out
   clear HC6
   by_cases c14:(l1_0.length:Int)=(t94004.length:Int)
   ·rw[if_pos c14] at H
    have c14b0:((l1_0.length:Int) == (t94004.length:Int))=true:=beq_iff_eq.mpr c14
    have c14b1:((l1_0.length:Int) != (t94004.length:Int))=false:=bne_eq_false_iff_eq.mpr c14
    clear c14
    have H':=Za H
    clear H
    have hcz16_0:w13.cell? ⟨gb94002,0,none⟩=some (.slice A1_0 l1_0.length c1_0):=(Zp BK94002.out 0).trans rfl
    have hcz16_1:w13.cell? ⟨gb94002,1,none⟩=some (.slice A1_1 l1_1.length c1_1):=(Zp BK94002.out 1).trans rfl
    obtain⟨Ao17,co17,eo17⟩:=Kd.R_slice HO94006.out
    subst eo17
    go_wp2
    repeat(go_quiet (fail);try go_wp2)
    go_meet
    case rel=>exact⟨_,(((l1_1.length:Int) != 3)),(by first|rfl|(simp;done)|(simp[*];done)),H',⟨by first|omega|exact Nat.le_refl _⟩,⟨by(with_reducible repeat(first|apply Kd.R_alloc|apply Kd.R_drewN|apply Kd.R_drew));exact HO94006.out⟩,⟨by(with_reducible repeat(first|refine Zw ?_ _|refine ZB ?_|refine Zv ?_ _));exact BK94001.out⟩,⟨by(with_reducible repeat(first|refine Zw ?_ _|refine ZB ?_|refine Zv ?_ _));exact BK94002.out⟩,⟨by repeat(first|(with_reducible first|exact HB.out|apply Zn|apply Zm|apply Zo|refine Zq ?_ GE94001.out|refine Zq ?_ GE94002.out)|exact HB.out)⟩⟩
   ·rw[if_neg c14] at H
    have c14b0:((l1_0.length:Int) == (t94004.length:Int))=false:=beq_eq_false_iff_ne.mpr c14
    have c14b1:((l1_0.length:Int) != (t94004.length:Int))=true:=bne_iff_ne.mpr c14
    have H':=Za H
    clear H
    have hcz19_0:w13.cell? ⟨gb94002,0,none⟩=some (.slice A1_0 l1_0.length c1_0):=(Zp BK94002.out 0).trans rfl
    have hcz19_1:w13.cell? ⟨gb94002,1,none⟩=some (.slice A1_1 l1_1.length c1_1):=(Zp BK94002.out 1).trans rfl
    obtain⟨Ao20,co20,eo20⟩:=Kd.R_slice HO94006.out
    subst eo20
    go_wp2
    repeat(go_quiet (fail);try go_wp2)
    go_meet
    case rel=>exact⟨_,(true),(by first|rfl|(simp;done)|(simp[*];done)),H',⟨by first|omega|exact Nat.le_refl _⟩,⟨by(with_reducible repeat(first|apply Kd.R_alloc|apply Kd.R_drewN|apply Kd.R_drew));exact HO94006.out⟩,⟨by(with_reducible repeat(first|refine Zw ?_ _|refine ZB ?_|refine Zv ?_ _));exact BK94001.out⟩,⟨by(with_reducible repeat(first|refine Zw ?_ _|refine ZB ?_|refine Zv ?_ _));exact BK94002.out⟩,⟨by repeat(first|(with_reducible first|exact HB.out|apply Zn|apply Zm|apply Zo|refine Zq ?_ GE94001.out|refine Zq ?_ GE94002.out)|exact HB.out)⟩⟩
  case rest=>
   clear HC6
   try clear c1
   try clear p2
   try clear c4
   try clear c9
   try clear c14
   try clear c14b0
   try clear c14b1
   try clear c14b2
   try clear c15
   try clear c18
   obtain⟨kq,x26_5,rfl,HA,HJ5,HO_5,BK94001,BK94002,HB⟩:=hcut
   cases kq with
   | zero=>exact absurd HA.out (by simp[ZO.j0])
   | succ kj5=>
    have H:=HA.out
    clear HA
    simp only[ZO.j0] at H
    by_cases c21:x26_5=true
    ·subst c21
     rw[if_pos rfl] at H
     obtain rfl:=Zg H
     go_wp2
     repeat(go_quiet (fail);try go_wp2)
     go_ret
     exact⟨by first|rfl|(simp[ZA,Zz] <;> rfl)|(simp[*,ZA,Zz] <;> rfl),by repeat(first|(with_reducible first|exact HB.out|apply Zn|apply Zm|apply Zo|refine Zq ?_ GE94001.out|refine Zq ?_ GE94002.out)|exact HB.out)⟩
    ·replace c21:=Bool.eq_false_iff.mpr c21
     subst c21
     have H1:(ZO.l0 kj5 t94004 (t94004.length:Int) 0 l0_0 l0_1 a0_2 l1_0 l1_1)=some r:=by rw[if_neg (show ¬(false=true) by decide)] at H;exact H
     clear H
     have H:=H1
     clear H1
     have H':=Za H
     clear H
     obtain⟨Ao22,co22,eo22⟩:=Kd.R_slice HO_5.out
     subst eo22
     go_wp2
     repeat(go_quiet (fail);try go_wp2)
     go_loopg [29] kj5 (fun kq v29 w'=>∃(x29_2:Int),v29=.int .i64 x29_2∧Aside0 (ZO.l0 kq t94004 (t94004.length:Int) x29_2 l0_0 l0_1 a0_2 l1_0 l1_1=some r)∧Aside0 (kq≤kj5)∧Aside0 (Kd.R (Kd.int .i64) 3 w' w.heap.size (fun _=>True) (.slice Ao22 t94004.length co22) t94004)∧Aside0 (w'.heap[gb94001]? = some (.cells #[(.slice A0_0 l0_0.length c0_0),(.slice A0_1 l0_1.length c0_1),.int .i64 a0_2] 25 (0,0)))∧Aside0 (w'.heap[gb94002]? = some (.cells #[(.slice A1_0 l1_0.length c1_0),(.slice A1_1 l1_1.length c1_1)] 58 (0,0)))∧Aside0 (Below w.heap.size w w'))
     case atStart=>exact⟨(0),(by first|rfl|(simp;done)|(simp[*];done)),H',⟨Nat.le_refl _⟩,⟨by(with_reducible repeat(first|apply Kd.R_alloc|apply Kd.R_drewN|apply Kd.R_drew));exact HO_5.out⟩,⟨by(with_reducible repeat(first|refine Zw ?_ _|refine ZB ?_|refine Zv ?_ _));exact BK94001.out⟩,⟨by(with_reducible repeat(first|refine Zw ?_ _|refine ZB ?_|refine Zv ?_ _));exact BK94002.out⟩,⟨by repeat(first|(with_reducible first|exact HB.out|apply Zn|apply Zm|apply Zo|refine Zq ?_ GE94001.out|refine Zq ?_ GE94002.out)|exact HB.out)⟩⟩
     case round=>
      clear H'
      try clear c1
      try clear c2
      try clear p2
      try clear c4
      try clear c9
      try clear c14
      try clear c14b0
      try clear c14b1
      try clear c14b2
      try clear c15
      try clear c18
      try clear c21
      try clear p2
      obtain⟨x29_2,rfl,HA,HK2,HO_27,BK94001,BK94002,HB⟩:=hrel
      cases gk with
      | zero=>exact absurd HA.out (by simp[ZO.l0])
      | succ k2=>
       have H:=HA.out
       clear HA
       simp only[ZO.l0] at H
       by_cases c23:x29_2<(t94004.length:Int)
       ·rw[if_pos c23] at H
        have c23b0:decide (x29_2<(t94004.length:Int))=true:=Ze c23
        clear c23
        by_cases c24:0≤x29_2
        ·rw[if_pos c24] at H
         have c24b0:decide (0≤x29_2)=true:=Ze c24
         clear c24
         by_cases c25:x29_2<(t94004.length:Int)
         ·rw[if_pos c25] at H
          have c25b0:decide (x29_2<(t94004.length:Int))=true:=Ze c25
          clear c25
          by_cases c26:x29_2<(l1_0.length:Int)
          ·rw[if_pos c26] at H
           have c26b0:decide (x29_2<(l1_0.length:Int))=true:=Ze c26
           clear c26
           by_cases c27:0≤(rd t94004 x29_2)
           ·rw[if_pos c27] at H
            have c27b0:decide (0≤(rd t94004 x29_2))=true:=Ze c27
            clear c27
            by_cases c28:(rd t94004 x29_2)<(l0_1.length:Int)
            ·rw[if_pos c28] at H
             have c28b0:decide ((rd t94004 x29_2)<(l0_1.length:Int))=true:=Ze c28
             clear c28
             replace H:=Zh H
             obtain⟨t94011,A290,H⟩:=H;have A29:=Za A290;clear A290
             by_cases c30:t94011=true
             ·subst c30
              rw[if_pos rfl] at H
              have H':=Za H
              clear H
              have p94007:0≤(x29_2:Int):=Zd (by first|(with_reducible assumption)|assumption)
              have q94007:x29_2<(t94004.length:Int):=Zd (by first|(with_reducible assumption)|assumption)
              obtain⟨ad94007,e94007,hx94007_0⟩:=Kd.at_int (Kd.R_reads' HO_27.out).2.2 x29_2 p94007 q94007
              cases e94007
              replace p94007:=eq_true p94007
              replace q94007:=eq_true q94007
              have hcz32_0:wr.cell? ⟨gb94002,0,none⟩=some (.slice A1_0 l1_0.length c1_0):=(Zp BK94002.out 0).trans rfl
              have hcz32_1:wr.cell? ⟨gb94002,1,none⟩=some (.slice A1_1 l1_1.length c1_1):=(Zp BK94002.out 1).trans rfl
              have p94008:0≤(x29_2:Int):=Zd (by first|(with_reducible assumption)|assumption)
              have q94008:x29_2<(l1_0.length:Int):=Zd (by first|(with_reducible assumption)|assumption)
              obtain⟨ad94008,e94008,hx94008_0⟩:=Kd.at_int HR1_0.out x29_2 p94008 q94008
              cases e94008
              replace hx94008_0:=(HB.out.cell (Zc w _ hx94008_0)).trans hx94008_0
              replace p94008:=eq_true p94008
              replace q94008:=eq_true q94008
              have hcz33_0:wr.cell? ⟨gb94001,0,none⟩=some (.slice A0_0 l0_0.length c0_0):=(Zp BK94001.out 0).trans rfl
              have hcz33_1:wr.cell? ⟨gb94001,1,none⟩=some (.slice A0_1 l0_1.length c0_1):=(Zp BK94001.out 1).trans rfl
              have hcz33_2:wr.cell? ⟨gb94001,2,none⟩=some (.int .i64 a0_2):=(Zp BK94001.out 2).trans rfl
              have p94009:0≤((rd t94004 x29_2):Int):=Zd (by first|(with_reducible assumption)|assumption)
              have q94009:(rd t94004 x29_2)<(l0_1.length:Int):=Zd (by first|(with_reducible assumption)|assumption)
              obtain⟨ad94009,e94009,hx94009_0,hx94009_1,hx94009_2,hx94009_3,hx94009_4⟩:=Zbp HR0_1.out (rd t94004 x29_2) p94009 q94009
              cases e94009
              replace hx94009_0:=(HB.out.cell (Zc w _ hx94009_0)).trans hx94009_0
              replace hx94009_1:=(HB.out.cell (Zc w _ hx94009_1)).trans hx94009_1
              replace hx94009_2:=(HB.out.cell (Zc w _ hx94009_2)).trans hx94009_2
              replace hx94009_3:=(HB.out.cell (Zc w _ hx94009_3)).trans hx94009_3
              replace hx94009_4:=(HB.out.cell (Zc w _ hx94009_4)).trans hx94009_4
              replace p94009:=eq_true p94009
              replace q94009:=eq_true q94009
              have p94010:0≤((rd t94004 x29_2):Int):=Zd (by first|(with_reducible assumption)|assumption)
              have q94010:(rd t94004 x29_2)<(l0_1.length:Int):=Zd (by first|(with_reducible assumption)|assumption)
              obtain⟨ad94010,e94010,hx94010_0,hx94010_1,hx94010_2,hx94010_3,hx94010_4⟩:=Zbp HR0_1.out (rd t94004 x29_2) p94010 q94010
              obtain rfl:ad94009=ad94010:=(by injection e94010)
              replace hx94010_0:=(HB.out.cell (Zc w _ hx94010_0)).trans hx94010_0
              replace hx94010_1:=(HB.out.cell (Zc w _ hx94010_1)).trans hx94010_1
              replace hx94010_2:=(HB.out.cell (Zc w _ hx94010_2)).trans hx94010_2
              replace hx94010_3:=(HB.out.cell (Zc w _ hx94010_3)).trans hx94010_3
              replace hx94010_4:=(HB.out.cell (Zc w _ hx94010_4)).trans hx94010_4
              replace p94010:=eq_true p94010
              replace q94010:=eq_true q94010
              go_wp2_with (first|fail)
              repeat(go_quiet (first|(go_at_call 127;(with_reducible refine(ZY.calls (rd l1_0 x29_2) ((Zu l0_1 (rd t94004 x29_2)).f2) ((Zu l0_1 (rd t94004 x29_2)).f3) true _ A29.out).mono ?_);rintro e w' ⟨rfl,⟨nd,rfl⟩⟩;(try first|exact⟨rfl,_,World.drewN_drewN _ _ _⟩|exact⟨rfl,_,Eq.trans (World.drewN_drewN _ _ _) (congrArg (World.drewN _) (Nat.add_assoc _ _ _))⟩)));try go_wp2_with (first|fail))
              go_roundg k2
              case measure=>have:=HJ5.out;have:=HK2.out;omega
              case rel=>exact⟨(wrap64 (x29_2+1)),(by first|rfl|(simp;done)|(simp[*];done)),H',⟨by have:=HJ5.out;have:=HK2.out;omega⟩,⟨by(with_reducible repeat(first|apply Kd.R_alloc|apply Kd.R_drewN|apply Kd.R_drew));exact HO_27.out⟩,⟨by(with_reducible repeat(first|refine Zw ?_ _|refine ZB ?_|refine Zv ?_ _));exact BK94001.out⟩,⟨by(with_reducible repeat(first|refine Zw ?_ _|refine ZB ?_|refine Zv ?_ _));exact BK94002.out⟩,⟨by repeat(first|(with_reducible first|exact HB.out|apply Zn|apply Zm|apply Zo|refine Zq ?_ GE94001.out|refine Zq ?_ GE94002.out)|exact HB.out)⟩⟩
             ·replace c30:=Bool.eq_false_iff.mpr c30
              subst c30
              have H1:(some false)=some r:=by rw[if_neg (show ¬(false=true) by decide)] at H;exact H
              clear H
              have H:=H1
              clear H1
              obtain rfl:=Zg H
              have p94007:0≤(x29_2:Int):=Zd (by first|(with_reducible assumption)|assumption)
              have q94007:x29_2<(t94004.length:Int):=Zd (by first|(with_reducible assumption)|assumption)
              obtain⟨ad94007,e94007,hx94007_0⟩:=Kd.at_int (Kd.R_reads' HO_27.out).2.2 x29_2 p94007 q94007
              cases e94007
              replace p94007:=eq_true p94007
              replace q94007:=eq_true q94007
              have hcz35_0:wr.cell? ⟨gb94002,0,none⟩=some (.slice A1_0 l1_0.length c1_0):=(Zp BK94002.out 0).trans rfl
              have hcz35_1:wr.cell? ⟨gb94002,1,none⟩=some (.slice A1_1 l1_1.length c1_1):=(Zp BK94002.out 1).trans rfl
              have p94008:0≤(x29_2:Int):=Zd (by first|(with_reducible assumption)|assumption)
              have q94008:x29_2<(l1_0.length:Int):=Zd (by first|(with_reducible assumption)|assumption)
              obtain⟨ad94008,e94008,hx94008_0⟩:=Kd.at_int HR1_0.out x29_2 p94008 q94008
              cases e94008
              replace hx94008_0:=(HB.out.cell (Zc w _ hx94008_0)).trans hx94008_0
              replace p94008:=eq_true p94008
              replace q94008:=eq_true q94008
              have hcz36_0:wr.cell? ⟨gb94001,0,none⟩=some (.slice A0_0 l0_0.length c0_0):=(Zp BK94001.out 0).trans rfl
              have hcz36_1:wr.cell? ⟨gb94001,1,none⟩=some (.slice A0_1 l0_1.length c0_1):=(Zp BK94001.out 1).trans rfl
              have hcz36_2:wr.cell? ⟨gb94001,2,none⟩=some (.int .i64 a0_2):=(Zp BK94001.out 2).trans rfl
              have p94009:0≤((rd t94004 x29_2):Int):=Zd (by first|(with_reducible assumption)|assumption)
              have q94009:(rd t94004 x29_2)<(l0_1.length:Int):=Zd (by first|(with_reducible assumption)|assumption)
              obtain⟨ad94009,e94009,hx94009_0,hx94009_1,hx94009_2,hx94009_3,hx94009_4⟩:=Zbp HR0_1.out (rd t94004 x29_2) p94009 q94009
              cases e94009
              replace hx94009_0:=(HB.out.cell (Zc w _ hx94009_0)).trans hx94009_0
              replace hx94009_1:=(HB.out.cell (Zc w _ hx94009_1)).trans hx94009_1
              replace hx94009_2:=(HB.out.cell (Zc w _ hx94009_2)).trans hx94009_2
              replace hx94009_3:=(HB.out.cell (Zc w _ hx94009_3)).trans hx94009_3
              replace hx94009_4:=(HB.out.cell (Zc w _ hx94009_4)).trans hx94009_4
              replace p94009:=eq_true p94009
              replace q94009:=eq_true q94009
              have p94010:0≤((rd t94004 x29_2):Int):=Zd (by first|(with_reducible assumption)|assumption)
              have q94010:(rd t94004 x29_2)<(l0_1.length:Int):=Zd (by first|(with_reducible assumption)|assumption)
              obtain⟨ad94010,e94010,hx94010_0,hx94010_1,hx94010_2,hx94010_3,hx94010_4⟩:=Zbp HR0_1.out (rd t94004 x29_2) p94010 q94010
              obtain rfl:ad94009=ad94010:=(by injection e94010)
              replace hx94010_0:=(HB.out.cell (Zc w _ hx94010_0)).trans hx94010_0
              replace hx94010_1:=(HB.out.cell (Zc w _ hx94010_1)).trans hx94010_1
              replace hx94010_2:=(HB.out.cell (Zc w _ hx94010_2)).trans hx94010_2
              replace hx94010_3:=(HB.out.cell (Zc w _ hx94010_3)).trans hx94010_3
              replace hx94010_4:=(HB.out.cell (Zc w _ hx94010_4)).trans hx94010_4
              replace p94010:=eq_true p94010
              replace q94010:=eq_true q94010
              go_wp2_with (first|fail)
              repeat(go_quiet (first|(go_at_call 127;(with_reducible refine(ZY.calls (rd l1_0 x29_2) ((Zu l0_1 (rd t94004 x29_2)).f2) ((Zu l0_1 (rd t94004 x29_2)).f3) false _ A29.out).mono ?_);rintro e w' ⟨rfl,⟨nd,rfl⟩⟩;(try first|exact⟨rfl,_,World.drewN_drewN _ _ _⟩|exact⟨rfl,_,Eq.trans (World.drewN_drewN _ _ _) (congrArg (World.drewN _) (Nat.add_assoc _ _ _))⟩)));try go_wp2_with (first|fail))
              go_ret
              exact⟨by first|rfl|(simp[ZA,Zz] <;> rfl)|(simp[*,ZA,Zz] <;> rfl),by repeat(first|(with_reducible first|exact HB.out|apply Zn|apply Zm|apply Zo|refine Zq ?_ GE94001.out|refine Zq ?_ GE94002.out)|exact HB.out)⟩
            ·rw[if_neg c28] at H
             exact absurd H (by simp)
           ·rw[if_neg c27] at H
            exact absurd H (by simp)
          ·rw[if_neg c26] at H
           exact absurd H (by simp)
         ·rw[if_neg c25] at H
          exact absurd H (by simp)
        ·rw[if_neg c24] at H
         exact absurd H (by simp)
       ·rw[if_neg c23] at H
        have c23b0:decide (x29_2<(t94004.length:Int))=false:=Zf c23
        clear c23
        have H':=Za H
        clear H
        have hcz38_0:wr.cell? ⟨gb94002,0,none⟩=some (.slice A1_0 l1_0.length c1_0):=(Zp BK94002.out 0).trans rfl
        have hcz38_1:wr.cell? ⟨gb94002,1,none⟩=some (.slice A1_1 l1_1.length c1_1):=(Zp BK94002.out 1).trans rfl
        go_wp2
        repeat(go_quiet (fail);try go_wp2)
        go_loopg [57] k2 (fun kq v57 w'=>∃(x57_3:Int),v57=.int .i64 x57_3∧Aside0 (ZO.l1 kq l1_1 (l1_1.length:Int) x57_3 l0_0 l0_1 a0_2=some r)∧Aside0 (kq≤k2)∧Aside0 (w'.heap[gb94001]? = some (.cells #[(.slice A0_0 l0_0.length c0_0),(.slice A0_1 l0_1.length c0_1),.int .i64 a0_2] 25 (0,0)))∧Aside0 (w'.heap[gb94002]? = some (.cells #[(.slice A1_0 l1_0.length c1_0),(.slice A1_1 l1_1.length c1_1)] 58 (0,0)))∧Aside0 (Below w.heap.size w w'))
        case atStart=>exact⟨(0),(by first|rfl|(simp;done)|(simp[*];done)),H',⟨Nat.le_refl _⟩,⟨by(with_reducible repeat(first|refine Zw ?_ _|refine ZB ?_|refine Zv ?_ _));exact BK94001.out⟩,⟨by(with_reducible repeat(first|refine Zw ?_ _|refine ZB ?_|refine Zv ?_ _));exact BK94002.out⟩,⟨by repeat(first|(with_reducible first|exact HB.out|apply Zn|apply Zm|apply Zo|refine Zq ?_ GE94001.out|refine Zq ?_ GE94002.out)|exact HB.out)⟩⟩
        case round=>
         clear H'
         try clear c1
         try clear c2
         try clear p2
         try clear c3
         try clear c4
         try clear p6
         try clear c9
         try clear p9
         try clear q9
         try clear c14
         try clear c14b0
         try clear c14b1
         try clear c14b2
         try clear c15
         try clear c18
         try clear c21
         try clear c23
         try clear c23b0
         try clear c24
         try clear c24b0
         try clear c25
         try clear c25b0
         try clear c26
         try clear c26b0
         try clear c27
         try clear c27b0
         try clear c28
         try clear c28b0
         try clear c30
         try clear c31
         try clear c34
         try clear c37
         try clear p2
         try clear p94007
         try clear p94008
         try clear p94009
         try clear p94010
         try clear q94007
         try clear q94008
         try clear q94009
         try clear q94010
         obtain⟨x57_3,rfl,HA,HK3,BK94001,BK94002,HB⟩:=hrel
         cases gk with
         | zero=>exact absurd HA.out (by simp[ZO.l1])
         | succ k3=>
          have H:=HA.out
          clear HA
          simp only[ZO.l1] at H
          by_cases c39:x57_3<(l1_1.length:Int)
          ·rw[if_pos c39] at H
           have c39b0:decide (x57_3<(l1_1.length:Int))=true:=Ze c39
           clear c39
           by_cases c40:0≤x57_3
           ·rw[if_pos c40] at H
            have c40b0:decide (0≤x57_3)=true:=Ze c40
            clear c40
            by_cases c41:x57_3<(l1_1.length:Int)
            ·rw[if_pos c41] at H
             have c41b0:decide (x57_3<(l1_1.length:Int))=true:=Ze c41
             clear c41
             by_cases c42:(rd l1_1 x57_3)=1
             ·rw[if_pos c42] at H
              have c42b0:((rd l1_1 x57_3) == 1)=true:=beq_iff_eq.mpr c42
              have c42b1:((rd l1_1 x57_3) != 1)=false:=bne_eq_false_iff_eq.mpr c42
              clear c42
              by_cases c43:(rd l1_1 x57_3)=(-1)
              ·rw[if_pos c43] at H
               have c43b0:((rd l1_1 x57_3) == (-1))=true:=beq_iff_eq.mpr c43
               have c43b1:((rd l1_1 x57_3) != (-1))=false:=bne_eq_false_iff_eq.mpr c43
               clear c43
               replace H:=Zh H
               obtain⟨t94013,A440,H⟩:=H;have A44:=Za A440;clear A440
               by_cases c45:t94013<0
               ·rw[if_pos c45] at H
                have c45b0:decide (t94013<0)=true:=Ze c45
                clear c45
                obtain rfl:=Zg H
                have p94012:0≤(x57_3:Int):=Zd (by first|(with_reducible assumption)|assumption)
                have q94012:x57_3<(l1_1.length:Int):=Zd (by first|(with_reducible assumption)|assumption)
                obtain⟨ad94012,e94012,hx94012_0⟩:=Kd.at_int HR1_1.out x57_3 p94012 q94012
                cases e94012
                replace hx94012_0:=(HB.out.cell (Zc w _ hx94012_0)).trans hx94012_0
                replace p94012:=eq_true p94012
                replace q94012:=eq_true q94012
                have hcz47_0:wr.cell? ⟨gb94001,0,none⟩=some (.slice A0_0 l0_0.length c0_0):=(Zp BK94001.out 0).trans rfl
                have hcz47_1:wr.cell? ⟨gb94001,1,none⟩=some (.slice A0_1 l0_1.length c0_1):=(Zp BK94001.out 1).trans rfl
                have hcz47_2:wr.cell? ⟨gb94001,2,none⟩=some (.int .i64 a0_2):=(Zp BK94001.out 2).trans rfl
                go_wp2_with (first|(go_at_call 97;(with_reducible refine(Z5.calls k3 _ _ l0_0 _ _ l0_1 a0_2 (wrap64 (x57_3+1)) t94013 _ ?side1 ?side2 ?side3 ?side4 A44.out).mono ?_);(case side1=>repeat(first|exact(Zb HR0_0.out HB.out)|(with_reducible refine Kd.C_alloc ?_ _)|(with_reducible refine Kd.C_drewN ?_ _)|(with_reducible refine Kd.C_drew ?_)));(case side2=>exact HC0_0.out);(case side3=>repeat(first|exact(Zb HR0_1.out HB.out)|(with_reducible refine Kd.C_alloc ?_ _)|(with_reducible refine Kd.C_drewN ?_ _)|(with_reducible refine Kd.C_drew ?_)));(case side4=>exact HC0_1.out);rintro e w48 ⟨rfl,hb⟩;replace BK94001:=Za (Zx (g:=gb94001) (o:=.cells #[.slice A0_0 l0_0.length c0_0,.slice A0_1 l0_1.length c0_1,.int .i64 a0_2] 25 (0,0)) BK94001.out hb);replace BK94002:=Za (Zx (g:=gb94002) (o:=.cells #[.slice A1_0 l1_0.length c1_0,.slice (some ad94012) l1_1.length c1_1] 58 (0,0)) BK94002.out hb);replace HB:=Za (Zt (by repeat(first|(with_reducible first|exact HB.out|apply Zn|apply Zm|apply Zo|refine Zq ?_ GE94001.out|refine Zq ?_ GE94002.out)|exact HB.out)) hb);(try clear hi)))
                go_ret
                exact⟨by first|rfl|(simp[ZA,Zz] <;> rfl)|(simp[*,ZA,Zz] <;> rfl),by repeat(first|(with_reducible first|exact HB.out|apply Zn|apply Zm|apply Zo|refine Zq ?_ GE94001.out|refine Zq ?_ GE94002.out)|exact HB.out)⟩
               ·rw[if_neg c45] at H
                have c45b0:decide (t94013<0)=false:=Zf c45
                clear c45
                have H':=Za H
                clear H
                have p94012:0≤(x57_3:Int):=Zd (by first|(with_reducible assumption)|assumption)
                have q94012:x57_3<(l1_1.length:Int):=Zd (by first|(with_reducible assumption)|assumption)
                obtain⟨ad94012,e94012,hx94012_0⟩:=Kd.at_int HR1_1.out x57_3 p94012 q94012
                cases e94012
                replace hx94012_0:=(HB.out.cell (Zc w _ hx94012_0)).trans hx94012_0
                replace p94012:=eq_true p94012
                replace q94012:=eq_true q94012
                have hcz50_0:wr.cell? ⟨gb94001,0,none⟩=some (.slice A0_0 l0_0.length c0_0):=(Zp BK94001.out 0).trans rfl
                have hcz50_1:wr.cell? ⟨gb94001,1,none⟩=some (.slice A0_1 l0_1.length c0_1):=(Zp BK94001.out 1).trans rfl
                have hcz50_2:wr.cell? ⟨gb94001,2,none⟩=some (.int .i64 a0_2):=(Zp BK94001.out 2).trans rfl
                go_wp2_with (first|(go_at_call 97;(with_reducible refine(Z5.calls k3 _ _ l0_0 _ _ l0_1 a0_2 (wrap64 (x57_3+1)) t94013 _ ?side1 ?side2 ?side3 ?side4 A44.out).mono ?_);(case side1=>repeat(first|exact(Zb HR0_0.out HB.out)|(with_reducible refine Kd.C_alloc ?_ _)|(with_reducible refine Kd.C_drewN ?_ _)|(with_reducible refine Kd.C_drew ?_)));(case side2=>exact HC0_0.out);(case side3=>repeat(first|exact(Zb HR0_1.out HB.out)|(with_reducible refine Kd.C_alloc ?_ _)|(with_reducible refine Kd.C_drewN ?_ _)|(with_reducible refine Kd.C_drew ?_)));(case side4=>exact HC0_1.out);rintro e w51 ⟨rfl,hb⟩;replace BK94001:=Za (Zx (g:=gb94001) (o:=.cells #[.slice A0_0 l0_0.length c0_0,.slice A0_1 l0_1.length c0_1,.int .i64 a0_2] 25 (0,0)) BK94001.out hb);replace BK94002:=Za (Zx (g:=gb94002) (o:=.cells #[.slice A1_0 l1_0.length c1_0,.slice (some ad94012) l1_1.length c1_1] 58 (0,0)) BK94002.out hb);replace HB:=Za (Zt (by repeat(first|(with_reducible first|exact HB.out|apply Zn|apply Zm|apply Zo|refine Zq ?_ GE94001.out|refine Zq ?_ GE94002.out)|exact HB.out)) hb);(try clear hi)))
                go_roundg k3
                case measure=>have:=HJ5.out;have:=HK2.out;have:=HK3.out;omega
                case rel=>exact⟨(wrap64 (x57_3+1)),(by first|rfl|(simp;done)|(simp[*];done)),H',⟨by have:=HJ5.out;have:=HK2.out;have:=HK3.out;omega⟩,⟨by(with_reducible repeat(first|refine Zw ?_ _|refine ZB ?_|refine Zv ?_ _));exact BK94001.out⟩,⟨by(with_reducible repeat(first|refine Zw ?_ _|refine ZB ?_|refine Zv ?_ _));exact BK94002.out⟩,⟨by repeat(first|(with_reducible first|exact HB.out|apply Zn|apply Zm|apply Zo|refine Zq ?_ GE94001.out|refine Zq ?_ GE94002.out)|exact HB.out)⟩⟩
              ·rw[if_neg c43] at H
               have c43b0:((rd l1_1 x57_3) == (-1))=false:=beq_eq_false_iff_ne.mpr c43
               have c43b1:((rd l1_1 x57_3) != (-1))=true:=bne_iff_ne.mpr c43
               have H':=Za H
               clear H
               have p94012:0≤(x57_3:Int):=Zd (by first|(with_reducible assumption)|assumption)
               have q94012:x57_3<(l1_1.length:Int):=Zd (by first|(with_reducible assumption)|assumption)
               obtain⟨ad94012,e94012,hx94012_0⟩:=Kd.at_int HR1_1.out x57_3 p94012 q94012
               cases e94012
               replace hx94012_0:=(HB.out.cell (Zc w _ hx94012_0)).trans hx94012_0
               replace p94012:=eq_true p94012
               replace q94012:=eq_true q94012
               go_wp2
               repeat(go_quiet (fail);try go_wp2)
               go_roundg k3
               case measure=>have:=HJ5.out;have:=HK2.out;have:=HK3.out;omega
               case rel=>exact⟨(wrap64 (x57_3+1)),(by first|rfl|(simp;done)|(simp[*];done)),H',⟨by have:=HJ5.out;have:=HK2.out;have:=HK3.out;omega⟩,⟨by(with_reducible repeat(first|refine Zw ?_ _|refine ZB ?_|refine Zv ?_ _));exact BK94001.out⟩,⟨by(with_reducible repeat(first|refine Zw ?_ _|refine ZB ?_|refine Zv ?_ _));exact BK94002.out⟩,⟨by repeat(first|(with_reducible first|exact HB.out|apply Zn|apply Zm|apply Zo|refine Zq ?_ GE94001.out|refine Zq ?_ GE94002.out)|exact HB.out)⟩⟩
             ·rw[if_neg c42] at H
              have c42b0:((rd l1_1 x57_3) == 1)=false:=beq_eq_false_iff_ne.mpr c42
              have c42b1:((rd l1_1 x57_3) != 1)=true:=bne_iff_ne.mpr c42
              by_cases c52:(rd l1_1 x57_3)=(-1)
              ·rw[if_pos c52] at H
               have c52b0:((rd l1_1 x57_3) == (-1))=true:=beq_iff_eq.mpr c52
               have c52b1:((rd l1_1 x57_3) != (-1))=false:=bne_eq_false_iff_eq.mpr c52
               clear c52
               replace H:=Zh H
               obtain⟨t94014,A530,H⟩:=H;have A53:=Za A530;clear A530
               by_cases c54:t94014<0
               ·rw[if_pos c54] at H
                have c54b0:decide (t94014<0)=true:=Ze c54
                clear c54
                obtain rfl:=Zg H
                have p94012:0≤(x57_3:Int):=Zd (by first|(with_reducible assumption)|assumption)
                have q94012:x57_3<(l1_1.length:Int):=Zd (by first|(with_reducible assumption)|assumption)
                obtain⟨ad94012,e94012,hx94012_0⟩:=Kd.at_int HR1_1.out x57_3 p94012 q94012
                cases e94012
                replace hx94012_0:=(HB.out.cell (Zc w _ hx94012_0)).trans hx94012_0
                replace p94012:=eq_true p94012
                replace q94012:=eq_true q94012
                have hcz56_0:wr.cell? ⟨gb94001,0,none⟩=some (.slice A0_0 l0_0.length c0_0):=(Zp BK94001.out 0).trans rfl
                have hcz56_1:wr.cell? ⟨gb94001,1,none⟩=some (.slice A0_1 l0_1.length c0_1):=(Zp BK94001.out 1).trans rfl
                have hcz56_2:wr.cell? ⟨gb94001,2,none⟩=some (.int .i64 a0_2):=(Zp BK94001.out 2).trans rfl
                go_wp2_with (first|(go_at_call 97;(with_reducible refine(Z5.calls k3 _ _ l0_0 _ _ l0_1 a0_2 (wrap64 (x57_3+1)) t94014 _ ?side1 ?side2 ?side3 ?side4 A53.out).mono ?_);(case side1=>repeat(first|exact(Zb HR0_0.out HB.out)|(with_reducible refine Kd.C_alloc ?_ _)|(with_reducible refine Kd.C_drewN ?_ _)|(with_reducible refine Kd.C_drew ?_)));(case side2=>exact HC0_0.out);(case side3=>repeat(first|exact(Zb HR0_1.out HB.out)|(with_reducible refine Kd.C_alloc ?_ _)|(with_reducible refine Kd.C_drewN ?_ _)|(with_reducible refine Kd.C_drew ?_)));(case side4=>exact HC0_1.out);rintro e w57 ⟨rfl,hb⟩;replace BK94001:=Za (Zx (g:=gb94001) (o:=.cells #[.slice A0_0 l0_0.length c0_0,.slice A0_1 l0_1.length c0_1,.int .i64 a0_2] 25 (0,0)) BK94001.out hb);replace BK94002:=Za (Zx (g:=gb94002) (o:=.cells #[.slice A1_0 l1_0.length c1_0,.slice (some ad94012) l1_1.length c1_1] 58 (0,0)) BK94002.out hb);replace HB:=Za (Zt (by repeat(first|(with_reducible first|exact HB.out|apply Zn|apply Zm|apply Zo|refine Zq ?_ GE94001.out|refine Zq ?_ GE94002.out)|exact HB.out)) hb);(try clear hi)))
                go_ret
                exact⟨by first|rfl|(simp[ZA,Zz] <;> rfl)|(simp[*,ZA,Zz] <;> rfl),by repeat(first|(with_reducible first|exact HB.out|apply Zn|apply Zm|apply Zo|refine Zq ?_ GE94001.out|refine Zq ?_ GE94002.out)|exact HB.out)⟩
               ·rw[if_neg c54] at H
                have c54b0:decide (t94014<0)=false:=Zf c54
                clear c54
                have H':=Za H
                clear H
                have p94012:0≤(x57_3:Int):=Zd (by first|(with_reducible assumption)|assumption)
                have q94012:x57_3<(l1_1.length:Int):=Zd (by first|(with_reducible assumption)|assumption)
                obtain⟨ad94012,e94012,hx94012_0⟩:=Kd.at_int HR1_1.out x57_3 p94012 q94012
                cases e94012
                replace hx94012_0:=(HB.out.cell (Zc w _ hx94012_0)).trans hx94012_0
                replace p94012:=eq_true p94012
                replace q94012:=eq_true q94012
                have hcz59_0:wr.cell? ⟨gb94001,0,none⟩=some (.slice A0_0 l0_0.length c0_0):=(Zp BK94001.out 0).trans rfl
                have hcz59_1:wr.cell? ⟨gb94001,1,none⟩=some (.slice A0_1 l0_1.length c0_1):=(Zp BK94001.out 1).trans rfl
                have hcz59_2:wr.cell? ⟨gb94001,2,none⟩=some (.int .i64 a0_2):=(Zp BK94001.out 2).trans rfl
                go_wp2_with (first|(go_at_call 97;(with_reducible refine(Z5.calls k3 _ _ l0_0 _ _ l0_1 a0_2 (wrap64 (x57_3+1)) t94014 _ ?side1 ?side2 ?side3 ?side4 A53.out).mono ?_);(case side1=>repeat(first|exact(Zb HR0_0.out HB.out)|(with_reducible refine Kd.C_alloc ?_ _)|(with_reducible refine Kd.C_drewN ?_ _)|(with_reducible refine Kd.C_drew ?_)));(case side2=>exact HC0_0.out);(case side3=>repeat(first|exact(Zb HR0_1.out HB.out)|(with_reducible refine Kd.C_alloc ?_ _)|(with_reducible refine Kd.C_drewN ?_ _)|(with_reducible refine Kd.C_drew ?_)));(case side4=>exact HC0_1.out);rintro e w60 ⟨rfl,hb⟩;replace BK94001:=Za (Zx (g:=gb94001) (o:=.cells #[.slice A0_0 l0_0.length c0_0,.slice A0_1 l0_1.length c0_1,.int .i64 a0_2] 25 (0,0)) BK94001.out hb);replace BK94002:=Za (Zx (g:=gb94002) (o:=.cells #[.slice A1_0 l1_0.length c1_0,.slice (some ad94012) l1_1.length c1_1] 58 (0,0)) BK94002.out hb);replace HB:=Za (Zt (by repeat(first|(with_reducible first|exact HB.out|apply Zn|apply Zm|apply Zo|refine Zq ?_ GE94001.out|refine Zq ?_ GE94002.out)|exact HB.out)) hb);(try clear hi)))
                go_roundg k3
                case measure=>have:=HJ5.out;have:=HK2.out;have:=HK3.out;omega
                case rel=>exact⟨(wrap64 (x57_3+1)),(by first|rfl|(simp;done)|(simp[*];done)),H',⟨by have:=HJ5.out;have:=HK2.out;have:=HK3.out;omega⟩,⟨by(with_reducible repeat(first|refine Zw ?_ _|refine ZB ?_|refine Zv ?_ _));exact BK94001.out⟩,⟨by(with_reducible repeat(first|refine Zw ?_ _|refine ZB ?_|refine Zv ?_ _));exact BK94002.out⟩,⟨by repeat(first|(with_reducible first|exact HB.out|apply Zn|apply Zm|apply Zo|refine Zq ?_ GE94001.out|refine Zq ?_ GE94002.out)|exact HB.out)⟩⟩
              ·rw[if_neg c52] at H
               have c52b0:((rd l1_1 x57_3) == (-1))=false:=beq_eq_false_iff_ne.mpr c52
               have c52b1:((rd l1_1 x57_3) != (-1))=true:=bne_iff_ne.mpr c52
               obtain rfl:=Zg H
               have p94012:0≤(x57_3:Int):=Zd (by first|(with_reducible assumption)|assumption)
               have q94012:x57_3<(l1_1.length:Int):=Zd (by first|(with_reducible assumption)|assumption)
               obtain⟨ad94012,e94012,hx94012_0⟩:=Kd.at_int HR1_1.out x57_3 p94012 q94012
               cases e94012
               replace hx94012_0:=(HB.out.cell (Zc w _ hx94012_0)).trans hx94012_0
               replace p94012:=eq_true p94012
               replace q94012:=eq_true q94012
               go_wp2
               repeat(go_quiet (fail);try go_wp2)
               go_ret
               exact⟨by first|rfl|(simp[ZA,Zz] <;> rfl)|(simp[*,ZA,Zz] <;> rfl),by repeat(first|(with_reducible first|exact HB.out|apply Zn|apply Zm|apply Zo|refine Zq ?_ GE94001.out|refine Zq ?_ GE94002.out)|exact HB.out)⟩
            ·rw[if_neg c41] at H
             exact absurd H (by simp)
           ·rw[if_neg c40] at H
            exact absurd H (by simp)
          ·rw[if_neg c39] at H
           have c39b0:decide (x57_3<(l1_1.length:Int))=false:=Zf c39
           clear c39
           obtain rfl:=Zg H
           go_wp2
           repeat(go_quiet (fail);try go_wp2)
           go_ret
           exact⟨by first|rfl|(simp[ZA,Zz] <;> rfl)|(simp[*,ZA,Zz] <;> rfl),by repeat(first|(with_reducible first|exact HB.out|apply Zn|apply Zm|apply Zo|refine Zq ?_ GE94001.out|refine Zq ?_ GE94002.out)|exact HB.out)⟩
 ·replace c4:=Bool.eq_false_iff.mpr c4
  subst c4
  have H1:(some false)=some r:=by rw[if_neg (show ¬(false=true) by decide)] at H;exact H
  clear H
  have H:=H1
  clear H1
  obtain rfl:=Zg H
  go_enter Tryz.func94,Tryz.ntmps94
  go_wp2_with (first|((with_reducible refine ZI (N:=2) rfl ?_);refine ZG ?hg (N:=2) ?hd (cs:=#[.slice A0_0 l0_0.length c0_0,.slice A0_1 l0_1.length c0_1,.int .i64 a0_2]) (t:=25) ?hr ?_;(case hd=>rfl);(case hg=>rfl);(case hr=>first|(go_simp;done)|(go_simp;rfl));intro gb94001 hg w61 hbox hb;have BK94001:=Za (hbox);have GW94001:=Za ((by rw[hg];exact(ZC (by repeat(first|(with_reducible first|exact HB.out|apply Zn|apply Zm|apply Zo)|exact HB.out))):w.heap.size≤gb94001));have GE94001:=Za ((by rw[hg];exact(ZC (by repeat(first|(with_reducible first|exact HB.out|apply Zn|apply Zm|apply Zo)|exact HB.out))):w.heap.size≤gb94001));replace HB:=Za (Zt (by repeat(first|(with_reducible first|exact HB.out|apply Zn|apply Zm|apply Zo)|exact HB.out)) hb);clear hb hbox hg)|((with_reducible refine ZI (N:=3) rfl ?_);refine ZG ?hg (N:=3) ?hd (cs:=#[.slice A1_0 l1_0.length c1_0,.slice A1_1 l1_1.length c1_1]) (t:=58) ?hr ?_;(case hd=>rfl);(case hg=>rfl);(case hr=>first|(go_simp;done)|(go_simp;rfl));intro gb94002 hg w62 hbox hb;have n0_:=Za (Zx (g:=gb94001) (o:=.cells #[.slice A0_0 l0_0.length c0_0,.slice A0_1 l0_1.length c0_1,.int .i64 a0_2] 25 (0,0)) BK94001.out hb);have n1_:=Za (Zt (by repeat(first|(with_reducible first|exact HB.out|apply Zn|apply Zm|apply Zo|refine Zq ?_ GE94001.out)|exact HB.out)) hb);have n2_:=Za (hbox);have n3_:=Za ((by rw[hg];exact(ZC (by repeat(first|(with_reducible first|exact HB.out|apply Zn|apply Zm|apply Zo|refine Zq ?_ GE94001.out)|exact HB.out))):w.heap.size≤gb94002));have n4_:=n3_;have n5_:=Za ((by rw[hg];exact Nat.ne_of_lt (ZW (g:=gb94001) (o:=.cells #[.slice A0_0 l0_0.length c0_0,.slice A0_1 l0_1.length c0_1,.int .i64 a0_2] 25 (0,0)) BK94001.out):gb94001≠gb94002));have n6_:=Za n5_.out.symm;clear BK94001;clear HB;have BK94001:=n0_;have HB:=n1_;have BK94002:=n2_;have GW94002:=n3_;have GE94002:=n4_;have NB94001_94002:=n5_;have NB94002_94001:=n6_;clear n0_ n1_ n2_ n3_ n4_ n5_ n6_;clear hb hbox hg;have hcz64_0:w62.cell? ⟨gb94001,0,none⟩=some (.slice A0_0 l0_0.length c0_0):=(Zp BK94001.out 0).trans rfl;have hcz64_1:w62.cell? ⟨gb94001,1,none⟩=some (.slice A0_1 l0_1.length c0_1):=(Zp BK94001.out 1).trans rfl;have hcz64_2:w62.cell? ⟨gb94001,2,none⟩=some (.int .i64 a0_2):=(Zp BK94001.out 2).trans rfl)|(go_at_call 57;(with_reducible refine(Z9.calls k _ _ l0_0 _ _ l0_1 a0_2 false _ ?side1 ?side2 ?side3 ?side4 A3.out).mono ?_);(case side1=>repeat(first|exact(Zb HR0_0.out HB.out)|(with_reducible refine Kd.C_alloc ?_ _)|(with_reducible refine Kd.C_drewN ?_ _)|(with_reducible refine Kd.C_drew ?_)));(case side2=>exact HC0_0.out);(case side3=>repeat(first|exact(Zb HR0_1.out HB.out)|(with_reducible refine Kd.C_alloc ?_ _)|(with_reducible refine Kd.C_drewN ?_ _)|(with_reducible refine Kd.C_drew ?_)));(case side4=>exact HC0_1.out);rintro e w65 ⟨rfl,hb⟩;replace BK94001:=Za (Zx (g:=gb94001) (o:=.cells #[.slice A0_0 l0_0.length c0_0,.slice A0_1 l0_1.length c0_1,.int .i64 a0_2] 25 (0,0)) BK94001.out hb);replace BK94002:=Za (Zx (g:=gb94002) (o:=.cells #[.slice A1_0 l1_0.length c1_0,.slice A1_1 l1_1.length c1_1] 58 (0,0)) BK94002.out hb);replace HB:=Za (Zt (by repeat(first|(with_reducible first|exact HB.out|apply Zn|apply Zm|apply Zo|refine Zq ?_ GE94001.out|refine Zq ?_ GE94002.out)|exact HB.out)) hb);(try clear hi)))
  go_ret
  exact⟨by first|rfl|(simp[ZA,Zz] <;> rfl)|(simp[*,ZA,Zz] <;> rfl),by repeat(first|(with_reducible first|exact HB.out|apply Zn|apply Zm|apply Zo|refine Zq ?_ GE94001.out|refine Zq ?_ GE94002.out)|exact HB.out)⟩
def Zah.l0:Nat→List Int→Int→List Int→Int→Int→Option (Int)
 | 0,_,_,_,_,_=>none
 | k+1,x1,x5,x9,x10,x11=>if x11<x10 then(if 0≤x11 then(if x11<(x9.length:Int) then((ZaD.f (rd x9 x11)).bind fun t95002=>(if 0≤(wrap64 (t95002 - 1)) then(if (wrap64 (t95002 - 1))<(x1.length:Int) then(if (rd x9 x11)<0 then(Zah.l0 k x1 (mn x5 (wrap64 (-(rd x1 (wrap64 (t95002 - 1)))))) x9 x10 (wrap64 (x11+1))) else(Zah.l0 k x1 (mn x5 (rd x1 (wrap64 (t95002 - 1)))) x9 x10 (wrap64 (x11+1)))) else(none)) else(none))) else(none)) else(none)) else(some x5)
def Zah.f (k:Nat) (l0:List Int) (l1:List Int):Option (Int):=Zah.l0 k l1 1 l0 (l0.length:Int) 0
set_option maxHeartbeats 8000000 in
set_option maxRecDepth 100000 in
theorem Zah.calls (k:Nat) (A0:Option Addr) (c0:Nat) (l0:List Int) (A1:Option Addr) (c1:Nat) (l1:List Int) (r:Int) (w:World) (hr0:Kd.C (Kd.int .i64) w A0 l0.length l0) (hc0:l0.length≤c0) (hr1:Kd.C (Kd.int .i64) w A1 l1.length l1) (hc1:l1.length≤c1) (h:Zah.f k l0 l1=some r) :
  Calls Tryz.prog 95 #[.slice A0 l0.length c0,.slice A1 l1.length c1] w fun e w'=>e=.returned (.int .i64 r)∧Below w.heap.size w w':=by
 have HR0:=Za hr0;have HC0:=Za hc0;clear hr0 hc0;have HR1:=Za hr1;have HC1:=Za hc1;clear hr1 hc1
 have HB:=Za (Below.refl w.heap.size w)
 have H:(Zah.l0 k l1 1 l0 (l0.length:Int) 0)=some r:=h
 clear h
 have H':=Za H
 clear H
 go_enter Tryz.func95,Tryz.ntmps95
 go_wp2
 go_loopg [5,11] k (fun kq v5 v11 w'=>∃(x5_1:Int) (x11_1:Int),v5=.int .i64 x5_1∧v11=.int .i64 x11_1∧Aside0 (Zah.l0 kq l1 x5_1 l0 (l0.length:Int) x11_1=some r)∧Aside0 (kq≤k)∧Aside0 (Below w.heap.size w w'))
 case atStart=>exact⟨(1),(0),(by first|rfl|(simp;done)|(simp[*];done)),(by first|rfl|(simp;done)|(simp[*];done)),H',⟨Nat.le_refl _⟩,⟨by repeat(first|(with_reducible first|exact HB.out|apply Zn|apply Zm|apply Zo)|exact HB.out)⟩⟩
 case round=>
  clear H'
  try clear c1
  try clear p2
  obtain⟨x5_1,x11_1,rfl,rfl,HA,HK1,HB⟩:=hrel
  cases gk with
  | zero=>exact absurd HA.out (by simp[Zah.l0])
  | succ k1=>
   have H:=HA.out
   clear HA
   simp only[Zah.l0] at H
   by_cases c3:x11_1<(l0.length:Int)
   ·rw[if_pos c3] at H
    have c3b0:decide (x11_1<(l0.length:Int))=true:=Ze c3
    clear c3
    by_cases c4:0≤x11_1
    ·rw[if_pos c4] at H
     have c4b0:decide (0≤x11_1)=true:=Ze c4
     clear c4
     by_cases c5:x11_1<(l0.length:Int)
     ·rw[if_pos c5] at H
      have c5b0:decide (x11_1<(l0.length:Int))=true:=Ze c5
      clear c5
      replace H:=Zh H
      obtain⟨t95002,A60,H⟩:=H;have A6:=Za A60;clear A60
      obtain⟨ji7,hji7⟩:∃j_:Int,(wrap64 (t95002 - 1))=j_:=⟨_,rfl⟩
      replace H:(if 0≤(ji7) then(if (ji7)<(l1.length:Int) then(if (rd l0 x11_1)<0 then(Zah.l0 k1 l1 (mn x5_1 (wrap64 (-(rd l1 (ji7))))) l0 (l0.length:Int) (wrap64 (x11_1+1))) else(Zah.l0 k1 l1 (mn x5_1 (rd l1 (ji7))) l0 (l0.length:Int) (wrap64 (x11_1+1)))) else(none)) else(none))=some r:=by first|(rw[hji7] at H;exact H)|(simp only[hji7] at H ⊢;exact H)
      (try rw[hji7] at A6)
      have hji7w:(IntKind.i64.wrap (t95002 - 1))=ji7:=(ZH _).trans hji7
      by_cases c8:0≤(ji7)
      ·rw[if_pos c8] at H
       have c8b0:decide (0≤(ji7))=true:=Ze c8
       clear c8
       by_cases c9:(ji7)<(l1.length:Int)
       ·rw[if_pos c9] at H
        have c9b0:decide ((ji7)<(l1.length:Int))=true:=Ze c9
        clear c9
        by_cases c10:(rd l0 x11_1)<0
        ·rw[if_pos c10] at H
         have c10b0:decide ((rd l0 x11_1)<0)=true:=Ze c10
         clear c10
         obtain⟨ji11,hji11⟩:∃j_:Int,(mn x5_1 (wrap64 (-(rd l1 (ji7)))))=j_:=⟨_,rfl⟩
         replace H:(Zah.l0 k1 l1 ji11 l0 (l0.length:Int) (wrap64 (x11_1+1)))=some r:=by first|(rw[hji11] at H;exact H)|(simp only[hji11] at H ⊢;exact H)
         (try rw[hji11] at A6)
         have hji11_:(if (wrap64 (-(rd l1 (ji7))))<x5_1 then(wrap64 (-(rd l1 (ji7)))) else x5_1)=ji11:=hji11
         have H':=Za H
         clear H
         have p95001:0≤(x11_1:Int):=Zd (by first|(with_reducible assumption)|assumption)
         have q95001:x11_1<(l0.length:Int):=Zd (by first|(with_reducible assumption)|assumption)
         obtain⟨ad95001,e95001,hx95001_0⟩:=Kd.at_int HR0.out x11_1 p95001 q95001
         cases e95001
         replace hx95001_0:=(HB.out.cell (Zc w _ hx95001_0)).trans hx95001_0
         replace p95001:=eq_true p95001
         replace q95001:=eq_true q95001
         go_wp2_with (first|((with_reducible refine ZK (f:=98) rfl ?_);refine Z6 (some 17) rfl rfl Tryz.func98 (by kernel_rfl) rfl #[.int .i64 (rd l0 x11_1)] rfl (by(try simp only[List.map_toArray,List.map_cons,List.map_nil]);first|done|rfl|(simp only[Zk,Zj];rfl)) ?_;(with_reducible refine(ZaD.calls (rd l0 x11_1) t95002 _ A6.out).mono ?_);rintro e w' ⟨rfl,⟨nd,rfl⟩⟩;refine⟨_,rfl,?_⟩;have p95003:0≤((ji7):Int):=Zd (by first|(with_reducible assumption)|assumption);have q95003:(ji7)<(l1.length:Int):=Zd (by first|(with_reducible assumption)|assumption);obtain⟨ad95003,e95003,hx95003_0⟩:=Kd.at_int HR1.out (ji7) p95003 q95003;cases e95003;replace hx95003_0:=(HB.out.cell (Zc w _ hx95003_0)).trans hx95003_0;replace p95003:=eq_true p95003;replace q95003:=eq_true q95003))
         go_roundg k1
         case measure=>have:=HK1.out;omega
         case rel=>exact⟨(ji11),(wrap64 (x11_1+1)),(by first|rfl|(simp;done)|(simp only[← hji11] <;> (first|rfl|simp))|(simp[*];done)),(by first|rfl|(simp;done)|(simp[*];done)),H',⟨by have:=HK1.out;omega⟩,⟨by repeat(first|(with_reducible first|exact HB.out|apply Zn|apply Zm|apply Zo)|exact HB.out)⟩⟩
        ·rw[if_neg c10] at H
         have c10b0:decide ((rd l0 x11_1)<0)=false:=Zf c10
         clear c10
         obtain⟨ji12,hji12⟩:∃j_:Int,(mn x5_1 (rd l1 (ji7)))=j_:=⟨_,rfl⟩
         replace H:(Zah.l0 k1 l1 ji12 l0 (l0.length:Int) (wrap64 (x11_1+1)))=some r:=by first|(rw[hji12] at H;exact H)|(simp only[hji12] at H ⊢;exact H)
         (try rw[hji12] at A6)
         have hji12_:(if (rd l1 (ji7))<x5_1 then(rd l1 (ji7)) else x5_1)=ji12:=hji12
         have H':=Za H
         clear H
         have p95001:0≤(x11_1:Int):=Zd (by first|(with_reducible assumption)|assumption)
         have q95001:x11_1<(l0.length:Int):=Zd (by first|(with_reducible assumption)|assumption)
         obtain⟨ad95001,e95001,hx95001_0⟩:=Kd.at_int HR0.out x11_1 p95001 q95001
         cases e95001
         replace hx95001_0:=(HB.out.cell (Zc w _ hx95001_0)).trans hx95001_0
         replace p95001:=eq_true p95001
         replace q95001:=eq_true q95001
         go_wp2_with (first|((with_reducible refine ZK (f:=98) rfl ?_);refine Z6 (some 17) rfl rfl Tryz.func98 (by kernel_rfl) rfl #[.int .i64 (rd l0 x11_1)] rfl (by(try simp only[List.map_toArray,List.map_cons,List.map_nil]);first|done|rfl|(simp only[Zk,Zj];rfl)) ?_;(with_reducible refine(ZaD.calls (rd l0 x11_1) t95002 _ A6.out).mono ?_);rintro e w' ⟨rfl,⟨nd,rfl⟩⟩;refine⟨_,rfl,?_⟩;have p95003:0≤((ji7):Int):=Zd (by first|(with_reducible assumption)|assumption);have q95003:(ji7)<(l1.length:Int):=Zd (by first|(with_reducible assumption)|assumption);obtain⟨ad95003,e95003,hx95003_0⟩:=Kd.at_int HR1.out (ji7) p95003 q95003;cases e95003;replace hx95003_0:=(HB.out.cell (Zc w _ hx95003_0)).trans hx95003_0;replace p95003:=eq_true p95003;replace q95003:=eq_true q95003))
         go_roundg k1
         case measure=>have:=HK1.out;omega
         case rel=>exact⟨(ji12),(wrap64 (x11_1+1)),(by first|rfl|(simp;done)|(simp only[← hji12] <;> (first|rfl|simp))|(simp[*];done)),(by first|rfl|(simp;done)|(simp[*];done)),H',⟨by have:=HK1.out;omega⟩,⟨by repeat(first|(with_reducible first|exact HB.out|apply Zn|apply Zm|apply Zo)|exact HB.out)⟩⟩
       ·rw[if_neg c9] at H
        exact absurd H (by simp)
      ·rw[if_neg c8] at H
       exact absurd H (by simp)
     ·rw[if_neg c5] at H
      exact absurd H (by simp)
    ·rw[if_neg c4] at H
     exact absurd H (by simp)
   ·rw[if_neg c3] at H
    have c3b0:decide (x11_1<(l0.length:Int))=false:=Zf c3
    clear c3
    obtain rfl:=Zg H
    go_wp2
    go_ret
    exact⟨by first|rfl|(simp[ZA,Zz] <;> rfl)|(simp[*,ZA,Zz] <;> rfl),by repeat(first|(with_reducible first|exact HB.out|apply Zn|apply Zm|apply Zo)|exact HB.out)⟩
def Zap.l0:Nat→Int→List Int→Int→Int→List Int→List Int→Option (Int)
 | 0,_,_,_,_,_,_=>none
 | k+1,x2,x10,x11,x12,x96003000,x96003001=>if x12<x11 then(if 0≤x12 then(if x12<(x10.length:Int) then(if (rd x10 x12)=x2 then(if x12<(x96003000.length:Int) then(some (rd x96003000 x12)) else(none)) else(Zap.l0 k x2 x10 x11 (wrap64 (x12+1)) x96003000 x96003001)) else(none)) else(none)) else(some 0)
def Zap.f (k:Nat) (l0_0:List (S39)) (l0_1:List (S82)) (a0_2:Int) (l1_0:List Int) (l1_1:List Int) (a2:Int):Option (Int):=(Zad.f k l0_0 l0_1 a0_2).bind fun t96003=>(Zap.l0 k a2 t96003 (t96003.length:Int) 0 l1_0 l1_1)
set_option maxHeartbeats 8000000 in
set_option maxRecDepth 100000 in
theorem Zap.calls (k:Nat) (A0_0:Option Addr) (c0_0:Nat) (l0_0:List (S39)) (A0_1:Option Addr) (c0_1:Nat) (l0_1:List (S82)) (a0_2:Int) (A1_0:Option Addr) (c1_0:Nat) (l1_0:List Int) (A1_1:Option Addr) (c1_1:Nat) (l1_1:List Int) (a2:Int) (r:Int) (w:World) (hr0_0:Kd.C k39 w A0_0 l0_0.length l0_0) (hc0_0:l0_0.length≤c0_0) (hr0_1:Kd.C k82 w A0_1 l0_1.length l0_1) (hc0_1:l0_1.length≤c0_1) (hr1_0:Kd.C (Kd.int .i64) w A1_0 l1_0.length l1_0) (hc1_0:l1_0.length≤c1_0) (hr1_1:Kd.C (Kd.int .i64) w A1_1 l1_1.length l1_1) (hc1_1:l1_1.length≤c1_1) (h:Zap.f k l0_0 l0_1 a0_2 l1_0 l1_1 a2=some r) :
  Calls Tryz.prog 96 #[.agg #[.slice A0_0 l0_0.length c0_0,.slice A0_1 l0_1.length c0_1,.int .i64 a0_2],.agg #[.slice A1_0 l1_0.length c1_0,.slice A1_1 l1_1.length c1_1],.int .i64 a2] w fun e w'=>e=.returned (.int .i64 r)∧Below w.heap.size w w':=by
 have hu25:=Tryz.underlying25
 have hu58:=Tryz.underlying58
 have HR0_0:=Za hr0_0;have HC0_0:=Za hc0_0;clear hr0_0 hc0_0;have HR0_1:=Za hr0_1;have HC0_1:=Za hc0_1;clear hr0_1 hc0_1;have HR1_0:=Za hr1_0;have HC1_0:=Za hc1_0;clear hr1_0 hc1_0;have HR1_1:=Za hr1_1;have HC1_1:=Za hc1_1;clear hr1_1 hc1_1
 have HB:=Za (Below.refl w.heap.size w)
 have H:((Zad.f k l0_0 l0_1 a0_2).bind fun t96003=>(Zap.l0 k a2 t96003 (t96003.length:Int) 0 l1_0 l1_1))=some r:=h
 clear h
 replace H:=Zh H
 obtain⟨t96003,A40,H⟩:=H;have A4:=Za A40;clear A40
 have H':=Za H
 clear H
 go_enter Tryz.func96,Tryz.ntmps96
 go_wp2_with (first|((with_reducible refine ZI (N:=3) rfl ?_);refine ZG ?hg (N:=3) ?hd (cs:=#[.slice A0_0 l0_0.length c0_0,.slice A0_1 l0_1.length c0_1,.int .i64 a0_2]) (t:=25) ?hr ?_;(case hd=>rfl);(case hg=>rfl);(case hr=>first|(go_simp;done)|(go_simp;rfl));intro gb96001 hg w5 hbox hb;have BK96001:=Za (hbox);have GW96001:=Za ((by rw[hg];exact(ZC (by repeat(first|(with_reducible first|exact HB.out|apply Zn|apply Zm|apply Zo)|exact HB.out))):w.heap.size≤gb96001));have GE96001:=Za ((by rw[hg];exact(ZC (by repeat(first|(with_reducible first|exact HB.out|apply Zn|apply Zm|apply Zo)|exact HB.out))):w.heap.size≤gb96001));replace HB:=Za (Zt (by repeat(first|(with_reducible first|exact HB.out|apply Zn|apply Zm|apply Zo)|exact HB.out)) hb);clear hb hbox hg)|((with_reducible refine ZI (N:=4) rfl ?_);refine ZG ?hg (N:=4) ?hd (cs:=#[.slice A1_0 l1_0.length c1_0,.slice A1_1 l1_1.length c1_1]) (t:=58) ?hr ?_;(case hd=>rfl);(case hg=>rfl);(case hr=>first|(go_simp;done)|(go_simp;rfl));intro gb96002 hg w6 hbox hb;have n0_:=Za (Zx (g:=gb96001) (o:=.cells #[.slice A0_0 l0_0.length c0_0,.slice A0_1 l0_1.length c0_1,.int .i64 a0_2] 25 (0,0)) BK96001.out hb);have n1_:=Za (Zt (by repeat(first|(with_reducible first|exact HB.out|apply Zn|apply Zm|apply Zo|refine Zq ?_ GE96001.out)|exact HB.out)) hb);have n2_:=Za (hbox);have n3_:=Za ((by rw[hg];exact(ZC (by repeat(first|(with_reducible first|exact HB.out|apply Zn|apply Zm|apply Zo|refine Zq ?_ GE96001.out)|exact HB.out))):w.heap.size≤gb96002));have n4_:=n3_;have n5_:=Za ((by rw[hg];exact Nat.ne_of_lt (ZW (g:=gb96001) (o:=.cells #[.slice A0_0 l0_0.length c0_0,.slice A0_1 l0_1.length c0_1,.int .i64 a0_2] 25 (0,0)) BK96001.out):gb96001≠gb96002));have n6_:=Za n5_.out.symm;clear BK96001;clear HB;have BK96001:=n0_;have HB:=n1_;have BK96002:=n2_;have GW96002:=n3_;have GE96002:=n4_;have NB96001_96002:=n5_;have NB96002_96001:=n6_;clear n0_ n1_ n2_ n3_ n4_ n5_ n6_;clear hb hbox hg;have hcz8_0:w6.cell? ⟨gb96001,0,none⟩=some (.slice A0_0 l0_0.length c0_0):=(Zp BK96001.out 0).trans rfl;have hcz8_1:w6.cell? ⟨gb96001,1,none⟩=some (.slice A0_1 l0_1.length c0_1):=(Zp BK96001.out 1).trans rfl;have hcz8_2:w6.cell? ⟨gb96001,2,none⟩=some (.int .i64 a0_2):=(Zp BK96001.out 2).trans rfl;have hfz8_0:=Zs BK96001.out 0;have hfz8_1:=Zs BK96001.out 1;have hfz8_2:=Zs BK96001.out 2)|((with_reducible refine ZK (f:=156) rfl ?_);refine Z6 (some 10) rfl rfl Tryz.func156 (by kernel_rfl) rfl #[.agg #[.slice A0_0 l0_0.length c0_0,.slice A0_1 l0_1.length c0_1,.int .i64 a0_2]] rfl (by(try simp only[List.map_toArray,List.map_cons,List.map_nil]);first|done|rfl|(simp only[Zk,Zj];rfl)) ?_;(with_reducible refine(Zad.calls k _ _ l0_0 _ _ l0_1 a0_2 t96003 _ ?side1 ?side2 ?side3 ?side4 A4.out).mono ?_);(case side1=>repeat(first|exact(Zb HR0_0.out HB.out)|(with_reducible refine Kd.C_alloc ?_ _)|(with_reducible refine Kd.C_drewN ?_ _)|(with_reducible refine Kd.C_drew ?_)));(case side2=>exact HC0_0.out);(case side3=>repeat(first|exact(Zb HR0_1.out HB.out)|(with_reducible refine Kd.C_alloc ?_ _)|(with_reducible refine Kd.C_drewN ?_ _)|(with_reducible refine Kd.C_drew ?_)));(case side4=>exact HC0_1.out);rintro e w9 ⟨v96004,rfl,ho0,hb⟩;refine⟨_,rfl,?_⟩;have HO96005:=Za (Kd.R_lower ho0 (ZC (by repeat(first|(with_reducible first|exact HB.out|apply Zn|apply Zm|apply Zo|refine Zq ?_ GE96001.out|refine Zq ?_ GE96002.out)|exact HB.out))));replace BK96001:=Za (Zx (g:=gb96001) (o:=.cells #[.slice A0_0 l0_0.length c0_0,.slice A0_1 l0_1.length c0_1,.int .i64 a0_2] 25 (0,0)) BK96001.out hb);replace BK96002:=Za (Zx (g:=gb96002) (o:=.cells #[.slice A1_0 l1_0.length c1_0,.slice A1_1 l1_1.length c1_1] 58 (0,0)) BK96002.out hb);replace HB:=Za (Zt (by repeat(first|(with_reducible first|exact HB.out|apply Zn|apply Zm|apply Zo|refine Zq ?_ GE96001.out|refine Zq ?_ GE96002.out)|exact HB.out)) hb);(try clear hb);(try clear hb2);(try clear hk);(try clear hi);(try clear ho0);obtain⟨Ao10,co10,eo10⟩:=Kd.R_slice HO96005.out;subst eo10))
 go_loopg [12] k (fun kq v12 w'=>∃(x12_1:Int),v12=.int .i64 x12_1∧Aside0 (Zap.l0 kq a2 t96003 (t96003.length:Int) x12_1 l1_0 l1_1=some r)∧Aside0 (kq≤k)∧Aside0 (Kd.R (Kd.int .i64) 3 w' w.heap.size (fun _=>True) (.slice Ao10 t96003.length co10) t96003)∧Aside0 (w'.heap[gb96001]? = some (.cells #[(.slice A0_0 l0_0.length c0_0),(.slice A0_1 l0_1.length c0_1),.int .i64 a0_2] 25 (0,0)))∧Aside0 (w'.heap[gb96002]? = some (.cells #[(.slice A1_0 l1_0.length c1_0),(.slice A1_1 l1_1.length c1_1)] 58 (0,0)))∧Aside0 (Below w.heap.size w w'))
 case atStart=>exact⟨(0),(by first|rfl|(simp;done)|(simp[*];done)),H',⟨Nat.le_refl _⟩,⟨by(with_reducible repeat(first|apply Kd.R_alloc|apply Kd.R_drewN|apply Kd.R_drew));exact HO96005.out⟩,⟨by(with_reducible repeat(first|refine Zw ?_ _|refine ZB ?_|refine Zv ?_ _));exact BK96001.out⟩,⟨by(with_reducible repeat(first|refine Zw ?_ _|refine ZB ?_|refine Zv ?_ _));exact BK96002.out⟩,⟨by repeat(first|(with_reducible first|exact HB.out|apply Zn|apply Zm|apply Zo|refine Zq ?_ GE96001.out|refine Zq ?_ GE96002.out)|exact HB.out)⟩⟩
 case round=>
  clear H'
  try clear c1
  try clear p2
  try clear c7
  try clear c9
  obtain⟨x12_1,rfl,HA,HK1,HO_10,BK96001,BK96002,HB⟩:=hrel
  cases gk with
  | zero=>exact absurd HA.out (by simp[Zap.l0])
  | succ k1=>
   have H:=HA.out
   clear HA
   simp only[Zap.l0] at H
   by_cases c11:x12_1<(t96003.length:Int)
   ·rw[if_pos c11] at H
    have c11b0:decide (x12_1<(t96003.length:Int))=true:=Ze c11
    clear c11
    by_cases c12:0≤x12_1
    ·rw[if_pos c12] at H
     have c12b0:decide (0≤x12_1)=true:=Ze c12
     clear c12
     by_cases c13:x12_1<(t96003.length:Int)
     ·rw[if_pos c13] at H
      have c13b0:decide (x12_1<(t96003.length:Int))=true:=Ze c13
      clear c13
      by_cases c14:(rd t96003 x12_1)=a2
      ·rw[if_pos c14] at H
       have c14b0:((rd t96003 x12_1) == a2)=true:=beq_iff_eq.mpr c14
       clear c14
       by_cases c15:x12_1<(l1_0.length:Int)
       ·rw[if_pos c15] at H
        have c15b0:decide (x12_1<(l1_0.length:Int))=true:=Ze c15
        clear c15
        obtain rfl:=Zg H
        have p96006:0≤(x12_1:Int):=Zd (by first|(with_reducible assumption)|assumption)
        have q96006:x12_1<(t96003.length:Int):=Zd (by first|(with_reducible assumption)|assumption)
        obtain⟨ad96006,e96006,hx96006_0⟩:=Kd.at_int (Kd.R_reads' HO_10.out).2.2 x12_1 p96006 q96006
        cases e96006
        replace p96006:=eq_true p96006
        replace q96006:=eq_true q96006
        have hcz17_0:wr.cell? ⟨gb96002,0,none⟩=some (.slice A1_0 l1_0.length c1_0):=(Zp BK96002.out 0).trans rfl
        have hcz17_1:wr.cell? ⟨gb96002,1,none⟩=some (.slice A1_1 l1_1.length c1_1):=(Zp BK96002.out 1).trans rfl
        have hfz17_0:=Zs BK96002.out 0
        have hfz17_1:=Zs BK96002.out 1
        have p96007:0≤(x12_1:Int):=Zd (by first|(with_reducible assumption)|assumption)
        have q96007:x12_1<(l1_0.length:Int):=Zd (by first|(with_reducible assumption)|assumption)
        obtain⟨ad96007,e96007,hx96007_0⟩:=Kd.at_int HR1_0.out x12_1 p96007 q96007
        cases e96007
        replace hx96007_0:=(HB.out.cell (Zc w _ hx96007_0)).trans hx96007_0
        replace p96007:=eq_true p96007
        replace q96007:=eq_true q96007
        go_wp2
        go_ret
        exact⟨by first|rfl|(simp[ZA,Zz] <;> rfl)|(simp[*,ZA,Zz] <;> rfl),by repeat(first|(with_reducible first|exact HB.out|apply Zn|apply Zm|apply Zo|refine Zq ?_ GE96001.out|refine Zq ?_ GE96002.out)|exact HB.out)⟩
       ·rw[if_neg c15] at H
        exact absurd H (by simp)
      ·rw[if_neg c14] at H
       have c14b0:((rd t96003 x12_1) == a2)=false:=beq_eq_false_iff_ne.mpr c14
       have H':=Za H
       clear H
       have p96006:0≤(x12_1:Int):=Zd (by first|(with_reducible assumption)|assumption)
       have q96006:x12_1<(t96003.length:Int):=Zd (by first|(with_reducible assumption)|assumption)
       obtain⟨ad96006,e96006,hx96006_0⟩:=Kd.at_int (Kd.R_reads' HO_10.out).2.2 x12_1 p96006 q96006
       cases e96006
       replace p96006:=eq_true p96006
       replace q96006:=eq_true q96006
       go_wp2
       go_roundg k1
       case measure=>have:=HK1.out;omega
       case rel=>exact⟨(wrap64 (x12_1+1)),(by first|rfl|(simp;done)|(simp[*];done)),H',⟨by have:=HK1.out;omega⟩,⟨by(with_reducible repeat(first|apply Kd.R_alloc|apply Kd.R_drewN|apply Kd.R_drew));exact HO_10.out⟩,⟨by(with_reducible repeat(first|refine Zw ?_ _|refine ZB ?_|refine Zv ?_ _));exact BK96001.out⟩,⟨by(with_reducible repeat(first|refine Zw ?_ _|refine ZB ?_|refine Zv ?_ _));exact BK96002.out⟩,⟨by repeat(first|(with_reducible first|exact HB.out|apply Zn|apply Zm|apply Zo|refine Zq ?_ GE96001.out|refine Zq ?_ GE96002.out)|exact HB.out)⟩⟩
     ·rw[if_neg c13] at H
      exact absurd H (by simp)
    ·rw[if_neg c12] at H
     exact absurd H (by simp)
   ·rw[if_neg c11] at H
    have c11b0:decide (x12_1<(t96003.length:Int))=false:=Zf c11
    clear c11
    obtain rfl:=Zg H
    go_wp2
    go_ret
    exact⟨by first|rfl|(simp[ZA,Zz] <;> rfl)|(simp[*,ZA,Zz] <;> rfl),by repeat(first|(with_reducible first|exact HB.out|apply Zn|apply Zm|apply Zo|refine Zq ?_ GE96001.out|refine Zq ?_ GE96002.out)|exact HB.out)⟩
def ZbF.f (a0_0:Int) (a0_1:Int):Option (Bool):=if a0_0≥(-1000000) then(if a0_0≤a0_1 then(if a0_1≤1000000 then(if a0_0=1000000 then(some false) else(some (a0_1 != (-1000000)))) else(some false)) else(some false)) else(some false)
set_option maxHeartbeats 8000000 in
set_option maxRecDepth 100000 in
theorem ZbF.calls (a0_0:Int) (a0_1:Int) (r:Bool) (w:World) (h:ZbF.f a0_0 a0_1=some r) :
  Calls Tryz.prog 157 #[.agg #[.int .i64 a0_0,.int .i64 a0_1]] w fun e w'=>e=.returned (.bool r)∧Below w.heap.size w w':=by
 have hu110:=Tryz.underlying110
 have HB:=Za (Below.refl w.heap.size w)
 have H:(if a0_0≥(-1000000) then(if a0_0≤a0_1 then(if a0_1≤1000000 then(if a0_0=1000000 then(some false) else(some (a0_1 != (-1000000)))) else(some false)) else(some false)) else(some false))=some r:=h
 clear h
 by_cases c2:a0_0≥(-1000000)
 ·rw[if_pos c2] at H
  have c2b0:decide ((-1000000)≤a0_0)=true:=Ze c2
  clear c2
  by_cases c3:a0_0≤a0_1
  ·rw[if_pos c3] at H
   have c3b0:decide (a0_0≤a0_1)=true:=Ze c3
   clear c3
   by_cases c4:a0_1≤1000000
   ·rw[if_pos c4] at H
    have c4b0:decide (a0_1≤1000000)=true:=Ze c4
    clear c4
    by_cases c5:a0_0=1000000
    ·rw[if_pos c5] at H
     have c5b0:(a0_0 == 1000000)=true:=beq_iff_eq.mpr c5
     have c5b1:(a0_0 != 1000000)=false:=bne_eq_false_iff_eq.mpr c5
     clear c5
     obtain rfl:=Zg H
     go_enter Tryz.func157,Tryz.ntmps157
     go_wp2_with (first|((with_reducible refine ZI (N:=1) rfl ?_);refine ZG ?hg (N:=1) ?hd (cs:=#[.int .i64 a0_0,.int .i64 a0_1]) (t:=110) ?hr ?_;(case hd=>rfl);(case hg=>rfl);(case hr=>first|(go_simp;done)|(go_simp;rfl));intro gb157001 hg w6 hbox hb;have BK157001:=Za (hbox);have GW157001:=Za ((by rw[hg];exact(ZC (by repeat(first|(with_reducible first|exact HB.out|apply Zn|apply Zm|apply Zo)|exact HB.out))):w.heap.size≤gb157001));have GE157001:=Za ((by rw[hg];exact(ZC (by repeat(first|(with_reducible first|exact HB.out|apply Zn|apply Zm|apply Zo)|exact HB.out))):w.heap.size≤gb157001));replace HB:=Za (Zt (by repeat(first|(with_reducible first|exact HB.out|apply Zn|apply Zm|apply Zo)|exact HB.out)) hb);clear hb hbox hg;have hcz7_0:w6.cell? ⟨gb157001,0,none⟩=some (.int .i64 a0_0):=(Zp BK157001.out 0).trans rfl;have hcz7_1:w6.cell? ⟨gb157001,1,none⟩=some (.int .i64 a0_1):=(Zp BK157001.out 1).trans rfl))
     go_ret
     exact⟨by first|rfl|(simp[ZA,Zz] <;> rfl)|(simp[*,ZA,Zz] <;> rfl),by repeat(first|(with_reducible first|exact HB.out|apply Zn|apply Zm|apply Zo|refine Zq ?_ GE157001.out)|exact HB.out)⟩
    ·rw[if_neg c5] at H
     have c5b0:(a0_0 == 1000000)=false:=beq_eq_false_iff_ne.mpr c5
     have c5b1:(a0_0 != 1000000)=true:=bne_iff_ne.mpr c5
     obtain rfl:=Zg H
     go_enter Tryz.func157,Tryz.ntmps157
     go_wp2_with (first|((with_reducible refine ZI (N:=1) rfl ?_);refine ZG ?hg (N:=1) ?hd (cs:=#[.int .i64 a0_0,.int .i64 a0_1]) (t:=110) ?hr ?_;(case hd=>rfl);(case hg=>rfl);(case hr=>first|(go_simp;done)|(go_simp;rfl));intro gb157001 hg w8 hbox hb;have BK157001:=Za (hbox);have GW157001:=Za ((by rw[hg];exact(ZC (by repeat(first|(with_reducible first|exact HB.out|apply Zn|apply Zm|apply Zo)|exact HB.out))):w.heap.size≤gb157001));have GE157001:=Za ((by rw[hg];exact(ZC (by repeat(first|(with_reducible first|exact HB.out|apply Zn|apply Zm|apply Zo)|exact HB.out))):w.heap.size≤gb157001));replace HB:=Za (Zt (by repeat(first|(with_reducible first|exact HB.out|apply Zn|apply Zm|apply Zo)|exact HB.out)) hb);clear hb hbox hg;have hcz9_0:w8.cell? ⟨gb157001,0,none⟩=some (.int .i64 a0_0):=(Zp BK157001.out 0).trans rfl;have hcz9_1:w8.cell? ⟨gb157001,1,none⟩=some (.int .i64 a0_1):=(Zp BK157001.out 1).trans rfl))
     go_ret
     exact⟨by first|rfl|(simp[ZA,Zz] <;> rfl)|(simp[*,ZA,Zz] <;> rfl),by repeat(first|(with_reducible first|exact HB.out|apply Zn|apply Zm|apply Zo|refine Zq ?_ GE157001.out)|exact HB.out)⟩
   ·rw[if_neg c4] at H
    have c4b0:decide (a0_1≤1000000)=false:=Zf c4
    clear c4
    obtain rfl:=Zg H
    go_enter Tryz.func157,Tryz.ntmps157
    go_wp2_with (first|((with_reducible refine ZI (N:=1) rfl ?_);refine ZG ?hg (N:=1) ?hd (cs:=#[.int .i64 a0_0,.int .i64 a0_1]) (t:=110) ?hr ?_;(case hd=>rfl);(case hg=>rfl);(case hr=>first|(go_simp;done)|(go_simp;rfl));intro gb157001 hg w10 hbox hb;have BK157001:=Za (hbox);have GW157001:=Za ((by rw[hg];exact(ZC (by repeat(first|(with_reducible first|exact HB.out|apply Zn|apply Zm|apply Zo)|exact HB.out))):w.heap.size≤gb157001));have GE157001:=Za ((by rw[hg];exact(ZC (by repeat(first|(with_reducible first|exact HB.out|apply Zn|apply Zm|apply Zo)|exact HB.out))):w.heap.size≤gb157001));replace HB:=Za (Zt (by repeat(first|(with_reducible first|exact HB.out|apply Zn|apply Zm|apply Zo)|exact HB.out)) hb);clear hb hbox hg;have hcz11_0:w10.cell? ⟨gb157001,0,none⟩=some (.int .i64 a0_0):=(Zp BK157001.out 0).trans rfl;have hcz11_1:w10.cell? ⟨gb157001,1,none⟩=some (.int .i64 a0_1):=(Zp BK157001.out 1).trans rfl))
    go_ret
    exact⟨by first|rfl|(simp[ZA,Zz] <;> rfl)|(simp[*,ZA,Zz] <;> rfl),by repeat(first|(with_reducible first|exact HB.out|apply Zn|apply Zm|apply Zo|refine Zq ?_ GE157001.out)|exact HB.out)⟩
  ·rw[if_neg c3] at H
   have c3b0:decide (a0_0≤a0_1)=false:=Zf c3
   clear c3
   obtain rfl:=Zg H
   go_enter Tryz.func157,Tryz.ntmps157
   go_wp2_with (first|((with_reducible refine ZI (N:=1) rfl ?_);refine ZG ?hg (N:=1) ?hd (cs:=#[.int .i64 a0_0,.int .i64 a0_1]) (t:=110) ?hr ?_;(case hd=>rfl);(case hg=>rfl);(case hr=>first|(go_simp;done)|(go_simp;rfl));intro gb157001 hg w12 hbox hb;have BK157001:=Za (hbox);have GW157001:=Za ((by rw[hg];exact(ZC (by repeat(first|(with_reducible first|exact HB.out|apply Zn|apply Zm|apply Zo)|exact HB.out))):w.heap.size≤gb157001));have GE157001:=Za ((by rw[hg];exact(ZC (by repeat(first|(with_reducible first|exact HB.out|apply Zn|apply Zm|apply Zo)|exact HB.out))):w.heap.size≤gb157001));replace HB:=Za (Zt (by repeat(first|(with_reducible first|exact HB.out|apply Zn|apply Zm|apply Zo)|exact HB.out)) hb);clear hb hbox hg;have hcz13_0:w12.cell? ⟨gb157001,0,none⟩=some (.int .i64 a0_0):=(Zp BK157001.out 0).trans rfl;have hcz13_1:w12.cell? ⟨gb157001,1,none⟩=some (.int .i64 a0_1):=(Zp BK157001.out 1).trans rfl))
   go_ret
   exact⟨by first|rfl|(simp[ZA,Zz] <;> rfl)|(simp[*,ZA,Zz] <;> rfl),by repeat(first|(with_reducible first|exact HB.out|apply Zn|apply Zm|apply Zo|refine Zq ?_ GE157001.out)|exact HB.out)⟩
 ·rw[if_neg c2] at H
  have c2b0:decide ((-1000000)≤a0_0)=false:=Zf c2
  clear c2
  obtain rfl:=Zg H
  go_enter Tryz.func157,Tryz.ntmps157
  go_wp2_with (first|((with_reducible refine ZI (N:=1) rfl ?_);refine ZG ?hg (N:=1) ?hd (cs:=#[.int .i64 a0_0,.int .i64 a0_1]) (t:=110) ?hr ?_;(case hd=>rfl);(case hg=>rfl);(case hr=>first|(go_simp;done)|(go_simp;rfl));intro gb157001 hg w14 hbox hb;have BK157001:=Za (hbox);have GW157001:=Za ((by rw[hg];exact(ZC (by repeat(first|(with_reducible first|exact HB.out|apply Zn|apply Zm|apply Zo)|exact HB.out))):w.heap.size≤gb157001));have GE157001:=Za ((by rw[hg];exact(ZC (by repeat(first|(with_reducible first|exact HB.out|apply Zn|apply Zm|apply Zo)|exact HB.out))):w.heap.size≤gb157001));replace HB:=Za (Zt (by repeat(first|(with_reducible first|exact HB.out|apply Zn|apply Zm|apply Zo)|exact HB.out)) hb);clear hb hbox hg;have hcz15_0:w14.cell? ⟨gb157001,0,none⟩=some (.int .i64 a0_0):=(Zp BK157001.out 0).trans rfl;have hcz15_1:w14.cell? ⟨gb157001,1,none⟩=some (.int .i64 a0_1):=(Zp BK157001.out 1).trans rfl))
  go_ret
  exact⟨by first|rfl|(simp[ZA,Zz] <;> rfl)|(simp[*,ZA,Zz] <;> rfl),by repeat(first|(with_reducible first|exact HB.out|apply Zn|apply Zm|apply Zo|refine Zq ?_ GE157001.out)|exact HB.out)⟩
mutual
def Z8.j0:Nat→Bool→Int→List (S112)→Option (Bool)
 | 0,_,_,_=>none
 | k+1,x14,x99002000,x99002001=>if x14=true then(some false) else(Z8.l0 k x99002001 (x99002001.length:Int) 0 x99002000 x99002001)
def Z8.l0:Nat→List (S112)→Int→Int→Int→List (S112)→Option (Bool)
 | 0,_,_,_,_,_=>none
 | k+1,x16,x17,x18,x99002000,x99002001=>if x18<x17 then(if 0≤x18 then(if x18<(x16.length:Int) then((ZY.f ((ZQ x16 x18).f0) 0 (wrap64 (x99002000 - 1))).bind fun t99005=>(if t99005=true then((ZY.f ((ZQ x16 x18).f1) 0 (wrap64 (x99002000 - 1))).bind fun t99006=>(if t99006=true then((ZbF.f ((ZQ x16 x18).f2.f0) ((ZQ x16 x18).f2.f1)).bind fun t99007=>(if t99007=true then(Z8.l0 k x16 x17 (wrap64 (x18+1)) x99002000 x99002001) else(some false))) else(some false))) else(some false))) else(none)) else(none)) else(some true)
end
def Z8.f (k:Nat) (a0_0:Int) (l0_1:List (S112)):Option (Bool):=(ZY.f a0_0 1 8).bind fun t99002=>(if t99002=true then(Z8.j0 k (decide ((l0_1.length:Int) > 40)) a0_0 l0_1) else(Z8.j0 k true a0_0 l0_1))
set_option maxHeartbeats 8000000 in
set_option maxRecDepth 100000 in
theorem Z8.calls (k:Nat) (a0_0:Int) (A0_1:Option Addr) (c0_1:Nat) (l0_1:List (S112)) (r:Bool) (w:World) (hr0_1:Kd.C k112 w A0_1 l0_1.length l0_1) (hc0_1:l0_1.length≤c0_1) (h:Z8.f k a0_0 l0_1=some r) :
  Calls Tryz.prog 99 #[.agg #[.int .i64 a0_0,.slice A0_1 l0_1.length c0_1]] w fun e w'=>e=.returned (.bool r)∧Below w.heap.size w w':=by
 have hu54:=Tryz.underlying54
 have hu112:=Tryz.underlying112
 have hu110:=Tryz.underlying110
 have HR0_1:=Za hr0_1;have HC0_1:=Za hc0_1;clear hr0_1 hc0_1
 have HB:=Za (Below.refl w.heap.size w)
 have H:((ZY.f a0_0 1 8).bind fun t99002=>(if t99002=true then(Z8.j0 k (decide ((l0_1.length:Int) > 40)) a0_0 l0_1) else(Z8.j0 k true a0_0 l0_1)))=some r:=h
 clear h;have HC2:=Za H;clear H
 go_enter Tryz.func99,Tryz.ntmps99
 go_upto_region 1 with (first|((with_reducible refine ZI (N:=1) rfl ?_);refine ZG ?hg (N:=1) ?hd (cs:=#[.int .i64 a0_0,.slice A0_1 l0_1.length c0_1]) (t:=54) ?hr ?_;(case hd=>rfl);(case hg=>rfl);(case hr=>first|(go_simp;done)|(go_simp;rfl));intro gb99001 hg w3 hbox hb;have BK99001:=Za (hbox);have GW99001:=Za ((by rw[hg];exact(ZC (by repeat(first|(with_reducible first|exact HB.out|apply Zn|apply Zm|apply Zo)|exact HB.out))):w.heap.size≤gb99001));have GE99001:=Za ((by rw[hg];exact(ZC (by repeat(first|(with_reducible first|exact HB.out|apply Zn|apply Zm|apply Zo)|exact HB.out))):w.heap.size≤gb99001));replace HB:=Za (Zt (by repeat(first|(with_reducible first|exact HB.out|apply Zn|apply Zm|apply Zo)|exact HB.out)) hb);clear hb hbox hg))
 (try simp only[Act.put,List.setIfInBounds_toArray,List.set_cons_zero,List.set_cons_succ])
 go_cut [14] (fun v14 wc=>∃(kq:Nat) (x14_1:Bool),v14=.bool x14_1∧Aside0 (Z8.j0 kq x14_1 a0_0 l0_1=some r)∧Aside0 (kq≤k)∧Aside0 (wc.heap[gb99001]? = some (.cells #[.int .i64 a0_0,(.slice A0_1 l0_1.length c0_1)] 54 (0,0)))∧Aside0 (Below w.heap.size w wc))
 case first=>
  have H:=HC2.out
  clear HC2
  replace H:=Zh H
  obtain⟨t99002,A40,H⟩:=H;have A4:=Za A40;clear A40
  by_cases c5:t99002=true
  ·subst c5
   rw[if_pos rfl] at H
   have H':=Za H
   clear H
   have hcz6_0:w3.cell? ⟨gb99001,0,none⟩=some (.int .i64 a0_0):=(Zp BK99001.out 0).trans rfl
   have hcz6_1:w3.cell? ⟨gb99001,1,none⟩=some (.slice A0_1 l0_1.length c0_1):=(Zp BK99001.out 1).trans rfl
   have hfz6_0:=Zs BK99001.out 0
   have hfz6_1:=Zs BK99001.out 1
   go_wp2_with (first|((with_reducible refine ZK (f:=127) rfl ?_);refine Z6 (some 7) rfl rfl Tryz.func127 (by kernel_rfl) rfl #[.int .i64 a0_0,.int .i64 1,.int .i64 8] rfl (by(try simp only[List.map_toArray,List.map_cons,List.map_nil]);first|done|rfl|(simp only[Zk,Zj];rfl)) ?_;(with_reducible refine(ZY.calls a0_0 1 8 true _ A4.out).mono ?_);rintro e w' ⟨rfl,⟨nd,rfl⟩⟩;refine⟨_,rfl,?_⟩))
   go_meet
   case rel=>exact⟨_,(decide ((l0_1.length:Int) > 40)),(by first|rfl|(simp;done)|(simp[*];done)),H',⟨by first|omega|exact Nat.le_refl _⟩,⟨by(with_reducible repeat(first|refine Zw ?_ _|refine ZB ?_|refine Zv ?_ _));exact BK99001.out⟩,⟨by repeat(first|(with_reducible first|exact HB.out|apply Zn|apply Zm|apply Zo|refine Zq ?_ GE99001.out)|exact HB.out)⟩⟩
  ·replace c5:=Bool.eq_false_iff.mpr c5
   subst c5
   have H1:(Z8.j0 k true a0_0 l0_1)=some r:=by rw[if_neg (show ¬(false=true) by decide)] at H;exact H
   clear H
   have H:=H1
   clear H1
   have H':=Za H
   clear H
   have hcz7_0:w3.cell? ⟨gb99001,0,none⟩=some (.int .i64 a0_0):=(Zp BK99001.out 0).trans rfl
   have hcz7_1:w3.cell? ⟨gb99001,1,none⟩=some (.slice A0_1 l0_1.length c0_1):=(Zp BK99001.out 1).trans rfl
   have hfz7_0:=Zs BK99001.out 0
   have hfz7_1:=Zs BK99001.out 1
   go_wp2_with (first|((with_reducible refine ZK (f:=127) rfl ?_);refine Z6 (some 7) rfl rfl Tryz.func127 (by kernel_rfl) rfl #[.int .i64 a0_0,.int .i64 1,.int .i64 8] rfl (by(try simp only[List.map_toArray,List.map_cons,List.map_nil]);first|done|rfl|(simp only[Zk,Zj];rfl)) ?_;(with_reducible refine(ZY.calls a0_0 1 8 false _ A4.out).mono ?_);rintro e w' ⟨rfl,⟨nd,rfl⟩⟩;refine⟨_,rfl,?_⟩))
   go_meet
   case rel=>exact⟨_,(true),(by first|rfl|(simp;done)|(simp[*];done)),H',⟨by first|omega|exact Nat.le_refl _⟩,⟨by(with_reducible repeat(first|refine Zw ?_ _|refine ZB ?_|refine Zv ?_ _));exact BK99001.out⟩,⟨by repeat(first|(with_reducible first|exact HB.out|apply Zn|apply Zm|apply Zo|refine Zq ?_ GE99001.out)|exact HB.out)⟩⟩
 case rest=>
  clear HC2
  try clear c1
  try clear p2
  try clear c5
  obtain⟨kq,x14_1,rfl,HA,HJ1,BK99001,HB⟩:=hcut
  cases kq with
  | zero=>exact absurd HA.out (by simp[Z8.j0])
  | succ kj1=>
   have H:=HA.out
   clear HA
   simp only[Z8.j0] at H
   by_cases c8:x14_1=true
   ·subst c8
    rw[if_pos rfl] at H
    obtain rfl:=Zg H
    go_wp2
    go_ret
    exact⟨by first|rfl|(simp[ZA,Zz] <;> rfl)|(simp[*,ZA,Zz] <;> rfl),by repeat(first|(with_reducible first|exact HB.out|apply Zn|apply Zm|apply Zo|refine Zq ?_ GE99001.out)|exact HB.out)⟩
   ·replace c8:=Bool.eq_false_iff.mpr c8
    subst c8
    have H1:(Z8.l0 kj1 l0_1 (l0_1.length:Int) 0 a0_0 l0_1)=some r:=by rw[if_neg (show ¬(false=true) by decide)] at H;exact H
    clear H
    have H:=H1
    clear H1
    have H':=Za H
    clear H
    have hcz9_0:wc.cell? ⟨gb99001,0,none⟩=some (.int .i64 a0_0):=(Zp BK99001.out 0).trans rfl
    have hcz9_1:wc.cell? ⟨gb99001,1,none⟩=some (.slice A0_1 l0_1.length c0_1):=(Zp BK99001.out 1).trans rfl
    have hfz9_0:=Zs BK99001.out 0
    have hfz9_1:=Zs BK99001.out 1
    go_wp2
    go_loopg [18] kj1 (fun kq v18 w'=>∃(x18_2:Int),v18=.int .i64 x18_2∧Aside0 (Z8.l0 kq l0_1 (l0_1.length:Int) x18_2 a0_0 l0_1=some r)∧Aside0 (kq≤kj1)∧Aside0 (w'.heap[gb99001]? = some (.cells #[.int .i64 a0_0,(.slice A0_1 l0_1.length c0_1)] 54 (0,0)))∧Aside0 (Below w.heap.size w w'))
    case atStart=>exact⟨(0),(by first|rfl|(simp;done)|(simp[*];done)),H',⟨Nat.le_refl _⟩,⟨by(with_reducible repeat(first|refine Zw ?_ _|refine ZB ?_|refine Zv ?_ _));exact BK99001.out⟩,⟨by repeat(first|(with_reducible first|exact HB.out|apply Zn|apply Zm|apply Zo|refine Zq ?_ GE99001.out)|exact HB.out)⟩⟩
    case round=>
     clear H'
     try clear c1
     try clear p2
     try clear c5
     try clear c8
     try clear c9
     try clear p2
     obtain⟨x18_2,rfl,HA,HK2,BK99001,HB⟩:=hrel
     cases gk with
     | zero=>exact absurd HA.out (by simp[Z8.l0])
     | succ k2=>
      have H:=HA.out
      clear HA
      simp only[Z8.l0] at H
      by_cases c10:x18_2<(l0_1.length:Int)
      ·rw[if_pos c10] at H
       have c10b0:decide (x18_2<(l0_1.length:Int))=true:=Ze c10
       clear c10
       by_cases c11:0≤x18_2
       ·rw[if_pos c11] at H
        have c11b0:decide (0≤x18_2)=true:=Ze c11
        clear c11
        by_cases c12:x18_2<(l0_1.length:Int)
        ·rw[if_pos c12] at H
         have c12b0:decide (x18_2<(l0_1.length:Int))=true:=Ze c12
         clear c12
         replace H:=Zh H
         obtain⟨t99005,A130,H⟩:=H;have A13:=Za A130;clear A130
         by_cases c14:t99005=true
         ·subst c14
          rw[if_pos rfl] at H
          replace H:=Zh H
          obtain⟨t99006,A150,H⟩:=H;have A15:=Za A150;clear A150
          by_cases c16:t99006=true
          ·subst c16
           rw[if_pos rfl] at H
           replace H:=Zh H
           obtain⟨t99007,A170,H⟩:=H;have A17:=Za A170;clear A170
           by_cases c18:t99007=true
           ·subst c18
            rw[if_pos rfl] at H
            have H':=Za H
            clear H
            have p99003:0≤(x18_2:Int):=Zd (by first|(with_reducible assumption)|assumption)
            have q99003:x18_2<(l0_1.length:Int):=Zd (by first|(with_reducible assumption)|assumption)
            obtain⟨ad99003,e99003,hx99003_0,hx99003_1,hx99003_2,hx99003_3⟩:=Za6 HR0_1.out x18_2 p99003 q99003
            cases e99003
            replace hx99003_0:=(HB.out.cell (Zc w _ hx99003_0)).trans hx99003_0
            replace hx99003_1:=(HB.out.cell (Zc w _ hx99003_1)).trans hx99003_1
            replace hx99003_2:=(HB.out.cell (Zc w _ hx99003_2)).trans hx99003_2
            replace hx99003_3:=(HB.out.cell (Zc w _ hx99003_3)).trans hx99003_3
            replace p99003:=eq_true p99003
            replace q99003:=eq_true q99003
            go_wp2_with (first|((with_reducible refine ZI (N:=4) rfl ?_);refine ZG ?hg (N:=4) ?hd (cs:=#[.int .i64 0,.int .i64 0,.int .i64 0,.int .i64 0]) (t:=112) ?hr ?_;(case hd=>rfl);(case hg=>rfl);(case hr=>first|(go_simp;done)|(go_simp;rfl));intro gb99004 hg w19 hbox hb;have n0_:=Za (Zx (g:=gb99001) (o:=.cells #[.int .i64 a0_0,.slice (some ad99003) l0_1.length c0_1] 54 (0,0)) BK99001.out hb);have n1_:=Za (Zt (by repeat(first|(with_reducible first|exact HB.out|apply Zn|apply Zm|apply Zo|refine Zq ?_ GE99001.out)|exact HB.out)) hb);have n2_:=Za (hbox);have n3_:=Za ((by rw[hg];exact(ZC (by repeat(first|(with_reducible first|exact HB.out|apply Zn|apply Zm|apply Zo|refine Zq ?_ GE99001.out)|exact HB.out))):w.heap.size≤gb99004));have n4_:=n3_;have n5_:=Za ((by rw[hg];exact Nat.ne_of_lt (ZW (g:=gb99001) (o:=.cells #[.int .i64 a0_0,.slice (some ad99003) l0_1.length c0_1] 54 (0,0)) BK99001.out):gb99001≠gb99004));have n6_:=Za n5_.out.symm;clear BK99001;clear HB;have BK99001:=n0_;have HB:=n1_;have BK99004:=n2_;have GW99004:=n3_;have GE99004:=n4_;have NB99001_99004:=n5_;have NB99004_99001:=n6_;clear n0_ n1_ n2_ n3_ n4_ n5_ n6_;clear hb hbox hg;have hnb20:=NB99004_99001.out;have hnc20:=NB99001_99004.out;have hcz21_0:w19.cell? ⟨gb99004,0,none⟩=some (.int .i64 0):=(Zp BK99004.out 0).trans rfl;have hcz21_1:w19.cell? ⟨gb99004,1,none⟩=some (.int .i64 0):=(Zp BK99004.out 1).trans rfl;have hcz21_2:w19.cell? ⟨gb99004,2,none⟩=some (.int .i64 0):=(Zp BK99004.out 2).trans rfl;have hcz21_3:w19.cell? ⟨gb99004,3,none⟩=some (.int .i64 0):=(Zp BK99004.out 3).trans rfl;have hfz21_0:=Zs BK99004.out 0;have hfz21_1:=Zs BK99004.out 1;have hfz21_2:=Zs BK99004.out 2;have hfz21_3:=Zs BK99004.out 3;have hcz22_0:w19.cell? ⟨gb99001,0,none⟩=some (.int .i64 a0_0):=(Zp BK99001.out 0).trans rfl;have hcz22_1:w19.cell? ⟨gb99001,1,none⟩=some (.slice (some ad99003) l0_1.length c0_1):=(Zp BK99001.out 1).trans rfl)|((with_reducible refine ZK (f:=127) rfl ?_);refine Z6 (some 27) rfl rfl Tryz.func127 (by kernel_rfl) rfl #[.int .i64 ((ZQ l0_1 x18_2).f0),.int .i64 0,.int .i64 (wrap64 (a0_0 - 1))] rfl (by(try simp only[List.map_toArray,List.map_cons,List.map_nil]);first|done|rfl|(simp only[Zk,Zj];rfl)) ?_;(with_reducible refine(ZY.calls ((ZQ l0_1 x18_2).f0) 0 (wrap64 (a0_0 - 1)) true _ A13.out).mono ?_);rintro e w' ⟨rfl,⟨nd,rfl⟩⟩;refine⟨_,rfl,?_⟩)|(go_at_call 127;(with_reducible refine(ZY.calls ((ZQ l0_1 x18_2).f1) 0 (wrap64 (a0_0 - 1)) true _ A15.out).mono ?_);rintro e w' ⟨rfl,⟨nd,rfl⟩⟩)|(go_at_call 157;(with_reducible refine(ZbF.calls ((ZQ l0_1 x18_2).f2.f0) ((ZQ l0_1 x18_2).f2.f1) true _ A17.out).mono ?_);rintro e w23 ⟨rfl,hb⟩;replace BK99001:=Za (Zx (g:=gb99001) (o:=.cells #[.int .i64 a0_0,.slice (some ad99003) l0_1.length c0_1] 54 (0,0)) (by(with_reducible repeat(first|refine Zw ?_ _|refine ZB ?_|refine Zv ?_ _));refine ZL ?_ NB99001_99004.out _;(with_reducible repeat(first|refine Zw ?_ _|refine ZB ?_|refine Zv ?_ _));refine ZL ?_ NB99001_99004.out _;(with_reducible repeat(first|refine Zw ?_ _|refine ZB ?_|refine Zv ?_ _));refine ZL ?_ NB99001_99004.out _;(with_reducible repeat(first|refine Zw ?_ _|refine ZB ?_|refine Zv ?_ _));refine ZL ?_ NB99001_99004.out _;(with_reducible repeat(first|refine Zw ?_ _|refine ZB ?_|refine Zv ?_ _));exact BK99001.out) hb);replace BK99004:=Za (Zx (g:=gb99004) (o:=.cells #[.int .i64 ((ZQ l0_1 x18_2).f0),.int .i64 ((ZQ l0_1 x18_2).f1),.int .i64 ((ZQ l0_1 x18_2).f2.f0),.int .i64 ((ZQ l0_1 x18_2).f2.f1)] 112 (0,0)) (by(with_reducible repeat(first|refine Zw ?_ _|refine ZB ?_|refine Zv ?_ _));refine ZP (cs:=#[.int .i64 ((ZQ l0_1 x18_2).f0),.int .i64 ((ZQ l0_1 x18_2).f1),.int .i64 ((ZQ l0_1 x18_2).f2.f0),.int .i64 0]) ?_ 3 _ rfl;(with_reducible repeat(first|refine Zw ?_ _|refine ZB ?_|refine Zv ?_ _));refine ZP (cs:=#[.int .i64 ((ZQ l0_1 x18_2).f0),.int .i64 ((ZQ l0_1 x18_2).f1),.int .i64 0,.int .i64 0]) ?_ 2 _ rfl;(with_reducible repeat(first|refine Zw ?_ _|refine ZB ?_|refine Zv ?_ _));refine ZP (cs:=#[.int .i64 ((ZQ l0_1 x18_2).f0),.int .i64 0,.int .i64 0,.int .i64 0]) ?_ 1 _ rfl;(with_reducible repeat(first|refine Zw ?_ _|refine ZB ?_|refine Zv ?_ _));refine ZP (cs:=#[.int .i64 0,.int .i64 0,.int .i64 0,.int .i64 0]) ?_ 0 _ rfl;(with_reducible repeat(first|refine Zw ?_ _|refine ZB ?_|refine Zv ?_ _));exact BK99004.out) hb);replace HB:=Za (Zt (by repeat(first|(with_reducible first|exact HB.out|apply Zn|apply Zm|apply Zo|refine Zq ?_ GE99001.out|refine Zq ?_ GE99004.out)|exact HB.out)) hb);(try clear hi)))
            go_roundg k2
            case measure=>have:=HJ1.out;have:=HK2.out;omega
            case rel=>exact⟨(wrap64 (x18_2+1)),(by first|rfl|(simp;done)|(simp[*];done)),H',⟨by have:=HJ1.out;have:=HK2.out;omega⟩,⟨by(with_reducible repeat(first|refine Zw ?_ _|refine ZB ?_|refine Zv ?_ _));exact BK99001.out⟩,⟨by repeat(first|(with_reducible first|exact HB.out|apply Zn|apply Zm|apply Zo|refine Zq ?_ GE99001.out|refine Zq ?_ GE99004.out)|exact HB.out)⟩⟩
           ·replace c18:=Bool.eq_false_iff.mpr c18
            subst c18
            have H1:(some false)=some r:=by rw[if_neg (show ¬(false=true) by decide)] at H;exact H
            clear H
            have H:=H1
            clear H1
            obtain rfl:=Zg H
            have p99003:0≤(x18_2:Int):=Zd (by first|(with_reducible assumption)|assumption)
            have q99003:x18_2<(l0_1.length:Int):=Zd (by first|(with_reducible assumption)|assumption)
            obtain⟨ad99003,e99003,hx99003_0,hx99003_1,hx99003_2,hx99003_3⟩:=Za6 HR0_1.out x18_2 p99003 q99003
            cases e99003
            replace hx99003_0:=(HB.out.cell (Zc w _ hx99003_0)).trans hx99003_0
            replace hx99003_1:=(HB.out.cell (Zc w _ hx99003_1)).trans hx99003_1
            replace hx99003_2:=(HB.out.cell (Zc w _ hx99003_2)).trans hx99003_2
            replace hx99003_3:=(HB.out.cell (Zc w _ hx99003_3)).trans hx99003_3
            replace p99003:=eq_true p99003
            replace q99003:=eq_true q99003
            go_wp2_with (first|((with_reducible refine ZI (N:=4) rfl ?_);refine ZG ?hg (N:=4) ?hd (cs:=#[.int .i64 0,.int .i64 0,.int .i64 0,.int .i64 0]) (t:=112) ?hr ?_;(case hd=>rfl);(case hg=>rfl);(case hr=>first|(go_simp;done)|(go_simp;rfl));intro gb99004 hg w24 hbox hb;have n0_:=Za (Zx (g:=gb99001) (o:=.cells #[.int .i64 a0_0,.slice (some ad99003) l0_1.length c0_1] 54 (0,0)) BK99001.out hb);have n1_:=Za (Zt (by repeat(first|(with_reducible first|exact HB.out|apply Zn|apply Zm|apply Zo|refine Zq ?_ GE99001.out)|exact HB.out)) hb);have n2_:=Za (hbox);have n3_:=Za ((by rw[hg];exact(ZC (by repeat(first|(with_reducible first|exact HB.out|apply Zn|apply Zm|apply Zo|refine Zq ?_ GE99001.out)|exact HB.out))):w.heap.size≤gb99004));have n4_:=n3_;have n5_:=Za ((by rw[hg];exact Nat.ne_of_lt (ZW (g:=gb99001) (o:=.cells #[.int .i64 a0_0,.slice (some ad99003) l0_1.length c0_1] 54 (0,0)) BK99001.out):gb99001≠gb99004));have n6_:=Za n5_.out.symm;clear BK99001;clear HB;have BK99001:=n0_;have HB:=n1_;have BK99004:=n2_;have GW99004:=n3_;have GE99004:=n4_;have NB99001_99004:=n5_;have NB99004_99001:=n6_;clear n0_ n1_ n2_ n3_ n4_ n5_ n6_;clear hb hbox hg;have hnb25:=NB99004_99001.out;have hnc25:=NB99001_99004.out;have hcz26_0:w24.cell? ⟨gb99004,0,none⟩=some (.int .i64 0):=(Zp BK99004.out 0).trans rfl;have hcz26_1:w24.cell? ⟨gb99004,1,none⟩=some (.int .i64 0):=(Zp BK99004.out 1).trans rfl;have hcz26_2:w24.cell? ⟨gb99004,2,none⟩=some (.int .i64 0):=(Zp BK99004.out 2).trans rfl;have hcz26_3:w24.cell? ⟨gb99004,3,none⟩=some (.int .i64 0):=(Zp BK99004.out 3).trans rfl;have hfz26_0:=Zs BK99004.out 0;have hfz26_1:=Zs BK99004.out 1;have hfz26_2:=Zs BK99004.out 2;have hfz26_3:=Zs BK99004.out 3;have hcz27_0:w24.cell? ⟨gb99001,0,none⟩=some (.int .i64 a0_0):=(Zp BK99001.out 0).trans rfl;have hcz27_1:w24.cell? ⟨gb99001,1,none⟩=some (.slice (some ad99003) l0_1.length c0_1):=(Zp BK99001.out 1).trans rfl)|((with_reducible refine ZK (f:=127) rfl ?_);refine Z6 (some 27) rfl rfl Tryz.func127 (by kernel_rfl) rfl #[.int .i64 ((ZQ l0_1 x18_2).f0),.int .i64 0,.int .i64 (wrap64 (a0_0 - 1))] rfl (by(try simp only[List.map_toArray,List.map_cons,List.map_nil]);first|done|rfl|(simp only[Zk,Zj];rfl)) ?_;(with_reducible refine(ZY.calls ((ZQ l0_1 x18_2).f0) 0 (wrap64 (a0_0 - 1)) true _ A13.out).mono ?_);rintro e w' ⟨rfl,⟨nd,rfl⟩⟩;refine⟨_,rfl,?_⟩)|(go_at_call 127;(with_reducible refine(ZY.calls ((ZQ l0_1 x18_2).f1) 0 (wrap64 (a0_0 - 1)) true _ A15.out).mono ?_);rintro e w' ⟨rfl,⟨nd,rfl⟩⟩)|(go_at_call 157;(with_reducible refine(ZbF.calls ((ZQ l0_1 x18_2).f2.f0) ((ZQ l0_1 x18_2).f2.f1) false _ A17.out).mono ?_);rintro e w28 ⟨rfl,hb⟩;replace BK99001:=Za (Zx (g:=gb99001) (o:=.cells #[.int .i64 a0_0,.slice (some ad99003) l0_1.length c0_1] 54 (0,0)) (by(with_reducible repeat(first|refine Zw ?_ _|refine ZB ?_|refine Zv ?_ _));refine ZL ?_ NB99001_99004.out _;(with_reducible repeat(first|refine Zw ?_ _|refine ZB ?_|refine Zv ?_ _));refine ZL ?_ NB99001_99004.out _;(with_reducible repeat(first|refine Zw ?_ _|refine ZB ?_|refine Zv ?_ _));refine ZL ?_ NB99001_99004.out _;(with_reducible repeat(first|refine Zw ?_ _|refine ZB ?_|refine Zv ?_ _));refine ZL ?_ NB99001_99004.out _;(with_reducible repeat(first|refine Zw ?_ _|refine ZB ?_|refine Zv ?_ _));exact BK99001.out) hb);replace BK99004:=Za (Zx (g:=gb99004) (o:=.cells #[.int .i64 ((ZQ l0_1 x18_2).f0),.int .i64 ((ZQ l0_1 x18_2).f1),.int .i64 ((ZQ l0_1 x18_2).f2.f0),.int .i64 ((ZQ l0_1 x18_2).f2.f1)] 112 (0,0)) (by(with_reducible repeat(first|refine Zw ?_ _|refine ZB ?_|refine Zv ?_ _));refine ZP (cs:=#[.int .i64 ((ZQ l0_1 x18_2).f0),.int .i64 ((ZQ l0_1 x18_2).f1),.int .i64 ((ZQ l0_1 x18_2).f2.f0),.int .i64 0]) ?_ 3 _ rfl;(with_reducible repeat(first|refine Zw ?_ _|refine ZB ?_|refine Zv ?_ _));refine ZP (cs:=#[.int .i64 ((ZQ l0_1 x18_2).f0),.int .i64 ((ZQ l0_1 x18_2).f1),.int .i64 0,.int .i64 0]) ?_ 2 _ rfl;(with_reducible repeat(first|refine Zw ?_ _|refine ZB ?_|refine Zv ?_ _));refine ZP (cs:=#[.int .i64 ((ZQ l0_1 x18_2).f0),.int .i64 0,.int .i64 0,.int .i64 0]) ?_ 1 _ rfl;(with_reducible repeat(first|refine Zw ?_ _|refine ZB ?_|refine Zv ?_ _));refine ZP (cs:=#[.int .i64 0,.int .i64 0,.int .i64 0,.int .i64 0]) ?_ 0 _ rfl;(with_reducible repeat(first|refine Zw ?_ _|refine ZB ?_|refine Zv ?_ _));exact BK99004.out) hb);replace HB:=Za (Zt (by repeat(first|(with_reducible first|exact HB.out|apply Zn|apply Zm|apply Zo|refine Zq ?_ GE99001.out|refine Zq ?_ GE99004.out)|exact HB.out)) hb);(try clear hi)))
            go_ret
            exact⟨by first|rfl|(simp[ZA,Zz] <;> rfl)|(simp[*,ZA,Zz] <;> rfl),by repeat(first|(with_reducible first|exact HB.out|apply Zn|apply Zm|apply Zo|refine Zq ?_ GE99001.out|refine Zq ?_ GE99004.out)|exact HB.out)⟩
          ·replace c16:=Bool.eq_false_iff.mpr c16
           subst c16
           have H1:(some false)=some r:=by rw[if_neg (show ¬(false=true) by decide)] at H;exact H
           clear H
           have H:=H1
           clear H1
           obtain rfl:=Zg H
           have p99003:0≤(x18_2:Int):=Zd (by first|(with_reducible assumption)|assumption)
           have q99003:x18_2<(l0_1.length:Int):=Zd (by first|(with_reducible assumption)|assumption)
           obtain⟨ad99003,e99003,hx99003_0,hx99003_1,hx99003_2,hx99003_3⟩:=Za6 HR0_1.out x18_2 p99003 q99003
           cases e99003
           replace hx99003_0:=(HB.out.cell (Zc w _ hx99003_0)).trans hx99003_0
           replace hx99003_1:=(HB.out.cell (Zc w _ hx99003_1)).trans hx99003_1
           replace hx99003_2:=(HB.out.cell (Zc w _ hx99003_2)).trans hx99003_2
           replace hx99003_3:=(HB.out.cell (Zc w _ hx99003_3)).trans hx99003_3
           replace p99003:=eq_true p99003
           replace q99003:=eq_true q99003
           go_wp2_with (first|((with_reducible refine ZI (N:=4) rfl ?_);refine ZG ?hg (N:=4) ?hd (cs:=#[.int .i64 0,.int .i64 0,.int .i64 0,.int .i64 0]) (t:=112) ?hr ?_;(case hd=>rfl);(case hg=>rfl);(case hr=>first|(go_simp;done)|(go_simp;rfl));intro gb99004 hg w29 hbox hb;have n0_:=Za (Zx (g:=gb99001) (o:=.cells #[.int .i64 a0_0,.slice (some ad99003) l0_1.length c0_1] 54 (0,0)) BK99001.out hb);have n1_:=Za (Zt (by repeat(first|(with_reducible first|exact HB.out|apply Zn|apply Zm|apply Zo|refine Zq ?_ GE99001.out)|exact HB.out)) hb);have n2_:=Za (hbox);have n3_:=Za ((by rw[hg];exact(ZC (by repeat(first|(with_reducible first|exact HB.out|apply Zn|apply Zm|apply Zo|refine Zq ?_ GE99001.out)|exact HB.out))):w.heap.size≤gb99004));have n4_:=n3_;have n5_:=Za ((by rw[hg];exact Nat.ne_of_lt (ZW (g:=gb99001) (o:=.cells #[.int .i64 a0_0,.slice (some ad99003) l0_1.length c0_1] 54 (0,0)) BK99001.out):gb99001≠gb99004));have n6_:=Za n5_.out.symm;clear BK99001;clear HB;have BK99001:=n0_;have HB:=n1_;have BK99004:=n2_;have GW99004:=n3_;have GE99004:=n4_;have NB99001_99004:=n5_;have NB99004_99001:=n6_;clear n0_ n1_ n2_ n3_ n4_ n5_ n6_;clear hb hbox hg;have hnb30:=NB99004_99001.out;have hnc30:=NB99001_99004.out;have hcz31_0:w29.cell? ⟨gb99004,0,none⟩=some (.int .i64 0):=(Zp BK99004.out 0).trans rfl;have hcz31_1:w29.cell? ⟨gb99004,1,none⟩=some (.int .i64 0):=(Zp BK99004.out 1).trans rfl;have hcz31_2:w29.cell? ⟨gb99004,2,none⟩=some (.int .i64 0):=(Zp BK99004.out 2).trans rfl;have hcz31_3:w29.cell? ⟨gb99004,3,none⟩=some (.int .i64 0):=(Zp BK99004.out 3).trans rfl;have hfz31_0:=Zs BK99004.out 0;have hfz31_1:=Zs BK99004.out 1;have hfz31_2:=Zs BK99004.out 2;have hfz31_3:=Zs BK99004.out 3;have hcz32_0:w29.cell? ⟨gb99001,0,none⟩=some (.int .i64 a0_0):=(Zp BK99001.out 0).trans rfl;have hcz32_1:w29.cell? ⟨gb99001,1,none⟩=some (.slice (some ad99003) l0_1.length c0_1):=(Zp BK99001.out 1).trans rfl)|((with_reducible refine ZK (f:=127) rfl ?_);refine Z6 (some 27) rfl rfl Tryz.func127 (by kernel_rfl) rfl #[.int .i64 ((ZQ l0_1 x18_2).f0),.int .i64 0,.int .i64 (wrap64 (a0_0 - 1))] rfl (by(try simp only[List.map_toArray,List.map_cons,List.map_nil]);first|done|rfl|(simp only[Zk,Zj];rfl)) ?_;(with_reducible refine(ZY.calls ((ZQ l0_1 x18_2).f0) 0 (wrap64 (a0_0 - 1)) true _ A13.out).mono ?_);rintro e w' ⟨rfl,⟨nd,rfl⟩⟩;refine⟨_,rfl,?_⟩)|(go_at_call 127;(with_reducible refine(ZY.calls ((ZQ l0_1 x18_2).f1) 0 (wrap64 (a0_0 - 1)) false _ A15.out).mono ?_);rintro e w' ⟨rfl,⟨nd,rfl⟩⟩))
           go_ret
           exact⟨by first|rfl|(simp[ZA,Zz] <;> rfl)|(simp[*,ZA,Zz] <;> rfl),by repeat(first|(with_reducible first|exact HB.out|apply Zn|apply Zm|apply Zo|refine Zq ?_ GE99001.out|refine Zq ?_ GE99004.out)|exact HB.out)⟩
         ·replace c14:=Bool.eq_false_iff.mpr c14
          subst c14
          have H1:(some false)=some r:=by rw[if_neg (show ¬(false=true) by decide)] at H;exact H
          clear H
          have H:=H1
          clear H1
          obtain rfl:=Zg H
          have p99003:0≤(x18_2:Int):=Zd (by first|(with_reducible assumption)|assumption)
          have q99003:x18_2<(l0_1.length:Int):=Zd (by first|(with_reducible assumption)|assumption)
          obtain⟨ad99003,e99003,hx99003_0,hx99003_1,hx99003_2,hx99003_3⟩:=Za6 HR0_1.out x18_2 p99003 q99003
          cases e99003
          replace hx99003_0:=(HB.out.cell (Zc w _ hx99003_0)).trans hx99003_0
          replace hx99003_1:=(HB.out.cell (Zc w _ hx99003_1)).trans hx99003_1
          replace hx99003_2:=(HB.out.cell (Zc w _ hx99003_2)).trans hx99003_2
          replace hx99003_3:=(HB.out.cell (Zc w _ hx99003_3)).trans hx99003_3
          replace p99003:=eq_true p99003
          replace q99003:=eq_true q99003
          go_wp2_with (first|((with_reducible refine ZI (N:=4) rfl ?_);refine ZG ?hg (N:=4) ?hd (cs:=#[.int .i64 0,.int .i64 0,.int .i64 0,.int .i64 0]) (t:=112) ?hr ?_;(case hd=>rfl);(case hg=>rfl);(case hr=>first|(go_simp;done)|(go_simp;rfl));intro gb99004 hg w33 hbox hb;have n0_:=Za (Zx (g:=gb99001) (o:=.cells #[.int .i64 a0_0,.slice (some ad99003) l0_1.length c0_1] 54 (0,0)) BK99001.out hb);have n1_:=Za (Zt (by repeat(first|(with_reducible first|exact HB.out|apply Zn|apply Zm|apply Zo|refine Zq ?_ GE99001.out)|exact HB.out)) hb);have n2_:=Za (hbox);have n3_:=Za ((by rw[hg];exact(ZC (by repeat(first|(with_reducible first|exact HB.out|apply Zn|apply Zm|apply Zo|refine Zq ?_ GE99001.out)|exact HB.out))):w.heap.size≤gb99004));have n4_:=n3_;have n5_:=Za ((by rw[hg];exact Nat.ne_of_lt (ZW (g:=gb99001) (o:=.cells #[.int .i64 a0_0,.slice (some ad99003) l0_1.length c0_1] 54 (0,0)) BK99001.out):gb99001≠gb99004));have n6_:=Za n5_.out.symm;clear BK99001;clear HB;have BK99001:=n0_;have HB:=n1_;have BK99004:=n2_;have GW99004:=n3_;have GE99004:=n4_;have NB99001_99004:=n5_;have NB99004_99001:=n6_;clear n0_ n1_ n2_ n3_ n4_ n5_ n6_;clear hb hbox hg;have hnb34:=NB99004_99001.out;have hnc34:=NB99001_99004.out;have hcz35_0:w33.cell? ⟨gb99004,0,none⟩=some (.int .i64 0):=(Zp BK99004.out 0).trans rfl;have hcz35_1:w33.cell? ⟨gb99004,1,none⟩=some (.int .i64 0):=(Zp BK99004.out 1).trans rfl;have hcz35_2:w33.cell? ⟨gb99004,2,none⟩=some (.int .i64 0):=(Zp BK99004.out 2).trans rfl;have hcz35_3:w33.cell? ⟨gb99004,3,none⟩=some (.int .i64 0):=(Zp BK99004.out 3).trans rfl;have hfz35_0:=Zs BK99004.out 0;have hfz35_1:=Zs BK99004.out 1;have hfz35_2:=Zs BK99004.out 2;have hfz35_3:=Zs BK99004.out 3;have hcz36_0:w33.cell? ⟨gb99001,0,none⟩=some (.int .i64 a0_0):=(Zp BK99001.out 0).trans rfl;have hcz36_1:w33.cell? ⟨gb99001,1,none⟩=some (.slice (some ad99003) l0_1.length c0_1):=(Zp BK99001.out 1).trans rfl)|((with_reducible refine ZK (f:=127) rfl ?_);refine Z6 (some 27) rfl rfl Tryz.func127 (by kernel_rfl) rfl #[.int .i64 ((ZQ l0_1 x18_2).f0),.int .i64 0,.int .i64 (wrap64 (a0_0 - 1))] rfl (by(try simp only[List.map_toArray,List.map_cons,List.map_nil]);first|done|rfl|(simp only[Zk,Zj];rfl)) ?_;(with_reducible refine(ZY.calls ((ZQ l0_1 x18_2).f0) 0 (wrap64 (a0_0 - 1)) false _ A13.out).mono ?_);rintro e w' ⟨rfl,⟨nd,rfl⟩⟩;refine⟨_,rfl,?_⟩))
          go_ret
          exact⟨by first|rfl|(simp[ZA,Zz] <;> rfl)|(simp[*,ZA,Zz] <;> rfl),by repeat(first|(with_reducible first|exact HB.out|apply Zn|apply Zm|apply Zo|refine Zq ?_ GE99001.out|refine Zq ?_ GE99004.out)|exact HB.out)⟩
        ·rw[if_neg c12] at H
         exact absurd H (by simp)
       ·rw[if_neg c11] at H
        exact absurd H (by simp)
      ·rw[if_neg c10] at H
       have c10b0:decide (x18_2<(l0_1.length:Int))=false:=Zf c10
       clear c10
       obtain rfl:=Zg H
       go_wp2
       go_ret
       exact⟨by first|rfl|(simp[ZA,Zz] <;> rfl)|(simp[*,ZA,Zz] <;> rfl),by repeat(first|(with_reducible first|exact HB.out|apply Zn|apply Zm|apply Zo|refine Zq ?_ GE99001.out)|exact HB.out)⟩
end Go.Proofs.YtoeimopgoaffcaaGreatDoor.Pr
