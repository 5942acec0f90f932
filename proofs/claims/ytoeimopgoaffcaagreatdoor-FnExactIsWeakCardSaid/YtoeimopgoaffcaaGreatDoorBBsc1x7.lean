/- The texts of one claim, put together by a program of this session. -/
import Derived.Deep.LoopGhost
import Derived.BigQuiet
import Derived.Test.YtoeimopgoaffcaaGreatDoorBBsc1x1
import Derived.Test.YtoeimopgoaffcaaGreatDoorBBsc1x2
import Derived.Test.YtoeimopgoaffcaaGreatDoorBBsc1x3
import Derived.Test.YtoeimopgoaffcaaGreatDoorBBsc1x4
import Derived.Test.YtoeimopgoaffcaaGreatDoorBBsc1x6
namespace Go.Proofs.YtoeimopgoaffcaaGreatDoor.Pr
open Go.RowKit Go.Proofs.YtoeimopgoaffcaaGreatDoorW.PrintWords Go.Proofs.YtoeimopgoaffcaaGreatDoorW.PrintLast Go.Proofs.YtoeimopgoaffcaaGreatDoorW.PrintMore
attribute [local go_sem] ZU ZS ZW ZV ZO ZN ZT ZR
set_option linter.unusedVariables false
set_option linter.unusedSimpArgs false
mutual
def Z6.j0:Nat→Bool→List (S39)→List (S82)→Int→Option (Bool)
 | 0,_,_,_,_=>none
 | k+1,x18,x57002000,x57002001,x57002002=>if x18=true then(some false) else(Z6.l0 k (x57002001.length:Int) 0 x57002000 x57002001 x57002002)
def Z6.l0:Nat→Int→Int→List (S39)→List (S82)→Int→Option (Bool)
 | 0,_,_,_,_,_=>none
 | k+1,x21,x22,x57002000,x57002001,x57002002=>if x22<x21 then((Zch.f x57002000 x57002001 x57002002 x22).bind fun t57004=>(if t57004=true then(Z6.l0 k x21 (wrap64 (x22+1)) x57002000 x57002001 x57002002) else(some false))) else(some true)
end
def Z6.f (k:Nat) (l0_0:List (S39)) (l0_1:List (S82)) (a0_2:Int):Option (Bool):=(Zbd.f l0_0 l0_1 a0_2).bind fun t57002=>(if t57002=true then(if (l0_1.length:Int) > 14 then(Z6.j0 k true l0_0 l0_1 a0_2) else((Z2.f a0_2 1 10).bind fun t57003=>(Z6.j0 k (!t57003) l0_0 l0_1 a0_2))) else(Z6.j0 k true l0_0 l0_1 a0_2))
set_option maxHeartbeats 8000000 in
set_option maxRecDepth 100000 in
theorem Z6.calls (k:Nat) (A0_0:Option Addr) (c0_0:Nat) (l0_0:List (S39)) (A0_1:Option Addr) (c0_1:Nat) (l0_1:List (S82)) (a0_2:Int) (r:Bool) (w:World) (hr0_0:Kd.C k39 w A0_0 l0_0.length l0_0) (hc0_0:l0_0.length≤c0_0) (hr0_1:Kd.C k82 w A0_1 l0_1.length l0_1) (hc0_1:l0_1.length≤c0_1) (h:Z6.f k l0_0 l0_1 a0_2=some r) :
  Calls Tryz.prog 57 #[.agg #[.slice A0_0 l0_0.length c0_0,.slice A0_1 l0_1.length c0_1,.int .i64 a0_2]] w fun e w'=>e=.returned (.bool r)∧Below w.heap.size w w':=by
 have hu25:=Tryz.underlying25
 have HR0_0:=Za hr0_0;have HC0_0:=Za hc0_0;clear hr0_0 hc0_0;have HR0_1:=Za hr0_1;have HC0_1:=Za hc0_1;clear hr0_1 hc0_1
 have HB:=Za (Below.refl w.heap.size w)
 have H:((Zbd.f l0_0 l0_1 a0_2).bind fun t57002=>(if t57002=true then(if (l0_1.length:Int) > 14 then(Z6.j0 k true l0_0 l0_1 a0_2) else((Z2.f a0_2 1 10).bind fun t57003=>(Z6.j0 k (!t57003) l0_0 l0_1 a0_2))) else(Z6.j0 k true l0_0 l0_1 a0_2)))=some r:=h
 clear h;have HC2:=Za H;clear H
 go_enter Tryz.func57,Tryz.ntmps57
 go_upto_region 1 with (first|((with_reducible refine ZF (N:=1) rfl ?_);refine ZG ?hg (N:=1) ?hd (cs:=#[.slice A0_0 l0_0.length c0_0,.slice A0_1 l0_1.length c0_1,.int .i64 a0_2]) (t:=25) ?hr ?_;(case hd=>rfl);(case hg=>rfl);(case hr=>first|(go_simp;done)|(go_simp;rfl));intro gb57001 hg w3 hbox hb;have BK57001:=Za (hbox);have GW57001:=Za ((by rw[hg];exact(Zy (by repeat(first|(with_reducible first|exact HB.out|apply Zn|apply Zm|apply Zo)|exact HB.out))):w.heap.size≤gb57001));have GE57001:=Za ((by rw[hg];exact(Zy (by repeat(first|(with_reducible first|exact HB.out|apply Zn|apply Zm|apply Zo)|exact HB.out))):w.heap.size≤gb57001));replace HB:=Za (Zw (by repeat(first|(with_reducible first|exact HB.out|apply Zn|apply Zm|apply Zo)|exact HB.out)) hb);clear hb hbox hg))
 (try simp only[Act.put,List.setIfInBounds_toArray,List.set_cons_zero,List.set_cons_succ])
 go_cut [18] (fun v18 wc=>∃(kq:Nat) (x18_1:Bool),v18=.bool x18_1∧Aside0 (Z6.j0 kq x18_1 l0_0 l0_1 a0_2=some r)∧Aside0 (kq≤k)∧Aside0 (wc.heap[gb57001]? = some (.cells #[(.slice A0_0 l0_0.length c0_0),(.slice A0_1 l0_1.length c0_1),.int .i64 a0_2] 25 (0,0)))∧Aside0 (Below w.heap.size w wc))
 case first=>
  have H:=HC2.out
  clear HC2
  replace H:=Zh H
  obtain⟨t57002,A40,H⟩:=H;have A4:=Za A40;clear A40
  by_cases c5:t57002=true
  ·subst c5
   rw[if_pos rfl] at H
   by_cases c6:(l0_1.length:Int) > 14
   ·rw[if_pos c6] at H
    have c6b0:decide (14<(l0_1.length:Int))=true:=Ze c6
    clear c6
    have H':=Za H
    clear H
    have hcz7_0:w3.cell? ⟨gb57001,0,none⟩=some (.slice A0_0 l0_0.length c0_0):=(Zp BK57001.out 0).trans rfl
    have hcz7_1:w3.cell? ⟨gb57001,1,none⟩=some (.slice A0_1 l0_1.length c0_1):=(Zp BK57001.out 1).trans rfl
    have hcz7_2:w3.cell? ⟨gb57001,2,none⟩=some (.int .i64 a0_2):=(Zp BK57001.out 2).trans rfl
    have hfz7_0:=Zr BK57001.out 0
    have hfz7_1:=Zr BK57001.out 1
    have hfz7_2:=Zr BK57001.out 2
    go_wp2_with (first|((with_reducible refine ZJ (f:=126) rfl ?_);refine Zaa (some 5) rfl rfl Tryz.func126 (by kernel_rfl) rfl #[.agg #[.slice A0_0 l0_0.length c0_0,.slice A0_1 l0_1.length c0_1,.int .i64 a0_2]] rfl (by(try simp only[List.map_toArray,List.map_cons,List.map_nil]);first|done|rfl|(simp only[Zk,Zj];rfl)) ?_;(with_reducible refine(Zbd.calls _ _ l0_0 _ _ l0_1 a0_2 true _ ?side1 ?side2 ?side3 ?side4 A4.out).mono ?_);(case side1=>repeat(first|exact(Zb HR0_0.out HB.out)|(with_reducible refine Kd.C_alloc ?_ _)|(with_reducible refine Kd.C_drewN ?_ _)|(with_reducible refine Kd.C_drew ?_)));(case side2=>exact HC0_0.out);(case side3=>repeat(first|exact(Zb HR0_1.out HB.out)|(with_reducible refine Kd.C_alloc ?_ _)|(with_reducible refine Kd.C_drewN ?_ _)|(with_reducible refine Kd.C_drew ?_)));(case side4=>exact HC0_1.out);rintro e w8 ⟨rfl,hb⟩;refine⟨_,rfl,?_⟩;replace BK57001:=Za (ZA (g:=gb57001) (o:=.cells #[.slice A0_0 l0_0.length c0_0,.slice A0_1 l0_1.length c0_1,.int .i64 a0_2] 25 (0,0)) (by(with_reducible repeat(first|refine Zt ?_ _|refine Zv ?_|refine Zs ?_ _));exact BK57001.out) hb);replace HB:=Za (Zw (by repeat(first|(with_reducible first|exact HB.out|apply Zn|apply Zm|apply Zo|refine Zq ?_ GE57001.out)|exact HB.out)) hb);have hcz9_0:w8.cell? ⟨gb57001,0,none⟩=some (.slice A0_0 l0_0.length c0_0):=(Zp BK57001.out 0).trans rfl;have hcz9_1:w8.cell? ⟨gb57001,1,none⟩=some (.slice A0_1 l0_1.length c0_1):=(Zp BK57001.out 1).trans rfl;have hcz9_2:w8.cell? ⟨gb57001,2,none⟩=some (.int .i64 a0_2):=(Zp BK57001.out 2).trans rfl))
    go_meet
    case rel=>exact⟨_,(true),(by first|rfl|(simp;done)|(simp[*];done)),H',⟨by first|omega|exact Nat.le_refl _⟩,⟨by(with_reducible repeat(first|refine Zt ?_ _|refine Zv ?_|refine Zs ?_ _));exact BK57001.out⟩,⟨by repeat(first|(with_reducible first|exact HB.out|apply Zn|apply Zm|apply Zo|refine Zq ?_ GE57001.out)|exact HB.out)⟩⟩
   ·rw[if_neg c6] at H
    have c6b0:decide (14<(l0_1.length:Int))=false:=Zf c6
    clear c6
    replace H:=Zh H
    obtain⟨t57003,A100,H⟩:=H;have A10:=Za A100;clear A100
    have H':=Za H
    clear H
    have hcz11_0:w3.cell? ⟨gb57001,0,none⟩=some (.slice A0_0 l0_0.length c0_0):=(Zp BK57001.out 0).trans rfl
    have hcz11_1:w3.cell? ⟨gb57001,1,none⟩=some (.slice A0_1 l0_1.length c0_1):=(Zp BK57001.out 1).trans rfl
    have hcz11_2:w3.cell? ⟨gb57001,2,none⟩=some (.int .i64 a0_2):=(Zp BK57001.out 2).trans rfl
    have hfz11_0:=Zr BK57001.out 0
    have hfz11_1:=Zr BK57001.out 1
    have hfz11_2:=Zr BK57001.out 2
    go_wp2_with (first|((with_reducible refine ZJ (f:=126) rfl ?_);refine Zaa (some 5) rfl rfl Tryz.func126 (by kernel_rfl) rfl #[.agg #[.slice A0_0 l0_0.length c0_0,.slice A0_1 l0_1.length c0_1,.int .i64 a0_2]] rfl (by(try simp only[List.map_toArray,List.map_cons,List.map_nil]);first|done|rfl|(simp only[Zk,Zj];rfl)) ?_;(with_reducible refine(Zbd.calls _ _ l0_0 _ _ l0_1 a0_2 true _ ?side1 ?side2 ?side3 ?side4 A4.out).mono ?_);(case side1=>repeat(first|exact(Zb HR0_0.out HB.out)|(with_reducible refine Kd.C_alloc ?_ _)|(with_reducible refine Kd.C_drewN ?_ _)|(with_reducible refine Kd.C_drew ?_)));(case side2=>exact HC0_0.out);(case side3=>repeat(first|exact(Zb HR0_1.out HB.out)|(with_reducible refine Kd.C_alloc ?_ _)|(with_reducible refine Kd.C_drewN ?_ _)|(with_reducible refine Kd.C_drew ?_)));(case side4=>exact HC0_1.out);rintro e w12 ⟨rfl,hb⟩;refine⟨_,rfl,?_⟩;replace BK57001:=Za (ZA (g:=gb57001) (o:=.cells #[.slice A0_0 l0_0.length c0_0,.slice A0_1 l0_1.length c0_1,.int .i64 a0_2] 25 (0,0)) (by(with_reducible repeat(first|refine Zt ?_ _|refine Zv ?_|refine Zs ?_ _));exact BK57001.out) hb);replace HB:=Za (Zw (by repeat(first|(with_reducible first|exact HB.out|apply Zn|apply Zm|apply Zo|refine Zq ?_ GE57001.out)|exact HB.out)) hb);have hcz13_0:w12.cell? ⟨gb57001,0,none⟩=some (.slice A0_0 l0_0.length c0_0):=(Zp BK57001.out 0).trans rfl;have hcz13_1:w12.cell? ⟨gb57001,1,none⟩=some (.slice A0_1 l0_1.length c0_1):=(Zp BK57001.out 1).trans rfl;have hcz13_2:w12.cell? ⟨gb57001,2,none⟩=some (.int .i64 a0_2):=(Zp BK57001.out 2).trans rfl)|(go_at_call 127;(with_reducible refine(Z2.calls a0_2 1 10 t57003 _ A10.out).mono ?_);rintro e w' ⟨rfl,⟨nd,rfl⟩⟩))
    go_meet
    case rel=>exact⟨_,(!t57003),(by first|rfl|(simp;done)|(simp[*];done)),H',⟨by first|omega|exact Nat.le_refl _⟩,⟨by(with_reducible repeat(first|refine Zt ?_ _|refine Zv ?_|refine Zs ?_ _));exact BK57001.out⟩,⟨by repeat(first|(with_reducible first|exact HB.out|apply Zn|apply Zm|apply Zo|refine Zq ?_ GE57001.out)|exact HB.out)⟩⟩
  ·replace c5:=Bool.eq_false_iff.mpr c5
   subst c5
   have H1:(Z6.j0 k true l0_0 l0_1 a0_2)=some r:=by rw[if_neg (show ¬(false=true) by decide)] at H;exact H
   clear H
   have H:=H1
   clear H1
   have H':=Za H
   clear H
   have hcz14_0:w3.cell? ⟨gb57001,0,none⟩=some (.slice A0_0 l0_0.length c0_0):=(Zp BK57001.out 0).trans rfl
   have hcz14_1:w3.cell? ⟨gb57001,1,none⟩=some (.slice A0_1 l0_1.length c0_1):=(Zp BK57001.out 1).trans rfl
   have hcz14_2:w3.cell? ⟨gb57001,2,none⟩=some (.int .i64 a0_2):=(Zp BK57001.out 2).trans rfl
   have hfz14_0:=Zr BK57001.out 0
   have hfz14_1:=Zr BK57001.out 1
   have hfz14_2:=Zr BK57001.out 2
   go_wp2_with (first|((with_reducible refine ZJ (f:=126) rfl ?_);refine Zaa (some 5) rfl rfl Tryz.func126 (by kernel_rfl) rfl #[.agg #[.slice A0_0 l0_0.length c0_0,.slice A0_1 l0_1.length c0_1,.int .i64 a0_2]] rfl (by(try simp only[List.map_toArray,List.map_cons,List.map_nil]);first|done|rfl|(simp only[Zk,Zj];rfl)) ?_;(with_reducible refine(Zbd.calls _ _ l0_0 _ _ l0_1 a0_2 false _ ?side1 ?side2 ?side3 ?side4 A4.out).mono ?_);(case side1=>repeat(first|exact(Zb HR0_0.out HB.out)|(with_reducible refine Kd.C_alloc ?_ _)|(with_reducible refine Kd.C_drewN ?_ _)|(with_reducible refine Kd.C_drew ?_)));(case side2=>exact HC0_0.out);(case side3=>repeat(first|exact(Zb HR0_1.out HB.out)|(with_reducible refine Kd.C_alloc ?_ _)|(with_reducible refine Kd.C_drewN ?_ _)|(with_reducible refine Kd.C_drew ?_)));(case side4=>exact HC0_1.out);rintro e w15 ⟨rfl,hb⟩;refine⟨_,rfl,?_⟩;replace BK57001:=Za (ZA (g:=gb57001) (o:=.cells #[.slice A0_0 l0_0.length c0_0,.slice A0_1 l0_1.length c0_1,.int .i64 a0_2] 25 (0,0)) (by(with_reducible repeat(first|refine Zt ?_ _|refine Zv ?_|refine Zs ?_ _));exact BK57001.out) hb);replace HB:=Za (Zw (by repeat(first|(with_reducible first|exact HB.out|apply Zn|apply Zm|apply Zo|refine Zq ?_ GE57001.out)|exact HB.out)) hb);(try clear hi)))
   go_meet
   case rel=>exact⟨_,(true),(by first|rfl|(simp;done)|(simp[*];done)),H',⟨by first|omega|exact Nat.le_refl _⟩,⟨by(with_reducible repeat(first|refine Zt ?_ _|refine Zv ?_|refine Zs ?_ _));exact BK57001.out⟩,⟨by repeat(first|(with_reducible first|exact HB.out|apply Zn|apply Zm|apply Zo|refine Zq ?_ GE57001.out)|exact HB.out)⟩⟩
 case rest=>
  clear HC2
  try clear c1
  try clear p2
  try clear c5
  try clear c6
  try clear c6b0
  try clear c6b1
  try clear c12
  try clear hcz11_0
  try clear hcz11_1
  try clear hcz11_2
  try clear hcz13_0
  try clear hcz13_1
  try clear hcz13_2
  try clear hcz14_0
  try clear hcz14_1
  try clear hcz14_2
  try clear hcz7_0
  try clear hcz7_1
  try clear hcz7_2
  try clear hcz9_0
  try clear hcz9_1
  try clear hcz9_2
  try clear hfz11_0
  try clear hfz11_1
  try clear hfz11_2
  try clear hfz13_0
  try clear hfz13_1
  try clear hfz13_2
  try clear hfz14_0
  try clear hfz14_1
  try clear hfz14_2
  try clear hfz7_0
  try clear hfz7_1
  try clear hfz7_2
  try clear hfz9_0
  try clear hfz9_1
  try clear hfz9_2
  obtain⟨kq,x18_1,rfl,HA,HJ1,BK57001,HB⟩:=hcut
  cases kq with
  | zero=>exact absurd HA.out (by simp[Z6.j0])
  | succ kj1=>
   have H:=HA.out
   clear HA
   simp only[Z6.j0] at H
   by_cases c16:x18_1=true
   ·subst c16
    rw[if_pos rfl] at H
    obtain rfl:=Zg H
    go_wp2
    go_ret
    exact⟨by first|rfl|(simp[ZC,ZB] <;> rfl)|(simp[*,ZC,ZB] <;> rfl),by repeat(first|(with_reducible first|exact HB.out|apply Zn|apply Zm|apply Zo|refine Zq ?_ GE57001.out)|exact HB.out)⟩
   ·replace c16:=Bool.eq_false_iff.mpr c16
    subst c16
    have H1:(Z6.l0 kj1 (l0_1.length:Int) 0 l0_0 l0_1 a0_2)=some r:=by rw[if_neg (show ¬(false=true) by decide)] at H;exact H
    clear H
    have H:=H1
    clear H1
    have H':=Za H
    clear H
    have hcz17_0:wc.cell? ⟨gb57001,0,none⟩=some (.slice A0_0 l0_0.length c0_0):=(Zp BK57001.out 0).trans rfl
    have hcz17_1:wc.cell? ⟨gb57001,1,none⟩=some (.slice A0_1 l0_1.length c0_1):=(Zp BK57001.out 1).trans rfl
    have hcz17_2:wc.cell? ⟨gb57001,2,none⟩=some (.int .i64 a0_2):=(Zp BK57001.out 2).trans rfl
    have hfz17_0:=Zr BK57001.out 0
    have hfz17_1:=Zr BK57001.out 1
    have hfz17_2:=Zr BK57001.out 2
    go_wp2
    go_loopg [22] kj1 (fun kq v22 w'=>∃(x22_2:Int),v22=.int .i64 x22_2∧Aside0 (Z6.l0 kq (l0_1.length:Int) x22_2 l0_0 l0_1 a0_2=some r)∧Aside0 (kq≤kj1)∧Aside0 (w'.heap[gb57001]? = some (.cells #[(.slice A0_0 l0_0.length c0_0),(.slice A0_1 l0_1.length c0_1),.int .i64 a0_2] 25 (0,0)))∧Aside0 (Below w.heap.size w w'))
    case atStart=>exact⟨(0),(by first|rfl|(simp;done)|(simp[*];done)),H',⟨Nat.le_refl _⟩,⟨by(with_reducible repeat(first|refine Zt ?_ _|refine Zv ?_|refine Zs ?_ _));exact BK57001.out⟩,⟨by repeat(first|(with_reducible first|exact HB.out|apply Zn|apply Zm|apply Zo|refine Zq ?_ GE57001.out)|exact HB.out)⟩⟩
    case round=>
     clear H'
     try clear c1
     try clear p2
     try clear c5
     try clear c6
     try clear c6b0
     try clear c6b1
     try clear c12
     try clear c16
     try clear hcz11_0
     try clear hcz11_1
     try clear hcz11_2
     try clear hcz13_0
     try clear hcz13_1
     try clear hcz13_2
     try clear hcz14_0
     try clear hcz14_1
     try clear hcz14_2
     try clear hcz17_0
     try clear hcz17_1
     try clear hcz17_2
     try clear hcz7_0
     try clear hcz7_1
     try clear hcz7_2
     try clear hcz9_0
     try clear hcz9_1
     try clear hcz9_2
     try clear hfz11_0
     try clear hfz11_1
     try clear hfz11_2
     try clear hfz13_0
     try clear hfz13_1
     try clear hfz13_2
     try clear hfz14_0
     try clear hfz14_1
     try clear hfz14_2
     try clear hfz17_0
     try clear hfz17_1
     try clear hfz17_2
     try clear hfz7_0
     try clear hfz7_1
     try clear hfz7_2
     try clear hfz9_0
     try clear hfz9_1
     try clear hfz9_2
     try clear p2
     obtain⟨x22_2,rfl,HA,HK2,BK57001,HB⟩:=hrel
     cases gk with
     | zero=>exact absurd HA.out (by simp[Z6.l0])
     | succ k2=>
      have H:=HA.out
      clear HA
      simp only[Z6.l0] at H
      by_cases c18:x22_2<(l0_1.length:Int)
      ·rw[if_pos c18] at H
       have c18b0:decide (x22_2<(l0_1.length:Int))=true:=Ze c18
       clear c18
       replace H:=Zh H
       obtain⟨t57004,A190,H⟩:=H;have A19:=Za A190;clear A190
       by_cases c20:t57004=true
       ·subst c20
        rw[if_pos rfl] at H
        have H':=Za H
        clear H
        have hcz21_0:wr.cell? ⟨gb57001,0,none⟩=some (.slice A0_0 l0_0.length c0_0):=(Zp BK57001.out 0).trans rfl
        have hcz21_1:wr.cell? ⟨gb57001,1,none⟩=some (.slice A0_1 l0_1.length c0_1):=(Zp BK57001.out 1).trans rfl
        have hcz21_2:wr.cell? ⟨gb57001,2,none⟩=some (.int .i64 a0_2):=(Zp BK57001.out 2).trans rfl
        have hfz21_0:=Zr BK57001.out 0
        have hfz21_1:=Zr BK57001.out 1
        have hfz21_2:=Zr BK57001.out 2
        go_wp2_with (first|((with_reducible refine ZJ (f:=128) rfl ?_);refine Zaa (some 27) rfl rfl Tryz.func128 (by kernel_rfl) rfl #[.agg #[.slice A0_0 l0_0.length c0_0,.slice A0_1 l0_1.length c0_1,.int .i64 a0_2],.int .i64 x22_2] rfl (by(try simp only[List.map_toArray,List.map_cons,List.map_nil]);first|done|rfl|(simp only[Zk,Zj];rfl)) ?_;(with_reducible refine(Zch.calls _ _ l0_0 _ _ l0_1 a0_2 x22_2 true _ ?side1 ?side2 ?side3 ?side4 A19.out).mono ?_);(case side1=>repeat(first|exact(Zb HR0_0.out HB.out)|(with_reducible refine Kd.C_alloc ?_ _)|(with_reducible refine Kd.C_drewN ?_ _)|(with_reducible refine Kd.C_drew ?_)));(case side2=>exact HC0_0.out);(case side3=>repeat(first|exact(Zb HR0_1.out HB.out)|(with_reducible refine Kd.C_alloc ?_ _)|(with_reducible refine Kd.C_drewN ?_ _)|(with_reducible refine Kd.C_drew ?_)));(case side4=>exact HC0_1.out);rintro e w22 ⟨rfl,hb⟩;refine⟨_,rfl,?_⟩;replace BK57001:=Za (ZA (g:=gb57001) (o:=.cells #[.slice A0_0 l0_0.length c0_0,.slice A0_1 l0_1.length c0_1,.int .i64 a0_2] 25 (0,0)) (by(with_reducible repeat(first|refine Zt ?_ _|refine Zv ?_|refine Zs ?_ _));exact BK57001.out) hb);replace HB:=Za (Zw (by repeat(first|(with_reducible first|exact HB.out|apply Zn|apply Zm|apply Zo|refine Zq ?_ GE57001.out)|exact HB.out)) hb);(try clear hi)))
        go_roundg k2
        case measure=>have:=HJ1.out;have:=HK2.out;omega
        case rel=>exact⟨(wrap64 (x22_2+1)),(by first|rfl|(simp;done)|(simp[*];done)),H',⟨by have:=HJ1.out;have:=HK2.out;omega⟩,⟨by(with_reducible repeat(first|refine Zt ?_ _|refine Zv ?_|refine Zs ?_ _));exact BK57001.out⟩,⟨by repeat(first|(with_reducible first|exact HB.out|apply Zn|apply Zm|apply Zo|refine Zq ?_ GE57001.out)|exact HB.out)⟩⟩
       ·replace c20:=Bool.eq_false_iff.mpr c20
        subst c20
        have H1:(some false)=some r:=by rw[if_neg (show ¬(false=true) by decide)] at H;exact H
        clear H
        have H:=H1
        clear H1
        obtain rfl:=Zg H
        have hcz23_0:wr.cell? ⟨gb57001,0,none⟩=some (.slice A0_0 l0_0.length c0_0):=(Zp BK57001.out 0).trans rfl
        have hcz23_1:wr.cell? ⟨gb57001,1,none⟩=some (.slice A0_1 l0_1.length c0_1):=(Zp BK57001.out 1).trans rfl
        have hcz23_2:wr.cell? ⟨gb57001,2,none⟩=some (.int .i64 a0_2):=(Zp BK57001.out 2).trans rfl
        have hfz23_0:=Zr BK57001.out 0
        have hfz23_1:=Zr BK57001.out 1
        have hfz23_2:=Zr BK57001.out 2
        go_wp2_with (first|((with_reducible refine ZJ (f:=128) rfl ?_);refine Zaa (some 27) rfl rfl Tryz.func128 (by kernel_rfl) rfl #[.agg #[.slice A0_0 l0_0.length c0_0,.slice A0_1 l0_1.length c0_1,.int .i64 a0_2],.int .i64 x22_2] rfl (by(try simp only[List.map_toArray,List.map_cons,List.map_nil]);first|done|rfl|(simp only[Zk,Zj];rfl)) ?_;(with_reducible refine(Zch.calls _ _ l0_0 _ _ l0_1 a0_2 x22_2 false _ ?side1 ?side2 ?side3 ?side4 A19.out).mono ?_);(case side1=>repeat(first|exact(Zb HR0_0.out HB.out)|(with_reducible refine Kd.C_alloc ?_ _)|(with_reducible refine Kd.C_drewN ?_ _)|(with_reducible refine Kd.C_drew ?_)));(case side2=>exact HC0_0.out);(case side3=>repeat(first|exact(Zb HR0_1.out HB.out)|(with_reducible refine Kd.C_alloc ?_ _)|(with_reducible refine Kd.C_drewN ?_ _)|(with_reducible refine Kd.C_drew ?_)));(case side4=>exact HC0_1.out);rintro e w24 ⟨rfl,hb⟩;refine⟨_,rfl,?_⟩;replace BK57001:=Za (ZA (g:=gb57001) (o:=.cells #[.slice A0_0 l0_0.length c0_0,.slice A0_1 l0_1.length c0_1,.int .i64 a0_2] 25 (0,0)) (by(with_reducible repeat(first|refine Zt ?_ _|refine Zv ?_|refine Zs ?_ _));exact BK57001.out) hb);replace HB:=Za (Zw (by repeat(first|(with_reducible first|exact HB.out|apply Zn|apply Zm|apply Zo|refine Zq ?_ GE57001.out)|exact HB.out)) hb);(try clear hi)))
        go_ret
        exact⟨by first|rfl|(simp[ZC,ZB] <;> rfl)|(simp[*,ZC,ZB] <;> rfl),by repeat(first|(with_reducible first|exact HB.out|apply Zn|apply Zm|apply Zo|refine Zq ?_ GE57001.out)|exact HB.out)⟩
      ·rw[if_neg c18] at H
       have c18b0:decide (x22_2<(l0_1.length:Int))=false:=Zf c18
       clear c18
       obtain rfl:=Zg H
       go_wp2
       go_ret
       exact⟨by first|rfl|(simp[ZC,ZB] <;> rfl)|(simp[*,ZC,ZB] <;> rfl),by repeat(first|(with_reducible first|exact HB.out|apply Zn|apply Zm|apply Zo|refine Zq ?_ GE57001.out)|exact HB.out)⟩
end Go.Proofs.YtoeimopgoaffcaaGreatDoor.Pr
namespace Go.Proofs.YtoeimopgoaffcaaGreatDoor.Pr
open Go.RowKit Go.Proofs.YtoeimopgoaffcaaGreatDoorW.PrintWords Go.Proofs.YtoeimopgoaffcaaGreatDoorW.PrintLast Go.Proofs.YtoeimopgoaffcaaGreatDoorW.PrintMore
attribute [local go_sem] ZU ZS ZW ZV ZO ZN ZT ZR
set_option linter.unusedVariables false
set_option linter.unusedSimpArgs false
open Go.Proofs.YtoeimopgoaffcaaGreatDoor.Ni
def Za1.f (k:Nat) (l0_0:List (S39)) (l0_1:List (S82)) (a0_2:Int):Option Int:=(Z6.f k l0_0 l0_1 a0_2).bind fun b=>if b=true then((Zab.f k l0_0 l0_1 a0_2).bind fun L=>if okI l0_1 L=true then(wq fun p=>(Z3.f k l0_0 l0_1 a0_2 p)).bind fun q=>some (Zb6 q 3 1 (L.foldl (ccS l0_1) 1)) else none) else some 0
set_option maxHeartbeats 8000000 in
set_option maxRecDepth 100000 in
theorem Za1.calls (k:Nat) (A0_0:Option Addr) (c0_0:Nat) (l0_0:List (S39)) (A0_1:Option Addr) (c0_1:Nat) (l0_1:List (S82)) (a0_2:Int) (r:Int) (w:World) (hr0_0:Kd.C k39 w A0_0 l0_0.length l0_0) (hc0_0:l0_0.length≤c0_0) (hr0_1:Kd.C k82 w A0_1 l0_1.length l0_1) (hc0_1:l0_1.length≤c0_1) (h:Za1.f k l0_0 l0_1 a0_2=some r) :
  Calls Tryz.prog 113 #[.agg #[.slice A0_0 l0_0.length c0_0,.slice A0_1 l0_1.length c0_1,.int .i64 a0_2]] w fun e w'=>e=.returned (.int .i64 r)∧Below w.heap.size w w':=by
 unfold Za1.f at h
 obtain⟨b,hb_,h⟩:=Option.bind_eq_some_iff.1 h
 have HS:=Za fun (W:World) (hb:Below w.heap.size w W)=>Z6.calls k A0_0 c0_0 l0_0 A0_1 c0_1 l0_1 a0_2 b W (Zb hr0_0 hb) hc0_0 (Zb hr0_1 hb) hc0_1 hb_
 clear hb_
 cases b with
 | false=>
  obtain rfl:(0:Int)=r:=Zg ((if_neg (by simp)).symm.trans h)
  have HR1:=Za hr0_1
  have HB0:=Za (Zn (Below.refl w.heap.size w) (.cells #[.slice A0_0 l0_0.length c0_0,.slice A0_1 l0_1.length c0_1,.int .i64 a0_2] 25))
  have hu:=Tryz.underlying25
  have hu3:=Tryz.underlying82
  clear hr0_0 hc0_0 hr0_1 hc0_1 h
  go_enter Tryz.func113,Tryz.ntmps113
  go_wp2_with (go_at_call 57;refine(HS.out _ (by repeat(first|(with_reducible first|exact HB0.out|apply Zn|apply Zm|apply Zo)|exact HB0.out))).mono ?_;rintro e w4 ⟨rfl,hb⟩;have HB4:=Za (Zw (by repeat(first|(with_reducible first|exact HB0.out|apply Zn|apply Zm|apply Zo)|exact HB0.out)) hb);have kk0:w4.cell? ⟨w.heap.size,0,none⟩=some (.slice A0_0 l0_0.length c0_0):=Zx hb (by go_simp);have kk1:w4.cell? ⟨w.heap.size,1,none⟩=some (.slice A0_1 l0_1.length c0_1):=Zx hb (by go_simp);have kk2:w4.cell? ⟨w.heap.size,2,none⟩=some (.int .i64 a0_2):=Zx hb (by go_simp);clear hb)
  go_ret
  exact⟨rfl,HB4.out⟩
 | true=>
 rw[if_pos rfl] at h
 obtain⟨L,hL_,h⟩:=Option.bind_eq_some_iff.1 h
 by_cases hok:okI l0_1 L=true
 case neg=>rw[if_neg hok] at h;exact absurd h (by simp)
 rw[if_pos hok] at h
 obtain⟨q,hq_,h⟩:=Option.bind_eq_some_iff.1 h
 have OK:=Za (okI_iff hok)
 have HE0:=Za (show Zb6 q 3 1 ((L.drop 0).foldl (ccS l0_1) 1)=r from Zg h)
 have HF:=Za fun (W:World) (hb:Below w.heap.size w W)=>Zab.calls k A0_0 c0_0 l0_0 A0_1 c0_1 l0_1 a0_2 L W (Zb hr0_0 hb) hc0_0 (Zb hr0_1 hb) hc0_1 hL_
 have HW:=Za fun (W:World) (p:Nat) (h1:1≤p) (h3:p≤3) (hb:Below w.heap.size w W)=>Z3.calls k A0_0 c0_0 l0_0 A0_1 c0_1 l0_1 a0_2 (p:Int) (q (p:Int)) W (Zb hr0_0 hb) hc0_0 (Zb hr0_1 hb) hc0_1 (ZeO hq_ p h1 h3)
 clear hL_ hq_ hok;have HR1:=Za hr0_1
 have HB0:=Za (Zn (Below.refl w.heap.size w) (.cells #[.slice A0_0 l0_0.length c0_0,.slice A0_1 l0_1.length c0_1,.int .i64 a0_2] 25))
 have hu:=Tryz.underlying25
 have hu3:=Tryz.underlying82
 clear hr0_0 hc0_0 hr0_1 hc0_1 h
 go_enter Tryz.func113,Tryz.ntmps113
 go_wp2_with (first|(go_at_call 57;refine(HS.out _ (by repeat(first|(with_reducible first|exact HB0.out|apply Zn|apply Zm|apply Zo)|exact HB0.out))).mono ?_;rintro e w4 ⟨rfl,hb⟩;have HB4:=Za (Zw (by repeat(first|(with_reducible first|exact HB0.out|apply Zn|apply Zm|apply Zo)|exact HB0.out)) hb);have kk0:w4.cell? ⟨w.heap.size,0,none⟩=some (.slice A0_0 l0_0.length c0_0):=Zx hb (by go_simp);have kk1:w4.cell? ⟨w.heap.size,1,none⟩=some (.slice A0_1 l0_1.length c0_1):=Zx hb (by go_simp);have kk2:w4.cell? ⟨w.heap.size,2,none⟩=some (.int .i64 a0_2):=Zx hb (by go_simp);clear hb)|(go_at_call 156;refine(HF.out _ HB4.out).mono ?_;rintro e w6 ⟨vF,rfl,ho,hb⟩;obtain⟨A_,c_,e_⟩:=Kd.R_slice ho;subst e_;have HRL:=Za (Kd.R_reads' ho).2.2;have HB6:=Za (Zw HB4.out hb);have K6:=Za (And.intro (Zx hb kk0) (And.intro (Zx hb kk1) (Zx hb kk2)));clear ho hb kk0 kk1 kk2))
 clear HS HF HB0 HB4
 go_loopg [3,13] L.length (fun gg s3 s13 wr=>∃(i:Nat) (x:Int),s3=.int .i64 x∧s13=.int .i64 (i:Int)∧Aside0 (i≤L.length)∧Aside0 (L.length - i≤gg)∧Aside0 (Zb6 q 3 1 ((L.drop i).foldl (ccS l0_1) x)=r)∧Aside0 (Below w6.heap.size w6 wr))
 case atStart=>exact⟨0,1,rfl,rfl,⟨Nat.zero_le _⟩,⟨by omega⟩,HE0,⟨Below.refl _ _⟩⟩
 case round=>
 clear HE0
 obtain⟨i,n,rfl,rfl,HK,HG,HE,HBr⟩:=hrel
 have HBw:=Za (HB6.out.trans (HBr.out.mono HB6.out.size))
 by_cases hlt:i<L.length
 ·have hltz:(i:Int)<(L.length:Int):=by omega
  obtain⟨ad,q1,hx⟩:=Kd.at_int (Zb HRL.out HBr.out) (i:Int) (by omega) hltz
  cases q1
  have hm:=OK.out.2 _ (ZaJ hlt 0)
  have HD:=HE.out
  rw[Zah hlt 0,List.foldl_cons,ccS] at HD
  rw[Int.toNat_natCast,ZaI] at hx
  generalize L.getD i 0=x at hx hm HD
  unfold facI at HD
  obtain⟨ad3,q3,hz0,hz1,hz2,hz3,hz4⟩:=Zbp (Zb HR1.out HBw.out) x hm.1 hm.2
  cases q3
  generalize (ZD l0_1 x).f2=lo at hz2 HD
  generalize (ZD l0_1 x).f3=hi at hz3 HD
  have px:=eq_true hm.1
  have py:=eq_true hm.2
  have HD2:=Za HD
  have k1:=Zx HBr.out K6.out.2.1
  clear hz0 hz1 hz4 hm HD HE
  go_wp2
  go_quiet (fail)
  go_wp2
  go_roundg (L.length - (i+1))
  case measure=>have:=HG.out;omega
  case rel=>exact⟨i+1,_,rfl,by rw[ZL hlt (by have:=OK.out.1;omega)],⟨by omega⟩,⟨by omega⟩,HD2,⟨by repeat(first|(with_reducible first|exact HBr.out|apply Zn|apply Zm|apply Zo)|exact HBr.out)⟩⟩
 ·obtain rfl:i=L.length:=by have:=HK.out;omega
  have HQ:=Za (show Zb6 q 3 1 n=r by
   have h:=HE.out
   rw[List.drop_length] at h
   exact h)
  clear HE HK HG hlt OK HRL
  go_wp2
  obtain⟨wo,hwo⟩:∃wo,wo=wr:=⟨_,rfl⟩
  subst hwo
  have K7:=Za (And.intro (Zx HBr.out K6.out.1) (And.intro (Zx HBr.out K6.out.2.1) (Zx HBr.out K6.out.2.2)))
  clear HBr K6
  go_loopg [3,6] 4 (fun gg s3 s6 wr=>∃(p:Nat) (x:Int),s3=.int .i64 x∧s6=.int .i64 (p:Int)∧Aside0 (1≤p∧p≤4)∧Aside0 (4 - p≤gg)∧Aside0 (Zb6 q (4 - p) p x=r)∧Aside0 (Below wo.heap.size wo wr))
  case atStart=>exact⟨1,n,rfl,rfl,⟨by omega⟩,⟨by omega⟩,HQ,⟨Below.refl _ _⟩⟩
  case round=>
  clear HQ
  obtain⟨p,n,rfl,rfl,HP,HG,HE,HBr⟩:=hrel
  have k0:=Zx HBr.out K7.out.1
  have k1:=Zx HBr.out K7.out.2.1
  have k2:=Zx HBr.out K7.out.2.2
  have HBv:=Za (HBw.out.trans (HBr.out.mono HBw.out.size))
  by_cases hp:p≤3
  ·have hpz:decide ((p:Int)≤3)=true:=Ze (by omega)
   have HWp:=Za (HW.out wr p HP.out.1 hp HBv.out)
   have HD:=HE.out
   rw[show 4 - p=(4 - (p+1))+1 by omega,Zb6,ccQ] at HD
   have HS:=Za (show wrap64 ((p:Int)+1)=((p+1:Nat):Int) from ZL (n:=4) (by omega) (by omega))
   generalize q (p:Int)=qp at HWp HD
   clear HE
   cases b2:decide (0≤qp) with
   | true=>
    rw[if_pos (show qp≥0 from Zd b2)] at HD
    rw[Int.mul_comm n 2] at HD
    have HD2:=Za HD;clear HD
    go_wp2_with (go_at_call 97;refine HWp.out.mono ?_;rintro e w8 ⟨rfl,hb⟩;have HBn:=Za (HBr.out.trans (hb.mono HBr.out.size));clear hb k0 k1 k2)
    go_roundg (4 - (p+1))
    case measure=>have:=HG.out;omega
    case rel=>exact⟨p+1,_,rfl,by first|rfl|rw[HS.out],⟨by have:=HP.out;omega⟩,⟨by omega⟩,HD2,HBn⟩
   | false=>
    rw[if_neg (show ¬qp≥0 from of_decide_eq_false b2)] at HD
    have HD2:=Za HD;clear HD
    go_wp2_with (go_at_call 97;refine HWp.out.mono ?_;rintro e w8 ⟨rfl,hb⟩;have HBn:=Za (HBr.out.trans (hb.mono HBr.out.size));clear hb k0 k1 k2)
    go_roundg (4 - (p+1))
    case measure=>have:=HG.out;omega
    case rel=>exact⟨p+1,_,rfl,by first|rfl|rw[HS.out],⟨by have:=HP.out;omega⟩,⟨by omega⟩,HD2,HBn⟩
  ·obtain rfl:p=4:=by have:=HP.out;omega
   have hpz:decide (((4:Nat):Int)≤3)=false:=rfl
   obtain rfl:n=r:=HE.out
   go_wp2
   go_ret
   exact⟨rfl,HBv.out⟩
end Go.Proofs.YtoeimopgoaffcaaGreatDoor.Pr
namespace Go.Proofs.YtoeimopgoaffcaaGreatDoor.Pr
open Go.RowKit Go.Proofs.YtoeimopgoaffcaaGreatDoorW.PrintWords Go.Proofs.YtoeimopgoaffcaaGreatDoor.Ni
def inR (a b c:Int):Bool:=decide (b≤a) && decide (a≤c)
theorem inR_f (a b c:Int):Z2.f a b c=some (inR a b c):=by
 unfold Z2.f inR
 by_cases h:a≥b
 ·rw[if_pos h,Ze (show b≤a from h),Bool.true_and]
 ·rw[if_neg h,Zf (show ¬b≤a from h),Bool.false_and]
theorem ZdE (a b c:Int) (w:World):Calls Tryz.prog 127 #[.int .i64 a,.int .i64 b,.int .i64 c] w fun e w'=>e=.returned (.bool (inR a b c))∧∃n,w'=w.drewN n:=
 (Z2.calls a b c _ w (inR_f a b c)).mono fun _ _ ⟨he,hd⟩=>⟨he,hd.out⟩
end Go.Proofs.YtoeimopgoaffcaaGreatDoor.Pr
