/- The texts of one claim, put together by a program of this session. -/
import Derived.Deep.LoopGhost
import Derived.Test.YtpoffpdaadhkgaaBCtc1x1
import Derived.Test.YtpoffpdaadhkgaaBCtc1x3
import Derived.Test.YtpoffpdaadhkgaaBCtc1x6
import Derived.Test.YtpoffpdaadhkgaaBCtc1x9
namespace Go.Proofs.Ytpoffpdaadhkgaa.Pr
open Go.RowKit Go.Proofs.YtpoffpdaadhkgaaW.PrintWords Go.Proofs.YtpoffpdaadhkgaaW.PrintLast Go.Proofs.YtpoffpdaadhkgaaW.PrintMore
attribute [local go_sem] Zaa Z8 Zak Zaj Z5 Z4 Z9 Z7
set_option linter.unusedVariables false
set_option linter.unusedSimpArgs false
mutual
def ZL.j0:Nat→Bool→Int→List (S101)→Option (Bool)
 | 0,_,_,_=>none
 | k+1,x14,x129002000,x129002001=>if x14=true then(some false) else(ZL.l0 k x129002001 (x129002001.length:Int) 0 x129002000 x129002001)
def ZL.l0:Nat→List (S101)→Int→Int→Int→List (S101)→Option (Bool)
 | 0,_,_,_,_,_=>none
 | k+1,x16,x17,x18,x129002000,x129002001=>if x18<x17 then(if 0≤x18 then(if x18<(x16.length:Int) then((ZJ.f ((Zw x16 x18).f0) 0 (wrap64 (x129002000 - 1))).bind fun t129005=>(if t129005=true then((ZJ.f ((Zw x16 x18).f1) 0 (wrap64 (x129002000 - 1))).bind fun t129006=>(if t129006=true then((Zao.f ((Zw x16 x18).f2.f0) ((Zw x16 x18).f2.f1)).bind fun t129007=>(if t129007=true then(ZL.l0 k x16 x17 (wrap64 (x18+1)) x129002000 x129002001) else(some false))) else(some false))) else(some false))) else(none)) else(none)) else(some true)
end
def ZL.f (k:Nat) (a0_0:Int) (l0_1:List (S101)):Option (Bool):=(ZJ.f a0_0 1 8).bind fun t129002=>(if t129002=true then(ZL.j0 k (decide ((l0_1.length:Int) > 40)) a0_0 l0_1) else(ZL.j0 k true a0_0 l0_1))
set_option maxHeartbeats 8000000 in
set_option maxRecDepth 100000 in
theorem ZL.calls (k:Nat) (a0_0:Int) (A0_1:Option Addr) (c0_1:Nat) (l0_1:List (S101)) (r:Bool) (w:World) (hr0_1:Kd.C k101 w A0_1 l0_1.length l0_1) (hc0_1:l0_1.length≤c0_1) (h:ZL.f k a0_0 l0_1=some r) :
  Calls Try.prog 129 #[.agg #[.int .i64 a0_0,.slice A0_1 l0_1.length c0_1]] w fun e w'=>e=.returned (.bool r)∧Below w.heap.size w w':=by
 have hu25:=Try.underlying25
 have hu101:=Try.underlying101
 have hu29:=Try.underlying29
 have HR0_1:=Za hr0_1;have HC0_1:=Za hc0_1;clear hr0_1 hc0_1
 have HB:=Za (Below.refl w.heap.size w)
 have H:((ZJ.f a0_0 1 8).bind fun t129002=>(if t129002=true then(ZL.j0 k (decide ((l0_1.length:Int) > 40)) a0_0 l0_1) else(ZL.j0 k true a0_0 l0_1)))=some r:=h
 clear h;have HC2:=Za H;clear H
 go_enter Try.func129,Try.ntmps129
 go_upto_region 1 with (first|((with_reducible refine ZC (N:=1) rfl ?_);(try(refine ZaN (by rfl) ?_;dsimp only));refine ZE ?hg (N:=1) ?hd (cs:=#[.int .i64 a0_0,.slice A0_1 l0_1.length c0_1]) (t:=25) ?hr ?_;(case hd=>rfl);(case hg=>rfl);(case hr=>first|(go_simp;done)|(go_simp;rfl));intro gb129001 hg w3 hbox hb;have n0_:=Za (Zy (by repeat(first|(with_reducible first|exact HB.out|apply Zq|apply Zm|apply Zs)|exact HB.out)) hb);have n1_:=Za (hbox);have n2_:=Za ((by rw[hg];exact(Zv (by repeat(first|(with_reducible first|exact HB.out|apply Zq|apply Zm|apply Zs)|exact HB.out))):w.heap.size≤gb129001));have n3_:=Za ((by rw[hg];exact(Zv (by repeat(first|(with_reducible first|exact HB.out|apply Zq|apply Zm|apply Zs)|exact HB.out))):w.heap.size≤gb129001));clear HB;have HB:=n0_;have BK129001:=n1_;have GW129001:=n2_;have GE129001:=n3_;clear n0_ n1_ n2_ n3_;clear hb hbox hg))
 (try simp only[Act.put,List.setIfInBounds_toArray,List.set_cons_zero,List.set_cons_succ])
 go_cut [14] (fun v14 wc=>∃(kq:Nat) (x14_1:Bool),v14=.bool x14_1∧Aside0 (ZL.j0 kq x14_1 a0_0 l0_1=some r)∧Aside0 (kq≤k)∧Aside0 (wc.heap[gb129001]? = some (.cells #[.int .i64 a0_0,(.slice A0_1 l0_1.length c0_1)] 25 (0,0)))∧Aside0 (Below w.heap.size w wc))
 case first=>
  have H:=HC2.out
  clear HC2
  replace H:=Zh H
  obtain⟨t129002,A40,H⟩:=H
  replace H:(if t129002=true then(ZL.j0 k (decide ((l0_1.length:Int) > 40)) a0_0 l0_1) else(ZL.j0 k true a0_0 l0_1))=some r:=H
  have A4:=Za A40;clear A40
  by_cases c5:t129002=true
  ·subst c5
   have H1:(ZL.j0 k (decide ((l0_1.length:Int) > 40)) a0_0 l0_1)=some r:=by rw[if_pos rfl] at H;exact H
   clear H
   have H:=H1
   clear H1
   have H':=Za H
   clear H
   have hcz6_0:w3.cell? ⟨gb129001,0,none⟩=some (.int .i64 a0_0):=(Zu BK129001.out 0).trans rfl
   have hcz6_1:w3.cell? ⟨gb129001,1,none⟩=some (.slice A0_1 l0_1.length c0_1):=(Zu BK129001.out 1).trans rfl
   have hfz6_0:=Zt BK129001.out 0
   have hfz6_1:=Zt BK129001.out 1
   go_wp2_with (first|((with_reducible refine ZG (f:=87) rfl ?_);refine ZV (some 7) rfl rfl Try.func87 (by kernel_rfl) rfl #[.int .i64 a0_0,.int .i64 1,.int .i64 8] rfl (by(try simp only[List.map_toArray,List.map_cons,List.map_nil]);first|done|rfl|(simp only[Zk,Zj];rfl)) ?_;(with_reducible refine(ZJ.calls a0_0 1 8 true _ A4.out).mono ?_);rintro e w' ⟨rfl,⟨nd,rfl⟩⟩;refine⟨_,rfl,?_⟩))
   go_meet
   case rel=>exact⟨_,(decide ((l0_1.length:Int) > 40)),(by first|rfl|(simp;done)|(simp[*];done)),H',⟨by first|omega|exact Nat.le_refl _⟩,⟨by(with_reducible repeat(first|refine Zo ?_ _|refine Zr ?_|refine Zn ?_ _));exact BK129001.out⟩,⟨by repeat(first|(with_reducible first|exact HB.out|apply Zq|apply Zm|apply Zs|refine Zp ?_ GE129001.out)|exact HB.out)⟩⟩
  ·replace c5:=Bool.eq_false_iff.mpr c5
   subst c5
   have H1:(ZL.j0 k true a0_0 l0_1)=some r:=by rw[if_neg (show ¬(false=true) by decide)] at H;exact H
   clear H
   have H:=H1
   clear H1
   have H':=Za H
   clear H
   have hcz7_0:w3.cell? ⟨gb129001,0,none⟩=some (.int .i64 a0_0):=(Zu BK129001.out 0).trans rfl
   have hcz7_1:w3.cell? ⟨gb129001,1,none⟩=some (.slice A0_1 l0_1.length c0_1):=(Zu BK129001.out 1).trans rfl
   have hfz7_0:=Zt BK129001.out 0
   have hfz7_1:=Zt BK129001.out 1
   go_wp2_with (first|((with_reducible refine ZG (f:=87) rfl ?_);refine ZV (some 7) rfl rfl Try.func87 (by kernel_rfl) rfl #[.int .i64 a0_0,.int .i64 1,.int .i64 8] rfl (by(try simp only[List.map_toArray,List.map_cons,List.map_nil]);first|done|rfl|(simp only[Zk,Zj];rfl)) ?_;(with_reducible refine(ZJ.calls a0_0 1 8 false _ A4.out).mono ?_);rintro e w' ⟨rfl,⟨nd,rfl⟩⟩;refine⟨_,rfl,?_⟩))
   go_meet
   case rel=>exact⟨_,(true),(by first|rfl|(simp;done)|(simp[*];done)),H',⟨by first|omega|exact Nat.le_refl _⟩,⟨by(with_reducible repeat(first|refine Zo ?_ _|refine Zr ?_|refine Zn ?_ _));exact BK129001.out⟩,⟨by repeat(first|(with_reducible first|exact HB.out|apply Zq|apply Zm|apply Zs|refine Zp ?_ GE129001.out)|exact HB.out)⟩⟩
 case rest=>
  clear HC2
  try clear c1
  try clear p2
  try clear c5
  try clear hcz6_0
  try clear hcz6_1
  try clear hcz7_0
  try clear hcz7_1
  try clear hfz6_0
  try clear hfz6_1
  try clear hfz7_0
  try clear hfz7_1
  obtain⟨kq,x14_1,rfl,HA,HJ1,BK129001,HB⟩:=hcut
  cases kq with
  | zero=>exact absurd HA.out (by simp[ZL.j0])
  | succ kj1=>
   have H:=HA.out
   clear HA
   simp only[ZL.j0] at H
   by_cases c8:x14_1=true
   ·subst c8
    have H1:(some false)=some r:=by rw[if_pos rfl] at H;exact H
    clear H
    have H:=H1
    clear H1
    obtain rfl:=Zg H
    go_wp2
    go_ret
    exact⟨by first|rfl|(simp[ZA,Zz] <;> rfl)|(simp[*,ZA,Zz] <;> rfl),by repeat(first|(with_reducible first|exact HB.out|apply Zq|apply Zm|apply Zs|refine Zp ?_ GE129001.out)|exact HB.out)⟩
   ·replace c8:=Bool.eq_false_iff.mpr c8
    subst c8
    have H1:(ZL.l0 kj1 l0_1 (l0_1.length:Int) 0 a0_0 l0_1)=some r:=by rw[if_neg (show ¬(false=true) by decide)] at H;exact H
    clear H
    have H:=H1
    clear H1
    have H':=Za H
    clear H
    have hcz9_0:wc.cell? ⟨gb129001,0,none⟩=some (.int .i64 a0_0):=(Zu BK129001.out 0).trans rfl
    have hcz9_1:wc.cell? ⟨gb129001,1,none⟩=some (.slice A0_1 l0_1.length c0_1):=(Zu BK129001.out 1).trans rfl
    have hfz9_0:=Zt BK129001.out 0
    have hfz9_1:=Zt BK129001.out 1
    go_wp2
    go_loopg [18] kj1 (fun kq v18 w'=>∃(x18_2:Int),v18=.int .i64 x18_2∧Aside0 (ZL.l0 kq l0_1 (l0_1.length:Int) x18_2 a0_0 l0_1=some r)∧Aside0 (kq≤kj1)∧Aside0 (w'.heap[gb129001]? = some (.cells #[.int .i64 a0_0,(.slice A0_1 l0_1.length c0_1)] 25 (0,0)))∧Aside0 (Below w.heap.size w w'))
    case atStart=>exact⟨(0),(by first|rfl|(simp;done)|(simp[*];done)),H',⟨Nat.le_refl _⟩,⟨by(with_reducible repeat(first|refine Zo ?_ _|refine Zr ?_|refine Zn ?_ _));exact BK129001.out⟩,⟨by repeat(first|(with_reducible first|exact HB.out|apply Zq|apply Zm|apply Zs|refine Zp ?_ GE129001.out)|exact HB.out)⟩⟩
    case round=>
     clear H'
     try clear c1
     try clear p2
     try clear c5
     try clear c8
     try clear hcz6_0
     try clear hcz6_1
     try clear hcz7_0
     try clear hcz7_1
     try clear hcz9_0
     try clear hcz9_1
     try clear hfz6_0
     try clear hfz6_1
     try clear hfz7_0
     try clear hfz7_1
     try clear hfz9_0
     try clear hfz9_1
     try clear p2
     obtain⟨x18_2,rfl,HA,HK2,BK129001,HB⟩:=hrel
     cases gk with
     | zero=>exact absurd HA.out (by simp[ZL.l0])
     | succ k2=>
      have H:=HA.out
      clear HA
      simp only[ZL.l0] at H
      by_cases c10:x18_2<(l0_1.length:Int)
      ·rw[if_pos c10] at H
       have c10b0:decide (x18_2<(l0_1.length:Int))=true:=Ze c10
       clear c10
       by_cases c11:0≤x18_2
       ·rw[if_pos c11] at H
        have c11b0:decide (0≤x18_2)=true:=Ze c11
        clear c11
        by_cases c12:x18_2<(l0_1.length:Int)
        ·rw[if_pos c12] at H
         have c12b0:decide (x18_2<(l0_1.length:Int))=true:=Ze c12
         clear c12
         replace H:=Zh H
         obtain⟨t129005,A130,H⟩:=H
         replace H:(if t129005=true then((ZJ.f ((Zw l0_1 x18_2).f1) 0 (wrap64 (a0_0 - 1))).bind fun t129006=>(if t129006=true then((Zao.f ((Zw l0_1 x18_2).f2.f0) ((Zw l0_1 x18_2).f2.f1)).bind fun t129007=>(if t129007=true then(ZL.l0 k2 l0_1 (l0_1.length:Int) (wrap64 (x18_2+1)) a0_0 l0_1) else(some false))) else(some false))) else(some false))=some r:=H
         have A13:=Za A130;clear A130
         by_cases c14:t129005=true
         ·subst c14
          have H1:((ZJ.f ((Zw l0_1 x18_2).f1) 0 (wrap64 (a0_0 - 1))).bind fun t129006=>(if t129006=true then((Zao.f ((Zw l0_1 x18_2).f2.f0) ((Zw l0_1 x18_2).f2.f1)).bind fun t129007=>(if t129007=true then(ZL.l0 k2 l0_1 (l0_1.length:Int) (wrap64 (x18_2+1)) a0_0 l0_1) else(some false))) else(some false)))=some r:=by rw[if_pos rfl] at H;exact H
          clear H
          have H:=H1
          clear H1
          replace H:=Zh H
          obtain⟨t129006,A150,H⟩:=H
          replace H:(if t129006=true then((Zao.f ((Zw l0_1 x18_2).f2.f0) ((Zw l0_1 x18_2).f2.f1)).bind fun t129007=>(if t129007=true then(ZL.l0 k2 l0_1 (l0_1.length:Int) (wrap64 (x18_2+1)) a0_0 l0_1) else(some false))) else(some false))=some r:=H
          have A15:=Za A150;clear A150
          by_cases c16:t129006=true
          ·subst c16
           have H1:((Zao.f ((Zw l0_1 x18_2).f2.f0) ((Zw l0_1 x18_2).f2.f1)).bind fun t129007=>(if t129007=true then(ZL.l0 k2 l0_1 (l0_1.length:Int) (wrap64 (x18_2+1)) a0_0 l0_1) else(some false)))=some r:=by rw[if_pos rfl] at H;exact H
           clear H
           have H:=H1
           clear H1
           replace H:=Zh H
           obtain⟨t129007,A170,H⟩:=H
           replace H:(if t129007=true then(ZL.l0 k2 l0_1 (l0_1.length:Int) (wrap64 (x18_2+1)) a0_0 l0_1) else(some false))=some r:=H
           have A17:=Za A170;clear A170
           by_cases c18:t129007=true
           ·subst c18
            have H1:(ZL.l0 k2 l0_1 (l0_1.length:Int) (wrap64 (x18_2+1)) a0_0 l0_1)=some r:=by rw[if_pos rfl] at H;exact H
            clear H
            have H:=H1
            clear H1
            have H':=Za H
            clear H
            have p129003:0≤(x18_2:Int):=Zd (by first|(with_reducible assumption)|assumption)
            have q129003:x18_2<(l0_1.length:Int):=Zd (by first|(with_reducible assumption)|assumption)
            obtain⟨ad129003,e129003,hx129003_0,hx129003_1,hx129003_2,hx129003_3⟩:=Zbk HR0_1.out x18_2 p129003 q129003
            cases e129003
            replace hx129003_0:=(HB.out.cell (Zc w _ hx129003_0)).trans hx129003_0
            replace hx129003_1:=(HB.out.cell (Zc w _ hx129003_1)).trans hx129003_1
            replace hx129003_2:=(HB.out.cell (Zc w _ hx129003_2)).trans hx129003_2
            replace hx129003_3:=(HB.out.cell (Zc w _ hx129003_3)).trans hx129003_3
            replace p129003:=eq_true p129003
            replace q129003:=eq_true q129003
            go_wp2_with (first|((with_reducible refine ZC (N:=4) rfl ?_);(try(refine ZaN (by rfl) ?_;dsimp only));refine ZE ?hg (N:=4) ?hd (cs:=#[.int .i64 0,.int .i64 0,.int .i64 0,.int .i64 0]) (t:=101) ?hr ?_;(case hd=>rfl);(case hg=>rfl);(case hr=>first|(go_simp;done)|(go_simp;rfl));intro gb129004 hg w19 hbox hb;have n0_:=Za (Zx (g:=gb129001) (o:=.cells #[.int .i64 a0_0,.slice (some ad129003) l0_1.length c0_1] 25 (0,0)) (by(with_reducible repeat(first|refine Zo ?_ _|refine Zr ?_|refine Zn ?_ _));exact BK129001.out) hb);have n1_:=Za (Zy (by repeat(first|(with_reducible first|exact HB.out|apply Zq|apply Zm|apply Zs|refine Zp ?_ GE129001.out)|exact HB.out)) hb);have n2_:=Za (hbox);have n3_:=Za ((by rw[hg];exact(Zv (by repeat(first|(with_reducible first|exact HB.out|apply Zq|apply Zm|apply Zs|refine Zp ?_ GE129001.out)|exact HB.out))):w.heap.size≤gb129004));have n4_:=Za ((by rw[hg];exact(Zv (by repeat(first|(with_reducible first|exact HB.out|apply Zq|apply Zm|apply Zs|refine Zp ?_ GE129001.out)|exact HB.out))):w.heap.size≤gb129004));have n5_:=Za ((by rw[hg];exact Nat.ne_of_lt (ZB (g:=gb129001) (o:=.cells #[.int .i64 a0_0,.slice (some ad129003) l0_1.length c0_1] 25 (0,0)) (by(with_reducible repeat(first|refine Zo ?_ _|refine Zr ?_|refine Zn ?_ _));exact BK129001.out)):gb129001≠gb129004));have n6_:=Za ((by rw[hg];exact Nat.ne_of_gt (ZB (g:=gb129001) (o:=.cells #[.int .i64 a0_0,.slice (some ad129003) l0_1.length c0_1] 25 (0,0)) (by(with_reducible repeat(first|refine Zo ?_ _|refine Zr ?_|refine Zn ?_ _));exact BK129001.out)):gb129004≠gb129001));clear BK129001;clear HB;have BK129001:=n0_;have HB:=n1_;have BK129004:=n2_;have GW129004:=n3_;have GE129004:=n4_;have NB129001_129004:=n5_;have NB129004_129001:=n6_;clear n0_ n1_ n2_ n3_ n4_ n5_ n6_;clear hb hbox hg;have hnb20:=NB129004_129001.out;have hnc20:=NB129001_129004.out;have hcz21_0:w19.cell? ⟨gb129004,0,none⟩=some (.int .i64 0):=(Zu BK129004.out 0).trans rfl;have hcz21_1:w19.cell? ⟨gb129004,1,none⟩=some (.int .i64 0):=(Zu BK129004.out 1).trans rfl;have hcz21_2:w19.cell? ⟨gb129004,2,none⟩=some (.int .i64 0):=(Zu BK129004.out 2).trans rfl;have hcz21_3:w19.cell? ⟨gb129004,3,none⟩=some (.int .i64 0):=(Zu BK129004.out 3).trans rfl;have hfz21_0:=Zt BK129004.out 0;have hfz21_1:=Zt BK129004.out 1;have hfz21_2:=Zt BK129004.out 2;have hfz21_3:=Zt BK129004.out 3;have hcz22_0:w19.cell? ⟨gb129001,0,none⟩=some (.int .i64 a0_0):=(Zu BK129001.out 0).trans rfl;have hcz22_1:w19.cell? ⟨gb129001,1,none⟩=some (.slice (some ad129003) l0_1.length c0_1):=(Zu BK129001.out 1).trans rfl;have hfz22_0:=Zt BK129001.out 0;have hfz22_1:=Zt BK129001.out 1)|((with_reducible refine ZG (f:=87) rfl ?_);refine ZV (some 27) rfl rfl Try.func87 (by kernel_rfl) rfl #[.int .i64 ((Zw l0_1 x18_2).f0),.int .i64 0,.int .i64 (wrap64 (a0_0 - 1))] rfl (by(try simp only[List.map_toArray,List.map_cons,List.map_nil]);first|done|rfl|(simp only[Zk,Zj];rfl)) ?_;(with_reducible refine(ZJ.calls ((Zw l0_1 x18_2).f0) 0 (wrap64 (a0_0 - 1)) true _ A13.out).mono ?_);rintro e w' ⟨rfl,⟨nd,rfl⟩⟩;refine⟨_,rfl,?_⟩)|(go_at_call 87;(with_reducible refine(ZJ.calls ((Zw l0_1 x18_2).f1) 0 (wrap64 (a0_0 - 1)) true _ A15.out).mono ?_);rintro e w' ⟨rfl,⟨nd,rfl⟩⟩)|(go_at_call 165;(with_reducible refine(Zao.calls ((Zw l0_1 x18_2).f2.f0) ((Zw l0_1 x18_2).f2.f1) true _ A17.out).mono ?_);rintro e w23 ⟨rfl,hb⟩;have n0_:=Za (Zx (g:=gb129001) (o:=.cells #[.int .i64 a0_0,.slice (some ad129003) l0_1.length c0_1] 25 (0,0)) (by(with_reducible repeat(first|refine Zo ?_ _|refine Zr ?_|refine Zn ?_ _));refine ZD ?_ NB129001_129004.out _;(with_reducible repeat(first|refine Zo ?_ _|refine Zr ?_|refine Zn ?_ _));refine ZD ?_ NB129001_129004.out _;(with_reducible repeat(first|refine Zo ?_ _|refine Zr ?_|refine Zn ?_ _));refine ZD ?_ NB129001_129004.out _;(with_reducible repeat(first|refine Zo ?_ _|refine Zr ?_|refine Zn ?_ _));refine ZD ?_ NB129001_129004.out _;(with_reducible repeat(first|refine Zo ?_ _|refine Zr ?_|refine Zn ?_ _));exact BK129001.out) hb);have n1_:=Za (Zx (g:=gb129004) (o:=.cells #[.int .i64 ((Zw l0_1 x18_2).f0),.int .i64 ((Zw l0_1 x18_2).f1),.int .i64 ((Zw l0_1 x18_2).f2.f0),.int .i64 ((Zw l0_1 x18_2).f2.f1)] 101 (0,0)) (by(with_reducible repeat(first|refine Zo ?_ _|refine Zr ?_|refine Zn ?_ _));refine ZF (cs:=#[.int .i64 ((Zw l0_1 x18_2).f0),.int .i64 ((Zw l0_1 x18_2).f1),.int .i64 ((Zw l0_1 x18_2).f2.f0),.int .i64 0]) ?_ 3 _ rfl;(with_reducible repeat(first|refine Zo ?_ _|refine Zr ?_|refine Zn ?_ _));refine ZF (cs:=#[.int .i64 ((Zw l0_1 x18_2).f0),.int .i64 ((Zw l0_1 x18_2).f1),.int .i64 0,.int .i64 0]) ?_ 2 _ rfl;(with_reducible repeat(first|refine Zo ?_ _|refine Zr ?_|refine Zn ?_ _));refine ZF (cs:=#[.int .i64 ((Zw l0_1 x18_2).f0),.int .i64 0,.int .i64 0,.int .i64 0]) ?_ 1 _ rfl;(with_reducible repeat(first|refine Zo ?_ _|refine Zr ?_|refine Zn ?_ _));refine ZF (cs:=#[.int .i64 0,.int .i64 0,.int .i64 0,.int .i64 0]) ?_ 0 _ rfl;(with_reducible repeat(first|refine Zo ?_ _|refine Zr ?_|refine Zn ?_ _));exact BK129004.out) hb);have n2_:=Za (Zy (by repeat(first|(with_reducible first|exact HB.out|apply Zq|apply Zm|apply Zs|refine Zp ?_ GE129001.out|refine Zp ?_ GE129004.out)|exact HB.out)) hb);clear BK129001;clear BK129004;clear HB;have BK129001:=n0_;have BK129004:=n1_;have HB:=n2_;clear n0_ n1_ n2_;(try clear hb);(try clear hb2);(try clear hk);(try clear hi)))
            go_roundg k2
            case measure=>have:=HJ1.out;have:=HK2.out;omega
            case rel=>exact⟨(wrap64 (x18_2+1)),(by first|rfl|(simp;done)|(simp[*];done)),H',⟨by have:=HJ1.out;have:=HK2.out;omega⟩,⟨by(with_reducible repeat(first|refine Zo ?_ _|refine Zr ?_|refine Zn ?_ _));exact BK129001.out⟩,⟨by repeat(first|(with_reducible first|exact HB.out|apply Zq|apply Zm|apply Zs|refine Zp ?_ GE129001.out|refine Zp ?_ GE129004.out)|exact HB.out)⟩⟩
           ·replace c18:=Bool.eq_false_iff.mpr c18
            subst c18
            have H1:(some false)=some r:=by rw[if_neg (show ¬(false=true) by decide)] at H;exact H
            clear H
            have H:=H1
            clear H1
            obtain rfl:=Zg H
            have p129003:0≤(x18_2:Int):=Zd (by first|(with_reducible assumption)|assumption)
            have q129003:x18_2<(l0_1.length:Int):=Zd (by first|(with_reducible assumption)|assumption)
            obtain⟨ad129003,e129003,hx129003_0,hx129003_1,hx129003_2,hx129003_3⟩:=Zbk HR0_1.out x18_2 p129003 q129003
            cases e129003
            replace hx129003_0:=(HB.out.cell (Zc w _ hx129003_0)).trans hx129003_0
            replace hx129003_1:=(HB.out.cell (Zc w _ hx129003_1)).trans hx129003_1
            replace hx129003_2:=(HB.out.cell (Zc w _ hx129003_2)).trans hx129003_2
            replace hx129003_3:=(HB.out.cell (Zc w _ hx129003_3)).trans hx129003_3
            replace p129003:=eq_true p129003
            replace q129003:=eq_true q129003
            go_wp2_with (first|((with_reducible refine ZC (N:=4) rfl ?_);(try(refine ZaN (by rfl) ?_;dsimp only));refine ZE ?hg (N:=4) ?hd (cs:=#[.int .i64 0,.int .i64 0,.int .i64 0,.int .i64 0]) (t:=101) ?hr ?_;(case hd=>rfl);(case hg=>rfl);(case hr=>first|(go_simp;done)|(go_simp;rfl));intro gb129004 hg w24 hbox hb;have n0_:=Za (Zx (g:=gb129001) (o:=.cells #[.int .i64 a0_0,.slice (some ad129003) l0_1.length c0_1] 25 (0,0)) (by(with_reducible repeat(first|refine Zo ?_ _|refine Zr ?_|refine Zn ?_ _));exact BK129001.out) hb);have n1_:=Za (Zy (by repeat(first|(with_reducible first|exact HB.out|apply Zq|apply Zm|apply Zs|refine Zp ?_ GE129001.out)|exact HB.out)) hb);have n2_:=Za (hbox);have n3_:=Za ((by rw[hg];exact(Zv (by repeat(first|(with_reducible first|exact HB.out|apply Zq|apply Zm|apply Zs|refine Zp ?_ GE129001.out)|exact HB.out))):w.heap.size≤gb129004));have n4_:=Za ((by rw[hg];exact(Zv (by repeat(first|(with_reducible first|exact HB.out|apply Zq|apply Zm|apply Zs|refine Zp ?_ GE129001.out)|exact HB.out))):w.heap.size≤gb129004));have n5_:=Za ((by rw[hg];exact Nat.ne_of_lt (ZB (g:=gb129001) (o:=.cells #[.int .i64 a0_0,.slice (some ad129003) l0_1.length c0_1] 25 (0,0)) (by(with_reducible repeat(first|refine Zo ?_ _|refine Zr ?_|refine Zn ?_ _));exact BK129001.out)):gb129001≠gb129004));have n6_:=Za ((by rw[hg];exact Nat.ne_of_gt (ZB (g:=gb129001) (o:=.cells #[.int .i64 a0_0,.slice (some ad129003) l0_1.length c0_1] 25 (0,0)) (by(with_reducible repeat(first|refine Zo ?_ _|refine Zr ?_|refine Zn ?_ _));exact BK129001.out)):gb129004≠gb129001));clear BK129001;clear HB;have BK129001:=n0_;have HB:=n1_;have BK129004:=n2_;have GW129004:=n3_;have GE129004:=n4_;have NB129001_129004:=n5_;have NB129004_129001:=n6_;clear n0_ n1_ n2_ n3_ n4_ n5_ n6_;clear hb hbox hg;have hnb25:=NB129004_129001.out;have hnc25:=NB129001_129004.out;have hcz26_0:w24.cell? ⟨gb129004,0,none⟩=some (.int .i64 0):=(Zu BK129004.out 0).trans rfl;have hcz26_1:w24.cell? ⟨gb129004,1,none⟩=some (.int .i64 0):=(Zu BK129004.out 1).trans rfl;have hcz26_2:w24.cell? ⟨gb129004,2,none⟩=some (.int .i64 0):=(Zu BK129004.out 2).trans rfl;have hcz26_3:w24.cell? ⟨gb129004,3,none⟩=some (.int .i64 0):=(Zu BK129004.out 3).trans rfl;have hfz26_0:=Zt BK129004.out 0;have hfz26_1:=Zt BK129004.out 1;have hfz26_2:=Zt BK129004.out 2;have hfz26_3:=Zt BK129004.out 3;have hcz27_0:w24.cell? ⟨gb129001,0,none⟩=some (.int .i64 a0_0):=(Zu BK129001.out 0).trans rfl;have hcz27_1:w24.cell? ⟨gb129001,1,none⟩=some (.slice (some ad129003) l0_1.length c0_1):=(Zu BK129001.out 1).trans rfl;have hfz27_0:=Zt BK129001.out 0;have hfz27_1:=Zt BK129001.out 1)|((with_reducible refine ZG (f:=87) rfl ?_);refine ZV (some 27) rfl rfl Try.func87 (by kernel_rfl) rfl #[.int .i64 ((Zw l0_1 x18_2).f0),.int .i64 0,.int .i64 (wrap64 (a0_0 - 1))] rfl (by(try simp only[List.map_toArray,List.map_cons,List.map_nil]);first|done|rfl|(simp only[Zk,Zj];rfl)) ?_;(with_reducible refine(ZJ.calls ((Zw l0_1 x18_2).f0) 0 (wrap64 (a0_0 - 1)) true _ A13.out).mono ?_);rintro e w' ⟨rfl,⟨nd,rfl⟩⟩;refine⟨_,rfl,?_⟩)|(go_at_call 87;(with_reducible refine(ZJ.calls ((Zw l0_1 x18_2).f1) 0 (wrap64 (a0_0 - 1)) true _ A15.out).mono ?_);rintro e w' ⟨rfl,⟨nd,rfl⟩⟩)|(go_at_call 165;(with_reducible refine(Zao.calls ((Zw l0_1 x18_2).f2.f0) ((Zw l0_1 x18_2).f2.f1) false _ A17.out).mono ?_);rintro e w28 ⟨rfl,hb⟩;have n0_:=Za (Zx (g:=gb129001) (o:=.cells #[.int .i64 a0_0,.slice (some ad129003) l0_1.length c0_1] 25 (0,0)) (by(with_reducible repeat(first|refine Zo ?_ _|refine Zr ?_|refine Zn ?_ _));refine ZD ?_ NB129001_129004.out _;(with_reducible repeat(first|refine Zo ?_ _|refine Zr ?_|refine Zn ?_ _));refine ZD ?_ NB129001_129004.out _;(with_reducible repeat(first|refine Zo ?_ _|refine Zr ?_|refine Zn ?_ _));refine ZD ?_ NB129001_129004.out _;(with_reducible repeat(first|refine Zo ?_ _|refine Zr ?_|refine Zn ?_ _));refine ZD ?_ NB129001_129004.out _;(with_reducible repeat(first|refine Zo ?_ _|refine Zr ?_|refine Zn ?_ _));exact BK129001.out) hb);have n1_:=Za (Zx (g:=gb129004) (o:=.cells #[.int .i64 ((Zw l0_1 x18_2).f0),.int .i64 ((Zw l0_1 x18_2).f1),.int .i64 ((Zw l0_1 x18_2).f2.f0),.int .i64 ((Zw l0_1 x18_2).f2.f1)] 101 (0,0)) (by(with_reducible repeat(first|refine Zo ?_ _|refine Zr ?_|refine Zn ?_ _));refine ZF (cs:=#[.int .i64 ((Zw l0_1 x18_2).f0),.int .i64 ((Zw l0_1 x18_2).f1),.int .i64 ((Zw l0_1 x18_2).f2.f0),.int .i64 0]) ?_ 3 _ rfl;(with_reducible repeat(first|refine Zo ?_ _|refine Zr ?_|refine Zn ?_ _));refine ZF (cs:=#[.int .i64 ((Zw l0_1 x18_2).f0),.int .i64 ((Zw l0_1 x18_2).f1),.int .i64 0,.int .i64 0]) ?_ 2 _ rfl;(with_reducible repeat(first|refine Zo ?_ _|refine Zr ?_|refine Zn ?_ _));refine ZF (cs:=#[.int .i64 ((Zw l0_1 x18_2).f0),.int .i64 0,.int .i64 0,.int .i64 0]) ?_ 1 _ rfl;(with_reducible repeat(first|refine Zo ?_ _|refine Zr ?_|refine Zn ?_ _));refine ZF (cs:=#[.int .i64 0,.int .i64 0,.int .i64 0,.int .i64 0]) ?_ 0 _ rfl;(with_reducible repeat(first|refine Zo ?_ _|refine Zr ?_|refine Zn ?_ _));exact BK129004.out) hb);have n2_:=Za (Zy (by repeat(first|(with_reducible first|exact HB.out|apply Zq|apply Zm|apply Zs|refine Zp ?_ GE129001.out|refine Zp ?_ GE129004.out)|exact HB.out)) hb);clear BK129001;clear BK129004;clear HB;have BK129001:=n0_;have BK129004:=n1_;have HB:=n2_;clear n0_ n1_ n2_;(try clear hb);(try clear hb2);(try clear hk);(try clear hi)))
            go_ret
            exact⟨by first|rfl|(simp[ZA,Zz] <;> rfl)|(simp[*,ZA,Zz] <;> rfl),by repeat(first|(with_reducible first|exact HB.out|apply Zq|apply Zm|apply Zs|refine Zp ?_ GE129001.out|refine Zp ?_ GE129004.out)|exact HB.out)⟩
          ·replace c16:=Bool.eq_false_iff.mpr c16
           subst c16
           have H1:(some false)=some r:=by rw[if_neg (show ¬(false=true) by decide)] at H;exact H
           clear H
           have H:=H1
           clear H1
           obtain rfl:=Zg H
           have p129003:0≤(x18_2:Int):=Zd (by first|(with_reducible assumption)|assumption)
           have q129003:x18_2<(l0_1.length:Int):=Zd (by first|(with_reducible assumption)|assumption)
           obtain⟨ad129003,e129003,hx129003_0,hx129003_1,hx129003_2,hx129003_3⟩:=Zbk HR0_1.out x18_2 p129003 q129003
           cases e129003
           replace hx129003_0:=(HB.out.cell (Zc w _ hx129003_0)).trans hx129003_0
           replace hx129003_1:=(HB.out.cell (Zc w _ hx129003_1)).trans hx129003_1
           replace hx129003_2:=(HB.out.cell (Zc w _ hx129003_2)).trans hx129003_2
           replace hx129003_3:=(HB.out.cell (Zc w _ hx129003_3)).trans hx129003_3
           replace p129003:=eq_true p129003
           replace q129003:=eq_true q129003
           go_wp2_with (first|((with_reducible refine ZC (N:=4) rfl ?_);(try(refine ZaN (by rfl) ?_;dsimp only));refine ZE ?hg (N:=4) ?hd (cs:=#[.int .i64 0,.int .i64 0,.int .i64 0,.int .i64 0]) (t:=101) ?hr ?_;(case hd=>rfl);(case hg=>rfl);(case hr=>first|(go_simp;done)|(go_simp;rfl));intro gb129004 hg w29 hbox hb;have n0_:=Za (Zx (g:=gb129001) (o:=.cells #[.int .i64 a0_0,.slice (some ad129003) l0_1.length c0_1] 25 (0,0)) (by(with_reducible repeat(first|refine Zo ?_ _|refine Zr ?_|refine Zn ?_ _));exact BK129001.out) hb);have n1_:=Za (Zy (by repeat(first|(with_reducible first|exact HB.out|apply Zq|apply Zm|apply Zs|refine Zp ?_ GE129001.out)|exact HB.out)) hb);have n2_:=Za (hbox);have n3_:=Za ((by rw[hg];exact(Zv (by repeat(first|(with_reducible first|exact HB.out|apply Zq|apply Zm|apply Zs|refine Zp ?_ GE129001.out)|exact HB.out))):w.heap.size≤gb129004));have n4_:=Za ((by rw[hg];exact(Zv (by repeat(first|(with_reducible first|exact HB.out|apply Zq|apply Zm|apply Zs|refine Zp ?_ GE129001.out)|exact HB.out))):w.heap.size≤gb129004));have n5_:=Za ((by rw[hg];exact Nat.ne_of_lt (ZB (g:=gb129001) (o:=.cells #[.int .i64 a0_0,.slice (some ad129003) l0_1.length c0_1] 25 (0,0)) (by(with_reducible repeat(first|refine Zo ?_ _|refine Zr ?_|refine Zn ?_ _));exact BK129001.out)):gb129001≠gb129004));have n6_:=Za ((by rw[hg];exact Nat.ne_of_gt (ZB (g:=gb129001) (o:=.cells #[.int .i64 a0_0,.slice (some ad129003) l0_1.length c0_1] 25 (0,0)) (by(with_reducible repeat(first|refine Zo ?_ _|refine Zr ?_|refine Zn ?_ _));exact BK129001.out)):gb129004≠gb129001));clear BK129001;clear HB;have BK129001:=n0_;have HB:=n1_;have BK129004:=n2_;have GW129004:=n3_;have GE129004:=n4_;have NB129001_129004:=n5_;have NB129004_129001:=n6_;clear n0_ n1_ n2_ n3_ n4_ n5_ n6_;clear hb hbox hg;have hnb30:=NB129004_129001.out;have hnc30:=NB129001_129004.out;have hcz31_0:w29.cell? ⟨gb129004,0,none⟩=some (.int .i64 0):=(Zu BK129004.out 0).trans rfl;have hcz31_1:w29.cell? ⟨gb129004,1,none⟩=some (.int .i64 0):=(Zu BK129004.out 1).trans rfl;have hcz31_2:w29.cell? ⟨gb129004,2,none⟩=some (.int .i64 0):=(Zu BK129004.out 2).trans rfl;have hcz31_3:w29.cell? ⟨gb129004,3,none⟩=some (.int .i64 0):=(Zu BK129004.out 3).trans rfl;have hfz31_0:=Zt BK129004.out 0;have hfz31_1:=Zt BK129004.out 1;have hfz31_2:=Zt BK129004.out 2;have hfz31_3:=Zt BK129004.out 3;have hcz32_0:w29.cell? ⟨gb129001,0,none⟩=some (.int .i64 a0_0):=(Zu BK129001.out 0).trans rfl;have hcz32_1:w29.cell? ⟨gb129001,1,none⟩=some (.slice (some ad129003) l0_1.length c0_1):=(Zu BK129001.out 1).trans rfl;have hfz32_0:=Zt BK129001.out 0;have hfz32_1:=Zt BK129001.out 1)|((with_reducible refine ZG (f:=87) rfl ?_);refine ZV (some 27) rfl rfl Try.func87 (by kernel_rfl) rfl #[.int .i64 ((Zw l0_1 x18_2).f0),.int .i64 0,.int .i64 (wrap64 (a0_0 - 1))] rfl (by(try simp only[List.map_toArray,List.map_cons,List.map_nil]);first|done|rfl|(simp only[Zk,Zj];rfl)) ?_;(with_reducible refine(ZJ.calls ((Zw l0_1 x18_2).f0) 0 (wrap64 (a0_0 - 1)) true _ A13.out).mono ?_);rintro e w' ⟨rfl,⟨nd,rfl⟩⟩;refine⟨_,rfl,?_⟩)|(go_at_call 87;(with_reducible refine(ZJ.calls ((Zw l0_1 x18_2).f1) 0 (wrap64 (a0_0 - 1)) false _ A15.out).mono ?_);rintro e w' ⟨rfl,⟨nd,rfl⟩⟩))
           go_ret
           exact⟨by first|rfl|(simp[ZA,Zz] <;> rfl)|(simp[*,ZA,Zz] <;> rfl),by repeat(first|(with_reducible first|exact HB.out|apply Zq|apply Zm|apply Zs|refine Zp ?_ GE129001.out|refine Zp ?_ GE129004.out)|exact HB.out)⟩
         ·replace c14:=Bool.eq_false_iff.mpr c14
          subst c14
          have H1:(some false)=some r:=by rw[if_neg (show ¬(false=true) by decide)] at H;exact H
          clear H
          have H:=H1
          clear H1
          obtain rfl:=Zg H
          have p129003:0≤(x18_2:Int):=Zd (by first|(with_reducible assumption)|assumption)
          have q129003:x18_2<(l0_1.length:Int):=Zd (by first|(with_reducible assumption)|assumption)
          obtain⟨ad129003,e129003,hx129003_0,hx129003_1,hx129003_2,hx129003_3⟩:=Zbk HR0_1.out x18_2 p129003 q129003
          cases e129003
          replace hx129003_0:=(HB.out.cell (Zc w _ hx129003_0)).trans hx129003_0
          replace hx129003_1:=(HB.out.cell (Zc w _ hx129003_1)).trans hx129003_1
          replace hx129003_2:=(HB.out.cell (Zc w _ hx129003_2)).trans hx129003_2
          replace hx129003_3:=(HB.out.cell (Zc w _ hx129003_3)).trans hx129003_3
          replace p129003:=eq_true p129003
          replace q129003:=eq_true q129003
          go_wp2_with (first|((with_reducible refine ZC (N:=4) rfl ?_);(try(refine ZaN (by rfl) ?_;dsimp only));refine ZE ?hg (N:=4) ?hd (cs:=#[.int .i64 0,.int .i64 0,.int .i64 0,.int .i64 0]) (t:=101) ?hr ?_;(case hd=>rfl);(case hg=>rfl);(case hr=>first|(go_simp;done)|(go_simp;rfl));intro gb129004 hg w33 hbox hb;have n0_:=Za (Zx (g:=gb129001) (o:=.cells #[.int .i64 a0_0,.slice (some ad129003) l0_1.length c0_1] 25 (0,0)) (by(with_reducible repeat(first|refine Zo ?_ _|refine Zr ?_|refine Zn ?_ _));exact BK129001.out) hb);have n1_:=Za (Zy (by repeat(first|(with_reducible first|exact HB.out|apply Zq|apply Zm|apply Zs|refine Zp ?_ GE129001.out)|exact HB.out)) hb);have n2_:=Za (hbox);have n3_:=Za ((by rw[hg];exact(Zv (by repeat(first|(with_reducible first|exact HB.out|apply Zq|apply Zm|apply Zs|refine Zp ?_ GE129001.out)|exact HB.out))):w.heap.size≤gb129004));have n4_:=Za ((by rw[hg];exact(Zv (by repeat(first|(with_reducible first|exact HB.out|apply Zq|apply Zm|apply Zs|refine Zp ?_ GE129001.out)|exact HB.out))):w.heap.size≤gb129004));have n5_:=Za ((by rw[hg];exact Nat.ne_of_lt (ZB (g:=gb129001) (o:=.cells #[.int .i64 a0_0,.slice (some ad129003) l0_1.length c0_1] 25 (0,0)) (by(with_reducible repeat(first|refine Zo ?_ _|refine Zr ?_|refine Zn ?_ _));exact BK129001.out)):gb129001≠gb129004));have n6_:=Za ((by rw[hg];exact Nat.ne_of_gt (ZB (g:=gb129001) (o:=.cells #[.int .i64 a0_0,.slice (some ad129003) l0_1.length c0_1] 25 (0,0)) (by(with_reducible repeat(first|refine Zo ?_ _|refine Zr ?_|refine Zn ?_ _));exact BK129001.out)):gb129004≠gb129001));clear BK129001;clear HB;have BK129001:=n0_;have HB:=n1_;have BK129004:=n2_;have GW129004:=n3_;have GE129004:=n4_;have NB129001_129004:=n5_;have NB129004_129001:=n6_;clear n0_ n1_ n2_ n3_ n4_ n5_ n6_;clear hb hbox hg;have hnb34:=NB129004_129001.out;have hnc34:=NB129001_129004.out;have hcz35_0:w33.cell? ⟨gb129004,0,none⟩=some (.int .i64 0):=(Zu BK129004.out 0).trans rfl;have hcz35_1:w33.cell? ⟨gb129004,1,none⟩=some (.int .i64 0):=(Zu BK129004.out 1).trans rfl;have hcz35_2:w33.cell? ⟨gb129004,2,none⟩=some (.int .i64 0):=(Zu BK129004.out 2).trans rfl;have hcz35_3:w33.cell? ⟨gb129004,3,none⟩=some (.int .i64 0):=(Zu BK129004.out 3).trans rfl;have hfz35_0:=Zt BK129004.out 0;have hfz35_1:=Zt BK129004.out 1;have hfz35_2:=Zt BK129004.out 2;have hfz35_3:=Zt BK129004.out 3;have hcz36_0:w33.cell? ⟨gb129001,0,none⟩=some (.int .i64 a0_0):=(Zu BK129001.out 0).trans rfl;have hcz36_1:w33.cell? ⟨gb129001,1,none⟩=some (.slice (some ad129003) l0_1.length c0_1):=(Zu BK129001.out 1).trans rfl;have hfz36_0:=Zt BK129001.out 0;have hfz36_1:=Zt BK129001.out 1)|((with_reducible refine ZG (f:=87) rfl ?_);refine ZV (some 27) rfl rfl Try.func87 (by kernel_rfl) rfl #[.int .i64 ((Zw l0_1 x18_2).f0),.int .i64 0,.int .i64 (wrap64 (a0_0 - 1))] rfl (by(try simp only[List.map_toArray,List.map_cons,List.map_nil]);first|done|rfl|(simp only[Zk,Zj];rfl)) ?_;(with_reducible refine(ZJ.calls ((Zw l0_1 x18_2).f0) 0 (wrap64 (a0_0 - 1)) false _ A13.out).mono ?_);rintro e w' ⟨rfl,⟨nd,rfl⟩⟩;refine⟨_,rfl,?_⟩))
          go_ret
          exact⟨by first|rfl|(simp[ZA,Zz] <;> rfl)|(simp[*,ZA,Zz] <;> rfl),by repeat(first|(with_reducible first|exact HB.out|apply Zq|apply Zm|apply Zs|refine Zp ?_ GE129001.out|refine Zp ?_ GE129004.out)|exact HB.out)⟩
        ·rw[if_neg c12] at H
         exact absurd H (by simp)
       ·rw[if_neg c11] at H
        exact absurd H (by simp)
      ·rw[if_neg c10] at H
       have c10b0:decide (x18_2<(l0_1.length:Int))=false:=Zf c10
       clear c10
       obtain rfl:=Zg H
       go_wp2
       go_ret
       exact⟨by first|rfl|(simp[ZA,Zz] <;> rfl)|(simp[*,ZA,Zz] <;> rfl),by repeat(first|(with_reducible first|exact HB.out|apply Zq|apply Zm|apply Zs|refine Zp ?_ GE129001.out)|exact HB.out)⟩
mutual
def ZU.j0:Nat→List Int→Bool→Option (Bool)
 | 0,_,_=>none
 | k+1,x1,x22=>if x22=true then(some false) else(ZU.l0 k x1 (x1.length:Int) 0)
def ZU.l0:Nat→List Int→Int→Int→Option (Bool)
 | 0,_,_,_=>none
 | k+1,x23,x24,x25=>if x25<x24 then(if 0≤x25 then(if x25<(x23.length:Int) then((ZJ.f (rd x23 x25) (-1) 999999).bind fun t127005=>(if t127005=true then(ZU.l0 k x23 x24 (wrap64 (x25+1))) else(some false))) else(none)) else(none)) else(some true)
end
def ZU.f (k:Nat) (a0_0:Int) (l0_1:List (S101)) (l1:List Int):Option (Bool):=(ZL.f k a0_0 l0_1).bind fun t127002=>(if t127002=true then(if (l1.length:Int)=a0_0 then(if 0<(l1.length:Int) then(ZU.j0 k l1 ((rd l1 0) != 0)) else(none)) else(ZU.j0 k l1 true)) else(ZU.j0 k l1 true))
set_option maxHeartbeats 8000000 in
set_option maxRecDepth 100000 in
theorem ZU.calls (k:Nat) (a0_0:Int) (A0_1:Option Addr) (c0_1:Nat) (l0_1:List (S101)) (A1:Option Addr) (c1:Nat) (l1:List Int) (r:Bool) (w:World) (hr0_1:Kd.C k101 w A0_1 l0_1.length l0_1) (hc0_1:l0_1.length≤c0_1) (hr1:Kd.C (Kd.int .i64) w A1 l1.length l1) (hc1:l1.length≤c1) (h:ZU.f k a0_0 l0_1 l1=some r) :
  Calls Try.prog 127 #[.agg #[.int .i64 a0_0,.slice A0_1 l0_1.length c0_1],.slice A1 l1.length c1] w fun e w'=>e=.returned (.bool r)∧Below w.heap.size w w':=by
 have hu25:=Try.underlying25
 have HR0_1:=Za hr0_1;have HC0_1:=Za hc0_1;clear hr0_1 hc0_1;have HR1:=Za hr1;have HC1:=Za hc1;clear hr1 hc1
 have HB:=Za (Below.refl w.heap.size w)
 have H:((ZL.f k a0_0 l0_1).bind fun t127002=>(if t127002=true then(if (l1.length:Int)=a0_0 then(if 0<(l1.length:Int) then(ZU.j0 k l1 ((rd l1 0) != 0)) else(none)) else(ZU.j0 k l1 true)) else(ZU.j0 k l1 true)))=some r:=h
 clear h;have HC3:=Za H;clear H
 go_enter Try.func127,Try.ntmps127
 go_upto_region 1 with (first|((with_reducible refine ZC (N:=2) rfl ?_);(try(refine ZaN (by rfl) ?_;dsimp only));refine ZE ?hg (N:=2) ?hd (cs:=#[.int .i64 a0_0,.slice A0_1 l0_1.length c0_1]) (t:=25) ?hr ?_;(case hd=>rfl);(case hg=>rfl);(case hr=>first|(go_simp;done)|(go_simp;rfl));intro gb127001 hg w4 hbox hb;have n0_:=Za (Zy (by repeat(first|(with_reducible first|exact HB.out|apply Zq|apply Zm|apply Zs)|exact HB.out)) hb);have n1_:=Za (hbox);have n2_:=Za ((by rw[hg];exact(Zv (by repeat(first|(with_reducible first|exact HB.out|apply Zq|apply Zm|apply Zs)|exact HB.out))):w.heap.size≤gb127001));have n3_:=Za ((by rw[hg];exact(Zv (by repeat(first|(with_reducible first|exact HB.out|apply Zq|apply Zm|apply Zs)|exact HB.out))):w.heap.size≤gb127001));clear HB;have HB:=n0_;have BK127001:=n1_;have GW127001:=n2_;have GE127001:=n3_;clear n0_ n1_ n2_ n3_;clear hb hbox hg))
 (try simp only[Act.put,List.setIfInBounds_toArray,List.set_cons_zero,List.set_cons_succ])
 go_cut [22] (fun v22 wc=>∃(kq:Nat) (x22_2:Bool),v22=.bool x22_2∧Aside0 (ZU.j0 kq l1 x22_2=some r)∧Aside0 (kq≤k)∧Aside0 (wc.heap[gb127001]? = some (.cells #[.int .i64 a0_0,(.slice A0_1 l0_1.length c0_1)] 25 (0,0)))∧Aside0 (Below w.heap.size w wc))
 case first=>
  have H:=HC3.out
  clear HC3
  replace H:=Zh H
  obtain⟨t127002,A50,H⟩:=H
  replace H:(if t127002=true then(if (l1.length:Int)=a0_0 then(if 0<(l1.length:Int) then(ZU.j0 k l1 ((rd l1 0) != 0)) else(none)) else(ZU.j0 k l1 true)) else(ZU.j0 k l1 true))=some r:=H
  have A5:=Za A50;clear A50
  by_cases c6:t127002=true
  ·subst c6
   have H1:(if (l1.length:Int)=a0_0 then(if 0<(l1.length:Int) then(ZU.j0 k l1 ((rd l1 0) != 0)) else(none)) else(ZU.j0 k l1 true))=some r:=by rw[if_pos rfl] at H;exact H
   clear H
   have H:=H1
   clear H1
   by_cases c7:(l1.length:Int)=a0_0
   ·rw[if_pos c7] at H
    have c7b0:((l1.length:Int) == a0_0)=true:=beq_iff_eq.mpr c7
    have c7b1:((l1.length:Int) != a0_0)=false:=bne_eq_false_iff_eq.mpr c7
    clear c7
    (first|rw[c7b0]|(simp only[ZO,ZP];rw[c7b0])|skip)
    by_cases c8:0<(l1.length:Int)
    ·rw[if_pos c8] at H
     have c8b0:decide (0<(l1.length:Int))=true:=Ze c8
     have c8b1:decide (0<l1.length)=true:=Ze (by omega)
     clear c8
     have H':=Za H
     clear H
     have hcz9_0:w4.cell? ⟨gb127001,0,none⟩=some (.int .i64 a0_0):=(Zu BK127001.out 0).trans rfl
     have hcz9_1:w4.cell? ⟨gb127001,1,none⟩=some (.slice A0_1 l0_1.length c0_1):=(Zu BK127001.out 1).trans rfl
     have hfz9_0:=Zt BK127001.out 0
     have hfz9_1:=Zt BK127001.out 1
     go_wp2_with (first|((with_reducible refine ZG (f:=129) rfl ?_);refine ZV (some 8) rfl rfl Try.func129 (by kernel_rfl) rfl #[.agg #[.int .i64 a0_0,.slice A0_1 l0_1.length c0_1]] rfl (by(try simp only[List.map_toArray,List.map_cons,List.map_nil]);first|done|rfl|(simp only[Zk,Zj];rfl)) ?_;(with_reducible refine(ZL.calls k a0_0 _ _ l0_1 true _ ?side1 ?side2 A5.out).mono ?_);(case side1=>repeat(first|exact(Zb HR0_1.out HB.out)|(with_reducible refine Kd.C_alloc ?_ _)|(with_reducible refine Kd.C_drewN ?_ _)|(with_reducible refine Kd.C_drew ?_)));(case side2=>exact HC0_1.out);rintro e w10 ⟨rfl,hb⟩;refine⟨_,rfl,?_⟩;have n0_:=Za (Zx (g:=gb127001) (o:=.cells #[.int .i64 a0_0,.slice A0_1 l0_1.length c0_1] 25 (0,0)) (by(with_reducible repeat(first|refine Zo ?_ _|refine Zr ?_|refine Zn ?_ _));exact BK127001.out) hb);have n1_:=Za (Zy (by repeat(first|(with_reducible first|exact HB.out|apply Zq|apply Zm|apply Zs|refine Zp ?_ GE127001.out)|exact HB.out)) hb);clear BK127001;clear HB;have BK127001:=n0_;have HB:=n1_;clear n0_ n1_;(try clear hb);(try clear hb2);(try clear hk);(try clear hi);have hcz11_0:w10.cell? ⟨gb127001,0,none⟩=some (.int .i64 a0_0):=(Zu BK127001.out 0).trans rfl;have hcz11_1:w10.cell? ⟨gb127001,1,none⟩=some (.slice A0_1 l0_1.length c0_1):=(Zu BK127001.out 1).trans rfl;have hfz11_0:=Zt BK127001.out 0;have hfz11_1:=Zt BK127001.out 1;have p127003:0≤(0:Int):=(by omega);have q127003:0<(l1.length:Int):=Zd (by first|(with_reducible assumption)|assumption);obtain⟨ad127003,e127003,hx127003_0⟩:=Kd.at_int HR1.out 0 p127003 q127003;cases e127003;have qi127003:(0<l1.length)=True:=eq_true (by omega);(try rw[show((0:Int)).toNat=0 from rfl] at hx127003_0);(try rw[Addr.add_zero'] at hx127003_0);replace hx127003_0:=(HB.out.cell (Zc w _ hx127003_0)).trans hx127003_0;replace p127003:=eq_true p127003;replace q127003:=eq_true q127003))
     go_meet
     case rel=>exact⟨_,(((rd l1 0) != 0)),(by first|rfl|(simp;done)|(simp[*];done)),H',⟨by first|omega|exact Nat.le_refl _⟩,⟨by(with_reducible repeat(first|refine Zo ?_ _|refine Zr ?_|refine Zn ?_ _));exact BK127001.out⟩,⟨by repeat(first|(with_reducible first|exact HB.out|apply Zq|apply Zm|apply Zs|refine Zp ?_ GE127001.out)|exact HB.out)⟩⟩
    ·rw[if_neg c8] at H
     exact absurd H (by simp)
   ·rw[if_neg c7] at H
    have c7b0:((l1.length:Int) == a0_0)=false:=beq_eq_false_iff_ne.mpr c7
    have c7b1:((l1.length:Int) != a0_0)=true:=bne_iff_ne.mpr c7
    (first|rw[c7b0]|(simp only[ZO,ZP];rw[c7b0])|skip)
    have H':=Za H
    clear H
    have hcz12_0:w4.cell? ⟨gb127001,0,none⟩=some (.int .i64 a0_0):=(Zu BK127001.out 0).trans rfl
    have hcz12_1:w4.cell? ⟨gb127001,1,none⟩=some (.slice A0_1 l0_1.length c0_1):=(Zu BK127001.out 1).trans rfl
    have hfz12_0:=Zt BK127001.out 0
    have hfz12_1:=Zt BK127001.out 1
    go_wp2_with (first|((with_reducible refine ZG (f:=129) rfl ?_);refine ZV (some 8) rfl rfl Try.func129 (by kernel_rfl) rfl #[.agg #[.int .i64 a0_0,.slice A0_1 l0_1.length c0_1]] rfl (by(try simp only[List.map_toArray,List.map_cons,List.map_nil]);first|done|rfl|(simp only[Zk,Zj];rfl)) ?_;(with_reducible refine(ZL.calls k a0_0 _ _ l0_1 true _ ?side1 ?side2 A5.out).mono ?_);(case side1=>repeat(first|exact(Zb HR0_1.out HB.out)|(with_reducible refine Kd.C_alloc ?_ _)|(with_reducible refine Kd.C_drewN ?_ _)|(with_reducible refine Kd.C_drew ?_)));(case side2=>exact HC0_1.out);rintro e w13 ⟨rfl,hb⟩;refine⟨_,rfl,?_⟩;have n0_:=Za (Zx (g:=gb127001) (o:=.cells #[.int .i64 a0_0,.slice A0_1 l0_1.length c0_1] 25 (0,0)) (by(with_reducible repeat(first|refine Zo ?_ _|refine Zr ?_|refine Zn ?_ _));exact BK127001.out) hb);have n1_:=Za (Zy (by repeat(first|(with_reducible first|exact HB.out|apply Zq|apply Zm|apply Zs|refine Zp ?_ GE127001.out)|exact HB.out)) hb);clear BK127001;clear HB;have BK127001:=n0_;have HB:=n1_;clear n0_ n1_;(try clear hb);(try clear hb2);(try clear hk);(try clear hi);have hcz14_0:w13.cell? ⟨gb127001,0,none⟩=some (.int .i64 a0_0):=(Zu BK127001.out 0).trans rfl;have hcz14_1:w13.cell? ⟨gb127001,1,none⟩=some (.slice A0_1 l0_1.length c0_1):=(Zu BK127001.out 1).trans rfl;have hfz14_0:=Zt BK127001.out 0;have hfz14_1:=Zt BK127001.out 1))
    go_meet
    case rel=>exact⟨_,(true),(by first|rfl|(simp;done)|(simp[*];done)),H',⟨by first|omega|exact Nat.le_refl _⟩,⟨by(with_reducible repeat(first|refine Zo ?_ _|refine Zr ?_|refine Zn ?_ _));exact BK127001.out⟩,⟨by repeat(first|(with_reducible first|exact HB.out|apply Zq|apply Zm|apply Zs|refine Zp ?_ GE127001.out)|exact HB.out)⟩⟩
  ·replace c6:=Bool.eq_false_iff.mpr c6
   subst c6
   have H1:(ZU.j0 k l1 true)=some r:=by rw[if_neg (show ¬(false=true) by decide)] at H;exact H
   clear H
   have H:=H1
   clear H1
   have H':=Za H
   clear H
   have hcz15_0:w4.cell? ⟨gb127001,0,none⟩=some (.int .i64 a0_0):=(Zu BK127001.out 0).trans rfl
   have hcz15_1:w4.cell? ⟨gb127001,1,none⟩=some (.slice A0_1 l0_1.length c0_1):=(Zu BK127001.out 1).trans rfl
   have hfz15_0:=Zt BK127001.out 0
   have hfz15_1:=Zt BK127001.out 1
   go_wp2_with (first|((with_reducible refine ZG (f:=129) rfl ?_);refine ZV (some 8) rfl rfl Try.func129 (by kernel_rfl) rfl #[.agg #[.int .i64 a0_0,.slice A0_1 l0_1.length c0_1]] rfl (by(try simp only[List.map_toArray,List.map_cons,List.map_nil]);first|done|rfl|(simp only[Zk,Zj];rfl)) ?_;(with_reducible refine(ZL.calls k a0_0 _ _ l0_1 false _ ?side1 ?side2 A5.out).mono ?_);(case side1=>repeat(first|exact(Zb HR0_1.out HB.out)|(with_reducible refine Kd.C_alloc ?_ _)|(with_reducible refine Kd.C_drewN ?_ _)|(with_reducible refine Kd.C_drew ?_)));(case side2=>exact HC0_1.out);rintro e w16 ⟨rfl,hb⟩;refine⟨_,rfl,?_⟩;have n0_:=Za (Zx (g:=gb127001) (o:=.cells #[.int .i64 a0_0,.slice A0_1 l0_1.length c0_1] 25 (0,0)) (by(with_reducible repeat(first|refine Zo ?_ _|refine Zr ?_|refine Zn ?_ _));exact BK127001.out) hb);have n1_:=Za (Zy (by repeat(first|(with_reducible first|exact HB.out|apply Zq|apply Zm|apply Zs|refine Zp ?_ GE127001.out)|exact HB.out)) hb);clear BK127001;clear HB;have BK127001:=n0_;have HB:=n1_;clear n0_ n1_;(try clear hb);(try clear hb2);(try clear hk);(try clear hi)))
   go_meet
   case rel=>exact⟨_,(true),(by first|rfl|(simp;done)|(simp[*];done)),H',⟨by first|omega|exact Nat.le_refl _⟩,⟨by(with_reducible repeat(first|refine Zo ?_ _|refine Zr ?_|refine Zn ?_ _));exact BK127001.out⟩,⟨by repeat(first|(with_reducible first|exact HB.out|apply Zq|apply Zm|apply Zs|refine Zp ?_ GE127001.out)|exact HB.out)⟩⟩
 case rest=>
  clear HC3
  try clear c1
  try clear p1
  try clear q1
  try clear hx1
  try clear qi1
  try clear p2
  try clear c6
  try clear c7
  try clear c7b0
  try clear c7b1
  try clear c8
  try clear c8b0
  try clear c8b1
  try clear c12
  try clear p12
  try clear q12
  try clear hx12
  try clear qi12
  try clear hcz11_0
  try clear hcz11_1
  try clear hcz12_0
  try clear hcz12_1
  try clear hcz14_0
  try clear hcz14_1
  try clear hcz15_0
  try clear hcz15_1
  try clear hcz9_0
  try clear hcz9_1
  try clear hfz11_0
  try clear hfz11_1
  try clear hfz12_0
  try clear hfz12_1
  try clear hfz14_0
  try clear hfz14_1
  try clear hfz15_0
  try clear hfz15_1
  try clear hfz9_0
  try clear hfz9_1
  try clear hx127003_0
  try clear p127003
  try clear q127003
  obtain⟨kq,x22_2,rfl,HA,HJ2,BK127001,HB⟩:=hcut
  cases kq with
  | zero=>exact absurd HA.out (by simp[ZU.j0])
  | succ kj2=>
   have H:=HA.out
   clear HA
   simp only[ZU.j0] at H
   by_cases c17:x22_2=true
   ·subst c17
    have H1:(some false)=some r:=by rw[if_pos rfl] at H;exact H
    clear H
    have H:=H1
    clear H1
    obtain rfl:=Zg H
    go_wp2
    go_ret
    exact⟨by first|rfl|(simp[ZA,Zz] <;> rfl)|(simp[*,ZA,Zz] <;> rfl),by repeat(first|(with_reducible first|exact HB.out|apply Zq|apply Zm|apply Zs|refine Zp ?_ GE127001.out)|exact HB.out)⟩
   ·replace c17:=Bool.eq_false_iff.mpr c17
    subst c17
    have H1:(ZU.l0 kj2 l1 (l1.length:Int) 0)=some r:=by rw[if_neg (show ¬(false=true) by decide)] at H;exact H
    clear H
    have H:=H1
    clear H1
    have H':=Za H
    clear H
    go_wp2
    go_loopg [25] kj2 (fun kq v25 w'=>∃(x25_2:Int),v25=.int .i64 x25_2∧Aside0 (ZU.l0 kq l1 (l1.length:Int) x25_2=some r)∧Aside0 (kq≤kj2)∧Aside0 (w'.heap[gb127001]? = some (.cells #[.int .i64 a0_0,(.slice A0_1 l0_1.length c0_1)] 25 (0,0)))∧Aside0 (Below w.heap.size w w'))
    case atStart=>exact⟨(0),(by first|rfl|(simp;done)|(simp[*];done)),H',⟨Nat.le_refl _⟩,⟨by(with_reducible repeat(first|refine Zo ?_ _|refine Zr ?_|refine Zn ?_ _));exact BK127001.out⟩,⟨by repeat(first|(with_reducible first|exact HB.out|apply Zq|apply Zm|apply Zs|refine Zp ?_ GE127001.out)|exact HB.out)⟩⟩
    case round=>
     clear H'
     try clear c1
     try clear p1
     try clear q1
     try clear hx1
     try clear qi1
     try clear p2
     try clear c6
     try clear c7
     try clear c7b0
     try clear c7b1
     try clear c8
     try clear c8b0
     try clear c8b1
     try clear c12
     try clear p12
     try clear q12
     try clear hx12
     try clear qi12
     try clear c17
     try clear hcz11_0
     try clear hcz11_1
     try clear hcz12_0
     try clear hcz12_1
     try clear hcz14_0
     try clear hcz14_1
     try clear hcz15_0
     try clear hcz15_1
     try clear hcz9_0
     try clear hcz9_1
     try clear hfz11_0
     try clear hfz11_1
     try clear hfz12_0
     try clear hfz12_1
     try clear hfz14_0
     try clear hfz14_1
     try clear hfz15_0
     try clear hfz15_1
     try clear hfz9_0
     try clear hfz9_1
     try clear hx127003_0
     try clear p1
     try clear p12
     try clear p127003
     try clear p2
     try clear q1
     try clear q12
     try clear q127003
     obtain⟨x25_2,rfl,HA,HK2,BK127001,HB⟩:=hrel
     cases gk with
     | zero=>exact absurd HA.out (by simp[ZU.l0])
     | succ k2=>
      have H:=HA.out
      clear HA
      simp only[ZU.l0] at H
      by_cases c18:x25_2<(l1.length:Int)
      ·rw[if_pos c18] at H
       have c18b0:decide (x25_2<(l1.length:Int))=true:=Ze c18
       clear c18
       by_cases c19:0≤x25_2
       ·rw[if_pos c19] at H
        have c19b0:decide (0≤x25_2)=true:=Ze c19
        clear c19
        by_cases c20:x25_2<(l1.length:Int)
        ·rw[if_pos c20] at H
         have c20b0:decide (x25_2<(l1.length:Int))=true:=Ze c20
         clear c20
         replace H:=Zh H
         obtain⟨t127005,A210,H⟩:=H
         replace H:(if t127005=true then(ZU.l0 k2 l1 (l1.length:Int) (wrap64 (x25_2+1))) else(some false))=some r:=H
         have A21:=Za A210;clear A210
         by_cases c22:t127005=true
         ·subst c22
          have H1:(ZU.l0 k2 l1 (l1.length:Int) (wrap64 (x25_2+1)))=some r:=by rw[if_pos rfl] at H;exact H
          clear H
          have H:=H1
          clear H1
          have H':=Za H
          clear H
          have p127004:0≤(x25_2:Int):=Zd (by first|(with_reducible assumption)|assumption)
          have q127004:x25_2<(l1.length:Int):=Zd (by first|(with_reducible assumption)|assumption)
          obtain⟨ad127004,e127004,hx127004_0⟩:=Kd.at_int HR1.out x25_2 p127004 q127004
          cases e127004
          replace hx127004_0:=(HB.out.cell (Zc w _ hx127004_0)).trans hx127004_0
          replace p127004:=eq_true p127004
          replace q127004:=eq_true q127004
          go_wp2_with (first|((with_reducible refine ZG (f:=87) rfl ?_);refine ZV (some 30) rfl rfl Try.func87 (by kernel_rfl) rfl #[.int .i64 (rd l1 x25_2),.int .i64 (-1),.int .i64 999999] rfl (by(try simp only[List.map_toArray,List.map_cons,List.map_nil]);first|done|rfl|(simp only[Zk,Zj];rfl)) ?_;(with_reducible refine(ZJ.calls (rd l1 x25_2) (-1) 999999 true _ A21.out).mono ?_);rintro e w' ⟨rfl,⟨nd,rfl⟩⟩;refine⟨_,rfl,?_⟩))
          go_roundg k2
          case measure=>have:=HJ2.out;have:=HK2.out;omega
          case rel=>exact⟨(wrap64 (x25_2+1)),(by first|rfl|(simp;done)|(simp[*];done)),H',⟨by have:=HJ2.out;have:=HK2.out;omega⟩,⟨by(with_reducible repeat(first|refine Zo ?_ _|refine Zr ?_|refine Zn ?_ _));exact BK127001.out⟩,⟨by repeat(first|(with_reducible first|exact HB.out|apply Zq|apply Zm|apply Zs|refine Zp ?_ GE127001.out)|exact HB.out)⟩⟩
         ·replace c22:=Bool.eq_false_iff.mpr c22
          subst c22
          have H1:(some false)=some r:=by rw[if_neg (show ¬(false=true) by decide)] at H;exact H
          clear H
          have H:=H1
          clear H1
          obtain rfl:=Zg H
          have p127004:0≤(x25_2:Int):=Zd (by first|(with_reducible assumption)|assumption)
          have q127004:x25_2<(l1.length:Int):=Zd (by first|(with_reducible assumption)|assumption)
          obtain⟨ad127004,e127004,hx127004_0⟩:=Kd.at_int HR1.out x25_2 p127004 q127004
          cases e127004
          replace hx127004_0:=(HB.out.cell (Zc w _ hx127004_0)).trans hx127004_0
          replace p127004:=eq_true p127004
          replace q127004:=eq_true q127004
          go_wp2_with (first|((with_reducible refine ZG (f:=87) rfl ?_);refine ZV (some 30) rfl rfl Try.func87 (by kernel_rfl) rfl #[.int .i64 (rd l1 x25_2),.int .i64 (-1),.int .i64 999999] rfl (by(try simp only[List.map_toArray,List.map_cons,List.map_nil]);first|done|rfl|(simp only[Zk,Zj];rfl)) ?_;(with_reducible refine(ZJ.calls (rd l1 x25_2) (-1) 999999 false _ A21.out).mono ?_);rintro e w' ⟨rfl,⟨nd,rfl⟩⟩;refine⟨_,rfl,?_⟩))
          go_ret
          exact⟨by first|rfl|(simp[ZA,Zz] <;> rfl)|(simp[*,ZA,Zz] <;> rfl),by repeat(first|(with_reducible first|exact HB.out|apply Zq|apply Zm|apply Zs|refine Zp ?_ GE127001.out)|exact HB.out)⟩
        ·rw[if_neg c20] at H
         exact absurd H (by simp)
       ·rw[if_neg c19] at H
        exact absurd H (by simp)
      ·rw[if_neg c18] at H
       have c18b0:decide (x25_2<(l1.length:Int))=false:=Zf c18
       clear c18
       obtain rfl:=Zg H
       go_wp2
       go_ret
       exact⟨by first|rfl|(simp[ZA,Zz] <;> rfl)|(simp[*,ZA,Zz] <;> rfl),by repeat(first|(with_reducible first|exact HB.out|apply Zq|apply Zm|apply Zs|refine Zp ?_ GE127001.out)|exact HB.out)⟩
def Zax.f (a0_0:Int) (l0_1:List (S101)):Option (Int×(List (S101))):=(some (([]:List (S101)):List (S101))).bind fun y128003=>(if y128003.length+l0_1.length<4398046511104 then(some (a0_0,(y128003 ++ l0_1))) else(none))
def Zax.T1:Bool×List (List Nat×List Nat):=(true,[([],[]),([0],[0]),([],[]),([],[]),([3],[3]),([2,4],[2,4]),([1,5],[1,5]),([6,5,0,1,2,3,4,5,6],[6])])
def Zax.B1:List Nat:=[0,1,0,0,8,28,63,127]
theorem Zax.tab1:rtab .any (opsOf Try.f128 1)=Zax.T1:=by kernel_rfl
theorem Zax.bits1:ZbC Zax.T1.2 Zax.B1=true:=by kernel_rfl
set_option maxHeartbeats 8000000 in
set_option maxRecDepth 100000 in
theorem Zax.calls (a0_0:Int) (A0_1:Option Addr) (c0_1:Nat) (l0_1:List (S101)) (r1:Int) (r2:List (S101)) (w:World) (hr0_1:Kd.C k101 w A0_1 l0_1.length l0_1) (hc0_1:l0_1.length≤c0_1) (h:Zax.f a0_0 l0_1=some (r1,r2)) :
  Calls Try.prog 128 #[.agg #[.int .i64 a0_0,.slice A0_1 l0_1.length c0_1]] w fun e w'=>∃v1_:Value,e=.returned (.agg #[.int .i64 r1,v1_])∧Kd.R k101 101 w' w.heap.size (fun _=>True) v1_ r2∧Below w.heap.size w w':=by
 have hu25:=Try.underlying25
 have HR0_1:=Za hr0_1;have HC0_1:=Za hc0_1;clear hr0_1 hc0_1
 have HB:=Za (Below.refl w.heap.size w)
 have H:((some (([]:List (S101)):List (S101))).bind fun y128003=>(if y128003.length+l0_1.length<4398046511104 then(some (a0_0,(y128003 ++ l0_1))) else(none)))=some (r1,r2):=h
 clear h
 obtain⟨y128003,hy128003⟩:∃y_:List (S101),y_=(([]:List (S101))):=⟨_,rfl⟩
 replace H:(if y128003.length+l0_1.length<4398046511104 then(some (a0_0,(y128003 ++ l0_1))) else(none))=some (r1,r2):=by first|(rw[hy128003];with_reducible exact H)|(have H2_:=(Zi _ _).symm.trans H;rw[hy128003];with_reducible exact H2_)|(have H2_:=(Zi _ _).symm.trans H;with_reducible exact H2_)|with_reducible exact H|(rw[hy128003];exact H)|exact H
 have Ny128003:=Za hy128003;clear hy128003
 by_cases c2:y128003.length+l0_1.length<4398046511104
 ·rw[if_pos c2] at H
  have LMc2:=Za c2;clear c2
  obtain⟨y128006,hy128006⟩:∃y_:List (S101),y_=(y128003 ++ l0_1):=⟨_,rfl⟩
  replace H:(some (a0_0,y128006))=some (r1,r2):=by first|(rw[hy128006];with_reducible exact H)|(have H2_:=(Zi _ _).symm.trans H;rw[hy128006];with_reducible exact H2_)|(have H2_:=(Zi _ _).symm.trans H;with_reducible exact H2_)|with_reducible exact H|(rw[hy128006];exact H)|exact H
  have Ny128006:=Za hy128006;clear hy128006
  simp only[Option.some.injEq,Prod.mk.injEq] at H
  obtain⟨rfl,rfl⟩:=H
  go_enter Try.func128,Try.ntmps128
  try go_wp2_with (first|((with_reducible refine ZC (N:=1) rfl ?_);refine ZE ?hg (N:=1) ?hd (cs:=#[.int .i64 a0_0,.slice A0_1 l0_1.length c0_1]) (t:=25) ?hr ?_;(case hd=>rfl);(case hg=>rfl);(case hr=>first|(go_simp;done)|(go_simp;rfl));intro gb128001 hg w3 hbox hb;have n0_:=Za (Zy (by repeat(first|(with_reducible first|exact HB.out|apply Zq|apply Zm|apply Zs)|exact HB.out)) hb);have n1_:=Za (hbox);have n2_:=Za ((by rw[hg];exact(Zv (by repeat(first|(with_reducible first|exact HB.out|apply Zq|apply Zm|apply Zs)|exact HB.out))):w.heap.size≤gb128001));have n3_:=Za ((by rw[hg];exact(Zv (by repeat(first|(with_reducible first|exact HB.out|apply Zq|apply Zm|apply Zs)|exact HB.out))):w.heap.size≤gb128001));clear HB;have HB:=n0_;have BK128001:=n1_;have GW128001:=n2_;have GE128001:=n3_;clear n0_ n1_ n2_ n3_;clear hb hbox hg)|((with_reducible refine ZC (N:=2) rfl ?_);refine ZE ?hg (N:=2) ?hd (cs:=#[.int .i64 0,.slice none 0 0]) (t:=25) ?hr ?_;(case hd=>rfl);(case hg=>rfl);(case hr=>first|(go_simp;done)|(go_simp;rfl));intro gb128002 hg w4 hbox hb;have n0_:=Za (Zx (g:=gb128001) (o:=.cells #[.int .i64 a0_0,.slice A0_1 l0_1.length c0_1] 25 (0,0)) (by(with_reducible repeat(first|refine Zo ?_ _|refine Zr ?_|refine Zn ?_ _));exact BK128001.out) hb);have n1_:=Za (Zy (by repeat(first|(with_reducible first|exact HB.out|apply Zq|apply Zm|apply Zs|refine Zp ?_ GE128001.out)|exact HB.out)) hb);have n2_:=Za (hbox);have n3_:=Za ((by rw[hg];exact(Zv (by repeat(first|(with_reducible first|exact HB.out|apply Zq|apply Zm|apply Zs|refine Zp ?_ GE128001.out)|exact HB.out))):w.heap.size≤gb128002));have n4_:=Za ((by rw[hg];exact(Zv (by repeat(first|(with_reducible first|exact HB.out|apply Zq|apply Zm|apply Zs|refine Zp ?_ GE128001.out)|exact HB.out))):w.heap.size≤gb128002));have n5_:=Za ((by rw[hg];exact Nat.ne_of_lt (ZB (g:=gb128001) (o:=.cells #[.int .i64 a0_0,.slice A0_1 l0_1.length c0_1] 25 (0,0)) (by(with_reducible repeat(first|refine Zo ?_ _|refine Zr ?_|refine Zn ?_ _));exact BK128001.out)):gb128001≠gb128002));have n6_:=Za ((by rw[hg];exact Nat.ne_of_gt (ZB (g:=gb128001) (o:=.cells #[.int .i64 a0_0,.slice A0_1 l0_1.length c0_1] 25 (0,0)) (by(with_reducible repeat(first|refine Zo ?_ _|refine Zr ?_|refine Zn ?_ _));exact BK128001.out)):gb128002≠gb128001));clear BK128001;clear HB;have BK128001:=n0_;have HB:=n1_;have BK128002:=n2_;have GW128002:=n3_;have GE128002:=n4_;have NB128001_128002:=n5_;have NB128002_128001:=n6_;clear n0_ n1_ n2_ n3_ n4_ n5_ n6_;clear hb hbox hg))
  have n0_:=Za (Zr BK128001.out)
  have n1_:=Za (Zr BK128002.out)
  have n2_:=Za (Zs HB.out)
  clear BK128001 BK128002 HB;have BK128001:=n0_;have BK128002:=n1_;have HB:=n2_;clear n0_ n1_ n2_
  refine ZbU (n:=8) (S:=fun w'=>w'.cell? ⟨gb128001,0,none⟩=some (.int .i64 a0_0)∧w'.cell? ⟨gb128001,1,none⟩=some (.slice A0_1 l0_1.length c0_1)) (ds:=[]) #[false,false,false,false,false,false,false,false] (by kernel_rfl) rfl rfl ⟨(Zu BK128001.out 0).trans rfl,(Zu BK128001.out 1).trans rfl⟩ (fun hHeld=>?_);refine ZbE Zax.tab1 Zax.bits1 (fun HT_ HW_=>?_)
  generalize w4.drew=w5 at BK128001 BK128002 HB hHeld ⊢
  refine Zaf (i:=0) (N:=some 3) (v:=?_) (a':=?_) #[true,false,false,false,false,false,false,false] rfl rfl (Zac HT_.out (by kernel_rfl)) (fun _ _ _ h=>h) (Or.inl ⟨by rfl,?_⟩) ?_ ?_
  rotate_left
  ·intro w'
   go_simp
   with_reducible rfl
  rotate_left
  ·simp only[Act.put,List.setIfInBounds_toArray,List.set_cons_zero,List.set_cons_succ,ZO,ZP]
   rfl
  refine Zaf (i:=3) (N:=some 6) (v:=?_) (a':=?_) #[true,false,false,true,false,false,false,false] rfl rfl (Zac HT_.out (by kernel_rfl)) (fun _ _ _ h=>h) (Or.inl ⟨by rfl,?_⟩) ?_ ?_
  rotate_left
  ·intro w'
   go_simp
   with_reducible rfl
  rotate_left
  ·simp only[Act.put,List.setIfInBounds_toArray,List.set_cons_zero,List.set_cons_succ,ZO,ZP]
   rfl
  refine take_ (i:=1) (N:=some 4) (v:=?_) (a':=?_) #[true,true,false,true,false,false,false,false] rfl rfl (Zbd HT_.out HW_.out (by kernel_rfl)) (fun _ _ _ h=>h) (Or.inl ⟨by rfl,?_⟩) hHeld ?_ ?_
  rotate_left
  ·rintro w' ⟨s0,s1⟩
   go_simp
   with_reducible rfl
  rotate_left
  ·simp only[Act.put,List.setIfInBounds_toArray,List.set_cons_zero,List.set_cons_succ,ZO,ZP]
   rfl
  refine take_ (i:=4) (N:=some 7) (v:=?_) (a':=?_) #[true,true,false,true,true,false,false,false] rfl rfl (Zbd HT_.out HW_.out (by kernel_rfl)) (fun _ _ _ h=>h) (Or.inl ⟨by rfl,?_⟩) hHeld ?_ ?_
  rotate_left
  ·rintro w' ⟨s0,s1⟩
   go_simp
   with_reducible rfl
  rotate_left
  ·simp only[Act.put,List.setIfInBounds_toArray,List.set_cons_zero,List.set_cons_succ,ZO,ZP]
   rfl
  refine one_ (i:=2) (N:=some 5) #[true,true,true,true,true,false,false,false] rfl rfl (ZaI HT_.out (by kernel_rfl)) (by decide) (fun K hK=>?_)
  refine Kd.R_lit_step k101 _ 101 ?hg (N:=5) ?hd (xs:=([]:List (S101))) (inner:=[]) (ok:=fun _=>True) (okp:=fun _=>True) ?hr ?hp (fun _ hk=>hk) trivial (Below.refl _ _) (Nat.le_refl _) (by simp) ?_;(case hd=>rfl);(case hg=>rfl);(case hr=>first|(go_simp;done)|(go_simp;rfl));(case hp=>exact(Reps.none _ _))
  intro v128004 w6 ho7 hb hg_ hnew_
  clear hg_ hnew_
  (first|rw[← Ny128003.out] at ho7|(simp only[Int.reduceToNat] at ho7;rw[← Ny128003.out] at ho7))
  have n0_:=Za (Kd.R_lower ho7 (Zv (by repeat(first|(with_reducible first|exact HB.out|apply Zq|apply Zm|apply Zs|refine Zp ?_ GE128001.out|refine Zp ?_ GE128002.out)|exact HB.out))))
  have n1_:=Za (Zx (g:=gb128001) (o:=.cells #[.int .i64 a0_0,.slice A0_1 l0_1.length c0_1] 25 (0,0)) (by(with_reducible repeat(first|refine Zo ?_ _|refine Zr ?_|refine Zn ?_ _));exact BK128001.out) hb)
  have n2_:=Za (Zx (g:=gb128002) (o:=.cells #[.int .i64 0,.slice none 0 0] 25 (0,0)) (by(with_reducible repeat(first|refine Zo ?_ _|refine Zr ?_|refine Zn ?_ _));exact BK128002.out) hb)
  have n3_:=Za (Zy (by repeat(first|(with_reducible first|exact HB.out|apply Zq|apply Zm|apply Zs|refine Zp ?_ GE128001.out|refine Zp ?_ GE128002.out)|exact HB.out)) hb)
  clear BK128001 BK128002 HB;have HO128005:=n0_;have BK128001:=n1_;have BK128002:=n2_;have HB:=n3_;clear n0_ n1_ n2_ n3_ hb ho7
  refine hK.out _ _ ⟨(Zu BK128001.out 0).trans rfl,(Zu BK128001.out 1).trans rfl⟩ (fun hHeld=>?_)
  clear hK K
  refine Zag (a':=?_) ?_ ?_
  rotate_left
  ·show Act.put _ (some 5) _=_
   simp only[Act.put,List.setIfInBounds_toArray,List.set_cons_zero,List.set_cons_succ,ZO,ZP]
   rfl
  refine one_ (i:=5) (N:=some 8) #[true,true,true,true,true,true,false,false] rfl rfl (ZaI HT_.out (by kernel_rfl)) (by decide) (fun K hK=>?_)
  refine Kd.R_append_rows_step k101 (w0:=w) w.heap.size (by rfl) (.tmp 5) (.tmp 7) 23 101 (.agg #[(.int .i64 0),(.int .i64 0),(.int .i64 0),(.int .i64 0)]) 32 rfl Try.underlying23 ZcK rfl (by decide) (by omega) v128004 y128003 l0_1 _ _ _ (fun _=>True) (fun _=>False) rfl rfl ?aO ?aR (fun _ _ h=>h) (fun _ h=>h.elim) ?aF ?aB ?aS ?aL ?_
  (case aR=>repeat(first|exact(Zb HR0_1.out HB.out)|(with_reducible refine Kd.C_alloc ?_ _)|(with_reducible refine Kd.C_drewN ?_ _)|(with_reducible refine Kd.C_drew ?_)))
  (case aB=>exact(by repeat(first|(with_reducible first|exact HB.out|apply Zq|apply Zm|apply Zs|refine Zp ?_ GE128001.out|refine Zp ?_ GE128002.out)|exact HB.out)))
  (case aF=>exact(fun _ _=>trivial))
  (case aO=>exact(by(with_reducible repeat(first|apply Kd.R_alloc|apply Kd.R_drewN|apply Kd.R_drew));exact HO128005.out))
  (case aS=>exact(Zv (by repeat(first|(with_reducible first|exact HB.out|apply Zq|apply Zm|apply Zs|refine Zp ?_ GE128001.out|refine Zp ?_ GE128002.out)|exact HB.out))))
  (case aL=>have:=LMc2.out;omega)
  intro v128007 w8 ho hb hg hat
  rw[← Ny128006.out] at ho
  have n0_:=Za (ZT (g:=gb128001) (o:=.cells #[.int .i64 a0_0,.slice A0_1 l0_1.length c0_1] 25 (0,0)) (by(with_reducible repeat(first|refine Zo ?_ _|refine Zr ?_|refine Zn ?_ _));exact BK128001.out) hg (Kd.R_ne HO128005.out BK128001.out (by decide)))
  have n1_:=Za (ZT (g:=gb128002) (o:=.cells #[.int .i64 0,.slice none 0 0] 25 (0,0)) (by(with_reducible repeat(first|refine Zo ?_ _|refine Zr ?_|refine Zn ?_ _));exact BK128002.out) hg (Kd.R_ne HO128005.out BK128002.out (by decide)))
  have n2_:=Za (hb)
  have n3_:=Za (ho)
  clear BK128001 BK128002 HB HO128005;have BK128001:=n0_;have BK128002:=n1_;have HB:=n2_;have HO128008:=n3_;clear n0_ n1_ n2_ n3_ ho hb hg hat
  obtain⟨Ao9,co9,eo9⟩:=Kd.R_slice HO128008.out
  (first|subst eo9|(injection eo9 with f1_ f2_ f3_;have f4_:=f1_.symm;have f5_:=f3_.symm;clear f1_ f2_ f3_;subst f4_;subst f5_))
  refine hK.out _ _ ⟨(Zu BK128001.out 0).trans rfl,(Zu BK128001.out 1).trans rfl⟩ (fun hHeld=>?_)
  clear hK K
  refine Zag (a':=?_) ?_ ?_
  rotate_left
  ·show Act.put _ (some 8) _=_
   simp only[Act.put,List.setIfInBounds_toArray,List.set_cons_zero,List.set_cons_succ,ZO,ZP]
   rfl
  refine Zaf (i:=6) (N:=some 9) (v:=?_) (a':=?_) #[true,true,true,true,true,true,true,false] rfl rfl (Zac HT_.out (by kernel_rfl)) (fun _ _ _ h=>h) (Or.inl ⟨by rfl,?_⟩) ?_ ?_
  rotate_left
  ·intro w'
   go_simp
   with_reducible rfl
  rotate_left
  ·simp only[Act.put,List.setIfInBounds_toArray,List.set_cons_zero,List.set_cons_succ,ZO,ZP]
   rfl
  refine one_ (i:=7) (N:=none) #[true,true,true,true,true,true,true,true] rfl rfl (ZaI HT_.out (by kernel_rfl)) (by decide) (fun K hK=>?_)
  have hs10:w8.cell? ⟨gb128002,0,none⟩=some (.int .i64 0):=(Zu BK128002.out 0).trans rfl
  have hfs10:=Zt BK128002.out 0
  have hns10_0:=NB128001_128002.out
  have hms10_0:=NB128002_128001.out
  have hs11:w8.cell? ⟨gb128002,1,none⟩=some (.slice none 0 0):=(Zu BK128002.out 1).trans rfl
  have hfs11:=Zt BK128002.out 1
  have hns11_0:=NB128001_128002.out
  have hms11_0:=NB128002_128001.out
  refine Zcl (w1:=?_) (by rfl) rfl ?_ ?_
  rotate_left
  ·go_simp
   rfl
  refine hK.out _ _ ⟨((Zai (p:=⟨gb128002,_,none⟩) NB128001_128002.out _).trans (((Zai (p:=⟨gb128002,_,none⟩) NB128001_128002.out _).trans (hHeld.1)))),((Zai (p:=⟨gb128002,_,none⟩) NB128001_128002.out _).trans (((Zai (p:=⟨gb128002,_,none⟩) NB128001_128002.out _).trans (hHeld.2))))⟩ (fun hHeld=>?_)
  clear hK K
  refine Zce (Zb1 HT_.out (by kernel_rfl)) ?_
  try go_wp2
  refine bodyPost_ret (results_cell_row rfl _ _ gb128002 25 #[.int .i64 a0_0,.slice Ao9 y128006.length co9] (0,0) _ rfl (by(with_reducible repeat(first|refine Zo ?_ _|refine Zr ?_|refine Zn ?_ _));refine ZF (cs:=#[.int .i64 a0_0,.slice none 0 0]) ?_ 1 _ rfl;(with_reducible repeat(first|refine Zo ?_ _|refine Zr ?_|refine Zn ?_ _));refine ZF (cs:=#[.int .i64 0,.slice none 0 0]) ?_ 0 _ rfl;(with_reducible repeat(first|refine Zo ?_ _|refine Zr ?_|refine Zn ?_ _));exact BK128002.out) Try.underlying25 rfl (by kernel_rfl)) rfl ?_
  exact⟨_,by first|rfl|(simp[ZA,Zz] <;> rfl)|(simp[*,ZA,Zz] <;> rfl),by(with_reducible repeat(first|apply Kd.R_alloc|apply Kd.R_drewN|apply Kd.R_drew));exact Kd.R_mono (Kd.R_far (p:=⟨gb128002,1,none⟩) (Kd.R_far (p:=⟨gb128002,0,none⟩) (Kd.R_types HO128008.out BK128002.out (by decide)) (fun _ hk=>hk.2) (.int .i64 a0_0)) (fun _ hk=>hk.2) (.slice Ao9 y128006.length co9)) (fun _ hk=>trivial),by repeat(first|(with_reducible first|exact HB.out|apply Zq|apply Zm|apply Zs|refine Zp ?_ GE128001.out|refine Zp ?_ GE128002.out)|exact HB.out)⟩
 ·rw[if_neg c2] at H
  exact absurd H (by simp)
def ZY.l0:Nat→List Int→Int→Int→Int→List (S101)→Option (Int×(List (S101))×Bool)
 | 0,_,_,_,_,_=>none
 | k+1,x16,x17,x18,x82009000,x82009001=>if x18<x17 then(if 0≤x18 then(if x18<(x16.length:Int) then(if x18 > 0 then(if (rd x16 x18)=(-1) then(ZY.l0 k x16 x17 (wrap64 (x18+1)) x82009000 x82009001) else(if x82009001.length<4398046511104 then(ZY.l0 k x16 x17 (wrap64 (x18+1)) x82009000 (x82009001 ++ [(⟨0,x18,(⟨rd x16 x18,rd x16 x18⟩:S29)⟩:S101)])) else(none))) else(ZY.l0 k x16 x17 (wrap64 (x18+1)) x82009000 x82009001)) else(none)) else(none)) else((ZL.f k x82009000 x82009001).bind fun t82013=>(if t82013=true then(some (x82009000,x82009001,true)) else(some (0,([]:List (S101)),false))))
def ZY.f (k:Nat) (a0_0:Int) (l0_1:List (S101)) (l1:List Int):Option (Int×(List (S101))×Bool):=(ZU.f k a0_0 l0_1 l1).bind fun t82003=>(if t82003=true then((Zax.f a0_0 l0_1).bind fun bt82004=>(ZY.l0 k l1 (l1.length:Int) 0 bt82004.1 bt82004.2)) else(some (0,([]:List (S101)),false)))
set_option maxHeartbeats 8000000 in
set_option maxRecDepth 100000 in
theorem ZY.calls (k:Nat) (a0_0:Int) (A0_1:Option Addr) (c0_1:Nat) (l0_1:List (S101)) (A1:Option Addr) (c1:Nat) (l1:List Int) (r1:Int) (r2:List (S101)) (r3:Bool) (w:World) (hr0_1:Kd.C k101 w A0_1 l0_1.length l0_1) (hc0_1:l0_1.length≤c0_1) (hr1:Kd.C (Kd.int .i64) w A1 l1.length l1) (hc1:l1.length≤c1) (h:ZY.f k a0_0 l0_1 l1=some (r1,r2,r3)) :
  Calls Try.prog 82 #[.agg #[.int .i64 a0_0,.slice A0_1 l0_1.length c0_1],.slice A1 l1.length c1] w fun e w'=>∃v1_:Value,e=.returned (.tuple #[.agg #[.int .i64 r1,v1_],.bool r3])∧Kd.R k101 101 w' w.heap.size (fun _=>True) v1_ r2∧Below w.heap.size w w':=by
 have hu25:=Try.underlying25
 have hu29:=Try.underlying29
 have hu101:=Try.underlying101
 have HR0_1:=Za hr0_1;have HC0_1:=Za hc0_1;clear hr0_1 hc0_1;have HR1:=Za hr1;have HC1:=Za hc1;clear hr1 hc1
 have HB:=Za (Below.refl w.heap.size w)
 have H:((ZU.f k a0_0 l0_1 l1).bind fun t82003=>(if t82003=true then((Zax.f a0_0 l0_1).bind fun bt82004=>(ZY.l0 k l1 (l1.length:Int) 0 bt82004.1 bt82004.2)) else(some (0,([]:List (S101)),false))))=some (r1,r2,r3):=h
 clear h
 replace H:=Zh H
 obtain⟨t82003,A30,H⟩:=H
 replace H:(if t82003=true then((Zax.f a0_0 l0_1).bind fun bt82004=>(ZY.l0 k l1 (l1.length:Int) 0 bt82004.1 bt82004.2)) else(some (0,([]:List (S101)),false)))=some (r1,r2,r3):=H
 have A3:=Za A30;clear A30
 by_cases c4:t82003=true
 ·subst c4
  have H1:((Zax.f a0_0 l0_1).bind fun bt82004=>(ZY.l0 k l1 (l1.length:Int) 0 bt82004.1 bt82004.2))=some (r1,r2,r3):=by rw[if_pos rfl] at H;exact H
  clear H
  have H:=H1
  clear H1
  replace H:=Zh H
  obtain⟨⟨t82004,t82005⟩,A50,H⟩:=H
  replace H:(ZY.l0 k l1 (l1.length:Int) 0 t82004 t82005)=some (r1,r2,r3):=H
  have A5:=Za A50;clear A50
  have H':=Za H
  clear H
  go_enter Try.func82,Try.ntmps82
  go_wp2_with (first|((with_reducible refine ZC (N:=2) rfl ?_);refine ZE ?hg (N:=2) ?hd (cs:=#[.int .i64 a0_0,.slice A0_1 l0_1.length c0_1]) (t:=25) ?hr ?_;(case hd=>rfl);(case hg=>rfl);(case hr=>first|(go_simp;done)|(go_simp;rfl));intro gb82001 hg w6 hbox hb;have n0_:=Za (Zy (by repeat(first|(with_reducible first|exact HB.out|apply Zq|apply Zm|apply Zs)|exact HB.out)) hb);have n1_:=Za (hbox);have n2_:=Za ((by rw[hg];exact(Zv (by repeat(first|(with_reducible first|exact HB.out|apply Zq|apply Zm|apply Zs)|exact HB.out))):w.heap.size≤gb82001));have n3_:=Za ((by rw[hg];exact(Zv (by repeat(first|(with_reducible first|exact HB.out|apply Zq|apply Zm|apply Zs)|exact HB.out))):w.heap.size≤gb82001));clear HB;have HB:=n0_;have BK82001:=n1_;have GW82001:=n2_;have GE82001:=n3_;clear n0_ n1_ n2_ n3_;clear hb hbox hg)|((with_reducible refine ZC (N:=4) rfl ?_);refine ZE ?hg (N:=4) ?hd (cs:=#[.int .i64 0,.slice none 0 0]) (t:=25) ?hr ?_;(case hd=>rfl);(case hg=>rfl);(case hr=>first|(go_simp;done)|(go_simp;rfl));intro gb82002 hg w7 hbox hb;have n0_:=Za (Zx (g:=gb82001) (o:=.cells #[.int .i64 a0_0,.slice A0_1 l0_1.length c0_1] 25 (0,0)) (by(with_reducible repeat(first|refine Zo ?_ _|refine Zr ?_|refine Zn ?_ _));exact BK82001.out) hb);have n1_:=Za (Zy (by repeat(first|(with_reducible first|exact HB.out|apply Zq|apply Zm|apply Zs|refine Zp ?_ GE82001.out)|exact HB.out)) hb);have n2_:=Za (hbox);have n3_:=Za ((by rw[hg];exact(Zv (by repeat(first|(with_reducible first|exact HB.out|apply Zq|apply Zm|apply Zs|refine Zp ?_ GE82001.out)|exact HB.out))):w.heap.size≤gb82002));have n4_:=Za ((by rw[hg];exact(Zv (by repeat(first|(with_reducible first|exact HB.out|apply Zq|apply Zm|apply Zs|refine Zp ?_ GE82001.out)|exact HB.out))):w.heap.size≤gb82002));have n5_:=Za ((by rw[hg];exact Nat.ne_of_lt (ZB (g:=gb82001) (o:=.cells #[.int .i64 a0_0,.slice A0_1 l0_1.length c0_1] 25 (0,0)) (by(with_reducible repeat(first|refine Zo ?_ _|refine Zr ?_|refine Zn ?_ _));exact BK82001.out)):gb82001≠gb82002));have n6_:=Za ((by rw[hg];exact Nat.ne_of_gt (ZB (g:=gb82001) (o:=.cells #[.int .i64 a0_0,.slice A0_1 l0_1.length c0_1] 25 (0,0)) (by(with_reducible repeat(first|refine Zo ?_ _|refine Zr ?_|refine Zn ?_ _));exact BK82001.out)):gb82002≠gb82001));clear BK82001;clear HB;have BK82001:=n0_;have HB:=n1_;have BK82002:=n2_;have GW82002:=n3_;have GE82002:=n4_;have NB82001_82002:=n5_;have NB82002_82001:=n6_;clear n0_ n1_ n2_ n3_ n4_ n5_ n6_;clear hb hbox hg;have hnb8:=NB82001_82002.out;have hnc8:=NB82002_82001.out;have hcz9_0:w7.cell? ⟨gb82001,0,none⟩=some (.int .i64 a0_0):=(Zu BK82001.out 0).trans rfl;have hcz9_1:w7.cell? ⟨gb82001,1,none⟩=some (.slice A0_1 l0_1.length c0_1):=(Zu BK82001.out 1).trans rfl;have hfz9_0:=Zt BK82001.out 0;have hfz9_1:=Zt BK82001.out 1)|((with_reducible refine ZG (f:=127) rfl ?_);refine ZV (some 11) rfl rfl Try.func127 (by kernel_rfl) rfl #[.agg #[.int .i64 a0_0,.slice A0_1 l0_1.length c0_1],.slice A1 l1.length c1] rfl (by(try simp only[List.map_toArray,List.map_cons,List.map_nil]);first|done|rfl|(simp only[Zk,Zj];rfl)) ?_;(with_reducible refine(ZU.calls k a0_0 _ _ l0_1 _ _ l1 true _ ?side1 ?side2 ?side3 ?side4 A3.out).mono ?_);(case side1=>repeat(first|exact(Zb HR0_1.out HB.out)|(with_reducible refine Kd.C_alloc ?_ _)|(with_reducible refine Kd.C_drewN ?_ _)|(with_reducible refine Kd.C_drew ?_)));(case side2=>exact HC0_1.out);(case side3=>repeat(first|exact(Zb HR1.out HB.out)|(with_reducible refine Kd.C_alloc ?_ _)|(with_reducible refine Kd.C_drewN ?_ _)|(with_reducible refine Kd.C_drew ?_)));(case side4=>exact HC1.out);rintro e w10 ⟨rfl,hb⟩;refine⟨_,rfl,?_⟩;have n0_:=Za (Zx (g:=gb82001) (o:=.cells #[.int .i64 a0_0,.slice A0_1 l0_1.length c0_1] 25 (0,0)) (by(with_reducible repeat(first|refine Zo ?_ _|refine Zr ?_|refine Zn ?_ _));exact BK82001.out) hb);have n1_:=Za (Zx (g:=gb82002) (o:=.cells #[.int .i64 0,.slice none 0 0] 25 (0,0)) (by(with_reducible repeat(first|refine Zo ?_ _|refine Zr ?_|refine Zn ?_ _));exact BK82002.out) hb);have n2_:=Za (Zy (by repeat(first|(with_reducible first|exact HB.out|apply Zq|apply Zm|apply Zs|refine Zp ?_ GE82001.out|refine Zp ?_ GE82002.out)|exact HB.out)) hb);clear BK82001;clear BK82002;clear HB;have BK82001:=n0_;have BK82002:=n1_;have HB:=n2_;clear n0_ n1_ n2_;(try clear hb);(try clear hb2);(try clear hk);(try clear hi);have hcz11_0:w10.cell? ⟨gb82001,0,none⟩=some (.int .i64 a0_0):=(Zu BK82001.out 0).trans rfl;have hcz11_1:w10.cell? ⟨gb82001,1,none⟩=some (.slice A0_1 l0_1.length c0_1):=(Zu BK82001.out 1).trans rfl;have hfz11_0:=Zt BK82001.out 0;have hfz11_1:=Zt BK82001.out 1)|((with_reducible refine ZG (f:=128) rfl ?_);refine ZV (some 15) rfl rfl Try.func128 (by kernel_rfl) rfl #[.agg #[.int .i64 a0_0,.slice A0_1 l0_1.length c0_1]] rfl (by(try simp only[List.map_toArray,List.map_cons,List.map_nil]);first|done|rfl|(simp only[Zk,Zj];rfl)) ?_;(with_reducible refine(Zax.calls a0_0 _ _ l0_1 t82004 t82005 _ ?side1 ?side2 A5.out).mono ?_);(case side1=>repeat(first|exact(Zb HR0_1.out HB.out)|(with_reducible refine Kd.C_alloc ?_ _)|(with_reducible refine Kd.C_drewN ?_ _)|(with_reducible refine Kd.C_drew ?_)));(case side2=>exact HC0_1.out);rintro e w12 ⟨v82006,rfl,ho0,hb⟩;refine⟨_,rfl,?_⟩;have n0_:=Za (Kd.R_lower ho0 (Zv (by repeat(first|(with_reducible first|exact HB.out|apply Zq|apply Zm|apply Zs|refine Zp ?_ GE82001.out|refine Zp ?_ GE82002.out)|exact HB.out))));have n1_:=Za (Zx (g:=gb82001) (o:=.cells #[.int .i64 a0_0,.slice A0_1 l0_1.length c0_1] 25 (0,0)) (by(with_reducible repeat(first|refine Zo ?_ _|refine Zr ?_|refine Zn ?_ _));exact BK82001.out) hb);have n2_:=Za (Zx (g:=gb82002) (o:=.cells #[.int .i64 0,.slice none 0 0] 25 (0,0)) (by(with_reducible repeat(first|refine Zo ?_ _|refine Zr ?_|refine Zn ?_ _));exact BK82002.out) hb);have n3_:=Za (Zy (by repeat(first|(with_reducible first|exact HB.out|apply Zq|apply Zm|apply Zs|refine Zp ?_ GE82001.out|refine Zp ?_ GE82002.out)|exact HB.out)) hb);clear BK82001;clear BK82002;clear HB;have HO82007:=n0_;have BK82001:=n1_;have BK82002:=n2_;have HB:=n3_;clear n0_ n1_ n2_ n3_;(try clear hb);(try clear hb2);(try clear hk);(try clear hi);(try clear ho0))|((with_reducible refine ZC (N:=6) rfl ?_);refine ZE ?hg (N:=6) ?hd (cs:=#[.int .i64 0,.slice none 0 0]) (t:=25) ?hr ?_;(case hd=>rfl);(case hg=>rfl);(case hr=>first|(go_simp;done)|(go_simp;rfl));intro gb82008 hg w13 hbox hb;have n0_:=Za (Kd.R_below (by(with_reducible repeat(first|apply Kd.R_alloc|apply Kd.R_drewN|apply Kd.R_drew));exact HO82007.out) hb);have n1_:=Za (Zx (g:=gb82001) (o:=.cells #[.int .i64 a0_0,.slice A0_1 l0_1.length c0_1] 25 (0,0)) (by(with_reducible repeat(first|refine Zo ?_ _|refine Zr ?_|refine Zn ?_ _));exact BK82001.out) hb);have n2_:=Za (Zx (g:=gb82002) (o:=.cells #[.int .i64 0,.slice none 0 0] 25 (0,0)) (by(with_reducible repeat(first|refine Zo ?_ _|refine Zr ?_|refine Zn ?_ _));exact BK82002.out) hb);have n3_:=Za (Zy (by repeat(first|(with_reducible first|exact HB.out|apply Zq|apply Zm|apply Zs|refine Zp ?_ GE82001.out|refine Zp ?_ GE82002.out)|exact HB.out)) hb);have n4_:=Za (hbox);have n5_:=Za ((by rw[hg];exact(Zv (by repeat(first|(with_reducible first|exact HB.out|apply Zq|apply Zm|apply Zs|refine Zp ?_ GE82001.out|refine Zp ?_ GE82002.out)|exact HB.out))):w.heap.size≤gb82008));have n6_:=Za ((by rw[hg];exact(Zv (by repeat(first|(with_reducible first|exact HB.out|apply Zq|apply Zm|apply Zs|refine Zp ?_ GE82001.out|refine Zp ?_ GE82002.out)|exact HB.out))):w.heap.size≤gb82008));have n7_:=Za ((by rw[hg];exact Nat.ne_of_lt (ZB (g:=gb82001) (o:=.cells #[.int .i64 a0_0,.slice A0_1 l0_1.length c0_1] 25 (0,0)) (by(with_reducible repeat(first|refine Zo ?_ _|refine Zr ?_|refine Zn ?_ _));exact BK82001.out)):gb82001≠gb82008));have n8_:=Za ((by rw[hg];exact Nat.ne_of_gt (ZB (g:=gb82001) (o:=.cells #[.int .i64 a0_0,.slice A0_1 l0_1.length c0_1] 25 (0,0)) (by(with_reducible repeat(first|refine Zo ?_ _|refine Zr ?_|refine Zn ?_ _));exact BK82001.out)):gb82008≠gb82001));have n9_:=Za ((by rw[hg];exact Nat.ne_of_lt (ZB (g:=gb82002) (o:=.cells #[.int .i64 0,.slice none 0 0] 25 (0,0)) (by(with_reducible repeat(first|refine Zo ?_ _|refine Zr ?_|refine Zn ?_ _));exact BK82002.out)):gb82002≠gb82008));have n10_:=Za ((by rw[hg];exact Nat.ne_of_gt (ZB (g:=gb82002) (o:=.cells #[.int .i64 0,.slice none 0 0] 25 (0,0)) (by(with_reducible repeat(first|refine Zo ?_ _|refine Zr ?_|refine Zn ?_ _));exact BK82002.out)):gb82008≠gb82002));clear HO82007;clear BK82001;clear BK82002;clear HB;have HO82007:=n0_;have BK82001:=n1_;have BK82002:=n2_;have HB:=n3_;have BK82008:=n4_;have GW82008:=n5_;have GE82008:=n6_;have NB82001_82008:=n7_;have NB82008_82001:=n8_;have NB82002_82008:=n9_;have NB82008_82002:=n10_;clear n0_ n1_ n2_ n3_ n4_ n5_ n6_ n7_ n8_ n9_ n10_;clear hb hbox hg;have hnb14:=NB82008_82001.out;have hnc14:=NB82001_82008.out;have hnb15:=NB82008_82002.out;have hnc15:=NB82002_82008.out;have hcz16_0:w13.cell? ⟨gb82008,0,none⟩=some (.int .i64 0):=(Zu BK82008.out 0).trans rfl;have hcz16_1:w13.cell? ⟨gb82008,1,none⟩=some (.slice none 0 0):=(Zu BK82008.out 1).trans rfl;have hfz16_0:=Zt BK82008.out 0;have hfz16_1:=Zt BK82008.out 1;obtain⟨Ao17,co17,eo17⟩:=Kd.R_slice HO82007.out;subst eo17))
  go_loopg [18] k (fun kq v18 w'=>∃(x18_1:Int) (x82009001_1:List (S101)) (u82009001:Value),v18=.int .i64 x18_1∧Aside0 (ZY.l0 kq l1 (l1.length:Int) x18_1 t82004 x82009001_1=some (r1,r2,r3))∧Aside0 (kq≤k)∧Aside0 (Kd.R k101 101 w' w.heap.size (fun _=>True) u82009001 x82009001_1)∧Aside0 (w'.heap[gb82001]? = some (.cells #[.int .i64 a0_0,(.slice A0_1 l0_1.length c0_1)] 25 (0,0)))∧Aside0 (w'.heap[gb82002]? = some (.cells #[.int .i64 0,(.slice none 0 0)] 25 (0,0)))∧Aside0 (w'.heap[gb82008]? = some (.cells #[.int .i64 t82004,u82009001] 25 (0,0)))∧Aside0 (Below w.heap.size w w'))
  case atStart=>exact⟨(0),(t82005),(.slice Ao17 t82005.length co17),(by first|rfl|(simp;done)|(simp[*];done)),H',⟨Nat.le_refl _⟩,⟨by(with_reducible repeat(first|apply Kd.R_alloc|apply Kd.R_drewN|apply Kd.R_drew));exact Kd.R_mono (Kd.R_far (p:=⟨gb82008,1,none⟩) (Kd.R_far (p:=⟨gb82008,0,none⟩) (Kd.R_types HO82007.out BK82008.out (by decide)) (fun _ hk=>hk.2) (.int .i64 t82004)) (fun _ hk=>hk.2) (.slice Ao17 t82005.length co17)) (fun _ hk=>trivial)⟩,⟨by(with_reducible repeat(first|refine Zo ?_ _|refine Zr ?_|refine Zn ?_ _));refine ZD ?_ NB82001_82008.out _;(with_reducible repeat(first|refine Zo ?_ _|refine Zr ?_|refine Zn ?_ _));refine ZD ?_ NB82001_82008.out _;(with_reducible repeat(first|refine Zo ?_ _|refine Zr ?_|refine Zn ?_ _));exact BK82001.out⟩,⟨by(with_reducible repeat(first|refine Zo ?_ _|refine Zr ?_|refine Zn ?_ _));refine ZD ?_ NB82002_82008.out _;(with_reducible repeat(first|refine Zo ?_ _|refine Zr ?_|refine Zn ?_ _));refine ZD ?_ NB82002_82008.out _;(with_reducible repeat(first|refine Zo ?_ _|refine Zr ?_|refine Zn ?_ _));exact BK82002.out⟩,⟨by(with_reducible repeat(first|refine Zo ?_ _|refine Zr ?_|refine Zn ?_ _));refine ZF (cs:=#[.int .i64 t82004,.slice none 0 0]) ?_ 1 _ rfl;(with_reducible repeat(first|refine Zo ?_ _|refine Zr ?_|refine Zn ?_ _));refine ZF (cs:=#[.int .i64 0,.slice none 0 0]) ?_ 0 _ rfl;(with_reducible repeat(first|refine Zo ?_ _|refine Zr ?_|refine Zn ?_ _));exact BK82008.out⟩,⟨by repeat(first|(with_reducible first|exact HB.out|apply Zq|apply Zm|apply Zs|refine Zp ?_ GE82001.out|refine Zp ?_ GE82002.out|refine Zp ?_ GE82008.out)|exact HB.out)⟩⟩
  case round=>
   clear H'
   try clear c1
   try clear p2
   try clear c4
   try clear c8
   try clear c12
   try clear c14
   try clear c15
   try clear hcz11_0
   try clear hcz11_1
   try clear hcz16_0
   try clear hcz16_1
   try clear hcz9_0
   try clear hcz9_1
   try clear hfz11_0
   try clear hfz11_1
   try clear hfz16_0
   try clear hfz16_1
   try clear hfz9_0
   try clear hfz9_1
   obtain⟨x18_1,x82009001_1,u82009001,rfl,HA,HK1,HO_82009001,BK82001,BK82002,BK82008,HB⟩:=hrel
   cases gk with
   | zero=>exact absurd HA.out (by simp[ZY.l0])
   | succ k1=>
    have H:=HA.out
    clear HA
    simp only[ZY.l0] at H
    by_cases c18:x18_1<(l1.length:Int)
    ·rw[if_pos c18] at H
     have c18b0:decide (x18_1<(l1.length:Int))=true:=Ze c18
     clear c18
     by_cases c19:0≤x18_1
     ·rw[if_pos c19] at H
      have c19b0:decide (0≤x18_1)=true:=Ze c19
      clear c19
      by_cases c20:x18_1<(l1.length:Int)
      ·rw[if_pos c20] at H
       have c20b0:decide (x18_1<(l1.length:Int))=true:=Ze c20
       clear c20
       by_cases c21:x18_1 > 0
       ·rw[if_pos c21] at H
        have c21b0:decide (0<x18_1)=true:=Ze c21
        clear c21
        by_cases c22:(rd l1 x18_1)=(-1)
        ·rw[if_pos c22] at H
         have c22b0:((rd l1 x18_1) == (-1))=true:=beq_iff_eq.mpr c22
         have c22b1:((rd l1 x18_1) != (-1))=false:=bne_eq_false_iff_eq.mpr c22
         clear c22
         have H':=Za H
         clear H
         have p82009:0≤(x18_1:Int):=Zd (by first|(with_reducible assumption)|assumption)
         have q82009:x18_1<(l1.length:Int):=Zd (by first|(with_reducible assumption)|assumption)
         obtain⟨ad82009,e82009,hx82009_0⟩:=Kd.at_int HR1.out x18_1 p82009 q82009
         cases e82009
         replace hx82009_0:=(HB.out.cell (Zc w _ hx82009_0)).trans hx82009_0
         replace p82009:=eq_true p82009
         replace q82009:=eq_true q82009
         go_wp2
         go_roundg k1
         case measure=>have:=HK1.out;omega
         case rel=>exact⟨(wrap64 (x18_1+1)),(x82009001_1),(u82009001),(by first|rfl|(simp;done)|(simp[*];done)),H',⟨by have:=HK1.out;omega⟩,⟨by(with_reducible repeat(first|apply Kd.R_alloc|apply Kd.R_drewN|apply Kd.R_drew));exact HO_82009001.out⟩,⟨by(with_reducible repeat(first|refine Zo ?_ _|refine Zr ?_|refine Zn ?_ _));exact BK82001.out⟩,⟨by(with_reducible repeat(first|refine Zo ?_ _|refine Zr ?_|refine Zn ?_ _));exact BK82002.out⟩,⟨by(with_reducible repeat(first|refine Zo ?_ _|refine Zr ?_|refine Zn ?_ _));exact BK82008.out⟩,⟨by repeat(first|(with_reducible first|exact HB.out|apply Zq|apply Zm|apply Zs|refine Zp ?_ GE82001.out|refine Zp ?_ GE82002.out|refine Zp ?_ GE82008.out)|exact HB.out)⟩⟩
        ·rw[if_neg c22] at H
         have c22b0:((rd l1 x18_1) == (-1))=false:=beq_eq_false_iff_ne.mpr c22
         have c22b1:((rd l1 x18_1) != (-1))=true:=bne_iff_ne.mpr c22
         by_cases c23:x82009001_1.length<4398046511104
         ·rw[if_pos c23] at H
          have LMc23:=Za c23;clear c23
          obtain⟨y82010,hy82010⟩:∃y_:List (S101),y_=(x82009001_1 ++ [(⟨0,x18_1,(⟨rd l1 x18_1,rd l1 x18_1⟩:S29)⟩:S101)]):=⟨_,rfl⟩
          replace H:(ZY.l0 k1 l1 (l1.length:Int) (wrap64 (x18_1+1)) t82004 y82010)=some (r1,r2,r3):=by first|(rw[hy82010];with_reducible exact H)|(have H2_:=(Zi _ _).symm.trans H;rw[hy82010];with_reducible exact H2_)|(have H2_:=(Zi _ _).symm.trans H;with_reducible exact H2_)|with_reducible exact H|(rw[hy82010];exact H)|exact H
          have Ny82010:=Za hy82010;clear hy82010
          have H':=Za H
          clear H
          have p82009:0≤(x18_1:Int):=Zd (by first|(with_reducible assumption)|assumption)
          have q82009:x18_1<(l1.length:Int):=Zd (by first|(with_reducible assumption)|assumption)
          obtain⟨ad82009,e82009,hx82009_0⟩:=Kd.at_int HR1.out x18_1 p82009 q82009
          cases e82009
          replace hx82009_0:=(HB.out.cell (Zc w _ hx82009_0)).trans hx82009_0
          replace p82009:=eq_true p82009
          replace q82009:=eq_true q82009
          have hnb24:=NB82008_82001.out
          have hnc24:=NB82001_82008.out
          have hnb25:=NB82008_82002.out
          have hnc25:=NB82002_82008.out
          have hcz26_0:wr.cell? ⟨gb82008,0,none⟩=some (.int .i64 t82004):=(Zu BK82008.out 0).trans rfl
          have hcz26_1:wr.cell? ⟨gb82008,1,none⟩=some (u82009001):=(Zu BK82008.out 1).trans rfl
          have hfz26_0:=Zt BK82008.out 0
          have hfz26_1:=Zt BK82008.out 1
          go_wp2_with (first|((with_reducible refine Zam (b:=.append) (xs:=#[.tmp 30,.tmp 36]) rfl ?_);at_builtin;refine Kd.R_append k101 (w0:=w) w.heap.size rfl (.tmp 30) (.tmp 36) 23 101 (.agg #[(.int .i64 0),(.int .i64 0),(.int .i64 0),(.int .i64 0)]) 32 rfl Try.underlying23 ZcK rfl (by decide) (by omega) u82009001 x82009001_1 (⟨0,x18_1,(⟨rd l1 x18_1,rd l1 x18_1⟩:S29)⟩:S101) [.int .i64 0,.int .i64 x18_1,.int .i64 (rd l1 x18_1),.int .i64 (rd l1 x18_1)] (fun _=>True) (fun _=>False) rfl rfl ?aP (fun _ hk=>hk.elim) ?aF ?aO ?aB ?aS ?aL ?_;(case aP=>exact ZcV _ _ _ (⟨0,x18_1,(⟨rd l1 x18_1,rd l1 x18_1⟩:S29)⟩:S101));(case aB=>exact(by repeat(first|(with_reducible first|exact HB.out|apply Zq|apply Zm|apply Zs|refine Zp ?_ GE82001.out|refine Zp ?_ GE82002.out|refine Zp ?_ GE82008.out)|exact HB.out)));(case aF=>exact(fun _ _=>trivial));(case aO=>exact(by(with_reducible repeat(first|apply Kd.R_alloc|apply Kd.R_drewN|apply Kd.R_drew));exact HO_82009001.out));(case aS=>exact(Zv (by repeat(first|(with_reducible first|exact HB.out|apply Zq|apply Zm|apply Zs|refine Zp ?_ GE82001.out|refine Zp ?_ GE82002.out|refine Zp ?_ GE82008.out)|exact HB.out))));(case aL=>have:=LMc23.out;omega);intro v82011 w27 ho hb hg hat;rw[← Ny82010.out] at ho;have n0_:=Za (ZT (g:=gb82001) (o:=.cells #[.int .i64 a0_0,.slice A0_1 l0_1.length c0_1] 25 (0,0)) (by(with_reducible repeat(first|refine Zo ?_ _|refine Zr ?_|refine Zn ?_ _));exact BK82001.out) hg (Kd.R_ne HO_82009001.out BK82001.out (by decide)));have n1_:=Za (ZT (g:=gb82002) (o:=.cells #[.int .i64 0,.slice none 0 0] 25 (0,0)) (by(with_reducible repeat(first|refine Zo ?_ _|refine Zr ?_|refine Zn ?_ _));exact BK82002.out) hg (Kd.R_ne HO_82009001.out BK82002.out (by decide)));have n2_:=Za (ZT (g:=gb82008) (o:=.cells #[.int .i64 t82004,u82009001] 25 (0,0)) (by(with_reducible repeat(first|refine Zo ?_ _|refine Zr ?_|refine Zn ?_ _));exact BK82008.out) hg (Kd.R_ne HO_82009001.out BK82008.out (by decide)));have n3_:=Za (hb);have n4_:=Za (ho);clear BK82001;clear BK82002;clear BK82008;clear HB;clear HO_82009001;have BK82001:=n0_;have BK82002:=n1_;have BK82008:=n2_;have HB:=n3_;have HO82012:=n4_;clear n0_ n1_ n2_ n3_ n4_;clear ho hb hg hat;obtain⟨Ao28,co28,eo28⟩:=Kd.R_slice HO82012.out;subst eo28;have hcz29_0:w27.cell? ⟨gb82008,0,none⟩=some (.int .i64 t82004):=(Zu BK82008.out 0).trans rfl;have hcz29_1:w27.cell? ⟨gb82008,1,none⟩=some (u82009001):=(Zu BK82008.out 1).trans rfl;have hfz29_0:=Zt BK82008.out 0;have hfz29_1:=Zt BK82008.out 1))
          go_roundg k1
          case measure=>have:=HK1.out;omega
          case rel=>exact⟨(wrap64 (x18_1+1)),(y82010),(.slice Ao28 y82010.length co28),(by first|rfl|(simp;done)|(simp[*];done)),H',⟨by have:=HK1.out;omega⟩,⟨by(with_reducible repeat(first|apply Kd.R_alloc|apply Kd.R_drewN|apply Kd.R_drew));exact Kd.R_mono (Kd.R_far (p:=⟨gb82008,1,none⟩) (Kd.R_types HO82012.out BK82008.out (by decide)) (fun _ hk=>hk.2) (.slice Ao28 y82010.length co28)) (fun _ hk=>trivial)⟩,⟨by(with_reducible repeat(first|refine Zo ?_ _|refine Zr ?_|refine Zn ?_ _));refine ZD ?_ NB82001_82008.out _;(with_reducible repeat(first|refine Zo ?_ _|refine Zr ?_|refine Zn ?_ _));exact BK82001.out⟩,⟨by(with_reducible repeat(first|refine Zo ?_ _|refine Zr ?_|refine Zn ?_ _));refine ZD ?_ NB82002_82008.out _;(with_reducible repeat(first|refine Zo ?_ _|refine Zr ?_|refine Zn ?_ _));exact BK82002.out⟩,⟨by(with_reducible repeat(first|refine Zo ?_ _|refine Zr ?_|refine Zn ?_ _));refine ZF (cs:=#[.int .i64 t82004,u82009001]) ?_ 1 _ rfl;(with_reducible repeat(first|refine Zo ?_ _|refine Zr ?_|refine Zn ?_ _));exact BK82008.out⟩,⟨by repeat(first|(with_reducible first|exact HB.out|apply Zq|apply Zm|apply Zs|refine Zp ?_ GE82001.out|refine Zp ?_ GE82002.out|refine Zp ?_ GE82008.out)|exact HB.out)⟩⟩
         ·rw[if_neg c23] at H
          exact absurd H (by simp)
       ·rw[if_neg c21] at H
        have c21b0:decide (0<x18_1)=false:=Zf c21
        clear c21
        have H':=Za H
        clear H
        have p82009:0≤(x18_1:Int):=Zd (by first|(with_reducible assumption)|assumption)
        have q82009:x18_1<(l1.length:Int):=Zd (by first|(with_reducible assumption)|assumption)
        obtain⟨ad82009,e82009,hx82009_0⟩:=Kd.at_int HR1.out x18_1 p82009 q82009
        cases e82009
        replace hx82009_0:=(HB.out.cell (Zc w _ hx82009_0)).trans hx82009_0
        replace p82009:=eq_true p82009
        replace q82009:=eq_true q82009
        go_wp2
        go_roundg k1
        case measure=>have:=HK1.out;omega
        case rel=>exact⟨(wrap64 (x18_1+1)),(x82009001_1),(u82009001),(by first|rfl|(simp;done)|(simp[*];done)),H',⟨by have:=HK1.out;omega⟩,⟨by(with_reducible repeat(first|apply Kd.R_alloc|apply Kd.R_drewN|apply Kd.R_drew));exact HO_82009001.out⟩,⟨by(with_reducible repeat(first|refine Zo ?_ _|refine Zr ?_|refine Zn ?_ _));exact BK82001.out⟩,⟨by(with_reducible repeat(first|refine Zo ?_ _|refine Zr ?_|refine Zn ?_ _));exact BK82002.out⟩,⟨by(with_reducible repeat(first|refine Zo ?_ _|refine Zr ?_|refine Zn ?_ _));exact BK82008.out⟩,⟨by repeat(first|(with_reducible first|exact HB.out|apply Zq|apply Zm|apply Zs|refine Zp ?_ GE82001.out|refine Zp ?_ GE82002.out|refine Zp ?_ GE82008.out)|exact HB.out)⟩⟩
      ·rw[if_neg c20] at H
       exact absurd H (by simp)
     ·rw[if_neg c19] at H
      exact absurd H (by simp)
    ·rw[if_neg c18] at H
     have c18b0:decide (x18_1<(l1.length:Int))=false:=Zf c18
     clear c18
     replace H:=Zh H
     obtain⟨t82013,A300,H⟩:=H
     replace H:(if t82013=true then(some (t82004,x82009001_1,true)) else(some (0,([]:List (S101)),false)))=some (r1,r2,r3):=H
     have A30:=Za A300;clear A300
     by_cases c31:t82013=true
     ·subst c31
      have H1:(some (t82004,x82009001_1,true))=some (r1,r2,r3):=by rw[if_pos rfl] at H;exact H
      clear H
      have H:=H1
      clear H1
      simp only[Option.some.injEq,Prod.mk.injEq] at H
      obtain⟨rfl,rfl,rfl⟩:=H
      have hnb32:=NB82008_82001.out
      have hnc32:=NB82001_82008.out
      have hnb33:=NB82008_82002.out
      have hnc33:=NB82002_82008.out
      have hcz34_0:wr.cell? ⟨gb82008,0,none⟩=some (.int .i64 t82004):=(Zu BK82008.out 0).trans rfl
      have hcz34_1:wr.cell? ⟨gb82008,1,none⟩=some (u82009001):=(Zu BK82008.out 1).trans rfl
      have hfz34_0:=Zt BK82008.out 0
      have hfz34_1:=Zt BK82008.out 1
      obtain⟨Ao35,co35,eo35⟩:=Kd.R_slice HO_82009001.out
      subst eo35
      go_wp2_with (first|((with_reducible refine ZG (f:=129) rfl ?_);refine ZV (some 41) rfl rfl Try.func129 (by kernel_rfl) rfl #[.agg #[.int .i64 t82004,.slice Ao35 x82009001_1.length co35]] rfl (by(try simp only[List.map_toArray,List.map_cons,List.map_nil]);first|done|rfl|(simp only[Zk,Zj];rfl)) ?_;(with_reducible refine(ZL.calls k1 t82004 _ _ x82009001_1 true _ ?side1 ?side2 A30.out).mono ?_);(case side1=>repeat(first|exact(Kd.R_reads' HO_82009001.out).2.2|(with_reducible refine Kd.C_alloc ?_ _)|(with_reducible refine Kd.C_drewN ?_ _)|(with_reducible refine Kd.C_drew ?_)));(case side2=>exact(Kd.R_reads' HO_82009001.out).2.1);rintro e w36 ⟨rfl,hb⟩;refine⟨_,rfl,?_⟩;have n0_:=Za (Kd.R_below (by(with_reducible repeat(first|apply Kd.R_alloc|apply Kd.R_drewN|apply Kd.R_drew));exact HO_82009001.out) hb);have n1_:=Za (Zx (g:=gb82001) (o:=.cells #[.int .i64 a0_0,.slice A0_1 l0_1.length c0_1] 25 (0,0)) (by(with_reducible repeat(first|refine Zo ?_ _|refine Zr ?_|refine Zn ?_ _));exact BK82001.out) hb);have n2_:=Za (Zx (g:=gb82002) (o:=.cells #[.int .i64 0,.slice none 0 0] 25 (0,0)) (by(with_reducible repeat(first|refine Zo ?_ _|refine Zr ?_|refine Zn ?_ _));exact BK82002.out) hb);have n3_:=Za (Zx (g:=gb82008) (o:=.cells #[.int .i64 t82004,.slice Ao35 x82009001_1.length co35] 25 (0,0)) (by(with_reducible repeat(first|refine Zo ?_ _|refine Zr ?_|refine Zn ?_ _));exact BK82008.out) hb);have n4_:=Za (Zy (by repeat(first|(with_reducible first|exact HB.out|apply Zq|apply Zm|apply Zs|refine Zp ?_ GE82001.out|refine Zp ?_ GE82002.out|refine Zp ?_ GE82008.out)|exact HB.out)) hb);clear HO_82009001;clear BK82001;clear BK82002;clear BK82008;clear HB;have HO_82009001:=n0_;have BK82001:=n1_;have BK82002:=n2_;have BK82008:=n3_;have HB:=n4_;clear n0_ n1_ n2_ n3_ n4_;(try clear hb);(try clear hb2);(try clear hk);(try clear hi);have hcz37_0:w36.cell? ⟨gb82008,0,none⟩=some (.int .i64 t82004):=(Zu BK82008.out 0).trans rfl;have hcz37_1:w36.cell? ⟨gb82008,1,none⟩=some (.slice Ao35 x82009001_1.length co35):=(Zu BK82008.out 1).trans rfl;have hfz37_0:=Zt BK82008.out 0;have hfz37_1:=Zt BK82008.out 1;have hnb38:=NB82002_82001.out;have hnc38:=NB82001_82002.out;have hcz39_0:w36.cell? ⟨gb82002,0,none⟩=some (.int .i64 0):=(Zu BK82002.out 0).trans rfl;have hcz39_1:w36.cell? ⟨gb82002,1,none⟩=some (.slice none 0 0):=(Zu BK82002.out 1).trans rfl;have hfz39_0:=Zt BK82002.out 0;have hfz39_1:=Zt BK82002.out 1))
      refine bodyPost_ret (Zab rfl _ _ gb82002 25 #[.int .i64 t82004,.slice Ao35 x82009001_1.length co35] (0,0) _ rfl (by(with_reducible repeat(first|refine Zo ?_ _|refine Zr ?_|refine Zn ?_ _));refine ZF (cs:=#[.int .i64 t82004,.slice none 0 0]) ?_ 1 _ rfl;(with_reducible repeat(first|refine Zo ?_ _|refine Zr ?_|refine Zn ?_ _));refine ZF (cs:=#[.int .i64 0,.slice none 0 0]) ?_ 0 _ rfl;(with_reducible repeat(first|refine Zo ?_ _|refine Zr ?_|refine Zn ?_ _));exact BK82002.out) Try.underlying25 rfl (by kernel_rfl)) rfl ?_
      exact⟨_,by first|rfl|(simp[ZA,Zz] <;> rfl)|(simp[*,ZA,Zz] <;> rfl),by(with_reducible repeat(first|apply Kd.R_alloc|apply Kd.R_drewN|apply Kd.R_drew));exact Kd.R_mono (Kd.R_far (p:=⟨gb82002,1,none⟩) (Kd.R_far (p:=⟨gb82002,0,none⟩) (Kd.R_types HO_82009001.out BK82002.out (by decide)) (fun _ hk=>hk.2) (.int .i64 t82004)) (fun _ hk=>hk.2) (.slice Ao35 x82009001_1.length co35)) (fun _ hk=>trivial),by repeat(first|(with_reducible first|exact HB.out|apply Zq|apply Zm|apply Zs|refine Zp ?_ GE82001.out|refine Zp ?_ GE82002.out|refine Zp ?_ GE82008.out)|exact HB.out)⟩
     ·replace c31:=Bool.eq_false_iff.mpr c31
      subst c31
      have H1:(some (0,([]:List (S101)),false))=some (r1,r2,r3):=by rw[if_neg (show ¬(false=true) by decide)] at H;exact H
      clear H
      have H:=H1
      clear H1
      simp only[Option.some.injEq,Prod.mk.injEq] at H
      obtain⟨rfl,rfl,rfl⟩:=H
      have hnb40:=NB82008_82001.out
      have hnc40:=NB82001_82008.out
      have hnb41:=NB82008_82002.out
      have hnc41:=NB82002_82008.out
      have hcz42_0:wr.cell? ⟨gb82008,0,none⟩=some (.int .i64 t82004):=(Zu BK82008.out 0).trans rfl
      have hcz42_1:wr.cell? ⟨gb82008,1,none⟩=some (u82009001):=(Zu BK82008.out 1).trans rfl
      have hfz42_0:=Zt BK82008.out 0
      have hfz42_1:=Zt BK82008.out 1
      obtain⟨Ao43,co43,eo43⟩:=Kd.R_slice HO_82009001.out
      subst eo43
      go_wp2_with (first|((with_reducible refine ZG (f:=129) rfl ?_);refine ZV (some 41) rfl rfl Try.func129 (by kernel_rfl) rfl #[.agg #[.int .i64 t82004,.slice Ao43 x82009001_1.length co43]] rfl (by(try simp only[List.map_toArray,List.map_cons,List.map_nil]);first|done|rfl|(simp only[Zk,Zj];rfl)) ?_;(with_reducible refine(ZL.calls k1 t82004 _ _ x82009001_1 false _ ?side1 ?side2 A30.out).mono ?_);(case side1=>repeat(first|exact(Kd.R_reads' HO_82009001.out).2.2|(with_reducible refine Kd.C_alloc ?_ _)|(with_reducible refine Kd.C_drewN ?_ _)|(with_reducible refine Kd.C_drew ?_)));(case side2=>exact(Kd.R_reads' HO_82009001.out).2.1);rintro e w44 ⟨rfl,hb⟩;refine⟨_,rfl,?_⟩;have n0_:=Za (Kd.R_below (by(with_reducible repeat(first|apply Kd.R_alloc|apply Kd.R_drewN|apply Kd.R_drew));exact HO_82009001.out) hb);have n1_:=Za (Zx (g:=gb82001) (o:=.cells #[.int .i64 a0_0,.slice A0_1 l0_1.length c0_1] 25 (0,0)) (by(with_reducible repeat(first|refine Zo ?_ _|refine Zr ?_|refine Zn ?_ _));exact BK82001.out) hb);have n2_:=Za (Zx (g:=gb82002) (o:=.cells #[.int .i64 0,.slice none 0 0] 25 (0,0)) (by(with_reducible repeat(first|refine Zo ?_ _|refine Zr ?_|refine Zn ?_ _));exact BK82002.out) hb);have n3_:=Za (Zx (g:=gb82008) (o:=.cells #[.int .i64 t82004,.slice Ao43 x82009001_1.length co43] 25 (0,0)) (by(with_reducible repeat(first|refine Zo ?_ _|refine Zr ?_|refine Zn ?_ _));exact BK82008.out) hb);have n4_:=Za (Zy (by repeat(first|(with_reducible first|exact HB.out|apply Zq|apply Zm|apply Zs|refine Zp ?_ GE82001.out|refine Zp ?_ GE82002.out|refine Zp ?_ GE82008.out)|exact HB.out)) hb);clear HO_82009001;clear BK82001;clear BK82002;clear BK82008;clear HB;have HO_82009001:=n0_;have BK82001:=n1_;have BK82002:=n2_;have BK82008:=n3_;have HB:=n4_;clear n0_ n1_ n2_ n3_ n4_;(try clear hb);(try clear hb2);(try clear hk);(try clear hi);have hnb45:=NB82002_82001.out;have hnc45:=NB82001_82002.out;have hcz46_0:w44.cell? ⟨gb82002,0,none⟩=some (.int .i64 0):=(Zu BK82002.out 0).trans rfl;have hcz46_1:w44.cell? ⟨gb82002,1,none⟩=some (.slice none 0 0):=(Zu BK82002.out 1).trans rfl;have hfz46_0:=Zt BK82002.out 0;have hfz46_1:=Zt BK82002.out 1))
      refine bodyPost_ret (Zab rfl _ _ gb82002 25 #[.int .i64 0,.slice none 0 0] (0,0) _ rfl (by(with_reducible repeat(first|refine Zo ?_ _|refine Zr ?_|refine Zn ?_ _));refine ZF (cs:=#[.int .i64 0,.slice none 0 0]) ?_ 1 _ rfl;(with_reducible repeat(first|refine Zo ?_ _|refine Zr ?_|refine Zn ?_ _));refine ZF (cs:=#[.int .i64 0,.slice none 0 0]) ?_ 0 _ rfl;(with_reducible repeat(first|refine Zo ?_ _|refine Zr ?_|refine Zn ?_ _));exact BK82002.out) Try.underlying25 rfl (by kernel_rfl)) rfl ?_
      exact⟨_,by first|rfl|(simp[ZA,Zz] <;> rfl)|(simp[*,ZA,Zz] <;> rfl),by first|exact Kd.R_nil _ _ _ _ _|exact Kd.N_nil _ _ _ _ _|exact Kd.V_nil _ _ _ _ _|exact Kd.Q_nil _ _ _ _ _|exact Kd.S_nil _ _ _ _ _,by repeat(first|(with_reducible first|exact HB.out|apply Zq|apply Zm|apply Zs|refine Zp ?_ GE82001.out|refine Zp ?_ GE82002.out|refine Zp ?_ GE82008.out)|exact HB.out)⟩
 ·replace c4:=Bool.eq_false_iff.mpr c4
  subst c4
  have H1:(some (0,([]:List (S101)),false))=some (r1,r2,r3):=by rw[if_neg (show ¬(false=true) by decide)] at H;exact H
  clear H
  have H:=H1
  clear H1
  simp only[Option.some.injEq,Prod.mk.injEq] at H
  obtain⟨rfl,rfl,rfl⟩:=H
  go_enter Try.func82,Try.ntmps82
  go_wp2_with (first|((with_reducible refine ZC (N:=2) rfl ?_);refine ZE ?hg (N:=2) ?hd (cs:=#[.int .i64 a0_0,.slice A0_1 l0_1.length c0_1]) (t:=25) ?hr ?_;(case hd=>rfl);(case hg=>rfl);(case hr=>first|(go_simp;done)|(go_simp;rfl));intro gb82001 hg w47 hbox hb;have n0_:=Za (Zy (by repeat(first|(with_reducible first|exact HB.out|apply Zq|apply Zm|apply Zs)|exact HB.out)) hb);have n1_:=Za (hbox);have n2_:=Za ((by rw[hg];exact(Zv (by repeat(first|(with_reducible first|exact HB.out|apply Zq|apply Zm|apply Zs)|exact HB.out))):w.heap.size≤gb82001));have n3_:=Za ((by rw[hg];exact(Zv (by repeat(first|(with_reducible first|exact HB.out|apply Zq|apply Zm|apply Zs)|exact HB.out))):w.heap.size≤gb82001));clear HB;have HB:=n0_;have BK82001:=n1_;have GW82001:=n2_;have GE82001:=n3_;clear n0_ n1_ n2_ n3_;clear hb hbox hg)|((with_reducible refine ZC (N:=4) rfl ?_);refine ZE ?hg (N:=4) ?hd (cs:=#[.int .i64 0,.slice none 0 0]) (t:=25) ?hr ?_;(case hd=>rfl);(case hg=>rfl);(case hr=>first|(go_simp;done)|(go_simp;rfl));intro gb82002 hg w48 hbox hb;have n0_:=Za (Zx (g:=gb82001) (o:=.cells #[.int .i64 a0_0,.slice A0_1 l0_1.length c0_1] 25 (0,0)) (by(with_reducible repeat(first|refine Zo ?_ _|refine Zr ?_|refine Zn ?_ _));exact BK82001.out) hb);have n1_:=Za (Zy (by repeat(first|(with_reducible first|exact HB.out|apply Zq|apply Zm|apply Zs|refine Zp ?_ GE82001.out)|exact HB.out)) hb);have n2_:=Za (hbox);have n3_:=Za ((by rw[hg];exact(Zv (by repeat(first|(with_reducible first|exact HB.out|apply Zq|apply Zm|apply Zs|refine Zp ?_ GE82001.out)|exact HB.out))):w.heap.size≤gb82002));have n4_:=Za ((by rw[hg];exact(Zv (by repeat(first|(with_reducible first|exact HB.out|apply Zq|apply Zm|apply Zs|refine Zp ?_ GE82001.out)|exact HB.out))):w.heap.size≤gb82002));have n5_:=Za ((by rw[hg];exact Nat.ne_of_lt (ZB (g:=gb82001) (o:=.cells #[.int .i64 a0_0,.slice A0_1 l0_1.length c0_1] 25 (0,0)) (by(with_reducible repeat(first|refine Zo ?_ _|refine Zr ?_|refine Zn ?_ _));exact BK82001.out)):gb82001≠gb82002));have n6_:=Za ((by rw[hg];exact Nat.ne_of_gt (ZB (g:=gb82001) (o:=.cells #[.int .i64 a0_0,.slice A0_1 l0_1.length c0_1] 25 (0,0)) (by(with_reducible repeat(first|refine Zo ?_ _|refine Zr ?_|refine Zn ?_ _));exact BK82001.out)):gb82002≠gb82001));clear BK82001;clear HB;have BK82001:=n0_;have HB:=n1_;have BK82002:=n2_;have GW82002:=n3_;have GE82002:=n4_;have NB82001_82002:=n5_;have NB82002_82001:=n6_;clear n0_ n1_ n2_ n3_ n4_ n5_ n6_;clear hb hbox hg;have hnb49:=NB82001_82002.out;have hnc49:=NB82002_82001.out;have hcz50_0:w48.cell? ⟨gb82001,0,none⟩=some (.int .i64 a0_0):=(Zu BK82001.out 0).trans rfl;have hcz50_1:w48.cell? ⟨gb82001,1,none⟩=some (.slice A0_1 l0_1.length c0_1):=(Zu BK82001.out 1).trans rfl;have hfz50_0:=Zt BK82001.out 0;have hfz50_1:=Zt BK82001.out 1)|((with_reducible refine ZG (f:=127) rfl ?_);refine ZV (some 11) rfl rfl Try.func127 (by kernel_rfl) rfl #[.agg #[.int .i64 a0_0,.slice A0_1 l0_1.length c0_1],.slice A1 l1.length c1] rfl (by(try simp only[List.map_toArray,List.map_cons,List.map_nil]);first|done|rfl|(simp only[Zk,Zj];rfl)) ?_;(with_reducible refine(ZU.calls k a0_0 _ _ l0_1 _ _ l1 false _ ?side1 ?side2 ?side3 ?side4 A3.out).mono ?_);(case side1=>repeat(first|exact(Zb HR0_1.out HB.out)|(with_reducible refine Kd.C_alloc ?_ _)|(with_reducible refine Kd.C_drewN ?_ _)|(with_reducible refine Kd.C_drew ?_)));(case side2=>exact HC0_1.out);(case side3=>repeat(first|exact(Zb HR1.out HB.out)|(with_reducible refine Kd.C_alloc ?_ _)|(with_reducible refine Kd.C_drewN ?_ _)|(with_reducible refine Kd.C_drew ?_)));(case side4=>exact HC1.out);rintro e w51 ⟨rfl,hb⟩;refine⟨_,rfl,?_⟩;have n0_:=Za (Zx (g:=gb82001) (o:=.cells #[.int .i64 a0_0,.slice A0_1 l0_1.length c0_1] 25 (0,0)) (by(with_reducible repeat(first|refine Zo ?_ _|refine Zr ?_|refine Zn ?_ _));exact BK82001.out) hb);have n1_:=Za (Zx (g:=gb82002) (o:=.cells #[.int .i64 0,.slice none 0 0] 25 (0,0)) (by(with_reducible repeat(first|refine Zo ?_ _|refine Zr ?_|refine Zn ?_ _));exact BK82002.out) hb);have n2_:=Za (Zy (by repeat(first|(with_reducible first|exact HB.out|apply Zq|apply Zm|apply Zs|refine Zp ?_ GE82001.out|refine Zp ?_ GE82002.out)|exact HB.out)) hb);clear BK82001;clear BK82002;clear HB;have BK82001:=n0_;have BK82002:=n1_;have HB:=n2_;clear n0_ n1_ n2_;(try clear hb);(try clear hb2);(try clear hk);(try clear hi);have hcz52_0:w51.cell? ⟨gb82002,0,none⟩=some (.int .i64 0):=(Zu BK82002.out 0).trans rfl;have hcz52_1:w51.cell? ⟨gb82002,1,none⟩=some (.slice none 0 0):=(Zu BK82002.out 1).trans rfl;have hfz52_0:=Zt BK82002.out 0;have hfz52_1:=Zt BK82002.out 1))
  refine bodyPost_ret (Zab rfl _ _ gb82002 25 #[.int .i64 0,.slice none 0 0] (0,0) _ rfl (by(with_reducible repeat(first|refine Zo ?_ _|refine Zr ?_|refine Zn ?_ _));refine ZF (cs:=#[.int .i64 0,.slice none 0 0]) ?_ 1 _ rfl;(with_reducible repeat(first|refine Zo ?_ _|refine Zr ?_|refine Zn ?_ _));refine ZF (cs:=#[.int .i64 0,.slice none 0 0]) ?_ 0 _ rfl;(with_reducible repeat(first|refine Zo ?_ _|refine Zr ?_|refine Zn ?_ _));exact BK82002.out) Try.underlying25 rfl (by kernel_rfl)) rfl ?_
  exact⟨_,by first|rfl|(simp[ZA,Zz] <;> rfl)|(simp[*,ZA,Zz] <;> rfl),by first|exact Kd.R_nil _ _ _ _ _|exact Kd.N_nil _ _ _ _ _|exact Kd.V_nil _ _ _ _ _|exact Kd.Q_nil _ _ _ _ _|exact Kd.S_nil _ _ _ _ _,by repeat(first|(with_reducible first|exact HB.out|apply Zq|apply Zm|apply Zs|refine Zp ?_ GE82001.out|refine Zp ?_ GE82002.out)|exact HB.out)⟩
mutual
def ZW.j0:Nat→Bool→Int→List (S148)→Option (Bool)
 | 0,_,_,_=>none
 | k+1,x14,x166002000,x166002001=>if x14=true then(some false) else(ZW.l0 k x166002001 (x166002001.length:Int) 0 x166002000 x166002001)
def ZW.l0:Nat→List (S148)→Int→Int→Int→List (S148)→Option (Bool)
 | 0,_,_,_,_,_=>none
 | k+1,x16,x17,x18,x166002000,x166002001=>if x18<x17 then(if 0≤x18 then(if x18<(x16.length:Int) then((ZJ.f ((Zad x16 x18).f0) 0 (wrap64 (x166002000 - 1))).bind fun t166005=>(if t166005=true then((ZJ.f ((Zad x16 x18).f1) 0 (wrap64 (x166002000 - 1))).bind fun t166006=>(if t166006=true then((ZJ.f ((Zad x16 x18).f2) (-999999) 999999).bind fun t166007=>(if t166007=true then(ZW.l0 k x16 x17 (wrap64 (x18+1)) x166002000 x166002001) else(some false))) else(some false))) else(some false))) else(none)) else(none)) else(some true)
end
def ZW.f (k:Nat) (a0_0:Int) (l0_1:List (S148)):Option (Bool):=(ZJ.f a0_0 0 8).bind fun t166002=>(if t166002=true then(ZW.j0 k (decide ((l0_1.length:Int) > 80)) a0_0 l0_1) else(ZW.j0 k true a0_0 l0_1))
set_option maxHeartbeats 8000000 in
set_option maxRecDepth 100000 in
theorem ZW.calls (k:Nat) (a0_0:Int) (A0_1:Option Addr) (c0_1:Nat) (l0_1:List (S148)) (r:Bool) (w:World) (hr0_1:Kd.C k148 w A0_1 l0_1.length l0_1) (hc0_1:l0_1.length≤c0_1) (h:ZW.f k a0_0 l0_1=some r) :
  Calls Try.prog 166 #[.agg #[.int .i64 a0_0,.slice A0_1 l0_1.length c0_1]] w fun e w'=>e=.returned (.bool r)∧Below w.heap.size w w':=by
 have hu95:=Try.underlying95
 have hu148:=Try.underlying148
 have HR0_1:=Za hr0_1;have HC0_1:=Za hc0_1;clear hr0_1 hc0_1
 have HB:=Za (Below.refl w.heap.size w)
 have H:((ZJ.f a0_0 0 8).bind fun t166002=>(if t166002=true then(ZW.j0 k (decide ((l0_1.length:Int) > 80)) a0_0 l0_1) else(ZW.j0 k true a0_0 l0_1)))=some r:=h
 clear h;have HC2:=Za H;clear H
 go_enter Try.func166,Try.ntmps166
 go_upto_region 1 with (first|((with_reducible refine ZC (N:=1) rfl ?_);(try(refine ZaN (by rfl) ?_;dsimp only));refine ZE ?hg (N:=1) ?hd (cs:=#[.int .i64 a0_0,.slice A0_1 l0_1.length c0_1]) (t:=95) ?hr ?_;(case hd=>rfl);(case hg=>rfl);(case hr=>first|(go_simp;done)|(go_simp;rfl));intro gb166001 hg w3 hbox hb;have n0_:=Za (Zy (by repeat(first|(with_reducible first|exact HB.out|apply Zq|apply Zm|apply Zs)|exact HB.out)) hb);have n1_:=Za (hbox);have n2_:=Za ((by rw[hg];exact(Zv (by repeat(first|(with_reducible first|exact HB.out|apply Zq|apply Zm|apply Zs)|exact HB.out))):w.heap.size≤gb166001));have n3_:=Za ((by rw[hg];exact(Zv (by repeat(first|(with_reducible first|exact HB.out|apply Zq|apply Zm|apply Zs)|exact HB.out))):w.heap.size≤gb166001));clear HB;have HB:=n0_;have BK166001:=n1_;have GW166001:=n2_;have GE166001:=n3_;clear n0_ n1_ n2_ n3_;clear hb hbox hg))
 (try simp only[Act.put,List.setIfInBounds_toArray,List.set_cons_zero,List.set_cons_succ])
 go_cut [14] (fun v14 wc=>∃(kq:Nat) (x14_1:Bool),v14=.bool x14_1∧Aside0 (ZW.j0 kq x14_1 a0_0 l0_1=some r)∧Aside0 (kq≤k)∧Aside0 (wc.heap[gb166001]? = some (.cells #[.int .i64 a0_0,(.slice A0_1 l0_1.length c0_1)] 95 (0,0)))∧Aside0 (Below w.heap.size w wc))
 case first=>
  have H:=HC2.out
  clear HC2
  replace H:=Zh H
  obtain⟨t166002,A40,H⟩:=H
  replace H:(if t166002=true then(ZW.j0 k (decide ((l0_1.length:Int) > 80)) a0_0 l0_1) else(ZW.j0 k true a0_0 l0_1))=some r:=H
  have A4:=Za A40;clear A40
  by_cases c5:t166002=true
  ·subst c5
   have H1:(ZW.j0 k (decide ((l0_1.length:Int) > 80)) a0_0 l0_1)=some r:=by rw[if_pos rfl] at H;exact H
   clear H
   have H:=H1
   clear H1
   have H':=Za H
   clear H
   have hcz6_0:w3.cell? ⟨gb166001,0,none⟩=some (.int .i64 a0_0):=(Zu BK166001.out 0).trans rfl
   have hcz6_1:w3.cell? ⟨gb166001,1,none⟩=some (.slice A0_1 l0_1.length c0_1):=(Zu BK166001.out 1).trans rfl
   have hfz6_0:=Zt BK166001.out 0
   have hfz6_1:=Zt BK166001.out 1
   go_wp2_with (first|((with_reducible refine ZG (f:=87) rfl ?_);refine ZV (some 7) rfl rfl Try.func87 (by kernel_rfl) rfl #[.int .i64 a0_0,.int .i64 0,.int .i64 8] rfl (by(try simp only[List.map_toArray,List.map_cons,List.map_nil]);first|done|rfl|(simp only[Zk,Zj];rfl)) ?_;(with_reducible refine(ZJ.calls a0_0 0 8 true _ A4.out).mono ?_);rintro e w' ⟨rfl,⟨nd,rfl⟩⟩;refine⟨_,rfl,?_⟩))
   go_meet
   case rel=>exact⟨_,(decide ((l0_1.length:Int) > 80)),(by first|rfl|(simp;done)|(simp[*];done)),H',⟨by first|omega|exact Nat.le_refl _⟩,⟨by(with_reducible repeat(first|refine Zo ?_ _|refine Zr ?_|refine Zn ?_ _));exact BK166001.out⟩,⟨by repeat(first|(with_reducible first|exact HB.out|apply Zq|apply Zm|apply Zs|refine Zp ?_ GE166001.out)|exact HB.out)⟩⟩
  ·replace c5:=Bool.eq_false_iff.mpr c5
   subst c5
   have H1:(ZW.j0 k true a0_0 l0_1)=some r:=by rw[if_neg (show ¬(false=true) by decide)] at H;exact H
   clear H
   have H:=H1
   clear H1
   have H':=Za H
   clear H
   have hcz7_0:w3.cell? ⟨gb166001,0,none⟩=some (.int .i64 a0_0):=(Zu BK166001.out 0).trans rfl
   have hcz7_1:w3.cell? ⟨gb166001,1,none⟩=some (.slice A0_1 l0_1.length c0_1):=(Zu BK166001.out 1).trans rfl
   have hfz7_0:=Zt BK166001.out 0
   have hfz7_1:=Zt BK166001.out 1
   go_wp2_with (first|((with_reducible refine ZG (f:=87) rfl ?_);refine ZV (some 7) rfl rfl Try.func87 (by kernel_rfl) rfl #[.int .i64 a0_0,.int .i64 0,.int .i64 8] rfl (by(try simp only[List.map_toArray,List.map_cons,List.map_nil]);first|done|rfl|(simp only[Zk,Zj];rfl)) ?_;(with_reducible refine(ZJ.calls a0_0 0 8 false _ A4.out).mono ?_);rintro e w' ⟨rfl,⟨nd,rfl⟩⟩;refine⟨_,rfl,?_⟩))
   go_meet
   case rel=>exact⟨_,(true),(by first|rfl|(simp;done)|(simp[*];done)),H',⟨by first|omega|exact Nat.le_refl _⟩,⟨by(with_reducible repeat(first|refine Zo ?_ _|refine Zr ?_|refine Zn ?_ _));exact BK166001.out⟩,⟨by repeat(first|(with_reducible first|exact HB.out|apply Zq|apply Zm|apply Zs|refine Zp ?_ GE166001.out)|exact HB.out)⟩⟩
 case rest=>
  clear HC2
  try clear c1
  try clear p2
  try clear c5
  try clear hcz6_0
  try clear hcz6_1
  try clear hcz7_0
  try clear hcz7_1
  try clear hfz6_0
  try clear hfz6_1
  try clear hfz7_0
  try clear hfz7_1
  obtain⟨kq,x14_1,rfl,HA,HJ1,BK166001,HB⟩:=hcut
  cases kq with
  | zero=>exact absurd HA.out (by simp[ZW.j0])
  | succ kj1=>
   have H:=HA.out
   clear HA
   simp only[ZW.j0] at H
   by_cases c8:x14_1=true
   ·subst c8
    have H1:(some false)=some r:=by rw[if_pos rfl] at H;exact H
    clear H
    have H:=H1
    clear H1
    obtain rfl:=Zg H
    go_wp2
    go_ret
    exact⟨by first|rfl|(simp[ZA,Zz] <;> rfl)|(simp[*,ZA,Zz] <;> rfl),by repeat(first|(with_reducible first|exact HB.out|apply Zq|apply Zm|apply Zs|refine Zp ?_ GE166001.out)|exact HB.out)⟩
   ·replace c8:=Bool.eq_false_iff.mpr c8
    subst c8
    have H1:(ZW.l0 kj1 l0_1 (l0_1.length:Int) 0 a0_0 l0_1)=some r:=by rw[if_neg (show ¬(false=true) by decide)] at H;exact H
    clear H
    have H:=H1
    clear H1
    have H':=Za H
    clear H
    have hcz9_0:wc.cell? ⟨gb166001,0,none⟩=some (.int .i64 a0_0):=(Zu BK166001.out 0).trans rfl
    have hcz9_1:wc.cell? ⟨gb166001,1,none⟩=some (.slice A0_1 l0_1.length c0_1):=(Zu BK166001.out 1).trans rfl
    have hfz9_0:=Zt BK166001.out 0
    have hfz9_1:=Zt BK166001.out 1
    go_wp2
    go_loopg [18] kj1 (fun kq v18 w'=>∃(x18_2:Int),v18=.int .i64 x18_2∧Aside0 (ZW.l0 kq l0_1 (l0_1.length:Int) x18_2 a0_0 l0_1=some r)∧Aside0 (kq≤kj1)∧Aside0 (w'.heap[gb166001]? = some (.cells #[.int .i64 a0_0,(.slice A0_1 l0_1.length c0_1)] 95 (0,0)))∧Aside0 (Below w.heap.size w w'))
    case atStart=>exact⟨(0),(by first|rfl|(simp;done)|(simp[*];done)),H',⟨Nat.le_refl _⟩,⟨by(with_reducible repeat(first|refine Zo ?_ _|refine Zr ?_|refine Zn ?_ _));exact BK166001.out⟩,⟨by repeat(first|(with_reducible first|exact HB.out|apply Zq|apply Zm|apply Zs|refine Zp ?_ GE166001.out)|exact HB.out)⟩⟩
    case round=>
     clear H'
     try clear c1
     try clear p2
     try clear c5
     try clear c8
     try clear hcz6_0
     try clear hcz6_1
     try clear hcz7_0
     try clear hcz7_1
     try clear hcz9_0
     try clear hcz9_1
     try clear hfz6_0
     try clear hfz6_1
     try clear hfz7_0
     try clear hfz7_1
     try clear hfz9_0
     try clear hfz9_1
     try clear p2
     obtain⟨x18_2,rfl,HA,HK2,BK166001,HB⟩:=hrel
     cases gk with
     | zero=>exact absurd HA.out (by simp[ZW.l0])
     | succ k2=>
      have H:=HA.out
      clear HA
      simp only[ZW.l0] at H
      by_cases c10:x18_2<(l0_1.length:Int)
      ·rw[if_pos c10] at H
       have c10b0:decide (x18_2<(l0_1.length:Int))=true:=Ze c10
       clear c10
       by_cases c11:0≤x18_2
       ·rw[if_pos c11] at H
        have c11b0:decide (0≤x18_2)=true:=Ze c11
        clear c11
        by_cases c12:x18_2<(l0_1.length:Int)
        ·rw[if_pos c12] at H
         have c12b0:decide (x18_2<(l0_1.length:Int))=true:=Ze c12
         clear c12
         replace H:=Zh H
         obtain⟨t166005,A130,H⟩:=H
         replace H:(if t166005=true then((ZJ.f ((Zad l0_1 x18_2).f1) 0 (wrap64 (a0_0 - 1))).bind fun t166006=>(if t166006=true then((ZJ.f ((Zad l0_1 x18_2).f2) (-999999) 999999).bind fun t166007=>(if t166007=true then(ZW.l0 k2 l0_1 (l0_1.length:Int) (wrap64 (x18_2+1)) a0_0 l0_1) else(some false))) else(some false))) else(some false))=some r:=H
         have A13:=Za A130;clear A130
         by_cases c14:t166005=true
         ·subst c14
          have H1:((ZJ.f ((Zad l0_1 x18_2).f1) 0 (wrap64 (a0_0 - 1))).bind fun t166006=>(if t166006=true then((ZJ.f ((Zad l0_1 x18_2).f2) (-999999) 999999).bind fun t166007=>(if t166007=true then(ZW.l0 k2 l0_1 (l0_1.length:Int) (wrap64 (x18_2+1)) a0_0 l0_1) else(some false))) else(some false)))=some r:=by rw[if_pos rfl] at H;exact H
          clear H
          have H:=H1
          clear H1
          replace H:=Zh H
          obtain⟨t166006,A150,H⟩:=H
          replace H:(if t166006=true then((ZJ.f ((Zad l0_1 x18_2).f2) (-999999) 999999).bind fun t166007=>(if t166007=true then(ZW.l0 k2 l0_1 (l0_1.length:Int) (wrap64 (x18_2+1)) a0_0 l0_1) else(some false))) else(some false))=some r:=H
          have A15:=Za A150;clear A150
          by_cases c16:t166006=true
          ·subst c16
           have H1:((ZJ.f ((Zad l0_1 x18_2).f2) (-999999) 999999).bind fun t166007=>(if t166007=true then(ZW.l0 k2 l0_1 (l0_1.length:Int) (wrap64 (x18_2+1)) a0_0 l0_1) else(some false)))=some r:=by rw[if_pos rfl] at H;exact H
           clear H
           have H:=H1
           clear H1
           replace H:=Zh H
           obtain⟨t166007,A170,H⟩:=H
           replace H:(if t166007=true then(ZW.l0 k2 l0_1 (l0_1.length:Int) (wrap64 (x18_2+1)) a0_0 l0_1) else(some false))=some r:=H
           have A17:=Za A170;clear A170
           by_cases c18:t166007=true
           ·subst c18
            have H1:(ZW.l0 k2 l0_1 (l0_1.length:Int) (wrap64 (x18_2+1)) a0_0 l0_1)=some r:=by rw[if_pos rfl] at H;exact H
            clear H
            have H:=H1
            clear H1
            have H':=Za H
            clear H
            have p166003:0≤(x18_2:Int):=Zd (by first|(with_reducible assumption)|assumption)
            have q166003:x18_2<(l0_1.length:Int):=Zd (by first|(with_reducible assumption)|assumption)
            obtain⟨ad166003,e166003,hx166003_0,hx166003_1,hx166003_2⟩:=Zbs HR0_1.out x18_2 p166003 q166003
            cases e166003
            replace hx166003_0:=(HB.out.cell (Zc w _ hx166003_0)).trans hx166003_0
            replace hx166003_1:=(HB.out.cell (Zc w _ hx166003_1)).trans hx166003_1
            replace hx166003_2:=(HB.out.cell (Zc w _ hx166003_2)).trans hx166003_2
            replace p166003:=eq_true p166003
            replace q166003:=eq_true q166003
            go_wp2_with (first|((with_reducible refine ZC (N:=4) rfl ?_);(try(refine ZaN (by rfl) ?_;dsimp only));refine ZE ?hg (N:=4) ?hd (cs:=#[.int .i64 0,.int .i64 0,.int .i64 0]) (t:=148) ?hr ?_;(case hd=>rfl);(case hg=>rfl);(case hr=>first|(go_simp;done)|(go_simp;rfl));intro gb166004 hg w19 hbox hb;have n0_:=Za (Zx (g:=gb166001) (o:=.cells #[.int .i64 a0_0,.slice (some ad166003) l0_1.length c0_1] 95 (0,0)) (by(with_reducible repeat(first|refine Zo ?_ _|refine Zr ?_|refine Zn ?_ _));exact BK166001.out) hb);have n1_:=Za (Zy (by repeat(first|(with_reducible first|exact HB.out|apply Zq|apply Zm|apply Zs|refine Zp ?_ GE166001.out)|exact HB.out)) hb);have n2_:=Za (hbox);have n3_:=Za ((by rw[hg];exact(Zv (by repeat(first|(with_reducible first|exact HB.out|apply Zq|apply Zm|apply Zs|refine Zp ?_ GE166001.out)|exact HB.out))):w.heap.size≤gb166004));have n4_:=Za ((by rw[hg];exact(Zv (by repeat(first|(with_reducible first|exact HB.out|apply Zq|apply Zm|apply Zs|refine Zp ?_ GE166001.out)|exact HB.out))):w.heap.size≤gb166004));have n5_:=Za ((by rw[hg];exact Nat.ne_of_lt (ZB (g:=gb166001) (o:=.cells #[.int .i64 a0_0,.slice (some ad166003) l0_1.length c0_1] 95 (0,0)) (by(with_reducible repeat(first|refine Zo ?_ _|refine Zr ?_|refine Zn ?_ _));exact BK166001.out)):gb166001≠gb166004));have n6_:=Za ((by rw[hg];exact Nat.ne_of_gt (ZB (g:=gb166001) (o:=.cells #[.int .i64 a0_0,.slice (some ad166003) l0_1.length c0_1] 95 (0,0)) (by(with_reducible repeat(first|refine Zo ?_ _|refine Zr ?_|refine Zn ?_ _));exact BK166001.out)):gb166004≠gb166001));clear BK166001;clear HB;have BK166001:=n0_;have HB:=n1_;have BK166004:=n2_;have GW166004:=n3_;have GE166004:=n4_;have NB166001_166004:=n5_;have NB166004_166001:=n6_;clear n0_ n1_ n2_ n3_ n4_ n5_ n6_;clear hb hbox hg;have hnb20:=NB166004_166001.out;have hnc20:=NB166001_166004.out;have hcz21_0:w19.cell? ⟨gb166004,0,none⟩=some (.int .i64 0):=(Zu BK166004.out 0).trans rfl;have hcz21_1:w19.cell? ⟨gb166004,1,none⟩=some (.int .i64 0):=(Zu BK166004.out 1).trans rfl;have hcz21_2:w19.cell? ⟨gb166004,2,none⟩=some (.int .i64 0):=(Zu BK166004.out 2).trans rfl;have hfz21_0:=Zt BK166004.out 0;have hfz21_1:=Zt BK166004.out 1;have hfz21_2:=Zt BK166004.out 2;have hcz22_0:w19.cell? ⟨gb166001,0,none⟩=some (.int .i64 a0_0):=(Zu BK166001.out 0).trans rfl;have hcz22_1:w19.cell? ⟨gb166001,1,none⟩=some (.slice (some ad166003) l0_1.length c0_1):=(Zu BK166001.out 1).trans rfl;have hfz22_0:=Zt BK166001.out 0;have hfz22_1:=Zt BK166001.out 1)|((with_reducible refine ZG (f:=87) rfl ?_);refine ZV (some 27) rfl rfl Try.func87 (by kernel_rfl) rfl #[.int .i64 ((Zad l0_1 x18_2).f0),.int .i64 0,.int .i64 (wrap64 (a0_0 - 1))] rfl (by(try simp only[List.map_toArray,List.map_cons,List.map_nil]);first|done|rfl|(simp only[Zk,Zj];rfl)) ?_;(with_reducible refine(ZJ.calls ((Zad l0_1 x18_2).f0) 0 (wrap64 (a0_0 - 1)) true _ A13.out).mono ?_);rintro e w' ⟨rfl,⟨nd,rfl⟩⟩;refine⟨_,rfl,?_⟩)|(go_at_call 87;(with_reducible refine(ZJ.calls ((Zad l0_1 x18_2).f1) 0 (wrap64 (a0_0 - 1)) true _ A15.out).mono ?_);rintro e w' ⟨rfl,⟨nd,rfl⟩⟩)|(go_at_call 87;(with_reducible refine(ZJ.calls ((Zad l0_1 x18_2).f2) (-999999) 999999 true _ A17.out).mono ?_);rintro e w' ⟨rfl,⟨nd,rfl⟩⟩))
            go_roundg k2
            case measure=>have:=HJ1.out;have:=HK2.out;omega
            case rel=>exact⟨(wrap64 (x18_2+1)),(by first|rfl|(simp;done)|(simp[*];done)),H',⟨by have:=HJ1.out;have:=HK2.out;omega⟩,⟨by(with_reducible repeat(first|refine Zo ?_ _|refine Zr ?_|refine Zn ?_ _));refine ZD ?_ NB166001_166004.out _;(with_reducible repeat(first|refine Zo ?_ _|refine Zr ?_|refine Zn ?_ _));refine ZD ?_ NB166001_166004.out _;(with_reducible repeat(first|refine Zo ?_ _|refine Zr ?_|refine Zn ?_ _));refine ZD ?_ NB166001_166004.out _;(with_reducible repeat(first|refine Zo ?_ _|refine Zr ?_|refine Zn ?_ _));exact BK166001.out⟩,⟨by repeat(first|(with_reducible first|exact HB.out|apply Zq|apply Zm|apply Zs|refine Zp ?_ GE166001.out|refine Zp ?_ GE166004.out)|exact HB.out)⟩⟩
           ·replace c18:=Bool.eq_false_iff.mpr c18
            subst c18
            have H1:(some false)=some r:=by rw[if_neg (show ¬(false=true) by decide)] at H;exact H
            clear H
            have H:=H1
            clear H1
            obtain rfl:=Zg H
            have p166003:0≤(x18_2:Int):=Zd (by first|(with_reducible assumption)|assumption)
            have q166003:x18_2<(l0_1.length:Int):=Zd (by first|(with_reducible assumption)|assumption)
            obtain⟨ad166003,e166003,hx166003_0,hx166003_1,hx166003_2⟩:=Zbs HR0_1.out x18_2 p166003 q166003
            cases e166003
            replace hx166003_0:=(HB.out.cell (Zc w _ hx166003_0)).trans hx166003_0
            replace hx166003_1:=(HB.out.cell (Zc w _ hx166003_1)).trans hx166003_1
            replace hx166003_2:=(HB.out.cell (Zc w _ hx166003_2)).trans hx166003_2
            replace p166003:=eq_true p166003
            replace q166003:=eq_true q166003
            go_wp2_with (first|((with_reducible refine ZC (N:=4) rfl ?_);(try(refine ZaN (by rfl) ?_;dsimp only));refine ZE ?hg (N:=4) ?hd (cs:=#[.int .i64 0,.int .i64 0,.int .i64 0]) (t:=148) ?hr ?_;(case hd=>rfl);(case hg=>rfl);(case hr=>first|(go_simp;done)|(go_simp;rfl));intro gb166004 hg w23 hbox hb;have n0_:=Za (Zx (g:=gb166001) (o:=.cells #[.int .i64 a0_0,.slice (some ad166003) l0_1.length c0_1] 95 (0,0)) (by(with_reducible repeat(first|refine Zo ?_ _|refine Zr ?_|refine Zn ?_ _));exact BK166001.out) hb);have n1_:=Za (Zy (by repeat(first|(with_reducible first|exact HB.out|apply Zq|apply Zm|apply Zs|refine Zp ?_ GE166001.out)|exact HB.out)) hb);have n2_:=Za (hbox);have n3_:=Za ((by rw[hg];exact(Zv (by repeat(first|(with_reducible first|exact HB.out|apply Zq|apply Zm|apply Zs|refine Zp ?_ GE166001.out)|exact HB.out))):w.heap.size≤gb166004));have n4_:=Za ((by rw[hg];exact(Zv (by repeat(first|(with_reducible first|exact HB.out|apply Zq|apply Zm|apply Zs|refine Zp ?_ GE166001.out)|exact HB.out))):w.heap.size≤gb166004));have n5_:=Za ((by rw[hg];exact Nat.ne_of_lt (ZB (g:=gb166001) (o:=.cells #[.int .i64 a0_0,.slice (some ad166003) l0_1.length c0_1] 95 (0,0)) (by(with_reducible repeat(first|refine Zo ?_ _|refine Zr ?_|refine Zn ?_ _));exact BK166001.out)):gb166001≠gb166004));have n6_:=Za ((by rw[hg];exact Nat.ne_of_gt (ZB (g:=gb166001) (o:=.cells #[.int .i64 a0_0,.slice (some ad166003) l0_1.length c0_1] 95 (0,0)) (by(with_reducible repeat(first|refine Zo ?_ _|refine Zr ?_|refine Zn ?_ _));exact BK166001.out)):gb166004≠gb166001));clear BK166001;clear HB;have BK166001:=n0_;have HB:=n1_;have BK166004:=n2_;have GW166004:=n3_;have GE166004:=n4_;have NB166001_166004:=n5_;have NB166004_166001:=n6_;clear n0_ n1_ n2_ n3_ n4_ n5_ n6_;clear hb hbox hg;have hnb24:=NB166004_166001.out;have hnc24:=NB166001_166004.out;have hcz25_0:w23.cell? ⟨gb166004,0,none⟩=some (.int .i64 0):=(Zu BK166004.out 0).trans rfl;have hcz25_1:w23.cell? ⟨gb166004,1,none⟩=some (.int .i64 0):=(Zu BK166004.out 1).trans rfl;have hcz25_2:w23.cell? ⟨gb166004,2,none⟩=some (.int .i64 0):=(Zu BK166004.out 2).trans rfl;have hfz25_0:=Zt BK166004.out 0;have hfz25_1:=Zt BK166004.out 1;have hfz25_2:=Zt BK166004.out 2;have hcz26_0:w23.cell? ⟨gb166001,0,none⟩=some (.int .i64 a0_0):=(Zu BK166001.out 0).trans rfl;have hcz26_1:w23.cell? ⟨gb166001,1,none⟩=some (.slice (some ad166003) l0_1.length c0_1):=(Zu BK166001.out 1).trans rfl;have hfz26_0:=Zt BK166001.out 0;have hfz26_1:=Zt BK166001.out 1)|((with_reducible refine ZG (f:=87) rfl ?_);refine ZV (some 27) rfl rfl Try.func87 (by kernel_rfl) rfl #[.int .i64 ((Zad l0_1 x18_2).f0),.int .i64 0,.int .i64 (wrap64 (a0_0 - 1))] rfl (by(try simp only[List.map_toArray,List.map_cons,List.map_nil]);first|done|rfl|(simp only[Zk,Zj];rfl)) ?_;(with_reducible refine(ZJ.calls ((Zad l0_1 x18_2).f0) 0 (wrap64 (a0_0 - 1)) true _ A13.out).mono ?_);rintro e w' ⟨rfl,⟨nd,rfl⟩⟩;refine⟨_,rfl,?_⟩)|(go_at_call 87;(with_reducible refine(ZJ.calls ((Zad l0_1 x18_2).f1) 0 (wrap64 (a0_0 - 1)) true _ A15.out).mono ?_);rintro e w' ⟨rfl,⟨nd,rfl⟩⟩)|(go_at_call 87;(with_reducible refine(ZJ.calls ((Zad l0_1 x18_2).f2) (-999999) 999999 false _ A17.out).mono ?_);rintro e w' ⟨rfl,⟨nd,rfl⟩⟩))
            go_ret
            exact⟨by first|rfl|(simp[ZA,Zz] <;> rfl)|(simp[*,ZA,Zz] <;> rfl),by repeat(first|(with_reducible first|exact HB.out|apply Zq|apply Zm|apply Zs|refine Zp ?_ GE166001.out|refine Zp ?_ GE166004.out)|exact HB.out)⟩
          ·replace c16:=Bool.eq_false_iff.mpr c16
           subst c16
           have H1:(some false)=some r:=by rw[if_neg (show ¬(false=true) by decide)] at H;exact H
           clear H
           have H:=H1
           clear H1
           obtain rfl:=Zg H
           have p166003:0≤(x18_2:Int):=Zd (by first|(with_reducible assumption)|assumption)
           have q166003:x18_2<(l0_1.length:Int):=Zd (by first|(with_reducible assumption)|assumption)
           obtain⟨ad166003,e166003,hx166003_0,hx166003_1,hx166003_2⟩:=Zbs HR0_1.out x18_2 p166003 q166003
           cases e166003
           replace hx166003_0:=(HB.out.cell (Zc w _ hx166003_0)).trans hx166003_0
           replace hx166003_1:=(HB.out.cell (Zc w _ hx166003_1)).trans hx166003_1
           replace hx166003_2:=(HB.out.cell (Zc w _ hx166003_2)).trans hx166003_2
           replace p166003:=eq_true p166003
           replace q166003:=eq_true q166003
           go_wp2_with (first|((with_reducible refine ZC (N:=4) rfl ?_);(try(refine ZaN (by rfl) ?_;dsimp only));refine ZE ?hg (N:=4) ?hd (cs:=#[.int .i64 0,.int .i64 0,.int .i64 0]) (t:=148) ?hr ?_;(case hd=>rfl);(case hg=>rfl);(case hr=>first|(go_simp;done)|(go_simp;rfl));intro gb166004 hg w27 hbox hb;have n0_:=Za (Zx (g:=gb166001) (o:=.cells #[.int .i64 a0_0,.slice (some ad166003) l0_1.length c0_1] 95 (0,0)) (by(with_reducible repeat(first|refine Zo ?_ _|refine Zr ?_|refine Zn ?_ _));exact BK166001.out) hb);have n1_:=Za (Zy (by repeat(first|(with_reducible first|exact HB.out|apply Zq|apply Zm|apply Zs|refine Zp ?_ GE166001.out)|exact HB.out)) hb);have n2_:=Za (hbox);have n3_:=Za ((by rw[hg];exact(Zv (by repeat(first|(with_reducible first|exact HB.out|apply Zq|apply Zm|apply Zs|refine Zp ?_ GE166001.out)|exact HB.out))):w.heap.size≤gb166004));have n4_:=Za ((by rw[hg];exact(Zv (by repeat(first|(with_reducible first|exact HB.out|apply Zq|apply Zm|apply Zs|refine Zp ?_ GE166001.out)|exact HB.out))):w.heap.size≤gb166004));have n5_:=Za ((by rw[hg];exact Nat.ne_of_lt (ZB (g:=gb166001) (o:=.cells #[.int .i64 a0_0,.slice (some ad166003) l0_1.length c0_1] 95 (0,0)) (by(with_reducible repeat(first|refine Zo ?_ _|refine Zr ?_|refine Zn ?_ _));exact BK166001.out)):gb166001≠gb166004));have n6_:=Za ((by rw[hg];exact Nat.ne_of_gt (ZB (g:=gb166001) (o:=.cells #[.int .i64 a0_0,.slice (some ad166003) l0_1.length c0_1] 95 (0,0)) (by(with_reducible repeat(first|refine Zo ?_ _|refine Zr ?_|refine Zn ?_ _));exact BK166001.out)):gb166004≠gb166001));clear BK166001;clear HB;have BK166001:=n0_;have HB:=n1_;have BK166004:=n2_;have GW166004:=n3_;have GE166004:=n4_;have NB166001_166004:=n5_;have NB166004_166001:=n6_;clear n0_ n1_ n2_ n3_ n4_ n5_ n6_;clear hb hbox hg;have hnb28:=NB166004_166001.out;have hnc28:=NB166001_166004.out;have hcz29_0:w27.cell? ⟨gb166004,0,none⟩=some (.int .i64 0):=(Zu BK166004.out 0).trans rfl;have hcz29_1:w27.cell? ⟨gb166004,1,none⟩=some (.int .i64 0):=(Zu BK166004.out 1).trans rfl;have hcz29_2:w27.cell? ⟨gb166004,2,none⟩=some (.int .i64 0):=(Zu BK166004.out 2).trans rfl;have hfz29_0:=Zt BK166004.out 0;have hfz29_1:=Zt BK166004.out 1;have hfz29_2:=Zt BK166004.out 2;have hcz30_0:w27.cell? ⟨gb166001,0,none⟩=some (.int .i64 a0_0):=(Zu BK166001.out 0).trans rfl;have hcz30_1:w27.cell? ⟨gb166001,1,none⟩=some (.slice (some ad166003) l0_1.length c0_1):=(Zu BK166001.out 1).trans rfl;have hfz30_0:=Zt BK166001.out 0;have hfz30_1:=Zt BK166001.out 1)|((with_reducible refine ZG (f:=87) rfl ?_);refine ZV (some 27) rfl rfl Try.func87 (by kernel_rfl) rfl #[.int .i64 ((Zad l0_1 x18_2).f0),.int .i64 0,.int .i64 (wrap64 (a0_0 - 1))] rfl (by(try simp only[List.map_toArray,List.map_cons,List.map_nil]);first|done|rfl|(simp only[Zk,Zj];rfl)) ?_;(with_reducible refine(ZJ.calls ((Zad l0_1 x18_2).f0) 0 (wrap64 (a0_0 - 1)) true _ A13.out).mono ?_);rintro e w' ⟨rfl,⟨nd,rfl⟩⟩;refine⟨_,rfl,?_⟩)|(go_at_call 87;(with_reducible refine(ZJ.calls ((Zad l0_1 x18_2).f1) 0 (wrap64 (a0_0 - 1)) false _ A15.out).mono ?_);rintro e w' ⟨rfl,⟨nd,rfl⟩⟩))
           go_ret
           exact⟨by first|rfl|(simp[ZA,Zz] <;> rfl)|(simp[*,ZA,Zz] <;> rfl),by repeat(first|(with_reducible first|exact HB.out|apply Zq|apply Zm|apply Zs|refine Zp ?_ GE166001.out|refine Zp ?_ GE166004.out)|exact HB.out)⟩
         ·replace c14:=Bool.eq_false_iff.mpr c14
          subst c14
          have H1:(some false)=some r:=by rw[if_neg (show ¬(false=true) by decide)] at H;exact H
          clear H
          have H:=H1
          clear H1
          obtain rfl:=Zg H
          have p166003:0≤(x18_2:Int):=Zd (by first|(with_reducible assumption)|assumption)
          have q166003:x18_2<(l0_1.length:Int):=Zd (by first|(with_reducible assumption)|assumption)
          obtain⟨ad166003,e166003,hx166003_0,hx166003_1,hx166003_2⟩:=Zbs HR0_1.out x18_2 p166003 q166003
          cases e166003
          replace hx166003_0:=(HB.out.cell (Zc w _ hx166003_0)).trans hx166003_0
          replace hx166003_1:=(HB.out.cell (Zc w _ hx166003_1)).trans hx166003_1
          replace hx166003_2:=(HB.out.cell (Zc w _ hx166003_2)).trans hx166003_2
          replace p166003:=eq_true p166003
          replace q166003:=eq_true q166003
          go_wp2_with (first|((with_reducible refine ZC (N:=4) rfl ?_);(try(refine ZaN (by rfl) ?_;dsimp only));refine ZE ?hg (N:=4) ?hd (cs:=#[.int .i64 0,.int .i64 0,.int .i64 0]) (t:=148) ?hr ?_;(case hd=>rfl);(case hg=>rfl);(case hr=>first|(go_simp;done)|(go_simp;rfl));intro gb166004 hg w31 hbox hb;have n0_:=Za (Zx (g:=gb166001) (o:=.cells #[.int .i64 a0_0,.slice (some ad166003) l0_1.length c0_1] 95 (0,0)) (by(with_reducible repeat(first|refine Zo ?_ _|refine Zr ?_|refine Zn ?_ _));exact BK166001.out) hb);have n1_:=Za (Zy (by repeat(first|(with_reducible first|exact HB.out|apply Zq|apply Zm|apply Zs|refine Zp ?_ GE166001.out)|exact HB.out)) hb);have n2_:=Za (hbox);have n3_:=Za ((by rw[hg];exact(Zv (by repeat(first|(with_reducible first|exact HB.out|apply Zq|apply Zm|apply Zs|refine Zp ?_ GE166001.out)|exact HB.out))):w.heap.size≤gb166004));have n4_:=Za ((by rw[hg];exact(Zv (by repeat(first|(with_reducible first|exact HB.out|apply Zq|apply Zm|apply Zs|refine Zp ?_ GE166001.out)|exact HB.out))):w.heap.size≤gb166004));have n5_:=Za ((by rw[hg];exact Nat.ne_of_lt (ZB (g:=gb166001) (o:=.cells #[.int .i64 a0_0,.slice (some ad166003) l0_1.length c0_1] 95 (0,0)) (by(with_reducible repeat(first|refine Zo ?_ _|refine Zr ?_|refine Zn ?_ _));exact BK166001.out)):gb166001≠gb166004));have n6_:=Za ((by rw[hg];exact Nat.ne_of_gt (ZB (g:=gb166001) (o:=.cells #[.int .i64 a0_0,.slice (some ad166003) l0_1.length c0_1] 95 (0,0)) (by(with_reducible repeat(first|refine Zo ?_ _|refine Zr ?_|refine Zn ?_ _));exact BK166001.out)):gb166004≠gb166001));clear BK166001;clear HB;have BK166001:=n0_;have HB:=n1_;have BK166004:=n2_;have GW166004:=n3_;have GE166004:=n4_;have NB166001_166004:=n5_;have NB166004_166001:=n6_;clear n0_ n1_ n2_ n3_ n4_ n5_ n6_;clear hb hbox hg;have hnb32:=NB166004_166001.out;have hnc32:=NB166001_166004.out;have hcz33_0:w31.cell? ⟨gb166004,0,none⟩=some (.int .i64 0):=(Zu BK166004.out 0).trans rfl;have hcz33_1:w31.cell? ⟨gb166004,1,none⟩=some (.int .i64 0):=(Zu BK166004.out 1).trans rfl;have hcz33_2:w31.cell? ⟨gb166004,2,none⟩=some (.int .i64 0):=(Zu BK166004.out 2).trans rfl;have hfz33_0:=Zt BK166004.out 0;have hfz33_1:=Zt BK166004.out 1;have hfz33_2:=Zt BK166004.out 2;have hcz34_0:w31.cell? ⟨gb166001,0,none⟩=some (.int .i64 a0_0):=(Zu BK166001.out 0).trans rfl;have hcz34_1:w31.cell? ⟨gb166001,1,none⟩=some (.slice (some ad166003) l0_1.length c0_1):=(Zu BK166001.out 1).trans rfl;have hfz34_0:=Zt BK166001.out 0;have hfz34_1:=Zt BK166001.out 1)|((with_reducible refine ZG (f:=87) rfl ?_);refine ZV (some 27) rfl rfl Try.func87 (by kernel_rfl) rfl #[.int .i64 ((Zad l0_1 x18_2).f0),.int .i64 0,.int .i64 (wrap64 (a0_0 - 1))] rfl (by(try simp only[List.map_toArray,List.map_cons,List.map_nil]);first|done|rfl|(simp only[Zk,Zj];rfl)) ?_;(with_reducible refine(ZJ.calls ((Zad l0_1 x18_2).f0) 0 (wrap64 (a0_0 - 1)) false _ A13.out).mono ?_);rintro e w' ⟨rfl,⟨nd,rfl⟩⟩;refine⟨_,rfl,?_⟩))
          go_ret
          exact⟨by first|rfl|(simp[ZA,Zz] <;> rfl)|(simp[*,ZA,Zz] <;> rfl),by repeat(first|(with_reducible first|exact HB.out|apply Zq|apply Zm|apply Zs|refine Zp ?_ GE166001.out|refine Zp ?_ GE166004.out)|exact HB.out)⟩
        ·rw[if_neg c12] at H
         exact absurd H (by simp)
       ·rw[if_neg c11] at H
        exact absurd H (by simp)
      ·rw[if_neg c10] at H
       have c10b0:decide (x18_2<(l0_1.length:Int))=false:=Zf c10
       clear c10
       obtain rfl:=Zg H
       go_wp2
       go_ret
       exact⟨by first|rfl|(simp[ZA,Zz] <;> rfl)|(simp[*,ZA,Zz] <;> rfl),by repeat(first|(with_reducible first|exact HB.out|apply Zq|apply Zm|apply Zs|refine Zp ?_ GE166001.out)|exact HB.out)⟩
end Go.Proofs.Ytpoffpdaadhkgaa.Pr
namespace Go.Proofs.Ytpoffpdaadhkgaa.Pr
open Go.RowKit Go.Proofs.YtpoffpdaadhkgaaW.PrintWords Go.Proofs.Ytpoffpdaadhkgaa.Ni
theorem sedge_ok {n:Int} (h0:0≤n) (h8:n≤8) (y:S148):(inR y.f0 0 (wrap64 (n - 1)) && (inR y.f1 0 (wrap64 (n - 1)) && inR y.f2 (-999999) 999999))=Zbi n y:=by
 rw[Za8 (by omega) (by omega)]
 unfold inR Zbi inN wgtB
 rw[Bool.eq_iff_iff]
 simp only[Bool.and_eq_true,decide_eq_true_eq]
 omega
theorem sgraph_l (n:Int) (E:List S148) (h0:0≤n) (h8:n≤8) (hl:E.length≤80) (k:Nat) (hk:2 ^ 64≤k):ZW.l0 k E (E.length:Int) 0 n E=some (!(E.any fun x=>!Zbi n x)):=by
 have key:=Zbg E.length (fun k i=>ZW.l0 k E (E.length:Int) (i:Int) n E=some (!((E.drop i).any fun x=>!Zbi n x))) 0
  (fun k _=>by
   simp only[ZW.l0]
   rw[if_neg (by omega),List.drop_length];rfl)
  (fun k i _ hi ih=>by
   simp only[ZW.l0]
   rw[if_pos (by omega),if_pos (by omega),if_pos (by omega),ZaQ hi (by omega),ih,ZaO hi z148,List.any_cons,show Zad E (i:Int)=E.getD i z148 by unfold Zad;rw[Int.toNat_natCast]]
   generalize E.getD i z148=y
   rw[← sedge_ok h0 h8 y]
   simp only[Zcm,Zi]
   cases inR y.f0 0 (wrap64 (n - 1)) <;> cases inR y.f1 0 (wrap64 (n - 1)) <;> cases inR y.f2 (-999999) 999999 <;> rfl) 0 k (Nat.zero_le _) (by omega)
 simpa using key
theorem Zb9 (n:Int) (E:List S148) (k:Nat) (hk:2 ^ 66≤k):ZW.f k n E=some (ZaW n E):=by
 obtain⟨k,rfl⟩:∃m,k=m+1:=⟨k - 1,by omega⟩
 unfold ZW.f ZaW
 simp only[Zcm,Zi,ZW.j0]
 by_cases h:0≤n∧n≤8
 ·rw[show inR n 0 8=true by unfold inR;simp[h.1,h.2],if_pos rfl,Zf (show ¬n<0 by omega),Zf (show ¬8<n by omega)]
  by_cases h2:(E.length:Int) > 80
  ·rw[Ze h2,if_pos rfl,Ze (show 80<E.length by omega)];rfl
  ·rw[Zf h2,if_neg (by simp),Zf (show ¬80<E.length by omega),sgraph_l n E h.1 h.2 (by omega) k (by omega)]
   simp
 ·rw[show inR n 0 8=false by unfold inR;rw[Bool.eq_false_iff];simp only[ne_eq,Bool.and_eq_true,decide_eq_true_eq];exact h,if_neg (by simp),if_pos trivial]
  by_cases h3:n<0
  ·rw[Ze h3];rfl
  ·rw[Zf h3,Ze (show 8<n by omega)];rfl
end Go.Proofs.Ytpoffpdaadhkgaa.Pr
namespace Go.Proofs.Ytpoffpdaadhkgaa.Pr
open Go.RowKit Go.Proofs.YtpoffpdaadhkgaaW.PrintWords Go.Proofs.YtpoffpdaadhkgaaW.PrintLast Go.Proofs.YtpoffpdaadhkgaaW.PrintMore
attribute [local go_sem] Zaa Z8 Zak Zaj Z5 Z4 Z9 Z7
set_option linter.unusedVariables false
set_option linter.unusedSimpArgs false
open Go.Proofs.Ytpoffpdaadhkgaa.Ni
theorem Zbj.two {d l:List Int} {kn:List Bool} {E:List Z1} {j:Nat} {ch:Int} (hj:j<E.length):srnd (E.drop j) j (d,l,kn,ch)=srnd (E.drop (j+1)) (j+1) (ZbD (d,l,kn,ch) j (E.getD j zE)):=by
 rw[ZaO hj zE];rfl
structure Zbj.St (w W:World) (B b gd gl gn n cd cl ck:Nat) (d l:List Int) (kn:List Bool):Prop where
 d:IR W B gd n cd d
 l:IR W B gl n cl l
 k:BR W B gn n ck kn
 b:Below b w W
set_option maxHeartbeats 8000000 in
set_option maxRecDepth 100000 in
theorem Zbj.own (a0_0:Int) (A0_1:Option Addr) (c0_1:Nat) (l0_1:List S148) (w0 w:World) (hr0_1:Kd.C k148 w0 A0_1 l0_1.length l0_1) (hB0:Below w0.heap.size w0 w) (B b gd gl gn n cd cl ck:Nat) (d l:List Int) (kn:List Bool) (hE:Zba l0_1 n) (h80:l0_1.length≤80) (hn8:n≤8) (S:Zbj.St w w B b gd gl gn n cd cl ck d l kn) (hb:w0.heap.size≤b∧b≤w.heap.size∧b≤gd∧b≤gl∧b≤gn) (hdl:gd≠gl) (hdk:gd≠gn) (hlk:gl≠gn) :
  Calls Try.prog 167 #[.agg #[.int .i64 a0_0,.slice A0_1 l0_1.length c0_1],.slice (some ⟨gd,0,none⟩) n cd,.slice (some ⟨gl,0,none⟩) n cl,.slice (some ⟨gn,0,none⟩) n ck] w fun e w'=>e=.returned (.int .i64 (srnd l0_1 0 (d,l,kn,-1)).2.2.2)∧Zbj.St w w' B b gd gl gn n cd cl ck (srnd l0_1 0 (d,l,kn,-1)).1 (srnd l0_1 0 (d,l,kn,-1)).2.1 (srnd l0_1 0 (d,l,kn,-1)).2.2.1:=by
 have hu:=Try.underlying95
 have hu2:=Try.underlying148
 have HRE:=Za hr0_1;have HED:=Za hE
 have hL:l0_1.length≤9223372036854775807:=by omega
 have HS:=Za S;have HB:=Za hb;have HB0:=Za hB0
 have hdl2:=hdl.symm
 have hdk2:=hdk.symm
 have hlk2:=hlk.symm
 obtain⟨hb0,hb1,hb2,hb3,hb4⟩:=hb
 clear hr0_1 hE S hB0
 obtain⟨X,hX⟩:∃X,X=srnd l0_1 0 (d,l,kn,-1):=⟨_,rfl⟩
 rw[← hX]
 have HX:=Za hX;clear hX
 go_enter Try.func167,Try.ntmps167
 go_wp2
 go_loopg [9,15] l0_1.length (fun gg s9 s15 wr=>∃(j:Nat) (d' l':List Int) (kn':List Bool) (ch':Int),s9=.int .i64 ch'∧s15=.int .i64 (j:Int)∧Aside0 (j≤l0_1.length)∧Aside0 (l0_1.length - j≤gg)∧Aside0 (srnd (l0_1.drop j) j (d',l',kn',ch')=X)∧Aside0 (Zbj.St w wr B b gd gl gn n cd cl ck d' l' kn'))
 case atStart=>
  have hA:=Zq (Below.refl w.heap.size w) (.cells #[.int .i64 a0_0,.slice A0_1 l0_1.length c0_1] 95)
  exact⟨0,d,l,kn,-1,rfl,rfl,⟨Nat.zero_le _⟩,⟨by omega⟩,⟨HX.out.symm⟩,⟨⟨HS.out.d.low hA,HS.out.l.low hA,HS.out.k.low hA,hA.mono hb1⟩⟩⟩
 case round=>
  obtain⟨j,d',l',kn',ch',rfl,rfl,HJ,HG2,HRN,HI2⟩:=hrel
  by_cases hjn:j<l0_1.length
  ·have hjz:(j:Int)<(l0_1.length:Int):=by omega
   have HB2:=Za (HB0.out.trans (HI2.out.b.mono HB.out.1))
   obtain⟨ad,e1,m0,m1,m2⟩:=Zbs HRE.out (j:Int) (by omega) hjz
   cases e1
   rw[Int.toNat_natCast] at m0 m1 m2
   have hy:=HED.out _ (ZbX hjn zE)
   have HT:=Za (Zbj.two (d:=d') (l:=l') (kn:=kn') (ch:=ch') hjn)
   rw[show Zad l0_1 (j:Int)=l0_1.getD j zE by unfold Zad;rw[Int.toNat_natCast]] at m0 m1 m2
   generalize l0_1.getD j zE=y at m0 m1 m2 hy HT
   obtain⟨f0,f1,f2⟩:=y
   obtain⟨y0,y1,y2,y3⟩:=hy
   dsimp only at m0 m1 m2 y0 y1 y2 y3
   replace m0:=ZK HB2.out m0
   replace m1:=ZK HB2.out m1
   replace m2:=ZK HB2.out m2
   have hlta:=Zc wr _ m0
   obtain⟨xu,_⟩:=HI2.out.d.cell y0 y1
   obtain⟨xv,zv⟩:=HI2.out.d.cell y2 y3
   obtain⟨xl,zl⟩:=HI2.out.l.cell y2 y3
   obtain⟨xp,_⟩:=HI2.out.k.cell y0 y1
   obtain⟨xq,zq⟩:=HI2.out.k.cell y2 y3
   have hgd:=HI2.out.d.lt
   have hgl:=HI2.out.l.lt
   have hgk:=HI2.out.k.lt
   have HW:=Za fun (nq:Nat)=>Zm (Zq (Below.refl wr.heap.size wr) (.cells #[.int .i64 f0,.int .i64 f1,.int .i64 f2] 148)) nq
   have HBX:=Za fun (nq:Nat)=>(show(((wr.alloc (.cells #[.int .i64 f0,.int .i64 f1,.int .i64 f2] 148)).drewN nq).cell? ⟨wr.heap.size,0,none⟩=some (.int .i64 f0)∧((wr.alloc (.cells #[.int .i64 f0,.int .i64 f1,.int .i64 f2] 148)).drewN nq).cell? ⟨wr.heap.size,1,none⟩=some (.int .i64 f1)∧((wr.alloc (.cells #[.int .i64 f0,.int .i64 f1,.int .i64 f2] 148)).drewN nq).cell? ⟨wr.heap.size,2,none⟩=some (.int .i64 f2)) from⟨by go_simp,by go_simp,by go_simp⟩)
   have HPQ:=Za (show ZbD (d',l',kn',ch') j ⟨f0,f1,f2⟩=if kn'.getD f0.toNat false=true∧(kn'.getD f1.toNat false=false∨wrap64 (rd d' f0+f2)<rd d' f1) then(d'.set f1.toNat (wrap64 (rd d' f0+f2)),l'.set f1.toNat (j:Int),kn'.set f1.toNat true,(j:Int)) else(d',l',kn',ch') from rfl)
   generalize kn'.getD f0.toNat false=p at xp HPQ
   generalize kn'.getD f1.toNat false=q at xq HPQ
   rcases(show(Aside0 (p=true∧(q=false∨wrap64 (rd d' f0+f2)<rd d' f1))∧((p=true∧q=false)∨(p=true∧q=true∧wrap64 (rd d' f0+f2)<rd d' f1)))∨(Aside0 (¬(p=true∧(q=false∨wrap64 (rd d' f0+f2)<rd d' f1)))∧((p=false)∨(p=true∧q=true∧¬wrap64 (rd d' f0+f2)<rd d' f1))) by
    cases p
    ·right;exact⟨⟨by simp⟩,.inl rfl⟩
    ·cases q
     ·left;exact⟨⟨by simp⟩,.inl ⟨rfl,rfl⟩⟩
     ·by_cases h:wrap64 (rd d' f0+f2)<rd d' f1
      ·left;exact⟨⟨by simp[h]⟩,.inr ⟨rfl,rfl,h⟩⟩
      ·right;exact⟨⟨by simp[h]⟩,.inr ⟨rfl,rfl,h⟩⟩) with ⟨hyes,hway⟩|⟨hno,hway⟩
   ·rcases hway with ⟨rfl,rfl⟩|⟨rfl,rfl,hlt⟩
    all_goals
     have HS2:=Za (HPQ.out.trans (if_pos hyes.out))
     clear hyes HPQ
     go_wp2
     go_quiet (fail)
     go_wp2
     have hW:=HW.out nq
     have hx:=HBX.out nq
     generalize (wr.alloc (.cells #[.int .i64 f0,.int .i64 f1,.int .i64 f2] 148)).drewN nq=W at hW hx ⊢
     obtain⟨x0,x1,x2⟩:=hx
     have HWI:=Za (And.intro (HI2.out.d.low hW) (And.intro (HI2.out.l.low hW) (HI2.out.k.low hW)))
     clear xu xv zv xl zl xp xq zq m0 m1 m2 HW HBX
     obtain⟨xu,_⟩:=HWI.out.1.cell y0 y1
     obtain⟨xv,zv⟩:=HWI.out.1.cell y2 y3
     obtain⟨xl,zl⟩:=HWI.out.2.1.cell y2 y3
     obtain⟨xq,zq⟩:=HWI.out.2.2.cell y2 y3
     have HWB:=Za (HI2.out.b.trans (hW.mono (Nat.le_trans hb1 HI2.out.b.size)))
     have hsz:=hW.size
     clear hW
     go_region
     go_wp2
     go_roundg (l0_1.length - (j+1))
     case measure=>have:=HG2.out;omega
     case rel=>
      exact⟨j+1,d'.set f1.toNat (wrap64 (rd d' f0+f2)),l'.set f1.toNat (j:Int),kn'.set f1.toNat true,(j:Int),rfl,by go_num,⟨by omega⟩,⟨by omega⟩,⟨by rw[← HRN.out,HT.out,HS2.out]⟩,
       ⟨Kd.R_drew (((HWI.out.1.put f1 _).far hdk _).far hdl _),Kd.R_drew (((HWI.out.2.1.far hdl2 _).far hlk _).put f1 _),Kd.R_drew (((HWI.out.2.2.far hdk2 _).put f1 _).far hlk2 _),(((HWB.out.setCell (p:=⟨gd,f1.toNat,none⟩) hb2 _).setCell (p:=⟨gn,f1.toNat,none⟩) hb4 _).setCell (p:=⟨gl,f1.toNat,none⟩) hb3 _).drew⟩⟩
   ·rcases hway with rfl|⟨rfl,rfl,hlt⟩
    all_goals
     have HS2:=Za (HPQ.out.trans (if_neg hno.out))
     clear hno HPQ
     go_wp2
     go_quiet (fail)
     go_wp2
     have hW:=HW.out nq
     generalize (wr.alloc (.cells #[.int .i64 f0,.int .i64 f1,.int .i64 f2] 148)).drewN nq=W at hW ⊢
     go_roundg (l0_1.length - (j+1))
     case measure=>have:=HG2.out;omega
     case rel=>
      exact⟨j+1,d',l',kn',ch',rfl,by go_num,⟨by omega⟩,⟨by omega⟩,⟨by rw[← HRN.out,HT.out,HS2.out]⟩,⟨HI2.out.d.low hW,HI2.out.l.low hW,HI2.out.k.low hW,HI2.out.b.trans (hW.mono (Nat.le_trans hb1 HI2.out.b.size))⟩⟩
  ·have hjz:¬(j:Int)<(l0_1.length:Int):=by omega
   obtain rfl:j=l0_1.length:=by have:=HJ.out;omega
   have HX2:=Za (show(d',l',kn',ch')=X by have:=HRN.out;rw[List.drop_length] at this;exact this)
   go_wp2
   go_ret
   exact⟨by rw[← HX2.out];rfl,by rw[← HX2.out];exact HI2.out⟩
end Go.Proofs.Ytpoffpdaadhkgaa.Pr
