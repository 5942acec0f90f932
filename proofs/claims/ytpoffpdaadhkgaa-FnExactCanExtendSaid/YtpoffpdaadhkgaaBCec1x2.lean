/- The texts of one claim, put together by a program of this session. -/
import Derived.Deep.LoopGhost
import Derived.Shelf.Abstract
import Derived.Test.YtpoffpdaadhkgaaBCec1x1
namespace Go.Proofs.Ytpoffpdaadhkgaa.Pr
open Go.RowKit Go.Proofs.YtpoffpdaadhkgaaW.PrintWords Go.Proofs.YtpoffpdaadhkgaaW.PrintLast Go.Proofs.YtpoffpdaadhkgaaW.PrintMore
attribute [local go_sem] Z7 Z5 Zaf Zae ZY ZX Z6 Z4
set_option linter.unusedVariables false
set_option linter.unusedSimpArgs false
def ZS.l0:Nat→List Int→List (S101)→Int→Int→Int→List (S148)→Option (Int×(List (S148))×List Int)
 | 0,_,_,_,_,_,_=>none
 | k+1,x5,x12,x13,x14,x117004000,x117004001=>if x14<x13 then(if 0≤x14 then(if x14<(x12.length:Int) then(if ((Zt x12 x14).f2.f1)=1000000 then(if ((Zt x12 x14).f2.f0)=(-1000000) then(ZS.l0 k x5 x12 x13 (wrap64 (x14+1)) x117004000 x117004001) else(if x117004001.length<5864062014805 then(if x5.length<17592186044416 then(ZS.l0 k (x5 ++ [x14]) x12 x13 (wrap64 (x14+1)) x117004000 (x117004001 ++ [(⟨(Zt x12 x14).f1,(Zt x12 x14).f0,wrap64 (-((Zt x12 x14).f2.f0))⟩:S148)])) else(none)) else(none))) else(if x117004001.length<5864062014805 then((some (x117004001 ++ [(⟨(Zt x12 x14).f0,(Zt x12 x14).f1,(Zt x12 x14).f2.f1⟩:S148)]:List (S148))).bind fun y117012=>(if x5.length<17592186044416 then((some (x5 ++ [x14]:List Int)).bind fun y117015=>(if ((Zt x12 x14).f2.f0)=(-1000000) then(ZS.l0 k y117015 x12 x13 (wrap64 (x14+1)) x117004000 y117012) else(if y117012.length<5864062014805 then(if y117015.length<17592186044416 then(ZS.l0 k (y117015 ++ [x14]) x12 x13 (wrap64 (x14+1)) x117004000 (y117012 ++ [(⟨(Zt x12 x14).f1,(Zt x12 x14).f0,wrap64 (-((Zt x12 x14).f2.f0))⟩:S148)])) else(none)) else(none)))) else(none))) else(none))) else(none)) else(none)) else(some (x117004000,x117004001,x5))
def ZS.f (k:Nat) (a0_0:Int) (l0_1:List (S101)):Option (Int×(List (S148))×List Int):=ZS.l0 k ([]:List Int) l0_1 (l0_1.length:Int) 0 a0_0 ([]:List (S148))
set_option maxHeartbeats 8000000 in
set_option maxRecDepth 100000 in
theorem ZS.calls (k:Nat) (a0_0:Int) (A0_1:Option Addr) (c0_1:Nat) (l0_1:List (S101)) (r1:Int) (r2:List (S148)) (r3:List Int) (w:World) (hr0_1:Kd.C k101 w A0_1 l0_1.length l0_1) (hc0_1:l0_1.length≤c0_1) (h:ZS.f k a0_0 l0_1=some (r1,r2,r3)) :
  Calls Try.prog 117 #[.agg #[.int .i64 a0_0,.slice A0_1 l0_1.length c0_1]] w fun e w'=>∃v1_ v2_:Value,e=.returned (.tuple #[.agg #[.int .i64 r1,v1_],v2_])∧Kd.R k148 148 w' w.heap.size (fun _=>True) v1_ r2∧Kd.R (Kd.int .i64) 3 w' w.heap.size (fun _=>True) v2_ r3∧Below w.heap.size w w':=by
 have hu25:=Try.underlying25
 have hu95:=Try.underlying95
 have hu101:=Try.underlying101
 have hu148:=Try.underlying148
 have HR0_1:=Za hr0_1;have HC0_1:=Za hc0_1;clear hr0_1 hc0_1
 have HB:=Za (Below.refl w.heap.size w)
 have H:(ZS.l0 k ([]:List Int) l0_1 (l0_1.length:Int) 0 a0_0 ([]:List (S148)))=some (r1,r2,r3):=h
 clear h
 have H':=Za H
 clear H
 go_enter Try.func117,Try.ntmps117
 go_wp2_with (first|((with_reducible refine ZD (N:=1) rfl ?_);refine ZE ?hg (N:=1) ?hd (cs:=#[.int .i64 a0_0,.slice A0_1 l0_1.length c0_1]) (t:=25) ?hr ?_;(case hd=>rfl);(case hg=>rfl);(case hr=>first|(go_simp;done)|(go_simp;rfl));intro gb117001 hg w2 hbox hb;have n0_:=Za (Zx (by repeat(first|(with_reducible first|exact HB.out|apply Zp|apply Zm|apply Zr)|exact HB.out)) hb);have n1_:=Za (hbox);have n2_:=Za ((by rw[hg];exact(Zw (by repeat(first|(with_reducible first|exact HB.out|apply Zp|apply Zm|apply Zr)|exact HB.out))):w.heap.size≤gb117001));have n3_:=Za ((by rw[hg];exact(Zw (by repeat(first|(with_reducible first|exact HB.out|apply Zp|apply Zm|apply Zr)|exact HB.out))):w.heap.size≤gb117001));clear HB;have HB:=n0_;have BK117001:=n1_;have GW117001:=n2_;have GE117001:=n3_;clear n0_ n1_ n2_ n3_;clear hb hbox hg)|((with_reducible refine ZD (N:=2) rfl ?_);refine ZE ?hg (N:=2) ?hd (cs:=#[.int .i64 0,.slice none 0 0]) (t:=95) ?hr ?_;(case hd=>rfl);(case hg=>rfl);(case hr=>first|(go_simp;done)|(go_simp;rfl));intro gb117002 hg w3 hbox hb;have n0_:=Za (Zy (g:=gb117001) (o:=.cells #[.int .i64 a0_0,.slice A0_1 l0_1.length c0_1] 25 (0,0)) (by(with_reducible repeat(first|refine Zn ?_ _|refine Zs ?_|refine Zo ?_ _));exact BK117001.out) hb);have n1_:=Za (Zx (by repeat(first|(with_reducible first|exact HB.out|apply Zp|apply Zm|apply Zr|refine Zq ?_ GE117001.out)|exact HB.out)) hb);have n2_:=Za (hbox);have n3_:=Za ((by rw[hg];exact(Zw (by repeat(first|(with_reducible first|exact HB.out|apply Zp|apply Zm|apply Zr|refine Zq ?_ GE117001.out)|exact HB.out))):w.heap.size≤gb117002));have n4_:=Za ((by rw[hg];exact(Zw (by repeat(first|(with_reducible first|exact HB.out|apply Zp|apply Zm|apply Zr|refine Zq ?_ GE117001.out)|exact HB.out))):w.heap.size≤gb117002));have n5_:=Za ((by rw[hg];exact Nat.ne_of_lt (ZC (g:=gb117001) (o:=.cells #[.int .i64 a0_0,.slice A0_1 l0_1.length c0_1] 25 (0,0)) (by(with_reducible repeat(first|refine Zn ?_ _|refine Zs ?_|refine Zo ?_ _));exact BK117001.out)):gb117001≠gb117002));have n6_:=Za ((by rw[hg];exact Nat.ne_of_gt (ZC (g:=gb117001) (o:=.cells #[.int .i64 a0_0,.slice A0_1 l0_1.length c0_1] 25 (0,0)) (by(with_reducible repeat(first|refine Zn ?_ _|refine Zs ?_|refine Zo ?_ _));exact BK117001.out)):gb117002≠gb117001));clear BK117001;clear HB;have BK117001:=n0_;have HB:=n1_;have BK117002:=n2_;have GW117002:=n3_;have GE117002:=n4_;have NB117001_117002:=n5_;have NB117002_117001:=n6_;clear n0_ n1_ n2_ n3_ n4_ n5_ n6_;clear hb hbox hg;have hnb4:=NB117001_117002.out;have hnc4:=NB117002_117001.out;have hcz5_0:w3.cell? ⟨gb117001,0,none⟩=some (.int .i64 a0_0):=(Zv BK117001.out 0).trans rfl;have hcz5_1:w3.cell? ⟨gb117001,1,none⟩=some (.slice A0_1 l0_1.length c0_1):=(Zv BK117001.out 1).trans rfl;have hfz5_0:=Zu BK117001.out 0;have hfz5_1:=Zu BK117001.out 1)|((with_reducible refine ZD (N:=4) rfl ?_);refine ZE ?hg (N:=4) ?hd (cs:=#[.int .i64 0,.slice none 0 0]) (t:=95) ?hr ?_;(case hd=>rfl);(case hg=>rfl);(case hr=>first|(go_simp;done)|(go_simp;rfl));intro gb117003 hg w6 hbox hb;have n0_:=Za (Zy (g:=gb117001) (o:=.cells #[.int .i64 a0_0,.slice A0_1 l0_1.length c0_1] 25 (0,0)) (by(with_reducible repeat(first|refine Zn ?_ _|refine Zs ?_|refine Zo ?_ _));exact BK117001.out) hb);have n1_:=Za (Zy (g:=gb117002) (o:=.cells #[.int .i64 0,.slice none 0 0] 95 (0,0)) (by(with_reducible repeat(first|refine Zn ?_ _|refine Zs ?_|refine Zo ?_ _));exact BK117002.out) hb);have n2_:=Za (Zx (by repeat(first|(with_reducible first|exact HB.out|apply Zp|apply Zm|apply Zr|refine Zq ?_ GE117001.out|refine Zq ?_ GE117002.out)|exact HB.out)) hb);have n3_:=Za (hbox);have n4_:=Za ((by rw[hg];exact(Zw (by repeat(first|(with_reducible first|exact HB.out|apply Zp|apply Zm|apply Zr|refine Zq ?_ GE117001.out|refine Zq ?_ GE117002.out)|exact HB.out))):w.heap.size≤gb117003));have n5_:=Za ((by rw[hg];exact(Zw (by repeat(first|(with_reducible first|exact HB.out|apply Zp|apply Zm|apply Zr|refine Zq ?_ GE117001.out|refine Zq ?_ GE117002.out)|exact HB.out))):w.heap.size≤gb117003));have n6_:=Za ((by rw[hg];exact Nat.ne_of_lt (ZC (g:=gb117001) (o:=.cells #[.int .i64 a0_0,.slice A0_1 l0_1.length c0_1] 25 (0,0)) (by(with_reducible repeat(first|refine Zn ?_ _|refine Zs ?_|refine Zo ?_ _));exact BK117001.out)):gb117001≠gb117003));have n7_:=Za ((by rw[hg];exact Nat.ne_of_gt (ZC (g:=gb117001) (o:=.cells #[.int .i64 a0_0,.slice A0_1 l0_1.length c0_1] 25 (0,0)) (by(with_reducible repeat(first|refine Zn ?_ _|refine Zs ?_|refine Zo ?_ _));exact BK117001.out)):gb117003≠gb117001));have n8_:=Za ((by rw[hg];exact Nat.ne_of_lt (ZC (g:=gb117002) (o:=.cells #[.int .i64 0,.slice none 0 0] 95 (0,0)) (by(with_reducible repeat(first|refine Zn ?_ _|refine Zs ?_|refine Zo ?_ _));exact BK117002.out)):gb117002≠gb117003));have n9_:=Za ((by rw[hg];exact Nat.ne_of_gt (ZC (g:=gb117002) (o:=.cells #[.int .i64 0,.slice none 0 0] 95 (0,0)) (by(with_reducible repeat(first|refine Zn ?_ _|refine Zs ?_|refine Zo ?_ _));exact BK117002.out)):gb117003≠gb117002));clear BK117001;clear BK117002;clear HB;have BK117001:=n0_;have BK117002:=n1_;have HB:=n2_;have BK117003:=n3_;have GW117003:=n4_;have GE117003:=n5_;have NB117001_117003:=n6_;have NB117003_117001:=n7_;have NB117002_117003:=n8_;have NB117003_117002:=n9_;clear n0_ n1_ n2_ n3_ n4_ n5_ n6_ n7_ n8_ n9_;clear hb hbox hg;have hnb7:=NB117003_117001.out;have hnc7:=NB117001_117003.out;have hnb8:=NB117003_117002.out;have hnc8:=NB117002_117003.out;have hcz9_0:w6.cell? ⟨gb117003,0,none⟩=some (.int .i64 0):=(Zv BK117003.out 0).trans rfl;have hcz9_1:w6.cell? ⟨gb117003,1,none⟩=some (.slice none 0 0):=(Zv BK117003.out 1).trans rfl;have hfz9_0:=Zu BK117003.out 0;have hfz9_1:=Zu BK117003.out 1;have hcz10_0:w6.cell? ⟨gb117001,0,none⟩=some (.int .i64 a0_0):=(Zv BK117001.out 0).trans rfl;have hcz10_1:w6.cell? ⟨gb117001,1,none⟩=some (.slice A0_1 l0_1.length c0_1):=(Zv BK117001.out 1).trans rfl;have hfz10_0:=Zu BK117001.out 0;have hfz10_1:=Zu BK117001.out 1))
 go_loopg [5,14] k (fun kq v5 v14 w'=>∃(x5_1:List Int) (x14_1:Int) (x117004001_1:List (S148)) (u117004001:Value),v14=.int .i64 x14_1∧Aside0 (ZS.l0 kq x5_1 l0_1 (l0_1.length:Int) x14_1 a0_0 x117004001_1=some (r1,r2,r3))∧Aside0 (kq≤k)∧Aside0 (Kd.R (Kd.int .i64) 3 w' w.heap.size (fun _=>True) v5 x5_1)∧Aside0 (Kd.R k148 148 w' w.heap.size (fun _=>True) u117004001 x117004001_1)∧Aside0 (w'.heap[gb117001]? = some (.cells #[.int .i64 a0_0,(.slice A0_1 l0_1.length c0_1)] 25 (0,0)))∧Aside0 (w'.heap[gb117002]? = some (.cells #[.int .i64 0,(.slice none 0 0)] 95 (0,0)))∧Aside0 (w'.heap[gb117003]? = some (.cells #[.int .i64 a0_0,u117004001] 95 (0,0)))∧Aside0 (Below w.heap.size w w'))
 case atStart=>exact⟨(([]:List Int)),(0),(([]:List (S148))),(.slice none 0 0),(by first|rfl|(simp;done)|(simp[*];done)),H',⟨Nat.le_refl _⟩,⟨by first|exact Kd.R_nil _ _ _ _ _|exact Kd.N_nil _ _ _ _ _|exact Kd.V_nil _ _ _ _ _|exact Kd.Q_nil _ _ _ _ _|exact Kd.S_nil _ _ _ _ _⟩,⟨by first|exact Kd.R_nil _ _ _ _ _|exact Kd.N_nil _ _ _ _ _|exact Kd.V_nil _ _ _ _ _|exact Kd.Q_nil _ _ _ _ _|exact Kd.S_nil _ _ _ _ _⟩,⟨by(with_reducible repeat(first|refine Zn ?_ _|refine Zs ?_|refine Zo ?_ _));refine ZB ?_ NB117001_117003.out _;(with_reducible repeat(first|refine Zn ?_ _|refine Zs ?_|refine Zo ?_ _));refine ZB ?_ NB117001_117003.out _;(with_reducible repeat(first|refine Zn ?_ _|refine Zs ?_|refine Zo ?_ _));exact BK117001.out⟩,⟨by(with_reducible repeat(first|refine Zn ?_ _|refine Zs ?_|refine Zo ?_ _));refine ZB ?_ NB117002_117003.out _;(with_reducible repeat(first|refine Zn ?_ _|refine Zs ?_|refine Zo ?_ _));refine ZB ?_ NB117002_117003.out _;(with_reducible repeat(first|refine Zn ?_ _|refine Zs ?_|refine Zo ?_ _));exact BK117002.out⟩,⟨by(with_reducible repeat(first|refine Zn ?_ _|refine Zs ?_|refine Zo ?_ _));refine ZH (cs:=#[.int .i64 a0_0,.slice none 0 0]) ?_ 1 _ rfl;(with_reducible repeat(first|refine Zn ?_ _|refine Zs ?_|refine Zo ?_ _));refine ZH (cs:=#[.int .i64 0,.slice none 0 0]) ?_ 0 _ rfl;(with_reducible repeat(first|refine Zn ?_ _|refine Zs ?_|refine Zo ?_ _));exact BK117003.out⟩,⟨by repeat(first|(with_reducible first|exact HB.out|apply Zp|apply Zm|apply Zr|refine Zq ?_ GE117001.out|refine Zq ?_ GE117002.out|refine Zq ?_ GE117003.out)|exact HB.out)⟩⟩
 case round=>
  clear H'
  try clear c1
  try clear p2
  try clear c4
  try clear c7
  try clear c8
  try clear hcz10_0
  try clear hcz10_1
  try clear hcz5_0
  try clear hcz5_1
  try clear hcz9_0
  try clear hcz9_1
  try clear hfz10_0
  try clear hfz10_1
  try clear hfz5_0
  try clear hfz5_1
  try clear hfz9_0
  try clear hfz9_1
  obtain⟨x5_1,x14_1,x117004001_1,u117004001,rfl,HA,HK1,HO_5,HO_117004001,BK117001,BK117002,BK117003,HB⟩:=hrel
  cases gk with
  | zero=>exact absurd HA.out (by simp[ZS.l0])
  | succ k1=>
   have H:=HA.out
   clear HA
   simp only[ZS.l0] at H
   by_cases c11:x14_1<(l0_1.length:Int)
   ·rw[if_pos c11] at H
    have c11b0:decide (x14_1<(l0_1.length:Int))=true:=Ze c11
    clear c11
    by_cases c12:0≤x14_1
    ·rw[if_pos c12] at H
     have c12b0:decide (0≤x14_1)=true:=Ze c12
     clear c12
     by_cases c13:x14_1<(l0_1.length:Int)
     ·rw[if_pos c13] at H
      have c13b0:decide (x14_1<(l0_1.length:Int))=true:=Ze c13
      clear c13
      by_cases c14:((Zt l0_1 x14_1).f2.f1)=1000000
      ·rw[if_pos c14] at H
       have c14b0:(((Zt l0_1 x14_1).f2.f1) == 1000000)=true:=beq_iff_eq.mpr c14
       have c14b1:(((Zt l0_1 x14_1).f2.f1) != 1000000)=false:=bne_eq_false_iff_eq.mpr c14
       clear c14
       by_cases c15:((Zt l0_1 x14_1).f2.f0)=(-1000000)
       ·rw[if_pos c15] at H
        have c15b0:(((Zt l0_1 x14_1).f2.f0) == (-1000000))=true:=beq_iff_eq.mpr c15
        have c15b1:(((Zt l0_1 x14_1).f2.f0) != (-1000000))=false:=bne_eq_false_iff_eq.mpr c15
        clear c15
        have H':=Za H
        clear H
        have p117004:0≤(x14_1:Int):=Zd (by first|(with_reducible assumption)|assumption)
        have q117004:x14_1<(l0_1.length:Int):=Zd (by first|(with_reducible assumption)|assumption)
        obtain⟨ad117004,e117004,hx117004_0,hx117004_1,hx117004_2,hx117004_3⟩:=ZaF HR0_1.out x14_1 p117004 q117004
        cases e117004
        replace hx117004_0:=(HB.out.cell (Zc w _ hx117004_0)).trans hx117004_0
        replace hx117004_1:=(HB.out.cell (Zc w _ hx117004_1)).trans hx117004_1
        replace hx117004_2:=(HB.out.cell (Zc w _ hx117004_2)).trans hx117004_2
        replace hx117004_3:=(HB.out.cell (Zc w _ hx117004_3)).trans hx117004_3
        replace p117004:=eq_true p117004
        replace q117004:=eq_true q117004
        go_wp2_with (first|((with_reducible refine ZD (N:=7) rfl ?_);refine ZE ?hg (N:=7) ?hd (cs:=#[.int .i64 0,.int .i64 0,.int .i64 0,.int .i64 0]) (t:=101) ?hr ?_;(case hd=>rfl);(case hg=>rfl);(case hr=>first|(go_simp;done)|(go_simp;rfl));intro gb117005 hg w16 hbox hb;have n0_:=Za (Kd.R_below (by(with_reducible repeat(first|apply Kd.R_alloc|apply Kd.R_drewN|apply Kd.R_drew));exact HO_5.out) hb);have n1_:=Za (Kd.R_below (by(with_reducible repeat(first|apply Kd.R_alloc|apply Kd.R_drewN|apply Kd.R_drew));exact HO_117004001.out) hb);have n2_:=Za (Zy (g:=gb117001) (o:=.cells #[.int .i64 a0_0,.slice (some ad117004) l0_1.length c0_1] 25 (0,0)) (by(with_reducible repeat(first|refine Zn ?_ _|refine Zs ?_|refine Zo ?_ _));exact BK117001.out) hb);have n3_:=Za (Zy (g:=gb117002) (o:=.cells #[.int .i64 0,.slice none 0 0] 95 (0,0)) (by(with_reducible repeat(first|refine Zn ?_ _|refine Zs ?_|refine Zo ?_ _));exact BK117002.out) hb);have n4_:=Za (Zy (g:=gb117003) (o:=.cells #[.int .i64 a0_0,u117004001] 95 (0,0)) (by(with_reducible repeat(first|refine Zn ?_ _|refine Zs ?_|refine Zo ?_ _));exact BK117003.out) hb);have n5_:=Za (Zx (by repeat(first|(with_reducible first|exact HB.out|apply Zp|apply Zm|apply Zr|refine Zq ?_ GE117001.out|refine Zq ?_ GE117002.out|refine Zq ?_ GE117003.out)|exact HB.out)) hb);have n6_:=Za (hbox);have n7_:=Za ((by rw[hg];exact(Zw (by repeat(first|(with_reducible first|exact HB.out|apply Zp|apply Zm|apply Zr|refine Zq ?_ GE117001.out|refine Zq ?_ GE117002.out|refine Zq ?_ GE117003.out)|exact HB.out))):w.heap.size≤gb117005));have n8_:=Za ((by rw[hg];exact(Zw (by repeat(first|(with_reducible first|exact HB.out|apply Zp|apply Zm|apply Zr|refine Zq ?_ GE117001.out|refine Zq ?_ GE117002.out|refine Zq ?_ GE117003.out)|exact HB.out))):w.heap.size≤gb117005));have n9_:=Za ((by rw[hg];exact Nat.ne_of_lt (ZC (g:=gb117001) (o:=.cells #[.int .i64 a0_0,.slice (some ad117004) l0_1.length c0_1] 25 (0,0)) (by(with_reducible repeat(first|refine Zn ?_ _|refine Zs ?_|refine Zo ?_ _));exact BK117001.out)):gb117001≠gb117005));have n10_:=Za ((by rw[hg];exact Nat.ne_of_gt (ZC (g:=gb117001) (o:=.cells #[.int .i64 a0_0,.slice (some ad117004) l0_1.length c0_1] 25 (0,0)) (by(with_reducible repeat(first|refine Zn ?_ _|refine Zs ?_|refine Zo ?_ _));exact BK117001.out)):gb117005≠gb117001));have n11_:=Za ((by rw[hg];exact Nat.ne_of_lt (ZC (g:=gb117002) (o:=.cells #[.int .i64 0,.slice none 0 0] 95 (0,0)) (by(with_reducible repeat(first|refine Zn ?_ _|refine Zs ?_|refine Zo ?_ _));exact BK117002.out)):gb117002≠gb117005));have n12_:=Za ((by rw[hg];exact Nat.ne_of_gt (ZC (g:=gb117002) (o:=.cells #[.int .i64 0,.slice none 0 0] 95 (0,0)) (by(with_reducible repeat(first|refine Zn ?_ _|refine Zs ?_|refine Zo ?_ _));exact BK117002.out)):gb117005≠gb117002));have n13_:=Za ((by rw[hg];exact Nat.ne_of_lt (ZC (g:=gb117003) (o:=.cells #[.int .i64 a0_0,u117004001] 95 (0,0)) (by(with_reducible repeat(first|refine Zn ?_ _|refine Zs ?_|refine Zo ?_ _));exact BK117003.out)):gb117003≠gb117005));have n14_:=Za ((by rw[hg];exact Nat.ne_of_gt (ZC (g:=gb117003) (o:=.cells #[.int .i64 a0_0,u117004001] 95 (0,0)) (by(with_reducible repeat(first|refine Zn ?_ _|refine Zs ?_|refine Zo ?_ _));exact BK117003.out)):gb117005≠gb117003));clear HO_5;clear HO_117004001;clear BK117001;clear BK117002;clear BK117003;clear HB;have HO_5:=n0_;have HO_117004001:=n1_;have BK117001:=n2_;have BK117002:=n3_;have BK117003:=n4_;have HB:=n5_;have BK117005:=n6_;have GW117005:=n7_;have GE117005:=n8_;have NB117001_117005:=n9_;have NB117005_117001:=n10_;have NB117002_117005:=n11_;have NB117005_117002:=n12_;have NB117003_117005:=n13_;have NB117005_117003:=n14_;clear n0_ n1_ n2_ n3_ n4_ n5_ n6_ n7_ n8_ n9_ n10_ n11_ n12_ n13_ n14_;clear hb hbox hg;have hnb17:=NB117005_117001.out;have hnc17:=NB117001_117005.out;have hnb18:=NB117005_117002.out;have hnc18:=NB117002_117005.out;have hnb19:=NB117005_117003.out;have hnc19:=NB117003_117005.out;have hcz20_0:w16.cell? ⟨gb117005,0,none⟩=some (.int .i64 0):=(Zv BK117005.out 0).trans rfl;have hcz20_1:w16.cell? ⟨gb117005,1,none⟩=some (.int .i64 0):=(Zv BK117005.out 1).trans rfl;have hcz20_2:w16.cell? ⟨gb117005,2,none⟩=some (.int .i64 0):=(Zv BK117005.out 2).trans rfl;have hcz20_3:w16.cell? ⟨gb117005,3,none⟩=some (.int .i64 0):=(Zv BK117005.out 3).trans rfl;have hfz20_0:=Zu BK117005.out 0;have hfz20_1:=Zu BK117005.out 1;have hfz20_2:=Zu BK117005.out 2;have hfz20_3:=Zu BK117005.out 3))
        go_roundg k1
        case measure=>have:=HK1.out;omega
        case rel=>exact⟨(x5_1),(wrap64 (x14_1+1)),(x117004001_1),(u117004001),(by first|rfl|(simp;done)|(simp[*];done)),H',⟨by have:=HK1.out;omega⟩,⟨by(with_reducible repeat(first|apply Kd.R_alloc|apply Kd.R_drewN|apply Kd.R_drew));exact Kd.R_mono (Kd.R_far (p:=⟨gb117005,3,none⟩) (Kd.R_far (p:=⟨gb117005,2,none⟩) (Kd.R_far (p:=⟨gb117005,1,none⟩) (Kd.R_far (p:=⟨gb117005,0,none⟩) (Kd.R_types HO_5.out BK117005.out (by decide)) (fun _ hk=>hk.2) (.int .i64 ((Zt l0_1 x14_1).f0))) (fun _ hk=>hk.2) (.int .i64 ((Zt l0_1 x14_1).f1))) (fun _ hk=>hk.2) (.int .i64 ((Zt l0_1 x14_1).f2.f0))) (fun _ hk=>hk.2) (.int .i64 ((Zt l0_1 x14_1).f2.f1))) (fun _ hk=>trivial)⟩,⟨by(with_reducible repeat(first|apply Kd.R_alloc|apply Kd.R_drewN|apply Kd.R_drew));exact Kd.R_mono (Kd.R_far (p:=⟨gb117005,3,none⟩) (Kd.R_far (p:=⟨gb117005,2,none⟩) (Kd.R_far (p:=⟨gb117005,1,none⟩) (Kd.R_far (p:=⟨gb117005,0,none⟩) (Kd.R_types HO_117004001.out BK117005.out (by decide)) (fun _ hk=>hk.2) (.int .i64 ((Zt l0_1 x14_1).f0))) (fun _ hk=>hk.2) (.int .i64 ((Zt l0_1 x14_1).f1))) (fun _ hk=>hk.2) (.int .i64 ((Zt l0_1 x14_1).f2.f0))) (fun _ hk=>hk.2) (.int .i64 ((Zt l0_1 x14_1).f2.f1))) (fun _ hk=>trivial)⟩,⟨by(with_reducible repeat(first|refine Zn ?_ _|refine Zs ?_|refine Zo ?_ _));refine ZB ?_ NB117001_117005.out _;(with_reducible repeat(first|refine Zn ?_ _|refine Zs ?_|refine Zo ?_ _));refine ZB ?_ NB117001_117005.out _;(with_reducible repeat(first|refine Zn ?_ _|refine Zs ?_|refine Zo ?_ _));refine ZB ?_ NB117001_117005.out _;(with_reducible repeat(first|refine Zn ?_ _|refine Zs ?_|refine Zo ?_ _));refine ZB ?_ NB117001_117005.out _;(with_reducible repeat(first|refine Zn ?_ _|refine Zs ?_|refine Zo ?_ _));exact BK117001.out⟩,⟨by(with_reducible repeat(first|refine Zn ?_ _|refine Zs ?_|refine Zo ?_ _));refine ZB ?_ NB117002_117005.out _;(with_reducible repeat(first|refine Zn ?_ _|refine Zs ?_|refine Zo ?_ _));refine ZB ?_ NB117002_117005.out _;(with_reducible repeat(first|refine Zn ?_ _|refine Zs ?_|refine Zo ?_ _));refine ZB ?_ NB117002_117005.out _;(with_reducible repeat(first|refine Zn ?_ _|refine Zs ?_|refine Zo ?_ _));refine ZB ?_ NB117002_117005.out _;(with_reducible repeat(first|refine Zn ?_ _|refine Zs ?_|refine Zo ?_ _));exact BK117002.out⟩,⟨by(with_reducible repeat(first|refine Zn ?_ _|refine Zs ?_|refine Zo ?_ _));refine ZB ?_ NB117003_117005.out _;(with_reducible repeat(first|refine Zn ?_ _|refine Zs ?_|refine Zo ?_ _));refine ZB ?_ NB117003_117005.out _;(with_reducible repeat(first|refine Zn ?_ _|refine Zs ?_|refine Zo ?_ _));refine ZB ?_ NB117003_117005.out _;(with_reducible repeat(first|refine Zn ?_ _|refine Zs ?_|refine Zo ?_ _));refine ZB ?_ NB117003_117005.out _;(with_reducible repeat(first|refine Zn ?_ _|refine Zs ?_|refine Zo ?_ _));exact BK117003.out⟩,⟨by repeat(first|(with_reducible first|exact HB.out|apply Zp|apply Zm|apply Zr|refine Zq ?_ GE117001.out|refine Zq ?_ GE117002.out|refine Zq ?_ GE117003.out|refine Zq ?_ GE117005.out)|exact HB.out)⟩⟩
       ·rw[if_neg c15] at H
        have c15b0:(((Zt l0_1 x14_1).f2.f0) == (-1000000))=false:=beq_eq_false_iff_ne.mpr c15
        have c15b1:(((Zt l0_1 x14_1).f2.f0) != (-1000000))=true:=bne_iff_ne.mpr c15
        by_cases c21:x117004001_1.length<5864062014805
        ·rw[if_pos c21] at H
         have LMc21:=Za c21;clear c21
         obtain⟨y117006,hy117006⟩:∃y_:List (S148),y_=(x117004001_1 ++ [(⟨(Zt l0_1 x14_1).f1,(Zt l0_1 x14_1).f0,wrap64 (-((Zt l0_1 x14_1).f2.f0))⟩:S148)]):=⟨_,rfl⟩
         replace H:(if x5_1.length<17592186044416 then(ZS.l0 k1 (x5_1 ++ [x14_1]) l0_1 (l0_1.length:Int) (wrap64 (x14_1+1)) a0_0 y117006) else(none))=some (r1,r2,r3):=by first|(rw[hy117006];with_reducible exact H)|(have H2_:=(Zi _ _).symm.trans H;rw[hy117006];with_reducible exact H2_)|(have H2_:=(Zi _ _).symm.trans H;with_reducible exact H2_)|with_reducible exact H|(rw[hy117006];exact H)|exact H
         have Ny117006:=Za hy117006;clear hy117006
         by_cases c22:x5_1.length<17592186044416
         ·rw[if_pos c22] at H
          have LMc22:=Za c22;clear c22
          obtain⟨y117009,hy117009⟩:∃y_:List Int,y_=(x5_1 ++ [x14_1]):=⟨_,rfl⟩
          replace H:(ZS.l0 k1 y117009 l0_1 (l0_1.length:Int) (wrap64 (x14_1+1)) a0_0 y117006)=some (r1,r2,r3):=by first|(rw[hy117009];with_reducible exact H)|(have H2_:=(Zi _ _).symm.trans H;rw[hy117009];with_reducible exact H2_)|(have H2_:=(Zi _ _).symm.trans H;with_reducible exact H2_)|with_reducible exact H|(rw[hy117009];exact H)|exact H
          have Ny117009:=Za hy117009;clear hy117009
          have H':=Za H
          clear H
          have p117004:0≤(x14_1:Int):=Zd (by first|(with_reducible assumption)|assumption)
          have q117004:x14_1<(l0_1.length:Int):=Zd (by first|(with_reducible assumption)|assumption)
          obtain⟨ad117004,e117004,hx117004_0,hx117004_1,hx117004_2,hx117004_3⟩:=ZaF HR0_1.out x14_1 p117004 q117004
          cases e117004
          replace hx117004_0:=(HB.out.cell (Zc w _ hx117004_0)).trans hx117004_0
          replace hx117004_1:=(HB.out.cell (Zc w _ hx117004_1)).trans hx117004_1
          replace hx117004_2:=(HB.out.cell (Zc w _ hx117004_2)).trans hx117004_2
          replace hx117004_3:=(HB.out.cell (Zc w _ hx117004_3)).trans hx117004_3
          replace p117004:=eq_true p117004
          replace q117004:=eq_true q117004
          go_wp2_with (first|((with_reducible refine ZD (N:=7) rfl ?_);refine ZE ?hg (N:=7) ?hd (cs:=#[.int .i64 0,.int .i64 0,.int .i64 0,.int .i64 0]) (t:=101) ?hr ?_;(case hd=>rfl);(case hg=>rfl);(case hr=>first|(go_simp;done)|(go_simp;rfl));intro gb117005 hg w23 hbox hb;have n0_:=Za (Kd.R_below (by(with_reducible repeat(first|apply Kd.R_alloc|apply Kd.R_drewN|apply Kd.R_drew));exact HO_5.out) hb);have n1_:=Za (Kd.R_below (by(with_reducible repeat(first|apply Kd.R_alloc|apply Kd.R_drewN|apply Kd.R_drew));exact HO_117004001.out) hb);have n2_:=Za (Zy (g:=gb117001) (o:=.cells #[.int .i64 a0_0,.slice (some ad117004) l0_1.length c0_1] 25 (0,0)) (by(with_reducible repeat(first|refine Zn ?_ _|refine Zs ?_|refine Zo ?_ _));exact BK117001.out) hb);have n3_:=Za (Zy (g:=gb117002) (o:=.cells #[.int .i64 0,.slice none 0 0] 95 (0,0)) (by(with_reducible repeat(first|refine Zn ?_ _|refine Zs ?_|refine Zo ?_ _));exact BK117002.out) hb);have n4_:=Za (Zy (g:=gb117003) (o:=.cells #[.int .i64 a0_0,u117004001] 95 (0,0)) (by(with_reducible repeat(first|refine Zn ?_ _|refine Zs ?_|refine Zo ?_ _));exact BK117003.out) hb);have n5_:=Za (Zx (by repeat(first|(with_reducible first|exact HB.out|apply Zp|apply Zm|apply Zr|refine Zq ?_ GE117001.out|refine Zq ?_ GE117002.out|refine Zq ?_ GE117003.out)|exact HB.out)) hb);have n6_:=Za (hbox);have n7_:=Za ((by rw[hg];exact(Zw (by repeat(first|(with_reducible first|exact HB.out|apply Zp|apply Zm|apply Zr|refine Zq ?_ GE117001.out|refine Zq ?_ GE117002.out|refine Zq ?_ GE117003.out)|exact HB.out))):w.heap.size≤gb117005));have n8_:=Za ((by rw[hg];exact(Zw (by repeat(first|(with_reducible first|exact HB.out|apply Zp|apply Zm|apply Zr|refine Zq ?_ GE117001.out|refine Zq ?_ GE117002.out|refine Zq ?_ GE117003.out)|exact HB.out))):w.heap.size≤gb117005));have n9_:=Za ((by rw[hg];exact Nat.ne_of_lt (ZC (g:=gb117001) (o:=.cells #[.int .i64 a0_0,.slice (some ad117004) l0_1.length c0_1] 25 (0,0)) (by(with_reducible repeat(first|refine Zn ?_ _|refine Zs ?_|refine Zo ?_ _));exact BK117001.out)):gb117001≠gb117005));have n10_:=Za ((by rw[hg];exact Nat.ne_of_gt (ZC (g:=gb117001) (o:=.cells #[.int .i64 a0_0,.slice (some ad117004) l0_1.length c0_1] 25 (0,0)) (by(with_reducible repeat(first|refine Zn ?_ _|refine Zs ?_|refine Zo ?_ _));exact BK117001.out)):gb117005≠gb117001));have n11_:=Za ((by rw[hg];exact Nat.ne_of_lt (ZC (g:=gb117002) (o:=.cells #[.int .i64 0,.slice none 0 0] 95 (0,0)) (by(with_reducible repeat(first|refine Zn ?_ _|refine Zs ?_|refine Zo ?_ _));exact BK117002.out)):gb117002≠gb117005));have n12_:=Za ((by rw[hg];exact Nat.ne_of_gt (ZC (g:=gb117002) (o:=.cells #[.int .i64 0,.slice none 0 0] 95 (0,0)) (by(with_reducible repeat(first|refine Zn ?_ _|refine Zs ?_|refine Zo ?_ _));exact BK117002.out)):gb117005≠gb117002));have n13_:=Za ((by rw[hg];exact Nat.ne_of_lt (ZC (g:=gb117003) (o:=.cells #[.int .i64 a0_0,u117004001] 95 (0,0)) (by(with_reducible repeat(first|refine Zn ?_ _|refine Zs ?_|refine Zo ?_ _));exact BK117003.out)):gb117003≠gb117005));have n14_:=Za ((by rw[hg];exact Nat.ne_of_gt (ZC (g:=gb117003) (o:=.cells #[.int .i64 a0_0,u117004001] 95 (0,0)) (by(with_reducible repeat(first|refine Zn ?_ _|refine Zs ?_|refine Zo ?_ _));exact BK117003.out)):gb117005≠gb117003));clear HO_5;clear HO_117004001;clear BK117001;clear BK117002;clear BK117003;clear HB;have HO_5:=n0_;have HO_117004001:=n1_;have BK117001:=n2_;have BK117002:=n3_;have BK117003:=n4_;have HB:=n5_;have BK117005:=n6_;have GW117005:=n7_;have GE117005:=n8_;have NB117001_117005:=n9_;have NB117005_117001:=n10_;have NB117002_117005:=n11_;have NB117005_117002:=n12_;have NB117003_117005:=n13_;have NB117005_117003:=n14_;clear n0_ n1_ n2_ n3_ n4_ n5_ n6_ n7_ n8_ n9_ n10_ n11_ n12_ n13_ n14_;clear hb hbox hg;have hnb24:=NB117005_117001.out;have hnc24:=NB117001_117005.out;have hnb25:=NB117005_117002.out;have hnc25:=NB117002_117005.out;have hnb26:=NB117005_117003.out;have hnc26:=NB117003_117005.out;have hcz27_0:w23.cell? ⟨gb117005,0,none⟩=some (.int .i64 0):=(Zv BK117005.out 0).trans rfl;have hcz27_1:w23.cell? ⟨gb117005,1,none⟩=some (.int .i64 0):=(Zv BK117005.out 1).trans rfl;have hcz27_2:w23.cell? ⟨gb117005,2,none⟩=some (.int .i64 0):=(Zv BK117005.out 2).trans rfl;have hcz27_3:w23.cell? ⟨gb117005,3,none⟩=some (.int .i64 0):=(Zv BK117005.out 3).trans rfl;have hfz27_0:=Zu BK117005.out 0;have hfz27_1:=Zu BK117005.out 1;have hfz27_2:=Zu BK117005.out 2;have hfz27_3:=Zu BK117005.out 3;have hnb28:=NB117003_117001.out;have hnc28:=NB117001_117003.out;have hnb29:=NB117003_117002.out;have hnc29:=NB117002_117003.out;have hcz30_0:w23.cell? ⟨gb117003,0,none⟩=some (.int .i64 a0_0):=(Zv BK117003.out 0).trans rfl;have hcz30_1:w23.cell? ⟨gb117003,1,none⟩=some (u117004001):=(Zv BK117003.out 1).trans rfl;have hfz30_0:=Zu BK117003.out 0;have hfz30_1:=Zu BK117003.out 1)|((with_reducible refine Z1 (b:=.append) (xs:=#[.tmp 45,.tmp 55]) rfl ?_);at_builtin;refine Kd.R_append k148 (w0:=w) w.heap.size rfl (.tmp 45) (.tmp 55) 93 148 (.agg #[(.int .i64 0),(.int .i64 0),(.int .i64 0)]) 24 rfl Try.underlying93 Zbl rfl (by decide) (by omega) u117004001 x117004001_1 (⟨(Zt l0_1 x14_1).f1,(Zt l0_1 x14_1).f0,wrap64 (-((Zt l0_1 x14_1).f2.f0))⟩:S148) [.int .i64 ((Zt l0_1 x14_1).f1),.int .i64 ((Zt l0_1 x14_1).f0),.int .i64 (wrap64 (-((Zt l0_1 x14_1).f2.f0)))] (fun _=>True) (fun _=>False) rfl (by first|(go_simp;done)|(go_simp;rfl)) ?aP (fun _ hk=>hk.elim) ?aF ?aO ?aB ?aS ?aL ?_;(case aP=>exact Zbd _ _ _ (⟨(Zt l0_1 x14_1).f1,(Zt l0_1 x14_1).f0,wrap64 (-((Zt l0_1 x14_1).f2.f0))⟩:S148));(case aB=>exact(by repeat(first|(with_reducible first|exact HB.out|apply Zp|apply Zm|apply Zr|refine Zq ?_ GE117001.out|refine Zq ?_ GE117002.out|refine Zq ?_ GE117003.out|refine Zq ?_ GE117005.out)|exact HB.out)));(case aF=>exact(fun _ _=>trivial));(case aO=>exact(by(with_reducible repeat(first|apply Kd.R_alloc|apply Kd.R_drewN|apply Kd.R_drew));exact Kd.R_mono (Kd.R_far (p:=⟨gb117005,3,none⟩) (Kd.R_far (p:=⟨gb117005,2,none⟩) (Kd.R_far (p:=⟨gb117005,1,none⟩) (Kd.R_far (p:=⟨gb117005,0,none⟩) (Kd.R_types HO_117004001.out BK117005.out (by decide)) (fun _ hk=>hk.2) (.int .i64 ((Zt l0_1 x14_1).f0))) (fun _ hk=>hk.2) (.int .i64 ((Zt l0_1 x14_1).f1))) (fun _ hk=>hk.2) (.int .i64 ((Zt l0_1 x14_1).f2.f0))) (fun _ hk=>hk.2) (.int .i64 ((Zt l0_1 x14_1).f2.f1))) (fun _ hk=>trivial)));(case aS=>exact(Zw (by repeat(first|(with_reducible first|exact HB.out|apply Zp|apply Zm|apply Zr|refine Zq ?_ GE117001.out|refine Zq ?_ GE117002.out|refine Zq ?_ GE117003.out|refine Zq ?_ GE117005.out)|exact HB.out))));(case aL=>have:=LMc21.out;omega);intro v117007 w31 ho hb hg hat;rw[← Ny117006.out] at ho;have n0_:=Za (Kd.R_over' (by(with_reducible repeat(first|apply Kd.R_alloc|apply Kd.R_drewN|apply Kd.R_drew));exact(Kd.R_mono (Kd.R_far (p:=⟨gb117005,3,none⟩) (Kd.R_far (p:=⟨gb117005,2,none⟩) (Kd.R_far (p:=⟨gb117005,1,none⟩) (Kd.R_far (p:=⟨gb117005,0,none⟩) (Kd.R_types HO_5.out BK117005.out (by decide)) (fun _ hk=>hk.2) (.int .i64 ((Zt l0_1 x14_1).f0))) (fun _ hk=>hk.2) (.int .i64 ((Zt l0_1 x14_1).f1))) (fun _ hk=>hk.2) (.int .i64 ((Zt l0_1 x14_1).f2.f0))) (fun _ hk=>hk.2) (.int .i64 ((Zt l0_1 x14_1).f2.f1))) (fun _ h_=>h_.1))) (Kd.R_typed (by(with_reducible repeat(first|apply Kd.R_alloc|apply Kd.R_drewN|apply Kd.R_drew));exact(Kd.R_mono (Kd.R_far (p:=⟨gb117005,3,none⟩) (Kd.R_far (p:=⟨gb117005,2,none⟩) (Kd.R_far (p:=⟨gb117005,1,none⟩) (Kd.R_far (p:=⟨gb117005,0,none⟩) (Kd.R_types HO_117004001.out BK117005.out (by decide)) (fun _ hk=>hk.2) (.int .i64 ((Zt l0_1 x14_1).f0))) (fun _ hk=>hk.2) (.int .i64 ((Zt l0_1 x14_1).f1))) (fun _ hk=>hk.2) (.int .i64 ((Zt l0_1 x14_1).f2.f0))) (fun _ hk=>hk.2) (.int .i64 ((Zt l0_1 x14_1).f2.f1))) (fun _ h_=>h_.1)))) (by decide) hg);have n1_:=Za (ZK (g:=gb117001) (o:=.cells #[.int .i64 a0_0,.slice (some ad117004) l0_1.length c0_1] 25 (0,0)) (by(with_reducible repeat(first|refine Zn ?_ _|refine Zs ?_|refine Zo ?_ _));refine ZB ?_ NB117001_117005.out _;(with_reducible repeat(first|refine Zn ?_ _|refine Zs ?_|refine Zo ?_ _));refine ZB ?_ NB117001_117005.out _;(with_reducible repeat(first|refine Zn ?_ _|refine Zs ?_|refine Zo ?_ _));refine ZB ?_ NB117001_117005.out _;(with_reducible repeat(first|refine Zn ?_ _|refine Zs ?_|refine Zo ?_ _));refine ZB ?_ NB117001_117005.out _;(with_reducible repeat(first|refine Zn ?_ _|refine Zs ?_|refine Zo ?_ _));exact BK117001.out) hg (Kd.R_ne HO_117004001.out BK117001.out (by decide)));have n2_:=Za (ZK (g:=gb117002) (o:=.cells #[.int .i64 0,.slice none 0 0] 95 (0,0)) (by(with_reducible repeat(first|refine Zn ?_ _|refine Zs ?_|refine Zo ?_ _));refine ZB ?_ NB117002_117005.out _;(with_reducible repeat(first|refine Zn ?_ _|refine Zs ?_|refine Zo ?_ _));refine ZB ?_ NB117002_117005.out _;(with_reducible repeat(first|refine Zn ?_ _|refine Zs ?_|refine Zo ?_ _));refine ZB ?_ NB117002_117005.out _;(with_reducible repeat(first|refine Zn ?_ _|refine Zs ?_|refine Zo ?_ _));refine ZB ?_ NB117002_117005.out _;(with_reducible repeat(first|refine Zn ?_ _|refine Zs ?_|refine Zo ?_ _));exact BK117002.out) hg (Kd.R_ne HO_117004001.out BK117002.out (by decide)));have n3_:=Za (ZK (g:=gb117003) (o:=.cells #[.int .i64 a0_0,u117004001] 95 (0,0)) (by(with_reducible repeat(first|refine Zn ?_ _|refine Zs ?_|refine Zo ?_ _));refine ZB ?_ NB117003_117005.out _;(with_reducible repeat(first|refine Zn ?_ _|refine Zs ?_|refine Zo ?_ _));refine ZB ?_ NB117003_117005.out _;(with_reducible repeat(first|refine Zn ?_ _|refine Zs ?_|refine Zo ?_ _));refine ZB ?_ NB117003_117005.out _;(with_reducible repeat(first|refine Zn ?_ _|refine Zs ?_|refine Zo ?_ _));refine ZB ?_ NB117003_117005.out _;(with_reducible repeat(first|refine Zn ?_ _|refine Zs ?_|refine Zo ?_ _));exact BK117003.out) hg (Kd.R_ne HO_117004001.out BK117003.out (by decide)));have n4_:=Za (ZK (g:=gb117005) (o:=.cells #[.int .i64 ((Zt l0_1 x14_1).f0),.int .i64 ((Zt l0_1 x14_1).f1),.int .i64 ((Zt l0_1 x14_1).f2.f0),.int .i64 ((Zt l0_1 x14_1).f2.f1)] 101 (0,0)) (by(with_reducible repeat(first|refine Zn ?_ _|refine Zs ?_|refine Zo ?_ _));refine ZH (cs:=#[.int .i64 ((Zt l0_1 x14_1).f0),.int .i64 ((Zt l0_1 x14_1).f1),.int .i64 ((Zt l0_1 x14_1).f2.f0),.int .i64 0]) ?_ 3 _ rfl;(with_reducible repeat(first|refine Zn ?_ _|refine Zs ?_|refine Zo ?_ _));refine ZH (cs:=#[.int .i64 ((Zt l0_1 x14_1).f0),.int .i64 ((Zt l0_1 x14_1).f1),.int .i64 0,.int .i64 0]) ?_ 2 _ rfl;(with_reducible repeat(first|refine Zn ?_ _|refine Zs ?_|refine Zo ?_ _));refine ZH (cs:=#[.int .i64 ((Zt l0_1 x14_1).f0),.int .i64 0,.int .i64 0,.int .i64 0]) ?_ 1 _ rfl;(with_reducible repeat(first|refine Zn ?_ _|refine Zs ?_|refine Zo ?_ _));refine ZH (cs:=#[.int .i64 0,.int .i64 0,.int .i64 0,.int .i64 0]) ?_ 0 _ rfl;(with_reducible repeat(first|refine Zn ?_ _|refine Zs ?_|refine Zo ?_ _));exact BK117005.out) hg (Kd.R_ne HO_117004001.out BK117005.out (by decide)));have n5_:=Za (hb);have n6_:=Za (ho);clear HO_5;clear BK117001;clear BK117002;clear BK117003;clear BK117005;clear HB;clear HO_117004001;have HO_5:=n0_;have BK117001:=n1_;have BK117002:=n2_;have BK117003:=n3_;have BK117005:=n4_;have HB:=n5_;have HO117008:=n6_;clear n0_ n1_ n2_ n3_ n4_ n5_ n6_;clear ho hb hg hat)|((with_reducible refine Z1 (b:=.append) (xs:=#[.tmp 57,.tmp 59]) rfl ?_);at_builtin;refine Kd.R_append (Kd.int .i64) (w0:=w) w.heap.size rfl (.tmp 57) (.tmp 59) 33 3 (.int .i64 0) 8 rfl Try.underlying33 ZaQ rfl (by decide) (by omega) u5 x5_1 x14_1 [.int .i64 x14_1] (fun _=>True) (fun _=>False) rfl rfl ?aP (fun _ hk=>hk.elim) ?aF ?aO ?aB ?aS ?aL ?_;(case aP=>exact rfl);(case aB=>exact(by repeat(first|(with_reducible first|exact HB.out|apply Zp|apply Zm|apply Zr|refine Zq ?_ GE117001.out|refine Zq ?_ GE117002.out|refine Zq ?_ GE117003.out|refine Zq ?_ GE117005.out)|exact HB.out)));(case aF=>exact(fun _ _=>trivial));(case aO=>exact(by(with_reducible repeat(first|apply Kd.R_alloc|apply Kd.R_drewN|apply Kd.R_drew));exact HO_5.out));(case aS=>exact(Zw (by repeat(first|(with_reducible first|exact HB.out|apply Zp|apply Zm|apply Zr|refine Zq ?_ GE117001.out|refine Zq ?_ GE117002.out|refine Zq ?_ GE117003.out|refine Zq ?_ GE117005.out)|exact HB.out))));(case aL=>have:=LMc22.out;omega);intro v117010 w32 ho hb hg hat;rw[← Ny117009.out] at ho;have n0_:=Za (ZK (g:=gb117001) (o:=.cells #[.int .i64 a0_0,.slice (some ad117004) l0_1.length c0_1] 25 (0,0)) (by(with_reducible repeat(first|refine Zn ?_ _|refine Zs ?_|refine Zo ?_ _));exact BK117001.out) hg (Kd.R_ne HO_5.out BK117001.out (by decide)));have n1_:=Za (ZK (g:=gb117002) (o:=.cells #[.int .i64 0,.slice none 0 0] 95 (0,0)) (by(with_reducible repeat(first|refine Zn ?_ _|refine Zs ?_|refine Zo ?_ _));exact BK117002.out) hg (Kd.R_ne HO_5.out BK117002.out (by decide)));have n2_:=Za (ZK (g:=gb117003) (o:=.cells #[.int .i64 a0_0,u117004001] 95 (0,0)) (by(with_reducible repeat(first|refine Zn ?_ _|refine Zs ?_|refine Zo ?_ _));exact BK117003.out) hg (Kd.R_ne HO_5.out BK117003.out (by decide)));have n3_:=Za (ZK (g:=gb117005) (o:=.cells #[.int .i64 ((Zt l0_1 x14_1).f0),.int .i64 ((Zt l0_1 x14_1).f1),.int .i64 ((Zt l0_1 x14_1).f2.f0),.int .i64 ((Zt l0_1 x14_1).f2.f1)] 101 (0,0)) (by(with_reducible repeat(first|refine Zn ?_ _|refine Zs ?_|refine Zo ?_ _));exact BK117005.out) hg (Kd.R_ne HO_5.out BK117005.out (by decide)));have n4_:=Za (Kd.R_over' (by(with_reducible repeat(first|apply Kd.R_alloc|apply Kd.R_drewN|apply Kd.R_drew));exact HO117008.out) (Kd.R_typed (by(with_reducible repeat(first|apply Kd.R_alloc|apply Kd.R_drewN|apply Kd.R_drew));exact HO_5.out)) (by decide) hg);have n5_:=Za (hb);have n6_:=Za (ho);clear BK117001;clear BK117002;clear BK117003;clear BK117005;clear HO117008;clear HB;clear HO_5;have BK117001:=n0_;have BK117002:=n1_;have BK117003:=n2_;have BK117005:=n3_;have HO117008:=n4_;have HB:=n5_;have HO117011:=n6_;clear n0_ n1_ n2_ n3_ n4_ n5_ n6_;clear ho hb hg hat;obtain⟨Ao33,co33,eo33⟩:=Kd.R_slice HO117008.out;subst eo33;have hcz34_0:w32.cell? ⟨gb117003,0,none⟩=some (.int .i64 a0_0):=(Zv BK117003.out 0).trans rfl;have hcz34_1:w32.cell? ⟨gb117003,1,none⟩=some (u117004001):=(Zv BK117003.out 1).trans rfl;have hfz34_0:=Zu BK117003.out 0;have hfz34_1:=Zu BK117003.out 1))
          go_roundg k1
          case measure=>have:=HK1.out;omega
          case rel=>exact⟨(y117009),(wrap64 (x14_1+1)),(y117006),(.slice Ao33 y117006.length co33),(by first|rfl|(simp;done)|(simp[*];done)),H',⟨by have:=HK1.out;omega⟩,⟨by(with_reducible repeat(first|apply Kd.R_alloc|apply Kd.R_drewN|apply Kd.R_drew));exact Kd.R_mono (Kd.R_far (p:=⟨gb117003,1,none⟩) (Kd.R_types HO117011.out BK117003.out (by decide)) (fun _ hk=>hk.2) (.slice Ao33 y117006.length co33)) (fun _ hk=>trivial)⟩,⟨by(with_reducible repeat(first|apply Kd.R_alloc|apply Kd.R_drewN|apply Kd.R_drew));exact Kd.R_mono (Kd.R_far (p:=⟨gb117003,1,none⟩) (Kd.R_types HO117008.out BK117003.out (by decide)) (fun _ hk=>hk.2) (.slice Ao33 y117006.length co33)) (fun _ hk=>trivial)⟩,⟨by(with_reducible repeat(first|refine Zn ?_ _|refine Zs ?_|refine Zo ?_ _));refine ZB ?_ NB117001_117003.out _;(with_reducible repeat(first|refine Zn ?_ _|refine Zs ?_|refine Zo ?_ _));exact BK117001.out⟩,⟨by(with_reducible repeat(first|refine Zn ?_ _|refine Zs ?_|refine Zo ?_ _));refine ZB ?_ NB117002_117003.out _;(with_reducible repeat(first|refine Zn ?_ _|refine Zs ?_|refine Zo ?_ _));exact BK117002.out⟩,⟨by(with_reducible repeat(first|refine Zn ?_ _|refine Zs ?_|refine Zo ?_ _));refine ZH (cs:=#[.int .i64 a0_0,u117004001]) ?_ 1 _ rfl;(with_reducible repeat(first|refine Zn ?_ _|refine Zs ?_|refine Zo ?_ _));exact BK117003.out⟩,⟨by repeat(first|(with_reducible first|exact HB.out|apply Zp|apply Zm|apply Zr|refine Zq ?_ GE117001.out|refine Zq ?_ GE117002.out|refine Zq ?_ GE117003.out|refine Zq ?_ GE117005.out)|exact HB.out)⟩⟩
         ·rw[if_neg c22] at H
          exact absurd H (by simp)
        ·rw[if_neg c21] at H
         exact absurd H (by simp)
      ·rw[if_neg c14] at H
       have c14b0:(((Zt l0_1 x14_1).f2.f1) == 1000000)=false:=beq_eq_false_iff_ne.mpr c14
       have c14b1:(((Zt l0_1 x14_1).f2.f1) != 1000000)=true:=bne_iff_ne.mpr c14
       by_cases c35:x117004001_1.length<5864062014805
       ·rw[if_pos c35] at H
        have LMc35:=Za c35;clear c35
        obtain⟨y117012,hy117012⟩:∃y_:List (S148),y_=(x117004001_1 ++ [(⟨(Zt l0_1 x14_1).f0,(Zt l0_1 x14_1).f1,(Zt l0_1 x14_1).f2.f1⟩:S148)]):=⟨_,rfl⟩
        replace H:(if x5_1.length<17592186044416 then((some (x5_1 ++ [x14_1]:List Int)).bind fun y117015=>(if ((Zt l0_1 x14_1).f2.f0)=(-1000000) then(ZS.l0 k1 y117015 l0_1 (l0_1.length:Int) (wrap64 (x14_1+1)) a0_0 y117012) else(if y117012.length<5864062014805 then(if y117015.length<17592186044416 then(ZS.l0 k1 (y117015 ++ [x14_1]) l0_1 (l0_1.length:Int) (wrap64 (x14_1+1)) a0_0 (y117012 ++ [(⟨(Zt l0_1 x14_1).f1,(Zt l0_1 x14_1).f0,wrap64 (-((Zt l0_1 x14_1).f2.f0))⟩:S148)])) else(none)) else(none)))) else(none))=some (r1,r2,r3):=by first|(rw[hy117012];with_reducible exact H)|(have H2_:=(Zi _ _).symm.trans H;rw[hy117012];with_reducible exact H2_)|(have H2_:=(Zi _ _).symm.trans H;with_reducible exact H2_)|with_reducible exact H|(rw[hy117012];exact H)|exact H
        have Ny117012:=Za hy117012;clear hy117012
        by_cases c36:x5_1.length<17592186044416
        ·rw[if_pos c36] at H
         have LMc36:=Za c36;clear c36
         obtain⟨y117015,hy117015⟩:∃y_:List Int,y_=(x5_1 ++ [x14_1]):=⟨_,rfl⟩
         replace H:(if ((Zt l0_1 x14_1).f2.f0)=(-1000000) then(ZS.l0 k1 y117015 l0_1 (l0_1.length:Int) (wrap64 (x14_1+1)) a0_0 y117012) else(if y117012.length<5864062014805 then(if y117015.length<17592186044416 then(ZS.l0 k1 (y117015 ++ [x14_1]) l0_1 (l0_1.length:Int) (wrap64 (x14_1+1)) a0_0 (y117012 ++ [(⟨(Zt l0_1 x14_1).f1,(Zt l0_1 x14_1).f0,wrap64 (-((Zt l0_1 x14_1).f2.f0))⟩:S148)])) else(none)) else(none)))=some (r1,r2,r3):=by first|(rw[hy117015];with_reducible exact H)|(have H2_:=(Zi _ _).symm.trans H;rw[hy117015];with_reducible exact H2_)|(have H2_:=(Zi _ _).symm.trans H;with_reducible exact H2_)|with_reducible exact H|(rw[hy117015];exact H)|exact H
         have Ny117015:=Za hy117015;clear hy117015
         by_cases c37:((Zt l0_1 x14_1).f2.f0)=(-1000000)
         ·rw[if_pos c37] at H
          have c37b0:(((Zt l0_1 x14_1).f2.f0) == (-1000000))=true:=beq_iff_eq.mpr c37
          have c37b1:(((Zt l0_1 x14_1).f2.f0) != (-1000000))=false:=bne_eq_false_iff_eq.mpr c37
          clear c37
          have H':=Za H
          clear H
          have p117004:0≤(x14_1:Int):=Zd (by first|(with_reducible assumption)|assumption)
          have q117004:x14_1<(l0_1.length:Int):=Zd (by first|(with_reducible assumption)|assumption)
          obtain⟨ad117004,e117004,hx117004_0,hx117004_1,hx117004_2,hx117004_3⟩:=ZaF HR0_1.out x14_1 p117004 q117004
          cases e117004
          replace hx117004_0:=(HB.out.cell (Zc w _ hx117004_0)).trans hx117004_0
          replace hx117004_1:=(HB.out.cell (Zc w _ hx117004_1)).trans hx117004_1
          replace hx117004_2:=(HB.out.cell (Zc w _ hx117004_2)).trans hx117004_2
          replace hx117004_3:=(HB.out.cell (Zc w _ hx117004_3)).trans hx117004_3
          replace p117004:=eq_true p117004
          replace q117004:=eq_true q117004
          go_wp2_with (first|((with_reducible refine ZD (N:=7) rfl ?_);refine ZE ?hg (N:=7) ?hd (cs:=#[.int .i64 0,.int .i64 0,.int .i64 0,.int .i64 0]) (t:=101) ?hr ?_;(case hd=>rfl);(case hg=>rfl);(case hr=>first|(go_simp;done)|(go_simp;rfl));intro gb117005 hg w38 hbox hb;have n0_:=Za (Kd.R_below (by(with_reducible repeat(first|apply Kd.R_alloc|apply Kd.R_drewN|apply Kd.R_drew));exact HO_5.out) hb);have n1_:=Za (Kd.R_below (by(with_reducible repeat(first|apply Kd.R_alloc|apply Kd.R_drewN|apply Kd.R_drew));exact HO_117004001.out) hb);have n2_:=Za (Zy (g:=gb117001) (o:=.cells #[.int .i64 a0_0,.slice (some ad117004) l0_1.length c0_1] 25 (0,0)) (by(with_reducible repeat(first|refine Zn ?_ _|refine Zs ?_|refine Zo ?_ _));exact BK117001.out) hb);have n3_:=Za (Zy (g:=gb117002) (o:=.cells #[.int .i64 0,.slice none 0 0] 95 (0,0)) (by(with_reducible repeat(first|refine Zn ?_ _|refine Zs ?_|refine Zo ?_ _));exact BK117002.out) hb);have n4_:=Za (Zy (g:=gb117003) (o:=.cells #[.int .i64 a0_0,u117004001] 95 (0,0)) (by(with_reducible repeat(first|refine Zn ?_ _|refine Zs ?_|refine Zo ?_ _));exact BK117003.out) hb);have n5_:=Za (Zx (by repeat(first|(with_reducible first|exact HB.out|apply Zp|apply Zm|apply Zr|refine Zq ?_ GE117001.out|refine Zq ?_ GE117002.out|refine Zq ?_ GE117003.out)|exact HB.out)) hb);have n6_:=Za (hbox);have n7_:=Za ((by rw[hg];exact(Zw (by repeat(first|(with_reducible first|exact HB.out|apply Zp|apply Zm|apply Zr|refine Zq ?_ GE117001.out|refine Zq ?_ GE117002.out|refine Zq ?_ GE117003.out)|exact HB.out))):w.heap.size≤gb117005));have n8_:=Za ((by rw[hg];exact(Zw (by repeat(first|(with_reducible first|exact HB.out|apply Zp|apply Zm|apply Zr|refine Zq ?_ GE117001.out|refine Zq ?_ GE117002.out|refine Zq ?_ GE117003.out)|exact HB.out))):w.heap.size≤gb117005));have n9_:=Za ((by rw[hg];exact Nat.ne_of_lt (ZC (g:=gb117001) (o:=.cells #[.int .i64 a0_0,.slice (some ad117004) l0_1.length c0_1] 25 (0,0)) (by(with_reducible repeat(first|refine Zn ?_ _|refine Zs ?_|refine Zo ?_ _));exact BK117001.out)):gb117001≠gb117005));have n10_:=Za ((by rw[hg];exact Nat.ne_of_gt (ZC (g:=gb117001) (o:=.cells #[.int .i64 a0_0,.slice (some ad117004) l0_1.length c0_1] 25 (0,0)) (by(with_reducible repeat(first|refine Zn ?_ _|refine Zs ?_|refine Zo ?_ _));exact BK117001.out)):gb117005≠gb117001));have n11_:=Za ((by rw[hg];exact Nat.ne_of_lt (ZC (g:=gb117002) (o:=.cells #[.int .i64 0,.slice none 0 0] 95 (0,0)) (by(with_reducible repeat(first|refine Zn ?_ _|refine Zs ?_|refine Zo ?_ _));exact BK117002.out)):gb117002≠gb117005));have n12_:=Za ((by rw[hg];exact Nat.ne_of_gt (ZC (g:=gb117002) (o:=.cells #[.int .i64 0,.slice none 0 0] 95 (0,0)) (by(with_reducible repeat(first|refine Zn ?_ _|refine Zs ?_|refine Zo ?_ _));exact BK117002.out)):gb117005≠gb117002));have n13_:=Za ((by rw[hg];exact Nat.ne_of_lt (ZC (g:=gb117003) (o:=.cells #[.int .i64 a0_0,u117004001] 95 (0,0)) (by(with_reducible repeat(first|refine Zn ?_ _|refine Zs ?_|refine Zo ?_ _));exact BK117003.out)):gb117003≠gb117005));have n14_:=Za ((by rw[hg];exact Nat.ne_of_gt (ZC (g:=gb117003) (o:=.cells #[.int .i64 a0_0,u117004001] 95 (0,0)) (by(with_reducible repeat(first|refine Zn ?_ _|refine Zs ?_|refine Zo ?_ _));exact BK117003.out)):gb117005≠gb117003));clear HO_5;clear HO_117004001;clear BK117001;clear BK117002;clear BK117003;clear HB;have HO_5:=n0_;have HO_117004001:=n1_;have BK117001:=n2_;have BK117002:=n3_;have BK117003:=n4_;have HB:=n5_;have BK117005:=n6_;have GW117005:=n7_;have GE117005:=n8_;have NB117001_117005:=n9_;have NB117005_117001:=n10_;have NB117002_117005:=n11_;have NB117005_117002:=n12_;have NB117003_117005:=n13_;have NB117005_117003:=n14_;clear n0_ n1_ n2_ n3_ n4_ n5_ n6_ n7_ n8_ n9_ n10_ n11_ n12_ n13_ n14_;clear hb hbox hg;have hnb39:=NB117005_117001.out;have hnc39:=NB117001_117005.out;have hnb40:=NB117005_117002.out;have hnc40:=NB117002_117005.out;have hnb41:=NB117005_117003.out;have hnc41:=NB117003_117005.out;have hcz42_0:w38.cell? ⟨gb117005,0,none⟩=some (.int .i64 0):=(Zv BK117005.out 0).trans rfl;have hcz42_1:w38.cell? ⟨gb117005,1,none⟩=some (.int .i64 0):=(Zv BK117005.out 1).trans rfl;have hcz42_2:w38.cell? ⟨gb117005,2,none⟩=some (.int .i64 0):=(Zv BK117005.out 2).trans rfl;have hcz42_3:w38.cell? ⟨gb117005,3,none⟩=some (.int .i64 0):=(Zv BK117005.out 3).trans rfl;have hfz42_0:=Zu BK117005.out 0;have hfz42_1:=Zu BK117005.out 1;have hfz42_2:=Zu BK117005.out 2;have hfz42_3:=Zu BK117005.out 3;have hnb43:=NB117003_117001.out;have hnc43:=NB117001_117003.out;have hnb44:=NB117003_117002.out;have hnc44:=NB117002_117003.out;have hcz45_0:w38.cell? ⟨gb117003,0,none⟩=some (.int .i64 a0_0):=(Zv BK117003.out 0).trans rfl;have hcz45_1:w38.cell? ⟨gb117003,1,none⟩=some (u117004001):=(Zv BK117003.out 1).trans rfl;have hfz45_0:=Zu BK117003.out 0;have hfz45_1:=Zu BK117003.out 1)|((with_reducible refine Z1 (b:=.append) (xs:=#[.tmp 24,.tmp 33]) rfl ?_);at_builtin;refine Kd.R_append k148 (w0:=w) w.heap.size rfl (.tmp 24) (.tmp 33) 93 148 (.agg #[(.int .i64 0),(.int .i64 0),(.int .i64 0)]) 24 rfl Try.underlying93 Zbl rfl (by decide) (by omega) u117004001 x117004001_1 (⟨(Zt l0_1 x14_1).f0,(Zt l0_1 x14_1).f1,(Zt l0_1 x14_1).f2.f1⟩:S148) [.int .i64 ((Zt l0_1 x14_1).f0),.int .i64 ((Zt l0_1 x14_1).f1),.int .i64 ((Zt l0_1 x14_1).f2.f1)] (fun _=>True) (fun _=>False) rfl (by first|(go_simp;done)|(go_simp;rfl)) ?aP (fun _ hk=>hk.elim) ?aF ?aO ?aB ?aS ?aL ?_;(case aP=>exact Zbd _ _ _ (⟨(Zt l0_1 x14_1).f0,(Zt l0_1 x14_1).f1,(Zt l0_1 x14_1).f2.f1⟩:S148));(case aB=>exact(by repeat(first|(with_reducible first|exact HB.out|apply Zp|apply Zm|apply Zr|refine Zq ?_ GE117001.out|refine Zq ?_ GE117002.out|refine Zq ?_ GE117003.out|refine Zq ?_ GE117005.out)|exact HB.out)));(case aF=>exact(fun _ _=>trivial));(case aO=>exact(by(with_reducible repeat(first|apply Kd.R_alloc|apply Kd.R_drewN|apply Kd.R_drew));exact Kd.R_mono (Kd.R_far (p:=⟨gb117005,3,none⟩) (Kd.R_far (p:=⟨gb117005,2,none⟩) (Kd.R_far (p:=⟨gb117005,1,none⟩) (Kd.R_far (p:=⟨gb117005,0,none⟩) (Kd.R_types HO_117004001.out BK117005.out (by decide)) (fun _ hk=>hk.2) (.int .i64 ((Zt l0_1 x14_1).f0))) (fun _ hk=>hk.2) (.int .i64 ((Zt l0_1 x14_1).f1))) (fun _ hk=>hk.2) (.int .i64 ((Zt l0_1 x14_1).f2.f0))) (fun _ hk=>hk.2) (.int .i64 ((Zt l0_1 x14_1).f2.f1))) (fun _ hk=>trivial)));(case aS=>exact(Zw (by repeat(first|(with_reducible first|exact HB.out|apply Zp|apply Zm|apply Zr|refine Zq ?_ GE117001.out|refine Zq ?_ GE117002.out|refine Zq ?_ GE117003.out|refine Zq ?_ GE117005.out)|exact HB.out))));(case aL=>have:=LMc35.out;omega);intro v117013 w46 ho hb hg hat;rw[← Ny117012.out] at ho;have n0_:=Za (Kd.R_over' (by(with_reducible repeat(first|apply Kd.R_alloc|apply Kd.R_drewN|apply Kd.R_drew));exact(Kd.R_mono (Kd.R_far (p:=⟨gb117005,3,none⟩) (Kd.R_far (p:=⟨gb117005,2,none⟩) (Kd.R_far (p:=⟨gb117005,1,none⟩) (Kd.R_far (p:=⟨gb117005,0,none⟩) (Kd.R_types HO_5.out BK117005.out (by decide)) (fun _ hk=>hk.2) (.int .i64 ((Zt l0_1 x14_1).f0))) (fun _ hk=>hk.2) (.int .i64 ((Zt l0_1 x14_1).f1))) (fun _ hk=>hk.2) (.int .i64 ((Zt l0_1 x14_1).f2.f0))) (fun _ hk=>hk.2) (.int .i64 ((Zt l0_1 x14_1).f2.f1))) (fun _ h_=>h_.1))) (Kd.R_typed (by(with_reducible repeat(first|apply Kd.R_alloc|apply Kd.R_drewN|apply Kd.R_drew));exact(Kd.R_mono (Kd.R_far (p:=⟨gb117005,3,none⟩) (Kd.R_far (p:=⟨gb117005,2,none⟩) (Kd.R_far (p:=⟨gb117005,1,none⟩) (Kd.R_far (p:=⟨gb117005,0,none⟩) (Kd.R_types HO_117004001.out BK117005.out (by decide)) (fun _ hk=>hk.2) (.int .i64 ((Zt l0_1 x14_1).f0))) (fun _ hk=>hk.2) (.int .i64 ((Zt l0_1 x14_1).f1))) (fun _ hk=>hk.2) (.int .i64 ((Zt l0_1 x14_1).f2.f0))) (fun _ hk=>hk.2) (.int .i64 ((Zt l0_1 x14_1).f2.f1))) (fun _ h_=>h_.1)))) (by decide) hg);have n1_:=Za (ZK (g:=gb117001) (o:=.cells #[.int .i64 a0_0,.slice (some ad117004) l0_1.length c0_1] 25 (0,0)) (by(with_reducible repeat(first|refine Zn ?_ _|refine Zs ?_|refine Zo ?_ _));refine ZB ?_ NB117001_117005.out _;(with_reducible repeat(first|refine Zn ?_ _|refine Zs ?_|refine Zo ?_ _));refine ZB ?_ NB117001_117005.out _;(with_reducible repeat(first|refine Zn ?_ _|refine Zs ?_|refine Zo ?_ _));refine ZB ?_ NB117001_117005.out _;(with_reducible repeat(first|refine Zn ?_ _|refine Zs ?_|refine Zo ?_ _));refine ZB ?_ NB117001_117005.out _;(with_reducible repeat(first|refine Zn ?_ _|refine Zs ?_|refine Zo ?_ _));exact BK117001.out) hg (Kd.R_ne HO_117004001.out BK117001.out (by decide)));have n2_:=Za (ZK (g:=gb117002) (o:=.cells #[.int .i64 0,.slice none 0 0] 95 (0,0)) (by(with_reducible repeat(first|refine Zn ?_ _|refine Zs ?_|refine Zo ?_ _));refine ZB ?_ NB117002_117005.out _;(with_reducible repeat(first|refine Zn ?_ _|refine Zs ?_|refine Zo ?_ _));refine ZB ?_ NB117002_117005.out _;(with_reducible repeat(first|refine Zn ?_ _|refine Zs ?_|refine Zo ?_ _));refine ZB ?_ NB117002_117005.out _;(with_reducible repeat(first|refine Zn ?_ _|refine Zs ?_|refine Zo ?_ _));refine ZB ?_ NB117002_117005.out _;(with_reducible repeat(first|refine Zn ?_ _|refine Zs ?_|refine Zo ?_ _));exact BK117002.out) hg (Kd.R_ne HO_117004001.out BK117002.out (by decide)));have n3_:=Za (ZK (g:=gb117003) (o:=.cells #[.int .i64 a0_0,u117004001] 95 (0,0)) (by(with_reducible repeat(first|refine Zn ?_ _|refine Zs ?_|refine Zo ?_ _));refine ZB ?_ NB117003_117005.out _;(with_reducible repeat(first|refine Zn ?_ _|refine Zs ?_|refine Zo ?_ _));refine ZB ?_ NB117003_117005.out _;(with_reducible repeat(first|refine Zn ?_ _|refine Zs ?_|refine Zo ?_ _));refine ZB ?_ NB117003_117005.out _;(with_reducible repeat(first|refine Zn ?_ _|refine Zs ?_|refine Zo ?_ _));refine ZB ?_ NB117003_117005.out _;(with_reducible repeat(first|refine Zn ?_ _|refine Zs ?_|refine Zo ?_ _));exact BK117003.out) hg (Kd.R_ne HO_117004001.out BK117003.out (by decide)));have n4_:=Za (ZK (g:=gb117005) (o:=.cells #[.int .i64 ((Zt l0_1 x14_1).f0),.int .i64 ((Zt l0_1 x14_1).f1),.int .i64 ((Zt l0_1 x14_1).f2.f0),.int .i64 ((Zt l0_1 x14_1).f2.f1)] 101 (0,0)) (by(with_reducible repeat(first|refine Zn ?_ _|refine Zs ?_|refine Zo ?_ _));refine ZH (cs:=#[.int .i64 ((Zt l0_1 x14_1).f0),.int .i64 ((Zt l0_1 x14_1).f1),.int .i64 ((Zt l0_1 x14_1).f2.f0),.int .i64 0]) ?_ 3 _ rfl;(with_reducible repeat(first|refine Zn ?_ _|refine Zs ?_|refine Zo ?_ _));refine ZH (cs:=#[.int .i64 ((Zt l0_1 x14_1).f0),.int .i64 ((Zt l0_1 x14_1).f1),.int .i64 0,.int .i64 0]) ?_ 2 _ rfl;(with_reducible repeat(first|refine Zn ?_ _|refine Zs ?_|refine Zo ?_ _));refine ZH (cs:=#[.int .i64 ((Zt l0_1 x14_1).f0),.int .i64 0,.int .i64 0,.int .i64 0]) ?_ 1 _ rfl;(with_reducible repeat(first|refine Zn ?_ _|refine Zs ?_|refine Zo ?_ _));refine ZH (cs:=#[.int .i64 0,.int .i64 0,.int .i64 0,.int .i64 0]) ?_ 0 _ rfl;(with_reducible repeat(first|refine Zn ?_ _|refine Zs ?_|refine Zo ?_ _));exact BK117005.out) hg (Kd.R_ne HO_117004001.out BK117005.out (by decide)));have n5_:=Za (hb);have n6_:=Za (ho);clear HO_5;clear BK117001;clear BK117002;clear BK117003;clear BK117005;clear HB;clear HO_117004001;have HO_5:=n0_;have BK117001:=n1_;have BK117002:=n2_;have BK117003:=n3_;have BK117005:=n4_;have HB:=n5_;have HO117014:=n6_;clear n0_ n1_ n2_ n3_ n4_ n5_ n6_;clear ho hb hg hat)|((with_reducible refine Z1 (b:=.append) (xs:=#[.tmp 35,.tmp 37]) rfl ?_);at_builtin;refine Kd.R_append (Kd.int .i64) (w0:=w) w.heap.size rfl (.tmp 35) (.tmp 37) 33 3 (.int .i64 0) 8 rfl Try.underlying33 ZaQ rfl (by decide) (by omega) u5 x5_1 x14_1 [.int .i64 x14_1] (fun _=>True) (fun _=>False) rfl rfl ?aP (fun _ hk=>hk.elim) ?aF ?aO ?aB ?aS ?aL ?_;(case aP=>exact rfl);(case aB=>exact(by repeat(first|(with_reducible first|exact HB.out|apply Zp|apply Zm|apply Zr|refine Zq ?_ GE117001.out|refine Zq ?_ GE117002.out|refine Zq ?_ GE117003.out|refine Zq ?_ GE117005.out)|exact HB.out)));(case aF=>exact(fun _ _=>trivial));(case aO=>exact(by(with_reducible repeat(first|apply Kd.R_alloc|apply Kd.R_drewN|apply Kd.R_drew));exact HO_5.out));(case aS=>exact(Zw (by repeat(first|(with_reducible first|exact HB.out|apply Zp|apply Zm|apply Zr|refine Zq ?_ GE117001.out|refine Zq ?_ GE117002.out|refine Zq ?_ GE117003.out|refine Zq ?_ GE117005.out)|exact HB.out))));(case aL=>have:=LMc36.out;omega);intro v117016 w47 ho hb hg hat;rw[← Ny117015.out] at ho;have n0_:=Za (ZK (g:=gb117001) (o:=.cells #[.int .i64 a0_0,.slice (some ad117004) l0_1.length c0_1] 25 (0,0)) (by(with_reducible repeat(first|refine Zn ?_ _|refine Zs ?_|refine Zo ?_ _));exact BK117001.out) hg (Kd.R_ne HO_5.out BK117001.out (by decide)));have n1_:=Za (ZK (g:=gb117002) (o:=.cells #[.int .i64 0,.slice none 0 0] 95 (0,0)) (by(with_reducible repeat(first|refine Zn ?_ _|refine Zs ?_|refine Zo ?_ _));exact BK117002.out) hg (Kd.R_ne HO_5.out BK117002.out (by decide)));have n2_:=Za (ZK (g:=gb117003) (o:=.cells #[.int .i64 a0_0,u117004001] 95 (0,0)) (by(with_reducible repeat(first|refine Zn ?_ _|refine Zs ?_|refine Zo ?_ _));exact BK117003.out) hg (Kd.R_ne HO_5.out BK117003.out (by decide)));have n3_:=Za (ZK (g:=gb117005) (o:=.cells #[.int .i64 ((Zt l0_1 x14_1).f0),.int .i64 ((Zt l0_1 x14_1).f1),.int .i64 ((Zt l0_1 x14_1).f2.f0),.int .i64 ((Zt l0_1 x14_1).f2.f1)] 101 (0,0)) (by(with_reducible repeat(first|refine Zn ?_ _|refine Zs ?_|refine Zo ?_ _));exact BK117005.out) hg (Kd.R_ne HO_5.out BK117005.out (by decide)));have n4_:=Za (Kd.R_over' (by(with_reducible repeat(first|apply Kd.R_alloc|apply Kd.R_drewN|apply Kd.R_drew));exact HO117014.out) (Kd.R_typed (by(with_reducible repeat(first|apply Kd.R_alloc|apply Kd.R_drewN|apply Kd.R_drew));exact HO_5.out)) (by decide) hg);have n5_:=Za (hb);have n6_:=Za (ho);clear BK117001;clear BK117002;clear BK117003;clear BK117005;clear HO117014;clear HB;clear HO_5;have BK117001:=n0_;have BK117002:=n1_;have BK117003:=n2_;have BK117005:=n3_;have HO117014:=n4_;have HB:=n5_;have HO117017:=n6_;clear n0_ n1_ n2_ n3_ n4_ n5_ n6_;clear ho hb hg hat;obtain⟨Ao48,co48,eo48⟩:=Kd.R_slice HO117014.out;subst eo48;have hcz49_0:w47.cell? ⟨gb117003,0,none⟩=some (.int .i64 a0_0):=(Zv BK117003.out 0).trans rfl;have hcz49_1:w47.cell? ⟨gb117003,1,none⟩=some (u117004001):=(Zv BK117003.out 1).trans rfl;have hfz49_0:=Zu BK117003.out 0;have hfz49_1:=Zu BK117003.out 1;have hcz50_0:w47.cell? ⟨gb117005,0,none⟩=some (.int .i64 ((Zt l0_1 x14_1).f0)):=(Zv BK117005.out 0).trans rfl;have hcz50_1:w47.cell? ⟨gb117005,1,none⟩=some (.int .i64 ((Zt l0_1 x14_1).f1)):=(Zv BK117005.out 1).trans rfl;have hcz50_2:w47.cell? ⟨gb117005,2,none⟩=some (.int .i64 ((Zt l0_1 x14_1).f2.f0)):=(Zv BK117005.out 2).trans rfl;have hcz50_3:w47.cell? ⟨gb117005,3,none⟩=some (.int .i64 ((Zt l0_1 x14_1).f2.f1)):=(Zv BK117005.out 3).trans rfl;have hfz50_0:=Zu BK117005.out 0;have hfz50_1:=Zu BK117005.out 1;have hfz50_2:=Zu BK117005.out 2;have hfz50_3:=Zu BK117005.out 3))
          go_roundg k1
          case measure=>have:=HK1.out;omega
          case rel=>exact⟨(y117015),(wrap64 (x14_1+1)),(y117012),(.slice Ao48 y117012.length co48),(by first|rfl|(simp;done)|(simp[*];done)),H',⟨by have:=HK1.out;omega⟩,⟨by(with_reducible repeat(first|apply Kd.R_alloc|apply Kd.R_drewN|apply Kd.R_drew));exact Kd.R_mono (Kd.R_far (p:=⟨gb117003,1,none⟩) (Kd.R_types HO117017.out BK117003.out (by decide)) (fun _ hk=>hk.2) (.slice Ao48 y117012.length co48)) (fun _ hk=>trivial)⟩,⟨by(with_reducible repeat(first|apply Kd.R_alloc|apply Kd.R_drewN|apply Kd.R_drew));exact Kd.R_mono (Kd.R_far (p:=⟨gb117003,1,none⟩) (Kd.R_types HO117014.out BK117003.out (by decide)) (fun _ hk=>hk.2) (.slice Ao48 y117012.length co48)) (fun _ hk=>trivial)⟩,⟨by(with_reducible repeat(first|refine Zn ?_ _|refine Zs ?_|refine Zo ?_ _));refine ZB ?_ NB117001_117003.out _;(with_reducible repeat(first|refine Zn ?_ _|refine Zs ?_|refine Zo ?_ _));exact BK117001.out⟩,⟨by(with_reducible repeat(first|refine Zn ?_ _|refine Zs ?_|refine Zo ?_ _));refine ZB ?_ NB117002_117003.out _;(with_reducible repeat(first|refine Zn ?_ _|refine Zs ?_|refine Zo ?_ _));exact BK117002.out⟩,⟨by(with_reducible repeat(first|refine Zn ?_ _|refine Zs ?_|refine Zo ?_ _));refine ZH (cs:=#[.int .i64 a0_0,u117004001]) ?_ 1 _ rfl;(with_reducible repeat(first|refine Zn ?_ _|refine Zs ?_|refine Zo ?_ _));exact BK117003.out⟩,⟨by repeat(first|(with_reducible first|exact HB.out|apply Zp|apply Zm|apply Zr|refine Zq ?_ GE117001.out|refine Zq ?_ GE117002.out|refine Zq ?_ GE117003.out|refine Zq ?_ GE117005.out)|exact HB.out)⟩⟩
         ·rw[if_neg c37] at H
          have c37b0:(((Zt l0_1 x14_1).f2.f0) == (-1000000))=false:=beq_eq_false_iff_ne.mpr c37
          have c37b1:(((Zt l0_1 x14_1).f2.f0) != (-1000000))=true:=bne_iff_ne.mpr c37
          by_cases c51:y117012.length<5864062014805
          ·rw[if_pos c51] at H
           have LMc51:=Za c51;clear c51
           obtain⟨y117018,hy117018⟩:∃y_:List (S148),y_=(y117012 ++ [(⟨(Zt l0_1 x14_1).f1,(Zt l0_1 x14_1).f0,wrap64 (-((Zt l0_1 x14_1).f2.f0))⟩:S148)]):=⟨_,rfl⟩
           replace H:(if y117015.length<17592186044416 then(ZS.l0 k1 (y117015 ++ [x14_1]) l0_1 (l0_1.length:Int) (wrap64 (x14_1+1)) a0_0 y117018) else(none))=some (r1,r2,r3):=by first|(rw[hy117018];with_reducible exact H)|(have H2_:=(Zi _ _).symm.trans H;rw[hy117018];with_reducible exact H2_)|(have H2_:=(Zi _ _).symm.trans H;with_reducible exact H2_)|with_reducible exact H|(rw[hy117018];exact H)|exact H
           have Ny117018:=Za hy117018;clear hy117018
           by_cases c52:y117015.length<17592186044416
           ·rw[if_pos c52] at H
            have LMc52:=Za c52;clear c52
            obtain⟨y117021,hy117021⟩:∃y_:List Int,y_=(y117015 ++ [x14_1]):=⟨_,rfl⟩
            replace H:(ZS.l0 k1 y117021 l0_1 (l0_1.length:Int) (wrap64 (x14_1+1)) a0_0 y117018)=some (r1,r2,r3):=by first|(rw[hy117021];with_reducible exact H)|(have H2_:=(Zi _ _).symm.trans H;rw[hy117021];with_reducible exact H2_)|(have H2_:=(Zi _ _).symm.trans H;with_reducible exact H2_)|with_reducible exact H|(rw[hy117021];exact H)|exact H
            have Ny117021:=Za hy117021;clear hy117021
            have H':=Za H
            clear H
            have p117004:0≤(x14_1:Int):=Zd (by first|(with_reducible assumption)|assumption)
            have q117004:x14_1<(l0_1.length:Int):=Zd (by first|(with_reducible assumption)|assumption)
            obtain⟨ad117004,e117004,hx117004_0,hx117004_1,hx117004_2,hx117004_3⟩:=ZaF HR0_1.out x14_1 p117004 q117004
            cases e117004
            replace hx117004_0:=(HB.out.cell (Zc w _ hx117004_0)).trans hx117004_0
            replace hx117004_1:=(HB.out.cell (Zc w _ hx117004_1)).trans hx117004_1
            replace hx117004_2:=(HB.out.cell (Zc w _ hx117004_2)).trans hx117004_2
            replace hx117004_3:=(HB.out.cell (Zc w _ hx117004_3)).trans hx117004_3
            replace p117004:=eq_true p117004
            replace q117004:=eq_true q117004
            go_wp2_with (first|((with_reducible refine ZD (N:=7) rfl ?_);refine ZE ?hg (N:=7) ?hd (cs:=#[.int .i64 0,.int .i64 0,.int .i64 0,.int .i64 0]) (t:=101) ?hr ?_;(case hd=>rfl);(case hg=>rfl);(case hr=>first|(go_simp;done)|(go_simp;rfl));intro gb117005 hg w53 hbox hb;have n0_:=Za (Kd.R_below (by(with_reducible repeat(first|apply Kd.R_alloc|apply Kd.R_drewN|apply Kd.R_drew));exact HO_5.out) hb);have n1_:=Za (Kd.R_below (by(with_reducible repeat(first|apply Kd.R_alloc|apply Kd.R_drewN|apply Kd.R_drew));exact HO_117004001.out) hb);have n2_:=Za (Zy (g:=gb117001) (o:=.cells #[.int .i64 a0_0,.slice (some ad117004) l0_1.length c0_1] 25 (0,0)) (by(with_reducible repeat(first|refine Zn ?_ _|refine Zs ?_|refine Zo ?_ _));exact BK117001.out) hb);have n3_:=Za (Zy (g:=gb117002) (o:=.cells #[.int .i64 0,.slice none 0 0] 95 (0,0)) (by(with_reducible repeat(first|refine Zn ?_ _|refine Zs ?_|refine Zo ?_ _));exact BK117002.out) hb);have n4_:=Za (Zy (g:=gb117003) (o:=.cells #[.int .i64 a0_0,u117004001] 95 (0,0)) (by(with_reducible repeat(first|refine Zn ?_ _|refine Zs ?_|refine Zo ?_ _));exact BK117003.out) hb);have n5_:=Za (Zx (by repeat(first|(with_reducible first|exact HB.out|apply Zp|apply Zm|apply Zr|refine Zq ?_ GE117001.out|refine Zq ?_ GE117002.out|refine Zq ?_ GE117003.out)|exact HB.out)) hb);have n6_:=Za (hbox);have n7_:=Za ((by rw[hg];exact(Zw (by repeat(first|(with_reducible first|exact HB.out|apply Zp|apply Zm|apply Zr|refine Zq ?_ GE117001.out|refine Zq ?_ GE117002.out|refine Zq ?_ GE117003.out)|exact HB.out))):w.heap.size≤gb117005));have n8_:=Za ((by rw[hg];exact(Zw (by repeat(first|(with_reducible first|exact HB.out|apply Zp|apply Zm|apply Zr|refine Zq ?_ GE117001.out|refine Zq ?_ GE117002.out|refine Zq ?_ GE117003.out)|exact HB.out))):w.heap.size≤gb117005));have n9_:=Za ((by rw[hg];exact Nat.ne_of_lt (ZC (g:=gb117001) (o:=.cells #[.int .i64 a0_0,.slice (some ad117004) l0_1.length c0_1] 25 (0,0)) (by(with_reducible repeat(first|refine Zn ?_ _|refine Zs ?_|refine Zo ?_ _));exact BK117001.out)):gb117001≠gb117005));have n10_:=Za ((by rw[hg];exact Nat.ne_of_gt (ZC (g:=gb117001) (o:=.cells #[.int .i64 a0_0,.slice (some ad117004) l0_1.length c0_1] 25 (0,0)) (by(with_reducible repeat(first|refine Zn ?_ _|refine Zs ?_|refine Zo ?_ _));exact BK117001.out)):gb117005≠gb117001));have n11_:=Za ((by rw[hg];exact Nat.ne_of_lt (ZC (g:=gb117002) (o:=.cells #[.int .i64 0,.slice none 0 0] 95 (0,0)) (by(with_reducible repeat(first|refine Zn ?_ _|refine Zs ?_|refine Zo ?_ _));exact BK117002.out)):gb117002≠gb117005));have n12_:=Za ((by rw[hg];exact Nat.ne_of_gt (ZC (g:=gb117002) (o:=.cells #[.int .i64 0,.slice none 0 0] 95 (0,0)) (by(with_reducible repeat(first|refine Zn ?_ _|refine Zs ?_|refine Zo ?_ _));exact BK117002.out)):gb117005≠gb117002));have n13_:=Za ((by rw[hg];exact Nat.ne_of_lt (ZC (g:=gb117003) (o:=.cells #[.int .i64 a0_0,u117004001] 95 (0,0)) (by(with_reducible repeat(first|refine Zn ?_ _|refine Zs ?_|refine Zo ?_ _));exact BK117003.out)):gb117003≠gb117005));have n14_:=Za ((by rw[hg];exact Nat.ne_of_gt (ZC (g:=gb117003) (o:=.cells #[.int .i64 a0_0,u117004001] 95 (0,0)) (by(with_reducible repeat(first|refine Zn ?_ _|refine Zs ?_|refine Zo ?_ _));exact BK117003.out)):gb117005≠gb117003));clear HO_5;clear HO_117004001;clear BK117001;clear BK117002;clear BK117003;clear HB;have HO_5:=n0_;have HO_117004001:=n1_;have BK117001:=n2_;have BK117002:=n3_;have BK117003:=n4_;have HB:=n5_;have BK117005:=n6_;have GW117005:=n7_;have GE117005:=n8_;have NB117001_117005:=n9_;have NB117005_117001:=n10_;have NB117002_117005:=n11_;have NB117005_117002:=n12_;have NB117003_117005:=n13_;have NB117005_117003:=n14_;clear n0_ n1_ n2_ n3_ n4_ n5_ n6_ n7_ n8_ n9_ n10_ n11_ n12_ n13_ n14_;clear hb hbox hg;have hnb54:=NB117005_117001.out;have hnc54:=NB117001_117005.out;have hnb55:=NB117005_117002.out;have hnc55:=NB117002_117005.out;have hnb56:=NB117005_117003.out;have hnc56:=NB117003_117005.out;have hcz57_0:w53.cell? ⟨gb117005,0,none⟩=some (.int .i64 0):=(Zv BK117005.out 0).trans rfl;have hcz57_1:w53.cell? ⟨gb117005,1,none⟩=some (.int .i64 0):=(Zv BK117005.out 1).trans rfl;have hcz57_2:w53.cell? ⟨gb117005,2,none⟩=some (.int .i64 0):=(Zv BK117005.out 2).trans rfl;have hcz57_3:w53.cell? ⟨gb117005,3,none⟩=some (.int .i64 0):=(Zv BK117005.out 3).trans rfl;have hfz57_0:=Zu BK117005.out 0;have hfz57_1:=Zu BK117005.out 1;have hfz57_2:=Zu BK117005.out 2;have hfz57_3:=Zu BK117005.out 3;have hnb58:=NB117003_117001.out;have hnc58:=NB117001_117003.out;have hnb59:=NB117003_117002.out;have hnc59:=NB117002_117003.out;have hcz60_0:w53.cell? ⟨gb117003,0,none⟩=some (.int .i64 a0_0):=(Zv BK117003.out 0).trans rfl;have hcz60_1:w53.cell? ⟨gb117003,1,none⟩=some (u117004001):=(Zv BK117003.out 1).trans rfl;have hfz60_0:=Zu BK117003.out 0;have hfz60_1:=Zu BK117003.out 1)|((with_reducible refine Z1 (b:=.append) (xs:=#[.tmp 24,.tmp 33]) rfl ?_);at_builtin;refine Kd.R_append k148 (w0:=w) w.heap.size rfl (.tmp 24) (.tmp 33) 93 148 (.agg #[(.int .i64 0),(.int .i64 0),(.int .i64 0)]) 24 rfl Try.underlying93 Zbl rfl (by decide) (by omega) u117004001 x117004001_1 (⟨(Zt l0_1 x14_1).f0,(Zt l0_1 x14_1).f1,(Zt l0_1 x14_1).f2.f1⟩:S148) [.int .i64 ((Zt l0_1 x14_1).f0),.int .i64 ((Zt l0_1 x14_1).f1),.int .i64 ((Zt l0_1 x14_1).f2.f1)] (fun _=>True) (fun _=>False) rfl (by first|(go_simp;done)|(go_simp;rfl)) ?aP (fun _ hk=>hk.elim) ?aF ?aO ?aB ?aS ?aL ?_;(case aP=>exact Zbd _ _ _ (⟨(Zt l0_1 x14_1).f0,(Zt l0_1 x14_1).f1,(Zt l0_1 x14_1).f2.f1⟩:S148));(case aB=>exact(by repeat(first|(with_reducible first|exact HB.out|apply Zp|apply Zm|apply Zr|refine Zq ?_ GE117001.out|refine Zq ?_ GE117002.out|refine Zq ?_ GE117003.out|refine Zq ?_ GE117005.out)|exact HB.out)));(case aF=>exact(fun _ _=>trivial));(case aO=>exact(by(with_reducible repeat(first|apply Kd.R_alloc|apply Kd.R_drewN|apply Kd.R_drew));exact Kd.R_mono (Kd.R_far (p:=⟨gb117005,3,none⟩) (Kd.R_far (p:=⟨gb117005,2,none⟩) (Kd.R_far (p:=⟨gb117005,1,none⟩) (Kd.R_far (p:=⟨gb117005,0,none⟩) (Kd.R_types HO_117004001.out BK117005.out (by decide)) (fun _ hk=>hk.2) (.int .i64 ((Zt l0_1 x14_1).f0))) (fun _ hk=>hk.2) (.int .i64 ((Zt l0_1 x14_1).f1))) (fun _ hk=>hk.2) (.int .i64 ((Zt l0_1 x14_1).f2.f0))) (fun _ hk=>hk.2) (.int .i64 ((Zt l0_1 x14_1).f2.f1))) (fun _ hk=>trivial)));(case aS=>exact(Zw (by repeat(first|(with_reducible first|exact HB.out|apply Zp|apply Zm|apply Zr|refine Zq ?_ GE117001.out|refine Zq ?_ GE117002.out|refine Zq ?_ GE117003.out|refine Zq ?_ GE117005.out)|exact HB.out))));(case aL=>have:=LMc35.out;omega);intro v117013 w61 ho hb hg hat;rw[← Ny117012.out] at ho;have n0_:=Za (Kd.R_over' (by(with_reducible repeat(first|apply Kd.R_alloc|apply Kd.R_drewN|apply Kd.R_drew));exact(Kd.R_mono (Kd.R_far (p:=⟨gb117005,3,none⟩) (Kd.R_far (p:=⟨gb117005,2,none⟩) (Kd.R_far (p:=⟨gb117005,1,none⟩) (Kd.R_far (p:=⟨gb117005,0,none⟩) (Kd.R_types HO_5.out BK117005.out (by decide)) (fun _ hk=>hk.2) (.int .i64 ((Zt l0_1 x14_1).f0))) (fun _ hk=>hk.2) (.int .i64 ((Zt l0_1 x14_1).f1))) (fun _ hk=>hk.2) (.int .i64 ((Zt l0_1 x14_1).f2.f0))) (fun _ hk=>hk.2) (.int .i64 ((Zt l0_1 x14_1).f2.f1))) (fun _ h_=>h_.1))) (Kd.R_typed (by(with_reducible repeat(first|apply Kd.R_alloc|apply Kd.R_drewN|apply Kd.R_drew));exact(Kd.R_mono (Kd.R_far (p:=⟨gb117005,3,none⟩) (Kd.R_far (p:=⟨gb117005,2,none⟩) (Kd.R_far (p:=⟨gb117005,1,none⟩) (Kd.R_far (p:=⟨gb117005,0,none⟩) (Kd.R_types HO_117004001.out BK117005.out (by decide)) (fun _ hk=>hk.2) (.int .i64 ((Zt l0_1 x14_1).f0))) (fun _ hk=>hk.2) (.int .i64 ((Zt l0_1 x14_1).f1))) (fun _ hk=>hk.2) (.int .i64 ((Zt l0_1 x14_1).f2.f0))) (fun _ hk=>hk.2) (.int .i64 ((Zt l0_1 x14_1).f2.f1))) (fun _ h_=>h_.1)))) (by decide) hg);have n1_:=Za (ZK (g:=gb117001) (o:=.cells #[.int .i64 a0_0,.slice (some ad117004) l0_1.length c0_1] 25 (0,0)) (by(with_reducible repeat(first|refine Zn ?_ _|refine Zs ?_|refine Zo ?_ _));refine ZB ?_ NB117001_117005.out _;(with_reducible repeat(first|refine Zn ?_ _|refine Zs ?_|refine Zo ?_ _));refine ZB ?_ NB117001_117005.out _;(with_reducible repeat(first|refine Zn ?_ _|refine Zs ?_|refine Zo ?_ _));refine ZB ?_ NB117001_117005.out _;(with_reducible repeat(first|refine Zn ?_ _|refine Zs ?_|refine Zo ?_ _));refine ZB ?_ NB117001_117005.out _;(with_reducible repeat(first|refine Zn ?_ _|refine Zs ?_|refine Zo ?_ _));exact BK117001.out) hg (Kd.R_ne HO_117004001.out BK117001.out (by decide)));have n2_:=Za (ZK (g:=gb117002) (o:=.cells #[.int .i64 0,.slice none 0 0] 95 (0,0)) (by(with_reducible repeat(first|refine Zn ?_ _|refine Zs ?_|refine Zo ?_ _));refine ZB ?_ NB117002_117005.out _;(with_reducible repeat(first|refine Zn ?_ _|refine Zs ?_|refine Zo ?_ _));refine ZB ?_ NB117002_117005.out _;(with_reducible repeat(first|refine Zn ?_ _|refine Zs ?_|refine Zo ?_ _));refine ZB ?_ NB117002_117005.out _;(with_reducible repeat(first|refine Zn ?_ _|refine Zs ?_|refine Zo ?_ _));refine ZB ?_ NB117002_117005.out _;(with_reducible repeat(first|refine Zn ?_ _|refine Zs ?_|refine Zo ?_ _));exact BK117002.out) hg (Kd.R_ne HO_117004001.out BK117002.out (by decide)));have n3_:=Za (ZK (g:=gb117003) (o:=.cells #[.int .i64 a0_0,u117004001] 95 (0,0)) (by(with_reducible repeat(first|refine Zn ?_ _|refine Zs ?_|refine Zo ?_ _));refine ZB ?_ NB117003_117005.out _;(with_reducible repeat(first|refine Zn ?_ _|refine Zs ?_|refine Zo ?_ _));refine ZB ?_ NB117003_117005.out _;(with_reducible repeat(first|refine Zn ?_ _|refine Zs ?_|refine Zo ?_ _));refine ZB ?_ NB117003_117005.out _;(with_reducible repeat(first|refine Zn ?_ _|refine Zs ?_|refine Zo ?_ _));refine ZB ?_ NB117003_117005.out _;(with_reducible repeat(first|refine Zn ?_ _|refine Zs ?_|refine Zo ?_ _));exact BK117003.out) hg (Kd.R_ne HO_117004001.out BK117003.out (by decide)));have n4_:=Za (ZK (g:=gb117005) (o:=.cells #[.int .i64 ((Zt l0_1 x14_1).f0),.int .i64 ((Zt l0_1 x14_1).f1),.int .i64 ((Zt l0_1 x14_1).f2.f0),.int .i64 ((Zt l0_1 x14_1).f2.f1)] 101 (0,0)) (by(with_reducible repeat(first|refine Zn ?_ _|refine Zs ?_|refine Zo ?_ _));refine ZH (cs:=#[.int .i64 ((Zt l0_1 x14_1).f0),.int .i64 ((Zt l0_1 x14_1).f1),.int .i64 ((Zt l0_1 x14_1).f2.f0),.int .i64 0]) ?_ 3 _ rfl;(with_reducible repeat(first|refine Zn ?_ _|refine Zs ?_|refine Zo ?_ _));refine ZH (cs:=#[.int .i64 ((Zt l0_1 x14_1).f0),.int .i64 ((Zt l0_1 x14_1).f1),.int .i64 0,.int .i64 0]) ?_ 2 _ rfl;(with_reducible repeat(first|refine Zn ?_ _|refine Zs ?_|refine Zo ?_ _));refine ZH (cs:=#[.int .i64 ((Zt l0_1 x14_1).f0),.int .i64 0,.int .i64 0,.int .i64 0]) ?_ 1 _ rfl;(with_reducible repeat(first|refine Zn ?_ _|refine Zs ?_|refine Zo ?_ _));refine ZH (cs:=#[.int .i64 0,.int .i64 0,.int .i64 0,.int .i64 0]) ?_ 0 _ rfl;(with_reducible repeat(first|refine Zn ?_ _|refine Zs ?_|refine Zo ?_ _));exact BK117005.out) hg (Kd.R_ne HO_117004001.out BK117005.out (by decide)));have n5_:=Za (hb);have n6_:=Za (ho);clear HO_5;clear BK117001;clear BK117002;clear BK117003;clear BK117005;clear HB;clear HO_117004001;have HO_5:=n0_;have BK117001:=n1_;have BK117002:=n2_;have BK117003:=n3_;have BK117005:=n4_;have HB:=n5_;have HO117014:=n6_;clear n0_ n1_ n2_ n3_ n4_ n5_ n6_;clear ho hb hg hat)|((with_reducible refine Z1 (b:=.append) (xs:=#[.tmp 35,.tmp 37]) rfl ?_);at_builtin;refine Kd.R_append (Kd.int .i64) (w0:=w) w.heap.size rfl (.tmp 35) (.tmp 37) 33 3 (.int .i64 0) 8 rfl Try.underlying33 ZaQ rfl (by decide) (by omega) u5 x5_1 x14_1 [.int .i64 x14_1] (fun _=>True) (fun _=>False) rfl rfl ?aP (fun _ hk=>hk.elim) ?aF ?aO ?aB ?aS ?aL ?_;(case aP=>exact rfl);(case aB=>exact(by repeat(first|(with_reducible first|exact HB.out|apply Zp|apply Zm|apply Zr|refine Zq ?_ GE117001.out|refine Zq ?_ GE117002.out|refine Zq ?_ GE117003.out|refine Zq ?_ GE117005.out)|exact HB.out)));(case aF=>exact(fun _ _=>trivial));(case aO=>exact(by(with_reducible repeat(first|apply Kd.R_alloc|apply Kd.R_drewN|apply Kd.R_drew));exact HO_5.out));(case aS=>exact(Zw (by repeat(first|(with_reducible first|exact HB.out|apply Zp|apply Zm|apply Zr|refine Zq ?_ GE117001.out|refine Zq ?_ GE117002.out|refine Zq ?_ GE117003.out|refine Zq ?_ GE117005.out)|exact HB.out))));(case aL=>have:=LMc36.out;omega);intro v117016 w62 ho hb hg hat;rw[← Ny117015.out] at ho;have n0_:=Za (ZK (g:=gb117001) (o:=.cells #[.int .i64 a0_0,.slice (some ad117004) l0_1.length c0_1] 25 (0,0)) (by(with_reducible repeat(first|refine Zn ?_ _|refine Zs ?_|refine Zo ?_ _));exact BK117001.out) hg (Kd.R_ne HO_5.out BK117001.out (by decide)));have n1_:=Za (ZK (g:=gb117002) (o:=.cells #[.int .i64 0,.slice none 0 0] 95 (0,0)) (by(with_reducible repeat(first|refine Zn ?_ _|refine Zs ?_|refine Zo ?_ _));exact BK117002.out) hg (Kd.R_ne HO_5.out BK117002.out (by decide)));have n2_:=Za (ZK (g:=gb117003) (o:=.cells #[.int .i64 a0_0,u117004001] 95 (0,0)) (by(with_reducible repeat(first|refine Zn ?_ _|refine Zs ?_|refine Zo ?_ _));exact BK117003.out) hg (Kd.R_ne HO_5.out BK117003.out (by decide)));have n3_:=Za (ZK (g:=gb117005) (o:=.cells #[.int .i64 ((Zt l0_1 x14_1).f0),.int .i64 ((Zt l0_1 x14_1).f1),.int .i64 ((Zt l0_1 x14_1).f2.f0),.int .i64 ((Zt l0_1 x14_1).f2.f1)] 101 (0,0)) (by(with_reducible repeat(first|refine Zn ?_ _|refine Zs ?_|refine Zo ?_ _));exact BK117005.out) hg (Kd.R_ne HO_5.out BK117005.out (by decide)));have n4_:=Za (Kd.R_over' (by(with_reducible repeat(first|apply Kd.R_alloc|apply Kd.R_drewN|apply Kd.R_drew));exact HO117014.out) (Kd.R_typed (by(with_reducible repeat(first|apply Kd.R_alloc|apply Kd.R_drewN|apply Kd.R_drew));exact HO_5.out)) (by decide) hg);have n5_:=Za (hb);have n6_:=Za (ho);clear BK117001;clear BK117002;clear BK117003;clear BK117005;clear HO117014;clear HB;clear HO_5;have BK117001:=n0_;have BK117002:=n1_;have BK117003:=n2_;have BK117005:=n3_;have HO117014:=n4_;have HB:=n5_;have HO117017:=n6_;clear n0_ n1_ n2_ n3_ n4_ n5_ n6_;clear ho hb hg hat;obtain⟨Ao63,co63,eo63⟩:=Kd.R_slice HO117014.out;subst eo63;have hcz64_0:w62.cell? ⟨gb117003,0,none⟩=some (.int .i64 a0_0):=(Zv BK117003.out 0).trans rfl;have hcz64_1:w62.cell? ⟨gb117003,1,none⟩=some (u117004001):=(Zv BK117003.out 1).trans rfl;have hfz64_0:=Zu BK117003.out 0;have hfz64_1:=Zu BK117003.out 1;have hcz65_0:w62.cell? ⟨gb117005,0,none⟩=some (.int .i64 ((Zt l0_1 x14_1).f0)):=(Zv BK117005.out 0).trans rfl;have hcz65_1:w62.cell? ⟨gb117005,1,none⟩=some (.int .i64 ((Zt l0_1 x14_1).f1)):=(Zv BK117005.out 1).trans rfl;have hcz65_2:w62.cell? ⟨gb117005,2,none⟩=some (.int .i64 ((Zt l0_1 x14_1).f2.f0)):=(Zv BK117005.out 2).trans rfl;have hcz65_3:w62.cell? ⟨gb117005,3,none⟩=some (.int .i64 ((Zt l0_1 x14_1).f2.f1)):=(Zv BK117005.out 3).trans rfl;have hfz65_0:=Zu BK117005.out 0;have hfz65_1:=Zu BK117005.out 1;have hfz65_2:=Zu BK117005.out 2;have hfz65_3:=Zu BK117005.out 3)|((with_reducible refine Z1 (b:=.append) (xs:=#[.tmp 45,.tmp 55]) rfl ?_);at_builtin;refine Kd.R_append k148 (w0:=w) w.heap.size rfl (.tmp 45) (.tmp 55) 93 148 (.agg #[(.int .i64 0),(.int .i64 0),(.int .i64 0)]) 24 rfl Try.underlying93 Zbl rfl (by decide) (by omega) (.slice Ao63 y117012.length co63) y117012 (⟨(Zt l0_1 x14_1).f1,(Zt l0_1 x14_1).f0,wrap64 (-((Zt l0_1 x14_1).f2.f0))⟩:S148) [.int .i64 ((Zt l0_1 x14_1).f1),.int .i64 ((Zt l0_1 x14_1).f0),.int .i64 (wrap64 (-((Zt l0_1 x14_1).f2.f0)))] (fun _=>True) (fun _=>False) rfl (by first|(go_simp;done)|(go_simp;rfl)) ?aP (fun _ hk=>hk.elim) ?aF ?aO ?aB ?aS ?aL ?_;(case aP=>exact Zbd _ _ _ (⟨(Zt l0_1 x14_1).f1,(Zt l0_1 x14_1).f0,wrap64 (-((Zt l0_1 x14_1).f2.f0))⟩:S148));(case aB=>exact(by repeat(first|(with_reducible first|exact HB.out|apply Zp|apply Zm|apply Zr|refine Zq ?_ GE117001.out|refine Zq ?_ GE117002.out|refine Zq ?_ GE117003.out|refine Zq ?_ GE117005.out)|exact HB.out)));(case aF=>exact(fun _ _=>trivial));(case aO=>exact(by(with_reducible repeat(first|apply Kd.R_alloc|apply Kd.R_drewN|apply Kd.R_drew));exact Kd.R_mono (Kd.R_far (p:=⟨gb117003,1,none⟩) (Kd.R_types HO117014.out BK117003.out (by decide)) (fun _ hk=>hk.2) (.slice Ao63 y117012.length co63)) (fun _ hk=>trivial)));(case aS=>exact(Zw (by repeat(first|(with_reducible first|exact HB.out|apply Zp|apply Zm|apply Zr|refine Zq ?_ GE117001.out|refine Zq ?_ GE117002.out|refine Zq ?_ GE117003.out|refine Zq ?_ GE117005.out)|exact HB.out))));(case aL=>have:=LMc51.out;omega);intro v117019 w66 ho hb hg hat;rw[← Ny117018.out] at ho;have n0_:=Za (ZK (g:=gb117001) (o:=.cells #[.int .i64 a0_0,.slice (some ad117004) l0_1.length c0_1] 25 (0,0)) (by(with_reducible repeat(first|refine Zn ?_ _|refine Zs ?_|refine Zo ?_ _));refine ZB ?_ NB117001_117003.out _;(with_reducible repeat(first|refine Zn ?_ _|refine Zs ?_|refine Zo ?_ _));exact BK117001.out) hg (Kd.R_ne HO117014.out BK117001.out (by decide)));have n1_:=Za (ZK (g:=gb117002) (o:=.cells #[.int .i64 0,.slice none 0 0] 95 (0,0)) (by(with_reducible repeat(first|refine Zn ?_ _|refine Zs ?_|refine Zo ?_ _));refine ZB ?_ NB117002_117003.out _;(with_reducible repeat(first|refine Zn ?_ _|refine Zs ?_|refine Zo ?_ _));exact BK117002.out) hg (Kd.R_ne HO117014.out BK117002.out (by decide)));have n2_:=Za (ZK (g:=gb117003) (o:=.cells #[.int .i64 a0_0,.slice Ao63 y117012.length co63] 95 (0,0)) (by(with_reducible repeat(first|refine Zn ?_ _|refine Zs ?_|refine Zo ?_ _));refine ZH (cs:=#[.int .i64 a0_0,u117004001]) ?_ 1 _ rfl;(with_reducible repeat(first|refine Zn ?_ _|refine Zs ?_|refine Zo ?_ _));exact BK117003.out) hg (Kd.R_ne HO117014.out BK117003.out (by decide)));have n3_:=Za (ZK (g:=gb117005) (o:=.cells #[.int .i64 ((Zt l0_1 x14_1).f0),.int .i64 ((Zt l0_1 x14_1).f1),.int .i64 ((Zt l0_1 x14_1).f2.f0),.int .i64 ((Zt l0_1 x14_1).f2.f1)] 101 (0,0)) (by(with_reducible repeat(first|refine Zn ?_ _|refine Zs ?_|refine Zo ?_ _));refine ZB ?_ NB117005_117003.out _;(with_reducible repeat(first|refine Zn ?_ _|refine Zs ?_|refine Zo ?_ _));exact BK117005.out) hg (Kd.R_ne HO117014.out BK117005.out (by decide)));have n4_:=Za (Kd.R_over' (by(with_reducible repeat(first|apply Kd.R_alloc|apply Kd.R_drewN|apply Kd.R_drew));exact(Kd.R_mono (Kd.R_far (p:=⟨gb117003,1,none⟩) (Kd.R_types HO117017.out BK117003.out (by decide)) (fun _ hk=>hk.2) (.slice Ao63 y117012.length co63)) (fun _ h_=>h_.1))) (Kd.R_typed (by(with_reducible repeat(first|apply Kd.R_alloc|apply Kd.R_drewN|apply Kd.R_drew));exact(Kd.R_mono (Kd.R_far (p:=⟨gb117003,1,none⟩) (Kd.R_types HO117014.out BK117003.out (by decide)) (fun _ hk=>hk.2) (.slice Ao63 y117012.length co63)) (fun _ h_=>h_.1)))) (by decide) hg);have n5_:=Za (hb);have n6_:=Za (ho);clear BK117001;clear BK117002;clear BK117003;clear BK117005;clear HO117017;clear HB;clear HO117014;have BK117001:=n0_;have BK117002:=n1_;have BK117003:=n2_;have BK117005:=n3_;have HO117017:=n4_;have HB:=n5_;have HO117020:=n6_;clear n0_ n1_ n2_ n3_ n4_ n5_ n6_;clear ho hb hg hat)|((with_reducible refine Z1 (b:=.append) (xs:=#[.tmp 57,.tmp 59]) rfl ?_);at_builtin;refine Kd.R_append (Kd.int .i64) (w0:=w) w.heap.size rfl (.tmp 57) (.tmp 59) 33 3 (.int .i64 0) 8 rfl Try.underlying33 ZaQ rfl (by decide) (by omega) v117016 y117015 x14_1 [.int .i64 x14_1] (fun _=>True) (fun _=>False) rfl rfl ?aP (fun _ hk=>hk.elim) ?aF ?aO ?aB ?aS ?aL ?_;(case aP=>exact rfl);(case aB=>exact(by repeat(first|(with_reducible first|exact HB.out|apply Zp|apply Zm|apply Zr|refine Zq ?_ GE117001.out|refine Zq ?_ GE117002.out|refine Zq ?_ GE117003.out|refine Zq ?_ GE117005.out)|exact HB.out)));(case aF=>exact(fun _ _=>trivial));(case aO=>exact(by(with_reducible repeat(first|apply Kd.R_alloc|apply Kd.R_drewN|apply Kd.R_drew));exact HO117017.out));(case aS=>exact(Zw (by repeat(first|(with_reducible first|exact HB.out|apply Zp|apply Zm|apply Zr|refine Zq ?_ GE117001.out|refine Zq ?_ GE117002.out|refine Zq ?_ GE117003.out|refine Zq ?_ GE117005.out)|exact HB.out))));(case aL=>have:=LMc52.out;omega);intro v117022 w67 ho hb hg hat;rw[← Ny117021.out] at ho;have n0_:=Za (ZK (g:=gb117001) (o:=.cells #[.int .i64 a0_0,.slice (some ad117004) l0_1.length c0_1] 25 (0,0)) (by(with_reducible repeat(first|refine Zn ?_ _|refine Zs ?_|refine Zo ?_ _));exact BK117001.out) hg (Kd.R_ne HO117017.out BK117001.out (by decide)));have n1_:=Za (ZK (g:=gb117002) (o:=.cells #[.int .i64 0,.slice none 0 0] 95 (0,0)) (by(with_reducible repeat(first|refine Zn ?_ _|refine Zs ?_|refine Zo ?_ _));exact BK117002.out) hg (Kd.R_ne HO117017.out BK117002.out (by decide)));have n2_:=Za (ZK (g:=gb117003) (o:=.cells #[.int .i64 a0_0,.slice Ao63 y117012.length co63] 95 (0,0)) (by(with_reducible repeat(first|refine Zn ?_ _|refine Zs ?_|refine Zo ?_ _));exact BK117003.out) hg (Kd.R_ne HO117017.out BK117003.out (by decide)));have n3_:=Za (ZK (g:=gb117005) (o:=.cells #[.int .i64 ((Zt l0_1 x14_1).f0),.int .i64 ((Zt l0_1 x14_1).f1),.int .i64 ((Zt l0_1 x14_1).f2.f0),.int .i64 ((Zt l0_1 x14_1).f2.f1)] 101 (0,0)) (by(with_reducible repeat(first|refine Zn ?_ _|refine Zs ?_|refine Zo ?_ _));exact BK117005.out) hg (Kd.R_ne HO117017.out BK117005.out (by decide)));have n4_:=Za (Kd.R_over' (by(with_reducible repeat(first|apply Kd.R_alloc|apply Kd.R_drewN|apply Kd.R_drew));exact HO117020.out) (Kd.R_typed (by(with_reducible repeat(first|apply Kd.R_alloc|apply Kd.R_drewN|apply Kd.R_drew));exact HO117017.out)) (by decide) hg);have n5_:=Za (hb);have n6_:=Za (ho);clear BK117001;clear BK117002;clear BK117003;clear BK117005;clear HO117020;clear HB;clear HO117017;have BK117001:=n0_;have BK117002:=n1_;have BK117003:=n2_;have BK117005:=n3_;have HO117020:=n4_;have HB:=n5_;have HO117023:=n6_;clear n0_ n1_ n2_ n3_ n4_ n5_ n6_;clear ho hb hg hat;obtain⟨Ao68,co68,eo68⟩:=Kd.R_slice HO117020.out;subst eo68;have hcz69_0:w67.cell? ⟨gb117003,0,none⟩=some (.int .i64 a0_0):=(Zv BK117003.out 0).trans rfl;have hcz69_1:w67.cell? ⟨gb117003,1,none⟩=some (.slice Ao63 y117012.length co63):=(Zv BK117003.out 1).trans rfl;have hfz69_0:=Zu BK117003.out 0;have hfz69_1:=Zu BK117003.out 1))
            go_roundg k1
            case measure=>have:=HK1.out;omega
            case rel=>exact⟨(y117021),(wrap64 (x14_1+1)),(y117018),(.slice Ao68 y117018.length co68),(by first|rfl|(simp;done)|(simp[*];done)),H',⟨by have:=HK1.out;omega⟩,⟨by(with_reducible repeat(first|apply Kd.R_alloc|apply Kd.R_drewN|apply Kd.R_drew));exact Kd.R_mono (Kd.R_far (p:=⟨gb117003,1,none⟩) (Kd.R_types HO117023.out BK117003.out (by decide)) (fun _ hk=>hk.2) (.slice Ao68 y117018.length co68)) (fun _ hk=>trivial)⟩,⟨by(with_reducible repeat(first|apply Kd.R_alloc|apply Kd.R_drewN|apply Kd.R_drew));exact Kd.R_mono (Kd.R_far (p:=⟨gb117003,1,none⟩) (Kd.R_types HO117020.out BK117003.out (by decide)) (fun _ hk=>hk.2) (.slice Ao68 y117018.length co68)) (fun _ hk=>trivial)⟩,⟨by(with_reducible repeat(first|refine Zn ?_ _|refine Zs ?_|refine Zo ?_ _));refine ZB ?_ NB117001_117003.out _;(with_reducible repeat(first|refine Zn ?_ _|refine Zs ?_|refine Zo ?_ _));exact BK117001.out⟩,⟨by(with_reducible repeat(first|refine Zn ?_ _|refine Zs ?_|refine Zo ?_ _));refine ZB ?_ NB117002_117003.out _;(with_reducible repeat(first|refine Zn ?_ _|refine Zs ?_|refine Zo ?_ _));exact BK117002.out⟩,⟨by(with_reducible repeat(first|refine Zn ?_ _|refine Zs ?_|refine Zo ?_ _));refine ZH (cs:=#[.int .i64 a0_0,.slice Ao63 y117012.length co63]) ?_ 1 _ rfl;(with_reducible repeat(first|refine Zn ?_ _|refine Zs ?_|refine Zo ?_ _));exact BK117003.out⟩,⟨by repeat(first|(with_reducible first|exact HB.out|apply Zp|apply Zm|apply Zr|refine Zq ?_ GE117001.out|refine Zq ?_ GE117002.out|refine Zq ?_ GE117003.out|refine Zq ?_ GE117005.out)|exact HB.out)⟩⟩
           ·rw[if_neg c52] at H
            exact absurd H (by simp)
          ·rw[if_neg c51] at H
           exact absurd H (by simp)
        ·rw[if_neg c36] at H
         exact absurd H (by simp)
       ·rw[if_neg c35] at H
        exact absurd H (by simp)
     ·rw[if_neg c13] at H
      exact absurd H (by simp)
    ·rw[if_neg c12] at H
     exact absurd H (by simp)
   ·rw[if_neg c11] at H
    have c11b0:decide (x14_1<(l0_1.length:Int))=false:=Zf c11
    clear c11
    simp only[Option.some.injEq,Prod.mk.injEq] at H
    obtain⟨rfl,rfl,rfl⟩:=H
    have hnb70:=NB117003_117001.out
    have hnc70:=NB117001_117003.out
    have hnb71:=NB117003_117002.out
    have hnc71:=NB117002_117003.out
    have hcz72_0:wr.cell? ⟨gb117003,0,none⟩=some (.int .i64 a0_0):=(Zv BK117003.out 0).trans rfl
    have hcz72_1:wr.cell? ⟨gb117003,1,none⟩=some (u117004001):=(Zv BK117003.out 1).trans rfl
    have hfz72_0:=Zu BK117003.out 0
    have hfz72_1:=Zu BK117003.out 1
    have hnb73:=NB117002_117001.out
    have hnc73:=NB117001_117002.out
    have hcz74_0:wr.cell? ⟨gb117002,0,none⟩=some (.int .i64 0):=(Zv BK117002.out 0).trans rfl
    have hcz74_1:wr.cell? ⟨gb117002,1,none⟩=some (.slice none 0 0):=(Zv BK117002.out 1).trans rfl
    have hfz74_0:=Zu BK117002.out 0
    have hfz74_1:=Zu BK117002.out 1
    obtain⟨Ao75,co75,eo75⟩:=Kd.R_slice HO_117004001.out
    subst eo75
    go_wp2
    refine bodyPost_ret (Za4 rfl _ _ gb117002 95 #[.int .i64 a0_0,.slice Ao75 x117004001_1.length co75] (0,0) _ rfl (by(with_reducible repeat(first|refine Zn ?_ _|refine Zs ?_|refine Zo ?_ _));refine ZH (cs:=#[.int .i64 a0_0,.slice none 0 0]) ?_ 1 _ rfl;(with_reducible repeat(first|refine Zn ?_ _|refine Zs ?_|refine Zo ?_ _));refine ZH (cs:=#[.int .i64 0,.slice none 0 0]) ?_ 0 _ rfl;(with_reducible repeat(first|refine Zn ?_ _|refine Zs ?_|refine Zo ?_ _));exact BK117002.out) Try.underlying95 rfl (by kernel_rfl)) rfl ?_
    exact⟨_,_,by first|rfl|(simp[ZA,Zz] <;> rfl)|(simp[*,ZA,Zz] <;> rfl),by(with_reducible repeat(first|apply Kd.R_alloc|apply Kd.R_drewN|apply Kd.R_drew));exact Kd.R_mono (Kd.R_far (p:=⟨gb117002,1,none⟩) (Kd.R_far (p:=⟨gb117002,0,none⟩) (Kd.R_types HO_117004001.out BK117002.out (by decide)) (fun _ hk=>hk.2) (.int .i64 a0_0)) (fun _ hk=>hk.2) (.slice Ao75 x117004001_1.length co75)) (fun _ hk=>trivial),by(with_reducible repeat(first|apply Kd.R_alloc|apply Kd.R_drewN|apply Kd.R_drew));exact Kd.R_mono (Kd.R_far (p:=⟨gb117002,1,none⟩) (Kd.R_far (p:=⟨gb117002,0,none⟩) (Kd.R_types HO_5.out BK117002.out (by decide)) (fun _ hk=>hk.2) (.int .i64 a0_0)) (fun _ hk=>hk.2) (.slice Ao75 x117004001_1.length co75)) (fun _ hk=>trivial),by repeat(first|(with_reducible first|exact HB.out|apply Zp|apply Zm|apply Zr|refine Zq ?_ GE117001.out|refine Zq ?_ GE117002.out|refine Zq ?_ GE117003.out)|exact HB.out)⟩
def Za3.f (k:Nat) (a0_0:Int) (l0_1:List (S101)):Option (Int×(List (S148))):=(Zag.f a0_0 l0_1).bind fun t66003=>(if t66003=true then((ZS.f k a0_0 l0_1).bind fun bt66004=>(some (bt66004.1,bt66004.2.1))) else(some (0,([]:List (S148)))))
set_option maxHeartbeats 8000000 in
set_option maxRecDepth 100000 in
theorem Za3.calls (k:Nat) (a0_0:Int) (A0_1:Option Addr) (c0_1:Nat) (l0_1:List (S101)) (r1:Int) (r2:List (S148)) (w:World) (hr0_1:Kd.C k101 w A0_1 l0_1.length l0_1) (hc0_1:l0_1.length≤c0_1) (h:Za3.f k a0_0 l0_1=some (r1,r2)) :
  Calls Try.prog 66 #[.agg #[.int .i64 a0_0,.slice A0_1 l0_1.length c0_1]] w fun e w'=>∃v1_:Value,e=.returned (.agg #[.int .i64 r1,v1_])∧Kd.R k148 148 w' w.heap.size (fun _=>True) v1_ r2∧Below w.heap.size w w':=by
 have hu25:=Try.underlying25
 have hu95:=Try.underlying95
 have HR0_1:=Za hr0_1;have HC0_1:=Za hc0_1;clear hr0_1 hc0_1
 have HB:=Za (Below.refl w.heap.size w)
 have H:((Zag.f a0_0 l0_1).bind fun t66003=>(if t66003=true then((ZS.f k a0_0 l0_1).bind fun bt66004=>(some (bt66004.1,bt66004.2.1))) else(some (0,([]:List (S148))))))=some (r1,r2):=h
 clear h
 replace H:=Zh H
 obtain⟨t66003,A20,H⟩:=H
 replace H:(if t66003=true then((ZS.f k a0_0 l0_1).bind fun bt66004=>(some (bt66004.1,bt66004.2.1))) else(some (0,([]:List (S148)))))=some (r1,r2):=H
 have A2:=Za A20;clear A20
 by_cases c3:t66003=true
 ·subst c3
  have H1:((ZS.f k a0_0 l0_1).bind fun bt66004=>(some (bt66004.1,bt66004.2.1)))=some (r1,r2):=by rw[if_pos rfl] at H;exact H
  clear H
  have H:=H1
  clear H1
  replace H:=Zh H
  obtain⟨⟨t66004,t66005,t66008⟩,A40,H⟩:=H
  replace H:(some (t66004,t66005))=some (r1,r2):=H
  have A4:=Za A40;clear A40
  simp only[Option.some.injEq,Prod.mk.injEq] at H
  obtain⟨rfl,rfl⟩:=H
  go_enter Try.func66,Try.ntmps66
  go_wp2_with (first|((with_reducible refine ZD (N:=1) rfl ?_);refine ZE ?hg (N:=1) ?hd (cs:=#[.int .i64 a0_0,.slice A0_1 l0_1.length c0_1]) (t:=25) ?hr ?_;(case hd=>rfl);(case hg=>rfl);(case hr=>first|(go_simp;done)|(go_simp;rfl));intro gb66001 hg w5 hbox hb;have n0_:=Za (Zx (by repeat(first|(with_reducible first|exact HB.out|apply Zp|apply Zm|apply Zr)|exact HB.out)) hb);have n1_:=Za (hbox);have n2_:=Za ((by rw[hg];exact(Zw (by repeat(first|(with_reducible first|exact HB.out|apply Zp|apply Zm|apply Zr)|exact HB.out))):w.heap.size≤gb66001));have n3_:=Za ((by rw[hg];exact(Zw (by repeat(first|(with_reducible first|exact HB.out|apply Zp|apply Zm|apply Zr)|exact HB.out))):w.heap.size≤gb66001));clear HB;have HB:=n0_;have BK66001:=n1_;have GW66001:=n2_;have GE66001:=n3_;clear n0_ n1_ n2_ n3_;clear hb hbox hg)|((with_reducible refine ZD (N:=2) rfl ?_);refine ZE ?hg (N:=2) ?hd (cs:=#[.int .i64 0,.slice none 0 0]) (t:=95) ?hr ?_;(case hd=>rfl);(case hg=>rfl);(case hr=>first|(go_simp;done)|(go_simp;rfl));intro gb66002 hg w6 hbox hb;have n0_:=Za (Zy (g:=gb66001) (o:=.cells #[.int .i64 a0_0,.slice A0_1 l0_1.length c0_1] 25 (0,0)) (by(with_reducible repeat(first|refine Zn ?_ _|refine Zs ?_|refine Zo ?_ _));exact BK66001.out) hb);have n1_:=Za (Zx (by repeat(first|(with_reducible first|exact HB.out|apply Zp|apply Zm|apply Zr|refine Zq ?_ GE66001.out)|exact HB.out)) hb);have n2_:=Za (hbox);have n3_:=Za ((by rw[hg];exact(Zw (by repeat(first|(with_reducible first|exact HB.out|apply Zp|apply Zm|apply Zr|refine Zq ?_ GE66001.out)|exact HB.out))):w.heap.size≤gb66002));have n4_:=Za ((by rw[hg];exact(Zw (by repeat(first|(with_reducible first|exact HB.out|apply Zp|apply Zm|apply Zr|refine Zq ?_ GE66001.out)|exact HB.out))):w.heap.size≤gb66002));have n5_:=Za ((by rw[hg];exact Nat.ne_of_lt (ZC (g:=gb66001) (o:=.cells #[.int .i64 a0_0,.slice A0_1 l0_1.length c0_1] 25 (0,0)) (by(with_reducible repeat(first|refine Zn ?_ _|refine Zs ?_|refine Zo ?_ _));exact BK66001.out)):gb66001≠gb66002));have n6_:=Za ((by rw[hg];exact Nat.ne_of_gt (ZC (g:=gb66001) (o:=.cells #[.int .i64 a0_0,.slice A0_1 l0_1.length c0_1] 25 (0,0)) (by(with_reducible repeat(first|refine Zn ?_ _|refine Zs ?_|refine Zo ?_ _));exact BK66001.out)):gb66002≠gb66001));clear BK66001;clear HB;have BK66001:=n0_;have HB:=n1_;have BK66002:=n2_;have GW66002:=n3_;have GE66002:=n4_;have NB66001_66002:=n5_;have NB66002_66001:=n6_;clear n0_ n1_ n2_ n3_ n4_ n5_ n6_;clear hb hbox hg;have hnb7:=NB66001_66002.out;have hnc7:=NB66002_66001.out;have hcz8_0:w6.cell? ⟨gb66001,0,none⟩=some (.int .i64 a0_0):=(Zv BK66001.out 0).trans rfl;have hcz8_1:w6.cell? ⟨gb66001,1,none⟩=some (.slice A0_1 l0_1.length c0_1):=(Zv BK66001.out 1).trans rfl;have hfz8_0:=Zu BK66001.out 0;have hfz8_1:=Zu BK66001.out 1)|((with_reducible refine ZL (f:=19) rfl ?_);refine ZZ (some 6) rfl rfl Try.func19 (by kernel_rfl) rfl #[.agg #[.int .i64 a0_0,.slice A0_1 l0_1.length c0_1]] rfl (by(try simp only[List.map_toArray,List.map_cons,List.map_nil]);first|done|rfl|(simp only[Zk,Zj];rfl)) ?_;(with_reducible refine(Zag.calls a0_0 _ _ l0_1 true _ ?side1 ?side2 A2.out).mono ?_);(case side1=>repeat(first|exact(Zb HR0_1.out HB.out)|(with_reducible refine Kd.C_alloc ?_ _)|(with_reducible refine Kd.C_drewN ?_ _)|(with_reducible refine Kd.C_drew ?_)));(case side2=>exact HC0_1.out);rintro e w9 ⟨rfl,hb⟩;refine⟨_,rfl,?_⟩;have n0_:=Za (Zy (g:=gb66001) (o:=.cells #[.int .i64 a0_0,.slice A0_1 l0_1.length c0_1] 25 (0,0)) (by(with_reducible repeat(first|refine Zn ?_ _|refine Zs ?_|refine Zo ?_ _));exact BK66001.out) hb);have n1_:=Za (Zy (g:=gb66002) (o:=.cells #[.int .i64 0,.slice none 0 0] 95 (0,0)) (by(with_reducible repeat(first|refine Zn ?_ _|refine Zs ?_|refine Zo ?_ _));exact BK66002.out) hb);have n2_:=Za (Zx (by repeat(first|(with_reducible first|exact HB.out|apply Zp|apply Zm|apply Zr|refine Zq ?_ GE66001.out|refine Zq ?_ GE66002.out)|exact HB.out)) hb);clear BK66001;clear BK66002;clear HB;have BK66001:=n0_;have BK66002:=n1_;have HB:=n2_;clear n0_ n1_ n2_;(try clear hb);(try clear hb2);(try clear hk);(try clear hi);have hcz10_0:w9.cell? ⟨gb66001,0,none⟩=some (.int .i64 a0_0):=(Zv BK66001.out 0).trans rfl;have hcz10_1:w9.cell? ⟨gb66001,1,none⟩=some (.slice A0_1 l0_1.length c0_1):=(Zv BK66001.out 1).trans rfl;have hfz10_0:=Zu BK66001.out 0;have hfz10_1:=Zu BK66001.out 1)|((with_reducible refine ZL (f:=117) rfl ?_);refine ZZ (some 11) rfl rfl Try.func117 (by kernel_rfl) rfl #[.agg #[.int .i64 a0_0,.slice A0_1 l0_1.length c0_1]] rfl (by(try simp only[List.map_toArray,List.map_cons,List.map_nil]);first|done|rfl|(simp only[Zk,Zj];rfl)) ?_;(with_reducible refine(ZS.calls k a0_0 _ _ l0_1 t66004 t66005 t66008 _ ?side1 ?side2 A4.out).mono ?_);(case side1=>repeat(first|exact(Zb HR0_1.out HB.out)|(with_reducible refine Kd.C_alloc ?_ _)|(with_reducible refine Kd.C_drewN ?_ _)|(with_reducible refine Kd.C_drew ?_)));(case side2=>exact HC0_1.out);rintro e w11 ⟨v66006,v66009,rfl,ho0,ho1,hb⟩;refine⟨_,rfl,?_⟩;have n0_:=Za (Kd.R_lower ho0 (Zw (by repeat(first|(with_reducible first|exact HB.out|apply Zp|apply Zm|apply Zr|refine Zq ?_ GE66001.out|refine Zq ?_ GE66002.out)|exact HB.out))));have n1_:=Za (Kd.R_lower ho1 (Zw (by repeat(first|(with_reducible first|exact HB.out|apply Zp|apply Zm|apply Zr|refine Zq ?_ GE66001.out|refine Zq ?_ GE66002.out)|exact HB.out))));have n2_:=Za (Zy (g:=gb66001) (o:=.cells #[.int .i64 a0_0,.slice A0_1 l0_1.length c0_1] 25 (0,0)) (by(with_reducible repeat(first|refine Zn ?_ _|refine Zs ?_|refine Zo ?_ _));exact BK66001.out) hb);have n3_:=Za (Zy (g:=gb66002) (o:=.cells #[.int .i64 0,.slice none 0 0] 95 (0,0)) (by(with_reducible repeat(first|refine Zn ?_ _|refine Zs ?_|refine Zo ?_ _));exact BK66002.out) hb);have n4_:=Za (Zx (by repeat(first|(with_reducible first|exact HB.out|apply Zp|apply Zm|apply Zr|refine Zq ?_ GE66001.out|refine Zq ?_ GE66002.out)|exact HB.out)) hb);clear BK66001;clear BK66002;clear HB;have HO66007:=n0_;have HO66010:=n1_;have BK66001:=n2_;have BK66002:=n3_;have HB:=n4_;clear n0_ n1_ n2_ n3_ n4_;(try clear hb);(try clear hb2);(try clear hk);(try clear hi);(try clear ho0);(try clear ho1))|((with_reducible refine ZD (N:=3) rfl ?_);refine ZE ?hg (N:=3) ?hd (cs:=#[.int .i64 0,.slice none 0 0]) (t:=95) ?hr ?_;(case hd=>rfl);(case hg=>rfl);(case hr=>first|(go_simp;done)|(go_simp;rfl));intro gb66011 hg w12 hbox hb;have n0_:=Za (Kd.R_below (by(with_reducible repeat(first|apply Kd.R_alloc|apply Kd.R_drewN|apply Kd.R_drew));exact HO66007.out) hb);have n1_:=Za (Kd.R_below (by(with_reducible repeat(first|apply Kd.R_alloc|apply Kd.R_drewN|apply Kd.R_drew));exact HO66010.out) hb);have n2_:=Za (Zy (g:=gb66001) (o:=.cells #[.int .i64 a0_0,.slice A0_1 l0_1.length c0_1] 25 (0,0)) (by(with_reducible repeat(first|refine Zn ?_ _|refine Zs ?_|refine Zo ?_ _));exact BK66001.out) hb);have n3_:=Za (Zy (g:=gb66002) (o:=.cells #[.int .i64 0,.slice none 0 0] 95 (0,0)) (by(with_reducible repeat(first|refine Zn ?_ _|refine Zs ?_|refine Zo ?_ _));exact BK66002.out) hb);have n4_:=Za (Zx (by repeat(first|(with_reducible first|exact HB.out|apply Zp|apply Zm|apply Zr|refine Zq ?_ GE66001.out|refine Zq ?_ GE66002.out)|exact HB.out)) hb);have n5_:=Za (hbox);have n6_:=Za ((by rw[hg];exact(Zw (by repeat(first|(with_reducible first|exact HB.out|apply Zp|apply Zm|apply Zr|refine Zq ?_ GE66001.out|refine Zq ?_ GE66002.out)|exact HB.out))):w.heap.size≤gb66011));have n7_:=Za ((by rw[hg];exact(Zw (by repeat(first|(with_reducible first|exact HB.out|apply Zp|apply Zm|apply Zr|refine Zq ?_ GE66001.out|refine Zq ?_ GE66002.out)|exact HB.out))):w.heap.size≤gb66011));have n8_:=Za ((by rw[hg];exact Nat.ne_of_lt (ZC (g:=gb66001) (o:=.cells #[.int .i64 a0_0,.slice A0_1 l0_1.length c0_1] 25 (0,0)) (by(with_reducible repeat(first|refine Zn ?_ _|refine Zs ?_|refine Zo ?_ _));exact BK66001.out)):gb66001≠gb66011));have n9_:=Za ((by rw[hg];exact Nat.ne_of_gt (ZC (g:=gb66001) (o:=.cells #[.int .i64 a0_0,.slice A0_1 l0_1.length c0_1] 25 (0,0)) (by(with_reducible repeat(first|refine Zn ?_ _|refine Zs ?_|refine Zo ?_ _));exact BK66001.out)):gb66011≠gb66001));have n10_:=Za ((by rw[hg];exact Nat.ne_of_lt (ZC (g:=gb66002) (o:=.cells #[.int .i64 0,.slice none 0 0] 95 (0,0)) (by(with_reducible repeat(first|refine Zn ?_ _|refine Zs ?_|refine Zo ?_ _));exact BK66002.out)):gb66002≠gb66011));have n11_:=Za ((by rw[hg];exact Nat.ne_of_gt (ZC (g:=gb66002) (o:=.cells #[.int .i64 0,.slice none 0 0] 95 (0,0)) (by(with_reducible repeat(first|refine Zn ?_ _|refine Zs ?_|refine Zo ?_ _));exact BK66002.out)):gb66011≠gb66002));clear HO66007;clear HO66010;clear BK66001;clear BK66002;clear HB;have HO66007:=n0_;have HO66010:=n1_;have BK66001:=n2_;have BK66002:=n3_;have HB:=n4_;have BK66011:=n5_;have GW66011:=n6_;have GE66011:=n7_;have NB66001_66011:=n8_;have NB66011_66001:=n9_;have NB66002_66011:=n10_;have NB66011_66002:=n11_;clear n0_ n1_ n2_ n3_ n4_ n5_ n6_ n7_ n8_ n9_ n10_ n11_;clear hb hbox hg;have hnb13:=NB66011_66001.out;have hnc13:=NB66001_66011.out;have hnb14:=NB66011_66002.out;have hnc14:=NB66002_66011.out;have hcz15_0:w12.cell? ⟨gb66011,0,none⟩=some (.int .i64 0):=(Zv BK66011.out 0).trans rfl;have hcz15_1:w12.cell? ⟨gb66011,1,none⟩=some (.slice none 0 0):=(Zv BK66011.out 1).trans rfl;have hfz15_0:=Zu BK66011.out 0;have hfz15_1:=Zu BK66011.out 1;obtain⟨Ao16,co16,eo16⟩:=Kd.R_slice HO66007.out;subst eo16;have hcz17_0:w12.cell? ⟨gb66002,0,none⟩=some (.int .i64 0):=(Zv BK66002.out 0).trans rfl;have hcz17_1:w12.cell? ⟨gb66002,1,none⟩=some (.slice none 0 0):=(Zv BK66002.out 1).trans rfl;have hfz17_0:=Zu BK66002.out 0;have hfz17_1:=Zu BK66002.out 1))
  refine bodyPost_ret (results_cell_row rfl _ _ gb66002 95 #[.int .i64 t66004,.slice Ao16 t66005.length co16] (0,0) _ rfl (by(with_reducible repeat(first|refine Zn ?_ _|refine Zs ?_|refine Zo ?_ _));refine ZH (cs:=#[.int .i64 t66004,.slice none 0 0]) ?_ 1 _ rfl;(with_reducible repeat(first|refine Zn ?_ _|refine Zs ?_|refine Zo ?_ _));refine ZH (cs:=#[.int .i64 0,.slice none 0 0]) ?_ 0 _ rfl;(with_reducible repeat(first|refine Zn ?_ _|refine Zs ?_|refine Zo ?_ _));refine ZB ?_ NB66002_66011.out _;(with_reducible repeat(first|refine Zn ?_ _|refine Zs ?_|refine Zo ?_ _));refine ZB ?_ NB66002_66011.out _;(with_reducible repeat(first|refine Zn ?_ _|refine Zs ?_|refine Zo ?_ _));exact BK66002.out) Try.underlying95 rfl (by kernel_rfl)) rfl ?_
  exact⟨_,by first|rfl|(simp[ZA,Zz] <;> rfl)|(simp[*,ZA,Zz] <;> rfl),by(with_reducible repeat(first|apply Kd.R_alloc|apply Kd.R_drewN|apply Kd.R_drew));exact Kd.R_mono (Kd.R_far (p:=⟨gb66002,1,none⟩) (Kd.R_far (p:=⟨gb66002,0,none⟩) (Kd.R_far (p:=⟨gb66011,1,none⟩) (Kd.R_far (p:=⟨gb66011,0,none⟩) (Kd.R_types (Kd.R_types HO66007.out BK66011.out (by decide)) BK66002.out (by decide)) (fun _ hk=>hk.1.2) (.int .i64 t66004)) (fun _ hk=>hk.1.2) (.slice Ao16 t66005.length co16)) (fun _ hk=>hk.2) (.int .i64 t66004)) (fun _ hk=>hk.2) (.slice Ao16 t66005.length co16)) (fun _ hk=>trivial),by repeat(first|(with_reducible first|exact HB.out|apply Zp|apply Zm|apply Zr|refine Zq ?_ GE66001.out|refine Zq ?_ GE66002.out|refine Zq ?_ GE66011.out)|exact HB.out)⟩
 ·replace c3:=Bool.eq_false_iff.mpr c3
  subst c3
  have H1:(some (0,([]:List (S148))))=some (r1,r2):=by rw[if_neg (show ¬(false=true) by decide)] at H;exact H
  clear H
  have H:=H1
  clear H1
  simp only[Option.some.injEq,Prod.mk.injEq] at H
  obtain⟨rfl,rfl⟩:=H
  go_enter Try.func66,Try.ntmps66
  go_wp2_with (first|((with_reducible refine ZD (N:=1) rfl ?_);refine ZE ?hg (N:=1) ?hd (cs:=#[.int .i64 a0_0,.slice A0_1 l0_1.length c0_1]) (t:=25) ?hr ?_;(case hd=>rfl);(case hg=>rfl);(case hr=>first|(go_simp;done)|(go_simp;rfl));intro gb66001 hg w18 hbox hb;have n0_:=Za (Zx (by repeat(first|(with_reducible first|exact HB.out|apply Zp|apply Zm|apply Zr)|exact HB.out)) hb);have n1_:=Za (hbox);have n2_:=Za ((by rw[hg];exact(Zw (by repeat(first|(with_reducible first|exact HB.out|apply Zp|apply Zm|apply Zr)|exact HB.out))):w.heap.size≤gb66001));have n3_:=Za ((by rw[hg];exact(Zw (by repeat(first|(with_reducible first|exact HB.out|apply Zp|apply Zm|apply Zr)|exact HB.out))):w.heap.size≤gb66001));clear HB;have HB:=n0_;have BK66001:=n1_;have GW66001:=n2_;have GE66001:=n3_;clear n0_ n1_ n2_ n3_;clear hb hbox hg)|((with_reducible refine ZD (N:=2) rfl ?_);refine ZE ?hg (N:=2) ?hd (cs:=#[.int .i64 0,.slice none 0 0]) (t:=95) ?hr ?_;(case hd=>rfl);(case hg=>rfl);(case hr=>first|(go_simp;done)|(go_simp;rfl));intro gb66002 hg w19 hbox hb;have n0_:=Za (Zy (g:=gb66001) (o:=.cells #[.int .i64 a0_0,.slice A0_1 l0_1.length c0_1] 25 (0,0)) (by(with_reducible repeat(first|refine Zn ?_ _|refine Zs ?_|refine Zo ?_ _));exact BK66001.out) hb);have n1_:=Za (Zx (by repeat(first|(with_reducible first|exact HB.out|apply Zp|apply Zm|apply Zr|refine Zq ?_ GE66001.out)|exact HB.out)) hb);have n2_:=Za (hbox);have n3_:=Za ((by rw[hg];exact(Zw (by repeat(first|(with_reducible first|exact HB.out|apply Zp|apply Zm|apply Zr|refine Zq ?_ GE66001.out)|exact HB.out))):w.heap.size≤gb66002));have n4_:=Za ((by rw[hg];exact(Zw (by repeat(first|(with_reducible first|exact HB.out|apply Zp|apply Zm|apply Zr|refine Zq ?_ GE66001.out)|exact HB.out))):w.heap.size≤gb66002));have n5_:=Za ((by rw[hg];exact Nat.ne_of_lt (ZC (g:=gb66001) (o:=.cells #[.int .i64 a0_0,.slice A0_1 l0_1.length c0_1] 25 (0,0)) (by(with_reducible repeat(first|refine Zn ?_ _|refine Zs ?_|refine Zo ?_ _));exact BK66001.out)):gb66001≠gb66002));have n6_:=Za ((by rw[hg];exact Nat.ne_of_gt (ZC (g:=gb66001) (o:=.cells #[.int .i64 a0_0,.slice A0_1 l0_1.length c0_1] 25 (0,0)) (by(with_reducible repeat(first|refine Zn ?_ _|refine Zs ?_|refine Zo ?_ _));exact BK66001.out)):gb66002≠gb66001));clear BK66001;clear HB;have BK66001:=n0_;have HB:=n1_;have BK66002:=n2_;have GW66002:=n3_;have GE66002:=n4_;have NB66001_66002:=n5_;have NB66002_66001:=n6_;clear n0_ n1_ n2_ n3_ n4_ n5_ n6_;clear hb hbox hg;have hnb20:=NB66001_66002.out;have hnc20:=NB66002_66001.out;have hcz21_0:w19.cell? ⟨gb66001,0,none⟩=some (.int .i64 a0_0):=(Zv BK66001.out 0).trans rfl;have hcz21_1:w19.cell? ⟨gb66001,1,none⟩=some (.slice A0_1 l0_1.length c0_1):=(Zv BK66001.out 1).trans rfl;have hfz21_0:=Zu BK66001.out 0;have hfz21_1:=Zu BK66001.out 1)|((with_reducible refine ZL (f:=19) rfl ?_);refine ZZ (some 6) rfl rfl Try.func19 (by kernel_rfl) rfl #[.agg #[.int .i64 a0_0,.slice A0_1 l0_1.length c0_1]] rfl (by(try simp only[List.map_toArray,List.map_cons,List.map_nil]);first|done|rfl|(simp only[Zk,Zj];rfl)) ?_;(with_reducible refine(Zag.calls a0_0 _ _ l0_1 false _ ?side1 ?side2 A2.out).mono ?_);(case side1=>repeat(first|exact(Zb HR0_1.out HB.out)|(with_reducible refine Kd.C_alloc ?_ _)|(with_reducible refine Kd.C_drewN ?_ _)|(with_reducible refine Kd.C_drew ?_)));(case side2=>exact HC0_1.out);rintro e w22 ⟨rfl,hb⟩;refine⟨_,rfl,?_⟩;have n0_:=Za (Zy (g:=gb66001) (o:=.cells #[.int .i64 a0_0,.slice A0_1 l0_1.length c0_1] 25 (0,0)) (by(with_reducible repeat(first|refine Zn ?_ _|refine Zs ?_|refine Zo ?_ _));exact BK66001.out) hb);have n1_:=Za (Zy (g:=gb66002) (o:=.cells #[.int .i64 0,.slice none 0 0] 95 (0,0)) (by(with_reducible repeat(first|refine Zn ?_ _|refine Zs ?_|refine Zo ?_ _));exact BK66002.out) hb);have n2_:=Za (Zx (by repeat(first|(with_reducible first|exact HB.out|apply Zp|apply Zm|apply Zr|refine Zq ?_ GE66001.out|refine Zq ?_ GE66002.out)|exact HB.out)) hb);clear BK66001;clear BK66002;clear HB;have BK66001:=n0_;have BK66002:=n1_;have HB:=n2_;clear n0_ n1_ n2_;(try clear hb);(try clear hb2);(try clear hk);(try clear hi);have hcz23_0:w22.cell? ⟨gb66002,0,none⟩=some (.int .i64 0):=(Zv BK66002.out 0).trans rfl;have hcz23_1:w22.cell? ⟨gb66002,1,none⟩=some (.slice none 0 0):=(Zv BK66002.out 1).trans rfl;have hfz23_0:=Zu BK66002.out 0;have hfz23_1:=Zu BK66002.out 1))
  refine bodyPost_ret (results_cell_row rfl _ _ gb66002 95 #[.int .i64 0,.slice none 0 0] (0,0) _ rfl (by(with_reducible repeat(first|refine Zn ?_ _|refine Zs ?_|refine Zo ?_ _));refine ZH (cs:=#[.int .i64 0,.slice none 0 0]) ?_ 1 _ rfl;(with_reducible repeat(first|refine Zn ?_ _|refine Zs ?_|refine Zo ?_ _));refine ZH (cs:=#[.int .i64 0,.slice none 0 0]) ?_ 0 _ rfl;(with_reducible repeat(first|refine Zn ?_ _|refine Zs ?_|refine Zo ?_ _));exact BK66002.out) Try.underlying95 rfl (by kernel_rfl)) rfl ?_
  exact⟨_,by first|rfl|(simp[ZA,Zz] <;> rfl)|(simp[*,ZA,Zz] <;> rfl),by first|exact Kd.R_nil _ _ _ _ _|exact Kd.N_nil _ _ _ _ _|exact Kd.V_nil _ _ _ _ _|exact Kd.Q_nil _ _ _ _ _|exact Kd.S_nil _ _ _ _ _,by repeat(first|(with_reducible first|exact HB.out|apply Zp|apply Zm|apply Zr|refine Zq ?_ GE66001.out|refine Zq ?_ GE66002.out)|exact HB.out)⟩
end Go.Proofs.Ytpoffpdaadhkgaa.Pr
namespace Go.Proofs.Ytpoffpdaadhkgaa.Pr
open Go.RowKit Go.Proofs.YtpoffpdaadhkgaaW.PrintWords Go.Proofs.Ytpoffpdaadhkgaa.Ni
abbrev ZV:=S148
abbrev zE:ZV:=z148
theorem pigN:∀(n:Nat) (l:List Nat),l.Nodup→(∀x∈l,x<n)→l.length≤n
 | 0,l,_,h=>by
  cases l with
  | nil=>exact Nat.le_refl _
  | cons x l=>have:=h x (by simp);omega
 | n+1,l,hn,h=>by
  have h1:=pigN n (l.erase n) (hn.sublist (List.erase_sublist ..)) (fun x hx=>by
   have:=(hn.mem_erase_iff).1 hx
   have h2:=h x this.2
   omega)
  rw[List.length_erase] at h1
  split at h1 <;> omega
theorem pigF (n:Nat) (f:Nat→Nat) (h:∀i,i≤n→f i<n):∃i j,i<j∧j≤n∧f i=f j:=by
 apply Classical.byContradiction
 intro hc
 have hd:((List.range (n+1)).map f).Nodup:=by
  unfold List.Nodup
  rw[List.pairwise_map]
  refine List.pairwise_lt_range.imp_of_mem ?_
  intro a b _ hb hab e
  have:=List.mem_range.1 hb
  exact hc ⟨a,b,hab,by omega,e⟩
 have:=pigN n _ hd (fun x hx=>by
  obtain⟨i,hi,rfl⟩:=List.mem_map.1 hx
  have:=List.mem_range.1 hi
  exact h i (by omega))
 simp at this
 omega
abbrev BSt:=List Int×List Int×Int
def Zbe (s:BSt) (i:Nat) (e:ZV):BSt:=
 if wrap64 (rd s.1 e.f0+e.f2)<rd s.1 e.f1 then(s.1.set e.f1.toNat (wrap64 (rd s.1 e.f0+e.f2)),s.2.1.set e.f1.toNat (i:Int),(i:Int)) else s
def rnd:List ZV→Nat→BSt→BSt
 | [],_,s=>s
 | e :: t,i,s=>rnd t (i+1) (Zbe s i e)
def rounds (E:List ZV):Nat→BSt→BSt
 | 0,s=>s
 | n+1,s=>rounds E n (rnd E 0 (s.1,s.2.1,-1))
def ZaK (E:List ZV) (N:Nat):Prop:=∀e∈E,0≤e.f0∧e.f0<N∧0≤e.f1∧e.f1<N
structure BInv (E:List ZV) (N k i:Nat) (s:BSt) (rk:Nat→Nat):Prop where
 ld:s.1.length=N
 ll:s.2.1.length=N
 k1:1≤k
 R:∀v,rk v≤k
 A:∀j e,E[j]? = some e→rk e.f0.toNat<(if j<i then k else k - 1)→rd s.1 e.f1≤wrap64 (rd s.1 e.f0+e.f2)
 B:∀v,v<N→(s.2.1.getD v 0=-1∧rk v=0)∨∃j e,E[j]? = some e∧s.2.1.getD v 0=((j:Nat):Int)∧e.f1.toNat=v∧1≤rk v∧rk v≤rk e.f0.toNat+1
 C:s.2.2=-1∨∃j e,E[j]? = some e∧s.2.2=((j:Nat):Int)∧rk e.f1.toNat=k
theorem getD_set_ne {l:List Int} {i j:Nat} (h:i≠j) (x d:Int):(l.set i x).getD j d=l.getD j d:=by
 rw[List.getD_eq_getElem?_getD,List.getD_eq_getElem?_getD,List.getElem?_set_ne h]
theorem Zau {l:List Int} {i:Nat} (h:i<l.length) (x d:Int):(l.set i x).getD i d=x:=by
 rw[List.getD_eq_getElem?_getD,List.getElem?_set_self h];rfl
theorem BInv.step {E:List ZV} {N k i:Nat} {s:BSt} {rk:Nat→Nat} (hE:ZaK E N) (h:BInv E N k i s rk) {e:ZV} (he:E[i]? = some e):∃rk',BInv E N k (i+1) (Zbe s i e) rk':=by
 obtain⟨d,l,ch⟩:=s
 obtain⟨ld,ll,k1,R,A,B,C⟩:=h
 dsimp only at ld ll A B C
 have hin:=hE e (List.mem_of_getElem? he)
 unfold Zbe
 dsimp only
 by_cases c:wrap64 (rd d e.f0+e.f2)<rd d e.f1
 ·rw[if_pos c]
  refine⟨fun x=>if x=e.f1.toNat then k else rk x,?_,?_,k1,?_,?_,?_,?_⟩
  ·simpa using ld
  ·simpa using ll
  ·intro v;show(if v=e.f1.toNat then k else rk v)≤k;split
   ·exact Nat.le_refl _
   ·exact R v
  ·intro j e' hj hlt
   simp only at hlt ⊢
   have hin':=hE e' (List.mem_of_getElem? hj)
   by_cases c0:e'.f0.toNat=e.f1.toNat
   ·rw[if_pos c0] at hlt;split at hlt <;> omega
   ·rw[if_neg c0] at hlt
    have e0:rd (d.set e.f1.toNat (wrap64 (rd d e.f0+e.f2))) e'.f0=rd d e'.f0:=getD_set_ne (Ne.symm c0) _ _
    rw[e0]
    by_cases hji:j=i
    ·subst hji
     rw[he] at hj
     cases hj
     have e1:rd (d.set e.f1.toNat (wrap64 (rd d e.f0+e.f2))) e.f1=wrap64 (rd d e.f0+e.f2):=Zau (by omega) _ _
     rw[e1];exact Int.le_refl _
    ·have hA:=A j e' hj (by split at hlt <;> split <;> omega)
     by_cases c1:e'.f1.toNat=e.f1.toNat
     ·have e1:rd (d.set e.f1.toNat (wrap64 (rd d e.f0+e.f2))) e'.f1=wrap64 (rd d e.f0+e.f2):=by unfold rd;rw[c1];exact Zau (by omega) _ _
      have e2:rd d e'.f1=rd d e.f1:=by unfold rd;rw[c1]
      rw[e1];omega
     ·have e1:rd (d.set e.f1.toNat (wrap64 (rd d e.f0+e.f2))) e'.f1=rd d e'.f1:=getD_set_ne (Ne.symm c1) _ _
      rw[e1];exact hA
  ·intro v hv
   simp only
   by_cases cv:v=e.f1.toNat
   ·right
    refine⟨i,e,he,?_,cv.symm,?_,?_⟩
    ·rw[cv];exact Zau (by omega) _ _
    ·rw[if_pos cv];exact k1
    ·rw[if_pos cv]
     split
     ·omega
     ·by_cases c2:rk e.f0.toNat<k - 1
      ·have:=A i e he (by rw[if_neg (by omega)];exact c2);omega
      ·omega
   ·rw[if_neg cv,getD_set_ne (Ne.symm cv)]
    rcases B v hv with hb|⟨j,e',h1,h2,h3,h4,h5⟩
    ·exact Or.inl hb
    ·right
     refine⟨j,e',h1,h2,h3,h4,?_⟩
     split
     ·have:=R v;omega
     ·exact h5
  ·right
   exact⟨i,e,he,rfl,by simp only;rw[if_pos trivial]⟩
 ·rw[if_neg c]
  refine⟨rk,ld,ll,k1,R,?_,B,C⟩
  intro j e' hj hlt
  by_cases hji:j=i
  ·subst hji
   rw[he] at hj
   cases hj
   simp only;omega
  ·exact A j e' hj (by split at hlt <;> split <;> omega)
theorem BInv.rnd {E:List ZV} {N k:Nat} (hE:ZaK E N):∀(n i:Nat) (s:BSt) (rk:Nat→Nat),i+n=E.length→BInv E N k i s rk→∃rk',BInv E N k E.length (rnd (E.drop i) i s) rk':=by
 intro n
 induction n with
 | zero=>
  intro i s rk hn h
  obtain rfl:i=E.length:=by omega
  rw[List.drop_length];exact⟨rk,h⟩
 | succ n ih=>
  intro i s rk hn h
  have hi:i<E.length:=by omega
  rw[List.drop_eq_getElem_cons hi]
  obtain⟨rk',h'⟩:=h.step hE (Zl hi)
  exact ih (i+1) _ _ (by omega) h'
theorem BInv.next {E:List ZV} {N k:Nat} {s:BSt} {rk:Nat→Nat} (h:BInv E N k E.length s rk):BInv E N (k+1) 0 (s.1,s.2.1,-1) rk:=by
 refine⟨h.ld,h.ll,by omega,fun v=>by have:=h.R v;omega,?_,h.B,Or.inl rfl⟩
 intro j e hj hlt
 have hjl:=(List.getElem?_eq_some_iff.1 hj).1
 rw[if_neg (by omega)] at hlt
 exact h.A j e hj (by rw[if_pos hjl];omega)
theorem BInv.rnds {E:List ZV} {N:Nat} (hE:ZaK E N):∀(n k:Nat) (s:BSt) (rk:Nat→Nat),BInv E N k E.length s rk→∃rk',BInv E N (k+n) E.length (rounds E n s) rk':=by
 intro n
 induction n with
 | zero=>intro k s rk h;exact⟨rk,h⟩
 | succ n ih=>
  intro k s rk h
  obtain⟨rk',h'⟩:=BInv.rnd hE E.length 0 _ rk (by omega) h.next
  obtain⟨rk2,h2⟩:=ih (k+1) _ _ h'
  refine⟨rk2,?_⟩
  rw[show k+(n+1)=k+1+n by omega]
  exact h2
def bst0 (N:Nat):BSt:=(List.replicate N 0,List.replicate N (-1),-1)
theorem BInv.start {E:List ZV} {N:Nat}:BInv E N 1 0 (bst0 N) (fun _=>0):=by
 refine⟨by simp[bst0],by simp[bst0],Nat.le_refl _,fun _=>by omega,?_,?_,Or.inl rfl⟩
 ·intro j e _ hlt;rw[if_neg (by omega)] at hlt;omega
 ·intro v hv;left
  refine⟨?_,rfl⟩
  simp[bst0,List.getD_eq_getElem?_getD,hv]
theorem BInv.all {E:List ZV} {N:Nat} (hE:ZaK E N) (hN:1≤N):∃rk,BInv E N N E.length (rounds E N (bst0 N)) rk:=by
 obtain⟨m,rfl⟩:∃m,N=m+1:=⟨N - 1,by omega⟩
 obtain⟨rk',h'⟩:=BInv.rnd hE E.length 0 _ _ (by omega) (BInv.start (E:=E) (N:=m+1))
 obtain⟨rk2,h2⟩:=BInv.rnds hE m 1 _ _ h'
 refine⟨rk2,?_⟩
 rw[Nat.add_comm 1 m] at h2
 exact h2
def Good (E:List ZV) (N:Nat) (l:List Int) (v:Nat):Prop:=v<N∧∃j e,E[j]? = some e∧l.getD v 0=((j:Nat):Int)∧e.f1.toNat=v
def bnxt (E:List ZV) (l:List Int) (v:Nat):Nat:=(E.getD (l.getD v 0).toNat zE).f0.toNat
def bit (E:List ZV) (l:List Int):Nat→Nat→Nat
 | 0,v=>v
 | n+1,v=>bnxt E l (bit E l n v)
theorem bit_succ' (E:List ZV) (l:List Int):∀n v,bit E l (n+1) v=bit E l n (bnxt E l v)
 | 0,v=>rfl
 | n+1,v=>by show bnxt E l (bit E l (n+1) v)=bnxt E l (bit E l n (bnxt E l v));rw[bit_succ' E l n v]
theorem ZaZ (E:List ZV) (l:List Int) (m:Nat):∀n v,bit E l (n+m) v=bit E l n (bit E l m v)
 | 0,v=>by rw[Nat.zero_add];rfl
 | n+1,v=>by rw[show n+1+m=(n+m)+1 by omega];show bnxt E l _=bnxt E l _;rw[ZaZ E l m n v]
theorem bnxt_at {E:List ZV} {l:List Int} {v j:Nat} {e:ZV} (hj:E[j]? = some e) (hl:l.getD v 0=((j:Nat):Int)):bnxt E l v=e.f0.toNat:=by
 unfold bnxt
 rw[hl,Int.toNat_natCast,List.getD_eq_getElem?_getD,hj];rfl
theorem bf_circle {E:List ZV} {N:Nat} (hE:ZaK E N) (hN:1≤N) (hc:(rounds E N (bst0 N)).2.2≠-1) :
  let l:=(rounds E N (bst0 N)).2.1
  ∃c e,E[c]? = some e∧(rounds E N (bst0 N)).2.2=((c:Nat):Int)∧(∀i,i≤N→bit E l i e.f1.toNat<N)∧(∀i,i<N→Good E N l (bit E l i e.f1.toNat)) ∧
   (∀m,Good E N l (bit E l m (bit E l N e.f1.toNat)))∧∃q,1≤q∧q≤N∧bit E l q (bit E l N e.f1.toNat)=bit E l N e.f1.toNat:=by
 obtain⟨rk,h⟩:=BInv.all hE hN
 revert hc h
 generalize rounds E N (bst0 N)=s
 obtain⟨d,l,ch⟩:=s
 intro hc h
 dsimp only at hc ⊢
 obtain⟨c,e,he,hce,hk⟩:∃j e,E[j]? = some e∧ch=((j:Nat):Int)∧rk e.f1.toNat=N:=by
  rcases h.C with h0|h0
  ·exact absurd h0 hc
  ·exact h0
 have hin:=hE e (List.mem_of_getElem? he)
 have key:∀i,i≤N→bit E l i e.f1.toNat<N∧N≤rk (bit E l i e.f1.toNat)+i:=by
  intro i
  induction i with
  | zero=>intro _;exact⟨by simp only[bit];omega,by simp only[bit];omega⟩
  | succ i ih=>
   intro hi
   obtain⟨h1,h2⟩:=ih (by omega)
   rcases h.B _ h1 with ⟨_,h3⟩|⟨j,e',hj,hl,_,_,h5⟩
   ·omega
   ·have hin':=hE e' (List.mem_of_getElem? hj)
    show bnxt E l _<N∧N≤rk (bnxt E l _)+_
    rw[bnxt_at hj hl]
    exact⟨by omega,by omega⟩
 have good:∀i,i<N→Good E N l (bit E l i e.f1.toNat):=by
  intro i hi
  obtain⟨h1,h2⟩:=key i (by omega)
  rcases h.B _ h1 with ⟨_,h3⟩|⟨j,e',hj,hl,hv,_,_⟩
  ·omega
  ·exact⟨h1,j,e',hj,hl,hv⟩
 obtain⟨a,b,hab,hbN,hf⟩:=pigF N (fun i=>bit E l i e.f1.toNat) (fun i hi=>(key i hi).1)
 have per:∀m,bit E l (a+m+(b - a)) e.f1.toNat=bit E l (a+m) e.f1.toNat:=by
  intro m
  rw[show a+m+(b - a)=m+b by omega,show a+m=m+a by omega,ZaZ,ZaZ,hf]
 have goodall:∀m,Good E N l (bit E l m e.f1.toNat):=by
  intro m
  induction m using Nat.strongRecOn with
  | ind m ih=>
   by_cases hm:m<N
   ·exact good m hm
   ·have:=per (m - b)
    rw[show a+(m - b)+(b - a)=m by omega] at this
    rw[this]
    exact ih _ (by omega)
 refine⟨c,e,he,hce,fun i hi=>(key i hi).1,good,fun m=>?_,b - a,by omega,by omega,?_⟩
 ·rw[← ZaZ];exact goodall _
 ·rw[← ZaZ]
  have:=per (N - a)
  rw[show a+(N - a)=N by omega] at this
  rw[show b - a+N=N+(b - a) by omega]
  exact this
abbrev KSt:=List Int×List Bool×Bool
def rb (l:List Bool) (i:Int):Bool:=l.getD i.toNat false
def ZbW (s:KSt) (e:ZV):KSt:=
 if rb s.2.1 e.f0=true∧(rb s.2.1 e.f1=false∨wrap64 (rd s.1 e.f0+e.f2)<rd s.1 e.f1) then(s.1.set e.f1.toNat (wrap64 (rd s.1 e.f0+e.f2)),s.2.1.set e.f1.toNat true,true) else s
def krnd:List ZV→KSt→KSt
 | [],s=>s
 | e :: t,s=>krnd t (ZbW s e)
def Zbk (E:List ZV):Nat→KSt→KSt
 | 0,s=>s
 | n+1,s=>Zbk E n (krnd E (s.1,s.2.1,false))
theorem Zce (E:List ZV):∀(n:Nat) (s:KSt),Zbk E (n+1) s=(fun u:KSt=>krnd E (u.1,u.2.1,false)) (Zbk E n s)
 | 0,s=>rfl
 | n+1,s=>by show Zbk E (n+1) _=_;rw[Zce E n];rfl
structure KInv (E:List ZV) (N k i t:Nat) (s:KSt) (lst:Nat→Option Nat) (rk T:Nat→Nat):Prop where
 ld:s.1.length=N
 ll:s.2.1.length=N
 k1:1≤k
 R:∀v,rk v≤k
 TT:∀v,T v≤t
 bd:∀v,v<N→-((t:Int) * 1000000)≤s.1.getD v 0∧s.1.getD v 0≤(t:Int) * 1000000
 A:∀j e,E[j]? = some e→rb s.2.1 e.f0=true→rk e.f0.toNat<(if j<i then k else k - 1)→rb s.2.1 e.f1=true∧rd s.1 e.f1≤rd s.1 e.f0+e.f2
 B:∀v,v<N→s.2.1.getD v false=true→(rk v=0)∨∃j e,lst v=some j∧E[j]? = some e∧e.f1.toNat=v∧rb s.2.1 e.f0=true∧1≤rk v∧rk v≤rk e.f0.toNat+1∧rd s.1 e.f0+e.f2≤s.1.getD v 0∧(T e.f0.toNat<T v∨rd s.1 e.f0+e.f2<s.1.getD v 0)
 C:s.2.2=false∨∃v,v<N∧s.2.1.getD v false=true∧rk v=k
def ZbK (E:List ZV):Prop:=∀e∈E,-1000000≤e.f2∧e.f2≤1000000
theorem ZbI {l:List Bool} {i j:Nat} (h:i≠j) (x d:Bool):(l.set i x).getD j d=l.getD j d:=by
 rw[List.getD_eq_getElem?_getD,List.getD_eq_getElem?_getD,List.getElem?_set_ne h]
theorem Zch {l:List Bool} {i:Nat} (h:i<l.length) (x d:Bool):(l.set i x).getD i d=x:=by
 rw[List.getD_eq_getElem?_getD,List.getElem?_set_self h];rfl
theorem Zb6 {l:List Bool} {i j:Nat} (h:l.getD j false=true):(l.set i true).getD j false=true:=by
 by_cases e:i=j
 ·subst e
  have:i<l.length:=by
   rcases Nat.lt_or_ge i l.length with h0|h0
   ·exact h0
   ·rw[List.getD_eq_getElem?_getD,List.getElem?_eq_none h0] at h;cases h
  exact Zch this _ _
 ·rw[ZbI e];exact h
theorem w64_id {i:Int} (h0 : -9223372036854775808≤i) (h:i≤9223372036854775807):wrap64 i=i:=by
 unfold wrap64;omega
theorem KInv.step {E:List ZV} {N k i t:Nat} {s:KSt} {lst rk T} (hE:ZaK E N) (hw:ZbK E) (ht:t≤1000000) (h:KInv E N k i t s lst rk T) {e:ZV} (he:E[i]? = some e):∃lst' rk' T',KInv E N k (i+1) (t+1) (ZbW s e) lst' rk' T':=by
 obtain⟨d,l,ch⟩:=s
 obtain⟨ld,ll,k1,R,TT,bd,A,B,C⟩:=h
 dsimp only at ld ll A B C bd
 have hin:=hE e (List.mem_of_getElem? he)
 have hwe:=hw e (List.mem_of_getElem? he)
 have hb0:=bd e.f0.toNat (by omega)
 have hww:wrap64 (rd d e.f0+e.f2)=rd d e.f0+e.f2:=by
  have:rd d e.f0=d.getD e.f0.toNat 0:=rfl
  rw[this];exact w64_id (by omega) (by omega)
 unfold ZbW
 dsimp only
 rw[hww]
 by_cases c:rb l e.f0=true∧(rb l e.f1=false∨rd d e.f0+e.f2<rd d e.f1)
 ·rw[if_pos c]
  obtain⟨cu,cv⟩:=c
  have eq1:rd (d.set e.f1.toNat (rd d e.f0+e.f2)) e.f1=rd d e.f0+e.f2:=Zau (by omega) _ _
  have ne1:∀x:Int,x.toNat≠e.f1.toNat→rd (d.set e.f1.toNat (rd d e.f0+e.f2)) x=rd d x:=fun x hx=>getD_set_ne (Ne.symm hx) _ _
  have eqb:rb (l.set e.f1.toNat true) e.f1=true:=Zch (by omega) _ _
  have neb:∀x:Int,x.toNat≠e.f1.toNat→rb (l.set e.f1.toNat true) x=rb l x:=fun x hx=>ZbI (Ne.symm hx) _ _
  refine⟨fun x=>if x=e.f1.toNat then some i else lst x,fun x=>if x=e.f1.toNat then k else rk x,fun x=>if x=e.f1.toNat then t+1 else T x,?_,?_,k1,?_,?_,?_,?_,?_,?_⟩
  ·simpa using ld
  ·simpa using ll
  ·intro v;show(if v=e.f1.toNat then k else rk v)≤k;split
   ·exact Nat.le_refl _
   ·exact R v
  ·intro v;show(if v=e.f1.toNat then t+1 else T v)≤t+1;split
   ·exact Nat.le_refl _
   ·have:=TT v;omega
  ·intro v hv
   dsimp only
   by_cases c1:v=e.f1.toNat
   ·subst c1
    rw[Zau (by omega)]
    have:rd d e.f0=d.getD e.f0.toNat 0:=rfl
    rw[this];omega
   ·rw[getD_set_ne (Ne.symm c1)]
    have:=bd v hv;omega
  ·intro j e' hj hkn hlt
   dsimp only at hlt hkn ⊢
   by_cases c0:e'.f0.toNat=e.f1.toNat
   ·rw[if_pos c0] at hlt;split at hlt <;> omega
   ·rw[if_neg c0] at hlt
    rw[neb _ c0] at hkn
    rw[ne1 _ c0]
    by_cases hji:j=i
    ·subst hji
     rw[he] at hj
     cases hj
     exact⟨eqb,by rw[eq1];exact Int.le_refl _⟩
    ·obtain⟨hA1,hA⟩:=A j e' hj hkn (by split at hlt <;> split <;> omega)
     refine⟨Zb6 hA1,?_⟩
     by_cases c1:e'.f1.toNat=e.f1.toNat
     ·have e1:rd (d.set e.f1.toNat (rd d e.f0+e.f2)) e'.f1=rd d e.f0+e.f2:=by unfold rd;rw[c1];exact Zau (by omega) _ _
      have e2:rd d e'.f1=rd d e.f1:=by unfold rd;rw[c1]
      have e3:rb l e'.f1=rb l e.f1:=by unfold rb;rw[c1]
      rw[e3] at hA1
      rcases cv with h0|h0
      ·rw[h0] at hA1;cases hA1
      ·rw[e1];omega
     ·rw[ne1 _ c1];exact hA
  ·intro v hv hkn
   dsimp only at hkn ⊢
   by_cases c1:v=e.f1.toNat
   ·right
    refine⟨i,e,by rw[if_pos c1],he,c1.symm,Zb6 cu,by rw[if_pos c1];exact k1,?_,?_,?_⟩
    ·rw[if_pos c1]
     split
     ·omega
     ·by_cases c2:rk e.f0.toNat<k - 1
      ·obtain⟨a1,a2⟩:=A i e he cu (by rw[if_neg (by omega)];exact c2)
       rcases cv with h0|h0
       ·rw[h0] at a1;cases a1
       ·omega
      ·omega
    ·rw[c1,Zau (by omega)]
     by_cases c2:e.f0.toNat=e.f1.toNat
     ·have e1:rd (d.set e.f1.toNat (rd d e.f0+e.f2)) e.f0=rd d e.f0+e.f2:=by unfold rd;rw[c2];exact Zau (by omega) _ _
      have e2:rd d e.f0=rd d e.f1:=by unfold rd;rw[c2]
      have e3:rb l e.f0=rb l e.f1:=by unfold rb;rw[c2]
      rw[e1]
      rcases cv with h0|h0
      ·rw[← e3,cu] at h0;cases h0
      ·omega
     ·rw[ne1 _ c2];exact Int.le_refl _
    ·by_cases c2:e.f0.toNat=e.f1.toNat
     ·right
      have e1:rd (d.set e.f1.toNat (rd d e.f0+e.f2)) e.f0=rd d e.f0+e.f2:=by unfold rd;rw[c2];exact Zau (by omega) _ _
      have e2:rd d e.f0=rd d e.f1:=by unfold rd;rw[c2]
      have e3:rb l e.f0=rb l e.f1:=by unfold rb;rw[c2]
      rw[c1,Zau (by omega),e1]
      rcases cv with h0|h0
      ·rw[← e3,cu] at h0;cases h0
      ·omega
     ·left
      rw[if_neg c2,if_pos c1]
      have:=TT e.f0.toNat;omega
   ·rw[ZbI (Ne.symm c1)] at hkn
    rw[if_neg c1,if_neg c1,if_neg c1,getD_set_ne (Ne.symm c1)]
    rcases B v hv hkn with hb|⟨j,e',h1,h2,h3,h4,h5,h6,h7,h8⟩
    ·exact Or.inl hb
    ·right
     refine⟨j,e',h1,h2,h3,Zb6 h4,h5,?_,?_,?_⟩
     ·split
      ·have:=R v;omega
      ·exact h6
     ·by_cases c2:e'.f0.toNat=e.f1.toNat
      ·have e1:rd (d.set e.f1.toNat (rd d e.f0+e.f2)) e'.f0=rd d e.f0+e.f2:=by unfold rd;rw[c2];exact Zau (by omega) _ _
       have e2:rd d e'.f0=rd d e.f1:=by unfold rd;rw[c2]
       have e3:rb l e'.f0=rb l e.f1:=by unfold rb;rw[c2]
       rw[e3] at h4
       rw[e1]
       rcases cv with h0|h0
       ·rw[h0] at h4;cases h4
       ·omega
      ·rw[ne1 _ c2];exact h7
     ·by_cases c2:e'.f0.toNat=e.f1.toNat
      ·right
       have e1:rd (d.set e.f1.toNat (rd d e.f0+e.f2)) e'.f0=rd d e.f0+e.f2:=by unfold rd;rw[c2];exact Zau (by omega) _ _
       have e2:rd d e'.f0=rd d e.f1:=by unfold rd;rw[c2]
       have e3:rb l e'.f0=rb l e.f1:=by unfold rb;rw[c2]
       rw[e3] at h4
       rw[e1]
       rcases cv with h0|h0
       ·rw[h0] at h4;cases h4
       ·omega
      ·rw[ne1 _ c2,if_neg c2];exact h8
  ·right
   exact⟨e.f1.toNat,by omega,eqb,if_pos rfl⟩
 ·rw[if_neg c]
  refine⟨lst,rk,T,ld,ll,k1,R,fun v=>by have:=TT v;omega,fun v hv=>by have:=bd v hv;show -(((t+1:Nat):Int) * 1000000)≤d.getD v 0∧d.getD v 0≤((t+1:Nat):Int) * 1000000;omega,?_,B,C⟩
  intro j e' hj hkn hlt
  by_cases hji:j=i
  ·subst hji
   rw[he] at hj
   cases hj
   dsimp only at hkn ⊢
   cases hv:rb l e.f1 with
   | false=>exact absurd ⟨hkn,Or.inl hv⟩ c
   | true=>
    refine⟨rfl,?_⟩
    apply Classical.byContradiction
    intro h0
    exact c ⟨hkn,Or.inr (by omega)⟩
  ·exact A j e' hj hkn (by split at hlt <;> split <;> omega)
theorem KInv.rnd {E:List ZV} {N k:Nat} (hE:ZaK E N) (hw:ZbK E):∀(n i t:Nat) (s:KSt) (lst rk T),i+n=E.length→t+n≤1000000→KInv E N k i t s lst rk T→∃lst' rk' T',KInv E N k E.length (t+n) (krnd (E.drop i) s) lst' rk' T':=by
 intro n
 induction n with
 | zero=>
  intro i t s lst rk T hn _ h
  obtain rfl:i=E.length:=by omega
  rw[List.drop_length];exact⟨lst,rk,T,h⟩
 | succ n ih=>
  intro i t s lst rk T hn ht h
  have hi:i<E.length:=by omega
  rw[List.drop_eq_getElem_cons hi]
  obtain⟨lst',rk',T',h'⟩:=h.step hE hw (by omega) (Zl hi)
  rw[show t+(n+1)=t+1+n by omega]
  exact ih (i+1) (t+1) _ _ _ _ (by omega) (by omega) h'
theorem KInv.next {E:List ZV} {N k t:Nat} {s:KSt} {lst rk T} (h:KInv E N k E.length t s lst rk T):KInv E N (k+1) 0 t (s.1,s.2.1,false) lst rk T:=by
 refine⟨h.ld,h.ll,by omega,fun v=>by have:=h.R v;omega,h.TT,h.bd,?_,h.B,Or.inl rfl⟩
 intro j e hj hkn hlt
 have hjl:=(List.getElem?_eq_some_iff.1 hj).1
 rw[if_neg (by omega)] at hlt
 exact h.A j e hj hkn (by rw[if_pos hjl];omega)
def kst0 (N:Nat) (a:Nat):KSt:=(List.replicate N 0,(List.replicate N false).set a true,false)
theorem KInv.start {E:List ZV} {N a:Nat}:KInv E N 1 0 0 (kst0 N a) (fun _=>none) (fun _=>0) (fun _=>0):=by
 refine⟨by simp[kst0],by simp[kst0],Nat.le_refl _,fun _=>by omega,fun _=>by omega,?_,?_,?_,Or.inl rfl⟩
 ·intro v hv;simp[kst0,List.getD_eq_getElem?_getD,hv]
 ·intro j e _ _ hlt;rw[if_neg (by omega)] at hlt;omega
 ·intro v _ _;exact Or.inl rfl
theorem KInv.after {E:List ZV} {N a:Nat} (hE:ZaK E N) (hw:ZbK E) (hl:E.length≤100):∀(r:Nat),r≤1000→∃lst rk T,KInv E N (r+1) E.length ((r+1) * E.length) (Zbk E (r+1) (kst0 N a)) lst rk T:=by
 intro r
 induction r with
 | zero=>
  intro _
  obtain⟨lst,rk,T,h⟩:=KInv.rnd hE hw E.length 0 0 _ _ _ _ (by omega) (by omega) (KInv.start (E:=E) (N:=N) (a:=a))
  refine⟨lst,rk,T,?_⟩
  rw[show(0+1) * E.length=0+E.length by omega]
  exact h
 | succ r ih=>
  intro hr
  obtain⟨lst,rk,T,h⟩:=ih (by omega)
  have hb:(r+1) * E.length+E.length≤1000000:=by
   have:(r+1) * E.length≤1001 * 100:=Nat.mul_le_mul (by omega) hl
   omega
  obtain⟨lst',rk',T',h'⟩:=KInv.rnd hE hw E.length 0 _ _ _ _ _ (by omega) hb h.next
  refine⟨lst',rk',T',?_⟩
  rw[show(r+1+1) * E.length=(r+1) * E.length+E.length by rw[Nat.add_mul (r+1) 1];omega,Zce]
  exact h'
theorem bf_still {E:List ZV} {N a:Nat} (hE:ZaK E N) (hw:ZbK E) (hl:E.length≤100) (hN:1≤N) (hN2:N≤1000) (p:Nat→Int) (hp:∀e∈E,p e.f1.toNat≤p e.f0.toNat+e.f2):(Zbk E N (kst0 N a)).2.2=false:=by
 obtain⟨m,rfl⟩:∃m,N=m+1:=⟨N - 1,by omega⟩
 obtain⟨lst,rk,T,h⟩:=KInv.after (N:=m+1) (a:=a) hE hw hl m (by omega)
 revert h
 generalize Zbk E (m+1) (kst0 (m+1) a)=s
 obtain⟨d,l,ch⟩:=s
 intro h
 rcases h.C with hc|⟨v0,hv0,hk0,hr0⟩
 ·exact hc
 exfalso
 let nx:Nat→Nat:=fun v=>match lst v with|some j=>(E.getD j zE).f0.toNat|none=>0
 let nd:Nat→Nat:=fun i=>Nat.rec v0 (fun _ v=>nx v) i
 have nds:∀i,nd (i+1)=nx (nd i):=fun i=>rfl
 have key:∀i,i≤m+1→nd i<m+1∧l.getD (nd i) false=true∧m+1≤rk (nd i)+i:=by
  intro i
  induction i with
  | zero=>intro _;exact⟨hv0,hk0,by show m+1≤rk v0+0;omega⟩
  | succ i ih=>
   intro hi
   obtain⟨h1,h2,h3⟩:=ih (by omega)
   rcases h.B _ h1 h2 with h4|⟨j,e,q1,q2,q3,q4,q5,q6,_,_⟩
   ·omega
   ·have hin:=hE e (List.mem_of_getElem? q2)
    have:nd (i+1)=e.f0.toNat:=by
     rw[nds];show(match lst (nd i) with|some j=>(E.getD j zE).f0.toNat|none=>0)=_
     rw[q1];simp only;rw[List.getD_eq_getElem?_getD,q2];rfl
    rw[this]
    exact⟨by omega,q4,by omega⟩
 have lex:∀i,i<m+1→d.getD (nd (i+1)) 0 - p (nd (i+1))<d.getD (nd i) 0 - p (nd i)∨(d.getD (nd (i+1)) 0 - p (nd (i+1))≤d.getD (nd i) 0 - p (nd i)∧T (nd (i+1))<T (nd i)):=by
  intro i hi
  obtain⟨h1,h2,h3⟩:=key i (by omega)
  rcases h.B _ h1 h2 with h4|⟨j,e,q1,q2,q3,q4,q5,q6,q7,q8⟩
  ·omega
  ·have hpe:=hp e (List.mem_of_getElem? q2)
   have:nd (i+1)=e.f0.toNat:=by
    rw[nds];show(match lst (nd i) with|some j=>(E.getD j zE).f0.toNat|none=>0)=_
    rw[q1];simp only;rw[List.getD_eq_getElem?_getD,q2];rfl
   rw[this]
   rw[q3] at hpe
   have e0:rd d e.f0=d.getD e.f0.toNat 0:=rfl
   dsimp only at q7 q8
   rw[e0] at q7 q8
   rcases q8 with q8|q8
   ·right;exact⟨by omega,q8⟩
   ·left;omega
 have lexs:∀n i,i+(n+1)≤m+1→d.getD (nd (i+(n+1))) 0 - p (nd (i+(n+1)))<d.getD (nd i) 0 - p (nd i)∨(d.getD (nd (i+(n+1))) 0 - p (nd (i+(n+1)))≤d.getD (nd i) 0 - p (nd i)∧T (nd (i+(n+1)))<T (nd i)):=by
  intro n
  induction n with
  | zero=>intro i hi;exact lex i (by omega)
  | succ n ih=>
   intro i hi
   have a1:=lex i (by omega)
   have a2:=ih (i+1) (by omega)
   rw[show i+1+(n+1)=i+(n+1+1) by omega] at a2
   rcases a1 with a1|⟨a1,a3⟩ <;> rcases a2 with a2|⟨a2,a4⟩
   ·left;omega
   ·left;omega
   ·left;omega
   ·right;exact⟨by omega,by omega⟩
 obtain⟨i,j,hij,hj,he⟩:=pigF (m+1) nd (fun i hi=>(key i hi).1)
 have:=lexs (j - i - 1) i (by omega)
 rw[show i+(j - i - 1+1)=j by omega,← he] at this
 omega
def turnB (E:List ZV) (l:List Int) (a N:Nat):Nat:=match (List.range N).find? (fun i=>bit E l (i+1) a == a) with|some i=>i+1|none=>0
theorem turnB_some {E:List ZV} {l:List Int} {a N:Nat} (h:∃q,1≤q∧q≤N∧bit E l q a=a):1≤turnB E l a N∧turnB E l a N≤N∧bit E l (turnB E l a N) a=a∧∀i,1≤i→i<turnB E l a N→bit E l i a≠a:=by
 unfold turnB
 cases hf:(List.range N).find? (fun i=>bit E l (i+1) a == a) with
 | none=>
  obtain⟨q,h1,h2,h3⟩:=h
  rw[List.find?_eq_none] at hf
  have:=hf (q - 1) (List.mem_range.2 (by omega))
  rw[show q - 1+1=q by omega,h3] at this
  simp at this
 | some i=>
  rw[List.find?_eq_some_iff_append] at hf
  obtain⟨hp,us,bs,he,hn⟩:=hf
  have hi:i=us.length∧i<N:=by
   have h1:(List.range N)[us.length]? = some i:=by rw[he];simp
   obtain⟨h2,h3⟩:=List.getElem?_eq_some_iff.1 h1
   rw[List.getElem_range] at h3
   rw[List.length_range] at h2
   omega
  refine⟨by simp,by simp only;omega,by simpa using hp,fun j h1 h2=>?_⟩
  simp only at h2
  have hm:j - 1∈us:=by
   have h3:(List.range N)[j - 1]? = some (j - 1):=by rw[List.getElem?_range (by omega)]
   rw[he,List.getElem?_append_left (by omega)] at h3
   exact List.mem_of_getElem? h3
  have:=hn _ hm
  rw[show j - 1+1=j by omega] at this
  simpa using this
def cycB (E:List ZV) (l:List Int) (a q:Nat):List Int:=(List.range q).map fun i=>l.getD (bit E l i a) 0
theorem cycB_succ (E:List ZV) (l:List Int) (a q:Nat):cycB E l a (q+1)=cycB E l a q ++ [l.getD (bit E l q a) 0]:=by
 unfold cycB
 rw[List.range_succ,List.map_append];rfl
theorem Zb7 (E:List ZV) (l:List Int) (a q:Nat):(cycB E l a q).length=q:=by simp[cycB]
def backB (E:List ZV) (N:Nat) (s:BSt):Nat:=bit E s.2.1 N (E.getD s.2.2.toNat zE).f1.toNat
def ncB (N:Nat) (E:List ZV):List Int:=let s:=rounds E N (bst0 N);if s.2.2<0 then[] else(cycB E s.2.1 (backB E N s) (turnB E s.2.1 (backB E N s) N)).reverse
theorem relax_len {E:BSt} {N i:Nat} {e:ZV} (h:E.1.length=N∧E.2.1.length=N):(Zbe E i e).1.length=N∧(Zbe E i e).2.1.length=N:=by
 unfold Zbe
 split
 ·simpa using h
 ·exact h
theorem bf_after {E:List ZV} {N:Nat} (hE:ZaK E N) (hN:1≤N) {d l:List Int} {ch:Int} (hs:(d,l,ch)=rounds E N (bst0 N)) :
  (ch=-1∧ncB N E=[])∨∃(c v q:Nat),ch=(c:Int)∧c<E.length∧v<N∧(E.getD c zE).f1=(v:Int)∧1≤q∧q≤N∧(∀m,bit E l m v<N∧0≤l.getD (bit E l m v) 0∧l.getD (bit E l m v) 0<E.length) ∧
   (∀m,bit E l (m+1) v=(E.getD (l.getD (bit E l m v) 0).toNat zE).f0.toNat)∧bit E l q (bit E l N v)=bit E l N v∧(∀i,1≤i→i<q→bit E l i (bit E l N v)≠bit E l N v)∧ncB N E=(cycB E l (bit E l N v) q).reverse:=by
 by_cases hc:ch=-1
 ·left
  refine⟨hc,?_⟩
  unfold ncB
  rw[← hs]
  simp[hc]
 ·right
  have hx:=bf_circle hE hN (by rw[← hs];exact hc)
  rw[← hs] at hx
  obtain⟨c,e,he,hce,hlt,hg,hga,hq⟩:=hx
  dsimp only at hce hlt hg hga hq
  have hcl:=(List.getElem?_eq_some_iff.1 he).1
  have hin:=hE e (List.mem_of_getElem? he)
  have hgd:E.getD c zE=e:=by rw[List.getD_eq_getElem?_getD,he];rfl
  have ht:=turnB_some hq
  have hall:∀m,Good E N l (bit E l m e.f1.toNat):=by
   intro m
   by_cases hm:m<N
   ·exact hg m hm
   ·have:=hga (m - N)
    rw[← ZaZ,show m - N+N=m by omega] at this
    exact this
  refine⟨c,e.f1.toNat,turnB E l (bit E l N e.f1.toNat) N,hce,hcl,by omega,by rw[hgd];omega,ht.1,ht.2.1,fun m=>?_,fun m=>rfl,ht.2.2.1,ht.2.2.2,?_⟩
  ·obtain⟨h1,j,e',hj,hl,_⟩:=hall m
   have:=(List.getElem?_eq_some_iff.1 hj).1
   exact⟨h1,by omega,by omega⟩
  ·unfold ncB backB
   rw[← hs]
   simp only
   rw[if_neg (by omega),show ch.toNat=c by omega,hgd]
abbrev IR (w:World) (B g n c:Nat) (xs:List Int):Prop:=Kd.R (Kd.int .i64) 3 w B (fun k=>k=g) (.slice (some ⟨g,0,none⟩) n c) xs
theorem IR.of {w:World} {B g n c:Nat} {ok:Nat→Prop} {xs:List Int} (h:Kd.R (Kd.int .i64) 3 w B ok (.slice (some ⟨g,0,none⟩) n c) xs):IR w B g n c xs:=
 ⟨fun k hk=>by simp[Value.ownBlock] at hk;exact hk.symm,h.2⟩
theorem IR.cell {w:World} {B g n c:Nat} {xs:List Int} (h:IR w B g n c xs) {i:Int} (h0:0≤i) (h1:i<n):w.cell? ⟨g,i.toNat,none⟩=some (.int .i64 (rd xs i))∧w.frozen? ⟨g,i.toNat,none⟩=false:=Kd.R_celln 0 h i h0 h1
theorem IR.put {w:World} {B g n c:Nat} {xs:List Int} (h:IR w B g n c xs) (i x:Int):IR (w.setCell ⟨g,i.toNat,none⟩ (.int .i64 x)) B g n c (xs.set i.toNat x):=Kd.R_putn h i x
theorem IR.far {w:World} {B g n c:Nat} {xs:List Int} (h:IR w B g n c xs) {p:Addr} (ne:g≠p.block) (u:Value):IR (w.setCell p u) B g n c xs:=Kd.R_far h (fun k hk=>by subst hk;exact ne) u
theorem IR.low {w w1:World} {B g n c:Nat} {xs:List Int} (h:IR w B g n c xs) (hb:Below w.heap.size w w1):IR w1 B g n c xs:=Kd.R_below h hb
theorem IR.lt {w:World} {B g n c:Nat} {xs:List Int} (h:IR w B g n c xs):g<w.heap.size:=Kd.R_lt h g (by simp[Value.ownBlock])
theorem IR.base {w:World} {B g n c:Nat} {xs:List Int} (h:IR w B g n c xs):B≤g:=Kd.R_base h g (by simp[Value.ownBlock])
theorem IR.reads {w:World} {B g n c:Nat} {xs:List Int} (h:IR w B g n c xs):n=xs.length∧n≤c∧Kd.C (Kd.int .i64) w (some ⟨g,0,none⟩) xs.length xs:=Kd.R_reads' h
abbrev BR (w:World) (B g n c:Nat) (xs:List Bool):Prop:=Kd.R Kd.bool 4 w B (fun k=>k=g) (.slice (some ⟨g,0,none⟩) n c) xs
theorem BR.of {w:World} {B g n c:Nat} {ok:Nat→Prop} {xs:List Bool} (h:Kd.R Kd.bool 4 w B ok (.slice (some ⟨g,0,none⟩) n c) xs):BR w B g n c xs:=
 ⟨fun k hk=>by simp[Value.ownBlock] at hk;exact hk.symm,h.2⟩
theorem BR.cell {w:World} {B g n c:Nat} {xs:List Bool} (h:BR w B g n c xs) {i:Int} (h0:0≤i) (h1:i<n):w.cell? ⟨g,i.toNat,none⟩=some (.bool (xs.getD i.toNat false))∧w.frozen? ⟨g,i.toNat,none⟩=false:=Kd.R_celln false h i h0 h1
theorem BR.put {w:World} {B g n c:Nat} {xs:List Bool} (h:BR w B g n c xs) (i:Int) (x:Bool):BR (w.setCell ⟨g,i.toNat,none⟩ (.bool x)) B g n c (xs.set i.toNat x):=Kd.R_putn h i x
theorem BR.far {w:World} {B g n c:Nat} {xs:List Bool} (h:BR w B g n c xs) {p:Addr} (ne:g≠p.block) (u:Value):BR (w.setCell p u) B g n c xs:=Kd.R_far h (fun k hk=>by subst hk;exact ne) u
theorem BR.low {w w1:World} {B g n c:Nat} {xs:List Bool} (h:BR w B g n c xs) (hb:Below w.heap.size w w1):BR w1 B g n c xs:=Kd.R_below h hb
theorem BR.lt {w:World} {B g n c:Nat} {xs:List Bool} (h:BR w B g n c xs):g<w.heap.size:=Kd.R_lt h g (by simp[Value.ownBlock])
theorem BR.base {w:World} {B g n c:Nat} {xs:List Bool} (h:BR w B g n c xs):B≤g:=Kd.R_base h g (by simp[Value.ownBlock])
end Go.Proofs.Ytpoffpdaadhkgaa.Pr
namespace Go.Proofs.Ytpoffpdaadhkgaa.Pr
open Go.RowKit Go.Proofs.YtpoffpdaadhkgaaW.PrintWords Go.Proofs.YtpoffpdaadhkgaaW.PrintLast Go.Proofs.YtpoffpdaadhkgaaW.PrintMore
attribute [local go_sem] Z7 Z5 Zaf Zae ZY ZX Z6 Z4
set_option linter.unusedVariables false
set_option linter.unusedSimpArgs false
open Go.Proofs.Ytpoffpdaadhkgaa.Ni
set_option maxHeartbeats 4000000 in
theorem Zdb.any (p:S148→Bool) (g:Nat) (lb:Array Value) (eg:∀args w,(callFunc g args).run Try.prog w=.ok (.enter g args) w) (A0:Option Addr) (c0:Nat) (l0:List S148) (w:World) (hr0:Kd.C k148 w A0 l0.length l0)
  (hp:∀(W:World) (x:S148),x∈l0→Below w.heap.size w W→Calls Try.prog g (#[.agg #[.int .i64 x.f0,.int .i64 x.f1,.int .i64 x.f2]] ++ lb) W fun e w'=>e=.returned (.bool (p x))∧Below W.heap.size W w') :
  Calls Try.prog 181 #[.slice A0 l0.length c0,.func (.func g) #[] lb] w fun e w'=>e=.returned (.int .i64 (Zbi p l0))∧Below w.heap.size w w':=by
 have HR0:=Za hr0;have HP:=Za hp;clear hr0 hp
 have HL:l0.length≤9223372036854775807:=HR0.out.2.1
 go_enter Try.func181,Try.ntmps181
 go_wp2
 go_loopg [5,8] l0.length (fun gg _ s8 wr=>∃kk:Nat,Aside0 (kk≤l0.length)∧Aside0 (l0.length - kk≤gg)∧s8=.int .i64 kk∧Aside0 (Below w.heap.size w wr)∧Aside0 (∀j y,j<kk→l0[j]? = some y→p y=false))
 case atStart=>exact⟨0,⟨Nat.zero_le _⟩,⟨by omega⟩,rfl,⟨Below.refl _ _⟩,⟨fun j y hj=>absurd hj (Nat.not_lt_zero _)⟩⟩
 case round=>
  obtain⟨kk,HK,HG,rfl,HB,HN⟩:=hrel
  by_cases hlt:kk<l0.length
  ·have hltz:(kk:Int)<(l0.length:Int):=by omega
   obtain⟨ad,e1,hx0,hx1,hx2⟩:=ZaU HR0.out (kk:Int) (by omega) hltz
   cases e1
   replace hx0:=(HB.out.cell (Zc w _ hx0)).trans hx0
   rw[Int.toNat_natCast] at hx0
   replace hx1:=(HB.out.cell (Zc w _ hx1)).trans hx1
   rw[Int.toNat_natCast] at hx1
   replace hx2:=(HB.out.cell (Zc w _ hx2)).trans hx2
   rw[Int.toNat_natCast] at hx2
   have hxe:l0[kk]? = some (ZW l0 (kk:Int)):=by
    unfold ZW
    rw[Int.toNat_natCast,List.getD_eq_getElem?_getD,Zl hlt];rfl
   generalize ZW l0 (kk:Int)=y at hx0 hx1 hx2 hxe
   have HX:=Za hxe;clear hxe
   have hcall:=HP.out wr y (List.mem_of_getElem? HX.out) HB.out
   cases hq:p y with
   | true=>
    have HQ:=Za hq
    rw[hq] at hcall
    clear hq
    go_wp2_with (go_at_fn g;refine hcall.mono ?_;rintro e w' ⟨rfl,hb⟩)
    go_ret
    exact⟨by rw[Zcf p l0 kk y HX.out HQ.out HN.out];rfl,HB.out.trans (hb.mono HB.out.size)⟩
   | false=>
    have HQ:=Za hq
    rw[hq] at hcall
    clear hq
    go_wp2_with (go_at_fn g;refine hcall.mono ?_;rintro e w' ⟨rfl,hb⟩)
    go_roundg (l0.length - (kk+1))
    case measure=>have:=HG.out;omega
    case rel=>
     refine⟨kk+1,⟨by omega⟩,⟨by omega⟩,by go_num,⟨HB.out.trans (hb.mono HB.out.size)⟩,⟨fun j y' hj hy=>?_⟩⟩
     by_cases e:j=kk
     ·subst e
      rw[HX.out] at hy
      cases hy
      exact HQ.out
     ·exact HN.out j y' (by omega) hy
  ·have hltz:¬(kk:Int)<(l0.length:Int):=by omega
   have:kk=l0.length:=by have:=HK.out;omega
   subst this
   go_wp2
   go_ret
   exact⟨by rw[Zb5 p l0 HN.out];rfl,HB.out⟩
set_option maxHeartbeats 4000000 in
theorem Zdc.any (p:S148→Bool) (g:Nat) (lb:Array Value) (eg:∀args w,(callFunc g args).run Try.prog w=.ok (.enter g args) w) (A0:Option Addr) (c0:Nat) (l0:List S148) (w:World) (hr0:Kd.C k148 w A0 l0.length l0)
  (hp:∀(W:World) (x:S148),x∈l0→Below w.heap.size w W→Calls Try.prog g (#[.agg #[.int .i64 x.f0,.int .i64 x.f1,.int .i64 x.f2]] ++ lb) W fun e w'=>e=.returned (.bool (p x))∧Below W.heap.size W w') :
  Calls Try.prog 161 #[.slice A0 l0.length c0,.func (.func g) #[] lb] w fun e w'=>e=.returned (.bool (l0.any p))∧Below w.heap.size w w':=by
 have HI:=Za (Zdb.any p g lb eg A0 c0 l0 w hr0 hp)
 clear hr0 hp
 have HE:=Za (Zcg p l0)
 go_enter Try.func161,Try.ntmps161
 go_wp2_with (go_at_call 181;refine HI.out.mono ?_;rintro e w' ⟨rfl,hb⟩)
 go_ret
 exact⟨by rw[← HE.out];rfl,hb⟩
end Go.Proofs.Ytpoffpdaadhkgaa.Pr
namespace Go.Proofs.Ytpoffpdaadhkgaa.Pr
open Go.RowKit Go.Proofs.YtpoffpdaadhkgaaW.PrintWords Go.Proofs.YtpoffpdaadhkgaaW.PrintLast Go.Proofs.YtpoffpdaadhkgaaW.PrintMore
attribute [local go_sem] Z7 Z5 Zaf Zae ZY ZX Z6 Z4
set_option linter.unusedVariables false
set_option linter.unusedSimpArgs false
def Za5.f (a0:Int):Option (Bool):=if a0 > (-1000000) then(some (decide (a0<1000000))) else(some false)
set_option maxHeartbeats 8000000 in
set_option maxRecDepth 100000 in
theorem Za5.calls (a0:Int) (r:Bool) (w:World) (h:Za5.f a0=some r) :
  Calls Try.prog 163 #[.int .i64 a0] w fun e w'=>e=.returned (.bool r)∧ZT w w':=by
 have H:(if a0 > (-1000000) then(some (decide (a0<1000000))) else(some false))=some r:=h
 clear h
 by_cases c2:a0 > (-1000000)
 ·rw[if_pos c2] at H
  have c2b0:decide ((-1000000)<a0)=true:=Ze c2
  clear c2
  obtain rfl:=Zg H
  go_enter Try.func163,Try.ntmps163
  go_wp2
  go_ret
  exact⟨by first|rfl|(simp;done)|(simp[*];done),by repeat(first|exact ZT.refl _|apply ZT.step)⟩
 ·rw[if_neg c2] at H
  have c2b0:decide ((-1000000)<a0)=false:=Zf c2
  clear c2
  obtain rfl:=Zg H
  go_enter Try.func163,Try.ntmps163
  go_wp2
  go_ret
  exact⟨by first|rfl|(simp;done)|(simp[*];done),by repeat(first|exact ZT.refl _|apply ZT.step)⟩
end Go.Proofs.Ytpoffpdaadhkgaa.Pr
namespace Go.Proofs.Ytpoffpdaadhkgaa.Pr
open Go.RowKit Go.Proofs.YtpoffpdaadhkgaaW.PrintWords Go.Proofs.YtpoffpdaadhkgaaW.PrintLast Go.Proofs.YtpoffpdaadhkgaaW.PrintMore
attribute [local go_sem] Z7 Z5 Zaf Zae ZY ZX Z6 Z4
set_option linter.unusedVariables false
set_option linter.unusedSimpArgs false
open Go.Proofs.Ytpoffpdaadhkgaa.Ni
def wgtB (x:Int):Bool:=decide (-1000000<x) && decide (x<1000000)
theorem wgt_f (x:Int):Za5.f x=some (wgtB x):=by
 unfold Za5.f wgtB
 by_cases h:x > -1000000
 ·rw[if_pos h,Ze (show(-1000000:Int)<x from h),Bool.true_and]
 ·rw[if_neg h,Zf (show ¬(-1000000:Int)<x from h),Bool.false_and]
theorem isWeight_q (x:Int) (w:World):Calls Try.prog 163 #[.int .i64 x] w fun e w'=>e=.returned (.bool (wgtB x))∧∃m,w'=w.drewN m:=
 (Za5.calls x _ w (wgt_f x)).mono fun _ _ ⟨he,hd⟩=>⟨he,hd.out⟩
def ZaL (n:Int) (x:S148):Bool:=inN n x.f0 && (inN n x.f1 && wgtB x.f2)
def ZaE (n:Int) (ls:List S148):Bool:=!(decide (n<0)) && (!(decide (8<n)) && (!(decide (80<ls.length)) && !(ls.any fun x=>!ZaL n x)))
def ZbH.f (a0_0:Int) (l0_1:List (S148)):Option Bool:=some (ZaE a0_0 l0_1)
set_option maxHeartbeats 4000000 in
theorem ZcT.clo (B:Nat) (n:Int) (W:World) (hB:W.cell? ⟨B,0,none⟩=some (.int .i64 n)) (x:S148) :
  Calls Try.prog 162 #[.agg #[.int .i64 x.f0,.int .i64 x.f1,.int .i64 x.f2],.pointer (some ⟨B,0,none⟩)] W fun e w'=>e=.returned (.bool (!ZaL n x))∧Below W.heap.size W w':=by
 have hlt:B<W.heap.size:=Zc W _ hB
 have hu:=Try.underlying148
 have hu3:=Try.underlying95
 obtain⟨f0,f1,f2⟩:=x
 have HE:=Za (show ZaL n ⟨f0,f1,f2⟩=(inN n f0 && (inN n f1 && wgtB f2)) from rfl)
 cases b1:inN n f0 with
 | false=>
  have HF:=Za (show ZaL n ⟨f0,f1,f2⟩=false by rw[HE.out,b1];rfl)
  clear HE
  go_enter Try.func162,Try.ntmps162
  go_wp2_with (go_at_call 71;refine(Zbr _ _ _).mono ?_;rintro e w' ⟨rfl,nd,rfl⟩)
  go_ret
  exact⟨by rw[HF.out];rfl,by repeat(first|exact Below.refl _ _|apply Zp|apply Zm|apply ZaB)⟩
 | true=>
 cases b2:inN n f1 with
 | false=>
  have HF:=Za (show ZaL n ⟨f0,f1,f2⟩=false by rw[HE.out,b1,b2];rfl)
  clear HE
  go_enter Try.func162,Try.ntmps162
  go_wp2_with (go_at_call 71;refine(Zbr _ _ _).mono ?_;rintro e w' ⟨rfl,nd,rfl⟩)
  go_ret
  exact⟨by rw[HF.out];rfl,by repeat(first|exact Below.refl _ _|apply Zp|apply Zm|apply ZaB)⟩
 | true=>
 have HF:=Za (show ZaL n ⟨f0,f1,f2⟩=wgtB f2 by rw[HE.out,b1,b2];rfl)
 clear HE
 go_enter Try.func162,Try.ntmps162
 go_wp2_with (first|(go_at_call 71;refine(Zbr _ _ _).mono ?_;rintro e w' ⟨rfl,nd,rfl⟩)|(go_at_call 163;refine(isWeight_q _ _).mono ?_;rintro e w' ⟨rfl,nd,rfl⟩))
 go_ret
 exact⟨by rw[HF.out];rfl,by repeat(first|exact Below.refl _ _|apply Zp|apply Zm|apply ZaB)⟩
set_option maxHeartbeats 4000000 in
set_option maxRecDepth 100000 in
theorem ZbH.calls (a0_0:Int) (A0_1:Option Addr) (c0_1:Nat) (l0_1:List (S148)) (r:Bool) (w:World) (hr0_1:Kd.C k148 w A0_1 l0_1.length l0_1) (hc0_1:l0_1.length≤c0_1) (h:ZbH.f a0_0 l0_1=some r) :
  Calls Try.prog 114 #[.agg #[.int .i64 a0_0,.slice A0_1 l0_1.length c0_1]] w fun e w'=>e=.returned (.bool r)∧Below w.heap.size w w':=by
 obtain rfl:=Zg h
 have hL:l0_1.length≤9223372036854775807:=hr0_1.2.1
 have HC:=Za fun (W:World) (B:Nat) (hb:Below w.heap.size w W) (hcell:W.cell? ⟨B,0,none⟩=some (.int .i64 a0_0))=>Zdc.any (fun x=>!ZaL a0_0 x) 162 #[.pointer (some ⟨B,0,none⟩)] (enters_of Try.func162 (by kernel_rfl) rfl) A0_1 c0_1 l0_1 W (Zb hr0_1 hb)
    (fun W' x _ hb'=>ZcT.clo B a0_0 W' (ZO hb' hcell) x)
 have hu:=Try.underlying95
 have HB:=Za (Zp (Below.refl w.heap.size w) (.cells #[.int .i64 a0_0,.slice A0_1 l0_1.length c0_1] 95))
 clear hr0_1 h
 cases b1:decide (a0_0<0) with
 | true=>
  have HF:=Za (show ZaE a0_0 l0_1=false by unfold ZaE;rw[b1];rfl)
  go_enter Try.func114,Try.ntmps114
  go_wp2
  go_ret
  exact⟨by rw[HF.out];rfl,HB.out⟩
 | false=>
 cases b2:decide (8<a0_0) with
 | true=>
  have HF:=Za (show ZaE a0_0 l0_1=false by unfold ZaE;rw[b1,b2];rfl)
  go_enter Try.func114,Try.ntmps114
  go_wp2
  go_ret
  exact⟨by rw[HF.out];rfl,HB.out⟩
 | false=>
 by_cases q3:80<l0_1.length
 ·have b3:decide (80<l0_1.length)=true:=Ze q3
  have z3:(80:Int)<(l0_1.length:Int):=by omega
  have HF:=Za (show ZaE a0_0 l0_1=false by unfold ZaE;rw[b1,b2,b3];rfl)
  clear b3 q3
  go_enter Try.func114,Try.ntmps114
  go_wp2
  go_ret
  exact⟨by rw[HF.out];rfl,HB.out⟩
 ·have b3:decide (80<l0_1.length)=false:=Zf q3
  have z3:¬(80:Int)<(l0_1.length:Int):=by omega
  have HF:=Za (show ZaE a0_0 l0_1=!(l0_1.any fun x=>!ZaL a0_0 x) by unfold ZaE;rw[b1,b2,b3];rfl)
  clear b3 q3
  generalize l0_1.any (fun x=>!ZaL a0_0 x)=q at HC HF
  go_enter Try.func114,Try.ntmps114
  go_wp2_with fail
  refine(HC.out _ _ HB.out (by go_simp)).mono ?_
  rintro e w' ⟨rfl,hb⟩
  go_wp2
  go_ret
  exact⟨by rw[HF.out];rfl,HB.out.trans (hb.mono HB.out.size)⟩
end Go.Proofs.Ytpoffpdaadhkgaa.Pr
namespace Go.Proofs.Ytpoffpdaadhkgaa.Pr
open Go.RowKit Go.Proofs.YtpoffpdaadhkgaaW.PrintWords Go.Proofs.Ytpoffpdaadhkgaa.Ni
theorem graphB_in {n:Int} {E:List ZV} (h:ZaE n E=true):0≤n∧n≤8∧E.length≤80∧∀e∈E,0≤e.f0∧e.f0<n∧0≤e.f1∧e.f1<n∧-1000000<e.f2∧e.f2<1000000:=by
 unfold ZaE at h
 simp only[Bool.and_eq_true,Bool.not_eq_true',decide_eq_false_iff_not] at h
 obtain⟨h1,h2,h3,h4⟩:=h
 refine⟨by omega,by omega,by omega,fun e he=>?_⟩
 have:=List.any_eq_false.1 h4 e he
 unfold ZaL wgtB inN at this
 simp at this
 omega
end Go.Proofs.Ytpoffpdaadhkgaa.Pr
