/- The texts of one claim, put together by a program of this session. -/
import Derived.Deep.LoopGhost
import Derived.Deep.RegionHeld3
import Derived.Test.YtpoffpdaadhkgaaBCec1x1
import Derived.Test.YtpoffpdaadhkgaaBCec1x2
import Derived.Test.YtpoffpdaadhkgaaBCec1x5
import Derived.Test.YtpoffpdaadhkgaaBCec1x6
import Derived.Test.YtpoffpdaadhkgaaBCec1x7
import Derived.Test.YtpoffpdaadhkgaaBCec1x8
namespace Go.Proofs.Ytpoffpdaadhkgaa.Pr
open Go.RowKit Go.Proofs.YtpoffpdaadhkgaaW.PrintWords Go.Proofs.YtpoffpdaadhkgaaW.PrintLast Go.Proofs.YtpoffpdaadhkgaaW.PrintMore
attribute [local go_sem] Z7 Z5 Zaf Zae ZY ZX Z6 Z4
set_option linter.unusedVariables false
set_option linter.unusedSimpArgs false
def ZQ.l0:Nat→List (S148)→List Int→List (S101)→Int→Int→Option ((List (S148))×List Int)
 | 0,_,_,_,_,_=>none
 | k+1,x4,x5,x11,x12,x13=>if x13<x12 then(if 0≤x13 then(if x13<(x11.length:Int) then(if ((Zt x11 x13).f2.f1)=1000000 then(if ((Zt x11 x13).f2.f0)=(-1000000) then(ZQ.l0 k x4 x5 x11 x12 (wrap64 (x13+1))) else(if x4.length<5864062014805 then(if x5.length<17592186044416 then(ZQ.l0 k (x4 ++ [(⟨(Zt x11 x13).f1,(Zt x11 x13).f0,wrap64 (-((Zt x11 x13).f2.f0))⟩:S148)]) (x5 ++ [x13]) x11 x12 (wrap64 (x13+1))) else(none)) else(none))) else(if x4.length<5864062014805 then((some (x4 ++ [(⟨(Zt x11 x13).f0,(Zt x11 x13).f1,(Zt x11 x13).f2.f1⟩:S148)]:List (S148))).bind fun y168016=>(if x5.length<17592186044416 then((some (x5 ++ [x13]:List Int)).bind fun y168019=>(if ((Zt x11 x13).f2.f0)=(-1000000) then(ZQ.l0 k y168016 y168019 x11 x12 (wrap64 (x13+1))) else(if y168016.length<5864062014805 then(if y168019.length<17592186044416 then(ZQ.l0 k (y168016 ++ [(⟨(Zt x11 x13).f1,(Zt x11 x13).f0,wrap64 (-((Zt x11 x13).f2.f0))⟩:S148)]) (y168019 ++ [x13]) x11 x12 (wrap64 (x13+1))) else(none)) else(none)))) else(none))) else(none))) else(none)) else(none)) else(some (x4,x5))
def ZQ.f (k:Nat) (a0_0:Int) (l0_1:List (S101)):Option ((List (S148))×List Int):=ZQ.l0 k (([]:List (S148))) (([]:List Int)) l0_1 (l0_1.length:Int) 0
set_option maxHeartbeats 8000000 in
set_option maxRecDepth 100000 in
theorem ZQ.calls (k:Nat) (a0_0:Int) (A0_1:Option Addr) (c0_1:Nat) (l0_1:List (S101)) (r1:List (S148)) (r2:List Int) (w:World) (hr0_1:Kd.C k101 w A0_1 l0_1.length l0_1) (hc0_1:l0_1.length≤c0_1) (h:ZQ.f k a0_0 l0_1=some (r1,r2)) :
  Calls Try.prog 168 #[.agg #[.int .i64 a0_0,.slice A0_1 l0_1.length c0_1]] w fun e w'=>∃v0_ v1_:Value,e=.returned (.tuple #[v0_,v1_])∧Kd.R k148 148 w' w.heap.size (fun _=>True) v0_ r1∧Kd.R (Kd.int .i64) 3 w' w.heap.size (fun _=>True) v1_ r2∧Below w.heap.size w w':=by
 have hu25:=Try.underlying25
 have hu101:=Try.underlying101
 have hu148:=Try.underlying148
 have HR0_1:=Za hr0_1;have HC0_1:=Za hc0_1;clear hr0_1 hc0_1
 have HB:=Za (Below.refl w.heap.size w)
 have H:(ZQ.l0 k (([]:List (S148))) (([]:List Int)) l0_1 (l0_1.length:Int) 0)=some (r1,r2):=h
 clear h
 obtain⟨y168002,hy168002⟩:∃y_:List (S148),y_=(([]:List (S148))):=⟨_,rfl⟩
 replace H:(ZQ.l0 k y168002 (([]:List Int)) l0_1 (l0_1.length:Int) 0)=some (r1,r2):=by first|(rw[hy168002];with_reducible exact H)|(have H2_:=(Zi _ _).symm.trans H;rw[hy168002];with_reducible exact H2_)|(have H2_:=(Zi _ _).symm.trans H;with_reducible exact H2_)|with_reducible exact H|(rw[hy168002];exact H)|exact H
 have Ny168002:=Za hy168002;clear hy168002
 obtain⟨y168005,hy168005⟩:∃y_:List Int,y_=(([]:List Int)):=⟨_,rfl⟩
 replace H:(ZQ.l0 k y168002 y168005 l0_1 (l0_1.length:Int) 0)=some (r1,r2):=by first|(rw[hy168005];with_reducible exact H)|(have H2_:=(Zi _ _).symm.trans H;rw[hy168005];with_reducible exact H2_)|(have H2_:=(Zi _ _).symm.trans H;with_reducible exact H2_)|with_reducible exact H|(rw[hy168005];exact H)|exact H
 have Ny168005:=Za hy168005;clear hy168005
 have H':=Za H
 clear H
 go_enter Try.func168,Try.ntmps168
 go_wp2_with (first|((with_reducible refine ZD (N:=1) rfl ?_);refine ZE ?hg (N:=1) ?hd (cs:=#[.int .i64 a0_0,.slice A0_1 l0_1.length c0_1]) (t:=25) ?hr ?_;(case hd=>rfl);(case hg=>rfl);(case hr=>first|(go_simp;done)|(go_simp;rfl));intro gb168001 hg w2 hbox hb;have n0_:=Za (Zx (by repeat(first|(with_reducible first|exact HB.out|apply Zp|apply Zm|apply Zr)|exact HB.out)) hb);have n1_:=Za (hbox);have n2_:=Za ((by rw[hg];exact(Zw (by repeat(first|(with_reducible first|exact HB.out|apply Zp|apply Zm|apply Zr)|exact HB.out))):w.heap.size≤gb168001));have n3_:=Za ((by rw[hg];exact(Zw (by repeat(first|(with_reducible first|exact HB.out|apply Zp|apply Zm|apply Zr)|exact HB.out))):w.heap.size≤gb168001));clear HB;have HB:=n0_;have BK168001:=n1_;have GW168001:=n2_;have GE168001:=n3_;clear n0_ n1_ n2_ n3_;clear hb hbox hg)|((with_reducible refine ZD (N:=8) rfl ?_);refine Kd.R_lit k148 _ 148 ?hg (N:=8) ?hd (xs:=([]:List (S148))) (inner:=[]) (ok:=fun _=>True) (okp:=fun _=>True) ?hr ?hp (fun _ hk=>hk) trivial (Below.refl _ _) (Nat.le_refl _) (by simp) ?_;(case hd=>rfl);(case hg=>rfl);(case hr=>first|(go_simp;done)|(go_simp;rfl));(case hp=>exact(Reps.none _ _));intro v168003 w3 ho4 hb hg_ hnew_;clear hg_ hnew_;(first|rw[← Ny168002.out] at ho4|(simp only[Int.reduceToNat] at ho4;rw[← Ny168002.out] at ho4));have n0_:=Za (Kd.R_lower ho4 (Zw (by repeat(first|(with_reducible first|exact HB.out|apply Zp|apply Zm|apply Zr|refine Zq ?_ GE168001.out)|exact HB.out))));have n1_:=Za (Zy (g:=gb168001) (o:=.cells #[.int .i64 a0_0,.slice A0_1 l0_1.length c0_1] 25 (0,0)) (by(with_reducible repeat(first|refine Zn ?_ _|refine Zs ?_|refine Zo ?_ _));exact BK168001.out) hb);have n2_:=Za (Zx (by repeat(first|(with_reducible first|exact HB.out|apply Zp|apply Zm|apply Zr|refine Zq ?_ GE168001.out)|exact HB.out)) hb);clear BK168001;clear HB;have HO168004:=n0_;have BK168001:=n1_;have HB:=n2_;clear n0_ n1_ n2_;clear hb ho4)|((with_reducible refine ZD (N:=9) rfl ?_);refine Kd.R_lit (Kd.int .i64) _ 3 ?hg (N:=9) ?hd (xs:=([]:List Int)) (inner:=[]) (ok:=fun _=>True) (okp:=fun _=>True) ?hr ?hp (fun _ hk=>hk) trivial (Below.refl _ _) (Nat.le_refl _) (by simp) ?_;(case hd=>rfl);(case hg=>rfl);(case hr=>first|(go_simp;done)|(go_simp;rfl));(case hp=>exact(Reps.none _ _));intro v168006 w5 ho6 hb hg_ hnew_;clear hg_ hnew_;(first|rw[← Ny168005.out] at ho6|(simp only[Int.reduceToNat] at ho6;rw[← Ny168005.out] at ho6));have n0_:=Za (Kd.R_below (by(with_reducible repeat(first|apply Kd.R_alloc|apply Kd.R_drewN|apply Kd.R_drew));exact HO168004.out) hb);have n1_:=Za (Kd.R_lower ho6 (Zw (by repeat(first|(with_reducible first|exact HB.out|apply Zp|apply Zm|apply Zr|refine Zq ?_ GE168001.out)|exact HB.out))));have n2_:=Za (Zy (g:=gb168001) (o:=.cells #[.int .i64 a0_0,.slice A0_1 l0_1.length c0_1] 25 (0,0)) (by(with_reducible repeat(first|refine Zn ?_ _|refine Zs ?_|refine Zo ?_ _));exact BK168001.out) hb);have n3_:=Za (Zx (by repeat(first|(with_reducible first|exact HB.out|apply Zp|apply Zm|apply Zr|refine Zq ?_ GE168001.out)|exact HB.out)) hb);clear HO168004;clear BK168001;clear HB;have HO168004:=n0_;have HO168007:=n1_;have BK168001:=n2_;have HB:=n3_;clear n0_ n1_ n2_ n3_;clear hb ho6;have hcz7_0:w5.cell? ⟨gb168001,0,none⟩=some (.int .i64 a0_0):=(Zv BK168001.out 0).trans rfl;have hcz7_1:w5.cell? ⟨gb168001,1,none⟩=some (.slice A0_1 l0_1.length c0_1):=(Zv BK168001.out 1).trans rfl;have hfz7_0:=Zu BK168001.out 0;have hfz7_1:=Zu BK168001.out 1))
 go_loopg [4,5,13] k (fun kq v4 v5 v13 w'=>∃(x4_1:List (S148)) (x5_1:List Int) (x13_1:Int),v13=.int .i64 x13_1∧Aside0 (ZQ.l0 kq x4_1 x5_1 l0_1 (l0_1.length:Int) x13_1=some (r1,r2))∧Aside0 (kq≤k)∧Aside0 (Kd.R k148 148 w' w.heap.size (fun _=>True) v4 x4_1)∧Aside0 (Kd.R (Kd.int .i64) 3 w' w.heap.size (fun _=>True) v5 x5_1)∧Aside0 (w'.heap[gb168001]? = some (.cells #[.int .i64 a0_0,(.slice A0_1 l0_1.length c0_1)] 25 (0,0)))∧Aside0 (Below w.heap.size w w'))
 case atStart=>exact⟨(y168002),(y168005),(0),(by first|rfl|(simp;done)|(simp[*];done)),H',⟨Nat.le_refl _⟩,⟨by(with_reducible repeat(first|apply Kd.R_alloc|apply Kd.R_drewN|apply Kd.R_drew));exact HO168004.out⟩,⟨by(with_reducible repeat(first|apply Kd.R_alloc|apply Kd.R_drewN|apply Kd.R_drew));exact HO168007.out⟩,⟨by(with_reducible repeat(first|refine Zn ?_ _|refine Zs ?_|refine Zo ?_ _));exact BK168001.out⟩,⟨by repeat(first|(with_reducible first|exact HB.out|apply Zp|apply Zm|apply Zr|refine Zq ?_ GE168001.out)|exact HB.out)⟩⟩
 case round=>
  clear H'
  try clear c1
  try clear p2
  try clear hcz7_0
  try clear hcz7_1
  try clear hfz7_0
  try clear hfz7_1
  obtain⟨x4_1,x5_1,x13_1,rfl,HA,HK1,HO_4,HO_5,BK168001,HB⟩:=hrel
  cases gk with
  | zero=>exact absurd HA.out (by simp[ZQ.l0])
  | succ k1=>
   have H:=HA.out
   clear HA
   simp only[ZQ.l0] at H
   by_cases c8:x13_1<(l0_1.length:Int)
   ·rw[if_pos c8] at H
    have c8b0:decide (x13_1<(l0_1.length:Int))=true:=Ze c8
    clear c8
    by_cases c9:0≤x13_1
    ·rw[if_pos c9] at H
     have c9b0:decide (0≤x13_1)=true:=Ze c9
     clear c9
     by_cases c10:x13_1<(l0_1.length:Int)
     ·rw[if_pos c10] at H
      have c10b0:decide (x13_1<(l0_1.length:Int))=true:=Ze c10
      clear c10
      by_cases c11:((Zt l0_1 x13_1).f2.f1)=1000000
      ·rw[if_pos c11] at H
       have c11b0:(((Zt l0_1 x13_1).f2.f1) == 1000000)=true:=beq_iff_eq.mpr c11
       have c11b1:(((Zt l0_1 x13_1).f2.f1) != 1000000)=false:=bne_eq_false_iff_eq.mpr c11
       clear c11
       by_cases c12:((Zt l0_1 x13_1).f2.f0)=(-1000000)
       ·rw[if_pos c12] at H
        have c12b0:(((Zt l0_1 x13_1).f2.f0) == (-1000000))=true:=beq_iff_eq.mpr c12
        have c12b1:(((Zt l0_1 x13_1).f2.f0) != (-1000000))=false:=bne_eq_false_iff_eq.mpr c12
        clear c12
        have H':=Za H
        clear H
        have p168008:0≤(x13_1:Int):=Zd (by first|(with_reducible assumption)|assumption)
        have q168008:x13_1<(l0_1.length:Int):=Zd (by first|(with_reducible assumption)|assumption)
        obtain⟨ad168008,e168008,hx168008_0,hx168008_1,hx168008_2,hx168008_3⟩:=ZaF HR0_1.out x13_1 p168008 q168008
        cases e168008
        replace hx168008_0:=(HB.out.cell (Zc w _ hx168008_0)).trans hx168008_0
        replace hx168008_1:=(HB.out.cell (Zc w _ hx168008_1)).trans hx168008_1
        replace hx168008_2:=(HB.out.cell (Zc w _ hx168008_2)).trans hx168008_2
        replace hx168008_3:=(HB.out.cell (Zc w _ hx168008_3)).trans hx168008_3
        replace p168008:=eq_true p168008
        replace q168008:=eq_true q168008
        go_wp2_with (first|((with_reducible refine ZD (N:=7) rfl ?_);refine ZE ?hg (N:=7) ?hd (cs:=#[.int .i64 0,.int .i64 0,.int .i64 0,.int .i64 0]) (t:=101) ?hr ?_;(case hd=>rfl);(case hg=>rfl);(case hr=>first|(go_simp;done)|(go_simp;rfl));intro gb168009 hg w13 hbox hb;have n0_:=Za (Kd.R_below (by(with_reducible repeat(first|apply Kd.R_alloc|apply Kd.R_drewN|apply Kd.R_drew));exact HO_4.out) hb);have n1_:=Za (Kd.R_below (by(with_reducible repeat(first|apply Kd.R_alloc|apply Kd.R_drewN|apply Kd.R_drew));exact HO_5.out) hb);have n2_:=Za (Zy (g:=gb168001) (o:=.cells #[.int .i64 a0_0,.slice (some ad168008) l0_1.length c0_1] 25 (0,0)) (by(with_reducible repeat(first|refine Zn ?_ _|refine Zs ?_|refine Zo ?_ _));exact BK168001.out) hb);have n3_:=Za (Zx (by repeat(first|(with_reducible first|exact HB.out|apply Zp|apply Zm|apply Zr|refine Zq ?_ GE168001.out)|exact HB.out)) hb);have n4_:=Za (hbox);have n5_:=Za ((by rw[hg];exact(Zw (by repeat(first|(with_reducible first|exact HB.out|apply Zp|apply Zm|apply Zr|refine Zq ?_ GE168001.out)|exact HB.out))):w.heap.size≤gb168009));have n6_:=Za ((by rw[hg];exact(Zw (by repeat(first|(with_reducible first|exact HB.out|apply Zp|apply Zm|apply Zr|refine Zq ?_ GE168001.out)|exact HB.out))):w.heap.size≤gb168009));have n7_:=Za ((by rw[hg];exact Nat.ne_of_lt (ZC (g:=gb168001) (o:=.cells #[.int .i64 a0_0,.slice (some ad168008) l0_1.length c0_1] 25 (0,0)) (by(with_reducible repeat(first|refine Zn ?_ _|refine Zs ?_|refine Zo ?_ _));exact BK168001.out)):gb168001≠gb168009));have n8_:=Za ((by rw[hg];exact Nat.ne_of_gt (ZC (g:=gb168001) (o:=.cells #[.int .i64 a0_0,.slice (some ad168008) l0_1.length c0_1] 25 (0,0)) (by(with_reducible repeat(first|refine Zn ?_ _|refine Zs ?_|refine Zo ?_ _));exact BK168001.out)):gb168009≠gb168001));clear HO_4;clear HO_5;clear BK168001;clear HB;have HO_4:=n0_;have HO_5:=n1_;have BK168001:=n2_;have HB:=n3_;have BK168009:=n4_;have GW168009:=n5_;have GE168009:=n6_;have NB168001_168009:=n7_;have NB168009_168001:=n8_;clear n0_ n1_ n2_ n3_ n4_ n5_ n6_ n7_ n8_;clear hb hbox hg;have hnb14:=NB168009_168001.out;have hnc14:=NB168001_168009.out;have hcz15_0:w13.cell? ⟨gb168009,0,none⟩=some (.int .i64 0):=(Zv BK168009.out 0).trans rfl;have hcz15_1:w13.cell? ⟨gb168009,1,none⟩=some (.int .i64 0):=(Zv BK168009.out 1).trans rfl;have hcz15_2:w13.cell? ⟨gb168009,2,none⟩=some (.int .i64 0):=(Zv BK168009.out 2).trans rfl;have hcz15_3:w13.cell? ⟨gb168009,3,none⟩=some (.int .i64 0):=(Zv BK168009.out 3).trans rfl;have hfz15_0:=Zu BK168009.out 0;have hfz15_1:=Zu BK168009.out 1;have hfz15_2:=Zu BK168009.out 2;have hfz15_3:=Zu BK168009.out 3))
        go_roundg k1
        case measure=>have:=HK1.out;omega
        case rel=>exact⟨(x4_1),(x5_1),(wrap64 (x13_1+1)),(by first|rfl|(simp;done)|(simp[*];done)),H',⟨by have:=HK1.out;omega⟩,⟨by(with_reducible repeat(first|apply Kd.R_alloc|apply Kd.R_drewN|apply Kd.R_drew));exact Kd.R_mono (Kd.R_far (p:=⟨gb168009,3,none⟩) (Kd.R_far (p:=⟨gb168009,2,none⟩) (Kd.R_far (p:=⟨gb168009,1,none⟩) (Kd.R_far (p:=⟨gb168009,0,none⟩) (Kd.R_types HO_4.out BK168009.out (by decide)) (fun _ hk=>hk.2) (.int .i64 ((Zt l0_1 x13_1).f0))) (fun _ hk=>hk.2) (.int .i64 ((Zt l0_1 x13_1).f1))) (fun _ hk=>hk.2) (.int .i64 ((Zt l0_1 x13_1).f2.f0))) (fun _ hk=>hk.2) (.int .i64 ((Zt l0_1 x13_1).f2.f1))) (fun _ hk=>trivial)⟩,⟨by(with_reducible repeat(first|apply Kd.R_alloc|apply Kd.R_drewN|apply Kd.R_drew));exact Kd.R_mono (Kd.R_far (p:=⟨gb168009,3,none⟩) (Kd.R_far (p:=⟨gb168009,2,none⟩) (Kd.R_far (p:=⟨gb168009,1,none⟩) (Kd.R_far (p:=⟨gb168009,0,none⟩) (Kd.R_types HO_5.out BK168009.out (by decide)) (fun _ hk=>hk.2) (.int .i64 ((Zt l0_1 x13_1).f0))) (fun _ hk=>hk.2) (.int .i64 ((Zt l0_1 x13_1).f1))) (fun _ hk=>hk.2) (.int .i64 ((Zt l0_1 x13_1).f2.f0))) (fun _ hk=>hk.2) (.int .i64 ((Zt l0_1 x13_1).f2.f1))) (fun _ hk=>trivial)⟩,⟨by(with_reducible repeat(first|refine Zn ?_ _|refine Zs ?_|refine Zo ?_ _));refine ZB ?_ NB168001_168009.out _;(with_reducible repeat(first|refine Zn ?_ _|refine Zs ?_|refine Zo ?_ _));refine ZB ?_ NB168001_168009.out _;(with_reducible repeat(first|refine Zn ?_ _|refine Zs ?_|refine Zo ?_ _));refine ZB ?_ NB168001_168009.out _;(with_reducible repeat(first|refine Zn ?_ _|refine Zs ?_|refine Zo ?_ _));refine ZB ?_ NB168001_168009.out _;(with_reducible repeat(first|refine Zn ?_ _|refine Zs ?_|refine Zo ?_ _));exact BK168001.out⟩,⟨by repeat(first|(with_reducible first|exact HB.out|apply Zp|apply Zm|apply Zr|refine Zq ?_ GE168001.out|refine Zq ?_ GE168009.out)|exact HB.out)⟩⟩
       ·rw[if_neg c12] at H
        have c12b0:(((Zt l0_1 x13_1).f2.f0) == (-1000000))=false:=beq_eq_false_iff_ne.mpr c12
        have c12b1:(((Zt l0_1 x13_1).f2.f0) != (-1000000))=true:=bne_iff_ne.mpr c12
        by_cases c16:x4_1.length<5864062014805
        ·rw[if_pos c16] at H
         have LMc16:=Za c16;clear c16
         obtain⟨y168010,hy168010⟩:∃y_:List (S148),y_=(x4_1 ++ [(⟨(Zt l0_1 x13_1).f1,(Zt l0_1 x13_1).f0,wrap64 (-((Zt l0_1 x13_1).f2.f0))⟩:S148)]):=⟨_,rfl⟩
         replace H:(if x5_1.length<17592186044416 then(ZQ.l0 k1 y168010 (x5_1 ++ [x13_1]) l0_1 (l0_1.length:Int) (wrap64 (x13_1+1))) else(none))=some (r1,r2):=by first|(rw[hy168010];with_reducible exact H)|(have H2_:=(Zi _ _).symm.trans H;rw[hy168010];with_reducible exact H2_)|(have H2_:=(Zi _ _).symm.trans H;with_reducible exact H2_)|with_reducible exact H|(rw[hy168010];exact H)|exact H
         have Ny168010:=Za hy168010;clear hy168010
         by_cases c17:x5_1.length<17592186044416
         ·rw[if_pos c17] at H
          have LMc17:=Za c17;clear c17
          obtain⟨y168013,hy168013⟩:∃y_:List Int,y_=(x5_1 ++ [x13_1]):=⟨_,rfl⟩
          replace H:(ZQ.l0 k1 y168010 y168013 l0_1 (l0_1.length:Int) (wrap64 (x13_1+1)))=some (r1,r2):=by first|(rw[hy168013];with_reducible exact H)|(have H2_:=(Zi _ _).symm.trans H;rw[hy168013];with_reducible exact H2_)|(have H2_:=(Zi _ _).symm.trans H;with_reducible exact H2_)|with_reducible exact H|(rw[hy168013];exact H)|exact H
          have Ny168013:=Za hy168013;clear hy168013
          have H':=Za H
          clear H
          have p168008:0≤(x13_1:Int):=Zd (by first|(with_reducible assumption)|assumption)
          have q168008:x13_1<(l0_1.length:Int):=Zd (by first|(with_reducible assumption)|assumption)
          obtain⟨ad168008,e168008,hx168008_0,hx168008_1,hx168008_2,hx168008_3⟩:=ZaF HR0_1.out x13_1 p168008 q168008
          cases e168008
          replace hx168008_0:=(HB.out.cell (Zc w _ hx168008_0)).trans hx168008_0
          replace hx168008_1:=(HB.out.cell (Zc w _ hx168008_1)).trans hx168008_1
          replace hx168008_2:=(HB.out.cell (Zc w _ hx168008_2)).trans hx168008_2
          replace hx168008_3:=(HB.out.cell (Zc w _ hx168008_3)).trans hx168008_3
          replace p168008:=eq_true p168008
          replace q168008:=eq_true q168008
          go_wp2_with (first|((with_reducible refine ZD (N:=7) rfl ?_);refine ZE ?hg (N:=7) ?hd (cs:=#[.int .i64 0,.int .i64 0,.int .i64 0,.int .i64 0]) (t:=101) ?hr ?_;(case hd=>rfl);(case hg=>rfl);(case hr=>first|(go_simp;done)|(go_simp;rfl));intro gb168009 hg w18 hbox hb;have n0_:=Za (Kd.R_below (by(with_reducible repeat(first|apply Kd.R_alloc|apply Kd.R_drewN|apply Kd.R_drew));exact HO_4.out) hb);have n1_:=Za (Kd.R_below (by(with_reducible repeat(first|apply Kd.R_alloc|apply Kd.R_drewN|apply Kd.R_drew));exact HO_5.out) hb);have n2_:=Za (Zy (g:=gb168001) (o:=.cells #[.int .i64 a0_0,.slice (some ad168008) l0_1.length c0_1] 25 (0,0)) (by(with_reducible repeat(first|refine Zn ?_ _|refine Zs ?_|refine Zo ?_ _));exact BK168001.out) hb);have n3_:=Za (Zx (by repeat(first|(with_reducible first|exact HB.out|apply Zp|apply Zm|apply Zr|refine Zq ?_ GE168001.out)|exact HB.out)) hb);have n4_:=Za (hbox);have n5_:=Za ((by rw[hg];exact(Zw (by repeat(first|(with_reducible first|exact HB.out|apply Zp|apply Zm|apply Zr|refine Zq ?_ GE168001.out)|exact HB.out))):w.heap.size≤gb168009));have n6_:=Za ((by rw[hg];exact(Zw (by repeat(first|(with_reducible first|exact HB.out|apply Zp|apply Zm|apply Zr|refine Zq ?_ GE168001.out)|exact HB.out))):w.heap.size≤gb168009));have n7_:=Za ((by rw[hg];exact Nat.ne_of_lt (ZC (g:=gb168001) (o:=.cells #[.int .i64 a0_0,.slice (some ad168008) l0_1.length c0_1] 25 (0,0)) (by(with_reducible repeat(first|refine Zn ?_ _|refine Zs ?_|refine Zo ?_ _));exact BK168001.out)):gb168001≠gb168009));have n8_:=Za ((by rw[hg];exact Nat.ne_of_gt (ZC (g:=gb168001) (o:=.cells #[.int .i64 a0_0,.slice (some ad168008) l0_1.length c0_1] 25 (0,0)) (by(with_reducible repeat(first|refine Zn ?_ _|refine Zs ?_|refine Zo ?_ _));exact BK168001.out)):gb168009≠gb168001));clear HO_4;clear HO_5;clear BK168001;clear HB;have HO_4:=n0_;have HO_5:=n1_;have BK168001:=n2_;have HB:=n3_;have BK168009:=n4_;have GW168009:=n5_;have GE168009:=n6_;have NB168001_168009:=n7_;have NB168009_168001:=n8_;clear n0_ n1_ n2_ n3_ n4_ n5_ n6_ n7_ n8_;clear hb hbox hg;have hnb19:=NB168009_168001.out;have hnc19:=NB168001_168009.out;have hcz20_0:w18.cell? ⟨gb168009,0,none⟩=some (.int .i64 0):=(Zv BK168009.out 0).trans rfl;have hcz20_1:w18.cell? ⟨gb168009,1,none⟩=some (.int .i64 0):=(Zv BK168009.out 1).trans rfl;have hcz20_2:w18.cell? ⟨gb168009,2,none⟩=some (.int .i64 0):=(Zv BK168009.out 2).trans rfl;have hcz20_3:w18.cell? ⟨gb168009,3,none⟩=some (.int .i64 0):=(Zv BK168009.out 3).trans rfl;have hfz20_0:=Zu BK168009.out 0;have hfz20_1:=Zu BK168009.out 1;have hfz20_2:=Zu BK168009.out 2;have hfz20_3:=Zu BK168009.out 3)|((with_reducible refine Z1 (b:=.append) (xs:=#[.tmp 41,.tmp 51]) rfl ?_);at_builtin;refine Kd.R_append k148 (w0:=w) w.heap.size rfl (.tmp 41) (.tmp 51) 93 148 (.agg #[(.int .i64 0),(.int .i64 0),(.int .i64 0)]) 24 rfl Try.underlying93 Zbl rfl (by decide) (by omega) u4 x4_1 (⟨(Zt l0_1 x13_1).f1,(Zt l0_1 x13_1).f0,wrap64 (-((Zt l0_1 x13_1).f2.f0))⟩:S148) [.int .i64 ((Zt l0_1 x13_1).f1),.int .i64 ((Zt l0_1 x13_1).f0),.int .i64 (wrap64 (-((Zt l0_1 x13_1).f2.f0)))] (fun _=>True) (fun _=>False) rfl (by first|(go_simp;done)|(go_simp;rfl)) ?aP (fun _ hk=>hk.elim) ?aF ?aO ?aB ?aS ?aL ?_;(case aP=>exact Zbd _ _ _ (⟨(Zt l0_1 x13_1).f1,(Zt l0_1 x13_1).f0,wrap64 (-((Zt l0_1 x13_1).f2.f0))⟩:S148));(case aB=>exact(by repeat(first|(with_reducible first|exact HB.out|apply Zp|apply Zm|apply Zr|refine Zq ?_ GE168001.out|refine Zq ?_ GE168009.out)|exact HB.out)));(case aF=>exact(fun _ _=>trivial));(case aO=>exact(by(with_reducible repeat(first|apply Kd.R_alloc|apply Kd.R_drewN|apply Kd.R_drew));exact Kd.R_mono (Kd.R_far (p:=⟨gb168009,3,none⟩) (Kd.R_far (p:=⟨gb168009,2,none⟩) (Kd.R_far (p:=⟨gb168009,1,none⟩) (Kd.R_far (p:=⟨gb168009,0,none⟩) (Kd.R_types HO_4.out BK168009.out (by decide)) (fun _ hk=>hk.2) (.int .i64 ((Zt l0_1 x13_1).f0))) (fun _ hk=>hk.2) (.int .i64 ((Zt l0_1 x13_1).f1))) (fun _ hk=>hk.2) (.int .i64 ((Zt l0_1 x13_1).f2.f0))) (fun _ hk=>hk.2) (.int .i64 ((Zt l0_1 x13_1).f2.f1))) (fun _ hk=>trivial)));(case aS=>exact(Zw (by repeat(first|(with_reducible first|exact HB.out|apply Zp|apply Zm|apply Zr|refine Zq ?_ GE168001.out|refine Zq ?_ GE168009.out)|exact HB.out))));(case aL=>have:=LMc16.out;omega);intro v168011 w21 ho hb hg hat;rw[← Ny168010.out] at ho;have n0_:=Za (Kd.R_over' (by(with_reducible repeat(first|apply Kd.R_alloc|apply Kd.R_drewN|apply Kd.R_drew));exact(Kd.R_mono (Kd.R_far (p:=⟨gb168009,3,none⟩) (Kd.R_far (p:=⟨gb168009,2,none⟩) (Kd.R_far (p:=⟨gb168009,1,none⟩) (Kd.R_far (p:=⟨gb168009,0,none⟩) (Kd.R_types HO_5.out BK168009.out (by decide)) (fun _ hk=>hk.2) (.int .i64 ((Zt l0_1 x13_1).f0))) (fun _ hk=>hk.2) (.int .i64 ((Zt l0_1 x13_1).f1))) (fun _ hk=>hk.2) (.int .i64 ((Zt l0_1 x13_1).f2.f0))) (fun _ hk=>hk.2) (.int .i64 ((Zt l0_1 x13_1).f2.f1))) (fun _ h_=>h_.1))) (Kd.R_typed (by(with_reducible repeat(first|apply Kd.R_alloc|apply Kd.R_drewN|apply Kd.R_drew));exact(Kd.R_mono (Kd.R_far (p:=⟨gb168009,3,none⟩) (Kd.R_far (p:=⟨gb168009,2,none⟩) (Kd.R_far (p:=⟨gb168009,1,none⟩) (Kd.R_far (p:=⟨gb168009,0,none⟩) (Kd.R_types HO_4.out BK168009.out (by decide)) (fun _ hk=>hk.2) (.int .i64 ((Zt l0_1 x13_1).f0))) (fun _ hk=>hk.2) (.int .i64 ((Zt l0_1 x13_1).f1))) (fun _ hk=>hk.2) (.int .i64 ((Zt l0_1 x13_1).f2.f0))) (fun _ hk=>hk.2) (.int .i64 ((Zt l0_1 x13_1).f2.f1))) (fun _ h_=>h_.1)))) (by decide) hg);have n1_:=Za (ZK (g:=gb168001) (o:=.cells #[.int .i64 a0_0,.slice (some ad168008) l0_1.length c0_1] 25 (0,0)) (by(with_reducible repeat(first|refine Zn ?_ _|refine Zs ?_|refine Zo ?_ _));refine ZB ?_ NB168001_168009.out _;(with_reducible repeat(first|refine Zn ?_ _|refine Zs ?_|refine Zo ?_ _));refine ZB ?_ NB168001_168009.out _;(with_reducible repeat(first|refine Zn ?_ _|refine Zs ?_|refine Zo ?_ _));refine ZB ?_ NB168001_168009.out _;(with_reducible repeat(first|refine Zn ?_ _|refine Zs ?_|refine Zo ?_ _));refine ZB ?_ NB168001_168009.out _;(with_reducible repeat(first|refine Zn ?_ _|refine Zs ?_|refine Zo ?_ _));exact BK168001.out) hg (Kd.R_ne HO_4.out BK168001.out (by decide)));have n2_:=Za (ZK (g:=gb168009) (o:=.cells #[.int .i64 ((Zt l0_1 x13_1).f0),.int .i64 ((Zt l0_1 x13_1).f1),.int .i64 ((Zt l0_1 x13_1).f2.f0),.int .i64 ((Zt l0_1 x13_1).f2.f1)] 101 (0,0)) (by(with_reducible repeat(first|refine Zn ?_ _|refine Zs ?_|refine Zo ?_ _));refine ZH (cs:=#[.int .i64 ((Zt l0_1 x13_1).f0),.int .i64 ((Zt l0_1 x13_1).f1),.int .i64 ((Zt l0_1 x13_1).f2.f0),.int .i64 0]) ?_ 3 _ rfl;(with_reducible repeat(first|refine Zn ?_ _|refine Zs ?_|refine Zo ?_ _));refine ZH (cs:=#[.int .i64 ((Zt l0_1 x13_1).f0),.int .i64 ((Zt l0_1 x13_1).f1),.int .i64 0,.int .i64 0]) ?_ 2 _ rfl;(with_reducible repeat(first|refine Zn ?_ _|refine Zs ?_|refine Zo ?_ _));refine ZH (cs:=#[.int .i64 ((Zt l0_1 x13_1).f0),.int .i64 0,.int .i64 0,.int .i64 0]) ?_ 1 _ rfl;(with_reducible repeat(first|refine Zn ?_ _|refine Zs ?_|refine Zo ?_ _));refine ZH (cs:=#[.int .i64 0,.int .i64 0,.int .i64 0,.int .i64 0]) ?_ 0 _ rfl;(with_reducible repeat(first|refine Zn ?_ _|refine Zs ?_|refine Zo ?_ _));exact BK168009.out) hg (Kd.R_ne HO_4.out BK168009.out (by decide)));have n3_:=Za (hb);have n4_:=Za (ho);clear HO_5;clear BK168001;clear BK168009;clear HB;clear HO_4;have HO_5:=n0_;have BK168001:=n1_;have BK168009:=n2_;have HB:=n3_;have HO168012:=n4_;clear n0_ n1_ n2_ n3_ n4_;clear ho hb hg hat)|((with_reducible refine Z1 (b:=.append) (xs:=#[.tmp 53,.tmp 55]) rfl ?_);at_builtin;refine Kd.R_append (Kd.int .i64) (w0:=w) w.heap.size rfl (.tmp 53) (.tmp 55) 33 3 (.int .i64 0) 8 rfl Try.underlying33 ZaQ rfl (by decide) (by omega) u5 x5_1 x13_1 [.int .i64 x13_1] (fun _=>True) (fun _=>False) rfl rfl ?aP (fun _ hk=>hk.elim) ?aF ?aO ?aB ?aS ?aL ?_;(case aP=>exact rfl);(case aB=>exact(by repeat(first|(with_reducible first|exact HB.out|apply Zp|apply Zm|apply Zr|refine Zq ?_ GE168001.out|refine Zq ?_ GE168009.out)|exact HB.out)));(case aF=>exact(fun _ _=>trivial));(case aO=>exact(by(with_reducible repeat(first|apply Kd.R_alloc|apply Kd.R_drewN|apply Kd.R_drew));exact HO_5.out));(case aS=>exact(Zw (by repeat(first|(with_reducible first|exact HB.out|apply Zp|apply Zm|apply Zr|refine Zq ?_ GE168001.out|refine Zq ?_ GE168009.out)|exact HB.out))));(case aL=>have:=LMc17.out;omega);intro v168014 w22 ho hb hg hat;rw[← Ny168013.out] at ho;have n0_:=Za (ZK (g:=gb168001) (o:=.cells #[.int .i64 a0_0,.slice (some ad168008) l0_1.length c0_1] 25 (0,0)) (by(with_reducible repeat(first|refine Zn ?_ _|refine Zs ?_|refine Zo ?_ _));exact BK168001.out) hg (Kd.R_ne HO_5.out BK168001.out (by decide)));have n1_:=Za (ZK (g:=gb168009) (o:=.cells #[.int .i64 ((Zt l0_1 x13_1).f0),.int .i64 ((Zt l0_1 x13_1).f1),.int .i64 ((Zt l0_1 x13_1).f2.f0),.int .i64 ((Zt l0_1 x13_1).f2.f1)] 101 (0,0)) (by(with_reducible repeat(first|refine Zn ?_ _|refine Zs ?_|refine Zo ?_ _));exact BK168009.out) hg (Kd.R_ne HO_5.out BK168009.out (by decide)));have n2_:=Za (Kd.R_over' (by(with_reducible repeat(first|apply Kd.R_alloc|apply Kd.R_drewN|apply Kd.R_drew));exact HO168012.out) (Kd.R_typed (by(with_reducible repeat(first|apply Kd.R_alloc|apply Kd.R_drewN|apply Kd.R_drew));exact HO_5.out)) (by decide) hg);have n3_:=Za (hb);have n4_:=Za (ho);clear BK168001;clear BK168009;clear HO168012;clear HB;clear HO_5;have BK168001:=n0_;have BK168009:=n1_;have HO168012:=n2_;have HB:=n3_;have HO168015:=n4_;clear n0_ n1_ n2_ n3_ n4_;clear ho hb hg hat))
          go_roundg k1
          case measure=>have:=HK1.out;omega
          case rel=>exact⟨(y168010),(y168013),(wrap64 (x13_1+1)),(by first|rfl|(simp;done)|(simp[*];done)),H',⟨by have:=HK1.out;omega⟩,⟨by(with_reducible repeat(first|apply Kd.R_alloc|apply Kd.R_drewN|apply Kd.R_drew));exact HO168012.out⟩,⟨by(with_reducible repeat(first|apply Kd.R_alloc|apply Kd.R_drewN|apply Kd.R_drew));exact HO168015.out⟩,⟨by(with_reducible repeat(first|refine Zn ?_ _|refine Zs ?_|refine Zo ?_ _));exact BK168001.out⟩,⟨by repeat(first|(with_reducible first|exact HB.out|apply Zp|apply Zm|apply Zr|refine Zq ?_ GE168001.out|refine Zq ?_ GE168009.out)|exact HB.out)⟩⟩
         ·rw[if_neg c17] at H
          exact absurd H (by simp)
        ·rw[if_neg c16] at H
         exact absurd H (by simp)
      ·rw[if_neg c11] at H
       have c11b0:(((Zt l0_1 x13_1).f2.f1) == 1000000)=false:=beq_eq_false_iff_ne.mpr c11
       have c11b1:(((Zt l0_1 x13_1).f2.f1) != 1000000)=true:=bne_iff_ne.mpr c11
       by_cases c23:x4_1.length<5864062014805
       ·rw[if_pos c23] at H
        have LMc23:=Za c23;clear c23
        obtain⟨y168016,hy168016⟩:∃y_:List (S148),y_=(x4_1 ++ [(⟨(Zt l0_1 x13_1).f0,(Zt l0_1 x13_1).f1,(Zt l0_1 x13_1).f2.f1⟩:S148)]):=⟨_,rfl⟩
        replace H:(if x5_1.length<17592186044416 then((some (x5_1 ++ [x13_1]:List Int)).bind fun y168019=>(if ((Zt l0_1 x13_1).f2.f0)=(-1000000) then(ZQ.l0 k1 y168016 y168019 l0_1 (l0_1.length:Int) (wrap64 (x13_1+1))) else(if y168016.length<5864062014805 then(if y168019.length<17592186044416 then(ZQ.l0 k1 (y168016 ++ [(⟨(Zt l0_1 x13_1).f1,(Zt l0_1 x13_1).f0,wrap64 (-((Zt l0_1 x13_1).f2.f0))⟩:S148)]) (y168019 ++ [x13_1]) l0_1 (l0_1.length:Int) (wrap64 (x13_1+1))) else(none)) else(none)))) else(none))=some (r1,r2):=by first|(rw[hy168016];with_reducible exact H)|(have H2_:=(Zi _ _).symm.trans H;rw[hy168016];with_reducible exact H2_)|(have H2_:=(Zi _ _).symm.trans H;with_reducible exact H2_)|with_reducible exact H|(rw[hy168016];exact H)|exact H
        have Ny168016:=Za hy168016;clear hy168016
        by_cases c24:x5_1.length<17592186044416
        ·rw[if_pos c24] at H
         have LMc24:=Za c24;clear c24
         obtain⟨y168019,hy168019⟩:∃y_:List Int,y_=(x5_1 ++ [x13_1]):=⟨_,rfl⟩
         replace H:(if ((Zt l0_1 x13_1).f2.f0)=(-1000000) then(ZQ.l0 k1 y168016 y168019 l0_1 (l0_1.length:Int) (wrap64 (x13_1+1))) else(if y168016.length<5864062014805 then(if y168019.length<17592186044416 then(ZQ.l0 k1 (y168016 ++ [(⟨(Zt l0_1 x13_1).f1,(Zt l0_1 x13_1).f0,wrap64 (-((Zt l0_1 x13_1).f2.f0))⟩:S148)]) (y168019 ++ [x13_1]) l0_1 (l0_1.length:Int) (wrap64 (x13_1+1))) else(none)) else(none)))=some (r1,r2):=by first|(rw[hy168019];with_reducible exact H)|(have H2_:=(Zi _ _).symm.trans H;rw[hy168019];with_reducible exact H2_)|(have H2_:=(Zi _ _).symm.trans H;with_reducible exact H2_)|with_reducible exact H|(rw[hy168019];exact H)|exact H
         have Ny168019:=Za hy168019;clear hy168019
         by_cases c25:((Zt l0_1 x13_1).f2.f0)=(-1000000)
         ·rw[if_pos c25] at H
          have c25b0:(((Zt l0_1 x13_1).f2.f0) == (-1000000))=true:=beq_iff_eq.mpr c25
          have c25b1:(((Zt l0_1 x13_1).f2.f0) != (-1000000))=false:=bne_eq_false_iff_eq.mpr c25
          clear c25
          have H':=Za H
          clear H
          have p168008:0≤(x13_1:Int):=Zd (by first|(with_reducible assumption)|assumption)
          have q168008:x13_1<(l0_1.length:Int):=Zd (by first|(with_reducible assumption)|assumption)
          obtain⟨ad168008,e168008,hx168008_0,hx168008_1,hx168008_2,hx168008_3⟩:=ZaF HR0_1.out x13_1 p168008 q168008
          cases e168008
          replace hx168008_0:=(HB.out.cell (Zc w _ hx168008_0)).trans hx168008_0
          replace hx168008_1:=(HB.out.cell (Zc w _ hx168008_1)).trans hx168008_1
          replace hx168008_2:=(HB.out.cell (Zc w _ hx168008_2)).trans hx168008_2
          replace hx168008_3:=(HB.out.cell (Zc w _ hx168008_3)).trans hx168008_3
          replace p168008:=eq_true p168008
          replace q168008:=eq_true q168008
          go_wp2_with (first|((with_reducible refine ZD (N:=7) rfl ?_);refine ZE ?hg (N:=7) ?hd (cs:=#[.int .i64 0,.int .i64 0,.int .i64 0,.int .i64 0]) (t:=101) ?hr ?_;(case hd=>rfl);(case hg=>rfl);(case hr=>first|(go_simp;done)|(go_simp;rfl));intro gb168009 hg w26 hbox hb;have n0_:=Za (Kd.R_below (by(with_reducible repeat(first|apply Kd.R_alloc|apply Kd.R_drewN|apply Kd.R_drew));exact HO_4.out) hb);have n1_:=Za (Kd.R_below (by(with_reducible repeat(first|apply Kd.R_alloc|apply Kd.R_drewN|apply Kd.R_drew));exact HO_5.out) hb);have n2_:=Za (Zy (g:=gb168001) (o:=.cells #[.int .i64 a0_0,.slice (some ad168008) l0_1.length c0_1] 25 (0,0)) (by(with_reducible repeat(first|refine Zn ?_ _|refine Zs ?_|refine Zo ?_ _));exact BK168001.out) hb);have n3_:=Za (Zx (by repeat(first|(with_reducible first|exact HB.out|apply Zp|apply Zm|apply Zr|refine Zq ?_ GE168001.out)|exact HB.out)) hb);have n4_:=Za (hbox);have n5_:=Za ((by rw[hg];exact(Zw (by repeat(first|(with_reducible first|exact HB.out|apply Zp|apply Zm|apply Zr|refine Zq ?_ GE168001.out)|exact HB.out))):w.heap.size≤gb168009));have n6_:=Za ((by rw[hg];exact(Zw (by repeat(first|(with_reducible first|exact HB.out|apply Zp|apply Zm|apply Zr|refine Zq ?_ GE168001.out)|exact HB.out))):w.heap.size≤gb168009));have n7_:=Za ((by rw[hg];exact Nat.ne_of_lt (ZC (g:=gb168001) (o:=.cells #[.int .i64 a0_0,.slice (some ad168008) l0_1.length c0_1] 25 (0,0)) (by(with_reducible repeat(first|refine Zn ?_ _|refine Zs ?_|refine Zo ?_ _));exact BK168001.out)):gb168001≠gb168009));have n8_:=Za ((by rw[hg];exact Nat.ne_of_gt (ZC (g:=gb168001) (o:=.cells #[.int .i64 a0_0,.slice (some ad168008) l0_1.length c0_1] 25 (0,0)) (by(with_reducible repeat(first|refine Zn ?_ _|refine Zs ?_|refine Zo ?_ _));exact BK168001.out)):gb168009≠gb168001));clear HO_4;clear HO_5;clear BK168001;clear HB;have HO_4:=n0_;have HO_5:=n1_;have BK168001:=n2_;have HB:=n3_;have BK168009:=n4_;have GW168009:=n5_;have GE168009:=n6_;have NB168001_168009:=n7_;have NB168009_168001:=n8_;clear n0_ n1_ n2_ n3_ n4_ n5_ n6_ n7_ n8_;clear hb hbox hg;have hnb27:=NB168009_168001.out;have hnc27:=NB168001_168009.out;have hcz28_0:w26.cell? ⟨gb168009,0,none⟩=some (.int .i64 0):=(Zv BK168009.out 0).trans rfl;have hcz28_1:w26.cell? ⟨gb168009,1,none⟩=some (.int .i64 0):=(Zv BK168009.out 1).trans rfl;have hcz28_2:w26.cell? ⟨gb168009,2,none⟩=some (.int .i64 0):=(Zv BK168009.out 2).trans rfl;have hcz28_3:w26.cell? ⟨gb168009,3,none⟩=some (.int .i64 0):=(Zv BK168009.out 3).trans rfl;have hfz28_0:=Zu BK168009.out 0;have hfz28_1:=Zu BK168009.out 1;have hfz28_2:=Zu BK168009.out 2;have hfz28_3:=Zu BK168009.out 3)|((with_reducible refine Z1 (b:=.append) (xs:=#[.tmp 22,.tmp 31]) rfl ?_);at_builtin;refine Kd.R_append k148 (w0:=w) w.heap.size rfl (.tmp 22) (.tmp 31) 93 148 (.agg #[(.int .i64 0),(.int .i64 0),(.int .i64 0)]) 24 rfl Try.underlying93 Zbl rfl (by decide) (by omega) u4 x4_1 (⟨(Zt l0_1 x13_1).f0,(Zt l0_1 x13_1).f1,(Zt l0_1 x13_1).f2.f1⟩:S148) [.int .i64 ((Zt l0_1 x13_1).f0),.int .i64 ((Zt l0_1 x13_1).f1),.int .i64 ((Zt l0_1 x13_1).f2.f1)] (fun _=>True) (fun _=>False) rfl (by first|(go_simp;done)|(go_simp;rfl)) ?aP (fun _ hk=>hk.elim) ?aF ?aO ?aB ?aS ?aL ?_;(case aP=>exact Zbd _ _ _ (⟨(Zt l0_1 x13_1).f0,(Zt l0_1 x13_1).f1,(Zt l0_1 x13_1).f2.f1⟩:S148));(case aB=>exact(by repeat(first|(with_reducible first|exact HB.out|apply Zp|apply Zm|apply Zr|refine Zq ?_ GE168001.out|refine Zq ?_ GE168009.out)|exact HB.out)));(case aF=>exact(fun _ _=>trivial));(case aO=>exact(by(with_reducible repeat(first|apply Kd.R_alloc|apply Kd.R_drewN|apply Kd.R_drew));exact Kd.R_mono (Kd.R_far (p:=⟨gb168009,3,none⟩) (Kd.R_far (p:=⟨gb168009,2,none⟩) (Kd.R_far (p:=⟨gb168009,1,none⟩) (Kd.R_far (p:=⟨gb168009,0,none⟩) (Kd.R_types HO_4.out BK168009.out (by decide)) (fun _ hk=>hk.2) (.int .i64 ((Zt l0_1 x13_1).f0))) (fun _ hk=>hk.2) (.int .i64 ((Zt l0_1 x13_1).f1))) (fun _ hk=>hk.2) (.int .i64 ((Zt l0_1 x13_1).f2.f0))) (fun _ hk=>hk.2) (.int .i64 ((Zt l0_1 x13_1).f2.f1))) (fun _ hk=>trivial)));(case aS=>exact(Zw (by repeat(first|(with_reducible first|exact HB.out|apply Zp|apply Zm|apply Zr|refine Zq ?_ GE168001.out|refine Zq ?_ GE168009.out)|exact HB.out))));(case aL=>have:=LMc23.out;omega);intro v168017 w29 ho hb hg hat;rw[← Ny168016.out] at ho;have n0_:=Za (Kd.R_over' (by(with_reducible repeat(first|apply Kd.R_alloc|apply Kd.R_drewN|apply Kd.R_drew));exact(Kd.R_mono (Kd.R_far (p:=⟨gb168009,3,none⟩) (Kd.R_far (p:=⟨gb168009,2,none⟩) (Kd.R_far (p:=⟨gb168009,1,none⟩) (Kd.R_far (p:=⟨gb168009,0,none⟩) (Kd.R_types HO_5.out BK168009.out (by decide)) (fun _ hk=>hk.2) (.int .i64 ((Zt l0_1 x13_1).f0))) (fun _ hk=>hk.2) (.int .i64 ((Zt l0_1 x13_1).f1))) (fun _ hk=>hk.2) (.int .i64 ((Zt l0_1 x13_1).f2.f0))) (fun _ hk=>hk.2) (.int .i64 ((Zt l0_1 x13_1).f2.f1))) (fun _ h_=>h_.1))) (Kd.R_typed (by(with_reducible repeat(first|apply Kd.R_alloc|apply Kd.R_drewN|apply Kd.R_drew));exact(Kd.R_mono (Kd.R_far (p:=⟨gb168009,3,none⟩) (Kd.R_far (p:=⟨gb168009,2,none⟩) (Kd.R_far (p:=⟨gb168009,1,none⟩) (Kd.R_far (p:=⟨gb168009,0,none⟩) (Kd.R_types HO_4.out BK168009.out (by decide)) (fun _ hk=>hk.2) (.int .i64 ((Zt l0_1 x13_1).f0))) (fun _ hk=>hk.2) (.int .i64 ((Zt l0_1 x13_1).f1))) (fun _ hk=>hk.2) (.int .i64 ((Zt l0_1 x13_1).f2.f0))) (fun _ hk=>hk.2) (.int .i64 ((Zt l0_1 x13_1).f2.f1))) (fun _ h_=>h_.1)))) (by decide) hg);have n1_:=Za (ZK (g:=gb168001) (o:=.cells #[.int .i64 a0_0,.slice (some ad168008) l0_1.length c0_1] 25 (0,0)) (by(with_reducible repeat(first|refine Zn ?_ _|refine Zs ?_|refine Zo ?_ _));refine ZB ?_ NB168001_168009.out _;(with_reducible repeat(first|refine Zn ?_ _|refine Zs ?_|refine Zo ?_ _));refine ZB ?_ NB168001_168009.out _;(with_reducible repeat(first|refine Zn ?_ _|refine Zs ?_|refine Zo ?_ _));refine ZB ?_ NB168001_168009.out _;(with_reducible repeat(first|refine Zn ?_ _|refine Zs ?_|refine Zo ?_ _));refine ZB ?_ NB168001_168009.out _;(with_reducible repeat(first|refine Zn ?_ _|refine Zs ?_|refine Zo ?_ _));exact BK168001.out) hg (Kd.R_ne HO_4.out BK168001.out (by decide)));have n2_:=Za (ZK (g:=gb168009) (o:=.cells #[.int .i64 ((Zt l0_1 x13_1).f0),.int .i64 ((Zt l0_1 x13_1).f1),.int .i64 ((Zt l0_1 x13_1).f2.f0),.int .i64 ((Zt l0_1 x13_1).f2.f1)] 101 (0,0)) (by(with_reducible repeat(first|refine Zn ?_ _|refine Zs ?_|refine Zo ?_ _));refine ZH (cs:=#[.int .i64 ((Zt l0_1 x13_1).f0),.int .i64 ((Zt l0_1 x13_1).f1),.int .i64 ((Zt l0_1 x13_1).f2.f0),.int .i64 0]) ?_ 3 _ rfl;(with_reducible repeat(first|refine Zn ?_ _|refine Zs ?_|refine Zo ?_ _));refine ZH (cs:=#[.int .i64 ((Zt l0_1 x13_1).f0),.int .i64 ((Zt l0_1 x13_1).f1),.int .i64 0,.int .i64 0]) ?_ 2 _ rfl;(with_reducible repeat(first|refine Zn ?_ _|refine Zs ?_|refine Zo ?_ _));refine ZH (cs:=#[.int .i64 ((Zt l0_1 x13_1).f0),.int .i64 0,.int .i64 0,.int .i64 0]) ?_ 1 _ rfl;(with_reducible repeat(first|refine Zn ?_ _|refine Zs ?_|refine Zo ?_ _));refine ZH (cs:=#[.int .i64 0,.int .i64 0,.int .i64 0,.int .i64 0]) ?_ 0 _ rfl;(with_reducible repeat(first|refine Zn ?_ _|refine Zs ?_|refine Zo ?_ _));exact BK168009.out) hg (Kd.R_ne HO_4.out BK168009.out (by decide)));have n3_:=Za (hb);have n4_:=Za (ho);clear HO_5;clear BK168001;clear BK168009;clear HB;clear HO_4;have HO_5:=n0_;have BK168001:=n1_;have BK168009:=n2_;have HB:=n3_;have HO168018:=n4_;clear n0_ n1_ n2_ n3_ n4_;clear ho hb hg hat)|((with_reducible refine Z1 (b:=.append) (xs:=#[.tmp 33,.tmp 35]) rfl ?_);at_builtin;refine Kd.R_append (Kd.int .i64) (w0:=w) w.heap.size rfl (.tmp 33) (.tmp 35) 33 3 (.int .i64 0) 8 rfl Try.underlying33 ZaQ rfl (by decide) (by omega) u5 x5_1 x13_1 [.int .i64 x13_1] (fun _=>True) (fun _=>False) rfl rfl ?aP (fun _ hk=>hk.elim) ?aF ?aO ?aB ?aS ?aL ?_;(case aP=>exact rfl);(case aB=>exact(by repeat(first|(with_reducible first|exact HB.out|apply Zp|apply Zm|apply Zr|refine Zq ?_ GE168001.out|refine Zq ?_ GE168009.out)|exact HB.out)));(case aF=>exact(fun _ _=>trivial));(case aO=>exact(by(with_reducible repeat(first|apply Kd.R_alloc|apply Kd.R_drewN|apply Kd.R_drew));exact HO_5.out));(case aS=>exact(Zw (by repeat(first|(with_reducible first|exact HB.out|apply Zp|apply Zm|apply Zr|refine Zq ?_ GE168001.out|refine Zq ?_ GE168009.out)|exact HB.out))));(case aL=>have:=LMc24.out;omega);intro v168020 w30 ho hb hg hat;rw[← Ny168019.out] at ho;have n0_:=Za (ZK (g:=gb168001) (o:=.cells #[.int .i64 a0_0,.slice (some ad168008) l0_1.length c0_1] 25 (0,0)) (by(with_reducible repeat(first|refine Zn ?_ _|refine Zs ?_|refine Zo ?_ _));exact BK168001.out) hg (Kd.R_ne HO_5.out BK168001.out (by decide)));have n1_:=Za (ZK (g:=gb168009) (o:=.cells #[.int .i64 ((Zt l0_1 x13_1).f0),.int .i64 ((Zt l0_1 x13_1).f1),.int .i64 ((Zt l0_1 x13_1).f2.f0),.int .i64 ((Zt l0_1 x13_1).f2.f1)] 101 (0,0)) (by(with_reducible repeat(first|refine Zn ?_ _|refine Zs ?_|refine Zo ?_ _));exact BK168009.out) hg (Kd.R_ne HO_5.out BK168009.out (by decide)));have n2_:=Za (Kd.R_over' (by(with_reducible repeat(first|apply Kd.R_alloc|apply Kd.R_drewN|apply Kd.R_drew));exact HO168018.out) (Kd.R_typed (by(with_reducible repeat(first|apply Kd.R_alloc|apply Kd.R_drewN|apply Kd.R_drew));exact HO_5.out)) (by decide) hg);have n3_:=Za (hb);have n4_:=Za (ho);clear BK168001;clear BK168009;clear HO168018;clear HB;clear HO_5;have BK168001:=n0_;have BK168009:=n1_;have HO168018:=n2_;have HB:=n3_;have HO168021:=n4_;clear n0_ n1_ n2_ n3_ n4_;clear ho hb hg hat;have hcz31_0:w30.cell? ⟨gb168009,0,none⟩=some (.int .i64 ((Zt l0_1 x13_1).f0)):=(Zv BK168009.out 0).trans rfl;have hcz31_1:w30.cell? ⟨gb168009,1,none⟩=some (.int .i64 ((Zt l0_1 x13_1).f1)):=(Zv BK168009.out 1).trans rfl;have hcz31_2:w30.cell? ⟨gb168009,2,none⟩=some (.int .i64 ((Zt l0_1 x13_1).f2.f0)):=(Zv BK168009.out 2).trans rfl;have hcz31_3:w30.cell? ⟨gb168009,3,none⟩=some (.int .i64 ((Zt l0_1 x13_1).f2.f1)):=(Zv BK168009.out 3).trans rfl;have hfz31_0:=Zu BK168009.out 0;have hfz31_1:=Zu BK168009.out 1;have hfz31_2:=Zu BK168009.out 2;have hfz31_3:=Zu BK168009.out 3))
          go_roundg k1
          case measure=>have:=HK1.out;omega
          case rel=>exact⟨(y168016),(y168019),(wrap64 (x13_1+1)),(by first|rfl|(simp;done)|(simp[*];done)),H',⟨by have:=HK1.out;omega⟩,⟨by(with_reducible repeat(first|apply Kd.R_alloc|apply Kd.R_drewN|apply Kd.R_drew));exact HO168018.out⟩,⟨by(with_reducible repeat(first|apply Kd.R_alloc|apply Kd.R_drewN|apply Kd.R_drew));exact HO168021.out⟩,⟨by(with_reducible repeat(first|refine Zn ?_ _|refine Zs ?_|refine Zo ?_ _));exact BK168001.out⟩,⟨by repeat(first|(with_reducible first|exact HB.out|apply Zp|apply Zm|apply Zr|refine Zq ?_ GE168001.out|refine Zq ?_ GE168009.out)|exact HB.out)⟩⟩
         ·rw[if_neg c25] at H
          have c25b0:(((Zt l0_1 x13_1).f2.f0) == (-1000000))=false:=beq_eq_false_iff_ne.mpr c25
          have c25b1:(((Zt l0_1 x13_1).f2.f0) != (-1000000))=true:=bne_iff_ne.mpr c25
          by_cases c32:y168016.length<5864062014805
          ·rw[if_pos c32] at H
           have LMc32:=Za c32;clear c32
           obtain⟨y168022,hy168022⟩:∃y_:List (S148),y_=(y168016 ++ [(⟨(Zt l0_1 x13_1).f1,(Zt l0_1 x13_1).f0,wrap64 (-((Zt l0_1 x13_1).f2.f0))⟩:S148)]):=⟨_,rfl⟩
           replace H:(if y168019.length<17592186044416 then(ZQ.l0 k1 y168022 (y168019 ++ [x13_1]) l0_1 (l0_1.length:Int) (wrap64 (x13_1+1))) else(none))=some (r1,r2):=by first|(rw[hy168022];with_reducible exact H)|(have H2_:=(Zi _ _).symm.trans H;rw[hy168022];with_reducible exact H2_)|(have H2_:=(Zi _ _).symm.trans H;with_reducible exact H2_)|with_reducible exact H|(rw[hy168022];exact H)|exact H
           have Ny168022:=Za hy168022;clear hy168022
           by_cases c33:y168019.length<17592186044416
           ·rw[if_pos c33] at H
            have LMc33:=Za c33;clear c33
            obtain⟨y168025,hy168025⟩:∃y_:List Int,y_=(y168019 ++ [x13_1]):=⟨_,rfl⟩
            replace H:(ZQ.l0 k1 y168022 y168025 l0_1 (l0_1.length:Int) (wrap64 (x13_1+1)))=some (r1,r2):=by first|(rw[hy168025];with_reducible exact H)|(have H2_:=(Zi _ _).symm.trans H;rw[hy168025];with_reducible exact H2_)|(have H2_:=(Zi _ _).symm.trans H;with_reducible exact H2_)|with_reducible exact H|(rw[hy168025];exact H)|exact H
            have Ny168025:=Za hy168025;clear hy168025
            have H':=Za H
            clear H
            have p168008:0≤(x13_1:Int):=Zd (by first|(with_reducible assumption)|assumption)
            have q168008:x13_1<(l0_1.length:Int):=Zd (by first|(with_reducible assumption)|assumption)
            obtain⟨ad168008,e168008,hx168008_0,hx168008_1,hx168008_2,hx168008_3⟩:=ZaF HR0_1.out x13_1 p168008 q168008
            cases e168008
            replace hx168008_0:=(HB.out.cell (Zc w _ hx168008_0)).trans hx168008_0
            replace hx168008_1:=(HB.out.cell (Zc w _ hx168008_1)).trans hx168008_1
            replace hx168008_2:=(HB.out.cell (Zc w _ hx168008_2)).trans hx168008_2
            replace hx168008_3:=(HB.out.cell (Zc w _ hx168008_3)).trans hx168008_3
            replace p168008:=eq_true p168008
            replace q168008:=eq_true q168008
            go_wp2_with (first|((with_reducible refine ZD (N:=7) rfl ?_);refine ZE ?hg (N:=7) ?hd (cs:=#[.int .i64 0,.int .i64 0,.int .i64 0,.int .i64 0]) (t:=101) ?hr ?_;(case hd=>rfl);(case hg=>rfl);(case hr=>first|(go_simp;done)|(go_simp;rfl));intro gb168009 hg w34 hbox hb;have n0_:=Za (Kd.R_below (by(with_reducible repeat(first|apply Kd.R_alloc|apply Kd.R_drewN|apply Kd.R_drew));exact HO_4.out) hb);have n1_:=Za (Kd.R_below (by(with_reducible repeat(first|apply Kd.R_alloc|apply Kd.R_drewN|apply Kd.R_drew));exact HO_5.out) hb);have n2_:=Za (Zy (g:=gb168001) (o:=.cells #[.int .i64 a0_0,.slice (some ad168008) l0_1.length c0_1] 25 (0,0)) (by(with_reducible repeat(first|refine Zn ?_ _|refine Zs ?_|refine Zo ?_ _));exact BK168001.out) hb);have n3_:=Za (Zx (by repeat(first|(with_reducible first|exact HB.out|apply Zp|apply Zm|apply Zr|refine Zq ?_ GE168001.out)|exact HB.out)) hb);have n4_:=Za (hbox);have n5_:=Za ((by rw[hg];exact(Zw (by repeat(first|(with_reducible first|exact HB.out|apply Zp|apply Zm|apply Zr|refine Zq ?_ GE168001.out)|exact HB.out))):w.heap.size≤gb168009));have n6_:=Za ((by rw[hg];exact(Zw (by repeat(first|(with_reducible first|exact HB.out|apply Zp|apply Zm|apply Zr|refine Zq ?_ GE168001.out)|exact HB.out))):w.heap.size≤gb168009));have n7_:=Za ((by rw[hg];exact Nat.ne_of_lt (ZC (g:=gb168001) (o:=.cells #[.int .i64 a0_0,.slice (some ad168008) l0_1.length c0_1] 25 (0,0)) (by(with_reducible repeat(first|refine Zn ?_ _|refine Zs ?_|refine Zo ?_ _));exact BK168001.out)):gb168001≠gb168009));have n8_:=Za ((by rw[hg];exact Nat.ne_of_gt (ZC (g:=gb168001) (o:=.cells #[.int .i64 a0_0,.slice (some ad168008) l0_1.length c0_1] 25 (0,0)) (by(with_reducible repeat(first|refine Zn ?_ _|refine Zs ?_|refine Zo ?_ _));exact BK168001.out)):gb168009≠gb168001));clear HO_4;clear HO_5;clear BK168001;clear HB;have HO_4:=n0_;have HO_5:=n1_;have BK168001:=n2_;have HB:=n3_;have BK168009:=n4_;have GW168009:=n5_;have GE168009:=n6_;have NB168001_168009:=n7_;have NB168009_168001:=n8_;clear n0_ n1_ n2_ n3_ n4_ n5_ n6_ n7_ n8_;clear hb hbox hg;have hnb35:=NB168009_168001.out;have hnc35:=NB168001_168009.out;have hcz36_0:w34.cell? ⟨gb168009,0,none⟩=some (.int .i64 0):=(Zv BK168009.out 0).trans rfl;have hcz36_1:w34.cell? ⟨gb168009,1,none⟩=some (.int .i64 0):=(Zv BK168009.out 1).trans rfl;have hcz36_2:w34.cell? ⟨gb168009,2,none⟩=some (.int .i64 0):=(Zv BK168009.out 2).trans rfl;have hcz36_3:w34.cell? ⟨gb168009,3,none⟩=some (.int .i64 0):=(Zv BK168009.out 3).trans rfl;have hfz36_0:=Zu BK168009.out 0;have hfz36_1:=Zu BK168009.out 1;have hfz36_2:=Zu BK168009.out 2;have hfz36_3:=Zu BK168009.out 3)|((with_reducible refine Z1 (b:=.append) (xs:=#[.tmp 22,.tmp 31]) rfl ?_);at_builtin;refine Kd.R_append k148 (w0:=w) w.heap.size rfl (.tmp 22) (.tmp 31) 93 148 (.agg #[(.int .i64 0),(.int .i64 0),(.int .i64 0)]) 24 rfl Try.underlying93 Zbl rfl (by decide) (by omega) u4 x4_1 (⟨(Zt l0_1 x13_1).f0,(Zt l0_1 x13_1).f1,(Zt l0_1 x13_1).f2.f1⟩:S148) [.int .i64 ((Zt l0_1 x13_1).f0),.int .i64 ((Zt l0_1 x13_1).f1),.int .i64 ((Zt l0_1 x13_1).f2.f1)] (fun _=>True) (fun _=>False) rfl (by first|(go_simp;done)|(go_simp;rfl)) ?aP (fun _ hk=>hk.elim) ?aF ?aO ?aB ?aS ?aL ?_;(case aP=>exact Zbd _ _ _ (⟨(Zt l0_1 x13_1).f0,(Zt l0_1 x13_1).f1,(Zt l0_1 x13_1).f2.f1⟩:S148));(case aB=>exact(by repeat(first|(with_reducible first|exact HB.out|apply Zp|apply Zm|apply Zr|refine Zq ?_ GE168001.out|refine Zq ?_ GE168009.out)|exact HB.out)));(case aF=>exact(fun _ _=>trivial));(case aO=>exact(by(with_reducible repeat(first|apply Kd.R_alloc|apply Kd.R_drewN|apply Kd.R_drew));exact Kd.R_mono (Kd.R_far (p:=⟨gb168009,3,none⟩) (Kd.R_far (p:=⟨gb168009,2,none⟩) (Kd.R_far (p:=⟨gb168009,1,none⟩) (Kd.R_far (p:=⟨gb168009,0,none⟩) (Kd.R_types HO_4.out BK168009.out (by decide)) (fun _ hk=>hk.2) (.int .i64 ((Zt l0_1 x13_1).f0))) (fun _ hk=>hk.2) (.int .i64 ((Zt l0_1 x13_1).f1))) (fun _ hk=>hk.2) (.int .i64 ((Zt l0_1 x13_1).f2.f0))) (fun _ hk=>hk.2) (.int .i64 ((Zt l0_1 x13_1).f2.f1))) (fun _ hk=>trivial)));(case aS=>exact(Zw (by repeat(first|(with_reducible first|exact HB.out|apply Zp|apply Zm|apply Zr|refine Zq ?_ GE168001.out|refine Zq ?_ GE168009.out)|exact HB.out))));(case aL=>have:=LMc23.out;omega);intro v168017 w37 ho hb hg hat;rw[← Ny168016.out] at ho;have n0_:=Za (Kd.R_over' (by(with_reducible repeat(first|apply Kd.R_alloc|apply Kd.R_drewN|apply Kd.R_drew));exact(Kd.R_mono (Kd.R_far (p:=⟨gb168009,3,none⟩) (Kd.R_far (p:=⟨gb168009,2,none⟩) (Kd.R_far (p:=⟨gb168009,1,none⟩) (Kd.R_far (p:=⟨gb168009,0,none⟩) (Kd.R_types HO_5.out BK168009.out (by decide)) (fun _ hk=>hk.2) (.int .i64 ((Zt l0_1 x13_1).f0))) (fun _ hk=>hk.2) (.int .i64 ((Zt l0_1 x13_1).f1))) (fun _ hk=>hk.2) (.int .i64 ((Zt l0_1 x13_1).f2.f0))) (fun _ hk=>hk.2) (.int .i64 ((Zt l0_1 x13_1).f2.f1))) (fun _ h_=>h_.1))) (Kd.R_typed (by(with_reducible repeat(first|apply Kd.R_alloc|apply Kd.R_drewN|apply Kd.R_drew));exact(Kd.R_mono (Kd.R_far (p:=⟨gb168009,3,none⟩) (Kd.R_far (p:=⟨gb168009,2,none⟩) (Kd.R_far (p:=⟨gb168009,1,none⟩) (Kd.R_far (p:=⟨gb168009,0,none⟩) (Kd.R_types HO_4.out BK168009.out (by decide)) (fun _ hk=>hk.2) (.int .i64 ((Zt l0_1 x13_1).f0))) (fun _ hk=>hk.2) (.int .i64 ((Zt l0_1 x13_1).f1))) (fun _ hk=>hk.2) (.int .i64 ((Zt l0_1 x13_1).f2.f0))) (fun _ hk=>hk.2) (.int .i64 ((Zt l0_1 x13_1).f2.f1))) (fun _ h_=>h_.1)))) (by decide) hg);have n1_:=Za (ZK (g:=gb168001) (o:=.cells #[.int .i64 a0_0,.slice (some ad168008) l0_1.length c0_1] 25 (0,0)) (by(with_reducible repeat(first|refine Zn ?_ _|refine Zs ?_|refine Zo ?_ _));refine ZB ?_ NB168001_168009.out _;(with_reducible repeat(first|refine Zn ?_ _|refine Zs ?_|refine Zo ?_ _));refine ZB ?_ NB168001_168009.out _;(with_reducible repeat(first|refine Zn ?_ _|refine Zs ?_|refine Zo ?_ _));refine ZB ?_ NB168001_168009.out _;(with_reducible repeat(first|refine Zn ?_ _|refine Zs ?_|refine Zo ?_ _));refine ZB ?_ NB168001_168009.out _;(with_reducible repeat(first|refine Zn ?_ _|refine Zs ?_|refine Zo ?_ _));exact BK168001.out) hg (Kd.R_ne HO_4.out BK168001.out (by decide)));have n2_:=Za (ZK (g:=gb168009) (o:=.cells #[.int .i64 ((Zt l0_1 x13_1).f0),.int .i64 ((Zt l0_1 x13_1).f1),.int .i64 ((Zt l0_1 x13_1).f2.f0),.int .i64 ((Zt l0_1 x13_1).f2.f1)] 101 (0,0)) (by(with_reducible repeat(first|refine Zn ?_ _|refine Zs ?_|refine Zo ?_ _));refine ZH (cs:=#[.int .i64 ((Zt l0_1 x13_1).f0),.int .i64 ((Zt l0_1 x13_1).f1),.int .i64 ((Zt l0_1 x13_1).f2.f0),.int .i64 0]) ?_ 3 _ rfl;(with_reducible repeat(first|refine Zn ?_ _|refine Zs ?_|refine Zo ?_ _));refine ZH (cs:=#[.int .i64 ((Zt l0_1 x13_1).f0),.int .i64 ((Zt l0_1 x13_1).f1),.int .i64 0,.int .i64 0]) ?_ 2 _ rfl;(with_reducible repeat(first|refine Zn ?_ _|refine Zs ?_|refine Zo ?_ _));refine ZH (cs:=#[.int .i64 ((Zt l0_1 x13_1).f0),.int .i64 0,.int .i64 0,.int .i64 0]) ?_ 1 _ rfl;(with_reducible repeat(first|refine Zn ?_ _|refine Zs ?_|refine Zo ?_ _));refine ZH (cs:=#[.int .i64 0,.int .i64 0,.int .i64 0,.int .i64 0]) ?_ 0 _ rfl;(with_reducible repeat(first|refine Zn ?_ _|refine Zs ?_|refine Zo ?_ _));exact BK168009.out) hg (Kd.R_ne HO_4.out BK168009.out (by decide)));have n3_:=Za (hb);have n4_:=Za (ho);clear HO_5;clear BK168001;clear BK168009;clear HB;clear HO_4;have HO_5:=n0_;have BK168001:=n1_;have BK168009:=n2_;have HB:=n3_;have HO168018:=n4_;clear n0_ n1_ n2_ n3_ n4_;clear ho hb hg hat)|((with_reducible refine Z1 (b:=.append) (xs:=#[.tmp 33,.tmp 35]) rfl ?_);at_builtin;refine Kd.R_append (Kd.int .i64) (w0:=w) w.heap.size rfl (.tmp 33) (.tmp 35) 33 3 (.int .i64 0) 8 rfl Try.underlying33 ZaQ rfl (by decide) (by omega) u5 x5_1 x13_1 [.int .i64 x13_1] (fun _=>True) (fun _=>False) rfl rfl ?aP (fun _ hk=>hk.elim) ?aF ?aO ?aB ?aS ?aL ?_;(case aP=>exact rfl);(case aB=>exact(by repeat(first|(with_reducible first|exact HB.out|apply Zp|apply Zm|apply Zr|refine Zq ?_ GE168001.out|refine Zq ?_ GE168009.out)|exact HB.out)));(case aF=>exact(fun _ _=>trivial));(case aO=>exact(by(with_reducible repeat(first|apply Kd.R_alloc|apply Kd.R_drewN|apply Kd.R_drew));exact HO_5.out));(case aS=>exact(Zw (by repeat(first|(with_reducible first|exact HB.out|apply Zp|apply Zm|apply Zr|refine Zq ?_ GE168001.out|refine Zq ?_ GE168009.out)|exact HB.out))));(case aL=>have:=LMc24.out;omega);intro v168020 w38 ho hb hg hat;rw[← Ny168019.out] at ho;have n0_:=Za (ZK (g:=gb168001) (o:=.cells #[.int .i64 a0_0,.slice (some ad168008) l0_1.length c0_1] 25 (0,0)) (by(with_reducible repeat(first|refine Zn ?_ _|refine Zs ?_|refine Zo ?_ _));exact BK168001.out) hg (Kd.R_ne HO_5.out BK168001.out (by decide)));have n1_:=Za (ZK (g:=gb168009) (o:=.cells #[.int .i64 ((Zt l0_1 x13_1).f0),.int .i64 ((Zt l0_1 x13_1).f1),.int .i64 ((Zt l0_1 x13_1).f2.f0),.int .i64 ((Zt l0_1 x13_1).f2.f1)] 101 (0,0)) (by(with_reducible repeat(first|refine Zn ?_ _|refine Zs ?_|refine Zo ?_ _));exact BK168009.out) hg (Kd.R_ne HO_5.out BK168009.out (by decide)));have n2_:=Za (Kd.R_over' (by(with_reducible repeat(first|apply Kd.R_alloc|apply Kd.R_drewN|apply Kd.R_drew));exact HO168018.out) (Kd.R_typed (by(with_reducible repeat(first|apply Kd.R_alloc|apply Kd.R_drewN|apply Kd.R_drew));exact HO_5.out)) (by decide) hg);have n3_:=Za (hb);have n4_:=Za (ho);clear BK168001;clear BK168009;clear HO168018;clear HB;clear HO_5;have BK168001:=n0_;have BK168009:=n1_;have HO168018:=n2_;have HB:=n3_;have HO168021:=n4_;clear n0_ n1_ n2_ n3_ n4_;clear ho hb hg hat;have hcz39_0:w38.cell? ⟨gb168009,0,none⟩=some (.int .i64 ((Zt l0_1 x13_1).f0)):=(Zv BK168009.out 0).trans rfl;have hcz39_1:w38.cell? ⟨gb168009,1,none⟩=some (.int .i64 ((Zt l0_1 x13_1).f1)):=(Zv BK168009.out 1).trans rfl;have hcz39_2:w38.cell? ⟨gb168009,2,none⟩=some (.int .i64 ((Zt l0_1 x13_1).f2.f0)):=(Zv BK168009.out 2).trans rfl;have hcz39_3:w38.cell? ⟨gb168009,3,none⟩=some (.int .i64 ((Zt l0_1 x13_1).f2.f1)):=(Zv BK168009.out 3).trans rfl;have hfz39_0:=Zu BK168009.out 0;have hfz39_1:=Zu BK168009.out 1;have hfz39_2:=Zu BK168009.out 2;have hfz39_3:=Zu BK168009.out 3)|((with_reducible refine Z1 (b:=.append) (xs:=#[.tmp 41,.tmp 51]) rfl ?_);at_builtin;refine Kd.R_append k148 (w0:=w) w.heap.size rfl (.tmp 41) (.tmp 51) 93 148 (.agg #[(.int .i64 0),(.int .i64 0),(.int .i64 0)]) 24 rfl Try.underlying93 Zbl rfl (by decide) (by omega) v168017 y168016 (⟨(Zt l0_1 x13_1).f1,(Zt l0_1 x13_1).f0,wrap64 (-((Zt l0_1 x13_1).f2.f0))⟩:S148) [.int .i64 ((Zt l0_1 x13_1).f1),.int .i64 ((Zt l0_1 x13_1).f0),.int .i64 (wrap64 (-((Zt l0_1 x13_1).f2.f0)))] (fun _=>True) (fun _=>False) rfl rfl ?aP (fun _ hk=>hk.elim) ?aF ?aO ?aB ?aS ?aL ?_;(case aP=>exact Zbd _ _ _ (⟨(Zt l0_1 x13_1).f1,(Zt l0_1 x13_1).f0,wrap64 (-((Zt l0_1 x13_1).f2.f0))⟩:S148));(case aB=>exact(by repeat(first|(with_reducible first|exact HB.out|apply Zp|apply Zm|apply Zr|refine Zq ?_ GE168001.out|refine Zq ?_ GE168009.out)|exact HB.out)));(case aF=>exact(fun _ _=>trivial));(case aO=>exact(by(with_reducible repeat(first|apply Kd.R_alloc|apply Kd.R_drewN|apply Kd.R_drew));exact HO168018.out));(case aS=>exact(Zw (by repeat(first|(with_reducible first|exact HB.out|apply Zp|apply Zm|apply Zr|refine Zq ?_ GE168001.out|refine Zq ?_ GE168009.out)|exact HB.out))));(case aL=>have:=LMc32.out;omega);intro v168023 w40 ho hb hg hat;rw[← Ny168022.out] at ho;have n0_:=Za (ZK (g:=gb168001) (o:=.cells #[.int .i64 a0_0,.slice (some ad168008) l0_1.length c0_1] 25 (0,0)) (by(with_reducible repeat(first|refine Zn ?_ _|refine Zs ?_|refine Zo ?_ _));exact BK168001.out) hg (Kd.R_ne HO168018.out BK168001.out (by decide)));have n1_:=Za (ZK (g:=gb168009) (o:=.cells #[.int .i64 ((Zt l0_1 x13_1).f0),.int .i64 ((Zt l0_1 x13_1).f1),.int .i64 ((Zt l0_1 x13_1).f2.f0),.int .i64 ((Zt l0_1 x13_1).f2.f1)] 101 (0,0)) (by(with_reducible repeat(first|refine Zn ?_ _|refine Zs ?_|refine Zo ?_ _));exact BK168009.out) hg (Kd.R_ne HO168018.out BK168009.out (by decide)));have n2_:=Za (Kd.R_over' (by(with_reducible repeat(first|apply Kd.R_alloc|apply Kd.R_drewN|apply Kd.R_drew));exact HO168021.out) (Kd.R_typed (by(with_reducible repeat(first|apply Kd.R_alloc|apply Kd.R_drewN|apply Kd.R_drew));exact HO168018.out)) (by decide) hg);have n3_:=Za (hb);have n4_:=Za (ho);clear BK168001;clear BK168009;clear HO168021;clear HB;clear HO168018;have BK168001:=n0_;have BK168009:=n1_;have HO168021:=n2_;have HB:=n3_;have HO168024:=n4_;clear n0_ n1_ n2_ n3_ n4_;clear ho hb hg hat)|((with_reducible refine Z1 (b:=.append) (xs:=#[.tmp 53,.tmp 55]) rfl ?_);at_builtin;refine Kd.R_append (Kd.int .i64) (w0:=w) w.heap.size rfl (.tmp 53) (.tmp 55) 33 3 (.int .i64 0) 8 rfl Try.underlying33 ZaQ rfl (by decide) (by omega) v168020 y168019 x13_1 [.int .i64 x13_1] (fun _=>True) (fun _=>False) rfl rfl ?aP (fun _ hk=>hk.elim) ?aF ?aO ?aB ?aS ?aL ?_;(case aP=>exact rfl);(case aB=>exact(by repeat(first|(with_reducible first|exact HB.out|apply Zp|apply Zm|apply Zr|refine Zq ?_ GE168001.out|refine Zq ?_ GE168009.out)|exact HB.out)));(case aF=>exact(fun _ _=>trivial));(case aO=>exact(by(with_reducible repeat(first|apply Kd.R_alloc|apply Kd.R_drewN|apply Kd.R_drew));exact HO168021.out));(case aS=>exact(Zw (by repeat(first|(with_reducible first|exact HB.out|apply Zp|apply Zm|apply Zr|refine Zq ?_ GE168001.out|refine Zq ?_ GE168009.out)|exact HB.out))));(case aL=>have:=LMc33.out;omega);intro v168026 w41 ho hb hg hat;rw[← Ny168025.out] at ho;have n0_:=Za (ZK (g:=gb168001) (o:=.cells #[.int .i64 a0_0,.slice (some ad168008) l0_1.length c0_1] 25 (0,0)) (by(with_reducible repeat(first|refine Zn ?_ _|refine Zs ?_|refine Zo ?_ _));exact BK168001.out) hg (Kd.R_ne HO168021.out BK168001.out (by decide)));have n1_:=Za (ZK (g:=gb168009) (o:=.cells #[.int .i64 ((Zt l0_1 x13_1).f0),.int .i64 ((Zt l0_1 x13_1).f1),.int .i64 ((Zt l0_1 x13_1).f2.f0),.int .i64 ((Zt l0_1 x13_1).f2.f1)] 101 (0,0)) (by(with_reducible repeat(first|refine Zn ?_ _|refine Zs ?_|refine Zo ?_ _));exact BK168009.out) hg (Kd.R_ne HO168021.out BK168009.out (by decide)));have n2_:=Za (Kd.R_over' (by(with_reducible repeat(first|apply Kd.R_alloc|apply Kd.R_drewN|apply Kd.R_drew));exact HO168024.out) (Kd.R_typed (by(with_reducible repeat(first|apply Kd.R_alloc|apply Kd.R_drewN|apply Kd.R_drew));exact HO168021.out)) (by decide) hg);have n3_:=Za (hb);have n4_:=Za (ho);clear BK168001;clear BK168009;clear HO168024;clear HB;clear HO168021;have BK168001:=n0_;have BK168009:=n1_;have HO168024:=n2_;have HB:=n3_;have HO168027:=n4_;clear n0_ n1_ n2_ n3_ n4_;clear ho hb hg hat))
            go_roundg k1
            case measure=>have:=HK1.out;omega
            case rel=>exact⟨(y168022),(y168025),(wrap64 (x13_1+1)),(by first|rfl|(simp;done)|(simp[*];done)),H',⟨by have:=HK1.out;omega⟩,⟨by(with_reducible repeat(first|apply Kd.R_alloc|apply Kd.R_drewN|apply Kd.R_drew));exact HO168024.out⟩,⟨by(with_reducible repeat(first|apply Kd.R_alloc|apply Kd.R_drewN|apply Kd.R_drew));exact HO168027.out⟩,⟨by(with_reducible repeat(first|refine Zn ?_ _|refine Zs ?_|refine Zo ?_ _));exact BK168001.out⟩,⟨by repeat(first|(with_reducible first|exact HB.out|apply Zp|apply Zm|apply Zr|refine Zq ?_ GE168001.out|refine Zq ?_ GE168009.out)|exact HB.out)⟩⟩
           ·rw[if_neg c33] at H
            exact absurd H (by simp)
          ·rw[if_neg c32] at H
           exact absurd H (by simp)
        ·rw[if_neg c24] at H
         exact absurd H (by simp)
       ·rw[if_neg c23] at H
        exact absurd H (by simp)
     ·rw[if_neg c10] at H
      exact absurd H (by simp)
    ·rw[if_neg c9] at H
     exact absurd H (by simp)
   ·rw[if_neg c8] at H
    have c8b0:decide (x13_1<(l0_1.length:Int))=false:=Zf c8
    clear c8
    simp only[Option.some.injEq,Prod.mk.injEq] at H
    obtain⟨rfl,rfl⟩:=H
    go_wp2
    go_ret2
    exact⟨_,_,by first|rfl|(simp[ZA,Zz] <;> rfl)|(simp[*,ZA,Zz] <;> rfl),by(with_reducible repeat(first|apply Kd.R_alloc|apply Kd.R_drewN|apply Kd.R_drew));exact HO_4.out,by(with_reducible repeat(first|apply Kd.R_alloc|apply Kd.R_drewN|apply Kd.R_drew));exact HO_5.out,by repeat(first|(with_reducible first|exact HB.out|apply Zp|apply Zm|apply Zr|refine Zq ?_ GE168001.out)|exact HB.out)⟩
def Zaz.f (k:Nat) (a0_0:Int) (l0_1:List (S101)):Option (Int×(List (S148))):=(ZF.f k a0_0 l0_1).bind fun t131003=>(if t131003=true then((ZQ.f k a0_0 l0_1).bind fun bt131004=>(some (a0_0,bt131004.1))) else(some (0,([]:List (S148)))))
set_option maxHeartbeats 8000000 in
set_option maxRecDepth 100000 in
theorem Zaz.calls (k:Nat) (a0_0:Int) (A0_1:Option Addr) (c0_1:Nat) (l0_1:List (S101)) (r1:Int) (r2:List (S148)) (w:World) (hr0_1:Kd.C k101 w A0_1 l0_1.length l0_1) (hc0_1:l0_1.length≤c0_1) (h:Zaz.f k a0_0 l0_1=some (r1,r2)) :
  Calls Try.prog 131 #[.agg #[.int .i64 a0_0,.slice A0_1 l0_1.length c0_1]] w fun e w'=>∃v1_:Value,e=.returned (.agg #[.int .i64 r1,v1_])∧Kd.R k148 148 w' w.heap.size (fun _=>True) v1_ r2∧Below w.heap.size w w':=by
 have hu25:=Try.underlying25
 have hu95:=Try.underlying95
 have HR0_1:=Za hr0_1;have HC0_1:=Za hc0_1;clear hr0_1 hc0_1
 have HB:=Za (Below.refl w.heap.size w)
 have H:((ZF.f k a0_0 l0_1).bind fun t131003=>(if t131003=true then((ZQ.f k a0_0 l0_1).bind fun bt131004=>(some (a0_0,bt131004.1))) else(some (0,([]:List (S148))))))=some (r1,r2):=h
 clear h
 replace H:=Zh H
 obtain⟨t131003,A20,H⟩:=H
 replace H:(if t131003=true then((ZQ.f k a0_0 l0_1).bind fun bt131004=>(some (a0_0,bt131004.1))) else(some (0,([]:List (S148)))))=some (r1,r2):=H
 have A2:=Za A20;clear A20
 by_cases c3:t131003=true
 ·subst c3
  have H1:((ZQ.f k a0_0 l0_1).bind fun bt131004=>(some (a0_0,bt131004.1)))=some (r1,r2):=by rw[if_pos rfl] at H;exact H
  clear H
  have H:=H1
  clear H1
  replace H:=Zh H
  obtain⟨⟨t131004,t131007⟩,A40,H⟩:=H
  replace H:(some (a0_0,t131004))=some (r1,r2):=H
  have A4:=Za A40;clear A40
  simp only[Option.some.injEq,Prod.mk.injEq] at H
  obtain⟨rfl,rfl⟩:=H
  go_enter Try.func131,Try.ntmps131
  go_wp2_with (first|((with_reducible refine ZD (N:=1) rfl ?_);refine ZE ?hg (N:=1) ?hd (cs:=#[.int .i64 a0_0,.slice A0_1 l0_1.length c0_1]) (t:=25) ?hr ?_;(case hd=>rfl);(case hg=>rfl);(case hr=>first|(go_simp;done)|(go_simp;rfl));intro gb131001 hg w5 hbox hb;have n0_:=Za (Zx (by repeat(first|(with_reducible first|exact HB.out|apply Zp|apply Zm|apply Zr)|exact HB.out)) hb);have n1_:=Za (hbox);have n2_:=Za ((by rw[hg];exact(Zw (by repeat(first|(with_reducible first|exact HB.out|apply Zp|apply Zm|apply Zr)|exact HB.out))):w.heap.size≤gb131001));have n3_:=Za ((by rw[hg];exact(Zw (by repeat(first|(with_reducible first|exact HB.out|apply Zp|apply Zm|apply Zr)|exact HB.out))):w.heap.size≤gb131001));clear HB;have HB:=n0_;have BK131001:=n1_;have GW131001:=n2_;have GE131001:=n3_;clear n0_ n1_ n2_ n3_;clear hb hbox hg)|((with_reducible refine ZD (N:=2) rfl ?_);refine ZE ?hg (N:=2) ?hd (cs:=#[.int .i64 0,.slice none 0 0]) (t:=95) ?hr ?_;(case hd=>rfl);(case hg=>rfl);(case hr=>first|(go_simp;done)|(go_simp;rfl));intro gb131002 hg w6 hbox hb;have n0_:=Za (Zy (g:=gb131001) (o:=.cells #[.int .i64 a0_0,.slice A0_1 l0_1.length c0_1] 25 (0,0)) (by(with_reducible repeat(first|refine Zn ?_ _|refine Zs ?_|refine Zo ?_ _));exact BK131001.out) hb);have n1_:=Za (Zx (by repeat(first|(with_reducible first|exact HB.out|apply Zp|apply Zm|apply Zr|refine Zq ?_ GE131001.out)|exact HB.out)) hb);have n2_:=Za (hbox);have n3_:=Za ((by rw[hg];exact(Zw (by repeat(first|(with_reducible first|exact HB.out|apply Zp|apply Zm|apply Zr|refine Zq ?_ GE131001.out)|exact HB.out))):w.heap.size≤gb131002));have n4_:=Za ((by rw[hg];exact(Zw (by repeat(first|(with_reducible first|exact HB.out|apply Zp|apply Zm|apply Zr|refine Zq ?_ GE131001.out)|exact HB.out))):w.heap.size≤gb131002));have n5_:=Za ((by rw[hg];exact Nat.ne_of_lt (ZC (g:=gb131001) (o:=.cells #[.int .i64 a0_0,.slice A0_1 l0_1.length c0_1] 25 (0,0)) (by(with_reducible repeat(first|refine Zn ?_ _|refine Zs ?_|refine Zo ?_ _));exact BK131001.out)):gb131001≠gb131002));have n6_:=Za ((by rw[hg];exact Nat.ne_of_gt (ZC (g:=gb131001) (o:=.cells #[.int .i64 a0_0,.slice A0_1 l0_1.length c0_1] 25 (0,0)) (by(with_reducible repeat(first|refine Zn ?_ _|refine Zs ?_|refine Zo ?_ _));exact BK131001.out)):gb131002≠gb131001));clear BK131001;clear HB;have BK131001:=n0_;have HB:=n1_;have BK131002:=n2_;have GW131002:=n3_;have GE131002:=n4_;have NB131001_131002:=n5_;have NB131002_131001:=n6_;clear n0_ n1_ n2_ n3_ n4_ n5_ n6_;clear hb hbox hg;have hnb7:=NB131001_131002.out;have hnc7:=NB131002_131001.out;have hcz8_0:w6.cell? ⟨gb131001,0,none⟩=some (.int .i64 a0_0):=(Zv BK131001.out 0).trans rfl;have hcz8_1:w6.cell? ⟨gb131001,1,none⟩=some (.slice A0_1 l0_1.length c0_1):=(Zv BK131001.out 1).trans rfl;have hfz8_0:=Zu BK131001.out 0;have hfz8_1:=Zu BK131001.out 1)|((with_reducible refine ZL (f:=129) rfl ?_);refine ZZ (some 6) rfl rfl Try.func129 (by kernel_rfl) rfl #[.agg #[.int .i64 a0_0,.slice A0_1 l0_1.length c0_1]] rfl (by(try simp only[List.map_toArray,List.map_cons,List.map_nil]);first|done|rfl|(simp only[Zk,Zj];rfl)) ?_;(with_reducible refine(ZF.calls k a0_0 _ _ l0_1 true _ ?side1 ?side2 A2.out).mono ?_);(case side1=>repeat(first|exact(Zb HR0_1.out HB.out)|(with_reducible refine Kd.C_alloc ?_ _)|(with_reducible refine Kd.C_drewN ?_ _)|(with_reducible refine Kd.C_drew ?_)));(case side2=>exact HC0_1.out);rintro e w9 ⟨rfl,hb⟩;refine⟨_,rfl,?_⟩;have n0_:=Za (Zy (g:=gb131001) (o:=.cells #[.int .i64 a0_0,.slice A0_1 l0_1.length c0_1] 25 (0,0)) (by(with_reducible repeat(first|refine Zn ?_ _|refine Zs ?_|refine Zo ?_ _));exact BK131001.out) hb);have n1_:=Za (Zy (g:=gb131002) (o:=.cells #[.int .i64 0,.slice none 0 0] 95 (0,0)) (by(with_reducible repeat(first|refine Zn ?_ _|refine Zs ?_|refine Zo ?_ _));exact BK131002.out) hb);have n2_:=Za (Zx (by repeat(first|(with_reducible first|exact HB.out|apply Zp|apply Zm|apply Zr|refine Zq ?_ GE131001.out|refine Zq ?_ GE131002.out)|exact HB.out)) hb);clear BK131001;clear BK131002;clear HB;have BK131001:=n0_;have BK131002:=n1_;have HB:=n2_;clear n0_ n1_ n2_;(try clear hb);(try clear hb2);(try clear hk);(try clear hi);have hcz10_0:w9.cell? ⟨gb131001,0,none⟩=some (.int .i64 a0_0):=(Zv BK131001.out 0).trans rfl;have hcz10_1:w9.cell? ⟨gb131001,1,none⟩=some (.slice A0_1 l0_1.length c0_1):=(Zv BK131001.out 1).trans rfl;have hfz10_0:=Zu BK131001.out 0;have hfz10_1:=Zu BK131001.out 1)|((with_reducible refine ZL (f:=168) rfl ?_);refine ZZ (some 11) rfl rfl Try.func168 (by kernel_rfl) rfl #[.agg #[.int .i64 a0_0,.slice A0_1 l0_1.length c0_1]] rfl (by(try simp only[List.map_toArray,List.map_cons,List.map_nil]);first|done|rfl|(simp only[Zk,Zj];rfl)) ?_;(with_reducible refine(ZQ.calls k a0_0 _ _ l0_1 t131004 t131007 _ ?side1 ?side2 A4.out).mono ?_);(case side1=>repeat(first|exact(Zb HR0_1.out HB.out)|(with_reducible refine Kd.C_alloc ?_ _)|(with_reducible refine Kd.C_drewN ?_ _)|(with_reducible refine Kd.C_drew ?_)));(case side2=>exact HC0_1.out);rintro e w11 ⟨v131005,v131008,rfl,ho0,ho1,hb⟩;refine⟨_,rfl,?_⟩;have n0_:=Za (Kd.R_lower ho0 (Zw (by repeat(first|(with_reducible first|exact HB.out|apply Zp|apply Zm|apply Zr|refine Zq ?_ GE131001.out|refine Zq ?_ GE131002.out)|exact HB.out))));have n1_:=Za (Kd.R_lower ho1 (Zw (by repeat(first|(with_reducible first|exact HB.out|apply Zp|apply Zm|apply Zr|refine Zq ?_ GE131001.out|refine Zq ?_ GE131002.out)|exact HB.out))));have n2_:=Za (Zy (g:=gb131001) (o:=.cells #[.int .i64 a0_0,.slice A0_1 l0_1.length c0_1] 25 (0,0)) (by(with_reducible repeat(first|refine Zn ?_ _|refine Zs ?_|refine Zo ?_ _));exact BK131001.out) hb);have n3_:=Za (Zy (g:=gb131002) (o:=.cells #[.int .i64 0,.slice none 0 0] 95 (0,0)) (by(with_reducible repeat(first|refine Zn ?_ _|refine Zs ?_|refine Zo ?_ _));exact BK131002.out) hb);have n4_:=Za (Zx (by repeat(first|(with_reducible first|exact HB.out|apply Zp|apply Zm|apply Zr|refine Zq ?_ GE131001.out|refine Zq ?_ GE131002.out)|exact HB.out)) hb);clear BK131001;clear BK131002;clear HB;have HO131006:=n0_;have HO131009:=n1_;have BK131001:=n2_;have BK131002:=n3_;have HB:=n4_;clear n0_ n1_ n2_ n3_ n4_;(try clear hb);(try clear hb2);(try clear hk);(try clear hi);(try clear ho0);(try clear ho1);have hcz12_0:w11.cell? ⟨gb131001,0,none⟩=some (.int .i64 a0_0):=(Zv BK131001.out 0).trans rfl;have hcz12_1:w11.cell? ⟨gb131001,1,none⟩=some (.slice A0_1 l0_1.length c0_1):=(Zv BK131001.out 1).trans rfl;have hfz12_0:=Zu BK131001.out 0;have hfz12_1:=Zu BK131001.out 1;obtain⟨Ao13,co13,eo13⟩:=Kd.R_slice HO131006.out;subst eo13;have hcz14_0:w11.cell? ⟨gb131002,0,none⟩=some (.int .i64 0):=(Zv BK131002.out 0).trans rfl;have hcz14_1:w11.cell? ⟨gb131002,1,none⟩=some (.slice none 0 0):=(Zv BK131002.out 1).trans rfl;have hfz14_0:=Zu BK131002.out 0;have hfz14_1:=Zu BK131002.out 1))
  refine bodyPost_ret (results_cell_row rfl _ _ gb131002 95 #[.int .i64 a0_0,.slice Ao13 t131004.length co13] (0,0) _ rfl (by(with_reducible repeat(first|refine Zn ?_ _|refine Zs ?_|refine Zo ?_ _));refine ZH (cs:=#[.int .i64 a0_0,.slice none 0 0]) ?_ 1 _ rfl;(with_reducible repeat(first|refine Zn ?_ _|refine Zs ?_|refine Zo ?_ _));refine ZH (cs:=#[.int .i64 0,.slice none 0 0]) ?_ 0 _ rfl;(with_reducible repeat(first|refine Zn ?_ _|refine Zs ?_|refine Zo ?_ _));exact BK131002.out) Try.underlying95 rfl (by kernel_rfl)) rfl ?_
  exact⟨_,by first|rfl|(simp[ZA,Zz] <;> rfl)|(simp[*,ZA,Zz] <;> rfl),by(with_reducible repeat(first|apply Kd.R_alloc|apply Kd.R_drewN|apply Kd.R_drew));exact Kd.R_mono (Kd.R_far (p:=⟨gb131002,1,none⟩) (Kd.R_far (p:=⟨gb131002,0,none⟩) (Kd.R_types HO131006.out BK131002.out (by decide)) (fun _ hk=>hk.2) (.int .i64 a0_0)) (fun _ hk=>hk.2) (.slice Ao13 t131004.length co13)) (fun _ hk=>trivial),by repeat(first|(with_reducible first|exact HB.out|apply Zp|apply Zm|apply Zr|refine Zq ?_ GE131001.out|refine Zq ?_ GE131002.out)|exact HB.out)⟩
 ·replace c3:=Bool.eq_false_iff.mpr c3
  subst c3
  have H1:(some (0,([]:List (S148))))=some (r1,r2):=by rw[if_neg (show ¬(false=true) by decide)] at H;exact H
  clear H
  have H:=H1
  clear H1
  simp only[Option.some.injEq,Prod.mk.injEq] at H
  obtain⟨rfl,rfl⟩:=H
  go_enter Try.func131,Try.ntmps131
  go_wp2_with (first|((with_reducible refine ZD (N:=1) rfl ?_);refine ZE ?hg (N:=1) ?hd (cs:=#[.int .i64 a0_0,.slice A0_1 l0_1.length c0_1]) (t:=25) ?hr ?_;(case hd=>rfl);(case hg=>rfl);(case hr=>first|(go_simp;done)|(go_simp;rfl));intro gb131001 hg w15 hbox hb;have n0_:=Za (Zx (by repeat(first|(with_reducible first|exact HB.out|apply Zp|apply Zm|apply Zr)|exact HB.out)) hb);have n1_:=Za (hbox);have n2_:=Za ((by rw[hg];exact(Zw (by repeat(first|(with_reducible first|exact HB.out|apply Zp|apply Zm|apply Zr)|exact HB.out))):w.heap.size≤gb131001));have n3_:=Za ((by rw[hg];exact(Zw (by repeat(first|(with_reducible first|exact HB.out|apply Zp|apply Zm|apply Zr)|exact HB.out))):w.heap.size≤gb131001));clear HB;have HB:=n0_;have BK131001:=n1_;have GW131001:=n2_;have GE131001:=n3_;clear n0_ n1_ n2_ n3_;clear hb hbox hg)|((with_reducible refine ZD (N:=2) rfl ?_);refine ZE ?hg (N:=2) ?hd (cs:=#[.int .i64 0,.slice none 0 0]) (t:=95) ?hr ?_;(case hd=>rfl);(case hg=>rfl);(case hr=>first|(go_simp;done)|(go_simp;rfl));intro gb131002 hg w16 hbox hb;have n0_:=Za (Zy (g:=gb131001) (o:=.cells #[.int .i64 a0_0,.slice A0_1 l0_1.length c0_1] 25 (0,0)) (by(with_reducible repeat(first|refine Zn ?_ _|refine Zs ?_|refine Zo ?_ _));exact BK131001.out) hb);have n1_:=Za (Zx (by repeat(first|(with_reducible first|exact HB.out|apply Zp|apply Zm|apply Zr|refine Zq ?_ GE131001.out)|exact HB.out)) hb);have n2_:=Za (hbox);have n3_:=Za ((by rw[hg];exact(Zw (by repeat(first|(with_reducible first|exact HB.out|apply Zp|apply Zm|apply Zr|refine Zq ?_ GE131001.out)|exact HB.out))):w.heap.size≤gb131002));have n4_:=Za ((by rw[hg];exact(Zw (by repeat(first|(with_reducible first|exact HB.out|apply Zp|apply Zm|apply Zr|refine Zq ?_ GE131001.out)|exact HB.out))):w.heap.size≤gb131002));have n5_:=Za ((by rw[hg];exact Nat.ne_of_lt (ZC (g:=gb131001) (o:=.cells #[.int .i64 a0_0,.slice A0_1 l0_1.length c0_1] 25 (0,0)) (by(with_reducible repeat(first|refine Zn ?_ _|refine Zs ?_|refine Zo ?_ _));exact BK131001.out)):gb131001≠gb131002));have n6_:=Za ((by rw[hg];exact Nat.ne_of_gt (ZC (g:=gb131001) (o:=.cells #[.int .i64 a0_0,.slice A0_1 l0_1.length c0_1] 25 (0,0)) (by(with_reducible repeat(first|refine Zn ?_ _|refine Zs ?_|refine Zo ?_ _));exact BK131001.out)):gb131002≠gb131001));clear BK131001;clear HB;have BK131001:=n0_;have HB:=n1_;have BK131002:=n2_;have GW131002:=n3_;have GE131002:=n4_;have NB131001_131002:=n5_;have NB131002_131001:=n6_;clear n0_ n1_ n2_ n3_ n4_ n5_ n6_;clear hb hbox hg;have hnb17:=NB131001_131002.out;have hnc17:=NB131002_131001.out;have hcz18_0:w16.cell? ⟨gb131001,0,none⟩=some (.int .i64 a0_0):=(Zv BK131001.out 0).trans rfl;have hcz18_1:w16.cell? ⟨gb131001,1,none⟩=some (.slice A0_1 l0_1.length c0_1):=(Zv BK131001.out 1).trans rfl;have hfz18_0:=Zu BK131001.out 0;have hfz18_1:=Zu BK131001.out 1)|((with_reducible refine ZL (f:=129) rfl ?_);refine ZZ (some 6) rfl rfl Try.func129 (by kernel_rfl) rfl #[.agg #[.int .i64 a0_0,.slice A0_1 l0_1.length c0_1]] rfl (by(try simp only[List.map_toArray,List.map_cons,List.map_nil]);first|done|rfl|(simp only[Zk,Zj];rfl)) ?_;(with_reducible refine(ZF.calls k a0_0 _ _ l0_1 false _ ?side1 ?side2 A2.out).mono ?_);(case side1=>repeat(first|exact(Zb HR0_1.out HB.out)|(with_reducible refine Kd.C_alloc ?_ _)|(with_reducible refine Kd.C_drewN ?_ _)|(with_reducible refine Kd.C_drew ?_)));(case side2=>exact HC0_1.out);rintro e w19 ⟨rfl,hb⟩;refine⟨_,rfl,?_⟩;have n0_:=Za (Zy (g:=gb131001) (o:=.cells #[.int .i64 a0_0,.slice A0_1 l0_1.length c0_1] 25 (0,0)) (by(with_reducible repeat(first|refine Zn ?_ _|refine Zs ?_|refine Zo ?_ _));exact BK131001.out) hb);have n1_:=Za (Zy (g:=gb131002) (o:=.cells #[.int .i64 0,.slice none 0 0] 95 (0,0)) (by(with_reducible repeat(first|refine Zn ?_ _|refine Zs ?_|refine Zo ?_ _));exact BK131002.out) hb);have n2_:=Za (Zx (by repeat(first|(with_reducible first|exact HB.out|apply Zp|apply Zm|apply Zr|refine Zq ?_ GE131001.out|refine Zq ?_ GE131002.out)|exact HB.out)) hb);clear BK131001;clear BK131002;clear HB;have BK131001:=n0_;have BK131002:=n1_;have HB:=n2_;clear n0_ n1_ n2_;(try clear hb);(try clear hb2);(try clear hk);(try clear hi);have hcz20_0:w19.cell? ⟨gb131002,0,none⟩=some (.int .i64 0):=(Zv BK131002.out 0).trans rfl;have hcz20_1:w19.cell? ⟨gb131002,1,none⟩=some (.slice none 0 0):=(Zv BK131002.out 1).trans rfl;have hfz20_0:=Zu BK131002.out 0;have hfz20_1:=Zu BK131002.out 1))
  refine bodyPost_ret (results_cell_row rfl _ _ gb131002 95 #[.int .i64 0,.slice none 0 0] (0,0) _ rfl (by(with_reducible repeat(first|refine Zn ?_ _|refine Zs ?_|refine Zo ?_ _));refine ZH (cs:=#[.int .i64 0,.slice none 0 0]) ?_ 1 _ rfl;(with_reducible repeat(first|refine Zn ?_ _|refine Zs ?_|refine Zo ?_ _));refine ZH (cs:=#[.int .i64 0,.slice none 0 0]) ?_ 0 _ rfl;(with_reducible repeat(first|refine Zn ?_ _|refine Zs ?_|refine Zo ?_ _));exact BK131002.out) Try.underlying95 rfl (by kernel_rfl)) rfl ?_
  exact⟨_,by first|rfl|(simp[ZA,Zz] <;> rfl)|(simp[*,ZA,Zz] <;> rfl),by first|exact Kd.R_nil _ _ _ _ _|exact Kd.N_nil _ _ _ _ _|exact Kd.V_nil _ _ _ _ _|exact Kd.Q_nil _ _ _ _ _|exact Kd.S_nil _ _ _ _ _,by repeat(first|(with_reducible first|exact HB.out|apply Zp|apply Zm|apply Zr|refine Zq ?_ GE131001.out|refine Zq ?_ GE131002.out)|exact HB.out)⟩
def Zaq.f (k:Nat) (a0_0:Int) (l0_1:List (S101)):Option (Bool):=(ZF.f k a0_0 l0_1).bind fun t83002=>(if t83002=true then((Zaz.f k a0_0 l0_1).bind fun bt83003=>((Zan.f k bt83003.1 bt83003.2).bind fun t83007=>(some ((t83007.length:Int) == 0)))) else(some false))
set_option maxHeartbeats 8000000 in
set_option maxRecDepth 100000 in
theorem Zaq.calls (k:Nat) (a0_0:Int) (A0_1:Option Addr) (c0_1:Nat) (l0_1:List (S101)) (r:Bool) (w:World) (hr0_1:Kd.C k101 w A0_1 l0_1.length l0_1) (hc0_1:l0_1.length≤c0_1) (h:Zaq.f k a0_0 l0_1=some r) :
  Calls Try.prog 83 #[.agg #[.int .i64 a0_0,.slice A0_1 l0_1.length c0_1]] w fun e w'=>e=.returned (.bool r)∧Below w.heap.size w w':=by
 have hu25:=Try.underlying25
 have HR0_1:=Za hr0_1;have HC0_1:=Za hc0_1;clear hr0_1 hc0_1
 have HB:=Za (Below.refl w.heap.size w)
 have H:((ZF.f k a0_0 l0_1).bind fun t83002=>(if t83002=true then((Zaz.f k a0_0 l0_1).bind fun bt83003=>((Zan.f k bt83003.1 bt83003.2).bind fun t83007=>(some ((t83007.length:Int) == 0)))) else(some false)))=some r:=h
 clear h
 replace H:=Zh H
 obtain⟨t83002,A20,H⟩:=H
 replace H:(if t83002=true then((Zaz.f k a0_0 l0_1).bind fun bt83003=>((Zan.f k bt83003.1 bt83003.2).bind fun t83007=>(some ((t83007.length:Int) == 0)))) else(some false))=some r:=H
 have A2:=Za A20;clear A20
 by_cases c3:t83002=true
 ·subst c3
  have H1:((Zaz.f k a0_0 l0_1).bind fun bt83003=>((Zan.f k bt83003.1 bt83003.2).bind fun t83007=>(some ((t83007.length:Int) == 0))))=some r:=by rw[if_pos rfl] at H;exact H
  clear H
  have H:=H1
  clear H1
  replace H:=Zh H
  obtain⟨⟨t83003,t83004⟩,A40,H⟩:=H
  replace H:((Zan.f k t83003 t83004).bind fun t83007=>(some ((t83007.length:Int) == 0)))=some r:=H
  have A4:=Za A40;clear A40
  replace H:=Zh H
  obtain⟨t83007,A50,H⟩:=H
  replace H:(some ((t83007.length:Int) == 0))=some r:=H
  have A5:=Za A50;clear A50
  obtain rfl:=Zg H
  go_enter Try.func83,Try.ntmps83
  go_wp2_with (first|((with_reducible refine ZD (N:=1) rfl ?_);(try(refine Zaw (by rfl) ?_;dsimp only));refine ZE ?hg (N:=1) ?hd (cs:=#[.int .i64 a0_0,.slice A0_1 l0_1.length c0_1]) (t:=25) ?hr ?_;(case hd=>rfl);(case hg=>rfl);(case hr=>first|(go_simp;done)|(go_simp;rfl));intro gb83001 hg w6 hbox hb;have n0_:=Za (Zx (by repeat(first|(with_reducible first|exact HB.out|apply Zp|apply Zm|apply Zr)|exact HB.out)) hb);have n1_:=Za (hbox);have n2_:=Za ((by rw[hg];exact(Zw (by repeat(first|(with_reducible first|exact HB.out|apply Zp|apply Zm|apply Zr)|exact HB.out))):w.heap.size≤gb83001));have n3_:=Za ((by rw[hg];exact(Zw (by repeat(first|(with_reducible first|exact HB.out|apply Zp|apply Zm|apply Zr)|exact HB.out))):w.heap.size≤gb83001));clear HB;have HB:=n0_;have BK83001:=n1_;have GW83001:=n2_;have GE83001:=n3_;clear n0_ n1_ n2_ n3_;clear hb hbox hg;have hcz7_0:w6.cell? ⟨gb83001,0,none⟩=some (.int .i64 a0_0):=(Zv BK83001.out 0).trans rfl;have hcz7_1:w6.cell? ⟨gb83001,1,none⟩=some (.slice A0_1 l0_1.length c0_1):=(Zv BK83001.out 1).trans rfl;have hfz7_0:=Zu BK83001.out 0;have hfz7_1:=Zu BK83001.out 1)|((with_reducible refine ZL (f:=129) rfl ?_);refine ZZ (some 4) rfl rfl Try.func129 (by kernel_rfl) rfl #[.agg #[.int .i64 a0_0,.slice A0_1 l0_1.length c0_1]] rfl (by(try simp only[List.map_toArray,List.map_cons,List.map_nil]);first|done|rfl|(simp only[Zk,Zj];rfl)) ?_;(with_reducible refine(ZF.calls k a0_0 _ _ l0_1 true _ ?side1 ?side2 A2.out).mono ?_);(case side1=>repeat(first|exact(Zb HR0_1.out HB.out)|(with_reducible refine Kd.C_alloc ?_ _)|(with_reducible refine Kd.C_drewN ?_ _)|(with_reducible refine Kd.C_drew ?_)));(case side2=>exact HC0_1.out);rintro e w8 ⟨rfl,hb⟩;refine⟨_,rfl,?_⟩;have n0_:=Za (Zy (g:=gb83001) (o:=.cells #[.int .i64 a0_0,.slice A0_1 l0_1.length c0_1] 25 (0,0)) (by(with_reducible repeat(first|refine Zn ?_ _|refine Zs ?_|refine Zo ?_ _));exact BK83001.out) hb);have n1_:=Za (Zx (by repeat(first|(with_reducible first|exact HB.out|apply Zp|apply Zm|apply Zr|refine Zq ?_ GE83001.out)|exact HB.out)) hb);clear BK83001;clear HB;have BK83001:=n0_;have HB:=n1_;clear n0_ n1_;(try clear hb);(try clear hb2);(try clear hk);(try clear hi);have hcz9_0:w8.cell? ⟨gb83001,0,none⟩=some (.int .i64 a0_0):=(Zv BK83001.out 0).trans rfl;have hcz9_1:w8.cell? ⟨gb83001,1,none⟩=some (.slice A0_1 l0_1.length c0_1):=(Zv BK83001.out 1).trans rfl;have hfz9_0:=Zu BK83001.out 0;have hfz9_1:=Zu BK83001.out 1)|(go_at_call 131;(with_reducible refine(Zaz.calls k a0_0 _ _ l0_1 t83003 t83004 _ ?side1 ?side2 A4.out).mono ?_);(case side1=>repeat(first|exact(Zb HR0_1.out HB.out)|(with_reducible refine Kd.C_alloc ?_ _)|(with_reducible refine Kd.C_drewN ?_ _)|(with_reducible refine Kd.C_drew ?_)));(case side2=>exact HC0_1.out);rintro e w10 ⟨v83005,rfl,ho0,hb⟩;have n0_:=Za (Kd.R_lower ho0 (Zw (by repeat(first|(with_reducible first|exact HB.out|apply Zp|apply Zm|apply Zr|refine Zq ?_ GE83001.out)|exact HB.out))));have n1_:=Za (Zy (g:=gb83001) (o:=.cells #[.int .i64 a0_0,.slice A0_1 l0_1.length c0_1] 25 (0,0)) (by(with_reducible repeat(first|refine Zn ?_ _|refine Zs ?_|refine Zo ?_ _));exact BK83001.out) hb);have n2_:=Za (Zx (by repeat(first|(with_reducible first|exact HB.out|apply Zp|apply Zm|apply Zr|refine Zq ?_ GE83001.out)|exact HB.out)) hb);clear BK83001;clear HB;have HO83006:=n0_;have BK83001:=n1_;have HB:=n2_;clear n0_ n1_ n2_;(try clear hb);(try clear hb2);(try clear hk);(try clear hi);(try clear ho0);obtain⟨Ao11,co11,eo11⟩:=Kd.R_slice HO83006.out;subst eo11)|(go_at_call 130;(with_reducible refine(Zan.calls k t83003 _ _ t83004 t83007 _ ?side1 ?side2 A5.out).mono ?_);(case side1=>repeat(first|exact(Kd.R_reads' HO83006.out).2.2|(with_reducible refine Kd.C_alloc ?_ _)|(with_reducible refine Kd.C_drewN ?_ _)|(with_reducible refine Kd.C_drew ?_)));(case side2=>exact(Kd.R_reads' HO83006.out).2.1);rintro e w12 ⟨v83008,rfl,ho0,hb⟩;have n0_:=Za (Kd.R_below (by(with_reducible repeat(first|apply Kd.R_alloc|apply Kd.R_drewN|apply Kd.R_drew));exact HO83006.out) hb);have n1_:=Za (Kd.R_lower ho0 (Zw (by repeat(first|(with_reducible first|exact HB.out|apply Zp|apply Zm|apply Zr|refine Zq ?_ GE83001.out)|exact HB.out))));have n2_:=Za (Zy (g:=gb83001) (o:=.cells #[.int .i64 a0_0,.slice A0_1 l0_1.length c0_1] 25 (0,0)) (by(with_reducible repeat(first|refine Zn ?_ _|refine Zs ?_|refine Zo ?_ _));exact BK83001.out) hb);have n3_:=Za (Zx (by repeat(first|(with_reducible first|exact HB.out|apply Zp|apply Zm|apply Zr|refine Zq ?_ GE83001.out)|exact HB.out)) hb);clear HO83006;clear BK83001;clear HB;have HO83006:=n0_;have HO83009:=n1_;have BK83001:=n2_;have HB:=n3_;clear n0_ n1_ n2_ n3_;(try clear hb);(try clear hb2);(try clear hk);(try clear hi);(try clear ho0);obtain⟨Ao13,co13,eo13⟩:=Kd.R_slice HO83009.out;subst eo13))
  go_ret
  exact⟨by first|rfl|(simp[ZA,Zz] <;> rfl)|(simp[*,ZA,Zz] <;> rfl),by repeat(first|(with_reducible first|exact HB.out|apply Zp|apply Zm|apply Zr|refine Zq ?_ GE83001.out)|exact HB.out)⟩
 ·replace c3:=Bool.eq_false_iff.mpr c3
  subst c3
  have H1:(some false)=some r:=by rw[if_neg (show ¬(false=true) by decide)] at H;exact H
  clear H
  have H:=H1
  clear H1
  obtain rfl:=Zg H
  go_enter Try.func83,Try.ntmps83
  go_wp2_with (first|((with_reducible refine ZD (N:=1) rfl ?_);(try(refine Zaw (by rfl) ?_;dsimp only));refine ZE ?hg (N:=1) ?hd (cs:=#[.int .i64 a0_0,.slice A0_1 l0_1.length c0_1]) (t:=25) ?hr ?_;(case hd=>rfl);(case hg=>rfl);(case hr=>first|(go_simp;done)|(go_simp;rfl));intro gb83001 hg w14 hbox hb;have n0_:=Za (Zx (by repeat(first|(with_reducible first|exact HB.out|apply Zp|apply Zm|apply Zr)|exact HB.out)) hb);have n1_:=Za (hbox);have n2_:=Za ((by rw[hg];exact(Zw (by repeat(first|(with_reducible first|exact HB.out|apply Zp|apply Zm|apply Zr)|exact HB.out))):w.heap.size≤gb83001));have n3_:=Za ((by rw[hg];exact(Zw (by repeat(first|(with_reducible first|exact HB.out|apply Zp|apply Zm|apply Zr)|exact HB.out))):w.heap.size≤gb83001));clear HB;have HB:=n0_;have BK83001:=n1_;have GW83001:=n2_;have GE83001:=n3_;clear n0_ n1_ n2_ n3_;clear hb hbox hg;have hcz15_0:w14.cell? ⟨gb83001,0,none⟩=some (.int .i64 a0_0):=(Zv BK83001.out 0).trans rfl;have hcz15_1:w14.cell? ⟨gb83001,1,none⟩=some (.slice A0_1 l0_1.length c0_1):=(Zv BK83001.out 1).trans rfl;have hfz15_0:=Zu BK83001.out 0;have hfz15_1:=Zu BK83001.out 1)|((with_reducible refine ZL (f:=129) rfl ?_);refine ZZ (some 4) rfl rfl Try.func129 (by kernel_rfl) rfl #[.agg #[.int .i64 a0_0,.slice A0_1 l0_1.length c0_1]] rfl (by(try simp only[List.map_toArray,List.map_cons,List.map_nil]);first|done|rfl|(simp only[Zk,Zj];rfl)) ?_;(with_reducible refine(ZF.calls k a0_0 _ _ l0_1 false _ ?side1 ?side2 A2.out).mono ?_);(case side1=>repeat(first|exact(Zb HR0_1.out HB.out)|(with_reducible refine Kd.C_alloc ?_ _)|(with_reducible refine Kd.C_drewN ?_ _)|(with_reducible refine Kd.C_drew ?_)));(case side2=>exact HC0_1.out);rintro e w16 ⟨rfl,hb⟩;refine⟨_,rfl,?_⟩;have n0_:=Za (Zy (g:=gb83001) (o:=.cells #[.int .i64 a0_0,.slice A0_1 l0_1.length c0_1] 25 (0,0)) (by(with_reducible repeat(first|refine Zn ?_ _|refine Zs ?_|refine Zo ?_ _));exact BK83001.out) hb);have n1_:=Za (Zx (by repeat(first|(with_reducible first|exact HB.out|apply Zp|apply Zm|apply Zr|refine Zq ?_ GE83001.out)|exact HB.out)) hb);clear BK83001;clear HB;have BK83001:=n0_;have HB:=n1_;clear n0_ n1_;(try clear hb);(try clear hb2);(try clear hk);(try clear hi)))
  go_ret
  exact⟨by first|rfl|(simp[ZA,Zz] <;> rfl)|(simp[*,ZA,Zz] <;> rfl),by repeat(first|(with_reducible first|exact HB.out|apply Zp|apply Zm|apply Zr|refine Zq ?_ GE83001.out)|exact HB.out)⟩
def ZaS.f (k:Nat) (a0_0:Int) (l0_1:List (S101)) (l1:List Int):Option (Bool):=(ZU.f k a0_0 l0_1 l1).bind fun bt30002=>(if bt30002.2.2=true then((Zaq.f k bt30002.1 bt30002.2.1).bind fun t30008=>(some t30008)) else(some false))
set_option maxHeartbeats 8000000 in
set_option maxRecDepth 100000 in
theorem ZaS.calls (k:Nat) (a0_0:Int) (A0_1:Option Addr) (c0_1:Nat) (l0_1:List (S101)) (A1:Option Addr) (c1:Nat) (l1:List Int) (r:Bool) (w:World) (hr0_1:Kd.C k101 w A0_1 l0_1.length l0_1) (hc0_1:l0_1.length≤c0_1) (hr1:Kd.C (Kd.int .i64) w A1 l1.length l1) (hc1:l1.length≤c1) (h:ZaS.f k a0_0 l0_1 l1=some r) :
  Calls Try.prog 30 #[.agg #[.int .i64 a0_0,.slice A0_1 l0_1.length c0_1],.slice A1 l1.length c1] w fun e w'=>e=.returned (.bool r)∧Below w.heap.size w w':=by
 have hu25:=Try.underlying25
 have HR0_1:=Za hr0_1;have HC0_1:=Za hc0_1;clear hr0_1 hc0_1;have HR1:=Za hr1;have HC1:=Za hc1;clear hr1 hc1
 have HB:=Za (Below.refl w.heap.size w)
 have H:((ZU.f k a0_0 l0_1 l1).bind fun bt30002=>(if bt30002.2.2=true then((Zaq.f k bt30002.1 bt30002.2.1).bind fun t30008=>(some t30008)) else(some false)))=some r:=h
 clear h
 replace H:=Zh H
 obtain⟨⟨t30002,t30003,t30006⟩,A30,H⟩:=H
 replace H:(if t30006=true then((Zaq.f k t30002 t30003).bind fun t30008=>(some t30008)) else(some false))=some r:=H
 have A3:=Za A30;clear A30
 by_cases c4:t30006=true
 ·subst c4
  have H1:((Zaq.f k t30002 t30003).bind fun t30008=>(some t30008))=some r:=by rw[if_pos rfl] at H;exact H
  clear H
  have H:=H1
  clear H1
  replace H:=Zh H
  obtain⟨t30008,A50,H⟩:=H
  replace H:(some t30008)=some r:=H
  have A5:=Za A50;clear A50
  obtain rfl:=Zg H
  go_enter Try.func30,Try.ntmps30
  go_wp2_with (first|((with_reducible refine ZD (N:=2) rfl ?_);refine ZE ?hg (N:=2) ?hd (cs:=#[.int .i64 a0_0,.slice A0_1 l0_1.length c0_1]) (t:=25) ?hr ?_;(case hd=>rfl);(case hg=>rfl);(case hr=>first|(go_simp;done)|(go_simp;rfl));intro gb30001 hg w6 hbox hb;have n0_:=Za (Zx (by repeat(first|(with_reducible first|exact HB.out|apply Zp|apply Zm|apply Zr)|exact HB.out)) hb);have n1_:=Za (hbox);have n2_:=Za ((by rw[hg];exact(Zw (by repeat(first|(with_reducible first|exact HB.out|apply Zp|apply Zm|apply Zr)|exact HB.out))):w.heap.size≤gb30001));have n3_:=Za ((by rw[hg];exact(Zw (by repeat(first|(with_reducible first|exact HB.out|apply Zp|apply Zm|apply Zr)|exact HB.out))):w.heap.size≤gb30001));clear HB;have HB:=n0_;have BK30001:=n1_;have GW30001:=n2_;have GE30001:=n3_;clear n0_ n1_ n2_ n3_;clear hb hbox hg;have hcz7_0:w6.cell? ⟨gb30001,0,none⟩=some (.int .i64 a0_0):=(Zv BK30001.out 0).trans rfl;have hcz7_1:w6.cell? ⟨gb30001,1,none⟩=some (.slice A0_1 l0_1.length c0_1):=(Zv BK30001.out 1).trans rfl;have hfz7_0:=Zu BK30001.out 0;have hfz7_1:=Zu BK30001.out 1)|((with_reducible refine ZL (f:=82) rfl ?_);refine ZZ (some 10) rfl rfl Try.func82 (by kernel_rfl) rfl #[.agg #[.int .i64 a0_0,.slice A0_1 l0_1.length c0_1],.slice A1 l1.length c1] rfl (by(try simp only[List.map_toArray,List.map_cons,List.map_nil]);first|done|rfl|(simp only[Zk,Zj];rfl)) ?_;(with_reducible refine(ZU.calls k a0_0 _ _ l0_1 _ _ l1 t30002 t30003 true _ ?side1 ?side2 ?side3 ?side4 A3.out).mono ?_);(case side1=>repeat(first|exact(Zb HR0_1.out HB.out)|(with_reducible refine Kd.C_alloc ?_ _)|(with_reducible refine Kd.C_drewN ?_ _)|(with_reducible refine Kd.C_drew ?_)));(case side2=>exact HC0_1.out);(case side3=>repeat(first|exact(Zb HR1.out HB.out)|(with_reducible refine Kd.C_alloc ?_ _)|(with_reducible refine Kd.C_drewN ?_ _)|(with_reducible refine Kd.C_drew ?_)));(case side4=>exact HC1.out);rintro e w8 ⟨v30004,rfl,ho0,hb⟩;refine⟨_,rfl,?_⟩;have n0_:=Za (Kd.R_lower ho0 (Zw (by repeat(first|(with_reducible first|exact HB.out|apply Zp|apply Zm|apply Zr|refine Zq ?_ GE30001.out)|exact HB.out))));have n1_:=Za (Zy (g:=gb30001) (o:=.cells #[.int .i64 a0_0,.slice A0_1 l0_1.length c0_1] 25 (0,0)) (by(with_reducible repeat(first|refine Zn ?_ _|refine Zs ?_|refine Zo ?_ _));exact BK30001.out) hb);have n2_:=Za (Zx (by repeat(first|(with_reducible first|exact HB.out|apply Zp|apply Zm|apply Zr|refine Zq ?_ GE30001.out)|exact HB.out)) hb);clear BK30001;clear HB;have HO30005:=n0_;have BK30001:=n1_;have HB:=n2_;clear n0_ n1_ n2_;(try clear hb);(try clear hb2);(try clear hk);(try clear hi);(try clear ho0))|((with_reducible refine ZD (N:=5) rfl ?_);refine ZE ?hg (N:=5) ?hd (cs:=#[.int .i64 0,.slice none 0 0]) (t:=25) ?hr ?_;(case hd=>rfl);(case hg=>rfl);(case hr=>first|(go_simp;done)|(go_simp;rfl));intro gb30007 hg w9 hbox hb;have n0_:=Za (Kd.R_below (by(with_reducible repeat(first|apply Kd.R_alloc|apply Kd.R_drewN|apply Kd.R_drew));exact HO30005.out) hb);have n1_:=Za (Zy (g:=gb30001) (o:=.cells #[.int .i64 a0_0,.slice A0_1 l0_1.length c0_1] 25 (0,0)) (by(with_reducible repeat(first|refine Zn ?_ _|refine Zs ?_|refine Zo ?_ _));exact BK30001.out) hb);have n2_:=Za (Zx (by repeat(first|(with_reducible first|exact HB.out|apply Zp|apply Zm|apply Zr|refine Zq ?_ GE30001.out)|exact HB.out)) hb);have n3_:=Za (hbox);have n4_:=Za ((by rw[hg];exact(Zw (by repeat(first|(with_reducible first|exact HB.out|apply Zp|apply Zm|apply Zr|refine Zq ?_ GE30001.out)|exact HB.out))):w.heap.size≤gb30007));have n5_:=Za ((by rw[hg];exact(Zw (by repeat(first|(with_reducible first|exact HB.out|apply Zp|apply Zm|apply Zr|refine Zq ?_ GE30001.out)|exact HB.out))):w.heap.size≤gb30007));have n6_:=Za ((by rw[hg];exact Nat.ne_of_lt (ZC (g:=gb30001) (o:=.cells #[.int .i64 a0_0,.slice A0_1 l0_1.length c0_1] 25 (0,0)) (by(with_reducible repeat(first|refine Zn ?_ _|refine Zs ?_|refine Zo ?_ _));exact BK30001.out)):gb30001≠gb30007));have n7_:=Za ((by rw[hg];exact Nat.ne_of_gt (ZC (g:=gb30001) (o:=.cells #[.int .i64 a0_0,.slice A0_1 l0_1.length c0_1] 25 (0,0)) (by(with_reducible repeat(first|refine Zn ?_ _|refine Zs ?_|refine Zo ?_ _));exact BK30001.out)):gb30007≠gb30001));clear HO30005;clear BK30001;clear HB;have HO30005:=n0_;have BK30001:=n1_;have HB:=n2_;have BK30007:=n3_;have GW30007:=n4_;have GE30007:=n5_;have NB30001_30007:=n6_;have NB30007_30001:=n7_;clear n0_ n1_ n2_ n3_ n4_ n5_ n6_ n7_;clear hb hbox hg;have hnb10:=NB30007_30001.out;have hnc10:=NB30001_30007.out;have hcz11_0:w9.cell? ⟨gb30007,0,none⟩=some (.int .i64 0):=(Zv BK30007.out 0).trans rfl;have hcz11_1:w9.cell? ⟨gb30007,1,none⟩=some (.slice none 0 0):=(Zv BK30007.out 1).trans rfl;have hfz11_0:=Zu BK30007.out 0;have hfz11_1:=Zu BK30007.out 1;obtain⟨Ao12,co12,eo12⟩:=Kd.R_slice HO30005.out;subst eo12)|(go_at_call 83;(with_reducible refine(Zaq.calls k t30002 _ _ t30003 t30008 _ ?side1 ?side2 A5.out).mono ?_);(case side1=>refine(Kd.R_reads' (e:=101) (base:=w.heap.size) (ok:=fun k_=>True) (n:=t30003.length) (c:=co12) ?_).2.2;exact(by(with_reducible repeat(first|apply Kd.R_alloc|apply Kd.R_drewN|apply Kd.R_drew));exact(Kd.R_mono (Kd.R_far (p:=⟨gb30007,1,none⟩) (Kd.R_far (p:=⟨gb30007,0,none⟩) (Kd.R_types HO30005.out BK30007.out (by decide)) (fun _ hk=>hk.2) (.int .i64 t30002)) (fun _ hk=>hk.2) (.slice Ao12 t30003.length co12)) (fun _ h_=>h_.1))));(case side2=>exact(Kd.R_reads' HO30005.out).2.1);rintro e w13 ⟨rfl,hb⟩;have n0_:=Za (Kd.R_below (by(with_reducible repeat(first|apply Kd.R_alloc|apply Kd.R_drewN|apply Kd.R_drew));exact(Kd.R_mono (Kd.R_far (p:=⟨gb30007,1,none⟩) (Kd.R_far (p:=⟨gb30007,0,none⟩) (Kd.R_types HO30005.out BK30007.out (by decide)) (fun _ hk=>hk.2) (.int .i64 t30002)) (fun _ hk=>hk.2) (.slice Ao12 t30003.length co12)) (fun _ h_=>h_.1))) hb);have n1_:=Za (Zy (g:=gb30001) (o:=.cells #[.int .i64 a0_0,.slice A0_1 l0_1.length c0_1] 25 (0,0)) (by(with_reducible repeat(first|refine Zn ?_ _|refine Zs ?_|refine Zo ?_ _));refine ZB ?_ NB30001_30007.out _;(with_reducible repeat(first|refine Zn ?_ _|refine Zs ?_|refine Zo ?_ _));refine ZB ?_ NB30001_30007.out _;(with_reducible repeat(first|refine Zn ?_ _|refine Zs ?_|refine Zo ?_ _));exact BK30001.out) hb);have n2_:=Za (Zy (g:=gb30007) (o:=.cells #[.int .i64 t30002,.slice Ao12 t30003.length co12] 25 (0,0)) (by(with_reducible repeat(first|refine Zn ?_ _|refine Zs ?_|refine Zo ?_ _));refine ZH (cs:=#[.int .i64 t30002,.slice none 0 0]) ?_ 1 _ rfl;(with_reducible repeat(first|refine Zn ?_ _|refine Zs ?_|refine Zo ?_ _));refine ZH (cs:=#[.int .i64 0,.slice none 0 0]) ?_ 0 _ rfl;(with_reducible repeat(first|refine Zn ?_ _|refine Zs ?_|refine Zo ?_ _));exact BK30007.out) hb);have n3_:=Za (Zx (by repeat(first|(with_reducible first|exact HB.out|apply Zp|apply Zm|apply Zr|refine Zq ?_ GE30001.out|refine Zq ?_ GE30007.out)|exact HB.out)) hb);clear HO30005;clear BK30001;clear BK30007;clear HB;have HO30005:=n0_;have BK30001:=n1_;have BK30007:=n2_;have HB:=n3_;clear n0_ n1_ n2_ n3_;(try clear hb);(try clear hb2);(try clear hk);(try clear hi)))
  go_ret
  exact⟨by first|rfl|(simp[ZA,Zz] <;> rfl)|(simp[*,ZA,Zz] <;> rfl),by repeat(first|(with_reducible first|exact HB.out|apply Zp|apply Zm|apply Zr|refine Zq ?_ GE30001.out|refine Zq ?_ GE30007.out)|exact HB.out)⟩
 ·replace c4:=Bool.eq_false_iff.mpr c4
  subst c4
  have H1:(some false)=some r:=by rw[if_neg (show ¬(false=true) by decide)] at H;exact H
  clear H
  have H:=H1
  clear H1
  obtain rfl:=Zg H
  go_enter Try.func30,Try.ntmps30
  go_wp2_with (first|((with_reducible refine ZD (N:=2) rfl ?_);refine ZE ?hg (N:=2) ?hd (cs:=#[.int .i64 a0_0,.slice A0_1 l0_1.length c0_1]) (t:=25) ?hr ?_;(case hd=>rfl);(case hg=>rfl);(case hr=>first|(go_simp;done)|(go_simp;rfl));intro gb30001 hg w14 hbox hb;have n0_:=Za (Zx (by repeat(first|(with_reducible first|exact HB.out|apply Zp|apply Zm|apply Zr)|exact HB.out)) hb);have n1_:=Za (hbox);have n2_:=Za ((by rw[hg];exact(Zw (by repeat(first|(with_reducible first|exact HB.out|apply Zp|apply Zm|apply Zr)|exact HB.out))):w.heap.size≤gb30001));have n3_:=Za ((by rw[hg];exact(Zw (by repeat(first|(with_reducible first|exact HB.out|apply Zp|apply Zm|apply Zr)|exact HB.out))):w.heap.size≤gb30001));clear HB;have HB:=n0_;have BK30001:=n1_;have GW30001:=n2_;have GE30001:=n3_;clear n0_ n1_ n2_ n3_;clear hb hbox hg;have hcz15_0:w14.cell? ⟨gb30001,0,none⟩=some (.int .i64 a0_0):=(Zv BK30001.out 0).trans rfl;have hcz15_1:w14.cell? ⟨gb30001,1,none⟩=some (.slice A0_1 l0_1.length c0_1):=(Zv BK30001.out 1).trans rfl;have hfz15_0:=Zu BK30001.out 0;have hfz15_1:=Zu BK30001.out 1)|((with_reducible refine ZL (f:=82) rfl ?_);refine ZZ (some 10) rfl rfl Try.func82 (by kernel_rfl) rfl #[.agg #[.int .i64 a0_0,.slice A0_1 l0_1.length c0_1],.slice A1 l1.length c1] rfl (by(try simp only[List.map_toArray,List.map_cons,List.map_nil]);first|done|rfl|(simp only[Zk,Zj];rfl)) ?_;(with_reducible refine(ZU.calls k a0_0 _ _ l0_1 _ _ l1 t30002 t30003 false _ ?side1 ?side2 ?side3 ?side4 A3.out).mono ?_);(case side1=>repeat(first|exact(Zb HR0_1.out HB.out)|(with_reducible refine Kd.C_alloc ?_ _)|(with_reducible refine Kd.C_drewN ?_ _)|(with_reducible refine Kd.C_drew ?_)));(case side2=>exact HC0_1.out);(case side3=>repeat(first|exact(Zb HR1.out HB.out)|(with_reducible refine Kd.C_alloc ?_ _)|(with_reducible refine Kd.C_drewN ?_ _)|(with_reducible refine Kd.C_drew ?_)));(case side4=>exact HC1.out);rintro e w16 ⟨v30004,rfl,ho0,hb⟩;refine⟨_,rfl,?_⟩;have n0_:=Za (Kd.R_lower ho0 (Zw (by repeat(first|(with_reducible first|exact HB.out|apply Zp|apply Zm|apply Zr|refine Zq ?_ GE30001.out)|exact HB.out))));have n1_:=Za (Zy (g:=gb30001) (o:=.cells #[.int .i64 a0_0,.slice A0_1 l0_1.length c0_1] 25 (0,0)) (by(with_reducible repeat(first|refine Zn ?_ _|refine Zs ?_|refine Zo ?_ _));exact BK30001.out) hb);have n2_:=Za (Zx (by repeat(first|(with_reducible first|exact HB.out|apply Zp|apply Zm|apply Zr|refine Zq ?_ GE30001.out)|exact HB.out)) hb);clear BK30001;clear HB;have HO30005:=n0_;have BK30001:=n1_;have HB:=n2_;clear n0_ n1_ n2_;(try clear hb);(try clear hb2);(try clear hk);(try clear hi);(try clear ho0))|((with_reducible refine ZD (N:=5) rfl ?_);refine ZE ?hg (N:=5) ?hd (cs:=#[.int .i64 0,.slice none 0 0]) (t:=25) ?hr ?_;(case hd=>rfl);(case hg=>rfl);(case hr=>first|(go_simp;done)|(go_simp;rfl));intro gb30007 hg w17 hbox hb;have n0_:=Za (Kd.R_below (by(with_reducible repeat(first|apply Kd.R_alloc|apply Kd.R_drewN|apply Kd.R_drew));exact HO30005.out) hb);have n1_:=Za (Zy (g:=gb30001) (o:=.cells #[.int .i64 a0_0,.slice A0_1 l0_1.length c0_1] 25 (0,0)) (by(with_reducible repeat(first|refine Zn ?_ _|refine Zs ?_|refine Zo ?_ _));exact BK30001.out) hb);have n2_:=Za (Zx (by repeat(first|(with_reducible first|exact HB.out|apply Zp|apply Zm|apply Zr|refine Zq ?_ GE30001.out)|exact HB.out)) hb);have n3_:=Za (hbox);have n4_:=Za ((by rw[hg];exact(Zw (by repeat(first|(with_reducible first|exact HB.out|apply Zp|apply Zm|apply Zr|refine Zq ?_ GE30001.out)|exact HB.out))):w.heap.size≤gb30007));have n5_:=Za ((by rw[hg];exact(Zw (by repeat(first|(with_reducible first|exact HB.out|apply Zp|apply Zm|apply Zr|refine Zq ?_ GE30001.out)|exact HB.out))):w.heap.size≤gb30007));have n6_:=Za ((by rw[hg];exact Nat.ne_of_lt (ZC (g:=gb30001) (o:=.cells #[.int .i64 a0_0,.slice A0_1 l0_1.length c0_1] 25 (0,0)) (by(with_reducible repeat(first|refine Zn ?_ _|refine Zs ?_|refine Zo ?_ _));exact BK30001.out)):gb30001≠gb30007));have n7_:=Za ((by rw[hg];exact Nat.ne_of_gt (ZC (g:=gb30001) (o:=.cells #[.int .i64 a0_0,.slice A0_1 l0_1.length c0_1] 25 (0,0)) (by(with_reducible repeat(first|refine Zn ?_ _|refine Zs ?_|refine Zo ?_ _));exact BK30001.out)):gb30007≠gb30001));clear HO30005;clear BK30001;clear HB;have HO30005:=n0_;have BK30001:=n1_;have HB:=n2_;have BK30007:=n3_;have GW30007:=n4_;have GE30007:=n5_;have NB30001_30007:=n6_;have NB30007_30001:=n7_;clear n0_ n1_ n2_ n3_ n4_ n5_ n6_ n7_;clear hb hbox hg;have hnb18:=NB30007_30001.out;have hnc18:=NB30001_30007.out;have hcz19_0:w17.cell? ⟨gb30007,0,none⟩=some (.int .i64 0):=(Zv BK30007.out 0).trans rfl;have hcz19_1:w17.cell? ⟨gb30007,1,none⟩=some (.slice none 0 0):=(Zv BK30007.out 1).trans rfl;have hfz19_0:=Zu BK30007.out 0;have hfz19_1:=Zu BK30007.out 1;obtain⟨Ao20,co20,eo20⟩:=Kd.R_slice HO30005.out;subst eo20))
  go_ret
  exact⟨by first|rfl|(simp[ZA,Zz] <;> rfl)|(simp[*,ZA,Zz] <;> rfl),by repeat(first|(with_reducible first|exact HB.out|apply Zp|apply Zm|apply Zr|refine Zq ?_ GE30001.out|refine Zq ?_ GE30007.out)|exact HB.out)⟩
end Go.Proofs.Ytpoffpdaadhkgaa.Pr
namespace Go.Proofs.Ytpoffpdaadhkgaa.Pr
open Go.RowKit Go.Proofs.YtpoffpdaadhkgaaW.PrintWords Go.Proofs.YtpoffpdaadhkgaaW.PrintLast Go.Proofs.YtpoffpdaadhkgaaW.PrintMore
attribute [local go_sem] Z7 Z5 Zaf Zae ZY ZX Z6 Z4
set_option linter.unusedVariables false
set_option linter.unusedSimpArgs false
open Go.Proofs.Ytpoffpdaadhkgaa.Ni
set_option maxHeartbeats 4000000 in
set_option maxRecDepth 100000 in
theorem laws_eqLink.same (a0:Int) (a1:Int) (a2:Int) (a3:Int) (w:World)  :
  Calls Try.prog 133 #[.agg #[.int .i64 a0,.int .i64 a1,.int .i64 a2,.int .i64 a3],.agg #[.int .i64 a0,.int .i64 a1,.int .i64 a2,.int .i64 a3]] w fun e w'=>e=.returned (.bool true)∧Below w.heap.size w w':=by
 have hu:=Try.underlying101
 have HB0:=Za (Zp (Zp (Below.refl w.heap.size w) (.cells #[.int .i64 a0,.int .i64 a1,.int .i64 a2,.int .i64 a3] 101)) (.cells #[.int .i64 a0,.int .i64 a1,.int .i64 a2,.int .i64 a3] 101))
 go_enter Try.func133,Try.ntmps133
 go_wp2
 go_ret
 exact⟨rfl,by repeat(first|exact Below.refl _ _|apply Zp|apply Zm|apply ZaB)⟩
set_option maxHeartbeats 4000000 in
set_option maxRecDepth 100000 in
theorem laws_eqLinkS.same (A0:Option Addr) (c0:Nat) (A0':Option Addr) (c0':Nat) (l0:List (S101)) (w:World) (hr0:Kd.C k101 w A0 l0.length l0) (hc0:l0.length≤c0) (hr0':Kd.C k101 w A0' l0.length l0) (hc0':l0.length≤c0') :
  Calls Try.prog 85 #[.slice A0 l0.length c0,.slice A0' l0.length c0'] w fun e w'=>e=.returned (.bool true)∧Below w.heap.size w w':=by
 have hL:l0.length≤9223372036854775807:=hr0.2.1
 have HR:=Za hr0
 have HS:=Za hr0'
 clear hr0 hr0'
 go_enter Try.func85,Try.ntmps85
 go_wp2
 go_loopg [5] l0.length (fun gg s5 wr=>∃kk:Nat,Aside0 (kk≤l0.length)∧Aside0 (l0.length - kk≤gg)∧s5=.int .i64 kk∧Aside0 (Below w.heap.size w wr))
 case atStart=>exact⟨0,⟨Nat.zero_le _⟩,⟨by omega⟩,rfl,⟨Below.refl _ _⟩⟩
 case round=>
  obtain⟨kk,HK,HG,rfl,HBr⟩:=hrel
  by_cases hlt:kk<l0.length
  ·have hltz:(kk:Int)<(l0.length:Int):=by omega
   obtain⟨adx,ex,hx0,hx1,hx2,hx3⟩:=ZaF HR.out (kk:Int) (by omega) hltz
   obtain⟨ady,ey,hy0,hy1,hy2,hy3⟩:=ZaF HS.out (kk:Int) (by omega) hltz
   cases ex
   cases ey
   rw[Int.toNat_natCast] at hx0 hx1 hx2 hx3 hy0 hy1 hy2 hy3
   generalize Zt l0 (kk:Int)=y at hx0 hx1 hx2 hx3 hy0 hy1 hy2 hy3
   replace hx0:=ZO HBr.out hx0
   replace hx1:=ZO HBr.out hx1
   replace hx2:=ZO HBr.out hx2
   replace hx3:=ZO HBr.out hx3
   replace hy0:=ZO HBr.out hy0
   replace hy1:=ZO HBr.out hy1
   replace hy2:=ZO HBr.out hy2
   replace hy3:=ZO HBr.out hy3
   have hltx:=Zc wr _ hx0
   have hlty:=Zc wr _ hy0
   go_wp2_with fail
   go_region_held3 (fun w'=>Below wr.heap.size wr w'∧w'.cell? (adx.add (kk * 4))=some (.int .i64 y.f0)∧w'.cell? ⟨(adx.add (kk * 4)).block,(adx.add (kk * 4)).off+1,none⟩=some (.int .i64 y.f1)∧w'.cell? ⟨(adx.add (kk * 4)).block,(adx.add (kk * 4)).off+2,none⟩=some (.int .i64 y.f2.f0)∧w'.cell? ⟨(adx.add (kk * 4)).block,(adx.add (kk * 4)).off+3,none⟩=some (.int .i64 y.f2.f1)∧w'.cell? (ady.add (kk * 4))=some (.int .i64 y.f0)∧w'.cell? ⟨(ady.add (kk * 4)).block,(ady.add (kk * 4)).off+1,none⟩=some (.int .i64 y.f1)∧w'.cell? ⟨(ady.add (kk * 4)).block,(ady.add (kk * 4)).off+2,none⟩=some (.int .i64 y.f2.f0)∧w'.cell? ⟨(ady.add (kk * 4)).block,(ady.add (kk * 4)).off+3,none⟩=some (.int .i64 y.f2.f1))
    (first|(refine⟨by repeat(first|(with_reducible first|exact Below.refl _ _|apply Zp|apply Zm|apply Zr|exact(‹Below wr.heap.size wr _∧_› : Below wr.heap.size wr _∧_).1)|exact Below.refl _ _),?_⟩;go_simp;done)|(have HQ_:=Zx (‹Below wr.heap.size wr _∧_› : Below wr.heap.size wr _∧_).1 hb;exact⟨HQ_,ZO HQ_ hx0,ZO HQ_ hx1,ZO HQ_ hx2,ZO HQ_ hx3,ZO HQ_ hy0,ZO HQ_ hy1,ZO HQ_ hy2,ZO HQ_ hy3⟩))
    (first|(go_at_call 133;(refine(laws_eqLink.same y.f0 y.f1 y.f2.f0 y.f2.f1 _ ).mono ?_);rintro e w3 ⟨rfl,hb⟩))
   have HB3:=Za (‹Below wr.heap.size wr w3∧_› : Below wr.heap.size wr w3∧_).1
   go_wp2
   go_roundg (l0.length - (kk+1))
   case measure=>have:=HG.out;omega
   case rel=>exact⟨kk+1,⟨by omega⟩,⟨by omega⟩,by go_num,⟨HBr.out.trans (HB3.out.mono HBr.out.size)⟩⟩
  ·have hltz:¬(kk:Int)<(l0.length:Int):=by omega
   have:kk=l0.length:=by have:=HK.out;omega
   subst this
   go_wp2
   go_ret
   exact⟨rfl,HBr.out⟩
set_option maxHeartbeats 4000000 in
set_option maxRecDepth 100000 in
theorem Zc9.same (a0:Int) (A1:Option Addr) (c1:Nat) (A1':Option Addr) (c1':Nat) (l1:List (S101)) (w:World) (hr1:Kd.C k101 w A1 l1.length l1) (hc1:l1.length≤c1) (hr1':Kd.C k101 w A1' l1.length l1) (hc1':l1.length≤c1') :
  Calls Try.prog 33 #[.agg #[.int .i64 a0,.slice A1 l1.length c1],.agg #[.int .i64 a0,.slice A1' l1.length c1']] w fun e w'=>e=.returned (.bool true)∧Below w.heap.size w w':=by
 have hu:=Try.underlying25
 have H1:=Za fun (W:World) (hb:Below w.heap.size w W)=>laws_eqLinkS.same A1 c1 A1' c1' l1 W (Zb hr1 hb) hc1 (Zb hr1' hb) hc1'
 clear hr1 hc1 hr1' hc1'
 have HB0:=Za (Zp (Zp (Below.refl w.heap.size w) (.cells #[.int .i64 a0,.slice A1 l1.length c1] 25)) (.cells #[.int .i64 a0,.slice A1' l1.length c1'] 25))
 go_enter Try.func33,Try.ntmps33
 go_wp2_with fail
 refine(H1.out _ HB0.out).mono ?_
 rintro e w1 ⟨rfl,hb⟩
 have HB1:=Za (HB0.out.trans (hb.mono HB0.out.size))
 clear hb
 go_wp2
 go_ret
 exact⟨rfl,HB1.out⟩
end Go.Proofs.Ytpoffpdaadhkgaa.Pr
namespace Go.Proofs.Ytpoffpdaadhkgaa.Pr
open Go.RowKit Go.Proofs.YtpoffpdaadhkgaaW.PrintWords Go.Proofs.Ytpoffpdaadhkgaa.Ni
abbrev LLink:=S156
abbrev Zao:=S101
def cvI (x:S154):S29:=⟨x.f0,x.f1⟩
def cvK (x:LLink):Zao:=⟨x.f0,x.f1,cvI x.f2⟩
theorem rdK_nat (l:List Zao) (i:Nat):Zt l (i:Int)=l.getD i z101:=by unfold Zt;rw[Int.toNat_natCast]
theorem rdLK_nat (l:List LLink) (i:Nat):Zay l (i:Int)=l.getD i z156:=by unfold Zay;rw[Int.toNat_natCast]
theorem zK:cvK z156=z101:=rfl
theorem getD_mapK (l:List LLink) (i:Nat):(l.map cvK).getD i z101=cvK (l.getD i z156):=by
 rw[← zK,List.getD_eq_getElem?_getD,List.getD_eq_getElem?_getD,List.getElem?_map]
 cases l[i]? <;> rfl
theorem szSimple_f (n:Int) (l:List LLink) (hl:l.length≤9223372036854775807) (a:Int) (h0:0≤a) (h1:a≤1048576):∃r,ZaN.f n l a=some r∧(r<0∨(0≤r∧r≤a∧l.length≤1048576)):=by
 unfold ZaN.f ZaW.f
 rw[ZbQ (by omega) (by omega)]
 by_cases h:a - (l.length:Int)<0
 ·rw[if_pos h,Zi,if_pos (by omega)];exact⟨_,rfl,.inl (by omega)⟩
 ·rw[if_neg h,Zi,if_neg h];exact⟨_,rfl,.inr ⟨by omega,by omega,by omega⟩⟩
theorem toLinkS_f (l:List LLink) (hl:l.length≤1048576) (k:Nat) (hk:2 ^ 64≤k):Z2.f k l=some (l.map cvK):=by
 have key:=Za8 l.length (fun k i=>Z2.l0 k l ((l.map cvK).take i ++ List.replicate ((l.map cvK).length - i) z101) (i:Int)=some (l.map cvK)) 0
  (fun k _=>by simp[Z2.l0];rw[List.take_of_length_le (by simp)])
  (fun k i hk hi ih=>by
   simp only[Z2.l0,Zbg.f,ZaJ.f]
   rw[if_pos (by omega),if_pos (by omega),rdLK_nat]
   simp only[Zi]
   rw[if_pos (by simp;omega),ZaV hi (by omega),Int.toNat_natCast,Zb2 (l.map cvK) _ z101 i (by simpa using hi) _ (by rw[getD_mapK l i];rfl)]
   exact ih) 0 k (Nat.zero_le _) (by omega)
 unfold Z2.f
 rw[if_pos (by omega),if_pos (by omega),Int.toNat_natCast]
 simpa using key
theorem toSimple_f (n:Int) (l:List LLink) (hl:l.length≤1048576) (k:Nat) (hk:2 ^ 64≤k):Zas.f k n l=some (n,l.map cvK):=by
 unfold Zas.f
 rw[toLinkS_f l hl k hk,Zi]
theorem sivOk_f (lo hi:Int):Zar.f lo hi=some (ivOkB lo hi):=ivOk_f lo hi
theorem slink_ok {n:Int} (h0:1≤n) (h8:n≤8) (y:Zao):(inR y.f0 0 (wrap64 (n - 1)) && (inR y.f1 0 (wrap64 (n - 1)) && ivOkB y.f2.f0 y.f2.f1))=ZaI n y:=by
 rw[ZbQ (by omega) (by omega)]
 unfold ZaI
 rw[show inR y.f0 0 (n - 1)=inN n y.f0 by unfold inR inN;rw[Bool.eq_iff_iff];simp only[Bool.and_eq_true,decide_eq_true_eq];omega,show inR y.f1 0 (n - 1)=inN n y.f1 by unfold inR inN;rw[Bool.eq_iff_iff];simp only[Bool.and_eq_true,decide_eq_true_eq];omega]
theorem ssimple_l (n:Int) (L:List Zao) (h0:1≤n) (h8:n≤8) (hl:L.length≤40) (k:Nat) (hk:2 ^ 64≤k):ZF.l0 k L (L.length:Int) 0 n L=some (!(L.any fun x=>!ZaI n x)):=by
 have key:=Za8 L.length (fun k i=>ZF.l0 k L (L.length:Int) (i:Int) n L=some (!((L.drop i).any fun x=>!ZaI n x))) 0
  (fun k _=>by
   simp only[ZF.l0]
   rw[if_neg (by omega),List.drop_length];rfl)
  (fun k i _ hi ih=>by
   simp only[ZF.l0]
   rw[if_pos (by omega),if_pos (by omega),if_pos (by omega),ZaV hi (by omega),ih,ZaD hi z101,List.any_cons,rdK_nat]
   generalize L.getD i z101=y
   rw[← slink_ok h0 h8 y]
   simp only[inR_f,sivOk_f,Zi]
   cases inR y.f0 0 (wrap64 (n - 1)) <;> cases inR y.f1 0 (wrap64 (n - 1)) <;> cases ivOkB y.f2.f0 y.f2.f1 <;> rfl) 0 k (Nat.zero_le _) (by omega)
 simpa using key
theorem Zbb (n:Int) (L:List Zao) (k:Nat) (hk:2 ^ 66≤k):ZF.f k n L=some (Zac n L):=by
 obtain⟨k,rfl⟩:∃m,k=m+1:=⟨k - 1,by omega⟩
 unfold ZF.f Zac
 simp only[inR_f,Zi,ZF.j0]
 by_cases h:1≤n∧n≤8
 ·rw[show inR n 1 8=true by unfold inR;simp[h.1,h.2],if_pos rfl,Zf (show ¬n<1 by omega),Zf (show ¬8<n by omega)]
  by_cases h2:(L.length:Int) > 40
  ·rw[Ze h2,if_pos rfl,Ze (show 40<L.length by omega)];rfl
  ·rw[Zf h2,if_neg (by simp),Zf (show ¬40<L.length by omega),ssimple_l n L h.1 h.2 (by omega) k (by omega)]
   simp
 ·rw[show inR n 1 8=false by unfold inR;rw[Bool.eq_false_iff];simp only[ne_eq,Bool.and_eq_true,decide_eq_true_eq];exact h,if_neg (by simp),if_pos trivial]
  by_cases h3:n<1
  ·rw[Ze h3];rfl
  ·rw[Zf h3,Ze (show 8<n by omega)];rfl
theorem Zb1 {n:Int} {L:List Zao} (h:Zac n L=true):1≤n∧n≤8∧L.length≤40∧∀x∈L,ZaI n x=true:=by
 unfold Zac at h
 simp only[Bool.and_eq_true,Bool.not_eq_true',decide_eq_false_iff_not] at h
 obtain⟨h1,h2,h3,h4⟩:=h
 refine⟨by omega,by omega,by omega,fun x hx=>?_⟩
 have:=List.any_eq_false.1 h4 x hx
 simpa using this
theorem spart_l (tm:List Int) (hl:tm.length≤1048576) (k:Nat) (hk:2 ^ 64≤k):ZJ.l0 k tm (tm.length:Int) 0=some (!(tm.any fun x=>!ZaR x)):=by
 have key:=Za8 tm.length (fun k i=>ZJ.l0 k tm (tm.length:Int) (i:Int)=some (!((tm.drop i).any fun x=>!ZaR x))) 0
  (fun k _=>by
   simp only[ZJ.l0]
   rw[if_neg (by omega),List.drop_length];rfl)
  (fun k i _ hi ih=>by
   simp only[ZJ.l0]
   rw[if_pos (by omega),if_pos (by omega),if_pos (by omega),ZaV hi (by omega),ih,ZaD hi 0,List.any_cons,Za2,inR_f,Zi,show inR (tm.getD i 0) (-1) 999999=ZaR (tm.getD i 0) by unfold inR ZaR;rw[Bool.eq_iff_iff];simp only[Bool.and_eq_true,decide_eq_true_eq];omega]
   cases ZaR (tm.getD i 0) <;> rfl) 0 k (Nat.zero_le _) (by omega)
 simpa using key
theorem Zct (n:Int) (L:List Zao) (tm:List Int) (hl:tm.length≤1048576) (k:Nat) (hk:2 ^ 67≤k):ZJ.f k n L tm=some (partB n L tm):=by
 obtain⟨m,hm⟩:∃m,k=m+1:=⟨k - 1,by omega⟩
 unfold ZJ.f partB
 rw[Zbb n L k (by omega),Zi,hm]
 simp only[ZJ.j0]
 cases hs:Zac n L with
 | false=>rfl
 | true=>
  have hb:=Zb1 hs
  rw[if_pos rfl]
  by_cases h:(tm.length:Int)=n
  ·rw[if_pos h,if_pos (by omega),Ze h,show rd tm 0=tm.getD 0 0 from rfl]
   by_cases h0:tm.getD 0 0=0
   ·rw[h0,if_neg (by simp),spart_l tm hl m (by omega)];rfl
   ·rw[if_pos (by simpa using h0),Zf h0];rfl
  ·rw[if_neg h,Zf h];rfl
theorem Zcu (n:Int) (L:List Zao) (tm:List Int):Zav.f n L tm=some (partB n L tm):=rfl
theorem partB_bd {n:Int} {L:List Zao} {tm:List Int} (h:partB n L tm=true):Zac n L=true∧(tm.length:Int)=n∧tm.getD 0 0=0∧∀x∈tm,-1≤x∧x<1000000:=by
 unfold partB at h
 simp only[Bool.and_eq_true,decide_eq_true_eq,Bool.not_eq_true'] at h
 refine⟨h.1,h.2.1,h.2.2.1,fun x hx=>?_⟩
 have:=List.any_eq_false.1 h.2.2.2 x hx
 simpa [ZaR] using this
def fixL:Nat→List Int→List Zao
 | _,[]=>[]
 | i,x :: t=>(if 0<i∧x≠-1 then[⟨0,(i:Int),⟨x,x⟩⟩] else[]) ++ fixL (i+1) t
theorem fixL_len:∀(i:Nat) (t:List Int),(fixL i t).length≤t.length
 | _,[]=>Nat.le_refl _
 | i,x :: t=>by
  have:=fixL_len (i+1) t
  unfold fixL
  split <;> simp <;> omega
def fixB (n:Int) (L:List Zao) (tm:List Int):Int×List Zao×Bool:=
 if partB n L tm=true then(if Zac n (L ++ fixL 0 tm)=true then(n,L ++ fixL 0 tm,true) else(0,[],false)) else(0,[],false)
theorem sfix_l (n:Int) (L:List Zao) (tm:List Int) (hl:tm.length≤1048576) (hL:L.length≤1048576) (k:Nat) (hk:2 ^ 67≤k):ZU.l0 k tm (tm.length:Int) 0 n L=some (if Zac n (L ++ fixL 0 tm)=true then(n,L ++ fixL 0 tm,true) else(0,[],false)):=by
 have key:=Za8 tm.length (fun k i=>∀M:List Zao,M.length≤1048576+i→ZU.l0 k tm (tm.length:Int) (i:Int) n M=some (if Zac n (M ++ fixL i (tm.drop i))=true then(n,M ++ fixL i (tm.drop i),true) else(0,[],false))) (2 ^ 66)
  (fun k hk M _=>by
   simp only[ZU.l0]
   rw[if_neg (by omega),List.drop_length,Zbb n M k hk,Zi,show fixL tm.length []=[] from rfl,List.append_nil]
   split <;> rfl)
  (fun k i _ hi ih M hM=>by
   simp only[ZU.l0]
   rw[if_pos (by omega),if_pos (by omega),if_pos (by omega),ZaV hi (by omega),Za2,ZaD hi 0,fixL]
   by_cases h0:0<i
   ·rw[if_pos (by omega)]
    by_cases h1:tm.getD i 0=-1
    ·rw[if_pos h1,if_neg (show ¬(0<i∧tm.getD i 0≠-1) from fun h=>h.2 h1),ih M (by omega),List.nil_append]
    ·rw[if_neg h1,if_pos (by omega),if_pos (show 0<i∧tm.getD i 0≠-1 from⟨h0,h1⟩),ih _ (by simp;omega),← List.append_assoc]
   ·rw[if_neg (by omega),if_neg (show ¬(0<i∧tm.getD i 0≠-1) from fun h=>h0 h.1),ih M (by omega),List.nil_append]) 0 k (Nat.zero_le _) (by omega)
 simpa using key L (by omega)
theorem pfix_l (n:Int) (L:List Zao) (tm:List Int) (hl:tm.length≤1048576) (hL:L.length≤1048576) (k:Nat) (hk:2 ^ 64≤k):ZN.l0 k tm (tm.length:Int) 0 n L=some (if Zac n (L ++ fixL 0 tm)=true then(n,L ++ fixL 0 tm,true) else(0,[],false)):=by
 have key:=Za8 tm.length (fun k i=>∀M:List Zao,M.length≤1048576+i→ZN.l0 k tm (tm.length:Int) (i:Int) n M=some (if Zac n (M ++ fixL i (tm.drop i))=true then(n,M ++ fixL i (tm.drop i),true) else(0,[],false))) 0
  (fun k hk M _=>by
   simp only[ZN.l0]
   rw[if_neg (by omega),List.drop_length,Zag.f,Zi,show fixL tm.length []=[] from rfl,List.append_nil]
   split <;> rfl)
  (fun k i _ hi ih M hM=>by
   simp only[ZN.l0]
   rw[if_pos (by omega),if_pos (by omega),if_pos (by omega),ZaV hi (by omega),Za2,ZaD hi 0,fixL]
   by_cases h0:0<i
   ·rw[if_pos (by omega)]
    by_cases h1:tm.getD i 0=-1
    ·rw[if_pos h1,if_neg (show ¬(0<i∧tm.getD i 0≠-1) from fun h=>h.2 h1),ih M (by omega),List.nil_append]
    ·rw[if_neg h1,if_pos (by omega),if_pos (show 0<i∧tm.getD i 0≠-1 from⟨h0,h1⟩),ih _ (by simp;omega),← List.append_assoc]
   ·rw[if_neg (by omega),if_neg (show ¬(0<i∧tm.getD i 0≠-1) from fun h=>h0 h.1),ih M (by omega),List.nil_append]) 0 k (Nat.zero_le _) (by omega)
 simpa using key L (by omega)
theorem ZcA (n:Int) (L:List Zao) (tm:List Int) (hl:tm.length≤1048576) (hL:L.length≤1048576) (k:Nat) (hk:2 ^ 68≤k):ZU.f k n L tm=some (fixB n L tm):=by
 unfold ZU.f fixB Zad.f
 rw[Zct n L tm hl k (by omega),Zi,Zi,if_pos (show([]:List Zao).length+L.length<4398046511104 by simp only[List.length_nil];omega),Zi,List.nil_append,sfix_l n L tm hl hL k (by omega)]
 split <;> rfl
theorem ZcD (n:Int) (L:List Zao) (tm:List Int) (hl:tm.length≤1048576) (hL:L.length≤1048576) (k:Nat) (hk:2 ^ 68≤k):ZN.f k n L tm=some (fixB n L tm):=by
 unfold ZN.f fixB
 rw[Zcu,Zi]
 have hc:Zat.f L=some L:=by
  unfold Zat.f
  rw[if_pos (by omega)]
 rw[hc,Zi,pfix_l n L tm hl hL k (by omega)]
 split <;> rfl
def edgesL (x:Zao):List ZV:=(if x.f2.f1=1000000 then[] else[⟨x.f0,x.f1,x.f2.f1⟩]) ++ (if x.f2.f0=-1000000 then[] else[⟨x.f1,x.f0,wrap64 (-x.f2.f0)⟩])
def ZaP:List Zao→List ZV
 | []=>[]
 | x :: t=>edgesL x ++ ZaP t
def linksL (i:Nat) (x:Zao):List Int:=(if x.f2.f1=1000000 then[] else[(i:Int)]) ++ (if x.f2.f0=-1000000 then[] else[(i:Int)])
def Zbn:Nat→List Zao→List Int
 | _,[]=>[]
 | i,x :: t=>linksL i x ++ Zbn (i+1) t
theorem edgesL_len (x:Zao):(edgesL x).length≤2:=by unfold edgesL;split <;> split <;> simp
theorem edgesB_len:∀L:List Zao,(ZaP L).length≤2 * L.length
 | []=>Nat.le_refl _
 | x :: t=>by have:=edgesB_len t;have:=edgesL_len x;rw[ZaP,List.length_append,List.length_cons];omega
theorem pgraph_l (n:Int) (L:List Zao) (hl:L.length≤1048576) (k:Nat) (hk:2 ^ 64≤k):ZS.l0 k [] L (L.length:Int) 0 n []=some (n,ZaP L,Zbn 0 L):=by
 have key:=Za8 L.length (fun k i=>∀(a:List ZV) (b:List Int),a.length≤2 * i→b.length≤2 * i→ZS.l0 k b L (L.length:Int) (i:Int) n a=some (n,a ++ ZaP (L.drop i),b ++ Zbn i (L.drop i))) 0
  (fun k _ a b _ _=>by
   simp only[ZS.l0]
   rw[if_neg (by omega),List.drop_length,ZaP,Zbn,List.append_nil,List.append_nil])
  (fun k i _ hi ih a b ha hb=>by
   simp only[ZS.l0]
   rw[if_pos (by omega),if_pos (by omega),if_pos (by omega),ZaV hi (by omega),ZaD hi z101,ZaP,Zbn,rdK_nat]
   generalize L.getD i z101=y
   unfold edgesL linksL
   by_cases h1:y.f2.f1=1000000
   ·by_cases h2:y.f2.f0=-1000000
    ·simp only[if_pos h1,if_pos h2]
     rw[ih a b (by omega) (by omega)];simp
    ·simp only[if_pos h1,if_neg h2]
     rw[if_pos (by omega),if_pos (by omega),ih _ _ (by simp;omega) (by simp;omega)];simp
   ·by_cases h2:y.f2.f0=-1000000
    ·simp only[if_neg h1,if_pos h2,Zi]
     rw[if_pos (by omega),if_pos (by omega),ih _ _ (by simp;omega) (by simp;omega)];simp
    ·simp only[if_neg h1,if_neg h2,Zi]
     rw[if_pos (by omega),if_pos (by omega),if_pos (by simp;omega),if_pos (by simp;omega),ih _ _ (by simp;omega) (by simp;omega)];simp) 0 k (Nat.zero_le _) (by omega)
 simpa using key [] [] (by simp) (by simp)
theorem sedges_l (L:List Zao) (hl:L.length≤1048576) (k:Nat) (hk:2 ^ 64≤k):ZQ.l0 k [] [] L (L.length:Int) 0=some (ZaP L,Zbn 0 L):=by
 have key:=Za8 L.length (fun k i=>∀(a:List ZV) (b:List Int),a.length≤2 * i→b.length≤2 * i→ZQ.l0 k a b L (L.length:Int) (i:Int)=some (a ++ ZaP (L.drop i),b ++ Zbn i (L.drop i))) 0
  (fun k _ a b _ _=>by
   simp only[ZQ.l0]
   rw[if_neg (by omega),List.drop_length,ZaP,Zbn,List.append_nil,List.append_nil])
  (fun k i _ hi ih a b ha hb=>by
   simp only[ZQ.l0]
   rw[if_pos (by omega),if_pos (by omega),if_pos (by omega),ZaV hi (by omega),ZaD hi z101,ZaP,Zbn,rdK_nat]
   generalize L.getD i z101=y
   unfold edgesL linksL
   by_cases h1:y.f2.f1=1000000
   ·by_cases h2:y.f2.f0=-1000000
    ·simp only[if_pos h1,if_pos h2]
     rw[ih a b (by omega) (by omega)];simp
    ·simp only[if_pos h1,if_neg h2]
     rw[if_pos (by omega),if_pos (by omega),ih _ _ (by simp;omega) (by simp;omega)];simp
   ·by_cases h2:y.f2.f0=-1000000
    ·simp only[if_neg h1,if_pos h2,Zi]
     rw[if_pos (by omega),if_pos (by omega),ih _ _ (by simp;omega) (by simp;omega)];simp
    ·simp only[if_neg h1,if_neg h2,Zi]
     rw[if_pos (by omega),if_pos (by omega),if_pos (by simp;omega),if_pos (by simp;omega),ih _ _ (by simp;omega) (by simp;omega)];simp) 0 k (Nat.zero_le _) (by omega)
 simpa using key [] [] (by simp) (by simp)
def gofB (n:Int) (L:List Zao):Int×List ZV:=if Zac n L=true then(n,ZaP L) else(0,[])
theorem ZcU (n:Int) (L:List Zao) (k:Nat) (hk:2 ^ 64≤k):Za3.f k n L=some (gofB n L):=by
 unfold Za3.f gofB Zag.f
 rw[Zi]
 by_cases h:Zac n L=true
 ·rw[if_pos h,if_pos h,ZS.f,pgraph_l n L (by have:=Zb1 h;omega) k hk];rfl
 ·rw[if_neg h,if_neg h]
theorem ZcQ (n:Int) (L:List Zao) (k:Nat) (hk:2 ^ 66≤k):Zaz.f k n L=some (gofB n L):=by
 unfold Zaz.f gofB
 rw[Zbb n L k hk,Zi]
 by_cases h:Zac n L=true
 ·rw[if_pos h,if_pos h,ZQ.f,sedges_l L (by have:=Zb1 h;omega) k (by omega)];rfl
 ·rw[if_neg h,if_neg h]
def ncF (n:Int) (E:List ZV):List Int:=if ZaE n E=true then ncB n.toNat E else[]
def consB (n:Int) (L:List Zao):Bool:=Zac n L && (ncF n (ZaP L)).isEmpty
theorem Zcb (n:Int) (L:List Zao) (k:Nat) (hk:2 ^ 64≤k):Zak.f k n L=some (consB n L):=by
 unfold Zak.f consB Zag.f
 rw[Zi]
 by_cases h:Zac n L=true
 ·rw[if_pos h,ZcU n L k hk,Zi,gofB,if_pos h,h,Zaa.f,Zi];rfl
 ·rw[if_neg h,Bool.eq_false_iff.2 h];rfl
theorem Zb9 (n:Int) (L:List Zao) (k:Nat) (hk:2 ^ 66≤k):Zaq.f k n L=some (consB n L):=by
 unfold Zaq.f consB
 rw[Zbb n L k hk,Zi]
 by_cases h:Zac n L=true
 ·rw[if_pos h,ZcQ n L k hk,Zi,gofB,if_pos h,h,Zan.f,Zi,Bool.true_and]
  show some (((ncF n (ZaP L)).length:Int) == 0)=some (ncF n (ZaP L)).isEmpty
  cases ncF n (ZaP L) with
  | nil=>rfl
  | cons x t=>
   have:((((x :: t).length:Nat):Int) == 0)=false:=by rw[beq_eq_false_iff_ne,List.length_cons];omega
   rw[this];rfl
 ·rw[if_neg h,Bool.eq_false_iff.2 h];rfl
end Go.Proofs.Ytpoffpdaadhkgaa.Pr
