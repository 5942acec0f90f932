/- The texts of one claim, put together by a program of this session. -/
import Derived.Deep.LoopGhost
import Derived.Test.YtpoffpdaadhkgaaBNtc1x1
import Derived.Test.YtpoffpdaadhkgaaBNtc1x2
import Derived.Test.YtpoffpdaadhkgaaBNtc1x8
import Derived.Test.YtpoffpdaadhkgaaBNtc1x9
namespace Go.Proofs.Ytpoffpdaadhkgaa.Pr
open Go.RowKit Go.Proofs.YtpoffpdaadhkgaaW.PrintWords Go.Proofs.YtpoffpdaadhkgaaW.PrintLast Go.Proofs.YtpoffpdaadhkgaaW.PrintMore
attribute [local go_sem] Zaj Zah Zaq Zap Zac Zab Zai Zag
set_option linter.unusedVariables false
set_option linter.unusedSimpArgs false
def ZY.l0:Nat→List (S148)→List Int→List (S101)→Int→Int→Option ((List (S148))×List Int)
 | 0,_,_,_,_,_=>none
 | k+1,x4,x5,x11,x12,x13=>if x13<x12 then(if 0≤x13 then(if x13<(x11.length:Int) then(if ((Zw x11 x13).f2.f1)=1000000 then(if ((Zw x11 x13).f2.f0)=(-1000000) then(ZY.l0 k x4 x5 x11 x12 (wrap64 (x13+1))) else(if x4.length<5864062014805 then(if x5.length<17592186044416 then(ZY.l0 k (x4 ++ [(⟨(Zw x11 x13).f1,(Zw x11 x13).f0,wrap64 (-((Zw x11 x13).f2.f0))⟩:S148)]) (x5 ++ [x13]) x11 x12 (wrap64 (x13+1))) else(none)) else(none))) else(if x4.length<5864062014805 then((some (x4 ++ [(⟨(Zw x11 x13).f0,(Zw x11 x13).f1,(Zw x11 x13).f2.f1⟩:S148)]:List (S148))).bind fun y168016=>(if x5.length<17592186044416 then((some (x5 ++ [x13]:List Int)).bind fun y168019=>(if ((Zw x11 x13).f2.f0)=(-1000000) then(ZY.l0 k y168016 y168019 x11 x12 (wrap64 (x13+1))) else(if y168016.length<5864062014805 then(if y168019.length<17592186044416 then(ZY.l0 k (y168016 ++ [(⟨(Zw x11 x13).f1,(Zw x11 x13).f0,wrap64 (-((Zw x11 x13).f2.f0))⟩:S148)]) (y168019 ++ [x13]) x11 x12 (wrap64 (x13+1))) else(none)) else(none)))) else(none))) else(none))) else(none)) else(none)) else(some (x4,x5))
def ZY.f (k:Nat) (a0_0:Int) (l0_1:List (S101)):Option ((List (S148))×List Int):=ZY.l0 k (([]:List (S148))) (([]:List Int)) l0_1 (l0_1.length:Int) 0
set_option maxHeartbeats 8000000 in
set_option maxRecDepth 100000 in
theorem ZY.calls (k:Nat) (a0_0:Int) (A0_1:Option Addr) (c0_1:Nat) (l0_1:List (S101)) (r1:List (S148)) (r2:List Int) (w:World) (hr0_1:Kd.C k101 w A0_1 l0_1.length l0_1) (hc0_1:l0_1.length≤c0_1) (h:ZY.f k a0_0 l0_1=some (r1,r2)) :
  Calls Try.prog 168 #[.agg #[.int .i64 a0_0,.slice A0_1 l0_1.length c0_1]] w fun e w'=>∃v0_ v1_:Value,e=.returned (.tuple #[v0_,v1_])∧Kd.R k148 148 w' w.heap.size (fun _=>True) v0_ r1∧Kd.R (Kd.int .i64) 3 w' w.heap.size (fun _=>True) v1_ r2∧Below w.heap.size w w':=by
 have hu25:=Try.underlying25
 have hu101:=Try.underlying101
 have hu148:=Try.underlying148
 have HR0_1:=Za hr0_1;have HC0_1:=Za hc0_1;clear hr0_1 hc0_1
 have HB:=Za (Below.refl w.heap.size w)
 have H:(ZY.l0 k (([]:List (S148))) (([]:List Int)) l0_1 (l0_1.length:Int) 0)=some (r1,r2):=h
 clear h
 obtain⟨y168002,hy168002⟩:∃y_:List (S148),y_=(([]:List (S148))):=⟨_,rfl⟩
 replace H:(ZY.l0 k y168002 (([]:List Int)) l0_1 (l0_1.length:Int) 0)=some (r1,r2):=by first|(rw[hy168002];with_reducible exact H)|(have H2_:=(Zi _ _).symm.trans H;rw[hy168002];with_reducible exact H2_)|(have H2_:=(Zi _ _).symm.trans H;with_reducible exact H2_)|with_reducible exact H|(rw[hy168002];exact H)|exact H
 have Ny168002:=Za hy168002;clear hy168002
 obtain⟨y168005,hy168005⟩:∃y_:List Int,y_=(([]:List Int)):=⟨_,rfl⟩
 replace H:(ZY.l0 k y168002 y168005 l0_1 (l0_1.length:Int) 0)=some (r1,r2):=by first|(rw[hy168005];with_reducible exact H)|(have H2_:=(Zi _ _).symm.trans H;rw[hy168005];with_reducible exact H2_)|(have H2_:=(Zi _ _).symm.trans H;with_reducible exact H2_)|with_reducible exact H|(rw[hy168005];exact H)|exact H
 have Ny168005:=Za hy168005;clear hy168005
 have H':=Za H
 clear H
 go_enter Try.func168,Try.ntmps168
 go_wp2_with (first|((with_reducible refine ZD (N:=1) rfl ?_);refine ZE ?hg (N:=1) ?hd (cs:=#[.int .i64 a0_0,.slice A0_1 l0_1.length c0_1]) (t:=25) ?hr ?_;(case hd=>rfl);(case hg=>rfl);(case hr=>first|(go_simp;done)|(go_simp;rfl));intro gb168001 hg w2 hbox hb;have n0_:=Za (Zy (by repeat(first|(with_reducible first|exact HB.out|apply Zr|apply Zm|apply Zs)|exact HB.out)) hb);have n1_:=Za (hbox);have n2_:=Za ((by rw[hg];exact(Zv (by repeat(first|(with_reducible first|exact HB.out|apply Zr|apply Zm|apply Zs)|exact HB.out))):w.heap.size≤gb168001));have n3_:=Za ((by rw[hg];exact(Zv (by repeat(first|(with_reducible first|exact HB.out|apply Zr|apply Zm|apply Zs)|exact HB.out))):w.heap.size≤gb168001));clear HB;have HB:=n0_;have BK168001:=n1_;have GW168001:=n2_;have GE168001:=n3_;clear n0_ n1_ n2_ n3_;clear hb hbox hg)|((with_reducible refine ZD (N:=8) rfl ?_);refine Kd.R_lit k148 _ 148 ?hg (N:=8) ?hd (xs:=([]:List (S148))) (inner:=[]) (ok:=fun _=>True) (okp:=fun _=>True) ?hr ?hp (fun _ hk=>hk) trivial (Below.refl _ _) (Nat.le_refl _) (by simp) ?_;(case hd=>rfl);(case hg=>rfl);(case hr=>first|(go_simp;done)|(go_simp;rfl));(case hp=>exact(Reps.none _ _));intro v168003 w3 ho4 hb hg_ hnew_;clear hg_ hnew_;(first|rw[← Ny168002.out] at ho4|(simp only[Int.reduceToNat] at ho4;rw[← Ny168002.out] at ho4));have n0_:=Za (Kd.R_lower ho4 (Zv (by repeat(first|(with_reducible first|exact HB.out|apply Zr|apply Zm|apply Zs|refine Zp ?_ GE168001.out)|exact HB.out))));have n1_:=Za (Zx (g:=gb168001) (o:=.cells #[.int .i64 a0_0,.slice A0_1 l0_1.length c0_1] 25 (0,0)) (by(with_reducible repeat(first|refine Zo ?_ _|refine Zq ?_|refine Zn ?_ _));exact BK168001.out) hb);have n2_:=Za (Zy (by repeat(first|(with_reducible first|exact HB.out|apply Zr|apply Zm|apply Zs|refine Zp ?_ GE168001.out)|exact HB.out)) hb);clear BK168001;clear HB;have HO168004:=n0_;have BK168001:=n1_;have HB:=n2_;clear n0_ n1_ n2_;clear hb ho4)|((with_reducible refine ZD (N:=9) rfl ?_);refine Kd.R_lit (Kd.int .i64) _ 3 ?hg (N:=9) ?hd (xs:=([]:List Int)) (inner:=[]) (ok:=fun _=>True) (okp:=fun _=>True) ?hr ?hp (fun _ hk=>hk) trivial (Below.refl _ _) (Nat.le_refl _) (by simp) ?_;(case hd=>rfl);(case hg=>rfl);(case hr=>first|(go_simp;done)|(go_simp;rfl));(case hp=>exact(Reps.none _ _));intro v168006 w5 ho6 hb hg_ hnew_;clear hg_ hnew_;(first|rw[← Ny168005.out] at ho6|(simp only[Int.reduceToNat] at ho6;rw[← Ny168005.out] at ho6));have n0_:=Za (Kd.R_below (by(with_reducible repeat(first|apply Kd.R_alloc|apply Kd.R_drewN|apply Kd.R_drew));exact HO168004.out) hb);have n1_:=Za (Kd.R_lower ho6 (Zv (by repeat(first|(with_reducible first|exact HB.out|apply Zr|apply Zm|apply Zs|refine Zp ?_ GE168001.out)|exact HB.out))));have n2_:=Za (Zx (g:=gb168001) (o:=.cells #[.int .i64 a0_0,.slice A0_1 l0_1.length c0_1] 25 (0,0)) (by(with_reducible repeat(first|refine Zo ?_ _|refine Zq ?_|refine Zn ?_ _));exact BK168001.out) hb);have n3_:=Za (Zy (by repeat(first|(with_reducible first|exact HB.out|apply Zr|apply Zm|apply Zs|refine Zp ?_ GE168001.out)|exact HB.out)) hb);clear HO168004;clear BK168001;clear HB;have HO168004:=n0_;have HO168007:=n1_;have BK168001:=n2_;have HB:=n3_;clear n0_ n1_ n2_ n3_;clear hb ho6;have hcz7_0:w5.cell? ⟨gb168001,0,none⟩=some (.int .i64 a0_0):=(Zu BK168001.out 0).trans rfl;have hcz7_1:w5.cell? ⟨gb168001,1,none⟩=some (.slice A0_1 l0_1.length c0_1):=(Zu BK168001.out 1).trans rfl;have hfz7_0:=Zt BK168001.out 0;have hfz7_1:=Zt BK168001.out 1))
 go_loopg [4,5,13] k (fun kq v4 v5 v13 w'=>∃(x4_1:List (S148)) (x5_1:List Int) (x13_1:Int),v13=.int .i64 x13_1∧Aside0 (ZY.l0 kq x4_1 x5_1 l0_1 (l0_1.length:Int) x13_1=some (r1,r2))∧Aside0 (kq≤k)∧Aside0 (Kd.R k148 148 w' w.heap.size (fun _=>True) v4 x4_1)∧Aside0 (Kd.R (Kd.int .i64) 3 w' w.heap.size (fun _=>True) v5 x5_1)∧Aside0 (w'.heap[gb168001]? = some (.cells #[.int .i64 a0_0,(.slice A0_1 l0_1.length c0_1)] 25 (0,0)))∧Aside0 (Below w.heap.size w w'))
 case atStart=>exact⟨(y168002),(y168005),(0),(by first|rfl|(simp;done)|(simp[*];done)),H',⟨Nat.le_refl _⟩,⟨by(with_reducible repeat(first|apply Kd.R_alloc|apply Kd.R_drewN|apply Kd.R_drew));exact HO168004.out⟩,⟨by(with_reducible repeat(first|apply Kd.R_alloc|apply Kd.R_drewN|apply Kd.R_drew));exact HO168007.out⟩,⟨by(with_reducible repeat(first|refine Zo ?_ _|refine Zq ?_|refine Zn ?_ _));exact BK168001.out⟩,⟨by repeat(first|(with_reducible first|exact HB.out|apply Zr|apply Zm|apply Zs|refine Zp ?_ GE168001.out)|exact HB.out)⟩⟩
 case round=>
  clear H'
  try clear c1
  try clear p2
  try clear hcz7_0
  try clear hcz7_1
  try clear hfz7_0
  try clear hfz7_1
  obtain⟨x4_1,x5_1,x13_1,rfl,HA,HK1,HO_4,HO_5,BK168001,HB⟩:=hrel
  cases gk with
  | zero=>exact absurd HA.out (by simp[ZY.l0])
  | succ k1=>
   have H:=HA.out
   clear HA
   simp only[ZY.l0] at H
   by_cases c8:x13_1<(l0_1.length:Int)
   ·rw[if_pos c8] at H
    have c8b0:decide (x13_1<(l0_1.length:Int))=true:=Ze c8
    clear c8
    by_cases c9:0≤x13_1
    ·rw[if_pos c9] at H
     have c9b0:decide (0≤x13_1)=true:=Ze c9
     clear c9
     by_cases c10:x13_1<(l0_1.length:Int)
     ·rw[if_pos c10] at H
      have c10b0:decide (x13_1<(l0_1.length:Int))=true:=Ze c10
      clear c10
      by_cases c11:((Zw l0_1 x13_1).f2.f1)=1000000
      ·rw[if_pos c11] at H
       have c11b0:(((Zw l0_1 x13_1).f2.f1) == 1000000)=true:=beq_iff_eq.mpr c11
       have c11b1:(((Zw l0_1 x13_1).f2.f1) != 1000000)=false:=bne_eq_false_iff_eq.mpr c11
       clear c11
       by_cases c12:((Zw l0_1 x13_1).f2.f0)=(-1000000)
       ·rw[if_pos c12] at H
        have c12b0:(((Zw l0_1 x13_1).f2.f0) == (-1000000))=true:=beq_iff_eq.mpr c12
        have c12b1:(((Zw l0_1 x13_1).f2.f0) != (-1000000))=false:=bne_eq_false_iff_eq.mpr c12
        clear c12
        have H':=Za H
        clear H
        have p168008:0≤(x13_1:Int):=Zd (by first|(with_reducible assumption)|assumption)
        have q168008:x13_1<(l0_1.length:Int):=Zd (by first|(with_reducible assumption)|assumption)
        obtain⟨ad168008,e168008,hx168008_0,hx168008_1,hx168008_2,hx168008_3⟩:=Za9 HR0_1.out x13_1 p168008 q168008
        cases e168008
        replace hx168008_0:=(HB.out.cell (Zc w _ hx168008_0)).trans hx168008_0
        replace hx168008_1:=(HB.out.cell (Zc w _ hx168008_1)).trans hx168008_1
        replace hx168008_2:=(HB.out.cell (Zc w _ hx168008_2)).trans hx168008_2
        replace hx168008_3:=(HB.out.cell (Zc w _ hx168008_3)).trans hx168008_3
        replace p168008:=eq_true p168008
        replace q168008:=eq_true q168008
        go_wp2_with (first|((with_reducible refine ZD (N:=7) rfl ?_);refine ZE ?hg (N:=7) ?hd (cs:=#[.int .i64 0,.int .i64 0,.int .i64 0,.int .i64 0]) (t:=101) ?hr ?_;(case hd=>rfl);(case hg=>rfl);(case hr=>first|(go_simp;done)|(go_simp;rfl));intro gb168009 hg w13 hbox hb;have n0_:=Za (Kd.R_below (by(with_reducible repeat(first|apply Kd.R_alloc|apply Kd.R_drewN|apply Kd.R_drew));exact HO_4.out) hb);have n1_:=Za (Kd.R_below (by(with_reducible repeat(first|apply Kd.R_alloc|apply Kd.R_drewN|apply Kd.R_drew));exact HO_5.out) hb);have n2_:=Za (Zx (g:=gb168001) (o:=.cells #[.int .i64 a0_0,.slice (some ad168008) l0_1.length c0_1] 25 (0,0)) (by(with_reducible repeat(first|refine Zo ?_ _|refine Zq ?_|refine Zn ?_ _));exact BK168001.out) hb);have n3_:=Za (Zy (by repeat(first|(with_reducible first|exact HB.out|apply Zr|apply Zm|apply Zs|refine Zp ?_ GE168001.out)|exact HB.out)) hb);have n4_:=Za (hbox);have n5_:=Za ((by rw[hg];exact(Zv (by repeat(first|(with_reducible first|exact HB.out|apply Zr|apply Zm|apply Zs|refine Zp ?_ GE168001.out)|exact HB.out))):w.heap.size≤gb168009));have n6_:=Za ((by rw[hg];exact(Zv (by repeat(first|(with_reducible first|exact HB.out|apply Zr|apply Zm|apply Zs|refine Zp ?_ GE168001.out)|exact HB.out))):w.heap.size≤gb168009));have n7_:=Za ((by rw[hg];exact Nat.ne_of_lt (ZB (g:=gb168001) (o:=.cells #[.int .i64 a0_0,.slice (some ad168008) l0_1.length c0_1] 25 (0,0)) (by(with_reducible repeat(first|refine Zo ?_ _|refine Zq ?_|refine Zn ?_ _));exact BK168001.out)):gb168001≠gb168009));have n8_:=Za ((by rw[hg];exact Nat.ne_of_gt (ZB (g:=gb168001) (o:=.cells #[.int .i64 a0_0,.slice (some ad168008) l0_1.length c0_1] 25 (0,0)) (by(with_reducible repeat(first|refine Zo ?_ _|refine Zq ?_|refine Zn ?_ _));exact BK168001.out)):gb168009≠gb168001));clear HO_4;clear HO_5;clear BK168001;clear HB;have HO_4:=n0_;have HO_5:=n1_;have BK168001:=n2_;have HB:=n3_;have BK168009:=n4_;have GW168009:=n5_;have GE168009:=n6_;have NB168001_168009:=n7_;have NB168009_168001:=n8_;clear n0_ n1_ n2_ n3_ n4_ n5_ n6_ n7_ n8_;clear hb hbox hg;have hnb14:=NB168009_168001.out;have hnc14:=NB168001_168009.out;have hcz15_0:w13.cell? ⟨gb168009,0,none⟩=some (.int .i64 0):=(Zu BK168009.out 0).trans rfl;have hcz15_1:w13.cell? ⟨gb168009,1,none⟩=some (.int .i64 0):=(Zu BK168009.out 1).trans rfl;have hcz15_2:w13.cell? ⟨gb168009,2,none⟩=some (.int .i64 0):=(Zu BK168009.out 2).trans rfl;have hcz15_3:w13.cell? ⟨gb168009,3,none⟩=some (.int .i64 0):=(Zu BK168009.out 3).trans rfl;have hfz15_0:=Zt BK168009.out 0;have hfz15_1:=Zt BK168009.out 1;have hfz15_2:=Zt BK168009.out 2;have hfz15_3:=Zt BK168009.out 3))
        go_roundg k1
        case measure=>have:=HK1.out;omega
        case rel=>exact⟨(x4_1),(x5_1),(wrap64 (x13_1+1)),(by first|rfl|(simp;done)|(simp[*];done)),H',⟨by have:=HK1.out;omega⟩,⟨by(with_reducible repeat(first|apply Kd.R_alloc|apply Kd.R_drewN|apply Kd.R_drew));exact Kd.R_mono (Kd.R_far (p:=⟨gb168009,3,none⟩) (Kd.R_far (p:=⟨gb168009,2,none⟩) (Kd.R_far (p:=⟨gb168009,1,none⟩) (Kd.R_far (p:=⟨gb168009,0,none⟩) (Kd.R_types HO_4.out BK168009.out (by decide)) (fun _ hk=>hk.2) (.int .i64 ((Zw l0_1 x13_1).f0))) (fun _ hk=>hk.2) (.int .i64 ((Zw l0_1 x13_1).f1))) (fun _ hk=>hk.2) (.int .i64 ((Zw l0_1 x13_1).f2.f0))) (fun _ hk=>hk.2) (.int .i64 ((Zw l0_1 x13_1).f2.f1))) (fun _ hk=>trivial)⟩,⟨by(with_reducible repeat(first|apply Kd.R_alloc|apply Kd.R_drewN|apply Kd.R_drew));exact Kd.R_mono (Kd.R_far (p:=⟨gb168009,3,none⟩) (Kd.R_far (p:=⟨gb168009,2,none⟩) (Kd.R_far (p:=⟨gb168009,1,none⟩) (Kd.R_far (p:=⟨gb168009,0,none⟩) (Kd.R_types HO_5.out BK168009.out (by decide)) (fun _ hk=>hk.2) (.int .i64 ((Zw l0_1 x13_1).f0))) (fun _ hk=>hk.2) (.int .i64 ((Zw l0_1 x13_1).f1))) (fun _ hk=>hk.2) (.int .i64 ((Zw l0_1 x13_1).f2.f0))) (fun _ hk=>hk.2) (.int .i64 ((Zw l0_1 x13_1).f2.f1))) (fun _ hk=>trivial)⟩,⟨by(with_reducible repeat(first|refine Zo ?_ _|refine Zq ?_|refine Zn ?_ _));refine ZC ?_ NB168001_168009.out _;(with_reducible repeat(first|refine Zo ?_ _|refine Zq ?_|refine Zn ?_ _));refine ZC ?_ NB168001_168009.out _;(with_reducible repeat(first|refine Zo ?_ _|refine Zq ?_|refine Zn ?_ _));refine ZC ?_ NB168001_168009.out _;(with_reducible repeat(first|refine Zo ?_ _|refine Zq ?_|refine Zn ?_ _));refine ZC ?_ NB168001_168009.out _;(with_reducible repeat(first|refine Zo ?_ _|refine Zq ?_|refine Zn ?_ _));exact BK168001.out⟩,⟨by repeat(first|(with_reducible first|exact HB.out|apply Zr|apply Zm|apply Zs|refine Zp ?_ GE168001.out|refine Zp ?_ GE168009.out)|exact HB.out)⟩⟩
       ·rw[if_neg c12] at H
        have c12b0:(((Zw l0_1 x13_1).f2.f0) == (-1000000))=false:=beq_eq_false_iff_ne.mpr c12
        have c12b1:(((Zw l0_1 x13_1).f2.f0) != (-1000000))=true:=bne_iff_ne.mpr c12
        by_cases c16:x4_1.length<5864062014805
        ·rw[if_pos c16] at H
         have LMc16:=Za c16;clear c16
         obtain⟨y168010,hy168010⟩:∃y_:List (S148),y_=(x4_1 ++ [(⟨(Zw l0_1 x13_1).f1,(Zw l0_1 x13_1).f0,wrap64 (-((Zw l0_1 x13_1).f2.f0))⟩:S148)]):=⟨_,rfl⟩
         replace H:(if x5_1.length<17592186044416 then(ZY.l0 k1 y168010 (x5_1 ++ [x13_1]) l0_1 (l0_1.length:Int) (wrap64 (x13_1+1))) else(none))=some (r1,r2):=by first|(rw[hy168010];with_reducible exact H)|(have H2_:=(Zi _ _).symm.trans H;rw[hy168010];with_reducible exact H2_)|(have H2_:=(Zi _ _).symm.trans H;with_reducible exact H2_)|with_reducible exact H|(rw[hy168010];exact H)|exact H
         have Ny168010:=Za hy168010;clear hy168010
         by_cases c17:x5_1.length<17592186044416
         ·rw[if_pos c17] at H
          have LMc17:=Za c17;clear c17
          obtain⟨y168013,hy168013⟩:∃y_:List Int,y_=(x5_1 ++ [x13_1]):=⟨_,rfl⟩
          replace H:(ZY.l0 k1 y168010 y168013 l0_1 (l0_1.length:Int) (wrap64 (x13_1+1)))=some (r1,r2):=by first|(rw[hy168013];with_reducible exact H)|(have H2_:=(Zi _ _).symm.trans H;rw[hy168013];with_reducible exact H2_)|(have H2_:=(Zi _ _).symm.trans H;with_reducible exact H2_)|with_reducible exact H|(rw[hy168013];exact H)|exact H
          have Ny168013:=Za hy168013;clear hy168013
          have H':=Za H
          clear H
          have p168008:0≤(x13_1:Int):=Zd (by first|(with_reducible assumption)|assumption)
          have q168008:x13_1<(l0_1.length:Int):=Zd (by first|(with_reducible assumption)|assumption)
          obtain⟨ad168008,e168008,hx168008_0,hx168008_1,hx168008_2,hx168008_3⟩:=Za9 HR0_1.out x13_1 p168008 q168008
          cases e168008
          replace hx168008_0:=(HB.out.cell (Zc w _ hx168008_0)).trans hx168008_0
          replace hx168008_1:=(HB.out.cell (Zc w _ hx168008_1)).trans hx168008_1
          replace hx168008_2:=(HB.out.cell (Zc w _ hx168008_2)).trans hx168008_2
          replace hx168008_3:=(HB.out.cell (Zc w _ hx168008_3)).trans hx168008_3
          replace p168008:=eq_true p168008
          replace q168008:=eq_true q168008
          go_wp2_with (first|((with_reducible refine ZD (N:=7) rfl ?_);refine ZE ?hg (N:=7) ?hd (cs:=#[.int .i64 0,.int .i64 0,.int .i64 0,.int .i64 0]) (t:=101) ?hr ?_;(case hd=>rfl);(case hg=>rfl);(case hr=>first|(go_simp;done)|(go_simp;rfl));intro gb168009 hg w18 hbox hb;have n0_:=Za (Kd.R_below (by(with_reducible repeat(first|apply Kd.R_alloc|apply Kd.R_drewN|apply Kd.R_drew));exact HO_4.out) hb);have n1_:=Za (Kd.R_below (by(with_reducible repeat(first|apply Kd.R_alloc|apply Kd.R_drewN|apply Kd.R_drew));exact HO_5.out) hb);have n2_:=Za (Zx (g:=gb168001) (o:=.cells #[.int .i64 a0_0,.slice (some ad168008) l0_1.length c0_1] 25 (0,0)) (by(with_reducible repeat(first|refine Zo ?_ _|refine Zq ?_|refine Zn ?_ _));exact BK168001.out) hb);have n3_:=Za (Zy (by repeat(first|(with_reducible first|exact HB.out|apply Zr|apply Zm|apply Zs|refine Zp ?_ GE168001.out)|exact HB.out)) hb);have n4_:=Za (hbox);have n5_:=Za ((by rw[hg];exact(Zv (by repeat(first|(with_reducible first|exact HB.out|apply Zr|apply Zm|apply Zs|refine Zp ?_ GE168001.out)|exact HB.out))):w.heap.size≤gb168009));have n6_:=Za ((by rw[hg];exact(Zv (by repeat(first|(with_reducible first|exact HB.out|apply Zr|apply Zm|apply Zs|refine Zp ?_ GE168001.out)|exact HB.out))):w.heap.size≤gb168009));have n7_:=Za ((by rw[hg];exact Nat.ne_of_lt (ZB (g:=gb168001) (o:=.cells #[.int .i64 a0_0,.slice (some ad168008) l0_1.length c0_1] 25 (0,0)) (by(with_reducible repeat(first|refine Zo ?_ _|refine Zq ?_|refine Zn ?_ _));exact BK168001.out)):gb168001≠gb168009));have n8_:=Za ((by rw[hg];exact Nat.ne_of_gt (ZB (g:=gb168001) (o:=.cells #[.int .i64 a0_0,.slice (some ad168008) l0_1.length c0_1] 25 (0,0)) (by(with_reducible repeat(first|refine Zo ?_ _|refine Zq ?_|refine Zn ?_ _));exact BK168001.out)):gb168009≠gb168001));clear HO_4;clear HO_5;clear BK168001;clear HB;have HO_4:=n0_;have HO_5:=n1_;have BK168001:=n2_;have HB:=n3_;have BK168009:=n4_;have GW168009:=n5_;have GE168009:=n6_;have NB168001_168009:=n7_;have NB168009_168001:=n8_;clear n0_ n1_ n2_ n3_ n4_ n5_ n6_ n7_ n8_;clear hb hbox hg;have hnb19:=NB168009_168001.out;have hnc19:=NB168001_168009.out;have hcz20_0:w18.cell? ⟨gb168009,0,none⟩=some (.int .i64 0):=(Zu BK168009.out 0).trans rfl;have hcz20_1:w18.cell? ⟨gb168009,1,none⟩=some (.int .i64 0):=(Zu BK168009.out 1).trans rfl;have hcz20_2:w18.cell? ⟨gb168009,2,none⟩=some (.int .i64 0):=(Zu BK168009.out 2).trans rfl;have hcz20_3:w18.cell? ⟨gb168009,3,none⟩=some (.int .i64 0):=(Zu BK168009.out 3).trans rfl;have hfz20_0:=Zt BK168009.out 0;have hfz20_1:=Zt BK168009.out 1;have hfz20_2:=Zt BK168009.out 2;have hfz20_3:=Zt BK168009.out 3)|((with_reducible refine Zae (b:=.append) (xs:=#[.tmp 41,.tmp 51]) rfl ?_);at_builtin;refine Kd.R_append k148 (w0:=w) w.heap.size rfl (.tmp 41) (.tmp 51) 93 148 (.agg #[(.int .i64 0),(.int .i64 0),(.int .i64 0)]) 24 rfl Try.underlying93 ZbO rfl (by decide) (by omega) u4 x4_1 (⟨(Zw l0_1 x13_1).f1,(Zw l0_1 x13_1).f0,wrap64 (-((Zw l0_1 x13_1).f2.f0))⟩:S148) [.int .i64 ((Zw l0_1 x13_1).f1),.int .i64 ((Zw l0_1 x13_1).f0),.int .i64 (wrap64 (-((Zw l0_1 x13_1).f2.f0)))] (fun _=>True) (fun _=>False) rfl (by first|(go_simp;done)|(go_simp;rfl)) ?aP (fun _ hk=>hk.elim) ?aF ?aO ?aB ?aS ?aL ?_;(case aP=>exact ZbE _ _ _ (⟨(Zw l0_1 x13_1).f1,(Zw l0_1 x13_1).f0,wrap64 (-((Zw l0_1 x13_1).f2.f0))⟩:S148));(case aB=>exact(by repeat(first|(with_reducible first|exact HB.out|apply Zr|apply Zm|apply Zs|refine Zp ?_ GE168001.out|refine Zp ?_ GE168009.out)|exact HB.out)));(case aF=>exact(fun _ _=>trivial));(case aO=>exact(by(with_reducible repeat(first|apply Kd.R_alloc|apply Kd.R_drewN|apply Kd.R_drew));exact Kd.R_mono (Kd.R_far (p:=⟨gb168009,3,none⟩) (Kd.R_far (p:=⟨gb168009,2,none⟩) (Kd.R_far (p:=⟨gb168009,1,none⟩) (Kd.R_far (p:=⟨gb168009,0,none⟩) (Kd.R_types HO_4.out BK168009.out (by decide)) (fun _ hk=>hk.2) (.int .i64 ((Zw l0_1 x13_1).f0))) (fun _ hk=>hk.2) (.int .i64 ((Zw l0_1 x13_1).f1))) (fun _ hk=>hk.2) (.int .i64 ((Zw l0_1 x13_1).f2.f0))) (fun _ hk=>hk.2) (.int .i64 ((Zw l0_1 x13_1).f2.f1))) (fun _ hk=>trivial)));(case aS=>exact(Zv (by repeat(first|(with_reducible first|exact HB.out|apply Zr|apply Zm|apply Zs|refine Zp ?_ GE168001.out|refine Zp ?_ GE168009.out)|exact HB.out))));(case aL=>have:=LMc16.out;omega);intro v168011 w21 ho hb hg hat;rw[← Ny168010.out] at ho;have n0_:=Za (Kd.R_over' (by(with_reducible repeat(first|apply Kd.R_alloc|apply Kd.R_drewN|apply Kd.R_drew));exact(Kd.R_mono (Kd.R_far (p:=⟨gb168009,3,none⟩) (Kd.R_far (p:=⟨gb168009,2,none⟩) (Kd.R_far (p:=⟨gb168009,1,none⟩) (Kd.R_far (p:=⟨gb168009,0,none⟩) (Kd.R_types HO_5.out BK168009.out (by decide)) (fun _ hk=>hk.2) (.int .i64 ((Zw l0_1 x13_1).f0))) (fun _ hk=>hk.2) (.int .i64 ((Zw l0_1 x13_1).f1))) (fun _ hk=>hk.2) (.int .i64 ((Zw l0_1 x13_1).f2.f0))) (fun _ hk=>hk.2) (.int .i64 ((Zw l0_1 x13_1).f2.f1))) (fun _ h_=>h_.1))) (Kd.R_typed (by(with_reducible repeat(first|apply Kd.R_alloc|apply Kd.R_drewN|apply Kd.R_drew));exact(Kd.R_mono (Kd.R_far (p:=⟨gb168009,3,none⟩) (Kd.R_far (p:=⟨gb168009,2,none⟩) (Kd.R_far (p:=⟨gb168009,1,none⟩) (Kd.R_far (p:=⟨gb168009,0,none⟩) (Kd.R_types HO_4.out BK168009.out (by decide)) (fun _ hk=>hk.2) (.int .i64 ((Zw l0_1 x13_1).f0))) (fun _ hk=>hk.2) (.int .i64 ((Zw l0_1 x13_1).f1))) (fun _ hk=>hk.2) (.int .i64 ((Zw l0_1 x13_1).f2.f0))) (fun _ hk=>hk.2) (.int .i64 ((Zw l0_1 x13_1).f2.f1))) (fun _ h_=>h_.1)))) (by decide) hg);have n1_:=Za (ZS (g:=gb168001) (o:=.cells #[.int .i64 a0_0,.slice (some ad168008) l0_1.length c0_1] 25 (0,0)) (by(with_reducible repeat(first|refine Zo ?_ _|refine Zq ?_|refine Zn ?_ _));refine ZC ?_ NB168001_168009.out _;(with_reducible repeat(first|refine Zo ?_ _|refine Zq ?_|refine Zn ?_ _));refine ZC ?_ NB168001_168009.out _;(with_reducible repeat(first|refine Zo ?_ _|refine Zq ?_|refine Zn ?_ _));refine ZC ?_ NB168001_168009.out _;(with_reducible repeat(first|refine Zo ?_ _|refine Zq ?_|refine Zn ?_ _));refine ZC ?_ NB168001_168009.out _;(with_reducible repeat(first|refine Zo ?_ _|refine Zq ?_|refine Zn ?_ _));exact BK168001.out) hg (Kd.R_ne HO_4.out BK168001.out (by decide)));have n2_:=Za (ZS (g:=gb168009) (o:=.cells #[.int .i64 ((Zw l0_1 x13_1).f0),.int .i64 ((Zw l0_1 x13_1).f1),.int .i64 ((Zw l0_1 x13_1).f2.f0),.int .i64 ((Zw l0_1 x13_1).f2.f1)] 101 (0,0)) (by(with_reducible repeat(first|refine Zo ?_ _|refine Zq ?_|refine Zn ?_ _));refine ZF (cs:=#[.int .i64 ((Zw l0_1 x13_1).f0),.int .i64 ((Zw l0_1 x13_1).f1),.int .i64 ((Zw l0_1 x13_1).f2.f0),.int .i64 0]) ?_ 3 _ rfl;(with_reducible repeat(first|refine Zo ?_ _|refine Zq ?_|refine Zn ?_ _));refine ZF (cs:=#[.int .i64 ((Zw l0_1 x13_1).f0),.int .i64 ((Zw l0_1 x13_1).f1),.int .i64 0,.int .i64 0]) ?_ 2 _ rfl;(with_reducible repeat(first|refine Zo ?_ _|refine Zq ?_|refine Zn ?_ _));refine ZF (cs:=#[.int .i64 ((Zw l0_1 x13_1).f0),.int .i64 0,.int .i64 0,.int .i64 0]) ?_ 1 _ rfl;(with_reducible repeat(first|refine Zo ?_ _|refine Zq ?_|refine Zn ?_ _));refine ZF (cs:=#[.int .i64 0,.int .i64 0,.int .i64 0,.int .i64 0]) ?_ 0 _ rfl;(with_reducible repeat(first|refine Zo ?_ _|refine Zq ?_|refine Zn ?_ _));exact BK168009.out) hg (Kd.R_ne HO_4.out BK168009.out (by decide)));have n3_:=Za (hb);have n4_:=Za (ho);clear HO_5;clear BK168001;clear BK168009;clear HB;clear HO_4;have HO_5:=n0_;have BK168001:=n1_;have BK168009:=n2_;have HB:=n3_;have HO168012:=n4_;clear n0_ n1_ n2_ n3_ n4_;clear ho hb hg hat)|((with_reducible refine Zae (b:=.append) (xs:=#[.tmp 53,.tmp 55]) rfl ?_);at_builtin;refine Kd.R_append (Kd.int .i64) (w0:=w) w.heap.size rfl (.tmp 53) (.tmp 55) 33 3 (.int .i64 0) 8 rfl Try.underlying33 Za2 rfl (by decide) (by omega) u5 x5_1 x13_1 [.int .i64 x13_1] (fun _=>True) (fun _=>False) rfl rfl ?aP (fun _ hk=>hk.elim) ?aF ?aO ?aB ?aS ?aL ?_;(case aP=>exact rfl);(case aB=>exact(by repeat(first|(with_reducible first|exact HB.out|apply Zr|apply Zm|apply Zs|refine Zp ?_ GE168001.out|refine Zp ?_ GE168009.out)|exact HB.out)));(case aF=>exact(fun _ _=>trivial));(case aO=>exact(by(with_reducible repeat(first|apply Kd.R_alloc|apply Kd.R_drewN|apply Kd.R_drew));exact HO_5.out));(case aS=>exact(Zv (by repeat(first|(with_reducible first|exact HB.out|apply Zr|apply Zm|apply Zs|refine Zp ?_ GE168001.out|refine Zp ?_ GE168009.out)|exact HB.out))));(case aL=>have:=LMc17.out;omega);intro v168014 w22 ho hb hg hat;rw[← Ny168013.out] at ho;have n0_:=Za (ZS (g:=gb168001) (o:=.cells #[.int .i64 a0_0,.slice (some ad168008) l0_1.length c0_1] 25 (0,0)) (by(with_reducible repeat(first|refine Zo ?_ _|refine Zq ?_|refine Zn ?_ _));exact BK168001.out) hg (Kd.R_ne HO_5.out BK168001.out (by decide)));have n1_:=Za (ZS (g:=gb168009) (o:=.cells #[.int .i64 ((Zw l0_1 x13_1).f0),.int .i64 ((Zw l0_1 x13_1).f1),.int .i64 ((Zw l0_1 x13_1).f2.f0),.int .i64 ((Zw l0_1 x13_1).f2.f1)] 101 (0,0)) (by(with_reducible repeat(first|refine Zo ?_ _|refine Zq ?_|refine Zn ?_ _));exact BK168009.out) hg (Kd.R_ne HO_5.out BK168009.out (by decide)));have n2_:=Za (Kd.R_over' (by(with_reducible repeat(first|apply Kd.R_alloc|apply Kd.R_drewN|apply Kd.R_drew));exact HO168012.out) (Kd.R_typed (by(with_reducible repeat(first|apply Kd.R_alloc|apply Kd.R_drewN|apply Kd.R_drew));exact HO_5.out)) (by decide) hg);have n3_:=Za (hb);have n4_:=Za (ho);clear BK168001;clear BK168009;clear HO168012;clear HB;clear HO_5;have BK168001:=n0_;have BK168009:=n1_;have HO168012:=n2_;have HB:=n3_;have HO168015:=n4_;clear n0_ n1_ n2_ n3_ n4_;clear ho hb hg hat))
          go_roundg k1
          case measure=>have:=HK1.out;omega
          case rel=>exact⟨(y168010),(y168013),(wrap64 (x13_1+1)),(by first|rfl|(simp;done)|(simp[*];done)),H',⟨by have:=HK1.out;omega⟩,⟨by(with_reducible repeat(first|apply Kd.R_alloc|apply Kd.R_drewN|apply Kd.R_drew));exact HO168012.out⟩,⟨by(with_reducible repeat(first|apply Kd.R_alloc|apply Kd.R_drewN|apply Kd.R_drew));exact HO168015.out⟩,⟨by(with_reducible repeat(first|refine Zo ?_ _|refine Zq ?_|refine Zn ?_ _));exact BK168001.out⟩,⟨by repeat(first|(with_reducible first|exact HB.out|apply Zr|apply Zm|apply Zs|refine Zp ?_ GE168001.out|refine Zp ?_ GE168009.out)|exact HB.out)⟩⟩
         ·rw[if_neg c17] at H
          exact absurd H (by simp)
        ·rw[if_neg c16] at H
         exact absurd H (by simp)
      ·rw[if_neg c11] at H
       have c11b0:(((Zw l0_1 x13_1).f2.f1) == 1000000)=false:=beq_eq_false_iff_ne.mpr c11
       have c11b1:(((Zw l0_1 x13_1).f2.f1) != 1000000)=true:=bne_iff_ne.mpr c11
       by_cases c23:x4_1.length<5864062014805
       ·rw[if_pos c23] at H
        have LMc23:=Za c23;clear c23
        obtain⟨y168016,hy168016⟩:∃y_:List (S148),y_=(x4_1 ++ [(⟨(Zw l0_1 x13_1).f0,(Zw l0_1 x13_1).f1,(Zw l0_1 x13_1).f2.f1⟩:S148)]):=⟨_,rfl⟩
        replace H:(if x5_1.length<17592186044416 then((some (x5_1 ++ [x13_1]:List Int)).bind fun y168019=>(if ((Zw l0_1 x13_1).f2.f0)=(-1000000) then(ZY.l0 k1 y168016 y168019 l0_1 (l0_1.length:Int) (wrap64 (x13_1+1))) else(if y168016.length<5864062014805 then(if y168019.length<17592186044416 then(ZY.l0 k1 (y168016 ++ [(⟨(Zw l0_1 x13_1).f1,(Zw l0_1 x13_1).f0,wrap64 (-((Zw l0_1 x13_1).f2.f0))⟩:S148)]) (y168019 ++ [x13_1]) l0_1 (l0_1.length:Int) (wrap64 (x13_1+1))) else(none)) else(none)))) else(none))=some (r1,r2):=by first|(rw[hy168016];with_reducible exact H)|(have H2_:=(Zi _ _).symm.trans H;rw[hy168016];with_reducible exact H2_)|(have H2_:=(Zi _ _).symm.trans H;with_reducible exact H2_)|with_reducible exact H|(rw[hy168016];exact H)|exact H
        have Ny168016:=Za hy168016;clear hy168016
        by_cases c24:x5_1.length<17592186044416
        ·rw[if_pos c24] at H
         have LMc24:=Za c24;clear c24
         obtain⟨y168019,hy168019⟩:∃y_:List Int,y_=(x5_1 ++ [x13_1]):=⟨_,rfl⟩
         replace H:(if ((Zw l0_1 x13_1).f2.f0)=(-1000000) then(ZY.l0 k1 y168016 y168019 l0_1 (l0_1.length:Int) (wrap64 (x13_1+1))) else(if y168016.length<5864062014805 then(if y168019.length<17592186044416 then(ZY.l0 k1 (y168016 ++ [(⟨(Zw l0_1 x13_1).f1,(Zw l0_1 x13_1).f0,wrap64 (-((Zw l0_1 x13_1).f2.f0))⟩:S148)]) (y168019 ++ [x13_1]) l0_1 (l0_1.length:Int) (wrap64 (x13_1+1))) else(none)) else(none)))=some (r1,r2):=by first|(rw[hy168019];with_reducible exact H)|(have H2_:=(Zi _ _).symm.trans H;rw[hy168019];with_reducible exact H2_)|(have H2_:=(Zi _ _).symm.trans H;with_reducible exact H2_)|with_reducible exact H|(rw[hy168019];exact H)|exact H
         have Ny168019:=Za hy168019;clear hy168019
         by_cases c25:((Zw l0_1 x13_1).f2.f0)=(-1000000)
         ·rw[if_pos c25] at H
          have c25b0:(((Zw l0_1 x13_1).f2.f0) == (-1000000))=true:=beq_iff_eq.mpr c25
          have c25b1:(((Zw l0_1 x13_1).f2.f0) != (-1000000))=false:=bne_eq_false_iff_eq.mpr c25
          clear c25
          have H':=Za H
          clear H
          have p168008:0≤(x13_1:Int):=Zd (by first|(with_reducible assumption)|assumption)
          have q168008:x13_1<(l0_1.length:Int):=Zd (by first|(with_reducible assumption)|assumption)
          obtain⟨ad168008,e168008,hx168008_0,hx168008_1,hx168008_2,hx168008_3⟩:=Za9 HR0_1.out x13_1 p168008 q168008
          cases e168008
          replace hx168008_0:=(HB.out.cell (Zc w _ hx168008_0)).trans hx168008_0
          replace hx168008_1:=(HB.out.cell (Zc w _ hx168008_1)).trans hx168008_1
          replace hx168008_2:=(HB.out.cell (Zc w _ hx168008_2)).trans hx168008_2
          replace hx168008_3:=(HB.out.cell (Zc w _ hx168008_3)).trans hx168008_3
          replace p168008:=eq_true p168008
          replace q168008:=eq_true q168008
          go_wp2_with (first|((with_reducible refine ZD (N:=7) rfl ?_);refine ZE ?hg (N:=7) ?hd (cs:=#[.int .i64 0,.int .i64 0,.int .i64 0,.int .i64 0]) (t:=101) ?hr ?_;(case hd=>rfl);(case hg=>rfl);(case hr=>first|(go_simp;done)|(go_simp;rfl));intro gb168009 hg w26 hbox hb;have n0_:=Za (Kd.R_below (by(with_reducible repeat(first|apply Kd.R_alloc|apply Kd.R_drewN|apply Kd.R_drew));exact HO_4.out) hb);have n1_:=Za (Kd.R_below (by(with_reducible repeat(first|apply Kd.R_alloc|apply Kd.R_drewN|apply Kd.R_drew));exact HO_5.out) hb);have n2_:=Za (Zx (g:=gb168001) (o:=.cells #[.int .i64 a0_0,.slice (some ad168008) l0_1.length c0_1] 25 (0,0)) (by(with_reducible repeat(first|refine Zo ?_ _|refine Zq ?_|refine Zn ?_ _));exact BK168001.out) hb);have n3_:=Za (Zy (by repeat(first|(with_reducible first|exact HB.out|apply Zr|apply Zm|apply Zs|refine Zp ?_ GE168001.out)|exact HB.out)) hb);have n4_:=Za (hbox);have n5_:=Za ((by rw[hg];exact(Zv (by repeat(first|(with_reducible first|exact HB.out|apply Zr|apply Zm|apply Zs|refine Zp ?_ GE168001.out)|exact HB.out))):w.heap.size≤gb168009));have n6_:=Za ((by rw[hg];exact(Zv (by repeat(first|(with_reducible first|exact HB.out|apply Zr|apply Zm|apply Zs|refine Zp ?_ GE168001.out)|exact HB.out))):w.heap.size≤gb168009));have n7_:=Za ((by rw[hg];exact Nat.ne_of_lt (ZB (g:=gb168001) (o:=.cells #[.int .i64 a0_0,.slice (some ad168008) l0_1.length c0_1] 25 (0,0)) (by(with_reducible repeat(first|refine Zo ?_ _|refine Zq ?_|refine Zn ?_ _));exact BK168001.out)):gb168001≠gb168009));have n8_:=Za ((by rw[hg];exact Nat.ne_of_gt (ZB (g:=gb168001) (o:=.cells #[.int .i64 a0_0,.slice (some ad168008) l0_1.length c0_1] 25 (0,0)) (by(with_reducible repeat(first|refine Zo ?_ _|refine Zq ?_|refine Zn ?_ _));exact BK168001.out)):gb168009≠gb168001));clear HO_4;clear HO_5;clear BK168001;clear HB;have HO_4:=n0_;have HO_5:=n1_;have BK168001:=n2_;have HB:=n3_;have BK168009:=n4_;have GW168009:=n5_;have GE168009:=n6_;have NB168001_168009:=n7_;have NB168009_168001:=n8_;clear n0_ n1_ n2_ n3_ n4_ n5_ n6_ n7_ n8_;clear hb hbox hg;have hnb27:=NB168009_168001.out;have hnc27:=NB168001_168009.out;have hcz28_0:w26.cell? ⟨gb168009,0,none⟩=some (.int .i64 0):=(Zu BK168009.out 0).trans rfl;have hcz28_1:w26.cell? ⟨gb168009,1,none⟩=some (.int .i64 0):=(Zu BK168009.out 1).trans rfl;have hcz28_2:w26.cell? ⟨gb168009,2,none⟩=some (.int .i64 0):=(Zu BK168009.out 2).trans rfl;have hcz28_3:w26.cell? ⟨gb168009,3,none⟩=some (.int .i64 0):=(Zu BK168009.out 3).trans rfl;have hfz28_0:=Zt BK168009.out 0;have hfz28_1:=Zt BK168009.out 1;have hfz28_2:=Zt BK168009.out 2;have hfz28_3:=Zt BK168009.out 3)|((with_reducible refine Zae (b:=.append) (xs:=#[.tmp 22,.tmp 31]) rfl ?_);at_builtin;refine Kd.R_append k148 (w0:=w) w.heap.size rfl (.tmp 22) (.tmp 31) 93 148 (.agg #[(.int .i64 0),(.int .i64 0),(.int .i64 0)]) 24 rfl Try.underlying93 ZbO rfl (by decide) (by omega) u4 x4_1 (⟨(Zw l0_1 x13_1).f0,(Zw l0_1 x13_1).f1,(Zw l0_1 x13_1).f2.f1⟩:S148) [.int .i64 ((Zw l0_1 x13_1).f0),.int .i64 ((Zw l0_1 x13_1).f1),.int .i64 ((Zw l0_1 x13_1).f2.f1)] (fun _=>True) (fun _=>False) rfl (by first|(go_simp;done)|(go_simp;rfl)) ?aP (fun _ hk=>hk.elim) ?aF ?aO ?aB ?aS ?aL ?_;(case aP=>exact ZbE _ _ _ (⟨(Zw l0_1 x13_1).f0,(Zw l0_1 x13_1).f1,(Zw l0_1 x13_1).f2.f1⟩:S148));(case aB=>exact(by repeat(first|(with_reducible first|exact HB.out|apply Zr|apply Zm|apply Zs|refine Zp ?_ GE168001.out|refine Zp ?_ GE168009.out)|exact HB.out)));(case aF=>exact(fun _ _=>trivial));(case aO=>exact(by(with_reducible repeat(first|apply Kd.R_alloc|apply Kd.R_drewN|apply Kd.R_drew));exact Kd.R_mono (Kd.R_far (p:=⟨gb168009,3,none⟩) (Kd.R_far (p:=⟨gb168009,2,none⟩) (Kd.R_far (p:=⟨gb168009,1,none⟩) (Kd.R_far (p:=⟨gb168009,0,none⟩) (Kd.R_types HO_4.out BK168009.out (by decide)) (fun _ hk=>hk.2) (.int .i64 ((Zw l0_1 x13_1).f0))) (fun _ hk=>hk.2) (.int .i64 ((Zw l0_1 x13_1).f1))) (fun _ hk=>hk.2) (.int .i64 ((Zw l0_1 x13_1).f2.f0))) (fun _ hk=>hk.2) (.int .i64 ((Zw l0_1 x13_1).f2.f1))) (fun _ hk=>trivial)));(case aS=>exact(Zv (by repeat(first|(with_reducible first|exact HB.out|apply Zr|apply Zm|apply Zs|refine Zp ?_ GE168001.out|refine Zp ?_ GE168009.out)|exact HB.out))));(case aL=>have:=LMc23.out;omega);intro v168017 w29 ho hb hg hat;rw[← Ny168016.out] at ho;have n0_:=Za (Kd.R_over' (by(with_reducible repeat(first|apply Kd.R_alloc|apply Kd.R_drewN|apply Kd.R_drew));exact(Kd.R_mono (Kd.R_far (p:=⟨gb168009,3,none⟩) (Kd.R_far (p:=⟨gb168009,2,none⟩) (Kd.R_far (p:=⟨gb168009,1,none⟩) (Kd.R_far (p:=⟨gb168009,0,none⟩) (Kd.R_types HO_5.out BK168009.out (by decide)) (fun _ hk=>hk.2) (.int .i64 ((Zw l0_1 x13_1).f0))) (fun _ hk=>hk.2) (.int .i64 ((Zw l0_1 x13_1).f1))) (fun _ hk=>hk.2) (.int .i64 ((Zw l0_1 x13_1).f2.f0))) (fun _ hk=>hk.2) (.int .i64 ((Zw l0_1 x13_1).f2.f1))) (fun _ h_=>h_.1))) (Kd.R_typed (by(with_reducible repeat(first|apply Kd.R_alloc|apply Kd.R_drewN|apply Kd.R_drew));exact(Kd.R_mono (Kd.R_far (p:=⟨gb168009,3,none⟩) (Kd.R_far (p:=⟨gb168009,2,none⟩) (Kd.R_far (p:=⟨gb168009,1,none⟩) (Kd.R_far (p:=⟨gb168009,0,none⟩) (Kd.R_types HO_4.out BK168009.out (by decide)) (fun _ hk=>hk.2) (.int .i64 ((Zw l0_1 x13_1).f0))) (fun _ hk=>hk.2) (.int .i64 ((Zw l0_1 x13_1).f1))) (fun _ hk=>hk.2) (.int .i64 ((Zw l0_1 x13_1).f2.f0))) (fun _ hk=>hk.2) (.int .i64 ((Zw l0_1 x13_1).f2.f1))) (fun _ h_=>h_.1)))) (by decide) hg);have n1_:=Za (ZS (g:=gb168001) (o:=.cells #[.int .i64 a0_0,.slice (some ad168008) l0_1.length c0_1] 25 (0,0)) (by(with_reducible repeat(first|refine Zo ?_ _|refine Zq ?_|refine Zn ?_ _));refine ZC ?_ NB168001_168009.out _;(with_reducible repeat(first|refine Zo ?_ _|refine Zq ?_|refine Zn ?_ _));refine ZC ?_ NB168001_168009.out _;(with_reducible repeat(first|refine Zo ?_ _|refine Zq ?_|refine Zn ?_ _));refine ZC ?_ NB168001_168009.out _;(with_reducible repeat(first|refine Zo ?_ _|refine Zq ?_|refine Zn ?_ _));refine ZC ?_ NB168001_168009.out _;(with_reducible repeat(first|refine Zo ?_ _|refine Zq ?_|refine Zn ?_ _));exact BK168001.out) hg (Kd.R_ne HO_4.out BK168001.out (by decide)));have n2_:=Za (ZS (g:=gb168009) (o:=.cells #[.int .i64 ((Zw l0_1 x13_1).f0),.int .i64 ((Zw l0_1 x13_1).f1),.int .i64 ((Zw l0_1 x13_1).f2.f0),.int .i64 ((Zw l0_1 x13_1).f2.f1)] 101 (0,0)) (by(with_reducible repeat(first|refine Zo ?_ _|refine Zq ?_|refine Zn ?_ _));refine ZF (cs:=#[.int .i64 ((Zw l0_1 x13_1).f0),.int .i64 ((Zw l0_1 x13_1).f1),.int .i64 ((Zw l0_1 x13_1).f2.f0),.int .i64 0]) ?_ 3 _ rfl;(with_reducible repeat(first|refine Zo ?_ _|refine Zq ?_|refine Zn ?_ _));refine ZF (cs:=#[.int .i64 ((Zw l0_1 x13_1).f0),.int .i64 ((Zw l0_1 x13_1).f1),.int .i64 0,.int .i64 0]) ?_ 2 _ rfl;(with_reducible repeat(first|refine Zo ?_ _|refine Zq ?_|refine Zn ?_ _));refine ZF (cs:=#[.int .i64 ((Zw l0_1 x13_1).f0),.int .i64 0,.int .i64 0,.int .i64 0]) ?_ 1 _ rfl;(with_reducible repeat(first|refine Zo ?_ _|refine Zq ?_|refine Zn ?_ _));refine ZF (cs:=#[.int .i64 0,.int .i64 0,.int .i64 0,.int .i64 0]) ?_ 0 _ rfl;(with_reducible repeat(first|refine Zo ?_ _|refine Zq ?_|refine Zn ?_ _));exact BK168009.out) hg (Kd.R_ne HO_4.out BK168009.out (by decide)));have n3_:=Za (hb);have n4_:=Za (ho);clear HO_5;clear BK168001;clear BK168009;clear HB;clear HO_4;have HO_5:=n0_;have BK168001:=n1_;have BK168009:=n2_;have HB:=n3_;have HO168018:=n4_;clear n0_ n1_ n2_ n3_ n4_;clear ho hb hg hat)|((with_reducible refine Zae (b:=.append) (xs:=#[.tmp 33,.tmp 35]) rfl ?_);at_builtin;refine Kd.R_append (Kd.int .i64) (w0:=w) w.heap.size rfl (.tmp 33) (.tmp 35) 33 3 (.int .i64 0) 8 rfl Try.underlying33 Za2 rfl (by decide) (by omega) u5 x5_1 x13_1 [.int .i64 x13_1] (fun _=>True) (fun _=>False) rfl rfl ?aP (fun _ hk=>hk.elim) ?aF ?aO ?aB ?aS ?aL ?_;(case aP=>exact rfl);(case aB=>exact(by repeat(first|(with_reducible first|exact HB.out|apply Zr|apply Zm|apply Zs|refine Zp ?_ GE168001.out|refine Zp ?_ GE168009.out)|exact HB.out)));(case aF=>exact(fun _ _=>trivial));(case aO=>exact(by(with_reducible repeat(first|apply Kd.R_alloc|apply Kd.R_drewN|apply Kd.R_drew));exact HO_5.out));(case aS=>exact(Zv (by repeat(first|(with_reducible first|exact HB.out|apply Zr|apply Zm|apply Zs|refine Zp ?_ GE168001.out|refine Zp ?_ GE168009.out)|exact HB.out))));(case aL=>have:=LMc24.out;omega);intro v168020 w30 ho hb hg hat;rw[← Ny168019.out] at ho;have n0_:=Za (ZS (g:=gb168001) (o:=.cells #[.int .i64 a0_0,.slice (some ad168008) l0_1.length c0_1] 25 (0,0)) (by(with_reducible repeat(first|refine Zo ?_ _|refine Zq ?_|refine Zn ?_ _));exact BK168001.out) hg (Kd.R_ne HO_5.out BK168001.out (by decide)));have n1_:=Za (ZS (g:=gb168009) (o:=.cells #[.int .i64 ((Zw l0_1 x13_1).f0),.int .i64 ((Zw l0_1 x13_1).f1),.int .i64 ((Zw l0_1 x13_1).f2.f0),.int .i64 ((Zw l0_1 x13_1).f2.f1)] 101 (0,0)) (by(with_reducible repeat(first|refine Zo ?_ _|refine Zq ?_|refine Zn ?_ _));exact BK168009.out) hg (Kd.R_ne HO_5.out BK168009.out (by decide)));have n2_:=Za (Kd.R_over' (by(with_reducible repeat(first|apply Kd.R_alloc|apply Kd.R_drewN|apply Kd.R_drew));exact HO168018.out) (Kd.R_typed (by(with_reducible repeat(first|apply Kd.R_alloc|apply Kd.R_drewN|apply Kd.R_drew));exact HO_5.out)) (by decide) hg);have n3_:=Za (hb);have n4_:=Za (ho);clear BK168001;clear BK168009;clear HO168018;clear HB;clear HO_5;have BK168001:=n0_;have BK168009:=n1_;have HO168018:=n2_;have HB:=n3_;have HO168021:=n4_;clear n0_ n1_ n2_ n3_ n4_;clear ho hb hg hat;have hcz31_0:w30.cell? ⟨gb168009,0,none⟩=some (.int .i64 ((Zw l0_1 x13_1).f0)):=(Zu BK168009.out 0).trans rfl;have hcz31_1:w30.cell? ⟨gb168009,1,none⟩=some (.int .i64 ((Zw l0_1 x13_1).f1)):=(Zu BK168009.out 1).trans rfl;have hcz31_2:w30.cell? ⟨gb168009,2,none⟩=some (.int .i64 ((Zw l0_1 x13_1).f2.f0)):=(Zu BK168009.out 2).trans rfl;have hcz31_3:w30.cell? ⟨gb168009,3,none⟩=some (.int .i64 ((Zw l0_1 x13_1).f2.f1)):=(Zu BK168009.out 3).trans rfl;have hfz31_0:=Zt BK168009.out 0;have hfz31_1:=Zt BK168009.out 1;have hfz31_2:=Zt BK168009.out 2;have hfz31_3:=Zt BK168009.out 3))
          go_roundg k1
          case measure=>have:=HK1.out;omega
          case rel=>exact⟨(y168016),(y168019),(wrap64 (x13_1+1)),(by first|rfl|(simp;done)|(simp[*];done)),H',⟨by have:=HK1.out;omega⟩,⟨by(with_reducible repeat(first|apply Kd.R_alloc|apply Kd.R_drewN|apply Kd.R_drew));exact HO168018.out⟩,⟨by(with_reducible repeat(first|apply Kd.R_alloc|apply Kd.R_drewN|apply Kd.R_drew));exact HO168021.out⟩,⟨by(with_reducible repeat(first|refine Zo ?_ _|refine Zq ?_|refine Zn ?_ _));exact BK168001.out⟩,⟨by repeat(first|(with_reducible first|exact HB.out|apply Zr|apply Zm|apply Zs|refine Zp ?_ GE168001.out|refine Zp ?_ GE168009.out)|exact HB.out)⟩⟩
         ·rw[if_neg c25] at H
          have c25b0:(((Zw l0_1 x13_1).f2.f0) == (-1000000))=false:=beq_eq_false_iff_ne.mpr c25
          have c25b1:(((Zw l0_1 x13_1).f2.f0) != (-1000000))=true:=bne_iff_ne.mpr c25
          by_cases c32:y168016.length<5864062014805
          ·rw[if_pos c32] at H
           have LMc32:=Za c32;clear c32
           obtain⟨y168022,hy168022⟩:∃y_:List (S148),y_=(y168016 ++ [(⟨(Zw l0_1 x13_1).f1,(Zw l0_1 x13_1).f0,wrap64 (-((Zw l0_1 x13_1).f2.f0))⟩:S148)]):=⟨_,rfl⟩
           replace H:(if y168019.length<17592186044416 then(ZY.l0 k1 y168022 (y168019 ++ [x13_1]) l0_1 (l0_1.length:Int) (wrap64 (x13_1+1))) else(none))=some (r1,r2):=by first|(rw[hy168022];with_reducible exact H)|(have H2_:=(Zi _ _).symm.trans H;rw[hy168022];with_reducible exact H2_)|(have H2_:=(Zi _ _).symm.trans H;with_reducible exact H2_)|with_reducible exact H|(rw[hy168022];exact H)|exact H
           have Ny168022:=Za hy168022;clear hy168022
           by_cases c33:y168019.length<17592186044416
           ·rw[if_pos c33] at H
            have LMc33:=Za c33;clear c33
            obtain⟨y168025,hy168025⟩:∃y_:List Int,y_=(y168019 ++ [x13_1]):=⟨_,rfl⟩
            replace H:(ZY.l0 k1 y168022 y168025 l0_1 (l0_1.length:Int) (wrap64 (x13_1+1)))=some (r1,r2):=by first|(rw[hy168025];with_reducible exact H)|(have H2_:=(Zi _ _).symm.trans H;rw[hy168025];with_reducible exact H2_)|(have H2_:=(Zi _ _).symm.trans H;with_reducible exact H2_)|with_reducible exact H|(rw[hy168025];exact H)|exact H
            have Ny168025:=Za hy168025;clear hy168025
            have H':=Za H
            clear H
            have p168008:0≤(x13_1:Int):=Zd (by first|(with_reducible assumption)|assumption)
            have q168008:x13_1<(l0_1.length:Int):=Zd (by first|(with_reducible assumption)|assumption)
            obtain⟨ad168008,e168008,hx168008_0,hx168008_1,hx168008_2,hx168008_3⟩:=Za9 HR0_1.out x13_1 p168008 q168008
            cases e168008
            replace hx168008_0:=(HB.out.cell (Zc w _ hx168008_0)).trans hx168008_0
            replace hx168008_1:=(HB.out.cell (Zc w _ hx168008_1)).trans hx168008_1
            replace hx168008_2:=(HB.out.cell (Zc w _ hx168008_2)).trans hx168008_2
            replace hx168008_3:=(HB.out.cell (Zc w _ hx168008_3)).trans hx168008_3
            replace p168008:=eq_true p168008
            replace q168008:=eq_true q168008
            go_wp2_with (first|((with_reducible refine ZD (N:=7) rfl ?_);refine ZE ?hg (N:=7) ?hd (cs:=#[.int .i64 0,.int .i64 0,.int .i64 0,.int .i64 0]) (t:=101) ?hr ?_;(case hd=>rfl);(case hg=>rfl);(case hr=>first|(go_simp;done)|(go_simp;rfl));intro gb168009 hg w34 hbox hb;have n0_:=Za (Kd.R_below (by(with_reducible repeat(first|apply Kd.R_alloc|apply Kd.R_drewN|apply Kd.R_drew));exact HO_4.out) hb);have n1_:=Za (Kd.R_below (by(with_reducible repeat(first|apply Kd.R_alloc|apply Kd.R_drewN|apply Kd.R_drew));exact HO_5.out) hb);have n2_:=Za (Zx (g:=gb168001) (o:=.cells #[.int .i64 a0_0,.slice (some ad168008) l0_1.length c0_1] 25 (0,0)) (by(with_reducible repeat(first|refine Zo ?_ _|refine Zq ?_|refine Zn ?_ _));exact BK168001.out) hb);have n3_:=Za (Zy (by repeat(first|(with_reducible first|exact HB.out|apply Zr|apply Zm|apply Zs|refine Zp ?_ GE168001.out)|exact HB.out)) hb);have n4_:=Za (hbox);have n5_:=Za ((by rw[hg];exact(Zv (by repeat(first|(with_reducible first|exact HB.out|apply Zr|apply Zm|apply Zs|refine Zp ?_ GE168001.out)|exact HB.out))):w.heap.size≤gb168009));have n6_:=Za ((by rw[hg];exact(Zv (by repeat(first|(with_reducible first|exact HB.out|apply Zr|apply Zm|apply Zs|refine Zp ?_ GE168001.out)|exact HB.out))):w.heap.size≤gb168009));have n7_:=Za ((by rw[hg];exact Nat.ne_of_lt (ZB (g:=gb168001) (o:=.cells #[.int .i64 a0_0,.slice (some ad168008) l0_1.length c0_1] 25 (0,0)) (by(with_reducible repeat(first|refine Zo ?_ _|refine Zq ?_|refine Zn ?_ _));exact BK168001.out)):gb168001≠gb168009));have n8_:=Za ((by rw[hg];exact Nat.ne_of_gt (ZB (g:=gb168001) (o:=.cells #[.int .i64 a0_0,.slice (some ad168008) l0_1.length c0_1] 25 (0,0)) (by(with_reducible repeat(first|refine Zo ?_ _|refine Zq ?_|refine Zn ?_ _));exact BK168001.out)):gb168009≠gb168001));clear HO_4;clear HO_5;clear BK168001;clear HB;have HO_4:=n0_;have HO_5:=n1_;have BK168001:=n2_;have HB:=n3_;have BK168009:=n4_;have GW168009:=n5_;have GE168009:=n6_;have NB168001_168009:=n7_;have NB168009_168001:=n8_;clear n0_ n1_ n2_ n3_ n4_ n5_ n6_ n7_ n8_;clear hb hbox hg;have hnb35:=NB168009_168001.out;have hnc35:=NB168001_168009.out;have hcz36_0:w34.cell? ⟨gb168009,0,none⟩=some (.int .i64 0):=(Zu BK168009.out 0).trans rfl;have hcz36_1:w34.cell? ⟨gb168009,1,none⟩=some (.int .i64 0):=(Zu BK168009.out 1).trans rfl;have hcz36_2:w34.cell? ⟨gb168009,2,none⟩=some (.int .i64 0):=(Zu BK168009.out 2).trans rfl;have hcz36_3:w34.cell? ⟨gb168009,3,none⟩=some (.int .i64 0):=(Zu BK168009.out 3).trans rfl;have hfz36_0:=Zt BK168009.out 0;have hfz36_1:=Zt BK168009.out 1;have hfz36_2:=Zt BK168009.out 2;have hfz36_3:=Zt BK168009.out 3)|((with_reducible refine Zae (b:=.append) (xs:=#[.tmp 22,.tmp 31]) rfl ?_);at_builtin;refine Kd.R_append k148 (w0:=w) w.heap.size rfl (.tmp 22) (.tmp 31) 93 148 (.agg #[(.int .i64 0),(.int .i64 0),(.int .i64 0)]) 24 rfl Try.underlying93 ZbO rfl (by decide) (by omega) u4 x4_1 (⟨(Zw l0_1 x13_1).f0,(Zw l0_1 x13_1).f1,(Zw l0_1 x13_1).f2.f1⟩:S148) [.int .i64 ((Zw l0_1 x13_1).f0),.int .i64 ((Zw l0_1 x13_1).f1),.int .i64 ((Zw l0_1 x13_1).f2.f1)] (fun _=>True) (fun _=>False) rfl (by first|(go_simp;done)|(go_simp;rfl)) ?aP (fun _ hk=>hk.elim) ?aF ?aO ?aB ?aS ?aL ?_;(case aP=>exact ZbE _ _ _ (⟨(Zw l0_1 x13_1).f0,(Zw l0_1 x13_1).f1,(Zw l0_1 x13_1).f2.f1⟩:S148));(case aB=>exact(by repeat(first|(with_reducible first|exact HB.out|apply Zr|apply Zm|apply Zs|refine Zp ?_ GE168001.out|refine Zp ?_ GE168009.out)|exact HB.out)));(case aF=>exact(fun _ _=>trivial));(case aO=>exact(by(with_reducible repeat(first|apply Kd.R_alloc|apply Kd.R_drewN|apply Kd.R_drew));exact Kd.R_mono (Kd.R_far (p:=⟨gb168009,3,none⟩) (Kd.R_far (p:=⟨gb168009,2,none⟩) (Kd.R_far (p:=⟨gb168009,1,none⟩) (Kd.R_far (p:=⟨gb168009,0,none⟩) (Kd.R_types HO_4.out BK168009.out (by decide)) (fun _ hk=>hk.2) (.int .i64 ((Zw l0_1 x13_1).f0))) (fun _ hk=>hk.2) (.int .i64 ((Zw l0_1 x13_1).f1))) (fun _ hk=>hk.2) (.int .i64 ((Zw l0_1 x13_1).f2.f0))) (fun _ hk=>hk.2) (.int .i64 ((Zw l0_1 x13_1).f2.f1))) (fun _ hk=>trivial)));(case aS=>exact(Zv (by repeat(first|(with_reducible first|exact HB.out|apply Zr|apply Zm|apply Zs|refine Zp ?_ GE168001.out|refine Zp ?_ GE168009.out)|exact HB.out))));(case aL=>have:=LMc23.out;omega);intro v168017 w37 ho hb hg hat;rw[← Ny168016.out] at ho;have n0_:=Za (Kd.R_over' (by(with_reducible repeat(first|apply Kd.R_alloc|apply Kd.R_drewN|apply Kd.R_drew));exact(Kd.R_mono (Kd.R_far (p:=⟨gb168009,3,none⟩) (Kd.R_far (p:=⟨gb168009,2,none⟩) (Kd.R_far (p:=⟨gb168009,1,none⟩) (Kd.R_far (p:=⟨gb168009,0,none⟩) (Kd.R_types HO_5.out BK168009.out (by decide)) (fun _ hk=>hk.2) (.int .i64 ((Zw l0_1 x13_1).f0))) (fun _ hk=>hk.2) (.int .i64 ((Zw l0_1 x13_1).f1))) (fun _ hk=>hk.2) (.int .i64 ((Zw l0_1 x13_1).f2.f0))) (fun _ hk=>hk.2) (.int .i64 ((Zw l0_1 x13_1).f2.f1))) (fun _ h_=>h_.1))) (Kd.R_typed (by(with_reducible repeat(first|apply Kd.R_alloc|apply Kd.R_drewN|apply Kd.R_drew));exact(Kd.R_mono (Kd.R_far (p:=⟨gb168009,3,none⟩) (Kd.R_far (p:=⟨gb168009,2,none⟩) (Kd.R_far (p:=⟨gb168009,1,none⟩) (Kd.R_far (p:=⟨gb168009,0,none⟩) (Kd.R_types HO_4.out BK168009.out (by decide)) (fun _ hk=>hk.2) (.int .i64 ((Zw l0_1 x13_1).f0))) (fun _ hk=>hk.2) (.int .i64 ((Zw l0_1 x13_1).f1))) (fun _ hk=>hk.2) (.int .i64 ((Zw l0_1 x13_1).f2.f0))) (fun _ hk=>hk.2) (.int .i64 ((Zw l0_1 x13_1).f2.f1))) (fun _ h_=>h_.1)))) (by decide) hg);have n1_:=Za (ZS (g:=gb168001) (o:=.cells #[.int .i64 a0_0,.slice (some ad168008) l0_1.length c0_1] 25 (0,0)) (by(with_reducible repeat(first|refine Zo ?_ _|refine Zq ?_|refine Zn ?_ _));refine ZC ?_ NB168001_168009.out _;(with_reducible repeat(first|refine Zo ?_ _|refine Zq ?_|refine Zn ?_ _));refine ZC ?_ NB168001_168009.out _;(with_reducible repeat(first|refine Zo ?_ _|refine Zq ?_|refine Zn ?_ _));refine ZC ?_ NB168001_168009.out _;(with_reducible repeat(first|refine Zo ?_ _|refine Zq ?_|refine Zn ?_ _));refine ZC ?_ NB168001_168009.out _;(with_reducible repeat(first|refine Zo ?_ _|refine Zq ?_|refine Zn ?_ _));exact BK168001.out) hg (Kd.R_ne HO_4.out BK168001.out (by decide)));have n2_:=Za (ZS (g:=gb168009) (o:=.cells #[.int .i64 ((Zw l0_1 x13_1).f0),.int .i64 ((Zw l0_1 x13_1).f1),.int .i64 ((Zw l0_1 x13_1).f2.f0),.int .i64 ((Zw l0_1 x13_1).f2.f1)] 101 (0,0)) (by(with_reducible repeat(first|refine Zo ?_ _|refine Zq ?_|refine Zn ?_ _));refine ZF (cs:=#[.int .i64 ((Zw l0_1 x13_1).f0),.int .i64 ((Zw l0_1 x13_1).f1),.int .i64 ((Zw l0_1 x13_1).f2.f0),.int .i64 0]) ?_ 3 _ rfl;(with_reducible repeat(first|refine Zo ?_ _|refine Zq ?_|refine Zn ?_ _));refine ZF (cs:=#[.int .i64 ((Zw l0_1 x13_1).f0),.int .i64 ((Zw l0_1 x13_1).f1),.int .i64 0,.int .i64 0]) ?_ 2 _ rfl;(with_reducible repeat(first|refine Zo ?_ _|refine Zq ?_|refine Zn ?_ _));refine ZF (cs:=#[.int .i64 ((Zw l0_1 x13_1).f0),.int .i64 0,.int .i64 0,.int .i64 0]) ?_ 1 _ rfl;(with_reducible repeat(first|refine Zo ?_ _|refine Zq ?_|refine Zn ?_ _));refine ZF (cs:=#[.int .i64 0,.int .i64 0,.int .i64 0,.int .i64 0]) ?_ 0 _ rfl;(with_reducible repeat(first|refine Zo ?_ _|refine Zq ?_|refine Zn ?_ _));exact BK168009.out) hg (Kd.R_ne HO_4.out BK168009.out (by decide)));have n3_:=Za (hb);have n4_:=Za (ho);clear HO_5;clear BK168001;clear BK168009;clear HB;clear HO_4;have HO_5:=n0_;have BK168001:=n1_;have BK168009:=n2_;have HB:=n3_;have HO168018:=n4_;clear n0_ n1_ n2_ n3_ n4_;clear ho hb hg hat)|((with_reducible refine Zae (b:=.append) (xs:=#[.tmp 33,.tmp 35]) rfl ?_);at_builtin;refine Kd.R_append (Kd.int .i64) (w0:=w) w.heap.size rfl (.tmp 33) (.tmp 35) 33 3 (.int .i64 0) 8 rfl Try.underlying33 Za2 rfl (by decide) (by omega) u5 x5_1 x13_1 [.int .i64 x13_1] (fun _=>True) (fun _=>False) rfl rfl ?aP (fun _ hk=>hk.elim) ?aF ?aO ?aB ?aS ?aL ?_;(case aP=>exact rfl);(case aB=>exact(by repeat(first|(with_reducible first|exact HB.out|apply Zr|apply Zm|apply Zs|refine Zp ?_ GE168001.out|refine Zp ?_ GE168009.out)|exact HB.out)));(case aF=>exact(fun _ _=>trivial));(case aO=>exact(by(with_reducible repeat(first|apply Kd.R_alloc|apply Kd.R_drewN|apply Kd.R_drew));exact HO_5.out));(case aS=>exact(Zv (by repeat(first|(with_reducible first|exact HB.out|apply Zr|apply Zm|apply Zs|refine Zp ?_ GE168001.out|refine Zp ?_ GE168009.out)|exact HB.out))));(case aL=>have:=LMc24.out;omega);intro v168020 w38 ho hb hg hat;rw[← Ny168019.out] at ho;have n0_:=Za (ZS (g:=gb168001) (o:=.cells #[.int .i64 a0_0,.slice (some ad168008) l0_1.length c0_1] 25 (0,0)) (by(with_reducible repeat(first|refine Zo ?_ _|refine Zq ?_|refine Zn ?_ _));exact BK168001.out) hg (Kd.R_ne HO_5.out BK168001.out (by decide)));have n1_:=Za (ZS (g:=gb168009) (o:=.cells #[.int .i64 ((Zw l0_1 x13_1).f0),.int .i64 ((Zw l0_1 x13_1).f1),.int .i64 ((Zw l0_1 x13_1).f2.f0),.int .i64 ((Zw l0_1 x13_1).f2.f1)] 101 (0,0)) (by(with_reducible repeat(first|refine Zo ?_ _|refine Zq ?_|refine Zn ?_ _));exact BK168009.out) hg (Kd.R_ne HO_5.out BK168009.out (by decide)));have n2_:=Za (Kd.R_over' (by(with_reducible repeat(first|apply Kd.R_alloc|apply Kd.R_drewN|apply Kd.R_drew));exact HO168018.out) (Kd.R_typed (by(with_reducible repeat(first|apply Kd.R_alloc|apply Kd.R_drewN|apply Kd.R_drew));exact HO_5.out)) (by decide) hg);have n3_:=Za (hb);have n4_:=Za (ho);clear BK168001;clear BK168009;clear HO168018;clear HB;clear HO_5;have BK168001:=n0_;have BK168009:=n1_;have HO168018:=n2_;have HB:=n3_;have HO168021:=n4_;clear n0_ n1_ n2_ n3_ n4_;clear ho hb hg hat;have hcz39_0:w38.cell? ⟨gb168009,0,none⟩=some (.int .i64 ((Zw l0_1 x13_1).f0)):=(Zu BK168009.out 0).trans rfl;have hcz39_1:w38.cell? ⟨gb168009,1,none⟩=some (.int .i64 ((Zw l0_1 x13_1).f1)):=(Zu BK168009.out 1).trans rfl;have hcz39_2:w38.cell? ⟨gb168009,2,none⟩=some (.int .i64 ((Zw l0_1 x13_1).f2.f0)):=(Zu BK168009.out 2).trans rfl;have hcz39_3:w38.cell? ⟨gb168009,3,none⟩=some (.int .i64 ((Zw l0_1 x13_1).f2.f1)):=(Zu BK168009.out 3).trans rfl;have hfz39_0:=Zt BK168009.out 0;have hfz39_1:=Zt BK168009.out 1;have hfz39_2:=Zt BK168009.out 2;have hfz39_3:=Zt BK168009.out 3)|((with_reducible refine Zae (b:=.append) (xs:=#[.tmp 41,.tmp 51]) rfl ?_);at_builtin;refine Kd.R_append k148 (w0:=w) w.heap.size rfl (.tmp 41) (.tmp 51) 93 148 (.agg #[(.int .i64 0),(.int .i64 0),(.int .i64 0)]) 24 rfl Try.underlying93 ZbO rfl (by decide) (by omega) v168017 y168016 (⟨(Zw l0_1 x13_1).f1,(Zw l0_1 x13_1).f0,wrap64 (-((Zw l0_1 x13_1).f2.f0))⟩:S148) [.int .i64 ((Zw l0_1 x13_1).f1),.int .i64 ((Zw l0_1 x13_1).f0),.int .i64 (wrap64 (-((Zw l0_1 x13_1).f2.f0)))] (fun _=>True) (fun _=>False) rfl rfl ?aP (fun _ hk=>hk.elim) ?aF ?aO ?aB ?aS ?aL ?_;(case aP=>exact ZbE _ _ _ (⟨(Zw l0_1 x13_1).f1,(Zw l0_1 x13_1).f0,wrap64 (-((Zw l0_1 x13_1).f2.f0))⟩:S148));(case aB=>exact(by repeat(first|(with_reducible first|exact HB.out|apply Zr|apply Zm|apply Zs|refine Zp ?_ GE168001.out|refine Zp ?_ GE168009.out)|exact HB.out)));(case aF=>exact(fun _ _=>trivial));(case aO=>exact(by(with_reducible repeat(first|apply Kd.R_alloc|apply Kd.R_drewN|apply Kd.R_drew));exact HO168018.out));(case aS=>exact(Zv (by repeat(first|(with_reducible first|exact HB.out|apply Zr|apply Zm|apply Zs|refine Zp ?_ GE168001.out|refine Zp ?_ GE168009.out)|exact HB.out))));(case aL=>have:=LMc32.out;omega);intro v168023 w40 ho hb hg hat;rw[← Ny168022.out] at ho;have n0_:=Za (ZS (g:=gb168001) (o:=.cells #[.int .i64 a0_0,.slice (some ad168008) l0_1.length c0_1] 25 (0,0)) (by(with_reducible repeat(first|refine Zo ?_ _|refine Zq ?_|refine Zn ?_ _));exact BK168001.out) hg (Kd.R_ne HO168018.out BK168001.out (by decide)));have n1_:=Za (ZS (g:=gb168009) (o:=.cells #[.int .i64 ((Zw l0_1 x13_1).f0),.int .i64 ((Zw l0_1 x13_1).f1),.int .i64 ((Zw l0_1 x13_1).f2.f0),.int .i64 ((Zw l0_1 x13_1).f2.f1)] 101 (0,0)) (by(with_reducible repeat(first|refine Zo ?_ _|refine Zq ?_|refine Zn ?_ _));exact BK168009.out) hg (Kd.R_ne HO168018.out BK168009.out (by decide)));have n2_:=Za (Kd.R_over' (by(with_reducible repeat(first|apply Kd.R_alloc|apply Kd.R_drewN|apply Kd.R_drew));exact HO168021.out) (Kd.R_typed (by(with_reducible repeat(first|apply Kd.R_alloc|apply Kd.R_drewN|apply Kd.R_drew));exact HO168018.out)) (by decide) hg);have n3_:=Za (hb);have n4_:=Za (ho);clear BK168001;clear BK168009;clear HO168021;clear HB;clear HO168018;have BK168001:=n0_;have BK168009:=n1_;have HO168021:=n2_;have HB:=n3_;have HO168024:=n4_;clear n0_ n1_ n2_ n3_ n4_;clear ho hb hg hat)|((with_reducible refine Zae (b:=.append) (xs:=#[.tmp 53,.tmp 55]) rfl ?_);at_builtin;refine Kd.R_append (Kd.int .i64) (w0:=w) w.heap.size rfl (.tmp 53) (.tmp 55) 33 3 (.int .i64 0) 8 rfl Try.underlying33 Za2 rfl (by decide) (by omega) v168020 y168019 x13_1 [.int .i64 x13_1] (fun _=>True) (fun _=>False) rfl rfl ?aP (fun _ hk=>hk.elim) ?aF ?aO ?aB ?aS ?aL ?_;(case aP=>exact rfl);(case aB=>exact(by repeat(first|(with_reducible first|exact HB.out|apply Zr|apply Zm|apply Zs|refine Zp ?_ GE168001.out|refine Zp ?_ GE168009.out)|exact HB.out)));(case aF=>exact(fun _ _=>trivial));(case aO=>exact(by(with_reducible repeat(first|apply Kd.R_alloc|apply Kd.R_drewN|apply Kd.R_drew));exact HO168021.out));(case aS=>exact(Zv (by repeat(first|(with_reducible first|exact HB.out|apply Zr|apply Zm|apply Zs|refine Zp ?_ GE168001.out|refine Zp ?_ GE168009.out)|exact HB.out))));(case aL=>have:=LMc33.out;omega);intro v168026 w41 ho hb hg hat;rw[← Ny168025.out] at ho;have n0_:=Za (ZS (g:=gb168001) (o:=.cells #[.int .i64 a0_0,.slice (some ad168008) l0_1.length c0_1] 25 (0,0)) (by(with_reducible repeat(first|refine Zo ?_ _|refine Zq ?_|refine Zn ?_ _));exact BK168001.out) hg (Kd.R_ne HO168021.out BK168001.out (by decide)));have n1_:=Za (ZS (g:=gb168009) (o:=.cells #[.int .i64 ((Zw l0_1 x13_1).f0),.int .i64 ((Zw l0_1 x13_1).f1),.int .i64 ((Zw l0_1 x13_1).f2.f0),.int .i64 ((Zw l0_1 x13_1).f2.f1)] 101 (0,0)) (by(with_reducible repeat(first|refine Zo ?_ _|refine Zq ?_|refine Zn ?_ _));exact BK168009.out) hg (Kd.R_ne HO168021.out BK168009.out (by decide)));have n2_:=Za (Kd.R_over' (by(with_reducible repeat(first|apply Kd.R_alloc|apply Kd.R_drewN|apply Kd.R_drew));exact HO168024.out) (Kd.R_typed (by(with_reducible repeat(first|apply Kd.R_alloc|apply Kd.R_drewN|apply Kd.R_drew));exact HO168021.out)) (by decide) hg);have n3_:=Za (hb);have n4_:=Za (ho);clear BK168001;clear BK168009;clear HO168024;clear HB;clear HO168021;have BK168001:=n0_;have BK168009:=n1_;have HO168024:=n2_;have HB:=n3_;have HO168027:=n4_;clear n0_ n1_ n2_ n3_ n4_;clear ho hb hg hat))
            go_roundg k1
            case measure=>have:=HK1.out;omega
            case rel=>exact⟨(y168022),(y168025),(wrap64 (x13_1+1)),(by first|rfl|(simp;done)|(simp[*];done)),H',⟨by have:=HK1.out;omega⟩,⟨by(with_reducible repeat(first|apply Kd.R_alloc|apply Kd.R_drewN|apply Kd.R_drew));exact HO168024.out⟩,⟨by(with_reducible repeat(first|apply Kd.R_alloc|apply Kd.R_drewN|apply Kd.R_drew));exact HO168027.out⟩,⟨by(with_reducible repeat(first|refine Zo ?_ _|refine Zq ?_|refine Zn ?_ _));exact BK168001.out⟩,⟨by repeat(first|(with_reducible first|exact HB.out|apply Zr|apply Zm|apply Zs|refine Zp ?_ GE168001.out|refine Zp ?_ GE168009.out)|exact HB.out)⟩⟩
           ·rw[if_neg c33] at H
            exact absurd H (by simp)
          ·rw[if_neg c32] at H
           exact absurd H (by simp)
        ·rw[if_neg c24] at H
         exact absurd H (by simp)
       ·rw[if_neg c23] at H
        exact absurd H (by simp)
     ·rw[if_neg c10] at H
      exact absurd H (by simp)
    ·rw[if_neg c9] at H
     exact absurd H (by simp)
   ·rw[if_neg c8] at H
    have c8b0:decide (x13_1<(l0_1.length:Int))=false:=Zf c8
    clear c8
    simp only[Option.some.injEq,Prod.mk.injEq] at H
    obtain⟨rfl,rfl⟩:=H
    go_wp2
    go_ret2
    exact⟨_,_,by first|rfl|(simp[ZA,Zz] <;> rfl)|(simp[*,ZA,Zz] <;> rfl),by(with_reducible repeat(first|apply Kd.R_alloc|apply Kd.R_drewN|apply Kd.R_drew));exact HO_4.out,by(with_reducible repeat(first|apply Kd.R_alloc|apply Kd.R_drewN|apply Kd.R_drew));exact HO_5.out,by repeat(first|(with_reducible first|exact HB.out|apply Zr|apply Zm|apply Zs|refine Zp ?_ GE168001.out)|exact HB.out)⟩
def ZaF.f (k:Nat) (a0_0:Int) (l0_1:List (S101)):Option (Int×(List (S148))):=(ZK.f k a0_0 l0_1).bind fun t131003=>(if t131003=true then((ZY.f k a0_0 l0_1).bind fun bt131004=>(some (a0_0,bt131004.1))) else(some (0,([]:List (S148)))))
set_option maxHeartbeats 8000000 in
set_option maxRecDepth 100000 in
theorem ZaF.calls (k:Nat) (a0_0:Int) (A0_1:Option Addr) (c0_1:Nat) (l0_1:List (S101)) (r1:Int) (r2:List (S148)) (w:World) (hr0_1:Kd.C k101 w A0_1 l0_1.length l0_1) (hc0_1:l0_1.length≤c0_1) (h:ZaF.f k a0_0 l0_1=some (r1,r2)) :
  Calls Try.prog 131 #[.agg #[.int .i64 a0_0,.slice A0_1 l0_1.length c0_1]] w fun e w'=>∃v1_:Value,e=.returned (.agg #[.int .i64 r1,v1_])∧Kd.R k148 148 w' w.heap.size (fun _=>True) v1_ r2∧Below w.heap.size w w':=by
 have hu25:=Try.underlying25
 have hu95:=Try.underlying95
 have HR0_1:=Za hr0_1;have HC0_1:=Za hc0_1;clear hr0_1 hc0_1
 have HB:=Za (Below.refl w.heap.size w)
 have H:((ZK.f k a0_0 l0_1).bind fun t131003=>(if t131003=true then((ZY.f k a0_0 l0_1).bind fun bt131004=>(some (a0_0,bt131004.1))) else(some (0,([]:List (S148))))))=some (r1,r2):=h
 clear h
 replace H:=Zh H
 obtain⟨t131003,A20,H⟩:=H
 replace H:(if t131003=true then((ZY.f k a0_0 l0_1).bind fun bt131004=>(some (a0_0,bt131004.1))) else(some (0,([]:List (S148)))))=some (r1,r2):=H
 have A2:=Za A20;clear A20
 by_cases c3:t131003=true
 ·subst c3
  have H1:((ZY.f k a0_0 l0_1).bind fun bt131004=>(some (a0_0,bt131004.1)))=some (r1,r2):=by rw[if_pos rfl] at H;exact H
  clear H
  have H:=H1
  clear H1
  replace H:=Zh H
  obtain⟨⟨t131004,t131007⟩,A40,H⟩:=H
  replace H:(some (a0_0,t131004))=some (r1,r2):=H
  have A4:=Za A40;clear A40
  simp only[Option.some.injEq,Prod.mk.injEq] at H
  obtain⟨rfl,rfl⟩:=H
  go_enter Try.func131,Try.ntmps131
  go_wp2_with (first|((with_reducible refine ZD (N:=1) rfl ?_);refine ZE ?hg (N:=1) ?hd (cs:=#[.int .i64 a0_0,.slice A0_1 l0_1.length c0_1]) (t:=25) ?hr ?_;(case hd=>rfl);(case hg=>rfl);(case hr=>first|(go_simp;done)|(go_simp;rfl));intro gb131001 hg w5 hbox hb;have n0_:=Za (Zy (by repeat(first|(with_reducible first|exact HB.out|apply Zr|apply Zm|apply Zs)|exact HB.out)) hb);have n1_:=Za (hbox);have n2_:=Za ((by rw[hg];exact(Zv (by repeat(first|(with_reducible first|exact HB.out|apply Zr|apply Zm|apply Zs)|exact HB.out))):w.heap.size≤gb131001));have n3_:=Za ((by rw[hg];exact(Zv (by repeat(first|(with_reducible first|exact HB.out|apply Zr|apply Zm|apply Zs)|exact HB.out))):w.heap.size≤gb131001));clear HB;have HB:=n0_;have BK131001:=n1_;have GW131001:=n2_;have GE131001:=n3_;clear n0_ n1_ n2_ n3_;clear hb hbox hg)|((with_reducible refine ZD (N:=2) rfl ?_);refine ZE ?hg (N:=2) ?hd (cs:=#[.int .i64 0,.slice none 0 0]) (t:=95) ?hr ?_;(case hd=>rfl);(case hg=>rfl);(case hr=>first|(go_simp;done)|(go_simp;rfl));intro gb131002 hg w6 hbox hb;have n0_:=Za (Zx (g:=gb131001) (o:=.cells #[.int .i64 a0_0,.slice A0_1 l0_1.length c0_1] 25 (0,0)) (by(with_reducible repeat(first|refine Zo ?_ _|refine Zq ?_|refine Zn ?_ _));exact BK131001.out) hb);have n1_:=Za (Zy (by repeat(first|(with_reducible first|exact HB.out|apply Zr|apply Zm|apply Zs|refine Zp ?_ GE131001.out)|exact HB.out)) hb);have n2_:=Za (hbox);have n3_:=Za ((by rw[hg];exact(Zv (by repeat(first|(with_reducible first|exact HB.out|apply Zr|apply Zm|apply Zs|refine Zp ?_ GE131001.out)|exact HB.out))):w.heap.size≤gb131002));have n4_:=Za ((by rw[hg];exact(Zv (by repeat(first|(with_reducible first|exact HB.out|apply Zr|apply Zm|apply Zs|refine Zp ?_ GE131001.out)|exact HB.out))):w.heap.size≤gb131002));have n5_:=Za ((by rw[hg];exact Nat.ne_of_lt (ZB (g:=gb131001) (o:=.cells #[.int .i64 a0_0,.slice A0_1 l0_1.length c0_1] 25 (0,0)) (by(with_reducible repeat(first|refine Zo ?_ _|refine Zq ?_|refine Zn ?_ _));exact BK131001.out)):gb131001≠gb131002));have n6_:=Za ((by rw[hg];exact Nat.ne_of_gt (ZB (g:=gb131001) (o:=.cells #[.int .i64 a0_0,.slice A0_1 l0_1.length c0_1] 25 (0,0)) (by(with_reducible repeat(first|refine Zo ?_ _|refine Zq ?_|refine Zn ?_ _));exact BK131001.out)):gb131002≠gb131001));clear BK131001;clear HB;have BK131001:=n0_;have HB:=n1_;have BK131002:=n2_;have GW131002:=n3_;have GE131002:=n4_;have NB131001_131002:=n5_;have NB131002_131001:=n6_;clear n0_ n1_ n2_ n3_ n4_ n5_ n6_;clear hb hbox hg;have hnb7:=NB131001_131002.out;have hnc7:=NB131002_131001.out;have hcz8_0:w6.cell? ⟨gb131001,0,none⟩=some (.int .i64 a0_0):=(Zu BK131001.out 0).trans rfl;have hcz8_1:w6.cell? ⟨gb131001,1,none⟩=some (.slice A0_1 l0_1.length c0_1):=(Zu BK131001.out 1).trans rfl;have hfz8_0:=Zt BK131001.out 0;have hfz8_1:=Zt BK131001.out 1)|((with_reducible refine ZG (f:=129) rfl ?_);refine ZV (some 6) rfl rfl Try.func129 (by kernel_rfl) rfl #[.agg #[.int .i64 a0_0,.slice A0_1 l0_1.length c0_1]] rfl (by(try simp only[List.map_toArray,List.map_cons,List.map_nil]);first|done|rfl|(simp only[Zk,Zj];rfl)) ?_;(with_reducible refine(ZK.calls k a0_0 _ _ l0_1 true _ ?side1 ?side2 A2.out).mono ?_);(case side1=>repeat(first|exact(Zb HR0_1.out HB.out)|(with_reducible refine Kd.C_alloc ?_ _)|(with_reducible refine Kd.C_drewN ?_ _)|(with_reducible refine Kd.C_drew ?_)));(case side2=>exact HC0_1.out);rintro e w9 ⟨rfl,hb⟩;refine⟨_,rfl,?_⟩;have n0_:=Za (Zx (g:=gb131001) (o:=.cells #[.int .i64 a0_0,.slice A0_1 l0_1.length c0_1] 25 (0,0)) (by(with_reducible repeat(first|refine Zo ?_ _|refine Zq ?_|refine Zn ?_ _));exact BK131001.out) hb);have n1_:=Za (Zx (g:=gb131002) (o:=.cells #[.int .i64 0,.slice none 0 0] 95 (0,0)) (by(with_reducible repeat(first|refine Zo ?_ _|refine Zq ?_|refine Zn ?_ _));exact BK131002.out) hb);have n2_:=Za (Zy (by repeat(first|(with_reducible first|exact HB.out|apply Zr|apply Zm|apply Zs|refine Zp ?_ GE131001.out|refine Zp ?_ GE131002.out)|exact HB.out)) hb);clear BK131001;clear BK131002;clear HB;have BK131001:=n0_;have BK131002:=n1_;have HB:=n2_;clear n0_ n1_ n2_;(try clear hb);(try clear hb2);(try clear hk);(try clear hi);have hcz10_0:w9.cell? ⟨gb131001,0,none⟩=some (.int .i64 a0_0):=(Zu BK131001.out 0).trans rfl;have hcz10_1:w9.cell? ⟨gb131001,1,none⟩=some (.slice A0_1 l0_1.length c0_1):=(Zu BK131001.out 1).trans rfl;have hfz10_0:=Zt BK131001.out 0;have hfz10_1:=Zt BK131001.out 1)|((with_reducible refine ZG (f:=168) rfl ?_);refine ZV (some 11) rfl rfl Try.func168 (by kernel_rfl) rfl #[.agg #[.int .i64 a0_0,.slice A0_1 l0_1.length c0_1]] rfl (by(try simp only[List.map_toArray,List.map_cons,List.map_nil]);first|done|rfl|(simp only[Zk,Zj];rfl)) ?_;(with_reducible refine(ZY.calls k a0_0 _ _ l0_1 t131004 t131007 _ ?side1 ?side2 A4.out).mono ?_);(case side1=>repeat(first|exact(Zb HR0_1.out HB.out)|(with_reducible refine Kd.C_alloc ?_ _)|(with_reducible refine Kd.C_drewN ?_ _)|(with_reducible refine Kd.C_drew ?_)));(case side2=>exact HC0_1.out);rintro e w11 ⟨v131005,v131008,rfl,ho0,ho1,hb⟩;refine⟨_,rfl,?_⟩;have n0_:=Za (Kd.R_lower ho0 (Zv (by repeat(first|(with_reducible first|exact HB.out|apply Zr|apply Zm|apply Zs|refine Zp ?_ GE131001.out|refine Zp ?_ GE131002.out)|exact HB.out))));have n1_:=Za (Kd.R_lower ho1 (Zv (by repeat(first|(with_reducible first|exact HB.out|apply Zr|apply Zm|apply Zs|refine Zp ?_ GE131001.out|refine Zp ?_ GE131002.out)|exact HB.out))));have n2_:=Za (Zx (g:=gb131001) (o:=.cells #[.int .i64 a0_0,.slice A0_1 l0_1.length c0_1] 25 (0,0)) (by(with_reducible repeat(first|refine Zo ?_ _|refine Zq ?_|refine Zn ?_ _));exact BK131001.out) hb);have n3_:=Za (Zx (g:=gb131002) (o:=.cells #[.int .i64 0,.slice none 0 0] 95 (0,0)) (by(with_reducible repeat(first|refine Zo ?_ _|refine Zq ?_|refine Zn ?_ _));exact BK131002.out) hb);have n4_:=Za (Zy (by repeat(first|(with_reducible first|exact HB.out|apply Zr|apply Zm|apply Zs|refine Zp ?_ GE131001.out|refine Zp ?_ GE131002.out)|exact HB.out)) hb);clear BK131001;clear BK131002;clear HB;have HO131006:=n0_;have HO131009:=n1_;have BK131001:=n2_;have BK131002:=n3_;have HB:=n4_;clear n0_ n1_ n2_ n3_ n4_;(try clear hb);(try clear hb2);(try clear hk);(try clear hi);(try clear ho0);(try clear ho1);have hcz12_0:w11.cell? ⟨gb131001,0,none⟩=some (.int .i64 a0_0):=(Zu BK131001.out 0).trans rfl;have hcz12_1:w11.cell? ⟨gb131001,1,none⟩=some (.slice A0_1 l0_1.length c0_1):=(Zu BK131001.out 1).trans rfl;have hfz12_0:=Zt BK131001.out 0;have hfz12_1:=Zt BK131001.out 1;obtain⟨Ao13,co13,eo13⟩:=Kd.R_slice HO131006.out;subst eo13;have hcz14_0:w11.cell? ⟨gb131002,0,none⟩=some (.int .i64 0):=(Zu BK131002.out 0).trans rfl;have hcz14_1:w11.cell? ⟨gb131002,1,none⟩=some (.slice none 0 0):=(Zu BK131002.out 1).trans rfl;have hfz14_0:=Zt BK131002.out 0;have hfz14_1:=Zt BK131002.out 1))
  refine bodyPost_ret (results_cell_row rfl _ _ gb131002 95 #[.int .i64 a0_0,.slice Ao13 t131004.length co13] (0,0) _ rfl (by(with_reducible repeat(first|refine Zo ?_ _|refine Zq ?_|refine Zn ?_ _));refine ZF (cs:=#[.int .i64 a0_0,.slice none 0 0]) ?_ 1 _ rfl;(with_reducible repeat(first|refine Zo ?_ _|refine Zq ?_|refine Zn ?_ _));refine ZF (cs:=#[.int .i64 0,.slice none 0 0]) ?_ 0 _ rfl;(with_reducible repeat(first|refine Zo ?_ _|refine Zq ?_|refine Zn ?_ _));exact BK131002.out) Try.underlying95 rfl (by kernel_rfl)) rfl ?_
  exact⟨_,by first|rfl|(simp[ZA,Zz] <;> rfl)|(simp[*,ZA,Zz] <;> rfl),by(with_reducible repeat(first|apply Kd.R_alloc|apply Kd.R_drewN|apply Kd.R_drew));exact Kd.R_mono (Kd.R_far (p:=⟨gb131002,1,none⟩) (Kd.R_far (p:=⟨gb131002,0,none⟩) (Kd.R_types HO131006.out BK131002.out (by decide)) (fun _ hk=>hk.2) (.int .i64 a0_0)) (fun _ hk=>hk.2) (.slice Ao13 t131004.length co13)) (fun _ hk=>trivial),by repeat(first|(with_reducible first|exact HB.out|apply Zr|apply Zm|apply Zs|refine Zp ?_ GE131001.out|refine Zp ?_ GE131002.out)|exact HB.out)⟩
 ·replace c3:=Bool.eq_false_iff.mpr c3
  subst c3
  have H1:(some (0,([]:List (S148))))=some (r1,r2):=by rw[if_neg (show ¬(false=true) by decide)] at H;exact H
  clear H
  have H:=H1
  clear H1
  simp only[Option.some.injEq,Prod.mk.injEq] at H
  obtain⟨rfl,rfl⟩:=H
  go_enter Try.func131,Try.ntmps131
  go_wp2_with (first|((with_reducible refine ZD (N:=1) rfl ?_);refine ZE ?hg (N:=1) ?hd (cs:=#[.int .i64 a0_0,.slice A0_1 l0_1.length c0_1]) (t:=25) ?hr ?_;(case hd=>rfl);(case hg=>rfl);(case hr=>first|(go_simp;done)|(go_simp;rfl));intro gb131001 hg w15 hbox hb;have n0_:=Za (Zy (by repeat(first|(with_reducible first|exact HB.out|apply Zr|apply Zm|apply Zs)|exact HB.out)) hb);have n1_:=Za (hbox);have n2_:=Za ((by rw[hg];exact(Zv (by repeat(first|(with_reducible first|exact HB.out|apply Zr|apply Zm|apply Zs)|exact HB.out))):w.heap.size≤gb131001));have n3_:=Za ((by rw[hg];exact(Zv (by repeat(first|(with_reducible first|exact HB.out|apply Zr|apply Zm|apply Zs)|exact HB.out))):w.heap.size≤gb131001));clear HB;have HB:=n0_;have BK131001:=n1_;have GW131001:=n2_;have GE131001:=n3_;clear n0_ n1_ n2_ n3_;clear hb hbox hg)|((with_reducible refine ZD (N:=2) rfl ?_);refine ZE ?hg (N:=2) ?hd (cs:=#[.int .i64 0,.slice none 0 0]) (t:=95) ?hr ?_;(case hd=>rfl);(case hg=>rfl);(case hr=>first|(go_simp;done)|(go_simp;rfl));intro gb131002 hg w16 hbox hb;have n0_:=Za (Zx (g:=gb131001) (o:=.cells #[.int .i64 a0_0,.slice A0_1 l0_1.length c0_1] 25 (0,0)) (by(with_reducible repeat(first|refine Zo ?_ _|refine Zq ?_|refine Zn ?_ _));exact BK131001.out) hb);have n1_:=Za (Zy (by repeat(first|(with_reducible first|exact HB.out|apply Zr|apply Zm|apply Zs|refine Zp ?_ GE131001.out)|exact HB.out)) hb);have n2_:=Za (hbox);have n3_:=Za ((by rw[hg];exact(Zv (by repeat(first|(with_reducible first|exact HB.out|apply Zr|apply Zm|apply Zs|refine Zp ?_ GE131001.out)|exact HB.out))):w.heap.size≤gb131002));have n4_:=Za ((by rw[hg];exact(Zv (by repeat(first|(with_reducible first|exact HB.out|apply Zr|apply Zm|apply Zs|refine Zp ?_ GE131001.out)|exact HB.out))):w.heap.size≤gb131002));have n5_:=Za ((by rw[hg];exact Nat.ne_of_lt (ZB (g:=gb131001) (o:=.cells #[.int .i64 a0_0,.slice A0_1 l0_1.length c0_1] 25 (0,0)) (by(with_reducible repeat(first|refine Zo ?_ _|refine Zq ?_|refine Zn ?_ _));exact BK131001.out)):gb131001≠gb131002));have n6_:=Za ((by rw[hg];exact Nat.ne_of_gt (ZB (g:=gb131001) (o:=.cells #[.int .i64 a0_0,.slice A0_1 l0_1.length c0_1] 25 (0,0)) (by(with_reducible repeat(first|refine Zo ?_ _|refine Zq ?_|refine Zn ?_ _));exact BK131001.out)):gb131002≠gb131001));clear BK131001;clear HB;have BK131001:=n0_;have HB:=n1_;have BK131002:=n2_;have GW131002:=n3_;have GE131002:=n4_;have NB131001_131002:=n5_;have NB131002_131001:=n6_;clear n0_ n1_ n2_ n3_ n4_ n5_ n6_;clear hb hbox hg;have hnb17:=NB131001_131002.out;have hnc17:=NB131002_131001.out;have hcz18_0:w16.cell? ⟨gb131001,0,none⟩=some (.int .i64 a0_0):=(Zu BK131001.out 0).trans rfl;have hcz18_1:w16.cell? ⟨gb131001,1,none⟩=some (.slice A0_1 l0_1.length c0_1):=(Zu BK131001.out 1).trans rfl;have hfz18_0:=Zt BK131001.out 0;have hfz18_1:=Zt BK131001.out 1)|((with_reducible refine ZG (f:=129) rfl ?_);refine ZV (some 6) rfl rfl Try.func129 (by kernel_rfl) rfl #[.agg #[.int .i64 a0_0,.slice A0_1 l0_1.length c0_1]] rfl (by(try simp only[List.map_toArray,List.map_cons,List.map_nil]);first|done|rfl|(simp only[Zk,Zj];rfl)) ?_;(with_reducible refine(ZK.calls k a0_0 _ _ l0_1 false _ ?side1 ?side2 A2.out).mono ?_);(case side1=>repeat(first|exact(Zb HR0_1.out HB.out)|(with_reducible refine Kd.C_alloc ?_ _)|(with_reducible refine Kd.C_drewN ?_ _)|(with_reducible refine Kd.C_drew ?_)));(case side2=>exact HC0_1.out);rintro e w19 ⟨rfl,hb⟩;refine⟨_,rfl,?_⟩;have n0_:=Za (Zx (g:=gb131001) (o:=.cells #[.int .i64 a0_0,.slice A0_1 l0_1.length c0_1] 25 (0,0)) (by(with_reducible repeat(first|refine Zo ?_ _|refine Zq ?_|refine Zn ?_ _));exact BK131001.out) hb);have n1_:=Za (Zx (g:=gb131002) (o:=.cells #[.int .i64 0,.slice none 0 0] 95 (0,0)) (by(with_reducible repeat(first|refine Zo ?_ _|refine Zq ?_|refine Zn ?_ _));exact BK131002.out) hb);have n2_:=Za (Zy (by repeat(first|(with_reducible first|exact HB.out|apply Zr|apply Zm|apply Zs|refine Zp ?_ GE131001.out|refine Zp ?_ GE131002.out)|exact HB.out)) hb);clear BK131001;clear BK131002;clear HB;have BK131001:=n0_;have BK131002:=n1_;have HB:=n2_;clear n0_ n1_ n2_;(try clear hb);(try clear hb2);(try clear hk);(try clear hi);have hcz20_0:w19.cell? ⟨gb131002,0,none⟩=some (.int .i64 0):=(Zu BK131002.out 0).trans rfl;have hcz20_1:w19.cell? ⟨gb131002,1,none⟩=some (.slice none 0 0):=(Zu BK131002.out 1).trans rfl;have hfz20_0:=Zt BK131002.out 0;have hfz20_1:=Zt BK131002.out 1))
  refine bodyPost_ret (results_cell_row rfl _ _ gb131002 95 #[.int .i64 0,.slice none 0 0] (0,0) _ rfl (by(with_reducible repeat(first|refine Zo ?_ _|refine Zq ?_|refine Zn ?_ _));refine ZF (cs:=#[.int .i64 0,.slice none 0 0]) ?_ 1 _ rfl;(with_reducible repeat(first|refine Zo ?_ _|refine Zq ?_|refine Zn ?_ _));refine ZF (cs:=#[.int .i64 0,.slice none 0 0]) ?_ 0 _ rfl;(with_reducible repeat(first|refine Zo ?_ _|refine Zq ?_|refine Zn ?_ _));exact BK131002.out) Try.underlying95 rfl (by kernel_rfl)) rfl ?_
  exact⟨_,by first|rfl|(simp[ZA,Zz] <;> rfl)|(simp[*,ZA,Zz] <;> rfl),by first|exact Kd.R_nil _ _ _ _ _|exact Kd.N_nil _ _ _ _ _|exact Kd.V_nil _ _ _ _ _|exact Kd.Q_nil _ _ _ _ _|exact Kd.S_nil _ _ _ _ _,by repeat(first|(with_reducible first|exact HB.out|apply Zr|apply Zm|apply Zs|refine Zp ?_ GE131001.out|refine Zp ?_ GE131002.out)|exact HB.out)⟩
mutual
def ZU.j0:Nat→Bool→Int→List (S148)→Option (Bool)
 | 0,_,_,_=>none
 | k+1,x14,x166002000,x166002001=>if x14=true then(some false) else(ZU.l0 k x166002001 (x166002001.length:Int) 0 x166002000 x166002001)
def ZU.l0:Nat→List (S148)→Int→Int→Int→List (S148)→Option (Bool)
 | 0,_,_,_,_,_=>none
 | k+1,x16,x17,x18,x166002000,x166002001=>if x18<x17 then(if 0≤x18 then(if x18<(x16.length:Int) then((ZJ.f ((Z7 x16 x18).f0) 0 (wrap64 (x166002000 - 1))).bind fun t166005=>(if t166005=true then((ZJ.f ((Z7 x16 x18).f1) 0 (wrap64 (x166002000 - 1))).bind fun t166006=>(if t166006=true then((ZJ.f ((Z7 x16 x18).f2) (-999999) 999999).bind fun t166007=>(if t166007=true then(ZU.l0 k x16 x17 (wrap64 (x18+1)) x166002000 x166002001) else(some false))) else(some false))) else(some false))) else(none)) else(none)) else(some true)
end
def ZU.f (k:Nat) (a0_0:Int) (l0_1:List (S148)):Option (Bool):=(ZJ.f a0_0 0 8).bind fun t166002=>(if t166002=true then(ZU.j0 k (decide ((l0_1.length:Int) > 80)) a0_0 l0_1) else(ZU.j0 k true a0_0 l0_1))
set_option maxHeartbeats 8000000 in
set_option maxRecDepth 100000 in
theorem ZU.calls (k:Nat) (a0_0:Int) (A0_1:Option Addr) (c0_1:Nat) (l0_1:List (S148)) (r:Bool) (w:World) (hr0_1:Kd.C k148 w A0_1 l0_1.length l0_1) (hc0_1:l0_1.length≤c0_1) (h:ZU.f k a0_0 l0_1=some r) :
  Calls Try.prog 166 #[.agg #[.int .i64 a0_0,.slice A0_1 l0_1.length c0_1]] w fun e w'=>e=.returned (.bool r)∧Below w.heap.size w w':=by
 have hu95:=Try.underlying95
 have hu148:=Try.underlying148
 have HR0_1:=Za hr0_1;have HC0_1:=Za hc0_1;clear hr0_1 hc0_1
 have HB:=Za (Below.refl w.heap.size w)
 have H:((ZJ.f a0_0 0 8).bind fun t166002=>(if t166002=true then(ZU.j0 k (decide ((l0_1.length:Int) > 80)) a0_0 l0_1) else(ZU.j0 k true a0_0 l0_1)))=some r:=h
 clear h;have HC2:=Za H;clear H
 go_enter Try.func166,Try.ntmps166
 go_upto_region 1 with (first|((with_reducible refine ZD (N:=1) rfl ?_);(try(refine ZaG (by rfl) ?_;dsimp only));refine ZE ?hg (N:=1) ?hd (cs:=#[.int .i64 a0_0,.slice A0_1 l0_1.length c0_1]) (t:=95) ?hr ?_;(case hd=>rfl);(case hg=>rfl);(case hr=>first|(go_simp;done)|(go_simp;rfl));intro gb166001 hg w3 hbox hb;have n0_:=Za (Zy (by repeat(first|(with_reducible first|exact HB.out|apply Zr|apply Zm|apply Zs)|exact HB.out)) hb);have n1_:=Za (hbox);have n2_:=Za ((by rw[hg];exact(Zv (by repeat(first|(with_reducible first|exact HB.out|apply Zr|apply Zm|apply Zs)|exact HB.out))):w.heap.size≤gb166001));have n3_:=Za ((by rw[hg];exact(Zv (by repeat(first|(with_reducible first|exact HB.out|apply Zr|apply Zm|apply Zs)|exact HB.out))):w.heap.size≤gb166001));clear HB;have HB:=n0_;have BK166001:=n1_;have GW166001:=n2_;have GE166001:=n3_;clear n0_ n1_ n2_ n3_;clear hb hbox hg))
 (try simp only[Act.put,List.setIfInBounds_toArray,List.set_cons_zero,List.set_cons_succ])
 go_cut [14] (fun v14 wc=>∃(kq:Nat) (x14_1:Bool),v14=.bool x14_1∧Aside0 (ZU.j0 kq x14_1 a0_0 l0_1=some r)∧Aside0 (kq≤k)∧Aside0 (wc.heap[gb166001]? = some (.cells #[.int .i64 a0_0,(.slice A0_1 l0_1.length c0_1)] 95 (0,0)))∧Aside0 (Below w.heap.size w wc))
 case first=>
  have H:=HC2.out
  clear HC2
  replace H:=Zh H
  obtain⟨t166002,A40,H⟩:=H
  replace H:(if t166002=true then(ZU.j0 k (decide ((l0_1.length:Int) > 80)) a0_0 l0_1) else(ZU.j0 k true a0_0 l0_1))=some r:=H
  have A4:=Za A40;clear A40
  by_cases c5:t166002=true
  ·subst c5
   have H1:(ZU.j0 k (decide ((l0_1.length:Int) > 80)) a0_0 l0_1)=some r:=by rw[if_pos rfl] at H;exact H
   clear H
   have H:=H1
   clear H1
   have H':=Za H
   clear H
   have hcz6_0:w3.cell? ⟨gb166001,0,none⟩=some (.int .i64 a0_0):=(Zu BK166001.out 0).trans rfl
   have hcz6_1:w3.cell? ⟨gb166001,1,none⟩=some (.slice A0_1 l0_1.length c0_1):=(Zu BK166001.out 1).trans rfl
   have hfz6_0:=Zt BK166001.out 0
   have hfz6_1:=Zt BK166001.out 1
   go_wp2_with (first|((with_reducible refine ZG (f:=87) rfl ?_);refine ZV (some 7) rfl rfl Try.func87 (by kernel_rfl) rfl #[.int .i64 a0_0,.int .i64 0,.int .i64 8] rfl (by(try simp only[List.map_toArray,List.map_cons,List.map_nil]);first|done|rfl|(simp only[Zk,Zj];rfl)) ?_;(with_reducible refine(ZJ.calls a0_0 0 8 true _ A4.out).mono ?_);rintro e w' ⟨rfl,⟨nd,rfl⟩⟩;refine⟨_,rfl,?_⟩))
   go_meet
   case rel=>exact⟨_,(decide ((l0_1.length:Int) > 80)),(by first|rfl|(simp;done)|(simp[*];done)),H',⟨by first|omega|exact Nat.le_refl _⟩,⟨by(with_reducible repeat(first|refine Zo ?_ _|refine Zq ?_|refine Zn ?_ _));exact BK166001.out⟩,⟨by repeat(first|(with_reducible first|exact HB.out|apply Zr|apply Zm|apply Zs|refine Zp ?_ GE166001.out)|exact HB.out)⟩⟩
  ·replace c5:=Bool.eq_false_iff.mpr c5
   subst c5
   have H1:(ZU.j0 k true a0_0 l0_1)=some r:=by rw[if_neg (show ¬(false=true) by decide)] at H;exact H
   clear H
   have H:=H1
   clear H1
   have H':=Za H
   clear H
   have hcz7_0:w3.cell? ⟨gb166001,0,none⟩=some (.int .i64 a0_0):=(Zu BK166001.out 0).trans rfl
   have hcz7_1:w3.cell? ⟨gb166001,1,none⟩=some (.slice A0_1 l0_1.length c0_1):=(Zu BK166001.out 1).trans rfl
   have hfz7_0:=Zt BK166001.out 0
   have hfz7_1:=Zt BK166001.out 1
   go_wp2_with (first|((with_reducible refine ZG (f:=87) rfl ?_);refine ZV (some 7) rfl rfl Try.func87 (by kernel_rfl) rfl #[.int .i64 a0_0,.int .i64 0,.int .i64 8] rfl (by(try simp only[List.map_toArray,List.map_cons,List.map_nil]);first|done|rfl|(simp only[Zk,Zj];rfl)) ?_;(with_reducible refine(ZJ.calls a0_0 0 8 false _ A4.out).mono ?_);rintro e w' ⟨rfl,⟨nd,rfl⟩⟩;refine⟨_,rfl,?_⟩))
   go_meet
   case rel=>exact⟨_,(true),(by first|rfl|(simp;done)|(simp[*];done)),H',⟨by first|omega|exact Nat.le_refl _⟩,⟨by(with_reducible repeat(first|refine Zo ?_ _|refine Zq ?_|refine Zn ?_ _));exact BK166001.out⟩,⟨by repeat(first|(with_reducible first|exact HB.out|apply Zr|apply Zm|apply Zs|refine Zp ?_ GE166001.out)|exact HB.out)⟩⟩
 case rest=>
  clear HC2
  try clear c1
  try clear p2
  try clear c5
  try clear hcz6_0
  try clear hcz6_1
  try clear hcz7_0
  try clear hcz7_1
  try clear hfz6_0
  try clear hfz6_1
  try clear hfz7_0
  try clear hfz7_1
  obtain⟨kq,x14_1,rfl,HA,HJ1,BK166001,HB⟩:=hcut
  cases kq with
  | zero=>exact absurd HA.out (by simp[ZU.j0])
  | succ kj1=>
   have H:=HA.out
   clear HA
   simp only[ZU.j0] at H
   by_cases c8:x14_1=true
   ·subst c8
    have H1:(some false)=some r:=by rw[if_pos rfl] at H;exact H
    clear H
    have H:=H1
    clear H1
    obtain rfl:=Zg H
    go_wp2
    go_ret
    exact⟨by first|rfl|(simp[ZA,Zz] <;> rfl)|(simp[*,ZA,Zz] <;> rfl),by repeat(first|(with_reducible first|exact HB.out|apply Zr|apply Zm|apply Zs|refine Zp ?_ GE166001.out)|exact HB.out)⟩
   ·replace c8:=Bool.eq_false_iff.mpr c8
    subst c8
    have H1:(ZU.l0 kj1 l0_1 (l0_1.length:Int) 0 a0_0 l0_1)=some r:=by rw[if_neg (show ¬(false=true) by decide)] at H;exact H
    clear H
    have H:=H1
    clear H1
    have H':=Za H
    clear H
    have hcz9_0:wc.cell? ⟨gb166001,0,none⟩=some (.int .i64 a0_0):=(Zu BK166001.out 0).trans rfl
    have hcz9_1:wc.cell? ⟨gb166001,1,none⟩=some (.slice A0_1 l0_1.length c0_1):=(Zu BK166001.out 1).trans rfl
    have hfz9_0:=Zt BK166001.out 0
    have hfz9_1:=Zt BK166001.out 1
    go_wp2
    go_loopg [18] kj1 (fun kq v18 w'=>∃(x18_2:Int),v18=.int .i64 x18_2∧Aside0 (ZU.l0 kq l0_1 (l0_1.length:Int) x18_2 a0_0 l0_1=some r)∧Aside0 (kq≤kj1)∧Aside0 (w'.heap[gb166001]? = some (.cells #[.int .i64 a0_0,(.slice A0_1 l0_1.length c0_1)] 95 (0,0)))∧Aside0 (Below w.heap.size w w'))
    case atStart=>exact⟨(0),(by first|rfl|(simp;done)|(simp[*];done)),H',⟨Nat.le_refl _⟩,⟨by(with_reducible repeat(first|refine Zo ?_ _|refine Zq ?_|refine Zn ?_ _));exact BK166001.out⟩,⟨by repeat(first|(with_reducible first|exact HB.out|apply Zr|apply Zm|apply Zs|refine Zp ?_ GE166001.out)|exact HB.out)⟩⟩
    case round=>
     clear H'
     try clear c1
     try clear p2
     try clear c5
     try clear c8
     try clear hcz6_0
     try clear hcz6_1
     try clear hcz7_0
     try clear hcz7_1
     try clear hcz9_0
     try clear hcz9_1
     try clear hfz6_0
     try clear hfz6_1
     try clear hfz7_0
     try clear hfz7_1
     try clear hfz9_0
     try clear hfz9_1
     try clear p2
     obtain⟨x18_2,rfl,HA,HK2,BK166001,HB⟩:=hrel
     cases gk with
     | zero=>exact absurd HA.out (by simp[ZU.l0])
     | succ k2=>
      have H:=HA.out
      clear HA
      simp only[ZU.l0] at H
      by_cases c10:x18_2<(l0_1.length:Int)
      ·rw[if_pos c10] at H
       have c10b0:decide (x18_2<(l0_1.length:Int))=true:=Ze c10
       clear c10
       by_cases c11:0≤x18_2
       ·rw[if_pos c11] at H
        have c11b0:decide (0≤x18_2)=true:=Ze c11
        clear c11
        by_cases c12:x18_2<(l0_1.length:Int)
        ·rw[if_pos c12] at H
         have c12b0:decide (x18_2<(l0_1.length:Int))=true:=Ze c12
         clear c12
         replace H:=Zh H
         obtain⟨t166005,A130,H⟩:=H
         replace H:(if t166005=true then((ZJ.f ((Z7 l0_1 x18_2).f1) 0 (wrap64 (a0_0 - 1))).bind fun t166006=>(if t166006=true then((ZJ.f ((Z7 l0_1 x18_2).f2) (-999999) 999999).bind fun t166007=>(if t166007=true then(ZU.l0 k2 l0_1 (l0_1.length:Int) (wrap64 (x18_2+1)) a0_0 l0_1) else(some false))) else(some false))) else(some false))=some r:=H
         have A13:=Za A130;clear A130
         by_cases c14:t166005=true
         ·subst c14
          have H1:((ZJ.f ((Z7 l0_1 x18_2).f1) 0 (wrap64 (a0_0 - 1))).bind fun t166006=>(if t166006=true then((ZJ.f ((Z7 l0_1 x18_2).f2) (-999999) 999999).bind fun t166007=>(if t166007=true then(ZU.l0 k2 l0_1 (l0_1.length:Int) (wrap64 (x18_2+1)) a0_0 l0_1) else(some false))) else(some false)))=some r:=by rw[if_pos rfl] at H;exact H
          clear H
          have H:=H1
          clear H1
          replace H:=Zh H
          obtain⟨t166006,A150,H⟩:=H
          replace H:(if t166006=true then((ZJ.f ((Z7 l0_1 x18_2).f2) (-999999) 999999).bind fun t166007=>(if t166007=true then(ZU.l0 k2 l0_1 (l0_1.length:Int) (wrap64 (x18_2+1)) a0_0 l0_1) else(some false))) else(some false))=some r:=H
          have A15:=Za A150;clear A150
          by_cases c16:t166006=true
          ·subst c16
           have H1:((ZJ.f ((Z7 l0_1 x18_2).f2) (-999999) 999999).bind fun t166007=>(if t166007=true then(ZU.l0 k2 l0_1 (l0_1.length:Int) (wrap64 (x18_2+1)) a0_0 l0_1) else(some false)))=some r:=by rw[if_pos rfl] at H;exact H
           clear H
           have H:=H1
           clear H1
           replace H:=Zh H
           obtain⟨t166007,A170,H⟩:=H
           replace H:(if t166007=true then(ZU.l0 k2 l0_1 (l0_1.length:Int) (wrap64 (x18_2+1)) a0_0 l0_1) else(some false))=some r:=H
           have A17:=Za A170;clear A170
           by_cases c18:t166007=true
           ·subst c18
            have H1:(ZU.l0 k2 l0_1 (l0_1.length:Int) (wrap64 (x18_2+1)) a0_0 l0_1)=some r:=by rw[if_pos rfl] at H;exact H
            clear H
            have H:=H1
            clear H1
            have H':=Za H
            clear H
            have p166003:0≤(x18_2:Int):=Zd (by first|(with_reducible assumption)|assumption)
            have q166003:x18_2<(l0_1.length:Int):=Zd (by first|(with_reducible assumption)|assumption)
            obtain⟨ad166003,e166003,hx166003_0,hx166003_1,hx166003_2⟩:=Zbh HR0_1.out x18_2 p166003 q166003
            cases e166003
            replace hx166003_0:=(HB.out.cell (Zc w _ hx166003_0)).trans hx166003_0
            replace hx166003_1:=(HB.out.cell (Zc w _ hx166003_1)).trans hx166003_1
            replace hx166003_2:=(HB.out.cell (Zc w _ hx166003_2)).trans hx166003_2
            replace p166003:=eq_true p166003
            replace q166003:=eq_true q166003
            go_wp2_with (first|((with_reducible refine ZD (N:=4) rfl ?_);(try(refine ZaG (by rfl) ?_;dsimp only));refine ZE ?hg (N:=4) ?hd (cs:=#[.int .i64 0,.int .i64 0,.int .i64 0]) (t:=148) ?hr ?_;(case hd=>rfl);(case hg=>rfl);(case hr=>first|(go_simp;done)|(go_simp;rfl));intro gb166004 hg w19 hbox hb;have n0_:=Za (Zx (g:=gb166001) (o:=.cells #[.int .i64 a0_0,.slice (some ad166003) l0_1.length c0_1] 95 (0,0)) (by(with_reducible repeat(first|refine Zo ?_ _|refine Zq ?_|refine Zn ?_ _));exact BK166001.out) hb);have n1_:=Za (Zy (by repeat(first|(with_reducible first|exact HB.out|apply Zr|apply Zm|apply Zs|refine Zp ?_ GE166001.out)|exact HB.out)) hb);have n2_:=Za (hbox);have n3_:=Za ((by rw[hg];exact(Zv (by repeat(first|(with_reducible first|exact HB.out|apply Zr|apply Zm|apply Zs|refine Zp ?_ GE166001.out)|exact HB.out))):w.heap.size≤gb166004));have n4_:=Za ((by rw[hg];exact(Zv (by repeat(first|(with_reducible first|exact HB.out|apply Zr|apply Zm|apply Zs|refine Zp ?_ GE166001.out)|exact HB.out))):w.heap.size≤gb166004));have n5_:=Za ((by rw[hg];exact Nat.ne_of_lt (ZB (g:=gb166001) (o:=.cells #[.int .i64 a0_0,.slice (some ad166003) l0_1.length c0_1] 95 (0,0)) (by(with_reducible repeat(first|refine Zo ?_ _|refine Zq ?_|refine Zn ?_ _));exact BK166001.out)):gb166001≠gb166004));have n6_:=Za ((by rw[hg];exact Nat.ne_of_gt (ZB (g:=gb166001) (o:=.cells #[.int .i64 a0_0,.slice (some ad166003) l0_1.length c0_1] 95 (0,0)) (by(with_reducible repeat(first|refine Zo ?_ _|refine Zq ?_|refine Zn ?_ _));exact BK166001.out)):gb166004≠gb166001));clear BK166001;clear HB;have BK166001:=n0_;have HB:=n1_;have BK166004:=n2_;have GW166004:=n3_;have GE166004:=n4_;have NB166001_166004:=n5_;have NB166004_166001:=n6_;clear n0_ n1_ n2_ n3_ n4_ n5_ n6_;clear hb hbox hg;have hnb20:=NB166004_166001.out;have hnc20:=NB166001_166004.out;have hcz21_0:w19.cell? ⟨gb166004,0,none⟩=some (.int .i64 0):=(Zu BK166004.out 0).trans rfl;have hcz21_1:w19.cell? ⟨gb166004,1,none⟩=some (.int .i64 0):=(Zu BK166004.out 1).trans rfl;have hcz21_2:w19.cell? ⟨gb166004,2,none⟩=some (.int .i64 0):=(Zu BK166004.out 2).trans rfl;have hfz21_0:=Zt BK166004.out 0;have hfz21_1:=Zt BK166004.out 1;have hfz21_2:=Zt BK166004.out 2;have hcz22_0:w19.cell? ⟨gb166001,0,none⟩=some (.int .i64 a0_0):=(Zu BK166001.out 0).trans rfl;have hcz22_1:w19.cell? ⟨gb166001,1,none⟩=some (.slice (some ad166003) l0_1.length c0_1):=(Zu BK166001.out 1).trans rfl;have hfz22_0:=Zt BK166001.out 0;have hfz22_1:=Zt BK166001.out 1)|((with_reducible refine ZG (f:=87) rfl ?_);refine ZV (some 27) rfl rfl Try.func87 (by kernel_rfl) rfl #[.int .i64 ((Z7 l0_1 x18_2).f0),.int .i64 0,.int .i64 (wrap64 (a0_0 - 1))] rfl (by(try simp only[List.map_toArray,List.map_cons,List.map_nil]);first|done|rfl|(simp only[Zk,Zj];rfl)) ?_;(with_reducible refine(ZJ.calls ((Z7 l0_1 x18_2).f0) 0 (wrap64 (a0_0 - 1)) true _ A13.out).mono ?_);rintro e w' ⟨rfl,⟨nd,rfl⟩⟩;refine⟨_,rfl,?_⟩)|(go_at_call 87;(with_reducible refine(ZJ.calls ((Z7 l0_1 x18_2).f1) 0 (wrap64 (a0_0 - 1)) true _ A15.out).mono ?_);rintro e w' ⟨rfl,⟨nd,rfl⟩⟩)|(go_at_call 87;(with_reducible refine(ZJ.calls ((Z7 l0_1 x18_2).f2) (-999999) 999999 true _ A17.out).mono ?_);rintro e w' ⟨rfl,⟨nd,rfl⟩⟩))
            go_roundg k2
            case measure=>have:=HJ1.out;have:=HK2.out;omega
            case rel=>exact⟨(wrap64 (x18_2+1)),(by first|rfl|(simp;done)|(simp[*];done)),H',⟨by have:=HJ1.out;have:=HK2.out;omega⟩,⟨by(with_reducible repeat(first|refine Zo ?_ _|refine Zq ?_|refine Zn ?_ _));refine ZC ?_ NB166001_166004.out _;(with_reducible repeat(first|refine Zo ?_ _|refine Zq ?_|refine Zn ?_ _));refine ZC ?_ NB166001_166004.out _;(with_reducible repeat(first|refine Zo ?_ _|refine Zq ?_|refine Zn ?_ _));refine ZC ?_ NB166001_166004.out _;(with_reducible repeat(first|refine Zo ?_ _|refine Zq ?_|refine Zn ?_ _));exact BK166001.out⟩,⟨by repeat(first|(with_reducible first|exact HB.out|apply Zr|apply Zm|apply Zs|refine Zp ?_ GE166001.out|refine Zp ?_ GE166004.out)|exact HB.out)⟩⟩
           ·replace c18:=Bool.eq_false_iff.mpr c18
            subst c18
            have H1:(some false)=some r:=by rw[if_neg (show ¬(false=true) by decide)] at H;exact H
            clear H
            have H:=H1
            clear H1
            obtain rfl:=Zg H
            have p166003:0≤(x18_2:Int):=Zd (by first|(with_reducible assumption)|assumption)
            have q166003:x18_2<(l0_1.length:Int):=Zd (by first|(with_reducible assumption)|assumption)
            obtain⟨ad166003,e166003,hx166003_0,hx166003_1,hx166003_2⟩:=Zbh HR0_1.out x18_2 p166003 q166003
            cases e166003
            replace hx166003_0:=(HB.out.cell (Zc w _ hx166003_0)).trans hx166003_0
            replace hx166003_1:=(HB.out.cell (Zc w _ hx166003_1)).trans hx166003_1
            replace hx166003_2:=(HB.out.cell (Zc w _ hx166003_2)).trans hx166003_2
            replace p166003:=eq_true p166003
            replace q166003:=eq_true q166003
            go_wp2_with (first|((with_reducible refine ZD (N:=4) rfl ?_);(try(refine ZaG (by rfl) ?_;dsimp only));refine ZE ?hg (N:=4) ?hd (cs:=#[.int .i64 0,.int .i64 0,.int .i64 0]) (t:=148) ?hr ?_;(case hd=>rfl);(case hg=>rfl);(case hr=>first|(go_simp;done)|(go_simp;rfl));intro gb166004 hg w23 hbox hb;have n0_:=Za (Zx (g:=gb166001) (o:=.cells #[.int .i64 a0_0,.slice (some ad166003) l0_1.length c0_1] 95 (0,0)) (by(with_reducible repeat(first|refine Zo ?_ _|refine Zq ?_|refine Zn ?_ _));exact BK166001.out) hb);have n1_:=Za (Zy (by repeat(first|(with_reducible first|exact HB.out|apply Zr|apply Zm|apply Zs|refine Zp ?_ GE166001.out)|exact HB.out)) hb);have n2_:=Za (hbox);have n3_:=Za ((by rw[hg];exact(Zv (by repeat(first|(with_reducible first|exact HB.out|apply Zr|apply Zm|apply Zs|refine Zp ?_ GE166001.out)|exact HB.out))):w.heap.size≤gb166004));have n4_:=Za ((by rw[hg];exact(Zv (by repeat(first|(with_reducible first|exact HB.out|apply Zr|apply Zm|apply Zs|refine Zp ?_ GE166001.out)|exact HB.out))):w.heap.size≤gb166004));have n5_:=Za ((by rw[hg];exact Nat.ne_of_lt (ZB (g:=gb166001) (o:=.cells #[.int .i64 a0_0,.slice (some ad166003) l0_1.length c0_1] 95 (0,0)) (by(with_reducible repeat(first|refine Zo ?_ _|refine Zq ?_|refine Zn ?_ _));exact BK166001.out)):gb166001≠gb166004));have n6_:=Za ((by rw[hg];exact Nat.ne_of_gt (ZB (g:=gb166001) (o:=.cells #[.int .i64 a0_0,.slice (some ad166003) l0_1.length c0_1] 95 (0,0)) (by(with_reducible repeat(first|refine Zo ?_ _|refine Zq ?_|refine Zn ?_ _));exact BK166001.out)):gb166004≠gb166001));clear BK166001;clear HB;have BK166001:=n0_;have HB:=n1_;have BK166004:=n2_;have GW166004:=n3_;have GE166004:=n4_;have NB166001_166004:=n5_;have NB166004_166001:=n6_;clear n0_ n1_ n2_ n3_ n4_ n5_ n6_;clear hb hbox hg;have hnb24:=NB166004_166001.out;have hnc24:=NB166001_166004.out;have hcz25_0:w23.cell? ⟨gb166004,0,none⟩=some (.int .i64 0):=(Zu BK166004.out 0).trans rfl;have hcz25_1:w23.cell? ⟨gb166004,1,none⟩=some (.int .i64 0):=(Zu BK166004.out 1).trans rfl;have hcz25_2:w23.cell? ⟨gb166004,2,none⟩=some (.int .i64 0):=(Zu BK166004.out 2).trans rfl;have hfz25_0:=Zt BK166004.out 0;have hfz25_1:=Zt BK166004.out 1;have hfz25_2:=Zt BK166004.out 2;have hcz26_0:w23.cell? ⟨gb166001,0,none⟩=some (.int .i64 a0_0):=(Zu BK166001.out 0).trans rfl;have hcz26_1:w23.cell? ⟨gb166001,1,none⟩=some (.slice (some ad166003) l0_1.length c0_1):=(Zu BK166001.out 1).trans rfl;have hfz26_0:=Zt BK166001.out 0;have hfz26_1:=Zt BK166001.out 1)|((with_reducible refine ZG (f:=87) rfl ?_);refine ZV (some 27) rfl rfl Try.func87 (by kernel_rfl) rfl #[.int .i64 ((Z7 l0_1 x18_2).f0),.int .i64 0,.int .i64 (wrap64 (a0_0 - 1))] rfl (by(try simp only[List.map_toArray,List.map_cons,List.map_nil]);first|done|rfl|(simp only[Zk,Zj];rfl)) ?_;(with_reducible refine(ZJ.calls ((Z7 l0_1 x18_2).f0) 0 (wrap64 (a0_0 - 1)) true _ A13.out).mono ?_);rintro e w' ⟨rfl,⟨nd,rfl⟩⟩;refine⟨_,rfl,?_⟩)|(go_at_call 87;(with_reducible refine(ZJ.calls ((Z7 l0_1 x18_2).f1) 0 (wrap64 (a0_0 - 1)) true _ A15.out).mono ?_);rintro e w' ⟨rfl,⟨nd,rfl⟩⟩)|(go_at_call 87;(with_reducible refine(ZJ.calls ((Z7 l0_1 x18_2).f2) (-999999) 999999 false _ A17.out).mono ?_);rintro e w' ⟨rfl,⟨nd,rfl⟩⟩))
            go_ret
            exact⟨by first|rfl|(simp[ZA,Zz] <;> rfl)|(simp[*,ZA,Zz] <;> rfl),by repeat(first|(with_reducible first|exact HB.out|apply Zr|apply Zm|apply Zs|refine Zp ?_ GE166001.out|refine Zp ?_ GE166004.out)|exact HB.out)⟩
          ·replace c16:=Bool.eq_false_iff.mpr c16
           subst c16
           have H1:(some false)=some r:=by rw[if_neg (show ¬(false=true) by decide)] at H;exact H
           clear H
           have H:=H1
           clear H1
           obtain rfl:=Zg H
           have p166003:0≤(x18_2:Int):=Zd (by first|(with_reducible assumption)|assumption)
           have q166003:x18_2<(l0_1.length:Int):=Zd (by first|(with_reducible assumption)|assumption)
           obtain⟨ad166003,e166003,hx166003_0,hx166003_1,hx166003_2⟩:=Zbh HR0_1.out x18_2 p166003 q166003
           cases e166003
           replace hx166003_0:=(HB.out.cell (Zc w _ hx166003_0)).trans hx166003_0
           replace hx166003_1:=(HB.out.cell (Zc w _ hx166003_1)).trans hx166003_1
           replace hx166003_2:=(HB.out.cell (Zc w _ hx166003_2)).trans hx166003_2
           replace p166003:=eq_true p166003
           replace q166003:=eq_true q166003
           go_wp2_with (first|((with_reducible refine ZD (N:=4) rfl ?_);(try(refine ZaG (by rfl) ?_;dsimp only));refine ZE ?hg (N:=4) ?hd (cs:=#[.int .i64 0,.int .i64 0,.int .i64 0]) (t:=148) ?hr ?_;(case hd=>rfl);(case hg=>rfl);(case hr=>first|(go_simp;done)|(go_simp;rfl));intro gb166004 hg w27 hbox hb;have n0_:=Za (Zx (g:=gb166001) (o:=.cells #[.int .i64 a0_0,.slice (some ad166003) l0_1.length c0_1] 95 (0,0)) (by(with_reducible repeat(first|refine Zo ?_ _|refine Zq ?_|refine Zn ?_ _));exact BK166001.out) hb);have n1_:=Za (Zy (by repeat(first|(with_reducible first|exact HB.out|apply Zr|apply Zm|apply Zs|refine Zp ?_ GE166001.out)|exact HB.out)) hb);have n2_:=Za (hbox);have n3_:=Za ((by rw[hg];exact(Zv (by repeat(first|(with_reducible first|exact HB.out|apply Zr|apply Zm|apply Zs|refine Zp ?_ GE166001.out)|exact HB.out))):w.heap.size≤gb166004));have n4_:=Za ((by rw[hg];exact(Zv (by repeat(first|(with_reducible first|exact HB.out|apply Zr|apply Zm|apply Zs|refine Zp ?_ GE166001.out)|exact HB.out))):w.heap.size≤gb166004));have n5_:=Za ((by rw[hg];exact Nat.ne_of_lt (ZB (g:=gb166001) (o:=.cells #[.int .i64 a0_0,.slice (some ad166003) l0_1.length c0_1] 95 (0,0)) (by(with_reducible repeat(first|refine Zo ?_ _|refine Zq ?_|refine Zn ?_ _));exact BK166001.out)):gb166001≠gb166004));have n6_:=Za ((by rw[hg];exact Nat.ne_of_gt (ZB (g:=gb166001) (o:=.cells #[.int .i64 a0_0,.slice (some ad166003) l0_1.length c0_1] 95 (0,0)) (by(with_reducible repeat(first|refine Zo ?_ _|refine Zq ?_|refine Zn ?_ _));exact BK166001.out)):gb166004≠gb166001));clear BK166001;clear HB;have BK166001:=n0_;have HB:=n1_;have BK166004:=n2_;have GW166004:=n3_;have GE166004:=n4_;have NB166001_166004:=n5_;have NB166004_166001:=n6_;clear n0_ n1_ n2_ n3_ n4_ n5_ n6_;clear hb hbox hg;have hnb28:=NB166004_166001.out;have hnc28:=NB166001_166004.out;have hcz29_0:w27.cell? ⟨gb166004,0,none⟩=some (.int .i64 0):=(Zu BK166004.out 0).trans rfl;have hcz29_1:w27.cell? ⟨gb166004,1,none⟩=some (.int .i64 0):=(Zu BK166004.out 1).trans rfl;have hcz29_2:w27.cell? ⟨gb166004,2,none⟩=some (.int .i64 0):=(Zu BK166004.out 2).trans rfl;have hfz29_0:=Zt BK166004.out 0;have hfz29_1:=Zt BK166004.out 1;have hfz29_2:=Zt BK166004.out 2;have hcz30_0:w27.cell? ⟨gb166001,0,none⟩=some (.int .i64 a0_0):=(Zu BK166001.out 0).trans rfl;have hcz30_1:w27.cell? ⟨gb166001,1,none⟩=some (.slice (some ad166003) l0_1.length c0_1):=(Zu BK166001.out 1).trans rfl;have hfz30_0:=Zt BK166001.out 0;have hfz30_1:=Zt BK166001.out 1)|((with_reducible refine ZG (f:=87) rfl ?_);refine ZV (some 27) rfl rfl Try.func87 (by kernel_rfl) rfl #[.int .i64 ((Z7 l0_1 x18_2).f0),.int .i64 0,.int .i64 (wrap64 (a0_0 - 1))] rfl (by(try simp only[List.map_toArray,List.map_cons,List.map_nil]);first|done|rfl|(simp only[Zk,Zj];rfl)) ?_;(with_reducible refine(ZJ.calls ((Z7 l0_1 x18_2).f0) 0 (wrap64 (a0_0 - 1)) true _ A13.out).mono ?_);rintro e w' ⟨rfl,⟨nd,rfl⟩⟩;refine⟨_,rfl,?_⟩)|(go_at_call 87;(with_reducible refine(ZJ.calls ((Z7 l0_1 x18_2).f1) 0 (wrap64 (a0_0 - 1)) false _ A15.out).mono ?_);rintro e w' ⟨rfl,⟨nd,rfl⟩⟩))
           go_ret
           exact⟨by first|rfl|(simp[ZA,Zz] <;> rfl)|(simp[*,ZA,Zz] <;> rfl),by repeat(first|(with_reducible first|exact HB.out|apply Zr|apply Zm|apply Zs|refine Zp ?_ GE166001.out|refine Zp ?_ GE166004.out)|exact HB.out)⟩
         ·replace c14:=Bool.eq_false_iff.mpr c14
          subst c14
          have H1:(some false)=some r:=by rw[if_neg (show ¬(false=true) by decide)] at H;exact H
          clear H
          have H:=H1
          clear H1
          obtain rfl:=Zg H
          have p166003:0≤(x18_2:Int):=Zd (by first|(with_reducible assumption)|assumption)
          have q166003:x18_2<(l0_1.length:Int):=Zd (by first|(with_reducible assumption)|assumption)
          obtain⟨ad166003,e166003,hx166003_0,hx166003_1,hx166003_2⟩:=Zbh HR0_1.out x18_2 p166003 q166003
          cases e166003
          replace hx166003_0:=(HB.out.cell (Zc w _ hx166003_0)).trans hx166003_0
          replace hx166003_1:=(HB.out.cell (Zc w _ hx166003_1)).trans hx166003_1
          replace hx166003_2:=(HB.out.cell (Zc w _ hx166003_2)).trans hx166003_2
          replace p166003:=eq_true p166003
          replace q166003:=eq_true q166003
          go_wp2_with (first|((with_reducible refine ZD (N:=4) rfl ?_);(try(refine ZaG (by rfl) ?_;dsimp only));refine ZE ?hg (N:=4) ?hd (cs:=#[.int .i64 0,.int .i64 0,.int .i64 0]) (t:=148) ?hr ?_;(case hd=>rfl);(case hg=>rfl);(case hr=>first|(go_simp;done)|(go_simp;rfl));intro gb166004 hg w31 hbox hb;have n0_:=Za (Zx (g:=gb166001) (o:=.cells #[.int .i64 a0_0,.slice (some ad166003) l0_1.length c0_1] 95 (0,0)) (by(with_reducible repeat(first|refine Zo ?_ _|refine Zq ?_|refine Zn ?_ _));exact BK166001.out) hb);have n1_:=Za (Zy (by repeat(first|(with_reducible first|exact HB.out|apply Zr|apply Zm|apply Zs|refine Zp ?_ GE166001.out)|exact HB.out)) hb);have n2_:=Za (hbox);have n3_:=Za ((by rw[hg];exact(Zv (by repeat(first|(with_reducible first|exact HB.out|apply Zr|apply Zm|apply Zs|refine Zp ?_ GE166001.out)|exact HB.out))):w.heap.size≤gb166004));have n4_:=Za ((by rw[hg];exact(Zv (by repeat(first|(with_reducible first|exact HB.out|apply Zr|apply Zm|apply Zs|refine Zp ?_ GE166001.out)|exact HB.out))):w.heap.size≤gb166004));have n5_:=Za ((by rw[hg];exact Nat.ne_of_lt (ZB (g:=gb166001) (o:=.cells #[.int .i64 a0_0,.slice (some ad166003) l0_1.length c0_1] 95 (0,0)) (by(with_reducible repeat(first|refine Zo ?_ _|refine Zq ?_|refine Zn ?_ _));exact BK166001.out)):gb166001≠gb166004));have n6_:=Za ((by rw[hg];exact Nat.ne_of_gt (ZB (g:=gb166001) (o:=.cells #[.int .i64 a0_0,.slice (some ad166003) l0_1.length c0_1] 95 (0,0)) (by(with_reducible repeat(first|refine Zo ?_ _|refine Zq ?_|refine Zn ?_ _));exact BK166001.out)):gb166004≠gb166001));clear BK166001;clear HB;have BK166001:=n0_;have HB:=n1_;have BK166004:=n2_;have GW166004:=n3_;have GE166004:=n4_;have NB166001_166004:=n5_;have NB166004_166001:=n6_;clear n0_ n1_ n2_ n3_ n4_ n5_ n6_;clear hb hbox hg;have hnb32:=NB166004_166001.out;have hnc32:=NB166001_166004.out;have hcz33_0:w31.cell? ⟨gb166004,0,none⟩=some (.int .i64 0):=(Zu BK166004.out 0).trans rfl;have hcz33_1:w31.cell? ⟨gb166004,1,none⟩=some (.int .i64 0):=(Zu BK166004.out 1).trans rfl;have hcz33_2:w31.cell? ⟨gb166004,2,none⟩=some (.int .i64 0):=(Zu BK166004.out 2).trans rfl;have hfz33_0:=Zt BK166004.out 0;have hfz33_1:=Zt BK166004.out 1;have hfz33_2:=Zt BK166004.out 2;have hcz34_0:w31.cell? ⟨gb166001,0,none⟩=some (.int .i64 a0_0):=(Zu BK166001.out 0).trans rfl;have hcz34_1:w31.cell? ⟨gb166001,1,none⟩=some (.slice (some ad166003) l0_1.length c0_1):=(Zu BK166001.out 1).trans rfl;have hfz34_0:=Zt BK166001.out 0;have hfz34_1:=Zt BK166001.out 1)|((with_reducible refine ZG (f:=87) rfl ?_);refine ZV (some 27) rfl rfl Try.func87 (by kernel_rfl) rfl #[.int .i64 ((Z7 l0_1 x18_2).f0),.int .i64 0,.int .i64 (wrap64 (a0_0 - 1))] rfl (by(try simp only[List.map_toArray,List.map_cons,List.map_nil]);first|done|rfl|(simp only[Zk,Zj];rfl)) ?_;(with_reducible refine(ZJ.calls ((Z7 l0_1 x18_2).f0) 0 (wrap64 (a0_0 - 1)) false _ A13.out).mono ?_);rintro e w' ⟨rfl,⟨nd,rfl⟩⟩;refine⟨_,rfl,?_⟩))
          go_ret
          exact⟨by first|rfl|(simp[ZA,Zz] <;> rfl)|(simp[*,ZA,Zz] <;> rfl),by repeat(first|(with_reducible first|exact HB.out|apply Zr|apply Zm|apply Zs|refine Zp ?_ GE166001.out|refine Zp ?_ GE166004.out)|exact HB.out)⟩
        ·rw[if_neg c12] at H
         exact absurd H (by simp)
       ·rw[if_neg c11] at H
        exact absurd H (by simp)
      ·rw[if_neg c10] at H
       have c10b0:decide (x18_2<(l0_1.length:Int))=false:=Zf c10
       clear c10
       obtain rfl:=Zg H
       go_wp2
       go_ret
       exact⟨by first|rfl|(simp[ZA,Zz] <;> rfl)|(simp[*,ZA,Zz] <;> rfl),by repeat(first|(with_reducible first|exact HB.out|apply Zr|apply Zm|apply Zs|refine Zp ?_ GE166001.out)|exact HB.out)⟩
end Go.Proofs.Ytpoffpdaadhkgaa.Pr
namespace Go.Proofs.Ytpoffpdaadhkgaa.Pr
open Go.RowKit Go.Proofs.YtpoffpdaadhkgaaW.PrintWords Go.Proofs.Ytpoffpdaadhkgaa.Ni
def inR (a b c:Int):Bool:=decide (b≤a) && decide (a≤c)
theorem Zb7 (a b c:Int):ZJ.f a b c=some (inR a b c):=by
 unfold ZJ.f inR
 by_cases h:a≥b
 ·rw[if_pos h,Ze (show b≤a from h),Bool.true_and]
 ·rw[if_neg h,Zf (show ¬b≤a from h),Bool.false_and]
theorem inR_q (a b c:Int) (w:World):Calls Try.prog 87 #[.int .i64 a,.int .i64 b,.int .i64 c] w fun e w'=>e=.returned (.bool (inR a b c))∧∃n,w'=w.drewN n:=
 (ZJ.calls a b c _ w (Zb7 a b c)).mono fun _ _ ⟨he,hd⟩=>⟨he,hd.out⟩
theorem sedge_ok {n:Int} (h0:0≤n) (h8:n≤8) (y:S148):(inR y.f0 0 (wrap64 (n - 1)) && (inR y.f1 0 (wrap64 (n - 1)) && inR y.f2 (-999999) 999999))=Za7 n y:=by
 rw[Zbp (by omega) (by omega)]
 unfold inR Za7 inN wgtB
 rw[Bool.eq_iff_iff]
 simp only[Bool.and_eq_true,decide_eq_true_eq]
 omega
theorem sgraph_l (n:Int) (E:List S148) (h0:0≤n) (h8:n≤8) (hl:E.length≤80) (k:Nat) (hk:2 ^ 64≤k):ZU.l0 k E (E.length:Int) 0 n E=some (!(E.any fun x=>!Za7 n x)):=by
 have key:=Zbd E.length (fun k i=>ZU.l0 k E (E.length:Int) (i:Int) n E=some (!((E.drop i).any fun x=>!Za7 n x))) 0
  (fun k _=>by
   simp only[ZU.l0]
   rw[if_neg (by omega),List.drop_length];rfl)
  (fun k i _ hi ih=>by
   simp only[ZU.l0]
   rw[if_pos (by omega),if_pos (by omega),if_pos (by omega),ZaQ hi (by omega),ih,ZaL hi z148,List.any_cons,show Z7 E (i:Int)=E.getD i z148 by unfold Z7;rw[Int.toNat_natCast]]
   generalize E.getD i z148=y
   rw[← sedge_ok h0 h8 y]
   simp only[Zb7,Zi]
   cases inR y.f0 0 (wrap64 (n - 1)) <;> cases inR y.f1 0 (wrap64 (n - 1)) <;> cases inR y.f2 (-999999) 999999 <;> rfl) 0 k (Nat.zero_le _) (by omega)
 simpa using key
theorem ZbV (n:Int) (E:List S148) (k:Nat) (hk:2 ^ 66≤k):ZU.f k n E=some (ZaR n E):=by
 obtain⟨k,rfl⟩:∃m,k=m+1:=⟨k - 1,by omega⟩
 unfold ZU.f ZaR
 simp only[Zb7,Zi,ZU.j0]
 by_cases h:0≤n∧n≤8
 ·rw[show inR n 0 8=true by unfold inR;simp[h.1,h.2],if_pos rfl,Zf (show ¬n<0 by omega),Zf (show ¬8<n by omega)]
  by_cases h2:(E.length:Int) > 80
  ·rw[Ze h2,if_pos rfl,Ze (show 80<E.length by omega)];rfl
  ·rw[Zf h2,if_neg (by simp),Zf (show ¬80<E.length by omega),sgraph_l n E h.1 h.2 (by omega) k (by omega)]
   simp
 ·rw[show inR n 0 8=false by unfold inR;rw[Bool.eq_false_iff];simp only[ne_eq,Bool.and_eq_true,decide_eq_true_eq];exact h,if_neg (by simp),if_pos trivial]
  by_cases h3:n<0
  ·rw[Ze h3];rfl
  ·rw[Zf h3,Ze (show 8<n by omega)];rfl
end Go.Proofs.Ytpoffpdaadhkgaa.Pr
namespace Go.Proofs.Ytpoffpdaadhkgaa.Pr
open Go.RowKit Go.Proofs.YtpoffpdaadhkgaaW.PrintWords Go.Proofs.YtpoffpdaadhkgaaW.PrintLast Go.Proofs.YtpoffpdaadhkgaaW.PrintMore
attribute [local go_sem] Zaj Zah Zaq Zap Zac Zab Zai Zag
set_option linter.unusedVariables false
set_option linter.unusedSimpArgs false
open Go.Proofs.Ytpoffpdaadhkgaa.Ni
theorem Za8.two {d l:List Int} {kn:List Bool} {E:List ZZ} {j:Nat} {ch:Int} (hj:j<E.length):srnd (E.drop j) j (d,l,kn,ch)=srnd (E.drop (j+1)) (j+1) (Zbs (d,l,kn,ch) j (E.getD j zE)):=by
 rw[ZaL hj zE];rfl
structure Za8.St (w W:World) (B b gd gl gn n cd cl ck:Nat) (d l:List Int) (kn:List Bool):Prop where
 d:IR W B gd n cd d
 l:IR W B gl n cl l
 k:BR W B gn n ck kn
 b:Below b w W
set_option maxHeartbeats 8000000 in
set_option maxRecDepth 100000 in
theorem Za8.own (a0_0:Int) (A0_1:Option Addr) (c0_1:Nat) (l0_1:List S148) (w0 w:World) (hr0_1:Kd.C k148 w0 A0_1 l0_1.length l0_1) (hB0:Below w0.heap.size w0 w) (B b gd gl gn n cd cl ck:Nat) (d l:List Int) (kn:List Bool) (hE:Za0 l0_1 n) (h80:l0_1.length≤80) (hn8:n≤8) (S:Za8.St w w B b gd gl gn n cd cl ck d l kn) (hb:w0.heap.size≤b∧b≤w.heap.size∧b≤gd∧b≤gl∧b≤gn) (hdl:gd≠gl) (hdk:gd≠gn) (hlk:gl≠gn) :
  Calls Try.prog 167 #[.agg #[.int .i64 a0_0,.slice A0_1 l0_1.length c0_1],.slice (some ⟨gd,0,none⟩) n cd,.slice (some ⟨gl,0,none⟩) n cl,.slice (some ⟨gn,0,none⟩) n ck] w fun e w'=>e=.returned (.int .i64 (srnd l0_1 0 (d,l,kn,-1)).2.2.2)∧Za8.St w w' B b gd gl gn n cd cl ck (srnd l0_1 0 (d,l,kn,-1)).1 (srnd l0_1 0 (d,l,kn,-1)).2.1 (srnd l0_1 0 (d,l,kn,-1)).2.2.1:=by
 have hu:=Try.underlying95
 have hu2:=Try.underlying148
 have HRE:=Za hr0_1;have HED:=Za hE
 have hL:l0_1.length≤9223372036854775807:=by omega
 have HS:=Za S;have HB:=Za hb;have HB0:=Za hB0
 have hdl2:=hdl.symm
 have hdk2:=hdk.symm
 have hlk2:=hlk.symm
 obtain⟨hb0,hb1,hb2,hb3,hb4⟩:=hb
 clear hr0_1 hE S hB0
 obtain⟨X,hX⟩:∃X,X=srnd l0_1 0 (d,l,kn,-1):=⟨_,rfl⟩
 rw[← hX]
 have HX:=Za hX;clear hX
 go_enter Try.func167,Try.ntmps167
 go_wp2
 go_loopg [9,15] l0_1.length (fun gg s9 s15 wr=>∃(j:Nat) (d' l':List Int) (kn':List Bool) (ch':Int),s9=.int .i64 ch'∧s15=.int .i64 (j:Int)∧Aside0 (j≤l0_1.length)∧Aside0 (l0_1.length - j≤gg)∧Aside0 (srnd (l0_1.drop j) j (d',l',kn',ch')=X)∧Aside0 (Za8.St w wr B b gd gl gn n cd cl ck d' l' kn'))
 case atStart=>
  have hA:=Zr (Below.refl w.heap.size w) (.cells #[.int .i64 a0_0,.slice A0_1 l0_1.length c0_1] 95)
  exact⟨0,d,l,kn,-1,rfl,rfl,⟨Nat.zero_le _⟩,⟨by omega⟩,⟨HX.out.symm⟩,⟨⟨HS.out.d.low hA,HS.out.l.low hA,HS.out.k.low hA,hA.mono hb1⟩⟩⟩
 case round=>
  obtain⟨j,d',l',kn',ch',rfl,rfl,HJ,HG2,HRN,HI2⟩:=hrel
  by_cases hjn:j<l0_1.length
  ·have hjz:(j:Int)<(l0_1.length:Int):=by omega
   have HB2:=Za (HB0.out.trans (HI2.out.b.mono HB.out.1))
   obtain⟨ad,e1,m0,m1,m2⟩:=Zbh HRE.out (j:Int) (by omega) hjz
   cases e1
   rw[Int.toNat_natCast] at m0 m1 m2
   have hy:=HED.out _ (ZbL hjn zE)
   have HT:=Za (Za8.two (d:=d') (l:=l') (kn:=kn') (ch:=ch') hjn)
   rw[show Z7 l0_1 (j:Int)=l0_1.getD j zE by unfold Z7;rw[Int.toNat_natCast]] at m0 m1 m2
   generalize l0_1.getD j zE=y at m0 m1 m2 hy HT
   obtain⟨f0,f1,f2⟩:=y
   obtain⟨y0,y1,y2,y3⟩:=hy
   dsimp only at m0 m1 m2 y0 y1 y2 y3
   replace m0:=ZO HB2.out m0
   replace m1:=ZO HB2.out m1
   replace m2:=ZO HB2.out m2
   have hlta:=Zc wr _ m0
   obtain⟨xu,_⟩:=HI2.out.d.cell y0 y1
   obtain⟨xv,zv⟩:=HI2.out.d.cell y2 y3
   obtain⟨xl,zl⟩:=HI2.out.l.cell y2 y3
   obtain⟨xp,_⟩:=HI2.out.k.cell y0 y1
   obtain⟨xq,zq⟩:=HI2.out.k.cell y2 y3
   have hgd:=HI2.out.d.lt
   have hgl:=HI2.out.l.lt
   have hgk:=HI2.out.k.lt
   have HW:=Za fun (nq:Nat)=>Zm (Zr (Below.refl wr.heap.size wr) (.cells #[.int .i64 f0,.int .i64 f1,.int .i64 f2] 148)) nq
   have HBX:=Za fun (nq:Nat)=>(show(((wr.alloc (.cells #[.int .i64 f0,.int .i64 f1,.int .i64 f2] 148)).drewN nq).cell? ⟨wr.heap.size,0,none⟩=some (.int .i64 f0)∧((wr.alloc (.cells #[.int .i64 f0,.int .i64 f1,.int .i64 f2] 148)).drewN nq).cell? ⟨wr.heap.size,1,none⟩=some (.int .i64 f1)∧((wr.alloc (.cells #[.int .i64 f0,.int .i64 f1,.int .i64 f2] 148)).drewN nq).cell? ⟨wr.heap.size,2,none⟩=some (.int .i64 f2)) from⟨by go_simp,by go_simp,by go_simp⟩)
   have HPQ:=Za (show Zbs (d',l',kn',ch') j ⟨f0,f1,f2⟩=if kn'.getD f0.toNat false=true∧(kn'.getD f1.toNat false=false∨wrap64 (rd d' f0+f2)<rd d' f1) then(d'.set f1.toNat (wrap64 (rd d' f0+f2)),l'.set f1.toNat (j:Int),kn'.set f1.toNat true,(j:Int)) else(d',l',kn',ch') from rfl)
   generalize kn'.getD f0.toNat false=p at xp HPQ
   generalize kn'.getD f1.toNat false=q at xq HPQ
   rcases(show(Aside0 (p=true∧(q=false∨wrap64 (rd d' f0+f2)<rd d' f1))∧((p=true∧q=false)∨(p=true∧q=true∧wrap64 (rd d' f0+f2)<rd d' f1)))∨(Aside0 (¬(p=true∧(q=false∨wrap64 (rd d' f0+f2)<rd d' f1)))∧((p=false)∨(p=true∧q=true∧¬wrap64 (rd d' f0+f2)<rd d' f1))) by
    cases p
    ·right;exact⟨⟨by simp⟩,.inl rfl⟩
    ·cases q
     ·left;exact⟨⟨by simp⟩,.inl ⟨rfl,rfl⟩⟩
     ·by_cases h:wrap64 (rd d' f0+f2)<rd d' f1
      ·left;exact⟨⟨by simp[h]⟩,.inr ⟨rfl,rfl,h⟩⟩
      ·right;exact⟨⟨by simp[h]⟩,.inr ⟨rfl,rfl,h⟩⟩) with ⟨hyes,hway⟩|⟨hno,hway⟩
   ·rcases hway with ⟨rfl,rfl⟩|⟨rfl,rfl,hlt⟩
    all_goals
     have HS2:=Za (HPQ.out.trans (if_pos hyes.out))
     clear hyes HPQ
     go_wp2
     go_quiet (fail)
     go_wp2
     have hW:=HW.out nq
     have hx:=HBX.out nq
     generalize (wr.alloc (.cells #[.int .i64 f0,.int .i64 f1,.int .i64 f2] 148)).drewN nq=W at hW hx ⊢
     obtain⟨x0,x1,x2⟩:=hx
     have HWI:=Za (And.intro (HI2.out.d.low hW) (And.intro (HI2.out.l.low hW) (HI2.out.k.low hW)))
     clear xu xv zv xl zl xp xq zq m0 m1 m2 HW HBX
     obtain⟨xu,_⟩:=HWI.out.1.cell y0 y1
     obtain⟨xv,zv⟩:=HWI.out.1.cell y2 y3
     obtain⟨xl,zl⟩:=HWI.out.2.1.cell y2 y3
     obtain⟨xq,zq⟩:=HWI.out.2.2.cell y2 y3
     have HWB:=Za (HI2.out.b.trans (hW.mono (Nat.le_trans hb1 HI2.out.b.size)))
     have hsz:=hW.size
     clear hW
     go_region
     go_wp2
     go_roundg (l0_1.length - (j+1))
     case measure=>have:=HG2.out;omega
     case rel=>
      exact⟨j+1,d'.set f1.toNat (wrap64 (rd d' f0+f2)),l'.set f1.toNat (j:Int),kn'.set f1.toNat true,(j:Int),rfl,by go_num,⟨by omega⟩,⟨by omega⟩,⟨by rw[← HRN.out,HT.out,HS2.out]⟩,
       ⟨Kd.R_drew (((HWI.out.1.put f1 _).far hdk _).far hdl _),Kd.R_drew (((HWI.out.2.1.far hdl2 _).far hlk _).put f1 _),Kd.R_drew (((HWI.out.2.2.far hdk2 _).put f1 _).far hlk2 _),(((HWB.out.setCell (p:=⟨gd,f1.toNat,none⟩) hb2 _).setCell (p:=⟨gn,f1.toNat,none⟩) hb4 _).setCell (p:=⟨gl,f1.toNat,none⟩) hb3 _).drew⟩⟩
   ·rcases hway with rfl|⟨rfl,rfl,hlt⟩
    all_goals
     have HS2:=Za (HPQ.out.trans (if_neg hno.out))
     clear hno HPQ
     go_wp2
     go_quiet (fail)
     go_wp2
     have hW:=HW.out nq
     generalize (wr.alloc (.cells #[.int .i64 f0,.int .i64 f1,.int .i64 f2] 148)).drewN nq=W at hW ⊢
     go_roundg (l0_1.length - (j+1))
     case measure=>have:=HG2.out;omega
     case rel=>
      exact⟨j+1,d',l',kn',ch',rfl,by go_num,⟨by omega⟩,⟨by omega⟩,⟨by rw[← HRN.out,HT.out,HS2.out]⟩,⟨HI2.out.d.low hW,HI2.out.l.low hW,HI2.out.k.low hW,HI2.out.b.trans (hW.mono (Nat.le_trans hb1 HI2.out.b.size))⟩⟩
  ·have hjz:¬(j:Int)<(l0_1.length:Int):=by omega
   obtain rfl:j=l0_1.length:=by have:=HJ.out;omega
   have HX2:=Za (show(d',l',kn',ch')=X by have:=HRN.out;rw[List.drop_length] at this;exact this)
   go_wp2
   go_ret
   exact⟨by rw[← HX2.out];rfl,by rw[← HX2.out];exact HI2.out⟩
end Go.Proofs.Ytpoffpdaadhkgaa.Pr
