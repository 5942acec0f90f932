/- The texts of one claim, put together by a program of this session. -/
import Derived.Deep.LoopGhost
import Derived.Deep.RegionHeld3
import Derived.Test.YtpoffpdaadhkgaaBNtc1x1
import Derived.Test.YtpoffpdaadhkgaaBNtc1x10
import Derived.Test.YtpoffpdaadhkgaaBNtc1x12
import Derived.Test.YtpoffpdaadhkgaaBNtc1x13
import Derived.Test.YtpoffpdaadhkgaaBNtc1x2
import Derived.Test.YtpoffpdaadhkgaaBNtc1x4
import Derived.Test.YtpoffpdaadhkgaaBNtc1x5
import Derived.Test.YtpoffpdaadhkgaaBNtc1x7
import Derived.Test.YtpoffpdaadhkgaaBNtc1x8
import Derived.Test.YtpoffpdaadhkgaaBNtc1x9
namespace Go.Proofs.Ytpoffpdaadhkgaa.Pr
open Go.RowKit Go.Proofs.YtpoffpdaadhkgaaW.PrintWords Go.Proofs.YtpoffpdaadhkgaaW.PrintLast Go.Proofs.YtpoffpdaadhkgaaW.PrintMore
attribute [local go_sem] Zaj Zah Zaq Zap Zac Zab Zai Zag
set_option linter.unusedVariables false
set_option linter.unusedSimpArgs false
def ZaP.f (k:Nat) (a0_0:Int) (l0_1:List (S101)):Option (Bool):=(ZK.f k a0_0 l0_1).bind fun t83002=>(if t83002=true then((ZaF.f k a0_0 l0_1).bind fun bt83003=>((ZaE.f k bt83003.1 bt83003.2).bind fun t83007=>(some ((t83007.length:Int) == 0)))) else(some false))
set_option maxHeartbeats 8000000 in
set_option maxRecDepth 100000 in
theorem ZaP.calls (k:Nat) (a0_0:Int) (A0_1:Option Addr) (c0_1:Nat) (l0_1:List (S101)) (r:Bool) (w:World) (hr0_1:Kd.C k101 w A0_1 l0_1.length l0_1) (hc0_1:l0_1.length≤c0_1) (h:ZaP.f k a0_0 l0_1=some r) :
  Calls Try.prog 83 #[.agg #[.int .i64 a0_0,.slice A0_1 l0_1.length c0_1]] w fun e w'=>e=.returned (.bool r)∧Below w.heap.size w w':=by
 have hu25:=Try.underlying25
 have HR0_1:=Za hr0_1;have HC0_1:=Za hc0_1;clear hr0_1 hc0_1
 have HB:=Za (Below.refl w.heap.size w)
 have H:((ZK.f k a0_0 l0_1).bind fun t83002=>(if t83002=true then((ZaF.f k a0_0 l0_1).bind fun bt83003=>((ZaE.f k bt83003.1 bt83003.2).bind fun t83007=>(some ((t83007.length:Int) == 0)))) else(some false)))=some r:=h
 clear h
 replace H:=Zh H
 obtain⟨t83002,A20,H⟩:=H
 replace H:(if t83002=true then((ZaF.f k a0_0 l0_1).bind fun bt83003=>((ZaE.f k bt83003.1 bt83003.2).bind fun t83007=>(some ((t83007.length:Int) == 0)))) else(some false))=some r:=H
 have A2:=Za A20;clear A20
 by_cases c3:t83002=true
 ·subst c3
  have H1:((ZaF.f k a0_0 l0_1).bind fun bt83003=>((ZaE.f k bt83003.1 bt83003.2).bind fun t83007=>(some ((t83007.length:Int) == 0))))=some r:=by rw[if_pos rfl] at H;exact H
  clear H
  have H:=H1
  clear H1
  replace H:=Zh H
  obtain⟨⟨t83003,t83004⟩,A40,H⟩:=H
  replace H:((ZaE.f k t83003 t83004).bind fun t83007=>(some ((t83007.length:Int) == 0)))=some r:=H
  have A4:=Za A40;clear A40
  replace H:=Zh H
  obtain⟨t83007,A50,H⟩:=H
  replace H:(some ((t83007.length:Int) == 0))=some r:=H
  have A5:=Za A50;clear A50
  obtain rfl:=Zg H
  go_enter Try.func83,Try.ntmps83
  go_wp2_with (first|((with_reducible refine ZD (N:=1) rfl ?_);(try(refine ZaG (by rfl) ?_;dsimp only));refine ZE ?hg (N:=1) ?hd (cs:=#[.int .i64 a0_0,.slice A0_1 l0_1.length c0_1]) (t:=25) ?hr ?_;(case hd=>rfl);(case hg=>rfl);(case hr=>first|(go_simp;done)|(go_simp;rfl));intro gb83001 hg w6 hbox hb;have n0_:=Za (Zy (by repeat(first|(with_reducible first|exact HB.out|apply Zr|apply Zm|apply Zs)|exact HB.out)) hb);have n1_:=Za (hbox);have n2_:=Za ((by rw[hg];exact(Zv (by repeat(first|(with_reducible first|exact HB.out|apply Zr|apply Zm|apply Zs)|exact HB.out))):w.heap.size≤gb83001));have n3_:=Za ((by rw[hg];exact(Zv (by repeat(first|(with_reducible first|exact HB.out|apply Zr|apply Zm|apply Zs)|exact HB.out))):w.heap.size≤gb83001));clear HB;have HB:=n0_;have BK83001:=n1_;have GW83001:=n2_;have GE83001:=n3_;clear n0_ n1_ n2_ n3_;clear hb hbox hg;have hcz7_0:w6.cell? ⟨gb83001,0,none⟩=some (.int .i64 a0_0):=(Zu BK83001.out 0).trans rfl;have hcz7_1:w6.cell? ⟨gb83001,1,none⟩=some (.slice A0_1 l0_1.length c0_1):=(Zu BK83001.out 1).trans rfl;have hfz7_0:=Zt BK83001.out 0;have hfz7_1:=Zt BK83001.out 1)|((with_reducible refine ZG (f:=129) rfl ?_);refine ZV (some 4) rfl rfl Try.func129 (by kernel_rfl) rfl #[.agg #[.int .i64 a0_0,.slice A0_1 l0_1.length c0_1]] rfl (by(try simp only[List.map_toArray,List.map_cons,List.map_nil]);first|done|rfl|(simp only[Zk,Zj];rfl)) ?_;(with_reducible refine(ZK.calls k a0_0 _ _ l0_1 true _ ?side1 ?side2 A2.out).mono ?_);(case side1=>repeat(first|exact(Zb HR0_1.out HB.out)|(with_reducible refine Kd.C_alloc ?_ _)|(with_reducible refine Kd.C_drewN ?_ _)|(with_reducible refine Kd.C_drew ?_)));(case side2=>exact HC0_1.out);rintro e w8 ⟨rfl,hb⟩;refine⟨_,rfl,?_⟩;have n0_:=Za (Zx (g:=gb83001) (o:=.cells #[.int .i64 a0_0,.slice A0_1 l0_1.length c0_1] 25 (0,0)) (by(with_reducible repeat(first|refine Zo ?_ _|refine Zq ?_|refine Zn ?_ _));exact BK83001.out) hb);have n1_:=Za (Zy (by repeat(first|(with_reducible first|exact HB.out|apply Zr|apply Zm|apply Zs|refine Zp ?_ GE83001.out)|exact HB.out)) hb);clear BK83001;clear HB;have BK83001:=n0_;have HB:=n1_;clear n0_ n1_;(try clear hb);(try clear hb2);(try clear hk);(try clear hi);have hcz9_0:w8.cell? ⟨gb83001,0,none⟩=some (.int .i64 a0_0):=(Zu BK83001.out 0).trans rfl;have hcz9_1:w8.cell? ⟨gb83001,1,none⟩=some (.slice A0_1 l0_1.length c0_1):=(Zu BK83001.out 1).trans rfl;have hfz9_0:=Zt BK83001.out 0;have hfz9_1:=Zt BK83001.out 1)|(go_at_call 131;(with_reducible refine(ZaF.calls k a0_0 _ _ l0_1 t83003 t83004 _ ?side1 ?side2 A4.out).mono ?_);(case side1=>repeat(first|exact(Zb HR0_1.out HB.out)|(with_reducible refine Kd.C_alloc ?_ _)|(with_reducible refine Kd.C_drewN ?_ _)|(with_reducible refine Kd.C_drew ?_)));(case side2=>exact HC0_1.out);rintro e w10 ⟨v83005,rfl,ho0,hb⟩;have n0_:=Za (Kd.R_lower ho0 (Zv (by repeat(first|(with_reducible first|exact HB.out|apply Zr|apply Zm|apply Zs|refine Zp ?_ GE83001.out)|exact HB.out))));have n1_:=Za (Zx (g:=gb83001) (o:=.cells #[.int .i64 a0_0,.slice A0_1 l0_1.length c0_1] 25 (0,0)) (by(with_reducible repeat(first|refine Zo ?_ _|refine Zq ?_|refine Zn ?_ _));exact BK83001.out) hb);have n2_:=Za (Zy (by repeat(first|(with_reducible first|exact HB.out|apply Zr|apply Zm|apply Zs|refine Zp ?_ GE83001.out)|exact HB.out)) hb);clear BK83001;clear HB;have HO83006:=n0_;have BK83001:=n1_;have HB:=n2_;clear n0_ n1_ n2_;(try clear hb);(try clear hb2);(try clear hk);(try clear hi);(try clear ho0);obtain⟨Ao11,co11,eo11⟩:=Kd.R_slice HO83006.out;subst eo11)|(go_at_call 130;(with_reducible refine(ZaE.calls k t83003 _ _ t83004 t83007 _ ?side1 ?side2 A5.out).mono ?_);(case side1=>repeat(first|exact(Kd.R_reads' HO83006.out).2.2|(with_reducible refine Kd.C_alloc ?_ _)|(with_reducible refine Kd.C_drewN ?_ _)|(with_reducible refine Kd.C_drew ?_)));(case side2=>exact(Kd.R_reads' HO83006.out).2.1);rintro e w12 ⟨v83008,rfl,ho0,hb⟩;have n0_:=Za (Kd.R_below (by(with_reducible repeat(first|apply Kd.R_alloc|apply Kd.R_drewN|apply Kd.R_drew));exact HO83006.out) hb);have n1_:=Za (Kd.R_lower ho0 (Zv (by repeat(first|(with_reducible first|exact HB.out|apply Zr|apply Zm|apply Zs|refine Zp ?_ GE83001.out)|exact HB.out))));have n2_:=Za (Zx (g:=gb83001) (o:=.cells #[.int .i64 a0_0,.slice A0_1 l0_1.length c0_1] 25 (0,0)) (by(with_reducible repeat(first|refine Zo ?_ _|refine Zq ?_|refine Zn ?_ _));exact BK83001.out) hb);have n3_:=Za (Zy (by repeat(first|(with_reducible first|exact HB.out|apply Zr|apply Zm|apply Zs|refine Zp ?_ GE83001.out)|exact HB.out)) hb);clear HO83006;clear BK83001;clear HB;have HO83006:=n0_;have HO83009:=n1_;have BK83001:=n2_;have HB:=n3_;clear n0_ n1_ n2_ n3_;(try clear hb);(try clear hb2);(try clear hk);(try clear hi);(try clear ho0);obtain⟨Ao13,co13,eo13⟩:=Kd.R_slice HO83009.out;subst eo13))
  go_ret
  exact⟨by first|rfl|(simp[ZA,Zz] <;> rfl)|(simp[*,ZA,Zz] <;> rfl),by repeat(first|(with_reducible first|exact HB.out|apply Zr|apply Zm|apply Zs|refine Zp ?_ GE83001.out)|exact HB.out)⟩
 ·replace c3:=Bool.eq_false_iff.mpr c3
  subst c3
  have H1:(some false)=some r:=by rw[if_neg (show ¬(false=true) by decide)] at H;exact H
  clear H
  have H:=H1
  clear H1
  obtain rfl:=Zg H
  go_enter Try.func83,Try.ntmps83
  go_wp2_with (first|((with_reducible refine ZD (N:=1) rfl ?_);(try(refine ZaG (by rfl) ?_;dsimp only));refine ZE ?hg (N:=1) ?hd (cs:=#[.int .i64 a0_0,.slice A0_1 l0_1.length c0_1]) (t:=25) ?hr ?_;(case hd=>rfl);(case hg=>rfl);(case hr=>first|(go_simp;done)|(go_simp;rfl));intro gb83001 hg w14 hbox hb;have n0_:=Za (Zy (by repeat(first|(with_reducible first|exact HB.out|apply Zr|apply Zm|apply Zs)|exact HB.out)) hb);have n1_:=Za (hbox);have n2_:=Za ((by rw[hg];exact(Zv (by repeat(first|(with_reducible first|exact HB.out|apply Zr|apply Zm|apply Zs)|exact HB.out))):w.heap.size≤gb83001));have n3_:=Za ((by rw[hg];exact(Zv (by repeat(first|(with_reducible first|exact HB.out|apply Zr|apply Zm|apply Zs)|exact HB.out))):w.heap.size≤gb83001));clear HB;have HB:=n0_;have BK83001:=n1_;have GW83001:=n2_;have GE83001:=n3_;clear n0_ n1_ n2_ n3_;clear hb hbox hg;have hcz15_0:w14.cell? ⟨gb83001,0,none⟩=some (.int .i64 a0_0):=(Zu BK83001.out 0).trans rfl;have hcz15_1:w14.cell? ⟨gb83001,1,none⟩=some (.slice A0_1 l0_1.length c0_1):=(Zu BK83001.out 1).trans rfl;have hfz15_0:=Zt BK83001.out 0;have hfz15_1:=Zt BK83001.out 1)|((with_reducible refine ZG (f:=129) rfl ?_);refine ZV (some 4) rfl rfl Try.func129 (by kernel_rfl) rfl #[.agg #[.int .i64 a0_0,.slice A0_1 l0_1.length c0_1]] rfl (by(try simp only[List.map_toArray,List.map_cons,List.map_nil]);first|done|rfl|(simp only[Zk,Zj];rfl)) ?_;(with_reducible refine(ZK.calls k a0_0 _ _ l0_1 false _ ?side1 ?side2 A2.out).mono ?_);(case side1=>repeat(first|exact(Zb HR0_1.out HB.out)|(with_reducible refine Kd.C_alloc ?_ _)|(with_reducible refine Kd.C_drewN ?_ _)|(with_reducible refine Kd.C_drew ?_)));(case side2=>exact HC0_1.out);rintro e w16 ⟨rfl,hb⟩;refine⟨_,rfl,?_⟩;have n0_:=Za (Zx (g:=gb83001) (o:=.cells #[.int .i64 a0_0,.slice A0_1 l0_1.length c0_1] 25 (0,0)) (by(with_reducible repeat(first|refine Zo ?_ _|refine Zq ?_|refine Zn ?_ _));exact BK83001.out) hb);have n1_:=Za (Zy (by repeat(first|(with_reducible first|exact HB.out|apply Zr|apply Zm|apply Zs|refine Zp ?_ GE83001.out)|exact HB.out)) hb);clear BK83001;clear HB;have BK83001:=n0_;have HB:=n1_;clear n0_ n1_;(try clear hb);(try clear hb2);(try clear hk);(try clear hi)))
  go_ret
  exact⟨by first|rfl|(simp[ZA,Zz] <;> rfl)|(simp[*,ZA,Zz] <;> rfl),by repeat(first|(with_reducible first|exact HB.out|apply Zr|apply Zm|apply Zs|refine Zp ?_ GE83001.out)|exact HB.out)⟩
def ZaU.f (k:Nat) (a0_0:Int) (l0_1:List (S101)) (a1:Int):Option (Int×Int×Bool):=(ZaP.f k a0_0 l0_1).bind fun t86003=>(if t86003=true then((ZaF.f k a0_0 l0_1).bind fun bt86004=>((ZL.f k bt86004.1 bt86004.2).bind fun bt86008=>((ZH.f k bt86008.1 bt86008.2.1 0 a1).bind fun bt86014=>(some (bt86014.1,bt86014.2.1,bt86014.2.2))))) else(some (0,0,false)))
set_option maxHeartbeats 8000000 in
set_option maxRecDepth 100000 in
theorem ZaU.calls (k:Nat) (a0_0:Int) (A0_1:Option Addr) (c0_1:Nat) (l0_1:List (S101)) (a1:Int) (r1:Int) (r2:Int) (r3:Bool) (w:World) (hr0_1:Kd.C k101 w A0_1 l0_1.length l0_1) (hc0_1:l0_1.length≤c0_1) (h:ZaU.f k a0_0 l0_1 a1=some (r1,r2,r3)) :
  Calls Try.prog 86 #[.agg #[.int .i64 a0_0,.slice A0_1 l0_1.length c0_1],.int .i64 a1] w fun e w'=>e=.returned (.tuple #[.agg #[.int .i64 r1,.int .i64 r2],.bool r3])∧Below w.heap.size w w':=by
 have hu25:=Try.underlying25
 have hu29:=Try.underlying29
 have hu90:=Try.underlying90
 have HR0_1:=Za hr0_1;have HC0_1:=Za hc0_1;clear hr0_1 hc0_1
 have HB:=Za (Below.refl w.heap.size w)
 have H:((ZaP.f k a0_0 l0_1).bind fun t86003=>(if t86003=true then((ZaF.f k a0_0 l0_1).bind fun bt86004=>((ZL.f k bt86004.1 bt86004.2).bind fun bt86008=>((ZH.f k bt86008.1 bt86008.2.1 0 a1).bind fun bt86014=>(some (bt86014.1,bt86014.2.1,bt86014.2.2))))) else(some (0,0,false))))=some (r1,r2,r3):=h
 clear h
 replace H:=Zh H
 obtain⟨t86003,A30,H⟩:=H
 replace H:(if t86003=true then((ZaF.f k a0_0 l0_1).bind fun bt86004=>((ZL.f k bt86004.1 bt86004.2).bind fun bt86008=>((ZH.f k bt86008.1 bt86008.2.1 0 a1).bind fun bt86014=>(some (bt86014.1,bt86014.2.1,bt86014.2.2))))) else(some (0,0,false)))=some (r1,r2,r3):=H
 have A3:=Za A30;clear A30
 by_cases c4:t86003=true
 ·subst c4
  have H1:((ZaF.f k a0_0 l0_1).bind fun bt86004=>((ZL.f k bt86004.1 bt86004.2).bind fun bt86008=>((ZH.f k bt86008.1 bt86008.2.1 0 a1).bind fun bt86014=>(some (bt86014.1,bt86014.2.1,bt86014.2.2)))))=some (r1,r2,r3):=by rw[if_pos rfl] at H;exact H
  clear H
  have H:=H1
  clear H1
  replace H:=Zh H
  obtain⟨⟨t86004,t86005⟩,A50,H⟩:=H
  replace H:((ZL.f k t86004 t86005).bind fun bt86008=>((ZH.f k bt86008.1 bt86008.2.1 0 a1).bind fun bt86014=>(some (bt86014.1,bt86014.2.1,bt86014.2.2))))=some (r1,r2,r3):=H
  have A5:=Za A50;clear A50
  replace H:=Zh H
  obtain⟨⟨t86008,t86009,t86012⟩,A60,H⟩:=H
  replace H:((ZH.f k t86008 t86009 0 a1).bind fun bt86014=>(some (bt86014.1,bt86014.2.1,bt86014.2.2)))=some (r1,r2,r3):=H
  have A6:=Za A60;clear A60
  replace H:=Zh H
  obtain⟨⟨t86014,t86015,t86016⟩,A70,H⟩:=H
  replace H:(some (t86014,t86015,t86016))=some (r1,r2,r3):=H
  have A7:=Za A70;clear A70
  simp only[Option.some.injEq,Prod.mk.injEq] at H
  obtain⟨rfl,rfl,rfl⟩:=H
  go_enter Try.func86,Try.ntmps86
  go_wp2_with (first|((with_reducible refine ZD (N:=2) rfl ?_);refine ZE ?hg (N:=2) ?hd (cs:=#[.int .i64 a0_0,.slice A0_1 l0_1.length c0_1]) (t:=25) ?hr ?_;(case hd=>rfl);(case hg=>rfl);(case hr=>first|(go_simp;done)|(go_simp;rfl));intro gb86001 hg w8 hbox hb;have n0_:=Za (Zy (by repeat(first|(with_reducible first|exact HB.out|apply Zr|apply Zm|apply Zs)|exact HB.out)) hb);have n1_:=Za (hbox);have n2_:=Za ((by rw[hg];exact(Zv (by repeat(first|(with_reducible first|exact HB.out|apply Zr|apply Zm|apply Zs)|exact HB.out))):w.heap.size≤gb86001));have n3_:=Za ((by rw[hg];exact(Zv (by repeat(first|(with_reducible first|exact HB.out|apply Zr|apply Zm|apply Zs)|exact HB.out))):w.heap.size≤gb86001));clear HB;have HB:=n0_;have BK86001:=n1_;have GW86001:=n2_;have GE86001:=n3_;clear n0_ n1_ n2_ n3_;clear hb hbox hg)|((with_reducible refine ZD (N:=4) rfl ?_);refine ZE ?hg (N:=4) ?hd (cs:=#[.int .i64 0,.int .i64 0]) (t:=29) ?hr ?_;(case hd=>rfl);(case hg=>rfl);(case hr=>first|(go_simp;done)|(go_simp;rfl));intro gb86002 hg w9 hbox hb;have n0_:=Za (Zx (g:=gb86001) (o:=.cells #[.int .i64 a0_0,.slice A0_1 l0_1.length c0_1] 25 (0,0)) (by(with_reducible repeat(first|refine Zo ?_ _|refine Zq ?_|refine Zn ?_ _));exact BK86001.out) hb);have n1_:=Za (Zy (by repeat(first|(with_reducible first|exact HB.out|apply Zr|apply Zm|apply Zs|refine Zp ?_ GE86001.out)|exact HB.out)) hb);have n2_:=Za (hbox);have n3_:=Za ((by rw[hg];exact(Zv (by repeat(first|(with_reducible first|exact HB.out|apply Zr|apply Zm|apply Zs|refine Zp ?_ GE86001.out)|exact HB.out))):w.heap.size≤gb86002));have n4_:=Za ((by rw[hg];exact(Zv (by repeat(first|(with_reducible first|exact HB.out|apply Zr|apply Zm|apply Zs|refine Zp ?_ GE86001.out)|exact HB.out))):w.heap.size≤gb86002));have n5_:=Za ((by rw[hg];exact Nat.ne_of_lt (ZB (g:=gb86001) (o:=.cells #[.int .i64 a0_0,.slice A0_1 l0_1.length c0_1] 25 (0,0)) (by(with_reducible repeat(first|refine Zo ?_ _|refine Zq ?_|refine Zn ?_ _));exact BK86001.out)):gb86001≠gb86002));have n6_:=Za ((by rw[hg];exact Nat.ne_of_gt (ZB (g:=gb86001) (o:=.cells #[.int .i64 a0_0,.slice A0_1 l0_1.length c0_1] 25 (0,0)) (by(with_reducible repeat(first|refine Zo ?_ _|refine Zq ?_|refine Zn ?_ _));exact BK86001.out)):gb86002≠gb86001));clear BK86001;clear HB;have BK86001:=n0_;have HB:=n1_;have BK86002:=n2_;have GW86002:=n3_;have GE86002:=n4_;have NB86001_86002:=n5_;have NB86002_86001:=n6_;clear n0_ n1_ n2_ n3_ n4_ n5_ n6_;clear hb hbox hg;have hnb10:=NB86001_86002.out;have hnc10:=NB86002_86001.out;have hcz11_0:w9.cell? ⟨gb86001,0,none⟩=some (.int .i64 a0_0):=(Zu BK86001.out 0).trans rfl;have hcz11_1:w9.cell? ⟨gb86001,1,none⟩=some (.slice A0_1 l0_1.length c0_1):=(Zu BK86001.out 1).trans rfl;have hfz11_0:=Zt BK86001.out 0;have hfz11_1:=Zt BK86001.out 1)|((with_reducible refine ZG (f:=83) rfl ?_);refine ZV (some 9) rfl rfl Try.func83 (by kernel_rfl) rfl #[.agg #[.int .i64 a0_0,.slice A0_1 l0_1.length c0_1]] rfl (by(try simp only[List.map_toArray,List.map_cons,List.map_nil]);first|done|rfl|(simp only[Zk,Zj];rfl)) ?_;(with_reducible refine(ZaP.calls k a0_0 _ _ l0_1 true _ ?side1 ?side2 A3.out).mono ?_);(case side1=>repeat(first|exact(Zb HR0_1.out HB.out)|(with_reducible refine Kd.C_alloc ?_ _)|(with_reducible refine Kd.C_drewN ?_ _)|(with_reducible refine Kd.C_drew ?_)));(case side2=>exact HC0_1.out);rintro e w12 ⟨rfl,hb⟩;refine⟨_,rfl,?_⟩;have n0_:=Za (Zx (g:=gb86001) (o:=.cells #[.int .i64 a0_0,.slice A0_1 l0_1.length c0_1] 25 (0,0)) (by(with_reducible repeat(first|refine Zo ?_ _|refine Zq ?_|refine Zn ?_ _));exact BK86001.out) hb);have n1_:=Za (Zx (g:=gb86002) (o:=.cells #[.int .i64 0,.int .i64 0] 29 (0,0)) (by(with_reducible repeat(first|refine Zo ?_ _|refine Zq ?_|refine Zn ?_ _));exact BK86002.out) hb);have n2_:=Za (Zy (by repeat(first|(with_reducible first|exact HB.out|apply Zr|apply Zm|apply Zs|refine Zp ?_ GE86001.out|refine Zp ?_ GE86002.out)|exact HB.out)) hb);clear BK86001;clear BK86002;clear HB;have BK86001:=n0_;have BK86002:=n1_;have HB:=n2_;clear n0_ n1_ n2_;(try clear hb);(try clear hb2);(try clear hk);(try clear hi);have hcz13_0:w12.cell? ⟨gb86001,0,none⟩=some (.int .i64 a0_0):=(Zu BK86001.out 0).trans rfl;have hcz13_1:w12.cell? ⟨gb86001,1,none⟩=some (.slice A0_1 l0_1.length c0_1):=(Zu BK86001.out 1).trans rfl;have hfz13_0:=Zt BK86001.out 0;have hfz13_1:=Zt BK86001.out 1)|((with_reducible refine ZG (f:=131) rfl ?_);refine ZV (some 14) rfl rfl Try.func131 (by kernel_rfl) rfl #[.agg #[.int .i64 a0_0,.slice A0_1 l0_1.length c0_1]] rfl (by(try simp only[List.map_toArray,List.map_cons,List.map_nil]);first|done|rfl|(simp only[Zk,Zj];rfl)) ?_;(with_reducible refine(ZaF.calls k a0_0 _ _ l0_1 t86004 t86005 _ ?side1 ?side2 A5.out).mono ?_);(case side1=>repeat(first|exact(Zb HR0_1.out HB.out)|(with_reducible refine Kd.C_alloc ?_ _)|(with_reducible refine Kd.C_drewN ?_ _)|(with_reducible refine Kd.C_drew ?_)));(case side2=>exact HC0_1.out);rintro e w14 ⟨v86006,rfl,ho0,hb⟩;refine⟨_,rfl,?_⟩;have n0_:=Za (Kd.R_lower ho0 (Zv (by repeat(first|(with_reducible first|exact HB.out|apply Zr|apply Zm|apply Zs|refine Zp ?_ GE86001.out|refine Zp ?_ GE86002.out)|exact HB.out))));have n1_:=Za (Zx (g:=gb86001) (o:=.cells #[.int .i64 a0_0,.slice A0_1 l0_1.length c0_1] 25 (0,0)) (by(with_reducible repeat(first|refine Zo ?_ _|refine Zq ?_|refine Zn ?_ _));exact BK86001.out) hb);have n2_:=Za (Zx (g:=gb86002) (o:=.cells #[.int .i64 0,.int .i64 0] 29 (0,0)) (by(with_reducible repeat(first|refine Zo ?_ _|refine Zq ?_|refine Zn ?_ _));exact BK86002.out) hb);have n3_:=Za (Zy (by repeat(first|(with_reducible first|exact HB.out|apply Zr|apply Zm|apply Zs|refine Zp ?_ GE86001.out|refine Zp ?_ GE86002.out)|exact HB.out)) hb);clear BK86001;clear BK86002;clear HB;have HO86007:=n0_;have BK86001:=n1_;have BK86002:=n2_;have HB:=n3_;clear n0_ n1_ n2_ n3_;(try clear hb);(try clear hb2);(try clear hk);(try clear hi);(try clear ho0);obtain⟨Ao15,co15,eo15⟩:=Kd.R_slice HO86007.out;subst eo15)|((with_reducible refine ZG (f:=134) rfl ?_);refine ZV (some 15) rfl rfl Try.func134 (by kernel_rfl) rfl #[.agg #[.int .i64 t86004,.slice Ao15 t86005.length co15]] rfl (by(try simp only[List.map_toArray,List.map_cons,List.map_nil]);first|done|rfl|(simp only[Zk,Zj];rfl)) ?_;(with_reducible refine(ZL.calls k t86004 _ _ t86005 t86008 t86009 t86012 _ ?side1 ?side2 A6.out).mono ?_);(case side1=>repeat(first|exact(Kd.R_reads' HO86007.out).2.2|(with_reducible refine Kd.C_alloc ?_ _)|(with_reducible refine Kd.C_drewN ?_ _)|(with_reducible refine Kd.C_drew ?_)));(case side2=>exact(Kd.R_reads' HO86007.out).2.1);rintro e w16 ⟨v86010,rfl,ho0,hb⟩;refine⟨_,rfl,?_⟩;have n0_:=Za (Kd.R_below (by(with_reducible repeat(first|apply Kd.R_alloc|apply Kd.R_drewN|apply Kd.R_drew));exact HO86007.out) hb);have n1_:=Za (Kd.R_lower ho0 (Zv (by repeat(first|(with_reducible first|exact HB.out|apply Zr|apply Zm|apply Zs|refine Zp ?_ GE86001.out|refine Zp ?_ GE86002.out)|exact HB.out))));have n2_:=Za (Zx (g:=gb86001) (o:=.cells #[.int .i64 a0_0,.slice A0_1 l0_1.length c0_1] 25 (0,0)) (by(with_reducible repeat(first|refine Zo ?_ _|refine Zq ?_|refine Zn ?_ _));exact BK86001.out) hb);have n3_:=Za (Zx (g:=gb86002) (o:=.cells #[.int .i64 0,.int .i64 0] 29 (0,0)) (by(with_reducible repeat(first|refine Zo ?_ _|refine Zq ?_|refine Zn ?_ _));exact BK86002.out) hb);have n4_:=Za (Zy (by repeat(first|(with_reducible first|exact HB.out|apply Zr|apply Zm|apply Zs|refine Zp ?_ GE86001.out|refine Zp ?_ GE86002.out)|exact HB.out)) hb);clear HO86007;clear BK86001;clear BK86002;clear HB;have HO86007:=n0_;have HO86011:=n1_;have BK86001:=n2_;have BK86002:=n3_;have HB:=n4_;clear n0_ n1_ n2_ n3_ n4_;(try clear hb);(try clear hb2);(try clear hk);(try clear hi);(try clear ho0))|((with_reducible refine ZD (N:=6) rfl ?_);refine ZE ?hg (N:=6) ?hd (cs:=#[.int .i64 0,.slice none 0 0]) (t:=90) ?hr ?_;(case hd=>rfl);(case hg=>rfl);(case hr=>first|(go_simp;done)|(go_simp;rfl));intro gb86013 hg w17 hbox hb;have n0_:=Za (Kd.R_below (by(with_reducible repeat(first|apply Kd.R_alloc|apply Kd.R_drewN|apply Kd.R_drew));exact HO86007.out) hb);have n1_:=Za (Kd.R_below (by(with_reducible repeat(first|apply Kd.R_alloc|apply Kd.R_drewN|apply Kd.R_drew));exact HO86011.out) hb);have n2_:=Za (Zx (g:=gb86001) (o:=.cells #[.int .i64 a0_0,.slice A0_1 l0_1.length c0_1] 25 (0,0)) (by(with_reducible repeat(first|refine Zo ?_ _|refine Zq ?_|refine Zn ?_ _));exact BK86001.out) hb);have n3_:=Za (Zx (g:=gb86002) (o:=.cells #[.int .i64 0,.int .i64 0] 29 (0,0)) (by(with_reducible repeat(first|refine Zo ?_ _|refine Zq ?_|refine Zn ?_ _));exact BK86002.out) hb);have n4_:=Za (Zy (by repeat(first|(with_reducible first|exact HB.out|apply Zr|apply Zm|apply Zs|refine Zp ?_ GE86001.out|refine Zp ?_ GE86002.out)|exact HB.out)) hb);have n5_:=Za (hbox);have n6_:=Za ((by rw[hg];exact(Zv (by repeat(first|(with_reducible first|exact HB.out|apply Zr|apply Zm|apply Zs|refine Zp ?_ GE86001.out|refine Zp ?_ GE86002.out)|exact HB.out))):w.heap.size≤gb86013));have n7_:=Za ((by rw[hg];exact(Zv (by repeat(first|(with_reducible first|exact HB.out|apply Zr|apply Zm|apply Zs|refine Zp ?_ GE86001.out|refine Zp ?_ GE86002.out)|exact HB.out))):w.heap.size≤gb86013));have n8_:=Za ((by rw[hg];exact Nat.ne_of_lt (ZB (g:=gb86001) (o:=.cells #[.int .i64 a0_0,.slice A0_1 l0_1.length c0_1] 25 (0,0)) (by(with_reducible repeat(first|refine Zo ?_ _|refine Zq ?_|refine Zn ?_ _));exact BK86001.out)):gb86001≠gb86013));have n9_:=Za ((by rw[hg];exact Nat.ne_of_gt (ZB (g:=gb86001) (o:=.cells #[.int .i64 a0_0,.slice A0_1 l0_1.length c0_1] 25 (0,0)) (by(with_reducible repeat(first|refine Zo ?_ _|refine Zq ?_|refine Zn ?_ _));exact BK86001.out)):gb86013≠gb86001));have n10_:=Za ((by rw[hg];exact Nat.ne_of_lt (ZB (g:=gb86002) (o:=.cells #[.int .i64 0,.int .i64 0] 29 (0,0)) (by(with_reducible repeat(first|refine Zo ?_ _|refine Zq ?_|refine Zn ?_ _));exact BK86002.out)):gb86002≠gb86013));have n11_:=Za ((by rw[hg];exact Nat.ne_of_gt (ZB (g:=gb86002) (o:=.cells #[.int .i64 0,.int .i64 0] 29 (0,0)) (by(with_reducible repeat(first|refine Zo ?_ _|refine Zq ?_|refine Zn ?_ _));exact BK86002.out)):gb86013≠gb86002));clear HO86007;clear HO86011;clear BK86001;clear BK86002;clear HB;have HO86007:=n0_;have HO86011:=n1_;have BK86001:=n2_;have BK86002:=n3_;have HB:=n4_;have BK86013:=n5_;have GW86013:=n6_;have GE86013:=n7_;have NB86001_86013:=n8_;have NB86013_86001:=n9_;have NB86002_86013:=n10_;have NB86013_86002:=n11_;clear n0_ n1_ n2_ n3_ n4_ n5_ n6_ n7_ n8_ n9_ n10_ n11_;clear hb hbox hg;have hnb18:=NB86013_86001.out;have hnc18:=NB86001_86013.out;have hnb19:=NB86013_86002.out;have hnc19:=NB86002_86013.out;have hcz20_0:w17.cell? ⟨gb86013,0,none⟩=some (.int .i64 0):=(Zu BK86013.out 0).trans rfl;have hcz20_1:w17.cell? ⟨gb86013,1,none⟩=some (.slice none 0 0):=(Zu BK86013.out 1).trans rfl;have hfz20_0:=Zt BK86013.out 0;have hfz20_1:=Zt BK86013.out 1;obtain⟨Ao21,co21,eo21⟩:=Kd.R_slice HO86011.out;subst eo21)|((with_reducible refine ZG (f:=135) rfl ?_);refine ZV (some 20) rfl rfl Try.func135 (by kernel_rfl) rfl #[.agg #[.int .i64 t86008,.slice Ao21 t86009.length co21],.int .i64 0,.int .i64 a1] rfl (by(try simp only[List.map_toArray,List.map_cons,List.map_nil]);first|done|rfl|(simp only[Zk,Zj];rfl)) ?_;(with_reducible refine(ZH.calls k t86008 _ _ t86009 0 a1 t86014 t86015 t86016 _ ?side1 ?side2 A7.out).mono ?_);(case side1=>refine(Kd.R_reads' (e:=3) (base:=w.heap.size) (ok:=fun k_=>True) (n:=t86009.length) (c:=co21) ?_).2.2;exact(by(with_reducible repeat(first|apply Kd.R_alloc|apply Kd.R_drewN|apply Kd.R_drew));exact(Kd.R_mono (Kd.R_far (p:=⟨gb86013,1,none⟩) (Kd.R_far (p:=⟨gb86013,0,none⟩) (Kd.R_types HO86011.out BK86013.out (by decide)) (fun _ hk=>hk.2) (.int .i64 t86008)) (fun _ hk=>hk.2) (.slice Ao21 t86009.length co21)) (fun _ h_=>h_.1))));(case side2=>exact(Kd.R_reads' HO86011.out).2.1);rintro e w22 ⟨rfl,hb⟩;refine⟨_,rfl,?_⟩;have n0_:=Za (Kd.R_below (by(with_reducible repeat(first|apply Kd.R_alloc|apply Kd.R_drewN|apply Kd.R_drew));exact(Kd.R_mono (Kd.R_far (p:=⟨gb86013,1,none⟩) (Kd.R_far (p:=⟨gb86013,0,none⟩) (Kd.R_types HO86007.out BK86013.out (by decide)) (fun _ hk=>hk.2) (.int .i64 t86008)) (fun _ hk=>hk.2) (.slice Ao21 t86009.length co21)) (fun _ h_=>h_.1))) hb);have n1_:=Za (Kd.R_below (by(with_reducible repeat(first|apply Kd.R_alloc|apply Kd.R_drewN|apply Kd.R_drew));exact(Kd.R_mono (Kd.R_far (p:=⟨gb86013,1,none⟩) (Kd.R_far (p:=⟨gb86013,0,none⟩) (Kd.R_types HO86011.out BK86013.out (by decide)) (fun _ hk=>hk.2) (.int .i64 t86008)) (fun _ hk=>hk.2) (.slice Ao21 t86009.length co21)) (fun _ h_=>h_.1))) hb);have n2_:=Za (Zx (g:=gb86001) (o:=.cells #[.int .i64 a0_0,.slice A0_1 l0_1.length c0_1] 25 (0,0)) (by(with_reducible repeat(first|refine Zo ?_ _|refine Zq ?_|refine Zn ?_ _));refine ZC ?_ NB86001_86013.out _;(with_reducible repeat(first|refine Zo ?_ _|refine Zq ?_|refine Zn ?_ _));refine ZC ?_ NB86001_86013.out _;(with_reducible repeat(first|refine Zo ?_ _|refine Zq ?_|refine Zn ?_ _));exact BK86001.out) hb);have n3_:=Za (Zx (g:=gb86002) (o:=.cells #[.int .i64 0,.int .i64 0] 29 (0,0)) (by(with_reducible repeat(first|refine Zo ?_ _|refine Zq ?_|refine Zn ?_ _));refine ZC ?_ NB86002_86013.out _;(with_reducible repeat(first|refine Zo ?_ _|refine Zq ?_|refine Zn ?_ _));refine ZC ?_ NB86002_86013.out _;(with_reducible repeat(first|refine Zo ?_ _|refine Zq ?_|refine Zn ?_ _));exact BK86002.out) hb);have n4_:=Za (Zx (g:=gb86013) (o:=.cells #[.int .i64 t86008,.slice Ao21 t86009.length co21] 90 (0,0)) (by(with_reducible repeat(first|refine Zo ?_ _|refine Zq ?_|refine Zn ?_ _));refine ZF (cs:=#[.int .i64 t86008,.slice none 0 0]) ?_ 1 _ rfl;(with_reducible repeat(first|refine Zo ?_ _|refine Zq ?_|refine Zn ?_ _));refine ZF (cs:=#[.int .i64 0,.slice none 0 0]) ?_ 0 _ rfl;(with_reducible repeat(first|refine Zo ?_ _|refine Zq ?_|refine Zn ?_ _));exact BK86013.out) hb);have n5_:=Za (Zy (by repeat(first|(with_reducible first|exact HB.out|apply Zr|apply Zm|apply Zs|refine Zp ?_ GE86001.out|refine Zp ?_ GE86002.out|refine Zp ?_ GE86013.out)|exact HB.out)) hb);clear HO86007;clear HO86011;clear BK86001;clear BK86002;clear BK86013;clear HB;have HO86007:=n0_;have HO86011:=n1_;have BK86001:=n2_;have BK86002:=n3_;have BK86013:=n4_;have HB:=n5_;clear n0_ n1_ n2_ n3_ n4_ n5_;(try clear hb);(try clear hb2);(try clear hk);(try clear hi);have hcz23_0:w22.cell? ⟨gb86002,0,none⟩=some (.int .i64 0):=(Zu BK86002.out 0).trans rfl;have hcz23_1:w22.cell? ⟨gb86002,1,none⟩=some (.int .i64 0):=(Zu BK86002.out 1).trans rfl;have hfz23_0:=Zt BK86002.out 0;have hfz23_1:=Zt BK86002.out 1))
  refine bodyPost_ret (Z5 rfl _ _ gb86002 29 #[.int .i64 t86014,.int .i64 t86015] (0,0) _ rfl (by(with_reducible repeat(first|refine Zo ?_ _|refine Zq ?_|refine Zn ?_ _));refine ZF (cs:=#[.int .i64 t86014,.int .i64 0]) ?_ 1 _ rfl;(with_reducible repeat(first|refine Zo ?_ _|refine Zq ?_|refine Zn ?_ _));refine ZF (cs:=#[.int .i64 0,.int .i64 0]) ?_ 0 _ rfl;(with_reducible repeat(first|refine Zo ?_ _|refine Zq ?_|refine Zn ?_ _));exact BK86002.out) Try.underlying29 rfl (by kernel_rfl)) rfl ?_
  exact⟨by first|rfl|(simp[ZA,Zz] <;> rfl)|(simp[*,ZA,Zz] <;> rfl),by repeat(first|(with_reducible first|exact HB.out|apply Zr|apply Zm|apply Zs|refine Zp ?_ GE86001.out|refine Zp ?_ GE86002.out|refine Zp ?_ GE86013.out)|exact HB.out)⟩
 ·replace c4:=Bool.eq_false_iff.mpr c4
  subst c4
  have H1:(some (0,0,false))=some (r1,r2,r3):=by rw[if_neg (show ¬(false=true) by decide)] at H;exact H
  clear H
  have H:=H1
  clear H1
  simp only[Option.some.injEq,Prod.mk.injEq] at H
  obtain⟨rfl,rfl,rfl⟩:=H
  go_enter Try.func86,Try.ntmps86
  go_wp2_with (first|((with_reducible refine ZD (N:=2) rfl ?_);refine ZE ?hg (N:=2) ?hd (cs:=#[.int .i64 a0_0,.slice A0_1 l0_1.length c0_1]) (t:=25) ?hr ?_;(case hd=>rfl);(case hg=>rfl);(case hr=>first|(go_simp;done)|(go_simp;rfl));intro gb86001 hg w24 hbox hb;have n0_:=Za (Zy (by repeat(first|(with_reducible first|exact HB.out|apply Zr|apply Zm|apply Zs)|exact HB.out)) hb);have n1_:=Za (hbox);have n2_:=Za ((by rw[hg];exact(Zv (by repeat(first|(with_reducible first|exact HB.out|apply Zr|apply Zm|apply Zs)|exact HB.out))):w.heap.size≤gb86001));have n3_:=Za ((by rw[hg];exact(Zv (by repeat(first|(with_reducible first|exact HB.out|apply Zr|apply Zm|apply Zs)|exact HB.out))):w.heap.size≤gb86001));clear HB;have HB:=n0_;have BK86001:=n1_;have GW86001:=n2_;have GE86001:=n3_;clear n0_ n1_ n2_ n3_;clear hb hbox hg)|((with_reducible refine ZD (N:=4) rfl ?_);refine ZE ?hg (N:=4) ?hd (cs:=#[.int .i64 0,.int .i64 0]) (t:=29) ?hr ?_;(case hd=>rfl);(case hg=>rfl);(case hr=>first|(go_simp;done)|(go_simp;rfl));intro gb86002 hg w25 hbox hb;have n0_:=Za (Zx (g:=gb86001) (o:=.cells #[.int .i64 a0_0,.slice A0_1 l0_1.length c0_1] 25 (0,0)) (by(with_reducible repeat(first|refine Zo ?_ _|refine Zq ?_|refine Zn ?_ _));exact BK86001.out) hb);have n1_:=Za (Zy (by repeat(first|(with_reducible first|exact HB.out|apply Zr|apply Zm|apply Zs|refine Zp ?_ GE86001.out)|exact HB.out)) hb);have n2_:=Za (hbox);have n3_:=Za ((by rw[hg];exact(Zv (by repeat(first|(with_reducible first|exact HB.out|apply Zr|apply Zm|apply Zs|refine Zp ?_ GE86001.out)|exact HB.out))):w.heap.size≤gb86002));have n4_:=Za ((by rw[hg];exact(Zv (by repeat(first|(with_reducible first|exact HB.out|apply Zr|apply Zm|apply Zs|refine Zp ?_ GE86001.out)|exact HB.out))):w.heap.size≤gb86002));have n5_:=Za ((by rw[hg];exact Nat.ne_of_lt (ZB (g:=gb86001) (o:=.cells #[.int .i64 a0_0,.slice A0_1 l0_1.length c0_1] 25 (0,0)) (by(with_reducible repeat(first|refine Zo ?_ _|refine Zq ?_|refine Zn ?_ _));exact BK86001.out)):gb86001≠gb86002));have n6_:=Za ((by rw[hg];exact Nat.ne_of_gt (ZB (g:=gb86001) (o:=.cells #[.int .i64 a0_0,.slice A0_1 l0_1.length c0_1] 25 (0,0)) (by(with_reducible repeat(first|refine Zo ?_ _|refine Zq ?_|refine Zn ?_ _));exact BK86001.out)):gb86002≠gb86001));clear BK86001;clear HB;have BK86001:=n0_;have HB:=n1_;have BK86002:=n2_;have GW86002:=n3_;have GE86002:=n4_;have NB86001_86002:=n5_;have NB86002_86001:=n6_;clear n0_ n1_ n2_ n3_ n4_ n5_ n6_;clear hb hbox hg;have hnb26:=NB86001_86002.out;have hnc26:=NB86002_86001.out;have hcz27_0:w25.cell? ⟨gb86001,0,none⟩=some (.int .i64 a0_0):=(Zu BK86001.out 0).trans rfl;have hcz27_1:w25.cell? ⟨gb86001,1,none⟩=some (.slice A0_1 l0_1.length c0_1):=(Zu BK86001.out 1).trans rfl;have hfz27_0:=Zt BK86001.out 0;have hfz27_1:=Zt BK86001.out 1)|((with_reducible refine ZG (f:=83) rfl ?_);refine ZV (some 9) rfl rfl Try.func83 (by kernel_rfl) rfl #[.agg #[.int .i64 a0_0,.slice A0_1 l0_1.length c0_1]] rfl (by(try simp only[List.map_toArray,List.map_cons,List.map_nil]);first|done|rfl|(simp only[Zk,Zj];rfl)) ?_;(with_reducible refine(ZaP.calls k a0_0 _ _ l0_1 false _ ?side1 ?side2 A3.out).mono ?_);(case side1=>repeat(first|exact(Zb HR0_1.out HB.out)|(with_reducible refine Kd.C_alloc ?_ _)|(with_reducible refine Kd.C_drewN ?_ _)|(with_reducible refine Kd.C_drew ?_)));(case side2=>exact HC0_1.out);rintro e w28 ⟨rfl,hb⟩;refine⟨_,rfl,?_⟩;have n0_:=Za (Zx (g:=gb86001) (o:=.cells #[.int .i64 a0_0,.slice A0_1 l0_1.length c0_1] 25 (0,0)) (by(with_reducible repeat(first|refine Zo ?_ _|refine Zq ?_|refine Zn ?_ _));exact BK86001.out) hb);have n1_:=Za (Zx (g:=gb86002) (o:=.cells #[.int .i64 0,.int .i64 0] 29 (0,0)) (by(with_reducible repeat(first|refine Zo ?_ _|refine Zq ?_|refine Zn ?_ _));exact BK86002.out) hb);have n2_:=Za (Zy (by repeat(first|(with_reducible first|exact HB.out|apply Zr|apply Zm|apply Zs|refine Zp ?_ GE86001.out|refine Zp ?_ GE86002.out)|exact HB.out)) hb);clear BK86001;clear BK86002;clear HB;have BK86001:=n0_;have BK86002:=n1_;have HB:=n2_;clear n0_ n1_ n2_;(try clear hb);(try clear hb2);(try clear hk);(try clear hi);have hcz29_0:w28.cell? ⟨gb86002,0,none⟩=some (.int .i64 0):=(Zu BK86002.out 0).trans rfl;have hcz29_1:w28.cell? ⟨gb86002,1,none⟩=some (.int .i64 0):=(Zu BK86002.out 1).trans rfl;have hfz29_0:=Zt BK86002.out 0;have hfz29_1:=Zt BK86002.out 1))
  refine bodyPost_ret (Z5 rfl _ _ gb86002 29 #[.int .i64 0,.int .i64 0] (0,0) _ rfl (by(with_reducible repeat(first|refine Zo ?_ _|refine Zq ?_|refine Zn ?_ _));refine ZF (cs:=#[.int .i64 0,.int .i64 0]) ?_ 1 _ rfl;(with_reducible repeat(first|refine Zo ?_ _|refine Zq ?_|refine Zn ?_ _));refine ZF (cs:=#[.int .i64 0,.int .i64 0]) ?_ 0 _ rfl;(with_reducible repeat(first|refine Zo ?_ _|refine Zq ?_|refine Zn ?_ _));exact BK86002.out) Try.underlying29 rfl (by kernel_rfl)) rfl ?_
  exact⟨by first|rfl|(simp[ZA,Zz] <;> rfl)|(simp[*,ZA,Zz] <;> rfl),by repeat(first|(with_reducible first|exact HB.out|apply Zr|apply Zm|apply Zs|refine Zp ?_ GE86001.out|refine Zp ?_ GE86002.out)|exact HB.out)⟩
def Zbk.f (k:Nat) (a0_0:Int) (l0_1:List (S101)) (l1:List Int) (a2:Int):Option (Int×Int×Bool):=(Z4.f k a0_0 l0_1 l1).bind fun bt35003=>(if bt35003.2.2=true then((ZaU.f k bt35003.1 bt35003.2.1 a2).bind fun bt35009=>(some (bt35009.1,bt35009.2.1,bt35009.2.2))) else(some (0,0,false)))
set_option maxHeartbeats 8000000 in
set_option maxRecDepth 100000 in
theorem Zbk.calls (k:Nat) (a0_0:Int) (A0_1:Option Addr) (c0_1:Nat) (l0_1:List (S101)) (A1:Option Addr) (c1:Nat) (l1:List Int) (a2:Int) (r1:Int) (r2:Int) (r3:Bool) (w:World) (hr0_1:Kd.C k101 w A0_1 l0_1.length l0_1) (hc0_1:l0_1.length≤c0_1) (hr1:Kd.C (Kd.int .i64) w A1 l1.length l1) (hc1:l1.length≤c1) (h:Zbk.f k a0_0 l0_1 l1 a2=some (r1,r2,r3)) :
  Calls Try.prog 35 #[.agg #[.int .i64 a0_0,.slice A0_1 l0_1.length c0_1],.slice A1 l1.length c1,.int .i64 a2] w fun e w'=>e=.returned (.tuple #[.agg #[.int .i64 r1,.int .i64 r2],.bool r3])∧Below w.heap.size w w':=by
 have hu25:=Try.underlying25
 have hu29:=Try.underlying29
 have HR0_1:=Za hr0_1;have HC0_1:=Za hc0_1;clear hr0_1 hc0_1;have HR1:=Za hr1;have HC1:=Za hc1;clear hr1 hc1
 have HB:=Za (Below.refl w.heap.size w)
 have H:((Z4.f k a0_0 l0_1 l1).bind fun bt35003=>(if bt35003.2.2=true then((ZaU.f k bt35003.1 bt35003.2.1 a2).bind fun bt35009=>(some (bt35009.1,bt35009.2.1,bt35009.2.2))) else(some (0,0,false))))=some (r1,r2,r3):=h
 clear h
 replace H:=Zh H
 obtain⟨⟨t35003,t35004,t35007⟩,A40,H⟩:=H
 replace H:(if t35007=true then((ZaU.f k t35003 t35004 a2).bind fun bt35009=>(some (bt35009.1,bt35009.2.1,bt35009.2.2))) else(some (0,0,false)))=some (r1,r2,r3):=H
 have A4:=Za A40;clear A40
 by_cases c5:t35007=true
 ·subst c5
  have H1:((ZaU.f k t35003 t35004 a2).bind fun bt35009=>(some (bt35009.1,bt35009.2.1,bt35009.2.2)))=some (r1,r2,r3):=by rw[if_pos rfl] at H;exact H
  clear H
  have H:=H1
  clear H1
  replace H:=Zh H
  obtain⟨⟨t35009,t35010,t35011⟩,A60,H⟩:=H
  replace H:(some (t35009,t35010,t35011))=some (r1,r2,r3):=H
  have A6:=Za A60;clear A60
  simp only[Option.some.injEq,Prod.mk.injEq] at H
  obtain⟨rfl,rfl,rfl⟩:=H
  go_enter Try.func35,Try.ntmps35
  go_wp2_with (first|((with_reducible refine ZD (N:=3) rfl ?_);refine ZE ?hg (N:=3) ?hd (cs:=#[.int .i64 a0_0,.slice A0_1 l0_1.length c0_1]) (t:=25) ?hr ?_;(case hd=>rfl);(case hg=>rfl);(case hr=>first|(go_simp;done)|(go_simp;rfl));intro gb35001 hg w7 hbox hb;have n0_:=Za (Zy (by repeat(first|(with_reducible first|exact HB.out|apply Zr|apply Zm|apply Zs)|exact HB.out)) hb);have n1_:=Za (hbox);have n2_:=Za ((by rw[hg];exact(Zv (by repeat(first|(with_reducible first|exact HB.out|apply Zr|apply Zm|apply Zs)|exact HB.out))):w.heap.size≤gb35001));have n3_:=Za ((by rw[hg];exact(Zv (by repeat(first|(with_reducible first|exact HB.out|apply Zr|apply Zm|apply Zs)|exact HB.out))):w.heap.size≤gb35001));clear HB;have HB:=n0_;have BK35001:=n1_;have GW35001:=n2_;have GE35001:=n3_;clear n0_ n1_ n2_ n3_;clear hb hbox hg)|((with_reducible refine ZD (N:=6) rfl ?_);refine ZE ?hg (N:=6) ?hd (cs:=#[.int .i64 0,.int .i64 0]) (t:=29) ?hr ?_;(case hd=>rfl);(case hg=>rfl);(case hr=>first|(go_simp;done)|(go_simp;rfl));intro gb35002 hg w8 hbox hb;have n0_:=Za (Zx (g:=gb35001) (o:=.cells #[.int .i64 a0_0,.slice A0_1 l0_1.length c0_1] 25 (0,0)) (by(with_reducible repeat(first|refine Zo ?_ _|refine Zq ?_|refine Zn ?_ _));exact BK35001.out) hb);have n1_:=Za (Zy (by repeat(first|(with_reducible first|exact HB.out|apply Zr|apply Zm|apply Zs|refine Zp ?_ GE35001.out)|exact HB.out)) hb);have n2_:=Za (hbox);have n3_:=Za ((by rw[hg];exact(Zv (by repeat(first|(with_reducible first|exact HB.out|apply Zr|apply Zm|apply Zs|refine Zp ?_ GE35001.out)|exact HB.out))):w.heap.size≤gb35002));have n4_:=Za ((by rw[hg];exact(Zv (by repeat(first|(with_reducible first|exact HB.out|apply Zr|apply Zm|apply Zs|refine Zp ?_ GE35001.out)|exact HB.out))):w.heap.size≤gb35002));have n5_:=Za ((by rw[hg];exact Nat.ne_of_lt (ZB (g:=gb35001) (o:=.cells #[.int .i64 a0_0,.slice A0_1 l0_1.length c0_1] 25 (0,0)) (by(with_reducible repeat(first|refine Zo ?_ _|refine Zq ?_|refine Zn ?_ _));exact BK35001.out)):gb35001≠gb35002));have n6_:=Za ((by rw[hg];exact Nat.ne_of_gt (ZB (g:=gb35001) (o:=.cells #[.int .i64 a0_0,.slice A0_1 l0_1.length c0_1] 25 (0,0)) (by(with_reducible repeat(first|refine Zo ?_ _|refine Zq ?_|refine Zn ?_ _));exact BK35001.out)):gb35002≠gb35001));clear BK35001;clear HB;have BK35001:=n0_;have HB:=n1_;have BK35002:=n2_;have GW35002:=n3_;have GE35002:=n4_;have NB35001_35002:=n5_;have NB35002_35001:=n6_;clear n0_ n1_ n2_ n3_ n4_ n5_ n6_;clear hb hbox hg;have hnb9:=NB35001_35002.out;have hnc9:=NB35002_35001.out;have hcz10_0:w8.cell? ⟨gb35001,0,none⟩=some (.int .i64 a0_0):=(Zu BK35001.out 0).trans rfl;have hcz10_1:w8.cell? ⟨gb35001,1,none⟩=some (.slice A0_1 l0_1.length c0_1):=(Zu BK35001.out 1).trans rfl;have hfz10_0:=Zt BK35001.out 0;have hfz10_1:=Zt BK35001.out 1)|((with_reducible refine ZG (f:=82) rfl ?_);refine ZV (some 13) rfl rfl Try.func82 (by kernel_rfl) rfl #[.agg #[.int .i64 a0_0,.slice A0_1 l0_1.length c0_1],.slice A1 l1.length c1] rfl (by(try simp only[List.map_toArray,List.map_cons,List.map_nil]);first|done|rfl|(simp only[Zk,Zj];rfl)) ?_;(with_reducible refine(Z4.calls k a0_0 _ _ l0_1 _ _ l1 t35003 t35004 true _ ?side1 ?side2 ?side3 ?side4 A4.out).mono ?_);(case side1=>repeat(first|exact(Zb HR0_1.out HB.out)|(with_reducible refine Kd.C_alloc ?_ _)|(with_reducible refine Kd.C_drewN ?_ _)|(with_reducible refine Kd.C_drew ?_)));(case side2=>exact HC0_1.out);(case side3=>repeat(first|exact(Zb HR1.out HB.out)|(with_reducible refine Kd.C_alloc ?_ _)|(with_reducible refine Kd.C_drewN ?_ _)|(with_reducible refine Kd.C_drew ?_)));(case side4=>exact HC1.out);rintro e w11 ⟨v35005,rfl,ho0,hb⟩;refine⟨_,rfl,?_⟩;have n0_:=Za (Kd.R_lower ho0 (Zv (by repeat(first|(with_reducible first|exact HB.out|apply Zr|apply Zm|apply Zs|refine Zp ?_ GE35001.out|refine Zp ?_ GE35002.out)|exact HB.out))));have n1_:=Za (Zx (g:=gb35001) (o:=.cells #[.int .i64 a0_0,.slice A0_1 l0_1.length c0_1] 25 (0,0)) (by(with_reducible repeat(first|refine Zo ?_ _|refine Zq ?_|refine Zn ?_ _));exact BK35001.out) hb);have n2_:=Za (Zx (g:=gb35002) (o:=.cells #[.int .i64 0,.int .i64 0] 29 (0,0)) (by(with_reducible repeat(first|refine Zo ?_ _|refine Zq ?_|refine Zn ?_ _));exact BK35002.out) hb);have n3_:=Za (Zy (by repeat(first|(with_reducible first|exact HB.out|apply Zr|apply Zm|apply Zs|refine Zp ?_ GE35001.out|refine Zp ?_ GE35002.out)|exact HB.out)) hb);clear BK35001;clear BK35002;clear HB;have HO35006:=n0_;have BK35001:=n1_;have BK35002:=n2_;have HB:=n3_;clear n0_ n1_ n2_ n3_;(try clear hb);(try clear hb2);(try clear hk);(try clear hi);(try clear ho0))|((with_reducible refine ZD (N:=8) rfl ?_);refine ZE ?hg (N:=8) ?hd (cs:=#[.int .i64 0,.slice none 0 0]) (t:=25) ?hr ?_;(case hd=>rfl);(case hg=>rfl);(case hr=>first|(go_simp;done)|(go_simp;rfl));intro gb35008 hg w12 hbox hb;have n0_:=Za (Kd.R_below (by(with_reducible repeat(first|apply Kd.R_alloc|apply Kd.R_drewN|apply Kd.R_drew));exact HO35006.out) hb);have n1_:=Za (Zx (g:=gb35001) (o:=.cells #[.int .i64 a0_0,.slice A0_1 l0_1.length c0_1] 25 (0,0)) (by(with_reducible repeat(first|refine Zo ?_ _|refine Zq ?_|refine Zn ?_ _));exact BK35001.out) hb);have n2_:=Za (Zx (g:=gb35002) (o:=.cells #[.int .i64 0,.int .i64 0] 29 (0,0)) (by(with_reducible repeat(first|refine Zo ?_ _|refine Zq ?_|refine Zn ?_ _));exact BK35002.out) hb);have n3_:=Za (Zy (by repeat(first|(with_reducible first|exact HB.out|apply Zr|apply Zm|apply Zs|refine Zp ?_ GE35001.out|refine Zp ?_ GE35002.out)|exact HB.out)) hb);have n4_:=Za (hbox);have n5_:=Za ((by rw[hg];exact(Zv (by repeat(first|(with_reducible first|exact HB.out|apply Zr|apply Zm|apply Zs|refine Zp ?_ GE35001.out|refine Zp ?_ GE35002.out)|exact HB.out))):w.heap.size≤gb35008));have n6_:=Za ((by rw[hg];exact(Zv (by repeat(first|(with_reducible first|exact HB.out|apply Zr|apply Zm|apply Zs|refine Zp ?_ GE35001.out|refine Zp ?_ GE35002.out)|exact HB.out))):w.heap.size≤gb35008));have n7_:=Za ((by rw[hg];exact Nat.ne_of_lt (ZB (g:=gb35001) (o:=.cells #[.int .i64 a0_0,.slice A0_1 l0_1.length c0_1] 25 (0,0)) (by(with_reducible repeat(first|refine Zo ?_ _|refine Zq ?_|refine Zn ?_ _));exact BK35001.out)):gb35001≠gb35008));have n8_:=Za ((by rw[hg];exact Nat.ne_of_gt (ZB (g:=gb35001) (o:=.cells #[.int .i64 a0_0,.slice A0_1 l0_1.length c0_1] 25 (0,0)) (by(with_reducible repeat(first|refine Zo ?_ _|refine Zq ?_|refine Zn ?_ _));exact BK35001.out)):gb35008≠gb35001));have n9_:=Za ((by rw[hg];exact Nat.ne_of_lt (ZB (g:=gb35002) (o:=.cells #[.int .i64 0,.int .i64 0] 29 (0,0)) (by(with_reducible repeat(first|refine Zo ?_ _|refine Zq ?_|refine Zn ?_ _));exact BK35002.out)):gb35002≠gb35008));have n10_:=Za ((by rw[hg];exact Nat.ne_of_gt (ZB (g:=gb35002) (o:=.cells #[.int .i64 0,.int .i64 0] 29 (0,0)) (by(with_reducible repeat(first|refine Zo ?_ _|refine Zq ?_|refine Zn ?_ _));exact BK35002.out)):gb35008≠gb35002));clear HO35006;clear BK35001;clear BK35002;clear HB;have HO35006:=n0_;have BK35001:=n1_;have BK35002:=n2_;have HB:=n3_;have BK35008:=n4_;have GW35008:=n5_;have GE35008:=n6_;have NB35001_35008:=n7_;have NB35008_35001:=n8_;have NB35002_35008:=n9_;have NB35008_35002:=n10_;clear n0_ n1_ n2_ n3_ n4_ n5_ n6_ n7_ n8_ n9_ n10_;clear hb hbox hg;have hnb13:=NB35008_35001.out;have hnc13:=NB35001_35008.out;have hnb14:=NB35008_35002.out;have hnc14:=NB35002_35008.out;have hcz15_0:w12.cell? ⟨gb35008,0,none⟩=some (.int .i64 0):=(Zu BK35008.out 0).trans rfl;have hcz15_1:w12.cell? ⟨gb35008,1,none⟩=some (.slice none 0 0):=(Zu BK35008.out 1).trans rfl;have hfz15_0:=Zt BK35008.out 0;have hfz15_1:=Zt BK35008.out 1;obtain⟨Ao16,co16,eo16⟩:=Kd.R_slice HO35006.out;subst eo16)|((with_reducible refine ZG (f:=86) rfl ?_);refine ZV (some 21) rfl rfl Try.func86 (by kernel_rfl) rfl #[.agg #[.int .i64 t35003,.slice Ao16 t35004.length co16],.int .i64 a2] rfl (by(try simp only[List.map_toArray,List.map_cons,List.map_nil]);first|done|rfl|(simp only[Zk,Zj];rfl)) ?_;(with_reducible refine(ZaU.calls k t35003 _ _ t35004 a2 t35009 t35010 t35011 _ ?side1 ?side2 A6.out).mono ?_);(case side1=>refine(Kd.R_reads' (e:=101) (base:=w.heap.size) (ok:=fun k_=>True) (n:=t35004.length) (c:=co16) ?_).2.2;exact(by(with_reducible repeat(first|apply Kd.R_alloc|apply Kd.R_drewN|apply Kd.R_drew));exact(Kd.R_mono (Kd.R_far (p:=⟨gb35008,1,none⟩) (Kd.R_far (p:=⟨gb35008,0,none⟩) (Kd.R_types HO35006.out BK35008.out (by decide)) (fun _ hk=>hk.2) (.int .i64 t35003)) (fun _ hk=>hk.2) (.slice Ao16 t35004.length co16)) (fun _ h_=>h_.1))));(case side2=>exact(Kd.R_reads' HO35006.out).2.1);rintro e w17 ⟨rfl,hb⟩;refine⟨_,rfl,?_⟩;have n0_:=Za (Kd.R_below (by(with_reducible repeat(first|apply Kd.R_alloc|apply Kd.R_drewN|apply Kd.R_drew));exact(Kd.R_mono (Kd.R_far (p:=⟨gb35008,1,none⟩) (Kd.R_far (p:=⟨gb35008,0,none⟩) (Kd.R_types HO35006.out BK35008.out (by decide)) (fun _ hk=>hk.2) (.int .i64 t35003)) (fun _ hk=>hk.2) (.slice Ao16 t35004.length co16)) (fun _ h_=>h_.1))) hb);have n1_:=Za (Zx (g:=gb35001) (o:=.cells #[.int .i64 a0_0,.slice A0_1 l0_1.length c0_1] 25 (0,0)) (by(with_reducible repeat(first|refine Zo ?_ _|refine Zq ?_|refine Zn ?_ _));refine ZC ?_ NB35001_35008.out _;(with_reducible repeat(first|refine Zo ?_ _|refine Zq ?_|refine Zn ?_ _));refine ZC ?_ NB35001_35008.out _;(with_reducible repeat(first|refine Zo ?_ _|refine Zq ?_|refine Zn ?_ _));exact BK35001.out) hb);have n2_:=Za (Zx (g:=gb35002) (o:=.cells #[.int .i64 0,.int .i64 0] 29 (0,0)) (by(with_reducible repeat(first|refine Zo ?_ _|refine Zq ?_|refine Zn ?_ _));refine ZC ?_ NB35002_35008.out _;(with_reducible repeat(first|refine Zo ?_ _|refine Zq ?_|refine Zn ?_ _));refine ZC ?_ NB35002_35008.out _;(with_reducible repeat(first|refine Zo ?_ _|refine Zq ?_|refine Zn ?_ _));exact BK35002.out) hb);have n3_:=Za (Zx (g:=gb35008) (o:=.cells #[.int .i64 t35003,.slice Ao16 t35004.length co16] 25 (0,0)) (by(with_reducible repeat(first|refine Zo ?_ _|refine Zq ?_|refine Zn ?_ _));refine ZF (cs:=#[.int .i64 t35003,.slice none 0 0]) ?_ 1 _ rfl;(with_reducible repeat(first|refine Zo ?_ _|refine Zq ?_|refine Zn ?_ _));refine ZF (cs:=#[.int .i64 0,.slice none 0 0]) ?_ 0 _ rfl;(with_reducible repeat(first|refine Zo ?_ _|refine Zq ?_|refine Zn ?_ _));exact BK35008.out) hb);have n4_:=Za (Zy (by repeat(first|(with_reducible first|exact HB.out|apply Zr|apply Zm|apply Zs|refine Zp ?_ GE35001.out|refine Zp ?_ GE35002.out|refine Zp ?_ GE35008.out)|exact HB.out)) hb);clear HO35006;clear BK35001;clear BK35002;clear BK35008;clear HB;have HO35006:=n0_;have BK35001:=n1_;have BK35002:=n2_;have BK35008:=n3_;have HB:=n4_;clear n0_ n1_ n2_ n3_ n4_;(try clear hb);(try clear hb2);(try clear hk);(try clear hi);have hcz18_0:w17.cell? ⟨gb35002,0,none⟩=some (.int .i64 0):=(Zu BK35002.out 0).trans rfl;have hcz18_1:w17.cell? ⟨gb35002,1,none⟩=some (.int .i64 0):=(Zu BK35002.out 1).trans rfl;have hfz18_0:=Zt BK35002.out 0;have hfz18_1:=Zt BK35002.out 1))
  refine bodyPost_ret (Z5 rfl _ _ gb35002 29 #[.int .i64 t35009,.int .i64 t35010] (0,0) _ rfl (by(with_reducible repeat(first|refine Zo ?_ _|refine Zq ?_|refine Zn ?_ _));refine ZF (cs:=#[.int .i64 t35009,.int .i64 0]) ?_ 1 _ rfl;(with_reducible repeat(first|refine Zo ?_ _|refine Zq ?_|refine Zn ?_ _));refine ZF (cs:=#[.int .i64 0,.int .i64 0]) ?_ 0 _ rfl;(with_reducible repeat(first|refine Zo ?_ _|refine Zq ?_|refine Zn ?_ _));exact BK35002.out) Try.underlying29 rfl (by kernel_rfl)) rfl ?_
  exact⟨by first|rfl|(simp[ZA,Zz] <;> rfl)|(simp[*,ZA,Zz] <;> rfl),by repeat(first|(with_reducible first|exact HB.out|apply Zr|apply Zm|apply Zs|refine Zp ?_ GE35001.out|refine Zp ?_ GE35002.out|refine Zp ?_ GE35008.out)|exact HB.out)⟩
 ·replace c5:=Bool.eq_false_iff.mpr c5
  subst c5
  have H1:(some (0,0,false))=some (r1,r2,r3):=by rw[if_neg (show ¬(false=true) by decide)] at H;exact H
  clear H
  have H:=H1
  clear H1
  simp only[Option.some.injEq,Prod.mk.injEq] at H
  obtain⟨rfl,rfl,rfl⟩:=H
  go_enter Try.func35,Try.ntmps35
  go_wp2_with (first|((with_reducible refine ZD (N:=3) rfl ?_);refine ZE ?hg (N:=3) ?hd (cs:=#[.int .i64 a0_0,.slice A0_1 l0_1.length c0_1]) (t:=25) ?hr ?_;(case hd=>rfl);(case hg=>rfl);(case hr=>first|(go_simp;done)|(go_simp;rfl));intro gb35001 hg w19 hbox hb;have n0_:=Za (Zy (by repeat(first|(with_reducible first|exact HB.out|apply Zr|apply Zm|apply Zs)|exact HB.out)) hb);have n1_:=Za (hbox);have n2_:=Za ((by rw[hg];exact(Zv (by repeat(first|(with_reducible first|exact HB.out|apply Zr|apply Zm|apply Zs)|exact HB.out))):w.heap.size≤gb35001));have n3_:=Za ((by rw[hg];exact(Zv (by repeat(first|(with_reducible first|exact HB.out|apply Zr|apply Zm|apply Zs)|exact HB.out))):w.heap.size≤gb35001));clear HB;have HB:=n0_;have BK35001:=n1_;have GW35001:=n2_;have GE35001:=n3_;clear n0_ n1_ n2_ n3_;clear hb hbox hg)|((with_reducible refine ZD (N:=6) rfl ?_);refine ZE ?hg (N:=6) ?hd (cs:=#[.int .i64 0,.int .i64 0]) (t:=29) ?hr ?_;(case hd=>rfl);(case hg=>rfl);(case hr=>first|(go_simp;done)|(go_simp;rfl));intro gb35002 hg w20 hbox hb;have n0_:=Za (Zx (g:=gb35001) (o:=.cells #[.int .i64 a0_0,.slice A0_1 l0_1.length c0_1] 25 (0,0)) (by(with_reducible repeat(first|refine Zo ?_ _|refine Zq ?_|refine Zn ?_ _));exact BK35001.out) hb);have n1_:=Za (Zy (by repeat(first|(with_reducible first|exact HB.out|apply Zr|apply Zm|apply Zs|refine Zp ?_ GE35001.out)|exact HB.out)) hb);have n2_:=Za (hbox);have n3_:=Za ((by rw[hg];exact(Zv (by repeat(first|(with_reducible first|exact HB.out|apply Zr|apply Zm|apply Zs|refine Zp ?_ GE35001.out)|exact HB.out))):w.heap.size≤gb35002));have n4_:=Za ((by rw[hg];exact(Zv (by repeat(first|(with_reducible first|exact HB.out|apply Zr|apply Zm|apply Zs|refine Zp ?_ GE35001.out)|exact HB.out))):w.heap.size≤gb35002));have n5_:=Za ((by rw[hg];exact Nat.ne_of_lt (ZB (g:=gb35001) (o:=.cells #[.int .i64 a0_0,.slice A0_1 l0_1.length c0_1] 25 (0,0)) (by(with_reducible repeat(first|refine Zo ?_ _|refine Zq ?_|refine Zn ?_ _));exact BK35001.out)):gb35001≠gb35002));have n6_:=Za ((by rw[hg];exact Nat.ne_of_gt (ZB (g:=gb35001) (o:=.cells #[.int .i64 a0_0,.slice A0_1 l0_1.length c0_1] 25 (0,0)) (by(with_reducible repeat(first|refine Zo ?_ _|refine Zq ?_|refine Zn ?_ _));exact BK35001.out)):gb35002≠gb35001));clear BK35001;clear HB;have BK35001:=n0_;have HB:=n1_;have BK35002:=n2_;have GW35002:=n3_;have GE35002:=n4_;have NB35001_35002:=n5_;have NB35002_35001:=n6_;clear n0_ n1_ n2_ n3_ n4_ n5_ n6_;clear hb hbox hg;have hnb21:=NB35001_35002.out;have hnc21:=NB35002_35001.out;have hcz22_0:w20.cell? ⟨gb35001,0,none⟩=some (.int .i64 a0_0):=(Zu BK35001.out 0).trans rfl;have hcz22_1:w20.cell? ⟨gb35001,1,none⟩=some (.slice A0_1 l0_1.length c0_1):=(Zu BK35001.out 1).trans rfl;have hfz22_0:=Zt BK35001.out 0;have hfz22_1:=Zt BK35001.out 1)|((with_reducible refine ZG (f:=82) rfl ?_);refine ZV (some 13) rfl rfl Try.func82 (by kernel_rfl) rfl #[.agg #[.int .i64 a0_0,.slice A0_1 l0_1.length c0_1],.slice A1 l1.length c1] rfl (by(try simp only[List.map_toArray,List.map_cons,List.map_nil]);first|done|rfl|(simp only[Zk,Zj];rfl)) ?_;(with_reducible refine(Z4.calls k a0_0 _ _ l0_1 _ _ l1 t35003 t35004 false _ ?side1 ?side2 ?side3 ?side4 A4.out).mono ?_);(case side1=>repeat(first|exact(Zb HR0_1.out HB.out)|(with_reducible refine Kd.C_alloc ?_ _)|(with_reducible refine Kd.C_drewN ?_ _)|(with_reducible refine Kd.C_drew ?_)));(case side2=>exact HC0_1.out);(case side3=>repeat(first|exact(Zb HR1.out HB.out)|(with_reducible refine Kd.C_alloc ?_ _)|(with_reducible refine Kd.C_drewN ?_ _)|(with_reducible refine Kd.C_drew ?_)));(case side4=>exact HC1.out);rintro e w23 ⟨v35005,rfl,ho0,hb⟩;refine⟨_,rfl,?_⟩;have n0_:=Za (Kd.R_lower ho0 (Zv (by repeat(first|(with_reducible first|exact HB.out|apply Zr|apply Zm|apply Zs|refine Zp ?_ GE35001.out|refine Zp ?_ GE35002.out)|exact HB.out))));have n1_:=Za (Zx (g:=gb35001) (o:=.cells #[.int .i64 a0_0,.slice A0_1 l0_1.length c0_1] 25 (0,0)) (by(with_reducible repeat(first|refine Zo ?_ _|refine Zq ?_|refine Zn ?_ _));exact BK35001.out) hb);have n2_:=Za (Zx (g:=gb35002) (o:=.cells #[.int .i64 0,.int .i64 0] 29 (0,0)) (by(with_reducible repeat(first|refine Zo ?_ _|refine Zq ?_|refine Zn ?_ _));exact BK35002.out) hb);have n3_:=Za (Zy (by repeat(first|(with_reducible first|exact HB.out|apply Zr|apply Zm|apply Zs|refine Zp ?_ GE35001.out|refine Zp ?_ GE35002.out)|exact HB.out)) hb);clear BK35001;clear BK35002;clear HB;have HO35006:=n0_;have BK35001:=n1_;have BK35002:=n2_;have HB:=n3_;clear n0_ n1_ n2_ n3_;(try clear hb);(try clear hb2);(try clear hk);(try clear hi);(try clear ho0))|((with_reducible refine ZD (N:=8) rfl ?_);refine ZE ?hg (N:=8) ?hd (cs:=#[.int .i64 0,.slice none 0 0]) (t:=25) ?hr ?_;(case hd=>rfl);(case hg=>rfl);(case hr=>first|(go_simp;done)|(go_simp;rfl));intro gb35008 hg w24 hbox hb;have n0_:=Za (Kd.R_below (by(with_reducible repeat(first|apply Kd.R_alloc|apply Kd.R_drewN|apply Kd.R_drew));exact HO35006.out) hb);have n1_:=Za (Zx (g:=gb35001) (o:=.cells #[.int .i64 a0_0,.slice A0_1 l0_1.length c0_1] 25 (0,0)) (by(with_reducible repeat(first|refine Zo ?_ _|refine Zq ?_|refine Zn ?_ _));exact BK35001.out) hb);have n2_:=Za (Zx (g:=gb35002) (o:=.cells #[.int .i64 0,.int .i64 0] 29 (0,0)) (by(with_reducible repeat(first|refine Zo ?_ _|refine Zq ?_|refine Zn ?_ _));exact BK35002.out) hb);have n3_:=Za (Zy (by repeat(first|(with_reducible first|exact HB.out|apply Zr|apply Zm|apply Zs|refine Zp ?_ GE35001.out|refine Zp ?_ GE35002.out)|exact HB.out)) hb);have n4_:=Za (hbox);have n5_:=Za ((by rw[hg];exact(Zv (by repeat(first|(with_reducible first|exact HB.out|apply Zr|apply Zm|apply Zs|refine Zp ?_ GE35001.out|refine Zp ?_ GE35002.out)|exact HB.out))):w.heap.size≤gb35008));have n6_:=Za ((by rw[hg];exact(Zv (by repeat(first|(with_reducible first|exact HB.out|apply Zr|apply Zm|apply Zs|refine Zp ?_ GE35001.out|refine Zp ?_ GE35002.out)|exact HB.out))):w.heap.size≤gb35008));have n7_:=Za ((by rw[hg];exact Nat.ne_of_lt (ZB (g:=gb35001) (o:=.cells #[.int .i64 a0_0,.slice A0_1 l0_1.length c0_1] 25 (0,0)) (by(with_reducible repeat(first|refine Zo ?_ _|refine Zq ?_|refine Zn ?_ _));exact BK35001.out)):gb35001≠gb35008));have n8_:=Za ((by rw[hg];exact Nat.ne_of_gt (ZB (g:=gb35001) (o:=.cells #[.int .i64 a0_0,.slice A0_1 l0_1.length c0_1] 25 (0,0)) (by(with_reducible repeat(first|refine Zo ?_ _|refine Zq ?_|refine Zn ?_ _));exact BK35001.out)):gb35008≠gb35001));have n9_:=Za ((by rw[hg];exact Nat.ne_of_lt (ZB (g:=gb35002) (o:=.cells #[.int .i64 0,.int .i64 0] 29 (0,0)) (by(with_reducible repeat(first|refine Zo ?_ _|refine Zq ?_|refine Zn ?_ _));exact BK35002.out)):gb35002≠gb35008));have n10_:=Za ((by rw[hg];exact Nat.ne_of_gt (ZB (g:=gb35002) (o:=.cells #[.int .i64 0,.int .i64 0] 29 (0,0)) (by(with_reducible repeat(first|refine Zo ?_ _|refine Zq ?_|refine Zn ?_ _));exact BK35002.out)):gb35008≠gb35002));clear HO35006;clear BK35001;clear BK35002;clear HB;have HO35006:=n0_;have BK35001:=n1_;have BK35002:=n2_;have HB:=n3_;have BK35008:=n4_;have GW35008:=n5_;have GE35008:=n6_;have NB35001_35008:=n7_;have NB35008_35001:=n8_;have NB35002_35008:=n9_;have NB35008_35002:=n10_;clear n0_ n1_ n2_ n3_ n4_ n5_ n6_ n7_ n8_ n9_ n10_;clear hb hbox hg;have hnb25:=NB35008_35001.out;have hnc25:=NB35001_35008.out;have hnb26:=NB35008_35002.out;have hnc26:=NB35002_35008.out;have hcz27_0:w24.cell? ⟨gb35008,0,none⟩=some (.int .i64 0):=(Zu BK35008.out 0).trans rfl;have hcz27_1:w24.cell? ⟨gb35008,1,none⟩=some (.slice none 0 0):=(Zu BK35008.out 1).trans rfl;have hfz27_0:=Zt BK35008.out 0;have hfz27_1:=Zt BK35008.out 1;obtain⟨Ao28,co28,eo28⟩:=Kd.R_slice HO35006.out;subst eo28;have hcz29_0:w24.cell? ⟨gb35002,0,none⟩=some (.int .i64 0):=(Zu BK35002.out 0).trans rfl;have hcz29_1:w24.cell? ⟨gb35002,1,none⟩=some (.int .i64 0):=(Zu BK35002.out 1).trans rfl;have hfz29_0:=Zt BK35002.out 0;have hfz29_1:=Zt BK35002.out 1))
  refine bodyPost_ret (Z5 rfl _ _ gb35002 29 #[.int .i64 0,.int .i64 0] (0,0) _ rfl (by(with_reducible repeat(first|refine Zo ?_ _|refine Zq ?_|refine Zn ?_ _));refine ZF (cs:=#[.int .i64 0,.int .i64 0]) ?_ 1 _ rfl;(with_reducible repeat(first|refine Zo ?_ _|refine Zq ?_|refine Zn ?_ _));refine ZF (cs:=#[.int .i64 0,.int .i64 0]) ?_ 0 _ rfl;(with_reducible repeat(first|refine Zo ?_ _|refine Zq ?_|refine Zn ?_ _));refine ZC ?_ NB35002_35008.out _;(with_reducible repeat(first|refine Zo ?_ _|refine Zq ?_|refine Zn ?_ _));refine ZC ?_ NB35002_35008.out _;(with_reducible repeat(first|refine Zo ?_ _|refine Zq ?_|refine Zn ?_ _));exact BK35002.out) Try.underlying29 rfl (by kernel_rfl)) rfl ?_
  exact⟨by first|rfl|(simp[ZA,Zz] <;> rfl)|(simp[*,ZA,Zz] <;> rfl),by repeat(first|(with_reducible first|exact HB.out|apply Zr|apply Zm|apply Zs|refine Zp ?_ GE35001.out|refine Zp ?_ GE35002.out|refine Zp ?_ GE35008.out)|exact HB.out)⟩
end Go.Proofs.Ytpoffpdaadhkgaa.Pr
namespace Go.Proofs.Ytpoffpdaadhkgaa.Pr
open Go.RowKit Go.Proofs.YtpoffpdaadhkgaaW.PrintWords Go.Proofs.YtpoffpdaadhkgaaW.PrintLast Go.Proofs.YtpoffpdaadhkgaaW.PrintMore
attribute [local go_sem] Zaj Zah Zaq Zap Zac Zab Zai Zag
set_option linter.unusedVariables false
set_option linter.unusedSimpArgs false
open Go.Proofs.Ytpoffpdaadhkgaa.Ni
set_option maxHeartbeats 4000000 in
set_option maxRecDepth 100000 in
theorem laws_eqLink.same (a0:Int) (a1:Int) (a2:Int) (a3:Int) (w:World)  :
  Calls Try.prog 133 #[.agg #[.int .i64 a0,.int .i64 a1,.int .i64 a2,.int .i64 a3],.agg #[.int .i64 a0,.int .i64 a1,.int .i64 a2,.int .i64 a3]] w fun e w'=>e=.returned (.bool true)∧Below w.heap.size w w':=by
 have hu:=Try.underlying101
 have HB0:=Za (Zr (Zr (Below.refl w.heap.size w) (.cells #[.int .i64 a0,.int .i64 a1,.int .i64 a2,.int .i64 a3] 101)) (.cells #[.int .i64 a0,.int .i64 a1,.int .i64 a2,.int .i64 a3] 101))
 go_enter Try.func133,Try.ntmps133
 go_wp2
 go_ret
 exact⟨rfl,by repeat(first|exact Below.refl _ _|apply Zr|apply Zm|apply ZaW)⟩
set_option maxHeartbeats 4000000 in
set_option maxRecDepth 100000 in
theorem laws_eqLinkS.same (A0:Option Addr) (c0:Nat) (A0':Option Addr) (c0':Nat) (l0:List (S101)) (w:World) (hr0:Kd.C k101 w A0 l0.length l0) (hc0:l0.length≤c0) (hr0':Kd.C k101 w A0' l0.length l0) (hc0':l0.length≤c0') :
  Calls Try.prog 85 #[.slice A0 l0.length c0,.slice A0' l0.length c0'] w fun e w'=>e=.returned (.bool true)∧Below w.heap.size w w':=by
 have hL:l0.length≤9223372036854775807:=hr0.2.1
 have HR:=Za hr0
 have HS:=Za hr0'
 clear hr0 hr0'
 go_enter Try.func85,Try.ntmps85
 go_wp2
 go_loopg [5] l0.length (fun gg s5 wr=>∃kk:Nat,Aside0 (kk≤l0.length)∧Aside0 (l0.length - kk≤gg)∧s5=.int .i64 kk∧Aside0 (Below w.heap.size w wr))
 case atStart=>exact⟨0,⟨Nat.zero_le _⟩,⟨by omega⟩,rfl,⟨Below.refl _ _⟩⟩
 case round=>
  obtain⟨kk,HK,HG,rfl,HBr⟩:=hrel
  by_cases hlt:kk<l0.length
  ·have hltz:(kk:Int)<(l0.length:Int):=by omega
   obtain⟨adx,ex,hx0,hx1,hx2,hx3⟩:=Za9 HR.out (kk:Int) (by omega) hltz
   obtain⟨ady,ey,hy0,hy1,hy2,hy3⟩:=Za9 HS.out (kk:Int) (by omega) hltz
   cases ex
   cases ey
   rw[Int.toNat_natCast] at hx0 hx1 hx2 hx3 hy0 hy1 hy2 hy3
   generalize Zw l0 (kk:Int)=y at hx0 hx1 hx2 hx3 hy0 hy1 hy2 hy3
   replace hx0:=ZO HBr.out hx0
   replace hx1:=ZO HBr.out hx1
   replace hx2:=ZO HBr.out hx2
   replace hx3:=ZO HBr.out hx3
   replace hy0:=ZO HBr.out hy0
   replace hy1:=ZO HBr.out hy1
   replace hy2:=ZO HBr.out hy2
   replace hy3:=ZO HBr.out hy3
   have hltx:=Zc wr _ hx0
   have hlty:=Zc wr _ hy0
   go_wp2_with fail
   go_region_held3 (fun w'=>Below wr.heap.size wr w'∧w'.cell? (adx.add (kk * 4))=some (.int .i64 y.f0)∧w'.cell? ⟨(adx.add (kk * 4)).block,(adx.add (kk * 4)).off+1,none⟩=some (.int .i64 y.f1)∧w'.cell? ⟨(adx.add (kk * 4)).block,(adx.add (kk * 4)).off+2,none⟩=some (.int .i64 y.f2.f0)∧w'.cell? ⟨(adx.add (kk * 4)).block,(adx.add (kk * 4)).off+3,none⟩=some (.int .i64 y.f2.f1)∧w'.cell? (ady.add (kk * 4))=some (.int .i64 y.f0)∧w'.cell? ⟨(ady.add (kk * 4)).block,(ady.add (kk * 4)).off+1,none⟩=some (.int .i64 y.f1)∧w'.cell? ⟨(ady.add (kk * 4)).block,(ady.add (kk * 4)).off+2,none⟩=some (.int .i64 y.f2.f0)∧w'.cell? ⟨(ady.add (kk * 4)).block,(ady.add (kk * 4)).off+3,none⟩=some (.int .i64 y.f2.f1))
    (first|(refine⟨by repeat(first|(with_reducible first|exact Below.refl _ _|apply Zr|apply Zm|apply Zs|exact(‹Below wr.heap.size wr _∧_› : Below wr.heap.size wr _∧_).1)|exact Below.refl _ _),?_⟩;go_simp;done)|(have HQ_:=Zy (‹Below wr.heap.size wr _∧_› : Below wr.heap.size wr _∧_).1 hb;exact⟨HQ_,ZO HQ_ hx0,ZO HQ_ hx1,ZO HQ_ hx2,ZO HQ_ hx3,ZO HQ_ hy0,ZO HQ_ hy1,ZO HQ_ hy2,ZO HQ_ hy3⟩))
    (first|(go_at_call 133;(refine(laws_eqLink.same y.f0 y.f1 y.f2.f0 y.f2.f1 _ ).mono ?_);rintro e w3 ⟨rfl,hb⟩))
   have HB3:=Za (‹Below wr.heap.size wr w3∧_› : Below wr.heap.size wr w3∧_).1
   go_wp2
   go_roundg (l0.length - (kk+1))
   case measure=>have:=HG.out;omega
   case rel=>exact⟨kk+1,⟨by omega⟩,⟨by omega⟩,by go_num,⟨HBr.out.trans (HB3.out.mono HBr.out.size)⟩⟩
  ·have hltz:¬(kk:Int)<(l0.length:Int):=by omega
   have:kk=l0.length:=by have:=HK.out;omega
   subst this
   go_wp2
   go_ret
   exact⟨rfl,HBr.out⟩
set_option maxHeartbeats 4000000 in
set_option maxRecDepth 100000 in
theorem ZdG.same (a0:Int) (A1:Option Addr) (c1:Nat) (A1':Option Addr) (c1':Nat) (l1:List (S101)) (w:World) (hr1:Kd.C k101 w A1 l1.length l1) (hc1:l1.length≤c1) (hr1':Kd.C k101 w A1' l1.length l1) (hc1':l1.length≤c1') :
  Calls Try.prog 33 #[.agg #[.int .i64 a0,.slice A1 l1.length c1],.agg #[.int .i64 a0,.slice A1' l1.length c1']] w fun e w'=>e=.returned (.bool true)∧Below w.heap.size w w':=by
 have hu:=Try.underlying25
 have H1:=Za fun (W:World) (hb:Below w.heap.size w W)=>laws_eqLinkS.same A1 c1 A1' c1' l1 W (Zb hr1 hb) hc1 (Zb hr1' hb) hc1'
 clear hr1 hc1 hr1' hc1'
 have HB0:=Za (Zr (Zr (Below.refl w.heap.size w) (.cells #[.int .i64 a0,.slice A1 l1.length c1] 25)) (.cells #[.int .i64 a0,.slice A1' l1.length c1'] 25))
 go_enter Try.func33,Try.ntmps33
 go_wp2_with fail
 refine(H1.out _ HB0.out).mono ?_
 rintro e w1 ⟨rfl,hb⟩
 have HB1:=Za (HB0.out.trans (hb.mono HB0.out.size))
 clear hb
 go_wp2
 go_ret
 exact⟨rfl,HB1.out⟩
set_option maxHeartbeats 4000000 in
set_option maxRecDepth 100000 in
theorem Zc9.same (a0:Int) (a1:Int) (w:World)  :
  Calls Try.prog 36 #[.agg #[.int .i64 a0,.int .i64 a1],.agg #[.int .i64 a0,.int .i64 a1]] w fun e w'=>e=.returned (.bool true)∧Below w.heap.size w w':=by
 have hu:=Try.underlying29
 have HB0:=Za (Zr (Zr (Below.refl w.heap.size w) (.cells #[.int .i64 a0,.int .i64 a1] 29)) (.cells #[.int .i64 a0,.int .i64 a1] 29))
 go_enter Try.func36,Try.ntmps36
 go_wp2
 go_ret
 exact⟨rfl,by repeat(first|exact Below.refl _ _|apply Zr|apply Zm|apply ZaW)⟩
end Go.Proofs.Ytpoffpdaadhkgaa.Pr
namespace Go.Proofs.Ytpoffpdaadhkgaa.Pr
open Go.RowKit Go.Proofs.YtpoffpdaadhkgaaW.PrintWords Go.Proofs.Ytpoffpdaadhkgaa.Ni
abbrev LLink:=S156
abbrev Zax:=S101
def cvI (x:S154):S29:=⟨x.f0,x.f1⟩
def cvK (x:LLink):Zax:=⟨x.f0,x.f1,cvI x.f2⟩
theorem rdK_nat (l:List Zax) (i:Nat):Zw l (i:Int)=l.getD i z101:=by unfold Zw;rw[Int.toNat_natCast]
theorem rdLK_nat (l:List LLink) (i:Nat):ZaZ l (i:Int)=l.getD i z156:=by unfold ZaZ;rw[Int.toNat_natCast]
theorem zK:cvK z156=z101:=rfl
theorem getD_mapK (l:List LLink) (i:Nat):(l.map cvK).getD i z101=cvK (l.getD i z156):=by
 rw[← zK,List.getD_eq_getElem?_getD,List.getD_eq_getElem?_getD,List.getElem?_map]
 cases l[i]? <;> rfl
theorem szSimple_f (n:Int) (l:List LLink) (hl:l.length≤9223372036854775807) (a:Int) (h0:0≤a) (h1:a≤1048576):∃r,Zbi.f n l a=some r∧(r<0∨(0≤r∧r≤a∧l.length≤1048576)):=by
 unfold Zbi.f Zbm.f
 rw[Zbp (by omega) (by omega)]
 by_cases h:a - (l.length:Int)<0
 ·rw[if_pos h,Zi,if_pos (by omega)];exact⟨_,rfl,.inl (by omega)⟩
 ·rw[if_neg h,Zi,if_neg h];exact⟨_,rfl,.inr ⟨by omega,by omega,by omega⟩⟩
theorem toLinkS_f (l:List LLink) (hl:l.length≤1048576) (k:Nat) (hk:2 ^ 64≤k):Zal.f k l=some (l.map cvK):=by
 have key:=Zbd l.length (fun k i=>Zal.l0 k l ((l.map cvK).take i ++ List.replicate ((l.map cvK).length - i) z101) (i:Int)=some (l.map cvK)) 0
  (fun k _=>by simp[Zal.l0];rw[List.take_of_length_le (by simp)])
  (fun k i hk hi ih=>by
   simp only[Zal.l0,ZbJ.f,Zbe.f]
   rw[if_pos (by omega),if_pos (by omega),rdLK_nat]
   simp only[Zi]
   rw[if_pos (by simp;omega),ZaQ hi (by omega),Int.toNat_natCast,ZcA (l.map cvK) _ z101 i (by simpa using hi) _ (by rw[getD_mapK l i];rfl)]
   exact ih) 0 k (Nat.zero_le _) (by omega)
 unfold Zal.f
 rw[if_pos (by omega),if_pos (by omega),Int.toNat_natCast]
 simpa using key
theorem toSimple_f (n:Int) (l:List LLink) (hl:l.length≤1048576) (k:Nat) (hk:2 ^ 64≤k):ZaM.f k n l=some (n,l.map cvK):=by
 unfold ZaM.f
 rw[toLinkS_f l hl k hk,Zi]
theorem sivOk_f (lo hi:Int):Zak.f lo hi=some (ZbY lo hi):=ivOk_f lo hi
theorem slink_ok {n:Int} (h0:1≤n) (h8:n≤8) (y:Zax):(inR y.f0 0 (wrap64 (n - 1)) && (inR y.f1 0 (wrap64 (n - 1)) && ZbY y.f2.f0 y.f2.f1))=Za6 n y:=by
 rw[Zbp (by omega) (by omega)]
 unfold Za6
 rw[show inR y.f0 0 (n - 1)=inN n y.f0 by unfold inR inN;rw[Bool.eq_iff_iff];simp only[Bool.and_eq_true,decide_eq_true_eq];omega,show inR y.f1 0 (n - 1)=inN n y.f1 by unfold inR inN;rw[Bool.eq_iff_iff];simp only[Bool.and_eq_true,decide_eq_true_eq];omega]
theorem ssimple_l (n:Int) (L:List Zax) (h0:1≤n) (h8:n≤8) (hl:L.length≤40) (k:Nat) (hk:2 ^ 64≤k):ZK.l0 k L (L.length:Int) 0 n L=some (!(L.any fun x=>!Za6 n x)):=by
 have key:=Zbd L.length (fun k i=>ZK.l0 k L (L.length:Int) (i:Int) n L=some (!((L.drop i).any fun x=>!Za6 n x))) 0
  (fun k _=>by
   simp only[ZK.l0]
   rw[if_neg (by omega),List.drop_length];rfl)
  (fun k i _ hi ih=>by
   simp only[ZK.l0]
   rw[if_pos (by omega),if_pos (by omega),if_pos (by omega),ZaQ hi (by omega),ih,ZaL hi z101,List.any_cons,rdK_nat]
   generalize L.getD i z101=y
   rw[← slink_ok h0 h8 y]
   simp only[Zb7,sivOk_f,Zi]
   cases inR y.f0 0 (wrap64 (n - 1)) <;> cases inR y.f1 0 (wrap64 (n - 1)) <;> cases ZbY y.f2.f0 y.f2.f1 <;> rfl) 0 k (Nat.zero_le _) (by omega)
 simpa using key
theorem ZbB (n:Int) (L:List Zax) (k:Nat) (hk:2 ^ 66≤k):ZK.f k n L=some (Zao n L):=by
 obtain⟨k,rfl⟩:∃m,k=m+1:=⟨k - 1,by omega⟩
 unfold ZK.f Zao
 simp only[Zb7,Zi,ZK.j0]
 by_cases h:1≤n∧n≤8
 ·rw[show inR n 1 8=true by unfold inR;simp[h.1,h.2],if_pos rfl,Zf (show ¬n<1 by omega),Zf (show ¬8<n by omega)]
  by_cases h2:(L.length:Int) > 40
  ·rw[Ze h2,if_pos rfl,Ze (show 40<L.length by omega)];rfl
  ·rw[Zf h2,if_neg (by simp),Zf (show ¬40<L.length by omega),ssimple_l n L h.1 h.2 (by omega) k (by omega)]
   simp
 ·rw[show inR n 1 8=false by unfold inR;rw[Bool.eq_false_iff];simp only[ne_eq,Bool.and_eq_true,decide_eq_true_eq];exact h,if_neg (by simp),if_pos trivial]
  by_cases h3:n<1
  ·rw[Ze h3];rfl
  ·rw[Zf h3,Ze (show 8<n by omega)];rfl
theorem ZbR {n:Int} {L:List Zax} (h:Zao n L=true):1≤n∧n≤8∧L.length≤40∧∀x∈L,Za6 n x=true:=by
 unfold Zao at h
 simp only[Bool.and_eq_true,Bool.not_eq_true',decide_eq_false_iff_not] at h
 obtain⟨h1,h2,h3,h4⟩:=h
 refine⟨by omega,by omega,by omega,fun x hx=>?_⟩
 have:=List.any_eq_false.1 h4 x hx
 simpa using this
theorem spart_l (tm:List Int) (hl:tm.length≤1048576) (k:Nat) (hk:2 ^ 64≤k):ZT.l0 k tm (tm.length:Int) 0=some (!(tm.any fun x=>!Zbj x)):=by
 have key:=Zbd tm.length (fun k i=>ZT.l0 k tm (tm.length:Int) (i:Int)=some (!((tm.drop i).any fun x=>!Zbj x))) 0
  (fun k _=>by
   simp only[ZT.l0]
   rw[if_neg (by omega),List.drop_length];rfl)
  (fun k i _ hi ih=>by
   simp only[ZT.l0]
   rw[if_pos (by omega),if_pos (by omega),if_pos (by omega),ZaQ hi (by omega),ih,ZaL hi 0,List.any_cons,Za4,Zb7,Zi,show inR (tm.getD i 0) (-1) 999999=Zbj (tm.getD i 0) by unfold inR Zbj;rw[Bool.eq_iff_iff];simp only[Bool.and_eq_true,decide_eq_true_eq];omega]
   cases Zbj (tm.getD i 0) <;> rfl) 0 k (Nat.zero_le _) (by omega)
 simpa using key
theorem ZcZ (n:Int) (L:List Zax) (tm:List Int) (hl:tm.length≤1048576) (k:Nat) (hk:2 ^ 67≤k):ZT.f k n L tm=some (partB n L tm):=by
 obtain⟨m,hm⟩:∃m,k=m+1:=⟨k - 1,by omega⟩
 unfold ZT.f partB
 rw[ZbB n L k (by omega),Zi,hm]
 simp only[ZT.j0]
 cases hs:Zao n L with
 | false=>rfl
 | true=>
  have hb:=ZbR hs
  rw[if_pos rfl]
  by_cases h:(tm.length:Int)=n
  ·rw[if_pos h,if_pos (by omega),Ze h,show rd tm 0=tm.getD 0 0 from rfl]
   by_cases h0:tm.getD 0 0=0
   ·rw[h0,if_neg (by simp),spart_l tm hl m (by omega)];rfl
   ·rw[if_pos (by simpa using h0),Zf h0];rfl
  ·rw[if_neg h,Zf h];rfl
theorem Zc1 (n:Int) (L:List Zax) (tm:List Int):ZaV.f n L tm=some (partB n L tm):=rfl
theorem partB_bd {n:Int} {L:List Zax} {tm:List Int} (h:partB n L tm=true):Zao n L=true∧(tm.length:Int)=n∧tm.getD 0 0=0∧∀x∈tm,-1≤x∧x<1000000:=by
 unfold partB at h
 simp only[Bool.and_eq_true,decide_eq_true_eq,Bool.not_eq_true'] at h
 refine⟨h.1,h.2.1,h.2.2.1,fun x hx=>?_⟩
 have:=List.any_eq_false.1 h.2.2.2 x hx
 simpa [Zbj] using this
def fixL:Nat→List Int→List Zax
 | _,[]=>[]
 | i,x :: t=>(if 0<i∧x≠-1 then[⟨0,(i:Int),⟨x,x⟩⟩] else[]) ++ fixL (i+1) t
theorem fixL_len:∀(i:Nat) (t:List Int),(fixL i t).length≤t.length
 | _,[]=>Nat.le_refl _
 | i,x :: t=>by
  have:=fixL_len (i+1) t
  unfold fixL
  split <;> simp <;> omega
def fixB (n:Int) (L:List Zax) (tm:List Int):Int×List Zax×Bool:=
 if partB n L tm=true then(if Zao n (L ++ fixL 0 tm)=true then(n,L ++ fixL 0 tm,true) else(0,[],false)) else(0,[],false)
theorem sfix_l (n:Int) (L:List Zax) (tm:List Int) (hl:tm.length≤1048576) (hL:L.length≤1048576) (k:Nat) (hk:2 ^ 67≤k):Z4.l0 k tm (tm.length:Int) 0 n L=some (if Zao n (L ++ fixL 0 tm)=true then(n,L ++ fixL 0 tm,true) else(0,[],false)):=by
 have key:=Zbd tm.length (fun k i=>∀M:List Zax,M.length≤1048576+i→Z4.l0 k tm (tm.length:Int) (i:Int) n M=some (if Zao n (M ++ fixL i (tm.drop i))=true then(n,M ++ fixL i (tm.drop i),true) else(0,[],false))) (2 ^ 66)
  (fun k hk M _=>by
   simp only[Z4.l0]
   rw[if_neg (by omega),List.drop_length,ZbB n M k hk,Zi,show fixL tm.length []=[] from rfl,List.append_nil]
   split <;> rfl)
  (fun k i _ hi ih M hM=>by
   simp only[Z4.l0]
   rw[if_pos (by omega),if_pos (by omega),if_pos (by omega),ZaQ hi (by omega),Za4,ZaL hi 0,fixL]
   by_cases h0:0<i
   ·rw[if_pos (by omega)]
    by_cases h1:tm.getD i 0=-1
    ·rw[if_pos h1,if_neg (show ¬(0<i∧tm.getD i 0≠-1) from fun h=>h.2 h1),ih M (by omega),List.nil_append]
    ·rw[if_neg h1,if_pos (by omega),if_pos (show 0<i∧tm.getD i 0≠-1 from⟨h0,h1⟩),ih _ (by simp;omega),← List.append_assoc]
   ·rw[if_neg (by omega),if_neg (show ¬(0<i∧tm.getD i 0≠-1) from fun h=>h0 h.1),ih M (by omega),List.nil_append]) 0 k (Nat.zero_le _) (by omega)
 simpa using key L (by omega)
theorem pfix_l (n:Int) (L:List Zax) (tm:List Int) (hl:tm.length≤1048576) (hL:L.length≤1048576) (k:Nat) (hk:2 ^ 64≤k):ZX.l0 k tm (tm.length:Int) 0 n L=some (if Zao n (L ++ fixL 0 tm)=true then(n,L ++ fixL 0 tm,true) else(0,[],false)):=by
 have key:=Zbd tm.length (fun k i=>∀M:List Zax,M.length≤1048576+i→ZX.l0 k tm (tm.length:Int) (i:Int) n M=some (if Zao n (M ++ fixL i (tm.drop i))=true then(n,M ++ fixL i (tm.drop i),true) else(0,[],false))) 0
  (fun k hk M _=>by
   simp only[ZX.l0]
   rw[if_neg (by omega),List.drop_length,Z8.f,Zi,show fixL tm.length []=[] from rfl,List.append_nil]
   split <;> rfl)
  (fun k i _ hi ih M hM=>by
   simp only[ZX.l0]
   rw[if_pos (by omega),if_pos (by omega),if_pos (by omega),ZaQ hi (by omega),Za4,ZaL hi 0,fixL]
   by_cases h0:0<i
   ·rw[if_pos (by omega)]
    by_cases h1:tm.getD i 0=-1
    ·rw[if_pos h1,if_neg (show ¬(0<i∧tm.getD i 0≠-1) from fun h=>h.2 h1),ih M (by omega),List.nil_append]
    ·rw[if_neg h1,if_pos (by omega),if_pos (show 0<i∧tm.getD i 0≠-1 from⟨h0,h1⟩),ih _ (by simp;omega),← List.append_assoc]
   ·rw[if_neg (by omega),if_neg (show ¬(0<i∧tm.getD i 0≠-1) from fun h=>h0 h.1),ih M (by omega),List.nil_append]) 0 k (Nat.zero_le _) (by omega)
 simpa using key L (by omega)
theorem Zc8 (n:Int) (L:List Zax) (tm:List Int) (hl:tm.length≤1048576) (hL:L.length≤1048576) (k:Nat) (hk:2 ^ 68≤k):Z4.f k n L tm=some (fixB n L tm):=by
 unfold Z4.f fixB Zas.f
 rw[ZcZ n L tm hl k (by omega),Zi,Zi,if_pos (show([]:List Zax).length+L.length<4398046511104 by simp only[List.length_nil];omega),Zi,List.nil_append,sfix_l n L tm hl hL k (by omega)]
 split <;> rfl
theorem Zdd (n:Int) (L:List Zax) (tm:List Int) (hl:tm.length≤1048576) (hL:L.length≤1048576) (k:Nat) (hk:2 ^ 68≤k):ZX.f k n L tm=some (fixB n L tm):=by
 unfold ZX.f fixB
 rw[Zc1,Zi]
 have hc:ZaS.f L=some L:=by
  unfold ZaS.f
  rw[if_pos (by omega)]
 rw[hc,Zi,pfix_l n L tm hl hL k (by omega)]
 split <;> rfl
def Zcx (x:Zax):List ZZ:=(if x.f2.f1=1000000 then[] else[⟨x.f0,x.f1,x.f2.f1⟩]) ++ (if x.f2.f0=-1000000 then[] else[⟨x.f1,x.f0,wrap64 (-x.f2.f0)⟩])
def ZaK:List Zax→List ZZ
 | []=>[]
 | x :: t=>Zcx x ++ ZaK t
def linksL (i:Nat) (x:Zax):List Int:=(if x.f2.f1=1000000 then[] else[(i:Int)]) ++ (if x.f2.f0=-1000000 then[] else[(i:Int)])
def ZbS:Nat→List Zax→List Int
 | _,[]=>[]
 | i,x :: t=>linksL i x ++ ZbS (i+1) t
theorem edgesL_len (x:Zax):(Zcx x).length≤2:=by unfold Zcx;split <;> split <;> simp
theorem Zdh:∀L:List Zax,(ZaK L).length≤2 * L.length
 | []=>Nat.le_refl _
 | x :: t=>by have:=Zdh t;have:=edgesL_len x;rw[ZaK,List.length_append,List.length_cons];omega
theorem pgraph_l (n:Int) (L:List Zax) (hl:L.length≤1048576) (k:Nat) (hk:2 ^ 64≤k):Z3.l0 k [] L (L.length:Int) 0 n []=some (n,ZaK L,ZbS 0 L):=by
 have key:=Zbd L.length (fun k i=>∀(a:List ZZ) (b:List Int),a.length≤2 * i→b.length≤2 * i→Z3.l0 k b L (L.length:Int) (i:Int) n a=some (n,a ++ ZaK (L.drop i),b ++ ZbS i (L.drop i))) 0
  (fun k _ a b _ _=>by
   simp only[Z3.l0]
   rw[if_neg (by omega),List.drop_length,ZaK,ZbS,List.append_nil,List.append_nil])
  (fun k i _ hi ih a b ha hb=>by
   simp only[Z3.l0]
   rw[if_pos (by omega),if_pos (by omega),if_pos (by omega),ZaQ hi (by omega),ZaL hi z101,ZaK,ZbS,rdK_nat]
   generalize L.getD i z101=y
   unfold Zcx linksL
   by_cases h1:y.f2.f1=1000000
   ·by_cases h2:y.f2.f0=-1000000
    ·simp only[if_pos h1,if_pos h2]
     rw[ih a b (by omega) (by omega)];simp
    ·simp only[if_pos h1,if_neg h2]
     rw[if_pos (by omega),if_pos (by omega),ih _ _ (by simp;omega) (by simp;omega)];simp
   ·by_cases h2:y.f2.f0=-1000000
    ·simp only[if_neg h1,if_pos h2,Zi]
     rw[if_pos (by omega),if_pos (by omega),ih _ _ (by simp;omega) (by simp;omega)];simp
    ·simp only[if_neg h1,if_neg h2,Zi]
     rw[if_pos (by omega),if_pos (by omega),if_pos (by simp;omega),if_pos (by simp;omega),ih _ _ (by simp;omega) (by simp;omega)];simp) 0 k (Nat.zero_le _) (by omega)
 simpa using key [] [] (by simp) (by simp)
theorem sedges_l (L:List Zax) (hl:L.length≤1048576) (k:Nat) (hk:2 ^ 64≤k):ZY.l0 k [] [] L (L.length:Int) 0=some (ZaK L,ZbS 0 L):=by
 have key:=Zbd L.length (fun k i=>∀(a:List ZZ) (b:List Int),a.length≤2 * i→b.length≤2 * i→ZY.l0 k a b L (L.length:Int) (i:Int)=some (a ++ ZaK (L.drop i),b ++ ZbS i (L.drop i))) 0
  (fun k _ a b _ _=>by
   simp only[ZY.l0]
   rw[if_neg (by omega),List.drop_length,ZaK,ZbS,List.append_nil,List.append_nil])
  (fun k i _ hi ih a b ha hb=>by
   simp only[ZY.l0]
   rw[if_pos (by omega),if_pos (by omega),if_pos (by omega),ZaQ hi (by omega),ZaL hi z101,ZaK,ZbS,rdK_nat]
   generalize L.getD i z101=y
   unfold Zcx linksL
   by_cases h1:y.f2.f1=1000000
   ·by_cases h2:y.f2.f0=-1000000
    ·simp only[if_pos h1,if_pos h2]
     rw[ih a b (by omega) (by omega)];simp
    ·simp only[if_pos h1,if_neg h2]
     rw[if_pos (by omega),if_pos (by omega),ih _ _ (by simp;omega) (by simp;omega)];simp
   ·by_cases h2:y.f2.f0=-1000000
    ·simp only[if_neg h1,if_pos h2,Zi]
     rw[if_pos (by omega),if_pos (by omega),ih _ _ (by simp;omega) (by simp;omega)];simp
    ·simp only[if_neg h1,if_neg h2,Zi]
     rw[if_pos (by omega),if_pos (by omega),if_pos (by simp;omega),if_pos (by simp;omega),ih _ _ (by simp;omega) (by simp;omega)];simp) 0 k (Nat.zero_le _) (by omega)
 simpa using key [] [] (by simp) (by simp)
def gofB (n:Int) (L:List Zax):Int×List ZZ:=if Zao n L=true then(n,ZaK L) else(0,[])
theorem Zcw (n:Int) (L:List Zax) (k:Nat) (hk:2 ^ 64≤k):ZaT.f k n L=some (gofB n L):=by
 unfold ZaT.f gofB Z8.f
 rw[Zi]
 by_cases h:Zao n L=true
 ·rw[if_pos h,if_pos h,Z3.f,pgraph_l n L (by have:=ZbR h;omega) k hk];rfl
 ·rw[if_neg h,if_neg h]
theorem Zco (n:Int) (L:List Zax) (k:Nat) (hk:2 ^ 66≤k):ZaF.f k n L=some (gofB n L):=by
 unfold ZaF.f gofB
 rw[ZbB n L k hk,Zi]
 by_cases h:Zao n L=true
 ·rw[if_pos h,if_pos h,ZY.f,sedges_l L (by have:=ZbR h;omega) k (by omega)];rfl
 ·rw[if_neg h,if_neg h]
def ncF (n:Int) (E:List ZZ):List Int:=if ZaR n E=true then ncB n.toNat E else[]
def consB (n:Int) (L:List Zax):Bool:=Zao n L && (ncF n (ZaK L)).isEmpty
theorem ZcI (n:Int) (L:List Zax) (k:Nat) (hk:2 ^ 64≤k):Zav.f k n L=some (consB n L):=by
 unfold Zav.f consB Z8.f
 rw[Zi]
 by_cases h:Zao n L=true
 ·rw[if_pos h,Zcw n L k hk,Zi,gofB,if_pos h,h,Zan.f,Zi];rfl
 ·rw[if_neg h,Bool.eq_false_iff.2 h];rfl
theorem ZbU (n:Int) (L:List Zax) (k:Nat) (hk:2 ^ 66≤k):ZaP.f k n L=some (consB n L):=by
 unfold ZaP.f consB
 rw[ZbB n L k hk,Zi]
 by_cases h:Zao n L=true
 ·rw[if_pos h,Zco n L k hk,Zi,gofB,if_pos h,h,ZaE.f,Zi,Bool.true_and]
  show some (((ncF n (ZaK L)).length:Int) == 0)=some (ncF n (ZaK L)).isEmpty
  cases ncF n (ZaK L) with
  | nil=>rfl
  | cons x t=>
   have:((((x :: t).length:Nat):Int) == 0)=false:=by rw[beq_eq_false_iff_ne,List.length_cons];omega
   rw[this];rfl
 ·rw[if_neg h,Bool.eq_false_iff.2 h];rfl
theorem ZcU (E:List ZZ):∀(n:Nat) (s:BSt),rounds E (n+1) s=(fun u:BSt=>rnd E 0 (u.1,u.2.1,-1)) (rounds E n s)
 | 0,_=>rfl
 | n+1,s=>by show rounds E (n+1) _=_;rw[ZcU E n];rfl
theorem rnd_up:∀(E:List ZZ) (i:Nat) (s:BSt),0≤s.2.2→0≤(rnd E i s).2.2
 | [],_,_,h=>h
 | e :: t,i,s,h=>by
  refine rnd_up t (i+1) _ ?_
  unfold relax
  split
  ·simp only;omega
  ·exact h
theorem rnd_same:∀(E:List ZZ) (i:Nat) (s:BSt),(rnd E i s).2.2<0→rnd E i s=s∧∀e∈E,¬wrap64 (rd s.1 e.f0+e.f2)<rd s.1 e.f1
 | [],_,_,_=>⟨rfl,fun _ h=>absurd h (by simp)⟩
 | e :: t,i,s,h=>by
  have h0:(rnd t (i+1) (relax s i e)).2.2<0:=h
  by_cases c:wrap64 (rd s.1 e.f0+e.f2)<rd s.1 e.f1
  ·have:relax s i e=(s.1.set e.f1.toNat (wrap64 (rd s.1 e.f0+e.f2)),s.2.1.set e.f1.toNat (i:Int),(i:Int)):=if_pos c
   rw[this] at h0
   have:=rnd_up t (i+1) (s.1.set e.f1.toNat (wrap64 (rd s.1 e.f0+e.f2)),s.2.1.set e.f1.toNat (i:Int),(i:Int)) (by simp only;omega)
   omega
  ·have hr:relax s i e=s:=if_neg c
   rw[hr] at h0
   obtain⟨h1,h2⟩:=rnd_same t (i+1) s h0
   refine⟨by show rnd t (i+1) (relax s i e)=s;rw[hr];exact h1,fun x hx=>?_⟩
   rcases List.mem_cons.1 hx with rfl|hx
   ·exact c
   ·exact h2 x hx
def BndB (d:List Int) (B:Int):Prop:=∀v,-B≤d.getD v 0∧d.getD v 0≤B
theorem BndB.relax {s:BSt} {i:Nat} {e:ZZ} {B:Int} (h:BndB s.1 B) (h0:0≤B) (hB:B≤1000000000000) (hw : -1000000≤e.f2∧e.f2≤1000000):BndB (relax s i e).1 (B+1000000):=by
 have hu:=h e.f0.toNat
 have e0:rd s.1 e.f0=s.1.getD e.f0.toNat 0:=rfl
 unfold Pr.relax
 split
 ·intro v
  have hv:=h v
  simp only
  rw[e0,w64_id (by omega) (by omega)]
  by_cases c:e.f1.toNat=v
  ·subst c
   by_cases hl:e.f1.toNat<s.1.length
   ·rw[ZaO hl];omega
   ·rw[List.getD_eq_getElem?_getD,List.getElem?_eq_none (by simp;omega)];simp only[Option.getD_none];omega
  ·rw[getD_set_ne c];omega
 ·intro v;have:=h v;omega
theorem BndB.rnd {E:List ZZ} (hw:Zbu E):∀(F:List ZZ) (i:Nat) (s:BSt) (B:Int),(∀e∈F,e∈E)→BndB s.1 B→0≤B→B+(F.length:Int) * 1000000≤1000000000000→BndB (rnd F i s).1 (B+(F.length:Int) * 1000000)
 | [],i,s,B,_,h,_,_=>fun v=>by
  have h1 : -B≤(Pr.rnd [] i s).1.getD v 0∧(Pr.rnd [] i s).1.getD v 0≤B:=h v
  rw[List.length_nil];omega
 | e :: t,i,s,B,hm,h,h0,hB=>by
  rw[List.length_cons] at hB ⊢
  have h1:=BndB.relax (i:=i) h h0 (by omega) (hw e (hm e (by simp)))
  have h2:=BndB.rnd hw t (i+1) _ (B+1000000) (fun x hx=>hm x (by simp[hx])) h1 (by omega) (by omega)
  intro v
  have:=h2 v
  show -(B+((t.length+1:Nat):Int) * 1000000)≤(Pr.rnd t (i+1) (Pr.relax s i e)).1.getD v 0∧(Pr.rnd t (i+1) (Pr.relax s i e)).1.getD v 0≤B+((t.length+1:Nat):Int) * 1000000
  omega
theorem BndB.rounds {E:List ZZ} (hw:Zbu E) (hl:E.length≤100):∀(n:Nat) (s:BSt) (B:Int),BndB s.1 B→0≤B→B+(n:Int) * 100000000≤1000000000000→BndB (rounds E n s).1 (B+(n:Int) * 100000000)
 | 0,s,B,h,_,_=>fun v=>by
  have h1 : -B≤(Pr.rounds E 0 s).1.getD v 0∧(Pr.rounds E 0 s).1.getD v 0≤B:=h v
  omega
 | n+1,s,B,h,h0,hB=>by
  have h1:=BndB.rnd hw E 0 (s.1,s.2.1,-1) B (fun _ h=>h) h h0 (by omega)
  have h2:BndB (Pr.rnd E 0 (s.1,s.2.1,-1)).1 (B+100000000):=fun v=>by have:=h1 v;omega
  have h3:=BndB.rounds hw hl n _ _ h2 (by omega) (by omega)
  intro v
  have:=h3 v
  show -(B+((n+1:Nat):Int) * 100000000)≤(Pr.rounds E n (Pr.rnd E 0 (s.1,s.2.1,-1))).1.getD v 0∧(Pr.rounds E n (Pr.rnd E 0 (s.1,s.2.1,-1))).1.getD v 0≤B+((n+1:Nat):Int) * 100000000
  omega
theorem nc_pot {E:List ZZ} {N:Nat} (hE:Za0 E N) (hw:Zbu E) (hl:E.length≤100) (hN:1≤N) (hN2:N≤1000) (h:ncB N E=[]):∃p:Nat→Int,∀e∈E,p e.f1.toNat≤p e.f0.toNat+e.f2:=by
 obtain⟨m,rfl⟩:∃m,N=m+1:=⟨N - 1,by omega⟩
 have hch:(rounds E (m+1) (bst0 (m+1))).2.2=-1:=by
  rcases Zc4 hE hN (d:=(rounds E (m+1) (bst0 (m+1))).1) (l:=(rounds E (m+1) (bst0 (m+1))).2.1) (ch:=(rounds E (m+1) (bst0 (m+1))).2.2) rfl with h1|⟨c,v,q,h1,_,_,_,h2,_,_,_,_,_,h3⟩
  ·exact h1.1
  ·rw[h] at h3
   have:=congrArg List.length h3
   rw[List.length_reverse,Zcg,List.length_nil] at this
   omega
 rw[ZcU] at hch
 have hb:=BndB.rounds hw hl m (bst0 (m+1)) 0 (fun v=>by
  unfold bst0
  simp only
  rw[List.getD_eq_getElem?_getD,List.getElem?_replicate]
  split <;> simp) (by omega) (by omega)
 generalize rounds E m (bst0 (m+1))=u at hch hb
 have hs:=rnd_same E 0 (u.1,u.2.1,-1) (by simp only at hch;omega)
 refine⟨fun v=>u.1.getD v 0,fun e he=>?_⟩
 have h1:=hs.2 e he
 have h2:=hb e.f0.toNat
 have h3:=hw e he
 have e0:rd u.1 e.f0=u.1.getD e.f0.toNat 0:=rfl
 have e1:rd u.1 e.f1=u.1.getD e.f1.toNat 0:=rfl
 simp only at h1
 rw[e0,e1,w64_id (by omega) (by omega)] at h1
 simp only
 omega
theorem krelax_len {s:KSt} {e:ZZ}:(ZbD s e).1.length=s.1.length:=by unfold ZbD;split <;> simp
theorem Zc0:∀(E:List ZZ) (s:KSt),(krnd E s).1.length=s.1.length
 | [],_=>rfl
 | e :: t,s=>by show(krnd t (ZbD s e)).1.length=_;rw[Zc0 t,krelax_len]
theorem isf_len {E:List ZZ}:∀{m:Nat} {s u:KSt},isf E m s=some u→u.1.length=s.1.length
 | 0,_,_,h=>by cases h
 | m+1,s,u,h=>by
  rw[isf] at h
  try dsimp only at h
  split at h
  ·cases h;exact Zc0 E _
  ·rw[isf_len h];exact Zc0 E _
theorem sf_ok {E:List ZZ} {N:Nat} (hE:Za0 E N) (hw:Zbu E) (hl:E.length≤100) (hN:1≤N) (hN2:N≤1000) (h:ncB N E=[]) (a:Nat):∃r,r.length=N∧sfB (N:Int) E (a:Int) N=(r,true)∧sfB (N:Int) E (a:Int) (N+1)=(r,true):=by
 obtain⟨p,hp⟩:=nc_pot hE hw hl hN hN2 h
 have hs:=bf_still (a:=a) hE hw hl hN hN2 p hp
 obtain⟨m,rfl⟩:∃m,N=m+1:=⟨N - 1,by omega⟩
 obtain⟨u,hu⟩:=isf_of m _ hs
 refine⟨finB u,by rw[Zc2,isf_len hu];simp[kst0],?_,?_⟩
 ·unfold sfB;rw[Int.toNat_natCast,Int.toNat_natCast,hu]
 ·unfold sfB;rw[Int.toNat_natCast,Int.toNat_natCast,isf_more hu]
def clB (x:Int):Int:=max (-1000000) (min x 1000000)
theorem pcl_f (x:Int):Zbf.f x=some (clB x):=by
 unfold Zbf.f clB mx mn
 congr 1
 split <;> split <;> omega
theorem scl_f (x:Int):Zbb.f x=some (clB x):=by
 unfold Zbb.f clB
 split
 ·congr 1;omega
 ·split <;> (congr 1;omega)
def ZbH (R:Nat→List Int):Nat→Nat→List Int
 | _,0=>[]
 | i,d+1=>(R i).map clB ++ ZbH R (i+1) d
theorem rowsB_len (R:Nat→List Int) (n:Nat) (h:∀i,(R i).length=n):∀(d i:Nat),(ZbH R i d).length=d * n
 | 0,_=>by simp[ZbH]
 | d+1,i=>by rw[ZbH,List.length_append,List.length_map,h i,rowsB_len R n h d,Nat.succ_mul];omega
theorem pclose_l (n:Nat) (E:List ZZ) (R:Nat→List Int) (hn:n≤8) (hR:∀i,(R i).length=n) (hf:∀i,i<n→Zau.f (n:Int) E (i:Int)=some (R i,true)):∀(d i k:Nat) (acc:List Int),i+d=n→2 ^ 64+d * 100≤k→acc.length≤i * n→ZM.l0 k (i:Int) (n:Int) E (n:Int) acc=some ((n:Int),acc ++ ZbH R i d,true):=by
 intro d
 induction d with
 | zero=>
  intro i k acc hi hk _
  obtain⟨k,rfl⟩:∃m,k=m+1:=⟨k - 1,by omega⟩
  simp only[ZM.l0]
  rw[if_neg (by omega),ZbH,List.append_nil]
 | succ d ih=>
  intro i k acc hi hk ha
  obtain⟨k,rfl⟩:∃m,k=m+1:=⟨k - 1,by omega⟩
  have hin:i * n≤64:=Nat.le_trans (Nat.mul_le_mul (show i≤8 by omega) hn) (by decide)
  have hin2:(i+1) * n=i * n+n:=Nat.succ_mul i n
  simp only[ZM.l0]
  rw[if_pos (by omega),hf i (by omega),Zi,if_pos rfl,ZbH]
  have key:=Zbd n (fun k j=>∀b:List Int,b.length≤i * n+j→ZM.l1 k (i:Int) (R i) ((R i).length:Int) (j:Int) (n:Int) E (n:Int) b=some ((n:Int),b ++ (((R i).drop j).map clB ++ ZbH R (i+1) d),true)) (2 ^ 64+d * 100)
   (fun k hk b hb=>by
    simp only[ZM.l1]
    rw[if_neg (by rw[hR];omega),ZaQ (n:=100) (by omega) (by omega),ih (i+1) k b (by omega) hk (by omega),List.drop_of_length_le (by rw[hR];omega)];rfl)
   (fun k j hk hj ihj b hb=>by
    simp only[ZM.l1]
    rw[if_pos (by rw[hR];omega),if_pos (by omega),if_pos (by rw[hR];omega),pcl_f,Zi,if_pos (by omega),ZaQ hj (by omega),ihj _ (by simp;omega),ZaL (show j<(R i).length by rw[hR];exact hj) 0,Za4]
    simp) 0 k (Nat.zero_le _) (by omega)
  have:=key acc (by omega)
  simpa using this
theorem sclose_l (n:Nat) (E:List ZZ) (R:Nat→List Int) (hn:n≤8) (hR:∀i,(R i).length=n) (hf:∀k i,i<n→ZaX.f k (n:Int) E (i:Int)=some (R i,true)):∀(d i k:Nat) (acc:List Int),i+d=n→2 ^ 64+d * 100≤k→acc.length≤i * n→ZL.l0 k (i:Int) (n:Int) E (n:Int) acc=some ((n:Int),acc ++ ZbH R i d,true):=by
 intro d
 induction d with
 | zero=>
  intro i k acc hi hk _
  obtain⟨k,rfl⟩:∃m,k=m+1:=⟨k - 1,by omega⟩
  simp only[ZL.l0]
  rw[if_neg (by omega),ZbH,List.append_nil]
 | succ d ih=>
  intro i k acc hi hk ha
  obtain⟨k,rfl⟩:∃m,k=m+1:=⟨k - 1,by omega⟩
  have hin:i * n≤64:=Nat.le_trans (Nat.mul_le_mul (show i≤8 by omega) hn) (by decide)
  have hin2:(i+1) * n=i * n+n:=Nat.succ_mul i n
  simp only[ZL.l0]
  rw[if_pos (by omega),hf k i (by omega),Zi,if_pos rfl,ZbH]
  have key:=Zbd n (fun k j=>∀b:List Int,b.length≤i * n+j→ZL.l1 k (i:Int) (R i) ((R i).length:Int) (j:Int) (n:Int) E (n:Int) b=some ((n:Int),b ++ (((R i).drop j).map clB ++ ZbH R (i+1) d),true)) (2 ^ 64+d * 100)
   (fun k hk b hb=>by
    simp only[ZL.l1]
    rw[if_neg (by rw[hR];omega),ZaQ (n:=100) (by omega) (by omega),ih (i+1) k b (by omega) hk (by omega),List.drop_of_length_le (by rw[hR];omega)];rfl)
   (fun k j hk hj ihj b hb=>by
    simp only[ZL.l1]
    rw[if_pos (by rw[hR];omega),if_pos (by omega),if_pos (by rw[hR];omega),scl_f,Zi,if_pos (by omega),ZaQ hj (by omega),ihj _ (by simp;omega),ZaL (show j<(R i).length by rw[hR];exact hj) 0,Za4]
    simp) 0 k (Nat.zero_le _) (by omega)
  have:=key acc (by omega)
  simpa using this
def tcell (n i:Nat) (x:Int):Bool:=decide (-1000000≤x) && (decide (x≤1000000) && (!(decide (i % (n+1)=0)) || decide (x=0)))
def Zbx (n:Nat):Nat→List Int→Bool
 | _,[]=>true
 | i,x :: t=>tcell n i x && Zbx n (i+1) t
theorem diag {n i:Nat} (h1:1≤n) (h8:n≤8) (hi:i<n * n):(wrap64 (Int.tdiv (i:Int) (n:Int))=Int.tmod (i:Int) (n:Int))↔i % (n+1)=0:=by
 rw[Int.tdiv_eq_ediv_of_nonneg (by omega),Int.tmod_eq_emod_of_nonneg (by omega)]
 have:n=1∨n=2∨n=3∨n=4∨n=5∨n=6∨n=7∨n=8:=by omega
 rcases this with rfl|rfl|rfl|rfl|rfl|rfl|rfl|rfl
 all_goals
  rw[Zbp (by omega) (by omega)]
  omega
theorem ptab_l (n:Nat) (C:List Int) (h8:n≤8) (hC:C.length=n * n) (k:Nat) (hk:2 ^ 64≤k):Z0.l0 k C (C.length:Int) 0 (n:Int) C=some (Zbx n 0 C):=by
 have hb:n * n≤64:=Nat.le_trans (Nat.mul_le_mul h8 h8) (by decide)
 have key:=Zbd C.length (fun k i=>Z0.l0 k C (C.length:Int) (i:Int) (n:Int) C=some (Zbx n i (C.drop i))) 0
  (fun k _=>by
   simp only[Z0.l0]
   rw[if_neg (by omega),List.drop_length];rfl)
  (fun k i _ hi ih=>by
   have hn:1≤n:=by
    rcases Nat.eq_zero_or_pos n with h|h
    ·subst h;omega
    ·exact h
   simp only[Z0.l0]
   rw[if_pos (by omega),if_pos (by omega),if_pos (by omega),if_neg (show ¬(n:Int)=0 by omega),Za4,ZaQ hi (by omega),ih,ZaL hi 0,Zbx,tcell]
   generalize C.getD i 0=x
   by_cases a:x < -1000000
   ·rw[if_pos a,Zf (show ¬-1000000≤x by omega)];rfl
   rw[if_neg a,Ze (show -1000000≤x by omega),Bool.true_and]
   by_cases b:x > 1000000
   ·rw[if_pos b,Zf (show ¬x≤1000000 by omega)];rfl
   rw[if_neg b,Ze (show x≤1000000 by omega),Bool.true_and]
   by_cases c:i % (n+1)=0
   ·rw[if_pos ((diag hn h8 (by omega)).2 c),Ze c]
    by_cases d:x=0
    ·rw[if_pos d,Ze d];rfl
    ·rw[if_neg d,Zf d];rfl
   ·rw[if_neg (fun h=>c ((diag hn h8 (by omega)).1 h)),Zf c];rfl) 0 k (Nat.zero_le _) (by omega)
 simpa using key
theorem stab_l (n:Nat) (C:List Int) (h8:n≤8) (hC:C.length=n * n) (k:Nat) (hk:2 ^ 64≤k):ZW.l0 k C (C.length:Int) 0 (n:Int) C=some (Zbx n 0 C):=by
 have hb:n * n≤64:=Nat.le_trans (Nat.mul_le_mul h8 h8) (by decide)
 have key:=Zbd C.length (fun k i=>ZW.l0 k C (C.length:Int) (i:Int) (n:Int) C=some (Zbx n i (C.drop i))) 0
  (fun k _=>by
   simp only[ZW.l0]
   rw[if_neg (by omega),List.drop_length];rfl)
  (fun k i _ hi ih=>by
   simp only[ZW.l0]
   rw[ZaQ (i:=n) (n:=100) (by omega) (by omega),if_pos (by omega),if_pos (by omega),if_pos (by omega),if_neg (show ¬((n+1:Nat):Int)=0 by omega),Za4,ZaQ hi (by omega),ih,ZaL hi 0,Zbx,tcell,Zb7,Zi,Int.tmod_eq_emod_of_nonneg (by omega)]
   generalize C.getD i 0=x
   by_cases a : -1000000≤x∧x≤1000000
   ·rw[show inR x (-1000000) 1000000=true by unfold inR;simp[a.1,a.2],if_pos rfl,Ze a.1,Ze a.2,Bool.true_and,Bool.true_and]
    by_cases c:i % (n+1)=0
    ·rw[if_pos (by omega),Ze c]
     by_cases d:x=0
     ·rw[if_pos d,Ze d];rfl
     ·rw[if_neg d,Zf d];rfl
    ·rw[if_neg (by omega),Zf c];rfl
   ·rw[show inR x (-1000000) 1000000=false by unfold inR;rw[Bool.eq_false_iff];simp only[ne_eq,Bool.and_eq_true,decide_eq_true_eq];exact a,if_neg (by simp)]
    by_cases b : -1000000≤x
    ·rw[Ze b,Zf (fun h=>a ⟨b,h⟩)];rfl
    ·rw[Zf b];rfl) 0 k (Nat.zero_le _) (by omega)
 simpa using key
theorem nsq {n:Nat} (h8:n≤8):wrap64 ((n:Int) * (n:Int))=((n * n:Nat):Int):=by
 have hb:n * n≤64:=Nat.le_trans (Nat.mul_le_mul h8 h8) (by decide)
 rw[show(n:Int) * (n:Int)=((n * n:Nat):Int) by simp,Zbp (by omega) (by omega)]
theorem ptab_f (n:Nat) (C:List Int) (h8:n≤8) (hC:C.length=n * n) (k:Nat) (hk:2 ^ 65≤k):Z0.f k (n:Int) C=some (Zbx n 0 C):=by
 obtain⟨k,rfl⟩:∃m,k=m+1:=⟨k - 1,by omega⟩
 unfold Z0.f
 rw[if_neg (by omega),if_neg (by omega)]
 simp only[Z0.j0]
 rw[nsq h8,hC,if_neg (by simp),← hC,ptab_l n C h8 hC k (by omega)]
theorem stab_f (n:Nat) (C:List Int) (h8:n≤8) (hC:C.length=n * n) (k:Nat) (hk:2 ^ 65≤k):ZW.f k (n:Int) C=some (Zbx n 0 C):=by
 obtain⟨k,rfl⟩:∃m,k=m+1:=⟨k - 1,by omega⟩
 unfold ZW.f
 rw[Zb7,show inR (n:Int) 0 8=true by unfold inR;simp;omega,Zi,if_pos rfl]
 simp only[ZW.j0]
 rw[nsq h8,hC,if_neg (by simp),← hC,stab_l n C h8 hC k (by omega)]
theorem cellI {n:Nat} {a b:Int} (h8:n≤8) (ha:inN (n:Int) a=true) (hb:inN (n:Int) b=true):0≤wrap64 (wrap64 (a * (n:Int))+b)∧wrap64 (wrap64 (a * (n:Int))+b)<((n * n:Nat):Int):=by
 have h1:=Zcv.1 ha
 have h2:=Zcv.1 hb
 obtain⟨a,rfl⟩:=Int.eq_ofNat_of_zero_le h1.1
 obtain⟨b,rfl⟩:=Int.eq_ofNat_of_zero_le h2.1
 have h3:a * n≤(n - 1) * n:=Nat.mul_le_mul_right n (by omega)
 have h4:(n - 1) * n+n=n * n:=by
  obtain⟨m,rfl⟩:∃m,n=m+1:=⟨n - 1,by omega⟩
  rw[Nat.add_sub_cancel,Nat.succ_mul]
 have hb':n * n≤64:=Nat.le_trans (Nat.mul_le_mul h8 h8) (by decide)
 rw[show(a:Int) * (n:Int)=((a * n:Nat):Int) by simp,Zbp (i:=((a * n:Nat):Int)) (by omega) (by omega),Zbp (by omega) (by omega)]
 omega
theorem window_f (n:Nat) (C:List Int) (h8:n≤8) (hC:C.length=n * n) (a b:Int) (k:Nat) (hk:2 ^ 66≤k):∃r,ZI.f k (n:Int) C a b=some r∧ZH.f k (n:Int) C a b=some r:=by
 obtain⟨m,hm⟩:∃m,k=m+1:=⟨k - 1,by omega⟩
 unfold ZI.f ZH.f
 rw[ptab_f n C h8 hC k (by omega),stab_f n C h8 hC k (by omega),Zi,Zi]
 have hR:∀x:Int,ZJ.f x 0 (wrap64 ((n:Int) - 1))=some (inN (n:Int) x):=fun x=>by
  rw[Zb7,Zbp (by omega) (by omega)];congr 1;unfold inR inN;rw[Bool.eq_iff_iff];simp only[Bool.and_eq_true,decide_eq_true_eq];omega
 rw[hR,hR,inN_f,inN_f]
 simp only[Zi]
 rw[hm]
 simp only[ZI.j0,ZH.j0]
 cases Zbx n 0 C with
 | false=>exact⟨_,rfl,rfl⟩
 | true=>
  rw[if_pos rfl,if_pos rfl]
  cases ha:inN (n:Int) a with
  | false=>exact⟨_,rfl,rfl⟩
  | true=>
   rw[if_pos rfl,if_pos rfl]
   cases hb:inN (n:Int) b with
   | false=>exact⟨_,rfl,rfl⟩
   | true=>
    rw[if_neg (by simp),if_neg (by simp)]
    have h1:=cellI h8 hb ha
    have h2:=cellI h8 ha hb
    unfold ZaI.f Zaw.f Zba.f
    rw[if_pos h1.1,if_pos (by rw[hC];exact h1.2),if_pos h2.1,if_pos (by rw[hC];exact h2.2)]
    simp only[Zi,if_true,ivOk_f,sivOk_f]
    generalize ZbY _ _=q
    cases q <;> exact⟨_,rfl,rfl⟩
theorem edges_of {n:Int} {L:List Zax} (h:Zao n L=true):ZaR n (ZaK L)=true:=by
 obtain⟨h1,h8,h40,hl⟩:=ZbR h
 have hm:∀M:List Zax,(∀x∈M,Za6 n x=true)→∀e∈ZaK M,Za7 n e=true:=by
  intro M
  induction M with
  | nil=>intro _ e he;cases he
  | cons x t ih=>
   intro hM e he
   rw[ZaK] at he
   rcases List.mem_append.1 he with he|he
   ·have hx:=hM x (by simp)
    unfold Za6 inN ZbY at hx
    simp only[Bool.and_eq_true,Bool.not_eq_true',decide_eq_true_eq,decide_eq_false_iff_not] at hx
    obtain⟨⟨a1,a2⟩,⟨a3,a4⟩,b1,b2,b3,b4,b5⟩:=hx
    unfold Zcx at he
    unfold Za7 inN wgtB
    simp only[Bool.and_eq_true,decide_eq_true_eq]
    rcases List.mem_append.1 he with he|he
    ·split at he
     ·cases he
     ·rw[List.mem_singleton] at he;subst he
      exact⟨⟨a1,a2⟩,⟨a3,a4⟩,by simp only;omega,by simp only;omega⟩
    ·split at he
     ·cases he
     ·rw[List.mem_singleton] at he;subst he
      refine⟨⟨a3,a4⟩,⟨a1,a2⟩,?_⟩
      simp only
      rw[Zbp (by omega) (by omega)];omega
   ·exact ih (fun y hy=>hM y (by simp[hy])) e he
 have hlen:=Zdh L
 unfold ZaR
 rw[Zf (show ¬n<0 by omega),Zf (show ¬8<n by omega),Zf (show ¬80<(ZaK L).length by omega)]
 simp only[Bool.not_false,Bool.true_and,Bool.not_eq_true',List.any_eq_false]
 intro e he
 rw[hm L hl e he];simp
theorem windowOf_f (n:Int) (L:List Zax) (a:Int) (hc:consB n L=true):∃r,ZaN.f (2 ^ 70) n L a=some r∧ZaU.f (2 ^ 70) n L a=some r:=by
 have hs:Zao n L=true:=by unfold consB at hc;simp only[Bool.and_eq_true] at hc;exact hc.1
 have hg:=edges_of hs
 obtain⟨g0,g8,g80,gin⟩:=Zb3 hg
 obtain⟨s1,_,_,_⟩:=ZbR hs
 obtain⟨n,rfl⟩:=Int.eq_ofNat_of_zero_le g0
 have hnc:ncB n (ZaK L)=[]:=by
  unfold consB ncF at hc
  rw[hs,if_pos hg,Bool.true_and] at hc
  exact List.isEmpty_iff.1 hc
 have hall:=fun a:Nat=>sf_ok (E:=ZaK L) (N:=n) (fun e he=>by have:=gin e he;omega) (fun e he=>by have:=gin e he;omega) (by omega) (by omega) (by omega) hnc a
 have hch:∃R:Nat→List Int,∀i,(R i).length=n∧sfB (n:Int) (ZaK L) (i:Int) n=(R i,true)∧sfB (n:Int) (ZaK L) (i:Int) (n+1)=(R i,true):=⟨fun i=>(hall i).choose,fun i=>(hall i).choose_spec⟩
 obtain⟨R,hR⟩:=hch
 have hin:∀i:Nat,i<n→inN (n:Int) (i:Int)=true:=fun i hi=>Zcv.2 ⟨by omega,by omega⟩
 have hp:=pclose_l n (ZaK L) R (by omega) (fun i=>(hR i).1) (fun i hi=>by
  unfold Zau.f
  rw[if_pos ⟨hg,hin i hi⟩,Int.toNat_natCast,(hR i).2.2]) n 0 (2 ^ 70) [] (by omega) (by omega) (by simp)
 have hq:=sclose_l n (ZaK L) R (by omega) (fun i=>(hR i).1) (fun k i hi=>by
  unfold ZaX.f
  rw[if_pos ⟨hg,hin i hi⟩,Int.toNat_natCast,(hR i).2.1]) n 0 (2 ^ 70) [] (by omega) (by omega) (by simp)
 have hlen:=rowsB_len R n (fun i=>(hR i).1) n 0
 obtain⟨r,hr1,hr2⟩:=window_f n (ZbH R 0 n) (by omega) hlen 0 a (2 ^ 70) (by omega)
 refine⟨r,?_,?_⟩
 ·unfold ZaN.f ZM.f
  rw[Zcw (n:Int) L (2 ^ 70) (by omega),gofB,if_pos hs,Zi]
  simp only[Za5.f,Zi]
  rw[if_pos hg,show(0:Int)=((0:Nat):Int) from rfl,hp,Zi]
  simp only[List.nil_append,Z8.f,Zi]
  rw[if_pos trivial,if_pos hs]
  rw[show((0:Nat):Int)=0 from rfl,hr1];rfl
 ·unfold ZaU.f ZL.f
  rw[ZbU (n:Int) L (2 ^ 70) (by omega),hc,Zi,if_pos rfl,Zco (n:Int) L (2 ^ 70) (by omega),gofB,if_pos hs,Zi]
  rw[ZbV _ _ (2 ^ 70) (by omega),Zi]
  simp only
  rw[if_pos hg,show(0:Int)=((0:Nat):Int) from rfl,hq,Zi]
  simp only[List.nil_append]
  rw[show((0:Nat):Int)=0 from rfl,hr2];rfl
end Go.Proofs.Ytpoffpdaadhkgaa.Pr
