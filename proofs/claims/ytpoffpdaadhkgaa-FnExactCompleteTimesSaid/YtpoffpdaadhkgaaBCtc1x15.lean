/- The texts of one claim, put together by a program of this session. -/
import Derived.Deep.LoopGhost
import Derived.Deep.RegionHeld3
import Derived.Test.YtpoffpdaadhkgaaBCtc1x1
import Derived.Test.YtpoffpdaadhkgaaBCtc1x10
import Derived.Test.YtpoffpdaadhkgaaBCtc1x11
import Derived.Test.YtpoffpdaadhkgaaBCtc1x12
import Derived.Test.YtpoffpdaadhkgaaBCtc1x14
import Derived.Test.YtpoffpdaadhkgaaBCtc1x2
import Derived.Test.YtpoffpdaadhkgaaBCtc1x3
import Derived.Test.YtpoffpdaadhkgaaBCtc1x5
import Derived.Test.YtpoffpdaadhkgaaBCtc1x6
import Derived.Test.YtpoffpdaadhkgaaBCtc1x9
namespace Go.Proofs.Ytpoffpdaadhkgaa.Pr
open Go.RowKit Go.Proofs.YtpoffpdaadhkgaaW.PrintWords Go.Proofs.YtpoffpdaadhkgaaW.PrintLast Go.Proofs.YtpoffpdaadhkgaaW.PrintMore
attribute [local go_sem] Zaa Z8 Zak Zaj Z5 Z4 Z9 Z7
set_option linter.unusedVariables false
set_option linter.unusedSimpArgs false
def ZaZ.f (k:Nat) (a0_0:Int) (l0_1:List (S101)) (a1:Int):Option (Int×Int×Bool):=(Zar.f k a0_0 l0_1).bind fun t86003=>(if t86003=true then((ZaM.f k a0_0 l0_1).bind fun bt86004=>((ZM.f k bt86004.1 bt86004.2).bind fun bt86008=>((ZH.f k bt86008.1 bt86008.2.1 0 a1).bind fun bt86014=>(some (bt86014.1,bt86014.2.1,bt86014.2.2))))) else(some (0,0,false)))
set_option maxHeartbeats 8000000 in
set_option maxRecDepth 100000 in
theorem ZaZ.calls (k:Nat) (a0_0:Int) (A0_1:Option Addr) (c0_1:Nat) (l0_1:List (S101)) (a1:Int) (r1:Int) (r2:Int) (r3:Bool) (w:World) (hr0_1:Kd.C k101 w A0_1 l0_1.length l0_1) (hc0_1:l0_1.length≤c0_1) (h:ZaZ.f k a0_0 l0_1 a1=some (r1,r2,r3)) :
  Calls Try.prog 86 #[.agg #[.int .i64 a0_0,.slice A0_1 l0_1.length c0_1],.int .i64 a1] w fun e w'=>e=.returned (.tuple #[.agg #[.int .i64 r1,.int .i64 r2],.bool r3])∧Below w.heap.size w w':=by
 have hu25:=Try.underlying25
 have hu29:=Try.underlying29
 have hu90:=Try.underlying90
 have HR0_1:=Za hr0_1;have HC0_1:=Za hc0_1;clear hr0_1 hc0_1
 have HB:=Za (Below.refl w.heap.size w)
 have H:((Zar.f k a0_0 l0_1).bind fun t86003=>(if t86003=true then((ZaM.f k a0_0 l0_1).bind fun bt86004=>((ZM.f k bt86004.1 bt86004.2).bind fun bt86008=>((ZH.f k bt86008.1 bt86008.2.1 0 a1).bind fun bt86014=>(some (bt86014.1,bt86014.2.1,bt86014.2.2))))) else(some (0,0,false))))=some (r1,r2,r3):=h
 clear h
 replace H:=Zh H
 obtain⟨t86003,A30,H⟩:=H
 replace H:(if t86003=true then((ZaM.f k a0_0 l0_1).bind fun bt86004=>((ZM.f k bt86004.1 bt86004.2).bind fun bt86008=>((ZH.f k bt86008.1 bt86008.2.1 0 a1).bind fun bt86014=>(some (bt86014.1,bt86014.2.1,bt86014.2.2))))) else(some (0,0,false)))=some (r1,r2,r3):=H
 have A3:=Za A30;clear A30
 by_cases c4:t86003=true
 ·subst c4
  have H1:((ZaM.f k a0_0 l0_1).bind fun bt86004=>((ZM.f k bt86004.1 bt86004.2).bind fun bt86008=>((ZH.f k bt86008.1 bt86008.2.1 0 a1).bind fun bt86014=>(some (bt86014.1,bt86014.2.1,bt86014.2.2)))))=some (r1,r2,r3):=by rw[if_pos rfl] at H;exact H
  clear H
  have H:=H1
  clear H1
  replace H:=Zh H
  obtain⟨⟨t86004,t86005⟩,A50,H⟩:=H
  replace H:((ZM.f k t86004 t86005).bind fun bt86008=>((ZH.f k bt86008.1 bt86008.2.1 0 a1).bind fun bt86014=>(some (bt86014.1,bt86014.2.1,bt86014.2.2))))=some (r1,r2,r3):=H
  have A5:=Za A50;clear A50
  replace H:=Zh H
  obtain⟨⟨t86008,t86009,t86012⟩,A60,H⟩:=H
  replace H:((ZH.f k t86008 t86009 0 a1).bind fun bt86014=>(some (bt86014.1,bt86014.2.1,bt86014.2.2)))=some (r1,r2,r3):=H
  have A6:=Za A60;clear A60
  replace H:=Zh H
  obtain⟨⟨t86014,t86015,t86016⟩,A70,H⟩:=H
  replace H:(some (t86014,t86015,t86016))=some (r1,r2,r3):=H
  have A7:=Za A70;clear A70
  simp only[Option.some.injEq,Prod.mk.injEq] at H
  obtain⟨rfl,rfl,rfl⟩:=H
  go_enter Try.func86,Try.ntmps86
  go_wp2_with (first|((with_reducible refine ZC (N:=2) rfl ?_);refine ZE ?hg (N:=2) ?hd (cs:=#[.int .i64 a0_0,.slice A0_1 l0_1.length c0_1]) (t:=25) ?hr ?_;(case hd=>rfl);(case hg=>rfl);(case hr=>first|(go_simp;done)|(go_simp;rfl));intro gb86001 hg w8 hbox hb;have n0_:=Za (Zy (by repeat(first|(with_reducible first|exact HB.out|apply Zq|apply Zm|apply Zs)|exact HB.out)) hb);have n1_:=Za (hbox);have n2_:=Za ((by rw[hg];exact(Zv (by repeat(first|(with_reducible first|exact HB.out|apply Zq|apply Zm|apply Zs)|exact HB.out))):w.heap.size≤gb86001));have n3_:=Za ((by rw[hg];exact(Zv (by repeat(first|(with_reducible first|exact HB.out|apply Zq|apply Zm|apply Zs)|exact HB.out))):w.heap.size≤gb86001));clear HB;have HB:=n0_;have BK86001:=n1_;have GW86001:=n2_;have GE86001:=n3_;clear n0_ n1_ n2_ n3_;clear hb hbox hg)|((with_reducible refine ZC (N:=4) rfl ?_);refine ZE ?hg (N:=4) ?hd (cs:=#[.int .i64 0,.int .i64 0]) (t:=29) ?hr ?_;(case hd=>rfl);(case hg=>rfl);(case hr=>first|(go_simp;done)|(go_simp;rfl));intro gb86002 hg w9 hbox hb;have n0_:=Za (Zx (g:=gb86001) (o:=.cells #[.int .i64 a0_0,.slice A0_1 l0_1.length c0_1] 25 (0,0)) (by(with_reducible repeat(first|refine Zo ?_ _|refine Zr ?_|refine Zn ?_ _));exact BK86001.out) hb);have n1_:=Za (Zy (by repeat(first|(with_reducible first|exact HB.out|apply Zq|apply Zm|apply Zs|refine Zp ?_ GE86001.out)|exact HB.out)) hb);have n2_:=Za (hbox);have n3_:=Za ((by rw[hg];exact(Zv (by repeat(first|(with_reducible first|exact HB.out|apply Zq|apply Zm|apply Zs|refine Zp ?_ GE86001.out)|exact HB.out))):w.heap.size≤gb86002));have n4_:=Za ((by rw[hg];exact(Zv (by repeat(first|(with_reducible first|exact HB.out|apply Zq|apply Zm|apply Zs|refine Zp ?_ GE86001.out)|exact HB.out))):w.heap.size≤gb86002));have n5_:=Za ((by rw[hg];exact Nat.ne_of_lt (ZB (g:=gb86001) (o:=.cells #[.int .i64 a0_0,.slice A0_1 l0_1.length c0_1] 25 (0,0)) (by(with_reducible repeat(first|refine Zo ?_ _|refine Zr ?_|refine Zn ?_ _));exact BK86001.out)):gb86001≠gb86002));have n6_:=Za ((by rw[hg];exact Nat.ne_of_gt (ZB (g:=gb86001) (o:=.cells #[.int .i64 a0_0,.slice A0_1 l0_1.length c0_1] 25 (0,0)) (by(with_reducible repeat(first|refine Zo ?_ _|refine Zr ?_|refine Zn ?_ _));exact BK86001.out)):gb86002≠gb86001));clear BK86001;clear HB;have BK86001:=n0_;have HB:=n1_;have BK86002:=n2_;have GW86002:=n3_;have GE86002:=n4_;have NB86001_86002:=n5_;have NB86002_86001:=n6_;clear n0_ n1_ n2_ n3_ n4_ n5_ n6_;clear hb hbox hg;have hnb10:=NB86001_86002.out;have hnc10:=NB86002_86001.out;have hcz11_0:w9.cell? ⟨gb86001,0,none⟩=some (.int .i64 a0_0):=(Zu BK86001.out 0).trans rfl;have hcz11_1:w9.cell? ⟨gb86001,1,none⟩=some (.slice A0_1 l0_1.length c0_1):=(Zu BK86001.out 1).trans rfl;have hfz11_0:=Zt BK86001.out 0;have hfz11_1:=Zt BK86001.out 1)|((with_reducible refine ZG (f:=83) rfl ?_);refine ZV (some 9) rfl rfl Try.func83 (by kernel_rfl) rfl #[.agg #[.int .i64 a0_0,.slice A0_1 l0_1.length c0_1]] rfl (by(try simp only[List.map_toArray,List.map_cons,List.map_nil]);first|done|rfl|(simp only[Zk,Zj];rfl)) ?_;(with_reducible refine(Zar.calls k a0_0 _ _ l0_1 true _ ?side1 ?side2 A3.out).mono ?_);(case side1=>repeat(first|exact(Zb HR0_1.out HB.out)|(with_reducible refine Kd.C_alloc ?_ _)|(with_reducible refine Kd.C_drewN ?_ _)|(with_reducible refine Kd.C_drew ?_)));(case side2=>exact HC0_1.out);rintro e w12 ⟨rfl,hb⟩;refine⟨_,rfl,?_⟩;have n0_:=Za (Zx (g:=gb86001) (o:=.cells #[.int .i64 a0_0,.slice A0_1 l0_1.length c0_1] 25 (0,0)) (by(with_reducible repeat(first|refine Zo ?_ _|refine Zr ?_|refine Zn ?_ _));exact BK86001.out) hb);have n1_:=Za (Zx (g:=gb86002) (o:=.cells #[.int .i64 0,.int .i64 0] 29 (0,0)) (by(with_reducible repeat(first|refine Zo ?_ _|refine Zr ?_|refine Zn ?_ _));exact BK86002.out) hb);have n2_:=Za (Zy (by repeat(first|(with_reducible first|exact HB.out|apply Zq|apply Zm|apply Zs|refine Zp ?_ GE86001.out|refine Zp ?_ GE86002.out)|exact HB.out)) hb);clear BK86001;clear BK86002;clear HB;have BK86001:=n0_;have BK86002:=n1_;have HB:=n2_;clear n0_ n1_ n2_;(try clear hb);(try clear hb2);(try clear hk);(try clear hi);have hcz13_0:w12.cell? ⟨gb86001,0,none⟩=some (.int .i64 a0_0):=(Zu BK86001.out 0).trans rfl;have hcz13_1:w12.cell? ⟨gb86001,1,none⟩=some (.slice A0_1 l0_1.length c0_1):=(Zu BK86001.out 1).trans rfl;have hfz13_0:=Zt BK86001.out 0;have hfz13_1:=Zt BK86001.out 1)|((with_reducible refine ZG (f:=131) rfl ?_);refine ZV (some 14) rfl rfl Try.func131 (by kernel_rfl) rfl #[.agg #[.int .i64 a0_0,.slice A0_1 l0_1.length c0_1]] rfl (by(try simp only[List.map_toArray,List.map_cons,List.map_nil]);first|done|rfl|(simp only[Zk,Zj];rfl)) ?_;(with_reducible refine(ZaM.calls k a0_0 _ _ l0_1 t86004 t86005 _ ?side1 ?side2 A5.out).mono ?_);(case side1=>repeat(first|exact(Zb HR0_1.out HB.out)|(with_reducible refine Kd.C_alloc ?_ _)|(with_reducible refine Kd.C_drewN ?_ _)|(with_reducible refine Kd.C_drew ?_)));(case side2=>exact HC0_1.out);rintro e w14 ⟨v86006,rfl,ho0,hb⟩;refine⟨_,rfl,?_⟩;have n0_:=Za (Kd.R_lower ho0 (Zv (by repeat(first|(with_reducible first|exact HB.out|apply Zq|apply Zm|apply Zs|refine Zp ?_ GE86001.out|refine Zp ?_ GE86002.out)|exact HB.out))));have n1_:=Za (Zx (g:=gb86001) (o:=.cells #[.int .i64 a0_0,.slice A0_1 l0_1.length c0_1] 25 (0,0)) (by(with_reducible repeat(first|refine Zo ?_ _|refine Zr ?_|refine Zn ?_ _));exact BK86001.out) hb);have n2_:=Za (Zx (g:=gb86002) (o:=.cells #[.int .i64 0,.int .i64 0] 29 (0,0)) (by(with_reducible repeat(first|refine Zo ?_ _|refine Zr ?_|refine Zn ?_ _));exact BK86002.out) hb);have n3_:=Za (Zy (by repeat(first|(with_reducible first|exact HB.out|apply Zq|apply Zm|apply Zs|refine Zp ?_ GE86001.out|refine Zp ?_ GE86002.out)|exact HB.out)) hb);clear BK86001;clear BK86002;clear HB;have HO86007:=n0_;have BK86001:=n1_;have BK86002:=n2_;have HB:=n3_;clear n0_ n1_ n2_ n3_;(try clear hb);(try clear hb2);(try clear hk);(try clear hi);(try clear ho0);obtain⟨Ao15,co15,eo15⟩:=Kd.R_slice HO86007.out;subst eo15)|((with_reducible refine ZG (f:=134) rfl ?_);refine ZV (some 15) rfl rfl Try.func134 (by kernel_rfl) rfl #[.agg #[.int .i64 t86004,.slice Ao15 t86005.length co15]] rfl (by(try simp only[List.map_toArray,List.map_cons,List.map_nil]);first|done|rfl|(simp only[Zk,Zj];rfl)) ?_;(with_reducible refine(ZM.calls k t86004 _ _ t86005 t86008 t86009 t86012 _ ?side1 ?side2 A6.out).mono ?_);(case side1=>repeat(first|exact(Kd.R_reads' HO86007.out).2.2|(with_reducible refine Kd.C_alloc ?_ _)|(with_reducible refine Kd.C_drewN ?_ _)|(with_reducible refine Kd.C_drew ?_)));(case side2=>exact(Kd.R_reads' HO86007.out).2.1);rintro e w16 ⟨v86010,rfl,ho0,hb⟩;refine⟨_,rfl,?_⟩;have n0_:=Za (Kd.R_below (by(with_reducible repeat(first|apply Kd.R_alloc|apply Kd.R_drewN|apply Kd.R_drew));exact HO86007.out) hb);have n1_:=Za (Kd.R_lower ho0 (Zv (by repeat(first|(with_reducible first|exact HB.out|apply Zq|apply Zm|apply Zs|refine Zp ?_ GE86001.out|refine Zp ?_ GE86002.out)|exact HB.out))));have n2_:=Za (Zx (g:=gb86001) (o:=.cells #[.int .i64 a0_0,.slice A0_1 l0_1.length c0_1] 25 (0,0)) (by(with_reducible repeat(first|refine Zo ?_ _|refine Zr ?_|refine Zn ?_ _));exact BK86001.out) hb);have n3_:=Za (Zx (g:=gb86002) (o:=.cells #[.int .i64 0,.int .i64 0] 29 (0,0)) (by(with_reducible repeat(first|refine Zo ?_ _|refine Zr ?_|refine Zn ?_ _));exact BK86002.out) hb);have n4_:=Za (Zy (by repeat(first|(with_reducible first|exact HB.out|apply Zq|apply Zm|apply Zs|refine Zp ?_ GE86001.out|refine Zp ?_ GE86002.out)|exact HB.out)) hb);clear HO86007;clear BK86001;clear BK86002;clear HB;have HO86007:=n0_;have HO86011:=n1_;have BK86001:=n2_;have BK86002:=n3_;have HB:=n4_;clear n0_ n1_ n2_ n3_ n4_;(try clear hb);(try clear hb2);(try clear hk);(try clear hi);(try clear ho0))|((with_reducible refine ZC (N:=6) rfl ?_);refine ZE ?hg (N:=6) ?hd (cs:=#[.int .i64 0,.slice none 0 0]) (t:=90) ?hr ?_;(case hd=>rfl);(case hg=>rfl);(case hr=>first|(go_simp;done)|(go_simp;rfl));intro gb86013 hg w17 hbox hb;have n0_:=Za (Kd.R_below (by(with_reducible repeat(first|apply Kd.R_alloc|apply Kd.R_drewN|apply Kd.R_drew));exact HO86007.out) hb);have n1_:=Za (Kd.R_below (by(with_reducible repeat(first|apply Kd.R_alloc|apply Kd.R_drewN|apply Kd.R_drew));exact HO86011.out) hb);have n2_:=Za (Zx (g:=gb86001) (o:=.cells #[.int .i64 a0_0,.slice A0_1 l0_1.length c0_1] 25 (0,0)) (by(with_reducible repeat(first|refine Zo ?_ _|refine Zr ?_|refine Zn ?_ _));exact BK86001.out) hb);have n3_:=Za (Zx (g:=gb86002) (o:=.cells #[.int .i64 0,.int .i64 0] 29 (0,0)) (by(with_reducible repeat(first|refine Zo ?_ _|refine Zr ?_|refine Zn ?_ _));exact BK86002.out) hb);have n4_:=Za (Zy (by repeat(first|(with_reducible first|exact HB.out|apply Zq|apply Zm|apply Zs|refine Zp ?_ GE86001.out|refine Zp ?_ GE86002.out)|exact HB.out)) hb);have n5_:=Za (hbox);have n6_:=Za ((by rw[hg];exact(Zv (by repeat(first|(with_reducible first|exact HB.out|apply Zq|apply Zm|apply Zs|refine Zp ?_ GE86001.out|refine Zp ?_ GE86002.out)|exact HB.out))):w.heap.size≤gb86013));have n7_:=Za ((by rw[hg];exact(Zv (by repeat(first|(with_reducible first|exact HB.out|apply Zq|apply Zm|apply Zs|refine Zp ?_ GE86001.out|refine Zp ?_ GE86002.out)|exact HB.out))):w.heap.size≤gb86013));have n8_:=Za ((by rw[hg];exact Nat.ne_of_lt (ZB (g:=gb86001) (o:=.cells #[.int .i64 a0_0,.slice A0_1 l0_1.length c0_1] 25 (0,0)) (by(with_reducible repeat(first|refine Zo ?_ _|refine Zr ?_|refine Zn ?_ _));exact BK86001.out)):gb86001≠gb86013));have n9_:=Za ((by rw[hg];exact Nat.ne_of_gt (ZB (g:=gb86001) (o:=.cells #[.int .i64 a0_0,.slice A0_1 l0_1.length c0_1] 25 (0,0)) (by(with_reducible repeat(first|refine Zo ?_ _|refine Zr ?_|refine Zn ?_ _));exact BK86001.out)):gb86013≠gb86001));have n10_:=Za ((by rw[hg];exact Nat.ne_of_lt (ZB (g:=gb86002) (o:=.cells #[.int .i64 0,.int .i64 0] 29 (0,0)) (by(with_reducible repeat(first|refine Zo ?_ _|refine Zr ?_|refine Zn ?_ _));exact BK86002.out)):gb86002≠gb86013));have n11_:=Za ((by rw[hg];exact Nat.ne_of_gt (ZB (g:=gb86002) (o:=.cells #[.int .i64 0,.int .i64 0] 29 (0,0)) (by(with_reducible repeat(first|refine Zo ?_ _|refine Zr ?_|refine Zn ?_ _));exact BK86002.out)):gb86013≠gb86002));clear HO86007;clear HO86011;clear BK86001;clear BK86002;clear HB;have HO86007:=n0_;have HO86011:=n1_;have BK86001:=n2_;have BK86002:=n3_;have HB:=n4_;have BK86013:=n5_;have GW86013:=n6_;have GE86013:=n7_;have NB86001_86013:=n8_;have NB86013_86001:=n9_;have NB86002_86013:=n10_;have NB86013_86002:=n11_;clear n0_ n1_ n2_ n3_ n4_ n5_ n6_ n7_ n8_ n9_ n10_ n11_;clear hb hbox hg;have hnb18:=NB86013_86001.out;have hnc18:=NB86001_86013.out;have hnb19:=NB86013_86002.out;have hnc19:=NB86002_86013.out;have hcz20_0:w17.cell? ⟨gb86013,0,none⟩=some (.int .i64 0):=(Zu BK86013.out 0).trans rfl;have hcz20_1:w17.cell? ⟨gb86013,1,none⟩=some (.slice none 0 0):=(Zu BK86013.out 1).trans rfl;have hfz20_0:=Zt BK86013.out 0;have hfz20_1:=Zt BK86013.out 1;obtain⟨Ao21,co21,eo21⟩:=Kd.R_slice HO86011.out;subst eo21)|((with_reducible refine ZG (f:=135) rfl ?_);refine ZV (some 20) rfl rfl Try.func135 (by kernel_rfl) rfl #[.agg #[.int .i64 t86008,.slice Ao21 t86009.length co21],.int .i64 0,.int .i64 a1] rfl (by(try simp only[List.map_toArray,List.map_cons,List.map_nil]);first|done|rfl|(simp only[Zk,Zj];rfl)) ?_;(with_reducible refine(ZH.calls k t86008 _ _ t86009 0 a1 t86014 t86015 t86016 _ ?side1 ?side2 A7.out).mono ?_);(case side1=>refine(Kd.R_reads' (e:=3) (base:=w.heap.size) (ok:=fun k_=>True) (n:=t86009.length) (c:=co21) ?_).2.2;exact(by(with_reducible repeat(first|apply Kd.R_alloc|apply Kd.R_drewN|apply Kd.R_drew));exact(Kd.R_mono (Kd.R_far (p:=⟨gb86013,1,none⟩) (Kd.R_far (p:=⟨gb86013,0,none⟩) (Kd.R_types HO86011.out BK86013.out (by decide)) (fun _ hk=>hk.2) (.int .i64 t86008)) (fun _ hk=>hk.2) (.slice Ao21 t86009.length co21)) (fun _ h_=>h_.1))));(case side2=>exact(Kd.R_reads' HO86011.out).2.1);rintro e w22 ⟨rfl,hb⟩;refine⟨_,rfl,?_⟩;have n0_:=Za (Kd.R_below (by(with_reducible repeat(first|apply Kd.R_alloc|apply Kd.R_drewN|apply Kd.R_drew));exact(Kd.R_mono (Kd.R_far (p:=⟨gb86013,1,none⟩) (Kd.R_far (p:=⟨gb86013,0,none⟩) (Kd.R_types HO86007.out BK86013.out (by decide)) (fun _ hk=>hk.2) (.int .i64 t86008)) (fun _ hk=>hk.2) (.slice Ao21 t86009.length co21)) (fun _ h_=>h_.1))) hb);have n1_:=Za (Kd.R_below (by(with_reducible repeat(first|apply Kd.R_alloc|apply Kd.R_drewN|apply Kd.R_drew));exact(Kd.R_mono (Kd.R_far (p:=⟨gb86013,1,none⟩) (Kd.R_far (p:=⟨gb86013,0,none⟩) (Kd.R_types HO86011.out BK86013.out (by decide)) (fun _ hk=>hk.2) (.int .i64 t86008)) (fun _ hk=>hk.2) (.slice Ao21 t86009.length co21)) (fun _ h_=>h_.1))) hb);have n2_:=Za (Zx (g:=gb86001) (o:=.cells #[.int .i64 a0_0,.slice A0_1 l0_1.length c0_1] 25 (0,0)) (by(with_reducible repeat(first|refine Zo ?_ _|refine Zr ?_|refine Zn ?_ _));refine ZD ?_ NB86001_86013.out _;(with_reducible repeat(first|refine Zo ?_ _|refine Zr ?_|refine Zn ?_ _));refine ZD ?_ NB86001_86013.out _;(with_reducible repeat(first|refine Zo ?_ _|refine Zr ?_|refine Zn ?_ _));exact BK86001.out) hb);have n3_:=Za (Zx (g:=gb86002) (o:=.cells #[.int .i64 0,.int .i64 0] 29 (0,0)) (by(with_reducible repeat(first|refine Zo ?_ _|refine Zr ?_|refine Zn ?_ _));refine ZD ?_ NB86002_86013.out _;(with_reducible repeat(first|refine Zo ?_ _|refine Zr ?_|refine Zn ?_ _));refine ZD ?_ NB86002_86013.out _;(with_reducible repeat(first|refine Zo ?_ _|refine Zr ?_|refine Zn ?_ _));exact BK86002.out) hb);have n4_:=Za (Zx (g:=gb86013) (o:=.cells #[.int .i64 t86008,.slice Ao21 t86009.length co21] 90 (0,0)) (by(with_reducible repeat(first|refine Zo ?_ _|refine Zr ?_|refine Zn ?_ _));refine ZF (cs:=#[.int .i64 t86008,.slice none 0 0]) ?_ 1 _ rfl;(with_reducible repeat(first|refine Zo ?_ _|refine Zr ?_|refine Zn ?_ _));refine ZF (cs:=#[.int .i64 0,.slice none 0 0]) ?_ 0 _ rfl;(with_reducible repeat(first|refine Zo ?_ _|refine Zr ?_|refine Zn ?_ _));exact BK86013.out) hb);have n5_:=Za (Zy (by repeat(first|(with_reducible first|exact HB.out|apply Zq|apply Zm|apply Zs|refine Zp ?_ GE86001.out|refine Zp ?_ GE86002.out|refine Zp ?_ GE86013.out)|exact HB.out)) hb);clear HO86007;clear HO86011;clear BK86001;clear BK86002;clear BK86013;clear HB;have HO86007:=n0_;have HO86011:=n1_;have BK86001:=n2_;have BK86002:=n3_;have BK86013:=n4_;have HB:=n5_;clear n0_ n1_ n2_ n3_ n4_ n5_;(try clear hb);(try clear hb2);(try clear hk);(try clear hi);have hcz23_0:w22.cell? ⟨gb86002,0,none⟩=some (.int .i64 0):=(Zu BK86002.out 0).trans rfl;have hcz23_1:w22.cell? ⟨gb86002,1,none⟩=some (.int .i64 0):=(Zu BK86002.out 1).trans rfl;have hfz23_0:=Zt BK86002.out 0;have hfz23_1:=Zt BK86002.out 1))
  refine bodyPost_ret (Zab rfl _ _ gb86002 29 #[.int .i64 t86014,.int .i64 t86015] (0,0) _ rfl (by(with_reducible repeat(first|refine Zo ?_ _|refine Zr ?_|refine Zn ?_ _));refine ZF (cs:=#[.int .i64 t86014,.int .i64 0]) ?_ 1 _ rfl;(with_reducible repeat(first|refine Zo ?_ _|refine Zr ?_|refine Zn ?_ _));refine ZF (cs:=#[.int .i64 0,.int .i64 0]) ?_ 0 _ rfl;(with_reducible repeat(first|refine Zo ?_ _|refine Zr ?_|refine Zn ?_ _));exact BK86002.out) Try.underlying29 rfl (by kernel_rfl)) rfl ?_
  exact⟨by first|rfl|(simp[ZA,Zz] <;> rfl)|(simp[*,ZA,Zz] <;> rfl),by repeat(first|(with_reducible first|exact HB.out|apply Zq|apply Zm|apply Zs|refine Zp ?_ GE86001.out|refine Zp ?_ GE86002.out|refine Zp ?_ GE86013.out)|exact HB.out)⟩
 ·replace c4:=Bool.eq_false_iff.mpr c4
  subst c4
  have H1:(some (0,0,false))=some (r1,r2,r3):=by rw[if_neg (show ¬(false=true) by decide)] at H;exact H
  clear H
  have H:=H1
  clear H1
  simp only[Option.some.injEq,Prod.mk.injEq] at H
  obtain⟨rfl,rfl,rfl⟩:=H
  go_enter Try.func86,Try.ntmps86
  go_wp2_with (first|((with_reducible refine ZC (N:=2) rfl ?_);refine ZE ?hg (N:=2) ?hd (cs:=#[.int .i64 a0_0,.slice A0_1 l0_1.length c0_1]) (t:=25) ?hr ?_;(case hd=>rfl);(case hg=>rfl);(case hr=>first|(go_simp;done)|(go_simp;rfl));intro gb86001 hg w24 hbox hb;have n0_:=Za (Zy (by repeat(first|(with_reducible first|exact HB.out|apply Zq|apply Zm|apply Zs)|exact HB.out)) hb);have n1_:=Za (hbox);have n2_:=Za ((by rw[hg];exact(Zv (by repeat(first|(with_reducible first|exact HB.out|apply Zq|apply Zm|apply Zs)|exact HB.out))):w.heap.size≤gb86001));have n3_:=Za ((by rw[hg];exact(Zv (by repeat(first|(with_reducible first|exact HB.out|apply Zq|apply Zm|apply Zs)|exact HB.out))):w.heap.size≤gb86001));clear HB;have HB:=n0_;have BK86001:=n1_;have GW86001:=n2_;have GE86001:=n3_;clear n0_ n1_ n2_ n3_;clear hb hbox hg)|((with_reducible refine ZC (N:=4) rfl ?_);refine ZE ?hg (N:=4) ?hd (cs:=#[.int .i64 0,.int .i64 0]) (t:=29) ?hr ?_;(case hd=>rfl);(case hg=>rfl);(case hr=>first|(go_simp;done)|(go_simp;rfl));intro gb86002 hg w25 hbox hb;have n0_:=Za (Zx (g:=gb86001) (o:=.cells #[.int .i64 a0_0,.slice A0_1 l0_1.length c0_1] 25 (0,0)) (by(with_reducible repeat(first|refine Zo ?_ _|refine Zr ?_|refine Zn ?_ _));exact BK86001.out) hb);have n1_:=Za (Zy (by repeat(first|(with_reducible first|exact HB.out|apply Zq|apply Zm|apply Zs|refine Zp ?_ GE86001.out)|exact HB.out)) hb);have n2_:=Za (hbox);have n3_:=Za ((by rw[hg];exact(Zv (by repeat(first|(with_reducible first|exact HB.out|apply Zq|apply Zm|apply Zs|refine Zp ?_ GE86001.out)|exact HB.out))):w.heap.size≤gb86002));have n4_:=Za ((by rw[hg];exact(Zv (by repeat(first|(with_reducible first|exact HB.out|apply Zq|apply Zm|apply Zs|refine Zp ?_ GE86001.out)|exact HB.out))):w.heap.size≤gb86002));have n5_:=Za ((by rw[hg];exact Nat.ne_of_lt (ZB (g:=gb86001) (o:=.cells #[.int .i64 a0_0,.slice A0_1 l0_1.length c0_1] 25 (0,0)) (by(with_reducible repeat(first|refine Zo ?_ _|refine Zr ?_|refine Zn ?_ _));exact BK86001.out)):gb86001≠gb86002));have n6_:=Za ((by rw[hg];exact Nat.ne_of_gt (ZB (g:=gb86001) (o:=.cells #[.int .i64 a0_0,.slice A0_1 l0_1.length c0_1] 25 (0,0)) (by(with_reducible repeat(first|refine Zo ?_ _|refine Zr ?_|refine Zn ?_ _));exact BK86001.out)):gb86002≠gb86001));clear BK86001;clear HB;have BK86001:=n0_;have HB:=n1_;have BK86002:=n2_;have GW86002:=n3_;have GE86002:=n4_;have NB86001_86002:=n5_;have NB86002_86001:=n6_;clear n0_ n1_ n2_ n3_ n4_ n5_ n6_;clear hb hbox hg;have hnb26:=NB86001_86002.out;have hnc26:=NB86002_86001.out;have hcz27_0:w25.cell? ⟨gb86001,0,none⟩=some (.int .i64 a0_0):=(Zu BK86001.out 0).trans rfl;have hcz27_1:w25.cell? ⟨gb86001,1,none⟩=some (.slice A0_1 l0_1.length c0_1):=(Zu BK86001.out 1).trans rfl;have hfz27_0:=Zt BK86001.out 0;have hfz27_1:=Zt BK86001.out 1)|((with_reducible refine ZG (f:=83) rfl ?_);refine ZV (some 9) rfl rfl Try.func83 (by kernel_rfl) rfl #[.agg #[.int .i64 a0_0,.slice A0_1 l0_1.length c0_1]] rfl (by(try simp only[List.map_toArray,List.map_cons,List.map_nil]);first|done|rfl|(simp only[Zk,Zj];rfl)) ?_;(with_reducible refine(Zar.calls k a0_0 _ _ l0_1 false _ ?side1 ?side2 A3.out).mono ?_);(case side1=>repeat(first|exact(Zb HR0_1.out HB.out)|(with_reducible refine Kd.C_alloc ?_ _)|(with_reducible refine Kd.C_drewN ?_ _)|(with_reducible refine Kd.C_drew ?_)));(case side2=>exact HC0_1.out);rintro e w28 ⟨rfl,hb⟩;refine⟨_,rfl,?_⟩;have n0_:=Za (Zx (g:=gb86001) (o:=.cells #[.int .i64 a0_0,.slice A0_1 l0_1.length c0_1] 25 (0,0)) (by(with_reducible repeat(first|refine Zo ?_ _|refine Zr ?_|refine Zn ?_ _));exact BK86001.out) hb);have n1_:=Za (Zx (g:=gb86002) (o:=.cells #[.int .i64 0,.int .i64 0] 29 (0,0)) (by(with_reducible repeat(first|refine Zo ?_ _|refine Zr ?_|refine Zn ?_ _));exact BK86002.out) hb);have n2_:=Za (Zy (by repeat(first|(with_reducible first|exact HB.out|apply Zq|apply Zm|apply Zs|refine Zp ?_ GE86001.out|refine Zp ?_ GE86002.out)|exact HB.out)) hb);clear BK86001;clear BK86002;clear HB;have BK86001:=n0_;have BK86002:=n1_;have HB:=n2_;clear n0_ n1_ n2_;(try clear hb);(try clear hb2);(try clear hk);(try clear hi);have hcz29_0:w28.cell? ⟨gb86002,0,none⟩=some (.int .i64 0):=(Zu BK86002.out 0).trans rfl;have hcz29_1:w28.cell? ⟨gb86002,1,none⟩=some (.int .i64 0):=(Zu BK86002.out 1).trans rfl;have hfz29_0:=Zt BK86002.out 0;have hfz29_1:=Zt BK86002.out 1))
  refine bodyPost_ret (Zab rfl _ _ gb86002 29 #[.int .i64 0,.int .i64 0] (0,0) _ rfl (by(with_reducible repeat(first|refine Zo ?_ _|refine Zr ?_|refine Zn ?_ _));refine ZF (cs:=#[.int .i64 0,.int .i64 0]) ?_ 1 _ rfl;(with_reducible repeat(first|refine Zo ?_ _|refine Zr ?_|refine Zn ?_ _));refine ZF (cs:=#[.int .i64 0,.int .i64 0]) ?_ 0 _ rfl;(with_reducible repeat(first|refine Zo ?_ _|refine Zr ?_|refine Zn ?_ _));exact BK86002.out) Try.underlying29 rfl (by kernel_rfl)) rfl ?_
  exact⟨by first|rfl|(simp[ZA,Zz] <;> rfl)|(simp[*,ZA,Zz] <;> rfl),by repeat(first|(with_reducible first|exact HB.out|apply Zq|apply Zm|apply Zs|refine Zp ?_ GE86001.out|refine Zp ?_ GE86002.out)|exact HB.out)⟩
def Za0.f (k:Nat) (a0_0:Int) (l0_1:List (S101)) (l1:List Int) (a2:Int):Option (Int×Int×Bool):=(ZY.f k a0_0 l0_1 l1).bind fun bt35003=>(if bt35003.2.2=true then((ZaZ.f k bt35003.1 bt35003.2.1 a2).bind fun bt35009=>(some (bt35009.1,bt35009.2.1,bt35009.2.2))) else(some (0,0,false)))
set_option maxHeartbeats 8000000 in
set_option maxRecDepth 100000 in
theorem Za0.calls (k:Nat) (a0_0:Int) (A0_1:Option Addr) (c0_1:Nat) (l0_1:List (S101)) (A1:Option Addr) (c1:Nat) (l1:List Int) (a2:Int) (r1:Int) (r2:Int) (r3:Bool) (w:World) (hr0_1:Kd.C k101 w A0_1 l0_1.length l0_1) (hc0_1:l0_1.length≤c0_1) (hr1:Kd.C (Kd.int .i64) w A1 l1.length l1) (hc1:l1.length≤c1) (h:Za0.f k a0_0 l0_1 l1 a2=some (r1,r2,r3)) :
  Calls Try.prog 35 #[.agg #[.int .i64 a0_0,.slice A0_1 l0_1.length c0_1],.slice A1 l1.length c1,.int .i64 a2] w fun e w'=>e=.returned (.tuple #[.agg #[.int .i64 r1,.int .i64 r2],.bool r3])∧Below w.heap.size w w':=by
 have hu25:=Try.underlying25
 have hu29:=Try.underlying29
 have HR0_1:=Za hr0_1;have HC0_1:=Za hc0_1;clear hr0_1 hc0_1;have HR1:=Za hr1;have HC1:=Za hc1;clear hr1 hc1
 have HB:=Za (Below.refl w.heap.size w)
 have H:((ZY.f k a0_0 l0_1 l1).bind fun bt35003=>(if bt35003.2.2=true then((ZaZ.f k bt35003.1 bt35003.2.1 a2).bind fun bt35009=>(some (bt35009.1,bt35009.2.1,bt35009.2.2))) else(some (0,0,false))))=some (r1,r2,r3):=h
 clear h
 replace H:=Zh H
 obtain⟨⟨t35003,t35004,t35007⟩,A40,H⟩:=H
 replace H:(if t35007=true then((ZaZ.f k t35003 t35004 a2).bind fun bt35009=>(some (bt35009.1,bt35009.2.1,bt35009.2.2))) else(some (0,0,false)))=some (r1,r2,r3):=H
 have A4:=Za A40;clear A40
 by_cases c5:t35007=true
 ·subst c5
  have H1:((ZaZ.f k t35003 t35004 a2).bind fun bt35009=>(some (bt35009.1,bt35009.2.1,bt35009.2.2)))=some (r1,r2,r3):=by rw[if_pos rfl] at H;exact H
  clear H
  have H:=H1
  clear H1
  replace H:=Zh H
  obtain⟨⟨t35009,t35010,t35011⟩,A60,H⟩:=H
  replace H:(some (t35009,t35010,t35011))=some (r1,r2,r3):=H
  have A6:=Za A60;clear A60
  simp only[Option.some.injEq,Prod.mk.injEq] at H
  obtain⟨rfl,rfl,rfl⟩:=H
  go_enter Try.func35,Try.ntmps35
  go_wp2_with (first|((with_reducible refine ZC (N:=3) rfl ?_);refine ZE ?hg (N:=3) ?hd (cs:=#[.int .i64 a0_0,.slice A0_1 l0_1.length c0_1]) (t:=25) ?hr ?_;(case hd=>rfl);(case hg=>rfl);(case hr=>first|(go_simp;done)|(go_simp;rfl));intro gb35001 hg w7 hbox hb;have n0_:=Za (Zy (by repeat(first|(with_reducible first|exact HB.out|apply Zq|apply Zm|apply Zs)|exact HB.out)) hb);have n1_:=Za (hbox);have n2_:=Za ((by rw[hg];exact(Zv (by repeat(first|(with_reducible first|exact HB.out|apply Zq|apply Zm|apply Zs)|exact HB.out))):w.heap.size≤gb35001));have n3_:=Za ((by rw[hg];exact(Zv (by repeat(first|(with_reducible first|exact HB.out|apply Zq|apply Zm|apply Zs)|exact HB.out))):w.heap.size≤gb35001));clear HB;have HB:=n0_;have BK35001:=n1_;have GW35001:=n2_;have GE35001:=n3_;clear n0_ n1_ n2_ n3_;clear hb hbox hg)|((with_reducible refine ZC (N:=6) rfl ?_);refine ZE ?hg (N:=6) ?hd (cs:=#[.int .i64 0,.int .i64 0]) (t:=29) ?hr ?_;(case hd=>rfl);(case hg=>rfl);(case hr=>first|(go_simp;done)|(go_simp;rfl));intro gb35002 hg w8 hbox hb;have n0_:=Za (Zx (g:=gb35001) (o:=.cells #[.int .i64 a0_0,.slice A0_1 l0_1.length c0_1] 25 (0,0)) (by(with_reducible repeat(first|refine Zo ?_ _|refine Zr ?_|refine Zn ?_ _));exact BK35001.out) hb);have n1_:=Za (Zy (by repeat(first|(with_reducible first|exact HB.out|apply Zq|apply Zm|apply Zs|refine Zp ?_ GE35001.out)|exact HB.out)) hb);have n2_:=Za (hbox);have n3_:=Za ((by rw[hg];exact(Zv (by repeat(first|(with_reducible first|exact HB.out|apply Zq|apply Zm|apply Zs|refine Zp ?_ GE35001.out)|exact HB.out))):w.heap.size≤gb35002));have n4_:=Za ((by rw[hg];exact(Zv (by repeat(first|(with_reducible first|exact HB.out|apply Zq|apply Zm|apply Zs|refine Zp ?_ GE35001.out)|exact HB.out))):w.heap.size≤gb35002));have n5_:=Za ((by rw[hg];exact Nat.ne_of_lt (ZB (g:=gb35001) (o:=.cells #[.int .i64 a0_0,.slice A0_1 l0_1.length c0_1] 25 (0,0)) (by(with_reducible repeat(first|refine Zo ?_ _|refine Zr ?_|refine Zn ?_ _));exact BK35001.out)):gb35001≠gb35002));have n6_:=Za ((by rw[hg];exact Nat.ne_of_gt (ZB (g:=gb35001) (o:=.cells #[.int .i64 a0_0,.slice A0_1 l0_1.length c0_1] 25 (0,0)) (by(with_reducible repeat(first|refine Zo ?_ _|refine Zr ?_|refine Zn ?_ _));exact BK35001.out)):gb35002≠gb35001));clear BK35001;clear HB;have BK35001:=n0_;have HB:=n1_;have BK35002:=n2_;have GW35002:=n3_;have GE35002:=n4_;have NB35001_35002:=n5_;have NB35002_35001:=n6_;clear n0_ n1_ n2_ n3_ n4_ n5_ n6_;clear hb hbox hg;have hnb9:=NB35001_35002.out;have hnc9:=NB35002_35001.out;have hcz10_0:w8.cell? ⟨gb35001,0,none⟩=some (.int .i64 a0_0):=(Zu BK35001.out 0).trans rfl;have hcz10_1:w8.cell? ⟨gb35001,1,none⟩=some (.slice A0_1 l0_1.length c0_1):=(Zu BK35001.out 1).trans rfl;have hfz10_0:=Zt BK35001.out 0;have hfz10_1:=Zt BK35001.out 1)|((with_reducible refine ZG (f:=82) rfl ?_);refine ZV (some 13) rfl rfl Try.func82 (by kernel_rfl) rfl #[.agg #[.int .i64 a0_0,.slice A0_1 l0_1.length c0_1],.slice A1 l1.length c1] rfl (by(try simp only[List.map_toArray,List.map_cons,List.map_nil]);first|done|rfl|(simp only[Zk,Zj];rfl)) ?_;(with_reducible refine(ZY.calls k a0_0 _ _ l0_1 _ _ l1 t35003 t35004 true _ ?side1 ?side2 ?side3 ?side4 A4.out).mono ?_);(case side1=>repeat(first|exact(Zb HR0_1.out HB.out)|(with_reducible refine Kd.C_alloc ?_ _)|(with_reducible refine Kd.C_drewN ?_ _)|(with_reducible refine Kd.C_drew ?_)));(case side2=>exact HC0_1.out);(case side3=>repeat(first|exact(Zb HR1.out HB.out)|(with_reducible refine Kd.C_alloc ?_ _)|(with_reducible refine Kd.C_drewN ?_ _)|(with_reducible refine Kd.C_drew ?_)));(case side4=>exact HC1.out);rintro e w11 ⟨v35005,rfl,ho0,hb⟩;refine⟨_,rfl,?_⟩;have n0_:=Za (Kd.R_lower ho0 (Zv (by repeat(first|(with_reducible first|exact HB.out|apply Zq|apply Zm|apply Zs|refine Zp ?_ GE35001.out|refine Zp ?_ GE35002.out)|exact HB.out))));have n1_:=Za (Zx (g:=gb35001) (o:=.cells #[.int .i64 a0_0,.slice A0_1 l0_1.length c0_1] 25 (0,0)) (by(with_reducible repeat(first|refine Zo ?_ _|refine Zr ?_|refine Zn ?_ _));exact BK35001.out) hb);have n2_:=Za (Zx (g:=gb35002) (o:=.cells #[.int .i64 0,.int .i64 0] 29 (0,0)) (by(with_reducible repeat(first|refine Zo ?_ _|refine Zr ?_|refine Zn ?_ _));exact BK35002.out) hb);have n3_:=Za (Zy (by repeat(first|(with_reducible first|exact HB.out|apply Zq|apply Zm|apply Zs|refine Zp ?_ GE35001.out|refine Zp ?_ GE35002.out)|exact HB.out)) hb);clear BK35001;clear BK35002;clear HB;have HO35006:=n0_;have BK35001:=n1_;have BK35002:=n2_;have HB:=n3_;clear n0_ n1_ n2_ n3_;(try clear hb);(try clear hb2);(try clear hk);(try clear hi);(try clear ho0))|((with_reducible refine ZC (N:=8) rfl ?_);refine ZE ?hg (N:=8) ?hd (cs:=#[.int .i64 0,.slice none 0 0]) (t:=25) ?hr ?_;(case hd=>rfl);(case hg=>rfl);(case hr=>first|(go_simp;done)|(go_simp;rfl));intro gb35008 hg w12 hbox hb;have n0_:=Za (Kd.R_below (by(with_reducible repeat(first|apply Kd.R_alloc|apply Kd.R_drewN|apply Kd.R_drew));exact HO35006.out) hb);have n1_:=Za (Zx (g:=gb35001) (o:=.cells #[.int .i64 a0_0,.slice A0_1 l0_1.length c0_1] 25 (0,0)) (by(with_reducible repeat(first|refine Zo ?_ _|refine Zr ?_|refine Zn ?_ _));exact BK35001.out) hb);have n2_:=Za (Zx (g:=gb35002) (o:=.cells #[.int .i64 0,.int .i64 0] 29 (0,0)) (by(with_reducible repeat(first|refine Zo ?_ _|refine Zr ?_|refine Zn ?_ _));exact BK35002.out) hb);have n3_:=Za (Zy (by repeat(first|(with_reducible first|exact HB.out|apply Zq|apply Zm|apply Zs|refine Zp ?_ GE35001.out|refine Zp ?_ GE35002.out)|exact HB.out)) hb);have n4_:=Za (hbox);have n5_:=Za ((by rw[hg];exact(Zv (by repeat(first|(with_reducible first|exact HB.out|apply Zq|apply Zm|apply Zs|refine Zp ?_ GE35001.out|refine Zp ?_ GE35002.out)|exact HB.out))):w.heap.size≤gb35008));have n6_:=Za ((by rw[hg];exact(Zv (by repeat(first|(with_reducible first|exact HB.out|apply Zq|apply Zm|apply Zs|refine Zp ?_ GE35001.out|refine Zp ?_ GE35002.out)|exact HB.out))):w.heap.size≤gb35008));have n7_:=Za ((by rw[hg];exact Nat.ne_of_lt (ZB (g:=gb35001) (o:=.cells #[.int .i64 a0_0,.slice A0_1 l0_1.length c0_1] 25 (0,0)) (by(with_reducible repeat(first|refine Zo ?_ _|refine Zr ?_|refine Zn ?_ _));exact BK35001.out)):gb35001≠gb35008));have n8_:=Za ((by rw[hg];exact Nat.ne_of_gt (ZB (g:=gb35001) (o:=.cells #[.int .i64 a0_0,.slice A0_1 l0_1.length c0_1] 25 (0,0)) (by(with_reducible repeat(first|refine Zo ?_ _|refine Zr ?_|refine Zn ?_ _));exact BK35001.out)):gb35008≠gb35001));have n9_:=Za ((by rw[hg];exact Nat.ne_of_lt (ZB (g:=gb35002) (o:=.cells #[.int .i64 0,.int .i64 0] 29 (0,0)) (by(with_reducible repeat(first|refine Zo ?_ _|refine Zr ?_|refine Zn ?_ _));exact BK35002.out)):gb35002≠gb35008));have n10_:=Za ((by rw[hg];exact Nat.ne_of_gt (ZB (g:=gb35002) (o:=.cells #[.int .i64 0,.int .i64 0] 29 (0,0)) (by(with_reducible repeat(first|refine Zo ?_ _|refine Zr ?_|refine Zn ?_ _));exact BK35002.out)):gb35008≠gb35002));clear HO35006;clear BK35001;clear BK35002;clear HB;have HO35006:=n0_;have BK35001:=n1_;have BK35002:=n2_;have HB:=n3_;have BK35008:=n4_;have GW35008:=n5_;have GE35008:=n6_;have NB35001_35008:=n7_;have NB35008_35001:=n8_;have NB35002_35008:=n9_;have NB35008_35002:=n10_;clear n0_ n1_ n2_ n3_ n4_ n5_ n6_ n7_ n8_ n9_ n10_;clear hb hbox hg;have hnb13:=NB35008_35001.out;have hnc13:=NB35001_35008.out;have hnb14:=NB35008_35002.out;have hnc14:=NB35002_35008.out;have hcz15_0:w12.cell? ⟨gb35008,0,none⟩=some (.int .i64 0):=(Zu BK35008.out 0).trans rfl;have hcz15_1:w12.cell? ⟨gb35008,1,none⟩=some (.slice none 0 0):=(Zu BK35008.out 1).trans rfl;have hfz15_0:=Zt BK35008.out 0;have hfz15_1:=Zt BK35008.out 1;obtain⟨Ao16,co16,eo16⟩:=Kd.R_slice HO35006.out;subst eo16)|((with_reducible refine ZG (f:=86) rfl ?_);refine ZV (some 21) rfl rfl Try.func86 (by kernel_rfl) rfl #[.agg #[.int .i64 t35003,.slice Ao16 t35004.length co16],.int .i64 a2] rfl (by(try simp only[List.map_toArray,List.map_cons,List.map_nil]);first|done|rfl|(simp only[Zk,Zj];rfl)) ?_;(with_reducible refine(ZaZ.calls k t35003 _ _ t35004 a2 t35009 t35010 t35011 _ ?side1 ?side2 A6.out).mono ?_);(case side1=>refine(Kd.R_reads' (e:=101) (base:=w.heap.size) (ok:=fun k_=>True) (n:=t35004.length) (c:=co16) ?_).2.2;exact(by(with_reducible repeat(first|apply Kd.R_alloc|apply Kd.R_drewN|apply Kd.R_drew));exact(Kd.R_mono (Kd.R_far (p:=⟨gb35008,1,none⟩) (Kd.R_far (p:=⟨gb35008,0,none⟩) (Kd.R_types HO35006.out BK35008.out (by decide)) (fun _ hk=>hk.2) (.int .i64 t35003)) (fun _ hk=>hk.2) (.slice Ao16 t35004.length co16)) (fun _ h_=>h_.1))));(case side2=>exact(Kd.R_reads' HO35006.out).2.1);rintro e w17 ⟨rfl,hb⟩;refine⟨_,rfl,?_⟩;have n0_:=Za (Kd.R_below (by(with_reducible repeat(first|apply Kd.R_alloc|apply Kd.R_drewN|apply Kd.R_drew));exact(Kd.R_mono (Kd.R_far (p:=⟨gb35008,1,none⟩) (Kd.R_far (p:=⟨gb35008,0,none⟩) (Kd.R_types HO35006.out BK35008.out (by decide)) (fun _ hk=>hk.2) (.int .i64 t35003)) (fun _ hk=>hk.2) (.slice Ao16 t35004.length co16)) (fun _ h_=>h_.1))) hb);have n1_:=Za (Zx (g:=gb35001) (o:=.cells #[.int .i64 a0_0,.slice A0_1 l0_1.length c0_1] 25 (0,0)) (by(with_reducible repeat(first|refine Zo ?_ _|refine Zr ?_|refine Zn ?_ _));refine ZD ?_ NB35001_35008.out _;(with_reducible repeat(first|refine Zo ?_ _|refine Zr ?_|refine Zn ?_ _));refine ZD ?_ NB35001_35008.out _;(with_reducible repeat(first|refine Zo ?_ _|refine Zr ?_|refine Zn ?_ _));exact BK35001.out) hb);have n2_:=Za (Zx (g:=gb35002) (o:=.cells #[.int .i64 0,.int .i64 0] 29 (0,0)) (by(with_reducible repeat(first|refine Zo ?_ _|refine Zr ?_|refine Zn ?_ _));refine ZD ?_ NB35002_35008.out _;(with_reducible repeat(first|refine Zo ?_ _|refine Zr ?_|refine Zn ?_ _));refine ZD ?_ NB35002_35008.out _;(with_reducible repeat(first|refine Zo ?_ _|refine Zr ?_|refine Zn ?_ _));exact BK35002.out) hb);have n3_:=Za (Zx (g:=gb35008) (o:=.cells #[.int .i64 t35003,.slice Ao16 t35004.length co16] 25 (0,0)) (by(with_reducible repeat(first|refine Zo ?_ _|refine Zr ?_|refine Zn ?_ _));refine ZF (cs:=#[.int .i64 t35003,.slice none 0 0]) ?_ 1 _ rfl;(with_reducible repeat(first|refine Zo ?_ _|refine Zr ?_|refine Zn ?_ _));refine ZF (cs:=#[.int .i64 0,.slice none 0 0]) ?_ 0 _ rfl;(with_reducible repeat(first|refine Zo ?_ _|refine Zr ?_|refine Zn ?_ _));exact BK35008.out) hb);have n4_:=Za (Zy (by repeat(first|(with_reducible first|exact HB.out|apply Zq|apply Zm|apply Zs|refine Zp ?_ GE35001.out|refine Zp ?_ GE35002.out|refine Zp ?_ GE35008.out)|exact HB.out)) hb);clear HO35006;clear BK35001;clear BK35002;clear BK35008;clear HB;have HO35006:=n0_;have BK35001:=n1_;have BK35002:=n2_;have BK35008:=n3_;have HB:=n4_;clear n0_ n1_ n2_ n3_ n4_;(try clear hb);(try clear hb2);(try clear hk);(try clear hi);have hcz18_0:w17.cell? ⟨gb35002,0,none⟩=some (.int .i64 0):=(Zu BK35002.out 0).trans rfl;have hcz18_1:w17.cell? ⟨gb35002,1,none⟩=some (.int .i64 0):=(Zu BK35002.out 1).trans rfl;have hfz18_0:=Zt BK35002.out 0;have hfz18_1:=Zt BK35002.out 1))
  refine bodyPost_ret (Zab rfl _ _ gb35002 29 #[.int .i64 t35009,.int .i64 t35010] (0,0) _ rfl (by(with_reducible repeat(first|refine Zo ?_ _|refine Zr ?_|refine Zn ?_ _));refine ZF (cs:=#[.int .i64 t35009,.int .i64 0]) ?_ 1 _ rfl;(with_reducible repeat(first|refine Zo ?_ _|refine Zr ?_|refine Zn ?_ _));refine ZF (cs:=#[.int .i64 0,.int .i64 0]) ?_ 0 _ rfl;(with_reducible repeat(first|refine Zo ?_ _|refine Zr ?_|refine Zn ?_ _));exact BK35002.out) Try.underlying29 rfl (by kernel_rfl)) rfl ?_
  exact⟨by first|rfl|(simp[ZA,Zz] <;> rfl)|(simp[*,ZA,Zz] <;> rfl),by repeat(first|(with_reducible first|exact HB.out|apply Zq|apply Zm|apply Zs|refine Zp ?_ GE35001.out|refine Zp ?_ GE35002.out|refine Zp ?_ GE35008.out)|exact HB.out)⟩
 ·replace c5:=Bool.eq_false_iff.mpr c5
  subst c5
  have H1:(some (0,0,false))=some (r1,r2,r3):=by rw[if_neg (show ¬(false=true) by decide)] at H;exact H
  clear H
  have H:=H1
  clear H1
  simp only[Option.some.injEq,Prod.mk.injEq] at H
  obtain⟨rfl,rfl,rfl⟩:=H
  go_enter Try.func35,Try.ntmps35
  go_wp2_with (first|((with_reducible refine ZC (N:=3) rfl ?_);refine ZE ?hg (N:=3) ?hd (cs:=#[.int .i64 a0_0,.slice A0_1 l0_1.length c0_1]) (t:=25) ?hr ?_;(case hd=>rfl);(case hg=>rfl);(case hr=>first|(go_simp;done)|(go_simp;rfl));intro gb35001 hg w19 hbox hb;have n0_:=Za (Zy (by repeat(first|(with_reducible first|exact HB.out|apply Zq|apply Zm|apply Zs)|exact HB.out)) hb);have n1_:=Za (hbox);have n2_:=Za ((by rw[hg];exact(Zv (by repeat(first|(with_reducible first|exact HB.out|apply Zq|apply Zm|apply Zs)|exact HB.out))):w.heap.size≤gb35001));have n3_:=Za ((by rw[hg];exact(Zv (by repeat(first|(with_reducible first|exact HB.out|apply Zq|apply Zm|apply Zs)|exact HB.out))):w.heap.size≤gb35001));clear HB;have HB:=n0_;have BK35001:=n1_;have GW35001:=n2_;have GE35001:=n3_;clear n0_ n1_ n2_ n3_;clear hb hbox hg)|((with_reducible refine ZC (N:=6) rfl ?_);refine ZE ?hg (N:=6) ?hd (cs:=#[.int .i64 0,.int .i64 0]) (t:=29) ?hr ?_;(case hd=>rfl);(case hg=>rfl);(case hr=>first|(go_simp;done)|(go_simp;rfl));intro gb35002 hg w20 hbox hb;have n0_:=Za (Zx (g:=gb35001) (o:=.cells #[.int .i64 a0_0,.slice A0_1 l0_1.length c0_1] 25 (0,0)) (by(with_reducible repeat(first|refine Zo ?_ _|refine Zr ?_|refine Zn ?_ _));exact BK35001.out) hb);have n1_:=Za (Zy (by repeat(first|(with_reducible first|exact HB.out|apply Zq|apply Zm|apply Zs|refine Zp ?_ GE35001.out)|exact HB.out)) hb);have n2_:=Za (hbox);have n3_:=Za ((by rw[hg];exact(Zv (by repeat(first|(with_reducible first|exact HB.out|apply Zq|apply Zm|apply Zs|refine Zp ?_ GE35001.out)|exact HB.out))):w.heap.size≤gb35002));have n4_:=Za ((by rw[hg];exact(Zv (by repeat(first|(with_reducible first|exact HB.out|apply Zq|apply Zm|apply Zs|refine Zp ?_ GE35001.out)|exact HB.out))):w.heap.size≤gb35002));have n5_:=Za ((by rw[hg];exact Nat.ne_of_lt (ZB (g:=gb35001) (o:=.cells #[.int .i64 a0_0,.slice A0_1 l0_1.length c0_1] 25 (0,0)) (by(with_reducible repeat(first|refine Zo ?_ _|refine Zr ?_|refine Zn ?_ _));exact BK35001.out)):gb35001≠gb35002));have n6_:=Za ((by rw[hg];exact Nat.ne_of_gt (ZB (g:=gb35001) (o:=.cells #[.int .i64 a0_0,.slice A0_1 l0_1.length c0_1] 25 (0,0)) (by(with_reducible repeat(first|refine Zo ?_ _|refine Zr ?_|refine Zn ?_ _));exact BK35001.out)):gb35002≠gb35001));clear BK35001;clear HB;have BK35001:=n0_;have HB:=n1_;have BK35002:=n2_;have GW35002:=n3_;have GE35002:=n4_;have NB35001_35002:=n5_;have NB35002_35001:=n6_;clear n0_ n1_ n2_ n3_ n4_ n5_ n6_;clear hb hbox hg;have hnb21:=NB35001_35002.out;have hnc21:=NB35002_35001.out;have hcz22_0:w20.cell? ⟨gb35001,0,none⟩=some (.int .i64 a0_0):=(Zu BK35001.out 0).trans rfl;have hcz22_1:w20.cell? ⟨gb35001,1,none⟩=some (.slice A0_1 l0_1.length c0_1):=(Zu BK35001.out 1).trans rfl;have hfz22_0:=Zt BK35001.out 0;have hfz22_1:=Zt BK35001.out 1)|((with_reducible refine ZG (f:=82) rfl ?_);refine ZV (some 13) rfl rfl Try.func82 (by kernel_rfl) rfl #[.agg #[.int .i64 a0_0,.slice A0_1 l0_1.length c0_1],.slice A1 l1.length c1] rfl (by(try simp only[List.map_toArray,List.map_cons,List.map_nil]);first|done|rfl|(simp only[Zk,Zj];rfl)) ?_;(with_reducible refine(ZY.calls k a0_0 _ _ l0_1 _ _ l1 t35003 t35004 false _ ?side1 ?side2 ?side3 ?side4 A4.out).mono ?_);(case side1=>repeat(first|exact(Zb HR0_1.out HB.out)|(with_reducible refine Kd.C_alloc ?_ _)|(with_reducible refine Kd.C_drewN ?_ _)|(with_reducible refine Kd.C_drew ?_)));(case side2=>exact HC0_1.out);(case side3=>repeat(first|exact(Zb HR1.out HB.out)|(with_reducible refine Kd.C_alloc ?_ _)|(with_reducible refine Kd.C_drewN ?_ _)|(with_reducible refine Kd.C_drew ?_)));(case side4=>exact HC1.out);rintro e w23 ⟨v35005,rfl,ho0,hb⟩;refine⟨_,rfl,?_⟩;have n0_:=Za (Kd.R_lower ho0 (Zv (by repeat(first|(with_reducible first|exact HB.out|apply Zq|apply Zm|apply Zs|refine Zp ?_ GE35001.out|refine Zp ?_ GE35002.out)|exact HB.out))));have n1_:=Za (Zx (g:=gb35001) (o:=.cells #[.int .i64 a0_0,.slice A0_1 l0_1.length c0_1] 25 (0,0)) (by(with_reducible repeat(first|refine Zo ?_ _|refine Zr ?_|refine Zn ?_ _));exact BK35001.out) hb);have n2_:=Za (Zx (g:=gb35002) (o:=.cells #[.int .i64 0,.int .i64 0] 29 (0,0)) (by(with_reducible repeat(first|refine Zo ?_ _|refine Zr ?_|refine Zn ?_ _));exact BK35002.out) hb);have n3_:=Za (Zy (by repeat(first|(with_reducible first|exact HB.out|apply Zq|apply Zm|apply Zs|refine Zp ?_ GE35001.out|refine Zp ?_ GE35002.out)|exact HB.out)) hb);clear BK35001;clear BK35002;clear HB;have HO35006:=n0_;have BK35001:=n1_;have BK35002:=n2_;have HB:=n3_;clear n0_ n1_ n2_ n3_;(try clear hb);(try clear hb2);(try clear hk);(try clear hi);(try clear ho0))|((with_reducible refine ZC (N:=8) rfl ?_);refine ZE ?hg (N:=8) ?hd (cs:=#[.int .i64 0,.slice none 0 0]) (t:=25) ?hr ?_;(case hd=>rfl);(case hg=>rfl);(case hr=>first|(go_simp;done)|(go_simp;rfl));intro gb35008 hg w24 hbox hb;have n0_:=Za (Kd.R_below (by(with_reducible repeat(first|apply Kd.R_alloc|apply Kd.R_drewN|apply Kd.R_drew));exact HO35006.out) hb);have n1_:=Za (Zx (g:=gb35001) (o:=.cells #[.int .i64 a0_0,.slice A0_1 l0_1.length c0_1] 25 (0,0)) (by(with_reducible repeat(first|refine Zo ?_ _|refine Zr ?_|refine Zn ?_ _));exact BK35001.out) hb);have n2_:=Za (Zx (g:=gb35002) (o:=.cells #[.int .i64 0,.int .i64 0] 29 (0,0)) (by(with_reducible repeat(first|refine Zo ?_ _|refine Zr ?_|refine Zn ?_ _));exact BK35002.out) hb);have n3_:=Za (Zy (by repeat(first|(with_reducible first|exact HB.out|apply Zq|apply Zm|apply Zs|refine Zp ?_ GE35001.out|refine Zp ?_ GE35002.out)|exact HB.out)) hb);have n4_:=Za (hbox);have n5_:=Za ((by rw[hg];exact(Zv (by repeat(first|(with_reducible first|exact HB.out|apply Zq|apply Zm|apply Zs|refine Zp ?_ GE35001.out|refine Zp ?_ GE35002.out)|exact HB.out))):w.heap.size≤gb35008));have n6_:=Za ((by rw[hg];exact(Zv (by repeat(first|(with_reducible first|exact HB.out|apply Zq|apply Zm|apply Zs|refine Zp ?_ GE35001.out|refine Zp ?_ GE35002.out)|exact HB.out))):w.heap.size≤gb35008));have n7_:=Za ((by rw[hg];exact Nat.ne_of_lt (ZB (g:=gb35001) (o:=.cells #[.int .i64 a0_0,.slice A0_1 l0_1.length c0_1] 25 (0,0)) (by(with_reducible repeat(first|refine Zo ?_ _|refine Zr ?_|refine Zn ?_ _));exact BK35001.out)):gb35001≠gb35008));have n8_:=Za ((by rw[hg];exact Nat.ne_of_gt (ZB (g:=gb35001) (o:=.cells #[.int .i64 a0_0,.slice A0_1 l0_1.length c0_1] 25 (0,0)) (by(with_reducible repeat(first|refine Zo ?_ _|refine Zr ?_|refine Zn ?_ _));exact BK35001.out)):gb35008≠gb35001));have n9_:=Za ((by rw[hg];exact Nat.ne_of_lt (ZB (g:=gb35002) (o:=.cells #[.int .i64 0,.int .i64 0] 29 (0,0)) (by(with_reducible repeat(first|refine Zo ?_ _|refine Zr ?_|refine Zn ?_ _));exact BK35002.out)):gb35002≠gb35008));have n10_:=Za ((by rw[hg];exact Nat.ne_of_gt (ZB (g:=gb35002) (o:=.cells #[.int .i64 0,.int .i64 0] 29 (0,0)) (by(with_reducible repeat(first|refine Zo ?_ _|refine Zr ?_|refine Zn ?_ _));exact BK35002.out)):gb35008≠gb35002));clear HO35006;clear BK35001;clear BK35002;clear HB;have HO35006:=n0_;have BK35001:=n1_;have BK35002:=n2_;have HB:=n3_;have BK35008:=n4_;have GW35008:=n5_;have GE35008:=n6_;have NB35001_35008:=n7_;have NB35008_35001:=n8_;have NB35002_35008:=n9_;have NB35008_35002:=n10_;clear n0_ n1_ n2_ n3_ n4_ n5_ n6_ n7_ n8_ n9_ n10_;clear hb hbox hg;have hnb25:=NB35008_35001.out;have hnc25:=NB35001_35008.out;have hnb26:=NB35008_35002.out;have hnc26:=NB35002_35008.out;have hcz27_0:w24.cell? ⟨gb35008,0,none⟩=some (.int .i64 0):=(Zu BK35008.out 0).trans rfl;have hcz27_1:w24.cell? ⟨gb35008,1,none⟩=some (.slice none 0 0):=(Zu BK35008.out 1).trans rfl;have hfz27_0:=Zt BK35008.out 0;have hfz27_1:=Zt BK35008.out 1;obtain⟨Ao28,co28,eo28⟩:=Kd.R_slice HO35006.out;subst eo28;have hcz29_0:w24.cell? ⟨gb35002,0,none⟩=some (.int .i64 0):=(Zu BK35002.out 0).trans rfl;have hcz29_1:w24.cell? ⟨gb35002,1,none⟩=some (.int .i64 0):=(Zu BK35002.out 1).trans rfl;have hfz29_0:=Zt BK35002.out 0;have hfz29_1:=Zt BK35002.out 1))
  refine bodyPost_ret (Zab rfl _ _ gb35002 29 #[.int .i64 0,.int .i64 0] (0,0) _ rfl (by(with_reducible repeat(first|refine Zo ?_ _|refine Zr ?_|refine Zn ?_ _));refine ZF (cs:=#[.int .i64 0,.int .i64 0]) ?_ 1 _ rfl;(with_reducible repeat(first|refine Zo ?_ _|refine Zr ?_|refine Zn ?_ _));refine ZF (cs:=#[.int .i64 0,.int .i64 0]) ?_ 0 _ rfl;(with_reducible repeat(first|refine Zo ?_ _|refine Zr ?_|refine Zn ?_ _));refine ZD ?_ NB35002_35008.out _;(with_reducible repeat(first|refine Zo ?_ _|refine Zr ?_|refine Zn ?_ _));refine ZD ?_ NB35002_35008.out _;(with_reducible repeat(first|refine Zo ?_ _|refine Zr ?_|refine Zn ?_ _));exact BK35002.out) Try.underlying29 rfl (by kernel_rfl)) rfl ?_
  exact⟨by first|rfl|(simp[ZA,Zz] <;> rfl)|(simp[*,ZA,Zz] <;> rfl),by repeat(first|(with_reducible first|exact HB.out|apply Zq|apply Zm|apply Zs|refine Zp ?_ GE35001.out|refine Zp ?_ GE35002.out|refine Zp ?_ GE35008.out)|exact HB.out)⟩
end Go.Proofs.Ytpoffpdaadhkgaa.Pr
namespace Go.Proofs.Ytpoffpdaadhkgaa.Pr
open Go.RowKit Go.Proofs.YtpoffpdaadhkgaaW.PrintWords Go.Proofs.YtpoffpdaadhkgaaW.PrintLast Go.Proofs.YtpoffpdaadhkgaaW.PrintMore
attribute [local go_sem] Zaa Z8 Zak Zaj Z5 Z4 Z9 Z7
set_option linter.unusedVariables false
set_option linter.unusedSimpArgs false
open Go.Proofs.Ytpoffpdaadhkgaa.Ni
def ZaE.f (k:Nat) (a0_0:Int) (l0_1:List (S101)) (l1:List Int):Option (List Int×Bool):=if l1.length≤1048576 then(Zbc.f k a0_0 l0_1 l1).bind fun b=>if b=true then(if 0<l1.length then Zbx (Za0.f k a0_0 l0_1) (cfin (ZY.f k a0_0 l0_1)) l1.length 0 l1 else none) else some ([],false) else none
set_option maxHeartbeats 8000000 in
set_option maxRecDepth 100000 in
theorem ZaE.calls (k:Nat) (a0_0:Int) (A0_1:Option Addr) (c0_1:Nat) (l0_1:List (S101)) (A1:Option Addr) (c1:Nat) (l1:List Int) (r1:List Int) (r2:Bool) (w:World) (hr0_1:Kd.C k101 w A0_1 l0_1.length l0_1) (hc0_1:l0_1.length≤c0_1) (hr1:Kd.C (Kd.int .i64) w A1 l1.length l1) (hc1:l1.length≤c1) (h:ZaE.f k a0_0 l0_1 l1=some (r1,r2)) :
  Calls Try.prog 37 #[.agg #[.int .i64 a0_0,.slice A0_1 l0_1.length c0_1],.slice A1 l1.length c1] w fun e w'=>∃v0_:Value,e=.returned (.tuple #[v0_,.bool r2])∧Kd.R (Kd.int .i64) 3 w' w.heap.size (fun _=>True) v0_ r1∧Below w.heap.size w w':=by
 unfold ZaE.f at h
 by_cases hl:l1.length≤1048576
 case neg=>rw[if_neg hl] at h;exact absurd h (by simp)
 rw[if_pos hl] at h
 obtain⟨b,hb_,h⟩:=Option.bind_eq_some_iff.1 h
 have HCE:=Za fun (W:World) (hb:Below w.heap.size w W)=>Zbc.calls k a0_0 A0_1 c0_1 l0_1 A1 c1 l1 b W (Zb hr0_1 hb) hc0_1 (Zb hr1 hb) hc1 hb_
 have B1:=Za (Zq (Below.refl w.heap.size w) (.cells #[.int .i64 a0_0,.slice A0_1 l0_1.length c0_1] 25))
 have K0:=Za (show(w.alloc (.cells #[.int .i64 a0_0,.slice A0_1 l0_1.length c0_1] 25)).cell? ⟨w.heap.size,0,none⟩=some (.int .i64 a0_0) by go_simp)
 have K1:=Za (show(w.alloc (.cells #[.int .i64 a0_0,.slice A0_1 l0_1.length c0_1] 25)).cell? ⟨w.heap.size,1,none⟩=some (.slice A0_1 l0_1.length c0_1) by go_simp)
 have hu:=Try.underlying25
 have hui:=Try.underlying29
 cases b with
 | false=>
  rw[if_neg (by simp)] at h
  obtain⟨e1,e2⟩:=Prod.mk.inj (Zg h)
  subst e1;subst e2;clear hr0_1 hc0_1 hr1 hc1 hb_ h hl
  go_enter Try.func37,Try.ntmps37
  go_wp2_with (go_at_call 30;refine(HCE.out _ B1.out).mono ?_;rintro e w1 ⟨rfl,hb⟩)
  go_ret2
  exact⟨_,rfl,Kd.R_nil _ _ _ _ _,B1.out.trans (hb.mono B1.out.size)⟩
 | true=>
 rw[if_pos rfl] at h
 by_cases hp:0<l1.length
 case neg=>rw[if_neg hp] at h;exact absurd h (by simp)
 rw[if_pos hp] at h
 replace hl:=And.intro hp hl
 clear hp
 obtain⟨m,hm⟩:∃m,m=l1.length:=⟨_,rfl⟩
 rw[← hm] at h hl HCE ⊢
 have HM:=Za hm;have H:=Za h;have HR1:=Za hr1;have HC1:=Za hc1
 have HNX:=Za fun (tm:List Int) (g cap:Nat) (W:World) (i:Int) (q1 q2:Int) (q3:Bool) (hb:Below w.heap.size w W) (hI:IR W (w.heap.size+1) g m cap tm) (hn:Za0.f k a0_0 l0_1 tm i=some (q1,q2,q3))=>
  (show Calls Try.prog 35 #[.agg #[.int .i64 a0_0,.slice A0_1 l0_1.length c0_1],.slice (some ⟨g,0,none⟩) m cap,.int .i64 i] W fun e w'=>e=.returned (.tuple #[.agg #[.int .i64 q1,.int .i64 q2],.bool q3])∧Below W.heap.size W w' by
   obtain⟨e1,e2,e3⟩:=hI.reads
   rw[e1] at e2 ⊢
   exact Za0.calls k a0_0 A0_1 c0_1 l0_1 (some ⟨g,0,none⟩) cap tm i q1 q2 q3 W (Zb hr0_1 hb) hc0_1 e3 e2 hn)
 have HFX:=Za fun (tm:List Int) (g cap:Nat) (W:World) (q1:Int) (q2:List S101) (q3:Bool) (hb:Below w.heap.size w W) (hI:IR W (w.heap.size+1) g m cap tm) (hn:ZY.f k a0_0 l0_1 tm=some (q1,q2,q3))=>
  (show Calls Try.prog 82 #[.agg #[.int .i64 a0_0,.slice A0_1 l0_1.length c0_1],.slice (some ⟨g,0,none⟩) m cap] W fun e w'=>∃v1_:Value,e=.returned (.tuple #[.agg #[.int .i64 q1,v1_],.bool q3])∧Kd.R k101 101 w' W.heap.size (fun _=>True) v1_ q2∧Below W.heap.size W w' by
   obtain⟨e1,e2,e3⟩:=hI.reads
   rw[e1] at e2 ⊢
   exact ZY.calls k a0_0 A0_1 c0_1 l0_1 (some ⟨g,0,none⟩) cap tm q1 q2 q3 W (Zb hr0_1 hb) hc0_1 e3 e2 hn)
 obtain⟨hl1,hl2⟩:=hl
 clear hr0_1 hc0_1 hr1 hc1 hb_ h hm
 go_enter Try.func37,Try.ntmps37
 go_wp2_with (first|(go_at_call 30;refine(HCE.out _ B1.out).mono ?_;rintro e w1 ⟨rfl,hb⟩;have hk0:=ZK hb K0.out;have hk1:=ZK hb K1.out;have hlt:=Zc _ _ hk0;have HB:=Za (B1.out.trans (hb.mono B1.out.size));clear hb)|((with_reducible refine ZC (N:=16) rfl ?_);refine Kd.R_lit (Kd.int .i64) _ 3 ?hg (N:=16) ?hd (xs:=([]:List Int)) (inner:=[]) (ok:=fun _=>True) (okp:=fun _=>True) ?hr ?hp (fun _ hk=>hk) trivial (Below.refl _ _) (Nat.le_refl _) (by simp) ?_;(case hd=>rfl);(case hg=>rfl);(case hr=>first|(go_simp;done)|(go_simp;rfl));(case hp=>exact(Reps.none _ _));intro v1 w3 ho hb _ _;replace hk0:=ZK hb hk0;replace hk1:=ZK hb hk1;have HO1:=Za (Kd.R_lower ho hlt);replace HB:=Za (HB.out.trans (hb.mono HB.out.size));clear hlt;have hlt:=Zc _ _ hk0;clear ho hb)|((with_reducible refine Zam (b:=.append) (xs:=#[.tmp 16,.tmp 17]) rfl ?_);at_builtin;refine Kd.R_append_row (Value.int .i64) 0 (w0:=w3) (w.heap.size+1) rfl (.tmp 16) (.tmp 17) 33 3 (.int .i64 0) 8 rfl Try.underlying33 Za1 rfl (by decide) v1 [] l1 _ _ _ (fun _=>True) rfl rfl (fun _ _=>trivial) HO1.out (by have h9:=Zb HR1.out HB.out;rw[← HM.out] at h9;exact h9) (Below.refl _ _) hlt ?aL ?_;(case aL=>simp only[List.length_nil];omega);intro v2 w5 ho hb hg hat;replace hk0:=(hb.cell (p:=⟨w.heap.size,0,none⟩) (by dsimp only;omega)).trans hk0;replace hk1:=(hb.cell (p:=⟨w.heap.size,1,none⟩) (by dsimp only;omega)).trans hk1;have HO:=Za ho;rw[List.nil_append] at HO;replace HB:=Za (HB.out.trans (hb.mono (Nat.le_succ _)));clear hlt;have hlt:=Zc _ _ hk0;clear ho hb hg hat;obtain⟨A3,c3,e3⟩:=Kd.R_slice HO.out;rw[← HM.out] at e3;subst e3))
 obtain⟨g,cap,e1,_⟩:=Kd.R_form HO.out (by have:=HM.out;omega)
 rw[← HM.out] at e1
 injection e1 with f1 f2 f3
 subst f1;subst c3
 have HI:=Za (IR.of HO.out)
 have HCC:=Za (And.intro hk0 hk1)
 clear HO hk0 hk1 hlt
 go_wp2
 go_loopg [7,21] m (fun gg _ s21 wr=>∃(i:Nat) (tm:List Int),s21=.int .i64 (i:Int)∧Aside0 (i≤m)∧Aside0 (m - i≤gg)∧Aside0 (Zbx (Za0.f k a0_0 l0_1) (cfin (ZY.f k a0_0 l0_1)) (m - i) i tm=some (r1,r2))∧Aside0 (IR wr (w.heap.size+1) g m cap tm)∧Aside0 (Below w.heap.size w wr)∧Aside0 (wr.cell? ⟨w.heap.size,0,none⟩=some (.int .i64 a0_0)∧wr.cell? ⟨w.heap.size,1,none⟩=some (.slice A0_1 l0_1.length c0_1)))
 case atStart=>exact⟨0,l1,rfl,⟨Nat.zero_le _⟩,⟨by omega⟩,H,HI,HB,HCC⟩
 case round=>
  obtain⟨i,tm,rfl,HK,HG,HE,HR,HBr,HCr⟩:=hrel
  obtain⟨hk0,hk1⟩:=HCr.out
  have hlt:=Zc _ _ hk0
  have hgl:=HR.out.lt
  have hgb:=HR.out.base
  by_cases him:i<m
  ·have hiz:(i:Int)<(m:Int):=by omega
   have h0i:(0:Int)≤(i:Int):=by omega
   obtain⟨xi,zi⟩:=HR.out.cell h0i hiz
   rw[Za4,Int.toNat_natCast] at xi
   rw[Int.toNat_natCast] at zi
   have HQ:=HE.out
   rw[show m - i=(m - (i+1))+1 by omega,Zbx] at HQ
   generalize hx:tm.getD i 0=x at xi HQ
   by_cases hx1:x=-1
   case neg=>
    have hxb:(x != -1)=true:=by simpa using hx1
    rw[if_neg hx1] at HQ
    have HQ2:=Za HQ;clear HQ hx hx1
    go_wp2
    go_roundg (m - (i+1))
    case measure=>have:=HG.out;omega
    case rel=>exact⟨i+1,tm,by go_num,⟨by omega⟩,⟨by omega⟩,HQ2,HR,HBr,HCr⟩
   have hxb:(x != -1)=false:=by simpa using hx1
   rw[if_pos hx1] at HQ
   obtain⟨⟨q1,q2,q3⟩,hN,hrest⟩:=Option.bind_eq_some_iff.1 HQ
   dsimp only at hrest
   have HN:=Za (HNX.out tm g cap wr (i:Int) q1 q2 q3 HBr.out HR.out hN)
   clear HQ hx hN;subst hx1
   cases q3 with
   | false=>
    rw[if_neg (by simp)] at hrest
    obtain⟨e1,e2⟩:=Prod.mk.inj (Zg hrest)
    subst e1;subst e2;clear hrest
    go_wp2_with (go_at_call 35;refine HN.out.mono ?_;rintro e w2 ⟨rfl,hb⟩)
    go_ret2
    exact⟨_,rfl,Kd.R_nil _ _ _ _ _,by have hq:=HBr.out.trans (hb.mono HBr.out.size);repeat(first|exact hq|apply Zq|apply Zm|apply Zay)⟩
   | true=>
   rw[if_pos rfl] at hrest
   cases ht:tmB q1 with
   | false=>
    rw[ht,if_neg (by simp)] at hrest
    obtain⟨e1,e2⟩:=Prod.mk.inj (Zg hrest)
    subst e1;subst e2;clear hrest
    go_wp2_with (first|(go_at_call 35;refine HN.out.mono ?_;rintro e w2 ⟨rfl,hb⟩)|(go_at_call 87;refine(inRt_q _ _).mono ?_;rintro e w4 ⟨rfl,nd,rfl⟩))
    go_ret2
    exact⟨_,rfl,Kd.R_nil _ _ _ _ _,by have hq:=HBr.out.trans (hb.mono HBr.out.size);repeat(first|exact hq|apply Zq|apply Zm|apply Zay)⟩
   | true=>
    rw[ht,if_pos rfl] at hrest
    have HQ2:=Za hrest;clear hrest
    go_wp2_with (first|(go_at_call 35;refine HN.out.mono ?_;rintro e w2 ⟨rfl,hb⟩;have HB2:=Za (HBr.out.trans (hb.mono HBr.out.size));have HR2:=Za (HR.out.low hb);have HC2:=Za (And.intro (ZK hb hk0) (ZK hb hk1));obtain⟨xi2,zi2⟩:=HR2.out.cell h0i hiz;rw[Int.toNat_natCast] at xi2 zi2;have hgl2:=HR2.out.lt;have hlt2:=Zc _ _ HC2.out.1;clear hb xi zi)|(go_at_call 87;refine(inRt_q _ _).mono ?_;rintro e w4 ⟨rfl,nd,rfl⟩))
    go_roundg (m - (i+1))
    case measure=>have:=HG.out;omega
    case rel=>
     refine⟨i+1,tm.set i q1,by go_num,⟨by omega⟩,⟨by omega⟩,HQ2,⟨?_⟩,⟨?_⟩,⟨?_,?_⟩⟩
     ·first|(have h9:=((HR2.out.low (Zq (Below.refl w2.heap.size w2) (.cells #[.int .i64 q1,.int .i64 q2] 29))).low (Zm (Below.refl _ _) nd)).put (i:Int) q1;rw[Int.toNat_natCast] at h9;exact h9)
     ·first|(have h9:=(Zm (Zq HB2.out (.cells #[.int .i64 q1,.int .i64 q2] 29)) nd).setCell (p:=⟨g,i,none⟩) (by dsimp only;omega) (.int .i64 q1);exact h9)
     ·exact(Zai (by dsimp only;omega) _).trans (ZK (Zm (Zq (Below.refl w2.heap.size w2) (.cells #[.int .i64 q1,.int .i64 q2] 29)) nd) HC2.out.1)
     ·exact(Zai (by dsimp only;omega) _).trans (ZK (Zm (Zq (Below.refl w2.heap.size w2) (.cells #[.int .i64 q1,.int .i64 q2] 29)) nd) HC2.out.2)
  ·have hiz:¬(i:Int)<(m:Int):=by omega
   obtain rfl:m=i:=by have:=HK.out;omega
   have HQ:=HE.out
   rw[Nat.sub_self,Zbx,cfin] at HQ
   obtain⟨⟨q1,q2,q3⟩,hF,hrest⟩:=Option.bind_eq_some_iff.1 HQ
   dsimp only at hrest
   have HF:=Za (HFX.out tm g cap wr q1 q2 q3 HBr.out HR.out hF)
   clear HQ hF
   cases q3 with
   | false=>
    rw[if_neg (by simp)] at hrest
    obtain⟨e1,e2⟩:=Prod.mk.inj (Zg hrest)
    subst e1;subst e2;clear hrest
    go_wp2_with (go_at_call 82;refine HF.out.mono ?_;rintro e w2 ⟨v2,rfl,hr,hb⟩;obtain⟨A2,c2,rfl⟩:=Kd.R_slice hr;clear hr)
    go_ret2
    exact⟨_,rfl,Kd.R_nil _ _ _ _ _,by have hq:=HBr.out.trans (hb.mono HBr.out.size);repeat(first|exact hq|apply Zq|apply Zm|apply Zay)⟩
   | true=>
    rw[if_pos rfl] at hrest
    obtain⟨e1,e2⟩:=Prod.mk.inj (Zg hrest)
    subst e2;have HE1:=Za e1;clear hrest e1
    go_wp2_with (go_at_call 82;refine HF.out.mono ?_;rintro e w2 ⟨v2,rfl,hr,hb⟩;obtain⟨A2,c2,rfl⟩:=Kd.R_slice hr;clear hr)
    go_ret2
    refine⟨_,rfl,?_,by have hq:=HBr.out.trans (hb.mono HBr.out.size);repeat(first|exact hq|apply Zq|apply Zm|apply Zay)⟩
    rw[← HE1.out]
    repeat(first|exact Kd.R_mono (Kd.R_lower (HR.out.low hb) (Nat.le_succ _)) (fun _ _=>trivial)|apply Kd.R_alloc|apply Kd.R_drewN|apply Kd.R_drew)
end Go.Proofs.Ytpoffpdaadhkgaa.Pr
namespace Go.Proofs.Ytpoffpdaadhkgaa.Pr
open Go.RowKit Go.Proofs.YtpoffpdaadhkgaaW.PrintWords Go.Proofs.YtpoffpdaadhkgaaW.PrintLast Go.Proofs.YtpoffpdaadhkgaaW.PrintMore
attribute [local go_sem] Zaa Z8 Zak Zaj Z5 Z4 Z9 Z7
set_option linter.unusedVariables false
set_option linter.unusedSimpArgs false
theorem ZaE.c (k:Nat) (a0_0:Int) (A0_1:Option Addr) (c0_1:Nat) (l0_1:List (S101)) (A1:Option Addr) (c1:Nat) (l1:List Int) (r1:List Int) (r2:Bool) (w:World) (hr0_1:Kd.C k101 w A0_1 l0_1.length l0_1) (hc0_1:l0_1.length≤c0_1) (hr1:Kd.C (Kd.int .i64) w A1 l1.length l1) (hc1:l1.length≤c1) (h:ZaE.f k a0_0 l0_1 l1=some (r1,r2)) :
  Calls Try.prog 37 #[.agg #[.int .i64 a0_0,.slice A0_1 l0_1.length c0_1],.slice A1 l1.length c1] w fun e w'=>∃A0_ c0_,e=.returned (.tuple #[.slice A0_ r1.length c0_,.bool r2])∧Aside0 (r1.length≤c0_∧Kd.C (Kd.int .i64) w' A0_ r1.length r1)∧Below w.heap.size w w':=
 (ZaE.calls k a0_0 A0_1 c0_1 l0_1 A1 c1 l1 r1 r2 w hr0_1 hc0_1 hr1 hc1 h).mono fun e w' ⟨v0_,he,q0_,hb⟩=>by
  obtain⟨A0_,c0_,rfl,g0_⟩:=Kd.R_reads q0_
  exact⟨A0_,c0_,he,⟨g0_⟩,hb⟩
def Zby.f (l0:List (S156)) (a1:Int):Option (Int):=if (wrap64 (a1 - (l0.length:Int)))<0 then(some (-1)) else(some (wrap64 (a1 - (l0.length:Int))))
set_option maxHeartbeats 8000000 in
set_option maxRecDepth 100000 in
theorem Zby.calls (A0:Option Addr) (c0:Nat) (l0:List (S156)) (a1:Int) (r:Int) (w:World) (hr0:Kd.C k156 w A0 l0.length l0) (hc0:l0.length≤c0) (h:Zby.f l0 a1=some r) :
  Calls Try.prog 81 #[.slice A0 l0.length c0,.int .i64 a1] w fun e w'=>e=.returned (.int .i64 r)∧ZZ w w':=by
 have HR0:=Za hr0;have HC0:=Za hc0;clear hr0 hc0
 have H:(if (wrap64 (a1 - (l0.length:Int)))<0 then(some (-1)) else(some (wrap64 (a1 - (l0.length:Int)))))=some r:=h
 clear h
 by_cases c3:(wrap64 (a1 - (l0.length:Int)))<0
 ·rw[if_pos c3] at H
  have c3b0:decide ((wrap64 (a1 - (l0.length:Int)))<0)=true:=Ze c3
  clear c3
  obtain rfl:=Zg H
  go_enter Try.func81,Try.ntmps81
  go_wp2
  go_ret
  exact⟨by first|rfl|(simp;done)|(simp[*];done),by repeat(first|exact ZZ.refl _|apply ZZ.step)⟩
 ·rw[if_neg c3] at H
  have c3b0:decide ((wrap64 (a1 - (l0.length:Int)))<0)=false:=Zf c3
  clear c3
  obtain rfl:=Zg H
  go_enter Try.func81,Try.ntmps81
  go_wp2
  go_ret
  exact⟨by first|rfl|(simp;done)|(simp[*];done),by repeat(first|exact ZZ.refl _|apply ZZ.step)⟩
def Zbt.f (a0_0:Int) (l0_1:List (S156)) (a1:Int):Option (Int):=(Zby.f l0_1 a1).bind fun t29002=>(if t29002<0 then(some (-1)) else(some t29002))
set_option maxHeartbeats 8000000 in
set_option maxRecDepth 100000 in
theorem Zbt.calls (a0_0:Int) (A0_1:Option Addr) (c0_1:Nat) (l0_1:List (S156)) (a1:Int) (r:Int) (w:World) (hr0_1:Kd.C k156 w A0_1 l0_1.length l0_1) (hc0_1:l0_1.length≤c0_1) (h:Zbt.f a0_0 l0_1 a1=some r) :
  Calls Try.prog 29 #[.agg #[.int .i64 a0_0,.slice A0_1 l0_1.length c0_1],.int .i64 a1] w fun e w'=>e=.returned (.int .i64 r)∧Below w.heap.size w w':=by
 have hu46:=Try.underlying46
 have HR0_1:=Za hr0_1;have HC0_1:=Za hc0_1;clear hr0_1 hc0_1
 have HB:=Za (Below.refl w.heap.size w)
 have H:((Zby.f l0_1 a1).bind fun t29002=>(if t29002<0 then(some (-1)) else(some t29002)))=some r:=h
 clear h
 replace H:=Zh H
 obtain⟨t29002,A30,H⟩:=H
 replace H:(if t29002<0 then(some (-1)) else(some t29002))=some r:=H
 have A3:=Za A30;clear A30
 by_cases c4:t29002<0
 ·rw[if_pos c4] at H
  have c4b0:decide (t29002<0)=true:=Ze c4
  clear c4
  obtain rfl:=Zg H
  go_enter Try.func29,Try.ntmps29
  go_wp2_with (first|((with_reducible refine ZC (N:=2) rfl ?_);refine ZE ?hg (N:=2) ?hd (cs:=#[.int .i64 a0_0,.slice A0_1 l0_1.length c0_1]) (t:=46) ?hr ?_;(case hd=>rfl);(case hg=>rfl);(case hr=>first|(go_simp;done)|(go_simp;rfl));intro gb29001 hg w5 hbox hb;have n0_:=Za (Zy (by repeat(first|(with_reducible first|exact HB.out|apply Zq|apply Zm|apply Zs)|exact HB.out)) hb);have n1_:=Za (hbox);have n2_:=Za ((by rw[hg];exact(Zv (by repeat(first|(with_reducible first|exact HB.out|apply Zq|apply Zm|apply Zs)|exact HB.out))):w.heap.size≤gb29001));have n3_:=Za ((by rw[hg];exact(Zv (by repeat(first|(with_reducible first|exact HB.out|apply Zq|apply Zm|apply Zs)|exact HB.out))):w.heap.size≤gb29001));clear HB;have HB:=n0_;have BK29001:=n1_;have GW29001:=n2_;have GE29001:=n3_;clear n0_ n1_ n2_ n3_;clear hb hbox hg;have hcz6_0:w5.cell? ⟨gb29001,0,none⟩=some (.int .i64 a0_0):=(Zu BK29001.out 0).trans rfl;have hcz6_1:w5.cell? ⟨gb29001,1,none⟩=some (.slice A0_1 l0_1.length c0_1):=(Zu BK29001.out 1).trans rfl;have hfz6_0:=Zt BK29001.out 0;have hfz6_1:=Zt BK29001.out 1)|((with_reducible refine ZG (f:=81) rfl ?_);refine ZV (some 8) rfl rfl Try.func81 (by kernel_rfl) rfl #[.slice A0_1 l0_1.length c0_1,.int .i64 a1] rfl (by(try simp only[List.map_toArray,List.map_cons,List.map_nil]);first|done|rfl|(simp only[Zk,Zj];rfl)) ?_;(with_reducible refine(Zby.calls _ _ l0_1 a1 t29002 _ ?side1 ?side2 A3.out).mono ?_);(case side1=>repeat(first|exact(Zb HR0_1.out HB.out)|(with_reducible refine Kd.C_alloc ?_ _)|(with_reducible refine Kd.C_drewN ?_ _)|(with_reducible refine Kd.C_drew ?_)));(case side2=>exact HC0_1.out);rintro e w' ⟨rfl,⟨nd,rfl⟩⟩;refine⟨_,rfl,?_⟩))
  go_ret
  exact⟨by first|rfl|(simp[ZA,Zz] <;> rfl)|(simp[*,ZA,Zz] <;> rfl),by repeat(first|(with_reducible first|exact HB.out|apply Zq|apply Zm|apply Zs|refine Zp ?_ GE29001.out)|exact HB.out)⟩
 ·rw[if_neg c4] at H
  have c4b0:decide (t29002<0)=false:=Zf c4
  clear c4
  obtain rfl:=Zg H
  go_enter Try.func29,Try.ntmps29
  go_wp2_with (first|((with_reducible refine ZC (N:=2) rfl ?_);refine ZE ?hg (N:=2) ?hd (cs:=#[.int .i64 a0_0,.slice A0_1 l0_1.length c0_1]) (t:=46) ?hr ?_;(case hd=>rfl);(case hg=>rfl);(case hr=>first|(go_simp;done)|(go_simp;rfl));intro gb29001 hg w7 hbox hb;have n0_:=Za (Zy (by repeat(first|(with_reducible first|exact HB.out|apply Zq|apply Zm|apply Zs)|exact HB.out)) hb);have n1_:=Za (hbox);have n2_:=Za ((by rw[hg];exact(Zv (by repeat(first|(with_reducible first|exact HB.out|apply Zq|apply Zm|apply Zs)|exact HB.out))):w.heap.size≤gb29001));have n3_:=Za ((by rw[hg];exact(Zv (by repeat(first|(with_reducible first|exact HB.out|apply Zq|apply Zm|apply Zs)|exact HB.out))):w.heap.size≤gb29001));clear HB;have HB:=n0_;have BK29001:=n1_;have GW29001:=n2_;have GE29001:=n3_;clear n0_ n1_ n2_ n3_;clear hb hbox hg;have hcz8_0:w7.cell? ⟨gb29001,0,none⟩=some (.int .i64 a0_0):=(Zu BK29001.out 0).trans rfl;have hcz8_1:w7.cell? ⟨gb29001,1,none⟩=some (.slice A0_1 l0_1.length c0_1):=(Zu BK29001.out 1).trans rfl;have hfz8_0:=Zt BK29001.out 0;have hfz8_1:=Zt BK29001.out 1)|((with_reducible refine ZG (f:=81) rfl ?_);refine ZV (some 8) rfl rfl Try.func81 (by kernel_rfl) rfl #[.slice A0_1 l0_1.length c0_1,.int .i64 a1] rfl (by(try simp only[List.map_toArray,List.map_cons,List.map_nil]);first|done|rfl|(simp only[Zk,Zj];rfl)) ?_;(with_reducible refine(Zby.calls _ _ l0_1 a1 t29002 _ ?side1 ?side2 A3.out).mono ?_);(case side1=>repeat(first|exact(Zb HR0_1.out HB.out)|(with_reducible refine Kd.C_alloc ?_ _)|(with_reducible refine Kd.C_drewN ?_ _)|(with_reducible refine Kd.C_drew ?_)));(case side2=>exact HC0_1.out);rintro e w' ⟨rfl,⟨nd,rfl⟩⟩;refine⟨_,rfl,?_⟩))
  go_ret
  exact⟨by first|rfl|(simp[ZA,Zz] <;> rfl)|(simp[*,ZA,Zz] <;> rfl),by repeat(first|(with_reducible first|exact HB.out|apply Zq|apply Zm|apply Zs|refine Zp ?_ GE29001.out)|exact HB.out)⟩
end Go.Proofs.Ytpoffpdaadhkgaa.Pr
namespace Go.Proofs.Ytpoffpdaadhkgaa.Pr
open Go.RowKit Go.Proofs.YtpoffpdaadhkgaaW.PrintWords Go.Proofs.YtpoffpdaadhkgaaW.PrintLast Go.Proofs.YtpoffpdaadhkgaaW.PrintMore
attribute [local go_sem] Zaa Z8 Zak Zaj Z5 Z4 Z9 Z7
set_option linter.unusedVariables false
set_option linter.unusedSimpArgs false
open Go.Proofs.Ytpoffpdaadhkgaa.Ni
theorem links_open {w:World} {base:Nat} {ok:Nat→Prop} {v:Value} {xs:List S101} (h:Kd.R k101 101 w base ok v xs) (hn:0<xs.length) :
  ∃g cap cur,v=.slice (some ⟨g,0,none⟩) xs.length cap∧base≤g∧ok g∧w.heap[g]? = some (.cells cur 101 (0,0))∧xs.length * 4≤cur.size:=by
 obtain⟨g,cap,rfl,h2,h3,cur,h4⟩:=Kd.R_form h hn
 refine⟨g,cap,cur,rfl,h2,h.1 _ rfl,h4,?_⟩
 obtain⟨ce,hcl,hM,hcc,_⟩:=Kd.R_elem h z101 ((xs.length - 1:Nat):Int) (by omega) (by omega)
 obtain rfl:=ZcU hM
 have h5:=hcc 3 _ rfl
 rw[Zu h4] at h5
 obtain⟨h6,_⟩:=Array.getElem?_eq_some_iff.1 h5
 simp only[Int.toNat_natCast,show(k101).sz=4 from rfl] at h6
 omega
structure LInv (w wr:World) (g z:Nat):Prop where
 sz:w.heap.size≤wr.heap.size
 far:∀k,k<w.heap.size→k≠g→wr.heap[k]? = w.heap[k]?
 row:∃cur':Array Value,wr.heap[g]? = some (.cells cur' 101 (0,0))∧cur'.size=z
theorem LInv.put {w wr:World} {g z:Nat} (h:LInv w wr g z) (j:Nat) (v:Value):LInv w (wr.setCell ⟨g,j,none⟩ v) g z:=by
 obtain⟨cur',h1,h2⟩:=h.row
 refine⟨by have:=h.sz;simp[World.setCell] at this ⊢;omega,fun k hk hkg=>(Below.heap_setCell wr _ _ k hkg).trans (h.far k hk hkg),_,ZF h1 j v rfl,by simpa using h2⟩
set_option maxHeartbeats 4000000 in
set_option maxRecDepth 100000 in
theorem markLinkS_k (w0 w:World) (ok:Nat→Prop) (v:Value) (xs:List S101) (hB:Below w0.heap.size w0 w) (hs:Kd.R k101 101 w w0.heap.size ok v xs) (hl:xs.length≤1048576) (a:Int) (h0:0≤a) (h1:a≤562949953421312) :
  Calls Try.prog 88 #[v,.int .i64 a] w fun e w'=>∃r:Int,e=.returned (.int .i64 r)∧Aside0 (0≤r∧r≤a+4194304)∧Below w0.heap.size w0 w'∧Kept w w' ok:=by
 by_cases hn:0<xs.length
 case neg=>
  obtain rfl:xs=[]:=List.eq_nil_of_length_eq_zero (by omega)
  obtain⟨A,c,rfl⟩:=Kd.R_slice hs
  have HB:=Za hB
  have HA:=Za (And.intro h0 h1)
  clear hB hs hl h0 h1 hn
  go_enter Try.func88,Try.ntmps88
  go_wp2
  go_loopg [1,5] 1 (fun gg s1 s5 wr=>s1=.int .i64 a∧s5=.int .i64 0∧Aside0 (wr=w))
  case atStart=>exact⟨rfl,rfl,⟨rfl⟩⟩
  case round=>
   obtain⟨rfl,rfl,hw⟩:=hrel
   obtain rfl:=hw.out
   go_wp2
   go_ret
   exact⟨a,rfl,⟨by have:=HA.out;omega⟩,HB.out,Kept.refl _ _⟩
 obtain⟨g,cap,cur,rfl,hbg,hok,hg,hsz⟩:=links_open hs hn
 have HB:=Za hB;have HOK:=Za hok;have HG:=Za hg;have HBG:=Za hbg;have HSZ:=Za hsz
 obtain⟨n,hnx⟩:∃n,n=xs.length:=⟨_,rfl⟩
 rw[← hnx] at HSZ hn hl ⊢
 clear hB hok hg hbg hsz hs hnx
 go_enter Try.func88,Try.ntmps88
 go_wp2
 go_loopg [1,5] n (fun gg s1 s5 wr=>∃kk:Nat,∃b:Int,Aside0 (kk≤n)∧Aside0 (n - kk≤gg)∧s1=.int .i64 b∧s5=.int .i64 kk∧Aside0 (0≤b∧b≤a+kk * 4)∧Aside0 (Below w0.heap.size w0 wr)∧Aside0 (LInv w wr g cur.size))
 case atStart=>exact⟨0,a,⟨Nat.zero_le _⟩,⟨by omega⟩,rfl,rfl,⟨by omega⟩,HB,⟨⟨Nat.le_refl _,fun _ _ _=>rfl,cur,HG.out,rfl⟩⟩⟩
 case round=>
  obtain⟨kk,b,HK,HGG,rfl,rfl,HBD,HBr,HI⟩:=hrel
  by_cases hlt2:kk<n
  ·have hltz:(kk:Int)<(n:Int):=by omega
   have hbd:=HBD.out
   obtain⟨cur1,hr1,hz1⟩:=HI.out.row
   have hin:kk * 4+3<cur1.size:=by have:=HSZ.out;omega
   have f0:=Zt hr1 (kk * 4)
   have f1:=Zt hr1 (kk * 4+1)
   have f2:=Zt hr1 (kk * 4+2)
   have f3:=Zt hr1 (kk * 4+3)
   have q0:=Zu hr1 (kk * 4)
   have q1:=Zu hr1 (kk * 4+1)
   have q2:=Zu hr1 (kk * 4+2)
   have q3:=Zu hr1 (kk * 4+3)
   obtain⟨u0,hu0⟩:∃u,cur1[kk * 4]? = some u:=⟨_,Array.getElem?_eq_getElem (by omega)⟩
   obtain⟨u1,hu1⟩:∃u,cur1[kk * 4+1]? = some u:=⟨_,Array.getElem?_eq_getElem (by omega)⟩
   obtain⟨u2,hu2⟩:∃u,cur1[kk * 4+2]? = some u:=⟨_,Array.getElem?_eq_getElem (by omega)⟩
   obtain⟨u3,hu3⟩:∃u,cur1[kk * 4+3]? = some u:=⟨_,Array.getElem?_eq_getElem (by omega)⟩
   rw[hu0] at q0
   rw[hu1] at q1
   rw[hu2] at q2
   rw[hu3] at q3
   clear hu0 hu1 hu2 hu3 hr1 hz1 hin
   have hw1:wrap64 (b+1)=b+1:=Za8 (by omega) (by omega)
   have hw2:wrap64 (b+1+1)=b+1+1:=Za8 (by omega) (by omega)
   have hw3:wrap64 (b+1+1+1)=b+1+1+1:=Za8 (by omega) (by omega)
   have hw4:wrap64 (b+1+1+1+1)=b+1+1+1+1:=Za8 (by omega) (by omega)
   go_wp2
   go_roundg (n - (kk+1))
   case measure=>have:=HGG.out;omega
   case rel=>
    refine⟨kk+1,b+1+1+1+1,⟨by omega⟩,⟨by omega⟩,by first|rfl|go_num,by go_num,⟨by omega⟩,⟨Zp (Zp (Zp (Zp HBr.out HBG.out) HBG.out) HBG.out) HBG.out⟩,⟨(((HI.out.put _ _).put _ _).put _ _).put _ _⟩⟩
  ·have hltz:¬(kk:Int)<(n:Int):=by omega
   have:kk=n:=by have:=HK.out;omega
   subst this
   go_wp2
   go_ret
   exact⟨b,rfl,⟨by have:=HBD.out;omega⟩,HBr.out,HI.out.sz,fun k hk hn9=>HI.out.far k hk (fun e=>hn9 (e ▸ HOK.out))⟩
set_option maxHeartbeats 4000000 in
set_option maxRecDepth 100000 in
theorem markSimple_k (w0 w:World) (b:Nat) (n:Int) (v:Value) (xs:List S101) (hB:Below w0.heap.size w0 w) (hs:Kd.R k101 101 w w0.heap.size (fun k=>k<b) v xs) (hl:xs.length≤1048576) (a:Int) (h0:0≤a) (h1:a≤562949953421312) :
  Calls Try.prog 38 #[.agg #[.int .i64 n,v],.int .i64 a] w fun e w'=>∃r:Int,e=.returned (.int .i64 r)∧Aside0 (0≤r∧r≤a+4398046511104)∧Below w0.heap.size w0 w'∧Kept w w' (fun k=>k<b):=by
 obtain⟨A,c,rfl⟩:=Kd.R_slice hs
 have HS:=Za hs;have HB:=Za hB
 have hu:=Try.underlying25
 have hsz:=hB.size
 have HC1:=Za fun (W:World) (hb:Below w.heap.size w W)=>markLinkS_k w0 W _ _ xs (HB.out.trans (hb.mono hsz)) (Kd.R_below HS.out hb) hl a h0 h1
 have B1:=Za (Zq (Below.refl w.heap.size w) (.cells #[.int .i64 n,.slice A xs.length c] 25))
 clear hs hB hl h0 h1
 go_enter Try.func38,Try.ntmps38
 go_wp2_with fail
 refine(HC1.out _ B1.out).mono ?_
 rintro e w1 ⟨r1,rfl,HR1,hb1,hk1⟩
 have HB1:=Za hb1
 have HK1:=Za ((Kept.of_below B1.out (fun k=>k<b)).then_ hk1 (fun k hk=>.inl hk))
 clear hb1 hk1
 go_wp2
 go_ret
 exact⟨_,rfl,⟨by have:=HR1.out;omega⟩,HB1.out,HK1.out⟩
set_option maxHeartbeats 4000000 in
set_option maxRecDepth 100000 in
theorem laws_eqLink.same (a0:Int) (a1:Int) (a2:Int) (a3:Int) (w:World)  :
  Calls Try.prog 133 #[.agg #[.int .i64 a0,.int .i64 a1,.int .i64 a2,.int .i64 a3],.agg #[.int .i64 a0,.int .i64 a1,.int .i64 a2,.int .i64 a3]] w fun e w'=>e=.returned (.bool true)∧Below w.heap.size w w':=by
 have hu:=Try.underlying101
 have HB0:=Za (Zq (Zq (Below.refl w.heap.size w) (.cells #[.int .i64 a0,.int .i64 a1,.int .i64 a2,.int .i64 a3] 101)) (.cells #[.int .i64 a0,.int .i64 a1,.int .i64 a2,.int .i64 a3] 101))
 go_enter Try.func133,Try.ntmps133
 go_wp2
 go_ret
 exact⟨rfl,by repeat(first|exact Below.refl _ _|apply Zq|apply Zm|apply Zay)⟩
set_option maxHeartbeats 4000000 in
set_option maxRecDepth 100000 in
theorem laws_eqLinkS.same (A0:Option Addr) (c0:Nat) (A0':Option Addr) (c0':Nat) (l0:List (S101)) (w:World) (hr0:Kd.C k101 w A0 l0.length l0) (hc0:l0.length≤c0) (hr0':Kd.C k101 w A0' l0.length l0) (hc0':l0.length≤c0') :
  Calls Try.prog 85 #[.slice A0 l0.length c0,.slice A0' l0.length c0'] w fun e w'=>e=.returned (.bool true)∧Below w.heap.size w w':=by
 have hL:l0.length≤9223372036854775807:=hr0.2.1
 have HR:=Za hr0
 have HS:=Za hr0'
 clear hr0 hr0'
 go_enter Try.func85,Try.ntmps85
 go_wp2
 go_loopg [5] l0.length (fun gg s5 wr=>∃kk:Nat,Aside0 (kk≤l0.length)∧Aside0 (l0.length - kk≤gg)∧s5=.int .i64 kk∧Aside0 (Below w.heap.size w wr))
 case atStart=>exact⟨0,⟨Nat.zero_le _⟩,⟨by omega⟩,rfl,⟨Below.refl _ _⟩⟩
 case round=>
  obtain⟨kk,HK,HG,rfl,HBr⟩:=hrel
  by_cases hlt:kk<l0.length
  ·have hltz:(kk:Int)<(l0.length:Int):=by omega
   obtain⟨adx,ex,hx0,hx1,hx2,hx3⟩:=Zbk HR.out (kk:Int) (by omega) hltz
   obtain⟨ady,ey,hy0,hy1,hy2,hy3⟩:=Zbk HS.out (kk:Int) (by omega) hltz
   cases ex
   cases ey
   rw[Int.toNat_natCast] at hx0 hx1 hx2 hx3 hy0 hy1 hy2 hy3
   generalize Zw l0 (kk:Int)=y at hx0 hx1 hx2 hx3 hy0 hy1 hy2 hy3
   replace hx0:=ZK HBr.out hx0
   replace hx1:=ZK HBr.out hx1
   replace hx2:=ZK HBr.out hx2
   replace hx3:=ZK HBr.out hx3
   replace hy0:=ZK HBr.out hy0
   replace hy1:=ZK HBr.out hy1
   replace hy2:=ZK HBr.out hy2
   replace hy3:=ZK HBr.out hy3
   have hltx:=Zc wr _ hx0
   have hlty:=Zc wr _ hy0
   go_wp2_with fail
   go_region_held3 (fun w'=>Below wr.heap.size wr w'∧w'.cell? (adx.add (kk * 4))=some (.int .i64 y.f0)∧w'.cell? ⟨(adx.add (kk * 4)).block,(adx.add (kk * 4)).off+1,none⟩=some (.int .i64 y.f1)∧w'.cell? ⟨(adx.add (kk * 4)).block,(adx.add (kk * 4)).off+2,none⟩=some (.int .i64 y.f2.f0)∧w'.cell? ⟨(adx.add (kk * 4)).block,(adx.add (kk * 4)).off+3,none⟩=some (.int .i64 y.f2.f1)∧w'.cell? (ady.add (kk * 4))=some (.int .i64 y.f0)∧w'.cell? ⟨(ady.add (kk * 4)).block,(ady.add (kk * 4)).off+1,none⟩=some (.int .i64 y.f1)∧w'.cell? ⟨(ady.add (kk * 4)).block,(ady.add (kk * 4)).off+2,none⟩=some (.int .i64 y.f2.f0)∧w'.cell? ⟨(ady.add (kk * 4)).block,(ady.add (kk * 4)).off+3,none⟩=some (.int .i64 y.f2.f1))
    (first|(refine⟨by repeat(first|(with_reducible first|exact Below.refl _ _|apply Zq|apply Zm|apply Zs|exact(‹Below wr.heap.size wr _∧_› : Below wr.heap.size wr _∧_).1)|exact Below.refl _ _),?_⟩;go_simp;done)|(have HQ_:=Zy (‹Below wr.heap.size wr _∧_› : Below wr.heap.size wr _∧_).1 hb;exact⟨HQ_,ZK HQ_ hx0,ZK HQ_ hx1,ZK HQ_ hx2,ZK HQ_ hx3,ZK HQ_ hy0,ZK HQ_ hy1,ZK HQ_ hy2,ZK HQ_ hy3⟩))
    (first|(go_at_call 133;(refine(laws_eqLink.same y.f0 y.f1 y.f2.f0 y.f2.f1 _ ).mono ?_);rintro e w3 ⟨rfl,hb⟩))
   have HB3:=Za (‹Below wr.heap.size wr w3∧_› : Below wr.heap.size wr w3∧_).1
   go_wp2
   go_roundg (l0.length - (kk+1))
   case measure=>have:=HG.out;omega
   case rel=>exact⟨kk+1,⟨by omega⟩,⟨by omega⟩,by go_num,⟨HBr.out.trans (HB3.out.mono HBr.out.size)⟩⟩
  ·have hltz:¬(kk:Int)<(l0.length:Int):=by omega
   have:kk=l0.length:=by have:=HK.out;omega
   subst this
   go_wp2
   go_ret
   exact⟨rfl,HBr.out⟩
set_option maxHeartbeats 4000000 in
set_option maxRecDepth 100000 in
theorem ZdV.same (a0:Int) (A1:Option Addr) (c1:Nat) (A1':Option Addr) (c1':Nat) (l1:List (S101)) (w:World) (hr1:Kd.C k101 w A1 l1.length l1) (hc1:l1.length≤c1) (hr1':Kd.C k101 w A1' l1.length l1) (hc1':l1.length≤c1') :
  Calls Try.prog 33 #[.agg #[.int .i64 a0,.slice A1 l1.length c1],.agg #[.int .i64 a0,.slice A1' l1.length c1']] w fun e w'=>e=.returned (.bool true)∧Below w.heap.size w w':=by
 have hu:=Try.underlying25
 have H1:=Za fun (W:World) (hb:Below w.heap.size w W)=>laws_eqLinkS.same A1 c1 A1' c1' l1 W (Zb hr1 hb) hc1 (Zb hr1' hb) hc1'
 clear hr1 hc1 hr1' hc1'
 have HB0:=Za (Zq (Zq (Below.refl w.heap.size w) (.cells #[.int .i64 a0,.slice A1 l1.length c1] 25)) (.cells #[.int .i64 a0,.slice A1' l1.length c1'] 25))
 go_enter Try.func33,Try.ntmps33
 go_wp2_with fail
 refine(H1.out _ HB0.out).mono ?_
 rintro e w1 ⟨rfl,hb⟩
 have HB1:=Za (HB0.out.trans (hb.mono HB0.out.size))
 clear hb
 go_wp2
 go_ret
 exact⟨rfl,HB1.out⟩
end Go.Proofs.Ytpoffpdaadhkgaa.Pr
namespace Go.Proofs.Ytpoffpdaadhkgaa.Pr
open Go.RowKit Go.Proofs.YtpoffpdaadhkgaaW.PrintWords Go.Proofs.YtpoffpdaadhkgaaW.PrintLast Go.Proofs.YtpoffpdaadhkgaaW.PrintMore
attribute [local go_sem] Zaa Z8 Zak Zaj Z5 Z4 Z9 Z7
set_option linter.unusedVariables false
set_option linter.unusedSimpArgs false
theorem Zan.o (k:Nat) (a0_0:Int) (A0_1:Option Addr) (c0_1:Nat) (l0_1:List (S101)) (A1:Option Addr) (c1:Nat) (l1:List Int) (r1:List Int) (r2:Bool) (w:World) (hr0_1:Kd.C k101 w A0_1 l0_1.length l0_1) (hc0_1:l0_1.length≤c0_1) (hr1:Kd.C (Kd.int .i64) w A1 l1.length l1) (hc1:l1.length≤c1) (h:Zan.f k a0_0 l0_1 l1=some (r1,r2)) :
  Calls Try.prog 25 #[.agg #[.int .i64 a0_0,.slice A0_1 l0_1.length c0_1],.slice A1 l1.length c1] w fun e w'=>∃A0_ c0_,e=.returned (.tuple #[.slice A0_ r1.length c0_,.bool r2])∧Aside0 (r1.length≤c0_∧Kd.C (Kd.int .i64) w' A0_ r1.length r1)∧Aside0 (Kd.R (Kd.int .i64) 3 w' w.heap.size (fun k_=>True∧(w.heap.size≤k_∧k_<w'.heap.size)) (.slice A0_ r1.length c0_) r1)∧Below w.heap.size w w':=
 (Zan.calls k a0_0 A0_1 c0_1 l0_1 A1 c1 l1 r1 r2 w hr0_1 hc0_1 hr1 hc1 h).mono fun e w' ⟨v0_,he,q0_,hb⟩=>by
  obtain⟨A0_,c0_,rfl,g0_⟩:=Kd.R_reads q0_
  exact⟨A0_,c0_,he,⟨g0_⟩,⟨Kd.R_mono (Kd.R_bound q0_) (fun k hk=>⟨hk.1,hk.2.1,hk.2.2.1⟩)⟩,hb⟩
theorem ZaA.o (k:Nat) (a0_0:Int) (A0_1:Option Addr) (c0_1:Nat) (l0_1:List (S156)) (r1:Int) (r2:List (S101)) (w:World) (hr0_1:Kd.C k156 w A0_1 l0_1.length l0_1) (hc0_1:l0_1.length≤c0_1) (h:ZaA.f k a0_0 l0_1=some (r1,r2)) :
  Calls Try.prog 31 #[.agg #[.int .i64 a0_0,.slice A0_1 l0_1.length c0_1]] w fun e w'=>∃A0_ c0_,e=.returned (.agg #[.int .i64 r1,.slice A0_ r2.length c0_])∧Aside0 (r2.length≤c0_∧Kd.C k101 w' A0_ r2.length r2)∧Aside0 (Kd.R k101 101 w' w.heap.size (fun k_=>True∧(w.heap.size≤k_∧k_<w'.heap.size)) (.slice A0_ r2.length c0_) r2)∧Below w.heap.size w w':=
 (ZaA.calls k a0_0 A0_1 c0_1 l0_1 r1 r2 w hr0_1 hc0_1 h).mono fun e w' ⟨v1_,he,q0_,hb⟩=>by
  obtain⟨A0_,c0_,rfl,g0_⟩:=Kd.R_reads q0_
  exact⟨A0_,c0_,he,⟨g0_⟩,⟨Kd.R_mono (Kd.R_bound q0_) (fun k hk=>⟨hk.1,hk.2.1,hk.2.2.1⟩)⟩,hb⟩
theorem Zah.o (k:Nat) (A0:Option Addr) (c0:Nat) (l0:List Int) (r:List Int) (w:World) (hr0:Kd.C (Kd.int .i64) w A0 l0.length l0) (hc0:l0.length≤c0) (h:Zah.f k l0=some r) :
  Calls Try.prog 32 #[.slice A0 l0.length c0] w fun e w'=>∃A0_ c0_,e=.returned (.slice A0_ r.length c0_)∧Aside0 (r.length≤c0_∧Kd.C (Kd.int .i64) w' A0_ r.length r)∧Aside0 (Kd.R (Kd.int .i64) 3 w' w.heap.size (fun k_=>True∧(w.heap.size≤k_∧k_<w'.heap.size)) (.slice A0_ r.length c0_) r)∧Below w.heap.size w w':=
 (Zah.calls k A0 c0 l0 r w hr0 hc0 h).mono fun e w' ⟨v0_,he,q0_,hb⟩=>by
  obtain⟨A0_,c0_,rfl,g0_⟩:=Kd.R_reads q0_
  exact⟨A0_,c0_,he,⟨g0_⟩,⟨Kd.R_mono (Kd.R_bound q0_) (fun k hk=>⟨hk.1,hk.2.1,hk.2.2.1⟩)⟩,hb⟩
end Go.Proofs.Ytpoffpdaadhkgaa.Pr
namespace Go.Proofs.Ytpoffpdaadhkgaa.Pr
open Go.RowKit Go.Proofs.YtpoffpdaadhkgaaW.PrintWords Go.Proofs.Ytpoffpdaadhkgaa.Ni
abbrev LLink:=S156
abbrev ZaC:=S101
def cvI (x:S154):S29:=⟨x.f0,x.f1⟩
def cvK (x:LLink):ZaC:=⟨x.f0,x.f1,cvI x.f2⟩
theorem rdK_nat (l:List ZaC) (i:Nat):Zw l (i:Int)=l.getD i z101:=by unfold Zw;rw[Int.toNat_natCast]
theorem rdLK_nat (l:List LLink) (i:Nat):Za9 l (i:Int)=l.getD i z156:=by unfold Za9;rw[Int.toNat_natCast]
theorem zK:cvK z156=z101:=rfl
theorem getD_mapK (l:List LLink) (i:Nat):(l.map cvK).getD i z101=cvK (l.getD i z156):=by
 rw[← zK,List.getD_eq_getElem?_getD,List.getD_eq_getElem?_getD,List.getElem?_map]
 cases l[i]? <;> rfl
theorem szSimple_f (n:Int) (l:List LLink) (hl:l.length≤9223372036854775807) (a:Int) (h0:0≤a) (h1:a≤1048576):∃r,Zbt.f n l a=some r∧(r<0∨(0≤r∧r≤a∧l.length≤1048576)):=by
 unfold Zbt.f Zby.f
 rw[Za8 (by omega) (by omega)]
 by_cases h:a - (l.length:Int)<0
 ·rw[if_pos h,Zi,if_pos (by omega)];exact⟨_,rfl,.inl (by omega)⟩
 ·rw[if_neg h,Zi,if_neg h];exact⟨_,rfl,.inr ⟨by omega,by omega,by omega⟩⟩
theorem toLinkS_f (l:List LLink) (hl:l.length≤1048576) (k:Nat) (hk:2 ^ 64≤k):Zap.f k l=some (l.map cvK):=by
 have key:=Zbg l.length (fun k i=>Zap.l0 k l ((l.map cvK).take i ++ List.replicate ((l.map cvK).length - i) z101) (i:Int)=some (l.map cvK)) 0
  (fun k _=>by simp[Zap.l0];rw[List.take_of_length_le (by simp)])
  (fun k i hk hi ih=>by
   simp only[Zap.l0,ZbV.f,Zbp.f]
   rw[if_pos (by omega),if_pos (by omega),rdLK_nat]
   simp only[Zi]
   rw[if_pos (by simp;omega),ZaQ hi (by omega),Int.toNat_natCast,ZcQ (l.map cvK) _ z101 i (by simpa using hi) _ (by rw[getD_mapK l i];rfl)]
   exact ih) 0 k (Nat.zero_le _) (by omega)
 unfold Zap.f
 rw[if_pos (by omega),if_pos (by omega),Int.toNat_natCast]
 simpa using key
theorem toSimple_f (n:Int) (l:List LLink) (hl:l.length≤1048576) (k:Nat) (hk:2 ^ 64≤k):ZaA.f k n l=some (n,l.map cvK):=by
 unfold ZaA.f
 rw[toLinkS_f l hl k hk,Zi]
theorem sivOk_f (lo hi:Int):Zao.f lo hi=some (Zcc lo hi):=ivOk_f lo hi
theorem slink_ok {n:Int} (h0:1≤n) (h8:n≤8) (y:ZaC):(inR y.f0 0 (wrap64 (n - 1)) && (inR y.f1 0 (wrap64 (n - 1)) && Zcc y.f2.f0 y.f2.f1))=Zbh n y:=by
 rw[Za8 (by omega) (by omega)]
 unfold Zbh
 rw[show inR y.f0 0 (n - 1)=inN n y.f0 by unfold inR inN;rw[Bool.eq_iff_iff];simp only[Bool.and_eq_true,decide_eq_true_eq];omega,show inR y.f1 0 (n - 1)=inN n y.f1 by unfold inR inN;rw[Bool.eq_iff_iff];simp only[Bool.and_eq_true,decide_eq_true_eq];omega]
theorem ssimple_l (n:Int) (L:List ZaC) (h0:1≤n) (h8:n≤8) (hl:L.length≤40) (k:Nat) (hk:2 ^ 64≤k):ZL.l0 k L (L.length:Int) 0 n L=some (!(L.any fun x=>!Zbh n x)):=by
 have key:=Zbg L.length (fun k i=>ZL.l0 k L (L.length:Int) (i:Int) n L=some (!((L.drop i).any fun x=>!Zbh n x))) 0
  (fun k _=>by
   simp only[ZL.l0]
   rw[if_neg (by omega),List.drop_length];rfl)
  (fun k i _ hi ih=>by
   simp only[ZL.l0]
   rw[if_pos (by omega),if_pos (by omega),if_pos (by omega),ZaQ hi (by omega),ih,ZaO hi z101,List.any_cons,rdK_nat]
   generalize L.getD i z101=y
   rw[← slink_ok h0 h8 y]
   simp only[Zcm,sivOk_f,Zi]
   cases inR y.f0 0 (wrap64 (n - 1)) <;> cases inR y.f1 0 (wrap64 (n - 1)) <;> cases Zcc y.f2.f0 y.f2.f1 <;> rfl) 0 k (Nat.zero_le _) (by omega)
 simpa using key
theorem ZbM (n:Int) (L:List ZaC) (k:Nat) (hk:2 ^ 66≤k):ZL.f k n L=some (Zas n L):=by
 obtain⟨k,rfl⟩:∃m,k=m+1:=⟨k - 1,by omega⟩
 unfold ZL.f Zas
 simp only[Zcm,Zi,ZL.j0]
 by_cases h:1≤n∧n≤8
 ·rw[show inR n 1 8=true by unfold inR;simp[h.1,h.2],if_pos rfl,Zf (show ¬n<1 by omega),Zf (show ¬8<n by omega)]
  by_cases h2:(L.length:Int) > 40
  ·rw[Ze h2,if_pos rfl,Ze (show 40<L.length by omega)];rfl
  ·rw[Zf h2,if_neg (by simp),Zf (show ¬40<L.length by omega),ssimple_l n L h.1 h.2 (by omega) k (by omega)]
   simp
 ·rw[show inR n 1 8=false by unfold inR;rw[Bool.eq_false_iff];simp only[ne_eq,Bool.and_eq_true,decide_eq_true_eq];exact h,if_neg (by simp),if_pos trivial]
  by_cases h3:n<1
  ·rw[Ze h3];rfl
  ·rw[Zf h3,Ze (show 8<n by omega)];rfl
theorem Zb3 {n:Int} {L:List ZaC} (h:Zas n L=true):1≤n∧n≤8∧L.length≤40∧∀x∈L,Zbh n x=true:=by
 unfold Zas at h
 simp only[Bool.and_eq_true,Bool.not_eq_true',decide_eq_false_iff_not] at h
 obtain⟨h1,h2,h3,h4⟩:=h
 refine⟨by omega,by omega,by omega,fun x hx=>?_⟩
 have:=List.any_eq_false.1 h4 x hx
 simpa using this
theorem spart_l (tm:List Int) (hl:tm.length≤1048576) (k:Nat) (hk:2 ^ 64≤k):ZU.l0 k tm (tm.length:Int) 0=some (!(tm.any fun x=>!Zbv x)):=by
 have key:=Zbg tm.length (fun k i=>ZU.l0 k tm (tm.length:Int) (i:Int)=some (!((tm.drop i).any fun x=>!Zbv x))) 0
  (fun k _=>by
   simp only[ZU.l0]
   rw[if_neg (by omega),List.drop_length];rfl)
  (fun k i _ hi ih=>by
   simp only[ZU.l0]
   rw[if_pos (by omega),if_pos (by omega),if_pos (by omega),ZaQ hi (by omega),ih,ZaO hi 0,List.any_cons,Za4,Zcm,Zi,show inR (tm.getD i 0) (-1) 999999=Zbv (tm.getD i 0) by unfold inR Zbv;rw[Bool.eq_iff_iff];simp only[Bool.and_eq_true,decide_eq_true_eq];omega]
   cases Zbv (tm.getD i 0) <;> rfl) 0 k (Nat.zero_le _) (by omega)
 simpa using key
theorem Zdh (n:Int) (L:List ZaC) (tm:List Int) (hl:tm.length≤1048576) (k:Nat) (hk:2 ^ 67≤k):ZU.f k n L tm=some (Zb4 n L tm):=by
 obtain⟨m,hm⟩:∃m,k=m+1:=⟨k - 1,by omega⟩
 unfold ZU.f Zb4
 rw[ZbM n L k (by omega),Zi,hm]
 simp only[ZU.j0]
 cases hs:Zas n L with
 | false=>rfl
 | true=>
  have hb:=Zb3 hs
  rw[if_pos rfl]
  by_cases h:(tm.length:Int)=n
  ·rw[if_pos h,if_pos (by omega),Ze h,show rd tm 0=tm.getD 0 0 from rfl]
   by_cases h0:tm.getD 0 0=0
   ·rw[h0,if_neg (by simp),spart_l tm hl m (by omega)];rfl
   ·rw[if_pos (by simpa using h0),Zf h0];rfl
  ·rw[if_neg h,Zf h];rfl
theorem Zdj (n:Int) (L:List ZaC) (tm:List Int):Za2.f n L tm=some (Zb4 n L tm):=rfl
theorem partB_bd {n:Int} {L:List ZaC} {tm:List Int} (h:Zb4 n L tm=true):Zas n L=true∧(tm.length:Int)=n∧tm.getD 0 0=0∧∀x∈tm,-1≤x∧x<1000000:=by
 unfold Zb4 at h
 simp only[Bool.and_eq_true,decide_eq_true_eq,Bool.not_eq_true'] at h
 refine⟨h.1,h.2.1,h.2.2.1,fun x hx=>?_⟩
 have:=List.any_eq_false.1 h.2.2.2 x hx
 simpa [Zbv] using this
def fixL:Nat→List Int→List ZaC
 | _,[]=>[]
 | i,x :: t=>(if 0<i∧x≠-1 then[⟨0,(i:Int),⟨x,x⟩⟩] else[]) ++ fixL (i+1) t
theorem fixL_len:∀(i:Nat) (t:List Int),(fixL i t).length≤t.length
 | _,[]=>Nat.le_refl _
 | i,x :: t=>by
  have:=fixL_len (i+1) t
  unfold fixL
  split <;> simp <;> omega
def fixB (n:Int) (L:List ZaC) (tm:List Int):Int×List ZaC×Bool:=
 if Zb4 n L tm=true then(if Zas n (L ++ fixL 0 tm)=true then(n,L ++ fixL 0 tm,true) else(0,[],false)) else(0,[],false)
theorem sfix_l (n:Int) (L:List ZaC) (tm:List Int) (hl:tm.length≤1048576) (hL:L.length≤1048576) (k:Nat) (hk:2 ^ 67≤k):ZY.l0 k tm (tm.length:Int) 0 n L=some (if Zas n (L ++ fixL 0 tm)=true then(n,L ++ fixL 0 tm,true) else(0,[],false)):=by
 have key:=Zbg tm.length (fun k i=>∀M:List ZaC,M.length≤1048576+i→ZY.l0 k tm (tm.length:Int) (i:Int) n M=some (if Zas n (M ++ fixL i (tm.drop i))=true then(n,M ++ fixL i (tm.drop i),true) else(0,[],false))) (2 ^ 66)
  (fun k hk M _=>by
   simp only[ZY.l0]
   rw[if_neg (by omega),List.drop_length,ZbM n M k hk,Zi,show fixL tm.length []=[] from rfl,List.append_nil]
   split <;> rfl)
  (fun k i _ hi ih M hM=>by
   simp only[ZY.l0]
   rw[if_pos (by omega),if_pos (by omega),if_pos (by omega),ZaQ hi (by omega),Za4,ZaO hi 0,fixL]
   by_cases h0:0<i
   ·rw[if_pos (by omega)]
    by_cases h1:tm.getD i 0=-1
    ·rw[if_pos h1,if_neg (show ¬(0<i∧tm.getD i 0≠-1) from fun h=>h.2 h1),ih M (by omega),List.nil_append]
    ·rw[if_neg h1,if_pos (by omega),if_pos (show 0<i∧tm.getD i 0≠-1 from⟨h0,h1⟩),ih _ (by simp;omega),← List.append_assoc]
   ·rw[if_neg (by omega),if_neg (show ¬(0<i∧tm.getD i 0≠-1) from fun h=>h0 h.1),ih M (by omega),List.nil_append]) 0 k (Nat.zero_le _) (by omega)
 simpa using key L (by omega)
theorem pfix_l (n:Int) (L:List ZaC) (tm:List Int) (hl:tm.length≤1048576) (hL:L.length≤1048576) (k:Nat) (hk:2 ^ 64≤k):ZR.l0 k tm (tm.length:Int) 0 n L=some (if Zas n (L ++ fixL 0 tm)=true then(n,L ++ fixL 0 tm,true) else(0,[],false)):=by
 have key:=Zbg tm.length (fun k i=>∀M:List ZaC,M.length≤1048576+i→ZR.l0 k tm (tm.length:Int) (i:Int) n M=some (if Zas n (M ++ fixL i (tm.drop i))=true then(n,M ++ fixL i (tm.drop i),true) else(0,[],false))) 0
  (fun k hk M _=>by
   simp only[ZR.l0]
   rw[if_neg (by omega),List.drop_length,Zae.f,Zi,show fixL tm.length []=[] from rfl,List.append_nil]
   split <;> rfl)
  (fun k i _ hi ih M hM=>by
   simp only[ZR.l0]
   rw[if_pos (by omega),if_pos (by omega),if_pos (by omega),ZaQ hi (by omega),Za4,ZaO hi 0,fixL]
   by_cases h0:0<i
   ·rw[if_pos (by omega)]
    by_cases h1:tm.getD i 0=-1
    ·rw[if_pos h1,if_neg (show ¬(0<i∧tm.getD i 0≠-1) from fun h=>h.2 h1),ih M (by omega),List.nil_append]
    ·rw[if_neg h1,if_pos (by omega),if_pos (show 0<i∧tm.getD i 0≠-1 from⟨h0,h1⟩),ih _ (by simp;omega),← List.append_assoc]
   ·rw[if_neg (by omega),if_neg (show ¬(0<i∧tm.getD i 0≠-1) from fun h=>h0 h.1),ih M (by omega),List.nil_append]) 0 k (Nat.zero_le _) (by omega)
 simpa using key L (by omega)
theorem ZbN (n:Int) (L:List ZaC) (tm:List Int) (hl:tm.length≤1048576) (hL:L.length≤1048576) (k:Nat) (hk:2 ^ 68≤k):ZY.f k n L tm=some (fixB n L tm):=by
 unfold ZY.f fixB Zax.f
 rw[Zdh n L tm hl k (by omega),Zi,Zi,if_pos (show([]:List ZaC).length+L.length<4398046511104 by simp only[List.length_nil];omega),Zi,List.nil_append,sfix_l n L tm hl hL k (by omega)]
 split <;> rfl
theorem Zb6 (n:Int) (L:List ZaC) (tm:List Int) (hl:tm.length≤1048576) (hL:L.length≤1048576) (k:Nat) (hk:2 ^ 68≤k):ZR.f k n L tm=some (fixB n L tm):=by
 unfold ZR.f fixB
 rw[Zdj,Zi]
 have hc:ZaX.f L=some L:=by
  unfold ZaX.f
  rw[if_pos (by omega)]
 rw[hc,Zi,pfix_l n L tm hl hL k (by omega)]
 split <;> rfl
def ZcN (x:ZaC):List Z1:=(if x.f2.f1=1000000 then[] else[⟨x.f0,x.f1,x.f2.f1⟩]) ++ (if x.f2.f0=-1000000 then[] else[⟨x.f1,x.f0,wrap64 (-x.f2.f0)⟩])
def ZaT:List ZaC→List Z1
 | []=>[]
 | x :: t=>ZcN x ++ ZaT t
def linksL (i:Nat) (x:ZaC):List Int:=(if x.f2.f1=1000000 then[] else[(i:Int)]) ++ (if x.f2.f0=-1000000 then[] else[(i:Int)])
def Zb5:Nat→List ZaC→List Int
 | _,[]=>[]
 | i,x :: t=>linksL i x ++ Zb5 (i+1) t
theorem edgesL_len (x:ZaC):(ZcN x).length≤2:=by unfold ZcN;split <;> split <;> simp
theorem Zdw:∀L:List ZaC,(ZaT L).length≤2 * L.length
 | []=>Nat.le_refl _
 | x :: t=>by have:=Zdw t;have:=edgesL_len x;rw[ZaT,List.length_append,List.length_cons];omega
theorem pgraph_l (n:Int) (L:List ZaC) (hl:L.length≤1048576) (k:Nat) (hk:2 ^ 64≤k):Z6.l0 k [] L (L.length:Int) 0 n []=some (n,ZaT L,Zb5 0 L):=by
 have key:=Zbg L.length (fun k i=>∀(a:List Z1) (b:List Int),a.length≤2 * i→b.length≤2 * i→Z6.l0 k b L (L.length:Int) (i:Int) n a=some (n,a ++ ZaT (L.drop i),b ++ Zb5 i (L.drop i))) 0
  (fun k _ a b _ _=>by
   simp only[Z6.l0]
   rw[if_neg (by omega),List.drop_length,ZaT,Zb5,List.append_nil,List.append_nil])
  (fun k i _ hi ih a b ha hb=>by
   simp only[Z6.l0]
   rw[if_pos (by omega),if_pos (by omega),if_pos (by omega),ZaQ hi (by omega),ZaO hi z101,ZaT,Zb5,rdK_nat]
   generalize L.getD i z101=y
   unfold ZcN linksL
   by_cases h1:y.f2.f1=1000000
   ·by_cases h2:y.f2.f0=-1000000
    ·simp only[if_pos h1,if_pos h2]
     rw[ih a b (by omega) (by omega)];simp
    ·simp only[if_pos h1,if_neg h2]
     rw[if_pos (by omega),if_pos (by omega),ih _ _ (by simp;omega) (by simp;omega)];simp
   ·by_cases h2:y.f2.f0=-1000000
    ·simp only[if_neg h1,if_pos h2,Zi]
     rw[if_pos (by omega),if_pos (by omega),ih _ _ (by simp;omega) (by simp;omega)];simp
    ·simp only[if_neg h1,if_neg h2,Zi]
     rw[if_pos (by omega),if_pos (by omega),if_pos (by simp;omega),if_pos (by simp;omega),ih _ _ (by simp;omega) (by simp;omega)];simp) 0 k (Nat.zero_le _) (by omega)
 simpa using key [] [] (by simp) (by simp)
theorem sedges_l (L:List ZaC) (hl:L.length≤1048576) (k:Nat) (hk:2 ^ 64≤k):Z0.l0 k [] [] L (L.length:Int) 0=some (ZaT L,Zb5 0 L):=by
 have key:=Zbg L.length (fun k i=>∀(a:List Z1) (b:List Int),a.length≤2 * i→b.length≤2 * i→Z0.l0 k a b L (L.length:Int) (i:Int)=some (a ++ ZaT (L.drop i),b ++ Zb5 i (L.drop i))) 0
  (fun k _ a b _ _=>by
   simp only[Z0.l0]
   rw[if_neg (by omega),List.drop_length,ZaT,Zb5,List.append_nil,List.append_nil])
  (fun k i _ hi ih a b ha hb=>by
   simp only[Z0.l0]
   rw[if_pos (by omega),if_pos (by omega),if_pos (by omega),ZaQ hi (by omega),ZaO hi z101,ZaT,Zb5,rdK_nat]
   generalize L.getD i z101=y
   unfold ZcN linksL
   by_cases h1:y.f2.f1=1000000
   ·by_cases h2:y.f2.f0=-1000000
    ·simp only[if_pos h1,if_pos h2]
     rw[ih a b (by omega) (by omega)];simp
    ·simp only[if_pos h1,if_neg h2]
     rw[if_pos (by omega),if_pos (by omega),ih _ _ (by simp;omega) (by simp;omega)];simp
   ·by_cases h2:y.f2.f0=-1000000
    ·simp only[if_neg h1,if_pos h2,Zi]
     rw[if_pos (by omega),if_pos (by omega),ih _ _ (by simp;omega) (by simp;omega)];simp
    ·simp only[if_neg h1,if_neg h2,Zi]
     rw[if_pos (by omega),if_pos (by omega),if_pos (by simp;omega),if_pos (by simp;omega),ih _ _ (by simp;omega) (by simp;omega)];simp) 0 k (Nat.zero_le _) (by omega)
 simpa using key [] [] (by simp) (by simp)
def gofB (n:Int) (L:List ZaC):Int×List Z1:=if Zas n L=true then(n,ZaT L) else(0,[])
theorem ZcM (n:Int) (L:List ZaC) (k:Nat) (hk:2 ^ 64≤k):ZaY.f k n L=some (gofB n L):=by
 unfold ZaY.f gofB Zae.f
 rw[Zi]
 by_cases h:Zas n L=true
 ·rw[if_pos h,if_pos h,Z6.f,pgraph_l n L (by have:=Zb3 h;omega) k hk];rfl
 ·rw[if_neg h,if_neg h]
theorem ZcE (n:Int) (L:List ZaC) (k:Nat) (hk:2 ^ 66≤k):ZaM.f k n L=some (gofB n L):=by
 unfold ZaM.f gofB
 rw[ZbM n L k hk,Zi]
 by_cases h:Zas n L=true
 ·rw[if_pos h,if_pos h,Z0.f,sedges_l L (by have:=Zb3 h;omega) k (by omega)];rfl
 ·rw[if_neg h,if_neg h]
def ncF (n:Int) (E:List Z1):List Int:=if ZaW n E=true then ncB n.toNat E else[]
def consB (n:Int) (L:List ZaC):Bool:=Zas n L && (ncF n (ZaT L)).isEmpty
theorem Zb8 (n:Int) (L:List ZaC) (k:Nat) (hk:2 ^ 64≤k):Zal.f k n L=some (consB n L):=by
 unfold Zal.f consB Zae.f
 rw[Zi]
 by_cases h:Zas n L=true
 ·rw[if_pos h,ZcM n L k hk,Zi,gofB,if_pos h,h,Zat.f,Zi];rfl
 ·rw[if_neg h,Bool.eq_false_iff.2 h];rfl
theorem ZbK (n:Int) (L:List ZaC) (k:Nat) (hk:2 ^ 66≤k):Zar.f k n L=some (consB n L):=by
 unfold Zar.f consB
 rw[ZbM n L k hk,Zi]
 by_cases h:Zas n L=true
 ·rw[if_pos h,ZcE n L k hk,Zi,gofB,if_pos h,h,ZaL.f,Zi,Bool.true_and]
  show some (((ncF n (ZaT L)).length:Int) == 0)=some (ncF n (ZaT L)).isEmpty
  cases ncF n (ZaT L) with
  | nil=>rfl
  | cons x t=>
   have:((((x :: t).length:Nat):Int) == 0)=false:=by rw[beq_eq_false_iff_ne,List.length_cons];omega
   rw[this];rfl
 ·rw[if_neg h,Bool.eq_false_iff.2 h];rfl
theorem Zdc (E:List Z1):∀(n:Nat) (s:BSt),rounds E (n+1) s=(fun u:BSt=>rnd E 0 (u.1,u.2.1,-1)) (rounds E n s)
 | 0,_=>rfl
 | n+1,s=>by show rounds E (n+1) _=_;rw[Zdc E n];rfl
theorem rnd_up:∀(E:List Z1) (i:Nat) (s:BSt),0≤s.2.2→0≤(rnd E i s).2.2
 | [],_,_,h=>h
 | e :: t,i,s,h=>by
  refine rnd_up t (i+1) _ ?_
  unfold relax
  split
  ·simp only;omega
  ·exact h
theorem rnd_same:∀(E:List Z1) (i:Nat) (s:BSt),(rnd E i s).2.2<0→rnd E i s=s∧∀e∈E,¬wrap64 (rd s.1 e.f0+e.f2)<rd s.1 e.f1
 | [],_,_,_=>⟨rfl,fun _ h=>absurd h (by simp)⟩
 | e :: t,i,s,h=>by
  have h0:(rnd t (i+1) (relax s i e)).2.2<0:=h
  by_cases c:wrap64 (rd s.1 e.f0+e.f2)<rd s.1 e.f1
  ·have:relax s i e=(s.1.set e.f1.toNat (wrap64 (rd s.1 e.f0+e.f2)),s.2.1.set e.f1.toNat (i:Int),(i:Int)):=if_pos c
   rw[this] at h0
   have:=rnd_up t (i+1) (s.1.set e.f1.toNat (wrap64 (rd s.1 e.f0+e.f2)),s.2.1.set e.f1.toNat (i:Int),(i:Int)) (by simp only;omega)
   omega
  ·have hr:relax s i e=s:=if_neg c
   rw[hr] at h0
   obtain⟨h1,h2⟩:=rnd_same t (i+1) s h0
   refine⟨by show rnd t (i+1) (relax s i e)=s;rw[hr];exact h1,fun x hx=>?_⟩
   rcases List.mem_cons.1 hx with rfl|hx
   ·exact c
   ·exact h2 x hx
def BndB (d:List Int) (B:Int):Prop:=∀v,-B≤d.getD v 0∧d.getD v 0≤B
theorem BndB.relax {s:BSt} {i:Nat} {e:Z1} {B:Int} (h:BndB s.1 B) (h0:0≤B) (hB:B≤1000000000000) (hw : -1000000≤e.f2∧e.f2≤1000000):BndB (relax s i e).1 (B+1000000):=by
 have hu:=h e.f0.toNat
 have e0:rd s.1 e.f0=s.1.getD e.f0.toNat 0:=rfl
 unfold Pr.relax
 split
 ·intro v
  have hv:=h v
  simp only
  rw[e0,w64_id (by omega) (by omega)]
  by_cases c:e.f1.toNat=v
  ·subst c
   by_cases hl:e.f1.toNat<s.1.length
   ·rw[ZaV hl];omega
   ·rw[List.getD_eq_getElem?_getD,List.getElem?_eq_none (by simp;omega)];simp only[Option.getD_none];omega
  ·rw[getD_set_ne c];omega
 ·intro v;have:=h v;omega
theorem BndB.rnd {E:List Z1} (hw:ZbF E):∀(F:List Z1) (i:Nat) (s:BSt) (B:Int),(∀e∈F,e∈E)→BndB s.1 B→0≤B→B+(F.length:Int) * 1000000≤1000000000000→BndB (rnd F i s).1 (B+(F.length:Int) * 1000000)
 | [],i,s,B,_,h,_,_=>fun v=>by
  have h1 : -B≤(Pr.rnd [] i s).1.getD v 0∧(Pr.rnd [] i s).1.getD v 0≤B:=h v
  rw[List.length_nil];omega
 | e :: t,i,s,B,hm,h,h0,hB=>by
  rw[List.length_cons] at hB ⊢
  have h1:=BndB.relax (i:=i) h h0 (by omega) (hw e (hm e (by simp)))
  have h2:=BndB.rnd hw t (i+1) _ (B+1000000) (fun x hx=>hm x (by simp[hx])) h1 (by omega) (by omega)
  intro v
  have:=h2 v
  show -(B+((t.length+1:Nat):Int) * 1000000)≤(Pr.rnd t (i+1) (Pr.relax s i e)).1.getD v 0∧(Pr.rnd t (i+1) (Pr.relax s i e)).1.getD v 0≤B+((t.length+1:Nat):Int) * 1000000
  omega
theorem BndB.rounds {E:List Z1} (hw:ZbF E) (hl:E.length≤100):∀(n:Nat) (s:BSt) (B:Int),BndB s.1 B→0≤B→B+(n:Int) * 100000000≤1000000000000→BndB (rounds E n s).1 (B+(n:Int) * 100000000)
 | 0,s,B,h,_,_=>fun v=>by
  have h1 : -B≤(Pr.rounds E 0 s).1.getD v 0∧(Pr.rounds E 0 s).1.getD v 0≤B:=h v
  omega
 | n+1,s,B,h,h0,hB=>by
  have h1:=BndB.rnd hw E 0 (s.1,s.2.1,-1) B (fun _ h=>h) h h0 (by omega)
  have h2:BndB (Pr.rnd E 0 (s.1,s.2.1,-1)).1 (B+100000000):=fun v=>by have:=h1 v;omega
  have h3:=BndB.rounds hw hl n _ _ h2 (by omega) (by omega)
  intro v
  have:=h3 v
  show -(B+((n+1:Nat):Int) * 100000000)≤(Pr.rounds E n (Pr.rnd E 0 (s.1,s.2.1,-1))).1.getD v 0∧(Pr.rounds E n (Pr.rnd E 0 (s.1,s.2.1,-1))).1.getD v 0≤B+((n+1:Nat):Int) * 100000000
  omega
theorem nc_pot {E:List Z1} {N:Nat} (hE:Zba E N) (hw:ZbF E) (hl:E.length≤100) (hN:1≤N) (hN2:N≤1000) (h:ncB N E=[]):∃p:Nat→Int,∀e∈E,p e.f1.toNat≤p e.f0.toNat+e.f2:=by
 obtain⟨m,rfl⟩:∃m,N=m+1:=⟨N - 1,by omega⟩
 have hch:(rounds E (m+1) (bst0 (m+1))).2.2=-1:=by
  rcases Zdm hE hN (d:=(rounds E (m+1) (bst0 (m+1))).1) (l:=(rounds E (m+1) (bst0 (m+1))).2.1) (ch:=(rounds E (m+1) (bst0 (m+1))).2.2) rfl with h1|⟨c,v,q,h1,_,_,_,h2,_,_,_,_,_,h3⟩
  ·exact h1.1
  ·rw[h] at h3
   have:=congrArg List.length h3
   rw[List.length_reverse,Zcv,List.length_nil] at this
   omega
 rw[Zdc] at hch
 have hb:=BndB.rounds hw hl m (bst0 (m+1)) 0 (fun v=>by
  unfold bst0
  simp only
  rw[List.getD_eq_getElem?_getD,List.getElem?_replicate]
  split <;> simp) (by omega) (by omega)
 generalize rounds E m (bst0 (m+1))=u at hch hb
 have hs:=rnd_same E 0 (u.1,u.2.1,-1) (by simp only at hch;omega)
 refine⟨fun v=>u.1.getD v 0,fun e he=>?_⟩
 have h1:=hs.2 e he
 have h2:=hb e.f0.toNat
 have h3:=hw e he
 have e0:rd u.1 e.f0=u.1.getD e.f0.toNat 0:=rfl
 have e1:rd u.1 e.f1=u.1.getD e.f1.toNat 0:=rfl
 simp only at h1
 rw[e0,e1,w64_id (by omega) (by omega)] at h1
 simp only
 omega
theorem krelax_len {s:KSt} {e:Z1}:(ZbP s e).1.length=s.1.length:=by unfold ZbP;split <;> simp
theorem Zdi:∀(E:List Z1) (s:KSt),(krnd E s).1.length=s.1.length
 | [],_=>rfl
 | e :: t,s=>by show(krnd t (ZbP s e)).1.length=_;rw[Zdi t,krelax_len]
theorem isf_len {E:List Z1}:∀{m:Nat} {s u:KSt},isf E m s=some u→u.1.length=s.1.length
 | 0,_,_,h=>by cases h
 | m+1,s,u,h=>by
  rw[isf] at h
  try dsimp only at h
  split at h
  ·cases h;exact Zdi E _
  ·rw[isf_len h];exact Zdi E _
theorem sf_ok {E:List Z1} {N:Nat} (hE:Zba E N) (hw:ZbF E) (hl:E.length≤100) (hN:1≤N) (hN2:N≤1000) (h:ncB N E=[]) (a:Nat):∃r,r.length=N∧sfB (N:Int) E (a:Int) N=(r,true)∧sfB (N:Int) E (a:Int) (N+1)=(r,true):=by
 obtain⟨p,hp⟩:=nc_pot hE hw hl hN hN2 h
 have hs:=bf_still (a:=a) hE hw hl hN hN2 p hp
 obtain⟨m,rfl⟩:∃m,N=m+1:=⟨N - 1,by omega⟩
 obtain⟨u,hu⟩:=isf_of m _ hs
 refine⟨finB u,by rw[Zdk,isf_len hu];simp[kst0],?_,?_⟩
 ·unfold sfB;rw[Int.toNat_natCast,Int.toNat_natCast,hu]
 ·unfold sfB;rw[Int.toNat_natCast,Int.toNat_natCast,isf_more hu]
def clB (x:Int):Int:=max (-1000000) (min x 1000000)
theorem pcl_f (x:Int):Zbq.f x=some (clB x):=by
 unfold Zbq.f clB mx mn
 congr 1
 split <;> split <;> omega
theorem scl_f (x:Int):Zbn.f x=some (clB x):=by
 unfold Zbn.f clB
 split
 ·congr 1;omega
 ·split <;> (congr 1;omega)
def ZbT (R:Nat→List Int):Nat→Nat→List Int
 | _,0=>[]
 | i,d+1=>(R i).map clB ++ ZbT R (i+1) d
theorem rowsB_len (R:Nat→List Int) (n:Nat) (h:∀i,(R i).length=n):∀(d i:Nat),(ZbT R i d).length=d * n
 | 0,_=>by simp[ZbT]
 | d+1,i=>by rw[ZbT,List.length_append,List.length_map,h i,rowsB_len R n h d,Nat.succ_mul];omega
theorem pclose_l (n:Nat) (E:List Z1) (R:Nat→List Int) (hn:n≤8) (hR:∀i,(R i).length=n) (hf:∀i,i<n→ZaD.f (n:Int) E (i:Int)=some (R i,true)):∀(d i k:Nat) (acc:List Int),i+d=n→2 ^ 64+d * 100≤k→acc.length≤i * n→ZN.l0 k (i:Int) (n:Int) E (n:Int) acc=some ((n:Int),acc ++ ZbT R i d,true):=by
 intro d
 induction d with
 | zero=>
  intro i k acc hi hk _
  obtain⟨k,rfl⟩:∃m,k=m+1:=⟨k - 1,by omega⟩
  simp only[ZN.l0]
  rw[if_neg (by omega),ZbT,List.append_nil]
 | succ d ih=>
  intro i k acc hi hk ha
  obtain⟨k,rfl⟩:∃m,k=m+1:=⟨k - 1,by omega⟩
  have hin:i * n≤64:=Nat.le_trans (Nat.mul_le_mul (show i≤8 by omega) hn) (by decide)
  have hin2:(i+1) * n=i * n+n:=Nat.succ_mul i n
  simp only[ZN.l0]
  rw[if_pos (by omega),hf i (by omega),Zi,if_pos rfl,ZbT]
  have key:=Zbg n (fun k j=>∀b:List Int,b.length≤i * n+j→ZN.l1 k (i:Int) (R i) ((R i).length:Int) (j:Int) (n:Int) E (n:Int) b=some ((n:Int),b ++ (((R i).drop j).map clB ++ ZbT R (i+1) d),true)) (2 ^ 64+d * 100)
   (fun k hk b hb=>by
    simp only[ZN.l1]
    rw[if_neg (by rw[hR];omega),ZaQ (n:=100) (by omega) (by omega),ih (i+1) k b (by omega) hk (by omega),List.drop_of_length_le (by rw[hR];omega)];rfl)
   (fun k j hk hj ihj b hb=>by
    simp only[ZN.l1]
    rw[if_pos (by rw[hR];omega),if_pos (by omega),if_pos (by rw[hR];omega),pcl_f,Zi,if_pos (by omega),ZaQ hj (by omega),ihj _ (by simp;omega),ZaO (show j<(R i).length by rw[hR];exact hj) 0,Za4]
    simp) 0 k (Nat.zero_le _) (by omega)
  have:=key acc (by omega)
  simpa using this
theorem sclose_l (n:Nat) (E:List Z1) (R:Nat→List Int) (hn:n≤8) (hR:∀i,(R i).length=n) (hf:∀k i,i<n→Za5.f k (n:Int) E (i:Int)=some (R i,true)):∀(d i k:Nat) (acc:List Int),i+d=n→2 ^ 64+d * 100≤k→acc.length≤i * n→ZM.l0 k (i:Int) (n:Int) E (n:Int) acc=some ((n:Int),acc ++ ZbT R i d,true):=by
 intro d
 induction d with
 | zero=>
  intro i k acc hi hk _
  obtain⟨k,rfl⟩:∃m,k=m+1:=⟨k - 1,by omega⟩
  simp only[ZM.l0]
  rw[if_neg (by omega),ZbT,List.append_nil]
 | succ d ih=>
  intro i k acc hi hk ha
  obtain⟨k,rfl⟩:∃m,k=m+1:=⟨k - 1,by omega⟩
  have hin:i * n≤64:=Nat.le_trans (Nat.mul_le_mul (show i≤8 by omega) hn) (by decide)
  have hin2:(i+1) * n=i * n+n:=Nat.succ_mul i n
  simp only[ZM.l0]
  rw[if_pos (by omega),hf k i (by omega),Zi,if_pos rfl,ZbT]
  have key:=Zbg n (fun k j=>∀b:List Int,b.length≤i * n+j→ZM.l1 k (i:Int) (R i) ((R i).length:Int) (j:Int) (n:Int) E (n:Int) b=some ((n:Int),b ++ (((R i).drop j).map clB ++ ZbT R (i+1) d),true)) (2 ^ 64+d * 100)
   (fun k hk b hb=>by
    simp only[ZM.l1]
    rw[if_neg (by rw[hR];omega),ZaQ (n:=100) (by omega) (by omega),ih (i+1) k b (by omega) hk (by omega),List.drop_of_length_le (by rw[hR];omega)];rfl)
   (fun k j hk hj ihj b hb=>by
    simp only[ZM.l1]
    rw[if_pos (by rw[hR];omega),if_pos (by omega),if_pos (by rw[hR];omega),scl_f,Zi,if_pos (by omega),ZaQ hj (by omega),ihj _ (by simp;omega),ZaO (show j<(R i).length by rw[hR];exact hj) 0,Za4]
    simp) 0 k (Nat.zero_le _) (by omega)
  have:=key acc (by omega)
  simpa using this
def tcell (n i:Nat) (x:Int):Bool:=decide (-1000000≤x) && (decide (x≤1000000) && (!(decide (i % (n+1)=0)) || decide (x=0)))
def ZbI (n:Nat):Nat→List Int→Bool
 | _,[]=>true
 | i,x :: t=>tcell n i x && ZbI n (i+1) t
theorem diag {n i:Nat} (h1:1≤n) (h8:n≤8) (hi:i<n * n):(wrap64 (Int.tdiv (i:Int) (n:Int))=Int.tmod (i:Int) (n:Int))↔i % (n+1)=0:=by
 rw[Int.tdiv_eq_ediv_of_nonneg (by omega),Int.tmod_eq_emod_of_nonneg (by omega)]
 have:n=1∨n=2∨n=3∨n=4∨n=5∨n=6∨n=7∨n=8:=by omega
 rcases this with rfl|rfl|rfl|rfl|rfl|rfl|rfl|rfl
 all_goals
  rw[Za8 (by omega) (by omega)]
  omega
theorem ptab_l (n:Nat) (C:List Int) (h8:n≤8) (hC:C.length=n * n) (k:Nat) (hk:2 ^ 64≤k):Z2.l0 k C (C.length:Int) 0 (n:Int) C=some (ZbI n 0 C):=by
 have hb:n * n≤64:=Nat.le_trans (Nat.mul_le_mul h8 h8) (by decide)
 have key:=Zbg C.length (fun k i=>Z2.l0 k C (C.length:Int) (i:Int) (n:Int) C=some (ZbI n i (C.drop i))) 0
  (fun k _=>by
   simp only[Z2.l0]
   rw[if_neg (by omega),List.drop_length];rfl)
  (fun k i _ hi ih=>by
   have hn:1≤n:=by
    rcases Nat.eq_zero_or_pos n with h|h
    ·subst h;omega
    ·exact h
   simp only[Z2.l0]
   rw[if_pos (by omega),if_pos (by omega),if_pos (by omega),if_neg (show ¬(n:Int)=0 by omega),Za4,ZaQ hi (by omega),ih,ZaO hi 0,ZbI,tcell]
   generalize C.getD i 0=x
   by_cases a:x < -1000000
   ·rw[if_pos a,Zf (show ¬-1000000≤x by omega)];rfl
   rw[if_neg a,Ze (show -1000000≤x by omega),Bool.true_and]
   by_cases b:x > 1000000
   ·rw[if_pos b,Zf (show ¬x≤1000000 by omega)];rfl
   rw[if_neg b,Ze (show x≤1000000 by omega),Bool.true_and]
   by_cases c:i % (n+1)=0
   ·rw[if_pos ((diag hn h8 (by omega)).2 c),Ze c]
    by_cases d:x=0
    ·rw[if_pos d,Ze d];rfl
    ·rw[if_neg d,Zf d];rfl
   ·rw[if_neg (fun h=>c ((diag hn h8 (by omega)).1 h)),Zf c];rfl) 0 k (Nat.zero_le _) (by omega)
 simpa using key
theorem stab_l (n:Nat) (C:List Int) (h8:n≤8) (hC:C.length=n * n) (k:Nat) (hk:2 ^ 64≤k):ZX.l0 k C (C.length:Int) 0 (n:Int) C=some (ZbI n 0 C):=by
 have hb:n * n≤64:=Nat.le_trans (Nat.mul_le_mul h8 h8) (by decide)
 have key:=Zbg C.length (fun k i=>ZX.l0 k C (C.length:Int) (i:Int) (n:Int) C=some (ZbI n i (C.drop i))) 0
  (fun k _=>by
   simp only[ZX.l0]
   rw[if_neg (by omega),List.drop_length];rfl)
  (fun k i _ hi ih=>by
   simp only[ZX.l0]
   rw[ZaQ (i:=n) (n:=100) (by omega) (by omega),if_pos (by omega),if_pos (by omega),if_pos (by omega),if_neg (show ¬((n+1:Nat):Int)=0 by omega),Za4,ZaQ hi (by omega),ih,ZaO hi 0,ZbI,tcell,Zcm,Zi,Int.tmod_eq_emod_of_nonneg (by omega)]
   generalize C.getD i 0=x
   by_cases a : -1000000≤x∧x≤1000000
   ·rw[show inR x (-1000000) 1000000=true by unfold inR;simp[a.1,a.2],if_pos rfl,Ze a.1,Ze a.2,Bool.true_and,Bool.true_and]
    by_cases c:i % (n+1)=0
    ·rw[if_pos (by omega),Ze c]
     by_cases d:x=0
     ·rw[if_pos d,Ze d];rfl
     ·rw[if_neg d,Zf d];rfl
    ·rw[if_neg (by omega),Zf c];rfl
   ·rw[show inR x (-1000000) 1000000=false by unfold inR;rw[Bool.eq_false_iff];simp only[ne_eq,Bool.and_eq_true,decide_eq_true_eq];exact a,if_neg (by simp)]
    by_cases b : -1000000≤x
    ·rw[Ze b,Zf (fun h=>a ⟨b,h⟩)];rfl
    ·rw[Zf b];rfl) 0 k (Nat.zero_le _) (by omega)
 simpa using key
theorem nsq {n:Nat} (h8:n≤8):wrap64 ((n:Int) * (n:Int))=((n * n:Nat):Int):=by
 have hb:n * n≤64:=Nat.le_trans (Nat.mul_le_mul h8 h8) (by decide)
 rw[show(n:Int) * (n:Int)=((n * n:Nat):Int) by simp,Za8 (by omega) (by omega)]
theorem ptab_f (n:Nat) (C:List Int) (h8:n≤8) (hC:C.length=n * n) (k:Nat) (hk:2 ^ 65≤k):Z2.f k (n:Int) C=some (ZbI n 0 C):=by
 obtain⟨k,rfl⟩:∃m,k=m+1:=⟨k - 1,by omega⟩
 unfold Z2.f
 rw[if_neg (by omega),if_neg (by omega)]
 simp only[Z2.j0]
 rw[nsq h8,hC,if_neg (by simp),← hC,ptab_l n C h8 hC k (by omega)]
theorem stab_f (n:Nat) (C:List Int) (h8:n≤8) (hC:C.length=n * n) (k:Nat) (hk:2 ^ 65≤k):ZX.f k (n:Int) C=some (ZbI n 0 C):=by
 obtain⟨k,rfl⟩:∃m,k=m+1:=⟨k - 1,by omega⟩
 unfold ZX.f
 rw[Zcm,show inR (n:Int) 0 8=true by unfold inR;simp;omega,Zi,if_pos rfl]
 simp only[ZX.j0]
 rw[nsq h8,hC,if_neg (by simp),← hC,stab_l n C h8 hC k (by omega)]
theorem cellI {n:Nat} {a b:Int} (h8:n≤8) (ha:inN (n:Int) a=true) (hb:inN (n:Int) b=true):0≤wrap64 (wrap64 (a * (n:Int))+b)∧wrap64 (wrap64 (a * (n:Int))+b)<((n * n:Nat):Int):=by
 have h1:=ZcL.1 ha
 have h2:=ZcL.1 hb
 obtain⟨a,rfl⟩:=Int.eq_ofNat_of_zero_le h1.1
 obtain⟨b,rfl⟩:=Int.eq_ofNat_of_zero_le h2.1
 have h3:a * n≤(n - 1) * n:=Nat.mul_le_mul_right n (by omega)
 have h4:(n - 1) * n+n=n * n:=by
  obtain⟨m,rfl⟩:∃m,n=m+1:=⟨n - 1,by omega⟩
  rw[Nat.add_sub_cancel,Nat.succ_mul]
 have hb':n * n≤64:=Nat.le_trans (Nat.mul_le_mul h8 h8) (by decide)
 rw[show(a:Int) * (n:Int)=((a * n:Nat):Int) by simp,Za8 (i:=((a * n:Nat):Int)) (by omega) (by omega),Za8 (by omega) (by omega)]
 omega
theorem window_f (n:Nat) (C:List Int) (h8:n≤8) (hC:C.length=n * n) (a b:Int) (k:Nat) (hk:2 ^ 66≤k):∃r,ZI.f k (n:Int) C a b=some r∧ZH.f k (n:Int) C a b=some r:=by
 obtain⟨m,hm⟩:∃m,k=m+1:=⟨k - 1,by omega⟩
 unfold ZI.f ZH.f
 rw[ptab_f n C h8 hC k (by omega),stab_f n C h8 hC k (by omega),Zi,Zi]
 have hR:∀x:Int,ZJ.f x 0 (wrap64 ((n:Int) - 1))=some (inN (n:Int) x):=fun x=>by
  rw[Zcm,Za8 (by omega) (by omega)];congr 1;unfold inR inN;rw[Bool.eq_iff_iff];simp only[Bool.and_eq_true,decide_eq_true_eq];omega
 rw[hR,hR,inN_f,inN_f]
 simp only[Zi]
 rw[hm]
 simp only[ZI.j0,ZH.j0]
 cases ZbI n 0 C with
 | false=>exact⟨_,rfl,rfl⟩
 | true=>
  rw[if_pos rfl,if_pos rfl]
  cases ha:inN (n:Int) a with
  | false=>exact⟨_,rfl,rfl⟩
  | true=>
   rw[if_pos rfl,if_pos rfl]
   cases hb:inN (n:Int) b with
   | false=>exact⟨_,rfl,rfl⟩
   | true=>
    rw[if_neg (by simp),if_neg (by simp)]
    have h1:=cellI h8 hb ha
    have h2:=cellI h8 ha hb
    unfold ZaR.f ZaF.f Zbm.f
    rw[if_pos h1.1,if_pos (by rw[hC];exact h1.2),if_pos h2.1,if_pos (by rw[hC];exact h2.2)]
    simp only[Zi,if_true,ivOk_f,sivOk_f]
    generalize Zcc _ _=q
    cases q <;> exact⟨_,rfl,rfl⟩
theorem edges_of {n:Int} {L:List ZaC} (h:Zas n L=true):ZaW n (ZaT L)=true:=by
 obtain⟨h1,h8,h40,hl⟩:=Zb3 h
 have hm:∀M:List ZaC,(∀x∈M,Zbh n x=true)→∀e∈ZaT M,Zbi n e=true:=by
  intro M
  induction M with
  | nil=>intro _ e he;cases he
  | cons x t ih=>
   intro hM e he
   rw[ZaT] at he
   rcases List.mem_append.1 he with he|he
   ·have hx:=hM x (by simp)
    unfold Zbh inN Zcc at hx
    simp only[Bool.and_eq_true,Bool.not_eq_true',decide_eq_true_eq,decide_eq_false_iff_not] at hx
    obtain⟨⟨a1,a2⟩,⟨a3,a4⟩,b1,b2,b3,b4,b5⟩:=hx
    unfold ZcN at he
    unfold Zbi inN wgtB
    simp only[Bool.and_eq_true,decide_eq_true_eq]
    rcases List.mem_append.1 he with he|he
    ·split at he
     ·cases he
     ·rw[List.mem_singleton] at he;subst he
      exact⟨⟨a1,a2⟩,⟨a3,a4⟩,by simp only;omega,by simp only;omega⟩
    ·split at he
     ·cases he
     ·rw[List.mem_singleton] at he;subst he
      refine⟨⟨a3,a4⟩,⟨a1,a2⟩,?_⟩
      simp only
      rw[Za8 (by omega) (by omega)];omega
   ·exact ih (fun y hy=>hM y (by simp[hy])) e he
 have hlen:=Zdw L
 unfold ZaW
 rw[Zf (show ¬n<0 by omega),Zf (show ¬8<n by omega),Zf (show ¬80<(ZaT L).length by omega)]
 simp only[Bool.not_false,Bool.true_and,Bool.not_eq_true',List.any_eq_false]
 intro e he
 rw[hm L hl e he];simp
theorem windowOf_f (n:Int) (L:List ZaC) (a:Int) (hc:consB n L=true):∃r,ZaU.f (2 ^ 70) n L a=some r∧ZaZ.f (2 ^ 70) n L a=some r:=by
 have hs:Zas n L=true:=by unfold consB at hc;simp only[Bool.and_eq_true] at hc;exact hc.1
 have hg:=edges_of hs
 obtain⟨g0,g8,g80,gin⟩:=Zci hg
 obtain⟨s1,_,_,_⟩:=Zb3 hs
 obtain⟨n,rfl⟩:=Int.eq_ofNat_of_zero_le g0
 have hnc:ncB n (ZaT L)=[]:=by
  unfold consB ncF at hc
  rw[hs,if_pos hg,Bool.true_and] at hc
  exact List.isEmpty_iff.1 hc
 have hall:=fun a:Nat=>sf_ok (E:=ZaT L) (N:=n) (fun e he=>by have:=gin e he;omega) (fun e he=>by have:=gin e he;omega) (by omega) (by omega) (by omega) hnc a
 have hch:∃R:Nat→List Int,∀i,(R i).length=n∧sfB (n:Int) (ZaT L) (i:Int) n=(R i,true)∧sfB (n:Int) (ZaT L) (i:Int) (n+1)=(R i,true):=⟨fun i=>(hall i).choose,fun i=>(hall i).choose_spec⟩
 obtain⟨R,hR⟩:=hch
 have hin:∀i:Nat,i<n→inN (n:Int) (i:Int)=true:=fun i hi=>ZcL.2 ⟨by omega,by omega⟩
 have hp:=pclose_l n (ZaT L) R (by omega) (fun i=>(hR i).1) (fun i hi=>by
  unfold ZaD.f
  rw[if_pos ⟨hg,hin i hi⟩,Int.toNat_natCast,(hR i).2.2]) n 0 (2 ^ 70) [] (by omega) (by omega) (by simp)
 have hq:=sclose_l n (ZaT L) R (by omega) (fun i=>(hR i).1) (fun k i hi=>by
  unfold Za5.f
  rw[if_pos ⟨hg,hin i hi⟩,Int.toNat_natCast,(hR i).2.1]) n 0 (2 ^ 70) [] (by omega) (by omega) (by simp)
 have hlen:=rowsB_len R n (fun i=>(hR i).1) n 0
 obtain⟨r,hr1,hr2⟩:=window_f n (ZbT R 0 n) (by omega) hlen 0 a (2 ^ 70) (by omega)
 refine⟨r,?_,?_⟩
 ·unfold ZaU.f ZN.f
  rw[ZcM (n:Int) L (2 ^ 70) (by omega),gofB,if_pos hs,Zi]
  simp only[Zbf.f,Zi]
  rw[if_pos hg,show(0:Int)=((0:Nat):Int) from rfl,hp,Zi]
  simp only[List.nil_append,Zae.f,Zi]
  rw[if_pos trivial,if_pos hs]
  rw[show((0:Nat):Int)=0 from rfl,hr1];rfl
 ·unfold ZaZ.f ZM.f
  rw[ZbK (n:Int) L (2 ^ 70) (by omega),hc,Zi,if_pos rfl,ZcE (n:Int) L (2 ^ 70) (by omega),gofB,if_pos hs,Zi]
  rw[Zb9 _ _ (2 ^ 70) (by omega),Zi]
  simp only
  rw[if_pos hg,show(0:Int)=((0:Nat):Int) from rfl,hq,Zi]
  simp only[List.nil_append]
  rw[show((0:Nat):Int)=0 from rfl,hr2];rfl
end Go.Proofs.Ytpoffpdaadhkgaa.Pr
set_option linter.unusedSimpArgs false
namespace Go.Proofs.Ytpoffpdaadhkgaa.Pure
open Go.RowKit Go.Proofs.Ytpoffpdaadhkgaa.Pr Go.Proofs.Ytpoffpdaadhkgaa.Ni Go.Proofs.YtpoffpdaadhkgaaW.PrintWords Go.Proofs.YtpoffpdaadhkgaaW.PrintMore
theorem canExt {n:Int} {L:List ZaC} {tm:List Int} (hl:tm.length≤1048576) (hL:L.length≤1048576):∃r,Zbc.f (2 ^ 70) n L tm=some r∧Zbw.f (2 ^ 70) n L tm=some r:=by
 unfold Zbc.f Zbw.f
 rw[ZbN n L tm hl hL (2 ^ 70) (by omega),Zb6 n L tm hl hL (2 ^ 70) (by omega),Zi,Zi]
 by_cases h:(fixB n L tm).2.2=true
 ·rw[if_pos h,if_pos h,ZbK _ _ (2 ^ 70) (by omega),Zb8 _ _ (2 ^ 70) (by omega)]
  exact⟨_,rfl,rfl⟩
 ·rw[if_neg h,if_neg h];exact⟨_,rfl,rfl⟩
theorem nextT {n:Int} {L:List ZaC} {tm:List Int} (a:Int) (hl:tm.length≤1048576) (hL:L.length≤1048576):∃r,Za0.f (2 ^ 70) n L tm a=some r∧Za3.f (2 ^ 70) n L tm a=some r:=by
 unfold Za0.f Za3.f
 rw[ZbN n L tm hl hL (2 ^ 70) (by omega),Zb6 n L tm hl hL (2 ^ 70) (by omega),Zi,Zi]
 by_cases h:(fixB n L tm).2.2=true
 ·rw[if_pos h,if_pos h,Zb8 _ _ (2 ^ 70) (by omega),Zi]
  cases hc:consB (fixB n L tm).1 (fixB n L tm).2.1 with
  | true=>
   obtain⟨r,h1,h2⟩:=windowOf_f _ _ a hc
   rw[h1,h2,if_pos rfl]
   exact⟨_,rfl,rfl⟩
  | false=>
   unfold ZaZ.f
   rw[ZbK _ _ (2 ^ 70) (by omega),hc,Zi,if_neg (by simp),if_neg (by simp)]
   exact⟨_,rfl,rfl⟩
 ·rw[if_neg h,if_neg h];exact⟨_,rfl,rfl⟩
end Go.Proofs.Ytpoffpdaadhkgaa.Pure
