/- The texts of one claim, put together by a program of this session. -/
import Derived.WalkSpells
import Derived.Deep.LoopGhost
import Derived.StillTailTactics
import Derived.Laws.BitsLemmas
import Derived.Test.YthphnhmabieflabBCoc1x1
import Derived.Test.YthphnhmabieflabBCoc1x2
import Derived.Test.YthphnhmabieflabBCoc1x3
import Derived.Test.YthphnhmabieflabBCoc1x5
import Derived.Test.YthphnhmabieflabBCoc1x6
import Derived.Test.YthphnhmabieflabBCoc1x8
namespace Go.Proofs.Ythphnhmabieflab.Pr
open Go.RowKit Go.Proofs.YthphnhmabieflabW.PrintWords Go.Proofs.YthphnhmabieflabW.PrintLast Go.Proofs.YthphnhmabieflabW.PrintMore
attribute [local go_sem] Zaj Zah Zaq Zap Zab Zaa Zai Zag
set_option linter.unusedVariables false
set_option linter.unusedSimpArgs false
def Zax.f (k:Nat) (a0_0:Int) (l0_1:List (S84)) (l1:List Int) (a2:Int):Option (Int×Int×Bool):=(ZS.f k a0_0 l0_1 l1).bind fun bt25003=>(if bt25003.2.2=true then((Zad.f k bt25003.1 bt25003.2.1).bind fun t25009=>(if t25009=true then((ZaD.f k bt25003.1 bt25003.2.1 a2).bind fun bt25010=>(some (bt25010.1,bt25010.2.1,bt25010.2.2))) else(some (0,0,false)))) else(some (0,0,false)))
set_option maxHeartbeats 8000000 in
set_option maxRecDepth 100000 in
theorem Zax.calls (k:Nat) (a0_0:Int) (A0_1:Option Addr) (c0_1:Nat) (l0_1:List (S84)) (A1:Option Addr) (c1:Nat) (l1:List Int) (a2:Int) (r1:Int) (r2:Int) (r3:Bool) (w:World) (hr0_1:Kd.C k84 w A0_1 l0_1.length l0_1) (hc0_1:l0_1.length≤c0_1) (hr1:Kd.C (Kd.int .i64) w A1 l1.length l1) (hc1:l1.length≤c1) (h:Zax.f k a0_0 l0_1 l1 a2=some (r1,r2,r3)) :
  Calls Try.prog 25 #[.agg #[.int .i64 a0_0,.slice A0_1 l0_1.length c0_1],.slice A1 l1.length c1,.int .i64 a2] w fun e w'=>e=.returned (.tuple #[.agg #[.int .i64 r1,.int .i64 r2],.bool r3])∧Below w.heap.size w w':=by
 have hu31:=Try.underlying31
 have hu35:=Try.underlying35
 have HR0_1:=Za hr0_1;have HC0_1:=Za hc0_1;clear hr0_1 hc0_1;have HR1:=Za hr1;have HC1:=Za hc1;clear hr1 hc1
 have HB:=Za (Below.refl w.heap.size w)
 have H:((ZS.f k a0_0 l0_1 l1).bind fun bt25003=>(if bt25003.2.2=true then((Zad.f k bt25003.1 bt25003.2.1).bind fun t25009=>(if t25009=true then((ZaD.f k bt25003.1 bt25003.2.1 a2).bind fun bt25010=>(some (bt25010.1,bt25010.2.1,bt25010.2.2))) else(some (0,0,false)))) else(some (0,0,false))))=some (r1,r2,r3):=h
 clear h
 replace H:=Zh H
 obtain⟨⟨t25003,t25004,t25007⟩,A40,H⟩:=H
 replace H:(if t25007=true then((Zad.f k t25003 t25004).bind fun t25009=>(if t25009=true then((ZaD.f k t25003 t25004 a2).bind fun bt25010=>(some (bt25010.1,bt25010.2.1,bt25010.2.2))) else(some (0,0,false)))) else(some (0,0,false)))=some (r1,r2,r3):=H
 have A4:=Za A40;clear A40
 by_cases c5:t25007=true
 ·subst c5
  have H1:((Zad.f k t25003 t25004).bind fun t25009=>(if t25009=true then((ZaD.f k t25003 t25004 a2).bind fun bt25010=>(some (bt25010.1,bt25010.2.1,bt25010.2.2))) else(some (0,0,false))))=some (r1,r2,r3):=by rw[if_pos rfl] at H;exact H
  clear H
  have H:=H1
  clear H1
  replace H:=Zh H
  obtain⟨t25009,A60,H⟩:=H
  replace H:(if t25009=true then((ZaD.f k t25003 t25004 a2).bind fun bt25010=>(some (bt25010.1,bt25010.2.1,bt25010.2.2))) else(some (0,0,false)))=some (r1,r2,r3):=H
  have A6:=Za A60;clear A60
  by_cases c7:t25009=true
  ·subst c7
   have H1:((ZaD.f k t25003 t25004 a2).bind fun bt25010=>(some (bt25010.1,bt25010.2.1,bt25010.2.2)))=some (r1,r2,r3):=by rw[if_pos rfl] at H;exact H
   clear H
   have H:=H1
   clear H1
   replace H:=Zh H
   obtain⟨⟨t25010,t25011,t25012⟩,A80,H⟩:=H
   replace H:(some (t25010,t25011,t25012))=some (r1,r2,r3):=H
   have A8:=Za A80;clear A80
   simp only[Option.some.injEq,Prod.mk.injEq] at H
   obtain⟨rfl,rfl,rfl⟩:=H
   go_enter Try.func25,Try.ntmps25
   go_wp2_with (first|((with_reducible refine ZM (N:=3) rfl ?_);refine ZK ?hg (N:=3) ?hd (cs:=#[.int .i64 a0_0,.slice A0_1 l0_1.length c0_1]) (t:=31) ?hr ?_;(case hd=>rfl);(case hg=>rfl);(case hr=>first|(go_simp;done)|(go_simp;rfl));intro gb25001 hg w9 hbox hb;have BK25001:=Za (hbox);have GW25001:=Za ((by rw[hg];exact(Zw (by repeat(first|(with_reducible first|exact HB.out|apply Zq|apply Zm|apply Zs)|exact HB.out))):w.heap.size≤gb25001));have GE25001:=Za ((by rw[hg];exact(Zw (by repeat(first|(with_reducible first|exact HB.out|apply Zq|apply Zm|apply Zs)|exact HB.out))):w.heap.size≤gb25001));replace HB:=Za (Zx (by repeat(first|(with_reducible first|exact HB.out|apply Zq|apply Zm|apply Zs)|exact HB.out)) hb);clear hb hbox hg)|((with_reducible refine ZM (N:=6) rfl ?_);refine ZK ?hg (N:=6) ?hd (cs:=#[.int .i64 0,.int .i64 0]) (t:=35) ?hr ?_;(case hd=>rfl);(case hg=>rfl);(case hr=>first|(go_simp;done)|(go_simp;rfl));intro gb25002 hg w10 hbox hb;have BK25002:=Za (hbox);have GW25002:=Za ((by rw[hg];exact(Zw (by repeat(first|(with_reducible first|exact HB.out|apply Zq|apply Zm|apply Zs|refine Zp ?_ GE25001.out)|exact HB.out))):w.heap.size≤gb25002));have GE25002:=Za ((by rw[hg];exact(Zw (by repeat(first|(with_reducible first|exact HB.out|apply Zq|apply Zm|apply Zs|refine Zp ?_ GE25001.out)|exact HB.out))):w.heap.size≤gb25002));have NB25001_25002:=Za ((by rw[hg];exact Nat.ne_of_lt (ZH (g:=gb25001) (o:=.cells #[.int .i64 a0_0,.slice A0_1 l0_1.length c0_1] 31 (0,0)) (by(with_reducible repeat(first|refine Zo ?_ _|refine Zr ?_|refine Zn ?_ _));exact BK25001.out)):gb25001≠gb25002));have NB25002_25001:=Za ((by rw[hg];exact Nat.ne_of_gt (ZH (g:=gb25001) (o:=.cells #[.int .i64 a0_0,.slice A0_1 l0_1.length c0_1] 31 (0,0)) (by(with_reducible repeat(first|refine Zo ?_ _|refine Zr ?_|refine Zn ?_ _));exact BK25001.out)):gb25002≠gb25001));replace BK25001:=Za (Zy (g:=gb25001) (o:=.cells #[.int .i64 a0_0,.slice A0_1 l0_1.length c0_1] 31 (0,0)) (by(with_reducible repeat(first|refine Zo ?_ _|refine Zr ?_|refine Zn ?_ _));exact BK25001.out) hb);replace HB:=Za (Zx (by repeat(first|(with_reducible first|exact HB.out|apply Zq|apply Zm|apply Zs|refine Zp ?_ GE25001.out)|exact HB.out)) hb);clear hb hbox hg;have hnb11:=NB25001_25002.out;have hnc11:=NB25002_25001.out;have hcz12_0:w10.cell? ⟨gb25001,0,none⟩=some (.int .i64 a0_0):=(Zv BK25001.out 0).trans rfl;have hcz12_1:w10.cell? ⟨gb25001,1,none⟩=some (.slice A0_1 l0_1.length c0_1):=(Zv BK25001.out 1).trans rfl;have hfz12_0:=Zu BK25001.out 0;have hfz12_1:=Zu BK25001.out 1)|((with_reducible refine ZF (f:=18) rfl ?_);refine ZY (some 13) rfl rfl Try.func18 (by kernel_rfl) rfl #[.agg #[.int .i64 a0_0,.slice A0_1 l0_1.length c0_1],.slice A1 l1.length c1] rfl (by(try simp only[List.map_toArray,List.map_cons,List.map_nil]);first|done|rfl|(simp only[Zk,Zj];rfl)) ?_;(with_reducible refine(ZS.calls k a0_0 _ _ l0_1 _ _ l1 t25003 t25004 true _ ?side1 ?side2 ?side3 ?side4 A4.out).mono ?_);(case side1=>repeat(first|exact(Zb HR0_1.out HB.out)|(with_reducible refine Kd.C_alloc ?_ _)|(with_reducible refine Kd.C_drewN ?_ _)|(with_reducible refine Kd.C_drew ?_)));(case side2=>exact HC0_1.out);(case side3=>repeat(first|exact(Zb HR1.out HB.out)|(with_reducible refine Kd.C_alloc ?_ _)|(with_reducible refine Kd.C_drewN ?_ _)|(with_reducible refine Kd.C_drew ?_)));(case side4=>exact HC1.out);rintro e w13 ⟨v25005,rfl,ho0,hb⟩;refine⟨_,rfl,?_⟩;have HO25006:=Za (Kd.R_lower ho0 (Zw (by repeat(first|(with_reducible first|exact HB.out|apply Zq|apply Zm|apply Zs|refine Zp ?_ GE25001.out|refine Zp ?_ GE25002.out)|exact HB.out))));replace BK25001:=Za (Zy (g:=gb25001) (o:=.cells #[.int .i64 a0_0,.slice A0_1 l0_1.length c0_1] 31 (0,0)) (by(with_reducible repeat(first|refine Zo ?_ _|refine Zr ?_|refine Zn ?_ _));exact BK25001.out) hb);replace BK25002:=Za (Zy (g:=gb25002) (o:=.cells #[.int .i64 0,.int .i64 0] 35 (0,0)) (by(with_reducible repeat(first|refine Zo ?_ _|refine Zr ?_|refine Zn ?_ _));exact BK25002.out) hb);replace HB:=Za (Zx (by repeat(first|(with_reducible first|exact HB.out|apply Zq|apply Zm|apply Zs|refine Zp ?_ GE25001.out|refine Zp ?_ GE25002.out)|exact HB.out)) hb);(try clear hb);(try clear hb2);(try clear hk);(try clear hi);(try clear ho0))|((with_reducible refine ZM (N:=8) rfl ?_);refine ZK ?hg (N:=8) ?hd (cs:=#[.int .i64 0,.slice none 0 0]) (t:=31) ?hr ?_;(case hd=>rfl);(case hg=>rfl);(case hr=>first|(go_simp;done)|(go_simp;rfl));intro gb25008 hg w14 hbox hb;have BK25008:=Za (hbox);have GW25008:=Za ((by rw[hg];exact(Zw (by repeat(first|(with_reducible first|exact HB.out|apply Zq|apply Zm|apply Zs|refine Zp ?_ GE25001.out|refine Zp ?_ GE25002.out)|exact HB.out))):w.heap.size≤gb25008));have GE25008:=Za ((by rw[hg];exact(Zw (by repeat(first|(with_reducible first|exact HB.out|apply Zq|apply Zm|apply Zs|refine Zp ?_ GE25001.out|refine Zp ?_ GE25002.out)|exact HB.out))):w.heap.size≤gb25008));have NB25001_25008:=Za ((by rw[hg];exact Nat.ne_of_lt (ZH (g:=gb25001) (o:=.cells #[.int .i64 a0_0,.slice A0_1 l0_1.length c0_1] 31 (0,0)) (by(with_reducible repeat(first|refine Zo ?_ _|refine Zr ?_|refine Zn ?_ _));exact BK25001.out)):gb25001≠gb25008));have NB25008_25001:=Za ((by rw[hg];exact Nat.ne_of_gt (ZH (g:=gb25001) (o:=.cells #[.int .i64 a0_0,.slice A0_1 l0_1.length c0_1] 31 (0,0)) (by(with_reducible repeat(first|refine Zo ?_ _|refine Zr ?_|refine Zn ?_ _));exact BK25001.out)):gb25008≠gb25001));have NB25002_25008:=Za ((by rw[hg];exact Nat.ne_of_lt (ZH (g:=gb25002) (o:=.cells #[.int .i64 0,.int .i64 0] 35 (0,0)) (by(with_reducible repeat(first|refine Zo ?_ _|refine Zr ?_|refine Zn ?_ _));exact BK25002.out)):gb25002≠gb25008));have NB25008_25002:=Za ((by rw[hg];exact Nat.ne_of_gt (ZH (g:=gb25002) (o:=.cells #[.int .i64 0,.int .i64 0] 35 (0,0)) (by(with_reducible repeat(first|refine Zo ?_ _|refine Zr ?_|refine Zn ?_ _));exact BK25002.out)):gb25008≠gb25002));replace HO25006:=Za (Kd.R_below (by(with_reducible repeat(first|apply Kd.R_alloc|apply Kd.R_drewN|apply Kd.R_drew));exact HO25006.out) hb);replace BK25001:=Za (Zy (g:=gb25001) (o:=.cells #[.int .i64 a0_0,.slice A0_1 l0_1.length c0_1] 31 (0,0)) (by(with_reducible repeat(first|refine Zo ?_ _|refine Zr ?_|refine Zn ?_ _));exact BK25001.out) hb);replace BK25002:=Za (Zy (g:=gb25002) (o:=.cells #[.int .i64 0,.int .i64 0] 35 (0,0)) (by(with_reducible repeat(first|refine Zo ?_ _|refine Zr ?_|refine Zn ?_ _));exact BK25002.out) hb);replace HB:=Za (Zx (by repeat(first|(with_reducible first|exact HB.out|apply Zq|apply Zm|apply Zs|refine Zp ?_ GE25001.out|refine Zp ?_ GE25002.out)|exact HB.out)) hb);clear hb hbox hg;have hnb15:=NB25008_25001.out;have hnc15:=NB25001_25008.out;have hnb16:=NB25008_25002.out;have hnc16:=NB25002_25008.out;have hcz17_0:w14.cell? ⟨gb25008,0,none⟩=some (.int .i64 0):=(Zv BK25008.out 0).trans rfl;have hcz17_1:w14.cell? ⟨gb25008,1,none⟩=some (.slice none 0 0):=(Zv BK25008.out 1).trans rfl;have hfz17_0:=Zu BK25008.out 0;have hfz17_1:=Zu BK25008.out 1;obtain⟨Ao18,co18,eo18⟩:=Kd.R_slice HO25006.out;subst eo18)|(go_at_call 16;(with_reducible refine(Zad.calls k t25003 _ _ t25004 true _ ?side1 ?side2 A6.out).mono ?_);(case side1=>refine(Kd.R_reads' (e:=84) (base:=w.heap.size) (ok:=fun k_=>True) (n:=t25004.length) (c:=co18) ?_).2.2;exact(by(with_reducible repeat(first|apply Kd.R_alloc|apply Kd.R_drewN|apply Kd.R_drew));exact(Kd.R_mono (Kd.R_far (p:=⟨gb25008,1,none⟩) (Kd.R_far (p:=⟨gb25008,0,none⟩) (Kd.R_types HO25006.out BK25008.out (by decide)) (fun _ hk=>hk.2) (.int .i64 t25003)) (fun _ hk=>hk.2) (.slice Ao18 t25004.length co18)) (fun _ h_=>h_.1))));(case side2=>exact(Kd.R_reads' HO25006.out).2.1);rintro e w19 ⟨rfl,hb⟩;replace HO25006:=Za (Kd.R_below (by(with_reducible repeat(first|apply Kd.R_alloc|apply Kd.R_drewN|apply Kd.R_drew));exact(Kd.R_mono (Kd.R_far (p:=⟨gb25008,1,none⟩) (Kd.R_far (p:=⟨gb25008,0,none⟩) (Kd.R_types HO25006.out BK25008.out (by decide)) (fun _ hk=>hk.2) (.int .i64 t25003)) (fun _ hk=>hk.2) (.slice Ao18 t25004.length co18)) (fun _ h_=>h_.1))) hb);replace BK25001:=Za (Zy (g:=gb25001) (o:=.cells #[.int .i64 a0_0,.slice A0_1 l0_1.length c0_1] 31 (0,0)) (by(with_reducible repeat(first|refine Zo ?_ _|refine Zr ?_|refine Zn ?_ _));refine ZD ?_ NB25001_25008.out _;(with_reducible repeat(first|refine Zo ?_ _|refine Zr ?_|refine Zn ?_ _));refine ZD ?_ NB25001_25008.out _;(with_reducible repeat(first|refine Zo ?_ _|refine Zr ?_|refine Zn ?_ _));exact BK25001.out) hb);replace BK25002:=Za (Zy (g:=gb25002) (o:=.cells #[.int .i64 0,.int .i64 0] 35 (0,0)) (by(with_reducible repeat(first|refine Zo ?_ _|refine Zr ?_|refine Zn ?_ _));refine ZD ?_ NB25002_25008.out _;(with_reducible repeat(first|refine Zo ?_ _|refine Zr ?_|refine Zn ?_ _));refine ZD ?_ NB25002_25008.out _;(with_reducible repeat(first|refine Zo ?_ _|refine Zr ?_|refine Zn ?_ _));exact BK25002.out) hb);replace BK25008:=Za (Zy (g:=gb25008) (o:=.cells #[.int .i64 t25003,.slice Ao18 t25004.length co18] 31 (0,0)) (by(with_reducible repeat(first|refine Zo ?_ _|refine Zr ?_|refine Zn ?_ _));refine ZL (cs:=#[.int .i64 t25003,.slice none 0 0]) ?_ 1 _ rfl;(with_reducible repeat(first|refine Zo ?_ _|refine Zr ?_|refine Zn ?_ _));refine ZL (cs:=#[.int .i64 0,.slice none 0 0]) ?_ 0 _ rfl;(with_reducible repeat(first|refine Zo ?_ _|refine Zr ?_|refine Zn ?_ _));exact BK25008.out) hb);replace HB:=Za (Zx (by repeat(first|(with_reducible first|exact HB.out|apply Zq|apply Zm|apply Zs|refine Zp ?_ GE25001.out|refine Zp ?_ GE25002.out|refine Zp ?_ GE25008.out)|exact HB.out)) hb);(try clear hb);(try clear hb2);(try clear hk);(try clear hi);have hcz20_0:w19.cell? ⟨gb25008,0,none⟩=some (.int .i64 t25003):=(Zv BK25008.out 0).trans rfl;have hcz20_1:w19.cell? ⟨gb25008,1,none⟩=some (.slice Ao18 t25004.length co18):=(Zv BK25008.out 1).trans rfl;have hfz20_0:=Zu BK25008.out 0;have hfz20_1:=Zu BK25008.out 1)|((with_reducible refine ZF (f:=15) rfl ?_);refine ZY (some 26) rfl rfl Try.func15 (by kernel_rfl) rfl #[.agg #[.int .i64 t25003,.slice Ao18 t25004.length co18],.int .i64 a2] rfl (by(try simp only[List.map_toArray,List.map_cons,List.map_nil]);first|done|rfl|(simp only[Zk,Zj];rfl)) ?_;(with_reducible refine(ZaD.calls k t25003 _ _ t25004 a2 t25010 t25011 t25012 _ ?side1 ?side2 A8.out).mono ?_);(case side1=>repeat(first|exact(Kd.R_reads' HO25006.out).2.2|(with_reducible refine Kd.C_alloc ?_ _)|(with_reducible refine Kd.C_drewN ?_ _)|(with_reducible refine Kd.C_drew ?_)));(case side2=>exact(Kd.R_reads' HO25006.out).2.1);rintro e w21 ⟨rfl,hb⟩;refine⟨_,rfl,?_⟩;replace HO25006:=Za (Kd.R_below (by(with_reducible repeat(first|apply Kd.R_alloc|apply Kd.R_drewN|apply Kd.R_drew));exact HO25006.out) hb);replace BK25001:=Za (Zy (g:=gb25001) (o:=.cells #[.int .i64 a0_0,.slice A0_1 l0_1.length c0_1] 31 (0,0)) (by(with_reducible repeat(first|refine Zo ?_ _|refine Zr ?_|refine Zn ?_ _));exact BK25001.out) hb);replace BK25002:=Za (Zy (g:=gb25002) (o:=.cells #[.int .i64 0,.int .i64 0] 35 (0,0)) (by(with_reducible repeat(first|refine Zo ?_ _|refine Zr ?_|refine Zn ?_ _));exact BK25002.out) hb);replace BK25008:=Za (Zy (g:=gb25008) (o:=.cells #[.int .i64 t25003,.slice Ao18 t25004.length co18] 31 (0,0)) (by(with_reducible repeat(first|refine Zo ?_ _|refine Zr ?_|refine Zn ?_ _));exact BK25008.out) hb);replace HB:=Za (Zx (by repeat(first|(with_reducible first|exact HB.out|apply Zq|apply Zm|apply Zs|refine Zp ?_ GE25001.out|refine Zp ?_ GE25002.out|refine Zp ?_ GE25008.out)|exact HB.out)) hb);(try clear hb);(try clear hb2);(try clear hk);(try clear hi);have hcz22_0:w21.cell? ⟨gb25002,0,none⟩=some (.int .i64 0):=(Zv BK25002.out 0).trans rfl;have hcz22_1:w21.cell? ⟨gb25002,1,none⟩=some (.int .i64 0):=(Zv BK25002.out 1).trans rfl;have hfz22_0:=Zu BK25002.out 0;have hfz22_1:=Zu BK25002.out 1))
   refine bodyPost_ret (Zay rfl _ _ gb25002 35 #[.int .i64 t25010,.int .i64 t25011] (0,0) _ rfl (by(with_reducible repeat(first|refine Zo ?_ _|refine Zr ?_|refine Zn ?_ _));refine ZL (cs:=#[.int .i64 t25010,.int .i64 0]) ?_ 1 _ rfl;(with_reducible repeat(first|refine Zo ?_ _|refine Zr ?_|refine Zn ?_ _));refine ZL (cs:=#[.int .i64 0,.int .i64 0]) ?_ 0 _ rfl;(with_reducible repeat(first|refine Zo ?_ _|refine Zr ?_|refine Zn ?_ _));exact BK25002.out) Try.underlying35 rfl (by kernel_rfl)) rfl ?_
   exact⟨by first|rfl|(simp[ZC,ZB] <;> rfl)|(simp[*,ZC,ZB] <;> rfl),by repeat(first|(with_reducible first|exact HB.out|apply Zq|apply Zm|apply Zs|refine Zp ?_ GE25001.out|refine Zp ?_ GE25002.out|refine Zp ?_ GE25008.out)|exact HB.out)⟩
  ·replace c7:=Bool.eq_false_iff.mpr c7
   subst c7
   have H1:(some (0,0,false))=some (r1,r2,r3):=by rw[if_neg (show ¬(false=true) by decide)] at H;exact H
   clear H
   have H:=H1
   clear H1
   simp only[Option.some.injEq,Prod.mk.injEq] at H
   obtain⟨rfl,rfl,rfl⟩:=H
   go_enter Try.func25,Try.ntmps25
   go_wp2_with (first|((with_reducible refine ZM (N:=3) rfl ?_);refine ZK ?hg (N:=3) ?hd (cs:=#[.int .i64 a0_0,.slice A0_1 l0_1.length c0_1]) (t:=31) ?hr ?_;(case hd=>rfl);(case hg=>rfl);(case hr=>first|(go_simp;done)|(go_simp;rfl));intro gb25001 hg w23 hbox hb;have BK25001:=Za (hbox);have GW25001:=Za ((by rw[hg];exact(Zw (by repeat(first|(with_reducible first|exact HB.out|apply Zq|apply Zm|apply Zs)|exact HB.out))):w.heap.size≤gb25001));have GE25001:=Za ((by rw[hg];exact(Zw (by repeat(first|(with_reducible first|exact HB.out|apply Zq|apply Zm|apply Zs)|exact HB.out))):w.heap.size≤gb25001));replace HB:=Za (Zx (by repeat(first|(with_reducible first|exact HB.out|apply Zq|apply Zm|apply Zs)|exact HB.out)) hb);clear hb hbox hg)|((with_reducible refine ZM (N:=6) rfl ?_);refine ZK ?hg (N:=6) ?hd (cs:=#[.int .i64 0,.int .i64 0]) (t:=35) ?hr ?_;(case hd=>rfl);(case hg=>rfl);(case hr=>first|(go_simp;done)|(go_simp;rfl));intro gb25002 hg w24 hbox hb;have BK25002:=Za (hbox);have GW25002:=Za ((by rw[hg];exact(Zw (by repeat(first|(with_reducible first|exact HB.out|apply Zq|apply Zm|apply Zs|refine Zp ?_ GE25001.out)|exact HB.out))):w.heap.size≤gb25002));have GE25002:=Za ((by rw[hg];exact(Zw (by repeat(first|(with_reducible first|exact HB.out|apply Zq|apply Zm|apply Zs|refine Zp ?_ GE25001.out)|exact HB.out))):w.heap.size≤gb25002));have NB25001_25002:=Za ((by rw[hg];exact Nat.ne_of_lt (ZH (g:=gb25001) (o:=.cells #[.int .i64 a0_0,.slice A0_1 l0_1.length c0_1] 31 (0,0)) (by(with_reducible repeat(first|refine Zo ?_ _|refine Zr ?_|refine Zn ?_ _));exact BK25001.out)):gb25001≠gb25002));have NB25002_25001:=Za ((by rw[hg];exact Nat.ne_of_gt (ZH (g:=gb25001) (o:=.cells #[.int .i64 a0_0,.slice A0_1 l0_1.length c0_1] 31 (0,0)) (by(with_reducible repeat(first|refine Zo ?_ _|refine Zr ?_|refine Zn ?_ _));exact BK25001.out)):gb25002≠gb25001));replace BK25001:=Za (Zy (g:=gb25001) (o:=.cells #[.int .i64 a0_0,.slice A0_1 l0_1.length c0_1] 31 (0,0)) (by(with_reducible repeat(first|refine Zo ?_ _|refine Zr ?_|refine Zn ?_ _));exact BK25001.out) hb);replace HB:=Za (Zx (by repeat(first|(with_reducible first|exact HB.out|apply Zq|apply Zm|apply Zs|refine Zp ?_ GE25001.out)|exact HB.out)) hb);clear hb hbox hg;have hnb25:=NB25001_25002.out;have hnc25:=NB25002_25001.out;have hcz26_0:w24.cell? ⟨gb25001,0,none⟩=some (.int .i64 a0_0):=(Zv BK25001.out 0).trans rfl;have hcz26_1:w24.cell? ⟨gb25001,1,none⟩=some (.slice A0_1 l0_1.length c0_1):=(Zv BK25001.out 1).trans rfl;have hfz26_0:=Zu BK25001.out 0;have hfz26_1:=Zu BK25001.out 1)|((with_reducible refine ZF (f:=18) rfl ?_);refine ZY (some 13) rfl rfl Try.func18 (by kernel_rfl) rfl #[.agg #[.int .i64 a0_0,.slice A0_1 l0_1.length c0_1],.slice A1 l1.length c1] rfl (by(try simp only[List.map_toArray,List.map_cons,List.map_nil]);first|done|rfl|(simp only[Zk,Zj];rfl)) ?_;(with_reducible refine(ZS.calls k a0_0 _ _ l0_1 _ _ l1 t25003 t25004 true _ ?side1 ?side2 ?side3 ?side4 A4.out).mono ?_);(case side1=>repeat(first|exact(Zb HR0_1.out HB.out)|(with_reducible refine Kd.C_alloc ?_ _)|(with_reducible refine Kd.C_drewN ?_ _)|(with_reducible refine Kd.C_drew ?_)));(case side2=>exact HC0_1.out);(case side3=>repeat(first|exact(Zb HR1.out HB.out)|(with_reducible refine Kd.C_alloc ?_ _)|(with_reducible refine Kd.C_drewN ?_ _)|(with_reducible refine Kd.C_drew ?_)));(case side4=>exact HC1.out);rintro e w27 ⟨v25005,rfl,ho0,hb⟩;refine⟨_,rfl,?_⟩;have HO25006:=Za (Kd.R_lower ho0 (Zw (by repeat(first|(with_reducible first|exact HB.out|apply Zq|apply Zm|apply Zs|refine Zp ?_ GE25001.out|refine Zp ?_ GE25002.out)|exact HB.out))));replace BK25001:=Za (Zy (g:=gb25001) (o:=.cells #[.int .i64 a0_0,.slice A0_1 l0_1.length c0_1] 31 (0,0)) (by(with_reducible repeat(first|refine Zo ?_ _|refine Zr ?_|refine Zn ?_ _));exact BK25001.out) hb);replace BK25002:=Za (Zy (g:=gb25002) (o:=.cells #[.int .i64 0,.int .i64 0] 35 (0,0)) (by(with_reducible repeat(first|refine Zo ?_ _|refine Zr ?_|refine Zn ?_ _));exact BK25002.out) hb);replace HB:=Za (Zx (by repeat(first|(with_reducible first|exact HB.out|apply Zq|apply Zm|apply Zs|refine Zp ?_ GE25001.out|refine Zp ?_ GE25002.out)|exact HB.out)) hb);(try clear hb);(try clear hb2);(try clear hk);(try clear hi);(try clear ho0))|((with_reducible refine ZM (N:=8) rfl ?_);refine ZK ?hg (N:=8) ?hd (cs:=#[.int .i64 0,.slice none 0 0]) (t:=31) ?hr ?_;(case hd=>rfl);(case hg=>rfl);(case hr=>first|(go_simp;done)|(go_simp;rfl));intro gb25008 hg w28 hbox hb;have BK25008:=Za (hbox);have GW25008:=Za ((by rw[hg];exact(Zw (by repeat(first|(with_reducible first|exact HB.out|apply Zq|apply Zm|apply Zs|refine Zp ?_ GE25001.out|refine Zp ?_ GE25002.out)|exact HB.out))):w.heap.size≤gb25008));have GE25008:=Za ((by rw[hg];exact(Zw (by repeat(first|(with_reducible first|exact HB.out|apply Zq|apply Zm|apply Zs|refine Zp ?_ GE25001.out|refine Zp ?_ GE25002.out)|exact HB.out))):w.heap.size≤gb25008));have NB25001_25008:=Za ((by rw[hg];exact Nat.ne_of_lt (ZH (g:=gb25001) (o:=.cells #[.int .i64 a0_0,.slice A0_1 l0_1.length c0_1] 31 (0,0)) (by(with_reducible repeat(first|refine Zo ?_ _|refine Zr ?_|refine Zn ?_ _));exact BK25001.out)):gb25001≠gb25008));have NB25008_25001:=Za ((by rw[hg];exact Nat.ne_of_gt (ZH (g:=gb25001) (o:=.cells #[.int .i64 a0_0,.slice A0_1 l0_1.length c0_1] 31 (0,0)) (by(with_reducible repeat(first|refine Zo ?_ _|refine Zr ?_|refine Zn ?_ _));exact BK25001.out)):gb25008≠gb25001));have NB25002_25008:=Za ((by rw[hg];exact Nat.ne_of_lt (ZH (g:=gb25002) (o:=.cells #[.int .i64 0,.int .i64 0] 35 (0,0)) (by(with_reducible repeat(first|refine Zo ?_ _|refine Zr ?_|refine Zn ?_ _));exact BK25002.out)):gb25002≠gb25008));have NB25008_25002:=Za ((by rw[hg];exact Nat.ne_of_gt (ZH (g:=gb25002) (o:=.cells #[.int .i64 0,.int .i64 0] 35 (0,0)) (by(with_reducible repeat(first|refine Zo ?_ _|refine Zr ?_|refine Zn ?_ _));exact BK25002.out)):gb25008≠gb25002));replace HO25006:=Za (Kd.R_below (by(with_reducible repeat(first|apply Kd.R_alloc|apply Kd.R_drewN|apply Kd.R_drew));exact HO25006.out) hb);replace BK25001:=Za (Zy (g:=gb25001) (o:=.cells #[.int .i64 a0_0,.slice A0_1 l0_1.length c0_1] 31 (0,0)) (by(with_reducible repeat(first|refine Zo ?_ _|refine Zr ?_|refine Zn ?_ _));exact BK25001.out) hb);replace BK25002:=Za (Zy (g:=gb25002) (o:=.cells #[.int .i64 0,.int .i64 0] 35 (0,0)) (by(with_reducible repeat(first|refine Zo ?_ _|refine Zr ?_|refine Zn ?_ _));exact BK25002.out) hb);replace HB:=Za (Zx (by repeat(first|(with_reducible first|exact HB.out|apply Zq|apply Zm|apply Zs|refine Zp ?_ GE25001.out|refine Zp ?_ GE25002.out)|exact HB.out)) hb);clear hb hbox hg;have hnb29:=NB25008_25001.out;have hnc29:=NB25001_25008.out;have hnb30:=NB25008_25002.out;have hnc30:=NB25002_25008.out;have hcz31_0:w28.cell? ⟨gb25008,0,none⟩=some (.int .i64 0):=(Zv BK25008.out 0).trans rfl;have hcz31_1:w28.cell? ⟨gb25008,1,none⟩=some (.slice none 0 0):=(Zv BK25008.out 1).trans rfl;have hfz31_0:=Zu BK25008.out 0;have hfz31_1:=Zu BK25008.out 1;obtain⟨Ao32,co32,eo32⟩:=Kd.R_slice HO25006.out;subst eo32)|(go_at_call 16;(with_reducible refine(Zad.calls k t25003 _ _ t25004 false _ ?side1 ?side2 A6.out).mono ?_);(case side1=>refine(Kd.R_reads' (e:=84) (base:=w.heap.size) (ok:=fun k_=>True) (n:=t25004.length) (c:=co32) ?_).2.2;exact(by(with_reducible repeat(first|apply Kd.R_alloc|apply Kd.R_drewN|apply Kd.R_drew));exact(Kd.R_mono (Kd.R_far (p:=⟨gb25008,1,none⟩) (Kd.R_far (p:=⟨gb25008,0,none⟩) (Kd.R_types HO25006.out BK25008.out (by decide)) (fun _ hk=>hk.2) (.int .i64 t25003)) (fun _ hk=>hk.2) (.slice Ao32 t25004.length co32)) (fun _ h_=>h_.1))));(case side2=>exact(Kd.R_reads' HO25006.out).2.1);rintro e w33 ⟨rfl,hb⟩;replace HO25006:=Za (Kd.R_below (by(with_reducible repeat(first|apply Kd.R_alloc|apply Kd.R_drewN|apply Kd.R_drew));exact(Kd.R_mono (Kd.R_far (p:=⟨gb25008,1,none⟩) (Kd.R_far (p:=⟨gb25008,0,none⟩) (Kd.R_types HO25006.out BK25008.out (by decide)) (fun _ hk=>hk.2) (.int .i64 t25003)) (fun _ hk=>hk.2) (.slice Ao32 t25004.length co32)) (fun _ h_=>h_.1))) hb);replace BK25001:=Za (Zy (g:=gb25001) (o:=.cells #[.int .i64 a0_0,.slice A0_1 l0_1.length c0_1] 31 (0,0)) (by(with_reducible repeat(first|refine Zo ?_ _|refine Zr ?_|refine Zn ?_ _));refine ZD ?_ NB25001_25008.out _;(with_reducible repeat(first|refine Zo ?_ _|refine Zr ?_|refine Zn ?_ _));refine ZD ?_ NB25001_25008.out _;(with_reducible repeat(first|refine Zo ?_ _|refine Zr ?_|refine Zn ?_ _));exact BK25001.out) hb);replace BK25002:=Za (Zy (g:=gb25002) (o:=.cells #[.int .i64 0,.int .i64 0] 35 (0,0)) (by(with_reducible repeat(first|refine Zo ?_ _|refine Zr ?_|refine Zn ?_ _));refine ZD ?_ NB25002_25008.out _;(with_reducible repeat(first|refine Zo ?_ _|refine Zr ?_|refine Zn ?_ _));refine ZD ?_ NB25002_25008.out _;(with_reducible repeat(first|refine Zo ?_ _|refine Zr ?_|refine Zn ?_ _));exact BK25002.out) hb);replace BK25008:=Za (Zy (g:=gb25008) (o:=.cells #[.int .i64 t25003,.slice Ao32 t25004.length co32] 31 (0,0)) (by(with_reducible repeat(first|refine Zo ?_ _|refine Zr ?_|refine Zn ?_ _));refine ZL (cs:=#[.int .i64 t25003,.slice none 0 0]) ?_ 1 _ rfl;(with_reducible repeat(first|refine Zo ?_ _|refine Zr ?_|refine Zn ?_ _));refine ZL (cs:=#[.int .i64 0,.slice none 0 0]) ?_ 0 _ rfl;(with_reducible repeat(first|refine Zo ?_ _|refine Zr ?_|refine Zn ?_ _));exact BK25008.out) hb);replace HB:=Za (Zx (by repeat(first|(with_reducible first|exact HB.out|apply Zq|apply Zm|apply Zs|refine Zp ?_ GE25001.out|refine Zp ?_ GE25002.out|refine Zp ?_ GE25008.out)|exact HB.out)) hb);(try clear hb);(try clear hb2);(try clear hk);(try clear hi);have hcz34_0:w33.cell? ⟨gb25002,0,none⟩=some (.int .i64 0):=(Zv BK25002.out 0).trans rfl;have hcz34_1:w33.cell? ⟨gb25002,1,none⟩=some (.int .i64 0):=(Zv BK25002.out 1).trans rfl;have hfz34_0:=Zu BK25002.out 0;have hfz34_1:=Zu BK25002.out 1))
   refine bodyPost_ret (Zay rfl _ _ gb25002 35 #[.int .i64 0,.int .i64 0] (0,0) _ rfl (by(with_reducible repeat(first|refine Zo ?_ _|refine Zr ?_|refine Zn ?_ _));refine ZL (cs:=#[.int .i64 0,.int .i64 0]) ?_ 1 _ rfl;(with_reducible repeat(first|refine Zo ?_ _|refine Zr ?_|refine Zn ?_ _));refine ZL (cs:=#[.int .i64 0,.int .i64 0]) ?_ 0 _ rfl;(with_reducible repeat(first|refine Zo ?_ _|refine Zr ?_|refine Zn ?_ _));exact BK25002.out) Try.underlying35 rfl (by kernel_rfl)) rfl ?_
   exact⟨by first|rfl|(simp[ZC,ZB] <;> rfl)|(simp[*,ZC,ZB] <;> rfl),by repeat(first|(with_reducible first|exact HB.out|apply Zq|apply Zm|apply Zs|refine Zp ?_ GE25001.out|refine Zp ?_ GE25002.out|refine Zp ?_ GE25008.out)|exact HB.out)⟩
 ·replace c5:=Bool.eq_false_iff.mpr c5
  subst c5
  have H1:(some (0,0,false))=some (r1,r2,r3):=by rw[if_neg (show ¬(false=true) by decide)] at H;exact H
  clear H
  have H:=H1
  clear H1
  simp only[Option.some.injEq,Prod.mk.injEq] at H
  obtain⟨rfl,rfl,rfl⟩:=H
  go_enter Try.func25,Try.ntmps25
  go_wp2_with (first|((with_reducible refine ZM (N:=3) rfl ?_);refine ZK ?hg (N:=3) ?hd (cs:=#[.int .i64 a0_0,.slice A0_1 l0_1.length c0_1]) (t:=31) ?hr ?_;(case hd=>rfl);(case hg=>rfl);(case hr=>first|(go_simp;done)|(go_simp;rfl));intro gb25001 hg w35 hbox hb;have BK25001:=Za (hbox);have GW25001:=Za ((by rw[hg];exact(Zw (by repeat(first|(with_reducible first|exact HB.out|apply Zq|apply Zm|apply Zs)|exact HB.out))):w.heap.size≤gb25001));have GE25001:=Za ((by rw[hg];exact(Zw (by repeat(first|(with_reducible first|exact HB.out|apply Zq|apply Zm|apply Zs)|exact HB.out))):w.heap.size≤gb25001));replace HB:=Za (Zx (by repeat(first|(with_reducible first|exact HB.out|apply Zq|apply Zm|apply Zs)|exact HB.out)) hb);clear hb hbox hg)|((with_reducible refine ZM (N:=6) rfl ?_);refine ZK ?hg (N:=6) ?hd (cs:=#[.int .i64 0,.int .i64 0]) (t:=35) ?hr ?_;(case hd=>rfl);(case hg=>rfl);(case hr=>first|(go_simp;done)|(go_simp;rfl));intro gb25002 hg w36 hbox hb;have BK25002:=Za (hbox);have GW25002:=Za ((by rw[hg];exact(Zw (by repeat(first|(with_reducible first|exact HB.out|apply Zq|apply Zm|apply Zs|refine Zp ?_ GE25001.out)|exact HB.out))):w.heap.size≤gb25002));have GE25002:=Za ((by rw[hg];exact(Zw (by repeat(first|(with_reducible first|exact HB.out|apply Zq|apply Zm|apply Zs|refine Zp ?_ GE25001.out)|exact HB.out))):w.heap.size≤gb25002));have NB25001_25002:=Za ((by rw[hg];exact Nat.ne_of_lt (ZH (g:=gb25001) (o:=.cells #[.int .i64 a0_0,.slice A0_1 l0_1.length c0_1] 31 (0,0)) (by(with_reducible repeat(first|refine Zo ?_ _|refine Zr ?_|refine Zn ?_ _));exact BK25001.out)):gb25001≠gb25002));have NB25002_25001:=Za ((by rw[hg];exact Nat.ne_of_gt (ZH (g:=gb25001) (o:=.cells #[.int .i64 a0_0,.slice A0_1 l0_1.length c0_1] 31 (0,0)) (by(with_reducible repeat(first|refine Zo ?_ _|refine Zr ?_|refine Zn ?_ _));exact BK25001.out)):gb25002≠gb25001));replace BK25001:=Za (Zy (g:=gb25001) (o:=.cells #[.int .i64 a0_0,.slice A0_1 l0_1.length c0_1] 31 (0,0)) (by(with_reducible repeat(first|refine Zo ?_ _|refine Zr ?_|refine Zn ?_ _));exact BK25001.out) hb);replace HB:=Za (Zx (by repeat(first|(with_reducible first|exact HB.out|apply Zq|apply Zm|apply Zs|refine Zp ?_ GE25001.out)|exact HB.out)) hb);clear hb hbox hg;have hnb37:=NB25001_25002.out;have hnc37:=NB25002_25001.out;have hcz38_0:w36.cell? ⟨gb25001,0,none⟩=some (.int .i64 a0_0):=(Zv BK25001.out 0).trans rfl;have hcz38_1:w36.cell? ⟨gb25001,1,none⟩=some (.slice A0_1 l0_1.length c0_1):=(Zv BK25001.out 1).trans rfl;have hfz38_0:=Zu BK25001.out 0;have hfz38_1:=Zu BK25001.out 1)|((with_reducible refine ZF (f:=18) rfl ?_);refine ZY (some 13) rfl rfl Try.func18 (by kernel_rfl) rfl #[.agg #[.int .i64 a0_0,.slice A0_1 l0_1.length c0_1],.slice A1 l1.length c1] rfl (by(try simp only[List.map_toArray,List.map_cons,List.map_nil]);first|done|rfl|(simp only[Zk,Zj];rfl)) ?_;(with_reducible refine(ZS.calls k a0_0 _ _ l0_1 _ _ l1 t25003 t25004 false _ ?side1 ?side2 ?side3 ?side4 A4.out).mono ?_);(case side1=>repeat(first|exact(Zb HR0_1.out HB.out)|(with_reducible refine Kd.C_alloc ?_ _)|(with_reducible refine Kd.C_drewN ?_ _)|(with_reducible refine Kd.C_drew ?_)));(case side2=>exact HC0_1.out);(case side3=>repeat(first|exact(Zb HR1.out HB.out)|(with_reducible refine Kd.C_alloc ?_ _)|(with_reducible refine Kd.C_drewN ?_ _)|(with_reducible refine Kd.C_drew ?_)));(case side4=>exact HC1.out);rintro e w39 ⟨v25005,rfl,ho0,hb⟩;refine⟨_,rfl,?_⟩;have HO25006:=Za (Kd.R_lower ho0 (Zw (by repeat(first|(with_reducible first|exact HB.out|apply Zq|apply Zm|apply Zs|refine Zp ?_ GE25001.out|refine Zp ?_ GE25002.out)|exact HB.out))));replace BK25001:=Za (Zy (g:=gb25001) (o:=.cells #[.int .i64 a0_0,.slice A0_1 l0_1.length c0_1] 31 (0,0)) (by(with_reducible repeat(first|refine Zo ?_ _|refine Zr ?_|refine Zn ?_ _));exact BK25001.out) hb);replace BK25002:=Za (Zy (g:=gb25002) (o:=.cells #[.int .i64 0,.int .i64 0] 35 (0,0)) (by(with_reducible repeat(first|refine Zo ?_ _|refine Zr ?_|refine Zn ?_ _));exact BK25002.out) hb);replace HB:=Za (Zx (by repeat(first|(with_reducible first|exact HB.out|apply Zq|apply Zm|apply Zs|refine Zp ?_ GE25001.out|refine Zp ?_ GE25002.out)|exact HB.out)) hb);(try clear hb);(try clear hb2);(try clear hk);(try clear hi);(try clear ho0))|((with_reducible refine ZM (N:=8) rfl ?_);refine ZK ?hg (N:=8) ?hd (cs:=#[.int .i64 0,.slice none 0 0]) (t:=31) ?hr ?_;(case hd=>rfl);(case hg=>rfl);(case hr=>first|(go_simp;done)|(go_simp;rfl));intro gb25008 hg w40 hbox hb;have BK25008:=Za (hbox);have GW25008:=Za ((by rw[hg];exact(Zw (by repeat(first|(with_reducible first|exact HB.out|apply Zq|apply Zm|apply Zs|refine Zp ?_ GE25001.out|refine Zp ?_ GE25002.out)|exact HB.out))):w.heap.size≤gb25008));have GE25008:=Za ((by rw[hg];exact(Zw (by repeat(first|(with_reducible first|exact HB.out|apply Zq|apply Zm|apply Zs|refine Zp ?_ GE25001.out|refine Zp ?_ GE25002.out)|exact HB.out))):w.heap.size≤gb25008));have NB25001_25008:=Za ((by rw[hg];exact Nat.ne_of_lt (ZH (g:=gb25001) (o:=.cells #[.int .i64 a0_0,.slice A0_1 l0_1.length c0_1] 31 (0,0)) (by(with_reducible repeat(first|refine Zo ?_ _|refine Zr ?_|refine Zn ?_ _));exact BK25001.out)):gb25001≠gb25008));have NB25008_25001:=Za ((by rw[hg];exact Nat.ne_of_gt (ZH (g:=gb25001) (o:=.cells #[.int .i64 a0_0,.slice A0_1 l0_1.length c0_1] 31 (0,0)) (by(with_reducible repeat(first|refine Zo ?_ _|refine Zr ?_|refine Zn ?_ _));exact BK25001.out)):gb25008≠gb25001));have NB25002_25008:=Za ((by rw[hg];exact Nat.ne_of_lt (ZH (g:=gb25002) (o:=.cells #[.int .i64 0,.int .i64 0] 35 (0,0)) (by(with_reducible repeat(first|refine Zo ?_ _|refine Zr ?_|refine Zn ?_ _));exact BK25002.out)):gb25002≠gb25008));have NB25008_25002:=Za ((by rw[hg];exact Nat.ne_of_gt (ZH (g:=gb25002) (o:=.cells #[.int .i64 0,.int .i64 0] 35 (0,0)) (by(with_reducible repeat(first|refine Zo ?_ _|refine Zr ?_|refine Zn ?_ _));exact BK25002.out)):gb25008≠gb25002));replace HO25006:=Za (Kd.R_below (by(with_reducible repeat(first|apply Kd.R_alloc|apply Kd.R_drewN|apply Kd.R_drew));exact HO25006.out) hb);replace BK25001:=Za (Zy (g:=gb25001) (o:=.cells #[.int .i64 a0_0,.slice A0_1 l0_1.length c0_1] 31 (0,0)) (by(with_reducible repeat(first|refine Zo ?_ _|refine Zr ?_|refine Zn ?_ _));exact BK25001.out) hb);replace BK25002:=Za (Zy (g:=gb25002) (o:=.cells #[.int .i64 0,.int .i64 0] 35 (0,0)) (by(with_reducible repeat(first|refine Zo ?_ _|refine Zr ?_|refine Zn ?_ _));exact BK25002.out) hb);replace HB:=Za (Zx (by repeat(first|(with_reducible first|exact HB.out|apply Zq|apply Zm|apply Zs|refine Zp ?_ GE25001.out|refine Zp ?_ GE25002.out)|exact HB.out)) hb);clear hb hbox hg;have hnb41:=NB25008_25001.out;have hnc41:=NB25001_25008.out;have hnb42:=NB25008_25002.out;have hnc42:=NB25002_25008.out;have hcz43_0:w40.cell? ⟨gb25008,0,none⟩=some (.int .i64 0):=(Zv BK25008.out 0).trans rfl;have hcz43_1:w40.cell? ⟨gb25008,1,none⟩=some (.slice none 0 0):=(Zv BK25008.out 1).trans rfl;have hfz43_0:=Zu BK25008.out 0;have hfz43_1:=Zu BK25008.out 1;obtain⟨Ao44,co44,eo44⟩:=Kd.R_slice HO25006.out;subst eo44;have hcz45_0:w40.cell? ⟨gb25002,0,none⟩=some (.int .i64 0):=(Zv BK25002.out 0).trans rfl;have hcz45_1:w40.cell? ⟨gb25002,1,none⟩=some (.int .i64 0):=(Zv BK25002.out 1).trans rfl;have hfz45_0:=Zu BK25002.out 0;have hfz45_1:=Zu BK25002.out 1))
  refine bodyPost_ret (Zay rfl _ _ gb25002 35 #[.int .i64 0,.int .i64 0] (0,0) _ rfl (by(with_reducible repeat(first|refine Zo ?_ _|refine Zr ?_|refine Zn ?_ _));refine ZL (cs:=#[.int .i64 0,.int .i64 0]) ?_ 1 _ rfl;(with_reducible repeat(first|refine Zo ?_ _|refine Zr ?_|refine Zn ?_ _));refine ZL (cs:=#[.int .i64 0,.int .i64 0]) ?_ 0 _ rfl;(with_reducible repeat(first|refine Zo ?_ _|refine Zr ?_|refine Zn ?_ _));refine ZD ?_ NB25002_25008.out _;(with_reducible repeat(first|refine Zo ?_ _|refine Zr ?_|refine Zn ?_ _));refine ZD ?_ NB25002_25008.out _;(with_reducible repeat(first|refine Zo ?_ _|refine Zr ?_|refine Zn ?_ _));exact BK25002.out) Try.underlying35 rfl (by kernel_rfl)) rfl ?_
  exact⟨by first|rfl|(simp[ZC,ZB] <;> rfl)|(simp[*,ZC,ZB] <;> rfl),by repeat(first|(with_reducible first|exact HB.out|apply Zq|apply Zm|apply Zs|refine Zp ?_ GE25001.out|refine Zp ?_ GE25002.out|refine Zp ?_ GE25008.out)|exact HB.out)⟩
def ZaW.f (l0:List Int):Option (List Int):=if l0.length<17592186044416 then some l0 else none
set_option maxHeartbeats 4000000 in
set_option maxRecDepth 100000 in
theorem ZaW.calls (A0:Option Addr) (c0:Nat) (l0:List Int) (r:List Int) (w:World) (hr0:Kd.C (Kd.int .i64) w A0 l0.length l0) (hc0:l0.length≤c0) (h:ZaW.f l0=some r) :
  Calls Try.prog 56 #[.slice A0 l0.length c0] w fun e w'=>∃v0_:Value,e=.returned (v0_)∧Kd.R (Kd.int .i64) 3 w' w.heap.size (fun _=>True) v0_ r∧Below w.heap.size w w':=by
 unfold ZaW.f at h
 by_cases hl:l0.length<17592186044416
 case neg=>rw[if_neg hl] at h;exact absurd h (by simp)
 rw[if_pos hl] at h
 obtain rfl:=Zg h
 have HR0:=Za hr0;have HLM:=Za hl
 have hsn:=fun (W:World) (A:Option Addr) (n c:Nat)=>Lib.run_eql_slice_nil (P:=Try.prog) W 22 3 A n c 0 0 Try.underlying22
 clear hr0 hc0 hl h
 cases A0 with
 | none=>
  have hn:l0=[]:=by
   cases l0 with
   | nil=>rfl
   | cons a l=>
    obtain⟨ad,he,_⟩:=HR0.out.2.2 (by simp)
    cases he
  have HN:=Za hn;clear hn
  generalize hq:l0.length=n
  clear hq
  go_enter Try.func56,Try.ntmps56
  go_wp2
  go_ret
  exact⟨_,rfl,by rw[HN.out];exact Kd.R_nil _ _ _ _ _,Below.refl _ _⟩
 | some A0=>
  go_enter Try.func56,Try.ntmps56
  go_wp2_with (first|((with_reducible refine ZM (N:=5) rfl ?_);refine Kd.R_lit (Kd.int .i64) _ 3 ?hg (N:=5) ?hd (xs:=([]:List Int)) (inner:=[]) (ok:=fun _=>True) (okp:=fun _=>True) ?hr ?hp (fun _ hk=>hk) trivial (Below.refl _ _) (Nat.le_refl _) (by simp) ?_;(case hd=>rfl);(case hg=>rfl);(case hr=>first|(go_simp;done)|(go_simp;rfl));(case hp=>exact(Reps.none _ _));intro v1 w3 ho hb _ _;have HO:=Za ho;have HB:=Za hb;clear ho hb)|((with_reducible refine ZaG (b:=.append) (xs:=#[.tmp 5,.tmp 6]) rfl ?_);at_builtin;refine Kd.R_append_row (Value.int .i64) 0 (w0:=w) w.heap.size rfl (.tmp 5) (.tmp 6) 22 3 (.int .i64 0) 8 rfl Try.underlying22 Zbg rfl (by decide) v1 [] l0 _ _ _ (fun _=>True) rfl rfl (fun _ _=>trivial) HO.out (Zb HR0.out HB.out) HB.out HB.out.size ?aL ?_;(case aL=>have:=HLM.out;simp only[List.length_nil];omega);intro v2 w5 ho hb hg hat;have HO2:=Za ho;have HB2:=Za hb;clear ho hb hg hat))
  go_ret
  exact⟨_,rfl,HO2.out,HB2.out⟩
end Go.Proofs.Ythphnhmabieflab.Pr
namespace Go.Proofs.Ythphnhmabieflab.Pr
open Go.RowKit Go.Proofs.YthphnhmabieflabW.PrintWords Go.Proofs.YthphnhmabieflabW.PrintLast Go.Proofs.YthphnhmabieflabW.PrintMore
attribute [local go_sem] Zaj Zah Zaq Zap Zab Zaa Zai Zag
set_option linter.unusedVariables false
set_option linter.unusedSimpArgs false
open Go.Proofs.Ythphnhmabieflab.Ni
def ZaQ.f (k:Nat) (a0_0:Int) (l0_1:List (S84)) (l1:List Int):Option (List Int×Bool):=if l1.length≤1048576 then(ZaK.f k a0_0 l0_1 l1).bind fun b=>if b=true then(if 0<l1.length then Zbd (Zax.f k a0_0 l0_1) (cfin (ZS.f k a0_0 l0_1)) l1.length 0 l1 else none) else some ([],false) else none
set_option maxHeartbeats 8000000 in
set_option maxRecDepth 100000 in
theorem ZaQ.calls (k:Nat) (a0_0:Int) (A0_1:Option Addr) (c0_1:Nat) (l0_1:List (S84)) (A1:Option Addr) (c1:Nat) (l1:List Int) (r1:List Int) (r2:Bool) (w:World) (hr0_1:Kd.C k84 w A0_1 l0_1.length l0_1) (hc0_1:l0_1.length≤c0_1) (hr1:Kd.C (Kd.int .i64) w A1 l1.length l1) (hc1:l1.length≤c1) (h:ZaQ.f k a0_0 l0_1 l1=some (r1,r2)) :
  Calls Try.prog 23 #[.agg #[.int .i64 a0_0,.slice A0_1 l0_1.length c0_1],.slice A1 l1.length c1] w fun e w'=>∃v0_:Value,e=.returned (.tuple #[v0_,.bool r2])∧Kd.R (Kd.int .i64) 3 w' w.heap.size (fun _=>True) v0_ r1∧Below w.heap.size w w':=by
 unfold ZaQ.f at h
 by_cases hl:l1.length≤1048576
 case neg=>rw[if_neg hl] at h;exact absurd h (by simp)
 rw[if_pos hl] at h
 obtain⟨b,hb_,h⟩:=Option.bind_eq_some_iff.1 h
 have HCE:=Za fun (W:World) (hb:Below w.heap.size w W)=>ZaK.calls k a0_0 A0_1 c0_1 l0_1 A1 c1 l1 b W (Zb hr0_1 hb) hc0_1 (Zb hr1 hb) hc1 hb_
 have B1:=Za (Zq (Below.refl w.heap.size w) (.cells #[.int .i64 a0_0,.slice A0_1 l0_1.length c0_1] 31))
 have K0:=Za (show(w.alloc (.cells #[.int .i64 a0_0,.slice A0_1 l0_1.length c0_1] 31)).cell? ⟨w.heap.size,0,none⟩=some (.int .i64 a0_0) by go_simp)
 have K1:=Za (show(w.alloc (.cells #[.int .i64 a0_0,.slice A0_1 l0_1.length c0_1] 31)).cell? ⟨w.heap.size,1,none⟩=some (.slice A0_1 l0_1.length c0_1) by go_simp)
 have hu:=Try.underlying31
 have hui:=Try.underlying35
 cases b with
 | false=>
  rw[if_neg (by simp)] at h
  obtain⟨e1,e2⟩:=Prod.mk.inj (Zg h)
  subst e1;subst e2;clear hr0_1 hc0_1 hr1 hc1 hb_ h hl
  go_enter Try.func23,Try.ntmps23
  go_wp2_with (go_at_call 19;refine(HCE.out _ B1.out).mono ?_;rintro e w1 ⟨rfl,hb⟩)
  go_ret2
  exact⟨_,rfl,Kd.R_nil _ _ _ _ _,B1.out.trans (hb.mono B1.out.size)⟩
 | true=>
 rw[if_pos rfl] at h
 by_cases hp:0<l1.length
 case neg=>rw[if_neg hp] at h;exact absurd h (by simp)
 rw[if_pos hp] at h
 replace hl:=And.intro hp hl
 clear hp
 obtain⟨m,hm⟩:∃m,m=l1.length:=⟨_,rfl⟩
 rw[← hm] at h hl HCE ⊢
 have HM:=Za hm;have H:=Za h;have HR1:=Za hr1;have HC1:=Za hc1
 have HNX:=Za fun (tm:List Int) (g cap:Nat) (W:World) (i:Int) (q1 q2:Int) (q3:Bool) (hb:Below w.heap.size w W) (hI:IR W (w.heap.size+1) g m cap tm) (hn:Zax.f k a0_0 l0_1 tm i=some (q1,q2,q3))=>
  (show Calls Try.prog 25 #[.agg #[.int .i64 a0_0,.slice A0_1 l0_1.length c0_1],.slice (some ⟨g,0,none⟩) m cap,.int .i64 i] W fun e w'=>e=.returned (.tuple #[.agg #[.int .i64 q1,.int .i64 q2],.bool q3])∧Below W.heap.size W w' by
   obtain⟨e1,e2,e3⟩:=hI.reads
   rw[e1] at e2 ⊢
   exact Zax.calls k a0_0 A0_1 c0_1 l0_1 (some ⟨g,0,none⟩) cap tm i q1 q2 q3 W (Zb hr0_1 hb) hc0_1 e3 e2 hn)
 have HFX:=Za fun (tm:List Int) (g cap:Nat) (W:World) (q1:Int) (q2:List S84) (q3:Bool) (hb:Below w.heap.size w W) (hI:IR W (w.heap.size+1) g m cap tm) (hn:ZS.f k a0_0 l0_1 tm=some (q1,q2,q3))=>
  (show Calls Try.prog 18 #[.agg #[.int .i64 a0_0,.slice A0_1 l0_1.length c0_1],.slice (some ⟨g,0,none⟩) m cap] W fun e w'=>∃v1_:Value,e=.returned (.tuple #[.agg #[.int .i64 q1,v1_],.bool q3])∧Kd.R k84 84 w' W.heap.size (fun _=>True) v1_ q2∧Below W.heap.size W w' by
   obtain⟨e1,e2,e3⟩:=hI.reads
   rw[e1] at e2 ⊢
   exact ZS.calls k a0_0 A0_1 c0_1 l0_1 (some ⟨g,0,none⟩) cap tm q1 q2 q3 W (Zb hr0_1 hb) hc0_1 e3 e2 hn)
 obtain⟨hl1,hl2⟩:=hl
 have HCL:=Za fun (W:World) (hb:Below w.heap.size w W)=>
  (show Calls Try.prog 56 #[.slice A1 m c1] W fun e w'=>∃v0_:Value,e=.returned v0_∧Kd.R (Kd.int .i64) 3 w' W.heap.size (fun _=>True) v0_ l1∧Below W.heap.size W w' by
   rw[hm]
   exact ZaW.calls A1 c1 l1 l1 W (Zb hr1 hb) hc1 (by unfold ZaW.f;rw[if_pos (by omega)]))
 clear hr0_1 hc0_1 hr1 hc1 hb_ h hm
 go_enter Try.func23,Try.ntmps23
 go_wp2_with (first|(go_at_call 19;refine(HCE.out _ B1.out).mono ?_;rintro e w1 ⟨rfl,hb⟩;have hk0:=Z2 hb K0.out;have hk1:=Z2 hb K1.out;have hlt:=Zc _ _ hk0;have HB:=Za (B1.out.trans (hb.mono B1.out.size));clear hb)|(go_at_call 56;refine(HCL.out _ HB.out).mono ?_;rintro e w3 ⟨v3,rfl,ho,hb⟩;replace hk0:=Z2 hb hk0;replace hk1:=Z2 hb hk1;have HO:=Za (Kd.R_lower ho hlt);replace HB:=Za (HB.out.trans (hb.mono HB.out.size));clear hlt;have hlt:=Zc _ _ hk0;clear ho hb;obtain⟨A3,c3,e3⟩:=Kd.R_slice HO.out;rw[← HM.out] at e3;subst e3))
 obtain⟨g,cap,e1,_⟩:=Kd.R_form HO.out (by have:=HM.out;omega)
 rw[← HM.out] at e1
 injection e1 with f1 f2 f3
 subst f1;subst c3
 have HI:=Za (IR.of HO.out)
 have HCC:=Za (And.intro hk0 hk1)
 clear HO hk0 hk1 hlt
 go_wp2
 go_loopg [7,21] m (fun gg _ s21 wr=>∃(i:Nat) (tm:List Int),s21=.int .i64 (i:Int)∧Aside0 (i≤m)∧Aside0 (m - i≤gg)∧Aside0 (Zbd (Zax.f k a0_0 l0_1) (cfin (ZS.f k a0_0 l0_1)) (m - i) i tm=some (r1,r2))∧Aside0 (IR wr (w.heap.size+1) g m cap tm)∧Aside0 (Below w.heap.size w wr)∧Aside0 (wr.cell? ⟨w.heap.size,0,none⟩=some (.int .i64 a0_0)∧wr.cell? ⟨w.heap.size,1,none⟩=some (.slice A0_1 l0_1.length c0_1)))
 case atStart=>exact⟨0,l1,rfl,⟨Nat.zero_le _⟩,⟨by omega⟩,H,HI,HB,HCC⟩
 case round=>
  obtain⟨i,tm,rfl,HK,HG,HE,HR,HBr,HCr⟩:=hrel
  obtain⟨hk0,hk1⟩:=HCr.out
  have hlt:=Zc _ _ hk0
  have hgl:=HR.out.lt
  have hgb:=HR.out.base
  by_cases him:i<m
  ·have hiz:(i:Int)<(m:Int):=by omega
   have h0i:(0:Int)≤(i:Int):=by omega
   obtain⟨xi,zi⟩:=HR.out.cell h0i hiz
   rw[Za3,Int.toNat_natCast] at xi
   rw[Int.toNat_natCast] at zi
   have HQ:=HE.out
   rw[show m - i=(m - (i+1))+1 by omega,Zbd] at HQ
   generalize hx:tm.getD i 0=x at xi HQ
   by_cases hx1:x=-1
   case neg=>
    have hxb:(x != -1)=true:=by simpa using hx1
    rw[if_neg hx1] at HQ
    have HQ2:=Za HQ;clear HQ hx hx1
    go_wp2
    go_roundg (m - (i+1))
    case measure=>have:=HG.out;omega
    case rel=>exact⟨i+1,tm,by go_num,⟨by omega⟩,⟨by omega⟩,HQ2,HR,HBr,HCr⟩
   have hxb:(x != -1)=false:=by simpa using hx1
   rw[if_pos hx1] at HQ
   obtain⟨⟨q1,q2,q3⟩,hN,hrest⟩:=Option.bind_eq_some_iff.1 HQ
   dsimp only at hrest
   have HN:=Za (HNX.out tm g cap wr (i:Int) q1 q2 q3 HBr.out HR.out hN)
   clear HQ hx hN;subst hx1
   cases q3 with
   | false=>
    rw[if_neg (by simp)] at hrest
    obtain⟨e1,e2⟩:=Prod.mk.inj (Zg hrest)
    subst e1;subst e2;clear hrest
    go_wp2_with (go_at_call 25;refine HN.out.mono ?_;rintro e w2 ⟨rfl,hb⟩)
    go_ret2
    exact⟨_,rfl,Kd.R_nil _ _ _ _ _,by have hq:=HBr.out.trans (hb.mono HBr.out.size);repeat(first|exact hq|apply Zq|apply Zm|apply ZaN)⟩
   | true=>
   rw[if_pos rfl] at hrest
   cases ht:tmB q1 with
   | false=>
    rw[ht,if_neg (by simp)] at hrest
    obtain⟨e1,e2⟩:=Prod.mk.inj (Zg hrest)
    subst e1;subst e2;clear hrest
    go_wp2_with (first|(go_at_call 25;refine HN.out.mono ?_;rintro e w2 ⟨rfl,hb⟩)|(go_at_call 57;refine(isTime_q _ _).mono ?_;rintro e w4 ⟨rfl,nd,rfl⟩))
    go_ret2
    exact⟨_,rfl,Kd.R_nil _ _ _ _ _,by have hq:=HBr.out.trans (hb.mono HBr.out.size);repeat(first|exact hq|apply Zq|apply Zm|apply ZaN)⟩
   | true=>
    rw[ht,if_pos rfl] at hrest
    have HQ2:=Za hrest;clear hrest
    go_wp2_with (first|(go_at_call 25;refine HN.out.mono ?_;rintro e w2 ⟨rfl,hb⟩;have HB2:=Za (HBr.out.trans (hb.mono HBr.out.size));have HR2:=Za (HR.out.low hb);have HC2:=Za (And.intro (Z2 hb hk0) (Z2 hb hk1));obtain⟨xi2,zi2⟩:=HR2.out.cell h0i hiz;rw[Int.toNat_natCast] at xi2 zi2;have hgl2:=HR2.out.lt;have hlt2:=Zc _ _ HC2.out.1;clear hb xi zi)|(go_at_call 57;refine(isTime_q _ _).mono ?_;rintro e w4 ⟨rfl,nd,rfl⟩))
    go_roundg (m - (i+1))
    case measure=>have:=HG.out;omega
    case rel=>
     refine⟨i+1,tm.set i q1,by go_num,⟨by omega⟩,⟨by omega⟩,HQ2,⟨?_⟩,⟨?_⟩,⟨?_,?_⟩⟩
     ·first|(have h9:=((HR2.out.low (Zq (Below.refl w2.heap.size w2) (.cells #[.int .i64 q1,.int .i64 q2] 35))).low (Zm (Below.refl _ _) nd)).put (i:Int) q1;rw[Int.toNat_natCast] at h9;exact h9)
     ·first|(have h9:=(Zm (Zq HB2.out (.cells #[.int .i64 q1,.int .i64 q2] 35)) nd).setCell (p:=⟨g,i,none⟩) (by dsimp only;omega) (.int .i64 q1);exact h9)
     ·exact(ZaE (by dsimp only;omega) _).trans (Z2 (Zm (Zq (Below.refl w2.heap.size w2) (.cells #[.int .i64 q1,.int .i64 q2] 35)) nd) HC2.out.1)
     ·exact(ZaE (by dsimp only;omega) _).trans (Z2 (Zm (Zq (Below.refl w2.heap.size w2) (.cells #[.int .i64 q1,.int .i64 q2] 35)) nd) HC2.out.2)
  ·have hiz:¬(i:Int)<(m:Int):=by omega
   obtain rfl:m=i:=by have:=HK.out;omega
   have HQ:=HE.out
   rw[Nat.sub_self,Zbd,cfin] at HQ
   obtain⟨⟨q1,q2,q3⟩,hF,hrest⟩:=Option.bind_eq_some_iff.1 HQ
   dsimp only at hrest
   have HF:=Za (HFX.out tm g cap wr q1 q2 q3 HBr.out HR.out hF)
   clear HQ hF
   cases q3 with
   | false=>
    rw[if_neg (by simp)] at hrest
    obtain⟨e1,e2⟩:=Prod.mk.inj (Zg hrest)
    subst e1;subst e2;clear hrest
    go_wp2_with (go_at_call 18;refine HF.out.mono ?_;rintro e w2 ⟨v2,rfl,hr,hb⟩;obtain⟨A2,c2,rfl⟩:=Kd.R_slice hr;clear hr)
    go_ret2
    exact⟨_,rfl,Kd.R_nil _ _ _ _ _,by have hq:=HBr.out.trans (hb.mono HBr.out.size);repeat(first|exact hq|apply Zq|apply Zm|apply ZaN)⟩
   | true=>
    rw[if_pos rfl] at hrest
    obtain⟨e1,e2⟩:=Prod.mk.inj (Zg hrest)
    subst e2;have HE1:=Za e1;clear hrest e1
    go_wp2_with (go_at_call 18;refine HF.out.mono ?_;rintro e w2 ⟨v2,rfl,hr,hb⟩;obtain⟨A2,c2,rfl⟩:=Kd.R_slice hr;clear hr)
    go_ret2
    refine⟨_,rfl,?_,by have hq:=HBr.out.trans (hb.mono HBr.out.size);repeat(first|exact hq|apply Zq|apply Zm|apply ZaN)⟩
    rw[← HE1.out]
    repeat(first|exact Kd.R_mono (Kd.R_lower (HR.out.low hb) (Nat.le_succ _)) (fun _ _=>trivial)|apply Kd.R_alloc|apply Kd.R_drewN|apply Kd.R_drew)
end Go.Proofs.Ythphnhmabieflab.Pr
namespace Go.Proofs.Ythphnhmabieflab.Pr
open Go.RowKit Go.Proofs.YthphnhmabieflabW.PrintWords Go.Proofs.YthphnhmabieflabW.PrintLast Go.Proofs.YthphnhmabieflabW.PrintMore
attribute [local go_sem] Zaj Zah Zaq Zap Zab Zaa Zai Zag
set_option linter.unusedVariables false
set_option linter.unusedSimpArgs false
def Zbe.f (a0:Int):Option (Bool):=if a0<(-1000000) then(some true) else(some (decide (a0 > 1000000)))
set_option maxHeartbeats 8000000 in
set_option maxRecDepth 100000 in
theorem Zbe.calls (a0:Int) (r:Bool) (w:World) (h:Zbe.f a0=some r) :
  Calls Try.prog 92 #[.int .i64 a0] w fun e w'=>e=.returned (.bool r)∧Zam w w':=by
 have H:(if a0<(-1000000) then(some true) else(some (decide (a0 > 1000000))))=some r:=h
 clear h
 by_cases c2:a0<(-1000000)
 ·rw[if_pos c2] at H
  have c2b0:decide (a0<(-1000000))=true:=Ze c2
  clear c2
  obtain rfl:=Zg H
  go_enter Try.func92,Try.ntmps92
  go_wp2
  go_ret
  exact⟨by first|rfl|(simp;done)|(simp[*];done),by repeat(first|exact Zam.refl _|apply Zam.step)⟩
 ·rw[if_neg c2] at H
  have c2b0:decide (a0<(-1000000))=false:=Zf c2
  clear c2
  obtain rfl:=Zg H
  go_enter Try.func92,Try.ntmps92
  go_wp2
  go_ret
  exact⟨by first|rfl|(simp;done)|(simp[*];done),by repeat(first|exact Zam.refl _|apply Zam.step)⟩
end Go.Proofs.Ythphnhmabieflab.Pr
namespace Go.Proofs.Ythphnhmabieflab.Pr
open Go.RowKit Go.Proofs.YthphnhmabieflabW.PrintWords Go.Proofs.YthphnhmabieflabW.PrintLast Go.Proofs.YthphnhmabieflabW.PrintMore
attribute [local go_sem] Zaj Zah Zaq Zap Zab Zaa Zai Zag
set_option linter.unusedVariables false
set_option linter.unusedSimpArgs false
open Go.Proofs.Ythphnhmabieflab.Ni
def dayB (x:Int):Bool:=decide (-1000000≤x) && decide (x≤1000000)
def daysB (n:Int) (L:List S84) (tm:List Int):Bool:=Zac n L && (decide ((tm.length:Int)=n) && !(tm.any fun x=>!dayB x))
def ZaJ.f (a0_0:Int) (l0_1:List (S84)) (l1:List Int):Option Bool:=some (daysB a0_0 l0_1 l1)
theorem ZaJ.t (x:Int):Zbe.f x=some (!dayB x):=by
 unfold Zbe.f dayB
 by_cases h1:x < -1000000
 ·simp[h1] <;> omega
 ·by_cases h2:x > 1000000
  ·simp[h1,h2] <;> omega
  ·simp[h1,h2] <;> omega
set_option maxHeartbeats 4000000 in
set_option maxRecDepth 100000 in
theorem ZaJ.calls (a0_0:Int) (A0_1:Option Addr) (c0_1:Nat) (l0_1:List (S84)) (A1:Option Addr) (c1:Nat) (l1:List Int) (r:Bool) (w:World) (hr0_1:Kd.C k84 w A0_1 l0_1.length l0_1) (hc0_1:l0_1.length≤c0_1) (hr1:Kd.C (Kd.int .i64) w A1 l1.length l1) (hc1:l1.length≤c1) (h:ZaJ.f a0_0 l0_1 l1=some r) :
  Calls Try.prog 60 #[.agg #[.int .i64 a0_0,.slice A0_1 l0_1.length c0_1],.slice A1 l1.length c1] w fun e w'=>e=.returned (.bool r)∧Below w.heap.size w w':=by
 have h':=Zg h
 have HN:=Za h'
 have HS:=Za fun (W:World) (hb:Below w.heap.size w W)=>Z8.calls a0_0 A0_1 c0_1 l0_1 _ W (Zb hr0_1 hb) hc0_1 rfl
 have B1:=Za (Zq (Below.refl w.heap.size w) (.cells #[.int .i64 a0_0,.slice A0_1 l0_1.length c0_1] 31))
 have K0:=Za (show(w.alloc (.cells #[.int .i64 a0_0,.slice A0_1 l0_1.length c0_1] 31)).cell? ⟨w.heap.size,0,none⟩=some (.int .i64 a0_0) by go_simp)
 have HC:=Za fun (W:World) (hb:Below w.heap.size w W)=>(Zbn.any (fun x=>!dayB x) 92 #[] (enters_of Try.func92 (by kernel_rfl) rfl) A1 c1 l1 W (Zb hr1 hb)
  (fun W' x _ _=>(Zbe.calls x _ W' (ZaJ.t x)).mono fun _ _ ⟨he,hd⟩=>⟨he,by first|exact hd|exact hd.below⟩))
 have hu:=Try.underlying31
 clear hr0_1 hc0_1 hr1 hc1 h h'
 have HA:=Za (show daysB a0_0 l0_1 l1=(Zac a0_0 l0_1 && (decide ((l1.length:Int)=a0_0) && !(l1.any fun x=>!dayB x))) from rfl)
 cases hs:Zac a0_0 l0_1 with
 | false=>
  rw[hs] at HS HA
  have HF:=Za (show false=r by rw[← HN.out,HA.out];rfl)
  clear hs
  go_enter Try.func60,Try.ntmps60
  go_wp2_with (go_at_call 17;refine(HS.out _ B1.out).mono ?_;rintro e w1 ⟨rfl,hb⟩)
  go_ret
  exact⟨by rw[← HF.out];rfl,B1.out.trans (hb.mono B1.out.size)⟩
 | true=>
 rw[hs] at HS HA
 clear hs
 by_cases hl:(l1.length:Int)=a0_0
 case neg=>
  have hd:((l1.length:Int) == a0_0)=false:=by simpa using hl
  have HF:=Za (show false=r by rw[← HN.out,HA.out,Zf hl];rfl)
  clear hl
  go_enter Try.func60,Try.ntmps60
  go_wp2_with (go_at_call 17;refine(HS.out _ B1.out).mono ?_;rintro e w1 ⟨rfl,hb⟩;have hk0:=Z2 hb K0.out;have hlt:=Zc _ _ hk0)
  go_ret
  exact⟨by rw[← HF.out];rfl,B1.out.trans (hb.mono B1.out.size)⟩
 have hd:((l1.length:Int) == a0_0)=true:=by simpa using hl
 rw[Ze hl] at HA
 clear hl
 have HF:=Za (show(!(l1.any fun x=>!dayB x))=r by rw[← HN.out,HA.out];simp)
 generalize l1.any (fun x=>!dayB x)=q at HC HF
 go_enter Try.func60,Try.ntmps60
 go_wp2_with (first|(go_at_call 17;refine(HS.out _ B1.out).mono ?_;rintro e w1 ⟨rfl,hb⟩;have hk0:=Z2 hb K0.out;have hlt:=Zc _ _ hk0;have HB:=Za (B1.out.trans (hb.mono B1.out.size));clear hb)|(go_at_call 58;refine(HC.out _ HB.out).mono ?_;rintro e w2 ⟨rfl,hb⟩))
 go_ret
 exact⟨by rw[← HF.out];rfl,HB.out.trans (hb.mono HB.out.size)⟩
def ZZ.p (tm:List Int) (x:S84):Bool:=Zat.f x.f2.f0 x.f2.f1 (wrap64 (rd tm x.f1 - rd tm x.f0)) == some false
def ZZ.ok (tm:List Int) (x:S84):Bool:=decide (0≤x.f0) && decide (x.f0<tm.length) && decide (0≤x.f1) && decide (x.f1<tm.length) && (Zat.f x.f2.f0 x.f2.f1 (wrap64 (rd tm x.f1 - rd tm x.f0))).isSome
def ZZ.f (a0_0:Int) (l0_1:List (S84)) (l1:List Int):Option Int:=if daysB a0_0 l0_1 l1=true then(if l0_1.all (ZZ.ok l1)=true then some (Zbq (ZZ.p l1) l0_1) else none) else some (-1)
set_option maxHeartbeats 4000000 in
set_option maxRecDepth 100000 in
theorem Zc0.clo (B:Nat) (A1:Option Addr) (c1:Nat) (l1:List Int) (x:S84) (W:World) (hB:W.cell? ⟨B,0,none⟩=some (.slice A1 l1.length c1)) (hr1:Kd.C (Kd.int .i64) W A1 l1.length l1) (hok:ZZ.ok l1 x=true) :
  Calls Try.prog 93 #[.agg #[.int .i64 x.f0,.int .i64 x.f1,.int .i64 x.f2.f0,.int .i64 x.f2.f1],.pointer (some ⟨B,0,none⟩)] W fun e w'=>e=.returned (.bool (ZZ.p l1 x))∧Below W.heap.size W w':=by
 have hlt:B<W.heap.size:=Zc W _ hB
 have hu:=Try.underlying84
 have hu2:=Try.underlying35
 have hp:ZZ.p l1 x=(Zat.f x.f2.f0 x.f2.f1 (wrap64 (rd l1 x.f1 - rd l1 x.f0)) == some false):=rfl
 unfold ZZ.ok at hok
 obtain⟨f0,f1,⟨f2,f3⟩⟩:=x
 simp only[Bool.and_eq_true,decide_eq_true_eq] at hok hp
 obtain⟨⟨⟨⟨h1,h2⟩,h3⟩,h4⟩,h5⟩:=hok
 obtain⟨r,hr⟩:=Option.isSome_iff_exists.1 h5
 have HP:=Za (show(!r)=ZZ.p l1 ⟨f0,f1,⟨f2,f3⟩⟩ by rw[hp,hr];cases r <;> rfl)
 clear h5 hp
 obtain⟨ad,e1,hx1⟩:=Kd.at_int hr1 f1 h3 h4
 obtain⟨ad',e2,hx0⟩:=Kd.at_int hr1 f0 h1 h2
 subst e1
 cases e2
 have HI:=Za fun (w:World)=>Zat.calls f2 f3 _ r w hr
 have B1:=Za (Zq (Below.refl W.heap.size W) (.cells #[.int .i64 f0,.int .i64 f1,.int .i64 f2,.int .i64 f3] 84))
 have HX1:=Za hx1;have HX0:=Za hx0;clear hr1 hr
 generalize rd l1 f1=t1 at HI HX1 hx1
 generalize rd l1 f0=t0 at HI HX0 hx0
 have hltA:(ad.add f1.toNat).block<W.heap.size:=Zc W _ hx1
 have hltB2:(ad.add f0.toNat).block<W.heap.size:=Zc W _ hx0
 have pt0:=eq_true h1
 have pt1:=eq_true h2
 have pt2:=eq_true h3
 have pt3:=eq_true h4
 clear h1 h2 h3 h4 HX1 HX0
 obtain⟨W1,hW1⟩:∃W1,W1=W.alloc (.cells #[.int .i64 f0,.int .i64 f1,.int .i64 f2,.int .i64 f3] 84):=⟨_,rfl⟩
 rw[← hW1] at B1
 obtain⟨W2,hW2⟩:∃W2,W2=W1.drew:=⟨_,rfl⟩
 have B2:=Za (show Below W.heap.size W W2 from by rw[hW2];exact Zs B1.out)
 have k0:W2.cell? ⟨W.heap.size,0,none⟩=some (.int .i64 f0):=by rw[hW2,hW1];go_simp
 have k1:W2.cell? ⟨W.heap.size,1,none⟩=some (.int .i64 f1):=by rw[hW2,hW1];go_simp
 have k2:W2.cell? ⟨W.heap.size,2,none⟩=some (.int .i64 f2):=by rw[hW2,hW1];go_simp
 have k3:W2.cell? ⟨W.heap.size,3,none⟩=some (.int .i64 f3):=by rw[hW2,hW1];go_simp
 have k4:=Z2 B2.out hB
 have k5:=Z2 B2.out hx1
 have k6:=Z2 B2.out hx0
 have HW1:=Za hW1;have HW2:=Za hW2;clear hB hx1 hx0 hlt hltA hltB2 hW1 hW2
 go_enter Try.func93,Try.ntmps93
 go_upto_region 1 with (fail)
 rw[← HW1.out]
 refine wp_region_still_tail 13 (by kernel_rfl) (by kernel_rfl) ?_
 simp only[List.take_succ_cons,List.take_zero,List.drop_succ_cons,List.drop_zero]
 change wpStill _ _ W1.drew (fun a'=>wpList _ _ _ _ a' W1.drew) _ _
 rw[← HW2.out]
 repeat still_step
 refine wpStill_nil ?_
 go_wp2_with (go_at_call 20;refine(HI.out _).mono ?_;rintro e w' ⟨rfl,hb⟩)
 go_ret
 exact⟨by rw[← HP.out];rfl,B2.out.trans (hb.mono B2.out.size)⟩
set_option maxHeartbeats 4000000 in
set_option maxRecDepth 100000 in
theorem ZZ.calls (a0_0:Int) (A0_1:Option Addr) (c0_1:Nat) (l0_1:List (S84)) (A1:Option Addr) (c1:Nat) (l1:List Int) (r:Int) (w:World) (hr0_1:Kd.C k84 w A0_1 l0_1.length l0_1) (hc0_1:l0_1.length≤c0_1) (hr1:Kd.C (Kd.int .i64) w A1 l1.length l1) (hc1:l1.length≤c1) (h:ZZ.f a0_0 l0_1 l1=some r) :
  Calls Try.prog 61 #[.agg #[.int .i64 a0_0,.slice A0_1 l0_1.length c0_1],.slice A1 l1.length c1] w fun e w'=>e=.returned (.int .i64 r)∧Below w.heap.size w w':=by
 unfold ZZ.f at h
 have HA:=Za fun (W:World) (hb:Below w.heap.size w W)=>ZaJ.calls a0_0 A0_1 c0_1 l0_1 A1 c1 l1 _ W (Zb hr0_1 hb) hc0_1 (Zb hr1 hb) hc1 rfl
 have B0:=Zq (Below.refl w.heap.size w) (.cells #[.int .i64 a0_0,.slice A0_1 l0_1.length c0_1] 31)
 have B1:=Za (show Below w.heap.size w ((w.alloc (.cells #[.int .i64 a0_0,.slice A0_1 l0_1.length c0_1] 31)).alloc (.cells #[.slice A1 l1.length c1] 22)) from Zq B0 _)
 have KB:=Za (show((w.alloc (.cells #[.int .i64 a0_0,.slice A0_1 l0_1.length c0_1] 31)).alloc (.cells #[.slice A1 l1.length c1] 22)).cell? ⟨w.heap.size,0,none⟩=some (.int .i64 a0_0)∧((w.alloc (.cells #[.int .i64 a0_0,.slice A0_1 l0_1.length c0_1] 31)).alloc (.cells #[.slice A1 l1.length c1] 22)).cell? ⟨w.heap.size,1,none⟩=some (.slice A0_1 l0_1.length c0_1)∧((w.alloc (.cells #[.int .i64 a0_0,.slice A0_1 l0_1.length c0_1] 31)).alloc (.cells #[.slice A1 l1.length c1] 22)).cell? ⟨w.heap.size+1,0,none⟩=some (.slice A1 l1.length c1) from⟨by go_simp,by go_simp,by go_simp⟩)
 have hu:=Try.underlying31
 have HR:=Za hr0_1;have HR1:=Za hr1;clear hr0_1 hc0_1 hr1 hc1 B0
 cases hd:daysB a0_0 l0_1 l1 with
 | false=>
  rw[hd] at HA h
  have HF:=Za (show -1=r from Zg h)
  clear hd h
  go_enter Try.func61,Try.ntmps61
  go_wp2_with (go_at_call 60;refine(HA.out _ B1.out).mono ?_;rintro e w1 ⟨rfl,hb⟩)
  go_ret
  exact⟨by rw[← HF.out];rfl,B1.out.trans (hb.mono B1.out.size)⟩
 | true=>
  rw[hd] at HA h
  rw[if_pos rfl] at h
  by_cases hok:l0_1.all (ZZ.ok l1)=true
  case neg=>rw[if_neg hok] at h;exact absurd h (by simp)
  rw[if_pos hok] at h
  have HF:=Za (show Zbq (ZZ.p l1) l0_1=r from Zg h)
  have HC:=Za fun (W:World) (hb:Below w.heap.size w W) (hk:W.cell? ⟨w.heap.size+1,0,none⟩=some (.slice A1 l1.length c1))=>ZcL.any (ZZ.p l1) 93 #[.pointer (some ⟨w.heap.size+1,0,none⟩)] (enters_of Try.func93 (by kernel_rfl) rfl) A0_1 c0_1 l0_1 W (Zb HR.out hb)
   (fun W' x hx hb'=>Zc0.clo (w.heap.size+1) A1 c1 l1 x W' (Z2 hb' hk) (Zb (Zb HR1.out hb) hb') (List.all_eq_true.1 hok x hx))
  clear hd h hok
  generalize Zbq (ZZ.p l1) l0_1=q at HC HF
  go_enter Try.func61,Try.ntmps61
  go_wp2_with (go_at_call 60;refine(HA.out _ B1.out).mono ?_;rintro e w1 ⟨rfl,hb⟩;have k0:=Z2 hb KB.out.1;have k1:=Z2 hb KB.out.2.1;have k2:=Z2 hb KB.out.2.2;have hlt:=Zc _ _ k0;have hlt2:=Zc _ _ k2;have HB:=Za (B1.out.trans (hb.mono B1.out.size));clear hb)
  refine(HC.out _ HB.out k2).mono ?_
  rintro e w2 ⟨rfl,hb⟩
  go_wp2
  go_ret
  exact⟨by rw[← HF.out];rfl,HB.out.trans (hb.mono HB.out.size)⟩
end Go.Proofs.Ythphnhmabieflab.Pr
namespace Go.Proofs.Ythphnhmabieflab.Pr
open Go.RowKit Go.Proofs.YthphnhmabieflabW.PrintWords Go.Proofs.YthphnhmabieflabW.PrintLast Go.Proofs.YthphnhmabieflabW.PrintMore
attribute [local go_sem] Zaj Zah Zaq Zap Zab Zaa Zai Zag
set_option linter.unusedVariables false
set_option linter.unusedSimpArgs false
def ZaX.f (a0_0:Int) (l0_1:List (S84)) (l1:List Int):Option (Bool):=(ZaJ.f a0_0 l0_1 l1).bind fun t26002=>(if t26002=true then(if 0<(l1.length:Int) then(if (rd l1 0)=0 then((ZZ.f a0_0 l0_1 l1).bind fun t26004=>(some (decide (t26004<0)))) else(some false)) else(none)) else(some false))
set_option maxHeartbeats 8000000 in
set_option maxRecDepth 100000 in
theorem ZaX.calls (a0_0:Int) (A0_1:Option Addr) (c0_1:Nat) (l0_1:List (S84)) (A1:Option Addr) (c1:Nat) (l1:List Int) (r:Bool) (w:World) (hr0_1:Kd.C k84 w A0_1 l0_1.length l0_1) (hc0_1:l0_1.length≤c0_1) (hr1:Kd.C (Kd.int .i64) w A1 l1.length l1) (hc1:l1.length≤c1) (h:ZaX.f a0_0 l0_1 l1=some r) :
  Calls Try.prog 26 #[.agg #[.int .i64 a0_0,.slice A0_1 l0_1.length c0_1],.slice A1 l1.length c1] w fun e w'=>e=.returned (.bool r)∧Below w.heap.size w w':=by
 have hu31:=Try.underlying31
 have HR0_1:=Za hr0_1;have HC0_1:=Za hc0_1;clear hr0_1 hc0_1;have HR1:=Za hr1;have HC1:=Za hc1;clear hr1 hc1
 have HB:=Za (Below.refl w.heap.size w)
 have H:((ZaJ.f a0_0 l0_1 l1).bind fun t26002=>(if t26002=true then(if 0<(l1.length:Int) then(if (rd l1 0)=0 then((ZZ.f a0_0 l0_1 l1).bind fun t26004=>(some (decide (t26004<0)))) else(some false)) else(none)) else(some false)))=some r:=h
 clear h
 replace H:=Zh H
 obtain⟨t26002,A30,H⟩:=H
 replace H:(if t26002=true then(if 0<(l1.length:Int) then(if (rd l1 0)=0 then((ZZ.f a0_0 l0_1 l1).bind fun t26004=>(some (decide (t26004<0)))) else(some false)) else(none)) else(some false))=some r:=H
 have A3:=Za A30;clear A30
 by_cases c4:t26002=true
 ·subst c4
  have H1:(if 0<(l1.length:Int) then(if (rd l1 0)=0 then((ZZ.f a0_0 l0_1 l1).bind fun t26004=>(some (decide (t26004<0)))) else(some false)) else(none))=some r:=by rw[if_pos rfl] at H;exact H
  clear H
  have H:=H1
  clear H1
  by_cases c5:0<(l1.length:Int)
  ·rw[if_pos c5] at H
   have c5b0:decide (0<(l1.length:Int))=true:=Ze c5
   have c5b1:decide (0<l1.length)=true:=Ze (by omega)
   clear c5
   by_cases c6:(rd l1 0)=0
   ·rw[if_pos c6] at H
    have c6b0:((rd l1 0) == 0)=true:=beq_iff_eq.mpr c6
    have c6b1:((rd l1 0) != 0)=false:=bne_eq_false_iff_eq.mpr c6
    clear c6
    replace H:=Zh H
    obtain⟨t26004,A70,H⟩:=H
    replace H:(some (decide (t26004<0)))=some r:=H
    have A7:=Za A70;clear A70
    obtain rfl:=Zg H
    go_enter Try.func26,Try.ntmps26
    go_wp2_with (first|((with_reducible refine ZM (N:=2) rfl ?_);refine ZK ?hg (N:=2) ?hd (cs:=#[.int .i64 a0_0,.slice A0_1 l0_1.length c0_1]) (t:=31) ?hr ?_;(case hd=>rfl);(case hg=>rfl);(case hr=>first|(go_simp;done)|(go_simp;rfl));intro gb26001 hg w8 hbox hb;have BK26001:=Za (hbox);have GW26001:=Za ((by rw[hg];exact(Zw (by repeat(first|(with_reducible first|exact HB.out|apply Zq|apply Zm|apply Zs)|exact HB.out))):w.heap.size≤gb26001));have GE26001:=Za ((by rw[hg];exact(Zw (by repeat(first|(with_reducible first|exact HB.out|apply Zq|apply Zm|apply Zs)|exact HB.out))):w.heap.size≤gb26001));replace HB:=Za (Zx (by repeat(first|(with_reducible first|exact HB.out|apply Zq|apply Zm|apply Zs)|exact HB.out)) hb);clear hb hbox hg;have hcz9_0:w8.cell? ⟨gb26001,0,none⟩=some (.int .i64 a0_0):=(Zv BK26001.out 0).trans rfl;have hcz9_1:w8.cell? ⟨gb26001,1,none⟩=some (.slice A0_1 l0_1.length c0_1):=(Zv BK26001.out 1).trans rfl;have hfz9_0:=Zu BK26001.out 0;have hfz9_1:=Zu BK26001.out 1)|((with_reducible refine ZF (f:=60) rfl ?_);refine ZY (some 7) rfl rfl Try.func60 (by kernel_rfl) rfl #[.agg #[.int .i64 a0_0,.slice A0_1 l0_1.length c0_1],.slice A1 l1.length c1] rfl (by(try simp only[List.map_toArray,List.map_cons,List.map_nil]);first|done|rfl|(simp only[Zk,Zj];rfl)) ?_;(with_reducible refine(ZaJ.calls a0_0 _ _ l0_1 _ _ l1 true _ ?side1 ?side2 ?side3 ?side4 A3.out).mono ?_);(case side1=>repeat(first|exact(Zb HR0_1.out HB.out)|(with_reducible refine Kd.C_alloc ?_ _)|(with_reducible refine Kd.C_drewN ?_ _)|(with_reducible refine Kd.C_drew ?_)));(case side2=>exact HC0_1.out);(case side3=>repeat(first|exact(Zb HR1.out HB.out)|(with_reducible refine Kd.C_alloc ?_ _)|(with_reducible refine Kd.C_drewN ?_ _)|(with_reducible refine Kd.C_drew ?_)));(case side4=>exact HC1.out);rintro e w10 ⟨rfl,hb⟩;refine⟨_,rfl,?_⟩;replace BK26001:=Za (Zy (g:=gb26001) (o:=.cells #[.int .i64 a0_0,.slice A0_1 l0_1.length c0_1] 31 (0,0)) (by(with_reducible repeat(first|refine Zo ?_ _|refine Zr ?_|refine Zn ?_ _));exact BK26001.out) hb);replace HB:=Za (Zx (by repeat(first|(with_reducible first|exact HB.out|apply Zq|apply Zm|apply Zs|refine Zp ?_ GE26001.out)|exact HB.out)) hb);(try clear hb);(try clear hb2);(try clear hk);(try clear hi);have p26003:0≤(0:Int):=(by omega);have q26003:0<(l1.length:Int):=Zd (by first|(with_reducible assumption)|assumption);obtain⟨ad26003,e26003,hx26003_0⟩:=Kd.at_int HR1.out 0 p26003 q26003;cases e26003;have qi26003:(0<l1.length)=True:=eq_true (by omega);(try rw[show((0:Int)).toNat=0 from rfl] at hx26003_0);(try rw[Addr.add_zero'] at hx26003_0);replace hx26003_0:=(HB.out.cell (Zc w _ hx26003_0)).trans hx26003_0;replace p26003:=eq_true p26003;replace q26003:=eq_true q26003;have hcz11_0:w10.cell? ⟨gb26001,0,none⟩=some (.int .i64 a0_0):=(Zv BK26001.out 0).trans rfl;have hcz11_1:w10.cell? ⟨gb26001,1,none⟩=some (.slice A0_1 l0_1.length c0_1):=(Zv BK26001.out 1).trans rfl;have hfz11_0:=Zu BK26001.out 0;have hfz11_1:=Zu BK26001.out 1)|(go_at_call 61;(with_reducible refine(ZZ.calls a0_0 _ _ l0_1 _ _ l1 t26004 _ ?side1 ?side2 ?side3 ?side4 A7.out).mono ?_);(case side1=>repeat(first|exact(Zb HR0_1.out HB.out)|(with_reducible refine Kd.C_alloc ?_ _)|(with_reducible refine Kd.C_drewN ?_ _)|(with_reducible refine Kd.C_drew ?_)));(case side2=>exact HC0_1.out);(case side3=>repeat(first|exact(Zb HR1.out HB.out)|(with_reducible refine Kd.C_alloc ?_ _)|(with_reducible refine Kd.C_drewN ?_ _)|(with_reducible refine Kd.C_drew ?_)));(case side4=>exact HC1.out);rintro e w12 ⟨rfl,hb⟩;replace BK26001:=Za (Zy (g:=gb26001) (o:=.cells #[.int .i64 a0_0,.slice A0_1 l0_1.length c0_1] 31 (0,0)) (by(with_reducible repeat(first|refine Zo ?_ _|refine Zr ?_|refine Zn ?_ _));exact BK26001.out) hb);replace HB:=Za (Zx (by repeat(first|(with_reducible first|exact HB.out|apply Zq|apply Zm|apply Zs|refine Zp ?_ GE26001.out)|exact HB.out)) hb);(try clear hb);(try clear hb2);(try clear hk);(try clear hi)))
    go_ret
    exact⟨by first|rfl|(simp[ZC,ZB] <;> rfl)|(simp[*,ZC,ZB] <;> rfl),by repeat(first|(with_reducible first|exact HB.out|apply Zq|apply Zm|apply Zs|refine Zp ?_ GE26001.out)|exact HB.out)⟩
   ·rw[if_neg c6] at H
    have c6b0:((rd l1 0) == 0)=false:=beq_eq_false_iff_ne.mpr c6
    have c6b1:((rd l1 0) != 0)=true:=bne_iff_ne.mpr c6
    obtain rfl:=Zg H
    go_enter Try.func26,Try.ntmps26
    go_wp2_with (first|((with_reducible refine ZM (N:=2) rfl ?_);refine ZK ?hg (N:=2) ?hd (cs:=#[.int .i64 a0_0,.slice A0_1 l0_1.length c0_1]) (t:=31) ?hr ?_;(case hd=>rfl);(case hg=>rfl);(case hr=>first|(go_simp;done)|(go_simp;rfl));intro gb26001 hg w13 hbox hb;have BK26001:=Za (hbox);have GW26001:=Za ((by rw[hg];exact(Zw (by repeat(first|(with_reducible first|exact HB.out|apply Zq|apply Zm|apply Zs)|exact HB.out))):w.heap.size≤gb26001));have GE26001:=Za ((by rw[hg];exact(Zw (by repeat(first|(with_reducible first|exact HB.out|apply Zq|apply Zm|apply Zs)|exact HB.out))):w.heap.size≤gb26001));replace HB:=Za (Zx (by repeat(first|(with_reducible first|exact HB.out|apply Zq|apply Zm|apply Zs)|exact HB.out)) hb);clear hb hbox hg;have hcz14_0:w13.cell? ⟨gb26001,0,none⟩=some (.int .i64 a0_0):=(Zv BK26001.out 0).trans rfl;have hcz14_1:w13.cell? ⟨gb26001,1,none⟩=some (.slice A0_1 l0_1.length c0_1):=(Zv BK26001.out 1).trans rfl;have hfz14_0:=Zu BK26001.out 0;have hfz14_1:=Zu BK26001.out 1)|((with_reducible refine ZF (f:=60) rfl ?_);refine ZY (some 7) rfl rfl Try.func60 (by kernel_rfl) rfl #[.agg #[.int .i64 a0_0,.slice A0_1 l0_1.length c0_1],.slice A1 l1.length c1] rfl (by(try simp only[List.map_toArray,List.map_cons,List.map_nil]);first|done|rfl|(simp only[Zk,Zj];rfl)) ?_;(with_reducible refine(ZaJ.calls a0_0 _ _ l0_1 _ _ l1 true _ ?side1 ?side2 ?side3 ?side4 A3.out).mono ?_);(case side1=>repeat(first|exact(Zb HR0_1.out HB.out)|(with_reducible refine Kd.C_alloc ?_ _)|(with_reducible refine Kd.C_drewN ?_ _)|(with_reducible refine Kd.C_drew ?_)));(case side2=>exact HC0_1.out);(case side3=>repeat(first|exact(Zb HR1.out HB.out)|(with_reducible refine Kd.C_alloc ?_ _)|(with_reducible refine Kd.C_drewN ?_ _)|(with_reducible refine Kd.C_drew ?_)));(case side4=>exact HC1.out);rintro e w15 ⟨rfl,hb⟩;refine⟨_,rfl,?_⟩;replace BK26001:=Za (Zy (g:=gb26001) (o:=.cells #[.int .i64 a0_0,.slice A0_1 l0_1.length c0_1] 31 (0,0)) (by(with_reducible repeat(first|refine Zo ?_ _|refine Zr ?_|refine Zn ?_ _));exact BK26001.out) hb);replace HB:=Za (Zx (by repeat(first|(with_reducible first|exact HB.out|apply Zq|apply Zm|apply Zs|refine Zp ?_ GE26001.out)|exact HB.out)) hb);(try clear hb);(try clear hb2);(try clear hk);(try clear hi);have p26003:0≤(0:Int):=(by omega);have q26003:0<(l1.length:Int):=Zd (by first|(with_reducible assumption)|assumption);obtain⟨ad26003,e26003,hx26003_0⟩:=Kd.at_int HR1.out 0 p26003 q26003;cases e26003;have qi26003:(0<l1.length)=True:=eq_true (by omega);(try rw[show((0:Int)).toNat=0 from rfl] at hx26003_0);(try rw[Addr.add_zero'] at hx26003_0);replace hx26003_0:=(HB.out.cell (Zc w _ hx26003_0)).trans hx26003_0;replace p26003:=eq_true p26003;replace q26003:=eq_true q26003))
    go_ret
    exact⟨by first|rfl|(simp[ZC,ZB] <;> rfl)|(simp[*,ZC,ZB] <;> rfl),by repeat(first|(with_reducible first|exact HB.out|apply Zq|apply Zm|apply Zs|refine Zp ?_ GE26001.out)|exact HB.out)⟩
  ·rw[if_neg c5] at H
   exact absurd H (by simp)
 ·replace c4:=Bool.eq_false_iff.mpr c4
  subst c4
  have H1:(some false)=some r:=by rw[if_neg (show ¬(false=true) by decide)] at H;exact H
  clear H
  have H:=H1
  clear H1
  obtain rfl:=Zg H
  go_enter Try.func26,Try.ntmps26
  go_wp2_with (first|((with_reducible refine ZM (N:=2) rfl ?_);refine ZK ?hg (N:=2) ?hd (cs:=#[.int .i64 a0_0,.slice A0_1 l0_1.length c0_1]) (t:=31) ?hr ?_;(case hd=>rfl);(case hg=>rfl);(case hr=>first|(go_simp;done)|(go_simp;rfl));intro gb26001 hg w16 hbox hb;have BK26001:=Za (hbox);have GW26001:=Za ((by rw[hg];exact(Zw (by repeat(first|(with_reducible first|exact HB.out|apply Zq|apply Zm|apply Zs)|exact HB.out))):w.heap.size≤gb26001));have GE26001:=Za ((by rw[hg];exact(Zw (by repeat(first|(with_reducible first|exact HB.out|apply Zq|apply Zm|apply Zs)|exact HB.out))):w.heap.size≤gb26001));replace HB:=Za (Zx (by repeat(first|(with_reducible first|exact HB.out|apply Zq|apply Zm|apply Zs)|exact HB.out)) hb);clear hb hbox hg;have hcz17_0:w16.cell? ⟨gb26001,0,none⟩=some (.int .i64 a0_0):=(Zv BK26001.out 0).trans rfl;have hcz17_1:w16.cell? ⟨gb26001,1,none⟩=some (.slice A0_1 l0_1.length c0_1):=(Zv BK26001.out 1).trans rfl;have hfz17_0:=Zu BK26001.out 0;have hfz17_1:=Zu BK26001.out 1)|((with_reducible refine ZF (f:=60) rfl ?_);refine ZY (some 7) rfl rfl Try.func60 (by kernel_rfl) rfl #[.agg #[.int .i64 a0_0,.slice A0_1 l0_1.length c0_1],.slice A1 l1.length c1] rfl (by(try simp only[List.map_toArray,List.map_cons,List.map_nil]);first|done|rfl|(simp only[Zk,Zj];rfl)) ?_;(with_reducible refine(ZaJ.calls a0_0 _ _ l0_1 _ _ l1 false _ ?side1 ?side2 ?side3 ?side4 A3.out).mono ?_);(case side1=>repeat(first|exact(Zb HR0_1.out HB.out)|(with_reducible refine Kd.C_alloc ?_ _)|(with_reducible refine Kd.C_drewN ?_ _)|(with_reducible refine Kd.C_drew ?_)));(case side2=>exact HC0_1.out);(case side3=>repeat(first|exact(Zb HR1.out HB.out)|(with_reducible refine Kd.C_alloc ?_ _)|(with_reducible refine Kd.C_drewN ?_ _)|(with_reducible refine Kd.C_drew ?_)));(case side4=>exact HC1.out);rintro e w18 ⟨rfl,hb⟩;refine⟨_,rfl,?_⟩;replace BK26001:=Za (Zy (g:=gb26001) (o:=.cells #[.int .i64 a0_0,.slice A0_1 l0_1.length c0_1] 31 (0,0)) (by(with_reducible repeat(first|refine Zo ?_ _|refine Zr ?_|refine Zn ?_ _));exact BK26001.out) hb);replace HB:=Za (Zx (by repeat(first|(with_reducible first|exact HB.out|apply Zq|apply Zm|apply Zs|refine Zp ?_ GE26001.out)|exact HB.out)) hb);(try clear hb);(try clear hb2);(try clear hk);(try clear hi)))
  go_ret
  exact⟨by first|rfl|(simp[ZC,ZB] <;> rfl)|(simp[*,ZC,ZB] <;> rfl),by repeat(first|(with_reducible first|exact HB.out|apply Zq|apply Zm|apply Zs|refine Zp ?_ GE26001.out)|exact HB.out)⟩
end Go.Proofs.Ythphnhmabieflab.Pr
namespace Go.Proofs.Ythphnhmabieflab.Pr
open Go.RowKit Go.Proofs.YthphnhmabieflabW.PrintWords Go.Proofs.Ythphnhmabieflab.Ni
theorem Zc1 (E:List ZV):∀(n:Nat) (s:BSt),rounds E (n+1) s=(fun u:BSt=>rnd E 0 (u.1,u.2.1,-1)) (rounds E n s)
 | 0,_=>rfl
 | n+1,s=>by show rounds E (n+1) _=_;rw[Zc1 E n];rfl
theorem rnd_up:∀(E:List ZV) (i:Nat) (s:BSt),0≤s.2.2→0≤(rnd E i s).2.2
 | [],_,_,h=>h
 | e :: t,i,s,h=>by
  refine rnd_up t (i+1) _ ?_
  unfold relax
  split
  ·simp only;omega
  ·exact h
theorem rnd_same:∀(E:List ZV) (i:Nat) (s:BSt),(rnd E i s).2.2<0→rnd E i s=s∧∀e∈E,¬wrap64 (rd s.1 e.f0+e.f2)<rd s.1 e.f1
 | [],_,_,_=>⟨rfl,fun _ h=>absurd h (by simp)⟩
 | e :: t,i,s,h=>by
  have h0:(rnd t (i+1) (relax s i e)).2.2<0:=h
  by_cases c:wrap64 (rd s.1 e.f0+e.f2)<rd s.1 e.f1
  ·have:relax s i e=(s.1.set e.f1.toNat (wrap64 (rd s.1 e.f0+e.f2)),s.2.1.set e.f1.toNat (i:Int),(i:Int)):=if_pos c
   rw[this] at h0
   have:=rnd_up t (i+1) (s.1.set e.f1.toNat (wrap64 (rd s.1 e.f0+e.f2)),s.2.1.set e.f1.toNat (i:Int),(i:Int)) (by simp only;omega)
   omega
  ·have hr:relax s i e=s:=if_neg c
   rw[hr] at h0
   obtain⟨h1,h2⟩:=rnd_same t (i+1) s h0
   refine⟨by show rnd t (i+1) (relax s i e)=s;rw[hr];exact h1,fun x hx=>?_⟩
   rcases List.mem_cons.1 hx with rfl|hx
   ·exact c
   ·exact h2 x hx
def BndB (d:List Int) (B:Int):Prop:=∀v,-B≤d.getD v 0∧d.getD v 0≤B
theorem BndB.relax {s:BSt} {i:Nat} {e:ZV} {B:Int} (h:BndB s.1 B) (h0:0≤B) (hB:B≤1000000000000) (hw : -1000000≤e.f2∧e.f2≤1000000):BndB (relax s i e).1 (B+1000000):=by
 have hu:=h e.f0.toNat
 have e0:rd s.1 e.f0=s.1.getD e.f0.toNat 0:=rfl
 unfold Pr.relax
 split
 ·intro v
  have hv:=h v
  simp only
  rw[e0,Zb9 (by omega) (by omega)]
  by_cases c:e.f1.toNat=v
  ·subst c
   by_cases hl:e.f1.toNat<s.1.length
   ·rw[getD_set_eq hl];omega
   ·rw[List.getD_eq_getElem?_getD,List.getElem?_eq_none (by simp;omega)];simp only[Option.getD_none];omega
  ·rw[getD_set_ne c];omega
 ·intro v;have:=h v;omega
theorem BndB.rnd {E:List ZV} (hw:Za1 E):∀(F:List ZV) (i:Nat) (s:BSt) (B:Int),(∀e∈F,e∈E)→BndB s.1 B→0≤B→B+(F.length:Int) * 1000000≤1000000000000→BndB (rnd F i s).1 (B+(F.length:Int) * 1000000)
 | [],i,s,B,_,h,_,_=>fun v=>by
  have h1 : -B≤(Pr.rnd [] i s).1.getD v 0∧(Pr.rnd [] i s).1.getD v 0≤B:=h v
  rw[List.length_nil];omega
 | e :: t,i,s,B,hm,h,h0,hB=>by
  rw[List.length_cons] at hB ⊢
  have h1:=BndB.relax (i:=i) h h0 (by omega) (hw e (hm e (by simp)))
  have h2:=BndB.rnd hw t (i+1) _ (B+1000000) (fun x hx=>hm x (by simp[hx])) h1 (by omega) (by omega)
  intro v
  have:=h2 v
  show -(B+((t.length+1:Nat):Int) * 1000000)≤(Pr.rnd t (i+1) (Pr.relax s i e)).1.getD v 0∧(Pr.rnd t (i+1) (Pr.relax s i e)).1.getD v 0≤B+((t.length+1:Nat):Int) * 1000000
  omega
theorem BndB.rounds {E:List ZV} (hw:Za1 E) (hl:E.length≤100):∀(n:Nat) (s:BSt) (B:Int),BndB s.1 B→0≤B→B+(n:Int) * 100000000≤1000000000000→BndB (rounds E n s).1 (B+(n:Int) * 100000000)
 | 0,s,B,h,_,_=>fun v=>by
  have h1 : -B≤(Pr.rounds E 0 s).1.getD v 0∧(Pr.rounds E 0 s).1.getD v 0≤B:=h v
  omega
 | n+1,s,B,h,h0,hB=>by
  have h1:=BndB.rnd hw E 0 (s.1,s.2.1,-1) B (fun _ h=>h) h h0 (by omega)
  have h2:BndB (Pr.rnd E 0 (s.1,s.2.1,-1)).1 (B+100000000):=fun v=>by have:=h1 v;omega
  have h3:=BndB.rounds hw hl n _ _ h2 (by omega) (by omega)
  intro v
  have:=h3 v
  show -(B+((n+1:Nat):Int) * 100000000)≤(Pr.rounds E n (Pr.rnd E 0 (s.1,s.2.1,-1))).1.getD v 0∧(Pr.rounds E n (Pr.rnd E 0 (s.1,s.2.1,-1))).1.getD v 0≤B+((n+1:Nat):Int) * 100000000
  omega
theorem nc_pot {E:List ZV} {N:Nat} (hE:Zav E N) (hw:Za1 E) (hl:E.length≤100) (hN:1≤N) (hN2:N≤1000) (h:ncB N E=[]):∃p:Nat→Int,∀e∈E,p e.f1.toNat≤p e.f0.toNat+e.f2:=by
 obtain⟨m,rfl⟩:∃m,N=m+1:=⟨N - 1,by omega⟩
 have hch:(rounds E (m+1) (bst0 (m+1))).2.2=-1:=by
  rcases bf_after hE hN (d:=(rounds E (m+1) (bst0 (m+1))).1) (l:=(rounds E (m+1) (bst0 (m+1))).2.1) (ch:=(rounds E (m+1) (bst0 (m+1))).2.2) rfl with h1|⟨c,v,q,h1,_,_,_,h2,_,_,_,_,_,h3⟩
  ·exact h1.1
  ·rw[h] at h3
   have:=congrArg List.length h3
   rw[List.length_reverse,Zc6,List.length_nil] at this
   omega
 rw[Zc1] at hch
 have hb:=BndB.rounds hw hl m (bst0 (m+1)) 0 (fun v=>by
  unfold bst0
  simp only
  rw[List.getD_eq_getElem?_getD,List.getElem?_replicate]
  split <;> simp) (by omega) (by omega)
 generalize rounds E m (bst0 (m+1))=u at hch hb
 have hs:=rnd_same E 0 (u.1,u.2.1,-1) (by simp only at hch;omega)
 refine⟨fun v=>u.1.getD v 0,fun e he=>?_⟩
 have h1:=hs.2 e he
 have h2:=hb e.f0.toNat
 have h3:=hw e he
 have e0:rd u.1 e.f0=u.1.getD e.f0.toNat 0:=rfl
 have e1:rd u.1 e.f1=u.1.getD e.f1.toNat 0:=rfl
 simp only at h1
 rw[e0,e1,Zb9 (by omega) (by omega)] at h1
 simp only
 omega
theorem krelax_len {s:KSt} {e:ZV}:(ZaM s e).1.length=s.1.length:=by unfold ZaM;split <;> simp
theorem Zc5:∀(E:List ZV) (s:KSt),(krnd E s).1.length=s.1.length
 | [],_=>rfl
 | e :: t,s=>by show(krnd t (ZaM s e)).1.length=_;rw[Zc5 t,krelax_len]
theorem isf_len {E:List ZV}:∀{m:Nat} {s u:KSt},isf E m s=some u→u.1.length=s.1.length
 | 0,_,_,h=>by cases h
 | m+1,s,u,h=>by
  rw[isf] at h
  try dsimp only at h
  split at h
  ·cases h;exact Zc5 E _
  ·rw[isf_len h];exact Zc5 E _
theorem sf_ok {E:List ZV} {N:Nat} (hE:Zav E N) (hw:Za1 E) (hl:E.length≤100) (hN:1≤N) (hN2:N≤1000) (h:ncB N E=[]) (a:Nat):∃r,r.length=N∧sfB (N:Int) E (a:Int) N=(r,true)∧sfB (N:Int) E (a:Int) (N+1)=(r,true):=by
 obtain⟨p,hp⟩:=nc_pot hE hw hl hN hN2 h
 have hs:=bf_still (a:=a) hE hw hl hN hN2 p hp
 obtain⟨m,rfl⟩:∃m,N=m+1:=⟨N - 1,by omega⟩
 obtain⟨u,hu⟩:=isf_of m _ hs
 refine⟨finB u,by rw[Zcw,isf_len hu];simp[kst0],?_,?_⟩
 ·unfold sfB;rw[Int.toNat_natCast,Int.toNat_natCast,hu]
 ·unfold sfB;rw[Int.toNat_natCast,Int.toNat_natCast,Zct hu]
def Feas (E:List ZV) (p:Nat→Int):Prop:=∀e∈E,p e.f1.toNat≤p e.f0.toNat+e.f2
def ZbM (E:List ZV):Prop:=∀e∈E,-1000≤e.f2∧e.f2≤1000
theorem ZbM.w {E:List ZV} (h:ZbM E):Za1 E:=fun e he=>by have:=h e he;omega
def kstA (N:Nat):KSt:=(List.replicate N 0,List.replicate N true,false)
theorem KInv.startA {E:List ZV} {N:Nat}:KInv E N 1 0 0 (kstA N) (fun _=>none) (fun _=>0) (fun _=>0):=by
 refine⟨by simp[kstA],by simp[kstA],Nat.le_refl _,fun _=>by omega,fun _=>by omega,?_,?_,?_,Or.inl rfl⟩
 ·intro v hv;simp[kstA,List.getD_eq_getElem?_getD,hv]
 ·intro j e _ _ hlt;rw[if_neg (by omega)] at hlt;omega
 ·intro v _ _;exact Or.inl rfl
theorem rounds_k {E:List ZV} {N:Nat} (hE:Zav E N):∀(n:Nat) (d l:List Int) (ch:Int) (c:Bool),Zbk E n (d,List.replicate N true,c)=((rounds E n (d,l,ch)).1,List.replicate N true,match n with|0=>c|_+1=>decide (0≤(rounds E n (d,l,ch)).2.2))
 | 0,d,l,ch,c=>rfl
 | n+1,d,l,ch,c=>by
  have h1:krnd E (d,List.replicate N true,false)=sknow (srnd E 0 (d,l,List.replicate N true,-1)):=by
   rw[srnd_k];rfl
  have h2:krnd E (d,List.replicate N true,false)=((rnd E 0 (d,l,-1)).1,List.replicate N true,decide (0≤(rnd E 0 (d,l,-1)).2.2)):=by
   rw[h1,srnd_all E 0 d l (-1) hE];rfl
  show Zbk E n (krnd E (d,List.replicate N true,false))=_
  rw[h2,rounds_k hE n _ (rnd E 0 (d,l,-1)).2.1 (rnd E 0 (d,l,-1)).2.2 _]
  cases n with
  | zero=>rfl
  | succ n=>rfl
theorem pot_nc {E:List ZV} {N:Nat} (hE:Zav E N) (hw:Za1 E) (hl:E.length≤100) (hN:1≤N) (hN2:N≤1000) {p:Nat→Int} (hp:Feas E p):ncB N E=[]:=by
 have h:=bf_stillS hE hw hl hN hN2 p hp KInv.startA
 have h2:=rounds_k hE N (List.replicate N 0) (List.replicate N (-1)) (-1) false
 obtain⟨m,rfl⟩:∃m,N=m+1:=⟨N - 1,by omega⟩
 unfold kstA at h
 rw[h2] at h
 simp only[decide_eq_false_iff_not] at h
 unfold ncB
 simp only
 rw[if_pos]
 show(rounds E (m+1) (bst0 (m+1))).2.2<0
 unfold bst0
 omega
theorem krnd_up:∀(E:List ZV) (s:KSt),s.2.2=true→(krnd E s).2.2=true
 | [],_,h=>h
 | e :: t,s,h=>by
  refine krnd_up t _ ?_
  unfold ZaM
  split
  ·rfl
  ·exact h
theorem krnd_same:∀(E:List ZV) (s:KSt),(krnd E s).2.2=false→krnd E s=s∧∀e∈E,¬(rb s.2.1 e.f0=true∧(rb s.2.1 e.f1=false∨wrap64 (rd s.1 e.f0+e.f2)<rd s.1 e.f1))
 | [],_,_=>⟨rfl,fun _ h=>absurd h (by simp)⟩
 | e :: t,s,h=>by
  have h0:(krnd t (ZaM s e)).2.2=false:=h
  by_cases c:rb s.2.1 e.f0=true∧(rb s.2.1 e.f1=false∨wrap64 (rd s.1 e.f0+e.f2)<rd s.1 e.f1)
  ·have hr:ZaM s e=(s.1.set e.f1.toNat (wrap64 (rd s.1 e.f0+e.f2)),s.2.1.set e.f1.toNat true,true):=if_pos c
   rw[hr,krnd_up t _ rfl] at h0
   cases h0
  ·have hr:ZaM s e=s:=if_neg c
   rw[hr] at h0
   obtain⟨h1,h2⟩:=krnd_same t s h0
   refine⟨by show krnd t (ZaM s e)=s;rw[hr];exact h1,fun x hx=>?_⟩
   rcases List.mem_cons.1 hx with rfl|hx
   ·exact c
   ·exact h2 x hx
structure DI (N a:Nat) (B:Int) (p:Nat→Int) (s:KSt):Prop where
 l1:s.1.length=N
 l2:s.2.1.length=N
 ka:s.2.1.getD a false=true
 da:s.1.getD a 0≤0
 bd:∀v,-B≤s.1.getD v 0∧s.1.getD v 0≤B
 lo:∀v,s.2.1.getD v false=true→p v - p a≤s.1.getD v 0
theorem DI.mono {N a:Nat} {B B':Int} {p:Nat→Int} {s:KSt} (h:DI N a B p s) (hB:B≤B'):DI N a B' p s:=
 ⟨h.l1,h.l2,h.ka,h.da,fun v=>by have:=h.bd v;omega,h.lo⟩
theorem DI.step {N a:Nat} {B:Int} {p:Nat→Int} {s:KSt} (h:DI N a B p s) (h0:0≤B) (hB:B≤1000000000) {e:ZV} (hin:0≤e.f0∧e.f0<N∧0≤e.f1∧e.f1<N) (hw : -1000≤e.f2∧e.f2≤1000) (hp:p e.f1.toNat≤p e.f0.toNat+e.f2):DI N a (B+1000) p (ZaM s e):=by
 obtain⟨d,kn,c⟩:=s
 obtain⟨l1,l2,ka,da,bd,lo⟩:=h
 dsimp only at l1 l2 ka da bd lo
 have b0:=bd e.f0.toNat
 have e0:rd d e.f0=d.getD e.f0.toNat 0:=rfl
 have e1:rd d e.f1=d.getD e.f1.toNat 0:=rfl
 have r0:rb kn e.f0=kn.getD e.f0.toNat false:=rfl
 have r1:rb kn e.f1=kn.getD e.f1.toNat false:=rfl
 have hww:wrap64 (rd d e.f0+e.f2)=d.getD e.f0.toNat 0+e.f2:=by rw[e0];exact Zb9 (by omega) (by omega)
 unfold ZaM
 dsimp only
 rw[hww,r0,r1,e1]
 split
 ·rename_i hc
  refine⟨by simpa using l1,by simpa using l2,ZbO ka,?_,fun v=>?_,fun v hv=>?_⟩
  ·by_cases cv:e.f1.toNat=a
   ·rw[cv,getD_set_eq (by rw[l1];omega)]
    rcases hc.2 with h2|h2
    ·rw[cv,ka] at h2;cases h2
    ·rw[cv] at h2;omega
   ·rw[getD_set_ne cv];exact da
  ·by_cases cv:e.f1.toNat=v
   ·rw[cv,getD_set_eq (by rw[l1];omega)];omega
   ·rw[getD_set_ne cv];have:=bd v;omega
  ·by_cases cv:e.f1.toNat=v
   ·rw[cv,getD_set_eq (by rw[l1];omega),← cv]
    have:=lo _ hc.1
    omega
   ·rw[getD_set_ne cv]
    rw[ZbB cv] at hv
    exact lo v hv
 ·exact⟨l1,l2,ka,da,fun v=>by have:=bd v;show -(B+1000)≤d.getD v 0∧d.getD v 0≤B+1000;omega,lo⟩
theorem DI.rnd {N a:Nat} {p:Nat→Int}:∀(E:List ZV) (s:KSt) (B:Int),Zav E N→ZbM E→Feas E p→DI N a B p s→0≤B→B+(E.length:Int) * 1000≤1000000000→DI N a (B+(E.length:Int) * 1000) p (krnd E s)
 | [],s,B,_,_,_,h,_,_=>h.mono (by simp)
 | e :: t,s,B,hE,hw,hp,h,h0,hB=>by
  rw[List.length_cons] at hB ⊢
  have h1:=h.step h0 (by omega) (hE e (by simp)) (hw e (by simp)) (hp e (by simp))
  have h2:=DI.rnd t (ZaM s e) (B+1000) (fun x hx=>hE x (by simp[hx])) (fun x hx=>hw x (by simp[hx])) (fun x hx=>hp x (by simp[hx])) h1 (by omega) (by omega)
  exact h2.mono (by omega)
theorem DI.isf {E:List ZV} {N a:Nat} {p:Nat→Int} (hE:Zav E N) (hw:ZbM E) (hl:E.length≤82) (hp:Feas E p):∀(m:Nat) (s u:KSt) (B:Int),Pr.isf E m s=some u→DI N a B p s→0≤B→B+(m:Int) * 82000≤1000000000→DI N a (B+(m:Int) * 82000) p u
 | 0,_,_,_,h,_,_,_=>by cases h
 | m+1,s,u,B,h,hd,h0,hB=>by
  have h1:DI N a (B+82000) p (krnd E (s.1,s.2.1,false)):=(DI.rnd E (s.1,s.2.1,false) B hE hw hp ⟨hd.l1,hd.l2,hd.ka,hd.da,hd.bd,hd.lo⟩ h0 (by omega)).mono (by omega)
  rw[Pr.isf] at h
  try dsimp only at h
  split at h
  ·cases h
   exact h1.mono (by omega)
  ·have:=DI.isf hE hw hl hp m _ u (B+82000) h h1 (by omega) (by omega)
   exact this.mono (by omega)
theorem ZcK {E:List ZV}:∀(m:Nat) (s u:KSt),isf E m s=some u→∀e∈E,¬(rb u.2.1 e.f0=true∧(rb u.2.1 e.f1=false∨wrap64 (rd u.1 e.f0+e.f2)<rd u.1 e.f1))
 | 0,_,_,h=>by cases h
 | m+1,s,u,h=>by
  rw[isf] at h
  try dsimp only at h
  split at h
  ·rename_i hc
   cases h
   obtain⟨h1,h2⟩:=krnd_same E (s.1,s.2.1,false) hc
   rw[h1];exact h2
  ·exact ZcK m _ u h
structure DS (E:List ZV) (N a:Nat) (u:KSt):Prop where
 l1:u.1.length=N
 ka:u.2.1.getD a false=true
 da:u.1.getD a 0=0
 bd:∀v,-740000≤u.1.getD v 0∧u.1.getD v 0≤740000
 cl:∀e∈E,u.2.1.getD e.f0.toNat false=true→u.2.1.getD e.f1.toNat false=true∧u.1.getD e.f1.toNat 0≤u.1.getD e.f0.toNat 0+e.f2
 lo:∀p,Feas E p→∀v,u.2.1.getD v false=true→p v - p a≤u.1.getD v 0
theorem DS.of {E:List ZV} {N a m:Nat} {u:KSt} (hE:Zav E N) (hw:ZbM E) (hl:E.length≤82) (ha:a<N) (hm:m≤9) (h:isf E m (kst0 N a)=some u) {p:Nat→Int} (hp:Feas E p):DS E N a u:=by
 have st:∀q:Nat→Int,DI N a 0 q (kst0 N a):=fun q=>by
  refine⟨by simp[kst0],by simp[kst0],?_,?_,fun v=>?_,fun v hv=>?_⟩
  ·exact ZbN (by simpa using ha) _ _
  ·unfold kst0;simp only;rw[List.getD_eq_getElem?_getD,List.getElem?_replicate];split <;> simp
  ·unfold kst0;simp only;rw[List.getD_eq_getElem?_getD,List.getElem?_replicate];split <;> simp
  ·have hva:a=v:=by
    apply Classical.byContradiction
    intro hne
    unfold kst0 at hv
    simp only at hv
    rw[ZbB hne,List.getD_eq_getElem?_getD,List.getElem?_replicate] at hv
    split at hv <;> simp at hv
   subst hva
   unfold kst0;simp only;rw[List.getD_eq_getElem?_getD,List.getElem?_replicate];split <;> simp
 have key:∀q,Feas E q→DI N a 738000 q u:=fun q hq=>(DI.isf hE hw hl hq m _ u 0 h (st q) (by omega) (by omega)).mono (by omega)
 have hd:=key p hp
 have hs:=ZcK m _ u h
 refine⟨hd.l1,hd.ka,?_,fun v=>by have:=hd.bd v;omega,fun e he hk=>?_,fun q hq=>(key q hq).lo⟩
 ·have h1:=hd.da
  have h2:=hd.lo a hd.ka
  omega
 ·have h3:=hs e he
  have r0:rb u.2.1 e.f0=u.2.1.getD e.f0.toNat false:=rfl
  have r1:rb u.2.1 e.f1=u.2.1.getD e.f1.toNat false:=rfl
  have b0:=hd.bd e.f0.toNat
  have b1:=hw e he
  have e0:rd u.1 e.f0=u.1.getD e.f0.toNat 0:=rfl
  have e1:rd u.1 e.f1=u.1.getD e.f1.toNat 0:=rfl
  rw[r0,r1,hk,e0,e1,Zb9 (by omega) (by omega)] at h3
  cases hk1:u.2.1.getD e.f1.toNat false with
  | false=>exact absurd ⟨rfl,.inl hk1⟩ h3
  | true=>
   refine⟨rfl,?_⟩
   apply Classical.byContradiction
   intro hc
   exact h3 ⟨rfl,.inr (by omega)⟩
def atU (u:KSt) (s big:Int) (v:Nat):Int:=if u.2.1.getD v false=true then min (s+u.1.getD v 0) big else big
theorem win_of {E:List ZV} {N a b:Nat} {u v:KSt} {p:Nat→Int} {n:Int} (hp:Feas E p) (hu:DS E N a u) (hv:DS E N b v) (h1:u.2.1.getD b false=true→n≤u.1.getD b 0) (h2:v.2.1.getD a false=true→-n≤v.1.getD a 0) :
  ∃q,Feas E q∧q b=q a+n:=by
 let M:Int:=(p a).natAbs+(p b).natAbs+n.natAbs
 have hM1:0≤p a+M:=by omega
 have hM2:n≤p b+M:=by omega
 refine⟨fun x=>min (atU u 0 (p x+M) x) (atU v n (p x+M) x),fun e he=>?_,?_⟩
 ·have hpe:=hp e he
  have c1:=hu.cl e he
  have c2:=hv.cl e he
  unfold atU
  dsimp only
  by_cases k1:u.2.1.getD e.f0.toNat false=true
  ·obtain⟨k1',g1⟩:=c1 k1
   rw[if_pos k1,if_pos k1']
   by_cases k2:v.2.1.getD e.f0.toNat false=true
   ·obtain⟨k2',g2⟩:=c2 k2
    rw[if_pos k2,if_pos k2'];omega
   ·rw[if_neg k2]
    split <;> omega
  ·rw[if_neg k1]
   by_cases k2:v.2.1.getD e.f0.toNat false=true
   ·obtain⟨k2',g2⟩:=c2 k2
    rw[if_pos k2,if_pos k2']
    split <;> omega
   ·rw[if_neg k2]
    split <;> split <;> omega
 ·unfold atU
  dsimp only
  rw[if_pos hu.ka,if_pos hv.ka,hu.da,hv.da]
  have a1:(if u.2.1.getD b false=true then min (0+u.1.getD b 0) (p b+M) else p b+M)≥n:=by
   split
   ·rename_i h;have:=h1 h;omega
   ·omega
  have a2:(if v.2.1.getD a false=true then min (n+v.1.getD a 0) (p a+M) else p a+M)≥0:=by
   split
   ·rename_i h;have:=h2 h;omega
   ·omega
  omega
theorem of_win {E:List ZV} {N a b:Nat} {u v:KSt} {q:Nat→Int} {n:Int} (hq:Feas E q) (hb:q b=q a+n) (hu:DS E N a u) (hv:DS E N b v) :
  (u.2.1.getD b false=true→n≤u.1.getD b 0)∧(v.2.1.getD a false=true→-n≤v.1.getD a 0):=by
 refine⟨fun h=>?_,fun h=>?_⟩
 ·have:=hu.lo q hq b h;omega
 ·have:=hv.lo q hq a h;omega
end Go.Proofs.Ythphnhmabieflab.Pr
set_option linter.unusedSimpArgs false
set_option linter.unusedVariables false
namespace Go.Proofs.Ythphnhmabieflab.Pr
open Go.RowKit Go.Proofs.YthphnhmabieflabW.PrintWords Go.Proofs.Ythphnhmabieflab.Ni
theorem shift_f {E:List ZV} {n:Nat} {q:Nat→Int} {T w:Int} (hE:Zav E n) (hq:Feas E q) (hw:∀e∈E,-w≤e.f2) (hgap:∀v,v<n→q v≤T∨T+w+1≤q v):Feas E (fun v=>if q v≤T then q v else q v - 1):=by
 intro e he
 have h1:=hq e he
 have h2:=hw e he
 obtain⟨a0,a1,b0,b1⟩:=hE e he
 have g0:=hgap e.f0.toNat (by omega)
 have g1:=hgap e.f1.toNat (by omega)
 dsimp only
 split <;> split <;> omega
def sumQ (q:Nat→Int):Nat→Nat
 | 0=>0
 | m+1=>(q m).toNat+sumQ q m
theorem sumQ_le {q p:Nat→Int}:∀(m:Nat),(∀v,v<m→(p v).toNat≤(q v).toNat)→sumQ p m≤sumQ q m
 | 0,_=>Nat.le_refl _
 | m+1,h=>by
  have h1:=h m (by omega)
  have h2:=sumQ_le m (fun v hv=>h v (by omega))
  rw[sumQ,sumQ];omega
theorem sumQ_lt {q p:Nat→Int}:∀(m e:Nat),e<m→(∀v,v<m→(p v).toNat≤(q v).toNat)→(p e).toNat<(q e).toNat→sumQ p m<sumQ q m
 | m+1,e,he,h,hl=>by
  rw[sumQ,sumQ]
  by_cases c:e=m
  ·subst c
   have:=sumQ_le e (fun v hv=>h v (by omega))
   omega
  ·have h1:=h m (by omega)
   have h2:=sumQ_lt m e (by omega) (fun v hv=>h v (by omega)) hl
   omega
theorem band {n e:Nat} {q:Nat→Int} {M w:Int} (hn:n≤5) (he:e<n) (hM:0≤M) (hw:0≤w) (h0:q 0=0) (hb:M+5 * (w+1)<q e):∃T,M≤T∧T+w+1≤q e∧∀v,v<n→q v≤T∨T+w+1≤q v:=by
 by_cases c:∃T,M≤T∧T+w+1≤q e∧∀v,v<n→q v≤T∨T+w+1≤q v
 ·exact c
 ·exfalso
  have key:∀T,M≤T→T+w+1≤q e→∃v,v<n∧T<q v∧q v≤T+w:=fun T h1 h2=>by
   by_cases d:∃v,v<n∧T<q v∧q v≤T+w
   ·exact d
   ·refine absurd ⟨T,h1,h2,fun v hv=>?_⟩ c
    by_cases h3:q v≤T
    ·exact .inl h3
    ·refine .inr ?_
     by_cases h4:q v≤T+w
     ·exact absurd ⟨v,hv,by omega,h4⟩ d
     ·omega
  obtain⟨v0,a0,b0,c0⟩:=key M (by omega) (by omega)
  obtain⟨v1,a1,b1,c1⟩:=key (M+(w+1)) (by omega) (by omega)
  obtain⟨v2,a2,b2,c2⟩:=key (M+2 * (w+1)) (by omega) (by omega)
  obtain⟨v3,a3,b3,c3⟩:=key (M+3 * (w+1)) (by omega) (by omega)
  have ne:∀{a b:Nat},q a<q b→a≠b:=fun h e=>by subst e;omega
  have hnd:[0,v0,v1,v2,v3,e].Nodup:=by
   simp only[List.nodup_cons,List.mem_cons,List.not_mem_nil,or_false,not_or,List.nodup_nil,not_false_eq_true,and_true]
   exact⟨⟨ne (by omega),ne (by omega),ne (by omega),ne (by omega),ne (by omega)⟩,⟨ne (by omega),ne (by omega),ne (by omega),ne (by omega)⟩,⟨ne (by omega),ne (by omega),ne (by omega)⟩,⟨ne (by omega),ne (by omega)⟩,ne (by omega)⟩
  have:=pigN n _ hnd (fun x hx=>by
   simp only[List.mem_cons,List.not_mem_nil,or_false] at hx
   omega)
  simp only[List.length_cons,List.length_nil] at this
  omega
theorem near {E:List ZV} {n e:Nat} {M w:Int} (hE:Zav E n) (hn:n≤5) (he:e<n) (hM:0≤M) (h0w:0≤w) (hw:∀x∈E,-w≤x.f2):∀(m:Nat) (q:Nat→Int),sumQ q n≤m→q 0=0→Feas E q→∃p,Feas E p∧(∀v,q v≤M→p v=q v)∧p e≤M+5 * (w+1)∧p e≤q e:=by
 intro m
 induction m with
 | zero=>
  intro q hs h0 hq
  refine⟨q,hq,fun _ _=>rfl,?_,Int.le_refl _⟩
  by_cases c:M+5 * (w+1)<q e
  ·have:=sumQ_lt (q:=q) (p:=fun v=>if v=e then 0 else q v) n e he (fun v _=>by split <;> simp) (by rw[if_pos rfl];omega)
   omega
  ·omega
 | succ m ih=>
  intro q hs h0 hq
  by_cases c:M+5 * (w+1)<q e
  ·obtain⟨T,h1,h2,h3⟩:=band hn he hM h0w h0 c
   have hlt:=sumQ_lt (q:=q) (p:=fun v=>if q v≤T then q v else q v - 1) n e he (fun v _=>by split <;> omega) (by rw[if_neg (by omega)];omega)
   obtain⟨p,p1,p2,p3,p4⟩:=ih (fun v=>if q v≤T then q v else q v - 1) (by omega) (by rw[if_pos (by omega)];exact h0) (shift_f hE hq hw h3)
   refine⟨p,p1,fun v hv=>?_,p3,?_⟩
   ·have h4:=p2 v
    rw[if_pos (by omega)] at h4
    exact h4 hv
   ·rw[if_neg (by omega)] at p4
    omega
  ·exact⟨q,hq,fun _ _=>rfl,by omega,Int.le_refl _⟩
end Go.Proofs.Ythphnhmabieflab.Pr
namespace Go.Proofs.Ythphnhmabieflab.Pr
open Go.RowKit Go.Proofs.YthphnhmabieflabW.PrintWords Go.Proofs.Ythphnhmabieflab.Ni
theorem and255 (n:Int):bits .and .i64 n 255=n % 256:=by
 have h255:(BitVec.ofInt 64 255).toNat=2 ^ 8 - 1:=by decide
 have key:(BitVec.ofInt 64 n &&& BitVec.ofInt 64 255).toNat=(n % ((2 ^ 64:Nat):Int)).toNat % 2 ^ 8:=by
  rw[BitVec.toNat_and,BitVec.toNat_ofInt,h255,Nat.and_two_pow_sub_one_eq_mod]
 show IntKind.i64.wrap ((BitVec.ofInt 64 n &&& BitVec.ofInt 64 255).toNat:Nat)=n % 256
 rw[key,IntKind.wrap_i64]
 omega
def Cur (b:List Int) (i:Int):Prop:=b.length≤1048576∧0≤i∧i≤b.length
theorem byte_f {b:List Int} {i h:Int} (hc:Cur b i):∃x i' h',ZX.f b i h=some (x,i',h')∧0≤x∧x≤255∧Cur b i':=by
 obtain⟨hb,h0,hi⟩:=hc
 unfold ZX.f
 simp only[and255]
 by_cases c:i<(b.length:Int)
 ·rw[if_pos c,if_pos h0]
  refine⟨_,_,_,rfl,by omega,by omega,hb,?_,?_⟩
  ·rw[Zal (by omega) (by omega)];omega
  ·rw[Zal (by omega) (by omega)];omega
 ·rw[if_neg c]
  exact⟨_,_,_,rfl,by omega,by omega,hb,h0,hi⟩
theorem Zbm {b:List Int} {i h n:Int} (hc:Cur b i) (h1:1≤n) (h2:n≤256):∃x i' h',ZW.f b i h n=some (x,i',h')∧0≤x∧x<n∧Cur b i':=by
 obtain⟨x,i',h',e,x0,x1,hc'⟩:=byte_f (h:=h) hc
 unfold ZW.f
 rw[if_neg (by omega),if_pos h2,e,Zi,if_neg (by omega)]
 refine⟨_,_,_,rfl,?_,?_,hc'⟩
 ·exact Int.tmod_nonneg _ x0
 ·simp only;rw[Int.tmod_eq_emod_of_nonneg x0];exact Int.emod_lt_of_pos _ (by omega)
theorem new_l {b:List Int}:∀(d:Nat) (i h:Int) (k:Nat),0≤i→i≤4000→4000 - i≤d→d<k→∃r3,Zak.l0 k b h i=some (b,0,r3)
 | 0,i,h,k,h0,h4,hd,hk=>by
  obtain⟨m,rfl⟩:∃m,k=m+1:=⟨k - 1,by omega⟩
  simp only[Zak.l0]
  by_cases c:i<(b.length:Int)
  ·rw[if_pos c,if_neg (by omega)];exact⟨_,rfl⟩
  ·rw[if_neg c];exact⟨_,rfl⟩
 | d+1,i,h,k,h0,h4,hd,hk=>by
  obtain⟨m,rfl⟩:∃m,k=m+1:=⟨k - 1,by omega⟩
  simp only[Zak.l0]
  by_cases c:i<(b.length:Int)
  ·rw[if_pos c]
   by_cases c2:i<4000
   ·rw[if_pos c2,if_pos h0,Zal (i:=i+1) (by omega) (by omega)]
    exact new_l d (i+1) _ m (by omega) (by omega) (by omega) (by omega)
   ·rw[if_neg c2];exact⟨_,rfl⟩
  ·rw[if_neg c];exact⟨_,rfl⟩
theorem new_f {b:List Int} (hb:b.length≤1048576) (k:Nat) (hk:2 ^ 64≤k):∃h,Zak.f k b=some (b,0,h)∧Cur b 0:=by
 unfold Zak.f
 obtain⟨h,e⟩:=new_l (b:=b) 4000 0 (wrap64 (1974+(b.length:Int))) k (by omega) (by omega) (by omega) (by omega)
 exact⟨h,e,hb,by omega,by omega⟩
theorem go_f {b:List Int}:∀(m:Nat) (i h:Int),Cur b i→∃i' h',ZaB.go m b i h=some (b,i',h')∧Cur b i'
 | 0,i,h,hc=>⟨i,h,rfl,hc⟩
 | m+1,i,h,hc=>by
  obtain⟨x,i',h',e,_,_,hc'⟩:=byte_f (h:=h) hc
  obtain⟨i2,h2,e2,hc2⟩:=go_f m i' h' hc'
  refine⟨i2,h2,?_,hc2⟩
  show(ZX.f b i h).bind _=_
  rw[e,Zi];exact e2
theorem l29New_f {b:List Int} (hb:b.length≤1048576) (n:Int) (hn:n≤1048576) (k:Nat) (hk:2 ^ 64≤k):∃i h,ZaB.f k b n=some (b,i,h)∧Cur b i:=by
 obtain⟨h0,e0,hc⟩:=new_f hb k hk
 obtain⟨i,h,e,hc2⟩:=go_f n.toNat 0 h0 hc
 refine⟨i,h,?_,hc2⟩
 unfold ZaB.f
 rw[if_pos hn,e0,Zi];exact e
theorem num_f {b:List Int} (hb:b.length≤1048576) (n:Int) (hn:n≤1048576) (k:Nat) (hk:2 ^ 64≤k):∃x,Za9.f k b n=some x∧0≤x∧x≤65535:=by
 obtain⟨i,h,e,hc⟩:=l29New_f hb n hn k hk
 obtain⟨x,i1,h1,e1,a0,a1,hc1⟩:=byte_f (h:=h) hc
 obtain⟨y,i2,h2,e2,b0,b1,hc2⟩:=byte_f (h:=h1) hc1
 unfold Za9.f
 rw[e,Zi]
 simp only
 rw[e1,Zi]
 simp only
 rw[e2,Zi]
 refine⟨_,rfl,?_,?_⟩
 ·simp only;rw[Zal (i:=x * 256) (by omega) (by omega),Zal (by omega) (by omega)];omega
 ·simp only;rw[Zal (i:=x * 256) (by omega) (by omega),Zal (by omega) (by omega)];omega
abbrev Zaf:=S84
theorem rdK_nat (l:List Zaf) (i:Nat):ZA l (i:Int)=l.getD i z84:=by unfold ZA;rw[Int.toNat_natCast]
theorem ZbC {n:Int} {L:List Zaf} (h:Zac n L=true):1≤n∧n≤8∧L.length≤40∧∀x∈L,ZaS n x=true:=by
 unfold Zac at h
 simp only[Bool.and_eq_true,Bool.not_eq_true',decide_eq_false_iff_not] at h
 obtain⟨h1,h2,h3,h4⟩:=h
 refine⟨by omega,by omega,by omega,fun x hx=>?_⟩
 have:=List.any_eq_false.1 h4 x hx
 simpa using this
def Zbl (x:Zaf):List ZV:=(if x.f2.f1=1000000 then[] else[⟨x.f0,x.f1,x.f2.f1⟩]) ++ (if x.f2.f0=-1000000 then[] else[⟨x.f1,x.f0,wrap64 (-x.f2.f0)⟩])
def Z3:List Zaf→List ZV
 | []=>[]
 | x :: t=>Zbl x ++ Z3 t
def linksL (i:Nat) (x:Zaf):List Int:=(if x.f2.f1=1000000 then[] else[(i:Int)]) ++ (if x.f2.f0=-1000000 then[] else[(i:Int)])
def linksB:Nat→List Zaf→List Int
 | _,[]=>[]
 | i,x :: t=>linksL i x ++ linksB (i+1) t
theorem edgesL_len (x:Zaf):(Zbl x).length≤2:=by unfold Zbl;split <;> split <;> simp
theorem Zdk:∀L:List Zaf,(Z3 L).length≤2 * L.length
 | []=>Nat.le_refl _
 | x :: t=>by have:=Zdk t;have:=edgesL_len x;rw[Z3,List.length_append,List.length_cons];omega
theorem pgraph_l (n:Int) (L:List Zaf) (hl:L.length≤1048576) (k:Nat) (hk:2 ^ 64≤k):Z5.l0 k [] L (L.length:Int) 0 n []=some (n,Z3 L,linksB 0 L):=by
 have key:=Zcm L.length (fun k i=>∀(a:List ZV) (b:List Int),a.length≤2 * i→b.length≤2 * i→Z5.l0 k b L (L.length:Int) (i:Int) n a=some (n,a ++ Z3 (L.drop i),b ++ linksB i (L.drop i))) 0
  (fun k _ a b _ _=>by
   simp only[Z5.l0]
   rw[if_neg (by omega),List.drop_length,Z3,linksB,List.append_nil,List.append_nil])
  (fun k i _ hi ih a b ha hb=>by
   simp only[Z5.l0]
   rw[if_pos (by omega),if_pos (by omega),if_pos (by omega),Zbf hi (by omega),Zbo hi z84,Z3,linksB,rdK_nat]
   generalize L.getD i z84=y
   unfold Zbl linksL
   by_cases h1:y.f2.f1=1000000
   ·by_cases h2:y.f2.f0=-1000000
    ·simp only[if_pos h1,if_pos h2]
     rw[ih a b (by omega) (by omega)];simp
    ·simp only[if_pos h1,if_neg h2]
     rw[if_pos (by omega),if_pos (by omega),ih _ _ (by simp;omega) (by simp;omega)];simp
   ·by_cases h2:y.f2.f0=-1000000
    ·simp only[if_neg h1,if_pos h2,Zi]
     rw[if_pos (by omega),if_pos (by omega),ih _ _ (by simp;omega) (by simp;omega)];simp
    ·simp only[if_neg h1,if_neg h2,Zi]
     rw[if_pos (by omega),if_pos (by omega),if_pos (by simp;omega),if_pos (by simp;omega),ih _ _ (by simp;omega) (by simp;omega)];simp) 0 k (Nat.zero_le _) (by omega)
 simpa using key [] [] (by simp) (by simp)
def gofB (n:Int) (L:List Zaf):Int×List ZV:=if Zac n L=true then(n,Z3 L) else(0,[])
theorem ZbS (n:Int) (L:List Zaf) (k:Nat) (hk:2 ^ 64≤k):ZaP.f k n L=some (gofB n L):=by
 unfold ZaP.f gofB Z8.f
 rw[Zi]
 by_cases h:Zac n L=true
 ·rw[if_pos h,if_pos h,Z5.f,pgraph_l n L (by have:=ZbC h;omega) k hk];rfl
 ·rw[if_neg h,if_neg h]
def ncF (n:Int) (E:List ZV):List Int:=if Za0 n E=true then ncB n.toNat E else[]
def ZbX (n:Int) (L:List Zaf):Bool:=Zac n L && (ncF n (Z3 L)).isEmpty
theorem Zbv (n:Int) (L:List Zaf) (k:Nat) (hk:2 ^ 64≤k):Zad.f k n L=some (ZbX n L):=by
 unfold Zad.f ZbX Z8.f
 rw[Zi]
 by_cases h:Zac n L=true
 ·rw[if_pos h,ZbS n L k hk,Zi,gofB,if_pos h,h,Zao.f,Zi];rfl
 ·rw[if_neg h,Bool.eq_false_iff.2 h];rfl
def clB (x:Int):Int:=max (-1000000) (min x 1000000)
theorem pcl_f (x:Int):Za7.f x=some (clB x):=by
 unfold Za7.f clB mx mn
 congr 1
 split <;> split <;> omega
def Zbp (R:Nat→List Int):Nat→Nat→List Int
 | _,0=>[]
 | i,d+1=>(R i).map clB ++ Zbp R (i+1) d
theorem rowsB_len (R:Nat→List Int) (n:Nat) (h:∀i,(R i).length=n):∀(d i:Nat),(Zbp R i d).length=d * n
 | 0,_=>by simp[Zbp]
 | d+1,i=>by rw[Zbp,List.length_append,List.length_map,h i,rowsB_len R n h d,Nat.succ_mul];omega
theorem pclose_l (n:Nat) (E:List ZV) (R:Nat→List Int) (hn:n≤8) (hR:∀i,(R i).length=n) (hf:∀i,i<n→Zan.f (n:Int) E (i:Int)=some (R i,true)):∀(d i k:Nat) (acc:List Int),i+d=n→2 ^ 64+d * 100≤k→acc.length≤i * n→ZG.l0 k (i:Int) (n:Int) E (n:Int) acc=some ((n:Int),acc ++ Zbp R i d,true):=by
 intro d
 induction d with
 | zero=>
  intro i k acc hi hk _
  obtain⟨k,rfl⟩:∃m,k=m+1:=⟨k - 1,by omega⟩
  simp only[ZG.l0]
  rw[if_neg (by omega),Zbp,List.append_nil]
 | succ d ih=>
  intro i k acc hi hk ha
  obtain⟨k,rfl⟩:∃m,k=m+1:=⟨k - 1,by omega⟩
  have hin:i * n≤64:=Nat.le_trans (Nat.mul_le_mul (show i≤8 by omega) hn) (by decide)
  have hin2:(i+1) * n=i * n+n:=Nat.succ_mul i n
  simp only[ZG.l0]
  rw[if_pos (by omega),hf i (by omega),Zi,if_pos rfl,Zbp]
  have key:=Zcm n (fun k j=>∀b:List Int,b.length≤i * n+j→ZG.l1 k (i:Int) (R i) ((R i).length:Int) (j:Int) (n:Int) E (n:Int) b=some ((n:Int),b ++ (((R i).drop j).map clB ++ Zbp R (i+1) d),true)) (2 ^ 64+d * 100)
   (fun k hk b hb=>by
    simp only[ZG.l1]
    rw[if_neg (by rw[hR];omega),Zbf (n:=100) (by omega) (by omega),ih (i+1) k b (by omega) hk (by omega),List.drop_of_length_le (by rw[hR];omega)];rfl)
   (fun k j hk hj ihj b hb=>by
    simp only[ZG.l1]
    rw[if_pos (by rw[hR];omega),if_pos (by omega),if_pos (by rw[hR];omega),pcl_f,Zi,if_pos (by omega),Zbf hj (by omega),ihj _ (by simp;omega),Zbo (show j<(R i).length by rw[hR];exact hj) 0,Za3]
    simp) 0 k (Nat.zero_le _) (by omega)
  have:=key acc (by omega)
  simpa using this
def tcell (n i:Nat) (x:Int):Bool:=decide (-1000000≤x) && (decide (x≤1000000) && (!(decide (i % (n+1)=0)) || decide (x=0)))
def ZbI (n:Nat):Nat→List Int→Bool
 | _,[]=>true
 | i,x :: t=>tcell n i x && ZbI n (i+1) t
theorem diag {n i:Nat} (h1:1≤n) (h8:n≤8) (hi:i<n * n):(wrap64 (Int.tdiv (i:Int) (n:Int))=Int.tmod (i:Int) (n:Int))↔i % (n+1)=0:=by
 rw[Int.tdiv_eq_ediv_of_nonneg (by omega),Int.tmod_eq_emod_of_nonneg (by omega)]
 have:n=1∨n=2∨n=3∨n=4∨n=5∨n=6∨n=7∨n=8:=by omega
 rcases this with rfl|rfl|rfl|rfl|rfl|rfl|rfl|rfl
 all_goals
  rw[Zal (by omega) (by omega)]
  omega
theorem ptab_l (n:Nat) (C:List Int) (h8:n≤8) (hC:C.length=n * n) (k:Nat) (hk:2 ^ 64≤k):Z1.l0 k C (C.length:Int) 0 (n:Int) C=some (ZbI n 0 C):=by
 have hb:n * n≤64:=Nat.le_trans (Nat.mul_le_mul h8 h8) (by decide)
 have key:=Zcm C.length (fun k i=>Z1.l0 k C (C.length:Int) (i:Int) (n:Int) C=some (ZbI n i (C.drop i))) 0
  (fun k _=>by
   simp only[Z1.l0]
   rw[if_neg (by omega),List.drop_length];rfl)
  (fun k i _ hi ih=>by
   have hn:1≤n:=by
    rcases Nat.eq_zero_or_pos n with h|h
    ·subst h;omega
    ·exact h
   simp only[Z1.l0]
   rw[if_pos (by omega),if_pos (by omega),if_pos (by omega),if_neg (show ¬(n:Int)=0 by omega),Za3,Zbf hi (by omega),ih,Zbo hi 0,ZbI,tcell]
   generalize C.getD i 0=x
   by_cases a:x < -1000000
   ·rw[if_pos a,Zf (show ¬-1000000≤x by omega)];rfl
   rw[if_neg a,Ze (show -1000000≤x by omega),Bool.true_and]
   by_cases b:x > 1000000
   ·rw[if_pos b,Zf (show ¬x≤1000000 by omega)];rfl
   rw[if_neg b,Ze (show x≤1000000 by omega),Bool.true_and]
   by_cases c:i % (n+1)=0
   ·rw[if_pos ((diag hn h8 (by omega)).2 c),Ze c]
    by_cases d:x=0
    ·rw[if_pos d,Ze d];rfl
    ·rw[if_neg d,Zf d];rfl
   ·rw[if_neg (fun h=>c ((diag hn h8 (by omega)).1 h)),Zf c];rfl) 0 k (Nat.zero_le _) (by omega)
 simpa using key
theorem nsq {n:Nat} (h8:n≤8):wrap64 ((n:Int) * (n:Int))=((n * n:Nat):Int):=by
 have hb:n * n≤64:=Nat.le_trans (Nat.mul_le_mul h8 h8) (by decide)
 rw[show(n:Int) * (n:Int)=((n * n:Nat):Int) by simp,Zal (by omega) (by omega)]
theorem ptab_f (n:Nat) (C:List Int) (h8:n≤8) (hC:C.length=n * n) (k:Nat) (hk:2 ^ 65≤k):Z1.f k (n:Int) C=some (ZbI n 0 C):=by
 obtain⟨k,rfl⟩:∃m,k=m+1:=⟨k - 1,by omega⟩
 unfold Z1.f
 rw[if_neg (by omega),if_neg (by omega)]
 simp only[Z1.j0]
 rw[nsq h8,hC,if_neg (by simp),← hC,ptab_l n C h8 hC k (by omega)]
theorem cellI {n:Nat} {a b:Int} (h8:n≤8) (ha:inN (n:Int) a=true) (hb:inN (n:Int) b=true):0≤wrap64 (wrap64 (a * (n:Int))+b)∧wrap64 (wrap64 (a * (n:Int))+b)<((n * n:Nat):Int):=by
 have h1:=ZbR.1 ha
 have h2:=ZbR.1 hb
 obtain⟨a,rfl⟩:=Int.eq_ofNat_of_zero_le h1.1
 obtain⟨b,rfl⟩:=Int.eq_ofNat_of_zero_le h2.1
 have h3:a * n≤(n - 1) * n:=Nat.mul_le_mul_right n (by omega)
 have h4:(n - 1) * n+n=n * n:=by
  obtain⟨m,rfl⟩:∃m,n=m+1:=⟨n - 1,by omega⟩
  rw[Nat.add_sub_cancel,Nat.succ_mul]
 have hb':n * n≤64:=Nat.le_trans (Nat.mul_le_mul h8 h8) (by decide)
 rw[show(a:Int) * (n:Int)=((a * n:Nat):Int) by simp,Zal (i:=((a * n:Nat):Int)) (by omega) (by omega),Zal (by omega) (by omega)]
 omega
theorem Zcy {n:Int} {L:List Zaf} (h:Zac n L=true):Za0 n (Z3 L)=true:=by
 obtain⟨h1,h8,h40,hl⟩:=ZbC h
 have hm:∀M:List Zaf,(∀x∈M,ZaS n x=true)→∀e∈Z3 M,Zbc n e=true:=by
  intro M
  induction M with
  | nil=>intro _ e he;cases he
  | cons x t ih=>
   intro hM e he
   rw[Z3] at he
   rcases List.mem_append.1 he with he|he
   ·have hx:=hM x (by simp)
    unfold ZaS inN ZbF at hx
    simp only[Bool.and_eq_true,Bool.not_eq_true',decide_eq_true_eq,decide_eq_false_iff_not] at hx
    obtain⟨⟨a1,a2⟩,⟨a3,a4⟩,b1,b2,b3,b4,b5⟩:=hx
    unfold Zbl at he
    unfold Zbc inN wgtB
    simp only[Bool.and_eq_true,decide_eq_true_eq]
    rcases List.mem_append.1 he with he|he
    ·split at he
     ·cases he
     ·rw[List.mem_singleton] at he;subst he
      exact⟨⟨a1,a2⟩,⟨a3,a4⟩,by simp only;omega,by simp only;omega⟩
    ·split at he
     ·cases he
     ·rw[List.mem_singleton] at he;subst he
      refine⟨⟨a3,a4⟩,⟨a1,a2⟩,?_⟩
      simp only
      rw[Zal (by omega) (by omega)];omega
   ·exact ih (fun y hy=>hM y (by simp[hy])) e he
 have hlen:=Zdk L
 unfold Za0
 rw[Zf (show ¬n<0 by omega),Zf (show ¬8<n by omega),Zf (show ¬80<(Z3 L).length by omega)]
 simp only[Bool.not_false,Bool.true_and,Bool.not_eq_true',List.any_eq_false]
 intro e he
 rw[hm L hl e he];simp
theorem Zcb (n:Int) (L:List Zaf) (tm:List Int):Zas.f n L tm=some (Zb1 n L tm):=rfl
theorem partB_bd {n:Int} {L:List Zaf} {tm:List Int} (h:Zb1 n L tm=true):Zac n L=true∧(tm.length:Int)=n∧tm.getD 0 0=0∧∀x∈tm,-1≤x∧x<1000000:=by
 unfold Zb1 at h
 simp only[Bool.and_eq_true,decide_eq_true_eq,Bool.not_eq_true'] at h
 refine⟨h.1,h.2.1,h.2.2.1,fun x hx=>?_⟩
 have:=List.any_eq_false.1 h.2.2.2 x hx
 simpa [Zbu] using this
def fixL:Nat→List Int→List Zaf
 | _,[]=>[]
 | i,x :: t=>(if 0<i∧x≠-1 then[⟨0,(i:Int),⟨x,x⟩⟩] else[]) ++ fixL (i+1) t
theorem fixL_len:∀(i:Nat) (t:List Int),(fixL i t).length≤t.length
 | _,[]=>Nat.le_refl _
 | i,x :: t=>by
  have:=fixL_len (i+1) t
  unfold fixL
  split <;> simp <;> omega
def fixB (n:Int) (L:List Zaf) (tm:List Int):Int×List Zaf×Bool:=
 if Zb1 n L tm=true then(if Zac n (L ++ fixL 0 tm)=true then(n,L ++ fixL 0 tm,true) else(0,[],false)) else(0,[],false)
theorem pfix_l (n:Int) (L:List Zaf) (tm:List Int) (hl:tm.length≤1048576) (hL:L.length≤1048576) (k:Nat) (hk:2 ^ 64≤k):ZS.l0 k tm (tm.length:Int) 0 n L=some (if Zac n (L ++ fixL 0 tm)=true then(n,L ++ fixL 0 tm,true) else(0,[],false)):=by
 have key:=Zcm tm.length (fun k i=>∀M:List Zaf,M.length≤1048576+i→ZS.l0 k tm (tm.length:Int) (i:Int) n M=some (if Zac n (M ++ fixL i (tm.drop i))=true then(n,M ++ fixL i (tm.drop i),true) else(0,[],false))) 0
  (fun k hk M _=>by
   simp only[ZS.l0]
   rw[if_neg (by omega),List.drop_length,Z8.f,Zi,show fixL tm.length []=[] from rfl,List.append_nil]
   split <;> rfl)
  (fun k i _ hi ih M hM=>by
   simp only[ZS.l0]
   rw[if_pos (by omega),if_pos (by omega),if_pos (by omega),Zbf hi (by omega),Za3,Zbo hi 0,fixL]
   by_cases h0:0<i
   ·rw[if_pos (by omega)]
    by_cases h1:tm.getD i 0=-1
    ·rw[if_pos h1,if_neg (show ¬(0<i∧tm.getD i 0≠-1) from fun h=>h.2 h1),ih M (by omega),List.nil_append]
    ·rw[if_neg h1,if_pos (by omega),if_pos (show 0<i∧tm.getD i 0≠-1 from⟨h0,h1⟩),ih _ (by simp;omega),← List.append_assoc]
   ·rw[if_neg (by omega),if_neg (show ¬(0<i∧tm.getD i 0≠-1) from fun h=>h0 h.1),ih M (by omega),List.nil_append]) 0 k (Nat.zero_le _) (by omega)
 simpa using key L (by omega)
theorem Zbx (n:Int) (L:List Zaf) (tm:List Int) (hl:tm.length≤1048576) (hL:L.length≤1048576) (k:Nat) (hk:2 ^ 68≤k):ZS.f k n L tm=some (fixB n L tm):=by
 unfold ZS.f fixB
 rw[Zcb,Zi]
 have hc:ZaO.f L=some L:=by
  unfold ZaO.f
  rw[if_pos (by omega)]
 rw[hc,Zi,pfix_l n L tm hl hL k (by omega)]
 split <;> rfl
end Go.Proofs.Ythphnhmabieflab.Pr
set_option linter.unusedVariables false
set_option linter.unusedSimpArgs false
namespace Go.Proofs.Ythphnhmabieflab.Pr
open Go.RowKit Go.Proofs.YthphnhmabieflabW.PrintWords Go.Proofs.Ythphnhmabieflab.Ni
def ZaR (L:List Zaf):Prop:=∀x∈L,(x.f2.f1=1000000∨-1000≤x.f2.f1∧x.f2.f1≤1000)∧(x.f2.f0=-1000000∨-1000≤x.f2.f0∧x.f2.f0≤1000)
theorem ZaR.w:∀{L:List Zaf},ZaR L→ZbM (Z3 L)
 | [],_,e,he=>by cases he
 | x :: t,h,e,he=>by
  rw[Z3] at he
  rcases List.mem_append.1 he with he|he
  ·obtain⟨h1,h2⟩:=h x (by simp)
   unfold Zbl at he
   rcases List.mem_append.1 he with he|he
   ·split at he
    ·cases he
    ·rw[List.mem_singleton] at he;subst he
     simp only;omega
   ·split at he
    ·cases he
    ·rw[List.mem_singleton] at he;subst he
     simp only
     rw[Zal (by omega) (by omega)];omega
  ·exact ZaR.w (fun y hy=>h y (by simp[hy])) e he
theorem Zcz:∀(L M:List Zaf),Z3 (L ++ M)=Z3 L ++ Z3 M
 | [],M=>rfl
 | x :: t,M=>by rw[List.cons_append,Z3,Z3,Zcz t M,List.append_assoc]
theorem Feas.app {E F:List ZV} {q:Nat→Int}:Feas (E ++ F) q↔Feas E q∧Feas F q:=
 ⟨fun h=>⟨fun e he=>h e (List.mem_append.2 (.inl he)),fun e he=>h e (List.mem_append.2 (.inr he))⟩,fun h e he=>(List.mem_append.1 he).elim (h.1 e) (h.2 e)⟩
theorem Zcc {n:Int} {L:List Zaf} (hs:Zac n L=true) (hw:ZaR L):ZbX n L=true↔∃q,Feas (Z3 L) q:=by
 have hg:=Zcy hs
 obtain⟨g0,g8,g80,gin⟩:=ZbK hg
 obtain⟨s1,_,_,_⟩:=ZbC hs
 obtain⟨n,rfl⟩:=Int.eq_ofNat_of_zero_le g0
 have hE:Zav (Z3 L) n:=fun e he=>by have:=gin e he;omega
 unfold ZbX ncF
 rw[hs,if_pos hg,Bool.true_and,Int.toNat_natCast,List.isEmpty_iff]
 constructor
 ·intro h
  exact nc_pot hE (ZaR.w hw).w (by omega) (by omega) (by omega) h
 ·rintro⟨q,hq⟩
  exact pot_nc hE (ZaR.w hw).w (by omega) (by omega) (by omega) hq
theorem Zdb (n:Nat):∀(C:List Int) (i:Nat),(∀j,j<C.length→tcell n (i+j) (C.getD j 0)=true)→ZbI n i C=true
 | [],_,_=>rfl
 | x :: t,i,h=>by
  rw[ZbI,Bool.and_eq_true]
  refine⟨by have:=h 0 (by simp);simpa using this,Zdb n t (i+1) (fun j hj=>?_)⟩
  have:=h (j+1) (by simpa using hj)
  rw[show i+(j+1)=i+1+j by omega] at this
  simpa using this
theorem rowsB_at {R:Nat→List Int} {n:Nat} (hR:∀i,(R i).length=n):∀(d i0 i j:Nat),i<d→j<n→(Zbp R i0 d).getD (i * n+j) 0=clB ((R (i0+i)).getD j 0)
 | 0,_,_,_,h,_=>by omega
 | d+1,i0,0,j,_,hj=>by
  show(Zbp R i0 (d+1)).getD (0 * n+j) 0=clB ((R i0).getD j 0)
  rw[Zbp,Nat.zero_mul,Nat.zero_add,List.getD_eq_getElem?_getD,List.getElem?_append_left (by simpa [hR] using hj),List.getElem?_map,List.getD_eq_getElem?_getD,Zl (by rw[hR];exact hj)]
  rfl
 | d+1,i0,i+1,j,hi,hj=>by
  have e1:((R i0).map clB).length=n:=by simp[hR]
  have e2:(i+1) * n=n+i * n:=by rw[Nat.succ_mul];omega
  rw[Zbp,List.getD_eq_getElem?_getD,List.getElem?_append_right (by rw[e1];omega),e1,show(i+1) * n+j - n=i * n+j by omega,← List.getD_eq_getElem?_getD,rowsB_at hR d (i0+1) i j (by omega) hj,show i0+1+i=i0+(i+1) by omega]
def ZaY (u:KSt) (j:Nat):Int:=if u.2.1.getD j false=true then u.1.getD j 0 else 1000000
theorem cellU_f {E:List ZV} {N a:Nat} {u:KSt} (h:DS E N a u) {j:Nat} (hj:j<N):clB ((finB u).getD j 0)=ZaY u j:=by
 rw[finB_at (by rw[h.l1];exact hj)]
 have:=h.bd j
 unfold ZaY clB
 split <;> omega
theorem winOf {n:Nat} {L:List Zaf} {e:Nat} (hc:ZbX (n:Int) L=true) (hw:ZaR L) (he:e<n) (k:Nat) (hk:2 ^ 67≤k) :
  ∃lo hi:Int,ZaD.f k (n:Int) L (e:Int)=some (lo,hi,true)∧ZbF lo hi=true∧(∀x:Int,((lo=-1000000∨lo≤x)∧(hi=1000000∨x≤hi))↔∃q,Feas (Z3 L) q∧q e=q 0+x):=by
 have hs:Zac n L=true:=by unfold ZbX at hc;simp only[Bool.and_eq_true] at hc;exact hc.1
 have hg:=Zcy hs
 obtain⟨g0,g8,g80,gin⟩:=ZbK hg
 obtain⟨s1,_,_,_⟩:=ZbC hs
 have hE:Zav (Z3 L) n:=fun e he=>by have:=gin e he;omega
 have hww:=ZaR.w hw
 obtain⟨p,hp⟩:=(Zcc hs hw).1 hc
 have hnc:ncB n (Z3 L)=[]:=by
  unfold ZbX ncF at hc
  rw[hs,if_pos hg,Bool.true_and] at hc
  exact List.isEmpty_iff.1 hc
 have hall:∀a:Nat,a<n→∃u,isf (Z3 L) (n+1) (kst0 n a)=some u∧DS (Z3 L) n a u:=fun a ha=>by
  have hst:=bf_still (a:=a) hE hww.w (by omega) (by omega) (by omega) p hp
  obtain⟨m,hm⟩:∃m,n=m+1:=⟨n - 1,by omega⟩
  rw[hm] at hst
  obtain⟨u,hu⟩:=isf_of m _ hst
  rw[← hm] at hu
  exact⟨u,Zct hu,DS.of hE hww (by omega) ha (show n+1≤9 by omega) (Zct hu) hp⟩
 have hch:∃U:Nat→KSt,∀a,a<n→isf (Z3 L) (n+1) (kst0 n a)=some (U a)∧DS (Z3 L) n a (U a):=
  ⟨fun a=>if h:a<n then(hall a h).choose else kst0 n a,fun a ha=>by dsimp only;rw[dif_pos ha];exact(hall a ha).choose_spec⟩
 obtain⟨U,hU⟩:=hch
 obtain⟨R,hRd⟩:∃R:Nat→List Int,∀a,R a=if a<n then finB (U a) else List.replicate n 0:=⟨_,fun _=>rfl⟩
 have hRl:∀a,(R a).length=n:=fun a=>by
  rw[hRd]
  split
  ·rename_i h;rw[Zcw,(hU a h).2.l1]
  ·simp
 have hp1:=pclose_l n (Z3 L) R (by omega) hRl (fun i hi=>by
  unfold Zan.f
  rw[if_pos ⟨hg,ZbR.2 ⟨by omega,by omega⟩⟩,Int.toNat_natCast]
  unfold sfB
  rw[Int.toNat_natCast,Int.toNat_natCast,(hU i hi).1,hRd,if_pos hi]) n 0 k [] (by omega) (by omega) (by simp)
 have hlen:=rowsB_len R n hRl n 0
 have hat:∀i j,i<n→j<n→(Zbp R 0 n).getD (i * n+j) 0=ZaY (U i) j:=fun i j hi hj=>by
  rw[rowsB_at hRl n 0 i j hi hj,Nat.zero_add,hRd,if_pos hi,cellU_f (hU i hi).2 hj]
 have hcu:∀i j,i<n→-740000≤ZaY (U i) j∧ZaY (U i) j≤1000000:=fun i j hi=>by
  have:=(hU i hi).2.bd j
  unfold ZaY
  split <;> omega
 have hn0:0<n:=by omega
 have htab:ZbI n 0 (Zbp R 0 n)=true:=Zdb n _ 0 (fun j hj=>by
  rw[hlen] at hj
  have hd:j / n<n:=Nat.div_lt_of_lt_mul hj
  have hm:j % n<n:=Nat.mod_lt _ hn0
  have hjj:j=j / n * n+j % n:=by have:=Nat.div_add_mod j n;rw[Nat.mul_comm] at this;omega
  have hv:=hat (j / n) (j % n) hd hm
  rw[← hjj] at hv
  have hb:=hcu (j / n) (j % n) hd
  rw[Nat.zero_add,hv]
  unfold tcell
  rw[Ze (show(-1000000:Int)≤ZaY (U (j / n)) (j % n) by omega),Ze (show ZaY (U (j / n)) (j % n)≤1000000 by omega),Bool.true_and,Bool.true_and]
  by_cases h0:j % (n+1)=0
  ·have hdm:j / n=j % n:=by
    have h2:=(diag (n:=n) (i:=j) (by omega) (by omega) hj).2 h0
    rw[show Int.tdiv (j:Int) (n:Int)=((j / n:Nat):Int) from rfl,show Int.tmod (j:Int) (n:Int)=((j % n:Nat):Int) from rfl] at h2
    revert h2 hd hm
    generalize j / n=q
    generalize j % n=r
    intro hd hm h2
    rw[Zal (by omega) (by omega)] at h2
    omega
   have:ZaY (U (j / n)) (j % n)=0:=by
    rw[← hdm]
    unfold ZaY
    rw[if_pos (hU _ hd).2.ka,(hU _ hd).2.da]
   rw[this];simp
  ·rw[Zf h0];rfl)
 have c1:=hat 0 e hn0 he
 have c2:=hat e 0 he hn0
 have b1:=hcu 0 e hn0
 have b2:=hcu e 0 he
 have hiff:∀x:Int,((-(ZaY (U e) 0)=-1000000∨-(ZaY (U e) 0)≤x)∧(ZaY (U 0) e=1000000∨x≤ZaY (U 0) e))↔∃q,Feas (Z3 L) q∧q e=q 0+x:=fun x=>by
  have d1:=(hU 0 hn0).2.bd e
  have d2:=(hU e he).2.bd 0
  constructor
  ·rintro⟨h1,h2⟩
   refine win_of hp (hU 0 hn0).2 (hU e he).2 (fun h=>?_) (fun h=>?_)
   ·unfold ZaY at h2;rw[if_pos h] at h2;omega
   ·unfold ZaY at h1;rw[if_pos h] at h1;omega
  ·rintro⟨q,hq,hb⟩
   obtain⟨h1,h2⟩:=of_win hq hb (hU 0 hn0).2 (hU e he).2
   unfold ZaY
   refine⟨?_,?_⟩
   ·split
    ·rename_i h;right;have:=h2 h;omega
    ·left;rfl
   ·split
    ·rename_i h;right;exact h1 h
    ·left;rfl
 have hiv:ZbF (-(ZaY (U e) 0)) (ZaY (U 0) e)=true:=by
  have:=(hiff (p e - p 0)).2 ⟨p,hp,by omega⟩
  unfold ZbF
  simp only[Bool.and_eq_true,decide_eq_true_eq,Bool.not_eq_true',decide_eq_false_iff_not]
  omega
 refine⟨-(ZaY (U e) 0),ZaY (U 0) e,?_,hiv,hiff⟩
 ·unfold ZaD.f ZG.f
  rw[ZbS (n:Int) L k (by omega),gofB,if_pos hs,Zi]
  simp only[ZaT.f,Zi]
  rw[if_pos hg,show(0:Int)=((0:Nat):Int) from rfl,hp1,Zi]
  simp only[List.nil_append,Z8.f,Zi]
  rw[if_pos trivial,if_pos hs]
  have hw1:ZE.f k (n:Int) (Zbp R 0 n) ((0:Nat):Int) (e:Int)=some (-(ZaY (U e) 0),ZaY (U 0) e,true):=by
   unfold ZE.f
   rw[ptab_f n _ (by omega) hlen _ (by omega),htab,Zi]
   have i0:inN (n:Int) ((0:Nat):Int)=true:=ZbR.2 ⟨by omega,by omega⟩
   have ie:inN (n:Int) (e:Int)=true:=ZbR.2 ⟨by omega,by omega⟩
   rw[inN_f,inN_f,i0,ie,if_pos rfl,Zi,if_pos rfl,Zi]
   obtain⟨km,hkm⟩:∃m,k=m+1:=⟨k - 1,by omega⟩
   rw[hkm,ZE.j0]
   have h1:=cellI (by omega) ie i0
   have h2:=cellI (by omega) i0 ie
   have m1:e * n+0<n * n:=by
    have:e * n+n≤n * n:=by rw[← Nat.succ_mul];exact Nat.mul_le_mul_right n he
    omega
   have hb':n * n≤64:=Nat.le_trans (Nat.mul_le_mul (show n≤8 by omega) (show n≤8 by omega)) (by decide)
   have w1:wrap64 (wrap64 ((e:Int) * (n:Int))+((0:Nat):Int))=((e * n+0:Nat):Int):=by
    rw[show(e:Int) * (n:Int)=((e * n:Nat):Int) by simp,Zal (i:=((e * n:Nat):Int)) (by omega) (by omega),Zal (by omega) (by omega)];omega
   have w2:wrap64 (wrap64 (((0:Nat):Int) * (n:Int))+(e:Int))=((0 * n+e:Nat):Int):=by
    rw[show((0:Nat):Int) * (n:Int)=((0 * n:Nat):Int) by simp,Zal (i:=((0 * n:Nat):Int)) (by omega) (by omega),Zal (by omega) (by omega)];omega
   unfold ZaH.f Za4.f
   rw[if_neg (by simp),if_pos h1.1,if_pos (by rw[hlen];exact h1.2),if_pos h2.1,if_pos (by rw[hlen];exact h2.2)]
   rw[w1,w2,Za3,Za3,c2,c1]
   simp only[Zi,if_true,ivOk_f]
   rw[Zal (by omega) (by omega),hiv]
   rfl
  rw[hw1];rfl
structure DB (N a:Nat) (B:Int) (s:KSt):Prop where
 l1:s.1.length=N
 l2:s.2.1.length=N
 ka:s.2.1.getD a false=true
 bd:∀v,-B≤s.1.getD v 0∧s.1.getD v 0≤B
theorem DB.step {N a:Nat} {B:Int} {s:KSt} (h:DB N a B s) (h0:0≤B) (hB:B≤1000000000) {e:ZV} (hin:0≤e.f0∧e.f0<N∧0≤e.f1∧e.f1<N) (hw : -1000≤e.f2∧e.f2≤1000):DB N a (B+1000) (ZaM s e):=by
 obtain⟨d,kn,c⟩:=s
 obtain⟨l1,l2,ka,bd⟩:=h
 dsimp only at l1 l2 ka bd
 have b0:=bd e.f0.toNat
 have e0:rd d e.f0=d.getD e.f0.toNat 0:=rfl
 have hww:wrap64 (rd d e.f0+e.f2)=d.getD e.f0.toNat 0+e.f2:=by rw[e0];exact Zb9 (by omega) (by omega)
 unfold ZaM
 dsimp only
 rw[hww]
 split
 ·refine⟨by simpa using l1,by simpa using l2,ZbO ka,fun v=>?_⟩
  by_cases cv:e.f1.toNat=v
  ·rw[cv,getD_set_eq (by rw[l1];omega)];omega
  ·rw[getD_set_ne cv];have:=bd v;omega
 ·exact⟨l1,l2,ka,fun v=>by have:=bd v;show -(B+1000)≤d.getD v 0∧d.getD v 0≤B+1000;omega⟩
theorem DB.rnd {N a:Nat}:∀(E:List ZV) (s:KSt) (B:Int),Zav E N→ZbM E→DB N a B s→0≤B→B+(E.length:Int) * 1000≤1000000000→DB N a (B+(E.length:Int) * 1000) (krnd E s)
 | [],s,B,_,_,h,_,_=>⟨h.l1,h.l2,h.ka,fun v=>by have:=h.bd v;show -(B+((0:Nat):Int) * 1000)≤s.1.getD v 0∧s.1.getD v 0≤B+((0:Nat):Int) * 1000;omega⟩
 | e :: t,s,B,hE,hw,h,h0,hB=>by
  rw[List.length_cons] at hB ⊢
  have h1:=h.step h0 (by omega) (hE e (by simp)) (hw e (by simp))
  have h2:=DB.rnd t (ZaM s e) (B+1000) (fun x hx=>hE x (by simp[hx])) (fun x hx=>hw x (by simp[hx])) h1 (by omega) (by omega)
  exact⟨h2.l1,h2.l2,h2.ka,fun v=>by have:=h2.bd v;show -(B+((t.length+1:Nat):Int) * 1000)≤(krnd t (ZaM s e)).1.getD v 0∧(krnd t (ZaM s e)).1.getD v 0≤B+((t.length+1:Nat):Int) * 1000;omega⟩
theorem DB.isf {E:List ZV} {N a:Nat} (hE:Zav E N) (hw:ZbM E) (hl:E.length≤82):∀(m:Nat) (s u:KSt) (B:Int),Pr.isf E m s=some u→DB N a B s→0≤B→B+(m:Int) * 82000≤1000000000→DB N a (B+(m:Int) * 82000) u
 | 0,_,_,_,h,_,_,_=>by cases h
 | m+1,s,u,B,h,hd,h0,hB=>by
  have h1:=DB.rnd E (s.1,s.2.1,false) B hE hw ⟨hd.l1,hd.l2,hd.ka,hd.bd⟩ h0 (by omega)
  have h2:DB N a (B+82000) (krnd E (s.1,s.2.1,false)):=⟨h1.l1,h1.l2,h1.ka,fun v=>by have:=h1.bd v;omega⟩
  rw[Pr.isf] at h
  try dsimp only at h
  split at h
  ·cases h
   exact⟨h2.l1,h2.l2,h2.ka,fun v=>by have:=h2.bd v;omega⟩
  ·have h3:=DB.isf hE hw hl m _ u (B+82000) h h2 (by omega) (by omega)
   exact⟨h3.l1,h3.l2,h3.ka,fun v=>by have:=h3.bd v;omega⟩
def minF (f:Nat→Int) (B:Int):Nat→Int
 | 0=>B
 | m+1=>min (f m) (minF f B m)
theorem minF_le (f:Nat→Int) (B:Int):∀(m i:Nat),i<m→minF f B m≤f i
 | m+1,i,h=>by
  by_cases e:i=m
  ·subst e;show min _ _≤_;omega
  ·have:=minF_le f B m i (by omega)
   show min _ _≤_;omega
theorem minF_eq (f:Nat→Int) (B:Int):∀(m:Nat),minF f B m=B∨∃i,i<m∧minF f B m=f i
 | 0=>.inl rfl
 | m+1=>by
  show min (f m) (minF f B m)=B∨∃i,i<m+1∧min (f m) (minF f B m)=f i
  by_cases c:f m≤minF f B m
  ·right;exact⟨m,by omega,by omega⟩
  ·rcases minF_eq f B m with h|⟨i,hi,h⟩
   ·left;omega
   ·right;exact⟨i,by omega,by omega⟩
theorem all_pot {E:List ZV} {n:Nat} (hE:Zav E n) (hw:ZbM E) (hl:E.length≤82) (h8:n≤8) (h:∀i,i<n→∃u,isf E (n+1) (kst0 n i)=some u):∃p,Feas E p:=by
 have hch:∃U:Nat→KSt,∀a,a<n→isf E (n+1) (kst0 n a)=some (U a):=⟨fun a=>if h':a<n then(h a h').choose else kst0 n a,fun a ha=>by dsimp only;rw[dif_pos ha];exact(h a ha).choose_spec⟩
 obtain⟨U,hU⟩:=hch
 have hB:∀a,a<n→DB n a 738000 (U a):=fun a ha=>by
  have h1:=DB.isf (a:=a) hE hw hl (n+1) (kst0 n a) (U a) 0 (hU a ha) (by
   refine⟨by simp[kst0],by simp[kst0],ZbN (by simpa using ha) _ _,fun v=>?_⟩
   unfold kst0;simp only;rw[List.getD_eq_getElem?_getD,List.getElem?_replicate];split <;> simp) (by omega) (by omega)
  exact⟨h1.l1,h1.l2,h1.ka,fun v=>by have:=h1.bd v;omega⟩
 refine⟨fun v=>minF (fun i=>if (U i).2.1.getD v false=true then(U i).1.getD v 0 else 1000000) 1000000 n,fun e he=>?_⟩
 have hin:=hE e he
 have hwe:=hw e he
 dsimp only
 have ha:e.f0.toNat<n:=by omega
 have h0:=minF_le (fun i=>if (U i).2.1.getD e.f0.toNat false=true then(U i).1.getD e.f0.toNat 0 else 1000000) 1000000 n e.f0.toNat ha
 simp only[(hB _ ha).ka,if_true] at h0
 have hb0:=(hB _ ha).bd e.f0.toNat
 rcases minF_eq (fun i=>if (U i).2.1.getD e.f0.toNat false=true then(U i).1.getD e.f0.toNat 0 else 1000000) 1000000 n with h1|⟨i,hi,h1⟩
 ·omega
 ·rw[h1]
  by_cases hk:(U i).2.1.getD e.f0.toNat false=true
  ·rw[if_pos hk]
   have h3:=ZcK _ _ _ (hU i hi) e he
   have r0:rb (U i).2.1 e.f0=(U i).2.1.getD e.f0.toNat false:=rfl
   have r1:rb (U i).2.1 e.f1=(U i).2.1.getD e.f1.toNat false:=rfl
   have e0:rd (U i).1 e.f0=(U i).1.getD e.f0.toNat 0:=rfl
   have e1:rd (U i).1 e.f1=(U i).1.getD e.f1.toNat 0:=rfl
   have b0:=(hB i hi).bd e.f0.toNat
   rw[r0,r1,hk,e0,e1,Zb9 (by omega) (by omega)] at h3
   have h4:=minF_le (fun i=>if (U i).2.1.getD e.f1.toNat false=true then(U i).1.getD e.f1.toNat 0 else 1000000) 1000000 n i hi
   cases hk1:(U i).2.1.getD e.f1.toNat false with
   | false=>exact absurd ⟨rfl,.inl hk1⟩ h3
   | true=>
    simp only[hk1,if_true] at h4
    have:¬((U i).1.getD e.f0.toNat 0+e.f2<(U i).1.getD e.f1.toNat 0):=fun hc=>h3 ⟨rfl,.inr hc⟩
    omega
  ·rw[if_neg hk] at h1
   omega
theorem close1 (n:Nat) (E:List ZV) (r:List Int) (hr:r.length=n) (hn:n≤8) (i:Nat) (hi:i<8):∀(d j K:Nat) (acc:List Int),j+d=n→d<K→acc.length+d≤100000→ZG.l1 K (i:Int) r (r.length:Int) (j:Int) (n:Int) E (n:Int) acc=ZG.l0 (K - d - 1) ((i+1:Nat):Int) (n:Int) E (n:Int) (acc ++ (r.drop j).map clB)
 | 0,j,K,acc,hj,hK,ha=>by
  obtain⟨m,rfl⟩:∃m,K=m+1:=⟨K - 1,by omega⟩
  simp only[ZG.l1]
  rw[if_neg (by rw[hr];omega),Zbf (n:=100) (by omega) (by omega),List.drop_of_length_le (by rw[hr];omega)]
  simp
 | d+1,j,K,acc,hj,hK,ha=>by
  obtain⟨m,rfl⟩:∃m,K=m+1:=⟨K - 1,by omega⟩
  simp only[ZG.l1]
  rw[if_pos (by rw[hr];omega),if_pos (by omega),if_pos (by rw[hr];omega),pcl_f,Zi,if_pos (by omega),Zbf (n:=n) (by omega) (by omega),close1 n E r hr hn i hi d (j+1) m _ (by omega) (by omega) (by simp;omega),Zbo (show j<r.length by rw[hr];omega) 0,Za3,show m+1 - (d+1) - 1=m - d - 1 by omega]
  simp
theorem Zdd (n:Nat) (E:List ZV) (R:Nat→List Int×Bool) (hn:n≤8) (hR:∀i,(R i).2=true→(R i).1.length=n) (hf:∀i,i<n→Zan.f (n:Int) E (i:Int)=some (R i)) (j:Nat) (hj:j<n) (hb:(R j).2=false):∀(d i K:Nat) (acc:List Int),i+d=j→20 * (d+1)≤K→acc.length≤8 * i→∃x C,ZG.l0 K (i:Int) (n:Int) E (n:Int) acc=some (x,C,false)
 | 0,i,K,acc,hi,hK,ha=>by
  obtain⟨m,rfl⟩:∃m,K=m+1:=⟨K - 1,by omega⟩
  obtain rfl:i=j:=by omega
  simp only[ZG.l0]
  rw[if_pos (by omega),hf i hj,Zi,if_neg (by rw[hb];simp)]
  exact⟨_,_,rfl⟩
 | d+1,i,K,acc,hi,hK,ha=>by
  obtain⟨m,rfl⟩:∃m,K=m+1:=⟨K - 1,by omega⟩
  simp only[ZG.l0]
  rw[if_pos (by omega),hf i (by omega),Zi]
  cases hc:(R i).2 with
  | false=>rw[if_neg (by simp)];exact⟨_,_,rfl⟩
  | true=>
   have hl:=hR i hc
   rw[if_pos rfl]
   have h1:=close1 n E (R i).1 hl hn i (by omega) n 0 m acc (by omega) (by omega) (by omega)
   rw[show((0:Nat):Int)=0 from rfl] at h1
   rw[h1]
   exact Zdd n E R hn hR hf j hj hb d (i+1) (m - n - 1) _ (by omega) (by omega) (by simp[hl];omega)
theorem winBad {n:Nat} {L:List Zaf} (hs:Zac (n:Int) L=true) (hw:ZaR L) (hc:ZbX (n:Int) L=false) (a:Int) (k:Nat) (hk:2 ^ 67≤k):ZaD.f k (n:Int) L a=some (0,0,false):=by
 have hg:=Zcy hs
 obtain⟨g0,g8,g80,gin⟩:=ZbK hg
 have hE:Zav (Z3 L) n:=fun e he=>by have:=gin e he;omega
 have hww:=ZaR.w hw
 have hno:¬∀i,i<n→∃u,isf (Z3 L) (n+1) (kst0 n i)=some u:=fun h=>by
  have:=(Zcc hs hw).2 (all_pot hE hww (by omega) (by omega) h)
  rw[hc] at this;cases this
 obtain⟨j,hj⟩:=Classical.not_forall.1 hno
 obtain⟨hj1,hj2⟩:=Classical.not_imp.1 hj
 have hj3:isf (Z3 L) (n+1) (kst0 n j)=none:=by
  cases hu:isf (Z3 L) (n+1) (kst0 n j) with
  | none=>rfl
  | some u=>exact absurd ⟨u,hu⟩ hj2
 have hR:∀i:Nat,(sfB (n:Int) (Z3 L) (i:Int) (n+1)).2=true→(sfB (n:Int) (Z3 L) (i:Int) (n+1)).1.length=n:=fun i h=>by
  unfold sfB at h ⊢
  rw[Int.toNat_natCast,Int.toNat_natCast] at h ⊢
  cases hu:isf (Z3 L) (n+1) (kst0 n i) with
  | none=>rw[hu] at h;cases h
  | some u=>simp only;rw[Zcw,isf_len hu];simp[kst0]
 obtain⟨x,C,hx⟩:=Zdd n (Z3 L) (fun i=>sfB (n:Int) (Z3 L) (i:Int) (n+1)) (by omega) hR (fun i hi=>by
  unfold Zan.f
  rw[if_pos ⟨hg,ZbR.2 ⟨by omega,by omega⟩⟩,Int.toNat_natCast]) j hj1 (by
  show(sfB (n:Int) (Z3 L) (j:Int) (n+1)).2=false
  unfold sfB;rw[Int.toNat_natCast,Int.toNat_natCast,hj3]) j 0 k [] (by omega) (by omega) (by simp)
 unfold ZaD.f ZG.f
 rw[ZbS (n:Int) L k (by omega),gofB,if_pos hs,Zi]
 simp only[ZaT.f,Zi]
 rw[show((0:Nat):Int)=0 from rfl] at hx
 rw[if_pos hg,hx,Zi]
 simp only
 rw[if_neg (by simp)]
theorem feas_fix {q:Nat→Int}:∀(t:List Int) (i:Nat),(∀x∈t,-1≤x∧x<1000000)→(Feas (Z3 (fixL i t)) q↔∀j,j<t.length→0<i+j→t.getD j 0≠-1→q (i+j)=q 0+t.getD j 0)
 | [],i,_=>⟨fun _ j hj=>by simp at hj,fun _ e he=>by cases he⟩
 | x :: t,i,h=>by
  have hx:=h x (by simp)
  have ih:=feas_fix (q:=q) t (i+1) (fun y hy=>h y (by simp[hy]))
  rw[fixL,Zcz,Feas.app,ih]
  have h0:Feas (Z3 (if 0<i∧x≠-1 then[⟨0,(i:Int),⟨x,x⟩⟩] else[])) q↔(0<i→x≠-1→q i=q 0+x):=by
   by_cases c:0<i∧x≠-1
   ·rw[if_pos c]
    have e1:Z3 [(⟨0,(i:Int),⟨x,x⟩⟩:Zaf)]=[⟨0,(i:Int),x⟩,⟨(i:Int),0,-x⟩]:=by
     simp only[Z3,Zbl]
     rw[if_neg (by omega),if_neg (by omega),Zal (by omega) (by omega)];rfl
    rw[e1]
    constructor
    ·intro hf _ _
     have a1:=hf ⟨0,(i:Int),x⟩ (by simp)
     have a2:=hf ⟨(i:Int),0,-x⟩ (by simp)
     simp only[Int.toNat_natCast,Int.toNat_zero] at a1 a2
     omega
    ·intro hf e he
     have:=hf c.1 c.2
     simp only[List.mem_cons,List.not_mem_nil,or_false] at he
     rcases he with rfl|rfl
     ·simp only[Int.toNat_natCast,Int.toNat_zero];omega
     ·simp only[Int.toNat_natCast,Int.toNat_zero];omega
   ·rw[if_neg c]
    exact⟨fun _ a b=>absurd ⟨a,b⟩ c,fun _ e he=>by cases he⟩
  rw[h0]
  constructor
  ·rintro⟨h1,h2⟩ j hj hp hne
   cases j with
   | zero=>exact h1 (by omega) hne
   | succ j=>
    have:=h2 j (by simpa using hj) (by omega) hne
    rw[show i+(j+1)=i+1+j by omega];exact this
  ·intro hf
   refine⟨fun a b=>by have:=hf 0 (by simp) (by omega) b;simpa using this,fun j hj hp hne=>?_⟩
   have:=hf (j+1) (by simpa using hj) (by omega) hne
   rw[show i+1+j=i+(j+1) by omega];exact this
theorem Zb3:∀(t:List Int) (i:Nat),(∀x∈t,-1≤x∧x≤1000)→ZaR (fixL i t)
 | [],_,_,x,hx=>by cases hx
 | y :: t,i,h,x,hx=>by
  have hy:=h y (by simp)
  rw[fixL] at hx
  rcases List.mem_append.1 hx with hx|hx
  ·split at hx
   ·rw[List.mem_singleton] at hx;subst hx
    simp only;omega
   ·cases hx
  ·exact Zb3 t (i+1) (fun z hz=>h z (by simp[hz])) x hx
theorem fixL_ok {n:Int}:∀(t:List Int) (i:Nat),(∀x∈t,-1≤x∧x<1000000)→((i+t.length:Nat):Int)≤n→∀x∈fixL i t,ZaS n x=true
 | [],_,_,_,x,hx=>by cases hx
 | y :: t,i,h,hn,x,hx=>by
  have hy:=h y (by simp)
  rw[List.length_cons] at hn
  rw[fixL] at hx
  rcases List.mem_append.1 hx with hx|hx
  ·split at hx
   ·rename_i c
    rw[List.mem_singleton] at hx;subst hx
    unfold ZaS ZbF inN
    simp only[Bool.and_eq_true,decide_eq_true_eq,Bool.not_eq_true',decide_eq_false_iff_not]
    have:=c.2
    omega
   ·cases hx
  ·exact fixL_ok t (i+1) (fun z hz=>h z (by simp[hz])) (by rw[show i+1+t.length=i+(t.length+1) by omega];exact hn) x hx
theorem Zdc {n:Int} {L:List Zaf} (h1:1≤n) (h8:n≤8) (h40:L.length≤40) (h:∀x∈L,ZaS n x=true):Zac n L=true:=by
 unfold Zac
 rw[Zf (show ¬n<1 by omega),Zf (show ¬8<n by omega),Zf (show ¬40<L.length by omega)]
 simp only[Bool.not_false,Bool.true_and,Bool.not_eq_true',List.any_eq_false]
 intro x hx
 rw[h x hx];simp
theorem fix_ok {n:Nat} {L:List Zaf} {t:List Int} (hs:Zac (n:Int) L=true) (hL:L.length≤32) (ht:t.length=n) (h0:t.getD 0 0=0) (hb:∀x∈t,-1≤x∧x<1000000):fixB (n:Int) L t=((n:Int),L ++ fixL 0 t,true):=by
 obtain⟨s1,s8,s40,hl⟩:=ZbC hs
 have hp:Zb1 (n:Int) L t=true:=by
  unfold Zb1
  rw[hs,Ze (show(t.length:Int)=(n:Int) by omega),Ze h0,Bool.true_and,Bool.true_and,Bool.true_and,Bool.not_eq_true',List.any_eq_false]
  intro x hx
  have:=hb x hx
  unfold Zbu
  simp only[Bool.not_eq_true',Bool.not_eq_false',Bool.and_eq_true,decide_eq_true_eq,Bool.not_eq_true]
  simp;omega
 have hlen:=fixL_len 0 t
 have h2:Zac (n:Int) (L ++ fixL 0 t)=true:=Zdc s1 s8 (by rw[List.length_append];omega) (fun x hx=>(List.mem_append.1 hx).elim (hl x) (fixL_ok t 0 hb (by omega) x))
 unfold fixB
 rw[if_pos hp,if_pos h2]
end Go.Proofs.Ythphnhmabieflab.Pr
namespace Go.Proofs.Ythphnhmabieflab.Pr
open Go.RowKit Go.Proofs.YthphnhmabieflabW.PrintWords Go.Proofs.Ythphnhmabieflab.Ni
def LnkD (n:Int) (x:Zaf):Prop:=ZaS n x=true∧(x.f2.f1=1000000∨-10≤x.f2.f1∧x.f2.f1≤1000)∧(x.f2.f0=-1000000∨-1000≤x.f2.f0∧x.f2.f0≤10)
theorem lnkD {n a c lo hi:Int} (h1:0≤a∧a<n) (h2:0≤c∧c<n) (h3:lo=-1000000∨-1000≤lo∧lo≤10) (h4:hi=1000000∨-10≤hi∧hi≤1000) (h5:lo=-1000000∨hi=1000000∨lo≤hi):LnkD n ⟨a,c,⟨lo,hi⟩⟩:=by
 refine⟨?_,h4,h3⟩
 unfold ZaS inN ZbF
 simp only[Bool.and_eq_true,decide_eq_true_eq,Bool.not_eq_true',decide_eq_false_iff_not]
 omega
theorem iv_f {b:List Int} {i h:Int} (hc:Cur b i):∃lo hi i' h',Za2.f b i h=some (lo,hi,i',h')∧Cur b i'∧(lo=-1000000∨-1000≤lo∧lo≤10)∧(hi=1000000∨-10≤hi∧hi≤1000)∧(lo=-1000000∨hi=1000000∨lo≤hi):=by
 obtain⟨x,i1,h1,e1,x0,x1,c1⟩:=Zbm (n:=21) (h:=h) hc (by omega) (by omega)
 obtain⟨y,i2,h2,e2,y0,y1,c2⟩:=Zbm (n:=8) (h:=h1) c1 (by omega) (by omega)
 obtain⟨z,i3,h3,e3,z0,z1,c3⟩:=Zbm (n:=8) (h:=h2) c2 (by omega) (by omega)
 unfold Za2.f ZaL.f
 rw[e1,Zi]
 simp only
 rw[e2,Zi]
 simp only[Zi]
 rw[e3,Zi]
 have w1:wrap64 (x - 10)=x - 10:=Zal (by omega) (by omega)
 have w2:wrap64 (x - 10+y)=x - 10+y:=Zal (by omega) (by omega)
 simp only[w1,w2]
 split
 ·exact⟨_,_,_,_,rfl,c3,by omega,by omega,by omega⟩
 ·split
  ·exact⟨_,_,_,_,rfl,c3,by omega,by omega,by omega⟩
  ·split
   ·exact⟨_,_,_,_,rfl,c3,by omega,by omega,by omega⟩
   ·exact⟨_,_,_,_,rfl,c3,by omega,by omega,by omega⟩
def ZbQ (m:Int) (L:List Zaf):Prop:=∀e:Int,1≤e→e<m→∃x∈L,x.f1=e∧0≤x.f0∧x.f0<e∧0≤x.f2.f0
theorem draw_l1 {b:List Int} {n:Int} (h2:2≤n) (h5:n≤5):∀(d:Nat) (x i h:Int) (L:List Zaf) (k:Nat),x≤d→0≤x→Cur b i→L.length+d≤7→(∀y∈L,LnkD n y)→ZbQ n L→d<k →
  ∃L' i' h',ZO.l1 k x b i h n L=some (n,L',i',h')∧L'.length≤7∧(∀y∈L',LnkD n y)∧ZbQ n L'
 | 0,x,i,h,L,k,hx,h0,hc,hl,hL,hB,hk=>by
  obtain⟨m,rfl⟩:∃m,k=m+1:=⟨k - 1,by omega⟩
  simp only[ZO.l1]
  rw[if_neg (by omega)]
  exact⟨_,_,_,rfl,by omega,hL,hB⟩
 | d+1,x,i,h,L,k,hx,h0,hc,hl,hL,hB,hk=>by
  obtain⟨m,rfl⟩:∃m,k=m+1:=⟨k - 1,by omega⟩
  simp only[ZO.l1]
  by_cases hp:x > 0
  ·rw[if_pos hp]
   obtain⟨a,i1,g1,e1,a0,a1,c1⟩:=Zbm (n:=n) (h:=h) hc (by omega) (by omega)
   obtain⟨c,i2,g2,e2,b0,b1,c2⟩:=Zbm (n:=n) (h:=g1) c1 (by omega) (by omega)
   obtain⟨lo,hi,i3,g3,e3,c3,q1,q2,q3⟩:=iv_f (h:=g2) c2
   rw[e1,Zi]
   simp only
   rw[e2,Zi]
   simp only
   rw[e3,Zi]
   simp only
   rw[if_pos (by omega),Zal (i:=x - 1) (by omega) (by omega)]
   refine draw_l1 h2 h5 d (x - 1) i3 g3 _ m (by omega) (by omega) c3 (by rw[List.length_append];simp only[List.length_cons,List.length_nil];omega) (fun y hy=>?_) (fun e he1 he2=>?_) (by omega)
   ·rcases List.mem_append.1 hy with hy|hy
    ·exact hL y hy
    ·rw[List.mem_singleton] at hy;subst hy
     exact lnkD ⟨a0,a1⟩ ⟨b0,b1⟩ q1 q2 q3
   ·obtain⟨y,hy,r⟩:=hB e he1 he2
    exact⟨y,List.mem_append.2 (.inl hy),r⟩
  ·rw[if_neg hp]
   exact⟨_,_,_,rfl,by omega,hL,hB⟩
theorem draw_l0 {b:List Int} {n:Int} (h2:2≤n) (h5:n≤5):∀(d:Nat) (x i h:Int) (L:List Zaf) (k:Nat),x+d=n→1≤x→Cur b i→(L.length:Int)=x - 1→(∀y∈L,LnkD n y)→ZbQ x L→d+100<k →
  ∃L' i' h',ZO.l0 k x b i h n L=some (n,L',i',h')∧L'.length≤7∧(∀y∈L',LnkD n y)∧ZbQ n L'
 | 0,x,i,h,L,k,hx,h0,hc,hl,hL,hB,hk=>by
  obtain⟨m,rfl⟩:∃m,k=m+1:=⟨k - 1,by omega⟩
  simp only[ZO.l0]
  rw[if_neg (by omega)]
  obtain⟨a,i1,g1,e1,a0,a1,c1⟩:=Zbm (n:=4) (h:=h) hc (by omega) (by omega)
  rw[e1,Zi]
  have hxn:x=n:=by omega
  subst hxn
  exact draw_l1 h2 h5 3 a i1 g1 L m (by omega) a0 c1 (by omega) hL hB (by omega)
 | d+1,x,i,h,L,k,hx,h0,hc,hl,hL,hB,hk=>by
  obtain⟨m,rfl⟩:∃m,k=m+1:=⟨k - 1,by omega⟩
  simp only[ZO.l0]
  rw[if_pos (by omega)]
  obtain⟨a,i1,g1,e1,a0,a1,c1⟩:=Zbm (n:=5) (h:=h) hc (by omega) (by omega)
  obtain⟨fr,i2,g2,e2,b0,b1,c2⟩:=Zbm (n:=x) (h:=g1) c1 (by omega) (by omega)
  obtain⟨s,i3,g3,e3,s0,s1,c3⟩:=Zbm (n:=6) (h:=g2) c2 (by omega) (by omega)
  rw[e1,Zi]
  simp only
  rw[e2,Zi]
  simp only
  rw[e3,Zi]
  simp only
  rw[if_pos (by omega),Zal (i:=x+1) (by omega) (by omega),Zal (i:=a+s) (by omega) (by omega)]
  refine draw_l0 h2 h5 d (x+1) i3 g3 _ m (by omega) (by omega) c3 (by rw[List.length_append];simp only[List.length_cons,List.length_nil];omega) (fun y hy=>?_) (fun e he1 he2=>?_) (by omega)
  ·rcases List.mem_append.1 hy with hy|hy
   ·exact hL y hy
   ·rw[List.mem_singleton] at hy;subst hy
    exact lnkD ⟨b0,by omega⟩ ⟨by omega,by omega⟩ (by omega) (by omega) (by omega)
  ·by_cases c:e<x
   ·obtain⟨y,hy,r⟩:=hB e he1 c
    exact⟨y,List.mem_append.2 (.inl hy),r⟩
   ·exact⟨_,List.mem_append.2 (.inr (List.mem_singleton.2 rfl)),by show x=e;omega,b0,by show fr<e;omega,a0⟩
def tightL (L:List Zaf):Prop:=∀x∈L,(x.f2.f1=1000000∨-10≤x.f2.f1)∧(x.f2.f0=-1000000∨x.f2.f0≤10)
theorem simple_f {b:List Int} (hb:b.length≤1048576) (k:Nat) (hk:2 ^ 64≤k):∃(n:Nat) (L:List Zaf),ZaV.f k b=some ((n:Int),L)∧2≤n∧n≤5∧L.length≤7∧Zac (n:Int) L=true∧ZaR L∧ZbQ n L∧tightL L:=by
 obtain⟨h0,e0,c0⟩:=new_f hb k hk
 obtain⟨a,i1,g1,e1,a0,a1,c1⟩:=Zbm (n:=4) (h:=h0) c0 (by omega) (by omega)
 obtain⟨m,rfl⟩:=Int.eq_ofNat_of_zero_le a0
 have w:wrap64 (2+(m:Int))=((m+2:Nat):Int):=by rw[Zal (by omega) (by omega)];omega
 obtain⟨L,i2,g2,e2,hl,hL,hB⟩:=draw_l0 (n:=((m+2:Nat):Int)) (by omega) (by omega) (m+1) 1 i1 g1 [] k (by omega) (by omega) c1 (by simp) (fun y hy=>by cases hy) (fun e h1 h2=>by omega) (by omega)
 refine⟨m+2,L,?_,by omega,by omega,hl,Zdc (by omega) (by omega) (by omega) (fun x hx=>(hL x hx).1),fun x hx=>by have:=(hL x hx).2;omega,hB,fun x hx=>by have:=(hL x hx).2;omega⟩
 unfold ZaV.f ZO.f
 rw[e0,Zi]
 simp only
 rw[e1,Zi]
 simp only
 rw[w,e2];rfl
end Go.Proofs.Ythphnhmabieflab.Pr
set_option linter.unusedSimpArgs false
set_option linter.unusedVariables false
namespace Go.Proofs.Ythphnhmabieflab.Pr
open Go.RowKit Go.Proofs.YthphnhmabieflabW.PrintWords Go.Proofs.Ythphnhmabieflab.Ni
theorem Zb4:∀(L:List Zaf) (x:Zaf),x∈L→∀e∈Zbl x,e∈Z3 L
 | y :: t,x,hx,e,he=>by
  rw[Z3,List.mem_append]
  rcases List.mem_cons.1 hx with rfl|hx
  ·exact .inl he
  ·exact .inr (Zb4 t x hx e he)
theorem of_edgesB:∀(L:List Zaf) (e:ZV),e∈Z3 L→∃x∈L,e∈Zbl x
 | y :: t,e,he=>by
  rw[Z3,List.mem_append] at he
  rcases he with he|he
  ·exact⟨y,by simp,he⟩
  ·obtain⟨x,hx,h⟩:=of_edgesB t e he
   exact⟨x,by simp[hx],h⟩
theorem behind_ge {n:Nat} {L:List Zaf} {q:Nat→Int} (hq:Feas (Z3 L) q) (hw:ZaR L) (hB:ZbQ n L):∀(e:Nat),e<n→q 0≤q e:=by
 intro e
 induction e using Nat.strongRecOn with
 | _ e ih=>
  intro he
  by_cases h0:e=0
  ·rw[h0];exact Int.le_refl _
  ·obtain⟨x,hx,h1,h2,h3,h4⟩:=hB (e:Int) (by omega) (by omega)
   have hs:=(hw x hx).2
   have hm:(⟨x.f1,x.f0,wrap64 (-x.f2.f0)⟩:ZV)∈Z3 L:=Zb4 L x hx _ (by
    unfold Zbl
    rw[List.mem_append]
    exact .inr (by rw[if_neg (by omega)];simp))
   have:=hq _ hm
   dsimp only at this
   rw[Zal (by omega) (by omega),h1,Int.toNat_natCast] at this
   have:=ih x.f0.toNat (by omega) (by omega)
   omega
theorem tight_w {L:List Zaf} (hw:ZaR L) (ht:tightL L):∀e∈Z3 L,-10≤e.f2:=by
 intro e he
 obtain⟨x,hx,hex⟩:=of_edgesB L e he
 have h1:=hw x hx
 have h2:=ht x hx
 unfold Zbl at hex
 rw[List.mem_append] at hex
 rcases hex with hex|hex
 ·split at hex
  ·cases hex
  ·rw[List.mem_singleton] at hex;subst hex;dsimp only;omega
 ·split at hex
  ·cases hex
  ·rw[List.mem_singleton] at hex;subst hex;dsimp only;rw[Zal (by omega) (by omega)];omega
theorem Feas.down {E:List ZV} {q:Nat→Int} (h:Feas E q) (c:Int):Feas E (fun v=>q v - c):=fun e he=>by have:=h e he;dsimp only;omega
theorem Zcv {n:Nat} {L:List Zaf} {t:List Int} (hfx:fixB (n:Int) L t=((n:Int),L ++ fixL 0 t,true)):Zac (n:Int) (L ++ fixL 0 t)=true:=by
 unfold fixB at hfx
 split at hfx
 ·split at hfx
  ·assumption
  ·exact absurd (congrArg (fun r:Int×List Zaf×Bool=>r.2.2) hfx) (by simp)
 ·exact absurd (congrArg (fun r:Int×List Zaf×Bool=>r.2.2) hfx) (by simp)
theorem ZbZ {L:List Zaf} {t:List Int} {q:Nat→Int} (hb:∀x∈t,-1≤x∧x<1000000):Feas (Z3 (L ++ fixL 0 t)) q↔Feas (Z3 L) q∧∀j,j<t.length→0<j→t.getD j 0≠-1→q j=q 0+t.getD j 0:=by
 rw[Zcz,Feas.app,feas_fix t 0 hb]
 constructor
 ·rintro⟨h1,h2⟩
  exact⟨h1,fun j hj hp hn=>by have:=h2 j hj (by omega) hn;rw[Nat.zero_add] at this;exact this⟩
 ·rintro⟨h1,h2⟩
  exact⟨h1,fun j hj hp hn=>by rw[Nat.zero_add] at hp ⊢;exact h2 j hj hp hn⟩
theorem ext_step {n i:Nat} {L:List Zaf} {t:List Int} {M:Int} (h5:n≤5) (l7:L.length≤7) (hs:Zac (n:Int) L=true) (hw:ZaR L) (hB:ZbQ n L) (hT:tightL L) (ht:t.length=n) (h0:t.getD 0 0=0) (hb:∀x∈t,-1≤x∧x≤M) (hM:0≤M) (hM2:M≤900) (hi:i<n) (hi1:t.getD i 0=-1) (hq:∃q,Feas (Z3 (L ++ fixL 0 t)) q) (k:Nat) (hk:2 ^ 69≤k) :
  ∃lo hi:Int,Zax.f k (n:Int) L t (i:Int)=some (lo,hi,true)∧0≤lo∧lo≤M+55∧∃q,Feas (Z3 (L ++ fixL 0 (t.set i lo))) q:=by
 have hb':∀x∈t,-1≤x∧x<1000000:=fun x hx=>by have:=hb x hx;omega
 have hfx:=fix_ok hs (show L.length≤32 by omega) ht h0 hb'
 have hsf:=Zcv hfx
 have hwf:ZaR (L ++ fixL 0 t):=fun y hy=>(List.mem_append.1 hy).elim (hw y) (Zb3 t 0 (fun x hx=>by have:=hb x hx;omega) y)
 have hco:=(Zcc hsf hwf).2 hq
 have hi0:i≠0:=fun e=>by rw[e,h0] at hi1;omega
 obtain⟨lo,hi2,hwo,hiv,hwin⟩:=winOf hco hwf hi k (by omega)
 obtain⟨q0,hq0⟩:=hq
 have hL0:=(ZbZ hb').1 hq0
 have hx0:=(hwin (q0 i - q0 0)).2 ⟨q0,hq0,by omega⟩
 have hge:=behind_ge hL0.1 hw hB i hi
 have hneg:∀x:Int,x<0→¬((lo=-1000000∨lo≤x)∧(hi2=1000000∨x≤hi2)):=fun x hx hh=>by
  obtain⟨q,h1,h2⟩:=(hwin x).1 hh
  have:=behind_ge ((ZbZ hb').1 h1).1 hw hB i hi
  omega
 have hlo:0≤lo:=by
  by_cases c:lo=-1000000
  ·exact absurd ⟨.inl c,by omega⟩ (hneg (-1) (by omega))
  ·by_cases c2:lo<0
   ·exact absurd ⟨.inr (Int.le_refl _),by omega⟩ (hneg lo c2)
   ·omega
 obtain⟨g0,g8,g80,gin⟩:=ZbK (Zcy hs)
 obtain⟨p,p1,p2,p3,p4⟩:=near (e:=i) (M:=M) (w:=10) (n:=n) (E:=Z3 L) (fun e he=>by have:=gin e he;omega) h5 hi hM (by omega) (tight_w hw hT) _ (fun v=>q0 v - q0 0) (Nat.le_refl _) (by omega) (hL0.1.down _)
 have pz:=p2 0 (by omega)
 have hpL:Feas (Z3 (L ++ fixL 0 t)) p:=(ZbZ hb').2 ⟨p1,fun j hj hp hn=>by
  have h1:=hL0.2 j hj hp hn
  have h2:=hb _ (ZbH hj 0)
  have h3:=p2 j (by omega)
  omega⟩
 have hpx:=(hwin (p i)).2 ⟨p,hpL,by omega⟩
 refine⟨lo,hi2,?_,hlo,by omega,?_⟩
 ·unfold Zax.f
  rw[Zbx (n:Int) L t (by omega) (by omega) k (by omega),hfx,Zi]
  simp only[if_true]
  rw[Zbv _ _ k (by omega),hco,Zi]
  simp only[if_true]
  rw[hwo];rfl
 ·obtain⟨q,h1,h2⟩:=(hwin lo).1 ⟨.inr (Int.le_refl _),by omega⟩
  have hq1:=(ZbZ hb').1 h1
  refine⟨q,(ZbZ (fun x hx=>?_)).2 ⟨hq1.1,fun j hj hp hn=>?_⟩⟩
  ·rcases List.mem_or_eq_of_mem_set hx with hx|hx
   ·exact hb' x hx
   ·subst hx;omega
  ·rw[List.length_set] at hj
   by_cases c:j=i
   ·subst c
    rw[Pr.getD_set_eq (by omega)];exact h2
   ·rw[Pr.getD_set_ne (by omega)] at hn ⊢
    exact hq1.2 j hj hp hn
theorem compl_go {n:Nat} {L:List Zaf} (h5:n≤5) (h1:1≤n) (l7:L.length≤7) (hs:Zac (n:Int) L=true) (hw:ZaR L) (hB:ZbQ n L) (hT:tightL L) (k:Nat) (hk:2 ^ 69≤k) :
  ∀(d i:Nat) (t:List Int) (M:Int),i+d=n→t.length=n→t.getD 0 0=0→(∀x∈t,-1≤x∧x≤M)→0≤M→M+55 * (d:Int)≤900→(∀j,j<i→t.getD j 0≠-1)→(∃q,Feas (Z3 (L ++ fixL 0 t)) q) →
  ∃c,Zbd (Zax.f k (n:Int) L) (cfin (ZS.f k (n:Int) L)) d i t=some (c,true)∧c.length=n∧c.getD 0 0=0∧(∀x∈c,-1≤x∧x≤900)∧(∀j,j<n→c.getD j 0≠-1)∧(∀j,j<n→t.getD j 0≠-1→c.getD j 0=t.getD j 0)∧∃q,Feas (Z3 (L ++ fixL 0 c)) q:=by
 intro d
 induction d with
 | zero=>
  intro i t M hi ht h0 hb hM hM2 hj hq
  have hfx:=fix_ok hs (show L.length≤32 by omega) ht h0 (fun x hx=>by have:=hb x hx;omega)
  refine⟨t,?_,ht,h0,fun x hx=>by have:=hb x hx;omega,fun j h=>hj j (by omega),fun _ _ _=>rfl,hq⟩
  unfold Zbd cfin
  rw[Zbx (n:Int) L t (by omega) (by omega) k (by omega),hfx,Zi]
  simp only[if_true]
 | succ d ih=>
  intro i t M hi ht h0 hb hM hM2 hj hq
  unfold Zbd
  by_cases c:t.getD i 0=-1
  ·obtain⟨lo,hi2,e,l0,l1,hq2⟩:=ext_step h5 l7 hs hw hB hT ht h0 hb hM (by omega) (show i<n by omega) c hq k hk
   have hi0:i≠0:=fun e=>by rw[e,h0] at c;omega
   rw[if_pos c,e,Zi]
   simp only[if_true]
   rw[if_pos (show tmB lo=true by unfold tmB;simp;omega)]
   obtain⟨r,g1,g2,g3,g4,g5,g6,g7⟩:=ih (i+1) (t.set i lo) (M+55) (by omega) (by rw[List.length_set];exact ht) (by rw[Pr.getD_set_ne (by omega)];exact h0) (fun x hx=>by
    rcases List.mem_or_eq_of_mem_set hx with hx|hx
    ·have:=hb x hx;omega
    ·subst hx;omega) (by omega) (by omega) (fun j hj2=>by
    by_cases c2:j=i
    ·subst c2;rw[Pr.getD_set_eq (by omega)];omega
    ·rw[Pr.getD_set_ne (by omega)];exact hj j (by omega)) hq2
   refine⟨r,g1,g2,g3,g4,g5,fun j hj2 hn=>?_,g7⟩
   have hji:j≠i:=fun e=>hn (by rw[e];exact c)
   have:=g6 j hj2 (by rw[Pr.getD_set_ne (by omega)];exact hn)
   rw[this,Pr.getD_set_ne (by omega)]
  ·rw[if_neg c]
   exact ih (i+1) t M (by omega) ht h0 hb hM (by omega) (fun j hj2=>by
    by_cases c2:j=i
    ·subst c2;exact c
    ·exact hj j (by omega)) hq
end Go.Proofs.Ythphnhmabieflab.Pr
namespace Go.Proofs.Ythphnhmabieflab.Pr
open Go.RowKit Go.Proofs.YthphnhmabieflabW.PrintWords Go.Proofs.Ythphnhmabieflab.Ni
theorem times_l {b:List Int} {n:Nat} (hn:n≤1000):∀(d:Nat) (t:List Int) (i h:Int) (k:Nat),t.length+d=n→Cur b i→(∀x∈t,0≤x∧x≤5)→t.getD 0 0=0→1≤t.length→d<k →
  ∃t',Z9.l0 k (n:Int) t b i h=some t'∧t'.length=n∧(∀x∈t',0≤x∧x≤5)∧t'.getD 0 0=0
 | 0,t,i,h,k,hl,hc,hb,h0,h1,hk=>by
  obtain⟨m,rfl⟩:∃m,k=m+1:=⟨k - 1,by omega⟩
  simp only[Z9.l0]
  rw[if_neg (by omega)]
  exact⟨t,rfl,by omega,hb,h0⟩
 | d+1,t,i,h,k,hl,hc,hb,h0,h1,hk=>by
  obtain⟨m,rfl⟩:∃m,k=m+1:=⟨k - 1,by omega⟩
  simp only[Z9.l0]
  obtain⟨a,i1,g1,e1,a0,a1,c1⟩:=Zbm (n:=6) (h:=h) hc (by omega) (by omega)
  rw[if_pos (by omega),e1,Zi]
  simp only
  rw[if_pos (by omega)]
  refine times_l hn d (t ++ [a]) i1 g1 m (by simp;omega) c1 (fun x hx=>?_) ?_ (by simp) (by omega)
  ·rcases List.mem_append.1 hx with hx|hx
   ·exact hb x hx
   ·rw[List.mem_singleton] at hx;subst hx;omega
  ·rw[List.getD_eq_getElem?_getD,List.getElem?_append_left (by omega),← List.getD_eq_getElem?_getD];exact h0
theorem times_f {b:List Int} (hb:b.length≤1048576) (a:Int) (ha:a≤1048576) {n:Nat} (h1:1≤n) (hn:n≤1000) (k:Nat) (hk:2 ^ 64≤k):∃t,Z9.f k b a (n:Int)=some t∧t.length=n∧(∀x∈t,0≤x∧x≤5)∧t.getD 0 0=0:=by
 obtain⟨i,h,e,c⟩:=l29New_f hb a ha k hk
 unfold Z9.f
 rw[e,Zi]
 exact times_l hn (n - 1) [0] i h k (by simp;omega) c (fun x hx=>by rw[List.mem_singleton] at hx;subst hx;omega) rfl (by simp) (by omega)
end Go.Proofs.Ythphnhmabieflab.Pr
