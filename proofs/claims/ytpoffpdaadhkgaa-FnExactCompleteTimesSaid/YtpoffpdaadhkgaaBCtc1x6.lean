/- The texts of one claim, put together by a program of this session. -/
import Derived.WalkSpells
import Derived.Test.YtpoffpdaadhkgaaBCtc1x1
import Derived.Test.YtpoffpdaadhkgaaBCtc1x2
import Derived.Test.YtpoffpdaadhkgaaBCtc1x3
import Derived.Test.YtpoffpdaadhkgaaBCtc1x5
namespace Go.Proofs.Ytpoffpdaadhkgaa.Pr
open Go.RowKit Go.Proofs.YtpoffpdaadhkgaaW.PrintWords Go.Proofs.YtpoffpdaadhkgaaW.PrintLast Go.Proofs.YtpoffpdaadhkgaaW.PrintMore
attribute [local go_sem] Zaa Z8 Zak Zaj Z5 Z4 Z9 Z7
set_option linter.unusedVariables false
set_option linter.unusedSimpArgs false
open Go.Proofs.Ytpoffpdaadhkgaa.Ni
def Zal.f (k:Nat) (a0_0:Int) (l0_1:List (S101)):Option Bool:=(Zae.f a0_0 l0_1).bind fun b=>if b=true then(ZaY.f k a0_0 l0_1).bind fun g=>(Zat.f g.1 g.2).bind fun c=>some c.isEmpty else some false
set_option maxHeartbeats 4000000 in
set_option maxRecDepth 100000 in
theorem Zal.calls (k:Nat) (a0_0:Int) (A0_1:Option Addr) (c0_1:Nat) (l0_1:List (S101)) (r:Bool) (w:World) (hr0_1:Kd.C k101 w A0_1 l0_1.length l0_1) (hc0_1:l0_1.length≤c0_1) (h:Zal.f k a0_0 l0_1=some r) :
  Calls Try.prog 18 #[.agg #[.int .i64 a0_0,.slice A0_1 l0_1.length c0_1]] w fun e w'=>e=.returned (.bool r)∧Below w.heap.size w w':=by
 unfold Zal.f at h
 obtain⟨b,hb_,h⟩:=Option.bind_eq_some_iff.1 h
 have HS:=Za fun (W:World) (hb:Below w.heap.size w W)=>Zae.calls a0_0 A0_1 c0_1 l0_1 b W (Zb hr0_1 hb) hc0_1 hb_
 have B1:=Za (Zq (Below.refl w.heap.size w) (.cells #[.int .i64 a0_0,.slice A0_1 l0_1.length c0_1] 25))
 have K0:=Za (show(w.alloc (.cells #[.int .i64 a0_0,.slice A0_1 l0_1.length c0_1] 25)).cell? ⟨w.heap.size,0,none⟩=some (.int .i64 a0_0) by go_simp)
 have K1:=Za (show(w.alloc (.cells #[.int .i64 a0_0,.slice A0_1 l0_1.length c0_1] 25)).cell? ⟨w.heap.size,1,none⟩=some (.slice A0_1 l0_1.length c0_1) by go_simp)
 have hu:=Try.underlying25
 cases b with
 | false=>
  rw[if_neg (by simp)] at h
  obtain rfl:=Zg h
  clear hr0_1 hc0_1 hb_ h
  go_enter Try.func18,Try.ntmps18
  go_wp2_with (go_at_call 19;refine(HS.out _ B1.out).mono ?_;rintro e w1 ⟨rfl,hb⟩)
  go_ret
  exact⟨rfl,B1.out.trans (hb.mono B1.out.size)⟩
 | true=>
 rw[if_pos rfl] at h
 obtain⟨⟨g1,g2⟩,hg,h⟩:=Option.bind_eq_some_iff.1 h
 obtain⟨c,hc,h⟩:=Option.bind_eq_some_iff.1 h
 obtain rfl:=Zg h
 have HG:=Za fun (W:World) (hb:Below w.heap.size w W)=>ZaY.calls k a0_0 A0_1 c0_1 l0_1 g1 g2 W (Zb hr0_1 hb) hc0_1 hg
 have HNC:=Za fun (W:World) (A:Option Addr) (cc:Nat) (hr:Kd.C k148 W A g2.length g2) (hcc:g2.length≤cc)=>Zat.own g1 A cc g2 c W hr hcc hc
 clear hr0_1 hc0_1 hb_ hg hc h
 have hsn:=fun (W:World) (A:Option Addr) (n c:Nat)=>Lib.run_eql_slice_nil (P:=Try.prog) W 33 3 A n c 0 0 Try.underlying33
 cases hce:c with
 | nil=>
  rw[hce] at HNC
  clear hce
  go_enter Try.func18,Try.ntmps18
  go_wp2_with (first|(go_at_call 19;refine(HS.out _ B1.out).mono ?_;rintro e w1 ⟨rfl,hb⟩;have hk0:=ZK hb K0.out;have hk1:=ZK hb K1.out;have hlt:=Zc _ _ hk0;have HB:=Za (B1.out.trans (hb.mono B1.out.size));clear hb)|(go_at_call 66;refine(HG.out _ HB.out).mono ?_;rintro e w2 ⟨v1,rfl,hr,hb⟩;obtain⟨Ag,cg,rfl,hcg,hrg⟩:=Kd.R_reads hr;replace HB:=Za (HB.out.trans (hb.mono HB.out.size));have HRG:=Za (And.intro hcg hrg);clear hb hr hcg hrg hk0 hk1 hlt)|(go_at_call 68;refine(HNC.out _ Ag cg HRG.out.2 HRG.out.1).mono ?_;rintro e w3 ⟨v2,rfl,_,hnil,hb⟩;obtain rfl:=hnil.out (by first|rfl|trivial);replace HB:=Za (HB.out.trans (hb.mono HB.out.size));clear hb hnil))
  go_ret
  exact⟨rfl,HB.out⟩
 | cons x t=>
  rw[hce] at HNC
  clear hce
  go_enter Try.func18,Try.ntmps18
  go_wp2_with (first|(go_at_call 19;refine(HS.out _ B1.out).mono ?_;rintro e w1 ⟨rfl,hb⟩;have hk0:=ZK hb K0.out;have hk1:=ZK hb K1.out;have hlt:=Zc _ _ hk0;have HB:=Za (B1.out.trans (hb.mono B1.out.size));clear hb)|(go_at_call 66;refine(HG.out _ HB.out).mono ?_;rintro e w2 ⟨v1,rfl,hr,hb⟩;obtain⟨Ag,cg,rfl,hcg,hrg⟩:=Kd.R_reads hr;replace HB:=Za (HB.out.trans (hb.mono HB.out.size));have HRG:=Za (And.intro hcg hrg);clear hb hr hcg hrg hk0 hk1 hlt)|(go_at_call 68;refine(HNC.out _ Ag cg HRG.out.2 HRG.out.1).mono ?_;rintro e w3 ⟨v2,rfl,hr,_,hb⟩;obtain⟨g3,cap3,e3,_⟩:=Kd.R_form hr (by simp);rw[e3];replace HB:=Za (HB.out.trans (hb.mono HB.out.size));clear hb hr e3))
  go_ret
  exact⟨rfl,HB.out⟩
end Go.Proofs.Ytpoffpdaadhkgaa.Pr
namespace Go.Proofs.Ytpoffpdaadhkgaa.Pr
open Go.RowKit Go.Proofs.YtpoffpdaadhkgaaW.PrintWords Go.Proofs.YtpoffpdaadhkgaaW.PrintLast Go.Proofs.YtpoffpdaadhkgaaW.PrintMore
attribute [local go_sem] Zaa Z8 Zak Zaj Z5 Z4 Z9 Z7
set_option linter.unusedVariables false
set_option linter.unusedSimpArgs false
def Zbw.f (k:Nat) (a0_0:Int) (l0_1:List (S101)) (l1:List Int):Option (Bool):=(ZR.f k a0_0 l0_1 l1).bind fun bt21002=>(if bt21002.2.2=true then((Zal.f k bt21002.1 bt21002.2.1).bind fun t21008=>(some t21008)) else(some false))
set_option maxHeartbeats 8000000 in
set_option maxRecDepth 100000 in
theorem Zbw.calls (k:Nat) (a0_0:Int) (A0_1:Option Addr) (c0_1:Nat) (l0_1:List (S101)) (A1:Option Addr) (c1:Nat) (l1:List Int) (r:Bool) (w:World) (hr0_1:Kd.C k101 w A0_1 l0_1.length l0_1) (hc0_1:l0_1.length≤c0_1) (hr1:Kd.C (Kd.int .i64) w A1 l1.length l1) (hc1:l1.length≤c1) (h:Zbw.f k a0_0 l0_1 l1=some r) :
  Calls Try.prog 21 #[.agg #[.int .i64 a0_0,.slice A0_1 l0_1.length c0_1],.slice A1 l1.length c1] w fun e w'=>e=.returned (.bool r)∧Below w.heap.size w w':=by
 have hu25:=Try.underlying25
 have HR0_1:=Za hr0_1;have HC0_1:=Za hc0_1;clear hr0_1 hc0_1;have HR1:=Za hr1;have HC1:=Za hc1;clear hr1 hc1
 have HB:=Za (Below.refl w.heap.size w)
 have H:((ZR.f k a0_0 l0_1 l1).bind fun bt21002=>(if bt21002.2.2=true then((Zal.f k bt21002.1 bt21002.2.1).bind fun t21008=>(some t21008)) else(some false)))=some r:=h
 clear h
 replace H:=Zh H
 obtain⟨⟨t21002,t21003,t21006⟩,A30,H⟩:=H
 replace H:(if t21006=true then((Zal.f k t21002 t21003).bind fun t21008=>(some t21008)) else(some false))=some r:=H
 have A3:=Za A30;clear A30
 by_cases c4:t21006=true
 ·subst c4
  have H1:((Zal.f k t21002 t21003).bind fun t21008=>(some t21008))=some r:=by rw[if_pos rfl] at H;exact H
  clear H
  have H:=H1
  clear H1
  replace H:=Zh H
  obtain⟨t21008,A50,H⟩:=H
  replace H:(some t21008)=some r:=H
  have A5:=Za A50;clear A50
  obtain rfl:=Zg H
  go_enter Try.func21,Try.ntmps21
  go_wp2_with (first|((with_reducible refine ZC (N:=2) rfl ?_);refine ZE ?hg (N:=2) ?hd (cs:=#[.int .i64 a0_0,.slice A0_1 l0_1.length c0_1]) (t:=25) ?hr ?_;(case hd=>rfl);(case hg=>rfl);(case hr=>first|(go_simp;done)|(go_simp;rfl));intro gb21001 hg w6 hbox hb;have n0_:=Za (Zy (by repeat(first|(with_reducible first|exact HB.out|apply Zq|apply Zm|apply Zs)|exact HB.out)) hb);have n1_:=Za (hbox);have n2_:=Za ((by rw[hg];exact(Zv (by repeat(first|(with_reducible first|exact HB.out|apply Zq|apply Zm|apply Zs)|exact HB.out))):w.heap.size≤gb21001));have n3_:=Za ((by rw[hg];exact(Zv (by repeat(first|(with_reducible first|exact HB.out|apply Zq|apply Zm|apply Zs)|exact HB.out))):w.heap.size≤gb21001));clear HB;have HB:=n0_;have BK21001:=n1_;have GW21001:=n2_;have GE21001:=n3_;clear n0_ n1_ n2_ n3_;clear hb hbox hg;have hcz7_0:w6.cell? ⟨gb21001,0,none⟩=some (.int .i64 a0_0):=(Zu BK21001.out 0).trans rfl;have hcz7_1:w6.cell? ⟨gb21001,1,none⟩=some (.slice A0_1 l0_1.length c0_1):=(Zu BK21001.out 1).trans rfl;have hfz7_0:=Zt BK21001.out 0;have hfz7_1:=Zt BK21001.out 1)|((with_reducible refine ZG (f:=20) rfl ?_);refine ZV (some 10) rfl rfl Try.func20 (by kernel_rfl) rfl #[.agg #[.int .i64 a0_0,.slice A0_1 l0_1.length c0_1],.slice A1 l1.length c1] rfl (by(try simp only[List.map_toArray,List.map_cons,List.map_nil]);first|done|rfl|(simp only[Zk,Zj];rfl)) ?_;(with_reducible refine(ZR.calls k a0_0 _ _ l0_1 _ _ l1 t21002 t21003 true _ ?side1 ?side2 ?side3 ?side4 A3.out).mono ?_);(case side1=>repeat(first|exact(Zb HR0_1.out HB.out)|(with_reducible refine Kd.C_alloc ?_ _)|(with_reducible refine Kd.C_drewN ?_ _)|(with_reducible refine Kd.C_drew ?_)));(case side2=>exact HC0_1.out);(case side3=>repeat(first|exact(Zb HR1.out HB.out)|(with_reducible refine Kd.C_alloc ?_ _)|(with_reducible refine Kd.C_drewN ?_ _)|(with_reducible refine Kd.C_drew ?_)));(case side4=>exact HC1.out);rintro e w8 ⟨v21004,rfl,ho0,hb⟩;refine⟨_,rfl,?_⟩;have n0_:=Za (Kd.R_lower ho0 (Zv (by repeat(first|(with_reducible first|exact HB.out|apply Zq|apply Zm|apply Zs|refine Zp ?_ GE21001.out)|exact HB.out))));have n1_:=Za (Zx (g:=gb21001) (o:=.cells #[.int .i64 a0_0,.slice A0_1 l0_1.length c0_1] 25 (0,0)) (by(with_reducible repeat(first|refine Zo ?_ _|refine Zr ?_|refine Zn ?_ _));exact BK21001.out) hb);have n2_:=Za (Zy (by repeat(first|(with_reducible first|exact HB.out|apply Zq|apply Zm|apply Zs|refine Zp ?_ GE21001.out)|exact HB.out)) hb);clear BK21001;clear HB;have HO21005:=n0_;have BK21001:=n1_;have HB:=n2_;clear n0_ n1_ n2_;(try clear hb);(try clear hb2);(try clear hk);(try clear hi);(try clear ho0))|((with_reducible refine ZC (N:=5) rfl ?_);refine ZE ?hg (N:=5) ?hd (cs:=#[.int .i64 0,.slice none 0 0]) (t:=25) ?hr ?_;(case hd=>rfl);(case hg=>rfl);(case hr=>first|(go_simp;done)|(go_simp;rfl));intro gb21007 hg w9 hbox hb;have n0_:=Za (Kd.R_below (by(with_reducible repeat(first|apply Kd.R_alloc|apply Kd.R_drewN|apply Kd.R_drew));exact HO21005.out) hb);have n1_:=Za (Zx (g:=gb21001) (o:=.cells #[.int .i64 a0_0,.slice A0_1 l0_1.length c0_1] 25 (0,0)) (by(with_reducible repeat(first|refine Zo ?_ _|refine Zr ?_|refine Zn ?_ _));exact BK21001.out) hb);have n2_:=Za (Zy (by repeat(first|(with_reducible first|exact HB.out|apply Zq|apply Zm|apply Zs|refine Zp ?_ GE21001.out)|exact HB.out)) hb);have n3_:=Za (hbox);have n4_:=Za ((by rw[hg];exact(Zv (by repeat(first|(with_reducible first|exact HB.out|apply Zq|apply Zm|apply Zs|refine Zp ?_ GE21001.out)|exact HB.out))):w.heap.size≤gb21007));have n5_:=Za ((by rw[hg];exact(Zv (by repeat(first|(with_reducible first|exact HB.out|apply Zq|apply Zm|apply Zs|refine Zp ?_ GE21001.out)|exact HB.out))):w.heap.size≤gb21007));have n6_:=Za ((by rw[hg];exact Nat.ne_of_lt (ZB (g:=gb21001) (o:=.cells #[.int .i64 a0_0,.slice A0_1 l0_1.length c0_1] 25 (0,0)) (by(with_reducible repeat(first|refine Zo ?_ _|refine Zr ?_|refine Zn ?_ _));exact BK21001.out)):gb21001≠gb21007));have n7_:=Za ((by rw[hg];exact Nat.ne_of_gt (ZB (g:=gb21001) (o:=.cells #[.int .i64 a0_0,.slice A0_1 l0_1.length c0_1] 25 (0,0)) (by(with_reducible repeat(first|refine Zo ?_ _|refine Zr ?_|refine Zn ?_ _));exact BK21001.out)):gb21007≠gb21001));clear HO21005;clear BK21001;clear HB;have HO21005:=n0_;have BK21001:=n1_;have HB:=n2_;have BK21007:=n3_;have GW21007:=n4_;have GE21007:=n5_;have NB21001_21007:=n6_;have NB21007_21001:=n7_;clear n0_ n1_ n2_ n3_ n4_ n5_ n6_ n7_;clear hb hbox hg;have hnb10:=NB21007_21001.out;have hnc10:=NB21001_21007.out;have hcz11_0:w9.cell? ⟨gb21007,0,none⟩=some (.int .i64 0):=(Zu BK21007.out 0).trans rfl;have hcz11_1:w9.cell? ⟨gb21007,1,none⟩=some (.slice none 0 0):=(Zu BK21007.out 1).trans rfl;have hfz11_0:=Zt BK21007.out 0;have hfz11_1:=Zt BK21007.out 1;obtain⟨Ao12,co12,eo12⟩:=Kd.R_slice HO21005.out;subst eo12)|(go_at_call 18;(with_reducible refine(Zal.calls k t21002 _ _ t21003 t21008 _ ?side1 ?side2 A5.out).mono ?_);(case side1=>refine(Kd.R_reads' (e:=101) (base:=w.heap.size) (ok:=fun k_=>True) (n:=t21003.length) (c:=co12) ?_).2.2;exact(by(with_reducible repeat(first|apply Kd.R_alloc|apply Kd.R_drewN|apply Kd.R_drew));exact(Kd.R_mono (Kd.R_far (p:=⟨gb21007,1,none⟩) (Kd.R_far (p:=⟨gb21007,0,none⟩) (Kd.R_types HO21005.out BK21007.out (by decide)) (fun _ hk=>hk.2) (.int .i64 t21002)) (fun _ hk=>hk.2) (.slice Ao12 t21003.length co12)) (fun _ h_=>h_.1))));(case side2=>exact(Kd.R_reads' HO21005.out).2.1);rintro e w13 ⟨rfl,hb⟩;have n0_:=Za (Kd.R_below (by(with_reducible repeat(first|apply Kd.R_alloc|apply Kd.R_drewN|apply Kd.R_drew));exact(Kd.R_mono (Kd.R_far (p:=⟨gb21007,1,none⟩) (Kd.R_far (p:=⟨gb21007,0,none⟩) (Kd.R_types HO21005.out BK21007.out (by decide)) (fun _ hk=>hk.2) (.int .i64 t21002)) (fun _ hk=>hk.2) (.slice Ao12 t21003.length co12)) (fun _ h_=>h_.1))) hb);have n1_:=Za (Zx (g:=gb21001) (o:=.cells #[.int .i64 a0_0,.slice A0_1 l0_1.length c0_1] 25 (0,0)) (by(with_reducible repeat(first|refine Zo ?_ _|refine Zr ?_|refine Zn ?_ _));refine ZD ?_ NB21001_21007.out _;(with_reducible repeat(first|refine Zo ?_ _|refine Zr ?_|refine Zn ?_ _));refine ZD ?_ NB21001_21007.out _;(with_reducible repeat(first|refine Zo ?_ _|refine Zr ?_|refine Zn ?_ _));exact BK21001.out) hb);have n2_:=Za (Zx (g:=gb21007) (o:=.cells #[.int .i64 t21002,.slice Ao12 t21003.length co12] 25 (0,0)) (by(with_reducible repeat(first|refine Zo ?_ _|refine Zr ?_|refine Zn ?_ _));refine ZF (cs:=#[.int .i64 t21002,.slice none 0 0]) ?_ 1 _ rfl;(with_reducible repeat(first|refine Zo ?_ _|refine Zr ?_|refine Zn ?_ _));refine ZF (cs:=#[.int .i64 0,.slice none 0 0]) ?_ 0 _ rfl;(with_reducible repeat(first|refine Zo ?_ _|refine Zr ?_|refine Zn ?_ _));exact BK21007.out) hb);have n3_:=Za (Zy (by repeat(first|(with_reducible first|exact HB.out|apply Zq|apply Zm|apply Zs|refine Zp ?_ GE21001.out|refine Zp ?_ GE21007.out)|exact HB.out)) hb);clear HO21005;clear BK21001;clear BK21007;clear HB;have HO21005:=n0_;have BK21001:=n1_;have BK21007:=n2_;have HB:=n3_;clear n0_ n1_ n2_ n3_;(try clear hb);(try clear hb2);(try clear hk);(try clear hi)))
  go_ret
  exact⟨by first|rfl|(simp[ZA,Zz] <;> rfl)|(simp[*,ZA,Zz] <;> rfl),by repeat(first|(with_reducible first|exact HB.out|apply Zq|apply Zm|apply Zs|refine Zp ?_ GE21001.out|refine Zp ?_ GE21007.out)|exact HB.out)⟩
 ·replace c4:=Bool.eq_false_iff.mpr c4
  subst c4
  have H1:(some false)=some r:=by rw[if_neg (show ¬(false=true) by decide)] at H;exact H
  clear H
  have H:=H1
  clear H1
  obtain rfl:=Zg H
  go_enter Try.func21,Try.ntmps21
  go_wp2_with (first|((with_reducible refine ZC (N:=2) rfl ?_);refine ZE ?hg (N:=2) ?hd (cs:=#[.int .i64 a0_0,.slice A0_1 l0_1.length c0_1]) (t:=25) ?hr ?_;(case hd=>rfl);(case hg=>rfl);(case hr=>first|(go_simp;done)|(go_simp;rfl));intro gb21001 hg w14 hbox hb;have n0_:=Za (Zy (by repeat(first|(with_reducible first|exact HB.out|apply Zq|apply Zm|apply Zs)|exact HB.out)) hb);have n1_:=Za (hbox);have n2_:=Za ((by rw[hg];exact(Zv (by repeat(first|(with_reducible first|exact HB.out|apply Zq|apply Zm|apply Zs)|exact HB.out))):w.heap.size≤gb21001));have n3_:=Za ((by rw[hg];exact(Zv (by repeat(first|(with_reducible first|exact HB.out|apply Zq|apply Zm|apply Zs)|exact HB.out))):w.heap.size≤gb21001));clear HB;have HB:=n0_;have BK21001:=n1_;have GW21001:=n2_;have GE21001:=n3_;clear n0_ n1_ n2_ n3_;clear hb hbox hg;have hcz15_0:w14.cell? ⟨gb21001,0,none⟩=some (.int .i64 a0_0):=(Zu BK21001.out 0).trans rfl;have hcz15_1:w14.cell? ⟨gb21001,1,none⟩=some (.slice A0_1 l0_1.length c0_1):=(Zu BK21001.out 1).trans rfl;have hfz15_0:=Zt BK21001.out 0;have hfz15_1:=Zt BK21001.out 1)|((with_reducible refine ZG (f:=20) rfl ?_);refine ZV (some 10) rfl rfl Try.func20 (by kernel_rfl) rfl #[.agg #[.int .i64 a0_0,.slice A0_1 l0_1.length c0_1],.slice A1 l1.length c1] rfl (by(try simp only[List.map_toArray,List.map_cons,List.map_nil]);first|done|rfl|(simp only[Zk,Zj];rfl)) ?_;(with_reducible refine(ZR.calls k a0_0 _ _ l0_1 _ _ l1 t21002 t21003 false _ ?side1 ?side2 ?side3 ?side4 A3.out).mono ?_);(case side1=>repeat(first|exact(Zb HR0_1.out HB.out)|(with_reducible refine Kd.C_alloc ?_ _)|(with_reducible refine Kd.C_drewN ?_ _)|(with_reducible refine Kd.C_drew ?_)));(case side2=>exact HC0_1.out);(case side3=>repeat(first|exact(Zb HR1.out HB.out)|(with_reducible refine Kd.C_alloc ?_ _)|(with_reducible refine Kd.C_drewN ?_ _)|(with_reducible refine Kd.C_drew ?_)));(case side4=>exact HC1.out);rintro e w16 ⟨v21004,rfl,ho0,hb⟩;refine⟨_,rfl,?_⟩;have n0_:=Za (Kd.R_lower ho0 (Zv (by repeat(first|(with_reducible first|exact HB.out|apply Zq|apply Zm|apply Zs|refine Zp ?_ GE21001.out)|exact HB.out))));have n1_:=Za (Zx (g:=gb21001) (o:=.cells #[.int .i64 a0_0,.slice A0_1 l0_1.length c0_1] 25 (0,0)) (by(with_reducible repeat(first|refine Zo ?_ _|refine Zr ?_|refine Zn ?_ _));exact BK21001.out) hb);have n2_:=Za (Zy (by repeat(first|(with_reducible first|exact HB.out|apply Zq|apply Zm|apply Zs|refine Zp ?_ GE21001.out)|exact HB.out)) hb);clear BK21001;clear HB;have HO21005:=n0_;have BK21001:=n1_;have HB:=n2_;clear n0_ n1_ n2_;(try clear hb);(try clear hb2);(try clear hk);(try clear hi);(try clear ho0))|((with_reducible refine ZC (N:=5) rfl ?_);refine ZE ?hg (N:=5) ?hd (cs:=#[.int .i64 0,.slice none 0 0]) (t:=25) ?hr ?_;(case hd=>rfl);(case hg=>rfl);(case hr=>first|(go_simp;done)|(go_simp;rfl));intro gb21007 hg w17 hbox hb;have n0_:=Za (Kd.R_below (by(with_reducible repeat(first|apply Kd.R_alloc|apply Kd.R_drewN|apply Kd.R_drew));exact HO21005.out) hb);have n1_:=Za (Zx (g:=gb21001) (o:=.cells #[.int .i64 a0_0,.slice A0_1 l0_1.length c0_1] 25 (0,0)) (by(with_reducible repeat(first|refine Zo ?_ _|refine Zr ?_|refine Zn ?_ _));exact BK21001.out) hb);have n2_:=Za (Zy (by repeat(first|(with_reducible first|exact HB.out|apply Zq|apply Zm|apply Zs|refine Zp ?_ GE21001.out)|exact HB.out)) hb);have n3_:=Za (hbox);have n4_:=Za ((by rw[hg];exact(Zv (by repeat(first|(with_reducible first|exact HB.out|apply Zq|apply Zm|apply Zs|refine Zp ?_ GE21001.out)|exact HB.out))):w.heap.size≤gb21007));have n5_:=Za ((by rw[hg];exact(Zv (by repeat(first|(with_reducible first|exact HB.out|apply Zq|apply Zm|apply Zs|refine Zp ?_ GE21001.out)|exact HB.out))):w.heap.size≤gb21007));have n6_:=Za ((by rw[hg];exact Nat.ne_of_lt (ZB (g:=gb21001) (o:=.cells #[.int .i64 a0_0,.slice A0_1 l0_1.length c0_1] 25 (0,0)) (by(with_reducible repeat(first|refine Zo ?_ _|refine Zr ?_|refine Zn ?_ _));exact BK21001.out)):gb21001≠gb21007));have n7_:=Za ((by rw[hg];exact Nat.ne_of_gt (ZB (g:=gb21001) (o:=.cells #[.int .i64 a0_0,.slice A0_1 l0_1.length c0_1] 25 (0,0)) (by(with_reducible repeat(first|refine Zo ?_ _|refine Zr ?_|refine Zn ?_ _));exact BK21001.out)):gb21007≠gb21001));clear HO21005;clear BK21001;clear HB;have HO21005:=n0_;have BK21001:=n1_;have HB:=n2_;have BK21007:=n3_;have GW21007:=n4_;have GE21007:=n5_;have NB21001_21007:=n6_;have NB21007_21001:=n7_;clear n0_ n1_ n2_ n3_ n4_ n5_ n6_ n7_;clear hb hbox hg;have hnb18:=NB21007_21001.out;have hnc18:=NB21001_21007.out;have hcz19_0:w17.cell? ⟨gb21007,0,none⟩=some (.int .i64 0):=(Zu BK21007.out 0).trans rfl;have hcz19_1:w17.cell? ⟨gb21007,1,none⟩=some (.slice none 0 0):=(Zu BK21007.out 1).trans rfl;have hfz19_0:=Zt BK21007.out 0;have hfz19_1:=Zt BK21007.out 1;obtain⟨Ao20,co20,eo20⟩:=Kd.R_slice HO21005.out;subst eo20))
  go_ret
  exact⟨by first|rfl|(simp[ZA,Zz] <;> rfl)|(simp[*,ZA,Zz] <;> rfl),by repeat(first|(with_reducible first|exact HB.out|apply Zq|apply Zm|apply Zs|refine Zp ?_ GE21001.out|refine Zp ?_ GE21007.out)|exact HB.out)⟩
end Go.Proofs.Ytpoffpdaadhkgaa.Pr
namespace Go.Proofs.Ytpoffpdaadhkgaa.Pr
open Go.RowKit Go.Proofs.YtpoffpdaadhkgaaW.PrintWords Go.Proofs.Ytpoffpdaadhkgaa.Ni
abbrev SSt:=List Int×List Int×List Bool×Int
def ZbD (s:SSt) (i:Nat) (e:Z1):SSt:=
 if rb s.2.2.1 e.f0=true∧(rb s.2.2.1 e.f1=false∨wrap64 (rd s.1 e.f0+e.f2)<rd s.1 e.f1) then(s.1.set e.f1.toNat (wrap64 (rd s.1 e.f0+e.f2)),s.2.1.set e.f1.toNat (i:Int),s.2.2.1.set e.f1.toNat true,(i:Int)) else s
def srnd:List Z1→Nat→SSt→SSt
 | [],_,s=>s
 | e :: t,i,s=>srnd t (i+1) (ZbD s i e)
theorem rb_all {N:Nat} {x:Int} (h0:0≤x) (h:x<N):rb (List.replicate N true) x=true:=by
 unfold rb
 rw[List.getD_eq_getElem?_getD,List.getElem?_replicate,if_pos (by omega)];rfl
theorem srelax_all {N i:Nat} {d l:List Int} {ch:Int} {e:Z1} (h:0≤e.f0∧e.f0<N∧0≤e.f1∧e.f1<N):ZbD (d,l,List.replicate N true,ch) i e=((relax (d,l,ch) i e).1,(relax (d,l,ch) i e).2.1,List.replicate N true,(relax (d,l,ch) i e).2.2):=by
 unfold ZbD relax
 dsimp only
 rw[rb_all h.1 h.2.1,rb_all h.2.2.1 h.2.2.2]
 by_cases c:wrap64 (rd d e.f0+e.f2)<rd d e.f1
 ·rw[if_pos ⟨rfl,.inr c⟩,if_pos c]
  simp
 ·rw[if_neg (by simp[c]),if_neg c]
theorem srnd_all {N:Nat}:∀(E:List Z1) (i:Nat) (d l:List Int) (ch:Int),Zba E N→srnd E i (d,l,List.replicate N true,ch)=((rnd E i (d,l,ch)).1,(rnd E i (d,l,ch)).2.1,List.replicate N true,(rnd E i (d,l,ch)).2.2)
 | [],_,_,_,_,_=>rfl
 | e :: t,i,d,l,ch,h=>by
  show srnd t (i+1) (ZbD _ i e)=_
  rw[srelax_all (h e (by simp))]
  rw[srnd_all t (i+1) _ _ _ (fun x hx=>h x (by simp[hx]))]
  rfl
def sknow (s:SSt):KSt:=(s.1,s.2.2.1,decide (0≤s.2.2.2))
theorem srelax_k (s:SSt) (i:Nat) (e:Z1):sknow (ZbD s i e)=ZbP (sknow s) e:=by
 obtain⟨d,l,kn,ch⟩:=s
 unfold ZbD ZbP sknow
 dsimp only
 split
 ·simp
 ·rfl
theorem srnd_k:∀(E:List Z1) (i:Nat) (s:SSt),sknow (srnd E i s)=krnd E (sknow s)
 | [],_,_=>rfl
 | e :: t,i,s=>by
  show sknow (srnd t (i+1) (ZbD s i e))=krnd t (ZbP (sknow s) e)
  rw[srnd_k t,srelax_k]
theorem srelax_len {s:SSt} {i n:Nat} {e:Z1} (h:s.1.length=n∧s.2.1.length=n∧s.2.2.1.length=n):(ZbD s i e).1.length=n∧(ZbD s i e).2.1.length=n∧(ZbD s i e).2.2.1.length=n:=by
 unfold ZbD
 split
 ·simpa using h
 ·exact h
def isf (E:List Z1):Nat→KSt→Option KSt
 | 0,_=>none
 | m+1,s=>let u:=krnd E (s.1,s.2.1,false);if u.2.2=false then some u else isf E m u
def finB (s:KSt):List Int:=(List.range s.1.length).map fun i=>if s.2.1.getD i false=true then min (s.1.getD i 0) 1000000 else 1000000
theorem Zdk (s:KSt):(finB s).length=s.1.length:=by simp[finB]
theorem isf_more {E:List Z1}:∀{m:Nat} {s u:KSt},isf E m s=some u→isf E (m+1) s=some u
 | 0,_,_,h=>by cases h
 | m+1,s,u,h=>by
  rw[isf] at h ⊢
  try dsimp only at h ⊢
  split at h
  ·rename_i h1;rw[if_pos h1];exact h
  ·rename_i h1;rw[if_neg h1];exact isf_more h
theorem isf_of {E:List Z1}:∀(m:Nat) (s:KSt),(ZbZ E (m+1) s).2.2=false→∃u,isf E (m+1) s=some u
 | 0,s,h=>by
  rw[isf]
  try dsimp only
  have h':(krnd E (s.1,s.2.1,false)).2.2=false:=h
  rw[if_pos h']
  exact⟨_,rfl⟩
 | m+1,s,h=>by
  rw[isf]
  try dsimp only
  split
  ·exact⟨_,rfl⟩
  ·exact isf_of m _ h
theorem Zcu {f d:List Int} {j:Nat} (hl:f.length=d.length) (hj:j<d.length):(f.take j ++ d.drop j).set j (f.getD j 0)=f.take (j+1) ++ d.drop (j+1):=by
 rw[ZaO hj 0]
 have:(f.take j).length=j:=by rw[Zj];omega
 have h2:=set_mid (f.take j) (d.getD j 0) (f.getD j 0) (d.drop (j+1))
 rw[this] at h2
 rw[h2,List.take_succ_eq_append_getElem (by omega),List.append_assoc,List.getD_eq_getElem?_getD,Zl (by omega)];rfl
theorem fill_at {f d:List Int} {j:Nat} (hl:f.length=d.length) (hj:j<d.length):(f.take j ++ d.drop j).getD j 0=d.getD j 0:=by
 have:(f.take j).length=j:=by rw[Zj];omega
 rw[List.getD_eq_getElem?_getD,List.getElem?_append_right (by omega),this,Nat.sub_self,List.getElem?_drop,Nat.add_zero,← List.getD_eq_getElem?_getD]
theorem fill_keep {f d:List Int} {j:Nat} (hl:f.length=d.length) (hj:j<d.length) (h:d.getD j 0=f.getD j 0):f.take j ++ d.drop j=f.take (j+1) ++ d.drop (j+1):=by
 rw[← Zcu hl hj,← h]
 have e:=fill_at hl hj
 have:j<(f.take j ++ d.drop j).length:=by simp;omega
 rw[← e,List.getD_eq_getElem?_getD,Zl this]
 simp
theorem finB_at {s:KSt} {j:Nat} (hj:j<s.1.length):(finB s).getD j 0=if s.2.1.getD j false=true then min (s.1.getD j 0) 1000000 else 1000000:=by
 unfold finB
 rw[List.getD_eq_getElem?_getD,List.getElem?_map,List.getElem?_range hj];rfl
theorem isf_c (E:List Z1) (m:Nat) (d:List Int) (kn:List Bool) (c c':Bool):isf E m (d,kn,c)=isf E m (d,kn,c'):=by
 cases m <;> rfl
def sfB (n:Int) (E:List Z1) (a:Int) (m:Nat):List Int×Bool:=match isf E m (kst0 n.toNat a.toNat) with|some u=>(finB u,true)|none=>([],false)
end Go.Proofs.Ytpoffpdaadhkgaa.Pr
