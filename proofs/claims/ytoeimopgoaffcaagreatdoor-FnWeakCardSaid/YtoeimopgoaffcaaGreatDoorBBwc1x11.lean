/- By a program of this session. -/
import Derived.WalkSpells
import Derived.Test.YtoeimopgoaffcaaGreatDoorBBwc1x10
import Derived.Test.YtoeimopgoaffcaaGreatDoorBBwc1x8
set_option maxHeartbeats 8000000
set_option maxRecDepth 100000
namespace Go.Proofs.YtoeimopgoaffcaaGreatDoor.Pr
open RowKit YtoeimopgoaffcaaGreatDoorW.PrintWords YtoeimopgoaffcaaGreatDoorW.PrintLast YtoeimopgoaffcaaGreatDoorW.PrintMore
attribute [local go_sem] Zak Zai Zax Zaw Zac Zab Zaj Zah
set_option linter.unusedVariables false
set_option linter.unusedSimpArgs false
def ZcD.f (k:Nat) (a0_0:Int) (l0_1:List (S112)):Option (Int×(List (S184))):=(ZaN.f a0_0 l0_1).bind fun t3=>(if t3=true then((Z1.f k a0_0 l0_1).bind fun bt4=>(some (bt4.1,bt4.2.1))) else(some (0,([]:List (S184)))))
theorem ZcD.calls (k:Nat) (a0_0:Int) (A0_1:Option Addr) (c0_1:Nat) (l0_1:List (S112)) (r1:Int) (r2:List (S184)) (w:World) (hr0_1:Kd.C k112 w A0_1 l0_1.length l0_1) (hc0_1:l0_1.length≤c0_1) (h:ZcD.f k a0_0 l0_1=some (r1,r2)) :
  Calls Tryz.prog 171 #[.agg #[.int .i64 a0_0,.slice A0_1 l0_1.length c0_1]] w fun e w'=>∃v1_:Value,e=.returned (.agg #[.int .i64 r1,v1_])∧Kd.R k184 184 w' w.heap.size (fun _=>True) v1_ r2∧Below w.heap.size w w':=by
 have hu54:=Tryz.underlying54
 have hu156:=Tryz.underlying156
 have HR0_1:=Za hr0_1;have HC0_1:=Za hc0_1;clear hr0_1 hc0_1
 have HB:=Za (Below.refl w.heap.size w)
 have H:((ZaN.f a0_0 l0_1).bind fun t3=>(if t3=true then((Z1.f k a0_0 l0_1).bind fun bt4=>(some (bt4.1,bt4.2.1))) else(some (0,([]:List (S184))))))=some (r1,r2):=h
 clear h
 replace H:=Zh H
 obtain⟨t3,A20,H⟩:=H;have A2:=Za A20;clear A20
 by_cases c3:t3=true
 ·subst c3
  rw[if_pos rfl] at H
  replace H:=Zh H
  obtain⟨⟨t4,t5,t8⟩,A40,H⟩:=H;have A4:=Za A40;clear A40
  simp only[Option.some.injEq,Prod.mk.injEq] at H
  obtain⟨rfl,rfl⟩:=H
  go_enter Tryz.func171,Tryz.ntmps171
  go_wp2_with (first|((with_reducible refine ZF (N:=1) rfl ?_);refine ZG ?hg (N:=1) ?hd (cs:=#[.int .i64 a0_0,.slice A0_1 l0_1.length c0_1]) (t:=54) ?hr ?_;(case hd=>rfl);(case hg=>rfl);(case hr=>first|(go_simp;done)|(go_simp;rfl));intro gb1 hg w5 hbox hb;have BK1:=Za (hbox);have GW1:=Za ((by rw[hg];exact(Zv (by exact HB.out)):w.heap.size≤gb1));have GE1:=Za ((by rw[hg];exact(Zv (by exact HB.out)):w.heap.size≤gb1));replace HB:=Za (Zr (by exact HB.out) hb);clear hb hbox hg)|((with_reducible refine ZF (N:=2) rfl ?_);refine ZG ?hg (N:=2) ?hd (cs:=#[.int .i64 0,.slice none 0 0]) (t:=156) ?hr ?_;(case hd=>rfl);(case hg=>rfl);(case hr=>first|(go_simp;done)|(go_simp;rfl));intro gb2 hg w6 hbox hb;have BK2:=Za (hbox);have GW2:=Za ((by rw[hg];exact(Zv (by exact HB.out)):w.heap.size≤gb2));have GE2:=Za ((by rw[hg];exact(Zv (by exact HB.out)):w.heap.size≤gb2));have NB1_2:=Za ((by rw[hg];exact Nat.ne_of_lt (ZN (g:=gb1) (o:=.cells #[.int .i64 a0_0,.slice A0_1 l0_1.length c0_1] 54 (0,0)) (by exact BK1.out)):gb1≠gb2));have NB2_1:=Za ((by rw[hg];exact Nat.ne_of_gt (ZN (g:=gb1) (o:=.cells #[.int .i64 a0_0,.slice A0_1 l0_1.length c0_1] 54 (0,0)) (by exact BK1.out)):gb2≠gb1));replace BK1:=Za (Zs (g:=gb1) (o:=.cells #[.int .i64 a0_0,.slice A0_1 l0_1.length c0_1] 54 (0,0)) (by exact BK1.out) hb);replace HB:=Za (Zr (by exact HB.out) hb);clear hb hbox hg;have hnb7:=NB1_2.out;have hnc7:=NB2_1.out;have hcz8_0:w6.cell? ⟨gb1,0,none⟩=some (.int .i64 a0_0):=(Zm BK1.out 0).trans rfl;have hcz8_1:w6.cell? ⟨gb1,1,none⟩=some (.slice A0_1 l0_1.length c0_1):=(Zm BK1.out 1).trans rfl;have hfz8_0:=Zq BK1.out 0;have hfz8_1:=Zq BK1.out 1)|((with_reducible refine ZM (f:=105) rfl ?_);refine Z7 (some 6) rfl rfl Tryz.func105 (by kernel_rfl) rfl #[.agg #[.int .i64 a0_0,.slice A0_1 l0_1.length c0_1]] rfl (by(try simp only[List.map_toArray,List.map_cons,List.map_nil]);first|done|rfl|(simp only[Zk,Zj];rfl)) ?_;(with_reducible refine(ZaN.calls a0_0 _ _ l0_1 true _ ?side1 ?side2 A2.out).mono ?_);(case side1=>exact(Zb HR0_1.out HB.out));(case side2=>exact HC0_1.out);rintro e w9 ⟨rfl,hb⟩;refine⟨_,rfl,?_⟩;replace BK1:=Za (Zs (g:=gb1) (o:=.cells #[.int .i64 a0_0,.slice A0_1 l0_1.length c0_1] 54 (0,0)) (by exact BK1.out) hb);replace BK2:=Za (Zs (g:=gb2) (o:=.cells #[.int .i64 0,.slice none 0 0] 156 (0,0)) (by exact BK2.out) hb);replace HB:=Za (Zr (by exact HB.out) hb);have hcz10_0:w9.cell? ⟨gb1,0,none⟩=some (.int .i64 a0_0):=(Zm BK1.out 0).trans rfl;have hcz10_1:w9.cell? ⟨gb1,1,none⟩=some (.slice A0_1 l0_1.length c0_1):=(Zm BK1.out 1).trans rfl;have hfz10_0:=Zq BK1.out 0;have hfz10_1:=Zq BK1.out 1)|((with_reducible refine ZM (f:=174) rfl ?_);refine Z7 (some 11) rfl rfl Tryz.func174 (by kernel_rfl) rfl #[.agg #[.int .i64 a0_0,.slice A0_1 l0_1.length c0_1]] rfl (by(try simp only[List.map_toArray,List.map_cons,List.map_nil]);first|done|rfl|(simp only[Zk,Zj];rfl)) ?_;(with_reducible refine(Z1.calls k a0_0 _ _ l0_1 t4 t5 t8 _ ?side1 ?side2 A4.out).mono ?_);(case side1=>exact(Zb HR0_1.out HB.out));(case side2=>exact HC0_1.out);rintro e w11 ⟨v6,v9,rfl,ho0,ho1,hb⟩;refine⟨_,rfl,?_⟩;have HO7:=Za (Kd.R_lower ho0 (Zv (by exact HB.out)));have HO10:=Za (Kd.R_lower ho1 (Zv (by exact HB.out)));replace BK1:=Za (Zs (g:=gb1) (o:=.cells #[.int .i64 a0_0,.slice A0_1 l0_1.length c0_1] 54 (0,0)) (by exact BK1.out) hb);replace BK2:=Za (Zs (g:=gb2) (o:=.cells #[.int .i64 0,.slice none 0 0] 156 (0,0)) (by exact BK2.out) hb);replace HB:=Za (Zr (by exact HB.out) hb);(try clear ho1))|((with_reducible refine ZF (N:=3) rfl ?_);refine ZG ?hg (N:=3) ?hd (cs:=#[.int .i64 0,.slice none 0 0]) (t:=156) ?hr ?_;(case hd=>rfl);(case hg=>rfl);(case hr=>first|(go_simp;done)|(go_simp;rfl));intro gb11 hg w12 hbox hb;have BK11:=Za (hbox);have GW11:=Za ((by rw[hg];exact(Zv (by exact HB.out)):w.heap.size≤gb11));have GE11:=Za ((by rw[hg];exact(Zv (by exact HB.out)):w.heap.size≤gb11));have NB1_11:=Za ((by rw[hg];exact Nat.ne_of_lt (ZN (g:=gb1) (o:=.cells #[.int .i64 a0_0,.slice A0_1 l0_1.length c0_1] 54 (0,0)) (by exact BK1.out)):gb1≠gb11));have NB11_1:=Za ((by rw[hg];exact Nat.ne_of_gt (ZN (g:=gb1) (o:=.cells #[.int .i64 a0_0,.slice A0_1 l0_1.length c0_1] 54 (0,0)) (by exact BK1.out)):gb11≠gb1));have NB2_11:=Za ((by rw[hg];exact Nat.ne_of_lt (ZN (g:=gb2) (o:=.cells #[.int .i64 0,.slice none 0 0] 156 (0,0)) (by exact BK2.out)):gb2≠gb11));have NB11_2:=Za ((by rw[hg];exact Nat.ne_of_gt (ZN (g:=gb2) (o:=.cells #[.int .i64 0,.slice none 0 0] 156 (0,0)) (by exact BK2.out)):gb11≠gb2));replace HO7:=Za (Kd.R_below (by exact HO7.out) hb);replace HO10:=Za (Kd.R_below (by exact HO10.out) hb);replace BK1:=Za (Zs (g:=gb1) (o:=.cells #[.int .i64 a0_0,.slice A0_1 l0_1.length c0_1] 54 (0,0)) (by exact BK1.out) hb);replace BK2:=Za (Zs (g:=gb2) (o:=.cells #[.int .i64 0,.slice none 0 0] 156 (0,0)) (by exact BK2.out) hb);replace HB:=Za (Zr (by exact HB.out) hb);clear hb hbox hg;have hnb13:=NB11_1.out;have hnc13:=NB1_11.out;have hnb14:=NB11_2.out;have hnc14:=NB2_11.out;have hcz15_0:w12.cell? ⟨gb11,0,none⟩=some (.int .i64 0):=(Zm BK11.out 0).trans rfl;have hcz15_1:w12.cell? ⟨gb11,1,none⟩=some (.slice none 0 0):=(Zm BK11.out 1).trans rfl;have hfz15_0:=Zq BK11.out 0;have hfz15_1:=Zq BK11.out 1;obtain⟨Ao16,co16,eo16⟩:=Kd.R_slice HO7.out;subst eo16;have hcz17_0:w12.cell? ⟨gb2,0,none⟩=some (.int .i64 0):=(Zm BK2.out 0).trans rfl;have hcz17_1:w12.cell? ⟨gb2,1,none⟩=some (.slice none 0 0):=(Zm BK2.out 1).trans rfl;have hfz17_0:=Zq BK2.out 0;have hfz17_1:=Zq BK2.out 1))
  refine bodyPost_ret (results_cell_row rfl _ _ gb2 156 #[.int .i64 t4,.slice Ao16 t5.length co16] (0,0) _ rfl (by(with_reducible repeat(first|refine ZD ?_ _|refine Zz ?_|refine Zy ?_ _));refine ZR (cs:=#[.int .i64 t4,.slice none 0 0]) ?_ 1 _ rfl;(with_reducible repeat(first|refine ZD ?_ _|refine Zz ?_|refine Zy ?_ _));refine ZR (cs:=#[.int .i64 0,.slice none 0 0]) ?_ 0 _ rfl;(with_reducible repeat(first|refine ZD ?_ _|refine Zz ?_|refine Zy ?_ _));refine ZL ?_ NB2_11.out _;(with_reducible repeat(first|refine ZD ?_ _|refine Zz ?_|refine Zy ?_ _));refine ZL ?_ NB2_11.out _;(with_reducible repeat(first|refine ZD ?_ _|refine Zz ?_|refine Zy ?_ _));exact BK2.out) Tryz.underlying156 rfl (by kernel_rfl)) rfl ?_
  exact⟨_,by first|rfl|(simp[ZC,ZB] <;> rfl)|(simp[*,ZC,ZB] <;> rfl),by(with_reducible repeat(first|apply Kd.R_alloc|apply Kd.R_drewN|apply Kd.R_drew));exact Kd.R_mono (Kd.R_far (p:=⟨gb2,1,none⟩) (Kd.R_far (p:=⟨gb2,0,none⟩) (Kd.R_far (p:=⟨gb11,1,none⟩) (Kd.R_far (p:=⟨gb11,0,none⟩) (Kd.R_types (Kd.R_types HO7.out BK11.out (by decide)) BK2.out (by decide)) (fun _ hk=>hk.1.2) (.int .i64 t4)) (fun _ hk=>hk.1.2) (.slice Ao16 t5.length co16)) (fun _ hk=>hk.2) (.int .i64 t4)) (fun _ hk=>hk.2) (.slice Ao16 t5.length co16)) (fun _ hk=>trivial),by repeat(first|(with_reducible first|exact HB.out|apply Zo|apply Zn|apply Zp|refine Zt ?_ GE1.out|refine Zt ?_ GE2.out|refine Zt ?_ GE11.out)|exact HB.out)⟩
 ·replace c3:=Bool.eq_false_iff.mpr c3
  subst c3
  have H1:(some (0,([]:List (S184))))=some (r1,r2):=by rw[if_neg (show ¬(false=true) by decide)] at H;exact H
  clear H
  have H:=H1
  clear H1
  simp only[Option.some.injEq,Prod.mk.injEq] at H
  obtain⟨rfl,rfl⟩:=H
  go_enter Tryz.func171,Tryz.ntmps171
  go_wp2_with (first|((with_reducible refine ZF (N:=1) rfl ?_);refine ZG ?hg (N:=1) ?hd (cs:=#[.int .i64 a0_0,.slice A0_1 l0_1.length c0_1]) (t:=54) ?hr ?_;(case hd=>rfl);(case hg=>rfl);(case hr=>first|(go_simp;done)|(go_simp;rfl));intro gb1 hg w18 hbox hb;have BK1:=Za (hbox);have GW1:=Za ((by rw[hg];exact(Zv (by exact HB.out)):w.heap.size≤gb1));have GE1:=Za ((by rw[hg];exact(Zv (by exact HB.out)):w.heap.size≤gb1));replace HB:=Za (Zr (by exact HB.out) hb);clear hb hbox hg)|((with_reducible refine ZF (N:=2) rfl ?_);refine ZG ?hg (N:=2) ?hd (cs:=#[.int .i64 0,.slice none 0 0]) (t:=156) ?hr ?_;(case hd=>rfl);(case hg=>rfl);(case hr=>first|(go_simp;done)|(go_simp;rfl));intro gb2 hg w19 hbox hb;have BK2:=Za (hbox);have GW2:=Za ((by rw[hg];exact(Zv (by exact HB.out)):w.heap.size≤gb2));have GE2:=Za ((by rw[hg];exact(Zv (by exact HB.out)):w.heap.size≤gb2));have NB1_2:=Za ((by rw[hg];exact Nat.ne_of_lt (ZN (g:=gb1) (o:=.cells #[.int .i64 a0_0,.slice A0_1 l0_1.length c0_1] 54 (0,0)) (by exact BK1.out)):gb1≠gb2));have NB2_1:=Za ((by rw[hg];exact Nat.ne_of_gt (ZN (g:=gb1) (o:=.cells #[.int .i64 a0_0,.slice A0_1 l0_1.length c0_1] 54 (0,0)) (by exact BK1.out)):gb2≠gb1));replace BK1:=Za (Zs (g:=gb1) (o:=.cells #[.int .i64 a0_0,.slice A0_1 l0_1.length c0_1] 54 (0,0)) (by exact BK1.out) hb);replace HB:=Za (Zr (by exact HB.out) hb);clear hb hbox hg;have hnb20:=NB1_2.out;have hnc20:=NB2_1.out;have hcz21_0:w19.cell? ⟨gb1,0,none⟩=some (.int .i64 a0_0):=(Zm BK1.out 0).trans rfl;have hcz21_1:w19.cell? ⟨gb1,1,none⟩=some (.slice A0_1 l0_1.length c0_1):=(Zm BK1.out 1).trans rfl;have hfz21_0:=Zq BK1.out 0;have hfz21_1:=Zq BK1.out 1)|((with_reducible refine ZM (f:=105) rfl ?_);refine Z7 (some 6) rfl rfl Tryz.func105 (by kernel_rfl) rfl #[.agg #[.int .i64 a0_0,.slice A0_1 l0_1.length c0_1]] rfl (by(try simp only[List.map_toArray,List.map_cons,List.map_nil]);first|done|rfl|(simp only[Zk,Zj];rfl)) ?_;(with_reducible refine(ZaN.calls a0_0 _ _ l0_1 false _ ?side1 ?side2 A2.out).mono ?_);(case side1=>exact(Zb HR0_1.out HB.out));(case side2=>exact HC0_1.out);rintro e w22 ⟨rfl,hb⟩;refine⟨_,rfl,?_⟩;replace BK1:=Za (Zs (g:=gb1) (o:=.cells #[.int .i64 a0_0,.slice A0_1 l0_1.length c0_1] 54 (0,0)) (by exact BK1.out) hb);replace BK2:=Za (Zs (g:=gb2) (o:=.cells #[.int .i64 0,.slice none 0 0] 156 (0,0)) (by exact BK2.out) hb);replace HB:=Za (Zr (by exact HB.out) hb);have hcz23_0:w22.cell? ⟨gb2,0,none⟩=some (.int .i64 0):=(Zm BK2.out 0).trans rfl;have hcz23_1:w22.cell? ⟨gb2,1,none⟩=some (.slice none 0 0):=(Zm BK2.out 1).trans rfl;have hfz23_0:=Zq BK2.out 0;have hfz23_1:=Zq BK2.out 1))
  refine bodyPost_ret (results_cell_row rfl _ _ gb2 156 #[.int .i64 0,.slice none 0 0] (0,0) _ rfl (by(with_reducible repeat(first|refine ZD ?_ _|refine Zz ?_|refine Zy ?_ _));refine ZR (cs:=#[.int .i64 0,.slice none 0 0]) ?_ 1 _ rfl;(with_reducible repeat(first|refine ZD ?_ _|refine Zz ?_|refine Zy ?_ _));refine ZR (cs:=#[.int .i64 0,.slice none 0 0]) ?_ 0 _ rfl;(with_reducible repeat(first|refine ZD ?_ _|refine Zz ?_|refine Zy ?_ _));exact BK2.out) Tryz.underlying156 rfl (by kernel_rfl)) rfl ?_
  exact⟨_,by first|rfl|(simp[ZC,ZB] <;> rfl)|(simp[*,ZC,ZB] <;> rfl),by first|exact Kd.R_nil _ _ _ _ _|exact Kd.N_nil _ _ _ _ _|exact Kd.V_nil _ _ _ _ _|exact Kd.Q_nil _ _ _ _ _|exact Kd.S_nil _ _ _ _ _,by repeat(first|(with_reducible first|exact HB.out|apply Zo|apply Zn|apply Zp|refine Zt ?_ GE1.out|refine Zt ?_ GE2.out)|exact HB.out)⟩
open Ni
def Zbw.f (k:Nat) (a0_0:Int) (l0_1:List (S112)):Option Bool:=(ZaN.f a0_0 l0_1).bind fun b=>if b=true then(ZcD.f k a0_0 l0_1).bind fun g=>(Zaq.f g.1 g.2).bind fun c=>some c.isEmpty else some false
theorem Zbw.calls (k:Nat) (a0_0:Int) (A0_1:Option Addr) (c0_1:Nat) (l0_1:List (S112)) (r:Bool) (w:World) (hr0_1:Kd.C k112 w A0_1 l0_1.length l0_1) (hc0_1:l0_1.length≤c0_1) (h:Zbw.f k a0_0 l0_1=some r) :
  Calls Tryz.prog 112 #[.agg #[.int .i64 a0_0,.slice A0_1 l0_1.length c0_1]] w fun e w'=>e=.returned (.bool r)∧Below w.heap.size w w':=by
 unfold Zbw.f at h
 obtain⟨b,hb_,h⟩:=Option.bind_eq_some_iff.1 h
 have HS:=Za fun (W:World) (hb:Below w.heap.size w W)=>ZaN.calls a0_0 A0_1 c0_1 l0_1 b W (Zb hr0_1 hb) hc0_1 hb_
 have B1:=Za (Zo (Below.refl w.heap.size w) (.cells #[.int .i64 a0_0,.slice A0_1 l0_1.length c0_1] 54))
 have K0:=Za (show(w.alloc (.cells #[.int .i64 a0_0,.slice A0_1 l0_1.length c0_1] 54)).cell? ⟨w.heap.size,0,none⟩=some (.int .i64 a0_0) by go_simp)
 have K1:=Za (show(w.alloc (.cells #[.int .i64 a0_0,.slice A0_1 l0_1.length c0_1] 54)).cell? ⟨w.heap.size,1,none⟩=some (.slice A0_1 l0_1.length c0_1) by go_simp)
 have hu:=Tryz.underlying54
 cases b with
 | false=>
  rw[if_neg (by simp)] at h
  obtain rfl:=Zg h
  clear hr0_1 hc0_1 hb_ h
  go_enter Tryz.func112,Tryz.ntmps112
  go_wp2_with (go_at_call 105;refine(HS.out _ B1.out).mono ?_;rintro e w1 ⟨rfl,hb⟩)
  go_ret
  exact⟨rfl,B1.out.trans (hb.mono B1.out.size)⟩
 | true=>
 rw[if_pos rfl] at h
 obtain⟨⟨g1,g2⟩,hg,h⟩:=Option.bind_eq_some_iff.1 h
 obtain⟨c,hc,h⟩:=Option.bind_eq_some_iff.1 h
 obtain rfl:=Zg h
 have HG:=Za fun (W:World) (hb:Below w.heap.size w W)=>ZcD.calls k a0_0 A0_1 c0_1 l0_1 g1 g2 W (Zb hr0_1 hb) hc0_1 hg
 have HNC:=Za fun (W:World) (A:Option Addr) (cc:Nat) (hr:Kd.C k184 W A g2.length g2) (hcc:g2.length≤cc)=>Zaq.own g1 A cc g2 c W hr hcc hc
 clear hr0_1 hc0_1 hb_ hg hc h
 have hsn:=fun (W:World) (A:Option Addr) (n c:Nat)=>Lib.run_eql_slice_nil (P:=Tryz.prog) W 37 3 A n c 0 0 Tryz.underlying37
 cases hce:c with
 | nil=>
  rw[hce] at HNC
  clear hce
  go_enter Tryz.func112,Tryz.ntmps112
  go_wp2_with (first|(go_at_call 105;refine(HS.out _ B1.out).mono ?_;rintro e w1 ⟨rfl,hb⟩;have hk0:=Zx hb K0.out;have hk1:=Zx hb K1.out;have hlt:=Zc _ _ hk0;have HB:=Za (B1.out.trans (hb.mono B1.out.size));clear hb)|(go_at_call 171;refine(HG.out _ HB.out).mono ?_;rintro e w2 ⟨v1,rfl,hr,hb⟩;obtain⟨Ag,cg,rfl,hcg,hrg⟩:=Kd.R_reads hr;replace HB:=Za (HB.out.trans (hb.mono HB.out.size));have HRG:=Za (And.intro hcg hrg);clear hb hr hcg hrg hk0 hk1 hlt)|(go_at_call 170;refine(HNC.out _ Ag cg HRG.out.2 HRG.out.1).mono ?_;rintro e w3 ⟨v2,rfl,_,hnil,hb⟩;obtain rfl:=hnil.out (by first|rfl|trivial);replace HB:=Za (HB.out.trans (hb.mono HB.out.size));clear hb hnil))
  go_ret
  exact⟨rfl,HB.out⟩
 | cons x t=>
  rw[hce] at HNC
  clear hce
  go_enter Tryz.func112,Tryz.ntmps112
  go_wp2_with (first|(go_at_call 105;refine(HS.out _ B1.out).mono ?_;rintro e w1 ⟨rfl,hb⟩;have hk0:=Zx hb K0.out;have hk1:=Zx hb K1.out;have hlt:=Zc _ _ hk0;have HB:=Za (B1.out.trans (hb.mono B1.out.size));clear hb)|(go_at_call 171;refine(HG.out _ HB.out).mono ?_;rintro e w2 ⟨v1,rfl,hr,hb⟩;obtain⟨Ag,cg,rfl,hcg,hrg⟩:=Kd.R_reads hr;replace HB:=Za (HB.out.trans (hb.mono HB.out.size));have HRG:=Za (And.intro hcg hrg);clear hb hr hcg hrg hk0 hk1 hlt)|(go_at_call 170;refine(HNC.out _ Ag cg HRG.out.2 HRG.out.1).mono ?_;rintro e w3 ⟨v2,rfl,hr,_,hb⟩;obtain⟨g3,cap3,e3,_⟩:=Kd.R_form hr (by simp);rw[e3];replace HB:=Za (HB.out.trans (hb.mono HB.out.size));clear hb hr e3))
  go_ret
  exact⟨rfl,HB.out⟩
theorem impl_Node_82.any (p:S39→Bool) (g:Nat) (lb:Array Value) (eg:∀args w,(callFunc g args).run Tryz.prog w=.ok (.enter g args) w) (A0:Option Addr) (c0:Nat) (l0:List S39) (w:World) (hr0:Kd.C k39 w A0 l0.length l0)
  (hp:∀(W:World) (x:S39) (A1_:Option Addr) (c1_:Nat),x∈l0→Below w.heap.size w W→x.f1.length≤c1_→Kd.C (Kd.int .i64) W A1_ x.f1.length x.f1→Calls Tryz.prog g (#[.agg #[.string x.f0,.slice A1_ x.f1.length c1_,.int .i64 x.f2]] ++ lb) W fun e w'=>e=.returned (.bool (p x))∧Below W.heap.size W w') :
  Calls Tryz.prog 82 #[.slice A0 l0.length c0,.func (.func g) #[] lb] w fun e w'=>e=.returned (.int .i64 (Zbc p l0))∧Below w.heap.size w w':=by
 have HR0:=Za hr0;have HP:=Za hp;clear hr0 hp
 have HL:l0.length≤9223372036854775807:=HR0.out.2.1
 go_enter Tryz.func82,Tryz.ntmps82
 go_wp2
 go_loopg [5,8] l0.length (fun gg _ s8 wr=>∃kk:Nat,Aside0 (kk≤l0.length)∧Aside0 (l0.length - kk≤gg)∧s8=.int .i64 kk∧Aside0 (Below w.heap.size w wr)∧Aside0 (∀j y,j<kk→l0[j]? = some y→p y=false))
 case atStart=>exact⟨0,⟨Nat.zero_le _⟩,⟨by omega⟩,rfl,⟨Below.refl _ _⟩,⟨fun j y hj=>absurd hj (Nat.not_lt_zero _)⟩⟩
 case round=>
  obtain⟨kk,HK,HG,rfl,HB,HN⟩:=hrel
  by_cases hlt:kk<l0.length
  ·have hltz:(kk:Int)<(l0.length:Int):=by omega
   obtain⟨ad,A1_,c1_,e1,hx0,hx1,hx2,l1_,g1_⟩:=ZaX HR0.out (kk:Int) (by omega) hltz
   cases e1
   replace hx0:=(HB.out.cell (Zc w _ hx0)).trans hx0
   rw[Int.toNat_natCast] at hx0
   replace hx1:=(HB.out.cell (Zc w _ hx1)).trans hx1
   rw[Int.toNat_natCast] at hx1
   replace hx2:=(HB.out.cell (Zc w _ hx2)).trans hx2
   rw[Int.toNat_natCast] at hx2
   have hxe:l0[kk]? = some (ZJ l0 (kk:Int)):=by
    unfold ZJ
    rw[Int.toNat_natCast,List.getD_eq_getElem?_getD,Zl hlt];rfl
   generalize ZJ l0 (kk:Int)=y at hx0 hx1 hx2 l1_ g1_ hxe
   have HX:=Za hxe;clear hxe
   have hcall:=HP.out wr y A1_ c1_ (List.mem_of_getElem? HX.out) HB.out l1_ (Zb g1_ HB.out)
   clear g1_ l1_
   cases hq:p y with
   | true=>
    have HQ:=Za hq
    rw[hq] at hcall
    clear hq
    go_wp2_with (go_at_fn g;refine hcall.mono ?_;rintro e w' ⟨rfl,hb⟩)
    go_ret
    exact⟨by rw[Zcd p l0 kk y HX.out HQ.out HN.out];rfl,HB.out.trans (hb.mono HB.out.size)⟩
   | false=>
    have HQ:=Za hq
    rw[hq] at hcall
    clear hq
    go_wp2_with (go_at_fn g;refine hcall.mono ?_;rintro e w' ⟨rfl,hb⟩)
    go_roundg (l0.length - (kk+1))
    case measure=>have:=HG.out;omega
    case rel=>
     refine⟨kk+1,⟨by omega⟩,⟨by omega⟩,by go_num,⟨HB.out.trans (hb.mono HB.out.size)⟩,⟨fun j y' hj hy=>?_⟩⟩
     by_cases e:j=kk
     ·subst e
      rw[HX.out] at hy
      cases hy
      exact HQ.out
     ·exact HN.out j y' (by omega) hy
  ·have hltz:¬(kk:Int)<(l0.length:Int):=by omega
   have:kk=l0.length:=by have:=HK.out;omega
   subst this
   go_wp2
   go_ret
   exact⟨by rw[Zb0 p l0 HN.out];rfl,HB.out⟩
def Zas (ns:List S39) (p:Int):Int:=Zbc (fun n=>decide (0<p) && decide (n.f2=p)) ns
def Za4.f (l0_0:List (S39)) (l0_1:List (S82)) (a0_2:Int) (a1:Int):Option Int:=some (Zas l0_0 a1)
theorem Zf0.clo (B:Nat) (p:Int) (W:World) (hB:W.cell? ⟨B,0,none⟩=some (.int .i64 p)) (x:S39) (A1_:Option Addr) (c1_:Nat) :
  Calls Tryz.prog 154 #[.agg #[.string x.f0,.slice A1_ x.f1.length c1_,.int .i64 x.f2],.pointer (some ⟨B,0,none⟩)] W fun e w'=>e=.returned (.bool (decide (0<p) && decide (x.f2=p)))∧Below W.heap.size W w':=by
 have hlt:B<W.heap.size:=Zc W _ hB
 have HE:=Za (show(x.f2 == p)=decide (x.f2=p) by rw[Bool.eq_iff_iff];simp)
 cases hp:decide (0<p) with
 | false=>
  go_enter Tryz.func154,Tryz.ntmps154
  go_wp2
  go_ret
  exact⟨rfl,(Below.refl _ _).alloc (Nat.le_refl _) _⟩
 | true=>
  go_enter Tryz.func154,Tryz.ntmps154
  go_wp2
  go_ret
  exact⟨by rw[← HE.out];rfl,(Below.refl _ _).alloc (Nat.le_refl _) _⟩
theorem Za4.calls (A0_0:Option Addr) (c0_0:Nat) (l0_0:List (S39)) (A0_1:Option Addr) (c0_1:Nat) (l0_1:List (S82)) (a0_2:Int) (a1:Int) (r:Int) (w:World) (hr0_0:Kd.C k39 w A0_0 l0_0.length l0_0) (hc0_0:l0_0.length≤c0_0) (hr0_1:Kd.C k82 w A0_1 l0_1.length l0_1) (hc0_1:l0_1.length≤c0_1) (h:Za4.f l0_0 l0_1 a0_2 a1=some r) :
  Calls Tryz.prog 88 #[.agg #[.slice A0_0 l0_0.length c0_0,.slice A0_1 l0_1.length c0_1,.int .i64 a0_2],.int .i64 a1] w fun e w'=>e=.returned (.int .i64 r)∧Below w.heap.size w w':=by
 obtain rfl:=Zg h
 have HC':=Za fun (W:World) (B:Nat) (hb:Below w.heap.size w W) (hcell:W.cell? ⟨B,0,none⟩=some (.int .i64 a1))=>impl_Node_82.any (fun n=>decide (0<a1) && decide (n.f2=a1)) 154 #[.pointer (some ⟨B,0,none⟩)] (enters_of Tryz.func154 (by kernel_rfl) rfl) A0_0 c0_0 l0_0 W (Zb hr0_0 hb)
    (fun W' x A1_ c1_ _ hb' _ _=>Zf0.clo B a1 W' ((hb'.cell (Zc W _ hcell)).trans hcell) x A1_ c1_)
 clear hr0_0 hr0_1 h
 have HB2:=Za (((Below.refl w.heap.size w).alloc (Nat.le_refl _) (.cells #[.slice A0_0 l0_0.length c0_0,.slice A0_1 l0_1.length c0_1,.int .i64 a0_2] 25)).alloc (by simp) (.cells #[.int .i64 a1] 3))
 have hu:=Tryz.underlying25
 go_enter Tryz.func88,Tryz.ntmps88
 go_wp2_with fail
 refine(HC'.out _ _ HB2.out (by go_simp)).mono ?_
 rintro e w' ⟨rfl,hb⟩
 go_wp2
 go_ret
 exact⟨rfl,HB2.out.trans (hb.mono HB2.out.size)⟩
def Z6.l0:Nat→List Int→List (S82)→Int→Int→Option (List Int)
 | 0,_,_,_,_=>none
 | k+1,x3,x7,x8,x9=>if x9<x8 then(if 0≤x9 then(if x9<(x7.length:Int) then(if (ZE x7 x9).f4=true then(if x3.length<17592186044416 then(Z6.l0 k (x3 ++ [x9]) x7 x8 (wrap64 (x9+1))) else(none)) else(Z6.l0 k x3 x7 x8 (wrap64 (x9+1)))) else(none)) else(none)) else(some x3)
def Z6.f (k:Nat) (l0_0:List (S39)) (l0_1:List (S82)) (a0_2:Int):Option (List Int):=Z6.l0 k ([]:List Int) l0_1 (l0_1.length:Int) 0
theorem Z6.calls (k:Nat) (A0_0:Option Addr) (c0_0:Nat) (l0_0:List (S39)) (A0_1:Option Addr) (c0_1:Nat) (l0_1:List (S82)) (a0_2:Int) (r:List Int) (w:World) (hr0_0:Kd.C k39 w A0_0 l0_0.length l0_0) (hc0_0:l0_0.length≤c0_0) (hr0_1:Kd.C k82 w A0_1 l0_1.length l0_1) (hc0_1:l0_1.length≤c0_1) (h:Z6.f k l0_0 l0_1 a0_2=some r) :
  Calls Tryz.prog 90 #[.agg #[.slice A0_0 l0_0.length c0_0,.slice A0_1 l0_1.length c0_1,.int .i64 a0_2]] w fun e w'=>∃v0_:Value,e=.returned (v0_)∧Kd.R (Kd.int .i64) 3 w' w.heap.size (fun _=>True) v0_ r∧Below w.heap.size w w':=by
 have hu25:=Tryz.underlying25
 have hu82:=Tryz.underlying82
 have HR0_0:=Za hr0_0;have HC0_0:=Za hc0_0;clear hr0_0 hc0_0;have HR0_1:=Za hr0_1;have HC0_1:=Za hc0_1;clear hr0_1 hc0_1
 have HB:=Za (Below.refl w.heap.size w)
 have H:(Z6.l0 k ([]:List Int) l0_1 (l0_1.length:Int) 0)=some r:=h
 clear h
 have H':=Za H
 clear H
 go_enter Tryz.func90,Tryz.ntmps90
 go_wp2_with (first|((with_reducible refine ZF (N:=1) rfl ?_);refine ZG ?hg (N:=1) ?hd (cs:=#[.slice A0_0 l0_0.length c0_0,.slice A0_1 l0_1.length c0_1,.int .i64 a0_2]) (t:=25) ?hr ?_;(case hd=>rfl);(case hg=>rfl);(case hr=>first|(go_simp;done)|(go_simp;rfl));intro gb1 hg w2 hbox hb;have BK1:=Za (hbox);have GW1:=Za ((by rw[hg];exact(Zv (by repeat(first|(with_reducible first|exact HB.out|apply Zo|apply Zn|apply Zp)|exact HB.out))):w.heap.size≤gb1));have GE1:=Za ((by rw[hg];exact(Zv (by repeat(first|(with_reducible first|exact HB.out|apply Zo|apply Zn|apply Zp)|exact HB.out))):w.heap.size≤gb1));replace HB:=Za (Zr (by repeat(first|(with_reducible first|exact HB.out|apply Zo|apply Zn|apply Zp)|exact HB.out)) hb);clear hb hbox hg;have hcz3_0:w2.cell? ⟨gb1,0,none⟩=some (.slice A0_0 l0_0.length c0_0):=(Zm BK1.out 0).trans rfl;have hcz3_1:w2.cell? ⟨gb1,1,none⟩=some (.slice A0_1 l0_1.length c0_1):=(Zm BK1.out 1).trans rfl;have hcz3_2:w2.cell? ⟨gb1,2,none⟩=some (.int .i64 a0_2):=(Zm BK1.out 2).trans rfl;have hfz3_0:=Zq BK1.out 0;have hfz3_1:=Zq BK1.out 1;have hfz3_2:=Zq BK1.out 2))
 go_loopg [3,9] k (fun kq v3 v9 w'=>∃(x3_1:List Int) (x9_1:Int),v9=.int .i64 x9_1∧Aside0 (Z6.l0 kq x3_1 l0_1 (l0_1.length:Int) x9_1=some r)∧Aside0 (kq≤k)∧Aside0 (Kd.R (Kd.int .i64) 3 w' w.heap.size (fun _=>True) v3 x3_1)∧Aside0 (w'.heap[gb1]? = some (.cells #[(.slice A0_0 l0_0.length c0_0),(.slice A0_1 l0_1.length c0_1),.int .i64 a0_2] 25 (0,0)))∧Aside0 (Below w.heap.size w w'))
 case atStart=>exact⟨(([]:List Int)),(0),(by first|rfl|(simp;done)|(simp[*];done)),H',⟨Nat.le_refl _⟩,⟨by first|exact Kd.R_nil _ _ _ _ _|exact Kd.N_nil _ _ _ _ _|exact Kd.V_nil _ _ _ _ _|exact Kd.Q_nil _ _ _ _ _|exact Kd.S_nil _ _ _ _ _⟩,⟨by(with_reducible repeat(first|refine ZD ?_ _|refine Zz ?_|refine Zy ?_ _));exact BK1.out⟩,⟨by repeat(first|(with_reducible first|exact HB.out|apply Zo|apply Zn|apply Zp|refine Zt ?_ GE1.out)|exact HB.out)⟩⟩
 case round=>
  clear H'
  try clear p2
  try clear hcz3_0
  try clear hcz3_1
  try clear hcz3_2
  try clear hfz3_0
  try clear hfz3_1
  try clear hfz3_2
  obtain⟨x3_1,x9_1,rfl,HA,HK1,HO_3,BK1,HB⟩:=hrel
  cases gk with
  | zero=>exact absurd HA.out (by simp[Z6.l0])
  | succ k1=>
   have H:=HA.out
   clear HA
   simp only[Z6.l0] at H
   by_cases c4:x9_1<(l0_1.length:Int)
   ·rw[if_pos c4] at H
    have c4b0:decide (x9_1<(l0_1.length:Int))=true:=Ze c4
    clear c4
    by_cases c5:0≤x9_1
    ·rw[if_pos c5] at H
     have c5b0:decide (0≤x9_1)=true:=Ze c5
     clear c5
     by_cases c6:x9_1<(l0_1.length:Int)
     ·rw[if_pos c6] at H
      have c6b0:decide (x9_1<(l0_1.length:Int))=true:=Ze c6
      clear c6
      obtain⟨bq7,hbq7⟩:∃b_:Bool,b_=((ZE l0_1 x9_1).f4):=⟨_,rfl⟩
      replace H:(if bq7=true then(if x3_1.length<17592186044416 then(Z6.l0 k1 (x3_1 ++ [x9_1]) l0_1 (l0_1.length:Int) (wrap64 (x9_1+1))) else(none)) else(Z6.l0 k1 x3_1 l0_1 (l0_1.length:Int) (wrap64 (x9_1+1))))=some r:=by rw[← hbq7] at H;exact H
      have Nbq7:=Za hbq7;clear hbq7
      by_cases c8:bq7=true
      ·subst c8
       rw[if_pos rfl] at H
       by_cases c9:x3_1.length<17592186044416
       ·rw[if_pos c9] at H
        have LMc9:=Za c9;clear c9
        obtain⟨y4,hy4⟩:∃y_:List Int,y_=(x3_1 ++ [x9_1]):=⟨_,rfl⟩
        replace H:(Z6.l0 k1 y4 l0_1 (l0_1.length:Int) (wrap64 (x9_1+1)))=some r:=by first|(rw[hy4];with_reducible exact H)|(have H2_:=(Zi _ _).symm.trans H;rw[hy4];with_reducible exact H2_)|(have H2_:=(Zi _ _).symm.trans H;with_reducible exact H2_)|with_reducible exact H|(rw[hy4];exact H)|exact H
        have Ny4:=Za hy4;clear hy4
        have H':=Za H
        clear H
        have p90002:0≤(x9_1:Int):=Zd (by first|(with_reducible assumption)|assumption)
        have q2:x9_1<(l0_1.length:Int):=Zd (by first|(with_reducible assumption)|assumption)
        obtain⟨ad2,e2,hx2_0,hx2_1,hx2_2,hx2_3,hx2_4⟩:=ZbG HR0_1.out x9_1 p90002 q2
        (try rw[← Nbq7.out] at hx2_4)
        cases e2
        replace hx2_0:=(HB.out.cell (Zc w _ hx2_0)).trans hx2_0
        replace hx2_1:=(HB.out.cell (Zc w _ hx2_1)).trans hx2_1
        replace hx2_2:=(HB.out.cell (Zc w _ hx2_2)).trans hx2_2
        replace hx2_3:=(HB.out.cell (Zc w _ hx2_3)).trans hx2_3
        replace hx2_4:=(HB.out.cell (Zc w _ hx2_4)).trans hx2_4
        replace p90002:=eq_true p90002
        replace q2:=eq_true q2
        go_wp2_with (first|((with_reducible refine ZF (N:=5) rfl ?_);refine ZG ?hg (N:=5) ?hd (cs:=#[.int .i64 0,.int .i64 0,.int .i64 0,.int .i64 0,.bool false]) (t:=82) ?hr ?_;(case hd=>rfl);(case hg=>rfl);(case hr=>first|(go_simp;done)|(go_simp;rfl));intro gb3 hg w10 hbox hb;have BK3:=Za (hbox);have GW3:=Za ((by rw[hg];exact(Zv (by repeat(first|(with_reducible first|exact HB.out|apply Zo|apply Zn|apply Zp|refine Zt ?_ GE1.out)|exact HB.out))):w.heap.size≤gb3));have GE3:=Za ((by rw[hg];exact(Zv (by repeat(first|(with_reducible first|exact HB.out|apply Zo|apply Zn|apply Zp|refine Zt ?_ GE1.out)|exact HB.out))):w.heap.size≤gb3));have NB1_3:=Za ((by rw[hg];exact Nat.ne_of_lt (ZN (g:=gb1) (o:=.cells #[.slice A0_0 l0_0.length c0_0,.slice (some ad2) l0_1.length c0_1,.int .i64 a0_2] 25 (0,0)) (by(with_reducible repeat(first|refine ZD ?_ _|refine Zz ?_|refine Zy ?_ _));exact BK1.out)):gb1≠gb3));have NB3_1:=Za ((by rw[hg];exact Nat.ne_of_gt (ZN (g:=gb1) (o:=.cells #[.slice A0_0 l0_0.length c0_0,.slice (some ad2) l0_1.length c0_1,.int .i64 a0_2] 25 (0,0)) (by(with_reducible repeat(first|refine ZD ?_ _|refine Zz ?_|refine Zy ?_ _));exact BK1.out)):gb3≠gb1));replace HO_3:=Za (Kd.R_below (by(with_reducible repeat(first|apply Kd.R_alloc|apply Kd.R_drewN|apply Kd.R_drew));exact HO_3.out) hb);replace BK1:=Za (Zs (g:=gb1) (o:=.cells #[.slice A0_0 l0_0.length c0_0,.slice (some ad2) l0_1.length c0_1,.int .i64 a0_2] 25 (0,0)) (by(with_reducible repeat(first|refine ZD ?_ _|refine Zz ?_|refine Zy ?_ _));exact BK1.out) hb);replace HB:=Za (Zr (by repeat(first|(with_reducible first|exact HB.out|apply Zo|apply Zn|apply Zp|refine Zt ?_ GE1.out)|exact HB.out)) hb);clear hb hbox hg;have hnb11:=NB3_1.out;have hnc11:=NB1_3.out;have hcz12_0:w10.cell? ⟨gb3,0,none⟩=some (.int .i64 0):=(Zm BK3.out 0).trans rfl;have hcz12_1:w10.cell? ⟨gb3,1,none⟩=some (.int .i64 0):=(Zm BK3.out 1).trans rfl;have hcz12_2:w10.cell? ⟨gb3,2,none⟩=some (.int .i64 0):=(Zm BK3.out 2).trans rfl;have hcz12_3:w10.cell? ⟨gb3,3,none⟩=some (.int .i64 0):=(Zm BK3.out 3).trans rfl;have hcz12_4:w10.cell? ⟨gb3,4,none⟩=some (.bool false):=(Zm BK3.out 4).trans rfl;have hfz12_0:=Zq BK3.out 0;have hfz12_1:=Zq BK3.out 1;have hfz12_2:=Zq BK3.out 2;have hfz12_3:=Zq BK3.out 3;have hfz12_4:=Zq BK3.out 4)|((with_reducible refine ZU (b:=.append) (xs:=#[.tmp 16,.tmp 18]) rfl ?_);at_builtin;refine Kd.R_append (Kd.int .i64) (w0:=w) w.heap.size rfl (.tmp 16) (.tmp 18) 37 3 (.int .i64 0) 8 rfl Tryz.underlying37 Zbl rfl (by decide) (by omega) u3 x3_1 x9_1 [.int .i64 x9_1] (fun _=>True) (fun _=>False) rfl (by first|(go_simp;done)|(go_simp;rfl)) ?aP (fun _ hk=>hk.elim) ?aF ?aO ?aB ?aS ?aL ?_;(case aP=>exact rfl);(case aB=>exact(by repeat(first|(with_reducible first|exact HB.out|apply Zo|apply Zn|apply Zp|refine Zt ?_ GE1.out|refine Zt ?_ GE3.out)|exact HB.out)));(case aF=>exact(fun _ _=>trivial));(case aO=>exact(by(with_reducible repeat(first|apply Kd.R_alloc|apply Kd.R_drewN|apply Kd.R_drew));exact Kd.R_mono (Kd.R_far (p:=⟨gb3,4,none⟩) (Kd.R_far (p:=⟨gb3,3,none⟩) (Kd.R_far (p:=⟨gb3,2,none⟩) (Kd.R_far (p:=⟨gb3,1,none⟩) (Kd.R_far (p:=⟨gb3,0,none⟩) (Kd.R_types HO_3.out BK3.out (by decide)) (fun _ hk=>hk.2) (.int .i64 ((ZE l0_1 x9_1).f0))) (fun _ hk=>hk.2) (.int .i64 ((ZE l0_1 x9_1).f1))) (fun _ hk=>hk.2) (.int .i64 ((ZE l0_1 x9_1).f2))) (fun _ hk=>hk.2) (.int .i64 ((ZE l0_1 x9_1).f3))) (fun _ hk=>hk.2) (.bool true)) (fun _ hk=>trivial)));(case aS=>exact(Zv (by repeat(first|(with_reducible first|exact HB.out|apply Zo|apply Zn|apply Zp|refine Zt ?_ GE1.out|refine Zt ?_ GE3.out)|exact HB.out))));(case aL=>have:=LMc9.out;omega);intro v5 w13 ho hb hg hat;rw[← Ny4.out] at ho;have HO6:=Za (ho);replace BK1:=Za (Zad (g:=gb1) (o:=.cells #[.slice A0_0 l0_0.length c0_0,.slice (some ad2) l0_1.length c0_1,.int .i64 a0_2] 25 (0,0)) (by(with_reducible repeat(first|refine ZD ?_ _|refine Zz ?_|refine Zy ?_ _));refine ZL ?_ NB1_3.out _;(with_reducible repeat(first|refine ZD ?_ _|refine Zz ?_|refine Zy ?_ _));refine ZL ?_ NB1_3.out _;(with_reducible repeat(first|refine ZD ?_ _|refine Zz ?_|refine Zy ?_ _));refine ZL ?_ NB1_3.out _;(with_reducible repeat(first|refine ZD ?_ _|refine Zz ?_|refine Zy ?_ _));refine ZL ?_ NB1_3.out _;(with_reducible repeat(first|refine ZD ?_ _|refine Zz ?_|refine Zy ?_ _));refine ZL ?_ NB1_3.out _;(with_reducible repeat(first|refine ZD ?_ _|refine Zz ?_|refine Zy ?_ _));exact BK1.out) hg (Kd.R_ne HO_3.out BK1.out (by decide)));replace BK3:=Za (Zad (g:=gb3) (o:=.cells #[.int .i64 ((ZE l0_1 x9_1).f0),.int .i64 ((ZE l0_1 x9_1).f1),.int .i64 ((ZE l0_1 x9_1).f2),.int .i64 ((ZE l0_1 x9_1).f3),.bool true] 82 (0,0)) (by(with_reducible repeat(first|refine ZD ?_ _|refine Zz ?_|refine Zy ?_ _));refine ZR (cs:=#[.int .i64 ((ZE l0_1 x9_1).f0),.int .i64 ((ZE l0_1 x9_1).f1),.int .i64 ((ZE l0_1 x9_1).f2),.int .i64 ((ZE l0_1 x9_1).f3),.bool false]) ?_ 4 _ rfl;(with_reducible repeat(first|refine ZD ?_ _|refine Zz ?_|refine Zy ?_ _));refine ZR (cs:=#[.int .i64 ((ZE l0_1 x9_1).f0),.int .i64 ((ZE l0_1 x9_1).f1),.int .i64 ((ZE l0_1 x9_1).f2),.int .i64 0,.bool false]) ?_ 3 _ rfl;(with_reducible repeat(first|refine ZD ?_ _|refine Zz ?_|refine Zy ?_ _));refine ZR (cs:=#[.int .i64 ((ZE l0_1 x9_1).f0),.int .i64 ((ZE l0_1 x9_1).f1),.int .i64 0,.int .i64 0,.bool false]) ?_ 2 _ rfl;(with_reducible repeat(first|refine ZD ?_ _|refine Zz ?_|refine Zy ?_ _));refine ZR (cs:=#[.int .i64 ((ZE l0_1 x9_1).f0),.int .i64 0,.int .i64 0,.int .i64 0,.bool false]) ?_ 1 _ rfl;(with_reducible repeat(first|refine ZD ?_ _|refine Zz ?_|refine Zy ?_ _));refine ZR (cs:=#[.int .i64 0,.int .i64 0,.int .i64 0,.int .i64 0,.bool false]) ?_ 0 _ rfl;(with_reducible repeat(first|refine ZD ?_ _|refine Zz ?_|refine Zy ?_ _));exact BK3.out) hg (Kd.R_ne HO_3.out BK3.out (by decide)));replace HB:=Za (hb);clear HO_3;clear ho hb hg hat))
        go_roundg k1
        case measure=>have:=HK1.out;omega
        case rel=>exact⟨(y4),(wrap64 (x9_1+1)),(by first|rfl|(simp;done)|(simp[*];done)),H',⟨by have:=HK1.out;omega⟩,⟨by(with_reducible repeat(first|apply Kd.R_alloc|apply Kd.R_drewN|apply Kd.R_drew));exact HO6.out⟩,⟨by(with_reducible repeat(first|refine ZD ?_ _|refine Zz ?_|refine Zy ?_ _));exact BK1.out⟩,⟨by repeat(first|(with_reducible first|exact HB.out|apply Zo|apply Zn|apply Zp|refine Zt ?_ GE1.out|refine Zt ?_ GE3.out)|exact HB.out)⟩⟩
       ·rw[if_neg c9] at H
        exact absurd H (by simp)
      ·replace c8:=Bool.eq_false_iff.mpr c8
       subst c8
       have H1:(Z6.l0 k1 x3_1 l0_1 (l0_1.length:Int) (wrap64 (x9_1+1)))=some r:=by rw[if_neg (show ¬(false=true) by decide)] at H;exact H
       clear H
       have H:=H1
       clear H1
       have H':=Za H
       clear H
       have p90002:0≤(x9_1:Int):=Zd (by first|(with_reducible assumption)|assumption)
       have q2:x9_1<(l0_1.length:Int):=Zd (by first|(with_reducible assumption)|assumption)
       obtain⟨ad2,e2,hx2_0,hx2_1,hx2_2,hx2_3,hx2_4⟩:=ZbG HR0_1.out x9_1 p90002 q2
       (try rw[← Nbq7.out] at hx2_4)
       cases e2
       replace hx2_0:=(HB.out.cell (Zc w _ hx2_0)).trans hx2_0
       replace hx2_1:=(HB.out.cell (Zc w _ hx2_1)).trans hx2_1
       replace hx2_2:=(HB.out.cell (Zc w _ hx2_2)).trans hx2_2
       replace hx2_3:=(HB.out.cell (Zc w _ hx2_3)).trans hx2_3
       replace hx2_4:=(HB.out.cell (Zc w _ hx2_4)).trans hx2_4
       replace p90002:=eq_true p90002
       replace q2:=eq_true q2
       go_wp2_with (first|((with_reducible refine ZF (N:=5) rfl ?_);refine ZG ?hg (N:=5) ?hd (cs:=#[.int .i64 0,.int .i64 0,.int .i64 0,.int .i64 0,.bool false]) (t:=82) ?hr ?_;(case hd=>rfl);(case hg=>rfl);(case hr=>first|(go_simp;done)|(go_simp;rfl));intro gb3 hg w14 hbox hb;have BK3:=Za (hbox);have GW3:=Za ((by rw[hg];exact(Zv (by repeat(first|(with_reducible first|exact HB.out|apply Zo|apply Zn|apply Zp|refine Zt ?_ GE1.out)|exact HB.out))):w.heap.size≤gb3));have GE3:=Za ((by rw[hg];exact(Zv (by repeat(first|(with_reducible first|exact HB.out|apply Zo|apply Zn|apply Zp|refine Zt ?_ GE1.out)|exact HB.out))):w.heap.size≤gb3));have NB1_3:=Za ((by rw[hg];exact Nat.ne_of_lt (ZN (g:=gb1) (o:=.cells #[.slice A0_0 l0_0.length c0_0,.slice (some ad2) l0_1.length c0_1,.int .i64 a0_2] 25 (0,0)) (by(with_reducible repeat(first|refine ZD ?_ _|refine Zz ?_|refine Zy ?_ _));exact BK1.out)):gb1≠gb3));have NB3_1:=Za ((by rw[hg];exact Nat.ne_of_gt (ZN (g:=gb1) (o:=.cells #[.slice A0_0 l0_0.length c0_0,.slice (some ad2) l0_1.length c0_1,.int .i64 a0_2] 25 (0,0)) (by(with_reducible repeat(first|refine ZD ?_ _|refine Zz ?_|refine Zy ?_ _));exact BK1.out)):gb3≠gb1));replace HO_3:=Za (Kd.R_below (by(with_reducible repeat(first|apply Kd.R_alloc|apply Kd.R_drewN|apply Kd.R_drew));exact HO_3.out) hb);replace BK1:=Za (Zs (g:=gb1) (o:=.cells #[.slice A0_0 l0_0.length c0_0,.slice (some ad2) l0_1.length c0_1,.int .i64 a0_2] 25 (0,0)) (by(with_reducible repeat(first|refine ZD ?_ _|refine Zz ?_|refine Zy ?_ _));exact BK1.out) hb);replace HB:=Za (Zr (by repeat(first|(with_reducible first|exact HB.out|apply Zo|apply Zn|apply Zp|refine Zt ?_ GE1.out)|exact HB.out)) hb);clear hb hbox hg;have hnb15:=NB3_1.out;have hnc15:=NB1_3.out;have hcz16_0:w14.cell? ⟨gb3,0,none⟩=some (.int .i64 0):=(Zm BK3.out 0).trans rfl;have hcz16_1:w14.cell? ⟨gb3,1,none⟩=some (.int .i64 0):=(Zm BK3.out 1).trans rfl;have hcz16_2:w14.cell? ⟨gb3,2,none⟩=some (.int .i64 0):=(Zm BK3.out 2).trans rfl;have hcz16_3:w14.cell? ⟨gb3,3,none⟩=some (.int .i64 0):=(Zm BK3.out 3).trans rfl;have hcz16_4:w14.cell? ⟨gb3,4,none⟩=some (.bool false):=(Zm BK3.out 4).trans rfl;have hfz16_0:=Zq BK3.out 0;have hfz16_1:=Zq BK3.out 1;have hfz16_2:=Zq BK3.out 2;have hfz16_3:=Zq BK3.out 3;have hfz16_4:=Zq BK3.out 4))
       go_roundg k1
       case measure=>have:=HK1.out;omega
       case rel=>exact⟨(x3_1),(wrap64 (x9_1+1)),(by first|rfl|(simp;done)|(simp[*];done)),H',⟨by have:=HK1.out;omega⟩,⟨by(with_reducible repeat(first|apply Kd.R_alloc|apply Kd.R_drewN|apply Kd.R_drew));exact Kd.R_mono (Kd.R_far (p:=⟨gb3,4,none⟩) (Kd.R_far (p:=⟨gb3,3,none⟩) (Kd.R_far (p:=⟨gb3,2,none⟩) (Kd.R_far (p:=⟨gb3,1,none⟩) (Kd.R_far (p:=⟨gb3,0,none⟩) (Kd.R_types HO_3.out BK3.out (by decide)) (fun _ hk=>hk.2) (.int .i64 ((ZE l0_1 x9_1).f0))) (fun _ hk=>hk.2) (.int .i64 ((ZE l0_1 x9_1).f1))) (fun _ hk=>hk.2) (.int .i64 ((ZE l0_1 x9_1).f2))) (fun _ hk=>hk.2) (.int .i64 ((ZE l0_1 x9_1).f3))) (fun _ hk=>hk.2) (.bool false)) (fun _ hk=>trivial)⟩,⟨by(with_reducible repeat(first|refine ZD ?_ _|refine Zz ?_|refine Zy ?_ _));refine ZL ?_ NB1_3.out _;(with_reducible repeat(first|refine ZD ?_ _|refine Zz ?_|refine Zy ?_ _));refine ZL ?_ NB1_3.out _;(with_reducible repeat(first|refine ZD ?_ _|refine Zz ?_|refine Zy ?_ _));refine ZL ?_ NB1_3.out _;(with_reducible repeat(first|refine ZD ?_ _|refine Zz ?_|refine Zy ?_ _));refine ZL ?_ NB1_3.out _;(with_reducible repeat(first|refine ZD ?_ _|refine Zz ?_|refine Zy ?_ _));refine ZL ?_ NB1_3.out _;(with_reducible repeat(first|refine ZD ?_ _|refine Zz ?_|refine Zy ?_ _));exact BK1.out⟩,⟨by repeat(first|(with_reducible first|exact HB.out|apply Zo|apply Zn|apply Zp|refine Zt ?_ GE1.out|refine Zt ?_ GE3.out)|exact HB.out)⟩⟩
     ·rw[if_neg c6] at H
      exact absurd H (by simp)
    ·rw[if_neg c5] at H
     exact absurd H (by simp)
   ·rw[if_neg c4] at H
    have c4b0:decide (x9_1<(l0_1.length:Int))=false:=Zf c4
    clear c4
    obtain rfl:=Zg H
    go_wp2
    go_ret
    exact⟨_,by first|rfl|(simp[ZC,ZB] <;> rfl)|(simp[*,ZC,ZB] <;> rfl),by(with_reducible repeat(first|apply Kd.R_alloc|apply Kd.R_drewN|apply Kd.R_drew));exact HO_3.out,by repeat(first|(with_reducible first|exact HB.out|apply Zo|apply Zn|apply Zp|refine Zt ?_ GE1.out)|exact HB.out)⟩
end Go.Proofs.YtoeimopgoaffcaaGreatDoor.Pr
