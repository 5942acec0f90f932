/- By a program of this session. -/
import Derived.WalkSpells
import Derived.Test.YtoeimopgoaffcaaGreatDoorBBec1x28
set_option maxHeartbeats 8000000
set_option maxRecDepth 100000
namespace Go.Proofs.YtoeimopgoaffcaaGreatDoor.Pr
open RowKit YtoeimopgoaffcaaGreatDoorW.PrintWords YtoeimopgoaffcaaGreatDoorW.PrintLast YtoeimopgoaffcaaGreatDoorW.PrintMore
attribute [local go_sem] Zau Zas ZaL ZaK Zaf Zae Zat Zar
set_option linter.unusedVariables false
set_option linter.unusedSimpArgs false
def Zdn.f (k:Nat) (a0_0:Int) (l0_1:List (S112)):Option (Int×(List (S184))):=(Za7.f a0_0 l0_1).bind fun t3=>(if t3=true then((Z0.f k a0_0 l0_1).bind fun bt4=>(some (bt4.1,bt4.2.1))) else(some (0,([]:List (S184)))))
theorem Zdn.calls (k:Nat) (a0_0:Int) (A0_1:Option Addr) (c0_1:Nat) (l0_1:List (S112)) (r1:Int) (r2:List (S184)) (w:World) (hr0_1:Kd.C k112 w A0_1 l0_1.length l0_1) (hc0_1:l0_1.length≤c0_1) (h:Zdn.f k a0_0 l0_1=some (r1,r2)) :
  Calls Tryz.prog 171 #[.agg #[.int .i64 a0_0,.slice A0_1 l0_1.length c0_1]] w fun e w'=>∃v1_:Value,e=.returned (.agg #[.int .i64 r1,v1_])∧Kd.R k184 184 w' w.heap.size (fun _=>True) v1_ r2∧Below w.heap.size w w':=by
 have hu54:=Tryz.underlying54
 have hu156:=Tryz.underlying156
 have HR0_1:=Za hr0_1;have HC0_1:=Za hc0_1;clear hr0_1 hc0_1
 have HB:=Za (Below.refl w.heap.size w)
 have H:((Za7.f a0_0 l0_1).bind fun t3=>(if t3=true then((Z0.f k a0_0 l0_1).bind fun bt4=>(some (bt4.1,bt4.2.1))) else(some (0,([]:List (S184))))))=some (r1,r2):=h
 clear h
 replace H:=Zh H
 obtain⟨t3,A20,H⟩:=H;have A2:=Za A20;clear A20
 by_cases c3:t3=true
 ·subst c3
  rw[if_pos rfl] at H
  replace H:=Zh H
  obtain⟨⟨t4,t5,t8⟩,A40,H⟩:=H;have A4:=Za A40;clear A40
  simp only[Option.some.injEq,Prod.mk.injEq] at H
  obtain⟨rfl,rfl⟩:=H
  go_enter Tryz.func171,Tryz.ntmps171
  go_wp2_with (first|((with_reducible refine ZG (N:=1) rfl ?_);refine ZH ?hg (N:=1) ?hd (cs:=#[.int .i64 a0_0,.slice A0_1 l0_1.length c0_1]) (t:=54) ?hr ?_;(case hd=>rfl);(case hg=>rfl);(case hr=>first|(go_simp;done)|(go_simp;rfl));intro gb1 hg w5 hbox hb;have BK1:=Za (hbox);have GW1:=Za ((by rw[hg];exact(Zv (by exact HB.out)):w.heap.size≤gb1));have GE1:=Za ((by rw[hg];exact(Zv (by exact HB.out)):w.heap.size≤gb1));replace HB:=Za (Zq (by exact HB.out) hb);clear hb hbox hg)|((with_reducible refine ZG (N:=2) rfl ?_);refine ZH ?hg (N:=2) ?hd (cs:=#[.int .i64 0,.slice none 0 0]) (t:=156) ?hr ?_;(case hd=>rfl);(case hg=>rfl);(case hr=>first|(go_simp;done)|(go_simp;rfl));intro gb2 hg w6 hbox hb;have BK2:=Za (hbox);have GW2:=Za ((by rw[hg];exact(Zv (by exact HB.out)):w.heap.size≤gb2));have GE2:=Za ((by rw[hg];exact(Zv (by exact HB.out)):w.heap.size≤gb2));have NB1_2:=Za ((by rw[hg];exact Nat.ne_of_lt (ZK (g:=gb1) (o:=.cells #[.int .i64 a0_0,.slice A0_1 l0_1.length c0_1] 54 (0,0)) (by exact BK1.out)):gb1≠gb2));have NB2_1:=Za ((by rw[hg];exact Nat.ne_of_gt (ZK (g:=gb1) (o:=.cells #[.int .i64 a0_0,.slice A0_1 l0_1.length c0_1] 54 (0,0)) (by exact BK1.out)):gb2≠gb1));replace BK1:=Za (Zw (g:=gb1) (o:=.cells #[.int .i64 a0_0,.slice A0_1 l0_1.length c0_1] 54 (0,0)) (by exact BK1.out) hb);replace HB:=Za (Zq (by exact HB.out) hb);clear hb hbox hg;have hnb7:=NB1_2.out;have hnc7:=NB2_1.out;have hcz8_0:w6.cell? ⟨gb1,0,none⟩=some (.int .i64 a0_0):=(Zn BK1.out 0).trans rfl;have hcz8_1:w6.cell? ⟨gb1,1,none⟩=some (.slice A0_1 l0_1.length c0_1):=(Zn BK1.out 1).trans rfl;have hfz8_0:=Zt BK1.out 0;have hfz8_1:=Zt BK1.out 1)|((with_reducible refine ZJ (f:=105) rfl ?_);refine ZY (some 6) rfl rfl Tryz.func105 (by kernel_rfl) rfl #[.agg #[.int .i64 a0_0,.slice A0_1 l0_1.length c0_1]] rfl (by(try simp only[List.map_toArray,List.map_cons,List.map_nil]);first|done|rfl|(simp only[Zk,Zj];rfl)) ?_;(with_reducible refine(Za7.calls a0_0 _ _ l0_1 true _ ?side1 ?side2 A2.out).mono ?_);(case side1=>exact(Zb HR0_1.out HB.out));(case side2=>exact HC0_1.out);rintro e w9 ⟨rfl,hb⟩;refine⟨_,rfl,?_⟩;replace BK1:=Za (Zw (g:=gb1) (o:=.cells #[.int .i64 a0_0,.slice A0_1 l0_1.length c0_1] 54 (0,0)) (by exact BK1.out) hb);replace BK2:=Za (Zw (g:=gb2) (o:=.cells #[.int .i64 0,.slice none 0 0] 156 (0,0)) (by exact BK2.out) hb);replace HB:=Za (Zq (by exact HB.out) hb);have hcz10_0:w9.cell? ⟨gb1,0,none⟩=some (.int .i64 a0_0):=(Zn BK1.out 0).trans rfl;have hcz10_1:w9.cell? ⟨gb1,1,none⟩=some (.slice A0_1 l0_1.length c0_1):=(Zn BK1.out 1).trans rfl;have hfz10_0:=Zt BK1.out 0;have hfz10_1:=Zt BK1.out 1)|((with_reducible refine ZJ (f:=174) rfl ?_);refine ZY (some 11) rfl rfl Tryz.func174 (by kernel_rfl) rfl #[.agg #[.int .i64 a0_0,.slice A0_1 l0_1.length c0_1]] rfl (by(try simp only[List.map_toArray,List.map_cons,List.map_nil]);first|done|rfl|(simp only[Zk,Zj];rfl)) ?_;(with_reducible refine(Z0.calls k a0_0 _ _ l0_1 t4 t5 t8 _ ?side1 ?side2 A4.out).mono ?_);(case side1=>exact(Zb HR0_1.out HB.out));(case side2=>exact HC0_1.out);rintro e w11 ⟨v6,v9,rfl,ho0,ho1,hb⟩;refine⟨_,rfl,?_⟩;have HO7:=Za (Kd.R_lower ho0 (Zv (by exact HB.out)));have HO10:=Za (Kd.R_lower ho1 (Zv (by exact HB.out)));replace BK1:=Za (Zw (g:=gb1) (o:=.cells #[.int .i64 a0_0,.slice A0_1 l0_1.length c0_1] 54 (0,0)) (by exact BK1.out) hb);replace BK2:=Za (Zw (g:=gb2) (o:=.cells #[.int .i64 0,.slice none 0 0] 156 (0,0)) (by exact BK2.out) hb);replace HB:=Za (Zq (by exact HB.out) hb);(try clear ho1))|((with_reducible refine ZG (N:=3) rfl ?_);refine ZH ?hg (N:=3) ?hd (cs:=#[.int .i64 0,.slice none 0 0]) (t:=156) ?hr ?_;(case hd=>rfl);(case hg=>rfl);(case hr=>first|(go_simp;done)|(go_simp;rfl));intro gb11 hg w12 hbox hb;have BK11:=Za (hbox);have GW11:=Za ((by rw[hg];exact(Zv (by exact HB.out)):w.heap.size≤gb11));have GE11:=Za ((by rw[hg];exact(Zv (by exact HB.out)):w.heap.size≤gb11));have NB1_11:=Za ((by rw[hg];exact Nat.ne_of_lt (ZK (g:=gb1) (o:=.cells #[.int .i64 a0_0,.slice A0_1 l0_1.length c0_1] 54 (0,0)) (by exact BK1.out)):gb1≠gb11));have NB11_1:=Za ((by rw[hg];exact Nat.ne_of_gt (ZK (g:=gb1) (o:=.cells #[.int .i64 a0_0,.slice A0_1 l0_1.length c0_1] 54 (0,0)) (by exact BK1.out)):gb11≠gb1));have NB2_11:=Za ((by rw[hg];exact Nat.ne_of_lt (ZK (g:=gb2) (o:=.cells #[.int .i64 0,.slice none 0 0] 156 (0,0)) (by exact BK2.out)):gb2≠gb11));have NB11_2:=Za ((by rw[hg];exact Nat.ne_of_gt (ZK (g:=gb2) (o:=.cells #[.int .i64 0,.slice none 0 0] 156 (0,0)) (by exact BK2.out)):gb11≠gb2));replace HO7:=Za (Kd.R_below (by exact HO7.out) hb);replace HO10:=Za (Kd.R_below (by exact HO10.out) hb);replace BK1:=Za (Zw (g:=gb1) (o:=.cells #[.int .i64 a0_0,.slice A0_1 l0_1.length c0_1] 54 (0,0)) (by exact BK1.out) hb);replace BK2:=Za (Zw (g:=gb2) (o:=.cells #[.int .i64 0,.slice none 0 0] 156 (0,0)) (by exact BK2.out) hb);replace HB:=Za (Zq (by exact HB.out) hb);clear hb hbox hg;have hnb13:=NB11_1.out;have hnc13:=NB1_11.out;have hnb14:=NB11_2.out;have hnc14:=NB2_11.out;have hcz15_0:w12.cell? ⟨gb11,0,none⟩=some (.int .i64 0):=(Zn BK11.out 0).trans rfl;have hcz15_1:w12.cell? ⟨gb11,1,none⟩=some (.slice none 0 0):=(Zn BK11.out 1).trans rfl;have hfz15_0:=Zt BK11.out 0;have hfz15_1:=Zt BK11.out 1;obtain⟨Ao16,co16,eo16⟩:=Kd.R_slice HO7.out;subst eo16;have hcz17_0:w12.cell? ⟨gb2,0,none⟩=some (.int .i64 0):=(Zn BK2.out 0).trans rfl;have hcz17_1:w12.cell? ⟨gb2,1,none⟩=some (.slice none 0 0):=(Zn BK2.out 1).trans rfl;have hfz17_0:=Zt BK2.out 0;have hfz17_1:=Zt BK2.out 1))
  refine bodyPost_ret (results_cell_row rfl _ _ gb2 156 #[.int .i64 t4,.slice Ao16 t5.length co16] (0,0) _ rfl (by(with_reducible repeat(first|refine ZD ?_ _|refine ZE ?_|refine ZC ?_ _));refine ZW (cs:=#[.int .i64 t4,.slice none 0 0]) ?_ 1 _ rfl;(with_reducible repeat(first|refine ZD ?_ _|refine ZE ?_|refine ZC ?_ _));refine ZW (cs:=#[.int .i64 0,.slice none 0 0]) ?_ 0 _ rfl;(with_reducible repeat(first|refine ZD ?_ _|refine ZE ?_|refine ZC ?_ _));refine ZP ?_ NB2_11.out _;(with_reducible repeat(first|refine ZD ?_ _|refine ZE ?_|refine ZC ?_ _));refine ZP ?_ NB2_11.out _;(with_reducible repeat(first|refine ZD ?_ _|refine ZE ?_|refine ZC ?_ _));exact BK2.out) Tryz.underlying156 rfl (by kernel_rfl)) rfl ?_
  exact⟨_,by first|rfl|(simp[ZB,ZA] <;> rfl)|(simp[*,ZB,ZA] <;> rfl),by(with_reducible repeat(first|apply Kd.R_alloc|apply Kd.R_drewN|apply Kd.R_drew));exact Kd.R_mono (Kd.R_far (p:=⟨gb2,1,none⟩) (Kd.R_far (p:=⟨gb2,0,none⟩) (Kd.R_far (p:=⟨gb11,1,none⟩) (Kd.R_far (p:=⟨gb11,0,none⟩) (Kd.R_types (Kd.R_types HO7.out BK11.out (by decide)) BK2.out (by decide)) (fun _ hk=>hk.1.2) (.int .i64 t4)) (fun _ hk=>hk.1.2) (.slice Ao16 t5.length co16)) (fun _ hk=>hk.2) (.int .i64 t4)) (fun _ hk=>hk.2) (.slice Ao16 t5.length co16)) (fun _ hk=>trivial),by repeat(first|(with_reducible first|exact HB.out|apply Zo|apply Zm|apply Zp|refine Zs ?_ GE1.out|refine Zs ?_ GE2.out|refine Zs ?_ GE11.out)|exact HB.out)⟩
 ·replace c3:=Bool.eq_false_iff.mpr c3
  subst c3
  have H1:(some (0,([]:List (S184))))=some (r1,r2):=by rw[if_neg (show ¬(false=true) by decide)] at H;exact H
  clear H
  have H:=H1
  clear H1
  simp only[Option.some.injEq,Prod.mk.injEq] at H
  obtain⟨rfl,rfl⟩:=H
  go_enter Tryz.func171,Tryz.ntmps171
  go_wp2_with (first|((with_reducible refine ZG (N:=1) rfl ?_);refine ZH ?hg (N:=1) ?hd (cs:=#[.int .i64 a0_0,.slice A0_1 l0_1.length c0_1]) (t:=54) ?hr ?_;(case hd=>rfl);(case hg=>rfl);(case hr=>first|(go_simp;done)|(go_simp;rfl));intro gb1 hg w18 hbox hb;have BK1:=Za (hbox);have GW1:=Za ((by rw[hg];exact(Zv (by exact HB.out)):w.heap.size≤gb1));have GE1:=Za ((by rw[hg];exact(Zv (by exact HB.out)):w.heap.size≤gb1));replace HB:=Za (Zq (by exact HB.out) hb);clear hb hbox hg)|((with_reducible refine ZG (N:=2) rfl ?_);refine ZH ?hg (N:=2) ?hd (cs:=#[.int .i64 0,.slice none 0 0]) (t:=156) ?hr ?_;(case hd=>rfl);(case hg=>rfl);(case hr=>first|(go_simp;done)|(go_simp;rfl));intro gb2 hg w19 hbox hb;have BK2:=Za (hbox);have GW2:=Za ((by rw[hg];exact(Zv (by exact HB.out)):w.heap.size≤gb2));have GE2:=Za ((by rw[hg];exact(Zv (by exact HB.out)):w.heap.size≤gb2));have NB1_2:=Za ((by rw[hg];exact Nat.ne_of_lt (ZK (g:=gb1) (o:=.cells #[.int .i64 a0_0,.slice A0_1 l0_1.length c0_1] 54 (0,0)) (by exact BK1.out)):gb1≠gb2));have NB2_1:=Za ((by rw[hg];exact Nat.ne_of_gt (ZK (g:=gb1) (o:=.cells #[.int .i64 a0_0,.slice A0_1 l0_1.length c0_1] 54 (0,0)) (by exact BK1.out)):gb2≠gb1));replace BK1:=Za (Zw (g:=gb1) (o:=.cells #[.int .i64 a0_0,.slice A0_1 l0_1.length c0_1] 54 (0,0)) (by exact BK1.out) hb);replace HB:=Za (Zq (by exact HB.out) hb);clear hb hbox hg;have hnb20:=NB1_2.out;have hnc20:=NB2_1.out;have hcz21_0:w19.cell? ⟨gb1,0,none⟩=some (.int .i64 a0_0):=(Zn BK1.out 0).trans rfl;have hcz21_1:w19.cell? ⟨gb1,1,none⟩=some (.slice A0_1 l0_1.length c0_1):=(Zn BK1.out 1).trans rfl;have hfz21_0:=Zt BK1.out 0;have hfz21_1:=Zt BK1.out 1)|((with_reducible refine ZJ (f:=105) rfl ?_);refine ZY (some 6) rfl rfl Tryz.func105 (by kernel_rfl) rfl #[.agg #[.int .i64 a0_0,.slice A0_1 l0_1.length c0_1]] rfl (by(try simp only[List.map_toArray,List.map_cons,List.map_nil]);first|done|rfl|(simp only[Zk,Zj];rfl)) ?_;(with_reducible refine(Za7.calls a0_0 _ _ l0_1 false _ ?side1 ?side2 A2.out).mono ?_);(case side1=>exact(Zb HR0_1.out HB.out));(case side2=>exact HC0_1.out);rintro e w22 ⟨rfl,hb⟩;refine⟨_,rfl,?_⟩;replace BK1:=Za (Zw (g:=gb1) (o:=.cells #[.int .i64 a0_0,.slice A0_1 l0_1.length c0_1] 54 (0,0)) (by exact BK1.out) hb);replace BK2:=Za (Zw (g:=gb2) (o:=.cells #[.int .i64 0,.slice none 0 0] 156 (0,0)) (by exact BK2.out) hb);replace HB:=Za (Zq (by exact HB.out) hb);have hcz23_0:w22.cell? ⟨gb2,0,none⟩=some (.int .i64 0):=(Zn BK2.out 0).trans rfl;have hcz23_1:w22.cell? ⟨gb2,1,none⟩=some (.slice none 0 0):=(Zn BK2.out 1).trans rfl;have hfz23_0:=Zt BK2.out 0;have hfz23_1:=Zt BK2.out 1))
  refine bodyPost_ret (results_cell_row rfl _ _ gb2 156 #[.int .i64 0,.slice none 0 0] (0,0) _ rfl (by(with_reducible repeat(first|refine ZD ?_ _|refine ZE ?_|refine ZC ?_ _));refine ZW (cs:=#[.int .i64 0,.slice none 0 0]) ?_ 1 _ rfl;(with_reducible repeat(first|refine ZD ?_ _|refine ZE ?_|refine ZC ?_ _));refine ZW (cs:=#[.int .i64 0,.slice none 0 0]) ?_ 0 _ rfl;(with_reducible repeat(first|refine ZD ?_ _|refine ZE ?_|refine ZC ?_ _));exact BK2.out) Tryz.underlying156 rfl (by kernel_rfl)) rfl ?_
  exact⟨_,by first|rfl|(simp[ZB,ZA] <;> rfl)|(simp[*,ZB,ZA] <;> rfl),by first|exact Kd.R_nil _ _ _ _ _|exact Kd.N_nil _ _ _ _ _|exact Kd.V_nil _ _ _ _ _|exact Kd.Q_nil _ _ _ _ _|exact Kd.S_nil _ _ _ _ _,by repeat(first|(with_reducible first|exact HB.out|apply Zo|apply Zm|apply Zp|refine Zs ?_ GE1.out|refine Zs ?_ GE2.out)|exact HB.out)⟩
open Ni
def Zc5.f (k:Nat) (a0_0:Int) (l0_1:List (S112)):Option Bool:=(Za7.f a0_0 l0_1).bind fun b=>if b=true then(Zdn.f k a0_0 l0_1).bind fun g=>(Zao.f g.1 g.2).bind fun c=>some c.isEmpty else some false
theorem Zc5.calls (k:Nat) (a0_0:Int) (A0_1:Option Addr) (c0_1:Nat) (l0_1:List (S112)) (r:Bool) (w:World) (hr0_1:Kd.C k112 w A0_1 l0_1.length l0_1) (hc0_1:l0_1.length≤c0_1) (h:Zc5.f k a0_0 l0_1=some r) :
  Calls Tryz.prog 112 #[.agg #[.int .i64 a0_0,.slice A0_1 l0_1.length c0_1]] w fun e w'=>e=.returned (.bool r)∧Below w.heap.size w w':=by
 unfold Zc5.f at h
 obtain⟨b,hb_,h⟩:=Option.bind_eq_some_iff.1 h
 have HS:=Za fun (W:World) (hb:Below w.heap.size w W)=>Za7.calls a0_0 A0_1 c0_1 l0_1 b W (Zb hr0_1 hb) hc0_1 hb_
 have B1:=Za (Zo (Below.refl w.heap.size w) (.cells #[.int .i64 a0_0,.slice A0_1 l0_1.length c0_1] 54))
 have K0:=Za (show(w.alloc (.cells #[.int .i64 a0_0,.slice A0_1 l0_1.length c0_1] 54)).cell? ⟨w.heap.size,0,none⟩=some (.int .i64 a0_0) by go_simp)
 have K1:=Za (show(w.alloc (.cells #[.int .i64 a0_0,.slice A0_1 l0_1.length c0_1] 54)).cell? ⟨w.heap.size,1,none⟩=some (.slice A0_1 l0_1.length c0_1) by go_simp)
 have hu:=Tryz.underlying54
 cases b with
 | false=>
  rw[if_neg (by simp)] at h
  obtain rfl:=Zg h
  clear hr0_1 hc0_1 hb_ h
  go_enter Tryz.func112,Tryz.ntmps112
  go_wp2_with (go_at_call 105;refine(HS.out _ B1.out).mono ?_;rintro e w1 ⟨rfl,hb⟩)
  go_ret
  exact⟨rfl,B1.out.trans (hb.mono B1.out.size)⟩
 | true=>
 rw[if_pos rfl] at h
 obtain⟨⟨g1,g2⟩,hg,h⟩:=Option.bind_eq_some_iff.1 h
 obtain⟨c,hc,h⟩:=Option.bind_eq_some_iff.1 h
 obtain rfl:=Zg h
 have HG:=Za fun (W:World) (hb:Below w.heap.size w W)=>Zdn.calls k a0_0 A0_1 c0_1 l0_1 g1 g2 W (Zb hr0_1 hb) hc0_1 hg
 have HNC:=Za fun (W:World) (A:Option Addr) (cc:Nat) (hr:Kd.C k184 W A g2.length g2) (hcc:g2.length≤cc)=>Zao.own g1 A cc g2 c W hr hcc hc
 clear hr0_1 hc0_1 hb_ hg hc h
 have hsn:=fun (W:World) (A:Option Addr) (n c:Nat)=>Lib.run_eql_slice_nil (P:=Tryz.prog) W 37 3 A n c 0 0 Tryz.underlying37
 cases hce:c with
 | nil=>
  rw[hce] at HNC
  clear hce
  go_enter Tryz.func112,Tryz.ntmps112
  go_wp2_with (first|(go_at_call 105;refine(HS.out _ B1.out).mono ?_;rintro e w1 ⟨rfl,hb⟩;have hk0:=Zx hb K0.out;have hk1:=Zx hb K1.out;have hlt:=Zc _ _ hk0;have HB:=Za (B1.out.trans (hb.mono B1.out.size));clear hb)|(go_at_call 171;refine(HG.out _ HB.out).mono ?_;rintro e w2 ⟨v1,rfl,hr,hb⟩;obtain⟨Ag,cg,rfl,hcg,hrg⟩:=Kd.R_reads hr;replace HB:=Za (HB.out.trans (hb.mono HB.out.size));have HRG:=Za (And.intro hcg hrg);clear hb hr hcg hrg hk0 hk1 hlt)|(go_at_call 170;refine(HNC.out _ Ag cg HRG.out.2 HRG.out.1).mono ?_;rintro e w3 ⟨v2,rfl,_,hnil,hb⟩;obtain rfl:=hnil.out (by first|rfl|trivial);replace HB:=Za (HB.out.trans (hb.mono HB.out.size));clear hb hnil))
  go_ret
  exact⟨rfl,HB.out⟩
 | cons x t=>
  rw[hce] at HNC
  clear hce
  go_enter Tryz.func112,Tryz.ntmps112
  go_wp2_with (first|(go_at_call 105;refine(HS.out _ B1.out).mono ?_;rintro e w1 ⟨rfl,hb⟩;have hk0:=Zx hb K0.out;have hk1:=Zx hb K1.out;have hlt:=Zc _ _ hk0;have HB:=Za (B1.out.trans (hb.mono B1.out.size));clear hb)|(go_at_call 171;refine(HG.out _ HB.out).mono ?_;rintro e w2 ⟨v1,rfl,hr,hb⟩;obtain⟨Ag,cg,rfl,hcg,hrg⟩:=Kd.R_reads hr;replace HB:=Za (HB.out.trans (hb.mono HB.out.size));have HRG:=Za (And.intro hcg hrg);clear hb hr hcg hrg hk0 hk1 hlt)|(go_at_call 170;refine(HNC.out _ Ag cg HRG.out.2 HRG.out.1).mono ?_;rintro e w3 ⟨v2,rfl,hr,_,hb⟩;obtain⟨g3,cap3,e3,_⟩:=Kd.R_form hr (by simp);rw[e3];replace HB:=Za (HB.out.trans (hb.mono HB.out.size));clear hb hr e3))
  go_ret
  exact⟨rfl,HB.out⟩
def gofB (n:Int) (L:List PLink):Int×List Zac:=if ZaI n L=true then(n,Zba L) else(0,[])
def ncF (n:Int) (E:List Zac):List Int:=if ZbQ n E=true then ncB n.toNat E else[]
def litV (v:List Int) (x:Int):Int:=if x<0 then -(v.getD (prp x - 1).toNat 0) else v.getD (prp x - 1).toNat 0
theorem ZfC (v:List Int):∀(l:List Int) (a:Int),a≤1→(Zc6 v a l=1↔a=1∧∀x∈l,1≤litV v x)
 | [],a,_=>by simp[Zc6]
 | x :: t,a,ha=>by
  show Zc6 v (min a (litV v x)) t=1↔_
  rw[ZfC v t _ (by omega)]
  constructor
  ·rintro⟨h1,h2⟩
   refine⟨by omega,fun y hy=>?_⟩
   rcases List.mem_cons.1 hy with rfl|hy
   ·omega
   ·exact h2 y hy
  ·rintro⟨h1,h2⟩
   have:=h2 x (by simp)
   exact⟨by omega,fun y hy=>h2 y (by simp[hy])⟩
theorem hap_iff (ns:List ZM) (vs:List Int) (i:Int):hapB ns vs i=true↔∀x∈(ZI ns i).f1,1≤litV vs x:=by
 unfold hapB stB
 rw[beq_iff_eq,ZfC vs _ 1 (by omega)]
 simp
theorem Zfx {ns:List ZM} (h:ZV ns=true) (vs:List Int):hapB ns vs 0=true:=by
 unfold ZV at h
 simp only[Bool.and_eq_true,decide_eq_true_eq] at h
 rw[hap_iff]
 intro x hx
 have e:(ZI ns 0).f1=[]:=List.length_eq_zero_iff.1 (by
  have:=h.1.1.2
  rw[← Zcn ns 0] at this
  exact this)
 rw[e] at hx
 exact absurd hx (by simp)
theorem hap_watch {ns:List ZM} {ts:List PTie} {z:Int} (h:Zal ns ts z=true) {vs:List Int} {i:Nat} (hi:i<ns.length) (hh:hapB ns vs (i:Int)=true) {x:Int} (hx:x∈lbL ns i):hapB ns vs (ZbA ns (prp x))=true:=by
 unfold Zal at h
 rw[Bool.and_eq_true] at h
 have h1:=List.all_eq_true.1 h.2 _ (Zen (ns:=ns) (i:=(i:Int)) (by omega) (by omega))
 unfold ZcC at h1
 rw[Bool.not_eq_true',List.any_eq_false] at h1
 have h2:=h1 x hx
 rw[Bool.not_eq_true',Bool.not_eq_false] at h2
 unfold Zb7 ZdR impB at h2
 simp only[Bool.and_eq_true,List.all_eq_true,List.any_eq_true,decide_eq_true_eq] at h2
 rw[hap_iff] at hh ⊢
 intro y hy
 obtain⟨q,hq,rfl⟩:=h2.2.2 y hy
 exact hh _ hq
theorem Zdq {α:Type} {g:Nat→List α} {x:α}:∀(d i:Nat),x∈cat g d i→∃j,i≤j∧j<i+d∧x∈g j
 | 0,_,h=>by simp[cat] at h
 | d+1,i,h=>by
  rw[cat,List.mem_append] at h
  rcases h with h|h
  ·exact⟨i,Nat.le_refl _,by omega,h⟩
  ·obtain⟨j,h1,h2,h3⟩:=Zdq d (i+1) h
   exact⟨j,by omega,by omega,h3⟩
theorem Zc4 {α β:Type} {g:Nat→List α} {h:Nat→List β} (e:∀j,(g j).length=(h j).length):∀(d i:Nat),(cat g d i).length=(cat h d i).length
 | 0,_=>rfl
 | d+1,i=>by rw[cat,cat,List.length_append,List.length_append,e i,Zc4 e d]
section
variable {ns:List ZM} {ts:List PTie} {z:Int} {ln vs:List Int}
theorem ab_len:(cat (gA ns vs z) ns.length 0).length=(cat (rA ns vs) ns.length 0).length:=Zc4 (fun j=>by unfold gA rA;split <;> rfl) _ _
theorem bb_len:(cat (gB ns ts ln vs) ts.length 0).length=(cat (rB ns ts vs) ts.length 0).length:=Zc4 (fun j=>by unfold gB rB;split <;> rfl) _ _
theorem cb_len (t:Nat→ByteArray):(cat (gC ns vs) ns.length 0).length=(cat (rC ns vs t) ns.length 0).length:=Zc4 (fun j=>by unfold gC rC;split <;> rfl) _ _
theorem db_len:(cat (gD ns vs) ns.length 0).length=(cat (rD ns vs) ns.length 0).length:=Zc4 (fun j=>by unfold gD rD;exact Zc4 (fun i=>by unfold gE rE;split <;> rfl) _ _) _ _
theorem projR_len (t:Nat→ByteArray):(Zc0 ns ts vs t).length=(Zb3 ns ts z ln vs).length:=by
 unfold Zc0 Zb3
 simp only[List.length_append]
 rw[ab_len,bb_len,cb_len t,db_len]
theorem reason_same (t u:Nat→ByteArray) {k:Nat} (h:∀x,(Zb3 ns ts z ln vs)[k]? = some x→hapB ns vs x.f1=true):(Zc0 ns ts vs t)[k]? = (Zc0 ns ts vs u)[k]?:=by
 have la:=ab_len (ns:=ns) (vs:=vs) (z:=z)
 have lb:=bb_len (ns:=ns) (ts:=ts) (ln:=ln) (vs:=vs)
 have lt:=cb_len (ns:=ns) (vs:=vs) t
 have lu:=cb_len (ns:=ns) (vs:=vs) u
 unfold Zb3 at h
 unfold Zc0
 by_cases h1:k<(cat (rA ns vs) ns.length 0 ++ cat (rB ns ts vs) ts.length 0).length
 ·rw[List.append_assoc,List.append_assoc (cat (rA ns vs) ns.length 0 ++ cat (rB ns ts vs) ts.length 0),List.getElem?_append_left h1,List.getElem?_append_left h1]
 ·by_cases h2:k<(cat (rA ns vs) ns.length 0 ++ cat (rB ns ts vs) ts.length 0 ++ cat (rC ns vs t) ns.length 0).length
  ·exfalso
   simp only[List.length_append] at h1 h2
   have h3:k - (cat (gA ns vs z) ns.length 0 ++ cat (gB ns ts ln vs) ts.length 0).length<(cat (gC ns vs) ns.length 0).length:=by rw[List.length_append];omega
   rw[List.getElem?_append_left (by simp only[List.length_append];omega),List.getElem?_append_right (by rw[List.length_append];omega),Zl h3] at h
   have h4:=h _ rfl
   obtain⟨j,_,_,hj⟩:=Zdq _ _ (List.getElem_mem h3)
   revert h4 hj
   generalize (cat (gC ns vs) ns.length 0)[k - (cat (gA ns vs z) ns.length 0 ++ cat (gB ns ts ln vs) ts.length 0).length]=x
   intro h4 hj
   unfold gC at hj
   by_cases hb:hapB ns vs (j:Int)=true
   ·rw[if_pos hb] at hj;exact absurd hj (by simp)
   ·rw[if_neg hb,List.mem_singleton] at hj
    subst hj
    exact hb h4
  ·simp only[List.length_append] at h1 h2
   rw[List.getElem?_append_right (by simp only[List.length_append];omega),List.getElem?_append_right (by simp only[List.length_append];omega)]
   simp only[List.length_append]
   rw[← lt,← lu]
theorem links_at:∀(L:List PLk) (i c:Nat) (e:Zac),(Zba L)[c]? = some e→∃k x,(ZbH i L)[c]? = some ((i+k:Nat):Int)∧L[k]? = some x∧e∈ZcM x
 | [],_,c,e,h=>by simp[Zba] at h
 | x :: t,i,c,e,h=>by
  have hlen:(Zc9 i x).length=(ZcM x).length:=by unfold Zc9 ZcM;split <;> split <;> rfl
  rw[Zba] at h
  rw[ZbH]
  by_cases hc:c<(ZcM x).length
  ·rw[List.getElem?_append_left hc] at h
   refine⟨0,x,?_,rfl,List.mem_of_getElem? h⟩
   rw[List.getElem?_append_left (by omega),Zl (by omega)]
   have hm:(Zc9 i x)[c]'(by omega)∈Zc9 i x:=List.getElem_mem _
   congr 1
   revert hm
   generalize (Zc9 i x)[c]'(by omega)=y
   unfold Zc9
   intro hm
   rw[List.mem_append] at hm
   rcases hm with hm|hm <;> split at hm <;> simp at hm <;> omega
  ·rw[List.getElem?_append_right (by omega)] at h
   obtain⟨k,y,h1,h2,h3⟩:=links_at t (i+1) _ e h
   refine⟨k+1,y,?_,by rw[List.getElem?_cons_succ];exact h2,h3⟩
   rw[List.getElem?_append_right (by omega),hlen,h1]
   congr 2
   omega
theorem ZfH {e:Zac}:∀L:List PLk,e∈Zba L→∃x∈L,e∈ZcM x
 | [],h=>by simp[Zba] at h
 | x :: t,h=>by
  rw[Zba,List.mem_append] at h
  rcases h with h|h
  ·exact⟨x,by simp,h⟩
  ·obtain⟨y,h1,h2⟩:=ZfH t h
   exact⟨y,by simp[h1],h2⟩
theorem Zfn {x:PLk} {e:Zac} (h:e∈ZcM x):(e.f0=x.f0∧e.f1=x.f1)∨(e.f0=x.f1∧e.f1=x.f0):=by
 unfold ZcM at h
 rw[List.mem_append] at h
 rcases h with h|h <;> split at h <;> simp at h <;> subst h <;> simp
def lost (ns:List ZM) (vs:List Int) (v:Nat):Prop:=hapB ns vs (v:Int)=false
theorem link_kind (hs:Zal ns ts z=true) {x:PLk} (hx:x∈Zb3 ns ts z ln vs):(∃j:Nat,j<ns.length∧x=lkH 0 j∧hapB ns vs (j:Int)=false)∨(0≤x.f0∧x.f0<ns.length∧0≤x.f1∧x.f1<ns.length∧hapB ns vs x.f0=true∧hapB ns vs x.f1=true):=by
 have hn:=ZaW hs
 have ht:=Zcx hs
 have n1:1≤ns.length:=by
  have:=hn
  unfold ZV at this
  simp only[Bool.and_eq_true,decide_eq_true_eq] at this
  exact this.1.1.1.1
 unfold Zb3 at hx
 simp only[List.mem_append] at hx
 rcases hx with ((hx|hx)|hx)|hx
 ·obtain⟨j,_,hj,hg⟩:=Zdq _ _ hx
  unfold gA at hg
  by_cases hb:hapB ns vs (j:Int)=true
  ·rw[if_pos hb,List.mem_singleton] at hg
   subst hg
   exact .inr ⟨Int.le_refl _,by show(0:Int)<_;omega,by show(0:Int)≤(j:Int);omega,by show(j:Int)<_;omega,Zfx hn vs,hb⟩
  ·rw[if_neg hb] at hg;exact absurd hg (by simp)
 ·obtain⟨j,_,hj,hg⟩:=Zdq _ _ hx
  unfold gB tieH at hg
  obtain⟨⟨f0,f1⟩,⟨g0,g1⟩,_⟩:=Zej ht (j:=(j:Int)) (by omega) (by omega)
  split at hg
  ·rename_i hb
   rw[Bool.and_eq_true] at hb
   rw[List.mem_singleton] at hg
   subst hg
   exact .inr ⟨f0,f1,g0,g1,hb.1,hb.2⟩
  ·exact absurd hg (by simp)
 ·obtain⟨j,_,hj,hg⟩:=Zdq _ _ hx
  unfold gC at hg
  by_cases hb:hapB ns vs (j:Int)=true
  ·rw[if_pos hb] at hg;exact absurd hg (by simp)
  ·rw[if_neg hb,List.mem_singleton] at hg
   exact .inl ⟨j,by omega,hg,by simpa using hb⟩
 ·obtain⟨j,_,hj,hg⟩:=Zdq _ _ hx
  unfold gD at hg
  obtain⟨q,_,hq,hg⟩:=Zdq _ _ hg
  unfold gE at hg
  by_cases hb:hapB ns vs (j:Int)=true
  ·rw[if_pos hb,List.mem_singleton] at hg
   subst hg
   have hm:rd (lbL ns j) (q:Int)∈lbL ns j:=by rw[ZaO];exact ZaG (by omega) 0
   have hw:=Zfo hs (show j<ns.length by omega) hm
   exact .inr ⟨hw.1,hw.2,by show(0:Int)≤(j:Int);omega,by show(j:Int)<_;omega,hap_watch hs (by omega) hb hm,hb⟩
  ·rw[if_neg hb] at hg;exact absurd hg (by simp)
theorem proj_hangs (hs:Zal ns ts z=true):hangs (Zba (Zb3 ns ts z ln vs)) (lost ns vs):=by
 refine⟨by unfold lost;rw[show((0:Nat):Int)=0 from rfl,Zfx (ZaW hs) vs];simp,fun e he=>?_⟩
 obtain⟨x,hx,hex⟩:=ZfH _ he
 rcases link_kind hs hx with ⟨j,hj,rfl,hb⟩|⟨a0,a1,b0,b1,ha,hb⟩
 ·have hl:lkH 0 j=⟨0,(j:Int),⟨0,0⟩⟩:=rfl
  rw[hl] at hex
  have hz:=Zfx (ZaW hs) vs
  unfold ZcM at hex
  dsimp only at hex
  rw[if_neg (by omega),if_neg (by omega),List.mem_append,List.mem_singleton,List.mem_singleton] at hex
  rcases hex with rfl|rfl
  ·refine⟨fun _=>⟨rfl,rfl⟩,fun h=>?_⟩
   have h':hapB ns vs 0=false:=h
   rw[hz] at h';cases h'
  ·refine⟨fun h=>?_,fun _=>⟨rfl,show wrap64 (-0)=0 from(Zay (by omega) (by omega)).trans (by omega)⟩⟩
   have h':hapB ns vs 0=false:=h
   rw[hz] at h';cases h'
 ·have h0:¬lost ns vs x.f0.toNat:=by unfold lost;rw[Int.toNat_of_nonneg a0,ha];simp
  have h1:¬lost ns vs x.f1.toNat:=by unfold lost;rw[Int.toNat_of_nonneg b0,hb];simp
  rcases Zfn hex with ⟨e0,e1⟩|⟨e0,e1⟩ <;> rw[e0,e1]
  ·exact⟨fun h=>absurd h h1,fun h=>absurd h h0⟩
  ·exact⟨fun h=>absurd h h0,fun h=>absurd h h1⟩
theorem conf_same (hs:Zal ns ts z=true) (t u:Nat→ByteArray) {c:Int} (hc:c∈ncF (ns.length:Int) (Zba (Zb3 ns ts z ln vs))):0≤c∧∃k:Nat,(ZbH 0 (Zb3 ns ts z ln vs))[c.toNat]? = some (k:Int)∧k<(Zb3 ns ts z ln vs).length∧(Zc0 ns ts vs t)[k]? = (Zc0 ns ts vs u)[k]?:=by
 unfold ncF at hc
 split at hc
 case isFalse=>exact absurd hc (by simp)
 rename_i hg
 have hin:=Zed hg
 rw[Int.toNat_natCast] at hc
 have n1:1≤ns.length:=by
  have:=ZaW hs
  unfold ZV at this
  simp only[Bool.and_eq_true,decide_eq_true_eq] at this
  exact this.1.1.1.1
 obtain⟨h0,e,he,hf,hf1⟩:=nc_avoid (proj_hangs hs) (fun e he=>by have:=hin.2.2.2 e he;omega) n1 hc
 obtain⟨k,x,hk,hx,hex⟩:=links_at _ 0 _ _ he
 rw[Nat.zero_add] at hk
 refine⟨h0,k,hk,(List.getElem?_eq_some_iff.1 hx).1,reason_same (z:=z) (ln:=ln) t u fun y hy=>?_⟩
 rw[hx] at hy
 cases hy
 rcases link_kind hs (List.mem_of_getElem? hx) with ⟨j,hj,rfl,hb⟩|⟨_,_,_,_,_,hb⟩
 ·exfalso
  rcases Zfn hex with ⟨_,e1⟩|⟨e0,_⟩
  ·apply hf1
   rw[e1];exact hb
  ·apply hf
   rw[e0];exact hb
 ·exact hb
end
def ZdH.f (k:Nat) (a0_0:Int) (l0_1:List (S112)):Option (Bool):=(ZaU.f k a0_0 l0_1).bind fun t2=>(if t2=true then((Zbj.f k a0_0 l0_1).bind fun bt3=>((ZaR.f k bt3.1 bt3.2).bind fun t7=>(some ((t7.length:Int) == 0)))) else(some false))
theorem ZdH.calls (k:Nat) (a0_0:Int) (A0_1:Option Addr) (c0_1:Nat) (l0_1:List (S112)) (r:Bool) (w:World) (hr0_1:Kd.C k112 w A0_1 l0_1.length l0_1) (hc0_1:l0_1.length≤c0_1) (h:ZdH.f k a0_0 l0_1=some r) :
  Calls Tryz.prog 111 #[.agg #[.int .i64 a0_0,.slice A0_1 l0_1.length c0_1]] w fun e w'=>e=.returned (.bool r)∧Below w.heap.size w w':=by
 have hu54:=Tryz.underlying54
 have HR0_1:=Za hr0_1;have HC0_1:=Za hc0_1;clear hr0_1 hc0_1
 have HB:=Za (Below.refl w.heap.size w)
 have H:((ZaU.f k a0_0 l0_1).bind fun t2=>(if t2=true then((Zbj.f k a0_0 l0_1).bind fun bt3=>((ZaR.f k bt3.1 bt3.2).bind fun t7=>(some ((t7.length:Int) == 0)))) else(some false)))=some r:=h
 clear h
 replace H:=Zh H
 obtain⟨t2,A20,H⟩:=H
 replace H:(if t2=true then((Zbj.f k a0_0 l0_1).bind fun bt3=>((ZaR.f k bt3.1 bt3.2).bind fun t7=>(some ((t7.length:Int) == 0)))) else(some false))=some r:=H
 have A2:=Za A20;clear A20
 by_cases c3:t2=true
 ·subst c3
  have H1:((Zbj.f k a0_0 l0_1).bind fun bt3=>((ZaR.f k bt3.1 bt3.2).bind fun t7=>(some ((t7.length:Int) == 0))))=some r:=by rw[if_pos rfl] at H;exact H
  clear H
  have H:=H1
  clear H1
  replace H:=Zh H
  obtain⟨⟨t3,t4⟩,A40,H⟩:=H
  replace H:((ZaR.f k t3 t4).bind fun t7=>(some ((t7.length:Int) == 0)))=some r:=H
  have A4:=Za A40;clear A40
  replace H:=Zh H
  obtain⟨t7,A50,H⟩:=H
  replace H:(some ((t7.length:Int) == 0))=some r:=H
  have A5:=Za A50;clear A50
  obtain rfl:=Zg H
  go_enter Tryz.func111,Tryz.ntmps111
  go_wp2_with (first|((with_reducible refine ZG (N:=1) rfl ?_);(try(refine ZfP (by rfl) ?_;dsimp only));refine ZH ?hg (N:=1) ?hd (cs:=#[.int .i64 a0_0,.slice A0_1 l0_1.length c0_1]) (t:=54) ?hr ?_;(case hd=>rfl);(case hg=>rfl);(case hr=>first|(go_simp;done)|(go_simp;rfl));intro gb1 hg w6 hbox hb;have BK1:=Za (hbox);have GW1:=Za ((by rw[hg];exact(Zv (by repeat(first|(with_reducible first|exact HB.out|apply Zo|apply Zm|apply Zp)|exact HB.out))):w.heap.size≤gb1));have GE1:=Za ((by rw[hg];exact(Zv (by repeat(first|(with_reducible first|exact HB.out|apply Zo|apply Zm|apply Zp)|exact HB.out))):w.heap.size≤gb1));replace HB:=Za (Zq (by repeat(first|(with_reducible first|exact HB.out|apply Zo|apply Zm|apply Zp)|exact HB.out)) hb);clear hb hbox hg;have hcz7_0:w6.cell? ⟨gb1,0,none⟩=some (.int .i64 a0_0):=(Zn BK1.out 0).trans rfl;have hcz7_1:w6.cell? ⟨gb1,1,none⟩=some (.slice A0_1 l0_1.length c0_1):=(Zn BK1.out 1).trans rfl;have hfz7_0:=Zt BK1.out 0;have hfz7_1:=Zt BK1.out 1)|((with_reducible refine ZJ (f:=99) rfl ?_);refine ZY (some 4) rfl rfl Tryz.func99 (by kernel_rfl) rfl #[.agg #[.int .i64 a0_0,.slice A0_1 l0_1.length c0_1]] rfl (by(try simp only[List.map_toArray,List.map_cons,List.map_nil]);first|done|rfl|(simp only[Zk,Zj];rfl)) ?_;(with_reducible refine(ZaU.calls k a0_0 _ _ l0_1 true _ ?side1 ?side2 A2.out).mono ?_);(case side1=>repeat(first|exact(Zb HR0_1.out HB.out)|(with_reducible refine Kd.C_alloc ?_ _)|(with_reducible refine Kd.C_drewN ?_ _)|(with_reducible refine Kd.C_drew ?_)));(case side2=>exact HC0_1.out);rintro e w8 ⟨rfl,hb⟩;refine⟨_,rfl,?_⟩;replace BK1:=Za (Zw (g:=gb1) (o:=.cells #[.int .i64 a0_0,.slice A0_1 l0_1.length c0_1] 54 (0,0)) (by(with_reducible repeat(first|refine ZD ?_ _|refine ZE ?_|refine ZC ?_ _));exact BK1.out) hb);replace HB:=Za (Zq (by repeat(first|(with_reducible first|exact HB.out|apply Zo|apply Zm|apply Zp|refine Zs ?_ GE1.out)|exact HB.out)) hb);(try clear hb);(try clear hb2);(try clear hk);(try clear hi);have hcz9_0:w8.cell? ⟨gb1,0,none⟩=some (.int .i64 a0_0):=(Zn BK1.out 0).trans rfl;have hcz9_1:w8.cell? ⟨gb1,1,none⟩=some (.slice A0_1 l0_1.length c0_1):=(Zn BK1.out 1).trans rfl;have hfz9_0:=Zt BK1.out 0;have hfz9_1:=Zt BK1.out 1)|(go_at_call 169;(with_reducible refine(Zbj.calls k a0_0 _ _ l0_1 t3 t4 _ ?side1 ?side2 A4.out).mono ?_);(case side1=>repeat(first|exact(Zb HR0_1.out HB.out)|(with_reducible refine Kd.C_alloc ?_ _)|(with_reducible refine Kd.C_drewN ?_ _)|(with_reducible refine Kd.C_drew ?_)));(case side2=>exact HC0_1.out);rintro e w10 ⟨v5,rfl,ho0,hb⟩;have HO6:=Za (Kd.R_lower ho0 (Zv (by repeat(first|(with_reducible first|exact HB.out|apply Zo|apply Zm|apply Zp|refine Zs ?_ GE1.out)|exact HB.out))));replace BK1:=Za (Zw (g:=gb1) (o:=.cells #[.int .i64 a0_0,.slice A0_1 l0_1.length c0_1] 54 (0,0)) (by(with_reducible repeat(first|refine ZD ?_ _|refine ZE ?_|refine ZC ?_ _));exact BK1.out) hb);replace HB:=Za (Zq (by repeat(first|(with_reducible first|exact HB.out|apply Zo|apply Zm|apply Zp|refine Zs ?_ GE1.out)|exact HB.out)) hb);(try clear hb);(try clear hb2);(try clear hk);(try clear hi);(try clear ho0);obtain⟨Ao11,co11,eo11⟩:=Kd.R_slice HO6.out;subst eo11)|(go_at_call 168;(with_reducible refine(ZaR.calls k t3 _ _ t4 t7 _ ?side1 ?side2 A5.out).mono ?_);(case side1=>repeat(first|exact(Kd.R_reads' HO6.out).2.2|(with_reducible refine Kd.C_alloc ?_ _)|(with_reducible refine Kd.C_drewN ?_ _)|(with_reducible refine Kd.C_drew ?_)));(case side2=>exact(Kd.R_reads' HO6.out).2.1);rintro e w12 ⟨v8,rfl,ho0,hb⟩;have HO9:=Za (Kd.R_lower ho0 (Zv (by repeat(first|(with_reducible first|exact HB.out|apply Zo|apply Zm|apply Zp|refine Zs ?_ GE1.out)|exact HB.out))));replace HO6:=Za (Kd.R_below (by(with_reducible repeat(first|apply Kd.R_alloc|apply Kd.R_drewN|apply Kd.R_drew));exact HO6.out) hb);replace BK1:=Za (Zw (g:=gb1) (o:=.cells #[.int .i64 a0_0,.slice A0_1 l0_1.length c0_1] 54 (0,0)) (by(with_reducible repeat(first|refine ZD ?_ _|refine ZE ?_|refine ZC ?_ _));exact BK1.out) hb);replace HB:=Za (Zq (by repeat(first|(with_reducible first|exact HB.out|apply Zo|apply Zm|apply Zp|refine Zs ?_ GE1.out)|exact HB.out)) hb);(try clear hb);(try clear hb2);(try clear hk);(try clear hi);(try clear ho0);obtain⟨Ao13,co13,eo13⟩:=Kd.R_slice HO9.out;subst eo13))
  go_ret
  exact⟨by first|rfl|(simp[ZB,ZA] <;> rfl)|(simp[*,ZB,ZA] <;> rfl),by repeat(first|(with_reducible first|exact HB.out|apply Zo|apply Zm|apply Zp|refine Zs ?_ GE1.out)|exact HB.out)⟩
 ·replace c3:=Bool.eq_false_iff.mpr c3
  subst c3
  have H1:(some false)=some r:=by rw[if_neg (show ¬(false=true) by decide)] at H;exact H
  clear H
  have H:=H1
  clear H1
  obtain rfl:=Zg H
  go_enter Tryz.func111,Tryz.ntmps111
  go_wp2_with (first|((with_reducible refine ZG (N:=1) rfl ?_);(try(refine ZfP (by rfl) ?_;dsimp only));refine ZH ?hg (N:=1) ?hd (cs:=#[.int .i64 a0_0,.slice A0_1 l0_1.length c0_1]) (t:=54) ?hr ?_;(case hd=>rfl);(case hg=>rfl);(case hr=>first|(go_simp;done)|(go_simp;rfl));intro gb1 hg w14 hbox hb;have BK1:=Za (hbox);have GW1:=Za ((by rw[hg];exact(Zv (by repeat(first|(with_reducible first|exact HB.out|apply Zo|apply Zm|apply Zp)|exact HB.out))):w.heap.size≤gb1));have GE1:=Za ((by rw[hg];exact(Zv (by repeat(first|(with_reducible first|exact HB.out|apply Zo|apply Zm|apply Zp)|exact HB.out))):w.heap.size≤gb1));replace HB:=Za (Zq (by repeat(first|(with_reducible first|exact HB.out|apply Zo|apply Zm|apply Zp)|exact HB.out)) hb);clear hb hbox hg;have hcz15_0:w14.cell? ⟨gb1,0,none⟩=some (.int .i64 a0_0):=(Zn BK1.out 0).trans rfl;have hcz15_1:w14.cell? ⟨gb1,1,none⟩=some (.slice A0_1 l0_1.length c0_1):=(Zn BK1.out 1).trans rfl;have hfz15_0:=Zt BK1.out 0;have hfz15_1:=Zt BK1.out 1)|((with_reducible refine ZJ (f:=99) rfl ?_);refine ZY (some 4) rfl rfl Tryz.func99 (by kernel_rfl) rfl #[.agg #[.int .i64 a0_0,.slice A0_1 l0_1.length c0_1]] rfl (by(try simp only[List.map_toArray,List.map_cons,List.map_nil]);first|done|rfl|(simp only[Zk,Zj];rfl)) ?_;(with_reducible refine(ZaU.calls k a0_0 _ _ l0_1 false _ ?side1 ?side2 A2.out).mono ?_);(case side1=>repeat(first|exact(Zb HR0_1.out HB.out)|(with_reducible refine Kd.C_alloc ?_ _)|(with_reducible refine Kd.C_drewN ?_ _)|(with_reducible refine Kd.C_drew ?_)));(case side2=>exact HC0_1.out);rintro e w16 ⟨rfl,hb⟩;refine⟨_,rfl,?_⟩;replace BK1:=Za (Zw (g:=gb1) (o:=.cells #[.int .i64 a0_0,.slice A0_1 l0_1.length c0_1] 54 (0,0)) (by(with_reducible repeat(first|refine ZD ?_ _|refine ZE ?_|refine ZC ?_ _));exact BK1.out) hb);replace HB:=Za (Zq (by repeat(first|(with_reducible first|exact HB.out|apply Zo|apply Zm|apply Zp|refine Zs ?_ GE1.out)|exact HB.out)) hb);(try clear hb);(try clear hb2);(try clear hk);(try clear hi)))
  go_ret
  exact⟨by first|rfl|(simp[ZB,ZA] <;> rfl)|(simp[*,ZB,ZA] <;> rfl),by repeat(first|(with_reducible first|exact HB.out|apply Zo|apply Zm|apply Zp|refine Zs ?_ GE1.out)|exact HB.out)⟩
theorem Zf0 (n:Int) (L:List PLink) (k:Nat) (hk:2 ^ 66≤k):Zbj.f k n L=some (gofB n L):=by
 unfold Zbj.f gofB
 rw[Zdj n L k hk,Zi]
 by_cases h:ZaI n L=true
 ·rw[if_pos h,if_pos h,Zbo.f,if_pos (show L.length≤1048576 by have:=Zer h;omega)];rfl
 ·rw[if_neg h,if_neg h]
def Zfw (ns:List ZM) (ts:List PTie) (z:Int) (ln vs:List Int) (i:Int):Bool:=ZbW ns ts z ln vs && (Zcb ns.length i && hapB ns vs i)
theorem Zft {ns:List ZM} {ts:List PTie} {z:Int} (ln vs:List Int) (i:Int) (hc:Zbm ns ts) (hl:vs.length≤1048576) (k:Nat) (hk:2 ^ 67≤k):Zag.f k ns ts z ln vs i=some (Zfw ns ts z ln vs i):=by
 have hsz:=hc.1
 unfold Zag.f Zfw
 rw[Zd8 ln vs hc hl k hk,Zi,Zay (i:=(ns.length:Int) - 1) (by omega) (by omega),l01In_f,in_same]
 cases hch:ZbW ns ts z ln vs with
 | false=>rfl
 | true=>
  rw[if_pos rfl,Zi,Bool.true_and]
  cases hi:Zcb ns.length i with
  | false=>rfl
  | true=>
   have h:=nodeIn_iff hi
   have hh:=ZcQ hch
   rw[if_pos rfl,if_pos h.1,if_pos h.2,ZfD vs i hc (ZaW hh.1) (ZdE hh.2) h.1 h.2 k (by omega)];rfl
def Zcd.l0:Nat→ByteArray→ByteArray→List ByteArray→Int→Int→Option (ByteArray)
 | 0,_,_,_,_,_=>none
 | k+1,x1,x5,x8,x9,x10=>if x10<x9 then(if 0≤x10 then(if x10<(x8.length:Int) then(if x10 > 0 then(if x5.size+x1.size≤9223372036854775807 then(if (x5 ++ x1).size+(rdOf ByteArray.empty x8 x10).size≤9223372036854775807 then(Zcd.l0 k x1 ((x5 ++ x1) ++ (rdOf ByteArray.empty x8 x10)) x8 x9 (wrap64 (x10+1))) else(none)) else(none)) else(if x5.size+(rdOf ByteArray.empty x8 x10).size≤9223372036854775807 then(Zcd.l0 k x1 (x5 ++ (rdOf ByteArray.empty x8 x10)) x8 x9 (wrap64 (x10+1))) else(none))) else(none)) else(none)) else(some x5)
def Zcd.f (k:Nat) (l0:List ByteArray) (a1:ByteArray):Option (ByteArray):=Zcd.l0 k a1 (⟨#[]⟩:ByteArray) l0 (l0.length:Int) 0
theorem Zcd.calls (k:Nat) (A0:Option Addr) (c0:Nat) (l0:List ByteArray) (a1:ByteArray) (r:ByteArray) (w:World) (hr0:Kd.C Kd.string w A0 l0.length l0) (hc0:l0.length≤c0) (h:Zcd.f k l0 a1=some r) :
  Calls Tryz.prog 181 #[.slice A0 l0.length c0,.string a1] w fun e w'=>e=.returned (.string r)∧ZF w w':=by
 have HR0:=Za hr0;have HC0:=Za hc0;clear hr0 hc0
 have H:(Zcd.l0 k a1 (⟨#[]⟩:ByteArray) l0 (l0.length:Int) 0)=some r:=h
 clear h
 have H':=Za H
 clear H
 go_enter Tryz.func181,Tryz.ntmps181
 go_wp2
 go_loopg [5,10] k (fun kq v5 v10 w'=>∃(x5_1:ByteArray) (x10_1:Int),v5=.string x5_1∧v10=.int .i64 x10_1∧Aside0 (Zcd.l0 kq a1 x5_1 l0 (l0.length:Int) x10_1=some r)∧Aside0 (kq≤k)∧ZF w w')
 case atStart=>exact⟨((⟨#[]⟩:ByteArray)),(0),(by first|rfl|(simp;done)|(simp[*];done)),(by first|rfl|(simp;done)|(simp[*];done)),H',⟨Nat.le_refl _⟩,by repeat(first|exact ZF.refl _|apply ZF.step)⟩
 case round=>
  clear H'
  try clear c1
  try clear p2
  obtain⟨x5_1,x10_1,rfl,rfl,HA,HK1,⟨m1,rfl⟩⟩:=hrel
  cases gk with
  | zero=>exact absurd HA.out (by simp[Zcd.l0])
  | succ k1=>
   have H:=HA.out
   clear HA
   simp only[Zcd.l0] at H
   by_cases c3:x10_1<(l0.length:Int)
   ·rw[if_pos c3] at H
    have c3b0:decide (x10_1<(l0.length:Int))=true:=Ze c3
    clear c3
    by_cases c4:0≤x10_1
    ·rw[if_pos c4] at H
     have c4b0:decide (0≤x10_1)=true:=Ze c4
     clear c4
     by_cases c5:x10_1<(l0.length:Int)
     ·rw[if_pos c5] at H
      have c5b0:decide (x10_1<(l0.length:Int))=true:=Ze c5
      clear c5
      by_cases c6:x10_1 > 0
      ·rw[if_pos c6] at H
       have c6b0:decide (0<x10_1)=true:=Ze c6
       clear c6
       by_cases c7:x5_1.size+a1.size≤9223372036854775807
       ·rw[if_pos c7] at H
        have c7b0:=eq_true c7
        have c7b1:decide (x5_1.size+a1.size≤9223372036854775807)=true:=Ze c7
        try have c7b2:(9223372036854775807<x5_1.size+a1.size)=False:=eq_false (Nat.not_lt.2 c7)
        by_cases c8:(x5_1 ++ a1).size+(rdOf ByteArray.empty l0 x10_1).size≤9223372036854775807
        ·rw[if_pos c8] at H
         have c8b0:=eq_true c8
         have c8b1:decide ((x5_1 ++ a1).size+(rdOf ByteArray.empty l0 x10_1).size≤9223372036854775807)=true:=Ze c8
         try have c8b2:(9223372036854775807<(x5_1 ++ a1).size+(rdOf ByteArray.empty l0 x10_1).size)=False:=eq_false (Nat.not_lt.2 c8)
         try have c8b4:(9223372036854775807<(x5_1.size+a1.size)+(rdOf ByteArray.empty l0 x10_1).size)=False:=eq_false (Nat.not_lt.2 (by have h_:=c8;simp only[ByteArray.size_append] at h_;exact h_))
         have H':=Za H
         clear H
         have p1:0≤(x10_1:Int):=Zd (by first|(with_reducible assumption)|assumption)
         have q1:x10_1<(l0.length:Int):=Zd (by first|(with_reducible assumption)|assumption)
         obtain⟨ad1,e1,hx1_0⟩:=Kd.at_string HR0.out x10_1 p1 q1
         cases e1
         replace p1:=eq_true p1
         replace q1:=eq_true q1
         go_wp2
         go_roundg k1
         case measure=>have:=HK1.out;omega
         case rel=>exact⟨((x5_1 ++ a1) ++ (rdOf ByteArray.empty l0 x10_1)),(wrap64 (x10_1+1)),(by first|rfl|(simp;done)|(simp[*];done)),(by first|rfl|(simp;done)|(simp[*];done)),H',⟨by have:=HK1.out;omega⟩,by repeat(first|exact ZF.refl _|apply ZF.step)⟩
        ·rw[if_neg c8] at H
         exact absurd H (by simp)
       ·rw[if_neg c7] at H
        exact absurd H (by simp)
      ·rw[if_neg c6] at H
       have c6b0:decide (0<x10_1)=false:=Zf c6
       clear c6
       by_cases c9:x5_1.size+(rdOf ByteArray.empty l0 x10_1).size≤9223372036854775807
       ·rw[if_pos c9] at H
        have c9b0:=eq_true c9
        have c9b1:decide (x5_1.size+(rdOf ByteArray.empty l0 x10_1).size≤9223372036854775807)=true:=Ze c9
        try have c9b2:(9223372036854775807<x5_1.size+(rdOf ByteArray.empty l0 x10_1).size)=False:=eq_false (Nat.not_lt.2 c9)
        have H':=Za H
        clear H
        have p1:0≤(x10_1:Int):=Zd (by first|(with_reducible assumption)|assumption)
        have q1:x10_1<(l0.length:Int):=Zd (by first|(with_reducible assumption)|assumption)
        obtain⟨ad1,e1,hx1_0⟩:=Kd.at_string HR0.out x10_1 p1 q1
        cases e1
        replace p1:=eq_true p1
        replace q1:=eq_true q1
        go_wp2
        go_roundg k1
        case measure=>have:=HK1.out;omega
        case rel=>exact⟨(x5_1 ++ (rdOf ByteArray.empty l0 x10_1)),(wrap64 (x10_1+1)),(by first|rfl|(simp;done)|(simp[*];done)),(by first|rfl|(simp;done)|(simp[*];done)),H',⟨by have:=HK1.out;omega⟩,by repeat(first|exact ZF.refl _|apply ZF.step)⟩
       ·rw[if_neg c9] at H
        exact absurd H (by simp)
     ·rw[if_neg c5] at H
      exact absurd H (by simp)
    ·rw[if_neg c4] at H
     exact absurd H (by simp)
   ·rw[if_neg c3] at H
    have c3b0:decide (x10_1<(l0.length:Int))=false:=Zf c3
    clear c3
    obtain rfl:=Zg H
    go_wp2
    go_ret
    exact⟨by first|rfl|(simp;done)|(simp[*];done),by repeat(first|exact ZF.refl _|apply ZF.step)⟩
theorem Zev (x:Int) (h0:0≤x) (h1:x<256):strOfNums [x]=bs [UInt8.ofNat x.toNat]:=by
 unfold strOfNums bs
 simp
theorem dig_pos {x:Int} (h0:0≤x):wrap64 (48+Int.tmod x 10) % 256=((48+x.toNat % 10:Nat):Int):=by
 rw[Int.tmod_eq_emod_of_nonneg h0,Zay (by omega) (by omega)];omega
theorem fmt_l0:∀(d:Nat) (x:Int) (s:List UInt8) (k:Nat),0≤x→x≤9223372036854775807→x<(10:Int) ^ (d+1)→s.length+d≤1000→d<k→ZQ.l0 k x (bs s)=some (bs (Lib.decDigits x.toNat ++ s))
 | d,x,s,k,h0,h63,hx,hs,hk=>by
  obtain⟨m,rfl⟩:∃m,k=m+1:=⟨k - 1,by omega⟩
  simp only[ZQ.l0]
  by_cases c:x > 9
  ·rw[if_pos c]
   cases d with
   | zero=>simp at hx;omega
   | succ d=>
    rw[dig_pos h0,Zi,Zev _ (by omega) (by omega),ZcG,ZcG,if_pos (by simp only[List.length_singleton];omega),Int.tdiv_eq_ediv_of_nonneg h0]
    have hx2:x / 10<(10:Int) ^ (d+1):=by
     rw[Int.pow_succ] at hx
     exact Int.ediv_lt_of_lt_mul (by omega) hx
    rw[Zay (by omega) (by omega),Zeo,fmt_l0 d (x / 10) _ m (by omega) (by omega) hx2 (by simp only[List.length_append,List.length_singleton];omega) (by omega)]
    have e:Lib.decDigits x.toNat=Lib.decDigits (x / 10).toNat ++ [UInt8.ofNat (48+x.toNat % 10)]:=by
     rw[Lib.decDigits,dif_neg (by omega),show x.toNat / 10=(x / 10).toNat by omega]
    rw[e,Int.toNat_natCast,List.append_assoc]
  ·rw[if_neg c]
   rw[Zay (by omega) (by omega),show(48+x) % 256=((48+x.toNat:Nat):Int) by omega,Zi,Zev _ (by omega) (by omega),ZcG,ZcG,if_pos (by simp only[List.length_singleton];omega),Zeo,Lib.decDigits,dif_pos (by omega),Int.toNat_natCast]
theorem fmt_neg:∀(d m k:Nat),1≤m→m≤9223372036854775808→m<10 ^ (d+1)→d<k→d≤900→ZQ.f k (-(m:Int))=some (bs (45 :: Lib.decDigits m))∧(Lib.decDigits m).length≤d+1
 | d,m,k,h1,h63,hm,hk,hd=>by
  obtain⟨k,rfl⟩:∃j,k=j+1:=⟨k - 1,by omega⟩
  have e1:Int.tdiv (-(m:Int)) 10 = -((m / 10:Nat):Int):=by rw[Int.neg_tdiv];rfl
  have e2:Int.tmod (-(m:Int)) 10 = -((m % 10:Nat):Int):=by rw[Int.neg_tmod];rfl
  simp only[ZQ.f]
  rw[if_pos (by omega),e1,e2,Zay (i:=-((m / 10:Nat):Int)) (by omega) (by omega)]
  by_cases c:m<10
  ·rw[if_pos (by omega),Zay (by omega) (by omega),show(48 - -(m:Int)) % 256=((48+m:Nat):Int) by omega,Zi,Zev _ (by omega) (by omega),ZcG,if_pos (by simp only[List.length_singleton];omega),Lib.decDigits,dif_pos c,Int.toNat_natCast]
   refine⟨?_,by simp only[List.length_singleton];omega⟩
   show some (bs [45] ++ _)=_
   rw[Zeo];rfl
  ·rw[if_neg (by omega)]
   cases d with
   | zero=>simp at hm;omega
   | succ d=>
    obtain⟨ih,il⟩:=fmt_neg d (m / 10) k (by omega) (by omega) (by rw[Nat.pow_succ] at hm;omega) (by omega) (by omega)
    rw[ih,Zi,Zay (by omega) (by omega),show(48 - -((m % 10:Nat):Int)) % 256=((48+m % 10:Nat):Int) by omega,Zi,Zev _ (by omega) (by omega),ZcG,ZcG,if_pos (by simp only[List.length_cons,List.length_nil];omega),Zeo,Int.toNat_natCast]
    have e:Lib.decDigits m=Lib.decDigits (m / 10) ++ [UInt8.ofNat (48+m % 10)]:=by rw[Lib.decDigits,dif_neg c]
    rw[e]
    exact⟨rfl,by simp only[List.length_append,List.length_singleton];omega⟩
theorem ZdS (n:Int) (h0 : -9223372036854775808≤n) (h1:n≤9223372036854775807) (k:Nat) (hk:2 ^ 64≤k):ZQ.f k n=some (bs (Lib.itoa n)):=by
 by_cases c:n<0
 ·have:=(fmt_neg 18 n.natAbs k (by omega) (by omega) (by omega) (by omega) (by omega)).1
  rw[show -((n.natAbs:Nat):Int)=n by omega] at this
  rw[this,Lib.itoa,if_pos c]
 ·obtain⟨m,rfl⟩:∃m,k=m+1:=⟨k - 1,by omega⟩
  simp only[ZQ.f]
  rw[if_neg c,Lib.itoa,if_neg c]
  have:=fmt_l0 18 n [] m (by omega) h1 (by omega) (by simp) (by omega)
  rw[List.append_nil] at this
  exact this
theorem ZgB {ns:List ZM} (ts:List PTie) (z:Int) (hn:ZV ns=true) (a b c d:Int) (f:Bool) (ha:0≤a∧a<ns.length) (hb:0≤b∧b<ns.length) (hc : -20≤c∧c≤20) (hd : -20≤d∧d≤20) (k:Nat) (hk:2 ^ 65≤k):Zcc.f k ns ts z a b c d f=some (bs (tieT ns ⟨a,b,c,d,f⟩)):=by
 have e1:=nm_len hn ha.1 ha.2
 have e2:=nm_len hn hb.1 hb.2
 have e3:=ZeA c (by omega) (by omega)
 have e4:=ZeA d (by omega) (by omega)
 unfold Zcc.f tieT
 rw[if_pos ⟨ha.1,ha.2,hb.1,hb.2⟩]
 simp only[nm_bs,ZdS c (by omega) (by omega) k (by omega),ZdS d (by omega) (by omega) k (by omega),Zi,show(⟨#[32]⟩:ByteArray)=bs [32] from rfl,show(⟨#[102,114,101,101,32]⟩:ByteArray)=bs [102,114,101,101,32] from rfl,show(⟨#[116,105,101,32]⟩:ByteArray)=bs [116,105,101,32] from rfl,ZcG]
 have e5:[102,114,101,101,32]=tieW true ++ [32]:=rfl
 have e6:[116,105,101,32]=tieW false ++ [32]:=rfl
 rw[if_pos (by omega)]
 cases f with
 | true=>simp only[if_true,Zeo,e5]
 | false=>simp only[Bool.false_eq_true,if_false,Zeo,e6]
section
variable {ns:List ZM} {ts:List PTie} {z:Int} {ln vs:List Int}
theorem addTB {S:List ByteArray} {x:ByteArray} (h:S.length<4294967296) (hx:x.size≤9223372036854775807):Zy.add S x=some (S ++ [x]):=if_pos ⟨h,hx⟩
theorem Zep (ns:List ZM) (vs:List Int) {n:Nat} {i:Int} (h0:0≤i) (h1:i<n):Zy.at_ (hbs ns vs n) i=some (hapB ns vs i):=by
 unfold Zy.at_
 rw[if_pos ⟨h0,by rw[Ze6];exact h1⟩,hbs_at ns vs h0 h1]
theorem hor_eq (ns:List ZM) (i:Nat):Zy.hor (ZI ns (i:Int)).f0=hor ns i:=rfl
theorem hor_size (hn:ZV ns=true) {i:Nat} (hi:i<ns.length):(hor ns i).size≤9223372036854775807:=by
 have:=(Zdk hn (show(0:Int)≤(i:Int) by omega) (by omega)).1
 unfold hor
 rw[ByteArray.size_append]
 show 8+_≤_
 omega
theorem rs_stE (hs:Zal ns ts z=true) (hc:Zbm ns ts) {k:Nat} (hk:2 ^ 64≤k) (i:Nat) (hi:i<ns.length) (j:Nat) (x:List ByteArray) (hj:j<(lbL ns i).length) (hx:x.length+(rE ns vs i j).length≤4194304):Zy.stE k ns ts z (hbs ns vs ns.length) i (lbL ns i) j x=some (x ++ rE ns vs i j):=by
 have hn:=ZaW hs
 have hN:=hc.1
 have hm:rd (lbL ns i) (j:Int)∈lbL ns i:=by rw[ZaO];exact ZaG hj 0
 have hlit:=Zd1 (lbL_ok hn hi) _ hm
 have hp:=Zde hlit
 have hw:=Zfo hs hi hm
 unfold Zy.stE
 rw[Zep ns vs (by omega) (by omega),Zi]
 unfold rE at hx ⊢
 generalize hapB ns vs (i:Int)=b at hx ⊢
 cases b with
 | false=>simp only[Bool.false_eq_true,if_false,List.append_nil]
 | true=>
  simp only[if_true] at hx ⊢
  have h1:=(Zdk hn (show(0:Int)≤(i:Int) by omega) (by omega)).1
  have h2:=(Zdk hn hw.1 hw.2).1
  rw[Zdf hlit,Zi,ZcW ns ts z _ (by omega) k hk,Zi,← ZdI ns (by omega),if_pos hw,addTB (by simp only[List.length_cons,List.length_nil] at hx;omega) (by unfold Zy.after;rw[ByteArray.size_append,ByteArray.size_append,ByteArray.size_append];show 6+_+1+_≤_;omega)]
  rfl
theorem rs_stD (hs:Zal ns ts z=true) (hc:Zbm ns ts) {k:Nat} (hk:2 ^ 64≤k) (i:Nat) (x:List ByteArray) (hi:i<ns.length) (hx:x.length+(rD ns vs i).length≤4194304):Zy.stD k ns ts z (hbs ns vs ns.length) i x=some (x ++ rD ns vs i):=by
 unfold Zy.stD
 unfold rD at hx ⊢
 show run (Zy.stE k ns ts z (hbs ns vs ns.length) i (lbL ns i)) (lbL ns i).length 0 x=_
 exact ZcI (n:=(lbL ns i).length) (B:=4194304) (fun j x hj h1=>rs_stE hs hc hk i hi j x hj h1) _ 0 x (by omega) hx
theorem rs_stC (hn:ZV ns=true) (i:Nat) (x:List ByteArray) (hi:i<ns.length) (hx:x.length+(rC ns vs (hor ns) i).length≤4194304):Zy.stC ns ts z (hbs ns vs ns.length) i x=some (x ++ rC ns vs (hor ns) i):=by
 unfold Zy.stC
 rw[Zep ns vs (by omega) (by omega),Zi]
 unfold rC at hx ⊢
 generalize hapB ns vs (i:Int)=b at hx ⊢
 cases b with
 | true=>simp only[if_true,List.append_nil]
 | false=>
  simp only[Bool.false_eq_true,if_false] at hx ⊢
  rw[hor_eq,addTB (by simp only[List.length_cons,List.length_nil] at hx;omega) (hor_size hn hi)]
theorem rs_stB (hs:Zal ns ts z=true) {k:Nat} (hk:2 ^ 65≤k) (i:Nat) (x:List ByteArray) (hi:i<ts.length) (hx:x.length+(rB ns ts vs i).length≤4194304):Zy.stB k ns ts z (hbs ns vs ns.length) i x=some (x ++ rB ns ts vs i):=by
 have hn:=ZaW hs
 have ht:=Zcx hs
 obtain⟨f,g,a,b⟩:=Zej ht (j:=(i:Int)) (by omega) (by omega)
 have hsz:=Zfq hn ht (j:=(i:Int)) (by omega) (by omega)
 unfold Zy.stB
 rw[Zep ns vs f.1 f.2,Zi]
 unfold rB tieH at hx ⊢
 cases h1:hapB ns vs (Zu ts (i:Int)).f0 with
 | false=>simp only[Bool.false_and,Bool.false_eq_true,if_false,List.append_nil]
 | true=>
  rw[if_pos rfl,Zep ns vs g.1 g.2,Zi]
  rw[h1,Bool.true_and] at hx
  rw[Bool.true_and]
  cases h2:hapB ns vs (Zu ts (i:Int)).f1 with
  | false=>simp only[Bool.false_eq_true,if_false,List.append_nil]
  | true=>
   rw[h2] at hx
   simp only[if_true] at hx ⊢
   rw[ZgB ts z hn _ _ _ _ _ f g a b k hk,Zi]
   show Zy.add x (bs (tieT ns (Zu ts (i:Int))))=_
   rw[addTB (by simp only[List.length_cons,List.length_nil] at hx;omega) (by rw[ZcG];omega)]
theorem rs_stA (hch:ZbW ns ts z ln vs=true) (hc:Zbm ns ts) (hlv:vs.length≤1048576) {k:Nat} (hk:2 ^ 67≤k):∀(d i:Nat) (x:List ByteArray),i+d=ns.length→x.length+(cat (rA ns vs) d i).length≤4194304→run (Zy.stA k ns ts z ln vs) d i (hbs ns vs i,x)=some (hbs ns vs ns.length,x ++ cat (rA ns vs) d i)
 | 0,i,x,hi,_=>by
  obtain rfl:i=ns.length:=by omega
  simp[run,cat]
 | d+1,i,x,hi,hx=>by
  have hN:=hc.1
  have hn:=ZaW (ZcQ hch).1
  rw[cat,List.length_append] at hx
  have hstep:Zy.stA k ns ts z ln vs i (hbs ns vs i,x)=some (hbs ns vs (i+1),x ++ rA ns vs i):=by
   have hin:Zcb (ns.length:Int) (i:Int)=true:=by unfold Zcb;rw[Ze (show(0:Int)≤(i:Int) by omega),Ze (show(i:Int)<(ns.length:Int) by omega)];rfl
   unfold Zy.stA
   rw[Zft ln vs (i:Int) hc hlv k hk,Zi]
   unfold Zfw
   rw[hch,hin,Bool.true_and,Bool.true_and,if_pos (by rw[Ze6];omega)]
   rw[← hbs_succ,Zep ns vs (by omega) (by omega),Zi]
   have h2:x.length+(rA ns vs i).length≤4194304:=by omega
   unfold rA at h2 ⊢
   generalize hapB ns vs (i:Int)=b at h2 ⊢
   cases b with
   | false=>simp only[Bool.false_eq_true,if_false,List.append_nil]
   | true=>
    simp only[if_true] at h2 ⊢
    rw[hor_eq,addTB (by simp only[List.length_cons,List.length_nil] at h2;omega) (hor_size hn (by omega))]
    rfl
  rw[run,hstep,Zi,rs_stA hch hc hlv hk d (i+1) _ (by omega) (by rw[List.length_append];omega),cat,List.append_assoc]
theorem Zfc (hch:ZbW ns ts z ln vs=true) (hc:Zbm ns ts) (hlv:vs.length≤1048576) (k:Nat) (hk:2 ^ 67≤k):Zy.f k ns ts z ln vs=some (Zc0 ns ts vs (hor ns)):=by
 have hs:=(ZcQ hch).1
 have hn:=ZaW hs
 have n7:=Zdv hn
 have t14:=ZdF (Zcx hs)
 have a1:=Zbs (m:=1) (g:=rA ns vs) ns.length 0 (fun j _ _=>rA_len ns vs j)
 have b1:=Zbs (m:=1) (g:=rB ns ts vs) ts.length 0 (fun j _ _=>rB_len ns ts vs j)
 have c1:=Zbs (m:=1) (g:=rC ns vs (hor ns)) ns.length 0 (fun j _ _=>rC_len ns vs _ j)
 have d1:=Zbs (m:=3) (g:=rD ns vs) ns.length 0 (fun j _ h=>rD_len hn vs (by omega))
 have hA:=rs_stA hch hc hlv hk ns.length 0 [] (by omega) (by simp only[List.length_nil];omega)
 rw[List.nil_append] at hA
 unfold Zy.f
 rw[show(([],[]):List Bool×List ByteArray)=(hbs ns vs 0,[]) from rfl,hA,Zi]
 unfold Zy.f1
 rw[ZcI (g:=rB ns ts vs) (n:=ts.length) (B:=4194304) (fun i x hi h1=>rs_stB hs (by omega) i x hi h1) _ 0 _ (by omega) (by dsimp only;omega),Zi]
 unfold Zy.f2
 rw[ZcI (g:=rC ns vs (hor ns)) (n:=ns.length) (B:=4194304) (fun i x hi h1=>rs_stC hn i x hi h1) _ 0 _ (by omega) (by simp only[List.length_append];omega),Zi]
 unfold Zy.f3
 rw[ZcI (g:=rD ns vs) (n:=ns.length) (B:=4194304) (fun i x hi h1=>rs_stD hs hc (by omega) i x hi h1) _ 0 _ (by omega) (by simp only[List.length_append];omega),Zi]
 rfl
end
theorem turnB_le (E:List Zac) (l:List Int) (a N:Nat):ZdJ E l a N≤N:=by
 unfold ZdJ
 cases h:(List.range N).find? (fun i=>bit E l (i+1) a == a) with
 | none=>exact Nat.zero_le _
 | some i=>
  have:=List.mem_range.1 (List.mem_of_find?_eq_some h)
  show i+1≤N
  omega
theorem ncB_len (N:Nat) (E:List Zac):(ncB N E).length≤N:=by
 unfold ncB
 dsimp only
 split
 ·exact Nat.zero_le _
 ·rw[List.length_reverse,Zd5];exact turnB_le _ _ _ _
theorem ncF_in {n:Int} {E:List Zac}:(ncF n E).length≤8∧∀c∈ncF n E,0≤c∧c<E.length:=by
 unfold ncF
 split
 case isFalse=>exact⟨by simp,fun c h=>absurd h (by simp)⟩
 rename_i hg
 have hin:=Zed hg
 have hl:=ncB_len n.toNat E
 refine⟨by omega,fun c hc=>?_⟩
 by_cases h0:n.toNat=0
 ·rw[h0] at hc hl
  rw[List.eq_nil_of_length_eq_zero (show(ncB 0 E).length=0 by omega)] at hc
  exact absurd hc (by simp)
 obtain⟨h1,e,he,_⟩:=nc_avoid (I:=fun _=>False) ⟨fun h=>h,fun e _=>⟨fun h=>h.elim,fun h=>h.elim⟩⟩ (fun e he=>by have:=hin.2.2.2 e he;omega) (by omega) hc
 have:=(List.getElem?_eq_some_iff.1 he).1
 omega
theorem Zex:∀(L:List PLk) (i:Nat),(ZbH i L).length=(Zba L).length
 | [],_=>rfl
 | x :: t,i=>by
  have h:(Zc9 i x).length=(ZcM x).length:=by unfold Zc9 ZcM;split <;> split <;> rfl
  rw[ZbH,Zba,List.length_append,List.length_append,h,Zex t]
def Zdy (n:Int) (L:List PLk):List Int:=if ZaI n L=true then(ncF n (Zba L)).map (fun c=>(ZbH 0 L).getD c.toNat 0) else[]
theorem Ze2 (n:Int) (L:List PLk):(Zdy n L).length≤8:=by
 unfold Zdy
 split
 ·rw[List.length_map];exact ncF_in.1
 ·simp
theorem Zff (n:Int) (L:List PLk) (k:Nat) (_hk:2 ^ 64≤k):ZbJ.f k n L=some (Zdy n L):=by
 unfold ZbJ.f Zdy Za7.f
 rw[Zi]
 by_cases h:ZaI n L=true
 ·rw[if_pos h,if_pos h,Z0.f,if_pos (show L.length≤1048576 by have:=Zer h;omega),Zi,Zao.f,Zi]
  show gath 0 (ZbH 0 L) (ncF n (Zba L))=_
  exact Ze7 0 (by have:=(ncF_in (n:=n) (E:=Zba L)).1;omega) (fun c hc=>by rw[Zex];exact ncF_in.2 c hc)
 ·rw[if_neg h,if_neg h]
theorem Zfd (n:Int) (L:List PLk) (k:Nat) (hk:2 ^ 66≤k):ZbF.f k n L=some (Zdy n L):=by
 unfold ZbF.f Zdy
 rw[Zdj n L k hk,Zi]
 by_cases h:ZaI n L=true
 ·rw[if_pos h,if_pos h,Zbo.f,if_pos (show L.length≤1048576 by have:=Zer h;omega),Zi,Zf0 n L k hk,Zi,gofB,if_pos h,ZaR.f,Zi]
  show gath 0 (ZbH 0 L) (ncF n (Zba L))=_
  exact Ze7 0 (by have:=(ncF_in (n:=n) (E:=Zba L)).1;omega) (fun c hc=>by rw[Zex];exact ncF_in.2 c hc)
 ·rw[if_neg h,if_neg h]
section
variable {ns:List ZM} {ts:List PTie} {z:Int} {ln vs:List Int}
def explR (ns:List ZM) (ts:List PTie) (z:Int) (ln vs:List Int) (t:Nat→ByteArray):List ByteArray:=(Zdy (ns.length:Int) (Zb3 ns ts z ln vs)).map fun k=>(Zc0 ns ts vs t).getD k.toNat ByteArray.empty
def explB (ns:List ZM) (ts:List PTie) (z:Int) (ln vs:List Int):List ByteArray:=if ZbW ns ts z ln vs=true then explR ns ts z ln vs (hor ns) else[]
theorem explB_len (ns:List ZM) (ts:List PTie) (z:Int) (ln vs:List Int):(explB ns ts z ln vs).length≤1048576:=by
 unfold explB explR
 split
 ·rw[List.length_map];have:=Ze2 (ns.length:Int) (Zb3 ns ts z ln vs);omega
 ·simp
theorem conf_in (hs:Zal ns ts z=true) (t u:Nat→ByteArray):∀k∈Zdy (ns.length:Int) (Zb3 ns ts z ln vs),(0≤k∧k<(Zc0 ns ts vs t).length)∧(Zc0 ns ts vs t).getD k.toNat ByteArray.empty=(Zc0 ns ts vs u).getD k.toNat ByteArray.empty:=by
 intro k hk
 unfold Zdy at hk
 split at hk
 case isFalse=>exact absurd hk (by simp)
 obtain⟨c,hc,rfl⟩:=List.mem_map.1 hk
 obtain⟨_,m,hm,hl,he⟩:=conf_same hs t u hc
 have e:(ZbH 0 (Zb3 ns ts z ln vs)).getD c.toNat 0=(m:Int):=by rw[List.getD_eq_getElem?_getD,hm];rfl
 rw[e,Int.toNat_natCast,projR_len (z:=z) (ln:=ln) t]
 exact⟨by omega,by rw[List.getD_eq_getElem?_getD,List.getD_eq_getElem?_getD,he]⟩
theorem explR_same (hs:Zal ns ts z=true) (t u:Nat→ByteArray):explR ns ts z ln vs t=explR ns ts z ln vs u:=List.map_congr_left fun k hk=>(conf_in hs t u k hk).2
theorem ZeD (hc:Zbm ns ts) (hlv:vs.length≤1048576) (k:Nat) (hk:2 ^ 67≤k):Zap.f k ns ts z ln vs=some (explB ns ts z ln vs):=by
 unfold Zap.f explB
 rw[ZfN ln vs hc hlv k (by omega),Zi]
 by_cases h:ZbW ns ts z ln vs=true
 ·obtain⟨hs,hch⟩:=ZcQ h
  rw[if_pos h,if_pos h,Zf8 hc hs hch k (by omega),Zi]
  dsimp only
  rw[Zff _ _ k (by omega),Zi,Ze7 ByteArray.empty (by have:=Ze2 (ns.length:Int) (Zb3 ns ts z ln vs);omega) (fun x hx=>(conf_in hs (fun _=>⟨#[]⟩) (fun _=>⟨#[]⟩) x hx).1)]
  exact congrArg some (explR_same hs (fun _=>⟨#[]⟩) (hor ns))
 ·rw[if_neg h,if_neg h]
theorem Zeq (hc:Zbm ns ts) (hlv:vs.length≤1048576) (k:Nat) (hk:2 ^ 67≤k):ZaX.f k ns ts z ln vs=some (explB ns ts z ln vs):=by
 unfold ZaX.f explB
 rw[ZeT hc hlv k hk,Zi]
 unfold projB
 by_cases h:ZbW ns ts z ln vs=true
 ·obtain⟨hs,hch⟩:=ZcQ h
  rw[if_pos h,if_pos h]
  unfold fin2
  by_cases hp:ZaI (ns.length:Int) (Zb3 ns ts z ln vs)=true
  ·rw[if_pos hp,if_pos rfl,Zfc h hc hlv k hk,Zi,Zfd _ _ k (by omega),Zi,Ze7 ByteArray.empty (by have:=Ze2 (ns.length:Int) (Zb3 ns ts z ln vs);omega) (fun x hx=>(conf_in hs (hor ns) (hor ns) x hx).1)]
   rfl
  ·rw[if_neg hp,if_neg (by simp)]
   unfold explR Zdy
   rw[if_neg hp];rfl
 ·rw[if_neg h,if_neg h,if_neg (by simp)]
end
end Go.Proofs.YtoeimopgoaffcaaGreatDoor.Pr
