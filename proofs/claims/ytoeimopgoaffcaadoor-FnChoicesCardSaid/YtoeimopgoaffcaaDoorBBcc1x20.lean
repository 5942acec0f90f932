/- By a program of this session. -/
import Derived.WalkSpells
import Derived.Lib.ItoaNum
import Derived.Lib.Join
import Derived.Test.YtoeimopgoaffcaaDoorBBcc1x10
import Derived.Test.YtoeimopgoaffcaaDoorBBcc1x17
import Derived.Test.YtoeimopgoaffcaaDoorBBcc1x19
set_option maxHeartbeats 8000000
set_option maxRecDepth 100000
namespace Go.Proofs.YtoeimopgoaffcaaDoor.Pr
open RowKit YtoeimopgoaffcaaDoorW.PrintWords YtoeimopgoaffcaaDoorW.PrintLast YtoeimopgoaffcaaDoorW.PrintMore
attribute [local go_sem] Zat Zar ZaG ZaF Zal Zak Zas Zaq
set_option linter.unusedVariables false
set_option linter.unusedSimpArgs false
def ZbJ.f (k:Nat) (a0_0:Int) (l0_1:List (S113)):Option (Int×(List (S121))):=(Zau.f a0_0 l0_1).bind fun t3=>(if t3=true then((ZZ.f k a0_0 l0_1).bind fun bt4=>(some (bt4.1,bt4.2.1))) else(some (0,([]:List (S121)))))
theorem ZbJ.calls (k:Nat) (a0_0:Int) (A0_1:Option Addr) (c0_1:Nat) (l0_1:List (S113)) (r1:Int) (r2:List (S121)) (w:World) (hr0_1:Kd.C k113 w A0_1 l0_1.length l0_1) (hc0_1:l0_1.length≤c0_1) (h:ZbJ.f k a0_0 l0_1=some (r1,r2)) :
  Calls Tryd.prog 58 #[.agg #[.int .i64 a0_0,.slice A0_1 l0_1.length c0_1]] w fun e w'=>∃v1_:Value,e=.returned (.agg #[.int .i64 r1,v1_])∧Kd.R k121 121 w' w.heap.size (fun _=>True) v1_ r2∧Below w.heap.size w w':=by
 have hu50:=Tryd.underlying50
 have hu91:=Tryd.underlying91
 have HR0_1:=Za hr0_1;have HC0_1:=Za hc0_1;clear hr0_1 hc0_1
 have HB:=Za (Below.refl w.heap.size w)
 have H:((Zau.f a0_0 l0_1).bind fun t3=>(if t3=true then((ZZ.f k a0_0 l0_1).bind fun bt4=>(some (bt4.1,bt4.2.1))) else(some (0,([]:List (S121))))))=some (r1,r2):=h
 clear h
 replace H:=Zh H
 obtain⟨t3,A20,H⟩:=H
 replace H:(if t3=true then((ZZ.f k a0_0 l0_1).bind fun bt4=>(some (bt4.1,bt4.2.1))) else(some (0,([]:List (S121)))))=some (r1,r2):=H
 have A2:=Za A20;clear A20
 by_cases c3:t3=true
 ·subst c3
  have H1:((ZZ.f k a0_0 l0_1).bind fun bt4=>(some (bt4.1,bt4.2.1)))=some (r1,r2):=by rw[if_pos rfl] at H;exact H
  clear H
  have H:=H1
  clear H1
  replace H:=Zh H
  obtain⟨⟨t4,t5,t8⟩,A40,H⟩:=H
  replace H:(some (t4,t5))=some (r1,r2):=H
  have A4:=Za A40;clear A40
  simp only[Option.some.injEq,Prod.mk.injEq] at H
  obtain⟨rfl,rfl⟩:=H
  go_enter Tryd.func58,Tryd.ntmps58
  go_wp2_with (first|((with_reducible refine ZK (N:=1) rfl ?_);refine ZN ?hg (N:=1) ?hd (cs:=#[.int .i64 a0_0,.slice A0_1 l0_1.length c0_1]) (t:=50) ?hr ?_;(case hd=>rfl);(case hg=>rfl);(case hr=>first|(go_simp;done)|(go_simp;rfl));intro gb1 hg w5 hbox hb;have BK1:=Za (hbox);have GW1:=Za ((by rw[hg];exact(ZA (by repeat(first|(with_reducible first|exact HB.out|apply Zn|apply Zm|apply Zp)|exact HB.out))):w.heap.size≤gb1));have GE1:=Za ((by rw[hg];exact(ZA (by repeat(first|(with_reducible first|exact HB.out|apply Zn|apply Zm|apply Zp)|exact HB.out))):w.heap.size≤gb1));replace HB:=Za (Zx (by repeat(first|(with_reducible first|exact HB.out|apply Zn|apply Zm|apply Zp)|exact HB.out)) hb);clear hb hbox hg)|((with_reducible refine ZK (N:=2) rfl ?_);refine ZN ?hg (N:=2) ?hd (cs:=#[.int .i64 0,.slice none 0 0]) (t:=91) ?hr ?_;(case hd=>rfl);(case hg=>rfl);(case hr=>first|(go_simp;done)|(go_simp;rfl));intro gb2 hg w6 hbox hb;have BK2:=Za (hbox);have GW2:=Za ((by rw[hg];exact(ZA (by repeat(first|(with_reducible first|exact HB.out|apply Zn|apply Zm|apply Zp|refine Zq ?_ GE1.out)|exact HB.out))):w.heap.size≤gb2));have GE2:=Za ((by rw[hg];exact(ZA (by repeat(first|(with_reducible first|exact HB.out|apply Zn|apply Zm|apply Zp|refine Zq ?_ GE1.out)|exact HB.out))):w.heap.size≤gb2));have NB1_2:=Za ((by rw[hg];exact Nat.ne_of_lt (ZR (g:=gb1) (o:=.cells #[.int .i64 a0_0,.slice A0_1 l0_1.length c0_1] 50 (0,0)) (by(with_reducible repeat(first|refine Zs ?_ _|refine Zt ?_|refine Zr ?_ _));exact BK1.out)):gb1≠gb2));have NB2_1:=Za ((by rw[hg];exact Nat.ne_of_gt (ZR (g:=gb1) (o:=.cells #[.int .i64 a0_0,.slice A0_1 l0_1.length c0_1] 50 (0,0)) (by(with_reducible repeat(first|refine Zs ?_ _|refine Zt ?_|refine Zr ?_ _));exact BK1.out)):gb2≠gb1));replace BK1:=Za (Zw (g:=gb1) (o:=.cells #[.int .i64 a0_0,.slice A0_1 l0_1.length c0_1] 50 (0,0)) (by(with_reducible repeat(first|refine Zs ?_ _|refine Zt ?_|refine Zr ?_ _));exact BK1.out) hb);replace HB:=Za (Zx (by repeat(first|(with_reducible first|exact HB.out|apply Zn|apply Zm|apply Zp|refine Zq ?_ GE1.out)|exact HB.out)) hb);clear hb hbox hg;have hnb7:=NB1_2.out;have hnc7:=NB2_1.out;have hcz8_0:w6.cell? ⟨gb1,0,none⟩=some (.int .i64 a0_0):=(Zo BK1.out 0).trans rfl;have hcz8_1:w6.cell? ⟨gb1,1,none⟩=some (.slice A0_1 l0_1.length c0_1):=(Zo BK1.out 1).trans rfl;have hfz8_0:=Zu BK1.out 0;have hfz8_1:=Zu BK1.out 1)|((with_reducible refine ZU (f:=54) rfl ?_);refine Zaj (some 6) rfl rfl Tryd.func54 (by kernel_rfl) rfl #[.agg #[.int .i64 a0_0,.slice A0_1 l0_1.length c0_1]] rfl (by(try simp only[List.map_toArray,List.map_cons,List.map_nil]);first|done|rfl|(simp only[Zk,Zj];rfl)) ?_;(with_reducible refine(Zau.calls a0_0 _ _ l0_1 true _ ?side1 ?side2 A2.out).mono ?_);(case side1=>repeat(first|exact(Zb HR0_1.out HB.out)|(with_reducible refine Kd.C_alloc ?_ _)|(with_reducible refine Kd.C_drewN ?_ _)|(with_reducible refine Kd.C_drew ?_)));(case side2=>exact HC0_1.out);rintro e w9 ⟨rfl,hb⟩;refine⟨_,rfl,?_⟩;replace BK1:=Za (Zw (g:=gb1) (o:=.cells #[.int .i64 a0_0,.slice A0_1 l0_1.length c0_1] 50 (0,0)) (by(with_reducible repeat(first|refine Zs ?_ _|refine Zt ?_|refine Zr ?_ _));exact BK1.out) hb);replace BK2:=Za (Zw (g:=gb2) (o:=.cells #[.int .i64 0,.slice none 0 0] 91 (0,0)) (by(with_reducible repeat(first|refine Zs ?_ _|refine Zt ?_|refine Zr ?_ _));exact BK2.out) hb);replace HB:=Za (Zx (by repeat(first|(with_reducible first|exact HB.out|apply Zn|apply Zm|apply Zp|refine Zq ?_ GE1.out|refine Zq ?_ GE2.out)|exact HB.out)) hb);(try clear hb);(try clear hb2);(try clear hk);(try clear hi);have hcz10_0:w9.cell? ⟨gb1,0,none⟩=some (.int .i64 a0_0):=(Zo BK1.out 0).trans rfl;have hcz10_1:w9.cell? ⟨gb1,1,none⟩=some (.slice A0_1 l0_1.length c0_1):=(Zo BK1.out 1).trans rfl;have hfz10_0:=Zu BK1.out 0;have hfz10_1:=Zu BK1.out 1)|((with_reducible refine ZU (f:=87) rfl ?_);refine Zaj (some 11) rfl rfl Tryd.func87 (by kernel_rfl) rfl #[.agg #[.int .i64 a0_0,.slice A0_1 l0_1.length c0_1]] rfl (by(try simp only[List.map_toArray,List.map_cons,List.map_nil]);first|done|rfl|(simp only[Zk,Zj];rfl)) ?_;(with_reducible refine(ZZ.calls k a0_0 _ _ l0_1 t4 t5 t8 _ ?side1 ?side2 A4.out).mono ?_);(case side1=>repeat(first|exact(Zb HR0_1.out HB.out)|(with_reducible refine Kd.C_alloc ?_ _)|(with_reducible refine Kd.C_drewN ?_ _)|(with_reducible refine Kd.C_drew ?_)));(case side2=>exact HC0_1.out);rintro e w11 ⟨v6,v9,rfl,ho0,ho1,hb⟩;refine⟨_,rfl,?_⟩;have HO7:=Za (Kd.R_lower ho0 (ZA (by repeat(first|(with_reducible first|exact HB.out|apply Zn|apply Zm|apply Zp|refine Zq ?_ GE1.out|refine Zq ?_ GE2.out)|exact HB.out))));have HO10:=Za (Kd.R_lower ho1 (ZA (by repeat(first|(with_reducible first|exact HB.out|apply Zn|apply Zm|apply Zp|refine Zq ?_ GE1.out|refine Zq ?_ GE2.out)|exact HB.out))));replace BK1:=Za (Zw (g:=gb1) (o:=.cells #[.int .i64 a0_0,.slice A0_1 l0_1.length c0_1] 50 (0,0)) (by(with_reducible repeat(first|refine Zs ?_ _|refine Zt ?_|refine Zr ?_ _));exact BK1.out) hb);replace BK2:=Za (Zw (g:=gb2) (o:=.cells #[.int .i64 0,.slice none 0 0] 91 (0,0)) (by(with_reducible repeat(first|refine Zs ?_ _|refine Zt ?_|refine Zr ?_ _));exact BK2.out) hb);replace HB:=Za (Zx (by repeat(first|(with_reducible first|exact HB.out|apply Zn|apply Zm|apply Zp|refine Zq ?_ GE1.out|refine Zq ?_ GE2.out)|exact HB.out)) hb);(try clear hb);(try clear hb2);(try clear hk);(try clear hi);(try clear ho0);(try clear ho1))|((with_reducible refine ZK (N:=3) rfl ?_);refine ZN ?hg (N:=3) ?hd (cs:=#[.int .i64 0,.slice none 0 0]) (t:=91) ?hr ?_;(case hd=>rfl);(case hg=>rfl);(case hr=>first|(go_simp;done)|(go_simp;rfl));intro gb11 hg w12 hbox hb;have BK11:=Za (hbox);have GW11:=Za ((by rw[hg];exact(ZA (by repeat(first|(with_reducible first|exact HB.out|apply Zn|apply Zm|apply Zp|refine Zq ?_ GE1.out|refine Zq ?_ GE2.out)|exact HB.out))):w.heap.size≤gb11));have GE11:=Za ((by rw[hg];exact(ZA (by repeat(first|(with_reducible first|exact HB.out|apply Zn|apply Zm|apply Zp|refine Zq ?_ GE1.out|refine Zq ?_ GE2.out)|exact HB.out))):w.heap.size≤gb11));have NB1_11:=Za ((by rw[hg];exact Nat.ne_of_lt (ZR (g:=gb1) (o:=.cells #[.int .i64 a0_0,.slice A0_1 l0_1.length c0_1] 50 (0,0)) (by(with_reducible repeat(first|refine Zs ?_ _|refine Zt ?_|refine Zr ?_ _));exact BK1.out)):gb1≠gb11));have NB11_1:=Za ((by rw[hg];exact Nat.ne_of_gt (ZR (g:=gb1) (o:=.cells #[.int .i64 a0_0,.slice A0_1 l0_1.length c0_1] 50 (0,0)) (by(with_reducible repeat(first|refine Zs ?_ _|refine Zt ?_|refine Zr ?_ _));exact BK1.out)):gb11≠gb1));have NB2_11:=Za ((by rw[hg];exact Nat.ne_of_lt (ZR (g:=gb2) (o:=.cells #[.int .i64 0,.slice none 0 0] 91 (0,0)) (by(with_reducible repeat(first|refine Zs ?_ _|refine Zt ?_|refine Zr ?_ _));exact BK2.out)):gb2≠gb11));have NB11_2:=Za ((by rw[hg];exact Nat.ne_of_gt (ZR (g:=gb2) (o:=.cells #[.int .i64 0,.slice none 0 0] 91 (0,0)) (by(with_reducible repeat(first|refine Zs ?_ _|refine Zt ?_|refine Zr ?_ _));exact BK2.out)):gb11≠gb2));replace HO7:=Za (Kd.R_below (by(with_reducible repeat(first|apply Kd.R_alloc|apply Kd.R_drewN|apply Kd.R_drew));exact HO7.out) hb);replace HO10:=Za (Kd.R_below (by(with_reducible repeat(first|apply Kd.R_alloc|apply Kd.R_drewN|apply Kd.R_drew));exact HO10.out) hb);replace BK1:=Za (Zw (g:=gb1) (o:=.cells #[.int .i64 a0_0,.slice A0_1 l0_1.length c0_1] 50 (0,0)) (by(with_reducible repeat(first|refine Zs ?_ _|refine Zt ?_|refine Zr ?_ _));exact BK1.out) hb);replace BK2:=Za (Zw (g:=gb2) (o:=.cells #[.int .i64 0,.slice none 0 0] 91 (0,0)) (by(with_reducible repeat(first|refine Zs ?_ _|refine Zt ?_|refine Zr ?_ _));exact BK2.out) hb);replace HB:=Za (Zx (by repeat(first|(with_reducible first|exact HB.out|apply Zn|apply Zm|apply Zp|refine Zq ?_ GE1.out|refine Zq ?_ GE2.out)|exact HB.out)) hb);clear hb hbox hg;have hnb13:=NB11_1.out;have hnc13:=NB1_11.out;have hnb14:=NB11_2.out;have hnc14:=NB2_11.out;have hcz15_0:w12.cell? ⟨gb11,0,none⟩=some (.int .i64 0):=(Zo BK11.out 0).trans rfl;have hcz15_1:w12.cell? ⟨gb11,1,none⟩=some (.slice none 0 0):=(Zo BK11.out 1).trans rfl;have hfz15_0:=Zu BK11.out 0;have hfz15_1:=Zu BK11.out 1;obtain⟨Ao16,co16,eo16⟩:=Kd.R_slice HO7.out;subst eo16;have hcz17_0:w12.cell? ⟨gb2,0,none⟩=some (.int .i64 0):=(Zo BK2.out 0).trans rfl;have hcz17_1:w12.cell? ⟨gb2,1,none⟩=some (.slice none 0 0):=(Zo BK2.out 1).trans rfl;have hfz17_0:=Zu BK2.out 0;have hfz17_1:=Zu BK2.out 1))
  refine bodyPost_ret (results_cell_row rfl _ _ gb2 91 #[.int .i64 t4,.slice Ao16 t5.length co16] (0,0) _ rfl (by(with_reducible repeat(first|refine Zs ?_ _|refine Zt ?_|refine Zr ?_ _));refine ZO (cs:=#[.int .i64 t4,.slice none 0 0]) ?_ 1 _ rfl;(with_reducible repeat(first|refine Zs ?_ _|refine Zt ?_|refine Zr ?_ _));refine ZO (cs:=#[.int .i64 0,.slice none 0 0]) ?_ 0 _ rfl;(with_reducible repeat(first|refine Zs ?_ _|refine Zt ?_|refine Zr ?_ _));refine ZF ?_ NB2_11.out _;(with_reducible repeat(first|refine Zs ?_ _|refine Zt ?_|refine Zr ?_ _));refine ZF ?_ NB2_11.out _;(with_reducible repeat(first|refine Zs ?_ _|refine Zt ?_|refine Zr ?_ _));exact BK2.out) Tryd.underlying91 rfl (by kernel_rfl)) rfl ?_
  exact⟨_,by first|rfl|(simp[ZD,ZC] <;> rfl)|(simp[*,ZD,ZC] <;> rfl),by(with_reducible repeat(first|apply Kd.R_alloc|apply Kd.R_drewN|apply Kd.R_drew));exact Kd.R_mono (Kd.R_far (p:=⟨gb2,1,none⟩) (Kd.R_far (p:=⟨gb2,0,none⟩) (Kd.R_far (p:=⟨gb11,1,none⟩) (Kd.R_far (p:=⟨gb11,0,none⟩) (Kd.R_types (Kd.R_types HO7.out BK11.out (by decide)) BK2.out (by decide)) (fun _ hk=>hk.1.2) (.int .i64 t4)) (fun _ hk=>hk.1.2) (.slice Ao16 t5.length co16)) (fun _ hk=>hk.2) (.int .i64 t4)) (fun _ hk=>hk.2) (.slice Ao16 t5.length co16)) (fun _ hk=>trivial),by repeat(first|(with_reducible first|exact HB.out|apply Zn|apply Zm|apply Zp|refine Zq ?_ GE1.out|refine Zq ?_ GE2.out|refine Zq ?_ GE11.out)|exact HB.out)⟩
 ·replace c3:=Bool.eq_false_iff.mpr c3
  subst c3
  have H1:(some (0,([]:List (S121))))=some (r1,r2):=by rw[if_neg (show ¬(false=true) by decide)] at H;exact H
  clear H
  have H:=H1
  clear H1
  simp only[Option.some.injEq,Prod.mk.injEq] at H
  obtain⟨rfl,rfl⟩:=H
  go_enter Tryd.func58,Tryd.ntmps58
  go_wp2_with (first|((with_reducible refine ZK (N:=1) rfl ?_);refine ZN ?hg (N:=1) ?hd (cs:=#[.int .i64 a0_0,.slice A0_1 l0_1.length c0_1]) (t:=50) ?hr ?_;(case hd=>rfl);(case hg=>rfl);(case hr=>first|(go_simp;done)|(go_simp;rfl));intro gb1 hg w18 hbox hb;have BK1:=Za (hbox);have GW1:=Za ((by rw[hg];exact(ZA (by repeat(first|(with_reducible first|exact HB.out|apply Zn|apply Zm|apply Zp)|exact HB.out))):w.heap.size≤gb1));have GE1:=Za ((by rw[hg];exact(ZA (by repeat(first|(with_reducible first|exact HB.out|apply Zn|apply Zm|apply Zp)|exact HB.out))):w.heap.size≤gb1));replace HB:=Za (Zx (by repeat(first|(with_reducible first|exact HB.out|apply Zn|apply Zm|apply Zp)|exact HB.out)) hb);clear hb hbox hg)|((with_reducible refine ZK (N:=2) rfl ?_);refine ZN ?hg (N:=2) ?hd (cs:=#[.int .i64 0,.slice none 0 0]) (t:=91) ?hr ?_;(case hd=>rfl);(case hg=>rfl);(case hr=>first|(go_simp;done)|(go_simp;rfl));intro gb2 hg w19 hbox hb;have BK2:=Za (hbox);have GW2:=Za ((by rw[hg];exact(ZA (by repeat(first|(with_reducible first|exact HB.out|apply Zn|apply Zm|apply Zp|refine Zq ?_ GE1.out)|exact HB.out))):w.heap.size≤gb2));have GE2:=Za ((by rw[hg];exact(ZA (by repeat(first|(with_reducible first|exact HB.out|apply Zn|apply Zm|apply Zp|refine Zq ?_ GE1.out)|exact HB.out))):w.heap.size≤gb2));have NB1_2:=Za ((by rw[hg];exact Nat.ne_of_lt (ZR (g:=gb1) (o:=.cells #[.int .i64 a0_0,.slice A0_1 l0_1.length c0_1] 50 (0,0)) (by(with_reducible repeat(first|refine Zs ?_ _|refine Zt ?_|refine Zr ?_ _));exact BK1.out)):gb1≠gb2));have NB2_1:=Za ((by rw[hg];exact Nat.ne_of_gt (ZR (g:=gb1) (o:=.cells #[.int .i64 a0_0,.slice A0_1 l0_1.length c0_1] 50 (0,0)) (by(with_reducible repeat(first|refine Zs ?_ _|refine Zt ?_|refine Zr ?_ _));exact BK1.out)):gb2≠gb1));replace BK1:=Za (Zw (g:=gb1) (o:=.cells #[.int .i64 a0_0,.slice A0_1 l0_1.length c0_1] 50 (0,0)) (by(with_reducible repeat(first|refine Zs ?_ _|refine Zt ?_|refine Zr ?_ _));exact BK1.out) hb);replace HB:=Za (Zx (by repeat(first|(with_reducible first|exact HB.out|apply Zn|apply Zm|apply Zp|refine Zq ?_ GE1.out)|exact HB.out)) hb);clear hb hbox hg;have hnb20:=NB1_2.out;have hnc20:=NB2_1.out;have hcz21_0:w19.cell? ⟨gb1,0,none⟩=some (.int .i64 a0_0):=(Zo BK1.out 0).trans rfl;have hcz21_1:w19.cell? ⟨gb1,1,none⟩=some (.slice A0_1 l0_1.length c0_1):=(Zo BK1.out 1).trans rfl;have hfz21_0:=Zu BK1.out 0;have hfz21_1:=Zu BK1.out 1)|((with_reducible refine ZU (f:=54) rfl ?_);refine Zaj (some 6) rfl rfl Tryd.func54 (by kernel_rfl) rfl #[.agg #[.int .i64 a0_0,.slice A0_1 l0_1.length c0_1]] rfl (by(try simp only[List.map_toArray,List.map_cons,List.map_nil]);first|done|rfl|(simp only[Zk,Zj];rfl)) ?_;(with_reducible refine(Zau.calls a0_0 _ _ l0_1 false _ ?side1 ?side2 A2.out).mono ?_);(case side1=>repeat(first|exact(Zb HR0_1.out HB.out)|(with_reducible refine Kd.C_alloc ?_ _)|(with_reducible refine Kd.C_drewN ?_ _)|(with_reducible refine Kd.C_drew ?_)));(case side2=>exact HC0_1.out);rintro e w22 ⟨rfl,hb⟩;refine⟨_,rfl,?_⟩;replace BK1:=Za (Zw (g:=gb1) (o:=.cells #[.int .i64 a0_0,.slice A0_1 l0_1.length c0_1] 50 (0,0)) (by(with_reducible repeat(first|refine Zs ?_ _|refine Zt ?_|refine Zr ?_ _));exact BK1.out) hb);replace BK2:=Za (Zw (g:=gb2) (o:=.cells #[.int .i64 0,.slice none 0 0] 91 (0,0)) (by(with_reducible repeat(first|refine Zs ?_ _|refine Zt ?_|refine Zr ?_ _));exact BK2.out) hb);replace HB:=Za (Zx (by repeat(first|(with_reducible first|exact HB.out|apply Zn|apply Zm|apply Zp|refine Zq ?_ GE1.out|refine Zq ?_ GE2.out)|exact HB.out)) hb);(try clear hb);(try clear hb2);(try clear hk);(try clear hi);have hcz23_0:w22.cell? ⟨gb2,0,none⟩=some (.int .i64 0):=(Zo BK2.out 0).trans rfl;have hcz23_1:w22.cell? ⟨gb2,1,none⟩=some (.slice none 0 0):=(Zo BK2.out 1).trans rfl;have hfz23_0:=Zu BK2.out 0;have hfz23_1:=Zu BK2.out 1))
  refine bodyPost_ret (results_cell_row rfl _ _ gb2 91 #[.int .i64 0,.slice none 0 0] (0,0) _ rfl (by(with_reducible repeat(first|refine Zs ?_ _|refine Zt ?_|refine Zr ?_ _));refine ZO (cs:=#[.int .i64 0,.slice none 0 0]) ?_ 1 _ rfl;(with_reducible repeat(first|refine Zs ?_ _|refine Zt ?_|refine Zr ?_ _));refine ZO (cs:=#[.int .i64 0,.slice none 0 0]) ?_ 0 _ rfl;(with_reducible repeat(first|refine Zs ?_ _|refine Zt ?_|refine Zr ?_ _));exact BK2.out) Tryd.underlying91 rfl (by kernel_rfl)) rfl ?_
  exact⟨_,by first|rfl|(simp[ZD,ZC] <;> rfl)|(simp[*,ZD,ZC] <;> rfl),by first|exact Kd.R_nil _ _ _ _ _|exact Kd.N_nil _ _ _ _ _|exact Kd.V_nil _ _ _ _ _|exact Kd.Q_nil _ _ _ _ _|exact Kd.S_nil _ _ _ _ _,by repeat(first|(with_reducible first|exact HB.out|apply Zn|apply Zm|apply Zp|refine Zq ?_ GE1.out|refine Zq ?_ GE2.out)|exact HB.out)⟩
open Ni
def Zaz.f (k:Nat) (a0_0:Int) (l0_1:List (S113)):Option Bool:=(Zau.f a0_0 l0_1).bind fun b=>if b=true then(ZbJ.f k a0_0 l0_1).bind fun g=>(Zai.f g.1 g.2).bind fun c=>some c.isEmpty else some false
theorem Zaz.calls (k:Nat) (a0_0:Int) (A0_1:Option Addr) (c0_1:Nat) (l0_1:List (S113)) (r:Bool) (w:World) (hr0_1:Kd.C k113 w A0_1 l0_1.length l0_1) (hc0_1:l0_1.length≤c0_1) (h:Zaz.f k a0_0 l0_1=some r) :
  Calls Tryd.prog 23 #[.agg #[.int .i64 a0_0,.slice A0_1 l0_1.length c0_1]] w fun e w'=>e=.returned (.bool r)∧Below w.heap.size w w':=by
 unfold Zaz.f at h
 obtain⟨b,hb_,h⟩:=Option.bind_eq_some_iff.1 h
 have HS:=Za fun (W:World) (hb:Below w.heap.size w W)=>Zau.calls a0_0 A0_1 c0_1 l0_1 b W (Zb hr0_1 hb) hc0_1 hb_
 have B1:=Za (Zn (Below.refl w.heap.size w) (.cells #[.int .i64 a0_0,.slice A0_1 l0_1.length c0_1] 50))
 have K0:=Za (show(w.alloc (.cells #[.int .i64 a0_0,.slice A0_1 l0_1.length c0_1] 50)).cell? ⟨w.heap.size,0,none⟩=some (.int .i64 a0_0) by go_simp)
 have K1:=Za (show(w.alloc (.cells #[.int .i64 a0_0,.slice A0_1 l0_1.length c0_1] 50)).cell? ⟨w.heap.size,1,none⟩=some (.slice A0_1 l0_1.length c0_1) by go_simp)
 have hu:=Tryd.underlying50
 cases b with
 | false=>
  rw[if_neg (by simp)] at h
  obtain rfl:=Zg h
  clear hr0_1 hc0_1 hb_ h
  go_enter Tryd.func23,Tryd.ntmps23
  go_wp2_with (go_at_call 54;refine(HS.out _ B1.out).mono ?_;rintro e w1 ⟨rfl,hb⟩)
  go_ret
  exact⟨rfl,B1.out.trans (hb.mono B1.out.size)⟩
 | true=>
 rw[if_pos rfl] at h
 obtain⟨⟨g1,g2⟩,hg,h⟩:=Option.bind_eq_some_iff.1 h
 obtain⟨c,hc,h⟩:=Option.bind_eq_some_iff.1 h
 obtain rfl:=Zg h
 have HG:=Za fun (W:World) (hb:Below w.heap.size w W)=>ZbJ.calls k a0_0 A0_1 c0_1 l0_1 g1 g2 W (Zb hr0_1 hb) hc0_1 hg
 have HNC:=Za fun (W:World) (A:Option Addr) (cc:Nat) (hr:Kd.C k121 W A g2.length g2) (hcc:g2.length≤cc)=>Zai.own g1 A cc g2 c W hr hcc hc
 clear hr0_1 hc0_1 hb_ hg hc h
 have hsn:=fun (W:World) (A:Option Addr) (n c:Nat)=>Lib.run_eql_slice_nil (P:=Tryd.prog) W 23 3 A n c 0 0 Tryd.underlying23
 cases hce:c with
 | nil=>
  rw[hce] at HNC
  clear hce
  go_enter Tryd.func23,Tryd.ntmps23
  go_wp2_with (first|(go_at_call 54;refine(HS.out _ B1.out).mono ?_;rintro e w1 ⟨rfl,hb⟩;have hk0:=ZE hb K0.out;have hk1:=ZE hb K1.out;have hlt:=Zc _ _ hk0;have HB:=Za (B1.out.trans (hb.mono B1.out.size));clear hb)|(go_at_call 58;refine(HG.out _ HB.out).mono ?_;rintro e w2 ⟨v1,rfl,hr,hb⟩;obtain⟨Ag,cg,rfl,hcg,hrg⟩:=Kd.R_reads hr;replace HB:=Za (HB.out.trans (hb.mono HB.out.size));have HRG:=Za (And.intro hcg hrg);clear hb hr hcg hrg hk0 hk1 hlt)|(go_at_call 57;refine(HNC.out _ Ag cg HRG.out.2 HRG.out.1).mono ?_;rintro e w3 ⟨v2,rfl,_,hnil,hb⟩;obtain rfl:=hnil.out (by first|rfl|trivial);replace HB:=Za (HB.out.trans (hb.mono HB.out.size));clear hb hnil))
  go_ret
  exact⟨rfl,HB.out⟩
 | cons x t=>
  rw[hce] at HNC
  clear hce
  go_enter Tryd.func23,Tryd.ntmps23
  go_wp2_with (first|(go_at_call 54;refine(HS.out _ B1.out).mono ?_;rintro e w1 ⟨rfl,hb⟩;have hk0:=ZE hb K0.out;have hk1:=ZE hb K1.out;have hlt:=Zc _ _ hk0;have HB:=Za (B1.out.trans (hb.mono B1.out.size));clear hb)|(go_at_call 58;refine(HG.out _ HB.out).mono ?_;rintro e w2 ⟨v1,rfl,hr,hb⟩;obtain⟨Ag,cg,rfl,hcg,hrg⟩:=Kd.R_reads hr;replace HB:=Za (HB.out.trans (hb.mono HB.out.size));have HRG:=Za (And.intro hcg hrg);clear hb hr hcg hrg hk0 hk1 hlt)|(go_at_call 57;refine(HNC.out _ Ag cg HRG.out.2 HRG.out.1).mono ?_;rintro e w3 ⟨v2,rfl,hr,_,hb⟩;obtain⟨g3,cap3,e3,_⟩:=Kd.R_form hr (by simp);rw[e3];replace HB:=Za (HB.out.trans (hb.mono HB.out.size));clear hb hr e3))
  go_ret
  exact⟨rfl,HB.out⟩
def ZaW.f (k:Nat) (l0_0:List (S54)) (l0_1:List (S81)) (a0_2:Int) (l1_0:List Int) (l1_1:List Int):Option Bool:=(ZaI.f k l0_0 l0_1 a0_2 l1_0 l1_1).bind fun b=>(if b.2.2=true then((Zaz.f k b.1 b.2.1).bind fun t=>(some t)) else(some false))
theorem ZaW.calls (k:Nat) (A0_0:Option Addr) (c0_0:Nat) (l0_0:List (S54)) (A0_1:Option Addr) (c0_1:Nat) (l0_1:List (S81)) (a0_2:Int) (A1_0:Option Addr) (c1_0:Nat) (l1_0:List Int) (A1_1:Option Addr) (c1_1:Nat) (l1_1:List Int) (r:Bool) (w:World) (hr0_0:Kd.C k54 w A0_0 l0_0.length l0_0) (hc0_0:l0_0.length≤c0_0) (hr0_1:Kd.C k81 w A0_1 l0_1.length l0_1) (hc0_1:l0_1.length≤c0_1) (hr1_0:Kd.C (Kd.int .i64) w A1_0 l1_0.length l1_0) (hc1_0:l1_0.length≤c1_0) (hr1_1:Kd.C (Kd.int .i64) w A1_1 l1_1.length l1_1) (hc1_1:l1_1.length≤c1_1) (ht:TW w) (h:ZaW.f k l0_0 l0_1 a0_2 l1_0 l1_1=some r) :
  Calls Tryd.prog 24 #[.agg #[.slice A0_0 l0_0.length c0_0,.slice A0_1 l0_1.length c0_1,.int .i64 a0_2],.agg #[.slice A1_0 l1_0.length c1_0,.slice A1_1 l1_1.length c1_1]] w fun e w'=>e=.returned (.bool r)∧Below w.heap.size w w':=by
 unfold ZaW.f at h
 obtain⟨⟨q1,q2,q3⟩,hP,h⟩:=Option.bind_eq_some_iff.1 h
 have HP:=Za fun (W:World) (hb:Below w.heap.size w W)=>ZaI.calls k A0_0 c0_0 l0_0 A0_1 c0_1 l0_1 a0_2 A1_0 c1_0 l1_0 A1_1 c1_1 l1_1 q1 q2 q3 W (Zb hr0_0 hb) hc0_0 (Zb hr0_1 hb) hc0_1 (Zb hr1_0 hb) hc1_0 (Zb hr1_1 hb) hc1_1 (TW.below ht hb) hP
 have HB2:=Za (show Below w.heap.size w ((w.alloc (.cells #[.slice A0_0 l0_0.length c0_0,.slice A0_1 l0_1.length c0_1,.int .i64 a0_2] 39)).alloc (.cells #[.slice A1_0 l1_0.length c1_0,.slice A1_1 l1_1.length c1_1] 44)) from Zn (Zn (Below.refl w.heap.size w) _) _)
 have hu:=Tryd.underlying39
 have hu2:=Tryd.underlying44
 have hu3:=Tryd.underlying50
 dsimp only at h
 clear hr0_0 hc0_0 hr0_1 hc0_1 hr1_0 hc1_0 hr1_1 hc1_1 hP ht
 cases q3 with
 | false=>
  rw[if_neg (by simp)] at h
  obtain rfl:=Zg h
  clear h
  go_enter Tryd.func24,Tryd.ntmps24
  go_wp2_with (go_at_call 21;refine(HP.out _ HB2.out).mono ?_;rintro e w3 ⟨v1,rfl,ho,hb⟩;obtain⟨A3,c3,e3⟩:=Kd.R_slice ho;subst e3;have HB3:=Za (HB2.out.trans (hb.mono HB2.out.size));clear ho hb)
  go_ret
  exact⟨rfl,by repeat(first|exact HB3.out|apply Zn|apply Zm|apply Zp)⟩
 | true=>
  rw[if_pos rfl] at h
  obtain⟨t,hC,hr⟩:=Option.bind_eq_some_iff.1 h
  obtain rfl:=Zg hr
  have HC:=Za fun (W:World) (A:Option Addr) (c:Nat) (hc:q2.length≤c) (hr:Kd.C k113 W A q2.length q2)=>Zaz.calls k q1 A c q2 t W hr hc hC
  clear h hr hC
  go_enter Tryd.func24,Tryd.ntmps24
  go_wp2_with (first|(go_at_call 21;refine(HP.out _ HB2.out).mono ?_;rintro e w3 ⟨v1,rfl,ho,hb⟩;obtain⟨A3,c3,e3⟩:=Kd.R_slice ho;subst e3;have HO:=Za (Kd.R_reads' ho).2;have HB3:=Za (HB2.out.trans (hb.mono HB2.out.size));clear ho hb)|(go_at_call 23;refine(HC.out _ A3 c3 HO.out.1 (Zb HO.out.2 (Zn (Below.refl _ _) _))).mono ?_;rintro e w4 ⟨rfl,hb⟩;have HB4:=Za (Zx (Zn HB3.out _) hb);clear hb))
  go_ret
  exact⟨rfl,HB4.out⟩
theorem and255 (n:Int):bits .and .i64 n 255=n % 256:=by
 have h255:(BitVec.ofInt 64 255).toNat=2 ^ 8 - 1:=by decide
 have key:(BitVec.ofInt 64 n &&& BitVec.ofInt 64 255).toNat=(n % ((2 ^ 64:Nat):Int)).toNat % 2 ^ 8:=by
  rw[BitVec.toNat_and,BitVec.toNat_ofInt,h255,Nat.and_two_pow_sub_one_eq_mod]
 show IntKind.i64.wrap ((BitVec.ofInt 64 n &&& BitVec.ofInt 64 255).toNat:Nat)=n % 256
 rw[key,IntKind.wrap_i64]
 omega
def Cur (b:List Int) (i:Int):Prop:=b.length≤1048576∧0≤i∧i≤b.length
theorem byte_f {b:List Int} {i h:Int} (hc:Cur b i):∃x i' h',ZS.f b i h=some (x,i',h')∧0≤x∧x≤255∧Cur b i':=by
 obtain⟨hb,h0,hi⟩:=hc
 unfold ZS.f
 simp only[and255]
 by_cases c:i<(b.length:Int)
 ·rw[if_pos c,if_pos h0]
  refine⟨_,_,_,rfl,by omega,by omega,hb,?_,?_⟩
  ·rw[Z1 (by omega) (by omega)];omega
  ·rw[Z1 (by omega) (by omega)];omega
 ·rw[if_neg c]
  exact⟨_,_,_,rfl,by omega,by omega,hb,h0,hi⟩
theorem ZaM {b:List Int} {i h n:Int} (hc:Cur b i) (h1:1≤n) (h2:n≤256):∃x i' h',ZH.f b i h n=some (x,i',h')∧0≤x∧x<n∧Cur b i':=by
 obtain⟨x,i',h',e,x0,x1,hc'⟩:=byte_f (h:=h) hc
 unfold ZH.f
 rw[if_neg (by omega),if_pos h2,e,Zi,if_neg (by omega)]
 refine⟨_,_,_,rfl,?_,?_,hc'⟩
 ·exact Int.tmod_nonneg _ x0
 ·simp only;rw[Int.tmod_eq_emod_of_nonneg x0];exact Int.emod_lt_of_pos _ (by omega)
theorem new_l {b:List Int}:∀(d:Nat) (i h:Int) (k:Nat),0≤i→i≤4000→4000 - i≤d→d<k→∃r3,Zaf.l0 k b h i=some (b,0,r3)
 | 0,i,h,k,h0,h4,hd,hk=>by
  obtain⟨m,rfl⟩:∃m,k=m+1:=⟨k - 1,by omega⟩
  simp only[Zaf.l0]
  by_cases c:i<(b.length:Int)
  ·rw[if_pos c,if_neg (by omega)];exact⟨_,rfl⟩
  ·rw[if_neg c];exact⟨_,rfl⟩
 | d+1,i,h,k,h0,h4,hd,hk=>by
  obtain⟨m,rfl⟩:∃m,k=m+1:=⟨k - 1,by omega⟩
  simp only[Zaf.l0]
  by_cases c:i<(b.length:Int)
  ·rw[if_pos c]
   by_cases c2:i<4000
   ·rw[if_pos c2,if_pos h0,Z1 (i:=i+1) (by omega) (by omega)]
    exact new_l d (i+1) _ m (by omega) (by omega) (by omega) (by omega)
   ·rw[if_neg c2];exact⟨_,rfl⟩
  ·rw[if_neg c];exact⟨_,rfl⟩
theorem new_f {b:List Int} (hb:b.length≤1048576) (k:Nat) (hk:2 ^ 64≤k):∃h,Zaf.f k b=some (b,0,h)∧Cur b 0:=by
 unfold Zaf.f
 obtain⟨h,e⟩:=new_l (b:=b) 4000 0 (wrap64 (1974+(b.length:Int))) k (by omega) (by omega) (by omega) (by omega)
 exact⟨h,e,hb,by omega,by omega⟩
theorem go_f {b:List Int}:∀(m:Nat) (i h:Int),Cur b i→∃i' h',ZaL.go m b i h=some (b,i',h')∧Cur b i'
 | 0,i,h,hc=>⟨i,h,rfl,hc⟩
 | m+1,i,h,hc=>by
  obtain⟨x,i',h',e,_,_,hc'⟩:=byte_f (h:=h) hc
  obtain⟨i2,h2,e2,hc2⟩:=go_f m i' h' hc'
  refine⟨i2,h2,?_,hc2⟩
  show(ZS.f b i h).bind _=_
  rw[e,Zi];exact e2
theorem l29New_f {b:List Int} (hb:b.length≤1048576) (n:Int) (hn:n≤1048576) (k:Nat) (hk:2 ^ 64≤k):∃i h,ZaL.f k b n=some (b,i,h)∧Cur b i:=by
 obtain⟨h0,e0,hc⟩:=new_f hb k hk
 obtain⟨i,h,e,hc2⟩:=go_f n.toNat 0 h0 hc
 refine⟨i,h,?_,hc2⟩
 unfold ZaL.f
 rw[if_pos hn,e0,Zi];exact e
theorem num_f {b:List Int} (hb:b.length≤1048576) (n:Int) (hn:n≤1048576) (k:Nat) (hk:2 ^ 64≤k):∃x,Zav.f k b n=some x∧0≤x∧x≤65535:=by
 obtain⟨i,h,e,hc⟩:=l29New_f hb n hn k hk
 obtain⟨x,i1,h1,e1,a0,a1,hc1⟩:=byte_f (h:=h) hc
 obtain⟨y,i2,h2,e2,b0,b1,hc2⟩:=byte_f (h:=h1) hc1
 unfold Zav.f
 rw[e,Zi]
 simp only
 rw[e1,Zi]
 simp only
 rw[e2,Zi]
 refine⟨_,rfl,?_,?_⟩
 ·simp only;rw[Z1 (i:=x * 256) (by omega) (by omega),Z1 (by omega) (by omega)];omega
 ·simp only;rw[Z1 (i:=x * 256) (by omega) (by omega),Z1 (by omega) (by omega)];omega
def names8:List ByteArray:=[⟨#[103,111]⟩,⟨#[97]⟩,⟨#[98]⟩,⟨#[99]⟩,⟨#[100]⟩,⟨#[101]⟩,⟨#[102]⟩,⟨#[103]⟩]
theorem name_f {n:Nat} (h:n<8):Zbo.f (n:Int)=some (names8.getD n ByteArray.empty):=by
 unfold Zbo.f
 rw[Zi,if_pos (by omega),if_pos (by simp only[List.length_cons,List.length_nil];omega)]
 unfold rdOf
 rw[Int.toNat_natCast];rfl
def plN (n:Nat):ZJ:=⟨names8.getD n ByteArray.empty,[],0⟩
def plNs (n:Nat):List ZJ:=(List.range n).map plN
theorem Zcp (n:Nat):(plNs n).length=n:=by simp[plNs]
theorem Zdy (n:Nat):plNs (n+1)=plNs n ++ [⟨names8.getD n ByteArray.empty,[],0⟩]:=by simp[plNs,List.range_succ,plN]
theorem plNs_at {n i:Nat} (h:i<n):(plNs n).getD i z54=plN i:=by
 rw[List.getD_eq_getElem?_getD,plNs,List.getElem?_map,List.getElem?_range h];rfl
def TOk (n:Nat) (t:PTie):Prop:=0≤t.f0∧t.f0<n∧0≤t.f1∧t.f1<n∧t.f0≠t.f1∧-20≤t.f2∧t.f2≤t.f3∧t.f3≤20∧(t.f4=true→1≤t.f2∧t.f1≠0)
structure PInv (n:Nat) (ts:List PTie):Prop where
 ok:∀t∈ts,TOk n t
 un:∀i j:Nat,i<j→j<ts.length→(ts.getD i z81).f4=true→(ts.getD j z81).f4=true→(ts.getD i z81).f1≠(ts.getD j z81).f1
 ba:∀s∈ts,∀t∈ts,s.f4=true→t.f4=true→s.f0≠t.f1
theorem PInv.nil (n:Nat):PInv n []:=⟨(fun _ h=>by cases h),(fun _ _ _ h=>by simp at h),(fun _ h=>by cases h)⟩
theorem ZcX {ts:List PTie} {t:PTie} {i:Nat} (h:i<ts.length):(ts ++ [t]).getD i z81=ts.getD i z81:=by
 rw[List.getD_eq_getElem?_getD,List.getD_eq_getElem?_getD,List.getElem?_append_left h]
theorem getD_last {ts:List PTie} {t:PTie}:(ts ++ [t]).getD ts.length z81=t:=by
 rw[List.getD_eq_getElem?_getD,List.getElem?_append_right (Nat.le_refl _),Nat.sub_self];rfl
theorem TOk.mono {n m:Nat} (h:n≤m) {t:PTie} (ht:TOk n t):TOk m t:=by
 exact⟨ht.1,by have:=ht.2.1;omega,ht.2.2.1,by have:=ht.2.2.2.1;omega,ht.2.2.2.2⟩
theorem PInv.tie {n m:Nat} {ts:List PTie} (hI:PInv n ts) (hm:n≤m) {t:PTie} (ht:TOk m t) (hf:t.f4=false):PInv m (ts ++ [t]):=by
 refine⟨fun s hs=>?_,fun i j hij hj fi fj=>?_,fun s hs u hu fs fu=>?_⟩
 ·rcases List.mem_append.1 hs with hs|hs
  ·exact(hI.ok s hs).mono hm
  ·rw[List.mem_singleton] at hs;subst hs;exact ht
 ·rw[List.length_append,List.length_singleton] at hj
  by_cases h:j<ts.length
  ·rw[ZcX h] at fj ⊢
   rw[ZcX (by omega)] at fi ⊢
   exact hI.un i j hij h fi fj
  ·obtain rfl:j=ts.length:=by omega
   rw[getD_last,hf] at fj;cases fj
 ·rcases List.mem_append.1 hs with hs|hs
  ·rcases List.mem_append.1 hu with hu|hu
   ·exact hI.ba s hs u hu fs fu
   ·rw[List.mem_singleton] at hu;subst hu;rw[hf] at fu;cases fu
  ·rw[List.mem_singleton] at hs;subst hs;rw[hf] at fs;cases fs
theorem PInv.free {n m:Nat} {ts:List PTie} (hI:PInv n ts) (hm:n≤m) {t:PTie} (ht:TOk m t) (hn:(n:Int)≤t.f1) (hb:∀s∈ts,s.f4=true→s.f1≠t.f0):PInv m (ts ++ [t]):=by
 refine⟨fun s hs=>?_,fun i j hij hj fi fj=>?_,fun s hs u hu fs fu=>?_⟩
 ·rcases List.mem_append.1 hs with hs|hs
  ·exact(hI.ok s hs).mono hm
  ·rw[List.mem_singleton] at hs;subst hs;exact ht
 ·rw[List.length_append,List.length_singleton] at hj
  by_cases h:j<ts.length
  ·rw[ZcX h] at fj ⊢
   rw[ZcX (by omega)] at fi ⊢
   exact hI.un i j hij h fi fj
  ·obtain rfl:j=ts.length:=by omega
   rw[getD_last]
   rw[ZcX (by omega)]
   have:=hI.ok _ (ZaY (show i<ts.length by omega) z81)
   unfold TOk at this
   omega
 ·rcases List.mem_append.1 hs with hs'|hs
  ·rcases List.mem_append.1 hu with hu|hu
   ·exact hI.ba s hs' u hu fs fu
   ·rw[List.mem_singleton] at hu
    have:=hI.ok s hs'
    unfold TOk at this
    rw[hu]
    omega
  ·rw[List.mem_singleton] at hs;subst hs
   rcases List.mem_append.1 hu with hu|hu
   ·exact fun e=>hb u hu fu e.symm
   ·rw[List.mem_singleton] at hu;subst hu
    have:=ht
    unfold TOk at this
    exact this.2.2.2.2.1
theorem Zdv {ns:List ZJ} {ts:List PTie}:∀(d i:Nat),(∀j,i≤j→j<i+d→Zca ns ts j=true)→Za8 ns ts i d=true
 | 0,_,_=>rfl
 | d+1,i,h=>by rw[Za8,h i (Nat.le_refl _) (by omega),Zdv d (i+1) (fun j h1 h2=>h j (by omega) (by omega))];rfl
theorem ZeB {ns:List ZJ} {ts:List PTie} (hI:PInv ns.length ts) (hl:ts.length≤14) (hf:∀t∈ts,t.f4=true→(Zy ns t.f1).f2=0∧(Zy ns t.f1).f1=(Zy ns t.f0).f1):Zan ns ts=true:=by
 unfold Zan
 rw[Zdv ts.length 0 (fun j _ hj=>?_),Ze hl];· rfl
 rw[Nat.zero_add] at hj
 unfold Zca
 rw[ZdI]
 have hm:=ZaY hj z81
 have hk:=hI.ok _ hm
 have hff:=hf _ hm
 have hu:(ts.getD j z81).f4=true→(ts.take j).any (fun u=>u.f4 && decide (u.f1=(ts.getD j z81).f1))=false:=fun h4=>by
  rw[List.any_eq_false]
  intro u hu
  obtain⟨i,hi,rfl⟩:=List.mem_iff_getElem.1 hu
  rw[Zj] at hi
  have e:(ts.take j)[i]'(by rw[Zj];omega)=ts.getD i z81:=by
   rw[List.getElem_take,List.getD_eq_getElem?_getD,Zl (by omega)];rfl
  rw[e]
  have:=hI.un i j (by omega) hj
  simp only[Bool.and_eq_true,decide_eq_true_eq]
  exact fun h=>this h.1 h4 h.2
 generalize ts.getD j z81=t at hk hff hu
 obtain⟨t0,t1,t2,t3,t4⟩:=t
 unfold TOk at hk
 unfold Zbk Zbb Zcs
 dsimp only at hk hff hu ⊢
 cases t4 with
 | false=>
  simp only[Bool.not_false,Bool.true_or,Bool.and_true,Bool.and_eq_true,decide_eq_true_eq,Bool.not_eq_true',beq_eq_false_iff_ne,decide_eq_false_iff_not]
  omega
 | true=>
  rw[hu rfl]
  obtain⟨g1,g2⟩:=hff rfl
  rw[g1,g2]
  have:=hk.2.2.2.2.2.2.2.2 rfl
  simp only[Bool.not_true,Bool.false_or,Bool.and_true,Bool.and_eq_true,decide_eq_true_eq,Bool.not_eq_true',beq_eq_false_iff_ne,decide_eq_false_iff_not,bne_self_eq_false,Bool.not_false]
  obtain⟨a1,a2,a3,a4,a5,a6,a7,a8,_⟩:=hk
  exact⟨by omega,by omega,trivial⟩
theorem once_f {b:List Int} {i o n:Int} (hc:Cur b i) (h1:1≤n) (h2:n≤256):∃u i' o',ZaD.f b i o n=some (u,i',o')∧Cur b i':=by
 obtain⟨x,i',o',e,_,_,hc'⟩:=ZaM (h:=o) hc h1 h2
 unfold ZaD.f
 rw[e,Zi]
 exact⟨_,_,_,rfl,hc'⟩
theorem more_l {b:List Int} {m:Nat} (h2:2≤m) (h6:m≤6):∀(d:Nat) (ts:List PTie) (i o:Int) (k:Nat),PInv m ts→ts.length+d≤100→Cur b i→d<k→d≤9 →
  ∃ts' i' o',Zap.l0 k b i o (m:Int) (d:Int) ts=some (ts',i',o')∧PInv m ts'∧ts'.length≤ts.length+d∧Cur b i'∧(∀t∈ts',t∈ts∨t.f4=false)
 | 0,ts,i,o,k,hI,hl,hc,hk,h9=>by
  obtain⟨q,rfl⟩:∃q,k=q+1:=⟨k - 1,by omega⟩
  simp only[Zap.l0]
  rw[if_neg (by omega)]
  exact⟨_,_,_,rfl,hI,by omega,hc,fun t ht=>.inl ht⟩
 | d+1,ts,i,o,k,hI,hl,hc,hk,h9=>by
  obtain⟨q,rfl⟩:∃q,k=q+1:=⟨k - 1,by omega⟩
  obtain⟨p,i1,o1,e1,p0,p1,c1⟩:=ZaM (n:=(m:Int)) (h:=o) hc (by omega) (by omega)
  obtain⟨y,i2,o2,e2,y0,y1,c2⟩:=ZaM (n:=6) (h:=o1) c1 (by omega) (by omega)
  obtain⟨r,i3,o3,e3,r0,r1,c3⟩:=ZaM (n:=(m:Int) - 1) (h:=o2) c2 (by omega) (by omega)
  obtain⟨s,i4,o4,e4,s0,s1,c4⟩:=ZaM (n:=6) (h:=o3) c3 (by omega) (by omega)
  simp only[Zap.l0]
  rw[if_pos (by omega),e1,Zi]
  dsimp only
  rw[e2,Zi]
  dsimp only
  rw[Z1 (i:=(m:Int) - 1) (by omega) (by omega),e3,Zi]
  dsimp only
  rw[e4,Zi]
  dsimp only
  rw[if_neg (by omega),if_pos (by omega),Z1 (i:=p+1) (by omega) (by omega),Z1 (i:=p+1+r) (by omega) (by omega),Z1 (i:=y - 3) (by omega) (by omega),Z1 (i:=y - 3+1) (by omega) (by omega),Z1 (i:=y - 3+1+s) (by omega) (by omega),show wrap64 (((d+1:Nat):Int) - 1)=(d:Int) by rw[Z1 (by omega) (by omega)];omega]
  have hmod:0≤Int.tmod (p+1+r) (m:Int)∧Int.tmod (p+1+r) (m:Int)<m∧p≠Int.tmod (p+1+r) (m:Int):=by
   rw[Int.tmod_eq_emod_of_nonneg (by omega)]
   have hm:m=2∨m=3∨m=4∨m=5∨m=6:=by omega
   rcases hm with rfl|rfl|rfl|rfl|rfl <;> omega
  obtain⟨ts',i',o',e,hI',hl',hc',hn'⟩:=more_l h2 h6 d (ts ++ [⟨p,Int.tmod (p+1+r) (m:Int),y - 3,y - 3+1+s,false⟩]) i4 o4 q (hI.tie (Nat.le_refl _) (by unfold TOk;dsimp only;exact⟨p0,p1,hmod.1,hmod.2.1,hmod.2.2,by omega,by omega,by omega,fun h=>by cases h⟩) rfl) (by rw[List.length_append,List.length_singleton];omega) c4 (by omega) (by omega)
  refine⟨ts',i',o',e,hI',by rw[List.length_append,List.length_singleton] at hl';omega,hc',fun t ht=>?_⟩
  rcases hn' t ht with h|h
  ·rcases List.mem_append.1 h with h|h
   ·exact .inl h
   ·rw[List.mem_singleton] at h;subst h;exact .inr rfl
  ·exact .inr h
theorem more_f {b:List Int} {ns:List ZJ} (h2:2≤ns.length) (h6:ns.length≤6) {ts:List PTie} {i o:Int} {k:Nat} (hI:PInv ns.length ts) (hl:ts.length≤90) (hc:Cur b i) (hk:10<k) :
  ∃ts' i' o',Zap.f k b i o ns ts=some (ts',i',o')∧PInv ns.length ts'∧ts'.length≤ts.length+2∧Cur b i'∧(∀t∈ts',t∈ts∨t.f4=false):=by
 obtain⟨x,i1,o1,e1,x0,x1,c1⟩:=ZaM (n:=3) (h:=o) hc (by omega) (by omega)
 obtain⟨d,rfl⟩:=Int.eq_ofNat_of_zero_le x0
 obtain⟨ts',i',o',e,hI',hl',hc',hn'⟩:=more_l (b:=b) h2 h6 d ts i1 o1 k hI (by omega) c1 (by omega) (by omega)
 refine⟨ts',i',o',?_,hI',by omega,hc',hn'⟩
 unfold Zap.f
 rw[e1,Zi];exact e
theorem plain_l {b:List Int} {z:Int}:∀(d n:Nat) (ts:List PTie) (i o:Int) (k:Nat),d≤3→1≤n→n+2 * d≤7→n≤6→(2≤n∨1≤d)→ts.length+2 * d≤6→PInv n ts→Cur b i→100+d<k →
  ∃m ts' i' o',Zab.l0 k b i o z (d:Int) (plNs n) ts=some (plNs m,ts',z,i',o')∧2≤m∧m≤6∧PInv m ts'∧ts'.length≤8∧Cur b i'
 | 0,n,ts,i,o,k,_,h1,_,h6,h2,hl,hI,hc,hk=>by
  obtain⟨q,rfl⟩:∃q,k=q+1:=⟨k - 1,by omega⟩
  simp only[Zab.l0]
  rw[if_neg (by omega)]
  obtain⟨ts',i',o',e,hI',hl',hc',_⟩:=more_f (b:=b) (ns:=plNs n) (ts:=ts) (o:=o) (k:=q) (by rw[Zcp];omega) (by rw[Zcp];omega) (by rw[Zcp];exact hI) (by omega) hc (by omega)
  rw[Zcp] at hI'
  rw[e,Zi]
  exact⟨n,ts',i',o',rfl,by omega,h6,hI',by omega,hc'⟩
 | d+1,n,ts,i,o,k,hd,h1,h7,h6,h2,hl,hI,hc,hk=>by
  obtain⟨q,rfl⟩:∃q,k=q+1:=⟨k - 1,by omega⟩
  obtain⟨p,i1,o1,e1,p0,p1,c1⟩:=ZaM (n:=3) (h:=o) hc (by omega) (by omega)
  obtain⟨y,i2,o2,e2,y0,y1,c2⟩:=ZaM (n:=(n:Int)) (h:=o1) c1 (by omega) (by omega)
  obtain⟨r,i3,o3,e3,r0,r1,c3⟩:=ZaM (n:=3) (h:=o2) c2 (by omega) (by omega)
  obtain⟨u,i4,o4,e4,c4⟩:=once_f (n:=2) (o:=o3) c3 (by omega) (by omega)
  simp only[Zab.l0]
  rw[if_pos (by omega),e1,Zi]
  dsimp only
  rw[Zcp,name_f (show n<8 by omega),Zi,if_pos (by omega),e2,Zi]
  dsimp only
  rw[e3,Zi]
  dsimp only
  rw[if_pos (by omega),e4,Zi]
  dsimp only
  rw[Z1 (i:=p+r) (by omega) (by omega),show wrap64 (((d+1:Nat):Int) - 1)=(d:Int) by rw[Z1 (by omega) (by omega)];omega,show wrap64 ((n:Int)+1)=((n+1:Nat):Int) by rw[Z1 (by omega) (by omega)];omega]
  have hI1:PInv (n+1) (ts ++ [⟨y,(n:Int),p,p+r,false⟩]):=hI.tie (by omega) (by unfold TOk;dsimp only;exact⟨by omega,by omega,by omega,by omega,by omega,by omega,by omega,by omega,fun h=>by cases h⟩) rfl
  have one:=plain_l (b:=b) (z:=z) d (n+1) (ts ++ [⟨y,(n:Int),p,p+r,false⟩]) i4 o4 q (by omega) (by omega) (by omega) (by omega) (by omega) (by rw[List.length_append,List.length_singleton];omega) hI1 c4 (by omega)
  rw[Zdy] at one
  by_cases hu:u=true
  ·rw[if_pos hu]
   by_cases h5:((n+1:Nat):Int)<5
   ·rw[if_pos h5]
    obtain⟨v,i5,o5,e5,v0,v1,c5⟩:=ZaM (n:=2) (h:=o4) c4 (by omega) (by omega)
    obtain⟨x,i6,o6,e6,x0,x1,c6⟩:=ZaM (n:=3) (h:=o5) c5 (by omega) (by omega)
    rw[e5,Zi]
    dsimp only
    rw[name_f (show n+1<8 by omega),Zi,e6,Zi]
    dsimp only
    rw[Z1 (i:=1+v) (by omega) (by omega),Z1 (i:=1+v+x) (by omega) (by omega)]
    have two:=plain_l (b:=b) (z:=z) d (n+1+1) ((ts ++ [⟨y,(n:Int),p,p+r,false⟩]) ++ [⟨(n:Int),((n+1:Nat):Int),1+v,1+v+x,true⟩]) i6 o6 q (by omega) (by omega) (by omega) (by omega) (by omega) (by rw[List.length_append,List.length_append,List.length_singleton,List.length_singleton];omega)
     (hI1.free (by omega) (by unfold TOk;dsimp only;exact⟨by omega,by omega,by omega,by omega,by omega,by omega,by omega,by omega,fun _=>by omega⟩) (by dsimp only;omega) (fun s hs fs=>by
      rcases List.mem_append.1 hs with hs|hs
      ·have:=hI.ok s hs
       unfold TOk at this
       dsimp only
       omega
      ·rw[List.mem_singleton] at hs;subst hs;cases fs)) c6 (by omega)
    rw[Zdy,Zdy] at two
    exact two
   ·rw[if_neg h5];exact one
  ·rw[if_neg hu];exact one
theorem plain_f {b:List Int} {i o:Int} (hc:Cur b i) (k:Nat) (hk:200<k):∃m ts z i' o',Zab.f k b i o=some (plNs m,ts,z,i',o')∧2≤m∧m≤6∧PInv m ts∧ts.length≤8∧4≤z∧z≤7∧Cur b i':=by
 obtain⟨z,i1,o1,e1,z0,z1,c1⟩:=ZaM (n:=4) (h:=o) hc (by omega) (by omega)
 obtain⟨v,i2,o2,e2,v0,v1,c2⟩:=ZaM (n:=3) (h:=o1) c1 (by omega) (by omega)
 obtain⟨d,hd⟩:∃d:Nat,wrap64 (1+v)=(d:Int)∧1≤d∧d≤3:=⟨(1+v).toNat,by rw[Z1 (by omega) (by omega)];omega,by omega,by omega⟩
 obtain⟨m,ts,i',o',e,h2,h6,hI,hl,hc'⟩:=plain_l (b:=b) (z:=wrap64 (4+z)) d 1 [] i2 o2 k (by omega) (by omega) (by omega) (by omega) (by omega) (by simp;omega) (PInv.nil 1) c2 (by omega)
 refine⟨m,ts,wrap64 (4+z),i',o',?_,h2,h6,hI,hl,by rw[Z1 (by omega) (by omega)];omega,by rw[Z1 (by omega) (by omega)];omega,hc'⟩
 unfold Zab.f
 rw[e1,Zi]
 dsimp only
 rw[e2,Zi]
 dsimp only
 rw[hd.1];exact e
theorem plain_nodes {m:Nat} (h2:2≤m) (h6:m≤6):ZW (plNs m)=true∧(plNs m).all (ZbG (plNs m))=true:=by
 have hm:m=2∨m=3∨m=4∨m=5∨m=6:=by omega
 rcases hm with rfl|rfl|rfl|rfl|rfl <;> exact⟨by kernel_rfl,by kernel_rfl⟩
theorem show_of {ns:List ZJ} {ts:List PTie} {z:Int} (h1:ZW ns=true) (h2:ns.all (ZbG ns)=true) (h3:Zan ns ts=true) (h4:1≤z) (h5:z≤10):Z6 ns ts z=true:=by
 unfold Z6
 rw[h1,h2,h3,Zf (show ¬z<1 by omega),Zf (show ¬(10:Int)<z by omega)];rfl
theorem plain_show {m:Nat} {ts:List PTie} {z:Int} (h2:2≤m) (h6:m≤6) (hI:PInv m ts) (hl:ts.length≤8) (h4:4≤z) (h7:z≤7):Z6 (plNs m) ts z=true:=by
 obtain⟨n1,n2⟩:=plain_nodes h2 h6
 refine show_of n1 n2 (ZeB (by rw[Zcp];exact hI) (by omega) fun t ht _=>?_) (by omega) (by omega)
 have:=hI.ok t ht
 unfold TOk at this
 obtain⟨a,ha⟩:=Int.eq_ofNat_of_zero_le this.1
 obtain⟨c,hc⟩:=Int.eq_ofNat_of_zero_le this.2.2.1
 rw[ha,hc,Zco,Zco,plNs_at (by omega),plNs_at (by omega)]
 exact⟨rfl,rfl⟩
def bNs:List ZJ:=[⟨⟨#[103,111]⟩,[],0⟩,⟨⟨#[97]⟩,[],1⟩,⟨⟨#[98]⟩,[1],0⟩,⟨⟨#[99]⟩,[-1],0⟩]
def bNd:List ZJ:=bNs ++ [⟨⟨#[100]⟩,[1],0⟩]
def BOk (ns:List ZJ) (ts:List PTie):Prop:=(ns=bNs∨ns=bNd)∧PInv ns.length ts∧ts.length≤4∧∀t∈ts,t.f4=true→ns=bNd∧t.f0=2∧t.f1=4
theorem branch_l {b:List Int} {z:Int}:∀(d n:Nat) (ts:List PTie) (i o:Int) (k:Nat),n+d=4→2≤n→ts.length+d≤3→PInv 4 ts→(∀t∈ts,t.f4=false)→Cur b i→10+d<k →
  ∃ns' ts' i' o',Z8.l0 k (n:Int) b i o bNs ts z=some (ns',ts',z,i',o')∧BOk ns' ts'∧Cur b i'
 | 0,n,ts,i,o,k,hn,h2,hl,hI,hf,hc,hk=>by
  obtain⟨q,rfl⟩:∃q,k=q+1:=⟨k - 1,by omega⟩
  obtain⟨u,i1,o1,e1,c1⟩:=once_f (n:=2) (o:=o) hc (by omega) (by omega)
  simp only[Z8.l0]
  rw[if_neg (by omega),e1,Zi]
  dsimp only
  by_cases hu:u=true
  ·rw[if_pos hu]
   obtain⟨y,i2,o2,e2,y0,y1,c2⟩:=ZaM (n:=2) (h:=o1) c1 (by omega) (by omega)
   obtain⟨x,i3,o3,e3,x0,x1,c3⟩:=ZaM (n:=2) (h:=o2) c2 (by omega) (by omega)
   rw[e2,Zi]
   dsimp only
   rw[if_pos (show bNs.length<2932031007402 by decide),e3,Zi]
   dsimp only
   rw[if_pos (by omega),Z1 (i:=1+y) (by omega) (by omega),Z1 (i:=1+y+x) (by omega) (by omega)]
   refine⟨_,_,_,_,rfl,⟨.inr rfl,?_,by rw[List.length_append,List.length_singleton];omega,fun t ht h4=>?_⟩,c3⟩
   ·exact hI.free (n:=4) (m:=5) (by omega) (by unfold TOk;dsimp only;exact⟨by omega,by omega,by omega,by omega,by omega,by omega,by omega,by omega,fun _=>by omega⟩) (by dsimp only;omega) (fun s hs fs=>by rw[hf s hs] at fs;cases fs)
   ·rcases List.mem_append.1 ht with ht|ht
    ·rw[hf t ht] at h4;cases h4
    ·rw[List.mem_singleton] at ht;subst ht;exact⟨rfl,rfl,rfl⟩
  ·rw[if_neg hu]
   exact⟨_,_,_,_,rfl,⟨.inl rfl,hI,by omega,fun t ht h4=>by rw[hf t ht] at h4;cases h4⟩,c1⟩
 | d+1,n,ts,i,o,k,hn,h2,hl,hI,hf,hc,hk=>by
  obtain⟨q,rfl⟩:∃q,k=q+1:=⟨k - 1,by omega⟩
  obtain⟨p,i1,o1,e1,p0,p1,c1⟩:=ZaM (n:=3) (h:=o) hc (by omega) (by omega)
  obtain⟨y,i2,o2,e2,y0,y1,c2⟩:=ZaM (n:=2) (h:=o1) c1 (by omega) (by omega)
  obtain⟨x,i3,o3,e3,x0,x1,c3⟩:=ZaM (n:=3) (h:=o2) c2 (by omega) (by omega)
  simp only[Z8.l0]
  rw[if_pos (by omega),e1,Zi]
  dsimp only
  rw[e2,Zi]
  dsimp only
  rw[e3,Zi]
  dsimp only
  rw[if_pos (by omega),Z1 (i:=p+1) (by omega) (by omega),Z1 (i:=p+1+x) (by omega) (by omega),show wrap64 ((n:Int)+1)=((n+1:Nat):Int) by rw[Z1 (by omega) (by omega)];omega]
  exact branch_l d (n+1) _ i3 o3 q (by omega) (by omega) (by rw[List.length_append,List.length_singleton];omega) (hI.tie (Nat.le_refl _) (by unfold TOk;dsimp only;exact⟨by omega,by omega,by omega,by omega,by omega,by omega,by omega,by omega,fun h=>by cases h⟩) rfl) (fun t ht=>by
   rcases List.mem_append.1 ht with ht|ht
   ·exact hf t ht
   ·rw[List.mem_singleton] at ht;subst ht;rfl) c3 (by omega)
theorem branch_f {b:List Int} {i o:Int} (hc:Cur b i) (k:Nat) (hk:200<k):∃ns ts z i' o',Z8.f k b i o=some (ns,ts,z,i',o')∧BOk ns ts∧4≤z∧z≤6∧Cur b i':=by
 obtain⟨z,i1,o1,e1,z0,z1,c1⟩:=ZaM (n:=3) (h:=o) hc (by omega) (by omega)
 obtain⟨p,i2,o2,e2,p0,p1,c2⟩:=ZaM (n:=2) (h:=o1) c1 (by omega) (by omega)
 obtain⟨x,i3,o3,e3,x0,x1,c3⟩:=ZaM (n:=3) (h:=o2) c2 (by omega) (by omega)
 obtain⟨ns,ts,i',o',e,h,hc'⟩:=branch_l (b:=b) (z:=wrap64 (4+z)) 2 2 [⟨0,1,p,p+x,false⟩] i3 o3 k (by omega) (by omega) (by simp) ((PInv.nil 4).tie (Nat.le_refl _) (by unfold TOk;dsimp only;exact⟨by omega,by omega,by omega,by omega,by omega,by omega,by omega,by omega,fun h=>by cases h⟩) rfl) (fun t ht=>by rw[List.mem_singleton] at ht;subst ht;rfl) c3 (by omega)
 refine⟨ns,ts,wrap64 (4+z),i',o',?_,h,by rw[Z1 (by omega) (by omega)];omega,by rw[Z1 (by omega) (by omega)];omega,hc'⟩
 unfold Z8.f
 rw[e1,Zi]
 dsimp only
 rw[e2,Zi]
 dsimp only
 rw[e3,Zi]
 dsimp only
 rw[Z1 (i:=p+x) (by omega) (by omega)]
 exact e
theorem bNs_ok:ZW bNs=true∧bNs.all (ZbG bNs)=true:=⟨by kernel_rfl,by kernel_rfl⟩
theorem bNd_ok:ZW bNd=true∧bNd.all (ZbG bNd)=true:=⟨by kernel_rfl,by kernel_rfl⟩
theorem branch_show {ns:List ZJ} {ts:List PTie} {z:Int} (h:BOk ns ts) (h4:4≤z) (h6:z≤6):Z6 ns ts z=true:=by
 obtain⟨hn,hI,hl,hf⟩:=h
 have h1:ZW ns=true∧ns.all (ZbG ns)=true:=by
  rcases hn with rfl|rfl
  ·exact bNs_ok
  ·exact bNd_ok
 refine show_of h1.1 h1.2 (ZeB hI (by omega) fun t ht h4=>?_) (by omega) (by omega)
 obtain⟨rfl,e0,e1⟩:=hf t ht h4
 rw[e0,e1]
 exact⟨rfl,rfl⟩
structure DShow (ns:List ZJ) (ts:List PTie) (z:Int):Prop where
 ok:Z6 ns ts z=true
 lab:∀n∈ns,n.f1.length≤1
 len:ts.length≤8
 go:(ns.getD 0 z54).f0=⟨#[103,111]⟩
theorem show_f {b:List Int} (hb:b.length≤1048576) (k:Nat) (hk:2 ^ 64≤k):∃ns ts z,Zbf.f k b=some (ns,ts,z)∧DShow ns ts z:=by
 obtain⟨o,e0,c0⟩:=new_f hb k hk
 obtain⟨u,i1,o1,e1,c1⟩:=once_f (n:=3) (o:=o) c0 (by omega) (by omega)
 unfold Zbf.f ZbH.f
 rw[e0,Zi]
 dsimp only
 rw[e1,Zi]
 dsimp only
 by_cases hu:u=true
 ·rw[if_pos hu]
  obtain⟨ns,ts,z,i',o',e,h,z4,z6,_⟩:=branch_f (o:=o1) c1 k (by omega)
  rw[e,Zi]
  refine⟨ns,ts,z,rfl,branch_show h z4 z6,?_,by have:=h.2.2.1;omega,?_⟩
  ·rcases h.1 with rfl|rfl
   ·intro n hn;revert n;decide
   ·intro n hn;revert n;decide
  ·rcases h.1 with rfl|rfl <;> rfl
 ·rw[if_neg hu]
  obtain⟨m,ts,z,i',o',e,m2,m6,hI,hl,z4,z7,_⟩:=plain_f (o:=o1) c1 k (by omega)
  rw[e,Zi]
  refine⟨plNs m,ts,z,rfl,plain_show m2 m6 hI hl z4 z7,fun n hn=>?_,hl,?_⟩
  ·unfold plNs at hn
   obtain⟨j,_,rfl⟩:=List.mem_map.1 hn
   exact Nat.zero_le _
  ·rw[plNs_at (by omega)];rfl
theorem fitN_of {ns:List ZJ} {ts:List PTie} (h:ZbK ns ts):fitN ns=true:=by
 unfold fitN
 rw[List.all_eq_true]
 intro n hn
 have:=h.2.2 n hn
 simp;omega
theorem Zdo {ns:List ZJ} {ts:List PTie} {z:Int} (hf:fitN ns=true):ZaR.f ns ts z=some (Z6 ns ts z):=by
 unfold ZaR.f
 rw[if_pos hf]
theorem ZaO {ns:List ZJ} {ts:List PTie} {z:Int} (h:Z6 ns ts z=true):ZW ns=true:=by
 unfold Z6 at h
 simp only[Bool.and_eq_true] at h
 exact h.1.1.1.1
theorem Zbn {ns:List ZJ} {ts:List PTie} {z:Int} (h:Z6 ns ts z=true):Zan ns ts=true:=by
 unfold Z6 at h
 simp only[Bool.and_eq_true] at h
 exact h.1.1.1.2
def Zb0 (ts:List PTie) (n:Nat):List Int:=((List.range n).filter fun i=>(ts.getD i z81).f4).map fun i:Nat=>(i:Int)
def Z2 (ts:List PTie):List Int:=Zb0 ts ts.length
theorem freeTo_succ (ts:List PTie) (n:Nat):Zb0 ts (n+1)=if (ts.getD n z81).f4=true then Zb0 ts n ++ [(n:Int)] else Zb0 ts n:=by
 unfold Zb0
 rw[List.range_succ,List.filter_append,List.map_append]
 by_cases h:(ts.getD n z81).f4=true
 ·rw[if_pos h,List.filter_cons_of_pos (by simpa using h)];rfl
 ·rw[if_neg h,List.filter_cons_of_neg (by simpa using h)];simp
theorem Zet (ts:List PTie) (n:Nat):(Zb0 ts n).length≤n:=by
 unfold Zb0
 rw[List.length_map]
 exact Nat.le_trans (List.length_filter_le _ _) (by simp)
theorem ZcG (ts:List PTie):(Z2 ts).length≤ts.length:=Zet ts ts.length
theorem ZcB {ts:List PTie} {x:Int} (h:x∈Z2 ts):0≤x∧x<ts.length:=by
 unfold Z2 Zb0 at h
 obtain⟨i,hi,rfl⟩:=List.mem_map.1 h
 have:=List.mem_range.1 (List.mem_filter.1 hi).1
 omega
theorem ZcF (ns:List ZJ) (ts:List PTie) (z:Int) (hl:ts.length≤1048576) (k:Nat) (hk:2 ^ 64≤k):ZY.f k ns ts z=some (Z2 ts):=by
 have key:=Zc7 ts.length (fun k i=>ZY.l0 k (Zb0 ts i) ts ts.length (i:Int)=some (Z2 ts)) 0
  (fun k _=>by
   simp only[ZY.l0]
   rw[if_neg (by omega)];rfl)
  (fun k i _ hi ih=>by
   simp only[ZY.l0]
   have:=Zet ts i
   rw[freeTo_succ] at ih
   rw[if_pos (by omega),if_pos (by omega),if_pos (by omega),ZdI,Z9 hi (by omega)]
   by_cases h:(ts.getD i z81).f4=true
   ·rw[if_pos h,if_pos (by omega)];rw[if_pos h] at ih;exact ih
   ·rw[if_neg h];rw[if_neg h] at ih;exact ih) 0 k (Nat.zero_le _) (by omega)
 unfold ZY.f
 exact key
def ccW (ns:List ZJ) (p x:Int):Int:=ccQ (Zad ns p) x
def ZaJ (ns:List ZJ) (ts:List PTie) (z:Int):Int:=if Z6 ns ts z=true then ccW ns 3 (ccW ns 2 (ccW ns 1 ((Z2 ts).foldl (ccS ts) 1))) else 0
theorem okI_free {ts:List PTie} (ht:ts.length≤1048576):okI ts (Z2 ts)=true:=by
 unfold okI
 rw[Ze (Nat.le_trans (ZcG ts) ht),Bool.true_and,List.all_eq_true]
 intro x hx
 have:=ZcB hx
 rw[Ze this.1,Ze this.2];rfl
theorem wq_impl (ns:List ZJ) (ts:List PTie) (z:Int):∀p:Nat,1≤p→p≤3→(fun p=>Zaw.f ns ts z p) (p:Int)=some (Zad ns (p:Int)):=fun _ _ _=>rfl
theorem Zcn {ns:List ZJ} {ts:List PTie} {z:Int} (hf:fitN ns=true) (ht:ts.length≤1048576) (k:Nat) (hk:2 ^ 65≤k):Zah.f k ns ts z=some (ZaJ ns ts z):=by
 unfold Zah.f ZaJ
 rw[Zdo hf,Zi,ZcF ns ts z ht k (by omega)]
 cases Z6 ns ts z with
 | false=>rfl
 | true=>
  obtain⟨q,h1,_,h2⟩:=wq_of (wq_impl ns ts z)
  rw[if_pos rfl,if_pos rfl,Zi,if_pos (okI_free ht),h1,Zi,h2]
  rfl
theorem freeIx_is {ts:List PTie} {x:Int} (h:x∈Z2 ts):(Zz ts x).f4=true:=by
 unfold Z2 Zb0 at h
 obtain⟨i,hi,rfl⟩:=List.mem_map.1 h
 rw[ZdI]
 exact(List.mem_filter.1 hi).2
theorem Zdu {ns:List ZJ} {ts:List PTie}:∀(d i:Nat),Za8 ns ts i d=true→∀j,i≤j→j<i+d→Zca ns ts j=true
 | 0,i,_,j,h1,h2=>by omega
 | d+1,i,h,j,h1,h2=>by
  rw[Za8,Bool.and_eq_true] at h
  by_cases e:j=i
  ·rw[e];exact h.1
  ·exact Zdu d (i+1) h.2 j (by omega) (by omega)
theorem ZdF {ns:List ZJ} {ts:List PTie} (h:Zan ns ts=true):∀j,j<ts.length→Zca ns ts j=true:=by
 unfold Zan at h
 rw[Bool.and_eq_true] at h
 exact fun j hj=>Zdu _ _ h.1 j (Nat.zero_le _) (by omega)
theorem Zea {ns:List ZJ} {ts:List PTie} (h:Zan ns ts=true) {j:Int} (hj:j∈Z2 ts):1≤facI ts j∧facI ts j≤20:=by
 have hf:=freeIx_is hj
 obtain⟨h0,h1⟩:=ZcB hj
 unfold facI
 obtain⟨m,rfl⟩:=Int.eq_ofNat_of_zero_le h0
 have:=ZdF h m (by omega)
 unfold Zca Zbk at this
 rw[hf] at this
 simp only[Zbb,Zcs,Bool.and_eq_true,Bool.not_true,Bool.false_or,decide_eq_true_eq,Bool.not_eq_true',beq_eq_false_iff_ne,decide_eq_false_iff_not] at this
 obtain⟨⟨⟨⟨⟨⟨_,_⟩,_⟩,a⟩,b⟩,c⟩,⟨⟨⟨⟨d,_⟩,_⟩,_⟩,_⟩⟩:=this
 unfold wrap64
 omega
def Za0 (ts:List PTie):List Int→Nat
 | []=>1
 | i :: L=>(facI ts i).toNat * Za0 ts L
theorem prodF_run (ts:List PTie):∀(L:List Int) (a n:Nat),(∀x∈L,1≤facI ts x∧facI ts x≤20)→L.length≤n→a * 20 ^ n≤20 ^ 14→L.foldl (ccS ts) (a:Int)=((a * Za0 ts L:Nat):Int):=by
 intro L
 induction L with
 | nil=>intro a n _ _ _;simp[Za0]
 | cons i L ih=>
  intro a n h hn ha
  obtain⟨m,rfl⟩:∃m,n=m+1:=⟨n - 1,by simp at hn;omega⟩
  have hi:=h i (by simp)
  obtain⟨f,hf⟩:=Int.eq_ofNat_of_zero_le (show 0≤facI ts i by omega)
  have h1:a * f * 20 ^ m≤a * 20 ^ (m+1):=by
   rw[Nat.pow_succ,Nat.mul_comm (20 ^ m) 20,← Nat.mul_assoc]
   exact Nat.mul_le_mul_right _ (Nat.mul_le_mul_left _ (by omega))
  have h2:a * f≤20 ^ 14:=Nat.le_trans (Nat.le_mul_of_pos_right _ (Nat.pow_pos (by omega))) (Nat.le_trans h1 ha)
  have e:ccS ts (a:Int) i=((a * f:Nat):Int):=by
   show wrap64 ((a:Int) * facI ts i)=_
   rw[hf,← Int.natCast_mul]
   have h14:(20:Nat) ^ 14≤9223372036854775807:=by decide
   exact Z1 (by omega) (by omega)
  rw[List.foldl_cons,e,ih (a * f) m (fun x hx=>h x (by simp[hx])) (by simp at hn;omega) (Nat.le_trans h1 ha),Za0,hf,Int.toNat_natCast,Nat.mul_assoc]
theorem prodF_pos (ts:List PTie):∀(L:List Int),(∀x∈L,1≤facI ts x∧facI ts x≤20)→1≤Za0 ts L∧Za0 ts L≤20 ^ L.length:=by
 intro L
 induction L with
 | nil=>intro _;simp[Za0]
 | cons i L ih=>
  intro h
  have h1:=ih (fun x hx=>h x (by simp[hx]))
  have hi:=h i (by simp)
  have h2:=Nat.mul_le_mul (show 1≤(facI ts i).toNat by omega) h1.1
  have h3:=Nat.mul_le_mul (show(facI ts i).toNat≤20 by omega) h1.2
  rw[Za0,List.length_cons,Nat.pow_succ,Nat.mul_comm (20 ^ _) 20]
  exact⟨by omega,h3⟩
theorem atQ_len (q:Int) (s:Int×List Int):(atQ q s).2.length=s.2.length+1:=by
 unfold atQ
 split <;> simp
theorem ZeA (q:Int→Int):∀(d p:Nat) (s:Int×List Int),(Zbx q d p s).2.length=s.2.length+d
 | 0,_,_=>rfl
 | d+1,p,s=>by rw[Zbx,ZeA q d,atQ_len];omega
theorem atS_len (ts:List PTie):∀(L:List Int) (s:Int×List Int),(L.foldl (atS ts) s).2.length=s.2.length+L.length
 | [],s=>by simp
 | i :: L,s=>by rw[List.foldl_cons,atS_len ts L];simp[atS];omega
theorem okF_free {ns:List ZJ} {ts:List PTie} (ha:Zan ns ts=true) (ht:ts.length≤1048576):okF ts (Z2 ts)=true:=by
 unfold okF
 rw[Ze (Nat.le_trans (ZcG ts) ht),Bool.true_and,List.all_eq_true]
 intro x hx
 have h1:=ZcB hx
 have h2:=(Zea ha hx).1
 rw[Ze h1.1,Ze h1.2,beq_eq_false_iff_ne.2 (show facI ts x≠0 by omega)];rfl
def Z5 (ns:List ZJ) (ts:List PTie) (z n:Int):List Int×List Int×Bool:=if 0≤n∧n<ZaJ ns ts z then((atAll ts (Zad ns) (Z2 ts) n).1,(atAll ts (Zad ns) (Z2 ts) n).2,true) else([],[],false)
theorem Zdp (ns:List ZJ) (ts:List PTie) (z n:Int):(Z5 ns ts z n).1.length≤ts.length∧(Z5 ns ts z n).2.1.length≤3:=by
 unfold Z5
 split
 ·have:=atS_len ts (Z2 ts) (n,[])
  have h2:=ZcG ts
  simp only[atAll,ZeA]
  simp only[List.length_nil] at this ⊢
  omega
 ·simp
theorem count_show {ns:List ZJ} {ts:List PTie} {z n:Int} (h0:0≤n) (h:n<ZaJ ns ts z):Zan ns ts=true:=by
 unfold ZaJ at h
 split at h
 ·rename_i hs;exact Zbn hs
 ·omega
def ZaN (ns:List ZJ) (ts:List PTie) (ln vs:List Int):Bool:=decide (ln.length=(Z2 ts).length) && (decide (vs.length=3) && (Zbt ts (Z2 ts) ln && Za7 ns 0 vs))
def Zbd (ns:List ZJ) (ts:List PTie) (z:Int) (ln vs:List Int):Bool:=Z6 ns ts z && ZaN ns ts ln vs
theorem Zeq {ns:List ZJ} {ts:List PTie} (z:Int) (ln vs:List Int) (hc:ZbK ns ts) (_hl:vs.length≤1048576) (k:Nat) (hk:2 ^ 66≤k):ZaQ.f k ns ts z ln vs=some (ZaN ns ts ln vs):=by
 unfold ZaQ.f ZaN
 rw[ZcF ns ts z hc.2.1 _ (by omega),Zi,if_pos (List.all_eq_true.2 fun x hx=>by have:=ZcB hx;simpa using this)]
theorem ZbY {ns:List ZJ} {ts:List PTie} {z:Int} (ln vs:List Int) (hc:ZbK ns ts) (hl:vs.length≤1048576) (k:Nat) (hk:2 ^ 66≤k):ZP.f k ns ts z ln vs=some (Zbd ns ts z ln vs):=by
 unfold ZP.f Zbd
 rw[Zdo (fitN_of hc),Zi]
 cases hs:Z6 ns ts z with
 | false=>rfl
 | true=>rw[if_pos rfl,Bool.true_and,Zeq z ln vs hc hl k hk];rfl
theorem Zdt {ns:List ZJ}:∀(l:List Int) (i:Nat),Za7 ns i l=true→∀n∈l,-1≤n∧n≤1
 | [],_,_,n,hn=>by simp at hn
 | v :: t,i,h,n,hn=>by
  rw[Za7,Bool.and_eq_true] at h
  rcases List.mem_cons.1 hn with rfl|hn
  ·have h1:=h.1
   unfold valAt at h1
   simp only[Bool.or_eq_true,Bool.and_eq_true,decide_eq_true_eq] at h1
   omega
  ·exact Zdt t _ h.2 n hn
theorem Zcb {ns:List ZJ} {ts:List PTie} {ln vs:List Int} (h:ZaN ns ts ln vs=true):ZbM vs=true:=by
 unfold ZaN at h
 simp only[Bool.and_eq_true,decide_eq_true_eq] at h
 unfold ZbM
 rw[Ze h.2.1,Bool.true_and,List.all_eq_true]
 intro n hn
 have:=Zdt vs 0 h.2.2.2 n hn
 simp;omega
def FOk (ts:List PTie) (i:Int):Prop:=1≤facI ts i∧facI ts i≤20∧-20≤(Zz ts i).f2∧(Zz ts i).f2≤20∧facI ts i=(Zz ts i).f3 - (Zz ts i).f2+1
theorem free_ok {ns:List ZJ} {ts:List PTie} (h:Zan ns ts=true) {j:Int} (hj:j∈Z2 ts):FOk ts j:=by
 have hf:=Zea h hj
 have hf4:=freeIx_is hj
 obtain⟨h0,h1⟩:=ZcB hj
 obtain⟨m,rfl⟩:=Int.eq_ofNat_of_zero_le h0
 have:=ZdF h m (by omega)
 unfold Zca Zbk at this
 rw[hf4] at this
 simp only[Zbb,Zcs,Bool.and_eq_true,Bool.not_true,Bool.false_or,decide_eq_true_eq,Bool.not_eq_true',beq_eq_false_iff_ne,decide_eq_false_iff_not] at this
 obtain⟨⟨⟨⟨⟨⟨_,_⟩,_⟩,a⟩,b⟩,c⟩,⟨⟨⟨⟨d,_⟩,_⟩,_⟩,_⟩⟩:=this
 refine⟨hf.1,hf.2,a.1,a.2,?_⟩
 unfold facI wrap64
 omega
def decL (ts:List PTie):List Int→Int→List Int
 | [],_=>[]
 | i :: L,n=>((Zz ts i).f2+n % facI ts i) :: decL ts L (n / facI ts i)
def remL (ts:List PTie):List Int→Int→Int
 | [],n=>n
 | i :: L,n=>remL ts L (n / facI ts i)
def decV (q:Int→Int):Nat→Nat→Int→List Int
 | 0,_,_=>[]
 | d+1,p,r=>if q (p:Int)≥0 then(1 - r % 2 * 2) :: decV q d (p+1) (r / 2) else 1 :: decV q d (p+1) r
def remV (q:Int→Int):Nat→Nat→Int→Int
 | 0,_,r=>r
 | d+1,p,r=>if q (p:Int)≥0 then remV q d (p+1) (r / 2) else remV q d (p+1) r
def pwV (q:Int→Int):Nat→Nat→Nat
 | 0,_=>1
 | d+1,p=>if q (p:Int)≥0 then 2 * pwV q d (p+1) else pwV q d (p+1)
theorem div_le {n f:Int} (h0:0≤n) (h1:1≤f):0≤n / f∧n / f≤n:=⟨Int.ediv_nonneg h0 (by omega),Int.ediv_le_self _ h0⟩
theorem foldl_atS (ts:List PTie):∀(L:List Int) (n:Int) (acc:List Int),(∀x∈L,FOk ts x)→0≤n→n≤4611686018427387903→L.foldl (atS ts) (n,acc)=(remL ts L n,acc ++ decL ts L n)
 | [],n,acc,_,_,_=>by simp[remL,decL]
 | i :: L,n,acc,h,h0,h1=>by
  obtain⟨a,b,c,d,_⟩:=h i (by simp)
  have hd:=div_le (f:=facI ts i) h0 a
  have hm:0≤n % facI ts i∧n % facI ts i<facI ts i:=⟨Int.emod_nonneg _ (by omega),Int.emod_lt_of_pos _ (by omega)⟩
  have e:atS ts (n,acc) i=(n / facI ts i,acc ++ [(Zz ts i).f2+n % facI ts i]):=by
   unfold atS
   dsimp only
   rw[Int.tdiv_eq_ediv_of_nonneg h0,Int.tmod_eq_emod_of_nonneg h0,Z1 (i:=n / facI ts i) (by omega) (by omega),Z1 (by omega) (by omega)]
  rw[List.foldl_cons,e,foldl_atS ts L _ _ (fun x hx=>h x (by simp[hx])) hd.1 (by omega),remL,decL,List.append_assoc]
  rfl
theorem Zc6 (ts:List PTie):∀(L:List Int) (n:Int),(∀x∈L,FOk ts x)→0≤n→0≤remL ts L n∧remL ts L n≤n
 | [],n,_,h0=>⟨h0,Int.le_refl _⟩
 | i :: L,n,h,h0=>by
  have hd:=div_le (f:=facI ts i) h0 (h i (by simp)).1
  have:=Zc6 ts L _ (fun x hx=>h x (by simp[hx])) hd.1
  rw[remL]
  exact⟨this.1,by omega⟩
theorem lens_dec (ts:List PTie):∀(L:List Int) (n:Int),(∀x∈L,FOk ts x)→0≤n→Zbt ts L (decL ts L n)=true
 | [],n,_,_=>by simp[Zbt,decL]
 | i :: L,n,h,h0=>by
  obtain⟨a,b,c,d,e⟩:=h i (by simp)
  have hd:=div_le (f:=facI ts i) h0 a
  have hm:0≤n % facI ts i∧n % facI ts i<facI ts i:=⟨Int.emod_nonneg _ (by omega),Int.emod_lt_of_pos _ (by omega)⟩
  rw[decL,Zbt,lens_dec ts L _ (fun x hx=>h x (by simp[hx])) hd.1,Ze (by omega),Ze (by omega)];rfl
theorem decL_len (ts:List PTie):∀(L:List Int) (n:Int),(decL ts L n).length=L.length
 | [],_=>rfl
 | i :: L,n=>by rw[decL,List.length_cons,decL_len ts L,List.length_cons]
theorem Zdi (q:Int→Int):∀(d p:Nat) (r:Int) (acc:List Int),0≤r→r≤4611686018427387903→(Zbx q d p (r,acc)).2=acc ++ decV q d p r
 | 0,p,r,acc,_,_=>by simp[Zbx,decV]
 | d+1,p,r,acc,h0,h1=>by
  rw[Zbx,decV]
  unfold atQ
  by_cases h:q (p:Int)≥0
  ·rw[if_pos h,if_pos h]
   dsimp only
   rw[Int.tdiv_eq_ediv_of_nonneg h0,Int.tmod_eq_emod_of_nonneg h0,Z1 (i:=r / 2) (by omega) (by omega),Z1 (i:=r % 2 * 2) (by omega) (by omega),Z1 (by omega) (by omega),Zdi q d (p+1) _ _ (by omega) (by omega),List.append_assoc]
   rfl
  ·rw[if_neg h,if_neg h,Zdi q d (p+1) _ _ h0 h1,List.append_assoc]
   rfl
theorem Zd3 (ns:List ZJ):∀(d i:Nat) (r:Int),0≤r→Za7 ns i (decV (Zad ns) d (i+1) r)=true
 | 0,i,r,_=>by simp[decV,Za7]
 | d+1,i,r,h0=>by
  rw[decV]
  by_cases h:Zad ns ((i+1:Nat):Int)≥0
  ·rw[if_pos h,Za7,Zd3 ns d (i+1) _ (by omega),Bool.and_true]
   unfold valAt
   have hr:r % 2=0∨r % 2=1:=by omega
   rcases hr with hr|hr
   ·rw[hr];rfl
   ·rw[hr,Ze (show 0≤Zad ns ((i+1:Nat):Int) from h)];rfl
  ·rw[if_neg h,Za7,Zd3 ns d (i+1) _ h0];rfl
theorem decV_len (q:Int→Int):∀(d p:Nat) (r:Int),(decV q d p r).length=d
 | 0,_,_=>rfl
 | d+1,p,r=>by
  rw[decV]
  split <;> rw[List.length_cons,decV_len q d]
theorem ccW_eq (ns:List ZJ) (p:Nat) {x:Nat} (h:x≤4000000000000000000):ccW ns (p:Int) (x:Int)=(((if Zad ns (p:Int)≥0 then 2 else 1) * x:Nat):Int):=by
 unfold ccW ccQ
 split
 ·rw[Z1 (by omega) (by omega)];omega
 ·omega
theorem Zed {ns:List ZJ} {ts:List PTie} {z:Int} (hs:Z6 ns ts z=true) (hl:ts.length≤8):ZaJ ns ts z=((Za0 ts (Z2 ts) * pwV (Zad ns) 3 1:Nat):Int)∧1≤Za0 ts (Z2 ts)∧Za0 ts (Z2 ts)≤25600000000∧1≤pwV (Zad ns) 3 1∧pwV (Zad ns) 3 1≤8:=by
 have ht:=Zbn hs
 have hL:∀x∈Z2 ts,1≤facI ts x∧facI ts x≤20:=fun x hx=>Zea ht hx
 have hn:(Z2 ts).length≤8:=Nat.le_trans (ZcG ts) hl
 have e:=prodF_run ts (Z2 ts) 1 14 hL (by omega) (by decide)
 rw[Nat.one_mul,show((1:Nat):Int)=1 from rfl] at e
 have hp:=prodF_pos ts _ hL
 have h20:Za0 ts (Z2 ts)≤25600000000:=Nat.le_trans hp.2 (Nat.le_trans (Nat.pow_le_pow_right (by omega) hn) (by decide))
 have w1:=ccW_eq ns 1 (x:=Za0 ts (Z2 ts)) (by omega)
 have c1:(if Zad ns ((1:Nat):Int)≥0 then 2 else 1) * Za0 ts (Z2 ts)≤60000000000:=by split <;> omega
 have w2:=ccW_eq ns 2 (x:=(if Zad ns ((1:Nat):Int)≥0 then 2 else 1) * Za0 ts (Z2 ts)) (by omega)
 have c2:(if Zad ns ((2:Nat):Int)≥0 then 2 else 1) * ((if Zad ns ((1:Nat):Int)≥0 then 2 else 1) * Za0 ts (Z2 ts))≤120000000000:=by split <;> omega
 have w3:=ccW_eq ns 3 (x:=(if Zad ns ((2:Nat):Int)≥0 then 2 else 1) * ((if Zad ns ((1:Nat):Int)≥0 then 2 else 1) * Za0 ts (Z2 ts))) (by omega)
 refine⟨?_,hp.1,h20,?_,?_⟩
 ·unfold ZaJ
  rw[if_pos hs,e]
  have e1:ccW ns 1 ((Za0 ts (Z2 ts):Nat):Int)=_:=w1
  rw[e1]
  have e2:ccW ns 2 (((if Zad ns ((1:Nat):Int)≥0 then 2 else 1) * Za0 ts (Z2 ts):Nat):Int)=_:=w2
  rw[e2]
  have e3:ccW ns 3 (((if Zad ns ((2:Nat):Int)≥0 then 2 else 1) * ((if Zad ns ((1:Nat):Int)≥0 then 2 else 1) * Za0 ts (Z2 ts)):Nat):Int)=_:=w3
  rw[e3]
  simp only[pwV]
  congr 1
  generalize Za0 ts (Z2 ts)=P
  split <;> split <;> split <;> omega
 ·simp only[pwV];split <;> split <;> split <;> omega
 ·simp only[pwV];split <;> split <;> split <;> omega
theorem Zb1 {ns:List ZJ} {ts:List PTie} {z n:Int} (hs:Z6 ns ts z=true) (hl:ts.length≤8) (h0:0≤n) (h1:n<ZaJ ns ts z):Z5 ns ts z n=(decL ts (Z2 ts) n,decV (Zad ns) 3 1 (remL ts (Z2 ts) n),true):=by
 obtain⟨hc,p1,p2,q1,q2⟩:=Zed hs hl
 have hF:∀x∈Z2 ts,FOk ts x:=fun x hx=>free_ok (Zbn hs) hx
 have hb:Za0 ts (Z2 ts) * pwV (Zad ns) 3 1≤25600000000 * 8:=Nat.mul_le_mul p2 q2
 have hn:n≤204800000000:=by omega
 have hr:=Zc6 ts _ n hF h0
 unfold Z5 atAll
 rw[if_pos ⟨h0,h1⟩,foldl_atS ts _ n [] hF h0 (by omega)]
 dsimp only
 rw[Zdi _ _ _ _ _ hr.1 (by omega),List.nil_append,List.nil_append]
theorem Zd1 {ns:List ZJ} {ts:List PTie} {z n:Int} (hs:Z6 ns ts z=true) (hl:ts.length≤8) (h0:0≤n) (h1:n<ZaJ ns ts z):ZaN ns ts (Z5 ns ts z n).1 (Z5 ns ts z n).2.1=true:=by
 have hF:∀x∈Z2 ts,FOk ts x:=fun x hx=>free_ok (Zbn hs) hx
 have hr:=Zc6 ts _ n hF h0
 rw[Zb1 hs hl h0 h1]
 unfold ZaN
 dsimp only
 rw[decL_len,Ze rfl,decV_len,Ze rfl,lens_dec ts _ _ hF h0,Zd3 ns 3 0 _ hr.1];rfl
theorem decL_inj (ts:List PTie):∀(L:List Int) (n m:Int),(∀x∈L,FOk ts x)→decL ts L n=decL ts L m→remL ts L n=remL ts L m→n=m
 | [],n,m,_,_,h=>h
 | i :: L,n,m,hF,h,hr=>by
  rw[decL,decL] at h
  obtain⟨h1,h2⟩:=List.cons.inj h
  have:=decL_inj ts L _ _ (fun x hx=>hF x (by simp[hx])) h2 hr
  have e1:=Int.mul_ediv_add_emod n (facI ts i)
  have e2:=Int.mul_ediv_add_emod m (facI ts i)
  rw[this] at e1
  omega
theorem Zec (q:Int→Int):∀(d p:Nat) (r s:Int),0≤r→0≤s→decV q d p r=decV q d p s→remV q d p r=remV q d p s→r=s
 | 0,p,r,s,_,_,_,h=>h
 | d+1,p,r,s,h0,h1,h,hr=>by
  rw[decV,decV] at h
  rw[remV,remV] at hr
  by_cases hq:q (p:Int)≥0
  ·rw[if_pos hq,if_pos hq] at h hr
   obtain⟨a,c⟩:=List.cons.inj h
   have:=Zec q d (p+1) _ _ (by omega) (by omega) c hr
   omega
  ·rw[if_neg hq,if_neg hq] at h hr
   exact Zec q d (p+1) _ _ h0 h1 (List.cons.inj h).2 hr
theorem remL_lt (ts:List PTie):∀(L:List Int) (n:Int) (M:Nat),(∀x∈L,FOk ts x)→0≤n→n<((Za0 ts L * M:Nat):Int)→remL ts L n<(M:Int)
 | [],n,M,_,_,h=>by rw[Za0,Nat.one_mul] at h;exact h
 | i :: L,n,M,hF,h0,h=>by
  obtain⟨a,_⟩:=hF i (by simp)
  obtain⟨f,hf⟩:=Int.eq_ofNat_of_zero_le (show 0≤facI ts i by omega)
  refine remL_lt ts L _ M (fun x hx=>hF x (by simp[hx])) (div_le h0 a).1 ?_
  rw[Za0,hf,Int.toNat_natCast,Nat.mul_assoc] at h
  rw[hf]
  refine Int.ediv_lt_of_lt_mul (by omega) ?_
  rw[Int.mul_comm,← Int.natCast_mul]
  exact h
theorem Zc2 (q:Int→Int):∀(d p:Nat) (r:Int),0≤r→r<(pwV q d p:Int)→remV q d p r=0
 | 0,p,r,h0,h=>by
  simp only[pwV] at h
  show r=0
  omega
 | d+1,p,r,h0,h=>by
  rw[remV]
  rw[pwV] at h
  by_cases hq:q (p:Int)≥0
  ·rw[if_pos hq] at h ⊢
   exact Zc2 q d (p+1) _ (by omega) (by omega)
  ·rw[if_neg hq] at h ⊢
   exact Zc2 q d (p+1) _ h0 h
theorem choiceAt_inj {ns:List ZJ} {ts:List PTie} {z n m:Int} (hs:Z6 ns ts z=true) (hl:ts.length≤8) (h0:0≤n) (h1:n<ZaJ ns ts z) (g0:0≤m) (g1:m<ZaJ ns ts z) (e1:(Z5 ns ts z n).1=(Z5 ns ts z m).1) (e2:(Z5 ns ts z n).2.1=(Z5 ns ts z m).2.1):n=m:=by
 obtain⟨hc,p1,p2,q1,q2⟩:=Zed hs hl
 have hF:∀x∈Z2 ts,FOk ts x:=fun x hx=>free_ok (Zbn hs) hx
 rw[Zb1 hs hl h0 h1,Zb1 hs hl g0 g1] at e1 e2
 dsimp only at e1 e2
 rw[hc] at h1 g1
 have a1:=remL_lt ts _ n _ hF h0 h1
 have a2:=remL_lt ts _ m _ hF g0 g1
 have b1:=Zc6 ts _ n hF h0
 have b2:=Zc6 ts _ m hF g0
 refine decL_inj ts _ n m hF e1 (Zec _ 3 1 _ _ b1.1 b2.1 e2 ?_)
 rw[Zc2 _ 3 1 _ b1.1 a1,Zc2 _ 3 1 _ b2.1 a2]
theorem isNode_f (n x:Int):ZaE.f n x=some (Zbb n x):=by
 unfold ZaE.f Zbb
 by_cases h:x≥0
 ·rw[if_pos h,Ze (show(0:Int)≤x from h),Bool.true_and]
 ·rw[if_neg h,Zf (show ¬(0:Int)≤x from h),Bool.false_and]
theorem labFrom_all:∀(l:List Int) (p:Int),ZbI p l=true→∀x∈l,ZbC x=true:=by
 intro l
 induction l with
 | nil=>intro p _ x hx;simp at hx
 | cons y t ih=>
  intro p h x hx
  simp only[ZbI,Bool.and_eq_true] at h
  rcases List.mem_cons.1 hx with rfl|hx
  ·exact h.1.1
  ·exact ih _ h.2 x hx
theorem labB_all {l:List Int} (h:labB l=true):∀x∈l,ZbC x=true:=labFrom_all l 0 h
theorem Zd4 {v:List Int} (h:ZbM v=true):v.length=3∧∀i,-1≤v.getD i 0∧v.getD i 0≤1:=by
 simp only[ZbM,Bool.and_eq_true,decide_eq_true_eq,List.all_eq_true] at h
 refine⟨h.1,fun i=>?_⟩
 by_cases hi:i<v.length
 ·exact h.2 _ (ZaY hi 0)
 ·rw[List.getD_eq_getElem?_getD,List.getElem?_eq_none (by omega)];simp
theorem mn_min (a b:Int):mn a b=min a b:=by unfold mn;split <;> omega
theorem holds_f {x:Int} {v:List Int} (hx:ZbC x=true) (hv:ZbM v=true):impl_holds.f x v=some (if x<0 then -(v.getD (prp x - 1).toNat 0) else v.getD (prp x - 1).toNat 0):=by
 have hp:=prp_pos hx
 obtain⟨h3,hb⟩:=Zd4 hv
 have hb':=hb (prp x - 1).toNat
 unfold impl_holds.f
 rw[ZcS hx,Zi,Z1 (i:=prp x - 1) (by omega) (by omega),if_pos (by omega),if_pos (by omega)]
 have e:rd v (prp x - 1)=v.getD (prp x - 1).toNat 0:=rfl
 rw[e,Z1 (by omega) (by omega)]
 split <;> rfl
def labStB (l v:List Int):Int:=if labB l && ZbM v then stB l v else -1
theorem ZcD (l v:List Int) (hl:l.length≤9223372036854775807) (k:Nat) (hk:2 ^ 65≤k):ZM.f k l v=some (labStB l v):=by
 unfold ZM.f labStB
 obtain⟨m,rfl⟩:∃m,k=m+1:=⟨k - 1,by omega⟩
 rw[Zb4 l hl _ (by omega),Zi]
 cases h:labB l
 ·rfl
 ·rw[if_pos rfl]
  unfold Zbi.f
  rw[Zi]
  cases h2:ZbM v
  ·rfl
  ·simp only[ZM.j0,Bool.not_true,Bool.false_eq_true,if_false]
   have key:=Zc7 l.length (fun k i=>∀a:Int,ZM.l0 k v a l l.length (i:Int)=some (stFrom v a (l.drop i))) 0
    (fun k _ a=>by simp[ZM.l0,stFrom])
    (fun k i _ hi ih a=>by
     simp only[ZM.l0]
     have hx:=labB_all h _ (ZaY hi 0)
     rw[if_pos (by omega),if_pos (by omega),if_pos (by omega),Zbq,Z9 hi (by omega),Za2 hi 0,holds_f hx h2,Zi,ih,mn_min]
     rfl) 0 m (Nat.zero_le _) (by omega)
   have:=key 1
   rw[List.drop_zero] at this
   rw[show((0:Nat):Int)=0 from rfl] at this
   rw[this];rfl
theorem nodes_lab {ns:List ZJ} (h:ZW ns=true):∀n∈ns,labB n.f1=true:=by
 intro n hn
 obtain⟨j,hj,rfl⟩:=List.mem_iff_getElem.1 hn
 have:=Zc0 h j hj
 unfold Zcy nodeB at this
 rw[show ns.getD j z54=ns[j] by rw[List.getD_eq_getElem?_getD,Zl hj];rfl] at this
 simp only[Bool.and_eq_true] at this
 exact this.1.1.2
def hapB (ns:List ZJ) (vs:List Int) (i:Int):Bool:=stB (Zy ns i).f1 vs == 1
theorem ZdJ {ns:List ZJ} {i:Int} (h0:0≤i) (h1:i<ns.length):Zy ns i∈ns:=by
 obtain⟨m,rfl⟩:=Int.eq_ofNat_of_zero_le h0
 rw[show Zy ns ((m:Nat):Int)=ns.getD m z54 from Zco ns m]
 exact ZaY (by omega) _
theorem Zc8 {ns:List ZJ} {ts:List PTie} (z:Int) (ln vs:List Int) (i:Int) (hc:ZbK ns ts) (hn:ZW ns=true) (hv:ZbM vs=true) (h0:0≤i) (h1:i<ns.length) (k:Nat) (hk:2 ^ 65≤k):Z7.f k ns ts z ln vs i=some (hapB ns vs i):=by
 have hm:=ZdJ h0 h1
 have hs:=(hc.2.2 _ hm).2
 unfold Z7.f hapB
 rw[if_pos h0,if_pos h1,ZcD _ vs (by omega) k hk,Zi]
 unfold labStB
 rw[nodes_lab hn _ hm,hv];rfl
theorem nodeIn_iff {n x:Int} (h:Zbb n x=true):0≤x∧x<n:=by
 unfold Zbb at h
 rw[Bool.and_eq_true,decide_eq_true_eq,decide_eq_true_eq] at h
 exact h
theorem Zd0 {ns:List ZJ} {ts:List PTie} {z:Int} {ln vs:List Int} (h:Zbd ns ts z ln vs=true):Z6 ns ts z=true∧ZaN ns ts ln vs=true:=by
 unfold Zbd at h
 rw[Bool.and_eq_true] at h
 exact h
def bs (l:List UInt8):ByteArray:=⟨l.toArray⟩
theorem bs_of (a:ByteArray):bs a.data.toList=a:=by unfold bs;simp
theorem bs_list (l:List UInt8):(bs l).data.toList=l:=by unfold bs;simp
theorem bs_size (l:List UInt8):(bs l).size=l.length:=by unfold bs;simp[ByteArray.size]
theorem ZbO (n:Int) (h0 : -9223372036854775808≤n) (h1:n≤9223372036854775807):Zae.f n=some (bs (Lib.itoa n)):=by
 unfold Zae.f
 rw[if_pos ⟨h0,h1⟩];rfl
theorem dec_len:∀(d m:Nat),m<10 ^ (d+1)→(Lib.decDigits m).length≤d+1
 | d,m,hm=>by
  by_cases c:m<10
  ·rw[Lib.decDigits,dif_pos c];simp only[List.length_singleton];omega
  ·cases d with
   | zero=>simp at hm;omega
   | succ d=>
    have h:=dec_len d (m / 10) (by rw[Nat.pow_succ] at hm;omega)
    rw[Lib.decDigits,dif_neg c,List.length_append,List.length_singleton];omega
theorem itoa_len (n:Int) (h0 : -9223372036854775808≤n) (h1:n≤9223372036854775807):(Lib.itoa n).length≤20:=by
 by_cases c:n<0
 ·have:=dec_len 18 n.natAbs (by omega)
  rw[Lib.itoa,if_pos c,List.length_cons];omega
 ·rw[Lib.itoa,if_neg c]
  have:=dec_len 18 n.toNat (by omega)
  omega
abbrev bl (l:List ByteArray):List (List UInt8):=l.map (·.data.toList)
theorem impl_Join_f (l:List ByteArray) (sep:ByteArray) (hl:l.length≤1048576) (hb:(Lib.join (bl l) sep.data.toList).length≤140737488355328):Za1.f l sep=some (bs (Lib.join (bl l) sep.data.toList)):=by
 unfold Za1.f
 rw[if_pos ⟨hl,hb⟩];rfl
theorem ZcN {ns:List ZJ} {ts:List PTie}:∀(d i:Nat),Za8 ns ts i d=true→∀j,i≤j→j<i+d→Zca ns ts j=true
 | 0,i,_,j,h1,h2=>by omega
 | d+1,i,h,j,h1,h2=>by
  rw[Za8,Bool.and_eq_true] at h
  by_cases e:j=i
  ·rw[e];exact h.1
  ·exact ZcN d (i+1) h.2 j (by omega) (by omega)
theorem tie_bd {ns:List ZJ} {ts:List PTie} (h:Zan ns ts=true) {j:Int} (h0:0≤j) (h1:j<ts.length) :
  (0≤(Zz ts j).f0∧(Zz ts j).f0<ns.length)∧(0≤(Zz ts j).f1∧(Zz ts j).f1<ns.length)∧(-20≤(Zz ts j).f2∧(Zz ts j).f2≤20)∧(-20≤(Zz ts j).f3∧(Zz ts j).f3≤20):=by
 obtain⟨m,rfl⟩:=Int.eq_ofNat_of_zero_le h0
 unfold Zan at h
 rw[Bool.and_eq_true] at h
 have:=ZcN _ _ h.1 m (Nat.zero_le _) (by omega)
 unfold Zca Zbk at this
 simp only[Zbb,Zcs,Bool.and_eq_true,decide_eq_true_eq] at this
 obtain⟨⟨⟨⟨⟨⟨a,b⟩,_⟩,c⟩,d⟩,_⟩,_⟩:=this
 omega
theorem Zdq {ns:List ZJ} {ts:List PTie} (h:Zan ns ts=true):ts.length≤14:=by
 unfold Zan at h
 rw[Bool.and_eq_true,decide_eq_true_eq] at h
 exact h.2
theorem Zb8 {ns:List ZJ} (h:ZW ns=true):ns.length≤7:=by
 unfold ZW at h
 simp only[Bool.and_eq_true,decide_eq_true_eq] at h
 exact h.1.1.1.2
theorem Zdd {ns:List ZJ} (h:ZW ns=true) {j:Int} (h0:0≤j) (h1:j<ns.length):(Zy ns j).f0.size≤8∧labB (Zy ns j).f1=true∧0≤(Zy ns j).f2∧(Zy ns j).f2≤3:=by
 obtain⟨m,rfl⟩:=Int.eq_ofNat_of_zero_le h0
 have:=Zc0 h m (by omega)
 rw[Zco]
 unfold Zcy nodeB nameB at this
 simp only[Bool.and_eq_true,decide_eq_true_eq] at this
 obtain⟨⟨⟨⟨_,_,a⟩,b⟩,c,d⟩,_⟩:=this
 exact⟨a,b,c,d⟩
def nmL (ns:List ZJ) (i:Int):List UInt8:=(Zy ns i).f0.data.toList
theorem nm_bs (ns:List ZJ) (i:Int):(Zy ns i).f0=bs (nmL ns i):=(bs_of _).symm
theorem nm_len {ns:List ZJ} (h:ZW ns=true) {j:Int} (h0:0≤j) (h1:j<ns.length):(nmL ns j).length≤8:=by
 have:=(Zdd h h0 h1).1
 rw[nm_bs,bs_size] at this
 exact this
def tieW (b:Bool):List UInt8:=if b=true then[102,114,101,101] else[116,105,101]
def tieT (ns:List ZJ) (t:PTie):List UInt8:=tieW t.f4 ++ [32] ++ nmL ns t.f0 ++ [32] ++ nmL ns t.f1 ++ [32] ++ Lib.itoa t.f2 ++ [32] ++ Lib.itoa t.f3
theorem tieT_join (ns:List ZJ) (t:PTie):Lib.join [tieW t.f4,nmL ns t.f0,nmL ns t.f1,Lib.itoa t.f2,Lib.itoa t.f3] [32]=tieT ns t:=by
 simp[Lib.join,Lib.joinTail,tieT]
theorem tieT_len {ns:List ZJ} {ts:List PTie} (hn:ZW ns=true) (h:Zan ns ts=true) {j:Int} (h0:0≤j) (h1:j<ts.length):(tieT ns (Zz ts j)).length≤80:=by
 obtain⟨a,b,c,d⟩:=tie_bd h h0 h1
 have e1:=nm_len hn a.1 a.2
 have e2:=nm_len hn b.1 b.2
 have e3:=itoa_len _ (show -9223372036854775808≤(Zz ts j).f2 by omega) (by omega)
 have e4:=itoa_len _ (show -9223372036854775808≤(Zz ts j).f3 by omega) (by omega)
 have e5:(tieW (Zz ts j).f4).length≤4:=by unfold tieW;split <;> simp
 unfold tieT
 simp only[List.length_append,List.length_cons,List.length_nil]
 omega
theorem ZeO {ns:List ZJ} {ts:List PTie} (z:Int) (hn:ZW ns=true) (h:Zan ns ts=true) {j:Int} (h0:0≤j) (h1:j<ts.length):ZaP.f ns ts z j=some (bs (tieT ns (Zz ts j))):=by
 obtain⟨a,b,c,d⟩:=tie_bd h h0 h1
 have hl:=tieT_len hn h h0 h1
 unfold ZaP.f
 rw[if_pos h0,if_pos h1]
 have hj:∀w:ByteArray,w=bs (tieW (Zz ts j).f4)→Za1.f [w,(Zy ns (Zz ts j).f0).f0,(Zy ns (Zz ts j).f1).f0,bs (Lib.itoa (Zz ts j).f2),bs (Lib.itoa (Zz ts j).f3)] ⟨#[32]⟩=some (bs (tieT ns (Zz ts j))):=by
  rintro w rfl
  rw[nm_bs,nm_bs,show(⟨#[32]⟩:ByteArray)=bs [32] from rfl]
  have e:bl [bs (tieW (Zz ts j).f4),bs (nmL ns (Zz ts j).f0),bs (nmL ns (Zz ts j).f1),bs (Lib.itoa (Zz ts j).f2),bs (Lib.itoa (Zz ts j).f3)]=[tieW (Zz ts j).f4,nmL ns (Zz ts j).f0,nmL ns (Zz ts j).f1,Lib.itoa (Zz ts j).f2,Lib.itoa (Zz ts j).f3]:=by simp only[bl,List.map_cons,List.map_nil,bs_list]
  rw[impl_Join_f _ _ (by simp) (by rw[e,bs_list,tieT_join];omega),e,bs_list,tieT_join]
 by_cases hb:(Zz ts j).f4=true
 ·rw[if_pos hb,if_pos a.1,if_pos a.2,if_pos b.1,if_pos b.2,ZbO _ (by omega) (by omega),Zi,ZbO _ (by omega) (by omega),Zi,hj _ (by unfold tieW;rw[if_pos hb];rfl),Zi]
 ·rw[if_neg hb,if_pos a.1,if_pos a.2,if_pos b.1,if_pos b.2,ZbO _ (by omega) (by omega),Zi,ZbO _ (by omega) (by omega),Zi,hj _ (by unfold tieW;rw[if_neg hb];rfl),Zi]
def cat {α:Type} (g:Nat→List α):Nat→Nat→List α
 | 0,_=>[]
 | d+1,i=>g i ++ cat g d (i+1)
theorem Zbe {α:Type} {g:Nat→List α} {m:Nat}:∀(d i:Nat),(∀j,i≤j→j<i+d→(g j).length≤m)→(cat g d i).length≤d * m
 | 0,_,_=>by simp[cat]
 | d+1,i,h=>by
  have h1:=h i (Nat.le_refl _) (by omega)
  have h2:=Zbe (g:=g) d (i+1) (fun j a b=>h j (by omega) (by omega))
  rw[cat,List.length_append,Nat.succ_mul]
  omega
theorem ZcJ {α β:Type} {step:Nat→List α×List β→Option (List α×List β)} {g:Nat→List α} {h:Nat→List β} {n B:Nat}
  (hs:∀i x y,i<n→x.length+(g i).length≤B→y.length+(h i).length≤B→step i (x,y)=some (x ++ g i,y ++ h i)):∀(d i:Nat) (x:List α) (y:List β),i+d=n→x.length+(cat g d i).length≤B→y.length+(cat h d i).length≤B→run step d i (x,y)=some (x ++ cat g d i,y ++ cat h d i)
 | 0,i,x,y,_,_,_=>by simp[run,cat]
 | d+1,i,x,y,hi,hx,hy=>by
  rw[cat,List.length_append] at hx hy
  rw[run,hs i x y (by omega) (by omega) (by omega),Zi,ZcJ hs d (i+1) _ _ (by omega) (by rw[List.length_append];omega) (by rw[List.length_append];omega),cat,cat,List.append_assoc,List.append_assoc]
abbrev PLk:=S113
def lkH (z:Int) (i:Nat):PLk:=⟨0,(i:Int),⟨0,z⟩⟩
def lenAt (ts:List PTie) (ln:List Int) (i:Nat):Int:=rd ln (ZaK (fun y=>decide ((i:Int)=y)) (Z2 ts))
def lkT (ts:List PTie) (ln:List Int) (i:Nat):PLk:=⟨(Zz ts (i:Int)).f0,(Zz ts (i:Int)).f1,if (Zz ts (i:Int)).f4=true then⟨lenAt ts ln i,lenAt ts ln i⟩ else⟨(Zz ts (i:Int)).f2,(Zz ts (i:Int)).f3⟩⟩
def lkW (ns:List ZJ) (i:Nat) (x:Int):PLk:=⟨Zad ns (prp x),(i:Int),⟨1,1000000⟩⟩
def lbL (ns:List ZJ) (i:Nat):List Int:=(Zy ns (i:Int)).f1
def tieH (ns:List ZJ) (ts:List PTie) (vs:List Int) (i:Nat):Bool:=hapB ns vs (Zz ts (i:Int)).f0 && hapB ns vs (Zz ts (i:Int)).f1
def gA (ns:List ZJ) (vs:List Int) (z:Int) (i:Nat):List PLk:=if hapB ns vs (i:Int)=true then[lkH z i] else[]
def gB (ns:List ZJ) (ts:List PTie) (ln vs:List Int) (i:Nat):List PLk:=if tieH ns ts vs i=true then[lkT ts ln i] else[]
def gC (ns:List ZJ) (vs:List Int) (i:Nat):List PLk:=if hapB ns vs (i:Int)=true then[] else[lkH 0 i]
def gE (ns:List ZJ) (vs:List Int) (i:Nat) (j:Nat):List PLk:=if hapB ns vs (i:Int)=true then[lkW ns i (rd (lbL ns i) (j:Int))] else[]
def gD (ns:List ZJ) (vs:List Int) (i:Nat):List PLk:=cat (gE ns vs i) (lbL ns i).length 0
def hor (ns:List ZJ) (i:Nat):ByteArray:=(⟨#[104,111,114,105,122,111,110,32]⟩:ByteArray) ++ (Zy ns (i:Int)).f0
def rA (ns:List ZJ) (vs:List Int) (i:Nat):List ByteArray:=if hapB ns vs (i:Int)=true then[hor ns i] else[]
def rB (ns:List ZJ) (ts:List PTie) (vs:List Int) (i:Nat):List ByteArray:=if tieH ns ts vs i=true then[bs (tieT ns (Zz ts (i:Int)))] else[]
def rC (ns:List ZJ) (vs:List Int) (t:Nat→ByteArray) (i:Nat):List ByteArray:=if hapB ns vs (i:Int)=true then[] else[t i]
def aft (ns:List ZJ) (i:Nat) (x:Int):ByteArray:=Zv.after (Zy ns (Zad ns (prp x))).f0 (Zy ns (i:Int)).f0
def rE (ns:List ZJ) (vs:List Int) (i:Nat) (j:Nat):List ByteArray:=if hapB ns vs (i:Int)=true then[aft ns i (rd (lbL ns i) (j:Int))] else[]
def rD (ns:List ZJ) (vs:List Int) (i:Nat):List ByteArray:=cat (rE ns vs i) (lbL ns i).length 0
def ZbW (ns:List ZJ) (ts:List PTie) (z:Int) (ln vs:List Int):List PLk:=cat (gA ns vs z) ns.length 0 ++ cat (gB ns ts ln vs) ts.length 0 ++ cat (gC ns vs) ns.length 0 ++ cat (gD ns vs) ns.length 0
def projR (ns:List ZJ) (ts:List PTie) (vs:List Int) (t:Nat→ByteArray):List ByteArray:=cat (rA ns vs) ns.length 0 ++ cat (rB ns ts vs) ts.length 0 ++ cat (rC ns vs t) ns.length 0 ++ cat (rD ns vs) ns.length 0
theorem ZcL {α:Type} (b:Bool) (x:α):(if b=true then[x] else[]).length≤1:=by cases b <;> simp
theorem ite_len' {α:Type} (b:Bool) (x:α):(if b=true then[] else[x]).length≤1:=by cases b <;> simp
theorem gA_len (ns:List ZJ) (vs:List Int) (z:Int) (i:Nat):(gA ns vs z i).length≤1:=ZcL _ _
theorem gB_len (ns:List ZJ) (ts:List PTie) (ln vs:List Int) (i:Nat):(gB ns ts ln vs i).length≤1:=ZcL _ _
theorem gC_len (ns:List ZJ) (vs:List Int) (i:Nat):(gC ns vs i).length≤1:=ite_len' _ _
theorem gE_len (ns:List ZJ) (vs:List Int) (i j:Nat):(gE ns vs i j).length≤1:=ZcL _ _
theorem rA_len (ns:List ZJ) (vs:List Int) (i:Nat):(rA ns vs i).length≤1:=ZcL _ _
theorem rB_len (ns:List ZJ) (ts:List PTie) (vs:List Int) (i:Nat):(rB ns ts vs i).length≤1:=ZcL _ _
theorem rC_len (ns:List ZJ) (vs:List Int) (t:Nat→ByteArray) (i:Nat):(rC ns vs t i).length≤1:=ite_len' _ _
theorem rE_len (ns:List ZJ) (vs:List Int) (i j:Nat):(rE ns vs i j).length≤1:=ZcL _ _
theorem ZdY:∀(l:List Int) (p:Int),0≤p→p≤3→ZbI p l=true→(l.length:Int)+p≤3
 | [],p,_,h,_=>by simp;omega
 | x :: t,p,h0,h1,h=>by
  rw[ZbI,Bool.and_eq_true,Bool.and_eq_true,decide_eq_true_eq] at h
  have h3:=prp_pos h.1.1
  have:=ZdY t (prp x) (by omega) (by omega) h.2
  rw[List.length_cons];omega
theorem Zde {l:List Int} (h:labB l=true):l.length≤3:=by
 have:=ZdY l 0 (by omega) (by omega) h
 omega
theorem lbL_ok {ns:List ZJ} (h:ZW ns=true) {i:Nat} (hi:i<ns.length):labB (lbL ns i)=true:=nodes_lab h _ (ZdJ (by omega) (by omega))
theorem gD_len {ns:List ZJ} (h:ZW ns=true) (vs:List Int) {i:Nat} (hi:i<ns.length):(gD ns vs i).length≤3:=by
 have h1:=Zbe (m:=1) (g:=gE ns vs i) (lbL ns i).length 0 (fun j _ _=>gE_len ns vs i j)
 have h2:=Zde (lbL_ok h hi)
 unfold gD
 omega
theorem rD_len {ns:List ZJ} (h:ZW ns=true) (vs:List Int) {i:Nat} (hi:i<ns.length):(rD ns vs i).length≤3:=by
 have h1:=Zbe (m:=1) (g:=rE ns vs i) (lbL ns i).length 0 (fun j _ _=>rE_len ns vs i j)
 have h2:=Zde (lbL_ok h hi)
 unfold rD
 omega
theorem watch_in {ns:List ZJ} {ts:List PTie} {z:Int} (h:Z6 ns ts z=true) {i:Nat} (hi:i<ns.length) {x:Int} (hx:x∈lbL ns i):0≤Zad ns (prp x)∧Zad ns (prp x)<ns.length:=by
 unfold Z6 at h
 rw[Bool.and_eq_true] at h
 have h1:=List.all_eq_true.1 h.2 _ (ZdJ (ns:=ns) (i:=(i:Int)) (by omega) (by omega))
 unfold ZbG at h1
 rw[Bool.not_eq_true',List.any_eq_false] at h1
 have h2:=h1 x hx
 rw[Bool.not_eq_true',Bool.not_eq_false] at h2
 unfold ZbL Zd2 at h2
 simp only[Bool.and_eq_true,decide_eq_true_eq] at h2
 exact⟨h2.1.1.1,(Zd8 _ ns).2⟩
theorem free_idx {ts:List PTie} {i:Nat} (hi:i<ts.length) (hf:(Zz ts (i:Int)).f4=true):0≤ZaK (fun y=>decide ((i:Int)=y)) (Z2 ts)∧ZaK (fun y=>decide ((i:Int)=y)) (Z2 ts)<(Z2 ts).length:=by
 refine⟨?_,(Zd8 _ _).2⟩
 have h:(Z2 ts).any (fun y=>decide ((i:Int)=y))=true:=by
  refine List.any_eq_true.2 ⟨(i:Int),?_,Ze rfl⟩
  unfold Z2 Zb0
  refine List.mem_map.2 ⟨i,List.mem_filter.2 ⟨List.mem_range.2 hi,?_⟩,rfl⟩
  rw[← ZdI]
  exact hf
 rw[← Zce] at h
 exact Zd h
theorem ZcM {α:Type} {g:Nat→List α} {x:α}:∀(d i:Nat),x∈cat g d i→∃j,i≤j∧j<i+d∧x∈g j
 | 0,_,h=>by simp[cat] at h
 | d+1,i,h=>by
  rw[cat,List.mem_append] at h
  rcases h with h|h
  ·exact⟨i,Nat.le_refl _,by omega,h⟩
  ·obtain⟨j,h1,h2,h3⟩:=ZcM d (i+1) h
   exact⟨j,by omega,by omega,h3⟩
theorem idxOf_at {α:Type} (p:α→Bool) (l:List α) (d:α) (h:0≤ZaK p l):p (l.getD (ZaK p l).toNat d)=true:=by
 unfold ZaK at h ⊢
 cases hf:l.findIdx? p with
 | none=>rw[hf] at h;simp at h
 | some i=>
  obtain⟨hi,hp,_⟩:=List.findIdx?_eq_some_iff_getElem.1 hf
  simp only[Int.toNat_natCast]
  rw[List.getD_eq_getElem?_getD,Zl hi]
  exact hp
theorem lens_at {ts:List PTie}:∀(L l:List Int) (j:Nat),Zbt ts L l=true→L.length=l.length→j<L.length→(Zz ts (L.getD j 0)).f2≤l.getD j 0∧l.getD j 0≤(Zz ts (L.getD j 0)).f3
 | [],_,j,_,_,hj=>by simp at hj
 | k :: L,[],j,_,hl,_=>by simp at hl
 | k :: L,n :: l,0,h,_,_=>by
  rw[Zbt,Bool.and_eq_true,Bool.and_eq_true,decide_eq_true_eq,decide_eq_true_eq] at h
  exact h.1
 | k :: L,n :: l,j+1,h,hl,hj=>by
  rw[Zbt,Bool.and_eq_true] at h
  simp only[List.length_cons] at hl hj
  exact lens_at L l j h.2 (by omega) (by omega)
section
variable {ns:List ZJ} {ts:List PTie} {z:Int} {ln vs:List Int}
theorem len_bd (ht:Zan ns ts=true) (hc:ZaN ns ts ln vs=true) {i:Nat} (hi:i<ts.length) (hf:(Zz ts (i:Int)).f4=true):(Zz ts (i:Int)).f2≤lenAt ts ln i∧lenAt ts ln i≤(Zz ts (i:Int)).f3:=by
 have hx:=free_idx hi hf
 unfold ZaN at hc
 simp only[Bool.and_eq_true,decide_eq_true_eq] at hc
 have hat:=Zd (idxOf_at (fun y=>decide ((i:Int)=y)) (Z2 ts) 0 hx.1)
 unfold lenAt rd
 generalize ZaK (fun y=>decide ((i:Int)=y)) (Z2 ts)=q at hx hat
 have:=lens_at (Z2 ts) ln q.toNat hc.2.2.1 (by omega) (by omega)
 rw[← hat] at this
 exact this
theorem lk_ok {n a c lo hi:Int} (h1:0≤a∧a<n) (h2:0≤c∧c<n) (h3 : -1000000≤lo) (h4:lo≤hi) (h5:hi≤1000000) (h6:lo<1000000) (h7 : -1000000<hi):Zbs n ⟨a,c,⟨lo,hi⟩⟩=true:=by
 unfold Zbs inN ivOkB
 simp only[Bool.and_eq_true,decide_eq_true_eq,Bool.not_eq_true',decide_eq_false_iff_not]
 omega
theorem hor_bd (h:Z6 ns ts z=true):1≤z∧z≤10:=by
 unfold Z6 at h
 simp only[Bool.and_eq_true,Bool.not_eq_true',decide_eq_false_iff_not] at h
 omega
theorem proj_links (hs:Z6 ns ts z=true) (hc:ZaN ns ts ln vs=true):∀x∈ZbW ns ts z ln vs,Zbs (ns.length:Int) x=true:=by
 have hn:=ZaO hs
 have ht:=Zbn hs
 have hz:=hor_bd hs
 have n1:1≤ns.length:=by
  have:=hn
  unfold ZW at this
  simp only[Bool.and_eq_true,decide_eq_true_eq] at this
  exact this.1.1.1.1
 intro x hx
 unfold ZbW at hx
 simp only[List.mem_append] at hx
 rcases hx with ((hx|hx)|hx)|hx
 ·obtain⟨j,_,hj,hg⟩:=ZcM _ _ hx
  unfold gA at hg
  split at hg
  ·rw[List.mem_singleton] at hg;subst hg
   exact lk_ok ⟨by omega,by omega⟩ ⟨by omega,by omega⟩ (by omega) (by omega) (by omega) (by omega) (by omega)
  ·cases hg
 ·obtain⟨j,_,hj,hg⟩:=ZcM _ _ hx
  unfold gB at hg
  split at hg
  ·rw[List.mem_singleton] at hg;subst hg
   have hj':j<ts.length:=by omega
   obtain⟨a,b,c,d⟩:=tie_bd ht (show(0:Int)≤(j:Int) by omega) (by omega)
   have hl:=len_bd ht hc hj'
   have hlh:(Zz ts (j:Int)).f2≤(Zz ts (j:Int)).f3:=by
    have:=ZcN _ _ (by unfold Zan at ht;rw[Bool.and_eq_true] at ht;exact ht.1) j (Nat.zero_le _) (by omega)
    unfold Zca Zbk at this
    simp only[Bool.and_eq_true,Bool.not_eq_true',decide_eq_false_iff_not] at this
    omega
   unfold lkT
   by_cases hf:(Zz ts (j:Int)).f4=true
   ·rw[if_pos hf]
    have:=hl hf
    exact lk_ok a b (by omega) (by omega) (by omega) (by omega) (by omega)
   ·rw[if_neg hf]
    exact lk_ok a b (by omega) hlh (by omega) (by omega) (by omega)
  ·cases hg
 ·obtain⟨j,_,hj,hg⟩:=ZcM _ _ hx
  unfold gC at hg
  split at hg
  ·cases hg
  ·rw[List.mem_singleton] at hg;subst hg
   exact lk_ok ⟨by omega,by omega⟩ ⟨by omega,by omega⟩ (by omega) (by omega) (by omega) (by omega) (by omega)
 ·obtain⟨j,_,hj,hg⟩:=ZcM _ _ hx
  unfold gD at hg
  obtain⟨q,_,hq,hg⟩:=ZcM _ _ hg
  unfold gE at hg
  split at hg
  ·rw[List.mem_singleton] at hg;subst hg
   have hm:rd (lbL ns j) (q:Int)∈lbL ns j:=by rw[Zbq];exact ZaY (by omega) 0
   have hw:=watch_in hs (show j<ns.length by omega) hm
   exact lk_ok hw ⟨by omega,by omega⟩ (by omega) (by omega) (by omega) (by omega) (by omega)
  ·cases hg
theorem proj_few (hs:Z6 ns ts z=true) (hl:∀n∈ns,n.f1.length≤1) (ht:ts.length≤8):(ZbW ns ts z ln vs).length≤40:=by
 have h7:=Zb8 (ZaO hs)
 have a:=Zbe (g:=gA ns vs z) (m:=1) ns.length 0 (fun j _ _=>gA_len ns vs z j)
 have b:=Zbe (g:=gB ns ts ln vs) (m:=1) ts.length 0 (fun j _ _=>gB_len ns ts ln vs j)
 have c:=Zbe (g:=gC ns vs) (m:=1) ns.length 0 (fun j _ _=>gC_len ns vs j)
 have d:=Zbe (g:=gD ns vs) (m:=1) ns.length 0 (fun j _ hj=>by
  unfold gD
  have:=Zbe (g:=gE ns vs j) (m:=1) (lbL ns j).length 0 (fun i _ _=>gE_len ns vs j i)
  have h1:=hl _ (ZdJ (ns:=ns) (i:=(j:Int)) (by omega) (by omega))
  have h2:(lbL ns j).length≤1:=h1
  omega)
 unfold ZbW
 simp only[List.length_append]
 omega
theorem ZdV (hs:Z6 ns ts z=true) (hl:∀n∈ns,n.f1.length≤1) (ht:ts.length≤8) (hc:ZaN ns ts ln vs=true):ZaT (ns.length:Int) (ZbW ns ts z ln vs)=true:=by
 have h7:=Zb8 (ZaO hs)
 have n1:1≤ns.length:=by
  have:=ZaO hs
  unfold ZW at this
  simp only[Bool.and_eq_true,decide_eq_true_eq] at this
  exact this.1.1.1.1
 have h40:=proj_few (ln:=ln) (vs:=vs) hs hl ht
 have hx:(ZbW ns ts z ln vs).any (fun x=>!Zbs (ns.length:Int) x)=false:=by
  rw[List.any_eq_false]
  intro x hx
  rw[proj_links hs hc x hx];simp
 unfold ZaT
 rw[hx,Zf (show ¬(ns.length:Int)<1 by omega),Zf (show ¬(8:Int)<ns.length by omega),Zf (show ¬40<(ZbW ns ts z ln vs).length by omega)];rfl
end
theorem Zch {ns:List ZJ} {ts:List PTie} {z:Int} (n:Int) (hc:ZbK ns ts) (k:Nat) (hk:2 ^ 66≤k):Z0.f k ns ts z n=some (Z5 ns ts z n):=by
 unfold Z0.f Z5
 by_cases h0:n<0
 ·rw[if_pos h0,if_neg (by omega)]
 rw[if_neg h0,Zcn (z:=z) (fitN_of hc) hc.2.1 k (by omega),Zi]
 by_cases h1:n≥ZaJ ns ts z
 ·rw[if_pos h1,if_neg (by omega)]
 have ht:=count_show (by omega) (show n<ZaJ ns ts z by omega)
 rw[if_neg h1,if_pos (by omega)]
 unfold Zbh.f
 obtain⟨q,e1,e2,_⟩:=wq_of (wq_impl ns ts z)
 rw[ZcF ns ts z hc.2.1 k (by omega),Zi,if_pos (okF_free ht hc.2.1),e1,Zi,Zi]
 unfold atAll
 rw[e2]
theorem addB {a:Zv.Acc} {x:PLk} {s:ByteArray} (h1:a.1.length<4398046511104) (h2:a.2.length<4398046511104) (h3:s.size≤9223372036854775807):Zv.add a x s=some (a.1 ++ [x],a.2 ++ [s]):=if_pos ⟨h1,h2,h3⟩
theorem hap_f {ns:List ZJ} {ts:List PTie} {z:Int} {ln vs:List Int} (hc:ZbK ns ts) (hs:Z6 ns ts z=true) (hv:ZbM vs=true) (k:Nat) (hk:2 ^ 65≤k) (i:Int) (h0:0≤i) (h1:i<ns.length):Zv.hap k ns ts z ln vs i=some (hapB ns vs i):=
 Zc8 z ln vs i hc (ZaO hs) hv h0 h1 k hk
theorem ZdA {ns:List ZJ} (h:ZW ns=true) {i:Int} (h0:0≤i) (h1:i<ns.length):(Zy ns i).f0.size≤8:=(Zdd h h0 h1).1
theorem stA_f {ns:List ZJ} {ts:List PTie} {z:Int} {vs:List Int} {hp:Int→Option Bool} (hn:ZW ns=true) (hh:∀i:Int,0≤i→i<ns.length→hp i=some (hapB ns vs i)) (i:Nat) (x:List PLk) (y:List ByteArray) (hi:i<ns.length) (hx:x.length+(gA ns vs z i).length≤4194304) (hy:y.length+(rA ns vs i).length≤4194304) :
  Zv.stA hp ns ts z i (x,y)=some (x ++ gA ns vs z i,y ++ rA ns vs i):=by
 unfold Zv.stA
 rw[hh i (by omega) (by omega),Zi]
 unfold gA at hx ⊢
 unfold rA at hy ⊢
 generalize hapB ns vs (i:Int)=b at hx hy ⊢
 cases b with
 | false=>simp only[Bool.false_eq_true,if_false,List.append_nil]
 | true=>
  simp only[if_true] at hx hy ⊢
  have:=ZdA hn (i:=(i:Int)) (by omega) (by omega)
  rw[addB (by show x.length<_;simp only[List.length_cons,List.length_nil] at hx;omega) (by show y.length<_;simp only[List.length_cons,List.length_nil] at hy;omega) (by rw[ByteArray.size_append];show 8+_≤_;omega)]
  rfl
theorem stC_f {ns:List ZJ} {vs:List Int} {hp:Int→Option Bool} (hh:∀i:Int,0≤i→i<ns.length→hp i=some (hapB ns vs i)) (i:Nat) (x:List PLk) (y:List ByteArray) (hi:i<ns.length) (hx:x.length+(gC ns vs i).length≤4194304) (hy:y.length+(rC ns vs (fun _=>⟨#[]⟩) i).length≤4194304) :
  Zv.stC hp i (x,y)=some (x ++ gC ns vs i,y ++ rC ns vs (fun _=>⟨#[]⟩) i):=by
 unfold Zv.stC
 rw[hh i (by omega) (by omega),Zi]
 unfold gC at hx ⊢
 unfold rC at hy ⊢
 generalize hapB ns vs (i:Int)=b at hx hy ⊢
 cases b with
 | true=>simp only[if_true,List.append_nil]
 | false=>
  simp only[Bool.false_eq_true,if_false] at hx hy ⊢
  rw[addB (by show x.length<_;simp only[List.length_cons,List.length_nil] at hx;omega) (by show y.length<_;simp only[List.length_cons,List.length_nil] at hy;omega) (by show(0:Nat)≤_;omega)]
  rfl
theorem stE_f {ns:List ZJ} {ts:List PTie} {z:Int} {vs:List Int} {hp:Int→Option Bool} (hs:Z6 ns ts z=true) (hh:∀i:Int,0≤i→i<ns.length→hp i=some (hapB ns vs i)) (i:Nat) (hi:i<ns.length) (j:Nat) (x:List PLk) (y:List ByteArray) (hj:j<(lbL ns i).length) (hx:x.length+(gE ns vs i j).length≤4194304) (hy:y.length+(rE ns vs i j).length≤4194304) :
  Zv.stE hp ns ts z i (lbL ns i) j (x,y)=some (x ++ gE ns vs i j,y ++ rE ns vs i j):=by
 have hn:=ZaO hs
 have hm:rd (lbL ns i) (j:Int)∈lbL ns i:=by rw[Zbq];exact ZaY hj 0
 have hlit:=labB_all (lbL_ok hn hi) _ hm
 have hw:=watch_in hs hi hm
 unfold Zv.stE
 rw[hh i (by omega) (by omega),Zi]
 unfold gE at hx ⊢
 unfold rE at hy ⊢
 generalize hapB ns vs (i:Int)=b at hx hy ⊢
 cases b with
 | false=>simp only[Bool.false_eq_true,if_false,List.append_nil]
 | true=>
  simp only[if_true] at hx hy ⊢
  rw[ZcS hlit,Zi,Zaw.f,Zi,if_pos hw]
  have h1:=ZdA hn (i:=(i:Int)) (by omega) (by omega)
  have h2:=ZdA hn hw.1 hw.2
  rw[addB (by show x.length<_;simp only[List.length_cons,List.length_nil] at hx;omega) (by show y.length<_;simp only[List.length_cons,List.length_nil] at hy;omega) (by unfold Zv.after;rw[ByteArray.size_append,ByteArray.size_append,ByteArray.size_append];show 6+_+1+_≤_;omega)]
  rfl
theorem stD_f {ns:List ZJ} {ts:List PTie} {z:Int} {vs:List Int} {hp:Int→Option Bool} (hs:Z6 ns ts z=true) (hh:∀i:Int,0≤i→i<ns.length→hp i=some (hapB ns vs i)) (i:Nat) (x:List PLk) (y:List ByteArray) (hi:i<ns.length) (hx:x.length+(gD ns vs i).length≤4194304) (hy:y.length+(rD ns vs i).length≤4194304) :
  Zv.stD hp ns ts z i (x,y)=some (x ++ gD ns vs i,y ++ rD ns vs i):=by
 unfold gD at hx ⊢
 unfold rD at hy ⊢
 show run (Zv.stE hp ns ts z i (lbL ns i)) (lbL ns i).length 0 (x,y)=_
 exact ZcJ (n:=(lbL ns i).length) (B:=4194304) (fun j x y hj h1 h2=>stE_f hs hh i hi j x y hj h1 h2) _ 0 x y (by omega) hx hy
theorem stB_f {ns:List ZJ} {ts:List PTie} {z:Int} {ln vs:List Int} {hp:Int→Option Bool} (hs:Z6 ns ts z=true) (hl:ln.length=(Z2 ts).length) (hh:∀i:Int,0≤i→i<ns.length→hp i=some (hapB ns vs i)) (i:Nat) (x:List PLk) (y:List ByteArray) (hi:i<ts.length) (hx:x.length+(gB ns ts ln vs i).length≤4194304) (hy:y.length+(rB ns ts vs i).length≤4194304) :
  Zv.stB hp ns ts z ln (Z2 ts) i (x,y)=some (x ++ gB ns ts ln vs i,y ++ rB ns ts vs i):=by
 have hn:=ZaO hs
 have ht:=Zbn hs
 obtain⟨⟨f0,f1⟩,⟨g0,g1⟩,_⟩:=tie_bd ht (j:=(i:Int)) (by omega) (by omega)
 unfold Zv.stB
 rw[hh _ f0 f1,Zi]
 unfold gB tieH at hx ⊢
 unfold rB tieH at hy ⊢
 cases h1:hapB ns vs (Zz ts (i:Int)).f0 with
 | false=>simp only[Bool.false_and,Bool.false_eq_true,if_false,List.append_nil]
 | true=>
  rw[if_pos rfl,hh _ g0 g1,Zi]
  rw[h1,Bool.true_and] at hx hy
  rw[Bool.true_and]
  cases h2:hapB ns vs (Zz ts (i:Int)).f1 with
  | false=>simp only[Bool.false_eq_true,if_false,List.append_nil]
  | true=>
   rw[h2] at hx hy
   simp only[if_true] at hx hy ⊢
   have hspan:Zv.span (Z2 ts) ln i (Zz ts (i:Int))=some ((lkT ts ln i).f2.f0,(lkT ts ln i).f2.f1):=by
    unfold Zv.span lkT lenAt
    cases h4:(Zz ts (i:Int)).f4 with
    | false=>rfl
    | true=>
     have hq:=free_idx hi h4
     rw[if_pos rfl,if_pos ⟨hq.1,by rw[hl];exact hq.2⟩];rfl
   have hsz:=tieT_len hn ht (j:=(i:Int)) (by omega) (by omega)
   rw[hspan,Zi,ZeO z hn ht (by omega) (by omega),Zi,addB (by show x.length<_;simp only[List.length_cons,List.length_nil] at hx;omega) (by show y.length<_;simp only[List.length_cons,List.length_nil] at hy;omega) (by rw[bs_size];omega)]
   unfold lkT
   rfl
theorem ZeP {ns:List ZJ} {ts:List PTie} {z:Int} {ln vs:List Int} (hc:ZbK ns ts) (hs:Z6 ns ts z=true) (hch:ZaN ns ts ln vs=true) (k:Nat) (hk:2 ^ 65≤k):Zv.f k ns ts z ln vs=some ((ns.length:Int),ZbW ns ts z ln vs,projR ns ts vs (fun _=>⟨#[]⟩)):=by
 have hn:=ZaO hs
 have ht:=Zbn hs
 have n7:=Zb8 hn
 have t14:=Zdq ht
 have hl:ln.length=(Z2 ts).length:=by
  unfold ZaN at hch
  simp only[Bool.and_eq_true,decide_eq_true_eq] at hch
  exact hch.1
 have hh:∀i:Int,0≤i→i<ns.length→Zv.hap k ns ts z ln vs i=some (hapB ns vs i):=fun i h0 h1=>hap_f hc hs (Zcb hch) k hk i h0 h1
 have a1:=Zbe (m:=1) (g:=gA ns vs z) ns.length 0 (fun j _ _=>gA_len ns vs z j)
 have a2:=Zbe (m:=1) (g:=rA ns vs) ns.length 0 (fun j _ _=>rA_len ns vs j)
 have b1:=Zbe (m:=1) (g:=gB ns ts ln vs) ts.length 0 (fun j _ _=>gB_len ns ts ln vs j)
 have b2:=Zbe (m:=1) (g:=rB ns ts vs) ts.length 0 (fun j _ _=>rB_len ns ts vs j)
 have c1:=Zbe (m:=1) (g:=gC ns vs) ns.length 0 (fun j _ _=>gC_len ns vs j)
 have c2:=Zbe (m:=1) (g:=rC ns vs (fun _=>⟨#[]⟩)) ns.length 0 (fun j _ _=>rC_len ns vs _ j)
 have d1:=Zbe (m:=3) (g:=gD ns vs) ns.length 0 (fun j _ h=>gD_len hn vs (by omega))
 have d2:=Zbe (m:=3) (g:=rD ns vs) ns.length 0 (fun j _ h=>rD_len hn vs (by omega))
 unfold Zv.f
 rw[ZcJ (g:=gA ns vs z) (h:=rA ns vs) (n:=ns.length) (B:=4194304) (fun i x y hi h1 h2=>stA_f (ts:=ts) hn hh i x y hi h1 h2) _ 0 [] [] (by omega) (by simp only[List.length_nil];omega) (by simp only[List.length_nil];omega),Zi,List.nil_append,List.nil_append]
 unfold Zv.f1
 rw[ZcF ns ts z hc.2.1 k (by omega),Zi]
 rw[ZcJ (g:=gB ns ts ln vs) (h:=rB ns ts vs) (n:=ts.length) (B:=4194304) (fun i x y hi h1 h2=>stB_f hs hl hh i x y hi h1 h2) _ 0 _ _ (by omega) (by omega) (by omega),Zi]
 unfold Zv.f2
 rw[ZcJ (g:=gC ns vs) (h:=rC ns vs (fun _=>⟨#[]⟩)) (n:=ns.length) (B:=4194304) (fun i x y hi h1 h2=>stC_f hh i x y hi h1 h2) _ 0 _ _ (by omega) (by rw[List.length_append];omega) (by rw[List.length_append];omega),Zi]
 unfold Zv.f3
 rw[ZcJ (g:=gD ns vs) (h:=rD ns vs) (n:=ns.length) (B:=4194304) (fun i x y hi h1 h2=>stD_f hs hh i x y hi h1 h2) _ 0 _ _ (by omega) (by simp only[List.length_append];omega) (by simp only[List.length_append];omega),Zi]
 rfl
abbrev PLink:=S113
theorem simpleB_bd {n:Int} {L:List PLink} (h:ZaT n L=true):1≤n∧n≤8∧L.length≤40∧∀x∈L,Zbs n x=true:=by
 unfold ZaT at h
 simp only[Bool.and_eq_true,Bool.not_eq_true',decide_eq_false_iff_not] at h
 obtain⟨h1,h2,h3,h4⟩:=h
 refine⟨by omega,by omega,by omega,fun x hx=>?_⟩
 have:=List.any_eq_false.1 h4 x hx
 simpa using this
def fin2 (e:Int) (L:List PLk):Int×List PLk×Bool:=if ZaT e L=true then(e,L,true) else(0,[],false)
section
variable {ns:List ZJ} {ts:List PTie} {z:Int} {ln vs:List Int}
def ZcE (ns:List ZJ) (ts:List PTie) (z:Int) (ln vs:List Int):Int×List PLk×Bool:=if Zbd ns ts z ln vs=true then fin2 (ns.length:Int) (ZbW ns ts z ln vs) else(0,[],false)
end
theorem ZcA {ns:List ZJ} {ts:List PTie} {z:Int} {ln vs:List Int} (hc:ZbK ns ts) (hlv:vs.length≤1048576) (k:Nat) (hk:2 ^ 67≤k):ZaI.f k ns ts z ln vs=some (ZcE ns ts z ln vs):=by
 unfold ZaI.f ZcE
 rw[ZbY ln vs hc hlv k (by omega),Zi]
 by_cases h:Zbd ns ts z ln vs=true
 ·obtain⟨hs,hch⟩:=Zd0 h
  rw[if_pos h,if_pos h,ZeP hc hs hch k (by omega),Zi]
  show((Zau.f (ns.length:Int) (ZbW ns ts z ln vs)).bind _)=_
  rw[show Zau.f (ns.length:Int) (ZbW ns ts z ln vs)=some (ZaT (ns.length:Int) (ZbW ns ts z ln vs)) from rfl,Zi,fin2]
  split <;> rfl
 ·rw[if_neg h,if_neg h]
def gofB (n:Int) (L:List PLink):Int×List Zam:=if ZaT n L=true then(n,ZbS L) else(0,[])
theorem ZeS (n:Int) (L:List PLink) (k:Nat) (_hk:2 ^ 64≤k):ZbJ.f k n L=some (gofB n L):=by
 unfold ZbJ.f gofB Zau.f
 rw[Zi]
 by_cases h:ZaT n L=true
 ·rw[if_pos h,if_pos h,ZZ.f,if_pos (show L.length≤1048576 by have:=simpleB_bd h;omega)];rfl
 ·rw[if_neg h,if_neg h]
def ncF (n:Int) (E:List Zam):List Int:=if ZbE n E=true then ncB n.toNat E else[]
def consB (n:Int) (L:List PLink):Bool:=ZaT n L && (ncF n (ZbS L)).isEmpty
theorem Zcm (n:Int) (L:List PLink) (k:Nat) (hk:2 ^ 64≤k):Zaz.f k n L=some (consB n L):=by
 unfold Zaz.f consB Zau.f
 rw[Zi]
 by_cases h:ZaT n L=true
 ·rw[if_pos h,ZeS n L k hk,Zi,gofB,if_pos h,h,Zai.f,Zi];rfl
 ·rw[if_neg h,Bool.eq_false_iff.2 h];rfl
def mastB (ns:List ZJ) (ts:List PTie) (z:Int) (ln vs:List Int):Bool:=(ZcE ns ts z ln vs).2.2 && consB (ZcE ns ts z ln vs).1 (ZcE ns ts z ln vs).2.1
theorem Zd7 {ns:List ZJ} {ts:List PTie} {z:Int} {ln vs:List Int} (hc:ZbK ns ts) (hlv:vs.length≤1048576) (k:Nat) (hk:2 ^ 67≤k):ZaW.f k ns ts z ln vs=some (mastB ns ts z ln vs):=by
 unfold ZaW.f mastB
 rw[ZcA hc hlv k hk,Zi]
 cases h:(ZcE ns ts z ln vs).2.2 with
 | true=>rw[if_pos rfl,Zcm _ _ k (by omega)];rfl
 | false=>rw[if_neg (by simp)];rfl
def Zd9 (ns:List ZJ) (ts:List PTie) (z:Int) (ln vs:List Int) (i:Int):Bool:=Zbd ns ts z ln vs && (Zbb ns.length i && hapB ns vs i)
theorem Zd6 {ns:List ZJ} {ts:List PTie} {z:Int} (ln vs:List Int) (i:Int) (hc:ZbK ns ts) (hl:vs.length≤1048576) (k:Nat) (hk:2 ^ 66≤k):Zbm.f k ns ts z ln vs i=some (Zd9 ns ts z ln vs i):=by
 unfold Zbm.f Zd9
 rw[ZbY ln vs hc hl k hk,Zi,isNode_f]
 cases hch:Zbd ns ts z ln vs with
 | false=>rfl
 | true=>
  rw[if_pos rfl,Zi,Bool.true_and]
  cases hi:Zbb ns.length i with
  | false=>rfl
  | true=>
   have h:=nodeIn_iff hi
   have hh:=Zd0 hch
   rw[if_pos rfl,Zc8 z ln vs i hc (ZaO hh.1) (Zcb hh.2) h.1 h.2 k (by omega)];rfl
end Go.Proofs.YtoeimopgoaffcaaDoor.Pr
