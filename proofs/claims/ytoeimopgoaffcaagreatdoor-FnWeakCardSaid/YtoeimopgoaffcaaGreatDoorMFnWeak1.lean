/- By a program of this session. -/
import Derived.Test.YtoeimopgoaffcaaGreatDoorBBwc1x38
set_option maxHeartbeats 8000000
set_option maxRecDepth 100000
namespace Go.Proofs.YtoeimopgoaffcaaGreatDoor.Pr
open RowKit YtoeimopgoaffcaaGreatDoorW.PrintWords YtoeimopgoaffcaaGreatDoorW.PrintLast YtoeimopgoaffcaaGreatDoorW.PrintMore
attribute [local go_sem] Zak Zai Zax Zaw Zac Zab Zaj Zah
set_option linter.unusedVariables false
set_option linter.unusedSimpArgs false
def laws_FnWeak.j0:Nat→Int→Int→Bool→List (S39)→List (S82)→Int→List Int→List Int→Option (Bool)
 | 0,_,_,_,_,_,_,_,_=>none
 | k+1,x4,x5,x36,x10009000,x10009001,x10009002,x10020000,x10020001=>if x36=true then(some false) else(if x4<0 then((Zao.f k x10009000 x10009001 x10009002 x10020000 x10020001).bind fun t21=>(if t21=true then((Zar.f k x10009000 x10009001 x10009002 x10020000 x10020001).bind fun t22=>(some ((t22.length:Int) == 0))) else(some false))) else((Zbg.f k x10009000 x10009001 x10009002 x4).bind fun bt25=>(if bt25.2.2=true then((Zao.f k x10009000 x10009001 x10009002 bt25.1 bt25.2.1).bind fun t33=>(if t33=true then(some false) else((Zar.f k x10009000 x10009001 x10009002 bt25.1 bt25.2.1).bind fun t34=>(if (t34.length:Int) > 0 then(if x5≥x4 then(some true) else((Zao.f k x10009000 x10009001 x10009002 x10020000 x10020001).bind fun t37=>(some t37))) else(some false))))) else(some false))))
def laws_FnWeak.f (k:Nat) (l0:List Int):Option (Bool):=if (l0.length:Int) > 1048576 then(some true) else((ZbR.f k l0).bind fun bt1=>((Z0.f k bt1.1 bt1.2.1 bt1.2.2).bind fun t9=>((Zci.f k l0 40).bind fun t10=>((ZaE.f k bt1.1 bt1.2.1 bt1.2.2).bind fun t11=>(if t11=0 then(none) else((Zbg.f k bt1.1 bt1.2.1 bt1.2.2 (Int.tmod t10 t11)).bind fun bt12=>(if bt12.2.2=true then((Zcc.f k bt1.1 bt1.2.1 bt1.2.2).bind fun t20=>(laws_FnWeak.j0 k t9 (Int.tmod t10 t11) (t20 != (decide (t9<0))) bt1.1 bt1.2.1 bt1.2.2 bt12.1 bt12.2.1)) else(laws_FnWeak.j0 k t9 (Int.tmod t10 t11) true bt1.1 bt1.2.1 bt1.2.2 bt12.1 bt12.2.1))))))))
theorem laws_FnWeak.calls (k:Nat) (A0:Option Addr) (c0:Nat) (l0:List Int) (w:World) (hr0:Kd.C (Kd.int .u8) w A0 l0.length l0) (hc0:l0.length≤c0) (ht:TW w) (h:laws_FnWeak.f k l0=some true) :
  Calls Tryz.prog 10 #[.slice A0 l0.length c0] w fun e w'=>e=.returned (.bool true)∧Below w.heap.size w w':=by
 have HTW:=Za ht;clear ht
 have hu25:=Tryz.underlying25
 have hu58:=Tryz.underlying58
 have HR0:=Za hr0;have HC0:=Za hc0;clear hr0 hc0
 have HB:=Za (Below.refl w.heap.size w)
 have H:(if (l0.length:Int) > 1048576 then(some true) else((ZbR.f k l0).bind fun bt1=>((Z0.f k bt1.1 bt1.2.1 bt1.2.2).bind fun t9=>((Zci.f k l0 40).bind fun t10=>((ZaE.f k bt1.1 bt1.2.1 bt1.2.2).bind fun t11=>(if t11=0 then(none) else((Zbg.f k bt1.1 bt1.2.1 bt1.2.2 (Int.tmod t10 t11)).bind fun bt12=>(if bt12.2.2=true then((Zcc.f k bt1.1 bt1.2.1 bt1.2.2).bind fun t20=>(laws_FnWeak.j0 k t9 (Int.tmod t10 t11) (t20 != (decide (t9<0))) bt1.1 bt1.2.1 bt1.2.2 bt12.1 bt12.2.1)) else(laws_FnWeak.j0 k t9 (Int.tmod t10 t11) true bt1.1 bt1.2.1 bt1.2.2 bt12.1 bt12.2.1)))))))))=some true:=h
 clear h
 by_cases c2:(l0.length:Int) > 1048576
 ·rw[if_pos c2] at H
  have c2b0:decide (1048576<(l0.length:Int))=true:=Ze c2
  have c2b1:decide (1048576<l0.length)=true:=Ze (by omega)
  clear c2 H
  go_enter Tryz.func10,Tryz.ntmps10
  go_wp2
  go_ret
  exact⟨by first|rfl|(simp[ZC,ZB] <;> rfl)|(simp[*,ZC,ZB] <;> rfl),by repeat(first|(with_reducible first|exact HB.out|apply Zo|apply Zn|apply Zp)|exact HB.out)⟩
 ·rw[if_neg c2] at H
  have c2b0:decide (1048576<(l0.length:Int))=false:=Zf c2
  have c2b1:decide (1048576<l0.length)=false:=Zf (by omega)
  clear c2
  replace H:=Zh H
  obtain⟨⟨t1,t4,t7⟩,A30,H⟩:=H;have A3:=Za A30;clear A30
  replace H:=Zh H
  obtain⟨t9,A40,H⟩:=H;have A4:=Za A40;clear A40
  replace H:=Zh H
  obtain⟨t10,A50,H⟩:=H;have A5:=Za A50;clear A50
  replace H:=Zh H
  obtain⟨t11,A60,H⟩:=H;have A6:=Za A60;clear A60
  by_cases c7:t11=0
  ·rw[if_pos c7] at H
   exact absurd H (by simp)
  ·rw[if_neg c7] at H
   have c7b0:(t11 == 0)=false:=beq_eq_false_iff_ne.mpr c7
   have c7b1:(t11 != 0)=true:=bne_iff_ne.mpr c7
   replace H:=Zh H
   obtain⟨⟨t12,t15,t18⟩,A80,H⟩:=H;have A8:=Za A80;clear A80;have HC9:=Za H;clear H
   go_enter Tryz.func10,Tryz.ntmps10
   try go_wp2_with (first|((with_reducible refine ZM (f:=16) rfl ?_);refine Z7 (some 14) rfl rfl Tryz.func16 (by kernel_rfl) rfl #[.slice A0 l0.length c0] rfl (by(try simp only[List.map_toArray,List.map_cons,List.map_nil]);first|done|rfl|(simp only[Zk,Zj];rfl)) ?_;(with_reducible refine(ZbR.calls k _ _ l0 t1 t4 t7 _ ?side1 ?side2 A3.out).mono ?_);(case side1=>repeat(first|exact HR0.out|(with_reducible refine Kd.C_alloc ?_ _)|(with_reducible refine Kd.C_drewN ?_ _)|(with_reducible refine Kd.C_drew ?_)));(case side2=>exact HC0.out);rintro e w10 ⟨v2,v5,rfl,ho0,ho1,hb⟩;refine⟨_,rfl,?_⟩;have HO3:=Za (Kd.N_lower (Kd.N_mono (ok':=fun k_=>some k_≠(v5:Value).ownBlock) ho0 (fun k_ hk_=>hk_.2)) (Zv (by exact HB.out)));have HO6:=Za (Kd.R_lower (Kd.R_mono (ok':=fun k_=>True) ho1 (fun _ hk_=>trivial)) (Zv (by exact HB.out)));replace HB:=Za (Zr (by exact HB.out) hb);(try clear ho1))|((with_reducible refine ZF (N:=3) rfl ?_);refine ZG ?hg (N:=3) ?hd (cs:=#[.slice none 0 0,.slice none 0 0,.int .i64 0]) (t:=25) ?hr ?_;(case hd=>rfl);(case hg=>rfl);(case hr=>first|(go_simp;done)|(go_simp;rfl));intro gb8 hg w11 hbox hb;have BK8:=Za (hbox);have GW8:=Za ((by rw[hg];exact(Zv (by exact HB.out)):w.heap.size≤gb8));have GE8:=Za ((by rw[hg];exact(Zv (by exact HB.out)):w.heap.size≤gb8));replace HO3:=Za (Kd.N_below (Kd.N_elderB (by exact HO3.out) gb8 (Nat.le_of_eq hg.symm)) hb);replace HO6:=Za (Kd.R_below (by exact HO6.out) hb);replace HB:=Za (Zr (by exact HB.out) hb);clear hb hbox hg;obtain⟨Ao12,co12,eo12⟩:=Kd.N_slice HO3.out;subst eo12;have hcz13_0:w11.cell? ⟨gb8,0,none⟩=some (.slice none 0 0):=(Zm BK8.out 0).trans rfl;have hcz13_1:w11.cell? ⟨gb8,1,none⟩=some (.slice none 0 0):=(Zm BK8.out 1).trans rfl;have hcz13_2:w11.cell? ⟨gb8,2,none⟩=some (.int .i64 0):=(Zm BK8.out 2).trans rfl;have hfz13_0:=Zq BK8.out 0;have hfz13_1:=Zq BK8.out 1;have hfz13_2:=Zq BK8.out 2;obtain⟨Ao14,co14,eo14⟩:=Kd.R_slice HO6.out;subst eo14)|((with_reducible refine ZM (f:=41) rfl ?_);refine Z7 (some 16) rfl rfl Tryz.func41 (by kernel_rfl) rfl #[.agg #[.slice Ao12 t1.length co12,.slice Ao14 t4.length co14,.int .i64 t7]] rfl (by(try simp only[List.map_toArray,List.map_cons,List.map_nil]);first|done|rfl|(simp only[Zk,Zj];rfl)) ?_;(with_reducible refine(Z0.calls k _ _ t1 _ _ t4 t7 t9 _ ?side1 ?side2 ?side3 ?side4 ?sideT A4.out).mono ?_);(case sideT=>exact TW.below HTW.out (by repeat(first|(with_reducible first|exact HB.out|apply Zo|apply Zn|apply Zp|refine Zt ?_ GE8.out)|exact HB.out)));(case side1=>refine(Kd.N_reads' (e:=39) (base:=w.heap.size) (ok:=fun k_=>(some k_≠(.slice Ao14 t4.length co14:Value).ownBlock∧k_≠gb8)) (n:=t1.length) (c:=co12) ?_).2.2;exact(by(with_reducible repeat(first|apply Kd.N_alloc|apply Kd.N_drewN|apply Kd.N_drew));exact(Kd.N_mono (Kd.N_far (p:=⟨gb8,2,none⟩) (Kd.N_far (p:=⟨gb8,1,none⟩) (Kd.N_far (p:=⟨gb8,0,none⟩) (Kd.N_mono HO3.out (fun k_ hk=>(⟨hk,hk.2⟩:_∧k_≠gb8))) (fun _ hk=>hk.2) (.slice Ao12 t1.length co12)) (fun _ hk=>hk.2) (.slice Ao14 t4.length co14)) (fun _ hk=>hk.2) (.int .i64 t7)) (fun _ h_=>h_.1))));(case side2=>exact(Kd.N_reads' HO3.out).2.1);(case side3=>refine(Kd.R_reads' (e:=82) (base:=w.heap.size) (ok:=fun k_=>True) (n:=t4.length) (c:=co14) ?_).2.2;exact(by(with_reducible repeat(first|apply Kd.R_alloc|apply Kd.R_drewN|apply Kd.R_drew));exact(Kd.R_mono (Kd.R_far (p:=⟨gb8,2,none⟩) (Kd.R_far (p:=⟨gb8,1,none⟩) (Kd.R_far (p:=⟨gb8,0,none⟩) (Kd.R_types HO6.out BK8.out (by decide)) (fun _ hk=>hk.2) (.slice Ao12 t1.length co12)) (fun _ hk=>hk.2) (.slice Ao14 t4.length co14)) (fun _ hk=>hk.2) (.int .i64 t7)) (fun _ h_=>h_.1))));(case side4=>exact(Kd.R_reads' HO6.out).2.1);rintro e w15 ⟨rfl,hb⟩;refine⟨_,rfl,?_⟩;replace HO3:=Za (Kd.N_below (by(with_reducible repeat(first|apply Kd.N_alloc|apply Kd.N_drewN|apply Kd.N_drew));exact(Kd.N_mono (Kd.N_far (p:=⟨gb8,2,none⟩) (Kd.N_far (p:=⟨gb8,1,none⟩) (Kd.N_far (p:=⟨gb8,0,none⟩) (Kd.N_mono HO3.out (fun k_ hk=>(⟨hk,hk.2⟩:_∧k_≠gb8))) (fun _ hk=>hk.2) (.slice Ao12 t1.length co12)) (fun _ hk=>hk.2) (.slice Ao14 t4.length co14)) (fun _ hk=>hk.2) (.int .i64 t7)) (fun _ h_=>h_.1))) hb);replace HO6:=Za (Kd.R_below (by(with_reducible repeat(first|apply Kd.R_alloc|apply Kd.R_drewN|apply Kd.R_drew));exact(Kd.R_mono (Kd.R_far (p:=⟨gb8,2,none⟩) (Kd.R_far (p:=⟨gb8,1,none⟩) (Kd.R_far (p:=⟨gb8,0,none⟩) (Kd.R_types HO6.out BK8.out (by decide)) (fun _ hk=>hk.2) (.slice Ao12 t1.length co12)) (fun _ hk=>hk.2) (.slice Ao14 t4.length co14)) (fun _ hk=>hk.2) (.int .i64 t7)) (fun _ h_=>h_.1))) hb);replace BK8:=Za (Zs (g:=gb8) (o:=.cells #[.slice Ao12 t1.length co12,.slice Ao14 t4.length co14,.int .i64 t7] 25 (0,0)) (by(with_reducible repeat(first|refine ZD ?_ _|refine Zz ?_|refine Zy ?_ _));refine ZR (cs:=#[.slice Ao12 t1.length co12,.slice Ao14 t4.length co14,.int .i64 0]) ?_ 2 _ rfl;(with_reducible repeat(first|refine ZD ?_ _|refine Zz ?_|refine Zy ?_ _));refine ZR (cs:=#[.slice Ao12 t1.length co12,.slice none 0 0,.int .i64 0]) ?_ 1 _ rfl;(with_reducible repeat(first|refine ZD ?_ _|refine Zz ?_|refine Zy ?_ _));refine ZR (cs:=#[.slice none 0 0,.slice none 0 0,.int .i64 0]) ?_ 0 _ rfl;(with_reducible repeat(first|refine ZD ?_ _|refine Zz ?_|refine Zy ?_ _));exact BK8.out) hb);replace HB:=Za (Zr (by repeat(first|(with_reducible first|exact HB.out|apply Zo|apply Zn|apply Zp|refine Zt ?_ GE8.out)|exact HB.out)) hb);(try clear hi)))
   replace HO3:=Za (Kd.N_drew HO3.out);replace HO6:=Za (Kd.R_drew HO6.out);replace BK8:=Za (Zz BK8.out);replace HB:=Za (Zp HB.out)
   refine Zbd (n:=6) (S:=fun w'=>w'.cell? ⟨gb8,0,none⟩=some (.slice Ao12 t1.length co12)∧w'.cell? ⟨gb8,1,none⟩=some (.slice Ao14 t4.length co14)∧w'.cell? ⟨gb8,2,none⟩=some (.int .i64 t7)) (ds:=[]) #[false,false,false,false,false,false] (by kernel_rfl) rfl rfl ⟨(Zm BK8.out 0).trans rfl,(Zm BK8.out 1).trans rfl,(Zm BK8.out 2).trans rfl⟩ (fun hHeld=>?_)
   generalize w15.drew=w16 at HO3 HO6 BK8 HB hHeld ⊢
   refine pu (N:=some 17) 0 ?_
   refine tk (N:=some 19) 2 hHeld ?_
   refine onl (N:=some 18) 1 (fun K hK=>?_)
   refine ZaU Tryz.func49 (by kernel_rfl) rfl #[.slice A0 l0.length c0,.int .i64 40] (by rfl) rfl rfl (by(try simp only[List.map_toArray,List.map_cons,List.map_nil]);first|done|rfl|(simp only[Zk,Zj];rfl)) ?_
   with_reducible refine(Zci.calls k _ _ l0 40 t10 _ ?side1 ?side2 A5.out).mono ?_
   (case side1=>exact(Zb HR0.out HB.out))
   (case side2=>exact HC0.out)
   rintro e w17 ⟨rfl,hb⟩
   refine⟨_,rfl,?_⟩
   replace HO3:=Za (Kd.N_below (by exact HO3.out) hb);replace HO6:=Za (Kd.R_below (by exact HO6.out) hb);replace BK8:=Za (Zs (g:=gb8) (o:=.cells #[.slice Ao12 t1.length co12,.slice Ao14 t4.length co14,.int .i64 t7] 25 (0,0)) BK8.out hb);replace HB:=Za (Zr (by exact HB.out) hb)
   (try clear hb)
   (try clear hb2)
   (try clear hk)
   (try clear hi)
   refine hK.out _ _ ⟨(Zm BK8.out 0).trans rfl,(Zm BK8.out 1).trans rfl,(Zm BK8.out 2).trans rfl⟩ (fun hHeld=>?_)
   clear hK K
   refine nrm (some 18) ?_
   refine onl (N:=some 20) 3 (fun K hK=>?_)
   refine ZaU Tryz.func50 (by kernel_rfl) rfl #[.agg #[.slice Ao12 t1.length co12,.slice Ao14 t4.length co14,.int .i64 t7]] (by rfl) rfl rfl (by(try simp only[List.map_toArray,List.map_cons,List.map_nil]);first|done|rfl|(simp only[Zk,Zj];rfl)) ?_
   with_reducible refine(ZaE.calls k _ _ t1 _ _ t4 t7 t11 _ ?side1 ?side2 ?side3 ?side4 A6.out).mono ?_
   (case side1=>repeat(first|exact(Kd.N_reads' HO3.out).2.2|(with_reducible refine Kd.C_alloc ?_ _)|(with_reducible refine Kd.C_drewN ?_ _)|(with_reducible refine Kd.C_drew ?_)))
   (case side2=>exact(Kd.N_reads' HO3.out).2.1)
   (case side3=>repeat(first|exact(Kd.R_reads' HO6.out).2.2|(with_reducible refine Kd.C_alloc ?_ _)|(with_reducible refine Kd.C_drewN ?_ _)|(with_reducible refine Kd.C_drew ?_)))
   (case side4=>exact(Kd.R_reads' HO6.out).2.1)
   rintro e w18 ⟨rfl,hb⟩
   refine⟨_,rfl,?_⟩
   replace HO3:=Za (Kd.N_below (by exact HO3.out) hb);replace HO6:=Za (Kd.R_below (by exact HO6.out) hb);replace BK8:=Za (Zs (g:=gb8) (o:=.cells #[.slice Ao12 t1.length co12,.slice Ao14 t4.length co14,.int .i64 t7] 25 (0,0)) BK8.out hb);replace HB:=Za (Zr (by exact HB.out) hb)
   (try clear hb)
   (try clear hb2)
   (try clear hk)
   (try clear hi)
   refine hK.out _ _ ⟨(Zm BK8.out 0).trans rfl,(Zm BK8.out 1).trans rfl,(Zm BK8.out 2).trans rfl⟩ (fun hHeld=>?_)
   clear hK K
   refine nrm (some 20) ?_
   refine pu (N:=some 21) 4 ?_
   refine pu (N:=some 5) 5 ?_
   refine Zbu (by kernel_rfl) ?_
   have hcz19_0:w18.cell? ⟨gb8,0,none⟩=some (.slice Ao12 t1.length co12):=(Zm BK8.out 0).trans rfl
   have hcz19_1:w18.cell? ⟨gb8,1,none⟩=some (.slice Ao14 t4.length co14):=(Zm BK8.out 1).trans rfl
   have hcz19_2:w18.cell? ⟨gb8,2,none⟩=some (.int .i64 t7):=(Zm BK8.out 2).trans rfl
   have hfz19_0:=Zq BK8.out 0
   have hfz19_1:=Zq BK8.out 1
   have hfz19_2:=Zq BK8.out 2
   go_upto_region 7 with (first|((with_reducible refine ZM (f:=51) rfl ?_);refine Z7 (some 25) rfl rfl Tryz.func51 (by kernel_rfl) rfl #[.agg #[.slice Ao12 t1.length co12,.slice Ao14 t4.length co14,.int .i64 t7],.int .i64 (Int.tmod t10 t11)] rfl (by(try simp only[List.map_toArray,List.map_cons,List.map_nil]);first|done|rfl|(simp only[Zk,Zj];rfl)) ?_;(with_reducible refine(Zbg.calls k _ _ t1 _ _ t4 t7 (Int.tmod t10 t11) t12 t15 t18 _ ?side1 ?side2 ?side3 ?side4 A8.out).mono ?_);(case side1=>repeat(first|exact(Kd.N_reads' HO3.out).2.2|(with_reducible refine Kd.C_alloc ?_ _)|(with_reducible refine Kd.C_drewN ?_ _)|(with_reducible refine Kd.C_drew ?_)));(case side2=>exact(Kd.N_reads' HO3.out).2.1);(case side3=>repeat(first|exact(Kd.R_reads' HO6.out).2.2|(with_reducible refine Kd.C_alloc ?_ _)|(with_reducible refine Kd.C_drewN ?_ _)|(with_reducible refine Kd.C_drew ?_)));(case side4=>exact(Kd.R_reads' HO6.out).2.1);rintro e w20 ⟨v13,v16,rfl,ho0,ho1,hb⟩;refine⟨_,rfl,?_⟩;have HO14:=Za (Kd.R_lower ho0 (Zv (by exact HB.out)));have HO17:=Za (Kd.R_lower ho1 (Zv (by exact HB.out)));replace HO3:=Za (Kd.N_mono (Kd.N_told (Kd.N_told (Kd.N_old (by exact HO3.out) hb) (Kd.R_base ho0)) (Kd.R_base ho1)) (fun _ h_=>h_.1));replace HO6:=Za (Kd.R_below (by exact HO6.out) hb);replace BK8:=Za (Zs (g:=gb8) (o:=.cells #[.slice Ao12 t1.length co12,.slice Ao14 t4.length co14,.int .i64 t7] 25 (0,0)) BK8.out hb);replace HB:=Za (Zr (by exact HB.out) hb);(try clear ho1))|((with_reducible refine ZF (N:=6) rfl ?_);refine ZG ?hg (N:=6) ?hd (cs:=#[.slice none 0 0,.slice none 0 0]) (t:=58) ?hr ?_;(case hd=>rfl);(case hg=>rfl);(case hr=>first|(go_simp;done)|(go_simp;rfl));intro gb19 hg w21 hbox hb;have n0_:=Za (Kd.N_below (Kd.N_elderB (by exact HO3.out) gb19 (Nat.le_of_eq hg.symm)) hb);have n1_:=Za (Kd.R_below (by exact HO6.out) hb);have n2_:=Za (Kd.R_below (by exact HO14.out) hb);have n3_:=Za (Kd.R_below (by exact HO17.out) hb);have n4_:=Za (Zs (g:=gb8) (o:=.cells #[.slice Ao12 t1.length co12,.slice Ao14 t4.length co14,.int .i64 t7] 25 (0,0)) BK8.out hb);have n5_:=Za (Zr (by exact HB.out) hb);have n6_:=Za (hbox);have n7_:=Za ((by rw[hg];exact(Zv (by exact HB.out)):w.heap.size≤gb19));have n8_:=n7_;have n9_:=Za ((by rw[hg];exact Nat.ne_of_lt (ZN (g:=gb8) (o:=.cells #[.slice Ao12 t1.length co12,.slice Ao14 t4.length co14,.int .i64 t7] 25 (0,0)) BK8.out):gb8≠gb19));have n10_:=Za n9_.out.symm;clear HO3;clear HO6;clear HO14;clear HO17;clear BK8;clear HB;have HO3:=n0_;have HO6:=n1_;have HO14:=n2_;have HO17:=n3_;have BK8:=n4_;have HB:=n5_;have BK19:=n6_;have GW19:=n7_;have GE19:=n8_;have NB8_19:=n9_;have NB19_8:=n10_;clear n0_ n1_ n2_ n3_ n4_ n5_ n6_ n7_ n8_ n9_ n10_;clear hb hbox hg;obtain⟨Ao22,co22,eo22⟩:=Kd.R_slice HO14.out;subst eo22;have hnb23:=NB19_8.out;have hnc23:=NB8_19.out;have hcz24_0:w21.cell? ⟨gb19,0,none⟩=some (.slice none 0 0):=(Zm BK19.out 0).trans rfl;have hcz24_1:w21.cell? ⟨gb19,1,none⟩=some (.slice none 0 0):=(Zm BK19.out 1).trans rfl;have hfz24_0:=Zq BK19.out 0;have hfz24_1:=Zq BK19.out 1;obtain⟨Ao25,co25,eo25⟩:=Kd.R_slice HO17.out;subst eo25))
   (try simp only[Act.put,List.setIfInBounds_toArray,List.set_cons_zero,List.set_cons_succ])
   go_cut [36] (fun v36 wc=>∃(kq:Nat) (x36_8:Bool),v36=.bool x36_8∧Aside0 (laws_FnWeak.j0 kq t9 (Int.tmod t10 t11) x36_8 t1 t4 t7 t12 t15=some true)∧Aside0 (kq≤k)∧Aside0 (Kd.N k39 39 wc w.heap.size (fun k_=>some k_≠((.slice Ao14 t4.length co14):Value).ownBlock∧some k_≠((.slice Ao22 t12.length co22):Value).ownBlock∧some k_≠((.slice Ao25 t15.length co25):Value).ownBlock∧k_≠gb8∧k_≠gb19) (.slice Ao12 t1.length co12) t1)∧Aside0 (Kd.R k82 82 wc w.heap.size (fun _=>True) (.slice Ao14 t4.length co14) t4)∧Aside0 (Kd.R (Kd.int .i64) 3 wc w.heap.size (fun k_=>some k_≠((.slice Ao25 t15.length co25):Value).ownBlock) (.slice Ao22 t12.length co22) t12)∧Aside0 (Kd.R (Kd.int .i64) 3 wc w.heap.size (fun k_=>some k_≠((.slice Ao22 t12.length co22):Value).ownBlock) (.slice Ao25 t15.length co25) t15)∧Aside0 (wc.heap[gb8]? = some (.cells #[(.slice Ao12 t1.length co12),(.slice Ao14 t4.length co14),.int .i64 t7] 25 (0,0)))∧Aside0 (wc.heap[gb19]? = some (.cells #[(.slice Ao22 t12.length co22),(.slice Ao25 t15.length co25)] 58 (0,0)))∧Aside0 (Below w.heap.size w wc))
   case first=>
    have H:=HC9.out
    clear HC9
    by_cases c26:t18=true
    ·subst c26
     have H1:((Zcc.f k t1 t4 t7).bind fun t20=>(laws_FnWeak.j0 k t9 (Int.tmod t10 t11) (t20 != (decide (t9<0))) t1 t4 t7 t12 t15))=some true:=by rw[if_pos rfl] at H;first|done|exact H
     clear H
     have H:=H1
     clear H1
     replace H:=Zh H
     obtain⟨t20,A270,H⟩:=H;have A27:=Za A270;clear A270
     have H':=Za H
     clear H
     have hnb28:=NB8_19.out
     have hnc28:=NB19_8.out
     have hcz29_0:w21.cell? ⟨gb8,0,none⟩=some (.slice Ao12 t1.length co12):=(Zm BK8.out 0).trans rfl
     have hcz29_1:w21.cell? ⟨gb8,1,none⟩=some (.slice Ao14 t4.length co14):=(Zm BK8.out 1).trans rfl
     have hcz29_2:w21.cell? ⟨gb8,2,none⟩=some (.int .i64 t7):=(Zm BK8.out 2).trans rfl
     have hfz29_0:=Zq BK8.out 0
     have hfz29_1:=Zq BK8.out 1
     have hfz29_2:=Zq BK8.out 2
     go_wp2_with (first|(go_at_call 43;(with_reducible refine(Zcc.calls k _ _ t1 _ _ t4 t7 t20 _ ?side1 ?side2 ?side3 ?side4 ?sideT A27.out).mono ?_);(case sideT=>exact TW.below HTW.out (by repeat(first|(with_reducible first|exact HB.out|apply Zo|apply Zn|apply Zp|refine Zt ?_ GE8.out|refine Zt ?_ GE19.out)|exact HB.out)));(case side1=>refine(Kd.N_reads' (e:=39) (base:=w.heap.size) (ok:=fun k_=>((((some k_≠(.slice Ao14 t4.length co14:Value).ownBlock∧k_≠gb8)∧some k_≠(.slice Ao22 t12.length co22:Value).ownBlock)∧some k_≠(.slice Ao25 t15.length co25:Value).ownBlock)∧k_≠gb19)) (n:=t1.length) (c:=co12) ?_).2.2;exact(by(with_reducible repeat(first|apply Kd.N_alloc|apply Kd.N_drewN|apply Kd.N_drew));exact(Kd.N_mono (Kd.N_far (p:=⟨gb19,1,none⟩) (Kd.N_far (p:=⟨gb19,0,none⟩) (Kd.N_mono HO3.out (fun k_ hk=>(⟨hk,hk.2⟩:_∧k_≠gb19))) (fun _ hk=>hk.2) (.slice Ao22 t12.length co22)) (fun _ hk=>hk.2) (.slice Ao25 t15.length co25)) (fun _ h_=>h_.1))));(case side2=>exact(Kd.N_reads' HO3.out).2.1);(case side3=>refine(Kd.R_reads' (e:=82) (base:=w.heap.size) (ok:=fun k_=>True) (n:=t4.length) (c:=co14) ?_).2.2;exact(by(with_reducible repeat(first|apply Kd.R_alloc|apply Kd.R_drewN|apply Kd.R_drew));exact(Kd.R_mono (Kd.R_far (p:=⟨gb19,1,none⟩) (Kd.R_far (p:=⟨gb19,0,none⟩) (Kd.R_types HO6.out BK19.out (by decide)) (fun _ hk=>hk.2) (.slice Ao22 t12.length co22)) (fun _ hk=>hk.2) (.slice Ao25 t15.length co25)) (fun _ h_=>h_.1))));(case side4=>exact(Kd.R_reads' HO6.out).2.1);rintro e w30 ⟨rfl,hb⟩;replace HO3:=Za (Kd.N_below (by(with_reducible repeat(first|apply Kd.N_alloc|apply Kd.N_drewN|apply Kd.N_drew));exact(Kd.N_mono (Kd.N_far (p:=⟨gb19,1,none⟩) (Kd.N_far (p:=⟨gb19,0,none⟩) (Kd.N_mono HO3.out (fun k_ hk=>(⟨hk,hk.2⟩:_∧k_≠gb19))) (fun _ hk=>hk.2) (.slice Ao22 t12.length co22)) (fun _ hk=>hk.2) (.slice Ao25 t15.length co25)) (fun _ h_=>h_.1))) hb);replace HO6:=Za (Kd.R_below (by(with_reducible repeat(first|apply Kd.R_alloc|apply Kd.R_drewN|apply Kd.R_drew));exact(Kd.R_mono (Kd.R_far (p:=⟨gb19,1,none⟩) (Kd.R_far (p:=⟨gb19,0,none⟩) (Kd.R_types HO6.out BK19.out (by decide)) (fun _ hk=>hk.2) (.slice Ao22 t12.length co22)) (fun _ hk=>hk.2) (.slice Ao25 t15.length co25)) (fun _ h_=>h_.1))) hb);replace HO14:=Za (Kd.R_below (by(with_reducible repeat(first|apply Kd.R_alloc|apply Kd.R_drewN|apply Kd.R_drew));exact(Kd.R_mono (Kd.R_far (p:=⟨gb19,1,none⟩) (Kd.R_far (p:=⟨gb19,0,none⟩) (Kd.R_types HO14.out BK19.out (by decide)) (fun _ hk=>hk.2) (.slice Ao22 t12.length co22)) (fun _ hk=>hk.2) (.slice Ao25 t15.length co25)) (fun _ h_=>h_.1))) hb);replace HO17:=Za (Kd.R_below (by(with_reducible repeat(first|apply Kd.R_alloc|apply Kd.R_drewN|apply Kd.R_drew));exact(Kd.R_mono (Kd.R_far (p:=⟨gb19,1,none⟩) (Kd.R_far (p:=⟨gb19,0,none⟩) (Kd.R_types HO17.out BK19.out (by decide)) (fun _ hk=>hk.2) (.slice Ao22 t12.length co22)) (fun _ hk=>hk.2) (.slice Ao25 t15.length co25)) (fun _ h_=>h_.1))) hb);replace BK8:=Za (Zs (g:=gb8) (o:=.cells #[.slice Ao12 t1.length co12,.slice Ao14 t4.length co14,.int .i64 t7] 25 (0,0)) (by(with_reducible repeat(first|refine ZD ?_ _|refine Zz ?_|refine Zy ?_ _));refine ZL ?_ NB8_19.out _;(with_reducible repeat(first|refine ZD ?_ _|refine Zz ?_|refine Zy ?_ _));refine ZL ?_ NB8_19.out _;(with_reducible repeat(first|refine ZD ?_ _|refine Zz ?_|refine Zy ?_ _));exact BK8.out) hb);replace BK19:=Za (Zs (g:=gb19) (o:=.cells #[.slice Ao22 t12.length co22,.slice Ao25 t15.length co25] 58 (0,0)) (by(with_reducible repeat(first|refine ZD ?_ _|refine Zz ?_|refine Zy ?_ _));refine ZR (cs:=#[.slice Ao22 t12.length co22,.slice none 0 0]) ?_ 1 _ rfl;(with_reducible repeat(first|refine ZD ?_ _|refine Zz ?_|refine Zy ?_ _));refine ZR (cs:=#[.slice none 0 0,.slice none 0 0]) ?_ 0 _ rfl;(with_reducible repeat(first|refine ZD ?_ _|refine Zz ?_|refine Zy ?_ _));exact BK19.out) hb);replace HB:=Za (Zr (by repeat(first|(with_reducible first|exact HB.out|apply Zo|apply Zn|apply Zp|refine Zt ?_ GE8.out|refine Zt ?_ GE19.out)|exact HB.out)) hb);(try clear hi)))
     go_meet
     case rel=>exact⟨_,((t20 != (decide (t9<0)))),(by first|rfl|(simp;done)|(simp[*];done)),H',⟨by first|omega|exact Nat.le_refl _⟩,⟨by(with_reducible repeat(first|apply Kd.N_alloc|apply Kd.N_drewN|apply Kd.N_drew));exact Kd.N_mono HO3.out (fun _ hk=>⟨hk.1.1.1.1,⟨hk.1.1.2,⟨hk.1.2,⟨hk.1.1.1.2,hk.2⟩⟩⟩⟩)⟩,⟨by(with_reducible repeat(first|apply Kd.R_alloc|apply Kd.R_drewN|apply Kd.R_drew));exact HO6.out⟩,⟨by(with_reducible repeat(first|apply Kd.R_alloc|apply Kd.R_drewN|apply Kd.R_drew));exact HO14.out⟩,⟨by(with_reducible repeat(first|apply Kd.R_alloc|apply Kd.R_drewN|apply Kd.R_drew));exact HO17.out⟩,⟨by(with_reducible repeat(first|refine ZD ?_ _|refine Zz ?_|refine Zy ?_ _));exact BK8.out⟩,⟨by(with_reducible repeat(first|refine ZD ?_ _|refine Zz ?_|refine Zy ?_ _));exact BK19.out⟩,⟨by repeat(first|(with_reducible first|exact HB.out|apply Zo|apply Zn|apply Zp|refine Zt ?_ GE8.out|refine Zt ?_ GE19.out)|exact HB.out)⟩⟩
    ·replace c26:=Bool.eq_false_iff.mpr c26
     subst c26
     have H1:(laws_FnWeak.j0 k t9 (Int.tmod t10 t11) true t1 t4 t7 t12 t15)=some true:=by rw[if_neg (show ¬(false=true) by decide)] at H;first|done|exact H
     clear H
     have H:=H1
     clear H1
     have H':=Za H
     clear H
     go_wp2
     go_meet
     case rel=>exact⟨_,(true),(by first|rfl|(simp;done)|(simp[*];done)),H',⟨by first|omega|exact Nat.le_refl _⟩,⟨by(with_reducible repeat(first|apply Kd.N_alloc|apply Kd.N_drewN|apply Kd.N_drew));exact Kd.N_mono (Kd.N_far (p:=⟨gb19,1,none⟩) (Kd.N_far (p:=⟨gb19,0,none⟩) (Kd.N_mono HO3.out (fun k_ hk=>(⟨hk,hk.2⟩:_∧k_≠gb19))) (fun _ hk=>hk.2) (.slice Ao22 t12.length co22)) (fun _ hk=>hk.2) (.slice Ao25 t15.length co25)) (fun _ hk=>⟨hk.1.1.1.1.1,⟨hk.1.1.1.2,⟨hk.1.1.2,⟨hk.1.1.1.1.2,hk.1.2⟩⟩⟩⟩)⟩,⟨by(with_reducible repeat(first|apply Kd.R_alloc|apply Kd.R_drewN|apply Kd.R_drew));exact Kd.R_mono (Kd.R_far (p:=⟨gb19,1,none⟩) (Kd.R_far (p:=⟨gb19,0,none⟩) (Kd.R_types HO6.out BK19.out (by decide)) (fun _ hk=>hk.2) (.slice Ao22 t12.length co22)) (fun _ hk=>hk.2) (.slice Ao25 t15.length co25)) (fun _ hk=>trivial)⟩,⟨by(with_reducible repeat(first|apply Kd.R_alloc|apply Kd.R_drewN|apply Kd.R_drew));exact Kd.R_mono (Kd.R_far (p:=⟨gb19,1,none⟩) (Kd.R_far (p:=⟨gb19,0,none⟩) (Kd.R_types HO14.out BK19.out (by decide)) (fun _ hk=>hk.2) (.slice Ao22 t12.length co22)) (fun _ hk=>hk.2) (.slice Ao25 t15.length co25)) (fun _ hk=>hk.1)⟩,⟨by(with_reducible repeat(first|apply Kd.R_alloc|apply Kd.R_drewN|apply Kd.R_drew));exact Kd.R_mono (Kd.R_far (p:=⟨gb19,1,none⟩) (Kd.R_far (p:=⟨gb19,0,none⟩) (Kd.R_types HO17.out BK19.out (by decide)) (fun _ hk=>hk.2) (.slice Ao22 t12.length co22)) (fun _ hk=>hk.2) (.slice Ao25 t15.length co25)) (fun _ hk=>hk.1)⟩,⟨by(with_reducible repeat(first|refine ZD ?_ _|refine Zz ?_|refine Zy ?_ _));refine ZL ?_ NB8_19.out _;(with_reducible repeat(first|refine ZD ?_ _|refine Zz ?_|refine Zy ?_ _));refine ZL ?_ NB8_19.out _;(with_reducible repeat(first|refine ZD ?_ _|refine Zz ?_|refine Zy ?_ _));exact BK8.out⟩,⟨by(with_reducible repeat(first|refine ZD ?_ _|refine Zz ?_|refine Zy ?_ _));refine ZR (cs:=#[.slice Ao22 t12.length co22,.slice none 0 0]) ?_ 1 _ rfl;(with_reducible repeat(first|refine ZD ?_ _|refine Zz ?_|refine Zy ?_ _));refine ZR (cs:=#[.slice none 0 0,.slice none 0 0]) ?_ 0 _ rfl;(with_reducible repeat(first|refine ZD ?_ _|refine Zz ?_|refine Zy ?_ _));exact BK19.out⟩,⟨by repeat(first|(with_reducible first|exact HB.out|apply Zo|apply Zn|apply Zp|refine Zt ?_ GE8.out|refine Zt ?_ GE19.out)|exact HB.out)⟩⟩
   case rest=>
    clear HC9
    try clear c1
    try clear c2
    try clear c2b0
    try clear c2b1
    try clear p2
    try clear c4
    try clear c5
    try clear c7
    try clear c7b0
    try clear c7b1
    try clear c10
    try clear c16
    try clear c23
    try clear c26
    try clear c28
    obtain⟨kq,x36_8,rfl,HA,HJ8,HO_10009000,HO_10009001,HO_10020000,HO_10020001,BK8,BK19,HB⟩:=hcut
    cases kq with
    | zero=>exact absurd HA.out (by simp[laws_FnWeak.j0])
    | succ kj8=>
     have H:=HA.out
     clear HA
     simp only[laws_FnWeak.j0] at H
     by_cases c31:x36_8=true
     ·subst c31
      exact absurd H (by simp)
     ·replace c31:=Bool.eq_false_iff.mpr c31
      subst c31
      have H1:(if t9<0 then((Zao.f kj8 t1 t4 t7 t12 t15).bind fun t21=>(if t21=true then((Zar.f kj8 t1 t4 t7 t12 t15).bind fun t22=>(some ((t22.length:Int) == 0))) else(some false))) else((Zbg.f kj8 t1 t4 t7 t9).bind fun bt25=>(if bt25.2.2=true then((Zao.f kj8 t1 t4 t7 bt25.1 bt25.2.1).bind fun t33=>(if t33=true then(some false) else((Zar.f kj8 t1 t4 t7 bt25.1 bt25.2.1).bind fun t34=>(if (t34.length:Int) > 0 then(if (Int.tmod t10 t11)≥t9 then(some true) else((Zao.f kj8 t1 t4 t7 t12 t15).bind fun t37=>(some t37))) else(some false))))) else(some false))))=some true:=by rw[if_neg (show ¬(false=true) by decide)] at H;first|done|exact H
      clear H
      have H:=H1
      clear H1
      by_cases c32:t9<0
      ·rw[if_pos c32] at H
       have c32b0:decide (t9<0)=true:=Ze c32
       clear c32
       replace H:=Zh H
       obtain⟨t21,A330,H⟩:=H;have A33:=Za A330;clear A330
       by_cases c34:t21=true
       ·subst c34
        have H1:((Zar.f kj8 t1 t4 t7 t12 t15).bind fun t22=>(some ((t22.length:Int) == 0)))=some true:=by rw[if_pos rfl] at H;first|done|exact H
        clear H
        have H:=H1
        clear H1
        replace H:=Zh H
        obtain⟨t22,A350,H⟩:=H;have A35:=Za A350;clear A350
        have HT_:=Zg H
        have hnb36:=NB8_19.out
        have hnc36:=NB19_8.out
        have hcz37_0:wc.cell? ⟨gb8,0,none⟩=some (.slice Ao12 t1.length co12):=(Zm BK8.out 0).trans rfl
        have hcz37_1:wc.cell? ⟨gb8,1,none⟩=some (.slice Ao14 t4.length co14):=(Zm BK8.out 1).trans rfl
        have hcz37_2:wc.cell? ⟨gb8,2,none⟩=some (.int .i64 t7):=(Zm BK8.out 2).trans rfl
        have hfz37_0:=Zq BK8.out 0
        have hfz37_1:=Zq BK8.out 1
        have hfz37_2:=Zq BK8.out 2
        have hcz38_0:wc.cell? ⟨gb19,0,none⟩=some (.slice Ao22 t12.length co22):=(Zm BK19.out 0).trans rfl
        have hcz38_1:wc.cell? ⟨gb19,1,none⟩=some (.slice Ao25 t15.length co25):=(Zm BK19.out 1).trans rfl
        have hfz38_0:=Zq BK19.out 0
        have hfz38_1:=Zq BK19.out 1
        go_wp2_with (first|((with_reducible refine ZM (f:=39) rfl ?_);refine Z7 (some 41) rfl rfl Tryz.func39 (by kernel_rfl) rfl #[.agg #[.slice Ao12 t1.length co12,.slice Ao14 t4.length co14,.int .i64 t7],.agg #[.slice Ao22 t12.length co22,.slice Ao25 t15.length co25]] rfl (by(try simp only[List.map_toArray,List.map_cons,List.map_nil]);first|done|rfl|(simp only[Zk,Zj];rfl)) ?_;(with_reducible refine(Zao.calls kj8 _ _ t1 _ _ t4 t7 _ _ t12 _ _ t15 true _ ?side1 ?side2 ?side3 ?side4 ?side5 ?side6 ?side7 ?side8 ?sideT A33.out).mono ?_);(case sideT=>exact TW.below HTW.out (by exact HB.out));(case side1=>repeat(first|exact(Kd.N_reads' HO_10009000.out).2.2|(with_reducible refine Kd.C_alloc ?_ _)|(with_reducible refine Kd.C_drewN ?_ _)|(with_reducible refine Kd.C_drew ?_)));(case side2=>exact(Kd.N_reads' HO_10009000.out).2.1);(case side3=>repeat(first|exact(Kd.R_reads' HO_10009001.out).2.2|(with_reducible refine Kd.C_alloc ?_ _)|(with_reducible refine Kd.C_drewN ?_ _)|(with_reducible refine Kd.C_drew ?_)));(case side4=>exact(Kd.R_reads' HO_10009001.out).2.1);(case side5=>repeat(first|exact(Kd.R_reads' HO_10020000.out).2.2|(with_reducible refine Kd.C_alloc ?_ _)|(with_reducible refine Kd.C_drewN ?_ _)|(with_reducible refine Kd.C_drew ?_)));(case side6=>exact(Kd.R_reads' HO_10020000.out).2.1);(case side7=>repeat(first|exact(Kd.R_reads' HO_10020001.out).2.2|(with_reducible refine Kd.C_alloc ?_ _)|(with_reducible refine Kd.C_drewN ?_ _)|(with_reducible refine Kd.C_drew ?_)));(case side8=>exact(Kd.R_reads' HO_10020001.out).2.1);rintro e w39 ⟨rfl,hb⟩;refine⟨_,rfl,?_⟩;replace HO_10009000:=Za (Kd.N_below (by exact HO_10009000.out) hb);replace HO_10009001:=Za (Kd.R_below (by exact HO_10009001.out) hb);replace HO_10020000:=Za (Kd.R_below (by exact HO_10020000.out) hb);replace HO_10020001:=Za (Kd.R_below (by exact HO_10020001.out) hb);replace BK8:=Za (Zs (g:=gb8) (o:=.cells #[.slice Ao12 t1.length co12,.slice Ao14 t4.length co14,.int .i64 t7] 25 (0,0)) BK8.out hb);replace BK19:=Za (Zs (g:=gb19) (o:=.cells #[.slice Ao22 t12.length co22,.slice Ao25 t15.length co25] 58 (0,0)) BK19.out hb);replace HB:=Za (Zr (by exact HB.out) hb);have hcz40_0:w39.cell? ⟨gb8,0,none⟩=some (.slice Ao12 t1.length co12):=(Zm BK8.out 0).trans rfl;have hcz40_1:w39.cell? ⟨gb8,1,none⟩=some (.slice Ao14 t4.length co14):=(Zm BK8.out 1).trans rfl;have hcz40_2:w39.cell? ⟨gb8,2,none⟩=some (.int .i64 t7):=(Zm BK8.out 2).trans rfl;have hfz40_0:=Zq BK8.out 0;have hfz40_1:=Zq BK8.out 1;have hfz40_2:=Zq BK8.out 2;have hcz41_0:w39.cell? ⟨gb19,0,none⟩=some (.slice Ao22 t12.length co22):=(Zm BK19.out 0).trans rfl;have hcz41_1:w39.cell? ⟨gb19,1,none⟩=some (.slice Ao25 t15.length co25):=(Zm BK19.out 1).trans rfl)|(go_at_call 45;(with_reducible refine(Zar.calls kj8 _ _ t1 _ _ t4 t7 _ _ t12 _ _ t15 t22 _ ?side1 ?side2 ?side3 ?side4 ?side5 ?side6 ?side7 ?side8 ?sideT A35.out).mono ?_);(case sideT=>exact TW.below HTW.out (by exact HB.out));(case side1=>repeat(first|exact(Kd.N_reads' HO_10009000.out).2.2|(with_reducible refine Kd.C_alloc ?_ _)|(with_reducible refine Kd.C_drewN ?_ _)|(with_reducible refine Kd.C_drew ?_)));(case side2=>exact(Kd.N_reads' HO_10009000.out).2.1);(case side3=>repeat(first|exact(Kd.R_reads' HO_10009001.out).2.2|(with_reducible refine Kd.C_alloc ?_ _)|(with_reducible refine Kd.C_drewN ?_ _)|(with_reducible refine Kd.C_drew ?_)));(case side4=>exact(Kd.R_reads' HO_10009001.out).2.1);(case side5=>repeat(first|exact(Kd.R_reads' HO_10020000.out).2.2|(with_reducible refine Kd.C_alloc ?_ _)|(with_reducible refine Kd.C_drewN ?_ _)|(with_reducible refine Kd.C_drew ?_)));(case side6=>exact(Kd.R_reads' HO_10020000.out).2.1);(case side7=>repeat(first|exact(Kd.R_reads' HO_10020001.out).2.2|(with_reducible refine Kd.C_alloc ?_ _)|(with_reducible refine Kd.C_drewN ?_ _)|(with_reducible refine Kd.C_drew ?_)));(case side8=>exact(Kd.R_reads' HO_10020001.out).2.1);rintro e w42 ⟨v23,rfl,ho0,hb⟩;have HO24:=Za (Kd.R_lower ho0 (Zv (by exact HB.out)));replace HO_10009000:=Za (Kd.N_elder' (by exact HO_10009000.out) (Kd.R_base ho0) hb);replace HO_10009001:=Za (Kd.R_below (by exact HO_10009001.out) hb);replace HO_10020000:=Za (Kd.R_below (by exact HO_10020000.out) hb);replace HO_10020001:=Za (Kd.R_below (by exact HO_10020001.out) hb);replace BK8:=Za (Zs (g:=gb8) (o:=.cells #[.slice Ao12 t1.length co12,.slice Ao14 t4.length co14,.int .i64 t7] 25 (0,0)) BK8.out hb);replace BK19:=Za (Zs (g:=gb19) (o:=.cells #[.slice Ao22 t12.length co22,.slice Ao25 t15.length co25] 58 (0,0)) BK19.out hb);replace HB:=Za (Zr (by exact HB.out) hb);obtain⟨Ao43,co43,eo43⟩:=Kd.R_slice HO24.out;subst eo43))
        go_ret
        exact⟨by first|rfl|(simp[ZC,ZB] <;> rfl)|(simp[*,ZC,ZB] <;> rfl),by repeat(first|(with_reducible first|exact HB.out|apply Zo|apply Zn|apply Zp|refine Zt ?_ GE8.out|refine Zt ?_ GE19.out)|exact HB.out)⟩
       ·replace c34:=Bool.eq_false_iff.mpr c34
        subst c34
        exact absurd H (by simp)
      ·rw[if_neg c32] at H
       have c32b0:decide (t9<0)=false:=Zf c32
       clear c32
       replace H:=Zh H
       obtain⟨⟨t25,t28,t31⟩,A440,H⟩:=H;have A44:=Za A440;clear A440
       by_cases c45:t31=true
       ·subst c45
        have H1:((Zao.f kj8 t1 t4 t7 t25 t28).bind fun t33=>(if t33=true then(some false) else((Zar.f kj8 t1 t4 t7 t25 t28).bind fun t34=>(if (t34.length:Int) > 0 then(if (Int.tmod t10 t11)≥t9 then(some true) else((Zao.f kj8 t1 t4 t7 t12 t15).bind fun t37=>(some t37))) else(some false)))))=some true:=by rw[if_pos rfl] at H;first|done|exact H
        clear H
        have H:=H1
        clear H1
        replace H:=Zh H
        obtain⟨t33,A460,H⟩:=H;have A46:=Za A460;clear A460
        by_cases c47:t33=true
        ·subst c47
         exact absurd H (by simp)
        ·replace c47:=Bool.eq_false_iff.mpr c47
         subst c47
         have H1:((Zar.f kj8 t1 t4 t7 t25 t28).bind fun t34=>(if (t34.length:Int) > 0 then(if (Int.tmod t10 t11)≥t9 then(some true) else((Zao.f kj8 t1 t4 t7 t12 t15).bind fun t37=>(some t37))) else(some false)))=some true:=by rw[if_neg (show ¬(false=true) by decide)] at H;first|done|exact H
         clear H
         have H:=H1
         clear H1
         replace H:=Zh H
         obtain⟨t34,A480,H⟩:=H;have A48:=Za A480;clear A480
         by_cases c49:(t34.length:Int) > 0
         ·rw[if_pos c49] at H
          have c49b0:decide (0<(t34.length:Int))=true:=Ze c49
          have c49b1:decide (0<t34.length)=true:=Ze (by omega)
          clear c49
          by_cases c50:(Int.tmod t10 t11)≥t9
          ·rw[if_pos c50] at H
           have c50b0:decide (t9≤(Int.tmod t10 t11))=true:=Ze c50
           clear c50 H
           have hnb51:=NB8_19.out
           have hnc51:=NB19_8.out
           have hcz52_0:wc.cell? ⟨gb8,0,none⟩=some (.slice Ao12 t1.length co12):=(Zm BK8.out 0).trans rfl
           have hcz52_1:wc.cell? ⟨gb8,1,none⟩=some (.slice Ao14 t4.length co14):=(Zm BK8.out 1).trans rfl
           have hcz52_2:wc.cell? ⟨gb8,2,none⟩=some (.int .i64 t7):=(Zm BK8.out 2).trans rfl
           have hfz52_0:=Zq BK8.out 0
           have hfz52_1:=Zq BK8.out 1
           have hfz52_2:=Zq BK8.out 2
           go_wp2_with (first|((with_reducible refine ZM (f:=51) rfl ?_);refine Z7 (some 52) rfl rfl Tryz.func51 (by kernel_rfl) rfl #[.agg #[.slice Ao12 t1.length co12,.slice Ao14 t4.length co14,.int .i64 t7],.int .i64 t9] rfl (by(try simp only[List.map_toArray,List.map_cons,List.map_nil]);first|done|rfl|(simp only[Zk,Zj];rfl)) ?_;(with_reducible refine(Zbg.calls kj8 _ _ t1 _ _ t4 t7 t9 t25 t28 true _ ?side1 ?side2 ?side3 ?side4 A44.out).mono ?_);(case side1=>repeat(first|exact(Kd.N_reads' HO_10009000.out).2.2|(with_reducible refine Kd.C_alloc ?_ _)|(with_reducible refine Kd.C_drewN ?_ _)|(with_reducible refine Kd.C_drew ?_)));(case side2=>exact(Kd.N_reads' HO_10009000.out).2.1);(case side3=>repeat(first|exact(Kd.R_reads' HO_10009001.out).2.2|(with_reducible refine Kd.C_alloc ?_ _)|(with_reducible refine Kd.C_drewN ?_ _)|(with_reducible refine Kd.C_drew ?_)));(case side4=>exact(Kd.R_reads' HO_10009001.out).2.1);rintro e w53 ⟨v26,v29,rfl,ho0,ho1,hb⟩;refine⟨_,rfl,?_⟩;have HO27:=Za (Kd.R_lower (Kd.R_new' (Kd.R_new' ho0 (Kd.R_lt (by exact HO_10020000.out))) (Kd.R_lt (by exact HO_10020001.out))) (Zv (by exact HB.out)));have HO30:=Za (Kd.R_lower (Kd.R_new' (Kd.R_new' ho1 (Kd.R_lt (by exact HO_10020000.out))) (Kd.R_lt (by exact HO_10020001.out))) (Zv (by exact HB.out)));replace HO_10009000:=Za (Kd.N_mono (Kd.N_told (Kd.N_told (Kd.N_old (by exact HO_10009000.out) hb) (Kd.R_base ho0)) (Kd.R_base ho1)) (fun _ h_=>h_.1));replace HO_10009001:=Za (Kd.R_below (by exact HO_10009001.out) hb);replace HO_10020000:=Za (Kd.R_mono (Kd.R_told (Kd.R_told (Kd.R_old (by exact HO_10020000.out) hb) (Kd.R_base ho0)) (Kd.R_base ho1)) (fun _ h_=>h_.1));replace HO_10020001:=Za (Kd.R_mono (Kd.R_told (Kd.R_told (Kd.R_old (by exact HO_10020001.out) hb) (Kd.R_base ho0)) (Kd.R_base ho1)) (fun _ h_=>h_.1));replace BK8:=Za (Zs (g:=gb8) (o:=.cells #[.slice Ao12 t1.length co12,.slice Ao14 t4.length co14,.int .i64 t7] 25 (0,0)) BK8.out hb);replace BK19:=Za (Zs (g:=gb19) (o:=.cells #[.slice Ao22 t12.length co22,.slice Ao25 t15.length co25] 58 (0,0)) BK19.out hb);replace HB:=Za (Zr (by exact HB.out) hb);(try clear ho1))|((with_reducible refine ZF (N:=8) rfl ?_);refine ZG ?hg (N:=8) ?hd (cs:=#[.slice none 0 0,.slice none 0 0]) (t:=58) ?hr ?_;(case hd=>rfl);(case hg=>rfl);(case hr=>first|(go_simp;done)|(go_simp;rfl));intro gb32 hg w54 hbox hb;have n0_:=Za (Kd.N_below (Kd.N_elderB (by exact HO_10009000.out) gb32 (Nat.le_of_eq hg.symm)) hb);have n1_:=Za (Kd.R_below (by exact HO_10009001.out) hb);have n2_:=Za (Kd.R_below (by exact HO_10020000.out) hb);have n3_:=Za (Kd.R_below (by exact HO_10020001.out) hb);have n4_:=Za (Kd.R_below (by exact HO27.out) hb);have n5_:=Za (Kd.R_below (by exact HO30.out) hb);have n6_:=Za (Zs (g:=gb8) (o:=.cells #[.slice Ao12 t1.length co12,.slice Ao14 t4.length co14,.int .i64 t7] 25 (0,0)) BK8.out hb);have n7_:=Za (Zs (g:=gb19) (o:=.cells #[.slice Ao22 t12.length co22,.slice Ao25 t15.length co25] 58 (0,0)) BK19.out hb);have n8_:=Za (Zr (by exact HB.out) hb);have n9_:=Za (hbox);have n10_:=Za ((by rw[hg];exact(Zv (by exact HB.out)):w.heap.size≤gb32));have n11_:=n10_;have n12_:=Za ((by rw[hg];exact Nat.ne_of_lt (ZN (g:=gb8) (o:=.cells #[.slice Ao12 t1.length co12,.slice Ao14 t4.length co14,.int .i64 t7] 25 (0,0)) BK8.out):gb8≠gb32));have n13_:=Za n12_.out.symm;have n14_:=Za ((by rw[hg];exact Nat.ne_of_lt (ZN (g:=gb19) (o:=.cells #[.slice Ao22 t12.length co22,.slice Ao25 t15.length co25] 58 (0,0)) BK19.out):gb19≠gb32));have n15_:=Za n14_.out.symm;clear HO_10009000;clear HO_10009001;clear HO_10020000;clear HO_10020001;clear HO27;clear HO30;clear BK8;clear BK19;clear HB;have HO_10009000:=n0_;have HO_10009001:=n1_;have HO_10020000:=n2_;have HO_10020001:=n3_;have HO27:=n4_;have HO30:=n5_;have BK8:=n6_;have BK19:=n7_;have HB:=n8_;have BK32:=n9_;have GW32:=n10_;have GE32:=n11_;have NB8_32:=n12_;have NB32_8:=n13_;have NB19_32:=n14_;have NB32_19:=n15_;clear n0_ n1_ n2_ n3_ n4_ n5_ n6_ n7_ n8_ n9_ n10_ n11_ n12_ n13_ n14_ n15_;clear hb hbox hg;obtain⟨Ao55,co55,eo55⟩:=Kd.R_slice HO27.out;subst eo55;have hnb56:=NB32_8.out;have hnc56:=NB8_32.out;have hnb57:=NB32_19.out;have hnc57:=NB19_32.out;have hcz58_0:w54.cell? ⟨gb32,0,none⟩=some (.slice none 0 0):=(Zm BK32.out 0).trans rfl;have hcz58_1:w54.cell? ⟨gb32,1,none⟩=some (.slice none 0 0):=(Zm BK32.out 1).trans rfl;have hfz58_0:=Zq BK32.out 0;have hfz58_1:=Zq BK32.out 1;obtain⟨Ao59,co59,eo59⟩:=Kd.R_slice HO30.out;subst eo59;have hcz60_0:w54.cell? ⟨gb8,0,none⟩=some (.slice Ao12 t1.length co12):=(Zm BK8.out 0).trans rfl;have hcz60_1:w54.cell? ⟨gb8,1,none⟩=some (.slice Ao14 t4.length co14):=(Zm BK8.out 1).trans rfl;have hcz60_2:w54.cell? ⟨gb8,2,none⟩=some (.int .i64 t7):=(Zm BK8.out 2).trans rfl)|(go_at_call 39;(with_reducible refine(Zao.calls kj8 _ _ t1 _ _ t4 t7 _ _ t25 _ _ t28 false _ ?side1 ?side2 ?side3 ?side4 ?side5 ?side6 ?side7 ?side8 ?sideT A46.out).mono ?_);(case sideT=>exact TW.below HTW.out (by repeat(first|(with_reducible first|exact HB.out|apply Zo|apply Zn|apply Zp|refine Zt ?_ GE8.out|refine Zt ?_ GE19.out|refine Zt ?_ GE32.out)|exact HB.out)));(case side1=>refine(Kd.N_reads' (e:=39) (base:=w.heap.size) (ok:=fun k_=>((((some k_≠(.slice Ao14 t4.length co14:Value).ownBlock∧(some k_≠(.slice Ao22 t12.length co22:Value).ownBlock∧(some k_≠(.slice Ao25 t15.length co25:Value).ownBlock∧(k_≠gb8∧k_≠gb19))))∧some k_≠(.slice Ao55 t25.length co55:Value).ownBlock)∧some k_≠(.slice Ao59 t28.length co59:Value).ownBlock)∧k_≠gb32)) (n:=t1.length) (c:=co12) ?_).2.2;exact(by(with_reducible repeat(first|apply Kd.N_alloc|apply Kd.N_drewN|apply Kd.N_drew));exact(Kd.N_mono (Kd.N_far (p:=⟨gb32,1,none⟩) (Kd.N_far (p:=⟨gb32,0,none⟩) (Kd.N_mono HO_10009000.out (fun k_ hk=>(⟨hk,hk.2⟩:_∧k_≠gb32))) (fun _ hk=>hk.2) (.slice Ao55 t25.length co55)) (fun _ hk=>hk.2) (.slice Ao59 t28.length co59)) (fun _ h_=>h_.1))));(case side2=>exact(Kd.N_reads' HO_10009000.out).2.1);(case side3=>refine(Kd.R_reads' (e:=82) (base:=w.heap.size) (ok:=fun k_=>True) (n:=t4.length) (c:=co14) ?_).2.2;exact(by(with_reducible repeat(first|apply Kd.R_alloc|apply Kd.R_drewN|apply Kd.R_drew));exact(Kd.R_mono (Kd.R_far (p:=⟨gb32,1,none⟩) (Kd.R_far (p:=⟨gb32,0,none⟩) (Kd.R_types HO_10009001.out BK32.out (by decide)) (fun _ hk=>hk.2) (.slice Ao55 t25.length co55)) (fun _ hk=>hk.2) (.slice Ao59 t28.length co59)) (fun _ h_=>h_.1))));(case side4=>exact(Kd.R_reads' HO_10009001.out).2.1);(case side5=>refine(Kd.R_reads' (e:=3) (base:=w.heap.size) (ok:=fun k_=>((some k_≠(.slice Ao59 t28.length co59:Value).ownBlock∧some k_≠(.slice Ao22 t12.length co22:Value).ownBlock)∧some k_≠(.slice Ao25 t15.length co25:Value).ownBlock)) (n:=t25.length) (c:=co55) ?_).2.2;exact(by(with_reducible repeat(first|apply Kd.R_alloc|apply Kd.R_drewN|apply Kd.R_drew));exact(Kd.R_mono (Kd.R_far (p:=⟨gb32,1,none⟩) (Kd.R_far (p:=⟨gb32,0,none⟩) (Kd.R_types HO27.out BK32.out (by decide)) (fun _ hk=>hk.2) (.slice Ao55 t25.length co55)) (fun _ hk=>hk.2) (.slice Ao59 t28.length co59)) (fun _ h_=>h_.1))));(case side6=>exact(Kd.R_reads' HO27.out).2.1);(case side7=>refine(Kd.R_reads' (e:=3) (base:=w.heap.size) (ok:=fun k_=>((some k_≠(.slice Ao55 t25.length co55:Value).ownBlock∧some k_≠(.slice Ao22 t12.length co22:Value).ownBlock)∧some k_≠(.slice Ao25 t15.length co25:Value).ownBlock)) (n:=t28.length) (c:=co59) ?_).2.2;exact(by(with_reducible repeat(first|apply Kd.R_alloc|apply Kd.R_drewN|apply Kd.R_drew));exact(Kd.R_mono (Kd.R_far (p:=⟨gb32,1,none⟩) (Kd.R_far (p:=⟨gb32,0,none⟩) (Kd.R_types HO30.out BK32.out (by decide)) (fun _ hk=>hk.2) (.slice Ao55 t25.length co55)) (fun _ hk=>hk.2) (.slice Ao59 t28.length co59)) (fun _ h_=>h_.1))));(case side8=>exact(Kd.R_reads' HO30.out).2.1);rintro e w61 ⟨rfl,hb⟩;replace HO_10009000:=Za (Kd.N_below (by(with_reducible repeat(first|apply Kd.N_alloc|apply Kd.N_drewN|apply Kd.N_drew));exact(Kd.N_mono (Kd.N_far (p:=⟨gb32,1,none⟩) (Kd.N_far (p:=⟨gb32,0,none⟩) (Kd.N_mono HO_10009000.out (fun k_ hk=>(⟨hk,hk.2⟩:_∧k_≠gb32))) (fun _ hk=>hk.2) (.slice Ao55 t25.length co55)) (fun _ hk=>hk.2) (.slice Ao59 t28.length co59)) (fun _ h_=>h_.1))) hb);replace HO_10009001:=Za (Kd.R_below (by(with_reducible repeat(first|apply Kd.R_alloc|apply Kd.R_drewN|apply Kd.R_drew));exact(Kd.R_mono (Kd.R_far (p:=⟨gb32,1,none⟩) (Kd.R_far (p:=⟨gb32,0,none⟩) (Kd.R_types HO_10009001.out BK32.out (by decide)) (fun _ hk=>hk.2) (.slice Ao55 t25.length co55)) (fun _ hk=>hk.2) (.slice Ao59 t28.length co59)) (fun _ h_=>h_.1))) hb);replace HO_10020000:=Za (Kd.R_below (by(with_reducible repeat(first|apply Kd.R_alloc|apply Kd.R_drewN|apply Kd.R_drew));exact(Kd.R_mono (Kd.R_far (p:=⟨gb32,1,none⟩) (Kd.R_far (p:=⟨gb32,0,none⟩) (Kd.R_types HO_10020000.out BK32.out (by decide)) (fun _ hk=>hk.2) (.slice Ao55 t25.length co55)) (fun _ hk=>hk.2) (.slice Ao59 t28.length co59)) (fun _ h_=>h_.1))) hb);replace HO_10020001:=Za (Kd.R_below (by(with_reducible repeat(first|apply Kd.R_alloc|apply Kd.R_drewN|apply Kd.R_drew));exact(Kd.R_mono (Kd.R_far (p:=⟨gb32,1,none⟩) (Kd.R_far (p:=⟨gb32,0,none⟩) (Kd.R_types HO_10020001.out BK32.out (by decide)) (fun _ hk=>hk.2) (.slice Ao55 t25.length co55)) (fun _ hk=>hk.2) (.slice Ao59 t28.length co59)) (fun _ h_=>h_.1))) hb);replace HO27:=Za (Kd.R_below (by(with_reducible repeat(first|apply Kd.R_alloc|apply Kd.R_drewN|apply Kd.R_drew));exact(Kd.R_mono (Kd.R_far (p:=⟨gb32,1,none⟩) (Kd.R_far (p:=⟨gb32,0,none⟩) (Kd.R_types HO27.out BK32.out (by decide)) (fun _ hk=>hk.2) (.slice Ao55 t25.length co55)) (fun _ hk=>hk.2) (.slice Ao59 t28.length co59)) (fun _ h_=>h_.1))) hb);replace HO30:=Za (Kd.R_below (by(with_reducible repeat(first|apply Kd.R_alloc|apply Kd.R_drewN|apply Kd.R_drew));exact(Kd.R_mono (Kd.R_far (p:=⟨gb32,1,none⟩) (Kd.R_far (p:=⟨gb32,0,none⟩) (Kd.R_types HO30.out BK32.out (by decide)) (fun _ hk=>hk.2) (.slice Ao55 t25.length co55)) (fun _ hk=>hk.2) (.slice Ao59 t28.length co59)) (fun _ h_=>h_.1))) hb);replace BK8:=Za (Zs (g:=gb8) (o:=.cells #[.slice Ao12 t1.length co12,.slice Ao14 t4.length co14,.int .i64 t7] 25 (0,0)) (by(with_reducible repeat(first|refine ZD ?_ _|refine Zz ?_|refine Zy ?_ _));refine ZL ?_ NB8_32.out _;(with_reducible repeat(first|refine ZD ?_ _|refine Zz ?_|refine Zy ?_ _));refine ZL ?_ NB8_32.out _;(with_reducible repeat(first|refine ZD ?_ _|refine Zz ?_|refine Zy ?_ _));exact BK8.out) hb);replace BK19:=Za (Zs (g:=gb19) (o:=.cells #[.slice Ao22 t12.length co22,.slice Ao25 t15.length co25] 58 (0,0)) (by(with_reducible repeat(first|refine ZD ?_ _|refine Zz ?_|refine Zy ?_ _));refine ZL ?_ NB19_32.out _;(with_reducible repeat(first|refine ZD ?_ _|refine Zz ?_|refine Zy ?_ _));refine ZL ?_ NB19_32.out _;(with_reducible repeat(first|refine ZD ?_ _|refine Zz ?_|refine Zy ?_ _));exact BK19.out) hb);replace BK32:=Za (Zs (g:=gb32) (o:=.cells #[.slice Ao55 t25.length co55,.slice Ao59 t28.length co59] 58 (0,0)) (by(with_reducible repeat(first|refine ZD ?_ _|refine Zz ?_|refine Zy ?_ _));refine ZR (cs:=#[.slice Ao55 t25.length co55,.slice none 0 0]) ?_ 1 _ rfl;(with_reducible repeat(first|refine ZD ?_ _|refine Zz ?_|refine Zy ?_ _));refine ZR (cs:=#[.slice none 0 0,.slice none 0 0]) ?_ 0 _ rfl;(with_reducible repeat(first|refine ZD ?_ _|refine Zz ?_|refine Zy ?_ _));exact BK32.out) hb);replace HB:=Za (Zr (by repeat(first|(with_reducible first|exact HB.out|apply Zo|apply Zn|apply Zp|refine Zt ?_ GE8.out|refine Zt ?_ GE19.out|refine Zt ?_ GE32.out)|exact HB.out)) hb);have hcz62_0:w61.cell? ⟨gb8,0,none⟩=some (.slice Ao12 t1.length co12):=(Zm BK8.out 0).trans rfl;have hcz62_1:w61.cell? ⟨gb8,1,none⟩=some (.slice Ao14 t4.length co14):=(Zm BK8.out 1).trans rfl;have hcz62_2:w61.cell? ⟨gb8,2,none⟩=some (.int .i64 t7):=(Zm BK8.out 2).trans rfl;have hfz62_0:=Zq BK8.out 0;have hfz62_1:=Zq BK8.out 1;have hfz62_2:=Zq BK8.out 2;have hcz63_0:w61.cell? ⟨gb32,0,none⟩=some (.slice Ao55 t25.length co55):=(Zm BK32.out 0).trans rfl;have hcz63_1:w61.cell? ⟨gb32,1,none⟩=some (.slice Ao59 t28.length co59):=(Zm BK32.out 1).trans rfl)|(go_at_call 45;(with_reducible refine(Zar.calls kj8 _ _ t1 _ _ t4 t7 _ _ t25 _ _ t28 t34 _ ?side1 ?side2 ?side3 ?side4 ?side5 ?side6 ?side7 ?side8 ?sideT A48.out).mono ?_);(case sideT=>exact TW.below HTW.out (by exact HB.out));(case side1=>repeat(first|exact(Kd.N_reads' HO_10009000.out).2.2|(with_reducible refine Kd.C_alloc ?_ _)|(with_reducible refine Kd.C_drewN ?_ _)|(with_reducible refine Kd.C_drew ?_)));(case side2=>exact(Kd.N_reads' HO_10009000.out).2.1);(case side3=>repeat(first|exact(Kd.R_reads' HO_10009001.out).2.2|(with_reducible refine Kd.C_alloc ?_ _)|(with_reducible refine Kd.C_drewN ?_ _)|(with_reducible refine Kd.C_drew ?_)));(case side4=>exact(Kd.R_reads' HO_10009001.out).2.1);(case side5=>repeat(first|exact(Kd.R_reads' HO27.out).2.2|(with_reducible refine Kd.C_alloc ?_ _)|(with_reducible refine Kd.C_drewN ?_ _)|(with_reducible refine Kd.C_drew ?_)));(case side6=>exact(Kd.R_reads' HO27.out).2.1);(case side7=>repeat(first|exact(Kd.R_reads' HO30.out).2.2|(with_reducible refine Kd.C_alloc ?_ _)|(with_reducible refine Kd.C_drewN ?_ _)|(with_reducible refine Kd.C_drew ?_)));(case side8=>exact(Kd.R_reads' HO30.out).2.1);rintro e w64 ⟨v35,rfl,ho0,hb⟩;have HO36:=Za (Kd.R_lower ho0 (Zv (by exact HB.out)));replace HO_10009000:=Za (Kd.N_elder' (by exact HO_10009000.out) (Kd.R_base ho0) hb);replace HO_10009001:=Za (Kd.R_below (by exact HO_10009001.out) hb);replace HO_10020000:=Za (Kd.R_below (by exact HO_10020000.out) hb);replace HO_10020001:=Za (Kd.R_below (by exact HO_10020001.out) hb);replace HO27:=Za (Kd.R_below (by exact HO27.out) hb);replace HO30:=Za (Kd.R_below (by exact HO30.out) hb);replace BK8:=Za (Zs (g:=gb8) (o:=.cells #[.slice Ao12 t1.length co12,.slice Ao14 t4.length co14,.int .i64 t7] 25 (0,0)) BK8.out hb);replace BK19:=Za (Zs (g:=gb19) (o:=.cells #[.slice Ao22 t12.length co22,.slice Ao25 t15.length co25] 58 (0,0)) BK19.out hb);replace BK32:=Za (Zs (g:=gb32) (o:=.cells #[.slice Ao55 t25.length co55,.slice Ao59 t28.length co59] 58 (0,0)) BK32.out hb);replace HB:=Za (Zr (by exact HB.out) hb);obtain⟨Ao65,co65,eo65⟩:=Kd.R_slice HO36.out;subst eo65))
           go_ret
           exact⟨by first|rfl|(simp[ZC,ZB] <;> rfl)|(simp[*,ZC,ZB] <;> rfl),by repeat(first|(with_reducible first|exact HB.out|apply Zo|apply Zn|apply Zp|refine Zt ?_ GE8.out|refine Zt ?_ GE19.out|refine Zt ?_ GE32.out)|exact HB.out)⟩
          ·rw[if_neg c50] at H
           have c50b0:decide (t9≤(Int.tmod t10 t11))=false:=Zf c50
           clear c50
           replace H:=Zh H
           obtain⟨t37,A660,H⟩:=H;have A66:=Za A660;clear A660
           obtain rfl:=Zg H
           have hnb67:=NB8_19.out
           have hnc67:=NB19_8.out
           have hcz68_0:wc.cell? ⟨gb8,0,none⟩=some (.slice Ao12 t1.length co12):=(Zm BK8.out 0).trans rfl
           have hcz68_1:wc.cell? ⟨gb8,1,none⟩=some (.slice Ao14 t4.length co14):=(Zm BK8.out 1).trans rfl
           have hcz68_2:wc.cell? ⟨gb8,2,none⟩=some (.int .i64 t7):=(Zm BK8.out 2).trans rfl
           have hfz68_0:=Zq BK8.out 0
           have hfz68_1:=Zq BK8.out 1
           have hfz68_2:=Zq BK8.out 2
           go_wp2_with (first|((with_reducible refine ZM (f:=51) rfl ?_);refine Z7 (some 52) rfl rfl Tryz.func51 (by kernel_rfl) rfl #[.agg #[.slice Ao12 t1.length co12,.slice Ao14 t4.length co14,.int .i64 t7],.int .i64 t9] rfl (by(try simp only[List.map_toArray,List.map_cons,List.map_nil]);first|done|rfl|(simp only[Zk,Zj];rfl)) ?_;(with_reducible refine(Zbg.calls kj8 _ _ t1 _ _ t4 t7 t9 t25 t28 true _ ?side1 ?side2 ?side3 ?side4 A44.out).mono ?_);(case side1=>repeat(first|exact(Kd.N_reads' HO_10009000.out).2.2|(with_reducible refine Kd.C_alloc ?_ _)|(with_reducible refine Kd.C_drewN ?_ _)|(with_reducible refine Kd.C_drew ?_)));(case side2=>exact(Kd.N_reads' HO_10009000.out).2.1);(case side3=>repeat(first|exact(Kd.R_reads' HO_10009001.out).2.2|(with_reducible refine Kd.C_alloc ?_ _)|(with_reducible refine Kd.C_drewN ?_ _)|(with_reducible refine Kd.C_drew ?_)));(case side4=>exact(Kd.R_reads' HO_10009001.out).2.1);rintro e w69 ⟨v26,v29,rfl,ho0,ho1,hb⟩;refine⟨_,rfl,?_⟩;have HO27:=Za (Kd.R_lower (Kd.R_new' (Kd.R_new' ho0 (Kd.R_lt (by exact HO_10020000.out))) (Kd.R_lt (by exact HO_10020001.out))) (Zv (by exact HB.out)));have HO30:=Za (Kd.R_lower (Kd.R_new' (Kd.R_new' ho1 (Kd.R_lt (by exact HO_10020000.out))) (Kd.R_lt (by exact HO_10020001.out))) (Zv (by exact HB.out)));replace HO_10009000:=Za (Kd.N_mono (Kd.N_told (Kd.N_told (Kd.N_old (by exact HO_10009000.out) hb) (Kd.R_base ho0)) (Kd.R_base ho1)) (fun _ h_=>h_.1));replace HO_10009001:=Za (Kd.R_below (by exact HO_10009001.out) hb);replace HO_10020000:=Za (Kd.R_mono (Kd.R_told (Kd.R_told (Kd.R_old (by exact HO_10020000.out) hb) (Kd.R_base ho0)) (Kd.R_base ho1)) (fun _ h_=>h_.1));replace HO_10020001:=Za (Kd.R_mono (Kd.R_told (Kd.R_told (Kd.R_old (by exact HO_10020001.out) hb) (Kd.R_base ho0)) (Kd.R_base ho1)) (fun _ h_=>h_.1));replace BK8:=Za (Zs (g:=gb8) (o:=.cells #[.slice Ao12 t1.length co12,.slice Ao14 t4.length co14,.int .i64 t7] 25 (0,0)) BK8.out hb);replace BK19:=Za (Zs (g:=gb19) (o:=.cells #[.slice Ao22 t12.length co22,.slice Ao25 t15.length co25] 58 (0,0)) BK19.out hb);replace HB:=Za (Zr (by exact HB.out) hb);(try clear ho1))|((with_reducible refine ZF (N:=8) rfl ?_);refine ZG ?hg (N:=8) ?hd (cs:=#[.slice none 0 0,.slice none 0 0]) (t:=58) ?hr ?_;(case hd=>rfl);(case hg=>rfl);(case hr=>first|(go_simp;done)|(go_simp;rfl));intro gb32 hg w70 hbox hb;have n0_:=Za (Kd.N_below (Kd.N_elderB (by exact HO_10009000.out) gb32 (Nat.le_of_eq hg.symm)) hb);have n1_:=Za (Kd.R_below (by exact HO_10009001.out) hb);have n2_:=Za (Kd.R_below (by exact HO_10020000.out) hb);have n3_:=Za (Kd.R_below (by exact HO_10020001.out) hb);have n4_:=Za (Kd.R_below (by exact HO27.out) hb);have n5_:=Za (Kd.R_below (by exact HO30.out) hb);have n6_:=Za (Zs (g:=gb8) (o:=.cells #[.slice Ao12 t1.length co12,.slice Ao14 t4.length co14,.int .i64 t7] 25 (0,0)) BK8.out hb);have n7_:=Za (Zs (g:=gb19) (o:=.cells #[.slice Ao22 t12.length co22,.slice Ao25 t15.length co25] 58 (0,0)) BK19.out hb);have n8_:=Za (Zr (by exact HB.out) hb);have n9_:=Za (hbox);have n10_:=Za ((by rw[hg];exact(Zv (by exact HB.out)):w.heap.size≤gb32));have n11_:=n10_;have n12_:=Za ((by rw[hg];exact Nat.ne_of_lt (ZN (g:=gb8) (o:=.cells #[.slice Ao12 t1.length co12,.slice Ao14 t4.length co14,.int .i64 t7] 25 (0,0)) BK8.out):gb8≠gb32));have n13_:=Za n12_.out.symm;have n14_:=Za ((by rw[hg];exact Nat.ne_of_lt (ZN (g:=gb19) (o:=.cells #[.slice Ao22 t12.length co22,.slice Ao25 t15.length co25] 58 (0,0)) BK19.out):gb19≠gb32));have n15_:=Za n14_.out.symm;clear HO_10009000;clear HO_10009001;clear HO_10020000;clear HO_10020001;clear HO27;clear HO30;clear BK8;clear BK19;clear HB;have HO_10009000:=n0_;have HO_10009001:=n1_;have HO_10020000:=n2_;have HO_10020001:=n3_;have HO27:=n4_;have HO30:=n5_;have BK8:=n6_;have BK19:=n7_;have HB:=n8_;have BK32:=n9_;have GW32:=n10_;have GE32:=n11_;have NB8_32:=n12_;have NB32_8:=n13_;have NB19_32:=n14_;have NB32_19:=n15_;clear n0_ n1_ n2_ n3_ n4_ n5_ n6_ n7_ n8_ n9_ n10_ n11_ n12_ n13_ n14_ n15_;clear hb hbox hg;obtain⟨Ao71,co71,eo71⟩:=Kd.R_slice HO27.out;subst eo71;have hnb72:=NB32_8.out;have hnc72:=NB8_32.out;have hnb73:=NB32_19.out;have hnc73:=NB19_32.out;have hcz74_0:w70.cell? ⟨gb32,0,none⟩=some (.slice none 0 0):=(Zm BK32.out 0).trans rfl;have hcz74_1:w70.cell? ⟨gb32,1,none⟩=some (.slice none 0 0):=(Zm BK32.out 1).trans rfl;have hfz74_0:=Zq BK32.out 0;have hfz74_1:=Zq BK32.out 1;obtain⟨Ao75,co75,eo75⟩:=Kd.R_slice HO30.out;subst eo75;have hcz76_0:w70.cell? ⟨gb8,0,none⟩=some (.slice Ao12 t1.length co12):=(Zm BK8.out 0).trans rfl;have hcz76_1:w70.cell? ⟨gb8,1,none⟩=some (.slice Ao14 t4.length co14):=(Zm BK8.out 1).trans rfl;have hcz76_2:w70.cell? ⟨gb8,2,none⟩=some (.int .i64 t7):=(Zm BK8.out 2).trans rfl)|(go_at_call 39;(with_reducible refine(Zao.calls kj8 _ _ t1 _ _ t4 t7 _ _ t25 _ _ t28 false _ ?side1 ?side2 ?side3 ?side4 ?side5 ?side6 ?side7 ?side8 ?sideT A46.out).mono ?_);(case sideT=>exact TW.below HTW.out (by repeat(first|(with_reducible first|exact HB.out|apply Zo|apply Zn|apply Zp|refine Zt ?_ GE8.out|refine Zt ?_ GE19.out|refine Zt ?_ GE32.out)|exact HB.out)));(case side1=>refine(Kd.N_reads' (e:=39) (base:=w.heap.size) (ok:=fun k_=>((((some k_≠(.slice Ao14 t4.length co14:Value).ownBlock∧(some k_≠(.slice Ao22 t12.length co22:Value).ownBlock∧(some k_≠(.slice Ao25 t15.length co25:Value).ownBlock∧(k_≠gb8∧k_≠gb19))))∧some k_≠(.slice Ao71 t25.length co71:Value).ownBlock)∧some k_≠(.slice Ao75 t28.length co75:Value).ownBlock)∧k_≠gb32)) (n:=t1.length) (c:=co12) ?_).2.2;exact(by(with_reducible repeat(first|apply Kd.N_alloc|apply Kd.N_drewN|apply Kd.N_drew));exact(Kd.N_mono (Kd.N_far (p:=⟨gb32,1,none⟩) (Kd.N_far (p:=⟨gb32,0,none⟩) (Kd.N_mono HO_10009000.out (fun k_ hk=>(⟨hk,hk.2⟩:_∧k_≠gb32))) (fun _ hk=>hk.2) (.slice Ao71 t25.length co71)) (fun _ hk=>hk.2) (.slice Ao75 t28.length co75)) (fun _ h_=>h_.1))));(case side2=>exact(Kd.N_reads' HO_10009000.out).2.1);(case side3=>refine(Kd.R_reads' (e:=82) (base:=w.heap.size) (ok:=fun k_=>True) (n:=t4.length) (c:=co14) ?_).2.2;exact(by(with_reducible repeat(first|apply Kd.R_alloc|apply Kd.R_drewN|apply Kd.R_drew));exact(Kd.R_mono (Kd.R_far (p:=⟨gb32,1,none⟩) (Kd.R_far (p:=⟨gb32,0,none⟩) (Kd.R_types HO_10009001.out BK32.out (by decide)) (fun _ hk=>hk.2) (.slice Ao71 t25.length co71)) (fun _ hk=>hk.2) (.slice Ao75 t28.length co75)) (fun _ h_=>h_.1))));(case side4=>exact(Kd.R_reads' HO_10009001.out).2.1);(case side5=>refine(Kd.R_reads' (e:=3) (base:=w.heap.size) (ok:=fun k_=>((some k_≠(.slice Ao75 t28.length co75:Value).ownBlock∧some k_≠(.slice Ao22 t12.length co22:Value).ownBlock)∧some k_≠(.slice Ao25 t15.length co25:Value).ownBlock)) (n:=t25.length) (c:=co71) ?_).2.2;exact(by(with_reducible repeat(first|apply Kd.R_alloc|apply Kd.R_drewN|apply Kd.R_drew));exact(Kd.R_mono (Kd.R_far (p:=⟨gb32,1,none⟩) (Kd.R_far (p:=⟨gb32,0,none⟩) (Kd.R_types HO27.out BK32.out (by decide)) (fun _ hk=>hk.2) (.slice Ao71 t25.length co71)) (fun _ hk=>hk.2) (.slice Ao75 t28.length co75)) (fun _ h_=>h_.1))));(case side6=>exact(Kd.R_reads' HO27.out).2.1);(case side7=>refine(Kd.R_reads' (e:=3) (base:=w.heap.size) (ok:=fun k_=>((some k_≠(.slice Ao71 t25.length co71:Value).ownBlock∧some k_≠(.slice Ao22 t12.length co22:Value).ownBlock)∧some k_≠(.slice Ao25 t15.length co25:Value).ownBlock)) (n:=t28.length) (c:=co75) ?_).2.2;exact(by(with_reducible repeat(first|apply Kd.R_alloc|apply Kd.R_drewN|apply Kd.R_drew));exact(Kd.R_mono (Kd.R_far (p:=⟨gb32,1,none⟩) (Kd.R_far (p:=⟨gb32,0,none⟩) (Kd.R_types HO30.out BK32.out (by decide)) (fun _ hk=>hk.2) (.slice Ao71 t25.length co71)) (fun _ hk=>hk.2) (.slice Ao75 t28.length co75)) (fun _ h_=>h_.1))));(case side8=>exact(Kd.R_reads' HO30.out).2.1);rintro e w77 ⟨rfl,hb⟩;replace HO_10009000:=Za (Kd.N_below (by(with_reducible repeat(first|apply Kd.N_alloc|apply Kd.N_drewN|apply Kd.N_drew));exact(Kd.N_mono (Kd.N_far (p:=⟨gb32,1,none⟩) (Kd.N_far (p:=⟨gb32,0,none⟩) (Kd.N_mono HO_10009000.out (fun k_ hk=>(⟨hk,hk.2⟩:_∧k_≠gb32))) (fun _ hk=>hk.2) (.slice Ao71 t25.length co71)) (fun _ hk=>hk.2) (.slice Ao75 t28.length co75)) (fun _ h_=>h_.1))) hb);replace HO_10009001:=Za (Kd.R_below (by(with_reducible repeat(first|apply Kd.R_alloc|apply Kd.R_drewN|apply Kd.R_drew));exact(Kd.R_mono (Kd.R_far (p:=⟨gb32,1,none⟩) (Kd.R_far (p:=⟨gb32,0,none⟩) (Kd.R_types HO_10009001.out BK32.out (by decide)) (fun _ hk=>hk.2) (.slice Ao71 t25.length co71)) (fun _ hk=>hk.2) (.slice Ao75 t28.length co75)) (fun _ h_=>h_.1))) hb);replace HO_10020000:=Za (Kd.R_below (by(with_reducible repeat(first|apply Kd.R_alloc|apply Kd.R_drewN|apply Kd.R_drew));exact(Kd.R_mono (Kd.R_far (p:=⟨gb32,1,none⟩) (Kd.R_far (p:=⟨gb32,0,none⟩) (Kd.R_types HO_10020000.out BK32.out (by decide)) (fun _ hk=>hk.2) (.slice Ao71 t25.length co71)) (fun _ hk=>hk.2) (.slice Ao75 t28.length co75)) (fun _ h_=>h_.1))) hb);replace HO_10020001:=Za (Kd.R_below (by(with_reducible repeat(first|apply Kd.R_alloc|apply Kd.R_drewN|apply Kd.R_drew));exact(Kd.R_mono (Kd.R_far (p:=⟨gb32,1,none⟩) (Kd.R_far (p:=⟨gb32,0,none⟩) (Kd.R_types HO_10020001.out BK32.out (by decide)) (fun _ hk=>hk.2) (.slice Ao71 t25.length co71)) (fun _ hk=>hk.2) (.slice Ao75 t28.length co75)) (fun _ h_=>h_.1))) hb);replace HO27:=Za (Kd.R_below (by(with_reducible repeat(first|apply Kd.R_alloc|apply Kd.R_drewN|apply Kd.R_drew));exact(Kd.R_mono (Kd.R_far (p:=⟨gb32,1,none⟩) (Kd.R_far (p:=⟨gb32,0,none⟩) (Kd.R_types HO27.out BK32.out (by decide)) (fun _ hk=>hk.2) (.slice Ao71 t25.length co71)) (fun _ hk=>hk.2) (.slice Ao75 t28.length co75)) (fun _ h_=>h_.1))) hb);replace HO30:=Za (Kd.R_below (by(with_reducible repeat(first|apply Kd.R_alloc|apply Kd.R_drewN|apply Kd.R_drew));exact(Kd.R_mono (Kd.R_far (p:=⟨gb32,1,none⟩) (Kd.R_far (p:=⟨gb32,0,none⟩) (Kd.R_types HO30.out BK32.out (by decide)) (fun _ hk=>hk.2) (.slice Ao71 t25.length co71)) (fun _ hk=>hk.2) (.slice Ao75 t28.length co75)) (fun _ h_=>h_.1))) hb);replace BK8:=Za (Zs (g:=gb8) (o:=.cells #[.slice Ao12 t1.length co12,.slice Ao14 t4.length co14,.int .i64 t7] 25 (0,0)) (by(with_reducible repeat(first|refine ZD ?_ _|refine Zz ?_|refine Zy ?_ _));refine ZL ?_ NB8_32.out _;(with_reducible repeat(first|refine ZD ?_ _|refine Zz ?_|refine Zy ?_ _));refine ZL ?_ NB8_32.out _;(with_reducible repeat(first|refine ZD ?_ _|refine Zz ?_|refine Zy ?_ _));exact BK8.out) hb);replace BK19:=Za (Zs (g:=gb19) (o:=.cells #[.slice Ao22 t12.length co22,.slice Ao25 t15.length co25] 58 (0,0)) (by(with_reducible repeat(first|refine ZD ?_ _|refine Zz ?_|refine Zy ?_ _));refine ZL ?_ NB19_32.out _;(with_reducible repeat(first|refine ZD ?_ _|refine Zz ?_|refine Zy ?_ _));refine ZL ?_ NB19_32.out _;(with_reducible repeat(first|refine ZD ?_ _|refine Zz ?_|refine Zy ?_ _));exact BK19.out) hb);replace BK32:=Za (Zs (g:=gb32) (o:=.cells #[.slice Ao71 t25.length co71,.slice Ao75 t28.length co75] 58 (0,0)) (by(with_reducible repeat(first|refine ZD ?_ _|refine Zz ?_|refine Zy ?_ _));refine ZR (cs:=#[.slice Ao71 t25.length co71,.slice none 0 0]) ?_ 1 _ rfl;(with_reducible repeat(first|refine ZD ?_ _|refine Zz ?_|refine Zy ?_ _));refine ZR (cs:=#[.slice none 0 0,.slice none 0 0]) ?_ 0 _ rfl;(with_reducible repeat(first|refine ZD ?_ _|refine Zz ?_|refine Zy ?_ _));exact BK32.out) hb);replace HB:=Za (Zr (by repeat(first|(with_reducible first|exact HB.out|apply Zo|apply Zn|apply Zp|refine Zt ?_ GE8.out|refine Zt ?_ GE19.out|refine Zt ?_ GE32.out)|exact HB.out)) hb);have hcz78_0:w77.cell? ⟨gb8,0,none⟩=some (.slice Ao12 t1.length co12):=(Zm BK8.out 0).trans rfl;have hcz78_1:w77.cell? ⟨gb8,1,none⟩=some (.slice Ao14 t4.length co14):=(Zm BK8.out 1).trans rfl;have hcz78_2:w77.cell? ⟨gb8,2,none⟩=some (.int .i64 t7):=(Zm BK8.out 2).trans rfl;have hfz78_0:=Zq BK8.out 0;have hfz78_1:=Zq BK8.out 1;have hfz78_2:=Zq BK8.out 2;have hcz79_0:w77.cell? ⟨gb32,0,none⟩=some (.slice Ao71 t25.length co71):=(Zm BK32.out 0).trans rfl;have hcz79_1:w77.cell? ⟨gb32,1,none⟩=some (.slice Ao75 t28.length co75):=(Zm BK32.out 1).trans rfl)|(go_at_call 45;(with_reducible refine(Zar.calls kj8 _ _ t1 _ _ t4 t7 _ _ t25 _ _ t28 t34 _ ?side1 ?side2 ?side3 ?side4 ?side5 ?side6 ?side7 ?side8 ?sideT A48.out).mono ?_);(case sideT=>exact TW.below HTW.out (by exact HB.out));(case side1=>repeat(first|exact(Kd.N_reads' HO_10009000.out).2.2|(with_reducible refine Kd.C_alloc ?_ _)|(with_reducible refine Kd.C_drewN ?_ _)|(with_reducible refine Kd.C_drew ?_)));(case side2=>exact(Kd.N_reads' HO_10009000.out).2.1);(case side3=>repeat(first|exact(Kd.R_reads' HO_10009001.out).2.2|(with_reducible refine Kd.C_alloc ?_ _)|(with_reducible refine Kd.C_drewN ?_ _)|(with_reducible refine Kd.C_drew ?_)));(case side4=>exact(Kd.R_reads' HO_10009001.out).2.1);(case side5=>repeat(first|exact(Kd.R_reads' HO27.out).2.2|(with_reducible refine Kd.C_alloc ?_ _)|(with_reducible refine Kd.C_drewN ?_ _)|(with_reducible refine Kd.C_drew ?_)));(case side6=>exact(Kd.R_reads' HO27.out).2.1);(case side7=>repeat(first|exact(Kd.R_reads' HO30.out).2.2|(with_reducible refine Kd.C_alloc ?_ _)|(with_reducible refine Kd.C_drewN ?_ _)|(with_reducible refine Kd.C_drew ?_)));(case side8=>exact(Kd.R_reads' HO30.out).2.1);rintro e w80 ⟨v35,rfl,ho0,hb⟩;have HO36:=Za (Kd.R_lower ho0 (Zv (by exact HB.out)));replace HO_10009000:=Za (Kd.N_elder' (by exact HO_10009000.out) (Kd.R_base ho0) hb);replace HO_10009001:=Za (Kd.R_below (by exact HO_10009001.out) hb);replace HO_10020000:=Za (Kd.R_below (by exact HO_10020000.out) hb);replace HO_10020001:=Za (Kd.R_below (by exact HO_10020001.out) hb);replace HO27:=Za (Kd.R_below (by exact HO27.out) hb);replace HO30:=Za (Kd.R_below (by exact HO30.out) hb);replace BK8:=Za (Zs (g:=gb8) (o:=.cells #[.slice Ao12 t1.length co12,.slice Ao14 t4.length co14,.int .i64 t7] 25 (0,0)) BK8.out hb);replace BK19:=Za (Zs (g:=gb19) (o:=.cells #[.slice Ao22 t12.length co22,.slice Ao25 t15.length co25] 58 (0,0)) BK19.out hb);replace BK32:=Za (Zs (g:=gb32) (o:=.cells #[.slice Ao71 t25.length co71,.slice Ao75 t28.length co75] 58 (0,0)) BK32.out hb);replace HB:=Za (Zr (by exact HB.out) hb);obtain⟨Ao81,co81,eo81⟩:=Kd.R_slice HO36.out;subst eo81;have hcz82_0:w80.cell? ⟨gb8,0,none⟩=some (.slice Ao12 t1.length co12):=(Zm BK8.out 0).trans rfl;have hcz82_1:w80.cell? ⟨gb8,1,none⟩=some (.slice Ao14 t4.length co14):=(Zm BK8.out 1).trans rfl;have hcz82_2:w80.cell? ⟨gb8,2,none⟩=some (.int .i64 t7):=(Zm BK8.out 2).trans rfl;have hfz82_0:=Zq BK8.out 0;have hfz82_1:=Zq BK8.out 1;have hfz82_2:=Zq BK8.out 2;have hcz83_0:w80.cell? ⟨gb19,0,none⟩=some (.slice Ao22 t12.length co22):=(Zm BK19.out 0).trans rfl;have hcz83_1:w80.cell? ⟨gb19,1,none⟩=some (.slice Ao25 t15.length co25):=(Zm BK19.out 1).trans rfl)|(go_at_call 39;(with_reducible refine(Zao.calls kj8 _ _ t1 _ _ t4 t7 _ _ t12 _ _ t15 true _ ?side1 ?side2 ?side3 ?side4 ?side5 ?side6 ?side7 ?side8 ?sideT A66.out).mono ?_);(case sideT=>exact TW.below HTW.out (by exact HB.out));(case side1=>repeat(first|exact(Kd.N_reads' HO_10009000.out).2.2|(with_reducible refine Kd.C_alloc ?_ _)|(with_reducible refine Kd.C_drewN ?_ _)|(with_reducible refine Kd.C_drew ?_)));(case side2=>exact(Kd.N_reads' HO_10009000.out).2.1);(case side3=>repeat(first|exact(Kd.R_reads' HO_10009001.out).2.2|(with_reducible refine Kd.C_alloc ?_ _)|(with_reducible refine Kd.C_drewN ?_ _)|(with_reducible refine Kd.C_drew ?_)));(case side4=>exact(Kd.R_reads' HO_10009001.out).2.1);(case side5=>repeat(first|exact(Kd.R_reads' HO_10020000.out).2.2|(with_reducible refine Kd.C_alloc ?_ _)|(with_reducible refine Kd.C_drewN ?_ _)|(with_reducible refine Kd.C_drew ?_)));(case side6=>exact(Kd.R_reads' HO_10020000.out).2.1);(case side7=>repeat(first|exact(Kd.R_reads' HO_10020001.out).2.2|(with_reducible refine Kd.C_alloc ?_ _)|(with_reducible refine Kd.C_drewN ?_ _)|(with_reducible refine Kd.C_drew ?_)));(case side8=>exact(Kd.R_reads' HO_10020001.out).2.1);rintro e w84 ⟨rfl,hb⟩;replace HO_10009000:=Za (Kd.N_below (by exact HO_10009000.out) hb);replace HO_10009001:=Za (Kd.R_below (by exact HO_10009001.out) hb);replace HO_10020000:=Za (Kd.R_below (by exact HO_10020000.out) hb);replace HO_10020001:=Za (Kd.R_below (by exact HO_10020001.out) hb);replace HO27:=Za (Kd.R_below (by exact HO27.out) hb);replace HO30:=Za (Kd.R_below (by exact HO30.out) hb);replace HO36:=Za (Kd.R_below (by exact HO36.out) hb);replace BK8:=Za (Zs (g:=gb8) (o:=.cells #[.slice Ao12 t1.length co12,.slice Ao14 t4.length co14,.int .i64 t7] 25 (0,0)) BK8.out hb);replace BK19:=Za (Zs (g:=gb19) (o:=.cells #[.slice Ao22 t12.length co22,.slice Ao25 t15.length co25] 58 (0,0)) BK19.out hb);replace BK32:=Za (Zs (g:=gb32) (o:=.cells #[.slice Ao71 t25.length co71,.slice Ao75 t28.length co75] 58 (0,0)) BK32.out hb);replace HB:=Za (Zr (by exact HB.out) hb);(try clear hi)))
           go_ret
           exact⟨by first|rfl|(simp[ZC,ZB] <;> rfl)|(simp[*,ZC,ZB] <;> rfl),by repeat(first|(with_reducible first|exact HB.out|apply Zo|apply Zn|apply Zp|refine Zt ?_ GE8.out|refine Zt ?_ GE19.out|refine Zt ?_ GE32.out)|exact HB.out)⟩
         ·rw[if_neg c49] at H
          have c49b0:decide (0<(t34.length:Int))=false:=Zf c49
          have c49b1:decide (0<t34.length)=false:=Zf (by omega)
          clear c49
          exact absurd H (by simp)
       ·replace c45:=Bool.eq_false_iff.mpr c45
        subst c45
        exact absurd H (by simp)
def laws_FnWeak.Pure:Prop:=∀(y0:List Int),(fun l_:List Int=>l_.length≤maxLen∧∀x_∈l_,(fun n_:Int=>(Lit.int .u8 n_).wf=true) x_) y0→∃k,laws_FnWeak.f k y0=some true
end Go.Proofs.YtoeimopgoaffcaaGreatDoor.Pr
set_option linter.unusedSimpArgs false
set_option linter.unusedVariables false
namespace Go.Proofs.YtoeimopgoaffcaaGreatDoor.Pure
open RowKit Pr Ni YtoeimopgoaffcaaGreatDoorW.PrintWords YtoeimopgoaffcaaGreatDoorW.PrintMore
theorem small_of {ns:List ZK} {ts:List PTie} {z:Int} (hs:Zat ns ts z=true):Zck ns ts:=by
 have hn:=ZbL hs
 refine⟨by have:=Zc9 hn;omega,by have:=ZeB (ZbZ hs);omega,fun n hm=>?_⟩
 obtain⟨j,hj,rfl⟩:=List.mem_iff_getElem.1 hm
 have:=Zeo hn (j:=(j:Int)) (by omega) (by omega)
 rw[Zcm,List.getD_eq_getElem?_getD,Zl hj] at this
 have h3:=Zfl this.2.1
 simp only[Option.getD_some] at this h3
 exact⟨by omega,by omega⟩
section
variable {ns:List ZK} {ts:List PTie} {z:Int}
theorem wk_some:∀(d n:Nat),0≤Zcq ns ts z d n→(n:Int)≤Zcq ns ts z d n∧Zcq ns ts z d n<(n+d:Nat)∧Zc1 ns ts z (Zcq ns ts z d n)=false∧∀j:Nat,n≤j→(j:Int)<Zcq ns ts z d n→Zc1 ns ts z (j:Int)=true
 | 0,n,h=>by simp[Zcq] at h
 | d+1,n,h=>by
  rw[Zcq] at h ⊢
  by_cases c:Zc1 ns ts z (n:Int)=true
  ·rw[if_pos c] at h ⊢
   obtain⟨a,b,e,f⟩:=wk_some d (n+1) h
   refine⟨by omega,by omega,e,fun j h1 h2=>?_⟩
   by_cases hj:j=n
   ·rw[hj];exact c
   ·exact f j (by omega) h2
  ·rw[if_neg c]
   exact⟨Int.le_refl _,by omega,Bool.eq_false_iff.2 c,fun j h1 h2=>by omega⟩
theorem wk_none:∀(d n:Nat),Zcq ns ts z d n<0→∀j:Nat,n≤j→j<n+d→Zc1 ns ts z (j:Int)=true
 | 0,n,_,j,h1,h2=>by omega
 | d+1,n,h,j,h1,h2=>by
  rw[Zcq] at h
  by_cases c:Zc1 ns ts z (n:Int)=true
  ·rw[if_pos c] at h
   by_cases hj:j=n
   ·rw[hj];exact c
   ·exact wk_none d (n+1) h j (by omega) (by omega)
  ·rw[if_neg c] at h;omega
theorem conf_iff (hd:DShow ns ts z) {ln vs:List Int} (hc:Zbk ns ts ln vs=true):((confB (ns.length:Int) (Zb6 ns ts z ln vs)).length=0)↔Zdv ns ts z ln vs=true:=by
 have hsim:=proj_simple hd.ok hd.lab hd.len hc
 have hch:ZcR ns ts z ln vs=true:=by unfold ZcR;rw[hd.ok,hc];rfl
 unfold Zdv projB fin2 confB consB
 rw[if_pos hch,if_pos hsim,if_pos hsim]
 dsimp only
 rw[hsim,List.length_map,Bool.true_and,Bool.true_and,List.isEmpty_iff,List.length_eq_zero_iff]
theorem Zfx:∀(L:List PLk) (i:Nat),∀y∈ZbV i L,(i:Int)≤y∧y<((i+L.length:Nat):Int)
 | [],i,y,h=>by simp[ZbV] at h
 | x :: t,i,y,h=>by
  rw[ZbV,List.mem_append] at h
  rw[List.length_cons]
  rcases h with h|h
  ·unfold linksL at h
   rw[List.mem_append] at h
   rcases h with h|h <;> split at h <;> simp at h <;> omega
  ·have:=Zfx t (i+1) y h
   omega
theorem expl_len (hd:DShow ns ts z) (hc:Zck ns ts) {ln vs:List Int} (hch:Zbk ns ts ln vs=true) (hlv:vs.length≤1048576) (k:Nat) (hk:2 ^ 67≤k):∃R,Zar.f k ns ts z ln vs=some R∧R.length=(confB (ns.length:Int) (Zb6 ns ts z ln vs)).length:=by
 have h:ZcR ns ts z ln vs=true:=by unfold ZcR;rw[hd.ok,hch];rfl
 unfold Zar.f
 rw[Zd6 ln vs hc hlv k (by omega),Zi,if_pos h,Zei hc hd.ok hch k (by omega),Zi]
 dsimp only
 rw[Zfb _ _ k (by omega),Zi,gath_of ByteArray.empty (by have:=confB_len (ns.length:Int) (Zb6 ns ts z ln vs);omega) (fun x hx=>?_)]
 ·exact⟨_,rfl,by rw[List.length_map]⟩
 ·unfold confB at hx
  split at hx
  case isFalse=>exact absurd hx (by simp)
  obtain⟨c,hc',rfl⟩:=List.mem_map.1 hx
  have h2:=ncF_in.2 c hc'
  rw[← Zep (Zb6 ns ts z ln vs) 0] at h2
  have:=Zfx (Zb6 ns ts z ln vs) 0 _ (ZaJ (show c.toNat<(ZbV 0 (Zb6 ns ts z ln vs)).length by omega) 0)
  rw[projR_len (z:=z) (ln:=ln)]
  omega
theorem num_mod {x c:Int} (h0:0≤x) (hc:1≤c):0≤Int.tmod x c∧Int.tmod x c<c:=by
 rw[Int.tmod_eq_emod_of_nonneg h0]
 exact⟨Int.emod_nonneg _ (by omega),Int.emod_lt_of_pos _ (by omega)⟩
end
theorem FnWeak:laws_FnWeak.Pure:=by
 rintro b ⟨_,_⟩
 refine⟨2 ^ 70+1,?_⟩
 unfold laws_FnWeak.f
 by_cases h:(b.length:Int) > 1048576
 ·rw[if_pos h]
 rw[if_neg h]
 have hb:b.length≤1048576:=by omega
 obtain⟨ns,ts,z,e1,hd⟩:=show_f hb (2 ^ 70+1) (by omega)
 obtain⟨x,e2,x0,x1⟩:=num_f hb 40 (by omega) (2 ^ 70+1) (by omega)
 have hs:=hd.ok
 have hc:=small_of hs
 obtain⟨hcnt,p1,p2,q1,q2⟩:=count_eq hs hd.len
 have hpp:1≤Zbh ts (Zaa ts) * pwV (Zas ns) 3 1:=Nat.mul_pos p1 q1
 have hc1:1≤ZaT ns ts z:=by omega
 obtain⟨t0,t1⟩:=num_mod x0 hc1
 obtain⟨j,hj⟩:=Int.eq_ofNat_of_zero_le t0
 rw[e1,Zi]
 dsimp only
 rw[ZdA hc _ (by omega),Zi,e2,Zi,ZcS (Zek hc) hc.2.1 _ (by omega),Zi,if_neg (by omega),Zd7 _ hc _ (by omega),Zi]
 have hat:=Zd1 hs hd.len t0 t1
 rw[show(ZaB ns ts z (Int.tmod x (ZaT ns ts z))).2.2=true by rw[hat],if_pos rfl]
 have hw:Zcc.f (2 ^ 70+1) ns ts z=some (decide (Zcx ns ts z<0)):=by
  unfold Zcc.f
  rw[ZdD (Zek hc),hs,Zi,if_pos rfl,ZdA hc _ (by omega)];rfl
 rw[hw,Zi,bne_self_eq_false]
 have hlen:∀n:Int,(ZaB ns ts z n).2.1.length≤1048576:=fun n=>by have:=(ZeA ns ts z n).2;omega
 simp only[laws_FnWeak.j0]
 rw[if_neg (by simp)]
 by_cases hn:Zcx ns ts z<0
 ·have hm:Zc1 ns ts z (Int.tmod x (ZaT ns ts z))=true:=by
   rw[hj] at t1 ⊢
   exact wk_none _ 0 hn j (Nat.zero_le _) (by omega)
  have hx:=(conf_iff hd (Zdx hs hd.len t0 t1)).2 hm
  obtain⟨R,hR,hRl⟩:=expl_len hd hc (Zdx hs hd.len t0 t1) (hlen _) (2 ^ 70) (by omega)
  rw[if_pos hn,ZcK hc (hlen _) _ (by omega),Zi,show Zdv ns ts z (ZaB ns ts z (Int.tmod x (ZaT ns ts z))).1 (ZaB ns ts z (Int.tmod x (ZaT ns ts z))).2.1=true from hm,if_pos rfl,hR,Zi,hRl,hx];rfl
 ·rw[if_neg hn]
  obtain⟨a0,a1,a2,a3⟩:=wk_some (ns:=ns) (ts:=ts) (z:=z) (ZaT ns ts z).toNat 0 (show 0≤Zcx ns ts z by omega)
  have w0:0≤Zcx ns ts z:=by omega
  have w1:Zcx ns ts z<ZaT ns ts z:=by
   have:Zcx ns ts z<((0+(ZaT ns ts z).toNat:Nat):Int):=a1
   omega
  have hat2:=Zd1 hs hd.len w0 w1
  have hm:Zc1 ns ts z (Zcx ns ts z)=false:=a2
  obtain⟨R,hR,hRl⟩:=expl_len hd hc (Zdx hs hd.len w0 w1) (hlen _) (2 ^ 70) (by omega)
  have hx:R.length≠0:=fun e=>by
   rw[hRl] at e
   have:=(conf_iff hd (Zdx hs hd.len w0 w1)).1 e
   rw[show Zdv ns ts z (ZaB ns ts z (Zcx ns ts z)).1 (ZaB ns ts z (Zcx ns ts z)).2.1=false from hm] at this
   cases this
  rw[Zd7 _ hc _ (by omega),Zi,show(ZaB ns ts z (Zcx ns ts z)).2.2=true by rw[hat2],if_pos rfl,ZcK hc (hlen _) _ (by omega),Zi,show Zdv ns ts z (ZaB ns ts z (Zcx ns ts z)).1 (ZaB ns ts z (Zcx ns ts z)).2.1=false from hm,if_neg (by simp),hR,Zi,if_pos (by omega)]
  by_cases hk:Int.tmod x (ZaT ns ts z)≥Zcx ns ts z
  ·rw[if_pos hk]
  ·have hm2:Zc1 ns ts z (Int.tmod x (ZaT ns ts z))=true:=by
    rw[hj]
    exact a3 j (Nat.zero_le _) (by show(j:Int)<Zcx ns ts z;omega)
   rw[if_neg hk,ZcK hc (hlen _) _ (by omega),show Zdv ns ts z (ZaB ns ts z (Int.tmod x (ZaT ns ts z))).1 (ZaB ns ts z (Int.tmod x (ZaT ns ts z))).2.1=true from hm2];rfl
end Go.Proofs.YtoeimopgoaffcaaGreatDoor.Pure
