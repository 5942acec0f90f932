/- By a program of this session. -/
import Derived.Shelf.Strings.OnBuilder
import Derived.Shelf.Small.Strs
import Derived.Shelf.LaysM
import Derived.Shelf.Strconv.Itoa3
import Derived.Test.YtoeimopgoaffcaaDoorBBcc1x11
set_option maxHeartbeats 8000000
set_option maxRecDepth 100000
namespace Go.Proofs.YtoeimopgoaffcaaDoor.Pr
open RowKit YtoeimopgoaffcaaDoorW.PrintWords YtoeimopgoaffcaaDoorW.PrintLast YtoeimopgoaffcaaDoorW.PrintMore
attribute [local go_sem] Zat Zar ZaG ZaF Zal Zak Zas Zaq
set_option linter.unusedVariables false
set_option linter.unusedSimpArgs false
def ZP.f (k:Nat) (l0_0:List (S54)) (l0_1:List (S81)) (a0_2:Int) (l1_0:List Int) (l1_1:List Int):Option (Bool):=(ZaR.f l0_0 l0_1 a0_2).bind fun t3=>(if t3=true then((ZaQ.f k l0_0 l0_1 a0_2 l1_0 l1_1).bind fun t4=>(some t4)) else(some false))
theorem ZP.calls (k:Nat) (A0_0:Option Addr) (c0_0:Nat) (l0_0:List (S54)) (A0_1:Option Addr) (c0_1:Nat) (l0_1:List (S81)) (a0_2:Int) (A1_0:Option Addr) (c1_0:Nat) (l1_0:List Int) (A1_1:Option Addr) (c1_1:Nat) (l1_1:List Int) (r:Bool) (w:World) (hr0_0:Kd.C k54 w A0_0 l0_0.length l0_0) (hc0_0:l0_0.length≤c0_0) (hr0_1:Kd.C k81 w A0_1 l0_1.length l0_1) (hc0_1:l0_1.length≤c0_1) (hr1_0:Kd.C (Kd.int .i64) w A1_0 l1_0.length l1_0) (hc1_0:l1_0.length≤c1_0) (hr1_1:Kd.C (Kd.int .i64) w A1_1 l1_1.length l1_1) (hc1_1:l1_1.length≤c1_1) (h:ZP.f k l0_0 l0_1 a0_2 l1_0 l1_1=some r) :
  Calls Tryd.prog 19 #[.agg #[.slice A0_0 l0_0.length c0_0,.slice A0_1 l0_1.length c0_1,.int .i64 a0_2],.agg #[.slice A1_0 l1_0.length c1_0,.slice A1_1 l1_1.length c1_1]] w fun e w'=>e=.returned (.bool r)∧Below w.heap.size w w':=by
 have hu39:=Tryd.underlying39
 have hu44:=Tryd.underlying44
 have HR0_0:=Za hr0_0;have HC0_0:=Za hc0_0;clear hr0_0 hc0_0;have HR0_1:=Za hr0_1;have HC0_1:=Za hc0_1;clear hr0_1 hc0_1;have HR1_0:=Za hr1_0;have HC1_0:=Za hc1_0;clear hr1_0 hc1_0;have HR1_1:=Za hr1_1;have HC1_1:=Za hc1_1;clear hr1_1 hc1_1
 have HB:=Za (Below.refl w.heap.size w)
 have H:((ZaR.f l0_0 l0_1 a0_2).bind fun t3=>(if t3=true then((ZaQ.f k l0_0 l0_1 a0_2 l1_0 l1_1).bind fun t4=>(some t4)) else(some false)))=some r:=h
 clear h
 replace H:=Zh H
 obtain⟨t3,A30,H⟩:=H
 replace H:(if t3=true then((ZaQ.f k l0_0 l0_1 a0_2 l1_0 l1_1).bind fun t4=>(some t4)) else(some false))=some r:=H
 have A3:=Za A30;clear A30
 by_cases c4:t3=true
 ·subst c4
  have H1:((ZaQ.f k l0_0 l0_1 a0_2 l1_0 l1_1).bind fun t4=>(some t4))=some r:=by rw[if_pos rfl] at H;exact H
  clear H
  have H:=H1
  clear H1
  replace H:=Zh H
  obtain⟨t4,A50,H⟩:=H
  replace H:(some t4)=some r:=H
  have A5:=Za A50;clear A50
  obtain rfl:=Zg H
  go_enter Tryd.func19,Tryd.ntmps19
  go_wp2_with (first|((with_reducible refine ZK (N:=2) rfl ?_);refine ZN ?hg (N:=2) ?hd (cs:=#[.slice A0_0 l0_0.length c0_0,.slice A0_1 l0_1.length c0_1,.int .i64 a0_2]) (t:=39) ?hr ?_;(case hd=>rfl);(case hg=>rfl);(case hr=>first|(go_simp;done)|(go_simp;rfl));intro gb1 hg w6 hbox hb;have BK1:=Za (hbox);have GW1:=Za ((by rw[hg];exact(ZA (by repeat(first|(with_reducible first|exact HB.out|apply Zn|apply Zm|apply Zp)|exact HB.out))):w.heap.size≤gb1));have GE1:=Za ((by rw[hg];exact(ZA (by repeat(first|(with_reducible first|exact HB.out|apply Zn|apply Zm|apply Zp)|exact HB.out))):w.heap.size≤gb1));replace HB:=Za (Zx (by repeat(first|(with_reducible first|exact HB.out|apply Zn|apply Zm|apply Zp)|exact HB.out)) hb);clear hb hbox hg)|((with_reducible refine ZK (N:=3) rfl ?_);refine ZN ?hg (N:=3) ?hd (cs:=#[.slice A1_0 l1_0.length c1_0,.slice A1_1 l1_1.length c1_1]) (t:=44) ?hr ?_;(case hd=>rfl);(case hg=>rfl);(case hr=>first|(go_simp;done)|(go_simp;rfl));intro gb2 hg w7 hbox hb;have BK2:=Za (hbox);have GW2:=Za ((by rw[hg];exact(ZA (by repeat(first|(with_reducible first|exact HB.out|apply Zn|apply Zm|apply Zp|refine Zq ?_ GE1.out)|exact HB.out))):w.heap.size≤gb2));have GE2:=Za ((by rw[hg];exact(ZA (by repeat(first|(with_reducible first|exact HB.out|apply Zn|apply Zm|apply Zp|refine Zq ?_ GE1.out)|exact HB.out))):w.heap.size≤gb2));have NB1_2:=Za ((by rw[hg];exact Nat.ne_of_lt (ZR (g:=gb1) (o:=.cells #[.slice A0_0 l0_0.length c0_0,.slice A0_1 l0_1.length c0_1,.int .i64 a0_2] 39 (0,0)) (by(with_reducible repeat(first|refine Zs ?_ _|refine Zt ?_|refine Zr ?_ _));exact BK1.out)):gb1≠gb2));have NB2_1:=Za ((by rw[hg];exact Nat.ne_of_gt (ZR (g:=gb1) (o:=.cells #[.slice A0_0 l0_0.length c0_0,.slice A0_1 l0_1.length c0_1,.int .i64 a0_2] 39 (0,0)) (by(with_reducible repeat(first|refine Zs ?_ _|refine Zt ?_|refine Zr ?_ _));exact BK1.out)):gb2≠gb1));replace BK1:=Za (Zw (g:=gb1) (o:=.cells #[.slice A0_0 l0_0.length c0_0,.slice A0_1 l0_1.length c0_1,.int .i64 a0_2] 39 (0,0)) (by(with_reducible repeat(first|refine Zs ?_ _|refine Zt ?_|refine Zr ?_ _));exact BK1.out) hb);replace HB:=Za (Zx (by repeat(first|(with_reducible first|exact HB.out|apply Zn|apply Zm|apply Zp|refine Zq ?_ GE1.out)|exact HB.out)) hb);clear hb hbox hg;have hnb8:=NB1_2.out;have hnc8:=NB2_1.out;have hcz9_0:w7.cell? ⟨gb1,0,none⟩=some (.slice A0_0 l0_0.length c0_0):=(Zo BK1.out 0).trans rfl;have hcz9_1:w7.cell? ⟨gb1,1,none⟩=some (.slice A0_1 l0_1.length c0_1):=(Zo BK1.out 1).trans rfl;have hcz9_2:w7.cell? ⟨gb1,2,none⟩=some (.int .i64 a0_2):=(Zo BK1.out 2).trans rfl;have hfz9_0:=Zu BK1.out 0;have hfz9_1:=Zu BK1.out 1;have hfz9_2:=Zu BK1.out 2)|((with_reducible refine ZU (f:=47) rfl ?_);refine Zaj (some 6) rfl rfl Tryd.func47 (by kernel_rfl) rfl #[.agg #[.slice A0_0 l0_0.length c0_0,.slice A0_1 l0_1.length c0_1,.int .i64 a0_2]] rfl (by(try simp only[List.map_toArray,List.map_cons,List.map_nil]);first|done|rfl|(simp only[Zk,Zj];rfl)) ?_;(with_reducible refine(ZaR.calls _ _ l0_0 _ _ l0_1 a0_2 true _ ?side1 ?side2 ?side3 ?side4 A3.out).mono ?_);(case side1=>repeat(first|exact(Zb HR0_0.out HB.out)|(with_reducible refine Kd.C_alloc ?_ _)|(with_reducible refine Kd.C_drewN ?_ _)|(with_reducible refine Kd.C_drew ?_)));(case side2=>exact HC0_0.out);(case side3=>repeat(first|exact(Zb HR0_1.out HB.out)|(with_reducible refine Kd.C_alloc ?_ _)|(with_reducible refine Kd.C_drewN ?_ _)|(with_reducible refine Kd.C_drew ?_)));(case side4=>exact HC0_1.out);rintro e w10 ⟨rfl,hb⟩;refine⟨_,rfl,?_⟩;replace BK1:=Za (Zw (g:=gb1) (o:=.cells #[.slice A0_0 l0_0.length c0_0,.slice A0_1 l0_1.length c0_1,.int .i64 a0_2] 39 (0,0)) (by(with_reducible repeat(first|refine Zs ?_ _|refine Zt ?_|refine Zr ?_ _));exact BK1.out) hb);replace BK2:=Za (Zw (g:=gb2) (o:=.cells #[.slice A1_0 l1_0.length c1_0,.slice A1_1 l1_1.length c1_1] 44 (0,0)) (by(with_reducible repeat(first|refine Zs ?_ _|refine Zt ?_|refine Zr ?_ _));exact BK2.out) hb);replace HB:=Za (Zx (by repeat(first|(with_reducible first|exact HB.out|apply Zn|apply Zm|apply Zp|refine Zq ?_ GE1.out|refine Zq ?_ GE2.out)|exact HB.out)) hb);(try clear hb);(try clear hb2);(try clear hk);(try clear hi);have hcz11_0:w10.cell? ⟨gb1,0,none⟩=some (.slice A0_0 l0_0.length c0_0):=(Zo BK1.out 0).trans rfl;have hcz11_1:w10.cell? ⟨gb1,1,none⟩=some (.slice A0_1 l0_1.length c0_1):=(Zo BK1.out 1).trans rfl;have hcz11_2:w10.cell? ⟨gb1,2,none⟩=some (.int .i64 a0_2):=(Zo BK1.out 2).trans rfl;have hfz11_0:=Zu BK1.out 0;have hfz11_1:=Zu BK1.out 1;have hfz11_2:=Zu BK1.out 2;have hcz12_0:w10.cell? ⟨gb2,0,none⟩=some (.slice A1_0 l1_0.length c1_0):=(Zo BK2.out 0).trans rfl;have hcz12_1:w10.cell? ⟨gb2,1,none⟩=some (.slice A1_1 l1_1.length c1_1):=(Zo BK2.out 1).trans rfl;have hfz12_0:=Zu BK2.out 0;have hfz12_1:=Zu BK2.out 1)|(go_at_call 52;(with_reducible refine(ZaQ.calls k _ _ l0_0 _ _ l0_1 a0_2 _ _ l1_0 _ _ l1_1 t4 _ ?side1 ?side2 ?side3 ?side4 ?side5 ?side6 ?side7 ?side8 A5.out).mono ?_);(case side1=>repeat(first|exact(Zb HR0_0.out HB.out)|(with_reducible refine Kd.C_alloc ?_ _)|(with_reducible refine Kd.C_drewN ?_ _)|(with_reducible refine Kd.C_drew ?_)));(case side2=>exact HC0_0.out);(case side3=>repeat(first|exact(Zb HR0_1.out HB.out)|(with_reducible refine Kd.C_alloc ?_ _)|(with_reducible refine Kd.C_drewN ?_ _)|(with_reducible refine Kd.C_drew ?_)));(case side4=>exact HC0_1.out);(case side5=>repeat(first|exact(Zb HR1_0.out HB.out)|(with_reducible refine Kd.C_alloc ?_ _)|(with_reducible refine Kd.C_drewN ?_ _)|(with_reducible refine Kd.C_drew ?_)));(case side6=>exact HC1_0.out);(case side7=>repeat(first|exact(Zb HR1_1.out HB.out)|(with_reducible refine Kd.C_alloc ?_ _)|(with_reducible refine Kd.C_drewN ?_ _)|(with_reducible refine Kd.C_drew ?_)));(case side8=>exact HC1_1.out);rintro e w13 ⟨rfl,hb⟩;replace BK1:=Za (Zw (g:=gb1) (o:=.cells #[.slice A0_0 l0_0.length c0_0,.slice A0_1 l0_1.length c0_1,.int .i64 a0_2] 39 (0,0)) (by(with_reducible repeat(first|refine Zs ?_ _|refine Zt ?_|refine Zr ?_ _));exact BK1.out) hb);replace BK2:=Za (Zw (g:=gb2) (o:=.cells #[.slice A1_0 l1_0.length c1_0,.slice A1_1 l1_1.length c1_1] 44 (0,0)) (by(with_reducible repeat(first|refine Zs ?_ _|refine Zt ?_|refine Zr ?_ _));exact BK2.out) hb);replace HB:=Za (Zx (by repeat(first|(with_reducible first|exact HB.out|apply Zn|apply Zm|apply Zp|refine Zq ?_ GE1.out|refine Zq ?_ GE2.out)|exact HB.out)) hb);(try clear hb);(try clear hb2);(try clear hk);(try clear hi)))
  go_ret
  exact⟨by first|rfl|(simp[ZD,ZC] <;> rfl)|(simp[*,ZD,ZC] <;> rfl),by repeat(first|(with_reducible first|exact HB.out|apply Zn|apply Zm|apply Zp|refine Zq ?_ GE1.out|refine Zq ?_ GE2.out)|exact HB.out)⟩
 ·replace c4:=Bool.eq_false_iff.mpr c4
  subst c4
  have H1:(some false)=some r:=by rw[if_neg (show ¬(false=true) by decide)] at H;exact H
  clear H
  have H:=H1
  clear H1
  obtain rfl:=Zg H
  go_enter Tryd.func19,Tryd.ntmps19
  go_wp2_with (first|((with_reducible refine ZK (N:=2) rfl ?_);refine ZN ?hg (N:=2) ?hd (cs:=#[.slice A0_0 l0_0.length c0_0,.slice A0_1 l0_1.length c0_1,.int .i64 a0_2]) (t:=39) ?hr ?_;(case hd=>rfl);(case hg=>rfl);(case hr=>first|(go_simp;done)|(go_simp;rfl));intro gb1 hg w14 hbox hb;have BK1:=Za (hbox);have GW1:=Za ((by rw[hg];exact(ZA (by repeat(first|(with_reducible first|exact HB.out|apply Zn|apply Zm|apply Zp)|exact HB.out))):w.heap.size≤gb1));have GE1:=Za ((by rw[hg];exact(ZA (by repeat(first|(with_reducible first|exact HB.out|apply Zn|apply Zm|apply Zp)|exact HB.out))):w.heap.size≤gb1));replace HB:=Za (Zx (by repeat(first|(with_reducible first|exact HB.out|apply Zn|apply Zm|apply Zp)|exact HB.out)) hb);clear hb hbox hg)|((with_reducible refine ZK (N:=3) rfl ?_);refine ZN ?hg (N:=3) ?hd (cs:=#[.slice A1_0 l1_0.length c1_0,.slice A1_1 l1_1.length c1_1]) (t:=44) ?hr ?_;(case hd=>rfl);(case hg=>rfl);(case hr=>first|(go_simp;done)|(go_simp;rfl));intro gb2 hg w15 hbox hb;have BK2:=Za (hbox);have GW2:=Za ((by rw[hg];exact(ZA (by repeat(first|(with_reducible first|exact HB.out|apply Zn|apply Zm|apply Zp|refine Zq ?_ GE1.out)|exact HB.out))):w.heap.size≤gb2));have GE2:=Za ((by rw[hg];exact(ZA (by repeat(first|(with_reducible first|exact HB.out|apply Zn|apply Zm|apply Zp|refine Zq ?_ GE1.out)|exact HB.out))):w.heap.size≤gb2));have NB1_2:=Za ((by rw[hg];exact Nat.ne_of_lt (ZR (g:=gb1) (o:=.cells #[.slice A0_0 l0_0.length c0_0,.slice A0_1 l0_1.length c0_1,.int .i64 a0_2] 39 (0,0)) (by(with_reducible repeat(first|refine Zs ?_ _|refine Zt ?_|refine Zr ?_ _));exact BK1.out)):gb1≠gb2));have NB2_1:=Za ((by rw[hg];exact Nat.ne_of_gt (ZR (g:=gb1) (o:=.cells #[.slice A0_0 l0_0.length c0_0,.slice A0_1 l0_1.length c0_1,.int .i64 a0_2] 39 (0,0)) (by(with_reducible repeat(first|refine Zs ?_ _|refine Zt ?_|refine Zr ?_ _));exact BK1.out)):gb2≠gb1));replace BK1:=Za (Zw (g:=gb1) (o:=.cells #[.slice A0_0 l0_0.length c0_0,.slice A0_1 l0_1.length c0_1,.int .i64 a0_2] 39 (0,0)) (by(with_reducible repeat(first|refine Zs ?_ _|refine Zt ?_|refine Zr ?_ _));exact BK1.out) hb);replace HB:=Za (Zx (by repeat(first|(with_reducible first|exact HB.out|apply Zn|apply Zm|apply Zp|refine Zq ?_ GE1.out)|exact HB.out)) hb);clear hb hbox hg;have hnb16:=NB1_2.out;have hnc16:=NB2_1.out;have hcz17_0:w15.cell? ⟨gb1,0,none⟩=some (.slice A0_0 l0_0.length c0_0):=(Zo BK1.out 0).trans rfl;have hcz17_1:w15.cell? ⟨gb1,1,none⟩=some (.slice A0_1 l0_1.length c0_1):=(Zo BK1.out 1).trans rfl;have hcz17_2:w15.cell? ⟨gb1,2,none⟩=some (.int .i64 a0_2):=(Zo BK1.out 2).trans rfl;have hfz17_0:=Zu BK1.out 0;have hfz17_1:=Zu BK1.out 1;have hfz17_2:=Zu BK1.out 2)|((with_reducible refine ZU (f:=47) rfl ?_);refine Zaj (some 6) rfl rfl Tryd.func47 (by kernel_rfl) rfl #[.agg #[.slice A0_0 l0_0.length c0_0,.slice A0_1 l0_1.length c0_1,.int .i64 a0_2]] rfl (by(try simp only[List.map_toArray,List.map_cons,List.map_nil]);first|done|rfl|(simp only[Zk,Zj];rfl)) ?_;(with_reducible refine(ZaR.calls _ _ l0_0 _ _ l0_1 a0_2 false _ ?side1 ?side2 ?side3 ?side4 A3.out).mono ?_);(case side1=>repeat(first|exact(Zb HR0_0.out HB.out)|(with_reducible refine Kd.C_alloc ?_ _)|(with_reducible refine Kd.C_drewN ?_ _)|(with_reducible refine Kd.C_drew ?_)));(case side2=>exact HC0_0.out);(case side3=>repeat(first|exact(Zb HR0_1.out HB.out)|(with_reducible refine Kd.C_alloc ?_ _)|(with_reducible refine Kd.C_drewN ?_ _)|(with_reducible refine Kd.C_drew ?_)));(case side4=>exact HC0_1.out);rintro e w18 ⟨rfl,hb⟩;refine⟨_,rfl,?_⟩;replace BK1:=Za (Zw (g:=gb1) (o:=.cells #[.slice A0_0 l0_0.length c0_0,.slice A0_1 l0_1.length c0_1,.int .i64 a0_2] 39 (0,0)) (by(with_reducible repeat(first|refine Zs ?_ _|refine Zt ?_|refine Zr ?_ _));exact BK1.out) hb);replace BK2:=Za (Zw (g:=gb2) (o:=.cells #[.slice A1_0 l1_0.length c1_0,.slice A1_1 l1_1.length c1_1] 44 (0,0)) (by(with_reducible repeat(first|refine Zs ?_ _|refine Zt ?_|refine Zr ?_ _));exact BK2.out) hb);replace HB:=Za (Zx (by repeat(first|(with_reducible first|exact HB.out|apply Zn|apply Zm|apply Zp|refine Zq ?_ GE1.out|refine Zq ?_ GE2.out)|exact HB.out)) hb);(try clear hb);(try clear hb2);(try clear hk);(try clear hi)))
  go_ret
  exact⟨by first|rfl|(simp[ZD,ZC] <;> rfl)|(simp[*,ZD,ZC] <;> rfl),by repeat(first|(with_reducible first|exact HB.out|apply Zn|apply Zm|apply Zp|refine Zq ?_ GE1.out|refine Zq ?_ GE2.out)|exact HB.out)⟩
def Z4.l0:Nat→List Int→List Int→Int→Int→Option (Bool)
 | 0,_,_,_,_=>none
 | k+1,x1,x12,x13,x14=>if x14<x13 then(if 0≤x14 then(if x14<(x12.length:Int) then(if x14<(x1.length:Int) then(if (rd x12 x14)=(rd x1 x14) then(Z4.l0 k x1 x12 x13 (wrap64 (x14+1))) else(some false)) else(none)) else(none)) else(none)) else(some true)
def Z4.f (k:Nat) (l0:List Int) (l1:List Int):Option (Bool):=if (l0.length:Int)=(l1.length:Int) then(Z4.l0 k l1 l0 (l0.length:Int) 0) else(some false)
theorem Z4.calls (k:Nat) (A0:Option Addr) (c0:Nat) (l0:List Int) (A1:Option Addr) (c1:Nat) (l1:List Int) (r:Bool) (w:World) (hr0:Kd.C (Kd.int .i64) w A0 l0.length l0) (hc0:l0.length≤c0) (hr1:Kd.C (Kd.int .i64) w A1 l1.length l1) (hc1:l1.length≤c1) (h:Z4.f k l0 l1=some r) :
  Calls Tryd.prog 20 #[.slice A0 l0.length c0,.slice A1 l1.length c1] w fun e w'=>e=.returned (.bool r)∧ZQ w w':=by
 have HR0:=Za hr0;have HC0:=Za hc0;clear hr0 hc0;have HR1:=Za hr1;have HC1:=Za hc1;clear hr1 hc1
 have H:(if (l0.length:Int)=(l1.length:Int) then(Z4.l0 k l1 l0 (l0.length:Int) 0) else(some false))=some r:=h
 clear h
 by_cases c3:(l0.length:Int)=(l1.length:Int)
 ·rw[if_pos c3] at H
  have c3b0:((l0.length:Int) == (l1.length:Int))=true:=beq_iff_eq.mpr c3
  have c3b1:((l0.length:Int) != (l1.length:Int))=false:=bne_eq_false_iff_eq.mpr c3
  have c3b2:(l0.length == l1.length)=true:=by first|simpa using c3|(simp at c3 ⊢;omega)
  clear c3
  have H':=Za H
  clear H
  go_enter Tryd.func20,Tryd.ntmps20
  go_wp2
  go_loopg [14] k (fun kq v14 w'=>∃(x14_1:Int),v14=.int .i64 x14_1∧Aside0 (Z4.l0 kq l1 l0 (l0.length:Int) x14_1=some r)∧Aside0 (kq≤k)∧ZQ w w')
  case atStart=>exact⟨(0),(by first|rfl|(simp;done)|(simp[*];done)),H',⟨Nat.le_refl _⟩,by repeat(first|exact ZQ.refl _|apply ZQ.step)⟩
  case round=>
   clear H'
   try clear c1
   try clear c2
   try clear p2
   try clear c3
   try clear c3b0
   try clear c3b1
   try clear c3b2
   obtain⟨x14_1,rfl,HA,HK1,⟨m1,rfl⟩⟩:=hrel
   cases gk with
   | zero=>exact absurd HA.out (by simp[Z4.l0])
   | succ k1=>
    have H:=HA.out
    clear HA
    simp only[Z4.l0] at H
    by_cases c4:x14_1<(l0.length:Int)
    ·rw[if_pos c4] at H
     have c4b0:decide (x14_1<(l0.length:Int))=true:=Ze c4
     clear c4
     by_cases c5:0≤x14_1
     ·rw[if_pos c5] at H
      have c5b0:decide (0≤x14_1)=true:=Ze c5
      clear c5
      by_cases c6:x14_1<(l0.length:Int)
      ·rw[if_pos c6] at H
       have c6b0:decide (x14_1<(l0.length:Int))=true:=Ze c6
       clear c6
       by_cases c7:x14_1<(l1.length:Int)
       ·rw[if_pos c7] at H
        have c7b0:decide (x14_1<(l1.length:Int))=true:=Ze c7
        clear c7
        by_cases c8:(rd l0 x14_1)=(rd l1 x14_1)
        ·rw[if_pos c8] at H
         have c8b0:((rd l0 x14_1) == (rd l1 x14_1))=true:=beq_iff_eq.mpr c8
         have c8b1:((rd l0 x14_1) != (rd l1 x14_1))=false:=bne_eq_false_iff_eq.mpr c8
         clear c8
         have H':=Za H
         clear H
         have p1:0≤(x14_1:Int):=Zd (by first|(with_reducible assumption)|assumption)
         have q1:x14_1<(l0.length:Int):=Zd (by first|(with_reducible assumption)|assumption)
         obtain⟨ad1,e1,hx1_0⟩:=Kd.at_int HR0.out x14_1 p1 q1
         cases e1
         replace p1:=eq_true p1
         replace q1:=eq_true q1
         have p20002:0≤(x14_1:Int):=Zd (by first|(with_reducible assumption)|assumption)
         have q2:x14_1<(l1.length:Int):=Zd (by first|(with_reducible assumption)|assumption)
         obtain⟨ad2,e2,hx2_0⟩:=Kd.at_int HR1.out x14_1 p20002 q2
         cases e2
         replace p20002:=eq_true p20002
         replace q2:=eq_true q2
         go_wp2
         go_roundg k1
         case measure=>have:=HK1.out;omega
         case rel=>exact⟨(wrap64 (x14_1+1)),(by first|rfl|(simp;done)|(simp[*];done)),H',⟨by have:=HK1.out;omega⟩,by repeat(first|exact ZQ.refl _|apply ZQ.step)⟩
        ·rw[if_neg c8] at H
         have c8b0:((rd l0 x14_1) == (rd l1 x14_1))=false:=beq_eq_false_iff_ne.mpr c8
         have c8b1:((rd l0 x14_1) != (rd l1 x14_1))=true:=bne_iff_ne.mpr c8
         obtain rfl:=Zg H
         have p1:0≤(x14_1:Int):=Zd (by first|(with_reducible assumption)|assumption)
         have q1:x14_1<(l0.length:Int):=Zd (by first|(with_reducible assumption)|assumption)
         obtain⟨ad1,e1,hx1_0⟩:=Kd.at_int HR0.out x14_1 p1 q1
         cases e1
         replace p1:=eq_true p1
         replace q1:=eq_true q1
         have p20002:0≤(x14_1:Int):=Zd (by first|(with_reducible assumption)|assumption)
         have q2:x14_1<(l1.length:Int):=Zd (by first|(with_reducible assumption)|assumption)
         obtain⟨ad2,e2,hx2_0⟩:=Kd.at_int HR1.out x14_1 p20002 q2
         cases e2
         replace p20002:=eq_true p20002
         replace q2:=eq_true q2
         go_wp2
         go_ret
         exact⟨by first|rfl|(simp;done)|(simp[*];done),by repeat(first|exact ZQ.refl _|apply ZQ.step)⟩
       ·rw[if_neg c7] at H
        exact absurd H (by simp)
      ·rw[if_neg c6] at H
       exact absurd H (by simp)
     ·rw[if_neg c5] at H
      exact absurd H (by simp)
    ·rw[if_neg c4] at H
     have c4b0:decide (x14_1<(l0.length:Int))=false:=Zf c4
     clear c4
     obtain rfl:=Zg H
     go_wp2
     go_ret
     exact⟨by first|rfl|(simp;done)|(simp[*];done),by repeat(first|exact ZQ.refl _|apply ZQ.step)⟩
 ·rw[if_neg c3] at H
  have c3b0:((l0.length:Int) == (l1.length:Int))=false:=beq_eq_false_iff_ne.mpr c3
  have c3b1:((l0.length:Int) != (l1.length:Int))=true:=bne_iff_ne.mpr c3
  have c3b2:(l0.length == l1.length)=false:=by first|simpa using c3|(simp at c3 ⊢;omega)
  obtain rfl:=Zg H
  go_enter Tryd.func20,Tryd.ntmps20
  go_wp2
  go_ret
  exact⟨by first|rfl|(simp;done)|(simp[*];done),by repeat(first|exact ZQ.refl _|apply ZQ.step)⟩
def Z7.f (k:Nat) (l0_0:List (S54)) (l0_1:List (S81)) (a0_2:Int) (l1_0:List Int) (l1_1:List Int) (a2:Int):Option (Bool):=if 0≤a2 then(if a2<(l0_0.length:Int) then((ZM.f k ((Zy l0_0 a2).f1) l1_1).bind fun t4=>(some (t4 == 1))) else(none)) else(none)
def Z7.T1:Bool×List (List Nat×List Nat):=(true,[([],[]),([0],[0]),([],[]),([1,2],[1,2]),([3],[3]),([4],[4]),([],[]),([6],[6]),([5,7],[5,7]),([8],[8]),([9,8,0,1,2,3,4,5,6,7,8,9],[9])])
def Z7.B1:List Nat:=[0,1,0,7,15,31,0,64,255,511,1023]
theorem Z7.tab1:rtab .any (opsOf Tryd.f56 1)=Z7.T1:=by kernel_rfl
theorem Z7.bits1:ZcI Z7.T1.2 Z7.B1=true:=by kernel_rfl
theorem Z7.calls (k:Nat) (A0_0:Option Addr) (c0_0:Nat) (l0_0:List (S54)) (A0_1:Option Addr) (c0_1:Nat) (l0_1:List (S81)) (a0_2:Int) (A1_0:Option Addr) (c1_0:Nat) (l1_0:List Int) (A1_1:Option Addr) (c1_1:Nat) (l1_1:List Int) (a2:Int) (r:Bool) (w:World) (hr0_0:Kd.C k54 w A0_0 l0_0.length l0_0) (hc0_0:l0_0.length≤c0_0) (hr0_1:Kd.C k81 w A0_1 l0_1.length l0_1) (hc0_1:l0_1.length≤c0_1) (hr1_0:Kd.C (Kd.int .i64) w A1_0 l1_0.length l1_0) (hc1_0:l1_0.length≤c1_0) (hr1_1:Kd.C (Kd.int .i64) w A1_1 l1_1.length l1_1) (hc1_1:l1_1.length≤c1_1) (h:Z7.f k l0_0 l0_1 a0_2 l1_0 l1_1 a2=some r) :
  Calls Tryd.prog 56 #[.agg #[.slice A0_0 l0_0.length c0_0,.slice A0_1 l0_1.length c0_1,.int .i64 a0_2],.agg #[.slice A1_0 l1_0.length c1_0,.slice A1_1 l1_1.length c1_1],.int .i64 a2] w fun e w'=>e=.returned (.bool r)∧Below w.heap.size w w':=by
 have hu39:=Tryd.underlying39
 have hu44:=Tryd.underlying44
 have HR0_0:=Za hr0_0;have HC0_0:=Za hc0_0;clear hr0_0 hc0_0;have HR0_1:=Za hr0_1;have HC0_1:=Za hc0_1;clear hr0_1 hc0_1;have HR1_0:=Za hr1_0;have HC1_0:=Za hc1_0;clear hr1_0 hc1_0;have HR1_1:=Za hr1_1;have HC1_1:=Za hc1_1;clear hr1_1 hc1_1
 have HB:=Za (Below.refl w.heap.size w)
 have H:(if 0≤a2 then(if a2<(l0_0.length:Int) then((ZM.f k ((Zy l0_0 a2).f1) l1_1).bind fun t4=>(some (t4 == 1))) else(none)) else(none))=some r:=h
 clear h
 by_cases c4:0≤a2
 ·rw[if_pos c4] at H
  have c4b0:decide (0≤a2)=true:=Ze c4
  clear c4
  by_cases c5:a2<(l0_0.length:Int)
  ·rw[if_pos c5] at H
   have c5b0:decide (a2<(l0_0.length:Int))=true:=Ze c5
   clear c5
   replace H:=Zh H
   obtain⟨t4,A60,H⟩:=H
   replace H:(some (t4 == 1))=some r:=H
   have A6:=Za A60;clear A60
   obtain rfl:=Zg H
   go_enter Tryd.func56,Tryd.ntmps56
   try go_wp2_with (first|((with_reducible refine ZK (N:=3) rfl ?_);refine ZN ?hg (N:=3) ?hd (cs:=#[.slice A0_0 l0_0.length c0_0,.slice A0_1 l0_1.length c0_1,.int .i64 a0_2]) (t:=39) ?hr ?_;(case hd=>rfl);(case hg=>rfl);(case hr=>first|(go_simp;done)|(go_simp;rfl));intro gb1 hg w7 hbox hb;have BK1:=Za (hbox);have GW1:=Za ((by rw[hg];exact(ZA (by repeat(first|(with_reducible first|exact HB.out|apply Zn|apply Zm|apply Zp)|exact HB.out))):w.heap.size≤gb1));have GE1:=Za ((by rw[hg];exact(ZA (by repeat(first|(with_reducible first|exact HB.out|apply Zn|apply Zm|apply Zp)|exact HB.out))):w.heap.size≤gb1));replace HB:=Za (Zx (by repeat(first|(with_reducible first|exact HB.out|apply Zn|apply Zm|apply Zp)|exact HB.out)) hb);clear hb hbox hg)|((with_reducible refine ZK (N:=4) rfl ?_);refine ZN ?hg (N:=4) ?hd (cs:=#[.slice A1_0 l1_0.length c1_0,.slice A1_1 l1_1.length c1_1]) (t:=44) ?hr ?_;(case hd=>rfl);(case hg=>rfl);(case hr=>first|(go_simp;done)|(go_simp;rfl));intro gb2 hg w8 hbox hb;have BK2:=Za (hbox);have GW2:=Za ((by rw[hg];exact(ZA (by repeat(first|(with_reducible first|exact HB.out|apply Zn|apply Zm|apply Zp|refine Zq ?_ GE1.out)|exact HB.out))):w.heap.size≤gb2));have GE2:=Za ((by rw[hg];exact(ZA (by repeat(first|(with_reducible first|exact HB.out|apply Zn|apply Zm|apply Zp|refine Zq ?_ GE1.out)|exact HB.out))):w.heap.size≤gb2));have NB1_2:=Za ((by rw[hg];exact Nat.ne_of_lt (ZR (g:=gb1) (o:=.cells #[.slice A0_0 l0_0.length c0_0,.slice A0_1 l0_1.length c0_1,.int .i64 a0_2] 39 (0,0)) (by(with_reducible repeat(first|refine Zs ?_ _|refine Zt ?_|refine Zr ?_ _));exact BK1.out)):gb1≠gb2));have NB2_1:=Za ((by rw[hg];exact Nat.ne_of_gt (ZR (g:=gb1) (o:=.cells #[.slice A0_0 l0_0.length c0_0,.slice A0_1 l0_1.length c0_1,.int .i64 a0_2] 39 (0,0)) (by(with_reducible repeat(first|refine Zs ?_ _|refine Zt ?_|refine Zr ?_ _));exact BK1.out)):gb2≠gb1));replace BK1:=Za (Zw (g:=gb1) (o:=.cells #[.slice A0_0 l0_0.length c0_0,.slice A0_1 l0_1.length c0_1,.int .i64 a0_2] 39 (0,0)) (by(with_reducible repeat(first|refine Zs ?_ _|refine Zt ?_|refine Zr ?_ _));exact BK1.out) hb);replace HB:=Za (Zx (by repeat(first|(with_reducible first|exact HB.out|apply Zn|apply Zm|apply Zp|refine Zq ?_ GE1.out)|exact HB.out)) hb);clear hb hbox hg))
   replace BK1:=Za (Zt BK1.out);replace BK2:=Za (Zt BK2.out);replace HB:=Za (Zp HB.out)
   have p3:0≤(a2:Int):=Zd (by first|(with_reducible assumption)|assumption)
   have q3:a2<(l0_0.length:Int):=Zd (by first|(with_reducible assumption)|assumption)
   obtain⟨ad3,A3_1,c3_1,e3,hx3_0,hx3_1,hx3_2,hl3_1,hi3_1⟩:=Zbw HR0_0.out a2 p3 q3
   have hw3_2:=hx3_2
   have hw3_1:=hx3_1
   have hw3_0:=hx3_0
   cases e3
   replace hx3_0:=(HB.out.cell (Zc w _ hx3_0)).trans hx3_0
   replace hx3_1:=(HB.out.cell (Zc w _ hx3_1)).trans hx3_1
   replace hx3_2:=(HB.out.cell (Zc w _ hx3_2)).trans hx3_2
   have HR3_1:=Za hi3_1;have HC3_1:=Za hl3_1;clear hi3_1 hl3_1
   replace p3:=eq_true p3
   replace q3:=eq_true q3
   refine Za9 (n:=11) (S:=fun w'=>w'.cell? ⟨gb1,0,none⟩=some (.slice (some ad3) l0_0.length c0_0)∧w'.cell? ⟨gb1,1,none⟩=some (.slice A0_1 l0_1.length c0_1)∧w'.cell? ⟨gb1,2,none⟩=some (.int .i64 a0_2)∧w'.cell? ⟨gb2,0,none⟩=some (.slice A1_0 l1_0.length c1_0)∧w'.cell? ⟨gb2,1,none⟩=some (.slice A1_1 l1_1.length c1_1)∧w'.cell? (ad3.add ((a2).toNat * 3))=some (.string ((Zy l0_0 a2).f0))∧w'.cell? ⟨(ad3.add ((a2).toNat * 3)).block,(ad3.add ((a2).toNat * 3)).off+1,none⟩=some (.slice A3_1 ((Zy l0_0 a2).f1).length c3_1)∧w'.cell? ⟨(ad3.add ((a2).toNat * 3)).block,(ad3.add ((a2).toNat * 3)).off+2,none⟩=some (.int .i64 ((Zy l0_0 a2).f2))) (ds:=[]) #[false,false,false,false,false,false,false,false,false,false,false] (by kernel_rfl) rfl rfl ⟨(Zo BK1.out 0).trans rfl,(Zo BK1.out 1).trans rfl,(Zo BK1.out 2).trans rfl,(Zo BK2.out 0).trans rfl,(Zo BK2.out 1).trans rfl,((HB.out.cell (Zc w _ hw3_0)).trans hw3_0),((HB.out.cell (Zc w _ hw3_1)).trans hw3_1),((HB.out.cell (Zc w _ hw3_2)).trans hw3_2)⟩ (fun hHeld=>?_);refine Zc1 Z7.tab1 Z7.bits1 (fun HT_ HW_=>?_)
   generalize w8.drew=w9 at BK1 BK2 HB HR3_1 hx3_0 hx3_1 hx3_2 hHeld ⊢
   refine pu (N:=some 7) 0 ?_
   refine pu (N:=some 9) 2 ?_
   refine pu (N:=some 13) 6 ?_
   refine tk (N:=some 8) 1 hHeld ?_
   refine pu (N:=some 10) 3 ?_
   refine pu (N:=some 11) 4 ?_
   refine tk (N:=some 12) 5 hHeld ?_
   refine tk (N:=some 14) 7 hHeld ?_
   refine onl (N:=some 15) 8 (fun K hK=>?_)
   refine Za5 Tryd.func11 (by kernel_rfl) rfl #[.slice A3_1 ((Zy l0_0 a2).f1).length c3_1,.slice A1_1 l1_1.length c1_1] (by rfl) rfl rfl (by(try simp only[List.map_toArray,List.map_cons,List.map_nil]);first|done|rfl|(simp only[Zk,Zj];rfl)) ?_
   with_reducible refine(ZM.calls k _ _ ((Zy l0_0 a2).f1) _ _ l1_1 t4 _ ?side1 ?side2 ?side3 ?side4 A6.out).mono ?_
   (case side1=>repeat(first|exact(Zb HR3_1.out HB.out)|(with_reducible refine Kd.C_alloc ?_ _)|(with_reducible refine Kd.C_drewN ?_ _)|(with_reducible refine Kd.C_drew ?_)))
   (case side2=>exact HC3_1.out)
   (case side3=>repeat(first|exact(Zb HR1_1.out HB.out)|(with_reducible refine Kd.C_alloc ?_ _)|(with_reducible refine Kd.C_drewN ?_ _)|(with_reducible refine Kd.C_drew ?_)))
   (case side4=>exact HC1_1.out)
   rintro e w10 ⟨rfl,hb⟩
   refine⟨_,rfl,?_⟩
   replace BK1:=Za (Zw (g:=gb1) (o:=.cells #[.slice (some ad3) l0_0.length c0_0,.slice A0_1 l0_1.length c0_1,.int .i64 a0_2] 39 (0,0)) (by(with_reducible repeat(first|refine Zs ?_ _|refine Zt ?_|refine Zr ?_ _));exact BK1.out) hb);replace BK2:=Za (Zw (g:=gb2) (o:=.cells #[.slice A1_0 l1_0.length c1_0,.slice A1_1 l1_1.length c1_1] 44 (0,0)) (by(with_reducible repeat(first|refine Zs ?_ _|refine Zt ?_|refine Zr ?_ _));exact BK2.out) hb);replace HB:=Za (Zx (by repeat(first|(with_reducible first|exact HB.out|apply Zn|apply Zm|apply Zp|refine Zq ?_ GE1.out|refine Zq ?_ GE2.out)|exact HB.out)) hb)
   (try clear hb)
   (try clear hb2)
   (try clear hk)
   (try clear hi)
   refine hK.out _ _ ⟨(Zo BK1.out 0).trans rfl,(Zo BK1.out 1).trans rfl,(Zo BK1.out 2).trans rfl,(Zo BK2.out 0).trans rfl,(Zo BK2.out 1).trans rfl,((HB.out.cell (Zc w _ hw3_0)).trans hw3_0),((HB.out.cell (Zc w _ hw3_1)).trans hw3_1),((HB.out.cell (Zc w _ hw3_2)).trans hw3_2)⟩ (fun hHeld=>?_)
   clear hK K
   refine nrm (some 15) ?_
   refine pu (N:=some 16) 9 ?_
   refine pu (N:=some 6) 10 ?_
   refine Zbu (ZdO HT_.out (by kernel_rfl)) ?_
   try go_wp2
   go_ret
   exact⟨by first|rfl|(simp[ZD,ZC] <;> rfl)|(simp[*,ZD,ZC] <;> rfl),by repeat(first|(with_reducible first|exact HB.out|apply Zn|apply Zm|apply Zp|refine Zq ?_ GE1.out|refine Zq ?_ GE2.out)|exact HB.out)⟩
  ·rw[if_neg c5] at H
   exact absurd H (by simp)
 ·rw[if_neg c4] at H
  exact absurd H (by simp)
def run {α:Type} (step:Nat→α→Option α):Nat→Nat→α→Option α
 | 0,_,a=>some a
 | d+1,i,a=>(step i a).bind (run step d (i+1))
theorem ZcP {α β:Type} {step:Nat→α→Option α} {n i:Nat} {a:α} {F:α→Option β} {r:β} (hi:i<n) (h:(run step (n - i) i a).bind F=some r):∃a',step i a=some a'∧(run step (n - (i+1)) (i+1) a').bind F=some r:=by
 rw[show n - i=(n - (i+1))+1 by omega,run,Option.bind_assoc] at h
 exact Option.bind_eq_some_iff.1 h
theorem Zc5 {α β:Type} {step:Nat→α→Option α} {n:Nat} {a:α} {F:α→Option β} {r:β} (h:(run step (n - n) n a).bind F=some r):F a=some r:=by
 rw[Nat.sub_self] at h
 exact h
open Ni
structure ZX.St (w W:World) (n:Int) (g6 g7:Nat) (uL uR:Value) (L:List S113) (S:List ByteArray):Prop where
 b6:W.heap[g6]? = some (Obj.cells #[Value.int .i64 n,uL] 50 (0,0))
 b7:W.heap[g7]? = some (Obj.cells #[uR] 60 (0,0))
 rl:Kd.R k113 113 W w.heap.size (fun k=>some k≠uR.ownBlock) uL L
 rr:Kd.R Kd.string 9 W w.heap.size (fun k=>some k≠uL.ownBlock) uR S
 hb:Below w.heap.size w W
 g6b:w.heap.size≤g6
 g7b:w.heap.size≤g7
def ZX.Fr (g6:Nat) (W W':World):Prop:=∀(k:Nat) (cs:Array Value) (t:Nat),W.heap[k]? = some (Obj.cells cs t (0,0))→k≠g6→t≠60→t≠113→t≠9→W'.heap[k]? = W.heap[k]?
theorem ZX.g1 {w W w1:World} {n:Int} {g6 g7:Nat} {uL uR v1:Value} {L L1:List S113} {S:List ByteArray} (h:ZX.St w W n g6 g7 uL uR L S) (ho:Kd.R k113 113 w1 w.heap.size (fun k=>some k≠uR.ownBlock) v1 L1) (hb:Below w.heap.size w w1) (hg:W.grownBy w1 uL.ownBlock) (hat:v1.ownBlock=uL.ownBlock∨∃b,v1.ownBlock=some b∧W.heap.size≤b) :
  ZX.St w (w1.setCell ⟨g6,1,none⟩ v1) n g6 g7 v1 uR L1 S∧(∀k,k<W.heap.size→some k≠uL.ownBlock→k≠g6→(w1.setCell ⟨g6,1,none⟩ v1).heap[k]? = W.heap[k]?)∧W.heap.size≤(w1.setCell ⟨g6,1,none⟩ v1).heap.size∧(w1.cell? ⟨g6,1,none⟩=some uL∧w1.frozen? ⟨g6,1,none⟩=false∧w1.cell? ⟨g7,0,none⟩=some uR∧w1.frozen? ⟨g7,0,none⟩=false)∧∃A c,v1=.slice A L1.length c:=by
 obtain⟨b6,b7,rl,rr,hb0,g6b,g7b⟩:=h
 have NE:=Zbv b6 b7 (by decide)
 have HR1:=Kd.R_after (ok:=fun _=>True) (Kd.R_mono rr (fun _ hk=>⟨trivial,hk⟩)) hg hat
 have c6:=Zao b6 hg (Kd.R_ne rl b6 (by decide))
 have c7:=Zao b7 hg (Kd.R_ne rl b7 (by decide))
 refine⟨⟨ZO (cs:=#[.int .i64 n,uL]) c6 1 v1 rfl,ZF c7 (p:=⟨g6,1,none⟩) NE.symm v1,?_,?_,Zq hb g6b,g6b,g7b⟩,fun k hk hne h6=>(Below.heap_setCell w1 ⟨g6,1,none⟩ _ k h6).trans (hg.block k hk hne),?_,⟨(Zo c6 1).trans rfl,Zu c6 1,(Zo c7 0).trans rfl,Zu c7 0⟩,Kd.R_slice ho⟩
 ·exact Kd.R_mono (Kd.R_far (p:=⟨g6,1,none⟩) (Kd.R_types ho c6 (by decide)) (fun _ hk=>hk.2) v1) (fun _ hk=>hk.1)
 ·exact Kd.R_mono (Kd.R_far (p:=⟨g6,1,none⟩) (Kd.R_types HR1 c6 (by decide)) (fun _ hk=>hk.2) v1) (fun _ hk=>hk.1.2)
 ·simp only[World.setCell,Array.size_modify];exact hg.size
theorem ZX.g2 {w W w1:World} {n:Int} {g6 g7:Nat} {uL uR v1:Value} {L:List S113} {S S1:List ByteArray} (h:ZX.St w W n g6 g7 uL uR L S) (ho:Kd.R Kd.string 9 w1 w.heap.size (fun k=>some k≠uL.ownBlock) v1 S1) (hb:Below w.heap.size w w1) (hg:W.grownBy w1 uR.ownBlock) (hat:v1.ownBlock=uR.ownBlock∨∃b,v1.ownBlock=some b∧W.heap.size≤b) :
  ZX.St w (w1.setCell ⟨g7,0,none⟩ v1) n g6 g7 uL v1 L S1∧(∀k,k<W.heap.size→some k≠uR.ownBlock→k≠g7→(w1.setCell ⟨g7,0,none⟩ v1).heap[k]? = W.heap[k]?)∧(w1.cell? ⟨g7,0,none⟩=some uR∧w1.frozen? ⟨g7,0,none⟩=false)∧∃A c,v1=.slice A S1.length c:=by
 obtain⟨b6,b7,rl,rr,hb0,g6b,g7b⟩:=h
 have NE:=Zbv b6 b7 (by decide)
 have HR1:=Kd.R_after (ok:=fun _=>True) (Kd.R_mono rl (fun _ hk=>⟨trivial,hk⟩)) hg hat
 have c6:=Zao b6 hg (Kd.R_ne rr b6 (by decide))
 have c7:=Zao b7 hg (Kd.R_ne rr b7 (by decide))
 refine⟨⟨ZF c6 (p:=⟨g7,0,none⟩) NE v1,ZO (cs:=#[uR]) c7 0 v1 rfl,?_,?_,Zq hb g7b,g6b,g7b⟩,fun k hk hne h6=>(Below.heap_setCell w1 ⟨g7,0,none⟩ _ k h6).trans (hg.block k hk hne),⟨(Zo c7 0).trans rfl,Zu c7 0⟩,Kd.R_slice ho⟩
 ·exact Kd.R_mono (Kd.R_far (p:=⟨g7,0,none⟩) (Kd.R_types HR1 c7 (by decide)) (fun _ hk=>hk.2) v1) (fun _ hk=>hk.1.2)
 ·exact Kd.R_mono (Kd.R_far (p:=⟨g7,0,none⟩) (Kd.R_types ho c7 (by decide)) (fun _ hk=>hk.2) v1) (fun _ hk=>hk.1)
theorem ZX.fr {w W W1 W2:World} {n:Int} {g6 g7:Nat} {uL uR:Value} {L:List S113} {S:List ByteArray} (h:ZX.St w W n g6 g7 uL uR L S) (f1:∀k,k<W.heap.size→some k≠uL.ownBlock→k≠g6→W1.heap[k]? = W.heap[k]?) (hs:W.heap.size≤W1.heap.size) (f2:∀k,k<W1.heap.size→some k≠uR.ownBlock→k≠g7→W2.heap[k]? = W1.heap[k]?):ZX.Fr g6 W W2:=by
 intro k cs t hk n1 n2 n3 n4
 have typ:∀{v:Value} {e:Nat},(∀k,v.ownBlock=some k→∃cells,W.heap[k]? = some (Obj.cells cells e (0,0)))→t≠e→some k≠v.ownBlock:=fun hv hne he=>by
  obtain⟨cs',hc⟩:=hv k he.symm
  rw[hk] at hc
  injection hc with hc
  injection hc with _ h2
  exact hne h2
 have hlt:=ZR hk
 exact(f2 k (by omega) (typ (Kd.R_typed h.rr) n4) (Zbv hk h.b7 n2)).trans (f1 k hlt (typ (Kd.R_typed h.rl) n3) n1)
theorem ZX.clo (w W:World) (n:Int) (g6 g7:Nat) (uL uR:Value) (L:List S113) (S:List ByteArray) (x0 x1 x2 x3:Int) (s:ByteArray) (h:ZX.St w W n g6 g7 uL uR L S) (hL:L.length<4398046511104) (hS:S.length<4398046511104) :
  Calls Tryd.prog 79 #[.int .i64 x0,.int .i64 x1,.int .i64 x2,.int .i64 x3,.string s,.pointer (some ⟨g6,0,none⟩),.pointer (some ⟨g7,0,none⟩)] W fun e w'=>e=.returned (.tuple #[])∧∃uL' uR':Value,ZX.St w w' n g6 g7 uL' uR' (L ++ [⟨x0,x1,⟨x2,x3⟩⟩]) (S ++ [s])∧ZX.Fr g6 W w':=by
 have hu:=Tryd.underlying50
 have hul:=Tryd.underlying113
 have hui:=Tryd.underlying111
 have NE:=Zbv h.b6 h.b7 (by decide)
 have NE2:=NE.symm
 have h1:W.cell? ⟨g6,1,none⟩=some uL:=(Zo h.b6 1).trans rfl
 have HL:=Za hL;have HS:=Za hS;have H:=Za h;clear hL hS h
 obtain⟨L1,hL1⟩:∃L1:List S113,L1=L ++ [⟨x0,x1,⟨x2,x3⟩⟩]:=⟨_,rfl⟩
 obtain⟨S1,hS1⟩:∃S1:List ByteArray,S1=S ++ [s]:=⟨_,rfl⟩
 rw[← hL1,← hS1]
 have HL1:=Za hL1;have HS1:=Za hS1;clear hL1 hS1
 go_enter Tryd.func79,Tryd.ntmps79
 go_wp2_with (first|((with_reducible refine Zax (b:=.append) (xs:=#[.tmp 13,.tmp 20]) rfl ?_);at_builtin;refine Kd.R_append k113 (w0:=w) w.heap.size rfl (.tmp 13) (.tmp 20) 48 113 (.agg #[(.int .i64 0),(.int .i64 0),(.int .i64 0),(.int .i64 0)]) 32 rfl Tryd.underlying48 info113 rfl (by decide) (by omega) uL L ⟨x0,x1,⟨x2,x3⟩⟩ [.int .i64 x0,.int .i64 x1,.int .i64 x2,.int .i64 x3] (fun k=>some k≠uR.ownBlock) (fun _=>False) rfl (by first|(go_simp;done)|(go_simp;rfl)) ?aP (fun _ hk=>hk.elim) ?aF ?aO ?aB ?aS ?aL ?_;(case aP=>exact k113_mkM _ _ _ (⟨x0,x1,⟨x2,x3⟩⟩:S113));(case aB=>exact H.out.hb);(case aF=>exact Kd.fresh' (Kd.R_lt H.out.rr));(case aO=>exact H.out.rl);(case aS=>exact H.out.hb.size);(case aL=>have:=HL.out;omega);intro v1 w1 ho hb hg hat;rw[← HL1.out] at ho;obtain⟨h2,f1,sz,⟨k1,k2,k3,k4⟩,A1,c1,e1⟩:=ZX.g1 H.out ho hb hg hat;subst e1;have H2:=Za h2;have F1:=Za f1;have SZ:=Za sz;clear h2 f1 sz ho hb hg hat h1)|((with_reducible refine Zax (b:=.append) (xs:=#[.tmp 23,.tmp 25]) rfl ?_);at_builtin;refine Kd.R_append Kd.string (w0:=w) w.heap.size rfl (.tmp 23) (.tmp 25) 60 9 (.string ⟨#[]⟩) 16 rfl Tryd.underlying60 info9 rfl (by decide) (by omega) uR S s [.string s] (fun k=>some k≠(Value.slice A1 L1.length c1).ownBlock) (fun _=>False) rfl (by first|(go_simp;done)|(go_simp;rfl)) ?aP (fun _ hk=>hk.elim) ?aF ?aO ?aB ?aS ?aL ?_;(case aP=>exact rfl);(case aB=>exact H2.out.hb);(case aF=>exact Kd.fresh' (Kd.R_lt H2.out.rl));(case aO=>exact H2.out.rr);(case aS=>exact H2.out.hb.size);(case aL=>have:=HS.out;omega);intro v2 w2 ho hb hg hat;rw[← HS1.out] at ho;obtain⟨h2,f1,⟨k5,k6⟩,A2,c2,e2⟩:=ZX.g2 H2.out ho hb hg hat;subst e2;have H3:=Za h2;have F2:=Za f1;clear h2 f1 ho hb hg hat k1 k2 k3 k4))
 refine bodyPost_end (results_none rfl _ _ _) rfl ?_
 exact⟨rfl,_,_,H3.out,ZX.fr H.out F1.out SZ.out F2.out⟩
end Go.Proofs.YtoeimopgoaffcaaDoor.Pr
namespace Go.Proofs
open Go.Shelf
def Tryd.laysM171_ren:Go.Shelf.Ren:=⟨fun|171=>62|243=>91|246=>123|283=>139|284=>140|285=>141|286=>142|129=>104|317=>148|318=>149|319=>150|320=>151|337=>152|338=>153|n=>n,fun|3=>3|9=>9|2=>2|4=>4|171=>177|0=>0|53=>141|37=>22|5=>5|173=>179|212=>192|51=>139|20=>20|213=>193|46=>31|232=>194|233=>195|n=>n,fun|17=>3|18=>4|19=>5|n=>n⟩
theorem Tryd.laysM171:Go.Proofs.LaysM.n171 Tryd.prog Tryd.laysM171_ren:={
 mixed:=by kernel_rfl
 f129:=Tryd.func104.trans (congrArg some (by kernel_rfl))
 f171:=Tryd.func62.trans (congrArg some (by kernel_rfl))
 f243:=Tryd.func91.trans (congrArg some (by kernel_rfl))
 f246:=Tryd.func123.trans (congrArg some (by kernel_rfl))
 f283:=Tryd.func139.trans (congrArg some (by kernel_rfl))
 f284:=Tryd.func140.trans (congrArg some (by kernel_rfl))
 f285:=Tryd.func141.trans (congrArg some (by kernel_rfl))
 f286:=Tryd.func142.trans (congrArg some (by kernel_rfl))
 f317:=Tryd.func148.trans (congrArg some (by kernel_rfl))
 f318:=Tryd.func149.trans (congrArg some (by kernel_rfl))
 f319:=Tryd.func150.trans (congrArg some (by kernel_rfl))
 f320:=Tryd.func151.trans (congrArg some (by kernel_rfl))
 f337:=Tryd.func152.trans (congrArg some (by kernel_rfl))
 f338:=Tryd.func153.trans (congrArg some (by kernel_rfl))
 t0:=Tryd.underlying0
 a0:=Tryd.isAgg0
 z0:=Tryd.sizeOf0
 v0:=Tryd.zeroValue0
 t2:=Tryd.underlying2
 a2:=Tryd.isAgg2
 z2:=Tryd.sizeOf2
 v2:=Tryd.zeroValue2
 t3:=Tryd.underlying3
 a3:=Tryd.isAgg3
 z3:=Tryd.sizeOf3
 v3:=Tryd.zeroValue3
 t4:=Tryd.underlying4
 a4:=Tryd.isAgg4
 z4:=Tryd.sizeOf4
 v4:=Tryd.zeroValue4
 t5:=Tryd.underlying5
 a5:=Tryd.isAgg5
 z5:=Tryd.sizeOf5
 v5:=Tryd.zeroValue5
 t9:=Tryd.underlying9
 a9:=Tryd.isAgg9
 z9:=Tryd.sizeOf9
 v9:=Tryd.zeroValue9
 t20:=Tryd.underlying20
 a20:=Tryd.isAgg20
 z20:=Tryd.sizeOf20
 v20:=Tryd.zeroValue20
 t37:=Tryd.underlying22
 a37:=Tryd.isAgg22
 z37:=Tryd.sizeOf22
 v37:=Tryd.zeroValue22
 t46:=Tryd.underlying31
 a46:=Tryd.isAgg31
 z46:=Tryd.sizeOf31
 v46:=Tryd.zeroValue31
 t51:=Tryd.underlying139
 a51:=Tryd.isAgg139
 z51:=Tryd.sizeOf139
 v51:=Tryd.zeroValue139
 t53:=Tryd.underlying141
 a53:=Tryd.isAgg141
 z53:=Tryd.sizeOf141
 v53:=Tryd.zeroValue141
 t171:=Tryd.underlying177
 a171:=Tryd.isAgg177
 z171:=Tryd.sizeOf177
 v171:=Tryd.zeroValue177
 t173:=Tryd.underlying179
 a173:=Tryd.isAgg179
 z173:=Tryd.sizeOf179
 v173:=Tryd.zeroValue179
 t212:=Tryd.underlying192
 a212:=Tryd.isAgg192
 z212:=Tryd.sizeOf192
 v212:=Tryd.zeroValue192
 t213:=Tryd.underlying193
 a213:=Tryd.isAgg193
 z213:=Tryd.sizeOf193
 t232:=Tryd.underlying194
 a232:=Tryd.isAgg194
 z232:=Tryd.sizeOf194
 v232:=Tryd.zeroValue194
 t233:=Tryd.underlying195
 a233:=Tryd.isAgg195
 z233:=Tryd.sizeOf195
 v233:=Tryd.zeroValue195
 g17:=by kernel_rfl
 g18:=by kernel_rfl
 g19:=by kernel_rfl
 i0:=by kernel_rfl
 i2:=by kernel_rfl
 i3:=by kernel_rfl
 i4:=by kernel_rfl
 i5:=by kernel_rfl
 i9:=by kernel_rfl
 i20:=by kernel_rfl
 i37:=by kernel_rfl
 i46:=by kernel_rfl
 i51:=by kernel_rfl
 i53:=by kernel_rfl
 i171:=by kernel_rfl
 i173:=by kernel_rfl
 i212:=by kernel_rfl
 i232:=by kernel_rfl
 i233:=by kernel_rfl
 m17:=by kernel_rfl
 m18:=by kernel_rfl
 m19:=by kernel_rfl }
open Go.RowKit Go.Sort Go.Lib in
theorem Tryd.strconv_Itoa (n : Int) (h0 : -9223372036854775808 ≤ n) (h1 : n ≤ 9223372036854775807) (w : World) (htab : Lib.TabIs Tryd.prog w "internal/strconv.uint64pow10" .u64 Lib.pow10Tab) :
  Calls Tryd.prog 62 #[.int .i64 n] w fun e w'=>e=.returned (.string ⟨(Lib.itoa n).toArray⟩)∧∃k os,w'=grow (w.drewN k) os:=Any.strconv_Itoa Tryd.laysM171 n h0 h1 w htab
def Tryd.lays156_ren:Go.Shelf.Ren:=⟨fun|156=>63|165=>92|166=>93|169=>94|240=>124|241=>125|276=>143|277=>144|n=>n,fun|31=>60|9=>9|3=>3|4=>4|0=>0|20=>20|72=>128|76=>97|70=>126|37=>22|75=>96|127=>157|164=>181|5=>5|80=>130|n=>n,fun|n=>n⟩
theorem Tryd.lays156:Go.Proofs.Lays.n156 Tryd.prog Tryd.lays156_ren:={
 mixed:=by kernel_rfl
 f156:=Tryd.func63.trans (congrArg some (by kernel_rfl))
 f165:=Tryd.func92.trans (congrArg some (by kernel_rfl))
 f166:=Tryd.func93.trans (congrArg some (by kernel_rfl))
 f169:=Tryd.func94.trans (congrArg some (by kernel_rfl))
 f240:=Tryd.func124.trans (congrArg some (by kernel_rfl))
 f241:=Tryd.func125.trans (congrArg some (by kernel_rfl))
 f276:=Tryd.func143.trans (congrArg some (by kernel_rfl))
 f277:=Tryd.func144.trans (congrArg some (by kernel_rfl))
 t0:=Tryd.underlying0
 a0:=Tryd.isAgg0
 z0:=Tryd.sizeOf0
 v0:=Tryd.zeroValue0
 t3:=Tryd.underlying3
 a3:=Tryd.isAgg3
 z3:=Tryd.sizeOf3
 v3:=Tryd.zeroValue3
 t4:=Tryd.underlying4
 a4:=Tryd.isAgg4
 z4:=Tryd.sizeOf4
 v4:=Tryd.zeroValue4
 t9:=Tryd.underlying9
 a9:=Tryd.isAgg9
 z9:=Tryd.sizeOf9
 v9:=Tryd.zeroValue9
 t20:=Tryd.underlying20
 a20:=Tryd.isAgg20
 z20:=Tryd.sizeOf20
 v20:=Tryd.zeroValue20
 t31:=Tryd.underlying60
 a31:=Tryd.isAgg60
 z31:=Tryd.sizeOf60
 v31:=Tryd.zeroValue60
 t37:=Tryd.underlying22
 a37:=Tryd.isAgg22
 z37:=Tryd.sizeOf22
 v37:=Tryd.zeroValue22
 t70:=Tryd.underlying126
 a70:=Tryd.isAgg126
 z70:=Tryd.sizeOf126
 v70:=Tryd.zeroValue126
 t72:=Tryd.underlying128
 a72:=Tryd.isAgg128
 z72:=Tryd.sizeOf128
 v72:=Tryd.zeroValue128
 t75:=Tryd.underlying96
 a75:=Tryd.isAgg96
 z75:=Tryd.sizeOf96
 v75:=Tryd.zeroValue96
 t76:=Tryd.underlying97
 a76:=Tryd.isAgg97
 z76:=Tryd.sizeOf97
 v76:=Tryd.zeroValue97
 t127:=Tryd.underlying157
 a127:=Tryd.isAgg157
 z127:=Tryd.sizeOf157
 v127:=Tryd.zeroValue157
 t164:=Tryd.underlying181
 a164:=Tryd.isAgg181
 z164:=Tryd.sizeOf181
 v164:=Tryd.zeroValue181 }
theorem Tryd.Builder_Extra_156:Builder.Extra Tryd.prog Tryd.lays156_ren:={
 sizeBuilder:=by kernel_rfl
 liesBuilder:=by kernel_rfl
 t5:=Tryd.underlying5
 a5:=Tryd.isAgg5
 z5:=Tryd.sizeOf5
 v5:=Tryd.zeroValue5
 infoByte:=by kernel_rfl
 cellsByte:=by kernel_rfl
 sizeByte:=by kernel_rfl
 neB5:=by decide }
open Go.RowKit in
theorem Tryd.strings_Join (bk o c:Nat) (xs:List ByteArray) (sep:ByteArray) (w:World) (hcells:∀(j:Nat) x,xs[j]? = some x→w.cell? ⟨bk,o+j,none⟩=some (.string x)) (hbk:bk<w.heap.size) (hN:xs.length≤140737488355328) (hcap:xs.length≤c) (hlen:(Lib.join (xs.map (·.data.toList)) sep.data.toList).length≤140737488355328) :
  Calls Tryd.prog 63 #[.slice (some ⟨bk,o,none⟩) xs.length c,.string sep] w fun e w'=>e=.returned (.string ⟨(Lib.join (xs.map (·.data.toList)) sep.data.toList).toArray⟩)∧Below w.heap.size w w':=Any.strings_Join Tryd.lays156 Tryd.Builder_Extra_156 bk o c xs sep w hcells hbk hN hcap hlen
open Go.RowKit in
theorem Tryd.strings_Join_none (a:Option Addr) (c:Nat) (sep:ByteArray) (w:World) :
  Calls Tryd.prog 63 #[.slice a 0 c,.string sep] w fun e w'=>e=.returned (.string ⟨#[]⟩)∧w'=w:=Any.strings_Join_none Tryd.lays156 Tryd.Builder_Extra_156 a c sep w
end Go.Proofs
namespace Go.Proofs.YtoeimopgoaffcaaDoor.Pr
open RowKit YtoeimopgoaffcaaDoorW.PrintWords YtoeimopgoaffcaaDoorW.PrintLast YtoeimopgoaffcaaDoorW.PrintMore
attribute [local go_sem] Zat Zar ZaG ZaF Zal Zak Zas Zaq
set_option linter.unusedVariables false
set_option linter.unusedSimpArgs false
def Zae.f (a0:Int):Option (ByteArray):=if -9223372036854775808≤a0∧a0≤9223372036854775807 then some ⟨(Lib.itoa a0).toArray⟩ else none
theorem Zae.calls (a0:Int) (r:ByteArray) (w:World) (ht:TW w) (h:Zae.f a0=some r) :
  Calls Tryd.prog 29 #[.int .i64 a0] w fun e w'=>e=.returned (.string r)∧Below w.heap.size w w':=by
 unfold Zae.f at h
 by_cases hb : -9223372036854775808≤a0∧a0≤9223372036854775807
 case neg=>rw[if_neg hb] at h;exact absurd h (by simp)
 rw[if_pos hb] at h
 obtain rfl:=Zg h
 have HC:=Za (Tryd.strconv_Itoa a0 hb.1 hb.2 w (Lib.TabBelow.here ht))
 clear h ht hb
 go_enter Tryd.func29,Tryd.ntmps29
 go_wp2_with (go_at_call 62;refine HC.out.mono ?_;rintro e w' ⟨rfl,k,os,hw⟩;have hB:=Lib.below_grow w.heap.size w (Nat.le_refl _) k os;rw[← hw] at hB;clear hw)
 go_ret
 exact⟨rfl,hB⟩
def Za1.f (l0:List ByteArray) (a1:ByteArray):Option (ByteArray):=if l0.length≤1048576∧(Lib.join (l0.map (·.data.toList)) a1.data.toList).length≤140737488355328 then some ⟨(Lib.join (l0.map (·.data.toList)) a1.data.toList).toArray⟩ else none
theorem Za1.lib (A0:Option Addr) (c0:Nat) (l0:List ByteArray) (a1:ByteArray) (w:World) (hr0:Kd.C Kd.string w A0 l0.length l0) (hc0:l0.length≤c0) (hs0:∀ad,A0=some ad→ad.spot=none) (h1:l0.length≤1048576) (h2:(Lib.join (l0.map (·.data.toList)) a1.data.toList).length≤140737488355328) :
  Calls Tryd.prog 63 #[.slice A0 l0.length c0,.string a1] w fun e w'=>e=.returned (.string ⟨(Lib.join (l0.map (·.data.toList)) a1.data.toList).toArray⟩)∧Below w.heap.size w w':=by
 cases l0 with
 | nil=>exact(Tryd.strings_Join_none A0 c0 a1 w).mono fun e w' ⟨he,hw⟩=>⟨he,hw ▸ Below.refl _ _⟩
 | cons x t=>
  obtain⟨ad,hA,_⟩:=hr0.2.2 (by simp)
  have hsp:=hs0 ad hA
  obtain⟨b,o,sp⟩:=ad
  simp only at hsp
  subst hsp;subst hA
  have hcells:∀(j:Nat) y,(x :: t)[j]? = some y→w.cell? ⟨b,o+j,none⟩=some (.string y):=fun j y hy=>by
   have hj:=(List.getElem?_eq_some_iff.1 hy).1
   obtain⟨ad,he,hc⟩:=Kd.at_string hr0 (j:Int) (by omega) (by omega)
   cases he
   rw[Int.toNat_natCast,add_spot] at hc
   rw[hc]
   unfold rdOf
   rw[Int.toNat_natCast,List.getD_eq_getElem?_getD,hy];rfl
  have hbk:b<w.heap.size:=Zc w _ (hcells 0 x rfl)
  exact Tryd.strings_Join b o c0 (x :: t) a1 w hcells hbk (by omega) hc0 h2
theorem Za1.calls (A0:Option Addr) (c0:Nat) (l0:List ByteArray) (a1:ByteArray) (r:ByteArray) (w:World) (hr0:Kd.C Kd.string w A0 l0.length l0) (hc0:l0.length≤c0) (hs0:∀ad,A0=some ad→ad.spot=none) (h:Za1.f l0 a1=some r) :
  Calls Tryd.prog 31 #[.slice A0 l0.length c0,.string a1] w fun e w'=>e=.returned (.string r)∧Below w.heap.size w w':=by
 unfold Za1.f at h
 by_cases hb:l0.length≤1048576∧(Lib.join (l0.map (·.data.toList)) a1.data.toList).length≤140737488355328
 case neg=>rw[if_neg hb] at h;exact absurd h (by simp)
 rw[if_pos hb] at h
 obtain rfl:=Zg h
 have HC:=Za (Za1.lib A0 c0 l0 a1 w hr0 hc0 hs0 hb.1 hb.2)
 clear h hr0 hc0 hs0 hb
 go_enter Tryd.func31,Tryd.ntmps31
 go_wp2_with (go_at_call 63;refine HC.out.mono ?_;rintro e w' ⟨rfl,hb⟩)
 go_ret
 exact⟨rfl,hb⟩
end Go.Proofs.YtoeimopgoaffcaaDoor.Pr
