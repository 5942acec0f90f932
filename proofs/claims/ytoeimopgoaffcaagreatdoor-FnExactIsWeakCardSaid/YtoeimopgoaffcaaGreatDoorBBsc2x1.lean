/- The texts of one claim, put together by a program of this session. -/
import Derived.Test.YtoeimopgoaffcaaGreatDoorBBsc1x1
import Derived.Test.YtoeimopgoaffcaaGreatDoorBBsc1x15
import Derived.Test.YtoeimopgoaffcaaGreatDoorBBsc1x20
import Derived.Test.YtoeimopgoaffcaaGreatDoorBBsc1x29
import Derived.Test.YtoeimopgoaffcaaGreatDoorBBsc1x7
namespace Go.Proofs.YtoeimopgoaffcaaGreatDoor.Pr
open Go.RowKit Go.Proofs.YtoeimopgoaffcaaGreatDoorW.PrintWords Go.Proofs.YtoeimopgoaffcaaGreatDoorW.PrintLast Go.Proofs.YtoeimopgoaffcaaGreatDoorW.PrintMore
attribute [local go_sem] ZU ZS ZW ZV ZO ZN ZT ZR
set_option linter.unusedVariables false
set_option linter.unusedSimpArgs false
def Zcz.f (k:Nat) (l0_0:List (S39)) (l0_1:List (S82)) (a0_2:Int):Option (Bool):=(Z6.f k l0_0 l0_1 a0_2).bind fun t42002=>(if t42002=true then((Z9.f k l0_0 l0_1 a0_2).bind fun t42003=>(some (decide (t42003<0)))) else(some false))
set_option maxHeartbeats 8000000 in
set_option maxRecDepth 100000 in
theorem Zcz.calls (k:Nat) (A0_0:Option Addr) (c0_0:Nat) (l0_0:List (S39)) (A0_1:Option Addr) (c0_1:Nat) (l0_1:List (S82)) (a0_2:Int) (r:Bool) (w:World) (hr0_0:Kd.C k39 w A0_0 l0_0.length l0_0) (hc0_0:l0_0.length≤c0_0) (hr0_1:Kd.C k82 w A0_1 l0_1.length l0_1) (hc0_1:l0_1.length≤c0_1) (h:Zcz.f k l0_0 l0_1 a0_2=some r) :
  Calls Tryz.prog 42 #[.agg #[.slice A0_0 l0_0.length c0_0,.slice A0_1 l0_1.length c0_1,.int .i64 a0_2]] w fun e w'=>e=.returned (.bool r)∧Below w.heap.size w w':=by
 have hu25:=Tryz.underlying25
 have HR0_0:=Za hr0_0;have HC0_0:=Za hc0_0;clear hr0_0 hc0_0;have HR0_1:=Za hr0_1;have HC0_1:=Za hc0_1;clear hr0_1 hc0_1
 have HB:=Za (Below.refl w.heap.size w)
 have H:((Z6.f k l0_0 l0_1 a0_2).bind fun t42002=>(if t42002=true then((Z9.f k l0_0 l0_1 a0_2).bind fun t42003=>(some (decide (t42003<0)))) else(some false)))=some r:=h
 clear h
 replace H:=Zh H
 obtain⟨t42002,A20,H⟩:=H
 replace H:(if t42002=true then((Z9.f k l0_0 l0_1 a0_2).bind fun t42003=>(some (decide (t42003<0)))) else(some false))=some r:=H
 have A2:=Za A20;clear A20
 by_cases c3:t42002=true
 ·subst c3
  have H1:((Z9.f k l0_0 l0_1 a0_2).bind fun t42003=>(some (decide (t42003<0))))=some r:=by rw[if_pos rfl] at H;exact H
  clear H
  have H:=H1
  clear H1
  replace H:=Zh H
  obtain⟨t42003,A40,H⟩:=H
  replace H:(some (decide (t42003<0)))=some r:=H
  have A4:=Za A40;clear A40
  obtain rfl:=Zg H
  go_enter Tryz.func42,Tryz.ntmps42
  go_wp2_with (first|((with_reducible refine ZF (N:=1) rfl ?_);refine ZG ?hg (N:=1) ?hd (cs:=#[.slice A0_0 l0_0.length c0_0,.slice A0_1 l0_1.length c0_1,.int .i64 a0_2]) (t:=25) ?hr ?_;(case hd=>rfl);(case hg=>rfl);(case hr=>first|(go_simp;done)|(go_simp;rfl));intro gb42001 hg w5 hbox hb;have BK42001:=Za (hbox);have GW42001:=Za ((by rw[hg];exact(Zy (by repeat(first|(with_reducible first|exact HB.out|apply Zn|apply Zm|apply Zo)|exact HB.out))):w.heap.size≤gb42001));have GE42001:=Za ((by rw[hg];exact(Zy (by repeat(first|(with_reducible first|exact HB.out|apply Zn|apply Zm|apply Zo)|exact HB.out))):w.heap.size≤gb42001));replace HB:=Za (Zw (by repeat(first|(with_reducible first|exact HB.out|apply Zn|apply Zm|apply Zo)|exact HB.out)) hb);clear hb hbox hg;have hcz6_0:w5.cell? ⟨gb42001,0,none⟩=some (.slice A0_0 l0_0.length c0_0):=(Zp BK42001.out 0).trans rfl;have hcz6_1:w5.cell? ⟨gb42001,1,none⟩=some (.slice A0_1 l0_1.length c0_1):=(Zp BK42001.out 1).trans rfl;have hcz6_2:w5.cell? ⟨gb42001,2,none⟩=some (.int .i64 a0_2):=(Zp BK42001.out 2).trans rfl;have hfz6_0:=Zr BK42001.out 0;have hfz6_1:=Zr BK42001.out 1;have hfz6_2:=Zr BK42001.out 2)|((with_reducible refine ZJ (f:=57) rfl ?_);refine Zaa (some 4) rfl rfl Tryz.func57 (by kernel_rfl) rfl #[.agg #[.slice A0_0 l0_0.length c0_0,.slice A0_1 l0_1.length c0_1,.int .i64 a0_2]] rfl (by(try simp only[List.map_toArray,List.map_cons,List.map_nil]);first|done|rfl|(simp only[Zk,Zj];rfl)) ?_;(with_reducible refine(Z6.calls k _ _ l0_0 _ _ l0_1 a0_2 true _ ?side1 ?side2 ?side3 ?side4 A2.out).mono ?_);(case side1=>repeat(first|exact(Zb HR0_0.out HB.out)|(with_reducible refine Kd.C_alloc ?_ _)|(with_reducible refine Kd.C_drewN ?_ _)|(with_reducible refine Kd.C_drew ?_)));(case side2=>exact HC0_0.out);(case side3=>repeat(first|exact(Zb HR0_1.out HB.out)|(with_reducible refine Kd.C_alloc ?_ _)|(with_reducible refine Kd.C_drewN ?_ _)|(with_reducible refine Kd.C_drew ?_)));(case side4=>exact HC0_1.out);rintro e w7 ⟨rfl,hb⟩;refine⟨_,rfl,?_⟩;replace BK42001:=Za (ZA (g:=gb42001) (o:=.cells #[.slice A0_0 l0_0.length c0_0,.slice A0_1 l0_1.length c0_1,.int .i64 a0_2] 25 (0,0)) (by(with_reducible repeat(first|refine Zt ?_ _|refine Zv ?_|refine Zs ?_ _));exact BK42001.out) hb);replace HB:=Za (Zw (by repeat(first|(with_reducible first|exact HB.out|apply Zn|apply Zm|apply Zo|refine Zq ?_ GE42001.out)|exact HB.out)) hb);(try clear hb);(try clear hb2);(try clear hk);(try clear hi);have hcz8_0:w7.cell? ⟨gb42001,0,none⟩=some (.slice A0_0 l0_0.length c0_0):=(Zp BK42001.out 0).trans rfl;have hcz8_1:w7.cell? ⟨gb42001,1,none⟩=some (.slice A0_1 l0_1.length c0_1):=(Zp BK42001.out 1).trans rfl;have hcz8_2:w7.cell? ⟨gb42001,2,none⟩=some (.int .i64 a0_2):=(Zp BK42001.out 2).trans rfl;have hfz8_0:=Zr BK42001.out 0;have hfz8_1:=Zr BK42001.out 1;have hfz8_2:=Zr BK42001.out 2)|(go_at_call 40;(with_reducible refine(Z9.calls k _ _ l0_0 _ _ l0_1 a0_2 t42003 _ ?side1 ?side2 ?side3 ?side4 A4.out).mono ?_);(case side1=>repeat(first|exact(Zb HR0_0.out HB.out)|(with_reducible refine Kd.C_alloc ?_ _)|(with_reducible refine Kd.C_drewN ?_ _)|(with_reducible refine Kd.C_drew ?_)));(case side2=>exact HC0_0.out);(case side3=>repeat(first|exact(Zb HR0_1.out HB.out)|(with_reducible refine Kd.C_alloc ?_ _)|(with_reducible refine Kd.C_drewN ?_ _)|(with_reducible refine Kd.C_drew ?_)));(case side4=>exact HC0_1.out);rintro e w9 ⟨rfl,hb⟩;replace BK42001:=Za (ZA (g:=gb42001) (o:=.cells #[.slice A0_0 l0_0.length c0_0,.slice A0_1 l0_1.length c0_1,.int .i64 a0_2] 25 (0,0)) (by(with_reducible repeat(first|refine Zt ?_ _|refine Zv ?_|refine Zs ?_ _));exact BK42001.out) hb);replace HB:=Za (Zw (by repeat(first|(with_reducible first|exact HB.out|apply Zn|apply Zm|apply Zo|refine Zq ?_ GE42001.out)|exact HB.out)) hb);(try clear hb);(try clear hb2);(try clear hk);(try clear hi)))
  go_ret
  exact⟨by first|rfl|(simp[ZC,ZB] <;> rfl)|(simp[*,ZC,ZB] <;> rfl),by repeat(first|(with_reducible first|exact HB.out|apply Zn|apply Zm|apply Zo|refine Zq ?_ GE42001.out)|exact HB.out)⟩
 ·replace c3:=Bool.eq_false_iff.mpr c3
  subst c3
  have H1:(some false)=some r:=by rw[if_neg (show ¬(false=true) by decide)] at H;exact H
  clear H
  have H:=H1
  clear H1
  obtain rfl:=Zg H
  go_enter Tryz.func42,Tryz.ntmps42
  go_wp2_with (first|((with_reducible refine ZF (N:=1) rfl ?_);refine ZG ?hg (N:=1) ?hd (cs:=#[.slice A0_0 l0_0.length c0_0,.slice A0_1 l0_1.length c0_1,.int .i64 a0_2]) (t:=25) ?hr ?_;(case hd=>rfl);(case hg=>rfl);(case hr=>first|(go_simp;done)|(go_simp;rfl));intro gb42001 hg w10 hbox hb;have BK42001:=Za (hbox);have GW42001:=Za ((by rw[hg];exact(Zy (by repeat(first|(with_reducible first|exact HB.out|apply Zn|apply Zm|apply Zo)|exact HB.out))):w.heap.size≤gb42001));have GE42001:=Za ((by rw[hg];exact(Zy (by repeat(first|(with_reducible first|exact HB.out|apply Zn|apply Zm|apply Zo)|exact HB.out))):w.heap.size≤gb42001));replace HB:=Za (Zw (by repeat(first|(with_reducible first|exact HB.out|apply Zn|apply Zm|apply Zo)|exact HB.out)) hb);clear hb hbox hg;have hcz11_0:w10.cell? ⟨gb42001,0,none⟩=some (.slice A0_0 l0_0.length c0_0):=(Zp BK42001.out 0).trans rfl;have hcz11_1:w10.cell? ⟨gb42001,1,none⟩=some (.slice A0_1 l0_1.length c0_1):=(Zp BK42001.out 1).trans rfl;have hcz11_2:w10.cell? ⟨gb42001,2,none⟩=some (.int .i64 a0_2):=(Zp BK42001.out 2).trans rfl;have hfz11_0:=Zr BK42001.out 0;have hfz11_1:=Zr BK42001.out 1;have hfz11_2:=Zr BK42001.out 2)|((with_reducible refine ZJ (f:=57) rfl ?_);refine Zaa (some 4) rfl rfl Tryz.func57 (by kernel_rfl) rfl #[.agg #[.slice A0_0 l0_0.length c0_0,.slice A0_1 l0_1.length c0_1,.int .i64 a0_2]] rfl (by(try simp only[List.map_toArray,List.map_cons,List.map_nil]);first|done|rfl|(simp only[Zk,Zj];rfl)) ?_;(with_reducible refine(Z6.calls k _ _ l0_0 _ _ l0_1 a0_2 false _ ?side1 ?side2 ?side3 ?side4 A2.out).mono ?_);(case side1=>repeat(first|exact(Zb HR0_0.out HB.out)|(with_reducible refine Kd.C_alloc ?_ _)|(with_reducible refine Kd.C_drewN ?_ _)|(with_reducible refine Kd.C_drew ?_)));(case side2=>exact HC0_0.out);(case side3=>repeat(first|exact(Zb HR0_1.out HB.out)|(with_reducible refine Kd.C_alloc ?_ _)|(with_reducible refine Kd.C_drewN ?_ _)|(with_reducible refine Kd.C_drew ?_)));(case side4=>exact HC0_1.out);rintro e w12 ⟨rfl,hb⟩;refine⟨_,rfl,?_⟩;replace BK42001:=Za (ZA (g:=gb42001) (o:=.cells #[.slice A0_0 l0_0.length c0_0,.slice A0_1 l0_1.length c0_1,.int .i64 a0_2] 25 (0,0)) (by(with_reducible repeat(first|refine Zt ?_ _|refine Zv ?_|refine Zs ?_ _));exact BK42001.out) hb);replace HB:=Za (Zw (by repeat(first|(with_reducible first|exact HB.out|apply Zn|apply Zm|apply Zo|refine Zq ?_ GE42001.out)|exact HB.out)) hb);(try clear hb);(try clear hb2);(try clear hk);(try clear hi)))
  go_ret
  exact⟨by first|rfl|(simp[ZC,ZB] <;> rfl)|(simp[*,ZC,ZB] <;> rfl),by repeat(first|(with_reducible first|exact HB.out|apply Zn|apply Zm|apply Zo|refine Zq ?_ GE42001.out)|exact HB.out)⟩
def Zb0.f (k:Nat) (l0_0:List (S39)) (l0_1:List (S82)) (a0_2:Int):Option (Bool):=(ZaR.f l0_0 l0_1 a0_2).bind fun t43002=>(if t43002=true then((Z7.f k l0_0 l0_1 a0_2).bind fun t43003=>(some (decide (t43003<0)))) else(some false))
set_option maxHeartbeats 8000000 in
set_option maxRecDepth 100000 in
theorem Zb0.calls (k:Nat) (A0_0:Option Addr) (c0_0:Nat) (l0_0:List (S39)) (A0_1:Option Addr) (c0_1:Nat) (l0_1:List (S82)) (a0_2:Int) (r:Bool) (w:World) (hr0_0:Kd.C k39 w A0_0 l0_0.length l0_0) (hc0_0:l0_0.length≤c0_0) (hr0_1:Kd.C k82 w A0_1 l0_1.length l0_1) (hc0_1:l0_1.length≤c0_1) (ht:TW w) (h:Zb0.f k l0_0 l0_1 a0_2=some r) :
  Calls Tryz.prog 43 #[.agg #[.slice A0_0 l0_0.length c0_0,.slice A0_1 l0_1.length c0_1,.int .i64 a0_2]] w fun e w'=>e=.returned (.bool r)∧Below w.heap.size w w':=by
 have HTW:=Za ht;clear ht
 have hu25:=Tryz.underlying25
 have HR0_0:=Za hr0_0;have HC0_0:=Za hc0_0;clear hr0_0 hc0_0;have HR0_1:=Za hr0_1;have HC0_1:=Za hc0_1;clear hr0_1 hc0_1
 have HB:=Za (Below.refl w.heap.size w)
 have H:((ZaR.f l0_0 l0_1 a0_2).bind fun t43002=>(if t43002=true then((Z7.f k l0_0 l0_1 a0_2).bind fun t43003=>(some (decide (t43003<0)))) else(some false)))=some r:=h
 clear h
 replace H:=Zh H
 obtain⟨t43002,A20,H⟩:=H
 replace H:(if t43002=true then((Z7.f k l0_0 l0_1 a0_2).bind fun t43003=>(some (decide (t43003<0)))) else(some false))=some r:=H
 have A2:=Za A20;clear A20
 by_cases c3:t43002=true
 ·subst c3
  have H1:((Z7.f k l0_0 l0_1 a0_2).bind fun t43003=>(some (decide (t43003<0))))=some r:=by rw[if_pos rfl] at H;exact H
  clear H
  have H:=H1
  clear H1
  replace H:=Zh H
  obtain⟨t43003,A40,H⟩:=H
  replace H:(some (decide (t43003<0)))=some r:=H
  have A4:=Za A40;clear A40
  obtain rfl:=Zg H
  go_enter Tryz.func43,Tryz.ntmps43
  go_wp2_with (first|((with_reducible refine ZF (N:=1) rfl ?_);refine ZG ?hg (N:=1) ?hd (cs:=#[.slice A0_0 l0_0.length c0_0,.slice A0_1 l0_1.length c0_1,.int .i64 a0_2]) (t:=25) ?hr ?_;(case hd=>rfl);(case hg=>rfl);(case hr=>first|(go_simp;done)|(go_simp;rfl));intro gb43001 hg w5 hbox hb;have BK43001:=Za (hbox);have GW43001:=Za ((by rw[hg];exact(Zy (by repeat(first|(with_reducible first|exact HB.out|apply Zn|apply Zm|apply Zo)|exact HB.out))):w.heap.size≤gb43001));have GE43001:=Za ((by rw[hg];exact(Zy (by repeat(first|(with_reducible first|exact HB.out|apply Zn|apply Zm|apply Zo)|exact HB.out))):w.heap.size≤gb43001));replace HB:=Za (Zw (by repeat(first|(with_reducible first|exact HB.out|apply Zn|apply Zm|apply Zo)|exact HB.out)) hb);clear hb hbox hg;have hcz6_0:w5.cell? ⟨gb43001,0,none⟩=some (.slice A0_0 l0_0.length c0_0):=(Zp BK43001.out 0).trans rfl;have hcz6_1:w5.cell? ⟨gb43001,1,none⟩=some (.slice A0_1 l0_1.length c0_1):=(Zp BK43001.out 1).trans rfl;have hcz6_2:w5.cell? ⟨gb43001,2,none⟩=some (.int .i64 a0_2):=(Zp BK43001.out 2).trans rfl;have hfz6_0:=Zr BK43001.out 0;have hfz6_1:=Zr BK43001.out 1;have hfz6_2:=Zr BK43001.out 2)|((with_reducible refine ZJ (f:=19) rfl ?_);refine Zaa (some 4) rfl rfl Tryz.func19 (by kernel_rfl) rfl #[.agg #[.slice A0_0 l0_0.length c0_0,.slice A0_1 l0_1.length c0_1,.int .i64 a0_2]] rfl (by(try simp only[List.map_toArray,List.map_cons,List.map_nil]);first|done|rfl|(simp only[Zk,Zj];rfl)) ?_;(with_reducible refine(ZaR.calls _ _ l0_0 _ _ l0_1 a0_2 true _ ?side1 ?side2 ?side3 ?side4 A2.out).mono ?_);(case side1=>repeat(first|exact(Zb HR0_0.out HB.out)|(with_reducible refine Kd.C_alloc ?_ _)|(with_reducible refine Kd.C_drewN ?_ _)|(with_reducible refine Kd.C_drew ?_)));(case side2=>exact HC0_0.out);(case side3=>repeat(first|exact(Zb HR0_1.out HB.out)|(with_reducible refine Kd.C_alloc ?_ _)|(with_reducible refine Kd.C_drewN ?_ _)|(with_reducible refine Kd.C_drew ?_)));(case side4=>exact HC0_1.out);rintro e w7 ⟨rfl,hb⟩;refine⟨_,rfl,?_⟩;replace BK43001:=Za (ZA (g:=gb43001) (o:=.cells #[.slice A0_0 l0_0.length c0_0,.slice A0_1 l0_1.length c0_1,.int .i64 a0_2] 25 (0,0)) (by(with_reducible repeat(first|refine Zt ?_ _|refine Zv ?_|refine Zs ?_ _));exact BK43001.out) hb);replace HB:=Za (Zw (by repeat(first|(with_reducible first|exact HB.out|apply Zn|apply Zm|apply Zo|refine Zq ?_ GE43001.out)|exact HB.out)) hb);(try clear hb);(try clear hb2);(try clear hk);(try clear hi);have hcz8_0:w7.cell? ⟨gb43001,0,none⟩=some (.slice A0_0 l0_0.length c0_0):=(Zp BK43001.out 0).trans rfl;have hcz8_1:w7.cell? ⟨gb43001,1,none⟩=some (.slice A0_1 l0_1.length c0_1):=(Zp BK43001.out 1).trans rfl;have hcz8_2:w7.cell? ⟨gb43001,2,none⟩=some (.int .i64 a0_2):=(Zp BK43001.out 2).trans rfl;have hfz8_0:=Zr BK43001.out 0;have hfz8_1:=Zr BK43001.out 1;have hfz8_2:=Zr BK43001.out 2)|(go_at_call 41;(with_reducible refine(Z7.calls k _ _ l0_0 _ _ l0_1 a0_2 t43003 _ ?side1 ?side2 ?side3 ?side4 ?sideT A4.out).mono ?_);(case sideT=>exact TW.below HTW.out (by repeat(first|(with_reducible first|exact HB.out|apply Zn|apply Zm|apply Zo|refine Zq ?_ GE43001.out)|exact HB.out)));(case side1=>repeat(first|exact(Zb HR0_0.out HB.out)|(with_reducible refine Kd.C_alloc ?_ _)|(with_reducible refine Kd.C_drewN ?_ _)|(with_reducible refine Kd.C_drew ?_)));(case side2=>exact HC0_0.out);(case side3=>repeat(first|exact(Zb HR0_1.out HB.out)|(with_reducible refine Kd.C_alloc ?_ _)|(with_reducible refine Kd.C_drewN ?_ _)|(with_reducible refine Kd.C_drew ?_)));(case side4=>exact HC0_1.out);rintro e w9 ⟨rfl,hb⟩;replace BK43001:=Za (ZA (g:=gb43001) (o:=.cells #[.slice A0_0 l0_0.length c0_0,.slice A0_1 l0_1.length c0_1,.int .i64 a0_2] 25 (0,0)) (by(with_reducible repeat(first|refine Zt ?_ _|refine Zv ?_|refine Zs ?_ _));exact BK43001.out) hb);replace HB:=Za (Zw (by repeat(first|(with_reducible first|exact HB.out|apply Zn|apply Zm|apply Zo|refine Zq ?_ GE43001.out)|exact HB.out)) hb);(try clear hb);(try clear hb2);(try clear hk);(try clear hi)))
  go_ret
  exact⟨by first|rfl|(simp[ZC,ZB] <;> rfl)|(simp[*,ZC,ZB] <;> rfl),by repeat(first|(with_reducible first|exact HB.out|apply Zn|apply Zm|apply Zo|refine Zq ?_ GE43001.out)|exact HB.out)⟩
 ·replace c3:=Bool.eq_false_iff.mpr c3
  subst c3
  have H1:(some false)=some r:=by rw[if_neg (show ¬(false=true) by decide)] at H;exact H
  clear H
  have H:=H1
  clear H1
  obtain rfl:=Zg H
  go_enter Tryz.func43,Tryz.ntmps43
  go_wp2_with (first|((with_reducible refine ZF (N:=1) rfl ?_);refine ZG ?hg (N:=1) ?hd (cs:=#[.slice A0_0 l0_0.length c0_0,.slice A0_1 l0_1.length c0_1,.int .i64 a0_2]) (t:=25) ?hr ?_;(case hd=>rfl);(case hg=>rfl);(case hr=>first|(go_simp;done)|(go_simp;rfl));intro gb43001 hg w10 hbox hb;have BK43001:=Za (hbox);have GW43001:=Za ((by rw[hg];exact(Zy (by repeat(first|(with_reducible first|exact HB.out|apply Zn|apply Zm|apply Zo)|exact HB.out))):w.heap.size≤gb43001));have GE43001:=Za ((by rw[hg];exact(Zy (by repeat(first|(with_reducible first|exact HB.out|apply Zn|apply Zm|apply Zo)|exact HB.out))):w.heap.size≤gb43001));replace HB:=Za (Zw (by repeat(first|(with_reducible first|exact HB.out|apply Zn|apply Zm|apply Zo)|exact HB.out)) hb);clear hb hbox hg;have hcz11_0:w10.cell? ⟨gb43001,0,none⟩=some (.slice A0_0 l0_0.length c0_0):=(Zp BK43001.out 0).trans rfl;have hcz11_1:w10.cell? ⟨gb43001,1,none⟩=some (.slice A0_1 l0_1.length c0_1):=(Zp BK43001.out 1).trans rfl;have hcz11_2:w10.cell? ⟨gb43001,2,none⟩=some (.int .i64 a0_2):=(Zp BK43001.out 2).trans rfl;have hfz11_0:=Zr BK43001.out 0;have hfz11_1:=Zr BK43001.out 1;have hfz11_2:=Zr BK43001.out 2)|((with_reducible refine ZJ (f:=19) rfl ?_);refine Zaa (some 4) rfl rfl Tryz.func19 (by kernel_rfl) rfl #[.agg #[.slice A0_0 l0_0.length c0_0,.slice A0_1 l0_1.length c0_1,.int .i64 a0_2]] rfl (by(try simp only[List.map_toArray,List.map_cons,List.map_nil]);first|done|rfl|(simp only[Zk,Zj];rfl)) ?_;(with_reducible refine(ZaR.calls _ _ l0_0 _ _ l0_1 a0_2 false _ ?side1 ?side2 ?side3 ?side4 A2.out).mono ?_);(case side1=>repeat(first|exact(Zb HR0_0.out HB.out)|(with_reducible refine Kd.C_alloc ?_ _)|(with_reducible refine Kd.C_drewN ?_ _)|(with_reducible refine Kd.C_drew ?_)));(case side2=>exact HC0_0.out);(case side3=>repeat(first|exact(Zb HR0_1.out HB.out)|(with_reducible refine Kd.C_alloc ?_ _)|(with_reducible refine Kd.C_drewN ?_ _)|(with_reducible refine Kd.C_drew ?_)));(case side4=>exact HC0_1.out);rintro e w12 ⟨rfl,hb⟩;refine⟨_,rfl,?_⟩;replace BK43001:=Za (ZA (g:=gb43001) (o:=.cells #[.slice A0_0 l0_0.length c0_0,.slice A0_1 l0_1.length c0_1,.int .i64 a0_2] 25 (0,0)) (by(with_reducible repeat(first|refine Zt ?_ _|refine Zv ?_|refine Zs ?_ _));exact BK43001.out) hb);replace HB:=Za (Zw (by repeat(first|(with_reducible first|exact HB.out|apply Zn|apply Zm|apply Zo|refine Zq ?_ GE43001.out)|exact HB.out)) hb);(try clear hb);(try clear hb2);(try clear hk);(try clear hi)))
  go_ret
  exact⟨by first|rfl|(simp[ZC,ZB] <;> rfl)|(simp[*,ZC,ZB] <;> rfl),by repeat(first|(with_reducible first|exact HB.out|apply Zn|apply Zm|apply Zo|refine Zq ?_ GE43001.out)|exact HB.out)⟩
end Go.Proofs.YtoeimopgoaffcaaGreatDoor.Pr
