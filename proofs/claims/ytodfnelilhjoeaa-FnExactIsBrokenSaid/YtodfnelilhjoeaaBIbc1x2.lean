/- The texts of one claim, put together by a program of this session. -/
import Derived.Test.YtodfnelilhjoeaaBIbc1x1
namespace Go.Proofs.Ytodfnelilhjoeaa.Pr
open Go.RowKit Go.Proofs.YtodfnelilhjoeaaW.PrintWords Go.Proofs.YtodfnelilhjoeaaW.PrintLast Go.Proofs.YtodfnelilhjoeaaW.PrintMore
attribute [local go_sem] Zaj Zah Zat Zas Zaa Z9 Zai Zag
set_option linter.unusedVariables false
set_option linter.unusedSimpArgs false
def Zbv.f (k:Nat) (l0_0:List (S127)) (l0_1:List (S130)) (a0_2:Int) (a1:Int):Option (Int):=(Zav.f k l0_0 a1).bind fun t15002=>(if t15002<0 then(some (-1)) else((Zbu.f l0_1 t15002).bind fun t15003=>(if t15003<0 then(some (-1)) else(some t15003))))
set_option maxHeartbeats 8000000 in
set_option maxRecDepth 100000 in
theorem Zbv.calls (k:Nat) (A0_0:Option Addr) (c0_0:Nat) (l0_0:List (S127)) (A0_1:Option Addr) (c0_1:Nat) (l0_1:List (S130)) (a0_2:Int) (a1:Int) (r:Int) (w:World) (hr0_0:Kd.C k127 w A0_0 l0_0.length l0_0) (hc0_0:l0_0.length≤c0_0) (hr0_1:Kd.C k130 w A0_1 l0_1.length l0_1) (hc0_1:l0_1.length≤c0_1) (h:Zbv.f k l0_0 l0_1 a0_2 a1=some r) :
  Calls Try.prog 15 #[.agg #[.slice A0_0 l0_0.length c0_0,.slice A0_1 l0_1.length c0_1,.int .i64 a0_2],.int .i64 a1] w fun e w'=>e=.returned (.int .i64 r)∧Below w.heap.size w w':=by
 have hu25:=Try.underlying25
 have HR0_0:=Za hr0_0;have HC0_0:=Za hc0_0;clear hr0_0 hc0_0;have HR0_1:=Za hr0_1;have HC0_1:=Za hc0_1;clear hr0_1 hc0_1
 have HB:=Za (Below.refl w.heap.size w)
 have H:((Zav.f k l0_0 a1).bind fun t15002=>(if t15002<0 then(some (-1)) else((Zbu.f l0_1 t15002).bind fun t15003=>(if t15003<0 then(some (-1)) else(some t15003)))))=some r:=h
 clear h
 replace H:=Zh H
 obtain⟨t15002,A30,H⟩:=H
 replace H:(if t15002<0 then(some (-1)) else((Zbu.f l0_1 t15002).bind fun t15003=>(if t15003<0 then(some (-1)) else(some t15003))))=some r:=H
 have A3:=Za A30;clear A30
 by_cases c4:t15002<0
 ·rw[if_pos c4] at H
  have c4b0:decide (t15002<0)=true:=Ze c4
  clear c4
  obtain rfl:=Zg H
  go_enter Try.func15,Try.ntmps15
  go_wp2_with (first|((with_reducible refine ZG (N:=2) rfl ?_);refine ZE ?hg (N:=2) ?hd (cs:=#[.slice A0_0 l0_0.length c0_0,.slice A0_1 l0_1.length c0_1,.int .i64 a0_2]) (t:=25) ?hr ?_;(case hd=>rfl);(case hg=>rfl);(case hr=>first|(go_simp;done)|(go_simp;rfl));intro gb15001 hg w5 hbox hb;have n0_:=Za (Zv (by repeat(first|(with_reducible first|exact HB.out|apply Zp|apply Zn|apply Zr)|exact HB.out)) hb);have n1_:=Za (hbox);have n2_:=Za ((by rw[hg];exact(Zz (by repeat(first|(with_reducible first|exact HB.out|apply Zp|apply Zn|apply Zr)|exact HB.out))):w.heap.size≤gb15001));have n3_:=Za ((by rw[hg];exact(Zz (by repeat(first|(with_reducible first|exact HB.out|apply Zp|apply Zn|apply Zr)|exact HB.out))):w.heap.size≤gb15001));clear HB;have HB:=n0_;have BK15001:=n1_;have GW15001:=n2_;have GE15001:=n3_;clear n0_ n1_ n2_ n3_;clear hb hbox hg;have hcz6_0:w5.cell? ⟨gb15001,0,none⟩=some (.slice A0_0 l0_0.length c0_0):=(Zm BK15001.out 0).trans rfl;have hcz6_1:w5.cell? ⟨gb15001,1,none⟩=some (.slice A0_1 l0_1.length c0_1):=(Zm BK15001.out 1).trans rfl;have hcz6_2:w5.cell? ⟨gb15001,2,none⟩=some (.int .i64 a0_2):=(Zm BK15001.out 2).trans rfl;have hfz6_0:=Zo BK15001.out 0;have hfz6_1:=Zo BK15001.out 1;have hfz6_2:=Zo BK15001.out 2)|((with_reducible refine ZH (f:=63) rfl ?_);refine ZW (some 8) rfl rfl Try.func63 (by kernel_rfl) rfl #[.slice A0_0 l0_0.length c0_0,.int .i64 a1] rfl (by(try simp only[List.map_toArray,List.map_cons,List.map_nil]);first|done|rfl|(simp only[Zk,Zj];rfl)) ?_;(with_reducible refine(Zav.calls k _ _ l0_0 a1 t15002 _ ?side1 ?side2 A3.out).mono ?_);(case side1=>repeat(first|exact(Zb HR0_0.out HB.out)|(with_reducible refine Kd.C_alloc ?_ _)|(with_reducible refine Kd.C_drewN ?_ _)|(with_reducible refine Kd.C_drew ?_)));(case side2=>exact HC0_0.out);rintro e w7 ⟨rfl,hb⟩;refine⟨_,rfl,?_⟩;have n0_:=Za (Zw (g:=gb15001) (o:=.cells #[.slice A0_0 l0_0.length c0_0,.slice A0_1 l0_1.length c0_1,.int .i64 a0_2] 25 (0,0)) (by(with_reducible repeat(first|refine Zs ?_ _|refine Zu ?_|refine Zt ?_ _));exact BK15001.out) hb);have n1_:=Za (Zv (by repeat(first|(with_reducible first|exact HB.out|apply Zp|apply Zn|apply Zr|refine Zq ?_ GE15001.out)|exact HB.out)) hb);clear BK15001;clear HB;have BK15001:=n0_;have HB:=n1_;clear n0_ n1_;(try clear hb);(try clear hb2);(try clear hk);(try clear hi)))
  go_ret
  exact⟨by first|rfl|(simp[Zy,Zx] <;> rfl)|(simp[*,Zy,Zx] <;> rfl),by repeat(first|(with_reducible first|exact HB.out|apply Zp|apply Zn|apply Zr|refine Zq ?_ GE15001.out)|exact HB.out)⟩
 ·rw[if_neg c4] at H
  have c4b0:decide (t15002<0)=false:=Zf c4
  clear c4
  replace H:=Zh H
  obtain⟨t15003,A80,H⟩:=H
  replace H:(if t15003<0 then(some (-1)) else(some t15003))=some r:=H
  have A8:=Za A80;clear A80
  by_cases c9:t15003<0
  ·rw[if_pos c9] at H
   have c9b0:decide (t15003<0)=true:=Ze c9
   clear c9
   obtain rfl:=Zg H
   go_enter Try.func15,Try.ntmps15
   go_wp2_with (first|((with_reducible refine ZG (N:=2) rfl ?_);refine ZE ?hg (N:=2) ?hd (cs:=#[.slice A0_0 l0_0.length c0_0,.slice A0_1 l0_1.length c0_1,.int .i64 a0_2]) (t:=25) ?hr ?_;(case hd=>rfl);(case hg=>rfl);(case hr=>first|(go_simp;done)|(go_simp;rfl));intro gb15001 hg w10 hbox hb;have n0_:=Za (Zv (by repeat(first|(with_reducible first|exact HB.out|apply Zp|apply Zn|apply Zr)|exact HB.out)) hb);have n1_:=Za (hbox);have n2_:=Za ((by rw[hg];exact(Zz (by repeat(first|(with_reducible first|exact HB.out|apply Zp|apply Zn|apply Zr)|exact HB.out))):w.heap.size≤gb15001));have n3_:=Za ((by rw[hg];exact(Zz (by repeat(first|(with_reducible first|exact HB.out|apply Zp|apply Zn|apply Zr)|exact HB.out))):w.heap.size≤gb15001));clear HB;have HB:=n0_;have BK15001:=n1_;have GW15001:=n2_;have GE15001:=n3_;clear n0_ n1_ n2_ n3_;clear hb hbox hg;have hcz11_0:w10.cell? ⟨gb15001,0,none⟩=some (.slice A0_0 l0_0.length c0_0):=(Zm BK15001.out 0).trans rfl;have hcz11_1:w10.cell? ⟨gb15001,1,none⟩=some (.slice A0_1 l0_1.length c0_1):=(Zm BK15001.out 1).trans rfl;have hcz11_2:w10.cell? ⟨gb15001,2,none⟩=some (.int .i64 a0_2):=(Zm BK15001.out 2).trans rfl;have hfz11_0:=Zo BK15001.out 0;have hfz11_1:=Zo BK15001.out 1;have hfz11_2:=Zo BK15001.out 2)|((with_reducible refine ZH (f:=63) rfl ?_);refine ZW (some 8) rfl rfl Try.func63 (by kernel_rfl) rfl #[.slice A0_0 l0_0.length c0_0,.int .i64 a1] rfl (by(try simp only[List.map_toArray,List.map_cons,List.map_nil]);first|done|rfl|(simp only[Zk,Zj];rfl)) ?_;(with_reducible refine(Zav.calls k _ _ l0_0 a1 t15002 _ ?side1 ?side2 A3.out).mono ?_);(case side1=>repeat(first|exact(Zb HR0_0.out HB.out)|(with_reducible refine Kd.C_alloc ?_ _)|(with_reducible refine Kd.C_drewN ?_ _)|(with_reducible refine Kd.C_drew ?_)));(case side2=>exact HC0_0.out);rintro e w12 ⟨rfl,hb⟩;refine⟨_,rfl,?_⟩;have n0_:=Za (Zw (g:=gb15001) (o:=.cells #[.slice A0_0 l0_0.length c0_0,.slice A0_1 l0_1.length c0_1,.int .i64 a0_2] 25 (0,0)) (by(with_reducible repeat(first|refine Zs ?_ _|refine Zu ?_|refine Zt ?_ _));exact BK15001.out) hb);have n1_:=Za (Zv (by repeat(first|(with_reducible first|exact HB.out|apply Zp|apply Zn|apply Zr|refine Zq ?_ GE15001.out)|exact HB.out)) hb);clear BK15001;clear HB;have BK15001:=n0_;have HB:=n1_;clear n0_ n1_;(try clear hb);(try clear hb2);(try clear hk);(try clear hi);have hcz13_0:w12.cell? ⟨gb15001,0,none⟩=some (.slice A0_0 l0_0.length c0_0):=(Zm BK15001.out 0).trans rfl;have hcz13_1:w12.cell? ⟨gb15001,1,none⟩=some (.slice A0_1 l0_1.length c0_1):=(Zm BK15001.out 1).trans rfl;have hcz13_2:w12.cell? ⟨gb15001,2,none⟩=some (.int .i64 a0_2):=(Zm BK15001.out 2).trans rfl;have hfz13_0:=Zo BK15001.out 0;have hfz13_1:=Zo BK15001.out 1;have hfz13_2:=Zo BK15001.out 2)|((with_reducible refine ZH (f:=64) rfl ?_);refine ZW (some 14) rfl rfl Try.func64 (by kernel_rfl) rfl #[.slice A0_1 l0_1.length c0_1,.int .i64 t15002] rfl (by(try simp only[List.map_toArray,List.map_cons,List.map_nil]);first|done|rfl|(simp only[Zk,Zj];rfl)) ?_;(with_reducible refine(Zbu.calls _ _ l0_1 t15002 t15003 _ ?side1 ?side2 A8.out).mono ?_);(case side1=>repeat(first|exact(Zb HR0_1.out HB.out)|(with_reducible refine Kd.C_alloc ?_ _)|(with_reducible refine Kd.C_drewN ?_ _)|(with_reducible refine Kd.C_drew ?_)));(case side2=>exact HC0_1.out);rintro e w' ⟨rfl,⟨nd,rfl⟩⟩;refine⟨_,rfl,?_⟩))
   go_ret
   exact⟨by first|rfl|(simp[Zy,Zx] <;> rfl)|(simp[*,Zy,Zx] <;> rfl),by repeat(first|(with_reducible first|exact HB.out|apply Zp|apply Zn|apply Zr|refine Zq ?_ GE15001.out)|exact HB.out)⟩
  ·rw[if_neg c9] at H
   have c9b0:decide (t15003<0)=false:=Zf c9
   clear c9
   obtain rfl:=Zg H
   go_enter Try.func15,Try.ntmps15
   go_wp2_with (first|((with_reducible refine ZG (N:=2) rfl ?_);refine ZE ?hg (N:=2) ?hd (cs:=#[.slice A0_0 l0_0.length c0_0,.slice A0_1 l0_1.length c0_1,.int .i64 a0_2]) (t:=25) ?hr ?_;(case hd=>rfl);(case hg=>rfl);(case hr=>first|(go_simp;done)|(go_simp;rfl));intro gb15001 hg w14 hbox hb;have n0_:=Za (Zv (by repeat(first|(with_reducible first|exact HB.out|apply Zp|apply Zn|apply Zr)|exact HB.out)) hb);have n1_:=Za (hbox);have n2_:=Za ((by rw[hg];exact(Zz (by repeat(first|(with_reducible first|exact HB.out|apply Zp|apply Zn|apply Zr)|exact HB.out))):w.heap.size≤gb15001));have n3_:=Za ((by rw[hg];exact(Zz (by repeat(first|(with_reducible first|exact HB.out|apply Zp|apply Zn|apply Zr)|exact HB.out))):w.heap.size≤gb15001));clear HB;have HB:=n0_;have BK15001:=n1_;have GW15001:=n2_;have GE15001:=n3_;clear n0_ n1_ n2_ n3_;clear hb hbox hg;have hcz15_0:w14.cell? ⟨gb15001,0,none⟩=some (.slice A0_0 l0_0.length c0_0):=(Zm BK15001.out 0).trans rfl;have hcz15_1:w14.cell? ⟨gb15001,1,none⟩=some (.slice A0_1 l0_1.length c0_1):=(Zm BK15001.out 1).trans rfl;have hcz15_2:w14.cell? ⟨gb15001,2,none⟩=some (.int .i64 a0_2):=(Zm BK15001.out 2).trans rfl;have hfz15_0:=Zo BK15001.out 0;have hfz15_1:=Zo BK15001.out 1;have hfz15_2:=Zo BK15001.out 2)|((with_reducible refine ZH (f:=63) rfl ?_);refine ZW (some 8) rfl rfl Try.func63 (by kernel_rfl) rfl #[.slice A0_0 l0_0.length c0_0,.int .i64 a1] rfl (by(try simp only[List.map_toArray,List.map_cons,List.map_nil]);first|done|rfl|(simp only[Zk,Zj];rfl)) ?_;(with_reducible refine(Zav.calls k _ _ l0_0 a1 t15002 _ ?side1 ?side2 A3.out).mono ?_);(case side1=>repeat(first|exact(Zb HR0_0.out HB.out)|(with_reducible refine Kd.C_alloc ?_ _)|(with_reducible refine Kd.C_drewN ?_ _)|(with_reducible refine Kd.C_drew ?_)));(case side2=>exact HC0_0.out);rintro e w16 ⟨rfl,hb⟩;refine⟨_,rfl,?_⟩;have n0_:=Za (Zw (g:=gb15001) (o:=.cells #[.slice A0_0 l0_0.length c0_0,.slice A0_1 l0_1.length c0_1,.int .i64 a0_2] 25 (0,0)) (by(with_reducible repeat(first|refine Zs ?_ _|refine Zu ?_|refine Zt ?_ _));exact BK15001.out) hb);have n1_:=Za (Zv (by repeat(first|(with_reducible first|exact HB.out|apply Zp|apply Zn|apply Zr|refine Zq ?_ GE15001.out)|exact HB.out)) hb);clear BK15001;clear HB;have BK15001:=n0_;have HB:=n1_;clear n0_ n1_;(try clear hb);(try clear hb2);(try clear hk);(try clear hi);have hcz17_0:w16.cell? ⟨gb15001,0,none⟩=some (.slice A0_0 l0_0.length c0_0):=(Zm BK15001.out 0).trans rfl;have hcz17_1:w16.cell? ⟨gb15001,1,none⟩=some (.slice A0_1 l0_1.length c0_1):=(Zm BK15001.out 1).trans rfl;have hcz17_2:w16.cell? ⟨gb15001,2,none⟩=some (.int .i64 a0_2):=(Zm BK15001.out 2).trans rfl;have hfz17_0:=Zo BK15001.out 0;have hfz17_1:=Zo BK15001.out 1;have hfz17_2:=Zo BK15001.out 2)|((with_reducible refine ZH (f:=64) rfl ?_);refine ZW (some 14) rfl rfl Try.func64 (by kernel_rfl) rfl #[.slice A0_1 l0_1.length c0_1,.int .i64 t15002] rfl (by(try simp only[List.map_toArray,List.map_cons,List.map_nil]);first|done|rfl|(simp only[Zk,Zj];rfl)) ?_;(with_reducible refine(Zbu.calls _ _ l0_1 t15002 t15003 _ ?side1 ?side2 A8.out).mono ?_);(case side1=>repeat(first|exact(Zb HR0_1.out HB.out)|(with_reducible refine Kd.C_alloc ?_ _)|(with_reducible refine Kd.C_drewN ?_ _)|(with_reducible refine Kd.C_drew ?_)));(case side2=>exact HC0_1.out);rintro e w' ⟨rfl,⟨nd,rfl⟩⟩;refine⟨_,rfl,?_⟩))
   go_ret
   exact⟨by first|rfl|(simp[Zy,Zx] <;> rfl)|(simp[*,Zy,Zx] <;> rfl),by repeat(first|(with_reducible first|exact HB.out|apply Zp|apply Zn|apply Zr|refine Zq ?_ GE15001.out)|exact HB.out)⟩
def Zby.f (a0_0:Int) (l0_1:List Int) (l0_2:List Int) (a1:Int):Option (Int):=(ZaC.f l0_1 a1).bind fun t38002=>(if t38002<0 then(some (-1)) else((ZaC.f l0_2 t38002).bind fun t38003=>(if t38003<0 then(some (-1)) else(some t38003))))
set_option maxHeartbeats 8000000 in
set_option maxRecDepth 100000 in
theorem Zby.calls (a0_0:Int) (A0_1:Option Addr) (c0_1:Nat) (l0_1:List Int) (A0_2:Option Addr) (c0_2:Nat) (l0_2:List Int) (a1:Int) (r:Int) (w:World) (hr0_1:Kd.C (Kd.int .i64) w A0_1 l0_1.length l0_1) (hc0_1:l0_1.length≤c0_1) (hr0_2:Kd.C (Kd.int .i64) w A0_2 l0_2.length l0_2) (hc0_2:l0_2.length≤c0_2) (h:Zby.f a0_0 l0_1 l0_2 a1=some r) :
  Calls Try.prog 38 #[.agg #[.int .i64 a0_0,.slice A0_1 l0_1.length c0_1,.slice A0_2 l0_2.length c0_2],.int .i64 a1] w fun e w'=>e=.returned (.int .i64 r)∧Below w.heap.size w w':=by
 have hu63:=Try.underlying63
 have HR0_1:=Za hr0_1;have HC0_1:=Za hc0_1;clear hr0_1 hc0_1;have HR0_2:=Za hr0_2;have HC0_2:=Za hc0_2;clear hr0_2 hc0_2
 have HB:=Za (Below.refl w.heap.size w)
 have H:((ZaC.f l0_1 a1).bind fun t38002=>(if t38002<0 then(some (-1)) else((ZaC.f l0_2 t38002).bind fun t38003=>(if t38003<0 then(some (-1)) else(some t38003)))))=some r:=h
 clear h
 replace H:=Zh H
 obtain⟨t38002,A30,H⟩:=H
 replace H:(if t38002<0 then(some (-1)) else((ZaC.f l0_2 t38002).bind fun t38003=>(if t38003<0 then(some (-1)) else(some t38003))))=some r:=H
 have A3:=Za A30;clear A30
 by_cases c4:t38002<0
 ·rw[if_pos c4] at H
  have c4b0:decide (t38002<0)=true:=Ze c4
  clear c4
  obtain rfl:=Zg H
  go_enter Try.func38,Try.ntmps38
  go_wp2_with (first|((with_reducible refine ZG (N:=2) rfl ?_);refine ZE ?hg (N:=2) ?hd (cs:=#[.int .i64 a0_0,.slice A0_1 l0_1.length c0_1,.slice A0_2 l0_2.length c0_2]) (t:=63) ?hr ?_;(case hd=>rfl);(case hg=>rfl);(case hr=>first|(go_simp;done)|(go_simp;rfl));intro gb38001 hg w5 hbox hb;have n0_:=Za (Zv (by repeat(first|(with_reducible first|exact HB.out|apply Zp|apply Zn|apply Zr)|exact HB.out)) hb);have n1_:=Za (hbox);have n2_:=Za ((by rw[hg];exact(Zz (by repeat(first|(with_reducible first|exact HB.out|apply Zp|apply Zn|apply Zr)|exact HB.out))):w.heap.size≤gb38001));have n3_:=Za ((by rw[hg];exact(Zz (by repeat(first|(with_reducible first|exact HB.out|apply Zp|apply Zn|apply Zr)|exact HB.out))):w.heap.size≤gb38001));clear HB;have HB:=n0_;have BK38001:=n1_;have GW38001:=n2_;have GE38001:=n3_;clear n0_ n1_ n2_ n3_;clear hb hbox hg;have hcz6_0:w5.cell? ⟨gb38001,0,none⟩=some (.int .i64 a0_0):=(Zm BK38001.out 0).trans rfl;have hcz6_1:w5.cell? ⟨gb38001,1,none⟩=some (.slice A0_1 l0_1.length c0_1):=(Zm BK38001.out 1).trans rfl;have hcz6_2:w5.cell? ⟨gb38001,2,none⟩=some (.slice A0_2 l0_2.length c0_2):=(Zm BK38001.out 2).trans rfl;have hfz6_0:=Zo BK38001.out 0;have hfz6_1:=Zo BK38001.out 1;have hfz6_2:=Zo BK38001.out 2)|((with_reducible refine ZH (f:=65) rfl ?_);refine ZW (some 8) rfl rfl Try.func65 (by kernel_rfl) rfl #[.slice A0_1 l0_1.length c0_1,.int .i64 a1] rfl (by(try simp only[List.map_toArray,List.map_cons,List.map_nil]);first|done|rfl|(simp only[Zk,Zj];rfl)) ?_;(with_reducible refine(ZaC.calls _ _ l0_1 a1 t38002 _ ?side1 ?side2 A3.out).mono ?_);(case side1=>repeat(first|exact(Zb HR0_1.out HB.out)|(with_reducible refine Kd.C_alloc ?_ _)|(with_reducible refine Kd.C_drewN ?_ _)|(with_reducible refine Kd.C_drew ?_)));(case side2=>exact HC0_1.out);rintro e w' ⟨rfl,⟨nd,rfl⟩⟩;refine⟨_,rfl,?_⟩))
  go_ret
  exact⟨by first|rfl|(simp[Zy,Zx] <;> rfl)|(simp[*,Zy,Zx] <;> rfl),by repeat(first|(with_reducible first|exact HB.out|apply Zp|apply Zn|apply Zr|refine Zq ?_ GE38001.out)|exact HB.out)⟩
 ·rw[if_neg c4] at H
  have c4b0:decide (t38002<0)=false:=Zf c4
  clear c4
  replace H:=Zh H
  obtain⟨t38003,A70,H⟩:=H
  replace H:(if t38003<0 then(some (-1)) else(some t38003))=some r:=H
  have A7:=Za A70;clear A70
  by_cases c8:t38003<0
  ·rw[if_pos c8] at H
   have c8b0:decide (t38003<0)=true:=Ze c8
   clear c8
   obtain rfl:=Zg H
   go_enter Try.func38,Try.ntmps38
   go_wp2_with (first|((with_reducible refine ZG (N:=2) rfl ?_);refine ZE ?hg (N:=2) ?hd (cs:=#[.int .i64 a0_0,.slice A0_1 l0_1.length c0_1,.slice A0_2 l0_2.length c0_2]) (t:=63) ?hr ?_;(case hd=>rfl);(case hg=>rfl);(case hr=>first|(go_simp;done)|(go_simp;rfl));intro gb38001 hg w9 hbox hb;have n0_:=Za (Zv (by repeat(first|(with_reducible first|exact HB.out|apply Zp|apply Zn|apply Zr)|exact HB.out)) hb);have n1_:=Za (hbox);have n2_:=Za ((by rw[hg];exact(Zz (by repeat(first|(with_reducible first|exact HB.out|apply Zp|apply Zn|apply Zr)|exact HB.out))):w.heap.size≤gb38001));have n3_:=Za ((by rw[hg];exact(Zz (by repeat(first|(with_reducible first|exact HB.out|apply Zp|apply Zn|apply Zr)|exact HB.out))):w.heap.size≤gb38001));clear HB;have HB:=n0_;have BK38001:=n1_;have GW38001:=n2_;have GE38001:=n3_;clear n0_ n1_ n2_ n3_;clear hb hbox hg;have hcz10_0:w9.cell? ⟨gb38001,0,none⟩=some (.int .i64 a0_0):=(Zm BK38001.out 0).trans rfl;have hcz10_1:w9.cell? ⟨gb38001,1,none⟩=some (.slice A0_1 l0_1.length c0_1):=(Zm BK38001.out 1).trans rfl;have hcz10_2:w9.cell? ⟨gb38001,2,none⟩=some (.slice A0_2 l0_2.length c0_2):=(Zm BK38001.out 2).trans rfl;have hfz10_0:=Zo BK38001.out 0;have hfz10_1:=Zo BK38001.out 1;have hfz10_2:=Zo BK38001.out 2)|((with_reducible refine ZH (f:=65) rfl ?_);refine ZW (some 8) rfl rfl Try.func65 (by kernel_rfl) rfl #[.slice A0_1 l0_1.length c0_1,.int .i64 a1] rfl (by(try simp only[List.map_toArray,List.map_cons,List.map_nil]);first|done|rfl|(simp only[Zk,Zj];rfl)) ?_;(with_reducible refine(ZaC.calls _ _ l0_1 a1 t38002 _ ?side1 ?side2 A3.out).mono ?_);(case side1=>repeat(first|exact(Zb HR0_1.out HB.out)|(with_reducible refine Kd.C_alloc ?_ _)|(with_reducible refine Kd.C_drewN ?_ _)|(with_reducible refine Kd.C_drew ?_)));(case side2=>exact HC0_1.out);rintro e w' ⟨rfl,⟨nd,rfl⟩⟩;refine⟨_,rfl,?_⟩)|((with_reducible refine ZH (f:=65) rfl ?_);refine ZW (some 14) rfl rfl Try.func65 (by kernel_rfl) rfl #[.slice A0_2 l0_2.length c0_2,.int .i64 t38002] rfl (by(try simp only[List.map_toArray,List.map_cons,List.map_nil]);first|done|rfl|(simp only[Zk,Zj];rfl)) ?_;(with_reducible refine(ZaC.calls _ _ l0_2 t38002 t38003 _ ?side1 ?side2 A7.out).mono ?_);(case side1=>repeat(first|exact(Zb HR0_2.out (by repeat(first|(with_reducible first|exact HB.out|apply Zp|apply Zn|apply Zr|refine Zq ?_ GE38001.out)|exact HB.out)))|(with_reducible refine Kd.C_alloc ?_ _)|(with_reducible refine Kd.C_drewN ?_ _)|(with_reducible refine Kd.C_drew ?_)));(case side2=>exact HC0_2.out);rintro e w' ⟨rfl,⟨nd,rfl⟩⟩;refine⟨_,rfl,?_⟩))
   go_ret
   exact⟨by first|rfl|(simp[Zy,Zx] <;> rfl)|(simp[*,Zy,Zx] <;> rfl),by repeat(first|(with_reducible first|exact HB.out|apply Zp|apply Zn|apply Zr|refine Zq ?_ GE38001.out)|exact HB.out)⟩
  ·rw[if_neg c8] at H
   have c8b0:decide (t38003<0)=false:=Zf c8
   clear c8
   obtain rfl:=Zg H
   go_enter Try.func38,Try.ntmps38
   go_wp2_with (first|((with_reducible refine ZG (N:=2) rfl ?_);refine ZE ?hg (N:=2) ?hd (cs:=#[.int .i64 a0_0,.slice A0_1 l0_1.length c0_1,.slice A0_2 l0_2.length c0_2]) (t:=63) ?hr ?_;(case hd=>rfl);(case hg=>rfl);(case hr=>first|(go_simp;done)|(go_simp;rfl));intro gb38001 hg w11 hbox hb;have n0_:=Za (Zv (by repeat(first|(with_reducible first|exact HB.out|apply Zp|apply Zn|apply Zr)|exact HB.out)) hb);have n1_:=Za (hbox);have n2_:=Za ((by rw[hg];exact(Zz (by repeat(first|(with_reducible first|exact HB.out|apply Zp|apply Zn|apply Zr)|exact HB.out))):w.heap.size≤gb38001));have n3_:=Za ((by rw[hg];exact(Zz (by repeat(first|(with_reducible first|exact HB.out|apply Zp|apply Zn|apply Zr)|exact HB.out))):w.heap.size≤gb38001));clear HB;have HB:=n0_;have BK38001:=n1_;have GW38001:=n2_;have GE38001:=n3_;clear n0_ n1_ n2_ n3_;clear hb hbox hg;have hcz12_0:w11.cell? ⟨gb38001,0,none⟩=some (.int .i64 a0_0):=(Zm BK38001.out 0).trans rfl;have hcz12_1:w11.cell? ⟨gb38001,1,none⟩=some (.slice A0_1 l0_1.length c0_1):=(Zm BK38001.out 1).trans rfl;have hcz12_2:w11.cell? ⟨gb38001,2,none⟩=some (.slice A0_2 l0_2.length c0_2):=(Zm BK38001.out 2).trans rfl;have hfz12_0:=Zo BK38001.out 0;have hfz12_1:=Zo BK38001.out 1;have hfz12_2:=Zo BK38001.out 2)|((with_reducible refine ZH (f:=65) rfl ?_);refine ZW (some 8) rfl rfl Try.func65 (by kernel_rfl) rfl #[.slice A0_1 l0_1.length c0_1,.int .i64 a1] rfl (by(try simp only[List.map_toArray,List.map_cons,List.map_nil]);first|done|rfl|(simp only[Zk,Zj];rfl)) ?_;(with_reducible refine(ZaC.calls _ _ l0_1 a1 t38002 _ ?side1 ?side2 A3.out).mono ?_);(case side1=>repeat(first|exact(Zb HR0_1.out HB.out)|(with_reducible refine Kd.C_alloc ?_ _)|(with_reducible refine Kd.C_drewN ?_ _)|(with_reducible refine Kd.C_drew ?_)));(case side2=>exact HC0_1.out);rintro e w' ⟨rfl,⟨nd,rfl⟩⟩;refine⟨_,rfl,?_⟩)|((with_reducible refine ZH (f:=65) rfl ?_);refine ZW (some 14) rfl rfl Try.func65 (by kernel_rfl) rfl #[.slice A0_2 l0_2.length c0_2,.int .i64 t38002] rfl (by(try simp only[List.map_toArray,List.map_cons,List.map_nil]);first|done|rfl|(simp only[Zk,Zj];rfl)) ?_;(with_reducible refine(ZaC.calls _ _ l0_2 t38002 t38003 _ ?side1 ?side2 A7.out).mono ?_);(case side1=>repeat(first|exact(Zb HR0_2.out (by repeat(first|(with_reducible first|exact HB.out|apply Zp|apply Zn|apply Zr|refine Zq ?_ GE38001.out)|exact HB.out)))|(with_reducible refine Kd.C_alloc ?_ _)|(with_reducible refine Kd.C_drewN ?_ _)|(with_reducible refine Kd.C_drew ?_)));(case side2=>exact HC0_2.out);rintro e w' ⟨rfl,⟨nd,rfl⟩⟩;refine⟨_,rfl,?_⟩))
   go_ret
   exact⟨by first|rfl|(simp[Zy,Zx] <;> rfl)|(simp[*,Zy,Zx] <;> rfl),by repeat(first|(with_reducible first|exact HB.out|apply Zp|apply Zn|apply Zr|refine Zq ?_ GE38001.out)|exact HB.out)⟩
def ZT.f (a0:Int) (a1:Int) (a2:Int):Option (Bool):=if a0≥a1 then(some (decide (a0≤a2))) else(some false)
set_option maxHeartbeats 8000000 in
set_option maxRecDepth 100000 in
theorem ZT.calls (a0:Int) (a1:Int) (a2:Int) (r:Bool) (w:World) (h:ZT.f a0 a1 a2=some r) :
  Calls Try.prog 68 #[.int .i64 a0,.int .i64 a1,.int .i64 a2] w fun e w'=>e=.returned (.bool r)∧ZF w w':=by
 have H:(if a0≥a1 then(some (decide (a0≤a2))) else(some false))=some r:=h
 clear h
 by_cases c4:a0≥a1
 ·rw[if_pos c4] at H
  have c4b0:decide (a1≤a0)=true:=Ze c4
  clear c4
  obtain rfl:=Zg H
  go_enter Try.func68,Try.ntmps68
  go_wp2
  go_ret
  exact⟨by first|rfl|(simp;done)|(simp[*];done),by repeat(first|exact ZF.refl _|apply ZF.step)⟩
 ·rw[if_neg c4] at H
  have c4b0:decide (a1≤a0)=false:=Zf c4
  clear c4
  obtain rfl:=Zg H
  go_enter Try.func68,Try.ntmps68
  go_wp2
  go_ret
  exact⟨by first|rfl|(simp;done)|(simp[*];done),by repeat(first|exact ZF.refl _|apply ZF.step)⟩
def Zam.f (a0:Int):Option (Int):=if a0<0 then(some (wrap64 (-a0))) else(some a0)
set_option maxHeartbeats 8000000 in
set_option maxRecDepth 100000 in
theorem Zam.calls (a0:Int) (r:Int) (w:World) (h:Zam.f a0=some r) :
  Calls Try.prog 141 #[.int .i64 a0] w fun e w'=>e=.returned (.int .i64 r)∧ZF w w':=by
 have H:(if a0<0 then(some (wrap64 (-a0))) else(some a0))=some r:=h
 clear h
 by_cases c2:a0<0
 ·rw[if_pos c2] at H
  have c2b0:decide (a0<0)=true:=Ze c2
  clear c2
  obtain rfl:=Zg H
  go_enter Try.func141,Try.ntmps141
  go_wp2
  go_ret
  exact⟨by first|rfl|(simp;done)|(simp[*];done),by repeat(first|exact ZF.refl _|apply ZF.step)⟩
 ·rw[if_neg c2] at H
  have c2b0:decide (a0<0)=false:=Zf c2
  clear c2
  obtain rfl:=Zg H
  go_enter Try.func141,Try.ntmps141
  go_wp2
  go_ret
  exact⟨by first|rfl|(simp;done)|(simp[*];done),by repeat(first|exact ZF.refl _|apply ZF.step)⟩
def ZQ.l0:Nat→List Int→Int→List Int→Int→Int→Option (Int)
 | 0,_,_,_,_,_=>none
 | k+1,x1,x5,x9,x10,x11=>if x11<x10 then(if 0≤x11 then(if x11<(x9.length:Int) then((Zam.f (rd x9 x11)).bind fun t96002=>(if 0≤(wrap64 (t96002 - 1)) then(if (wrap64 (t96002 - 1))<(x1.length:Int) then(if (rd x9 x11)<0 then(ZQ.l0 k x1 (mn x5 (wrap64 (-(rd x1 (wrap64 (t96002 - 1)))))) x9 x10 (wrap64 (x11+1))) else(ZQ.l0 k x1 (mn x5 (rd x1 (wrap64 (t96002 - 1)))) x9 x10 (wrap64 (x11+1)))) else(none)) else(none))) else(none)) else(none)) else(some x5)
def ZQ.f (k:Nat) (l0:List Int) (l1:List Int):Option (Int):=ZQ.l0 k l1 1 l0 (l0.length:Int) 0
set_option maxHeartbeats 8000000 in
set_option maxRecDepth 100000 in
theorem ZQ.calls (k:Nat) (A0:Option Addr) (c0:Nat) (l0:List Int) (A1:Option Addr) (c1:Nat) (l1:List Int) (r:Int) (w:World) (hr0:Kd.C (Kd.int .i64) w A0 l0.length l0) (hc0:l0.length≤c0) (hr1:Kd.C (Kd.int .i64) w A1 l1.length l1) (hc1:l1.length≤c1) (h:ZQ.f k l0 l1=some r) :
  Calls Try.prog 96 #[.slice A0 l0.length c0,.slice A1 l1.length c1] w fun e w'=>e=.returned (.int .i64 r)∧Below w.heap.size w w':=by
 have HR0:=Za hr0;have HC0:=Za hc0;clear hr0 hc0;have HR1:=Za hr1;have HC1:=Za hc1;clear hr1 hc1
 have HB:=Za (Below.refl w.heap.size w)
 have H:(ZQ.l0 k l1 1 l0 (l0.length:Int) 0)=some r:=h
 clear h
 have H':=Za H
 clear H
 go_enter Try.func96,Try.ntmps96
 go_wp2
 go_loopg [5,11] k (fun kq v5 v11 w'=>∃(x5_1:Int) (x11_1:Int),v5=.int .i64 x5_1∧v11=.int .i64 x11_1∧Aside0 (ZQ.l0 kq l1 x5_1 l0 (l0.length:Int) x11_1=some r)∧Aside0 (kq≤k)∧Aside0 (Below w.heap.size w w'))
 case atStart=>exact⟨(1),(0),(by first|rfl|(simp;done)|(simp[*];done)),(by first|rfl|(simp;done)|(simp[*];done)),H',⟨Nat.le_refl _⟩,⟨by repeat(first|(with_reducible first|exact HB.out|apply Zp|apply Zn|apply Zr)|exact HB.out)⟩⟩
 case round=>
  clear H'
  try clear c1
  try clear p2
  obtain⟨x5_1,x11_1,rfl,rfl,HA,HK1,HB⟩:=hrel
  cases gk with
  | zero=>exact absurd HA.out (by simp[ZQ.l0])
  | succ k1=>
   have H:=HA.out
   clear HA
   simp only[ZQ.l0] at H
   by_cases c3:x11_1<(l0.length:Int)
   ·rw[if_pos c3] at H
    have c3b0:decide (x11_1<(l0.length:Int))=true:=Ze c3
    clear c3
    by_cases c4:0≤x11_1
    ·rw[if_pos c4] at H
     have c4b0:decide (0≤x11_1)=true:=Ze c4
     clear c4
     by_cases c5:x11_1<(l0.length:Int)
     ·rw[if_pos c5] at H
      have c5b0:decide (x11_1<(l0.length:Int))=true:=Ze c5
      clear c5
      replace H:=Zh H
      obtain⟨t96002,A60,H⟩:=H
      replace H:(if 0≤(wrap64 (t96002 - 1)) then(if (wrap64 (t96002 - 1))<(l1.length:Int) then(if (rd l0 x11_1)<0 then(ZQ.l0 k1 l1 (mn x5_1 (wrap64 (-(rd l1 (wrap64 (t96002 - 1)))))) l0 (l0.length:Int) (wrap64 (x11_1+1))) else(ZQ.l0 k1 l1 (mn x5_1 (rd l1 (wrap64 (t96002 - 1)))) l0 (l0.length:Int) (wrap64 (x11_1+1)))) else(none)) else(none))=some r:=H
      have A6:=Za A60;clear A60
      obtain⟨ji7,hji7⟩:∃j_:Int,(wrap64 (t96002 - 1))=j_:=⟨_,rfl⟩
      replace H:(if 0≤(ji7) then(if (ji7)<(l1.length:Int) then(if (rd l0 x11_1)<0 then(ZQ.l0 k1 l1 (mn x5_1 (wrap64 (-(rd l1 (ji7))))) l0 (l0.length:Int) (wrap64 (x11_1+1))) else(ZQ.l0 k1 l1 (mn x5_1 (rd l1 (ji7))) l0 (l0.length:Int) (wrap64 (x11_1+1)))) else(none)) else(none))=some r:=by first|(rw[hji7] at H;exact H)|(simp only[hji7] at H ⊢;exact H)
      (try rw[hji7] at A6)
      have hji7w:(IntKind.i64.wrap (t96002 - 1))=ji7:=(ZL _).trans hji7
      by_cases c8:0≤(ji7)
      ·rw[if_pos c8] at H
       have c8b0:decide (0≤(ji7))=true:=Ze c8
       clear c8
       by_cases c9:(ji7)<(l1.length:Int)
       ·rw[if_pos c9] at H
        have c9b0:decide ((ji7)<(l1.length:Int))=true:=Ze c9
        clear c9
        by_cases c10:(rd l0 x11_1)<0
        ·rw[if_pos c10] at H
         have c10b0:decide ((rd l0 x11_1)<0)=true:=Ze c10
         clear c10
         obtain⟨ji11,hji11⟩:∃j_:Int,(mn x5_1 (wrap64 (-(rd l1 (ji7)))))=j_:=⟨_,rfl⟩
         replace H:(ZQ.l0 k1 l1 ji11 l0 (l0.length:Int) (wrap64 (x11_1+1)))=some r:=by first|(rw[hji11] at H;exact H)|(simp only[hji11] at H ⊢;exact H)
         (try rw[hji11] at A6)
         have hji11_:(if (wrap64 (-(rd l1 (ji7))))<x5_1 then(wrap64 (-(rd l1 (ji7)))) else x5_1)=ji11:=hji11
         have H':=Za H
         clear H
         have p96001:0≤(x11_1:Int):=Zd (by first|(with_reducible assumption)|assumption)
         have q96001:x11_1<(l0.length:Int):=Zd (by first|(with_reducible assumption)|assumption)
         obtain⟨ad96001,e96001,hx96001_0⟩:=Kd.at_int HR0.out x11_1 p96001 q96001
         cases e96001
         replace hx96001_0:=(HB.out.cell (Zc w _ hx96001_0)).trans hx96001_0
         replace p96001:=eq_true p96001
         replace q96001:=eq_true q96001
         go_wp2_with (first|((with_reducible refine ZH (f:=141) rfl ?_);refine ZW (some 17) rfl rfl Try.func141 (by kernel_rfl) rfl #[.int .i64 (rd l0 x11_1)] rfl (by(try simp only[List.map_toArray,List.map_cons,List.map_nil]);first|done|rfl|(simp only[Zk,Zj];rfl)) ?_;(with_reducible refine(Zam.calls (rd l0 x11_1) t96002 _ A6.out).mono ?_);rintro e w' ⟨rfl,⟨nd,rfl⟩⟩;refine⟨_,rfl,?_⟩;have p96003:0≤((ji7):Int):=Zd (by first|(with_reducible assumption)|assumption);have q96003:(ji7)<(l1.length:Int):=Zd (by first|(with_reducible assumption)|assumption);obtain⟨ad96003,e96003,hx96003_0⟩:=Kd.at_int HR1.out (ji7) p96003 q96003;cases e96003;replace hx96003_0:=(HB.out.cell (Zc w _ hx96003_0)).trans hx96003_0;replace p96003:=eq_true p96003;replace q96003:=eq_true q96003))
         go_roundg k1
         case measure=>have:=HK1.out;omega
         case rel=>exact⟨(ji11),(wrap64 (x11_1+1)),(by first|rfl|(simp;done)|(simp only[← hji11] <;> (first|rfl|simp))|(simp[*];done)),(by first|rfl|(simp;done)|(simp[*];done)),H',⟨by have:=HK1.out;omega⟩,⟨by repeat(first|(with_reducible first|exact HB.out|apply Zp|apply Zn|apply Zr)|exact HB.out)⟩⟩
        ·rw[if_neg c10] at H
         have c10b0:decide ((rd l0 x11_1)<0)=false:=Zf c10
         clear c10
         obtain⟨ji12,hji12⟩:∃j_:Int,(mn x5_1 (rd l1 (ji7)))=j_:=⟨_,rfl⟩
         replace H:(ZQ.l0 k1 l1 ji12 l0 (l0.length:Int) (wrap64 (x11_1+1)))=some r:=by first|(rw[hji12] at H;exact H)|(simp only[hji12] at H ⊢;exact H)
         (try rw[hji12] at A6)
         have hji12_:(if (rd l1 (ji7))<x5_1 then(rd l1 (ji7)) else x5_1)=ji12:=hji12
         have H':=Za H
         clear H
         have p96001:0≤(x11_1:Int):=Zd (by first|(with_reducible assumption)|assumption)
         have q96001:x11_1<(l0.length:Int):=Zd (by first|(with_reducible assumption)|assumption)
         obtain⟨ad96001,e96001,hx96001_0⟩:=Kd.at_int HR0.out x11_1 p96001 q96001
         cases e96001
         replace hx96001_0:=(HB.out.cell (Zc w _ hx96001_0)).trans hx96001_0
         replace p96001:=eq_true p96001
         replace q96001:=eq_true q96001
         go_wp2_with (first|((with_reducible refine ZH (f:=141) rfl ?_);refine ZW (some 17) rfl rfl Try.func141 (by kernel_rfl) rfl #[.int .i64 (rd l0 x11_1)] rfl (by(try simp only[List.map_toArray,List.map_cons,List.map_nil]);first|done|rfl|(simp only[Zk,Zj];rfl)) ?_;(with_reducible refine(Zam.calls (rd l0 x11_1) t96002 _ A6.out).mono ?_);rintro e w' ⟨rfl,⟨nd,rfl⟩⟩;refine⟨_,rfl,?_⟩;have p96003:0≤((ji7):Int):=Zd (by first|(with_reducible assumption)|assumption);have q96003:(ji7)<(l1.length:Int):=Zd (by first|(with_reducible assumption)|assumption);obtain⟨ad96003,e96003,hx96003_0⟩:=Kd.at_int HR1.out (ji7) p96003 q96003;cases e96003;replace hx96003_0:=(HB.out.cell (Zc w _ hx96003_0)).trans hx96003_0;replace p96003:=eq_true p96003;replace q96003:=eq_true q96003))
         go_roundg k1
         case measure=>have:=HK1.out;omega
         case rel=>exact⟨(ji12),(wrap64 (x11_1+1)),(by first|rfl|(simp;done)|(simp only[← hji12] <;> (first|rfl|simp))|(simp[*];done)),(by first|rfl|(simp;done)|(simp[*];done)),H',⟨by have:=HK1.out;omega⟩,⟨by repeat(first|(with_reducible first|exact HB.out|apply Zp|apply Zn|apply Zr)|exact HB.out)⟩⟩
       ·rw[if_neg c9] at H
        exact absurd H (by simp)
      ·rw[if_neg c8] at H
       exact absurd H (by simp)
     ·rw[if_neg c5] at H
      exact absurd H (by simp)
    ·rw[if_neg c4] at H
     exact absurd H (by simp)
   ·rw[if_neg c3] at H
    have c3b0:decide (x11_1<(l0.length:Int))=false:=Zf c3
    clear c3
    obtain rfl:=Zg H
    go_wp2
    go_ret
    exact⟨by first|rfl|(simp[Zy,Zx] <;> rfl)|(simp[*,Zy,Zx] <;> rfl),by repeat(first|(with_reducible first|exact HB.out|apply Zp|apply Zn|apply Zr)|exact HB.out)⟩
def ZY.j0:Nat→Int→Int→Bool→List (S116)→List (S90)→Int→Int→List Int→List Int→Int→Int→Int→Int→Bool→Option (Bool)
 | 0,_,_,_,_,_,_,_,_,_,_,_,_,_,_=>none
 | k+1,x7,x8,x21,x145002000,x145002001,x145002002,x145003000,x145003001,x145003002,x145004000,x145004001,x145004002,x145004003,x145004004=>if x21=true then((ZT.f (wrap64 (x8 - x7)) x145004002 x145004003).bind fun t145006=>(some (!t145006))) else(if x145004004=true then(some false) else(if x7=(-1) then(if x8=(-1) then(some false) else(if 0≤x145004000 then(if x145004000<(x145002000.length:Int) then((ZQ.f k ((ZA x145002000 x145004000).f1) x145003002).bind fun t145008=>(if t145008=1 then(some (decide ((wrap64 (x8 - x145003000))<x145004002))) else(some false))) else(none)) else(none))) else(if 0≤x145004001 then(if x145004001<(x145002000.length:Int) then((ZQ.f k ((ZA x145002000 x145004001).f1) x145003002).bind fun t145010=>(if t145010=1 then(some (decide ((wrap64 (x145003000 - x7)) > x145004003))) else(some false))) else(none)) else(none))))
def ZY.f (k:Nat) (l0_0:List (S116)) (l0_1:List (S90)) (a0_2:Int) (a1_0:Int) (l1_1:List Int) (l1_2:List Int) (a2_0:Int) (a2_1:Int) (a2_2:Int) (a2_3:Int) (a2_4:Bool):Option (Bool):=if 0≤a2_0 then(if a2_0<(l1_1.length:Int) then(if 0≤a2_1 then(if a2_1<(l1_1.length:Int) then(if (rd l1_1 a2_0)=(-1) then(ZY.j0 k (rd l1_1 a2_0) (rd l1_1 a2_1) false l0_0 l0_1 a0_2 a1_0 l1_1 l1_2 a2_0 a2_1 a2_2 a2_3 a2_4) else(ZY.j0 k (rd l1_1 a2_0) (rd l1_1 a2_1) ((rd l1_1 a2_1) != (-1)) l0_0 l0_1 a0_2 a1_0 l1_1 l1_2 a2_0 a2_1 a2_2 a2_3 a2_4)) else(none)) else(none)) else(none)) else(none)
def ZY.T8:Bool×List (List Nat×List Nat):=(true,[([],[]),([0],[0]),([],[]),([2],[2]),([1,3],[1,3]),([4],[4]),([5],[5]),([],[]),([7],[7]),([6,8],[6,8]),([9],[9]),([10,9],[10]),([11],[11]),([12,11],[11,12]),([11],[11]),([13,14,11],[11,13,14]),([11],[11]),([16,11],[11,16]),([15,17,11],[11,15,17]),([11,18],[11,18]),([19,11,0,1,2,3,4,5,6,7,8,9,10,11,12,13,14,15,16,17,18,19],[19])])
def ZY.B8:List Nat:=[0,1,0,4,15,31,63,0,128,511,1023,2047,4095,8191,4095,32767,4095,69631,262143,524287,1048575]
theorem ZY.tab8:rtab .any (opsOf Try.f145 8)=ZY.T8:=by kernel_rfl
theorem ZY.bits8:Zcg ZY.T8.2 ZY.B8=true:=by kernel_rfl
def ZY.T10:Bool×List (List Nat×List Nat):=(true,[([],[]),([0],[0]),([],[]),([2],[2]),([1,3],[1,3]),([4],[4]),([5],[5]),([],[]),([7],[7]),([6,8],[6,8]),([9],[9]),([10,9],[10]),([11],[11]),([11],[11]),([13,11],[11,13]),([12,14,11],[11,12,14]),([11],[11]),([16,11],[11,16]),([15,17,11],[11,15,17]),([11,18],[11,18]),([19,11,0,1,2,3,4,5,6,7,8,9,10,11,12,13,14,15,16,17,18,19],[19])])
def ZY.B10:List Nat:=[0,1,0,4,15,31,63,0,128,511,1023,2047,4095,4095,12287,32767,4095,69631,262143,524287,1048575]
theorem ZY.tab10:rtab .any (opsOf Try.f145 10)=ZY.T10:=by kernel_rfl
theorem ZY.bits10:Zcg ZY.T10.2 ZY.B10=true:=by kernel_rfl
set_option maxHeartbeats 8000000 in
set_option maxRecDepth 100000 in
theorem ZY.calls (k:Nat) (A0_0:Option Addr) (c0_0:Nat) (l0_0:List (S116)) (A0_1:Option Addr) (c0_1:Nat) (l0_1:List (S90)) (a0_2:Int) (a1_0:Int) (A1_1:Option Addr) (c1_1:Nat) (l1_1:List Int) (A1_2:Option Addr) (c1_2:Nat) (l1_2:List Int) (a2_0:Int) (a2_1:Int) (a2_2:Int) (a2_3:Int) (a2_4:Bool) (r:Bool) (w:World) (hr0_0:Kd.C k116 w A0_0 l0_0.length l0_0) (hc0_0:l0_0.length≤c0_0) (hr0_1:Kd.C k90 w A0_1 l0_1.length l0_1) (hc0_1:l0_1.length≤c0_1) (hr1_1:Kd.C (Kd.int .i64) w A1_1 l1_1.length l1_1) (hc1_1:l1_1.length≤c1_1) (hr1_2:Kd.C (Kd.int .i64) w A1_2 l1_2.length l1_2) (hc1_2:l1_2.length≤c1_2) (h:ZY.f k l0_0 l0_1 a0_2 a1_0 l1_1 l1_2 a2_0 a2_1 a2_2 a2_3 a2_4=some r) :
  Calls Try.prog 145 #[.agg #[.slice A0_0 l0_0.length c0_0,.slice A0_1 l0_1.length c0_1,.int .i64 a0_2],.agg #[.int .i64 a1_0,.slice A1_1 l1_1.length c1_1,.slice A1_2 l1_2.length c1_2],.agg #[.int .i64 a2_0,.int .i64 a2_1,.int .i64 a2_2,.int .i64 a2_3,.bool a2_4]] w fun e w'=>e=.returned (.bool r)∧Below w.heap.size w w':=by
 have hu35:=Try.underlying35
 have hu66:=Try.underlying66
 have hu90:=Try.underlying90
 have HR0_0:=Za hr0_0;have HC0_0:=Za hc0_0;clear hr0_0 hc0_0;have HR0_1:=Za hr0_1;have HC0_1:=Za hc0_1;clear hr0_1 hc0_1;have HR1_1:=Za hr1_1;have HC1_1:=Za hc1_1;clear hr1_1 hc1_1;have HR1_2:=Za hr1_2;have HC1_2:=Za hc1_2;clear hr1_2 hc1_2
 have HB:=Za (Below.refl w.heap.size w)
 have H:(if 0≤a2_0 then(if a2_0<(l1_1.length:Int) then(if 0≤a2_1 then(if a2_1<(l1_1.length:Int) then(if (rd l1_1 a2_0)=(-1) then(ZY.j0 k (rd l1_1 a2_0) (rd l1_1 a2_1) false l0_0 l0_1 a0_2 a1_0 l1_1 l1_2 a2_0 a2_1 a2_2 a2_3 a2_4) else(ZY.j0 k (rd l1_1 a2_0) (rd l1_1 a2_1) ((rd l1_1 a2_1) != (-1)) l0_0 l0_1 a0_2 a1_0 l1_1 l1_2 a2_0 a2_1 a2_2 a2_3 a2_4)) else(none)) else(none)) else(none)) else(none))=some r:=h
 clear h
 by_cases c4:0≤a2_0
 ·rw[if_pos c4] at H
  have c4b0:decide (0≤a2_0)=true:=Ze c4
  clear c4
  by_cases c5:a2_0<(l1_1.length:Int)
  ·rw[if_pos c5] at H
   have c5b0:decide (a2_0<(l1_1.length:Int))=true:=Ze c5
   clear c5
   by_cases c6:0≤a2_1
   ·rw[if_pos c6] at H
    have c6b0:decide (0≤a2_1)=true:=Ze c6
    clear c6
    by_cases c7:a2_1<(l1_1.length:Int)
    ·rw[if_pos c7] at H
     have c7b0:decide (a2_1<(l1_1.length:Int))=true:=Ze c7
     clear c7;have HC8:=Za H;clear H
     go_enter Try.func145,Try.ntmps145
     go_upto_region 3 with (first|((with_reducible refine ZG (N:=3) rfl ?_);refine ZE ?hg (N:=3) ?hd (cs:=#[.slice A0_0 l0_0.length c0_0,.slice A0_1 l0_1.length c0_1,.int .i64 a0_2]) (t:=35) ?hr ?_;(case hd=>rfl);(case hg=>rfl);(case hr=>first|(go_simp;done)|(go_simp;rfl));intro gb145001 hg w9 hbox hb;have n0_:=Za (Zv (by exact HB.out) hb);have n1_:=Za (hbox);have n2_:=Za ((by rw[hg];exact(Zz (by exact HB.out)):w.heap.size≤gb145001));have n3_:=n2_;clear HB;have HB:=n0_;have BK145001:=n1_;have GW145001:=n2_;have GE145001:=n3_;clear n0_ n1_ n2_ n3_;clear hb hbox hg)|((with_reducible refine ZG (N:=4) rfl ?_);refine ZE ?hg (N:=4) ?hd (cs:=#[.int .i64 a1_0,.slice A1_1 l1_1.length c1_1,.slice A1_2 l1_2.length c1_2]) (t:=66) ?hr ?_;(case hd=>rfl);(case hg=>rfl);(case hr=>first|(go_simp;done)|(go_simp;rfl));intro gb145002 hg w10 hbox hb;have n0_:=Za (Zw (g:=gb145001) (o:=.cells #[.slice A0_0 l0_0.length c0_0,.slice A0_1 l0_1.length c0_1,.int .i64 a0_2] 35 (0,0)) BK145001.out hb);have n1_:=Za (Zv (by exact HB.out) hb);have n2_:=Za (hbox);have n3_:=Za ((by rw[hg];exact(Zz (by exact HB.out)):w.heap.size≤gb145002));have n4_:=n3_;have n5_:=Za ((by rw[hg];exact Nat.ne_of_lt (ZK (g:=gb145001) (o:=.cells #[.slice A0_0 l0_0.length c0_0,.slice A0_1 l0_1.length c0_1,.int .i64 a0_2] 35 (0,0)) BK145001.out):gb145001≠gb145002));have n6_:=Za n5_.out.symm;clear BK145001;clear HB;have BK145001:=n0_;have HB:=n1_;have BK145002:=n2_;have GW145002:=n3_;have GE145002:=n4_;have NB145001_145002:=n5_;have NB145002_145001:=n6_;clear n0_ n1_ n2_ n3_ n4_ n5_ n6_;clear hb hbox hg)|((with_reducible refine ZG (N:=5) rfl ?_);refine ZE ?hg (N:=5) ?hd (cs:=#[.int .i64 a2_0,.int .i64 a2_1,.int .i64 a2_2,.int .i64 a2_3,.bool a2_4]) (t:=90) ?hr ?_;(case hd=>rfl);(case hg=>rfl);(case hr=>first|(go_simp;done)|(go_simp;rfl));intro gb145003 hg w11 hbox hb;have n0_:=Za (Zw (g:=gb145001) (o:=.cells #[.slice A0_0 l0_0.length c0_0,.slice A0_1 l0_1.length c0_1,.int .i64 a0_2] 35 (0,0)) BK145001.out hb);have n1_:=Za (Zw (g:=gb145002) (o:=.cells #[.int .i64 a1_0,.slice A1_1 l1_1.length c1_1,.slice A1_2 l1_2.length c1_2] 66 (0,0)) BK145002.out hb);have n2_:=Za (Zv (by exact HB.out) hb);have n3_:=Za (hbox);have n4_:=Za ((by rw[hg];exact(Zz (by exact HB.out)):w.heap.size≤gb145003));have n5_:=n4_;have n6_:=Za ((by rw[hg];exact Nat.ne_of_lt (ZK (g:=gb145001) (o:=.cells #[.slice A0_0 l0_0.length c0_0,.slice A0_1 l0_1.length c0_1,.int .i64 a0_2] 35 (0,0)) BK145001.out):gb145001≠gb145003));have n7_:=Za n6_.out.symm;have n8_:=Za ((by rw[hg];exact Nat.ne_of_lt (ZK (g:=gb145002) (o:=.cells #[.int .i64 a1_0,.slice A1_1 l1_1.length c1_1,.slice A1_2 l1_2.length c1_2] 66 (0,0)) BK145002.out):gb145002≠gb145003));have n9_:=Za n8_.out.symm;clear BK145001;clear BK145002;clear HB;have BK145001:=n0_;have BK145002:=n1_;have HB:=n2_;have BK145003:=n3_;have GW145003:=n4_;have GE145003:=n5_;have NB145001_145003:=n6_;have NB145003_145001:=n7_;have NB145002_145003:=n8_;have NB145003_145002:=n9_;clear n0_ n1_ n2_ n3_ n4_ n5_ n6_ n7_ n8_ n9_;clear hb hbox hg;have hnb12:=NB145002_145001.out;have hnc12:=NB145001_145002.out;have hnb13:=NB145002_145003.out;have hnc13:=NB145003_145002.out;have hcz14_0:w11.cell? ⟨gb145002,0,none⟩=some (.int .i64 a1_0):=(Zm BK145002.out 0).trans rfl;have hcz14_1:w11.cell? ⟨gb145002,1,none⟩=some (.slice A1_1 l1_1.length c1_1):=(Zm BK145002.out 1).trans rfl;have hcz14_2:w11.cell? ⟨gb145002,2,none⟩=some (.slice A1_2 l1_2.length c1_2):=(Zm BK145002.out 2).trans rfl;have hnb15:=NB145003_145001.out;have hnc15:=NB145001_145003.out;have hcz16_0:w11.cell? ⟨gb145003,0,none⟩=some (.int .i64 a2_0):=(Zm BK145003.out 0).trans rfl;have hcz16_1:w11.cell? ⟨gb145003,1,none⟩=some (.int .i64 a2_1):=(Zm BK145003.out 1).trans rfl;have hcz16_2:w11.cell? ⟨gb145003,2,none⟩=some (.int .i64 a2_2):=(Zm BK145003.out 2).trans rfl;have hcz16_3:w11.cell? ⟨gb145003,3,none⟩=some (.int .i64 a2_3):=(Zm BK145003.out 3).trans rfl;have hcz16_4:w11.cell? ⟨gb145003,4,none⟩=some (.bool a2_4):=(Zm BK145003.out 4).trans rfl;have p145004:0≤(a2_0:Int):=Zd (by with_reducible assumption);have q145004:a2_0<(l1_1.length:Int):=Zd (by with_reducible assumption);obtain⟨ad145004,e145004,hx145004_0⟩:=Kd.at_int HR1_1.out a2_0 p145004 q145004;cases e145004;replace hx145004_0:=(HB.out.cell (Zc w _ hx145004_0)).trans hx145004_0;replace p145004:=eq_true p145004;replace q145004:=eq_true q145004;have p145005:0≤(a2_1:Int):=Zd (by with_reducible assumption);have q145005:a2_1<(l1_1.length:Int):=Zd (by with_reducible assumption);obtain⟨ad145005,e145005,hx145005_0⟩:=Kd.at_int HR1_1.out a2_1 p145005 q145005;obtain rfl:ad145004=ad145005:=(by injection e145005);replace hx145005_0:=(HB.out.cell (Zc w _ hx145005_0)).trans hx145005_0;replace p145005:=eq_true p145005;replace q145005:=eq_true q145005))
     (try simp only[Act.put,List.setIfInBounds_toArray,List.set_cons_zero,List.set_cons_succ])
     go_cut [21] (fun v21 wc=>∃(kq:Nat) (x21_7:Bool),v21=.bool x21_7∧Aside0 (ZY.j0 kq (rd l1_1 a2_0) (rd l1_1 a2_1) x21_7 l0_0 l0_1 a0_2 a1_0 l1_1 l1_2 a2_0 a2_1 a2_2 a2_3 a2_4=some r)∧Aside0 (kq≤k)∧Aside0 (wc.heap[gb145001]? = some (.cells #[(.slice A0_0 l0_0.length c0_0),(.slice A0_1 l0_1.length c0_1),.int .i64 a0_2] 35 (0,0)))∧Aside0 (wc.heap[gb145002]? = some (.cells #[.int .i64 a1_0,(.slice (some ad145004) l1_1.length c1_1),(.slice A1_2 l1_2.length c1_2)] 66 (0,0)))∧Aside0 (wc.heap[gb145003]? = some (.cells #[.int .i64 a2_0,.int .i64 a2_1,.int .i64 a2_2,.int .i64 a2_3,.bool a2_4] 90 (0,0)))∧Aside0 (Below w.heap.size w wc))
     case first=>
      have H:=HC8.out
      clear HC8
      by_cases c17:(rd l1_1 a2_0)=(-1)
      ·rw[if_pos c17] at H
       have c17b0:((rd l1_1 a2_0) == (-1))=true:=beq_iff_eq.mpr c17
       have c17b1:((rd l1_1 a2_0) != (-1))=false:=bne_eq_false_iff_eq.mpr c17
       clear c17
       (first|rw[c17b0]|(simp only[ZL,ZM];rw[c17b0])|skip)
       have H':=Za H
       clear H
       go_wp2
       go_meet
       case rel=>exact⟨_,(false),(by first|rfl|(simp;done)|(simp[*];done)),H',⟨by first|omega|exact Nat.le_refl _⟩,⟨by(with_reducible repeat(first|refine Zs ?_ _|refine Zu ?_|refine Zt ?_ _));exact BK145001.out⟩,⟨by(with_reducible repeat(first|refine Zs ?_ _|refine Zu ?_|refine Zt ?_ _));exact BK145002.out⟩,⟨by(with_reducible repeat(first|refine Zs ?_ _|refine Zu ?_|refine Zt ?_ _));exact BK145003.out⟩,⟨by repeat(first|(with_reducible first|exact HB.out|apply Zp|apply Zn|apply Zr|refine Zq ?_ GE145001.out|refine Zq ?_ GE145002.out|refine Zq ?_ GE145003.out)|exact HB.out)⟩⟩
      ·rw[if_neg c17] at H
       have c17b0:((rd l1_1 a2_0) == (-1))=false:=beq_eq_false_iff_ne.mpr c17
       have c17b1:((rd l1_1 a2_0) != (-1))=true:=bne_iff_ne.mpr c17
       (first|rw[c17b0]|(simp only[ZL,ZM];rw[c17b0])|skip)
       have H':=Za H
       clear H
       go_wp2
       go_meet
       case rel=>exact⟨_,(((rd l1_1 a2_1) != (-1))),(by first|rfl|(simp;done)|(simp[*];done)),H',⟨by first|omega|exact Nat.le_refl _⟩,⟨by(with_reducible repeat(first|refine Zs ?_ _|refine Zu ?_|refine Zt ?_ _));exact BK145001.out⟩,⟨by(with_reducible repeat(first|refine Zs ?_ _|refine Zu ?_|refine Zt ?_ _));exact BK145002.out⟩,⟨by(with_reducible repeat(first|refine Zs ?_ _|refine Zu ?_|refine Zt ?_ _));exact BK145003.out⟩,⟨by repeat(first|(with_reducible first|exact HB.out|apply Zp|apply Zn|apply Zr|refine Zq ?_ GE145001.out|refine Zq ?_ GE145002.out|refine Zq ?_ GE145003.out)|exact HB.out)⟩⟩
     case rest=>
      clear HC8
      try clear c1
      try clear p1
      try clear q1
      try clear p2
      try clear c4
      try clear c4b0
      try clear c5
      try clear c5b0
      try clear c6
      try clear c6b0
      try clear c7
      try clear c7b0
      try clear c12
      try clear c13
      try clear c14
      try clear p14
      try clear q14
      try clear c15
      try clear c17
      try clear c17b0
      try clear c17b1
      try clear p145004
      try clear p145005
      try clear q145004
      try clear q145005
      obtain⟨kq,x21_7,rfl,HA,HJ7,BK145001,BK145002,BK145003,HB⟩:=hcut
      cases kq with
      | zero=>exact absurd HA.out (by simp[ZY.j0])
      | succ kj7=>
       have H:=HA.out
       clear HA
       simp only[ZY.j0] at H
       by_cases c18:x21_7=true
       ·subst c18
        have H1:((ZT.f (wrap64 ((rd l1_1 a2_1) - (rd l1_1 a2_0))) a2_2 a2_3).bind fun t145006=>(some (!t145006)))=some r:=by rw[if_pos rfl] at H;exact H
        clear H
        have H:=H1
        clear H1
        replace H:=Zh H
        obtain⟨t145006,A190,H⟩:=H
        replace H:(some (!t145006))=some r:=H
        have A19:=Za A190;clear A190
        obtain rfl:=Zg H
        have hnb20:=NB145003_145001.out
        have hnc20:=NB145001_145003.out
        have hnb21:=NB145003_145002.out
        have hnc21:=NB145002_145003.out
        have hcz22_0:wc.cell? ⟨gb145003,0,none⟩=some (.int .i64 a2_0):=(Zm BK145003.out 0).trans rfl
        have hcz22_1:wc.cell? ⟨gb145003,1,none⟩=some (.int .i64 a2_1):=(Zm BK145003.out 1).trans rfl
        have hcz22_2:wc.cell? ⟨gb145003,2,none⟩=some (.int .i64 a2_2):=(Zm BK145003.out 2).trans rfl
        have hcz22_3:wc.cell? ⟨gb145003,3,none⟩=some (.int .i64 a2_3):=(Zm BK145003.out 3).trans rfl
        have hcz22_4:wc.cell? ⟨gb145003,4,none⟩=some (.bool a2_4):=(Zm BK145003.out 4).trans rfl
        go_wp2_with (first|((with_reducible refine ZH (f:=68) rfl ?_);refine ZW (some 35) rfl rfl Try.func68 (by kernel_rfl) rfl #[.int .i64 (wrap64 ((rd l1_1 a2_1) - (rd l1_1 a2_0))),.int .i64 a2_2,.int .i64 a2_3] rfl (by(try simp only[List.map_toArray,List.map_cons,List.map_nil]);first|done|rfl|(simp only[Zk,Zj];rfl)) ?_;(with_reducible refine(ZT.calls (wrap64 ((rd l1_1 a2_1) - (rd l1_1 a2_0))) a2_2 a2_3 t145006 _ A19.out).mono ?_);rintro e w' ⟨rfl,⟨nd,rfl⟩⟩;refine⟨_,rfl,?_⟩))
        go_ret
        exact⟨by first|rfl|(simp[Zy,Zx] <;> rfl)|(simp[*,Zy,Zx] <;> rfl),by repeat(first|(with_reducible first|exact HB.out|apply Zp|apply Zn|apply Zr|refine Zq ?_ GE145001.out|refine Zq ?_ GE145002.out|refine Zq ?_ GE145003.out)|exact HB.out)⟩
       ·replace c18:=Bool.eq_false_iff.mpr c18
        subst c18
        have H1:(if a2_4=true then(some false) else(if (rd l1_1 a2_0)=(-1) then(if (rd l1_1 a2_1)=(-1) then(some false) else(if 0≤a2_0 then(if a2_0<(l0_0.length:Int) then((ZQ.f kj7 ((ZA l0_0 a2_0).f1) l1_2).bind fun t145008=>(if t145008=1 then(some (decide ((wrap64 ((rd l1_1 a2_1) - a1_0))<a2_2))) else(some false))) else(none)) else(none))) else(if 0≤a2_1 then(if a2_1<(l0_0.length:Int) then((ZQ.f kj7 ((ZA l0_0 a2_1).f1) l1_2).bind fun t145010=>(if t145010=1 then(some (decide ((wrap64 (a1_0 - (rd l1_1 a2_0))) > a2_3))) else(some false))) else(none)) else(none))))=some r:=by rw[if_neg (show ¬(false=true) by decide)] at H;exact H
        clear H
        have H:=H1
        clear H1
        by_cases c23:a2_4=true
        ·subst c23
         have H1:(some false)=some r:=by rw[if_pos rfl] at H;exact H
         clear H
         have H:=H1
         clear H1
         obtain rfl:=Zg H
         have hnb24:=NB145003_145001.out
         have hnc24:=NB145001_145003.out
         have hnb25:=NB145003_145002.out
         have hnc25:=NB145002_145003.out
         have hcz26_0:wc.cell? ⟨gb145003,0,none⟩=some (.int .i64 a2_0):=(Zm BK145003.out 0).trans rfl
         have hcz26_1:wc.cell? ⟨gb145003,1,none⟩=some (.int .i64 a2_1):=(Zm BK145003.out 1).trans rfl
         have hcz26_2:wc.cell? ⟨gb145003,2,none⟩=some (.int .i64 a2_2):=(Zm BK145003.out 2).trans rfl
         have hcz26_3:wc.cell? ⟨gb145003,3,none⟩=some (.int .i64 a2_3):=(Zm BK145003.out 3).trans rfl
         have hcz26_4:wc.cell? ⟨gb145003,4,none⟩=some (.bool true):=(Zm BK145003.out 4).trans rfl
         go_wp2
         go_ret
         exact⟨by first|rfl|(simp[Zy,Zx] <;> rfl)|(simp[*,Zy,Zx] <;> rfl),by repeat(first|(with_reducible first|exact HB.out|apply Zp|apply Zn|apply Zr|refine Zq ?_ GE145001.out|refine Zq ?_ GE145002.out|refine Zq ?_ GE145003.out)|exact HB.out)⟩
        ·replace c23:=Bool.eq_false_iff.mpr c23
         subst c23
         have H1:(if (rd l1_1 a2_0)=(-1) then(if (rd l1_1 a2_1)=(-1) then(some false) else(if 0≤a2_0 then(if a2_0<(l0_0.length:Int) then((ZQ.f kj7 ((ZA l0_0 a2_0).f1) l1_2).bind fun t145008=>(if t145008=1 then(some (decide ((wrap64 ((rd l1_1 a2_1) - a1_0))<a2_2))) else(some false))) else(none)) else(none))) else(if 0≤a2_1 then(if a2_1<(l0_0.length:Int) then((ZQ.f kj7 ((ZA l0_0 a2_1).f1) l1_2).bind fun t145010=>(if t145010=1 then(some (decide ((wrap64 (a1_0 - (rd l1_1 a2_0))) > a2_3))) else(some false))) else(none)) else(none)))=some r:=by rw[if_neg (show ¬(false=true) by decide)] at H;exact H
         clear H
         have H:=H1
         clear H1
         by_cases c27:(rd l1_1 a2_0)=(-1)
         ·rw[if_pos c27] at H
          have c27b0:((rd l1_1 a2_0) == (-1))=true:=beq_iff_eq.mpr c27
          have c27b1:((rd l1_1 a2_0) != (-1))=false:=bne_eq_false_iff_eq.mpr c27
          clear c27
          by_cases c28:(rd l1_1 a2_1)=(-1)
          ·rw[if_pos c28] at H
           have c28b0:((rd l1_1 a2_1) == (-1))=true:=beq_iff_eq.mpr c28
           have c28b1:((rd l1_1 a2_1) != (-1))=false:=bne_eq_false_iff_eq.mpr c28
           clear c28
           obtain rfl:=Zg H
           have hnb29:=NB145003_145001.out
           have hnc29:=NB145001_145003.out
           have hnb30:=NB145003_145002.out
           have hnc30:=NB145002_145003.out
           have hcz31_0:wc.cell? ⟨gb145003,0,none⟩=some (.int .i64 a2_0):=(Zm BK145003.out 0).trans rfl
           have hcz31_1:wc.cell? ⟨gb145003,1,none⟩=some (.int .i64 a2_1):=(Zm BK145003.out 1).trans rfl
           have hcz31_2:wc.cell? ⟨gb145003,2,none⟩=some (.int .i64 a2_2):=(Zm BK145003.out 2).trans rfl
           have hcz31_3:wc.cell? ⟨gb145003,3,none⟩=some (.int .i64 a2_3):=(Zm BK145003.out 3).trans rfl
           have hcz31_4:wc.cell? ⟨gb145003,4,none⟩=some (.bool false):=(Zm BK145003.out 4).trans rfl
           go_wp2
           go_ret
           exact⟨by first|rfl|(simp[Zy,Zx] <;> rfl)|(simp[*,Zy,Zx] <;> rfl),by repeat(first|(with_reducible first|exact HB.out|apply Zp|apply Zn|apply Zr|refine Zq ?_ GE145001.out|refine Zq ?_ GE145002.out|refine Zq ?_ GE145003.out)|exact HB.out)⟩
          ·rw[if_neg c28] at H
           have c28b0:((rd l1_1 a2_1) == (-1))=false:=beq_eq_false_iff_ne.mpr c28
           have c28b1:((rd l1_1 a2_1) != (-1))=true:=bne_iff_ne.mpr c28
           by_cases c32:0≤a2_0
           ·rw[if_pos c32] at H
            have c32b0:decide (0≤a2_0)=true:=Ze c32
            clear c32
            by_cases c33:a2_0<(l0_0.length:Int)
            ·rw[if_pos c33] at H
             have c33b0:decide (a2_0<(l0_0.length:Int))=true:=Ze c33
             clear c33
             replace H:=Zh H
             obtain⟨t145008,A340,H⟩:=H
             replace H:(if t145008=1 then(some (decide ((wrap64 ((rd l1_1 a2_1) - a1_0))<a2_2))) else(some false))=some r:=H
             have A34:=Za A340;clear A340
             by_cases c35:t145008=1
             ·rw[if_pos c35] at H
              have c35b0:(t145008 == 1)=true:=beq_iff_eq.mpr c35
              have c35b1:(t145008 != 1)=false:=bne_eq_false_iff_eq.mpr c35
              clear c35
              obtain rfl:=Zg H
              have hnb36:=NB145003_145001.out
              have hnc36:=NB145001_145003.out
              have hnb37:=NB145003_145002.out
              have hnc37:=NB145002_145003.out
              have hcz38_0:wc.cell? ⟨gb145003,0,none⟩=some (.int .i64 a2_0):=(Zm BK145003.out 0).trans rfl
              have hcz38_1:wc.cell? ⟨gb145003,1,none⟩=some (.int .i64 a2_1):=(Zm BK145003.out 1).trans rfl
              have hcz38_2:wc.cell? ⟨gb145003,2,none⟩=some (.int .i64 a2_2):=(Zm BK145003.out 2).trans rfl
              have hcz38_3:wc.cell? ⟨gb145003,3,none⟩=some (.int .i64 a2_3):=(Zm BK145003.out 3).trans rfl
              have hcz38_4:wc.cell? ⟨gb145003,4,none⟩=some (.bool false):=(Zm BK145003.out 4).trans rfl
              try go_wp2
              have n0_:=Za (Zu BK145001.out)
              have n1_:=Za (Zu BK145002.out)
              have n2_:=Za (Zu BK145003.out)
              have n3_:=Za (Zr HB.out)
              clear BK145001 BK145002 BK145003 HB;have BK145001:=n0_;have BK145002:=n1_;have BK145003:=n2_;have HB:=n3_;clear n0_ n1_ n2_ n3_
              have p145007:0≤(a2_0:Int):=Zd (by with_reducible assumption)
              have q145007:a2_0<(l0_0.length:Int):=Zd (by with_reducible assumption)
              obtain⟨ad145007,A145007_1,c145007_1,e145007,hx145007_0,hx145007_1,hx145007_2,hl145007_1,hi145007_1⟩:=Zak HR0_0.out a2_0 p145007 q145007
              have hw145007_2:=hx145007_2
              have hw145007_1:=hx145007_1
              have hw145007_0:=hx145007_0
              cases e145007
              replace hx145007_0:=(HB.out.cell (Zc w _ hx145007_0)).trans hx145007_0
              replace hx145007_1:=(HB.out.cell (Zc w _ hx145007_1)).trans hx145007_1
              replace hx145007_2:=(HB.out.cell (Zc w _ hx145007_2)).trans hx145007_2
              have HR145007_1:=Za hi145007_1;have HC145007_1:=Za hl145007_1;clear hi145007_1 hl145007_1
              replace p145007:=eq_true p145007
              replace q145007:=eq_true q145007
              refine Zb7 (n:=21) (S:=fun w'=>w'.cell? ⟨gb145001,0,none⟩=some (.slice (some ad145007) l0_0.length c0_0)∧w'.cell? ⟨gb145001,1,none⟩=some (.slice A0_1 l0_1.length c0_1)∧w'.cell? ⟨gb145001,2,none⟩=some (.int .i64 a0_2)∧w'.cell? ⟨gb145003,0,none⟩=some (.int .i64 a2_0)∧w'.cell? ⟨gb145003,1,none⟩=some (.int .i64 a2_1)∧w'.cell? ⟨gb145003,2,none⟩=some (.int .i64 a2_2)∧w'.cell? ⟨gb145003,3,none⟩=some (.int .i64 a2_3)∧w'.cell? ⟨gb145003,4,none⟩=some (.bool false)∧w'.cell? ⟨gb145002,0,none⟩=some (.int .i64 a1_0)∧w'.cell? ⟨gb145002,1,none⟩=some (.slice (some ad145004) l1_1.length c1_1)∧w'.cell? ⟨gb145002,2,none⟩=some (.slice A1_2 l1_2.length c1_2)∧w'.cell? (ad145007.add ((a2_0).toNat * 3))=some (.string ((ZA l0_0 a2_0).f0))∧w'.cell? ⟨(ad145007.add ((a2_0).toNat * 3)).block,(ad145007.add ((a2_0).toNat * 3)).off+1,none⟩=some (.slice A145007_1 ((ZA l0_0 a2_0).f1).length c145007_1)∧w'.cell? ⟨(ad145007.add ((a2_0).toNat * 3)).block,(ad145007.add ((a2_0).toNat * 3)).off+2,none⟩=some (.int .i64 ((ZA l0_0 a2_0).f2))) (ds:=[]) #[false,false,false,false,false,false,false,false,false,false,false,false,false,false,false,false,false,false,false,false,false] (by kernel_rfl) rfl rfl ⟨(Zm BK145001.out 0).trans rfl,(Zm BK145001.out 1).trans rfl,(Zm BK145001.out 2).trans rfl,(Zm BK145003.out 0).trans rfl,(Zm BK145003.out 1).trans rfl,(Zm BK145003.out 2).trans rfl,(Zm BK145003.out 3).trans rfl,(Zm BK145003.out 4).trans rfl,(Zm BK145002.out 0).trans rfl,(Zm BK145002.out 1).trans rfl,(Zm BK145002.out 2).trans rfl,((HB.out.cell (Zc w _ hw145007_0)).trans hw145007_0),((HB.out.cell (Zc w _ hw145007_1)).trans hw145007_1),((HB.out.cell (Zc w _ hw145007_2)).trans hw145007_2)⟩ (fun hHeld=>?_);refine Zcf ZY.tab10 ZY.bits10 (fun HT_ HW_=>?_)
              generalize wc.drew=w39 at BK145001 BK145002 BK145003 HB HR145007_1 hx145007_0 hx145007_1 hx145007_2 hHeld ⊢
              refine Z2 (i:=0) (N:=some 66) (v:=?_) (a':=?_) #[true,false,false,false,false,false,false,false,false,false,false,false,false,false,false,false,false,false,false,false,false] rfl rfl (Z0 HT_.out (by kernel_rfl)) (fun _ _ _ h=>h) (Or.inl ⟨by rfl,?_⟩) ?_ ?_
              rotate_left
              ·intro w'
               go_simp
               with_reducible rfl
              rotate_left
              ·simp only[Act.put,List.setIfInBounds_toArray,List.set_cons_zero,List.set_cons_succ,ZL,ZM]
               rfl
              refine Z2 (i:=2) (N:=some 68) (v:=?_) (a':=?_) #[true,false,true,false,false,false,false,false,false,false,false,false,false,false,false,false,false,false,false,false,false] rfl rfl (Z0 HT_.out (by kernel_rfl)) (fun _ _ _ h=>h) (Or.inl ⟨by rfl,?_⟩) ?_ ?_
              rotate_left
              ·intro w'
               go_simp
               with_reducible rfl
              rotate_left
              ·simp only[Act.put,List.setIfInBounds_toArray,List.set_cons_zero,List.set_cons_succ,ZL,ZM]
               rfl
              refine Z2 (i:=7) (N:=some 73) (v:=?_) (a':=?_) #[true,false,true,false,false,false,false,true,false,false,false,false,false,false,false,false,false,false,false,false,false] rfl rfl (Z0 HT_.out (by kernel_rfl)) (fun _ _ _ h=>h) (Or.inl ⟨by rfl,?_⟩) ?_ ?_
              rotate_left
              ·intro w'
               go_simp
               with_reducible rfl
              rotate_left
              ·simp only[Act.put,List.setIfInBounds_toArray,List.set_cons_zero,List.set_cons_succ,ZL,ZM]
               rfl
              refine take_ (i:=1) (N:=some 67) (v:=?_) (a':=?_) #[true,true,true,false,false,false,false,true,false,false,false,false,false,false,false,false,false,false,false,false,false] rfl rfl (ZaF HT_.out HW_.out (by kernel_rfl)) (fun _ _ _ h=>h) (Or.inl ⟨by rfl,?_⟩) hHeld ?_ ?_
              rotate_left
              ·rintro w' ⟨s0,s1,s2,s3,s4,s5,s6,s7,s8,s9,s10,s11,s12,s13⟩
               go_simp
               with_reducible rfl
              rotate_left
              ·simp only[Act.put,List.setIfInBounds_toArray,List.set_cons_zero,List.set_cons_succ,ZL,ZM]
               rfl
              refine take_ (i:=3) (N:=some 69) (v:=?_) (a':=?_) #[true,true,true,true,false,false,false,true,false,false,false,false,false,false,false,false,false,false,false,false,false] rfl rfl (ZaF HT_.out HW_.out (by kernel_rfl)) (fun _ _ _ h=>h) (Or.inl ⟨by rfl,?_⟩) hHeld ?_ ?_
              rotate_left
              ·rintro w' ⟨s0,s1,s2,s3,s4,s5,s6,s7,s8,s9,s10,s11,s12,s13⟩
               go_simp
               with_reducible rfl
              rotate_left
              ·simp only[Act.put,List.setIfInBounds_toArray,List.set_cons_zero,List.set_cons_succ,ZL,ZM]
               rfl
              refine Z2 (i:=4) (N:=some 70) (v:=?_) (a':=?_) #[true,true,true,true,true,false,false,true,false,false,false,false,false,false,false,false,false,false,false,false,false] rfl rfl (Z0 HT_.out (by kernel_rfl)) (fun _ _ _ h=>h) (Or.inl ⟨by rfl,?_⟩) ?_ ?_
              rotate_left
              ·intro w'
               go_simp
               with_reducible rfl
              rotate_left
              ·simp only[Act.put,List.setIfInBounds_toArray,List.set_cons_zero,List.set_cons_succ,ZL,ZM]
               rfl
              refine Z2 (i:=5) (N:=some 71) (v:=?_) (a':=?_) #[true,true,true,true,true,true,false,true,false,false,false,false,false,false,false,false,false,false,false,false,false] rfl rfl (Z0 HT_.out (by kernel_rfl)) (fun _ _ _ h=>h) (Or.inl ⟨by rfl,?_⟩) ?_ ?_
              rotate_left
              ·intro w'
               go_simp
               with_reducible rfl
              rotate_left
              ·simp only[Act.put,List.setIfInBounds_toArray,List.set_cons_zero,List.set_cons_succ,ZL,ZM]
               rfl
              refine take_ (i:=6) (N:=some 72) (v:=?_) (a':=?_) #[true,true,true,true,true,true,true,true,false,false,false,false,false,false,false,false,false,false,false,false,false] rfl rfl (ZaF HT_.out HW_.out (by kernel_rfl)) (fun _ _ _ h=>h) (Or.inl ⟨by rfl,?_⟩) hHeld ?_ ?_
              rotate_left
              ·rintro w' ⟨s0,s1,s2,s3,s4,s5,s6,s7,s8,s9,s10,s11,s12,s13⟩
               go_simp
               with_reducible rfl
              rotate_left
              ·simp only[Act.put,List.setIfInBounds_toArray,List.set_cons_zero,List.set_cons_succ,ZL,ZM]
               rfl
              refine take_ (i:=8) (N:=some 74) (v:=?_) (a':=?_) #[true,true,true,true,true,true,true,true,true,false,false,false,false,false,false,false,false,false,false,false,false] rfl rfl (ZaF HT_.out HW_.out (by kernel_rfl)) (fun _ _ _ h=>h) (Or.inl ⟨by rfl,?_⟩) hHeld ?_ ?_
              rotate_left
              ·rintro w' ⟨s0,s1,s2,s3,s4,s5,s6,s7,s8,s9,s10,s11,s12,s13⟩
               go_simp
               with_reducible rfl
              rotate_left
              ·simp only[Act.put,List.setIfInBounds_toArray,List.set_cons_zero,List.set_cons_succ,ZL,ZM]
               rfl
              refine one_ (i:=9) (N:=some 75) #[true,true,true,true,true,true,true,true,true,true,false,false,false,false,false,false,false,false,false,false,false] rfl rfl (Zc7 HT_.out (by kernel_rfl)) (by decide) (fun K hK=>?_)
              refine Zb1 Try.func96 (by kernel_rfl) rfl #[.slice A145007_1 ((ZA l0_0 a2_0).f1).length c145007_1,.slice A1_2 l1_2.length c1_2] (by rfl) rfl rfl (by(try simp only[List.map_toArray,List.map_cons,List.map_nil]);first|done|rfl|(simp only[Zk,Zj];rfl)) ?_
              with_reducible refine(ZQ.calls kj7 _ _ ((ZA l0_0 a2_0).f1) _ _ l1_2 t145008 _ ?side1 ?side2 ?side3 ?side4 A34.out).mono ?_
              (case side1=>exact(Zb HR145007_1.out HB.out))
              (case side2=>exact HC145007_1.out)
              (case side3=>exact(Zb HR1_2.out HB.out))
              (case side4=>exact HC1_2.out)
              rintro e w40 ⟨rfl,hb⟩
              refine⟨_,rfl,?_⟩
              have n0_:=Za (Zw (g:=gb145001) (o:=.cells #[.slice (some ad145007) l0_0.length c0_0,.slice A0_1 l0_1.length c0_1,.int .i64 a0_2] 35 (0,0)) BK145001.out hb)
              have n1_:=Za (Zw (g:=gb145002) (o:=.cells #[.int .i64 a1_0,.slice (some ad145004) l1_1.length c1_1,.slice A1_2 l1_2.length c1_2] 66 (0,0)) BK145002.out hb)
              have n2_:=Za (Zw (g:=gb145003) (o:=.cells #[.int .i64 a2_0,.int .i64 a2_1,.int .i64 a2_2,.int .i64 a2_3,.bool false] 90 (0,0)) BK145003.out hb)
              have n3_:=Za (Zv (by exact HB.out) hb)
              clear BK145001 BK145002 BK145003 HB;have BK145001:=n0_;have BK145002:=n1_;have BK145003:=n2_;have HB:=n3_;clear n0_ n1_ n2_ n3_
              (try clear hb)
              (try clear hb2)
              (try clear hk)
              (try clear hi)
              refine hK.out _ _ ⟨(Zm BK145001.out 0).trans rfl,(Zm BK145001.out 1).trans rfl,(Zm BK145001.out 2).trans rfl,(Zm BK145003.out 0).trans rfl,(Zm BK145003.out 1).trans rfl,(Zm BK145003.out 2).trans rfl,(Zm BK145003.out 3).trans rfl,(Zm BK145003.out 4).trans rfl,(Zm BK145002.out 0).trans rfl,(Zm BK145002.out 1).trans rfl,(Zm BK145002.out 2).trans rfl,((HB.out.cell (Zc w _ hw145007_0)).trans hw145007_0),((HB.out.cell (Zc w _ hw145007_1)).trans hw145007_1),((HB.out.cell (Zc w _ hw145007_2)).trans hw145007_2)⟩ (fun hHeld=>?_)
              clear hK K
              refine ZbX (a':=?_) ?_ ?_
              rotate_left
              ·show Act.put _ (some 75) _=_
               simp only[Act.put,List.setIfInBounds_toArray,List.set_cons_zero,List.set_cons_succ,ZL,ZM]
               rfl
              refine Z2 (i:=10) (N:=some 76) (v:=?_) (a':=?_) #[true,true,true,true,true,true,true,true,true,true,true,false,false,false,false,false,false,false,false,false,false] rfl rfl (Z0 HT_.out (by kernel_rfl)) (fun _ _ _ h=>h) (Or.inl ⟨by rfl,?_⟩) ?_ ?_
              rotate_left
              ·intro w'
               go_simp
               with_reducible rfl
              rotate_left
              ·simp only[Act.put,List.setIfInBounds_toArray,List.set_cons_zero,List.set_cons_succ,ZL,ZM]
               rfl
              refine Z2 (i:=11) (N:=some 77) (v:=?_) (a':=?_) #[true,true,true,true,true,true,true,true,true,true,true,true,false,false,false,false,false,false,false,false,false] rfl rfl (Z0 HT_.out (by kernel_rfl)) (fun _ _ _ h=>h) (Or.inl ⟨by rfl,?_⟩) ?_ ?_
              rotate_left
              ·intro w'
               go_simp
               with_reducible rfl
              rotate_left
              ·simp only[Act.put,List.setIfInBounds_toArray,List.set_cons_zero,List.set_cons_succ,ZL,ZM]
               rfl
              refine Z2 (i:=12) (N:=some 78) (v:=?_) (a':=?_) #[true,true,true,true,true,true,true,true,true,true,true,true,true,false,false,false,false,false,false,false,false] rfl rfl (Z0 HT_.out (by kernel_rfl)) (fun _ _ _ h=>h) (Or.inl ⟨by rfl,?_⟩) ?_ ?_
              rotate_left
              ·intro w'
               go_simp
               with_reducible rfl
              rotate_left
              ·simp only[Act.put,List.setIfInBounds_toArray,List.set_cons_zero,List.set_cons_succ,ZL,ZM]
               rfl
              refine Z2 (i:=13) (N:=some 79) (v:=?_) (a':=?_) #[true,true,true,true,true,true,true,true,true,true,true,true,true,true,false,false,false,false,false,false,false] rfl rfl (Z0 HT_.out (by kernel_rfl)) (fun _ _ _ h=>h) (Or.inl ⟨by rfl,?_⟩) ?_ ?_
              rotate_left
              ·intro w'
               go_simp
               with_reducible rfl
              rotate_left
              ·simp only[Act.put,List.setIfInBounds_toArray,List.set_cons_zero,List.set_cons_succ,ZL,ZM]
               rfl
              refine Z2 (i:=16) (N:=some 82) (v:=?_) (a':=?_) #[true,true,true,true,true,true,true,true,true,true,true,true,true,true,false,false,true,false,false,false,false] rfl rfl (Z0 HT_.out (by kernel_rfl)) (fun _ _ _ h=>h) (Or.inl ⟨by rfl,?_⟩) ?_ ?_
              rotate_left
              ·intro w'
               go_simp
               with_reducible rfl
              rotate_left
              ·simp only[Act.put,List.setIfInBounds_toArray,List.set_cons_zero,List.set_cons_succ,ZL,ZM]
               rfl
              refine take_ (i:=14) (N:=some 80) (v:=?_) (a':=?_) #[true,true,true,true,true,true,true,true,true,true,true,true,true,true,true,false,true,false,false,false,false] rfl rfl (ZaF HT_.out HW_.out (by kernel_rfl)) (fun _ _ _ h=>h) (Or.inl ⟨by rfl,?_⟩) hHeld ?_ ?_
              rotate_left
              ·rintro w' ⟨s0,s1,s2,s3,s4,s5,s6,s7,s8,s9,s10,s11,s12,s13⟩
               go_simp
               with_reducible rfl
              rotate_left
              ·simp only[Act.put,List.setIfInBounds_toArray,List.set_cons_zero,List.set_cons_succ,ZL,ZM]
               rfl
              refine Z2 (i:=15) (N:=some 81) (v:=?_) (a':=?_) #[true,true,true,true,true,true,true,true,true,true,true,true,true,true,true,true,true,false,false,false,false] rfl rfl (Z0 HT_.out (by kernel_rfl)) (fun _ _ _ h=>h) (Or.inl ⟨by rfl,?_⟩) ?_ ?_
              rotate_left
              ·intro w'
               go_simp
               with_reducible rfl
              rotate_left
              ·simp only[Act.put,List.setIfInBounds_toArray,List.set_cons_zero,List.set_cons_succ,ZL,ZM]
               rfl
              refine take_ (i:=17) (N:=some 83) (v:=?_) (a':=?_) #[true,true,true,true,true,true,true,true,true,true,true,true,true,true,true,true,true,true,false,false,false] rfl rfl (ZaF HT_.out HW_.out (by kernel_rfl)) (fun _ _ _ h=>h) (Or.inl ⟨by rfl,?_⟩) hHeld ?_ ?_
              rotate_left
              ·rintro w' ⟨s0,s1,s2,s3,s4,s5,s6,s7,s8,s9,s10,s11,s12,s13⟩
               go_simp
               with_reducible rfl
              rotate_left
              ·simp only[Act.put,List.setIfInBounds_toArray,List.set_cons_zero,List.set_cons_succ,ZL,ZM]
               rfl
              refine Z2 (i:=18) (N:=some 84) (v:=?_) (a':=?_) #[true,true,true,true,true,true,true,true,true,true,true,true,true,true,true,true,true,true,true,false,false] rfl rfl (Z0 HT_.out (by kernel_rfl)) (fun _ _ _ h=>h) (Or.inl ⟨by rfl,?_⟩) ?_ ?_
              rotate_left
              ·intro w'
               go_simp
               with_reducible rfl
              rotate_left
              ·simp only[Act.put,List.setIfInBounds_toArray,List.set_cons_zero,List.set_cons_succ,ZL,ZM]
               rfl
              refine Z2 (i:=19) (N:=some 85) (v:=?_) (a':=?_) #[true,true,true,true,true,true,true,true,true,true,true,true,true,true,true,true,true,true,true,true,false] rfl rfl (Z0 HT_.out (by kernel_rfl)) (fun _ _ _ h=>h) (Or.inl ⟨by rfl,?_⟩) ?_ ?_
              rotate_left
              ·intro w'
               go_simp
               with_reducible rfl
              rotate_left
              ·simp only[Act.put,List.setIfInBounds_toArray,List.set_cons_zero,List.set_cons_succ,ZL,ZM]
               rfl
              refine Z2 (i:=20) (N:=some 6) (v:=?_) (a':=?_) #[true,true,true,true,true,true,true,true,true,true,true,true,true,true,true,true,true,true,true,true,true] rfl rfl (Z0 HT_.out (by kernel_rfl)) (fun _ _ _ h=>h) (Or.inl ⟨by rfl,?_⟩) ?_ ?_
              rotate_left
              ·intro w'
               go_simp
               with_reducible rfl
              rotate_left
              ·simp only[Act.put,List.setIfInBounds_toArray,List.set_cons_zero,List.set_cons_succ,ZL,ZM]
               rfl
              refine Zct (ZcI HT_.out (by kernel_rfl)) ?_
              try go_wp2
              go_ret
              exact⟨by first|rfl|(simp[Zy,Zx] <;> rfl)|(simp[*,Zy,Zx] <;> rfl),by repeat(first|(with_reducible first|exact HB.out|apply Zp|apply Zn|apply Zr|refine Zq ?_ GE145001.out|refine Zq ?_ GE145002.out|refine Zq ?_ GE145003.out)|exact HB.out)⟩
             ·rw[if_neg c35] at H
              have c35b0:(t145008 == 1)=false:=beq_eq_false_iff_ne.mpr c35
              have c35b1:(t145008 != 1)=true:=bne_iff_ne.mpr c35
              obtain rfl:=Zg H
              have hnb41:=NB145003_145001.out
              have hnc41:=NB145001_145003.out
              have hnb42:=NB145003_145002.out
              have hnc42:=NB145002_145003.out
              have hcz43_0:wc.cell? ⟨gb145003,0,none⟩=some (.int .i64 a2_0):=(Zm BK145003.out 0).trans rfl
              have hcz43_1:wc.cell? ⟨gb145003,1,none⟩=some (.int .i64 a2_1):=(Zm BK145003.out 1).trans rfl
              have hcz43_2:wc.cell? ⟨gb145003,2,none⟩=some (.int .i64 a2_2):=(Zm BK145003.out 2).trans rfl
              have hcz43_3:wc.cell? ⟨gb145003,3,none⟩=some (.int .i64 a2_3):=(Zm BK145003.out 3).trans rfl
              have hcz43_4:wc.cell? ⟨gb145003,4,none⟩=some (.bool false):=(Zm BK145003.out 4).trans rfl
              try go_wp2
              have n0_:=Za (Zu BK145001.out)
              have n1_:=Za (Zu BK145002.out)
              have n2_:=Za (Zu BK145003.out)
              have n3_:=Za (Zr HB.out)
              clear BK145001 BK145002 BK145003 HB;have BK145001:=n0_;have BK145002:=n1_;have BK145003:=n2_;have HB:=n3_;clear n0_ n1_ n2_ n3_
              have p145007:0≤(a2_0:Int):=Zd (by with_reducible assumption)
              have q145007:a2_0<(l0_0.length:Int):=Zd (by with_reducible assumption)
              obtain⟨ad145007,A145007_1,c145007_1,e145007,hx145007_0,hx145007_1,hx145007_2,hl145007_1,hi145007_1⟩:=Zak HR0_0.out a2_0 p145007 q145007
              have hw145007_2:=hx145007_2
              have hw145007_1:=hx145007_1
              have hw145007_0:=hx145007_0
              cases e145007
              replace hx145007_0:=(HB.out.cell (Zc w _ hx145007_0)).trans hx145007_0
              replace hx145007_1:=(HB.out.cell (Zc w _ hx145007_1)).trans hx145007_1
              replace hx145007_2:=(HB.out.cell (Zc w _ hx145007_2)).trans hx145007_2
              have HR145007_1:=Za hi145007_1;have HC145007_1:=Za hl145007_1;clear hi145007_1 hl145007_1
              replace p145007:=eq_true p145007
              replace q145007:=eq_true q145007
              refine Zb7 (n:=21) (S:=fun w'=>w'.cell? ⟨gb145001,0,none⟩=some (.slice (some ad145007) l0_0.length c0_0)∧w'.cell? ⟨gb145001,1,none⟩=some (.slice A0_1 l0_1.length c0_1)∧w'.cell? ⟨gb145001,2,none⟩=some (.int .i64 a0_2)∧w'.cell? ⟨gb145003,0,none⟩=some (.int .i64 a2_0)∧w'.cell? ⟨gb145003,1,none⟩=some (.int .i64 a2_1)∧w'.cell? ⟨gb145003,2,none⟩=some (.int .i64 a2_2)∧w'.cell? ⟨gb145003,3,none⟩=some (.int .i64 a2_3)∧w'.cell? ⟨gb145003,4,none⟩=some (.bool false)∧w'.cell? ⟨gb145002,0,none⟩=some (.int .i64 a1_0)∧w'.cell? ⟨gb145002,1,none⟩=some (.slice (some ad145004) l1_1.length c1_1)∧w'.cell? ⟨gb145002,2,none⟩=some (.slice A1_2 l1_2.length c1_2)∧w'.cell? (ad145007.add ((a2_0).toNat * 3))=some (.string ((ZA l0_0 a2_0).f0))∧w'.cell? ⟨(ad145007.add ((a2_0).toNat * 3)).block,(ad145007.add ((a2_0).toNat * 3)).off+1,none⟩=some (.slice A145007_1 ((ZA l0_0 a2_0).f1).length c145007_1)∧w'.cell? ⟨(ad145007.add ((a2_0).toNat * 3)).block,(ad145007.add ((a2_0).toNat * 3)).off+2,none⟩=some (.int .i64 ((ZA l0_0 a2_0).f2))) (ds:=[]) #[false,false,false,false,false,false,false,false,false,false,false,false,false,false,false,false,false,false,false,false,false] (by kernel_rfl) rfl rfl ⟨(Zm BK145001.out 0).trans rfl,(Zm BK145001.out 1).trans rfl,(Zm BK145001.out 2).trans rfl,(Zm BK145003.out 0).trans rfl,(Zm BK145003.out 1).trans rfl,(Zm BK145003.out 2).trans rfl,(Zm BK145003.out 3).trans rfl,(Zm BK145003.out 4).trans rfl,(Zm BK145002.out 0).trans rfl,(Zm BK145002.out 1).trans rfl,(Zm BK145002.out 2).trans rfl,((HB.out.cell (Zc w _ hw145007_0)).trans hw145007_0),((HB.out.cell (Zc w _ hw145007_1)).trans hw145007_1),((HB.out.cell (Zc w _ hw145007_2)).trans hw145007_2)⟩ (fun hHeld=>?_);refine Zcf ZY.tab10 ZY.bits10 (fun HT_ HW_=>?_)
              generalize wc.drew=w44 at BK145001 BK145002 BK145003 HB HR145007_1 hx145007_0 hx145007_1 hx145007_2 hHeld ⊢
              refine Z2 (i:=0) (N:=some 66) (v:=?_) (a':=?_) #[true,false,false,false,false,false,false,false,false,false,false,false,false,false,false,false,false,false,false,false,false] rfl rfl (Z0 HT_.out (by kernel_rfl)) (fun _ _ _ h=>h) (Or.inl ⟨by rfl,?_⟩) ?_ ?_
              rotate_left
              ·intro w'
               go_simp
               with_reducible rfl
              rotate_left
              ·simp only[Act.put,List.setIfInBounds_toArray,List.set_cons_zero,List.set_cons_succ,ZL,ZM]
               rfl
              refine Z2 (i:=2) (N:=some 68) (v:=?_) (a':=?_) #[true,false,true,false,false,false,false,false,false,false,false,false,false,false,false,false,false,false,false,false,false] rfl rfl (Z0 HT_.out (by kernel_rfl)) (fun _ _ _ h=>h) (Or.inl ⟨by rfl,?_⟩) ?_ ?_
              rotate_left
              ·intro w'
               go_simp
               with_reducible rfl
              rotate_left
              ·simp only[Act.put,List.setIfInBounds_toArray,List.set_cons_zero,List.set_cons_succ,ZL,ZM]
               rfl
              refine Z2 (i:=7) (N:=some 73) (v:=?_) (a':=?_) #[true,false,true,false,false,false,false,true,false,false,false,false,false,false,false,false,false,false,false,false,false] rfl rfl (Z0 HT_.out (by kernel_rfl)) (fun _ _ _ h=>h) (Or.inl ⟨by rfl,?_⟩) ?_ ?_
              rotate_left
              ·intro w'
               go_simp
               with_reducible rfl
              rotate_left
              ·simp only[Act.put,List.setIfInBounds_toArray,List.set_cons_zero,List.set_cons_succ,ZL,ZM]
               rfl
              refine take_ (i:=1) (N:=some 67) (v:=?_) (a':=?_) #[true,true,true,false,false,false,false,true,false,false,false,false,false,false,false,false,false,false,false,false,false] rfl rfl (ZaF HT_.out HW_.out (by kernel_rfl)) (fun _ _ _ h=>h) (Or.inl ⟨by rfl,?_⟩) hHeld ?_ ?_
              rotate_left
              ·rintro w' ⟨s0,s1,s2,s3,s4,s5,s6,s7,s8,s9,s10,s11,s12,s13⟩
               go_simp
               with_reducible rfl
              rotate_left
              ·simp only[Act.put,List.setIfInBounds_toArray,List.set_cons_zero,List.set_cons_succ,ZL,ZM]
               rfl
              refine take_ (i:=3) (N:=some 69) (v:=?_) (a':=?_) #[true,true,true,true,false,false,false,true,false,false,false,false,false,false,false,false,false,false,false,false,false] rfl rfl (ZaF HT_.out HW_.out (by kernel_rfl)) (fun _ _ _ h=>h) (Or.inl ⟨by rfl,?_⟩) hHeld ?_ ?_
              rotate_left
              ·rintro w' ⟨s0,s1,s2,s3,s4,s5,s6,s7,s8,s9,s10,s11,s12,s13⟩
               go_simp
               with_reducible rfl
              rotate_left
              ·simp only[Act.put,List.setIfInBounds_toArray,List.set_cons_zero,List.set_cons_succ,ZL,ZM]
               rfl
              refine Z2 (i:=4) (N:=some 70) (v:=?_) (a':=?_) #[true,true,true,true,true,false,false,true,false,false,false,false,false,false,false,false,false,false,false,false,false] rfl rfl (Z0 HT_.out (by kernel_rfl)) (fun _ _ _ h=>h) (Or.inl ⟨by rfl,?_⟩) ?_ ?_
              rotate_left
              ·intro w'
               go_simp
               with_reducible rfl
              rotate_left
              ·simp only[Act.put,List.setIfInBounds_toArray,List.set_cons_zero,List.set_cons_succ,ZL,ZM]
               rfl
              refine Z2 (i:=5) (N:=some 71) (v:=?_) (a':=?_) #[true,true,true,true,true,true,false,true,false,false,false,false,false,false,false,false,false,false,false,false,false] rfl rfl (Z0 HT_.out (by kernel_rfl)) (fun _ _ _ h=>h) (Or.inl ⟨by rfl,?_⟩) ?_ ?_
              rotate_left
              ·intro w'
               go_simp
               with_reducible rfl
              rotate_left
              ·simp only[Act.put,List.setIfInBounds_toArray,List.set_cons_zero,List.set_cons_succ,ZL,ZM]
               rfl
              refine take_ (i:=6) (N:=some 72) (v:=?_) (a':=?_) #[true,true,true,true,true,true,true,true,false,false,false,false,false,false,false,false,false,false,false,false,false] rfl rfl (ZaF HT_.out HW_.out (by kernel_rfl)) (fun _ _ _ h=>h) (Or.inl ⟨by rfl,?_⟩) hHeld ?_ ?_
              rotate_left
              ·rintro w' ⟨s0,s1,s2,s3,s4,s5,s6,s7,s8,s9,s10,s11,s12,s13⟩
               go_simp
               with_reducible rfl
              rotate_left
              ·simp only[Act.put,List.setIfInBounds_toArray,List.set_cons_zero,List.set_cons_succ,ZL,ZM]
               rfl
              refine take_ (i:=8) (N:=some 74) (v:=?_) (a':=?_) #[true,true,true,true,true,true,true,true,true,false,false,false,false,false,false,false,false,false,false,false,false] rfl rfl (ZaF HT_.out HW_.out (by kernel_rfl)) (fun _ _ _ h=>h) (Or.inl ⟨by rfl,?_⟩) hHeld ?_ ?_
              rotate_left
              ·rintro w' ⟨s0,s1,s2,s3,s4,s5,s6,s7,s8,s9,s10,s11,s12,s13⟩
               go_simp
               with_reducible rfl
              rotate_left
              ·simp only[Act.put,List.setIfInBounds_toArray,List.set_cons_zero,List.set_cons_succ,ZL,ZM]
               rfl
              refine one_ (i:=9) (N:=some 75) #[true,true,true,true,true,true,true,true,true,true,false,false,false,false,false,false,false,false,false,false,false] rfl rfl (Zc7 HT_.out (by kernel_rfl)) (by decide) (fun K hK=>?_)
              refine Zb1 Try.func96 (by kernel_rfl) rfl #[.slice A145007_1 ((ZA l0_0 a2_0).f1).length c145007_1,.slice A1_2 l1_2.length c1_2] (by rfl) rfl rfl (by(try simp only[List.map_toArray,List.map_cons,List.map_nil]);first|done|rfl|(simp only[Zk,Zj];rfl)) ?_
              with_reducible refine(ZQ.calls kj7 _ _ ((ZA l0_0 a2_0).f1) _ _ l1_2 t145008 _ ?side1 ?side2 ?side3 ?side4 A34.out).mono ?_
              (case side1=>exact(Zb HR145007_1.out HB.out))
              (case side2=>exact HC145007_1.out)
              (case side3=>exact(Zb HR1_2.out HB.out))
              (case side4=>exact HC1_2.out)
              rintro e w45 ⟨rfl,hb⟩
              refine⟨_,rfl,?_⟩
              have n0_:=Za (Zw (g:=gb145001) (o:=.cells #[.slice (some ad145007) l0_0.length c0_0,.slice A0_1 l0_1.length c0_1,.int .i64 a0_2] 35 (0,0)) BK145001.out hb)
              have n1_:=Za (Zw (g:=gb145002) (o:=.cells #[.int .i64 a1_0,.slice (some ad145004) l1_1.length c1_1,.slice A1_2 l1_2.length c1_2] 66 (0,0)) BK145002.out hb)
              have n2_:=Za (Zw (g:=gb145003) (o:=.cells #[.int .i64 a2_0,.int .i64 a2_1,.int .i64 a2_2,.int .i64 a2_3,.bool false] 90 (0,0)) BK145003.out hb)
              have n3_:=Za (Zv (by exact HB.out) hb)
              clear BK145001 BK145002 BK145003 HB;have BK145001:=n0_;have BK145002:=n1_;have BK145003:=n2_;have HB:=n3_;clear n0_ n1_ n2_ n3_
              (try clear hb)
              (try clear hb2)
              (try clear hk)
              (try clear hi)
              refine hK.out _ _ ⟨(Zm BK145001.out 0).trans rfl,(Zm BK145001.out 1).trans rfl,(Zm BK145001.out 2).trans rfl,(Zm BK145003.out 0).trans rfl,(Zm BK145003.out 1).trans rfl,(Zm BK145003.out 2).trans rfl,(Zm BK145003.out 3).trans rfl,(Zm BK145003.out 4).trans rfl,(Zm BK145002.out 0).trans rfl,(Zm BK145002.out 1).trans rfl,(Zm BK145002.out 2).trans rfl,((HB.out.cell (Zc w _ hw145007_0)).trans hw145007_0),((HB.out.cell (Zc w _ hw145007_1)).trans hw145007_1),((HB.out.cell (Zc w _ hw145007_2)).trans hw145007_2)⟩ (fun hHeld=>?_)
              clear hK K
              refine ZbX (a':=?_) ?_ ?_
              rotate_left
              ·show Act.put _ (some 75) _=_
               simp only[Act.put,List.setIfInBounds_toArray,List.set_cons_zero,List.set_cons_succ,ZL,ZM]
               rfl
              refine Z2 (i:=10) (N:=some 76) (v:=?_) (a':=?_) #[true,true,true,true,true,true,true,true,true,true,true,false,false,false,false,false,false,false,false,false,false] rfl rfl (Z0 HT_.out (by kernel_rfl)) (fun _ _ _ h=>h) (Or.inl ⟨by rfl,?_⟩) ?_ ?_
              rotate_left
              ·intro w'
               go_simp
               with_reducible rfl
              rotate_left
              ·simp only[Act.put,List.setIfInBounds_toArray,List.set_cons_zero,List.set_cons_succ,ZL,ZM]
               rfl
              refine Z2 (i:=11) (N:=some 77) (v:=?_) (a':=?_) #[true,true,true,true,true,true,true,true,true,true,true,true,false,false,false,false,false,false,false,false,false] rfl rfl (Z0 HT_.out (by kernel_rfl)) (fun _ _ _ h=>h) (Or.inl ⟨by rfl,?_⟩) ?_ ?_
              rotate_left
              ·intro w'
               go_simp
               with_reducible rfl
              rotate_left
              ·simp only[Act.put,List.setIfInBounds_toArray,List.set_cons_zero,List.set_cons_succ,ZL,ZM]
               rfl
              refine Z2 (i:=12) (N:=some 78) (v:=undef) (a':=?_) #[true,true,true,true,true,true,true,true,true,true,true,true,true,false,false,false,false,false,false,false,false] rfl rfl (Z0 HT_.out (by kernel_rfl)) (fun _ _ _ h=>h) (Or.inr ⟨by rfl,rfl⟩) ?_ ?_
              rotate_left
              ·simp only[Act.put,List.setIfInBounds_toArray,List.set_cons_zero,List.set_cons_succ,ZL,ZM]
               rfl
              refine Z2 (i:=13) (N:=some 79) (v:=undef) (a':=?_) #[true,true,true,true,true,true,true,true,true,true,true,true,true,true,false,false,false,false,false,false,false] rfl rfl (Z0 HT_.out (by kernel_rfl)) (fun _ _ _ h=>h) (Or.inr ⟨by rfl,rfl⟩) ?_ ?_
              rotate_left
              ·simp only[Act.put,List.setIfInBounds_toArray,List.set_cons_zero,List.set_cons_succ,ZL,ZM]
               rfl
              refine Z2 (i:=14) (N:=some 80) (v:=undef) (a':=?_) #[true,true,true,true,true,true,true,true,true,true,true,true,true,true,true,false,false,false,false,false,false] rfl rfl (Z0 HT_.out (by kernel_rfl)) (fun _ _ _ h=>h) (Or.inr ⟨by rfl,rfl⟩) ?_ ?_
              rotate_left
              ·simp only[Act.put,List.setIfInBounds_toArray,List.set_cons_zero,List.set_cons_succ,ZL,ZM]
               rfl
              refine Z2 (i:=15) (N:=some 81) (v:=undef) (a':=?_) #[true,true,true,true,true,true,true,true,true,true,true,true,true,true,true,true,false,false,false,false,false] rfl rfl (Z0 HT_.out (by kernel_rfl)) (fun _ _ _ h=>h) (Or.inr ⟨by rfl,rfl⟩) ?_ ?_
              rotate_left
              ·simp only[Act.put,List.setIfInBounds_toArray,List.set_cons_zero,List.set_cons_succ,ZL,ZM]
               rfl
              refine Z2 (i:=16) (N:=some 82) (v:=undef) (a':=?_) #[true,true,true,true,true,true,true,true,true,true,true,true,true,true,true,true,true,false,false,false,false] rfl rfl (Z0 HT_.out (by kernel_rfl)) (fun _ _ _ h=>h) (Or.inr ⟨by rfl,rfl⟩) ?_ ?_
              rotate_left
              ·simp only[Act.put,List.setIfInBounds_toArray,List.set_cons_zero,List.set_cons_succ,ZL,ZM]
               rfl
              refine Z2 (i:=17) (N:=some 83) (v:=undef) (a':=?_) #[true,true,true,true,true,true,true,true,true,true,true,true,true,true,true,true,true,true,false,false,false] rfl rfl (Z0 HT_.out (by kernel_rfl)) (fun _ _ _ h=>h) (Or.inr ⟨by rfl,rfl⟩) ?_ ?_
              rotate_left
              ·simp only[Act.put,List.setIfInBounds_toArray,List.set_cons_zero,List.set_cons_succ,ZL,ZM]
               rfl
              refine Z2 (i:=18) (N:=some 84) (v:=undef) (a':=?_) #[true,true,true,true,true,true,true,true,true,true,true,true,true,true,true,true,true,true,true,false,false] rfl rfl (Z0 HT_.out (by kernel_rfl)) (fun _ _ _ h=>h) (Or.inr ⟨by rfl,rfl⟩) ?_ ?_
              rotate_left
              ·simp only[Act.put,List.setIfInBounds_toArray,List.set_cons_zero,List.set_cons_succ,ZL,ZM]
               rfl
              refine Z2 (i:=19) (N:=some 85) (v:=?_) (a':=?_) #[true,true,true,true,true,true,true,true,true,true,true,true,true,true,true,true,true,true,true,true,false] rfl rfl (Z0 HT_.out (by kernel_rfl)) (fun _ _ _ h=>h) (Or.inl ⟨by rfl,?_⟩) ?_ ?_
              rotate_left
              ·intro w'
               go_simp
               with_reducible rfl
              rotate_left
              ·simp only[Act.put,List.setIfInBounds_toArray,List.set_cons_zero,List.set_cons_succ,ZL,ZM]
               rfl
              refine Z2 (i:=20) (N:=some 6) (v:=?_) (a':=?_) #[true,true,true,true,true,true,true,true,true,true,true,true,true,true,true,true,true,true,true,true,true] rfl rfl (Z0 HT_.out (by kernel_rfl)) (fun _ _ _ h=>h) (Or.inl ⟨by rfl,?_⟩) ?_ ?_
              rotate_left
              ·intro w'
               go_simp
               with_reducible rfl
              rotate_left
              ·simp only[Act.put,List.setIfInBounds_toArray,List.set_cons_zero,List.set_cons_succ,ZL,ZM]
               rfl
              refine Zct (ZcI HT_.out (by kernel_rfl)) ?_
              try go_wp2
              go_ret
              exact⟨by first|rfl|(simp[Zy,Zx] <;> rfl)|(simp[*,Zy,Zx] <;> rfl),by repeat(first|(with_reducible first|exact HB.out|apply Zp|apply Zn|apply Zr|refine Zq ?_ GE145001.out|refine Zq ?_ GE145002.out|refine Zq ?_ GE145003.out)|exact HB.out)⟩
            ·rw[if_neg c33] at H
             exact absurd H (by simp)
           ·rw[if_neg c32] at H
            exact absurd H (by simp)
         ·rw[if_neg c27] at H
          have c27b0:((rd l1_1 a2_0) == (-1))=false:=beq_eq_false_iff_ne.mpr c27
          have c27b1:((rd l1_1 a2_0) != (-1))=true:=bne_iff_ne.mpr c27
          by_cases c46:0≤a2_1
          ·rw[if_pos c46] at H
           have c46b0:decide (0≤a2_1)=true:=Ze c46
           clear c46
           by_cases c47:a2_1<(l0_0.length:Int)
           ·rw[if_pos c47] at H
            have c47b0:decide (a2_1<(l0_0.length:Int))=true:=Ze c47
            clear c47
            replace H:=Zh H
            obtain⟨t145010,A480,H⟩:=H
            replace H:(if t145010=1 then(some (decide ((wrap64 (a1_0 - (rd l1_1 a2_0))) > a2_3))) else(some false))=some r:=H
            have A48:=Za A480;clear A480
            by_cases c49:t145010=1
            ·rw[if_pos c49] at H
             have c49b0:(t145010 == 1)=true:=beq_iff_eq.mpr c49
             have c49b1:(t145010 != 1)=false:=bne_eq_false_iff_eq.mpr c49
             clear c49
             obtain rfl:=Zg H
             have hnb50:=NB145003_145001.out
             have hnc50:=NB145001_145003.out
             have hnb51:=NB145003_145002.out
             have hnc51:=NB145002_145003.out
             have hcz52_0:wc.cell? ⟨gb145003,0,none⟩=some (.int .i64 a2_0):=(Zm BK145003.out 0).trans rfl
             have hcz52_1:wc.cell? ⟨gb145003,1,none⟩=some (.int .i64 a2_1):=(Zm BK145003.out 1).trans rfl
             have hcz52_2:wc.cell? ⟨gb145003,2,none⟩=some (.int .i64 a2_2):=(Zm BK145003.out 2).trans rfl
             have hcz52_3:wc.cell? ⟨gb145003,3,none⟩=some (.int .i64 a2_3):=(Zm BK145003.out 3).trans rfl
             have hcz52_4:wc.cell? ⟨gb145003,4,none⟩=some (.bool false):=(Zm BK145003.out 4).trans rfl
             try go_wp2
             have n0_:=Za (Zu BK145001.out)
             have n1_:=Za (Zu BK145002.out)
             have n2_:=Za (Zu BK145003.out)
             have n3_:=Za (Zr HB.out)
             clear BK145001 BK145002 BK145003 HB;have BK145001:=n0_;have BK145002:=n1_;have BK145003:=n2_;have HB:=n3_;clear n0_ n1_ n2_ n3_
             have p145009:0≤(a2_1:Int):=Zd (by with_reducible assumption)
             have q145009:a2_1<(l0_0.length:Int):=Zd (by with_reducible assumption)
             obtain⟨ad145009,A145009_1,c145009_1,e145009,hx145009_0,hx145009_1,hx145009_2,hl145009_1,hi145009_1⟩:=Zak HR0_0.out a2_1 p145009 q145009
             have hw145009_2:=hx145009_2
             have hw145009_1:=hx145009_1
             have hw145009_0:=hx145009_0
             cases e145009
             replace hx145009_0:=(HB.out.cell (Zc w _ hx145009_0)).trans hx145009_0
             replace hx145009_1:=(HB.out.cell (Zc w _ hx145009_1)).trans hx145009_1
             replace hx145009_2:=(HB.out.cell (Zc w _ hx145009_2)).trans hx145009_2
             have HR145009_1:=Za hi145009_1;have HC145009_1:=Za hl145009_1;clear hi145009_1 hl145009_1
             replace p145009:=eq_true p145009
             replace q145009:=eq_true q145009
             refine Zb7 (n:=21) (S:=fun w'=>w'.cell? ⟨gb145001,0,none⟩=some (.slice (some ad145009) l0_0.length c0_0)∧w'.cell? ⟨gb145001,1,none⟩=some (.slice A0_1 l0_1.length c0_1)∧w'.cell? ⟨gb145001,2,none⟩=some (.int .i64 a0_2)∧w'.cell? ⟨gb145003,0,none⟩=some (.int .i64 a2_0)∧w'.cell? ⟨gb145003,1,none⟩=some (.int .i64 a2_1)∧w'.cell? ⟨gb145003,2,none⟩=some (.int .i64 a2_2)∧w'.cell? ⟨gb145003,3,none⟩=some (.int .i64 a2_3)∧w'.cell? ⟨gb145003,4,none⟩=some (.bool false)∧w'.cell? ⟨gb145002,0,none⟩=some (.int .i64 a1_0)∧w'.cell? ⟨gb145002,1,none⟩=some (.slice (some ad145004) l1_1.length c1_1)∧w'.cell? ⟨gb145002,2,none⟩=some (.slice A1_2 l1_2.length c1_2)∧w'.cell? (ad145009.add ((a2_1).toNat * 3))=some (.string ((ZA l0_0 a2_1).f0))∧w'.cell? ⟨(ad145009.add ((a2_1).toNat * 3)).block,(ad145009.add ((a2_1).toNat * 3)).off+1,none⟩=some (.slice A145009_1 ((ZA l0_0 a2_1).f1).length c145009_1)∧w'.cell? ⟨(ad145009.add ((a2_1).toNat * 3)).block,(ad145009.add ((a2_1).toNat * 3)).off+2,none⟩=some (.int .i64 ((ZA l0_0 a2_1).f2))) (ds:=[]) #[false,false,false,false,false,false,false,false,false,false,false,false,false,false,false,false,false,false,false,false,false] (by kernel_rfl) rfl rfl ⟨(Zm BK145001.out 0).trans rfl,(Zm BK145001.out 1).trans rfl,(Zm BK145001.out 2).trans rfl,(Zm BK145003.out 0).trans rfl,(Zm BK145003.out 1).trans rfl,(Zm BK145003.out 2).trans rfl,(Zm BK145003.out 3).trans rfl,(Zm BK145003.out 4).trans rfl,(Zm BK145002.out 0).trans rfl,(Zm BK145002.out 1).trans rfl,(Zm BK145002.out 2).trans rfl,((HB.out.cell (Zc w _ hw145009_0)).trans hw145009_0),((HB.out.cell (Zc w _ hw145009_1)).trans hw145009_1),((HB.out.cell (Zc w _ hw145009_2)).trans hw145009_2)⟩ (fun hHeld=>?_);refine Zcf ZY.tab8 ZY.bits8 (fun HT_ HW_=>?_)
             generalize wc.drew=w53 at BK145001 BK145002 BK145003 HB HR145009_1 hx145009_0 hx145009_1 hx145009_2 hHeld ⊢
             refine Z2 (i:=0) (N:=some 43) (v:=?_) (a':=?_) #[true,false,false,false,false,false,false,false,false,false,false,false,false,false,false,false,false,false,false,false,false] rfl rfl (Z0 HT_.out (by kernel_rfl)) (fun _ _ _ h=>h) (Or.inl ⟨by rfl,?_⟩) ?_ ?_
             rotate_left
             ·intro w'
              go_simp
              with_reducible rfl
             rotate_left
             ·simp only[Act.put,List.setIfInBounds_toArray,List.set_cons_zero,List.set_cons_succ,ZL,ZM]
              rfl
             refine Z2 (i:=2) (N:=some 45) (v:=?_) (a':=?_) #[true,false,true,false,false,false,false,false,false,false,false,false,false,false,false,false,false,false,false,false,false] rfl rfl (Z0 HT_.out (by kernel_rfl)) (fun _ _ _ h=>h) (Or.inl ⟨by rfl,?_⟩) ?_ ?_
             rotate_left
             ·intro w'
              go_simp
              with_reducible rfl
             rotate_left
             ·simp only[Act.put,List.setIfInBounds_toArray,List.set_cons_zero,List.set_cons_succ,ZL,ZM]
              rfl
             refine Z2 (i:=7) (N:=some 50) (v:=?_) (a':=?_) #[true,false,true,false,false,false,false,true,false,false,false,false,false,false,false,false,false,false,false,false,false] rfl rfl (Z0 HT_.out (by kernel_rfl)) (fun _ _ _ h=>h) (Or.inl ⟨by rfl,?_⟩) ?_ ?_
             rotate_left
             ·intro w'
              go_simp
              with_reducible rfl
             rotate_left
             ·simp only[Act.put,List.setIfInBounds_toArray,List.set_cons_zero,List.set_cons_succ,ZL,ZM]
              rfl
             refine take_ (i:=1) (N:=some 44) (v:=?_) (a':=?_) #[true,true,true,false,false,false,false,true,false,false,false,false,false,false,false,false,false,false,false,false,false] rfl rfl (ZaF HT_.out HW_.out (by kernel_rfl)) (fun _ _ _ h=>h) (Or.inl ⟨by rfl,?_⟩) hHeld ?_ ?_
             rotate_left
             ·rintro w' ⟨s0,s1,s2,s3,s4,s5,s6,s7,s8,s9,s10,s11,s12,s13⟩
              go_simp
              with_reducible rfl
             rotate_left
             ·simp only[Act.put,List.setIfInBounds_toArray,List.set_cons_zero,List.set_cons_succ,ZL,ZM]
              rfl
             refine take_ (i:=3) (N:=some 46) (v:=?_) (a':=?_) #[true,true,true,true,false,false,false,true,false,false,false,false,false,false,false,false,false,false,false,false,false] rfl rfl (ZaF HT_.out HW_.out (by kernel_rfl)) (fun _ _ _ h=>h) (Or.inl ⟨by rfl,?_⟩) hHeld ?_ ?_
             rotate_left
             ·rintro w' ⟨s0,s1,s2,s3,s4,s5,s6,s7,s8,s9,s10,s11,s12,s13⟩
              go_simp
              with_reducible rfl
             rotate_left
             ·simp only[Act.put,List.setIfInBounds_toArray,List.set_cons_zero,List.set_cons_succ,ZL,ZM]
              rfl
             refine Z2 (i:=4) (N:=some 47) (v:=?_) (a':=?_) #[true,true,true,true,true,false,false,true,false,false,false,false,false,false,false,false,false,false,false,false,false] rfl rfl (Z0 HT_.out (by kernel_rfl)) (fun _ _ _ h=>h) (Or.inl ⟨by rfl,?_⟩) ?_ ?_
             rotate_left
             ·intro w'
              go_simp
              with_reducible rfl
             rotate_left
             ·simp only[Act.put,List.setIfInBounds_toArray,List.set_cons_zero,List.set_cons_succ,ZL,ZM]
              rfl
             refine Z2 (i:=5) (N:=some 48) (v:=?_) (a':=?_) #[true,true,true,true,true,true,false,true,false,false,false,false,false,false,false,false,false,false,false,false,false] rfl rfl (Z0 HT_.out (by kernel_rfl)) (fun _ _ _ h=>h) (Or.inl ⟨by rfl,?_⟩) ?_ ?_
             rotate_left
             ·intro w'
              go_simp
              with_reducible rfl
             rotate_left
             ·simp only[Act.put,List.setIfInBounds_toArray,List.set_cons_zero,List.set_cons_succ,ZL,ZM]
              rfl
             refine take_ (i:=6) (N:=some 49) (v:=?_) (a':=?_) #[true,true,true,true,true,true,true,true,false,false,false,false,false,false,false,false,false,false,false,false,false] rfl rfl (ZaF HT_.out HW_.out (by kernel_rfl)) (fun _ _ _ h=>h) (Or.inl ⟨by rfl,?_⟩) hHeld ?_ ?_
             rotate_left
             ·rintro w' ⟨s0,s1,s2,s3,s4,s5,s6,s7,s8,s9,s10,s11,s12,s13⟩
              go_simp
              with_reducible rfl
             rotate_left
             ·simp only[Act.put,List.setIfInBounds_toArray,List.set_cons_zero,List.set_cons_succ,ZL,ZM]
              rfl
             refine take_ (i:=8) (N:=some 51) (v:=?_) (a':=?_) #[true,true,true,true,true,true,true,true,true,false,false,false,false,false,false,false,false,false,false,false,false] rfl rfl (ZaF HT_.out HW_.out (by kernel_rfl)) (fun _ _ _ h=>h) (Or.inl ⟨by rfl,?_⟩) hHeld ?_ ?_
             rotate_left
             ·rintro w' ⟨s0,s1,s2,s3,s4,s5,s6,s7,s8,s9,s10,s11,s12,s13⟩
              go_simp
              with_reducible rfl
             rotate_left
             ·simp only[Act.put,List.setIfInBounds_toArray,List.set_cons_zero,List.set_cons_succ,ZL,ZM]
              rfl
             refine one_ (i:=9) (N:=some 52) #[true,true,true,true,true,true,true,true,true,true,false,false,false,false,false,false,false,false,false,false,false] rfl rfl (Zc7 HT_.out (by kernel_rfl)) (by decide) (fun K hK=>?_)
             refine Zb1 Try.func96 (by kernel_rfl) rfl #[.slice A145009_1 ((ZA l0_0 a2_1).f1).length c145009_1,.slice A1_2 l1_2.length c1_2] (by rfl) rfl rfl (by(try simp only[List.map_toArray,List.map_cons,List.map_nil]);first|done|rfl|(simp only[Zk,Zj];rfl)) ?_
             with_reducible refine(ZQ.calls kj7 _ _ ((ZA l0_0 a2_1).f1) _ _ l1_2 t145010 _ ?side1 ?side2 ?side3 ?side4 A48.out).mono ?_
             (case side1=>exact(Zb HR145009_1.out HB.out))
             (case side2=>exact HC145009_1.out)
             (case side3=>exact(Zb HR1_2.out HB.out))
             (case side4=>exact HC1_2.out)
             rintro e w54 ⟨rfl,hb⟩
             refine⟨_,rfl,?_⟩
             have n0_:=Za (Zw (g:=gb145001) (o:=.cells #[.slice (some ad145009) l0_0.length c0_0,.slice A0_1 l0_1.length c0_1,.int .i64 a0_2] 35 (0,0)) BK145001.out hb)
             have n1_:=Za (Zw (g:=gb145002) (o:=.cells #[.int .i64 a1_0,.slice (some ad145004) l1_1.length c1_1,.slice A1_2 l1_2.length c1_2] 66 (0,0)) BK145002.out hb)
             have n2_:=Za (Zw (g:=gb145003) (o:=.cells #[.int .i64 a2_0,.int .i64 a2_1,.int .i64 a2_2,.int .i64 a2_3,.bool false] 90 (0,0)) BK145003.out hb)
             have n3_:=Za (Zv (by exact HB.out) hb)
             clear BK145001 BK145002 BK145003 HB;have BK145001:=n0_;have BK145002:=n1_;have BK145003:=n2_;have HB:=n3_;clear n0_ n1_ n2_ n3_
             (try clear hb)
             (try clear hb2)
             (try clear hk)
             (try clear hi)
             refine hK.out _ _ ⟨(Zm BK145001.out 0).trans rfl,(Zm BK145001.out 1).trans rfl,(Zm BK145001.out 2).trans rfl,(Zm BK145003.out 0).trans rfl,(Zm BK145003.out 1).trans rfl,(Zm BK145003.out 2).trans rfl,(Zm BK145003.out 3).trans rfl,(Zm BK145003.out 4).trans rfl,(Zm BK145002.out 0).trans rfl,(Zm BK145002.out 1).trans rfl,(Zm BK145002.out 2).trans rfl,((HB.out.cell (Zc w _ hw145009_0)).trans hw145009_0),((HB.out.cell (Zc w _ hw145009_1)).trans hw145009_1),((HB.out.cell (Zc w _ hw145009_2)).trans hw145009_2)⟩ (fun hHeld=>?_)
             clear hK K
             refine ZbX (a':=?_) ?_ ?_
             rotate_left
             ·show Act.put _ (some 52) _=_
              simp only[Act.put,List.setIfInBounds_toArray,List.set_cons_zero,List.set_cons_succ,ZL,ZM]
              rfl
             refine Z2 (i:=10) (N:=some 53) (v:=?_) (a':=?_) #[true,true,true,true,true,true,true,true,true,true,true,false,false,false,false,false,false,false,false,false,false] rfl rfl (Z0 HT_.out (by kernel_rfl)) (fun _ _ _ h=>h) (Or.inl ⟨by rfl,?_⟩) ?_ ?_
             rotate_left
             ·intro w'
              go_simp
              with_reducible rfl
             rotate_left
             ·simp only[Act.put,List.setIfInBounds_toArray,List.set_cons_zero,List.set_cons_succ,ZL,ZM]
              rfl
             refine Z2 (i:=11) (N:=some 54) (v:=?_) (a':=?_) #[true,true,true,true,true,true,true,true,true,true,true,true,false,false,false,false,false,false,false,false,false] rfl rfl (Z0 HT_.out (by kernel_rfl)) (fun _ _ _ h=>h) (Or.inl ⟨by rfl,?_⟩) ?_ ?_
             rotate_left
             ·intro w'
              go_simp
              with_reducible rfl
             rotate_left
             ·simp only[Act.put,List.setIfInBounds_toArray,List.set_cons_zero,List.set_cons_succ,ZL,ZM]
              rfl
             refine Z2 (i:=12) (N:=some 55) (v:=?_) (a':=?_) #[true,true,true,true,true,true,true,true,true,true,true,true,true,false,false,false,false,false,false,false,false] rfl rfl (Z0 HT_.out (by kernel_rfl)) (fun _ _ _ h=>h) (Or.inl ⟨by rfl,?_⟩) ?_ ?_
             rotate_left
             ·intro w'
              go_simp
              with_reducible rfl
             rotate_left
             ·simp only[Act.put,List.setIfInBounds_toArray,List.set_cons_zero,List.set_cons_succ,ZL,ZM]
              rfl
             refine Z2 (i:=14) (N:=some 57) (v:=?_) (a':=?_) #[true,true,true,true,true,true,true,true,true,true,true,true,true,false,true,false,false,false,false,false,false] rfl rfl (Z0 HT_.out (by kernel_rfl)) (fun _ _ _ h=>h) (Or.inl ⟨by rfl,?_⟩) ?_ ?_
             rotate_left
             ·intro w'
              go_simp
              with_reducible rfl
             rotate_left
             ·simp only[Act.put,List.setIfInBounds_toArray,List.set_cons_zero,List.set_cons_succ,ZL,ZM]
              rfl
             refine Z2 (i:=16) (N:=some 59) (v:=?_) (a':=?_) #[true,true,true,true,true,true,true,true,true,true,true,true,true,false,true,false,true,false,false,false,false] rfl rfl (Z0 HT_.out (by kernel_rfl)) (fun _ _ _ h=>h) (Or.inl ⟨by rfl,?_⟩) ?_ ?_
             rotate_left
             ·intro w'
              go_simp
              with_reducible rfl
             rotate_left
             ·simp only[Act.put,List.setIfInBounds_toArray,List.set_cons_zero,List.set_cons_succ,ZL,ZM]
              rfl
             refine take_ (i:=13) (N:=some 56) (v:=?_) (a':=?_) #[true,true,true,true,true,true,true,true,true,true,true,true,true,true,true,false,true,false,false,false,false] rfl rfl (ZaF HT_.out HW_.out (by kernel_rfl)) (fun _ _ _ h=>h) (Or.inl ⟨by rfl,?_⟩) hHeld ?_ ?_
             rotate_left
             ·rintro w' ⟨s0,s1,s2,s3,s4,s5,s6,s7,s8,s9,s10,s11,s12,s13⟩
              go_simp
              with_reducible rfl
             rotate_left
             ·simp only[Act.put,List.setIfInBounds_toArray,List.set_cons_zero,List.set_cons_succ,ZL,ZM]
              rfl
             refine Z2 (i:=15) (N:=some 58) (v:=?_) (a':=?_) #[true,true,true,true,true,true,true,true,true,true,true,true,true,true,true,true,true,false,false,false,false] rfl rfl (Z0 HT_.out (by kernel_rfl)) (fun _ _ _ h=>h) (Or.inl ⟨by rfl,?_⟩) ?_ ?_
             rotate_left
             ·intro w'
              go_simp
              with_reducible rfl
             rotate_left
             ·simp only[Act.put,List.setIfInBounds_toArray,List.set_cons_zero,List.set_cons_succ,ZL,ZM]
              rfl
             refine take_ (i:=17) (N:=some 60) (v:=?_) (a':=?_) #[true,true,true,true,true,true,true,true,true,true,true,true,true,true,true,true,true,true,false,false,false] rfl rfl (ZaF HT_.out HW_.out (by kernel_rfl)) (fun _ _ _ h=>h) (Or.inl ⟨by rfl,?_⟩) hHeld ?_ ?_
             rotate_left
             ·rintro w' ⟨s0,s1,s2,s3,s4,s5,s6,s7,s8,s9,s10,s11,s12,s13⟩
              go_simp
              with_reducible rfl
             rotate_left
             ·simp only[Act.put,List.setIfInBounds_toArray,List.set_cons_zero,List.set_cons_succ,ZL,ZM]
              rfl
             refine Z2 (i:=18) (N:=some 61) (v:=?_) (a':=?_) #[true,true,true,true,true,true,true,true,true,true,true,true,true,true,true,true,true,true,true,false,false] rfl rfl (Z0 HT_.out (by kernel_rfl)) (fun _ _ _ h=>h) (Or.inl ⟨by rfl,?_⟩) ?_ ?_
             rotate_left
             ·intro w'
              go_simp
              with_reducible rfl
             rotate_left
             ·simp only[Act.put,List.setIfInBounds_toArray,List.set_cons_zero,List.set_cons_succ,ZL,ZM]
              rfl
             refine Z2 (i:=19) (N:=some 62) (v:=?_) (a':=?_) #[true,true,true,true,true,true,true,true,true,true,true,true,true,true,true,true,true,true,true,true,false] rfl rfl (Z0 HT_.out (by kernel_rfl)) (fun _ _ _ h=>h) (Or.inl ⟨by rfl,?_⟩) ?_ ?_
             rotate_left
             ·intro w'
              go_simp
              with_reducible rfl
             rotate_left
             ·simp only[Act.put,List.setIfInBounds_toArray,List.set_cons_zero,List.set_cons_succ,ZL,ZM]
              rfl
             refine Z2 (i:=20) (N:=some 6) (v:=?_) (a':=?_) #[true,true,true,true,true,true,true,true,true,true,true,true,true,true,true,true,true,true,true,true,true] rfl rfl (Z0 HT_.out (by kernel_rfl)) (fun _ _ _ h=>h) (Or.inl ⟨by rfl,?_⟩) ?_ ?_
             rotate_left
             ·intro w'
              go_simp
              with_reducible rfl
             rotate_left
             ·simp only[Act.put,List.setIfInBounds_toArray,List.set_cons_zero,List.set_cons_succ,ZL,ZM]
              rfl
             refine Zct (ZcI HT_.out (by kernel_rfl)) ?_
             try go_wp2
             go_ret
             exact⟨by first|rfl|(simp[Zy,Zx] <;> rfl)|(simp[*,Zy,Zx] <;> rfl),by repeat(first|(with_reducible first|exact HB.out|apply Zp|apply Zn|apply Zr|refine Zq ?_ GE145001.out|refine Zq ?_ GE145002.out|refine Zq ?_ GE145003.out)|exact HB.out)⟩
            ·rw[if_neg c49] at H
             have c49b0:(t145010 == 1)=false:=beq_eq_false_iff_ne.mpr c49
             have c49b1:(t145010 != 1)=true:=bne_iff_ne.mpr c49
             obtain rfl:=Zg H
             have hnb55:=NB145003_145001.out
             have hnc55:=NB145001_145003.out
             have hnb56:=NB145003_145002.out
             have hnc56:=NB145002_145003.out
             have hcz57_0:wc.cell? ⟨gb145003,0,none⟩=some (.int .i64 a2_0):=(Zm BK145003.out 0).trans rfl
             have hcz57_1:wc.cell? ⟨gb145003,1,none⟩=some (.int .i64 a2_1):=(Zm BK145003.out 1).trans rfl
             have hcz57_2:wc.cell? ⟨gb145003,2,none⟩=some (.int .i64 a2_2):=(Zm BK145003.out 2).trans rfl
             have hcz57_3:wc.cell? ⟨gb145003,3,none⟩=some (.int .i64 a2_3):=(Zm BK145003.out 3).trans rfl
             have hcz57_4:wc.cell? ⟨gb145003,4,none⟩=some (.bool false):=(Zm BK145003.out 4).trans rfl
             try go_wp2
             have n0_:=Za (Zu BK145001.out)
             have n1_:=Za (Zu BK145002.out)
             have n2_:=Za (Zu BK145003.out)
             have n3_:=Za (Zr HB.out)
             clear BK145001 BK145002 BK145003 HB;have BK145001:=n0_;have BK145002:=n1_;have BK145003:=n2_;have HB:=n3_;clear n0_ n1_ n2_ n3_
             have p145009:0≤(a2_1:Int):=Zd (by with_reducible assumption)
             have q145009:a2_1<(l0_0.length:Int):=Zd (by with_reducible assumption)
             obtain⟨ad145009,A145009_1,c145009_1,e145009,hx145009_0,hx145009_1,hx145009_2,hl145009_1,hi145009_1⟩:=Zak HR0_0.out a2_1 p145009 q145009
             have hw145009_2:=hx145009_2
             have hw145009_1:=hx145009_1
             have hw145009_0:=hx145009_0
             cases e145009
             replace hx145009_0:=(HB.out.cell (Zc w _ hx145009_0)).trans hx145009_0
             replace hx145009_1:=(HB.out.cell (Zc w _ hx145009_1)).trans hx145009_1
             replace hx145009_2:=(HB.out.cell (Zc w _ hx145009_2)).trans hx145009_2
             have HR145009_1:=Za hi145009_1;have HC145009_1:=Za hl145009_1;clear hi145009_1 hl145009_1
             replace p145009:=eq_true p145009
             replace q145009:=eq_true q145009
             refine Zb7 (n:=21) (S:=fun w'=>w'.cell? ⟨gb145001,0,none⟩=some (.slice (some ad145009) l0_0.length c0_0)∧w'.cell? ⟨gb145001,1,none⟩=some (.slice A0_1 l0_1.length c0_1)∧w'.cell? ⟨gb145001,2,none⟩=some (.int .i64 a0_2)∧w'.cell? ⟨gb145003,0,none⟩=some (.int .i64 a2_0)∧w'.cell? ⟨gb145003,1,none⟩=some (.int .i64 a2_1)∧w'.cell? ⟨gb145003,2,none⟩=some (.int .i64 a2_2)∧w'.cell? ⟨gb145003,3,none⟩=some (.int .i64 a2_3)∧w'.cell? ⟨gb145003,4,none⟩=some (.bool false)∧w'.cell? ⟨gb145002,0,none⟩=some (.int .i64 a1_0)∧w'.cell? ⟨gb145002,1,none⟩=some (.slice (some ad145004) l1_1.length c1_1)∧w'.cell? ⟨gb145002,2,none⟩=some (.slice A1_2 l1_2.length c1_2)∧w'.cell? (ad145009.add ((a2_1).toNat * 3))=some (.string ((ZA l0_0 a2_1).f0))∧w'.cell? ⟨(ad145009.add ((a2_1).toNat * 3)).block,(ad145009.add ((a2_1).toNat * 3)).off+1,none⟩=some (.slice A145009_1 ((ZA l0_0 a2_1).f1).length c145009_1)∧w'.cell? ⟨(ad145009.add ((a2_1).toNat * 3)).block,(ad145009.add ((a2_1).toNat * 3)).off+2,none⟩=some (.int .i64 ((ZA l0_0 a2_1).f2))) (ds:=[]) #[false,false,false,false,false,false,false,false,false,false,false,false,false,false,false,false,false,false,false,false,false] (by kernel_rfl) rfl rfl ⟨(Zm BK145001.out 0).trans rfl,(Zm BK145001.out 1).trans rfl,(Zm BK145001.out 2).trans rfl,(Zm BK145003.out 0).trans rfl,(Zm BK145003.out 1).trans rfl,(Zm BK145003.out 2).trans rfl,(Zm BK145003.out 3).trans rfl,(Zm BK145003.out 4).trans rfl,(Zm BK145002.out 0).trans rfl,(Zm BK145002.out 1).trans rfl,(Zm BK145002.out 2).trans rfl,((HB.out.cell (Zc w _ hw145009_0)).trans hw145009_0),((HB.out.cell (Zc w _ hw145009_1)).trans hw145009_1),((HB.out.cell (Zc w _ hw145009_2)).trans hw145009_2)⟩ (fun hHeld=>?_);refine Zcf ZY.tab8 ZY.bits8 (fun HT_ HW_=>?_)
             generalize wc.drew=w58 at BK145001 BK145002 BK145003 HB HR145009_1 hx145009_0 hx145009_1 hx145009_2 hHeld ⊢
             refine Z2 (i:=0) (N:=some 43) (v:=?_) (a':=?_) #[true,false,false,false,false,false,false,false,false,false,false,false,false,false,false,false,false,false,false,false,false] rfl rfl (Z0 HT_.out (by kernel_rfl)) (fun _ _ _ h=>h) (Or.inl ⟨by rfl,?_⟩) ?_ ?_
             rotate_left
             ·intro w'
              go_simp
              with_reducible rfl
             rotate_left
             ·simp only[Act.put,List.setIfInBounds_toArray,List.set_cons_zero,List.set_cons_succ,ZL,ZM]
              rfl
             refine Z2 (i:=2) (N:=some 45) (v:=?_) (a':=?_) #[true,false,true,false,false,false,false,false,false,false,false,false,false,false,false,false,false,false,false,false,false] rfl rfl (Z0 HT_.out (by kernel_rfl)) (fun _ _ _ h=>h) (Or.inl ⟨by rfl,?_⟩) ?_ ?_
             rotate_left
             ·intro w'
              go_simp
              with_reducible rfl
             rotate_left
             ·simp only[Act.put,List.setIfInBounds_toArray,List.set_cons_zero,List.set_cons_succ,ZL,ZM]
              rfl
             refine Z2 (i:=7) (N:=some 50) (v:=?_) (a':=?_) #[true,false,true,false,false,false,false,true,false,false,false,false,false,false,false,false,false,false,false,false,false] rfl rfl (Z0 HT_.out (by kernel_rfl)) (fun _ _ _ h=>h) (Or.inl ⟨by rfl,?_⟩) ?_ ?_
             rotate_left
             ·intro w'
              go_simp
              with_reducible rfl
             rotate_left
             ·simp only[Act.put,List.setIfInBounds_toArray,List.set_cons_zero,List.set_cons_succ,ZL,ZM]
              rfl
             refine take_ (i:=1) (N:=some 44) (v:=?_) (a':=?_) #[true,true,true,false,false,false,false,true,false,false,false,false,false,false,false,false,false,false,false,false,false] rfl rfl (ZaF HT_.out HW_.out (by kernel_rfl)) (fun _ _ _ h=>h) (Or.inl ⟨by rfl,?_⟩) hHeld ?_ ?_
             rotate_left
             ·rintro w' ⟨s0,s1,s2,s3,s4,s5,s6,s7,s8,s9,s10,s11,s12,s13⟩
              go_simp
              with_reducible rfl
             rotate_left
             ·simp only[Act.put,List.setIfInBounds_toArray,List.set_cons_zero,List.set_cons_succ,ZL,ZM]
              rfl
             refine take_ (i:=3) (N:=some 46) (v:=?_) (a':=?_) #[true,true,true,true,false,false,false,true,false,false,false,false,false,false,false,false,false,false,false,false,false] rfl rfl (ZaF HT_.out HW_.out (by kernel_rfl)) (fun _ _ _ h=>h) (Or.inl ⟨by rfl,?_⟩) hHeld ?_ ?_
             rotate_left
             ·rintro w' ⟨s0,s1,s2,s3,s4,s5,s6,s7,s8,s9,s10,s11,s12,s13⟩
              go_simp
              with_reducible rfl
             rotate_left
             ·simp only[Act.put,List.setIfInBounds_toArray,List.set_cons_zero,List.set_cons_succ,ZL,ZM]
              rfl
             refine Z2 (i:=4) (N:=some 47) (v:=?_) (a':=?_) #[true,true,true,true,true,false,false,true,false,false,false,false,false,false,false,false,false,false,false,false,false] rfl rfl (Z0 HT_.out (by kernel_rfl)) (fun _ _ _ h=>h) (Or.inl ⟨by rfl,?_⟩) ?_ ?_
             rotate_left
             ·intro w'
              go_simp
              with_reducible rfl
             rotate_left
             ·simp only[Act.put,List.setIfInBounds_toArray,List.set_cons_zero,List.set_cons_succ,ZL,ZM]
              rfl
             refine Z2 (i:=5) (N:=some 48) (v:=?_) (a':=?_) #[true,true,true,true,true,true,false,true,false,false,false,false,false,false,false,false,false,false,false,false,false] rfl rfl (Z0 HT_.out (by kernel_rfl)) (fun _ _ _ h=>h) (Or.inl ⟨by rfl,?_⟩) ?_ ?_
             rotate_left
             ·intro w'
              go_simp
              with_reducible rfl
             rotate_left
             ·simp only[Act.put,List.setIfInBounds_toArray,List.set_cons_zero,List.set_cons_succ,ZL,ZM]
              rfl
             refine take_ (i:=6) (N:=some 49) (v:=?_) (a':=?_) #[true,true,true,true,true,true,true,true,false,false,false,false,false,false,false,false,false,false,false,false,false] rfl rfl (ZaF HT_.out HW_.out (by kernel_rfl)) (fun _ _ _ h=>h) (Or.inl ⟨by rfl,?_⟩) hHeld ?_ ?_
             rotate_left
             ·rintro w' ⟨s0,s1,s2,s3,s4,s5,s6,s7,s8,s9,s10,s11,s12,s13⟩
              go_simp
              with_reducible rfl
             rotate_left
             ·simp only[Act.put,List.setIfInBounds_toArray,List.set_cons_zero,List.set_cons_succ,ZL,ZM]
              rfl
             refine take_ (i:=8) (N:=some 51) (v:=?_) (a':=?_) #[true,true,true,true,true,true,true,true,true,false,false,false,false,false,false,false,false,false,false,false,false] rfl rfl (ZaF HT_.out HW_.out (by kernel_rfl)) (fun _ _ _ h=>h) (Or.inl ⟨by rfl,?_⟩) hHeld ?_ ?_
             rotate_left
             ·rintro w' ⟨s0,s1,s2,s3,s4,s5,s6,s7,s8,s9,s10,s11,s12,s13⟩
              go_simp
              with_reducible rfl
             rotate_left
             ·simp only[Act.put,List.setIfInBounds_toArray,List.set_cons_zero,List.set_cons_succ,ZL,ZM]
              rfl
             refine one_ (i:=9) (N:=some 52) #[true,true,true,true,true,true,true,true,true,true,false,false,false,false,false,false,false,false,false,false,false] rfl rfl (Zc7 HT_.out (by kernel_rfl)) (by decide) (fun K hK=>?_)
             refine Zb1 Try.func96 (by kernel_rfl) rfl #[.slice A145009_1 ((ZA l0_0 a2_1).f1).length c145009_1,.slice A1_2 l1_2.length c1_2] (by rfl) rfl rfl (by(try simp only[List.map_toArray,List.map_cons,List.map_nil]);first|done|rfl|(simp only[Zk,Zj];rfl)) ?_
             with_reducible refine(ZQ.calls kj7 _ _ ((ZA l0_0 a2_1).f1) _ _ l1_2 t145010 _ ?side1 ?side2 ?side3 ?side4 A48.out).mono ?_
             (case side1=>exact(Zb HR145009_1.out HB.out))
             (case side2=>exact HC145009_1.out)
             (case side3=>exact(Zb HR1_2.out HB.out))
             (case side4=>exact HC1_2.out)
             rintro e w59 ⟨rfl,hb⟩
             refine⟨_,rfl,?_⟩
             have n0_:=Za (Zw (g:=gb145001) (o:=.cells #[.slice (some ad145009) l0_0.length c0_0,.slice A0_1 l0_1.length c0_1,.int .i64 a0_2] 35 (0,0)) BK145001.out hb)
             have n1_:=Za (Zw (g:=gb145002) (o:=.cells #[.int .i64 a1_0,.slice (some ad145004) l1_1.length c1_1,.slice A1_2 l1_2.length c1_2] 66 (0,0)) BK145002.out hb)
             have n2_:=Za (Zw (g:=gb145003) (o:=.cells #[.int .i64 a2_0,.int .i64 a2_1,.int .i64 a2_2,.int .i64 a2_3,.bool false] 90 (0,0)) BK145003.out hb)
             have n3_:=Za (Zv (by exact HB.out) hb)
             clear BK145001 BK145002 BK145003 HB;have BK145001:=n0_;have BK145002:=n1_;have BK145003:=n2_;have HB:=n3_;clear n0_ n1_ n2_ n3_
             (try clear hb)
             (try clear hb2)
             (try clear hk)
             (try clear hi)
             refine hK.out _ _ ⟨(Zm BK145001.out 0).trans rfl,(Zm BK145001.out 1).trans rfl,(Zm BK145001.out 2).trans rfl,(Zm BK145003.out 0).trans rfl,(Zm BK145003.out 1).trans rfl,(Zm BK145003.out 2).trans rfl,(Zm BK145003.out 3).trans rfl,(Zm BK145003.out 4).trans rfl,(Zm BK145002.out 0).trans rfl,(Zm BK145002.out 1).trans rfl,(Zm BK145002.out 2).trans rfl,((HB.out.cell (Zc w _ hw145009_0)).trans hw145009_0),((HB.out.cell (Zc w _ hw145009_1)).trans hw145009_1),((HB.out.cell (Zc w _ hw145009_2)).trans hw145009_2)⟩ (fun hHeld=>?_)
             clear hK K
             refine ZbX (a':=?_) ?_ ?_
             rotate_left
             ·show Act.put _ (some 52) _=_
              simp only[Act.put,List.setIfInBounds_toArray,List.set_cons_zero,List.set_cons_succ,ZL,ZM]
              rfl
             refine Z2 (i:=10) (N:=some 53) (v:=?_) (a':=?_) #[true,true,true,true,true,true,true,true,true,true,true,false,false,false,false,false,false,false,false,false,false] rfl rfl (Z0 HT_.out (by kernel_rfl)) (fun _ _ _ h=>h) (Or.inl ⟨by rfl,?_⟩) ?_ ?_
             rotate_left
             ·intro w'
              go_simp
              with_reducible rfl
             rotate_left
             ·simp only[Act.put,List.setIfInBounds_toArray,List.set_cons_zero,List.set_cons_succ,ZL,ZM]
              rfl
             refine Z2 (i:=11) (N:=some 54) (v:=?_) (a':=?_) #[true,true,true,true,true,true,true,true,true,true,true,true,false,false,false,false,false,false,false,false,false] rfl rfl (Z0 HT_.out (by kernel_rfl)) (fun _ _ _ h=>h) (Or.inl ⟨by rfl,?_⟩) ?_ ?_
             rotate_left
             ·intro w'
              go_simp
              with_reducible rfl
             rotate_left
             ·simp only[Act.put,List.setIfInBounds_toArray,List.set_cons_zero,List.set_cons_succ,ZL,ZM]
              rfl
             refine Z2 (i:=12) (N:=some 55) (v:=undef) (a':=?_) #[true,true,true,true,true,true,true,true,true,true,true,true,true,false,false,false,false,false,false,false,false] rfl rfl (Z0 HT_.out (by kernel_rfl)) (fun _ _ _ h=>h) (Or.inr ⟨by rfl,rfl⟩) ?_ ?_
             rotate_left
             ·simp only[Act.put,List.setIfInBounds_toArray,List.set_cons_zero,List.set_cons_succ,ZL,ZM]
              rfl
             refine Z2 (i:=13) (N:=some 56) (v:=undef) (a':=?_) #[true,true,true,true,true,true,true,true,true,true,true,true,true,true,false,false,false,false,false,false,false] rfl rfl (Z0 HT_.out (by kernel_rfl)) (fun _ _ _ h=>h) (Or.inr ⟨by rfl,rfl⟩) ?_ ?_
             rotate_left
             ·simp only[Act.put,List.setIfInBounds_toArray,List.set_cons_zero,List.set_cons_succ,ZL,ZM]
              rfl
             refine Z2 (i:=14) (N:=some 57) (v:=undef) (a':=?_) #[true,true,true,true,true,true,true,true,true,true,true,true,true,true,true,false,false,false,false,false,false] rfl rfl (Z0 HT_.out (by kernel_rfl)) (fun _ _ _ h=>h) (Or.inr ⟨by rfl,rfl⟩) ?_ ?_
             rotate_left
             ·simp only[Act.put,List.setIfInBounds_toArray,List.set_cons_zero,List.set_cons_succ,ZL,ZM]
              rfl
             refine Z2 (i:=15) (N:=some 58) (v:=undef) (a':=?_) #[true,true,true,true,true,true,true,true,true,true,true,true,true,true,true,true,false,false,false,false,false] rfl rfl (Z0 HT_.out (by kernel_rfl)) (fun _ _ _ h=>h) (Or.inr ⟨by rfl,rfl⟩) ?_ ?_
             rotate_left
             ·simp only[Act.put,List.setIfInBounds_toArray,List.set_cons_zero,List.set_cons_succ,ZL,ZM]
              rfl
             refine Z2 (i:=16) (N:=some 59) (v:=undef) (a':=?_) #[true,true,true,true,true,true,true,true,true,true,true,true,true,true,true,true,true,false,false,false,false] rfl rfl (Z0 HT_.out (by kernel_rfl)) (fun _ _ _ h=>h) (Or.inr ⟨by rfl,rfl⟩) ?_ ?_
             rotate_left
             ·simp only[Act.put,List.setIfInBounds_toArray,List.set_cons_zero,List.set_cons_succ,ZL,ZM]
              rfl
             refine Z2 (i:=17) (N:=some 60) (v:=undef) (a':=?_) #[true,true,true,true,true,true,true,true,true,true,true,true,true,true,true,true,true,true,false,false,false] rfl rfl (Z0 HT_.out (by kernel_rfl)) (fun _ _ _ h=>h) (Or.inr ⟨by rfl,rfl⟩) ?_ ?_
             rotate_left
             ·simp only[Act.put,List.setIfInBounds_toArray,List.set_cons_zero,List.set_cons_succ,ZL,ZM]
              rfl
             refine Z2 (i:=18) (N:=some 61) (v:=undef) (a':=?_) #[true,true,true,true,true,true,true,true,true,true,true,true,true,true,true,true,true,true,true,false,false] rfl rfl (Z0 HT_.out (by kernel_rfl)) (fun _ _ _ h=>h) (Or.inr ⟨by rfl,rfl⟩) ?_ ?_
             rotate_left
             ·simp only[Act.put,List.setIfInBounds_toArray,List.set_cons_zero,List.set_cons_succ,ZL,ZM]
              rfl
             refine Z2 (i:=19) (N:=some 62) (v:=?_) (a':=?_) #[true,true,true,true,true,true,true,true,true,true,true,true,true,true,true,true,true,true,true,true,false] rfl rfl (Z0 HT_.out (by kernel_rfl)) (fun _ _ _ h=>h) (Or.inl ⟨by rfl,?_⟩) ?_ ?_
             rotate_left
             ·intro w'
              go_simp
              with_reducible rfl
             rotate_left
             ·simp only[Act.put,List.setIfInBounds_toArray,List.set_cons_zero,List.set_cons_succ,ZL,ZM]
              rfl
             refine Z2 (i:=20) (N:=some 6) (v:=?_) (a':=?_) #[true,true,true,true,true,true,true,true,true,true,true,true,true,true,true,true,true,true,true,true,true] rfl rfl (Z0 HT_.out (by kernel_rfl)) (fun _ _ _ h=>h) (Or.inl ⟨by rfl,?_⟩) ?_ ?_
             rotate_left
             ·intro w'
              go_simp
              with_reducible rfl
             rotate_left
             ·simp only[Act.put,List.setIfInBounds_toArray,List.set_cons_zero,List.set_cons_succ,ZL,ZM]
              rfl
             refine Zct (ZcI HT_.out (by kernel_rfl)) ?_
             try go_wp2
             go_ret
             exact⟨by first|rfl|(simp[Zy,Zx] <;> rfl)|(simp[*,Zy,Zx] <;> rfl),by repeat(first|(with_reducible first|exact HB.out|apply Zp|apply Zn|apply Zr|refine Zq ?_ GE145001.out|refine Zq ?_ GE145002.out|refine Zq ?_ GE145003.out)|exact HB.out)⟩
           ·rw[if_neg c47] at H
            exact absurd H (by simp)
          ·rw[if_neg c46] at H
           exact absurd H (by simp)
    ·rw[if_neg c7] at H
     exact absurd H (by simp)
   ·rw[if_neg c6] at H
    exact absurd H (by simp)
  ·rw[if_neg c5] at H
   exact absurd H (by simp)
 ·rw[if_neg c4] at H
  exact absurd H (by simp)
end Go.Proofs.Ytodfnelilhjoeaa.Pr
