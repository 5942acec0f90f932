/- The texts of one claim, put together by a program of this session. -/
import Derived.Deep.LoopGhost
import Derived.Shelf.Abstract
import Derived.Test.YtodfnelilhjoeaaBIbc1x1
import Derived.Test.YtodfnelilhjoeaaBIbc1x3
import Derived.Test.YtodfnelilhjoeaaBIbc1x4
import Derived.Test.YtodfnelilhjoeaaBIbc1x8
namespace Go.Proofs.Ytodfnelilhjoeaa.Pr
open Go.RowKit Go.Proofs.YtodfnelilhjoeaaW.PrintWords Go.Proofs.YtodfnelilhjoeaaW.PrintLast Go.Proofs.YtodfnelilhjoeaaW.PrintMore
attribute [local go_sem] Zaj Zah Zat Zas Zaa Z9 Zai Zag
set_option linter.unusedVariables false
set_option linter.unusedSimpArgs false
def Zaq.j0:Nat→Int→Int→Bool→List (S116)→List (S90)→Int→Int→List Int→List Int→Int→Int→Int→Int→Bool→Option (Bool)
 | 0,_,_,_,_,_,_,_,_,_,_,_,_,_,_=>none
 | k+1,x7,x8,x21,x148002000,x148002001,x148002002,x148003000,x148003001,x148003002,x148004000,x148004001,x148004002,x148004003,x148004004=>if x21=true then(if (wrap64 (x8 - x7))<x148004002 then(some true) else(some (decide ((wrap64 (x8 - x7)) > x148004003)))) else(if x148004004=true then(some false) else(if x7=(-1) then(if x8=(-1) then(some false) else((ZV.f k x148002000 x148002001 x148002002 x148003000 x148003001 x148003002 x148004000).bind fun t148006=>(if t148006=1 then(some (decide ((wrap64 (x8 - x148003000))<x148004002))) else(some false)))) else((ZV.f k x148002000 x148002001 x148002002 x148003000 x148003001 x148003002 x148004001).bind fun t148007=>(if t148007=1 then(some (decide ((wrap64 (x148003000 - x7)) > x148004003))) else(some false)))))
def Zaq.f (k:Nat) (l0_0:List (S116)) (l0_1:List (S90)) (a0_2:Int) (a1_0:Int) (l1_1:List Int) (l1_2:List Int) (a2_0:Int) (a2_1:Int) (a2_2:Int) (a2_3:Int) (a2_4:Bool):Option (Bool):=if 0≤a2_0 then(if a2_0<(l1_1.length:Int) then(if 0≤a2_1 then(if a2_1<(l1_1.length:Int) then(if (rd l1_1 a2_0)=(-1) then(Zaq.j0 k (rd l1_1 a2_0) (rd l1_1 a2_1) false l0_0 l0_1 a0_2 a1_0 l1_1 l1_2 a2_0 a2_1 a2_2 a2_3 a2_4) else(Zaq.j0 k (rd l1_1 a2_0) (rd l1_1 a2_1) ((rd l1_1 a2_1) != (-1)) l0_0 l0_1 a0_2 a1_0 l1_1 l1_2 a2_0 a2_1 a2_2 a2_3 a2_4)) else(none)) else(none)) else(none)) else(none)
set_option maxHeartbeats 8000000 in
set_option maxRecDepth 100000 in
theorem Zaq.calls (k:Nat) (A0_0:Option Addr) (c0_0:Nat) (l0_0:List (S116)) (A0_1:Option Addr) (c0_1:Nat) (l0_1:List (S90)) (a0_2:Int) (a1_0:Int) (A1_1:Option Addr) (c1_1:Nat) (l1_1:List Int) (A1_2:Option Addr) (c1_2:Nat) (l1_2:List Int) (a2_0:Int) (a2_1:Int) (a2_2:Int) (a2_3:Int) (a2_4:Bool) (r:Bool) (w:World) (hr0_0:Kd.C k116 w A0_0 l0_0.length l0_0) (hc0_0:l0_0.length≤c0_0) (hr0_1:Kd.C k90 w A0_1 l0_1.length l0_1) (hc0_1:l0_1.length≤c0_1) (hr1_1:Kd.C (Kd.int .i64) w A1_1 l1_1.length l1_1) (hc1_1:l1_1.length≤c1_1) (hr1_2:Kd.C (Kd.int .i64) w A1_2 l1_2.length l1_2) (hc1_2:l1_2.length≤c1_2) (h:Zaq.f k l0_0 l0_1 a0_2 a1_0 l1_1 l1_2 a2_0 a2_1 a2_2 a2_3 a2_4=some r) :
  Calls Try.prog 148 #[.agg #[.slice A0_0 l0_0.length c0_0,.slice A0_1 l0_1.length c0_1,.int .i64 a0_2],.agg #[.int .i64 a1_0,.slice A1_1 l1_1.length c1_1,.slice A1_2 l1_2.length c1_2],.agg #[.int .i64 a2_0,.int .i64 a2_1,.int .i64 a2_2,.int .i64 a2_3,.bool a2_4]] w fun e w'=>e=.returned (.bool r)∧Below w.heap.size w w':=by
 have hu35:=Try.underlying35
 have hu66:=Try.underlying66
 have hu90:=Try.underlying90
 have HR0_0:=Za hr0_0;have HC0_0:=Za hc0_0;clear hr0_0 hc0_0;have HR0_1:=Za hr0_1;have HC0_1:=Za hc0_1;clear hr0_1 hc0_1;have HR1_1:=Za hr1_1;have HC1_1:=Za hc1_1;clear hr1_1 hc1_1;have HR1_2:=Za hr1_2;have HC1_2:=Za hc1_2;clear hr1_2 hc1_2
 have HB:=Za (Below.refl w.heap.size w)
 have H:(if 0≤a2_0 then(if a2_0<(l1_1.length:Int) then(if 0≤a2_1 then(if a2_1<(l1_1.length:Int) then(if (rd l1_1 a2_0)=(-1) then(Zaq.j0 k (rd l1_1 a2_0) (rd l1_1 a2_1) false l0_0 l0_1 a0_2 a1_0 l1_1 l1_2 a2_0 a2_1 a2_2 a2_3 a2_4) else(Zaq.j0 k (rd l1_1 a2_0) (rd l1_1 a2_1) ((rd l1_1 a2_1) != (-1)) l0_0 l0_1 a0_2 a1_0 l1_1 l1_2 a2_0 a2_1 a2_2 a2_3 a2_4)) else(none)) else(none)) else(none)) else(none))=some r:=h
 clear h
 by_cases c4:0≤a2_0
 ·rw[if_pos c4] at H
  have c4b0:decide (0≤a2_0)=true:=Ze c4
  clear c4
  by_cases c5:a2_0<(l1_1.length:Int)
  ·rw[if_pos c5] at H
   have c5b0:decide (a2_0<(l1_1.length:Int))=true:=Ze c5
   clear c5
   by_cases c6:0≤a2_1
   ·rw[if_pos c6] at H
    have c6b0:decide (0≤a2_1)=true:=Ze c6
    clear c6
    by_cases c7:a2_1<(l1_1.length:Int)
    ·rw[if_pos c7] at H
     have c7b0:decide (a2_1<(l1_1.length:Int))=true:=Ze c7
     clear c7;have HC8:=Za H;clear H
     go_enter Try.func148,Try.ntmps148
     go_upto_region 2 with (first|((with_reducible refine ZG (N:=3) rfl ?_);refine ZE ?hg (N:=3) ?hd (cs:=#[.slice A0_0 l0_0.length c0_0,.slice A0_1 l0_1.length c0_1,.int .i64 a0_2]) (t:=35) ?hr ?_;(case hd=>rfl);(case hg=>rfl);(case hr=>first|(go_simp;done)|(go_simp;rfl));intro gb148001 hg w9 hbox hb;have n0_:=Za (Zv (by exact HB.out) hb);have n1_:=Za (hbox);have n2_:=Za ((by rw[hg];exact(Zz (by exact HB.out)):w.heap.size≤gb148001));have n3_:=n2_;clear HB;have HB:=n0_;have BK148001:=n1_;have GW148001:=n2_;have GE148001:=n3_;clear n0_ n1_ n2_ n3_;clear hb hbox hg)|((with_reducible refine ZG (N:=4) rfl ?_);refine ZE ?hg (N:=4) ?hd (cs:=#[.int .i64 a1_0,.slice A1_1 l1_1.length c1_1,.slice A1_2 l1_2.length c1_2]) (t:=66) ?hr ?_;(case hd=>rfl);(case hg=>rfl);(case hr=>first|(go_simp;done)|(go_simp;rfl));intro gb148002 hg w10 hbox hb;have n0_:=Za (Zw (g:=gb148001) (o:=.cells #[.slice A0_0 l0_0.length c0_0,.slice A0_1 l0_1.length c0_1,.int .i64 a0_2] 35 (0,0)) BK148001.out hb);have n1_:=Za (Zv (by exact HB.out) hb);have n2_:=Za (hbox);have n3_:=Za ((by rw[hg];exact(Zz (by exact HB.out)):w.heap.size≤gb148002));have n4_:=n3_;have n5_:=Za ((by rw[hg];exact Nat.ne_of_lt (ZK (g:=gb148001) (o:=.cells #[.slice A0_0 l0_0.length c0_0,.slice A0_1 l0_1.length c0_1,.int .i64 a0_2] 35 (0,0)) BK148001.out):gb148001≠gb148002));have n6_:=Za n5_.out.symm;clear BK148001;clear HB;have BK148001:=n0_;have HB:=n1_;have BK148002:=n2_;have GW148002:=n3_;have GE148002:=n4_;have NB148001_148002:=n5_;have NB148002_148001:=n6_;clear n0_ n1_ n2_ n3_ n4_ n5_ n6_;clear hb hbox hg)|((with_reducible refine ZG (N:=5) rfl ?_);refine ZE ?hg (N:=5) ?hd (cs:=#[.int .i64 a2_0,.int .i64 a2_1,.int .i64 a2_2,.int .i64 a2_3,.bool a2_4]) (t:=90) ?hr ?_;(case hd=>rfl);(case hg=>rfl);(case hr=>first|(go_simp;done)|(go_simp;rfl));intro gb148003 hg w11 hbox hb;have n0_:=Za (Zw (g:=gb148001) (o:=.cells #[.slice A0_0 l0_0.length c0_0,.slice A0_1 l0_1.length c0_1,.int .i64 a0_2] 35 (0,0)) BK148001.out hb);have n1_:=Za (Zw (g:=gb148002) (o:=.cells #[.int .i64 a1_0,.slice A1_1 l1_1.length c1_1,.slice A1_2 l1_2.length c1_2] 66 (0,0)) BK148002.out hb);have n2_:=Za (Zv (by exact HB.out) hb);have n3_:=Za (hbox);have n4_:=Za ((by rw[hg];exact(Zz (by exact HB.out)):w.heap.size≤gb148003));have n5_:=n4_;have n6_:=Za ((by rw[hg];exact Nat.ne_of_lt (ZK (g:=gb148001) (o:=.cells #[.slice A0_0 l0_0.length c0_0,.slice A0_1 l0_1.length c0_1,.int .i64 a0_2] 35 (0,0)) BK148001.out):gb148001≠gb148003));have n7_:=Za n6_.out.symm;have n8_:=Za ((by rw[hg];exact Nat.ne_of_lt (ZK (g:=gb148002) (o:=.cells #[.int .i64 a1_0,.slice A1_1 l1_1.length c1_1,.slice A1_2 l1_2.length c1_2] 66 (0,0)) BK148002.out):gb148002≠gb148003));have n9_:=Za n8_.out.symm;clear BK148001;clear BK148002;clear HB;have BK148001:=n0_;have BK148002:=n1_;have HB:=n2_;have BK148003:=n3_;have GW148003:=n4_;have GE148003:=n5_;have NB148001_148003:=n6_;have NB148003_148001:=n7_;have NB148002_148003:=n8_;have NB148003_148002:=n9_;clear n0_ n1_ n2_ n3_ n4_ n5_ n6_ n7_ n8_ n9_;clear hb hbox hg;have hnb12:=NB148002_148001.out;have hnc12:=NB148001_148002.out;have hnb13:=NB148002_148003.out;have hnc13:=NB148003_148002.out;have hcz14_0:w11.cell? ⟨gb148002,0,none⟩=some (.int .i64 a1_0):=(Zm BK148002.out 0).trans rfl;have hcz14_1:w11.cell? ⟨gb148002,1,none⟩=some (.slice A1_1 l1_1.length c1_1):=(Zm BK148002.out 1).trans rfl;have hcz14_2:w11.cell? ⟨gb148002,2,none⟩=some (.slice A1_2 l1_2.length c1_2):=(Zm BK148002.out 2).trans rfl;have hfz14_0:=Zo BK148002.out 0;have hfz14_1:=Zo BK148002.out 1;have hfz14_2:=Zo BK148002.out 2;have hnb15:=NB148003_148001.out;have hnc15:=NB148001_148003.out;have hcz16_0:w11.cell? ⟨gb148003,0,none⟩=some (.int .i64 a2_0):=(Zm BK148003.out 0).trans rfl;have hcz16_1:w11.cell? ⟨gb148003,1,none⟩=some (.int .i64 a2_1):=(Zm BK148003.out 1).trans rfl;have hcz16_2:w11.cell? ⟨gb148003,2,none⟩=some (.int .i64 a2_2):=(Zm BK148003.out 2).trans rfl;have hcz16_3:w11.cell? ⟨gb148003,3,none⟩=some (.int .i64 a2_3):=(Zm BK148003.out 3).trans rfl;have hcz16_4:w11.cell? ⟨gb148003,4,none⟩=some (.bool a2_4):=(Zm BK148003.out 4).trans rfl;have hfz16_0:=Zo BK148003.out 0;have hfz16_1:=Zo BK148003.out 1;have hfz16_2:=Zo BK148003.out 2;have hfz16_3:=Zo BK148003.out 3;have hfz16_4:=Zo BK148003.out 4;have p148004:0≤(a2_0:Int):=Zd (by with_reducible assumption);have q148004:a2_0<(l1_1.length:Int):=Zd (by with_reducible assumption);obtain⟨ad148004,e148004,hx148004_0⟩:=Kd.at_int HR1_1.out a2_0 p148004 q148004;cases e148004;replace hx148004_0:=(HB.out.cell (Zc w _ hx148004_0)).trans hx148004_0;replace p148004:=eq_true p148004;replace q148004:=eq_true q148004;have p148005:0≤(a2_1:Int):=Zd (by with_reducible assumption);have q148005:a2_1<(l1_1.length:Int):=Zd (by with_reducible assumption);obtain⟨ad148005,e148005,hx148005_0⟩:=Kd.at_int HR1_1.out a2_1 p148005 q148005;obtain rfl:ad148004=ad148005:=(by injection e148005);replace hx148005_0:=(HB.out.cell (Zc w _ hx148005_0)).trans hx148005_0;replace p148005:=eq_true p148005;replace q148005:=eq_true q148005))
     repeat(go_quiet (first|((with_reducible refine ZG (N:=3) rfl ?_);refine ZE ?hg (N:=3) ?hd (cs:=#[.slice A0_0 l0_0.length c0_0,.slice A0_1 l0_1.length c0_1,.int .i64 a0_2]) (t:=35) ?hr ?_;(case hd=>rfl);(case hg=>rfl);(case hr=>first|(go_simp;done)|(go_simp;rfl));intro gb148001 hg w9 hbox hb;have n0_:=Za (Zv (by exact HB.out) hb);have n1_:=Za (hbox);have n2_:=Za ((by rw[hg];exact(Zz (by exact HB.out)):w.heap.size≤gb148001));have n3_:=n2_;clear HB;have HB:=n0_;have BK148001:=n1_;have GW148001:=n2_;have GE148001:=n3_;clear n0_ n1_ n2_ n3_;clear hb hbox hg)|((with_reducible refine ZG (N:=4) rfl ?_);refine ZE ?hg (N:=4) ?hd (cs:=#[.int .i64 a1_0,.slice A1_1 l1_1.length c1_1,.slice A1_2 l1_2.length c1_2]) (t:=66) ?hr ?_;(case hd=>rfl);(case hg=>rfl);(case hr=>first|(go_simp;done)|(go_simp;rfl));intro gb148002 hg w10 hbox hb;have n0_:=Za (Zw (g:=gb148001) (o:=.cells #[.slice A0_0 l0_0.length c0_0,.slice A0_1 l0_1.length c0_1,.int .i64 a0_2] 35 (0,0)) BK148001.out hb);have n1_:=Za (Zv (by exact HB.out) hb);have n2_:=Za (hbox);have n3_:=Za ((by rw[hg];exact(Zz (by exact HB.out)):w.heap.size≤gb148002));have n4_:=n3_;have n5_:=Za ((by rw[hg];exact Nat.ne_of_lt (ZK (g:=gb148001) (o:=.cells #[.slice A0_0 l0_0.length c0_0,.slice A0_1 l0_1.length c0_1,.int .i64 a0_2] 35 (0,0)) BK148001.out):gb148001≠gb148002));have n6_:=Za n5_.out.symm;clear BK148001;clear HB;have BK148001:=n0_;have HB:=n1_;have BK148002:=n2_;have GW148002:=n3_;have GE148002:=n4_;have NB148001_148002:=n5_;have NB148002_148001:=n6_;clear n0_ n1_ n2_ n3_ n4_ n5_ n6_;clear hb hbox hg)|((with_reducible refine ZG (N:=5) rfl ?_);refine ZE ?hg (N:=5) ?hd (cs:=#[.int .i64 a2_0,.int .i64 a2_1,.int .i64 a2_2,.int .i64 a2_3,.bool a2_4]) (t:=90) ?hr ?_;(case hd=>rfl);(case hg=>rfl);(case hr=>first|(go_simp;done)|(go_simp;rfl));intro gb148003 hg w11 hbox hb;have n0_:=Za (Zw (g:=gb148001) (o:=.cells #[.slice A0_0 l0_0.length c0_0,.slice A0_1 l0_1.length c0_1,.int .i64 a0_2] 35 (0,0)) BK148001.out hb);have n1_:=Za (Zw (g:=gb148002) (o:=.cells #[.int .i64 a1_0,.slice A1_1 l1_1.length c1_1,.slice A1_2 l1_2.length c1_2] 66 (0,0)) BK148002.out hb);have n2_:=Za (Zv (by exact HB.out) hb);have n3_:=Za (hbox);have n4_:=Za ((by rw[hg];exact(Zz (by exact HB.out)):w.heap.size≤gb148003));have n5_:=n4_;have n6_:=Za ((by rw[hg];exact Nat.ne_of_lt (ZK (g:=gb148001) (o:=.cells #[.slice A0_0 l0_0.length c0_0,.slice A0_1 l0_1.length c0_1,.int .i64 a0_2] 35 (0,0)) BK148001.out):gb148001≠gb148003));have n7_:=Za n6_.out.symm;have n8_:=Za ((by rw[hg];exact Nat.ne_of_lt (ZK (g:=gb148002) (o:=.cells #[.int .i64 a1_0,.slice A1_1 l1_1.length c1_1,.slice A1_2 l1_2.length c1_2] 66 (0,0)) BK148002.out):gb148002≠gb148003));have n9_:=Za n8_.out.symm;clear BK148001;clear BK148002;clear HB;have BK148001:=n0_;have BK148002:=n1_;have HB:=n2_;have BK148003:=n3_;have GW148003:=n4_;have GE148003:=n5_;have NB148001_148003:=n6_;have NB148003_148001:=n7_;have NB148002_148003:=n8_;have NB148003_148002:=n9_;clear n0_ n1_ n2_ n3_ n4_ n5_ n6_ n7_ n8_ n9_;clear hb hbox hg;have hnb12:=NB148002_148001.out;have hnc12:=NB148001_148002.out;have hnb13:=NB148002_148003.out;have hnc13:=NB148003_148002.out;have hcz14_0:w11.cell? ⟨gb148002,0,none⟩=some (.int .i64 a1_0):=(Zm BK148002.out 0).trans rfl;have hcz14_1:w11.cell? ⟨gb148002,1,none⟩=some (.slice A1_1 l1_1.length c1_1):=(Zm BK148002.out 1).trans rfl;have hcz14_2:w11.cell? ⟨gb148002,2,none⟩=some (.slice A1_2 l1_2.length c1_2):=(Zm BK148002.out 2).trans rfl;have hfz14_0:=Zo BK148002.out 0;have hfz14_1:=Zo BK148002.out 1;have hfz14_2:=Zo BK148002.out 2;have hnb15:=NB148003_148001.out;have hnc15:=NB148001_148003.out;have hcz16_0:w11.cell? ⟨gb148003,0,none⟩=some (.int .i64 a2_0):=(Zm BK148003.out 0).trans rfl;have hcz16_1:w11.cell? ⟨gb148003,1,none⟩=some (.int .i64 a2_1):=(Zm BK148003.out 1).trans rfl;have hcz16_2:w11.cell? ⟨gb148003,2,none⟩=some (.int .i64 a2_2):=(Zm BK148003.out 2).trans rfl;have hcz16_3:w11.cell? ⟨gb148003,3,none⟩=some (.int .i64 a2_3):=(Zm BK148003.out 3).trans rfl;have hcz16_4:w11.cell? ⟨gb148003,4,none⟩=some (.bool a2_4):=(Zm BK148003.out 4).trans rfl;have hfz16_0:=Zo BK148003.out 0;have hfz16_1:=Zo BK148003.out 1;have hfz16_2:=Zo BK148003.out 2;have hfz16_3:=Zo BK148003.out 3;have hfz16_4:=Zo BK148003.out 4;have p148004:0≤(a2_0:Int):=Zd (by with_reducible assumption);have q148004:a2_0<(l1_1.length:Int):=Zd (by with_reducible assumption);obtain⟨ad148004,e148004,hx148004_0⟩:=Kd.at_int HR1_1.out a2_0 p148004 q148004;cases e148004;replace hx148004_0:=(HB.out.cell (Zc w _ hx148004_0)).trans hx148004_0;replace p148004:=eq_true p148004;replace q148004:=eq_true q148004;have p148005:0≤(a2_1:Int):=Zd (by with_reducible assumption);have q148005:a2_1<(l1_1.length:Int):=Zd (by with_reducible assumption);obtain⟨ad148005,e148005,hx148005_0⟩:=Kd.at_int HR1_1.out a2_1 p148005 q148005;obtain rfl:ad148004=ad148005:=(by injection e148005);replace hx148005_0:=(HB.out.cell (Zc w _ hx148005_0)).trans hx148005_0;replace p148005:=eq_true p148005;replace q148005:=eq_true q148005));go_upto_region 2 with (first|((with_reducible refine ZG (N:=3) rfl ?_);refine ZE ?hg (N:=3) ?hd (cs:=#[.slice A0_0 l0_0.length c0_0,.slice A0_1 l0_1.length c0_1,.int .i64 a0_2]) (t:=35) ?hr ?_;(case hd=>rfl);(case hg=>rfl);(case hr=>first|(go_simp;done)|(go_simp;rfl));intro gb148001 hg w9 hbox hb;have n0_:=Za (Zv (by exact HB.out) hb);have n1_:=Za (hbox);have n2_:=Za ((by rw[hg];exact(Zz (by exact HB.out)):w.heap.size≤gb148001));have n3_:=n2_;clear HB;have HB:=n0_;have BK148001:=n1_;have GW148001:=n2_;have GE148001:=n3_;clear n0_ n1_ n2_ n3_;clear hb hbox hg)|((with_reducible refine ZG (N:=4) rfl ?_);refine ZE ?hg (N:=4) ?hd (cs:=#[.int .i64 a1_0,.slice A1_1 l1_1.length c1_1,.slice A1_2 l1_2.length c1_2]) (t:=66) ?hr ?_;(case hd=>rfl);(case hg=>rfl);(case hr=>first|(go_simp;done)|(go_simp;rfl));intro gb148002 hg w10 hbox hb;have n0_:=Za (Zw (g:=gb148001) (o:=.cells #[.slice A0_0 l0_0.length c0_0,.slice A0_1 l0_1.length c0_1,.int .i64 a0_2] 35 (0,0)) BK148001.out hb);have n1_:=Za (Zv (by exact HB.out) hb);have n2_:=Za (hbox);have n3_:=Za ((by rw[hg];exact(Zz (by exact HB.out)):w.heap.size≤gb148002));have n4_:=n3_;have n5_:=Za ((by rw[hg];exact Nat.ne_of_lt (ZK (g:=gb148001) (o:=.cells #[.slice A0_0 l0_0.length c0_0,.slice A0_1 l0_1.length c0_1,.int .i64 a0_2] 35 (0,0)) BK148001.out):gb148001≠gb148002));have n6_:=Za n5_.out.symm;clear BK148001;clear HB;have BK148001:=n0_;have HB:=n1_;have BK148002:=n2_;have GW148002:=n3_;have GE148002:=n4_;have NB148001_148002:=n5_;have NB148002_148001:=n6_;clear n0_ n1_ n2_ n3_ n4_ n5_ n6_;clear hb hbox hg)|((with_reducible refine ZG (N:=5) rfl ?_);refine ZE ?hg (N:=5) ?hd (cs:=#[.int .i64 a2_0,.int .i64 a2_1,.int .i64 a2_2,.int .i64 a2_3,.bool a2_4]) (t:=90) ?hr ?_;(case hd=>rfl);(case hg=>rfl);(case hr=>first|(go_simp;done)|(go_simp;rfl));intro gb148003 hg w11 hbox hb;have n0_:=Za (Zw (g:=gb148001) (o:=.cells #[.slice A0_0 l0_0.length c0_0,.slice A0_1 l0_1.length c0_1,.int .i64 a0_2] 35 (0,0)) BK148001.out hb);have n1_:=Za (Zw (g:=gb148002) (o:=.cells #[.int .i64 a1_0,.slice A1_1 l1_1.length c1_1,.slice A1_2 l1_2.length c1_2] 66 (0,0)) BK148002.out hb);have n2_:=Za (Zv (by exact HB.out) hb);have n3_:=Za (hbox);have n4_:=Za ((by rw[hg];exact(Zz (by exact HB.out)):w.heap.size≤gb148003));have n5_:=n4_;have n6_:=Za ((by rw[hg];exact Nat.ne_of_lt (ZK (g:=gb148001) (o:=.cells #[.slice A0_0 l0_0.length c0_0,.slice A0_1 l0_1.length c0_1,.int .i64 a0_2] 35 (0,0)) BK148001.out):gb148001≠gb148003));have n7_:=Za n6_.out.symm;have n8_:=Za ((by rw[hg];exact Nat.ne_of_lt (ZK (g:=gb148002) (o:=.cells #[.int .i64 a1_0,.slice A1_1 l1_1.length c1_1,.slice A1_2 l1_2.length c1_2] 66 (0,0)) BK148002.out):gb148002≠gb148003));have n9_:=Za n8_.out.symm;clear BK148001;clear BK148002;clear HB;have BK148001:=n0_;have BK148002:=n1_;have HB:=n2_;have BK148003:=n3_;have GW148003:=n4_;have GE148003:=n5_;have NB148001_148003:=n6_;have NB148003_148001:=n7_;have NB148002_148003:=n8_;have NB148003_148002:=n9_;clear n0_ n1_ n2_ n3_ n4_ n5_ n6_ n7_ n8_ n9_;clear hb hbox hg;have hnb12:=NB148002_148001.out;have hnc12:=NB148001_148002.out;have hnb13:=NB148002_148003.out;have hnc13:=NB148003_148002.out;have hcz14_0:w11.cell? ⟨gb148002,0,none⟩=some (.int .i64 a1_0):=(Zm BK148002.out 0).trans rfl;have hcz14_1:w11.cell? ⟨gb148002,1,none⟩=some (.slice A1_1 l1_1.length c1_1):=(Zm BK148002.out 1).trans rfl;have hcz14_2:w11.cell? ⟨gb148002,2,none⟩=some (.slice A1_2 l1_2.length c1_2):=(Zm BK148002.out 2).trans rfl;have hfz14_0:=Zo BK148002.out 0;have hfz14_1:=Zo BK148002.out 1;have hfz14_2:=Zo BK148002.out 2;have hnb15:=NB148003_148001.out;have hnc15:=NB148001_148003.out;have hcz16_0:w11.cell? ⟨gb148003,0,none⟩=some (.int .i64 a2_0):=(Zm BK148003.out 0).trans rfl;have hcz16_1:w11.cell? ⟨gb148003,1,none⟩=some (.int .i64 a2_1):=(Zm BK148003.out 1).trans rfl;have hcz16_2:w11.cell? ⟨gb148003,2,none⟩=some (.int .i64 a2_2):=(Zm BK148003.out 2).trans rfl;have hcz16_3:w11.cell? ⟨gb148003,3,none⟩=some (.int .i64 a2_3):=(Zm BK148003.out 3).trans rfl;have hcz16_4:w11.cell? ⟨gb148003,4,none⟩=some (.bool a2_4):=(Zm BK148003.out 4).trans rfl;have hfz16_0:=Zo BK148003.out 0;have hfz16_1:=Zo BK148003.out 1;have hfz16_2:=Zo BK148003.out 2;have hfz16_3:=Zo BK148003.out 3;have hfz16_4:=Zo BK148003.out 4;have p148004:0≤(a2_0:Int):=Zd (by with_reducible assumption);have q148004:a2_0<(l1_1.length:Int):=Zd (by with_reducible assumption);obtain⟨ad148004,e148004,hx148004_0⟩:=Kd.at_int HR1_1.out a2_0 p148004 q148004;cases e148004;replace hx148004_0:=(HB.out.cell (Zc w _ hx148004_0)).trans hx148004_0;replace p148004:=eq_true p148004;replace q148004:=eq_true q148004;have p148005:0≤(a2_1:Int):=Zd (by with_reducible assumption);have q148005:a2_1<(l1_1.length:Int):=Zd (by with_reducible assumption);obtain⟨ad148005,e148005,hx148005_0⟩:=Kd.at_int HR1_1.out a2_1 p148005 q148005;obtain rfl:ad148004=ad148005:=(by injection e148005);replace hx148005_0:=(HB.out.cell (Zc w _ hx148005_0)).trans hx148005_0;replace p148005:=eq_true p148005;replace q148005:=eq_true q148005)))
     (try simp only[Act.put,List.setIfInBounds_toArray,List.set_cons_zero,List.set_cons_succ])
     go_cut [21] (fun v21 wc=>∃(kq:Nat) (x21_7:Bool),v21=.bool x21_7∧Aside0 (Zaq.j0 kq (rd l1_1 a2_0) (rd l1_1 a2_1) x21_7 l0_0 l0_1 a0_2 a1_0 l1_1 l1_2 a2_0 a2_1 a2_2 a2_3 a2_4=some r)∧Aside0 (kq≤k)∧Aside0 (wc.heap[gb148001]? = some (.cells #[(.slice A0_0 l0_0.length c0_0),(.slice A0_1 l0_1.length c0_1),.int .i64 a0_2] 35 (0,0)))∧Aside0 (wc.heap[gb148002]? = some (.cells #[.int .i64 a1_0,(.slice (some ad148004) l1_1.length c1_1),(.slice A1_2 l1_2.length c1_2)] 66 (0,0)))∧Aside0 (wc.heap[gb148003]? = some (.cells #[.int .i64 a2_0,.int .i64 a2_1,.int .i64 a2_2,.int .i64 a2_3,.bool a2_4] 90 (0,0)))∧Aside0 (Below w.heap.size w wc))
     case first=>
      have H:=HC8.out
      clear HC8
      by_cases c17:(rd l1_1 a2_0)=(-1)
      ·rw[if_pos c17] at H
       have c17b0:((rd l1_1 a2_0) == (-1))=true:=beq_iff_eq.mpr c17
       have c17b1:((rd l1_1 a2_0) != (-1))=false:=bne_eq_false_iff_eq.mpr c17
       clear c17
       (first|rw[c17b0]|(simp only[ZL,ZM];rw[c17b0])|skip)
       have H':=Za H
       clear H
       go_wp2
       repeat(go_quiet (fail);try go_wp2)
       go_meet
       case rel=>exact⟨_,(false),(by first|rfl|(simp;done)|(simp[*];done)),H',⟨by first|omega|exact Nat.le_refl _⟩,⟨by(with_reducible repeat(first|refine Zs ?_ _|refine Zu ?_|refine Zt ?_ _));exact BK148001.out⟩,⟨by(with_reducible repeat(first|refine Zs ?_ _|refine Zu ?_|refine Zt ?_ _));exact BK148002.out⟩,⟨by(with_reducible repeat(first|refine Zs ?_ _|refine Zu ?_|refine Zt ?_ _));exact BK148003.out⟩,⟨by repeat(first|(with_reducible first|exact HB.out|apply Zp|apply Zn|apply Zr|refine Zq ?_ GE148001.out|refine Zq ?_ GE148002.out|refine Zq ?_ GE148003.out)|exact HB.out)⟩⟩
      ·rw[if_neg c17] at H
       have c17b0:((rd l1_1 a2_0) == (-1))=false:=beq_eq_false_iff_ne.mpr c17
       have c17b1:((rd l1_1 a2_0) != (-1))=true:=bne_iff_ne.mpr c17
       (first|rw[c17b0]|(simp only[ZL,ZM];rw[c17b0])|skip)
       have H':=Za H
       clear H
       go_wp2
       repeat(go_quiet (fail);try go_wp2)
       go_meet
       case rel=>exact⟨_,(((rd l1_1 a2_1) != (-1))),(by first|rfl|(simp;done)|(simp[*];done)),H',⟨by first|omega|exact Nat.le_refl _⟩,⟨by(with_reducible repeat(first|refine Zs ?_ _|refine Zu ?_|refine Zt ?_ _));exact BK148001.out⟩,⟨by(with_reducible repeat(first|refine Zs ?_ _|refine Zu ?_|refine Zt ?_ _));exact BK148002.out⟩,⟨by(with_reducible repeat(first|refine Zs ?_ _|refine Zu ?_|refine Zt ?_ _));exact BK148003.out⟩,⟨by repeat(first|(with_reducible first|exact HB.out|apply Zp|apply Zn|apply Zr|refine Zq ?_ GE148001.out|refine Zq ?_ GE148002.out|refine Zq ?_ GE148003.out)|exact HB.out)⟩⟩
     case rest=>
      clear HC8
      try clear c1
      try clear p1
      try clear q1
      try clear p2
      try clear c4
      try clear c4b0
      try clear c5
      try clear c5b0
      try clear c6
      try clear c6b0
      try clear c7
      try clear c7b0
      try clear c12
      try clear c13
      try clear c14
      try clear p14
      try clear q14
      try clear c15
      try clear c17
      try clear c17b0
      try clear c17b1
      try clear p148004
      try clear p148005
      try clear q148004
      try clear q148005
      obtain⟨kq,x21_7,rfl,HA,HJ7,BK148001,BK148002,BK148003,HB⟩:=hcut
      cases kq with
      | zero=>exact absurd HA.out (by simp[Zaq.j0])
      | succ kj7=>
       have H:=HA.out
       clear HA
       simp only[Zaq.j0] at H
       by_cases c18:x21_7=true
       ·subst c18
        have H1:(if (wrap64 ((rd l1_1 a2_1) - (rd l1_1 a2_0)))<a2_2 then(some true) else(some (decide ((wrap64 ((rd l1_1 a2_1) - (rd l1_1 a2_0))) > a2_3))))=some r:=by rw[if_pos rfl] at H;exact H
        clear H
        have H:=H1
        clear H1
        by_cases c19:(wrap64 ((rd l1_1 a2_1) - (rd l1_1 a2_0)))<a2_2
        ·rw[if_pos c19] at H
         have c19b0:decide ((wrap64 ((rd l1_1 a2_1) - (rd l1_1 a2_0)))<a2_2)=true:=Ze c19
         clear c19
         obtain rfl:=Zg H
         have hnb20:=NB148003_148001.out
         have hnc20:=NB148001_148003.out
         have hnb21:=NB148003_148002.out
         have hnc21:=NB148002_148003.out
         have hcz22_0:wc.cell? ⟨gb148003,0,none⟩=some (.int .i64 a2_0):=(Zm BK148003.out 0).trans rfl
         have hcz22_1:wc.cell? ⟨gb148003,1,none⟩=some (.int .i64 a2_1):=(Zm BK148003.out 1).trans rfl
         have hcz22_2:wc.cell? ⟨gb148003,2,none⟩=some (.int .i64 a2_2):=(Zm BK148003.out 2).trans rfl
         have hcz22_3:wc.cell? ⟨gb148003,3,none⟩=some (.int .i64 a2_3):=(Zm BK148003.out 3).trans rfl
         have hcz22_4:wc.cell? ⟨gb148003,4,none⟩=some (.bool a2_4):=(Zm BK148003.out 4).trans rfl
         have hfz22_0:=Zo BK148003.out 0
         have hfz22_1:=Zo BK148003.out 1
         have hfz22_2:=Zo BK148003.out 2
         have hfz22_3:=Zo BK148003.out 3
         have hfz22_4:=Zo BK148003.out 4
         go_wp2
         repeat(go_quiet (fail);try go_wp2)
         go_ret
         exact⟨by first|rfl|(simp[Zy,Zx] <;> rfl)|(simp[*,Zy,Zx] <;> rfl),by repeat(first|(with_reducible first|exact HB.out|apply Zp|apply Zn|apply Zr|refine Zq ?_ GE148001.out|refine Zq ?_ GE148002.out|refine Zq ?_ GE148003.out)|exact HB.out)⟩
        ·rw[if_neg c19] at H
         have c19b0:decide ((wrap64 ((rd l1_1 a2_1) - (rd l1_1 a2_0)))<a2_2)=false:=Zf c19
         clear c19
         obtain rfl:=Zg H
         have hnb23:=NB148003_148001.out
         have hnc23:=NB148001_148003.out
         have hnb24:=NB148003_148002.out
         have hnc24:=NB148002_148003.out
         have hcz25_0:wc.cell? ⟨gb148003,0,none⟩=some (.int .i64 a2_0):=(Zm BK148003.out 0).trans rfl
         have hcz25_1:wc.cell? ⟨gb148003,1,none⟩=some (.int .i64 a2_1):=(Zm BK148003.out 1).trans rfl
         have hcz25_2:wc.cell? ⟨gb148003,2,none⟩=some (.int .i64 a2_2):=(Zm BK148003.out 2).trans rfl
         have hcz25_3:wc.cell? ⟨gb148003,3,none⟩=some (.int .i64 a2_3):=(Zm BK148003.out 3).trans rfl
         have hcz25_4:wc.cell? ⟨gb148003,4,none⟩=some (.bool a2_4):=(Zm BK148003.out 4).trans rfl
         have hfz25_0:=Zo BK148003.out 0
         have hfz25_1:=Zo BK148003.out 1
         have hfz25_2:=Zo BK148003.out 2
         have hfz25_3:=Zo BK148003.out 3
         have hfz25_4:=Zo BK148003.out 4
         go_wp2
         repeat(go_quiet (fail);try go_wp2)
         go_ret
         exact⟨by first|rfl|(simp[Zy,Zx] <;> rfl)|(simp[*,Zy,Zx] <;> rfl),by repeat(first|(with_reducible first|exact HB.out|apply Zp|apply Zn|apply Zr|refine Zq ?_ GE148001.out|refine Zq ?_ GE148002.out|refine Zq ?_ GE148003.out)|exact HB.out)⟩
       ·replace c18:=Bool.eq_false_iff.mpr c18
        subst c18
        have H1:(if a2_4=true then(some false) else(if (rd l1_1 a2_0)=(-1) then(if (rd l1_1 a2_1)=(-1) then(some false) else((ZV.f kj7 l0_0 l0_1 a0_2 a1_0 l1_1 l1_2 a2_0).bind fun t148006=>(if t148006=1 then(some (decide ((wrap64 ((rd l1_1 a2_1) - a1_0))<a2_2))) else(some false)))) else((ZV.f kj7 l0_0 l0_1 a0_2 a1_0 l1_1 l1_2 a2_1).bind fun t148007=>(if t148007=1 then(some (decide ((wrap64 (a1_0 - (rd l1_1 a2_0))) > a2_3))) else(some false)))))=some r:=by rw[if_neg (show ¬(false=true) by decide)] at H;exact H
        clear H
        have H:=H1
        clear H1
        by_cases c26:a2_4=true
        ·subst c26
         have H1:(some false)=some r:=by rw[if_pos rfl] at H;exact H
         clear H
         have H:=H1
         clear H1
         obtain rfl:=Zg H
         have hnb27:=NB148003_148001.out
         have hnc27:=NB148001_148003.out
         have hnb28:=NB148003_148002.out
         have hnc28:=NB148002_148003.out
         have hcz29_0:wc.cell? ⟨gb148003,0,none⟩=some (.int .i64 a2_0):=(Zm BK148003.out 0).trans rfl
         have hcz29_1:wc.cell? ⟨gb148003,1,none⟩=some (.int .i64 a2_1):=(Zm BK148003.out 1).trans rfl
         have hcz29_2:wc.cell? ⟨gb148003,2,none⟩=some (.int .i64 a2_2):=(Zm BK148003.out 2).trans rfl
         have hcz29_3:wc.cell? ⟨gb148003,3,none⟩=some (.int .i64 a2_3):=(Zm BK148003.out 3).trans rfl
         have hcz29_4:wc.cell? ⟨gb148003,4,none⟩=some (.bool true):=(Zm BK148003.out 4).trans rfl
         have hfz29_0:=Zo BK148003.out 0
         have hfz29_1:=Zo BK148003.out 1
         have hfz29_2:=Zo BK148003.out 2
         have hfz29_3:=Zo BK148003.out 3
         have hfz29_4:=Zo BK148003.out 4
         go_wp2
         repeat(go_quiet (fail);try go_wp2)
         go_ret
         exact⟨by first|rfl|(simp[Zy,Zx] <;> rfl)|(simp[*,Zy,Zx] <;> rfl),by repeat(first|(with_reducible first|exact HB.out|apply Zp|apply Zn|apply Zr|refine Zq ?_ GE148001.out|refine Zq ?_ GE148002.out|refine Zq ?_ GE148003.out)|exact HB.out)⟩
        ·replace c26:=Bool.eq_false_iff.mpr c26
         subst c26
         have H1:(if (rd l1_1 a2_0)=(-1) then(if (rd l1_1 a2_1)=(-1) then(some false) else((ZV.f kj7 l0_0 l0_1 a0_2 a1_0 l1_1 l1_2 a2_0).bind fun t148006=>(if t148006=1 then(some (decide ((wrap64 ((rd l1_1 a2_1) - a1_0))<a2_2))) else(some false)))) else((ZV.f kj7 l0_0 l0_1 a0_2 a1_0 l1_1 l1_2 a2_1).bind fun t148007=>(if t148007=1 then(some (decide ((wrap64 (a1_0 - (rd l1_1 a2_0))) > a2_3))) else(some false))))=some r:=by rw[if_neg (show ¬(false=true) by decide)] at H;exact H
         clear H
         have H:=H1
         clear H1
         by_cases c30:(rd l1_1 a2_0)=(-1)
         ·rw[if_pos c30] at H
          have c30b0:((rd l1_1 a2_0) == (-1))=true:=beq_iff_eq.mpr c30
          have c30b1:((rd l1_1 a2_0) != (-1))=false:=bne_eq_false_iff_eq.mpr c30
          clear c30
          by_cases c31:(rd l1_1 a2_1)=(-1)
          ·rw[if_pos c31] at H
           have c31b0:((rd l1_1 a2_1) == (-1))=true:=beq_iff_eq.mpr c31
           have c31b1:((rd l1_1 a2_1) != (-1))=false:=bne_eq_false_iff_eq.mpr c31
           clear c31
           obtain rfl:=Zg H
           have hnb32:=NB148003_148001.out
           have hnc32:=NB148001_148003.out
           have hnb33:=NB148003_148002.out
           have hnc33:=NB148002_148003.out
           have hcz34_0:wc.cell? ⟨gb148003,0,none⟩=some (.int .i64 a2_0):=(Zm BK148003.out 0).trans rfl
           have hcz34_1:wc.cell? ⟨gb148003,1,none⟩=some (.int .i64 a2_1):=(Zm BK148003.out 1).trans rfl
           have hcz34_2:wc.cell? ⟨gb148003,2,none⟩=some (.int .i64 a2_2):=(Zm BK148003.out 2).trans rfl
           have hcz34_3:wc.cell? ⟨gb148003,3,none⟩=some (.int .i64 a2_3):=(Zm BK148003.out 3).trans rfl
           have hcz34_4:wc.cell? ⟨gb148003,4,none⟩=some (.bool false):=(Zm BK148003.out 4).trans rfl
           have hfz34_0:=Zo BK148003.out 0
           have hfz34_1:=Zo BK148003.out 1
           have hfz34_2:=Zo BK148003.out 2
           have hfz34_3:=Zo BK148003.out 3
           have hfz34_4:=Zo BK148003.out 4
           go_wp2
           repeat(go_quiet (fail);try go_wp2)
           go_ret
           exact⟨by first|rfl|(simp[Zy,Zx] <;> rfl)|(simp[*,Zy,Zx] <;> rfl),by repeat(first|(with_reducible first|exact HB.out|apply Zp|apply Zn|apply Zr|refine Zq ?_ GE148001.out|refine Zq ?_ GE148002.out|refine Zq ?_ GE148003.out)|exact HB.out)⟩
          ·rw[if_neg c31] at H
           have c31b0:((rd l1_1 a2_1) == (-1))=false:=beq_eq_false_iff_ne.mpr c31
           have c31b1:((rd l1_1 a2_1) != (-1))=true:=bne_iff_ne.mpr c31
           replace H:=Zh H
           obtain⟨t148006,A350,H⟩:=H
           replace H:(if t148006=1 then(some (decide ((wrap64 ((rd l1_1 a2_1) - a1_0))<a2_2))) else(some false))=some r:=H
           have A35:=Za A350;clear A350
           by_cases c36:t148006=1
           ·rw[if_pos c36] at H
            have c36b0:(t148006 == 1)=true:=beq_iff_eq.mpr c36
            have c36b1:(t148006 != 1)=false:=bne_eq_false_iff_eq.mpr c36
            clear c36
            obtain rfl:=Zg H
            have hnb37:=NB148003_148001.out
            have hnc37:=NB148001_148003.out
            have hnb38:=NB148003_148002.out
            have hnc38:=NB148002_148003.out
            have hcz39_0:wc.cell? ⟨gb148003,0,none⟩=some (.int .i64 a2_0):=(Zm BK148003.out 0).trans rfl
            have hcz39_1:wc.cell? ⟨gb148003,1,none⟩=some (.int .i64 a2_1):=(Zm BK148003.out 1).trans rfl
            have hcz39_2:wc.cell? ⟨gb148003,2,none⟩=some (.int .i64 a2_2):=(Zm BK148003.out 2).trans rfl
            have hcz39_3:wc.cell? ⟨gb148003,3,none⟩=some (.int .i64 a2_3):=(Zm BK148003.out 3).trans rfl
            have hcz39_4:wc.cell? ⟨gb148003,4,none⟩=some (.bool false):=(Zm BK148003.out 4).trans rfl
            have hfz39_0:=Zo BK148003.out 0
            have hfz39_1:=Zo BK148003.out 1
            have hfz39_2:=Zo BK148003.out 2
            have hfz39_3:=Zo BK148003.out 3
            have hfz39_4:=Zo BK148003.out 4
            have hnb40:=NB148001_148002.out
            have hnc40:=NB148002_148001.out
            have hcz41_0:wc.cell? ⟨gb148001,0,none⟩=some (.slice A0_0 l0_0.length c0_0):=(Zm BK148001.out 0).trans rfl
            have hcz41_1:wc.cell? ⟨gb148001,1,none⟩=some (.slice A0_1 l0_1.length c0_1):=(Zm BK148001.out 1).trans rfl
            have hcz41_2:wc.cell? ⟨gb148001,2,none⟩=some (.int .i64 a0_2):=(Zm BK148001.out 2).trans rfl
            have hfz41_0:=Zo BK148001.out 0
            have hfz41_1:=Zo BK148001.out 1
            have hfz41_2:=Zo BK148001.out 2
            have hcz42_0:wc.cell? ⟨gb148002,0,none⟩=some (.int .i64 a1_0):=(Zm BK148002.out 0).trans rfl
            have hcz42_1:wc.cell? ⟨gb148002,1,none⟩=some (.slice (some ad148004) l1_1.length c1_1):=(Zm BK148002.out 1).trans rfl
            have hcz42_2:wc.cell? ⟨gb148002,2,none⟩=some (.slice A1_2 l1_2.length c1_2):=(Zm BK148002.out 2).trans rfl
            have hfz42_0:=Zo BK148002.out 0
            have hfz42_1:=Zo BK148002.out 1
            have hfz42_2:=Zo BK148002.out 2
            go_wp2_with (first|(go_at_call 98;(with_reducible refine(ZV.calls kj7 _ _ l0_0 _ _ l0_1 a0_2 a1_0 _ _ l1_1 _ _ l1_2 a2_0 t148006 _ ?side1 ?side2 ?side3 ?side4 ?side5 ?side6 ?side7 ?side8 A35.out).mono ?_);(case side1=>exact(Zb HR0_0.out HB.out));(case side2=>exact HC0_0.out);(case side3=>exact(Zb HR0_1.out HB.out));(case side4=>exact HC0_1.out);(case side5=>exact(Zb HR1_1.out HB.out));(case side6=>exact HC1_1.out);(case side7=>exact(Zb HR1_2.out HB.out));(case side8=>exact HC1_2.out);rintro e w43 ⟨rfl,hb⟩;have n0_:=Za (Zw (g:=gb148001) (o:=.cells #[.slice A0_0 l0_0.length c0_0,.slice A0_1 l0_1.length c0_1,.int .i64 a0_2] 35 (0,0)) BK148001.out hb);have n1_:=Za (Zw (g:=gb148002) (o:=.cells #[.int .i64 a1_0,.slice (some ad148004) l1_1.length c1_1,.slice A1_2 l1_2.length c1_2] 66 (0,0)) BK148002.out hb);have n2_:=Za (Zw (g:=gb148003) (o:=.cells #[.int .i64 a2_0,.int .i64 a2_1,.int .i64 a2_2,.int .i64 a2_3,.bool false] 90 (0,0)) BK148003.out hb);have n3_:=Za (Zv (by exact HB.out) hb);clear BK148001;clear BK148002;clear BK148003;clear HB;have BK148001:=n0_;have BK148002:=n1_;have BK148003:=n2_;have HB:=n3_;clear n0_ n1_ n2_ n3_;(try clear hb);(try clear hb2);(try clear hk);(try clear hi);have hcz44_0:w43.cell? ⟨gb148002,0,none⟩=some (.int .i64 a1_0):=(Zm BK148002.out 0).trans rfl;have hcz44_1:w43.cell? ⟨gb148002,1,none⟩=some (.slice (some ad148004) l1_1.length c1_1):=(Zm BK148002.out 1).trans rfl;have hcz44_2:w43.cell? ⟨gb148002,2,none⟩=some (.slice A1_2 l1_2.length c1_2):=(Zm BK148002.out 2).trans rfl;have hfz44_0:=Zo BK148002.out 0;have hfz44_1:=Zo BK148002.out 1;have hfz44_2:=Zo BK148002.out 2;have hcz45_0:w43.cell? ⟨gb148003,0,none⟩=some (.int .i64 a2_0):=(Zm BK148003.out 0).trans rfl;have hcz45_1:w43.cell? ⟨gb148003,1,none⟩=some (.int .i64 a2_1):=(Zm BK148003.out 1).trans rfl;have hcz45_2:w43.cell? ⟨gb148003,2,none⟩=some (.int .i64 a2_2):=(Zm BK148003.out 2).trans rfl;have hcz45_3:w43.cell? ⟨gb148003,3,none⟩=some (.int .i64 a2_3):=(Zm BK148003.out 3).trans rfl;have hcz45_4:w43.cell? ⟨gb148003,4,none⟩=some (.bool false):=(Zm BK148003.out 4).trans rfl;have hfz45_0:=Zo BK148003.out 0;have hfz45_1:=Zo BK148003.out 1;have hfz45_2:=Zo BK148003.out 2;have hfz45_3:=Zo BK148003.out 3;have hfz45_4:=Zo BK148003.out 4))
            go_ret
            exact⟨by first|rfl|(simp[Zy,Zx] <;> rfl)|(simp[*,Zy,Zx] <;> rfl),by repeat(first|(with_reducible first|exact HB.out|apply Zp|apply Zn|apply Zr|refine Zq ?_ GE148001.out|refine Zq ?_ GE148002.out|refine Zq ?_ GE148003.out)|exact HB.out)⟩
           ·rw[if_neg c36] at H
            have c36b0:(t148006 == 1)=false:=beq_eq_false_iff_ne.mpr c36
            have c36b1:(t148006 != 1)=true:=bne_iff_ne.mpr c36
            obtain rfl:=Zg H
            have hnb46:=NB148003_148001.out
            have hnc46:=NB148001_148003.out
            have hnb47:=NB148003_148002.out
            have hnc47:=NB148002_148003.out
            have hcz48_0:wc.cell? ⟨gb148003,0,none⟩=some (.int .i64 a2_0):=(Zm BK148003.out 0).trans rfl
            have hcz48_1:wc.cell? ⟨gb148003,1,none⟩=some (.int .i64 a2_1):=(Zm BK148003.out 1).trans rfl
            have hcz48_2:wc.cell? ⟨gb148003,2,none⟩=some (.int .i64 a2_2):=(Zm BK148003.out 2).trans rfl
            have hcz48_3:wc.cell? ⟨gb148003,3,none⟩=some (.int .i64 a2_3):=(Zm BK148003.out 3).trans rfl
            have hcz48_4:wc.cell? ⟨gb148003,4,none⟩=some (.bool false):=(Zm BK148003.out 4).trans rfl
            have hfz48_0:=Zo BK148003.out 0
            have hfz48_1:=Zo BK148003.out 1
            have hfz48_2:=Zo BK148003.out 2
            have hfz48_3:=Zo BK148003.out 3
            have hfz48_4:=Zo BK148003.out 4
            have hnb49:=NB148001_148002.out
            have hnc49:=NB148002_148001.out
            have hcz50_0:wc.cell? ⟨gb148001,0,none⟩=some (.slice A0_0 l0_0.length c0_0):=(Zm BK148001.out 0).trans rfl
            have hcz50_1:wc.cell? ⟨gb148001,1,none⟩=some (.slice A0_1 l0_1.length c0_1):=(Zm BK148001.out 1).trans rfl
            have hcz50_2:wc.cell? ⟨gb148001,2,none⟩=some (.int .i64 a0_2):=(Zm BK148001.out 2).trans rfl
            have hfz50_0:=Zo BK148001.out 0
            have hfz50_1:=Zo BK148001.out 1
            have hfz50_2:=Zo BK148001.out 2
            have hcz51_0:wc.cell? ⟨gb148002,0,none⟩=some (.int .i64 a1_0):=(Zm BK148002.out 0).trans rfl
            have hcz51_1:wc.cell? ⟨gb148002,1,none⟩=some (.slice (some ad148004) l1_1.length c1_1):=(Zm BK148002.out 1).trans rfl
            have hcz51_2:wc.cell? ⟨gb148002,2,none⟩=some (.slice A1_2 l1_2.length c1_2):=(Zm BK148002.out 2).trans rfl
            have hfz51_0:=Zo BK148002.out 0
            have hfz51_1:=Zo BK148002.out 1
            have hfz51_2:=Zo BK148002.out 2
            go_wp2_with (first|(go_at_call 98;(with_reducible refine(ZV.calls kj7 _ _ l0_0 _ _ l0_1 a0_2 a1_0 _ _ l1_1 _ _ l1_2 a2_0 t148006 _ ?side1 ?side2 ?side3 ?side4 ?side5 ?side6 ?side7 ?side8 A35.out).mono ?_);(case side1=>exact(Zb HR0_0.out HB.out));(case side2=>exact HC0_0.out);(case side3=>exact(Zb HR0_1.out HB.out));(case side4=>exact HC0_1.out);(case side5=>exact(Zb HR1_1.out HB.out));(case side6=>exact HC1_1.out);(case side7=>exact(Zb HR1_2.out HB.out));(case side8=>exact HC1_2.out);rintro e w52 ⟨rfl,hb⟩;have n0_:=Za (Zw (g:=gb148001) (o:=.cells #[.slice A0_0 l0_0.length c0_0,.slice A0_1 l0_1.length c0_1,.int .i64 a0_2] 35 (0,0)) BK148001.out hb);have n1_:=Za (Zw (g:=gb148002) (o:=.cells #[.int .i64 a1_0,.slice (some ad148004) l1_1.length c1_1,.slice A1_2 l1_2.length c1_2] 66 (0,0)) BK148002.out hb);have n2_:=Za (Zw (g:=gb148003) (o:=.cells #[.int .i64 a2_0,.int .i64 a2_1,.int .i64 a2_2,.int .i64 a2_3,.bool false] 90 (0,0)) BK148003.out hb);have n3_:=Za (Zv (by exact HB.out) hb);clear BK148001;clear BK148002;clear BK148003;clear HB;have BK148001:=n0_;have BK148002:=n1_;have BK148003:=n2_;have HB:=n3_;clear n0_ n1_ n2_ n3_;(try clear hb);(try clear hb2);(try clear hk);(try clear hi)))
            go_ret
            exact⟨by first|rfl|(simp[Zy,Zx] <;> rfl)|(simp[*,Zy,Zx] <;> rfl),by repeat(first|(with_reducible first|exact HB.out|apply Zp|apply Zn|apply Zr|refine Zq ?_ GE148001.out|refine Zq ?_ GE148002.out|refine Zq ?_ GE148003.out)|exact HB.out)⟩
         ·rw[if_neg c30] at H
          have c30b0:((rd l1_1 a2_0) == (-1))=false:=beq_eq_false_iff_ne.mpr c30
          have c30b1:((rd l1_1 a2_0) != (-1))=true:=bne_iff_ne.mpr c30
          replace H:=Zh H
          obtain⟨t148007,A530,H⟩:=H
          replace H:(if t148007=1 then(some (decide ((wrap64 (a1_0 - (rd l1_1 a2_0))) > a2_3))) else(some false))=some r:=H
          have A53:=Za A530;clear A530
          by_cases c54:t148007=1
          ·rw[if_pos c54] at H
           have c54b0:(t148007 == 1)=true:=beq_iff_eq.mpr c54
           have c54b1:(t148007 != 1)=false:=bne_eq_false_iff_eq.mpr c54
           clear c54
           obtain rfl:=Zg H
           have hnb55:=NB148003_148001.out
           have hnc55:=NB148001_148003.out
           have hnb56:=NB148003_148002.out
           have hnc56:=NB148002_148003.out
           have hcz57_0:wc.cell? ⟨gb148003,0,none⟩=some (.int .i64 a2_0):=(Zm BK148003.out 0).trans rfl
           have hcz57_1:wc.cell? ⟨gb148003,1,none⟩=some (.int .i64 a2_1):=(Zm BK148003.out 1).trans rfl
           have hcz57_2:wc.cell? ⟨gb148003,2,none⟩=some (.int .i64 a2_2):=(Zm BK148003.out 2).trans rfl
           have hcz57_3:wc.cell? ⟨gb148003,3,none⟩=some (.int .i64 a2_3):=(Zm BK148003.out 3).trans rfl
           have hcz57_4:wc.cell? ⟨gb148003,4,none⟩=some (.bool false):=(Zm BK148003.out 4).trans rfl
           have hfz57_0:=Zo BK148003.out 0
           have hfz57_1:=Zo BK148003.out 1
           have hfz57_2:=Zo BK148003.out 2
           have hfz57_3:=Zo BK148003.out 3
           have hfz57_4:=Zo BK148003.out 4
           have hnb58:=NB148001_148002.out
           have hnc58:=NB148002_148001.out
           have hcz59_0:wc.cell? ⟨gb148001,0,none⟩=some (.slice A0_0 l0_0.length c0_0):=(Zm BK148001.out 0).trans rfl
           have hcz59_1:wc.cell? ⟨gb148001,1,none⟩=some (.slice A0_1 l0_1.length c0_1):=(Zm BK148001.out 1).trans rfl
           have hcz59_2:wc.cell? ⟨gb148001,2,none⟩=some (.int .i64 a0_2):=(Zm BK148001.out 2).trans rfl
           have hfz59_0:=Zo BK148001.out 0
           have hfz59_1:=Zo BK148001.out 1
           have hfz59_2:=Zo BK148001.out 2
           have hcz60_0:wc.cell? ⟨gb148002,0,none⟩=some (.int .i64 a1_0):=(Zm BK148002.out 0).trans rfl
           have hcz60_1:wc.cell? ⟨gb148002,1,none⟩=some (.slice (some ad148004) l1_1.length c1_1):=(Zm BK148002.out 1).trans rfl
           have hcz60_2:wc.cell? ⟨gb148002,2,none⟩=some (.slice A1_2 l1_2.length c1_2):=(Zm BK148002.out 2).trans rfl
           have hfz60_0:=Zo BK148002.out 0
           have hfz60_1:=Zo BK148002.out 1
           have hfz60_2:=Zo BK148002.out 2
           go_wp2_with (first|(go_at_call 98;(with_reducible refine(ZV.calls kj7 _ _ l0_0 _ _ l0_1 a0_2 a1_0 _ _ l1_1 _ _ l1_2 a2_1 t148007 _ ?side1 ?side2 ?side3 ?side4 ?side5 ?side6 ?side7 ?side8 A53.out).mono ?_);(case side1=>exact(Zb HR0_0.out HB.out));(case side2=>exact HC0_0.out);(case side3=>exact(Zb HR0_1.out HB.out));(case side4=>exact HC0_1.out);(case side5=>exact(Zb HR1_1.out HB.out));(case side6=>exact HC1_1.out);(case side7=>exact(Zb HR1_2.out HB.out));(case side8=>exact HC1_2.out);rintro e w61 ⟨rfl,hb⟩;have n0_:=Za (Zw (g:=gb148001) (o:=.cells #[.slice A0_0 l0_0.length c0_0,.slice A0_1 l0_1.length c0_1,.int .i64 a0_2] 35 (0,0)) BK148001.out hb);have n1_:=Za (Zw (g:=gb148002) (o:=.cells #[.int .i64 a1_0,.slice (some ad148004) l1_1.length c1_1,.slice A1_2 l1_2.length c1_2] 66 (0,0)) BK148002.out hb);have n2_:=Za (Zw (g:=gb148003) (o:=.cells #[.int .i64 a2_0,.int .i64 a2_1,.int .i64 a2_2,.int .i64 a2_3,.bool false] 90 (0,0)) BK148003.out hb);have n3_:=Za (Zv (by exact HB.out) hb);clear BK148001;clear BK148002;clear BK148003;clear HB;have BK148001:=n0_;have BK148002:=n1_;have BK148003:=n2_;have HB:=n3_;clear n0_ n1_ n2_ n3_;(try clear hb);(try clear hb2);(try clear hk);(try clear hi);have hcz62_0:w61.cell? ⟨gb148002,0,none⟩=some (.int .i64 a1_0):=(Zm BK148002.out 0).trans rfl;have hcz62_1:w61.cell? ⟨gb148002,1,none⟩=some (.slice (some ad148004) l1_1.length c1_1):=(Zm BK148002.out 1).trans rfl;have hcz62_2:w61.cell? ⟨gb148002,2,none⟩=some (.slice A1_2 l1_2.length c1_2):=(Zm BK148002.out 2).trans rfl;have hfz62_0:=Zo BK148002.out 0;have hfz62_1:=Zo BK148002.out 1;have hfz62_2:=Zo BK148002.out 2;have hcz63_0:w61.cell? ⟨gb148003,0,none⟩=some (.int .i64 a2_0):=(Zm BK148003.out 0).trans rfl;have hcz63_1:w61.cell? ⟨gb148003,1,none⟩=some (.int .i64 a2_1):=(Zm BK148003.out 1).trans rfl;have hcz63_2:w61.cell? ⟨gb148003,2,none⟩=some (.int .i64 a2_2):=(Zm BK148003.out 2).trans rfl;have hcz63_3:w61.cell? ⟨gb148003,3,none⟩=some (.int .i64 a2_3):=(Zm BK148003.out 3).trans rfl;have hcz63_4:w61.cell? ⟨gb148003,4,none⟩=some (.bool false):=(Zm BK148003.out 4).trans rfl;have hfz63_0:=Zo BK148003.out 0;have hfz63_1:=Zo BK148003.out 1;have hfz63_2:=Zo BK148003.out 2;have hfz63_3:=Zo BK148003.out 3;have hfz63_4:=Zo BK148003.out 4))
           go_ret
           exact⟨by first|rfl|(simp[Zy,Zx] <;> rfl)|(simp[*,Zy,Zx] <;> rfl),by repeat(first|(with_reducible first|exact HB.out|apply Zp|apply Zn|apply Zr|refine Zq ?_ GE148001.out|refine Zq ?_ GE148002.out|refine Zq ?_ GE148003.out)|exact HB.out)⟩
          ·rw[if_neg c54] at H
           have c54b0:(t148007 == 1)=false:=beq_eq_false_iff_ne.mpr c54
           have c54b1:(t148007 != 1)=true:=bne_iff_ne.mpr c54
           obtain rfl:=Zg H
           have hnb64:=NB148003_148001.out
           have hnc64:=NB148001_148003.out
           have hnb65:=NB148003_148002.out
           have hnc65:=NB148002_148003.out
           have hcz66_0:wc.cell? ⟨gb148003,0,none⟩=some (.int .i64 a2_0):=(Zm BK148003.out 0).trans rfl
           have hcz66_1:wc.cell? ⟨gb148003,1,none⟩=some (.int .i64 a2_1):=(Zm BK148003.out 1).trans rfl
           have hcz66_2:wc.cell? ⟨gb148003,2,none⟩=some (.int .i64 a2_2):=(Zm BK148003.out 2).trans rfl
           have hcz66_3:wc.cell? ⟨gb148003,3,none⟩=some (.int .i64 a2_3):=(Zm BK148003.out 3).trans rfl
           have hcz66_4:wc.cell? ⟨gb148003,4,none⟩=some (.bool false):=(Zm BK148003.out 4).trans rfl
           have hfz66_0:=Zo BK148003.out 0
           have hfz66_1:=Zo BK148003.out 1
           have hfz66_2:=Zo BK148003.out 2
           have hfz66_3:=Zo BK148003.out 3
           have hfz66_4:=Zo BK148003.out 4
           have hnb67:=NB148001_148002.out
           have hnc67:=NB148002_148001.out
           have hcz68_0:wc.cell? ⟨gb148001,0,none⟩=some (.slice A0_0 l0_0.length c0_0):=(Zm BK148001.out 0).trans rfl
           have hcz68_1:wc.cell? ⟨gb148001,1,none⟩=some (.slice A0_1 l0_1.length c0_1):=(Zm BK148001.out 1).trans rfl
           have hcz68_2:wc.cell? ⟨gb148001,2,none⟩=some (.int .i64 a0_2):=(Zm BK148001.out 2).trans rfl
           have hfz68_0:=Zo BK148001.out 0
           have hfz68_1:=Zo BK148001.out 1
           have hfz68_2:=Zo BK148001.out 2
           have hcz69_0:wc.cell? ⟨gb148002,0,none⟩=some (.int .i64 a1_0):=(Zm BK148002.out 0).trans rfl
           have hcz69_1:wc.cell? ⟨gb148002,1,none⟩=some (.slice (some ad148004) l1_1.length c1_1):=(Zm BK148002.out 1).trans rfl
           have hcz69_2:wc.cell? ⟨gb148002,2,none⟩=some (.slice A1_2 l1_2.length c1_2):=(Zm BK148002.out 2).trans rfl
           have hfz69_0:=Zo BK148002.out 0
           have hfz69_1:=Zo BK148002.out 1
           have hfz69_2:=Zo BK148002.out 2
           go_wp2_with (first|(go_at_call 98;(with_reducible refine(ZV.calls kj7 _ _ l0_0 _ _ l0_1 a0_2 a1_0 _ _ l1_1 _ _ l1_2 a2_1 t148007 _ ?side1 ?side2 ?side3 ?side4 ?side5 ?side6 ?side7 ?side8 A53.out).mono ?_);(case side1=>exact(Zb HR0_0.out HB.out));(case side2=>exact HC0_0.out);(case side3=>exact(Zb HR0_1.out HB.out));(case side4=>exact HC0_1.out);(case side5=>exact(Zb HR1_1.out HB.out));(case side6=>exact HC1_1.out);(case side7=>exact(Zb HR1_2.out HB.out));(case side8=>exact HC1_2.out);rintro e w70 ⟨rfl,hb⟩;have n0_:=Za (Zw (g:=gb148001) (o:=.cells #[.slice A0_0 l0_0.length c0_0,.slice A0_1 l0_1.length c0_1,.int .i64 a0_2] 35 (0,0)) BK148001.out hb);have n1_:=Za (Zw (g:=gb148002) (o:=.cells #[.int .i64 a1_0,.slice (some ad148004) l1_1.length c1_1,.slice A1_2 l1_2.length c1_2] 66 (0,0)) BK148002.out hb);have n2_:=Za (Zw (g:=gb148003) (o:=.cells #[.int .i64 a2_0,.int .i64 a2_1,.int .i64 a2_2,.int .i64 a2_3,.bool false] 90 (0,0)) BK148003.out hb);have n3_:=Za (Zv (by exact HB.out) hb);clear BK148001;clear BK148002;clear BK148003;clear HB;have BK148001:=n0_;have BK148002:=n1_;have BK148003:=n2_;have HB:=n3_;clear n0_ n1_ n2_ n3_;(try clear hb);(try clear hb2);(try clear hk);(try clear hi)))
           go_ret
           exact⟨by first|rfl|(simp[Zy,Zx] <;> rfl)|(simp[*,Zy,Zx] <;> rfl),by repeat(first|(with_reducible first|exact HB.out|apply Zp|apply Zn|apply Zr|refine Zq ?_ GE148001.out|refine Zq ?_ GE148002.out|refine Zq ?_ GE148003.out)|exact HB.out)⟩
    ·rw[if_neg c7] at H
     exact absurd H (by simp)
   ·rw[if_neg c6] at H
    exact absurd H (by simp)
  ·rw[if_neg c5] at H
   exact absurd H (by simp)
 ·rw[if_neg c4] at H
  exact absurd H (by simp)
def Zaw.l0:Nat→List Int→Int→Int→List (S116)→List (S90)→Int→Int→List Int→List Int→Option (Bool)
 | 0,_,_,_,_,_,_,_,_,_=>none
 | k+1,x8,x9,x10,x149002000,x149002001,x149002002,x149003000,x149003001,x149003002=>if x10<x9 then(if 0≤x10 then(if x10<(x8.length:Int) then(if (rd x8 x10)=(-1) then((ZV.f k x149002000 x149002001 x149002002 x149003000 x149003001 x149003002 x10).bind fun t149004=>(if t149004=(-1) then(Zaw.l0 k x8 x9 (wrap64 (x10+1)) x149002000 x149002001 x149002002 x149003000 x149003001 x149003002) else(some false))) else(Zaw.l0 k x8 x9 (wrap64 (x10+1)) x149002000 x149002001 x149002002 x149003000 x149003001 x149003002)) else(none)) else(none)) else(some true)
def Zaw.f (k:Nat) (l0_0:List (S116)) (l0_1:List (S90)) (a0_2:Int) (a1_0:Int) (l1_1:List Int) (l1_2:List Int):Option (Bool):=Zaw.l0 k l1_1 (l1_1.length:Int) 0 l0_0 l0_1 a0_2 a1_0 l1_1 l1_2
set_option maxHeartbeats 8000000 in
set_option maxRecDepth 100000 in
theorem Zaw.calls (k:Nat) (A0_0:Option Addr) (c0_0:Nat) (l0_0:List (S116)) (A0_1:Option Addr) (c0_1:Nat) (l0_1:List (S90)) (a0_2:Int) (a1_0:Int) (A1_1:Option Addr) (c1_1:Nat) (l1_1:List Int) (A1_2:Option Addr) (c1_2:Nat) (l1_2:List Int) (r:Bool) (w:World) (hr0_0:Kd.C k116 w A0_0 l0_0.length l0_0) (hc0_0:l0_0.length≤c0_0) (hr0_1:Kd.C k90 w A0_1 l0_1.length l0_1) (hc0_1:l0_1.length≤c0_1) (hr1_1:Kd.C (Kd.int .i64) w A1_1 l1_1.length l1_1) (hc1_1:l1_1.length≤c1_1) (hr1_2:Kd.C (Kd.int .i64) w A1_2 l1_2.length l1_2) (hc1_2:l1_2.length≤c1_2) (h:Zaw.f k l0_0 l0_1 a0_2 a1_0 l1_1 l1_2=some r) :
  Calls Try.prog 149 #[.agg #[.slice A0_0 l0_0.length c0_0,.slice A0_1 l0_1.length c0_1,.int .i64 a0_2],.agg #[.int .i64 a1_0,.slice A1_1 l1_1.length c1_1,.slice A1_2 l1_2.length c1_2]] w fun e w'=>e=.returned (.bool r)∧Below w.heap.size w w':=by
 have hu35:=Try.underlying35
 have hu66:=Try.underlying66
 have HR0_0:=Za hr0_0;have HC0_0:=Za hc0_0;clear hr0_0 hc0_0;have HR0_1:=Za hr0_1;have HC0_1:=Za hc0_1;clear hr0_1 hc0_1;have HR1_1:=Za hr1_1;have HC1_1:=Za hc1_1;clear hr1_1 hc1_1;have HR1_2:=Za hr1_2;have HC1_2:=Za hc1_2;clear hr1_2 hc1_2
 have HB:=Za (Below.refl w.heap.size w)
 have H:(Zaw.l0 k l1_1 (l1_1.length:Int) 0 l0_0 l0_1 a0_2 a1_0 l1_1 l1_2)=some r:=h
 clear h
 have H':=Za H
 clear H
 go_enter Try.func149,Try.ntmps149
 go_wp2_with (first|((with_reducible refine ZG (N:=2) rfl ?_);refine ZE ?hg (N:=2) ?hd (cs:=#[.slice A0_0 l0_0.length c0_0,.slice A0_1 l0_1.length c0_1,.int .i64 a0_2]) (t:=35) ?hr ?_;(case hd=>rfl);(case hg=>rfl);(case hr=>first|(go_simp;done)|(go_simp;rfl));intro gb149001 hg w3 hbox hb;have n0_:=Za (Zv (by exact HB.out) hb);have n1_:=Za (hbox);have n2_:=Za ((by rw[hg];exact(Zz (by exact HB.out)):w.heap.size≤gb149001));have n3_:=n2_;clear HB;have HB:=n0_;have BK149001:=n1_;have GW149001:=n2_;have GE149001:=n3_;clear n0_ n1_ n2_ n3_;clear hb hbox hg)|((with_reducible refine ZG (N:=3) rfl ?_);refine ZE ?hg (N:=3) ?hd (cs:=#[.int .i64 a1_0,.slice A1_1 l1_1.length c1_1,.slice A1_2 l1_2.length c1_2]) (t:=66) ?hr ?_;(case hd=>rfl);(case hg=>rfl);(case hr=>first|(go_simp;done)|(go_simp;rfl));intro gb149002 hg w4 hbox hb;have n0_:=Za (Zw (g:=gb149001) (o:=.cells #[.slice A0_0 l0_0.length c0_0,.slice A0_1 l0_1.length c0_1,.int .i64 a0_2] 35 (0,0)) BK149001.out hb);have n1_:=Za (Zv (by exact HB.out) hb);have n2_:=Za (hbox);have n3_:=Za ((by rw[hg];exact(Zz (by exact HB.out)):w.heap.size≤gb149002));have n4_:=n3_;have n5_:=Za ((by rw[hg];exact Nat.ne_of_lt (ZK (g:=gb149001) (o:=.cells #[.slice A0_0 l0_0.length c0_0,.slice A0_1 l0_1.length c0_1,.int .i64 a0_2] 35 (0,0)) BK149001.out):gb149001≠gb149002));have n6_:=Za n5_.out.symm;clear BK149001;clear HB;have BK149001:=n0_;have HB:=n1_;have BK149002:=n2_;have GW149002:=n3_;have GE149002:=n4_;have NB149001_149002:=n5_;have NB149002_149001:=n6_;clear n0_ n1_ n2_ n3_ n4_ n5_ n6_;clear hb hbox hg;have hnb5:=NB149002_149001.out;have hnc5:=NB149001_149002.out;have hcz6_0:w4.cell? ⟨gb149002,0,none⟩=some (.int .i64 a1_0):=(Zm BK149002.out 0).trans rfl;have hcz6_1:w4.cell? ⟨gb149002,1,none⟩=some (.slice A1_1 l1_1.length c1_1):=(Zm BK149002.out 1).trans rfl;have hcz6_2:w4.cell? ⟨gb149002,2,none⟩=some (.slice A1_2 l1_2.length c1_2):=(Zm BK149002.out 2).trans rfl;have hfz6_0:=Zo BK149002.out 0;have hfz6_1:=Zo BK149002.out 1;have hfz6_2:=Zo BK149002.out 2))
 go_loopg [10] k (fun kq v10 w'=>∃(x10_1:Int),v10=.int .i64 x10_1∧Aside0 (Zaw.l0 kq l1_1 (l1_1.length:Int) x10_1 l0_0 l0_1 a0_2 a1_0 l1_1 l1_2=some r)∧Aside0 (kq≤k)∧Aside0 (w'.heap[gb149001]? = some (.cells #[(.slice A0_0 l0_0.length c0_0),(.slice A0_1 l0_1.length c0_1),.int .i64 a0_2] 35 (0,0)))∧Aside0 (w'.heap[gb149002]? = some (.cells #[.int .i64 a1_0,(.slice A1_1 l1_1.length c1_1),(.slice A1_2 l1_2.length c1_2)] 66 (0,0)))∧Aside0 (Below w.heap.size w w'))
 case atStart=>exact⟨(0),(by first|rfl|(simp;done)|(simp[*];done)),H',⟨Nat.le_refl _⟩,⟨by(with_reducible repeat(first|refine Zs ?_ _|refine Zu ?_|refine Zt ?_ _));exact BK149001.out⟩,⟨by(with_reducible repeat(first|refine Zs ?_ _|refine Zu ?_|refine Zt ?_ _));exact BK149002.out⟩,⟨by repeat(first|(with_reducible first|exact HB.out|apply Zp|apply Zn|apply Zr|refine Zq ?_ GE149001.out|refine Zq ?_ GE149002.out)|exact HB.out)⟩⟩
 case round=>
  clear H'
  try clear c1
  try clear p2
  try clear c5
  obtain⟨x10_1,rfl,HA,HK1,BK149001,BK149002,HB⟩:=hrel
  cases gk with
  | zero=>exact absurd HA.out (by simp[Zaw.l0])
  | succ k1=>
   have H:=HA.out
   clear HA
   simp only[Zaw.l0] at H
   by_cases c7:x10_1<(l1_1.length:Int)
   ·rw[if_pos c7] at H
    have c7b0:decide (x10_1<(l1_1.length:Int))=true:=Ze c7
    clear c7
    by_cases c8:0≤x10_1
    ·rw[if_pos c8] at H
     have c8b0:decide (0≤x10_1)=true:=Ze c8
     clear c8
     by_cases c9:x10_1<(l1_1.length:Int)
     ·rw[if_pos c9] at H
      have c9b0:decide (x10_1<(l1_1.length:Int))=true:=Ze c9
      clear c9
      by_cases c10:(rd l1_1 x10_1)=(-1)
      ·rw[if_pos c10] at H
       have c10b0:((rd l1_1 x10_1) == (-1))=true:=beq_iff_eq.mpr c10
       have c10b1:((rd l1_1 x10_1) != (-1))=false:=bne_eq_false_iff_eq.mpr c10
       clear c10
       replace H:=Zh H
       obtain⟨t149004,A110,H⟩:=H
       replace H:(if t149004=(-1) then(Zaw.l0 k1 l1_1 (l1_1.length:Int) (wrap64 (x10_1+1)) l0_0 l0_1 a0_2 a1_0 l1_1 l1_2) else(some false))=some r:=H
       have A11:=Za A110;clear A110
       by_cases c12:t149004=(-1)
       ·rw[if_pos c12] at H
        have c12b0:(t149004 == (-1))=true:=beq_iff_eq.mpr c12
        have c12b1:(t149004 != (-1))=false:=bne_eq_false_iff_eq.mpr c12
        clear c12
        have H':=Za H
        clear H
        have p149003:0≤(x10_1:Int):=Zd (by with_reducible assumption)
        have q149003:x10_1<(l1_1.length:Int):=Zd (by with_reducible assumption)
        obtain⟨ad149003,e149003,hx149003_0⟩:=Kd.at_int HR1_1.out x10_1 p149003 q149003
        cases e149003
        replace hx149003_0:=(HB.out.cell (Zc w _ hx149003_0)).trans hx149003_0
        replace p149003:=eq_true p149003
        replace q149003:=eq_true q149003
        have hnb13:=NB149001_149002.out
        have hnc13:=NB149002_149001.out
        have hcz14_0:wr.cell? ⟨gb149001,0,none⟩=some (.slice A0_0 l0_0.length c0_0):=(Zm BK149001.out 0).trans rfl
        have hcz14_1:wr.cell? ⟨gb149001,1,none⟩=some (.slice A0_1 l0_1.length c0_1):=(Zm BK149001.out 1).trans rfl
        have hcz14_2:wr.cell? ⟨gb149001,2,none⟩=some (.int .i64 a0_2):=(Zm BK149001.out 2).trans rfl
        have hfz14_0:=Zo BK149001.out 0
        have hfz14_1:=Zo BK149001.out 1
        have hfz14_2:=Zo BK149001.out 2
        have hcz15_0:wr.cell? ⟨gb149002,0,none⟩=some (.int .i64 a1_0):=(Zm BK149002.out 0).trans rfl
        have hcz15_1:wr.cell? ⟨gb149002,1,none⟩=some (.slice (some ad149003) l1_1.length c1_1):=(Zm BK149002.out 1).trans rfl
        have hcz15_2:wr.cell? ⟨gb149002,2,none⟩=some (.slice A1_2 l1_2.length c1_2):=(Zm BK149002.out 2).trans rfl
        have hfz15_0:=Zo BK149002.out 0
        have hfz15_1:=Zo BK149002.out 1
        have hfz15_2:=Zo BK149002.out 2
        go_wp2_with (first|(go_at_call 98;(with_reducible refine(ZV.calls k1 _ _ l0_0 _ _ l0_1 a0_2 a1_0 _ _ l1_1 _ _ l1_2 x10_1 t149004 _ ?side1 ?side2 ?side3 ?side4 ?side5 ?side6 ?side7 ?side8 A11.out).mono ?_);(case side1=>exact(Zb HR0_0.out HB.out));(case side2=>exact HC0_0.out);(case side3=>exact(Zb HR0_1.out HB.out));(case side4=>exact HC0_1.out);(case side5=>exact(Zb HR1_1.out HB.out));(case side6=>exact HC1_1.out);(case side7=>exact(Zb HR1_2.out HB.out));(case side8=>exact HC1_2.out);rintro e w16 ⟨rfl,hb⟩;have n0_:=Za (Zw (g:=gb149001) (o:=.cells #[.slice A0_0 l0_0.length c0_0,.slice A0_1 l0_1.length c0_1,.int .i64 a0_2] 35 (0,0)) BK149001.out hb);have n1_:=Za (Zw (g:=gb149002) (o:=.cells #[.int .i64 a1_0,.slice (some ad149003) l1_1.length c1_1,.slice A1_2 l1_2.length c1_2] 66 (0,0)) BK149002.out hb);have n2_:=Za (Zv (by exact HB.out) hb);clear BK149001;clear BK149002;clear HB;have BK149001:=n0_;have BK149002:=n1_;have HB:=n2_;clear n0_ n1_ n2_;(try clear hb);(try clear hb2);(try clear hk);(try clear hi)))
        go_roundg k1
        case measure=>have:=HK1.out;omega
        case rel=>exact⟨(wrap64 (x10_1+1)),(by first|rfl|(simp;done)|(simp[*];done)),H',⟨by have:=HK1.out;omega⟩,⟨by(with_reducible repeat(first|refine Zs ?_ _|refine Zu ?_|refine Zt ?_ _));exact BK149001.out⟩,⟨by(with_reducible repeat(first|refine Zs ?_ _|refine Zu ?_|refine Zt ?_ _));exact BK149002.out⟩,⟨by repeat(first|(with_reducible first|exact HB.out|apply Zp|apply Zn|apply Zr|refine Zq ?_ GE149001.out|refine Zq ?_ GE149002.out)|exact HB.out)⟩⟩
       ·rw[if_neg c12] at H
        have c12b0:(t149004 == (-1))=false:=beq_eq_false_iff_ne.mpr c12
        have c12b1:(t149004 != (-1))=true:=bne_iff_ne.mpr c12
        obtain rfl:=Zg H
        have p149003:0≤(x10_1:Int):=Zd (by with_reducible assumption)
        have q149003:x10_1<(l1_1.length:Int):=Zd (by with_reducible assumption)
        obtain⟨ad149003,e149003,hx149003_0⟩:=Kd.at_int HR1_1.out x10_1 p149003 q149003
        cases e149003
        replace hx149003_0:=(HB.out.cell (Zc w _ hx149003_0)).trans hx149003_0
        replace p149003:=eq_true p149003
        replace q149003:=eq_true q149003
        have hnb17:=NB149001_149002.out
        have hnc17:=NB149002_149001.out
        have hcz18_0:wr.cell? ⟨gb149001,0,none⟩=some (.slice A0_0 l0_0.length c0_0):=(Zm BK149001.out 0).trans rfl
        have hcz18_1:wr.cell? ⟨gb149001,1,none⟩=some (.slice A0_1 l0_1.length c0_1):=(Zm BK149001.out 1).trans rfl
        have hcz18_2:wr.cell? ⟨gb149001,2,none⟩=some (.int .i64 a0_2):=(Zm BK149001.out 2).trans rfl
        have hfz18_0:=Zo BK149001.out 0
        have hfz18_1:=Zo BK149001.out 1
        have hfz18_2:=Zo BK149001.out 2
        have hcz19_0:wr.cell? ⟨gb149002,0,none⟩=some (.int .i64 a1_0):=(Zm BK149002.out 0).trans rfl
        have hcz19_1:wr.cell? ⟨gb149002,1,none⟩=some (.slice (some ad149003) l1_1.length c1_1):=(Zm BK149002.out 1).trans rfl
        have hcz19_2:wr.cell? ⟨gb149002,2,none⟩=some (.slice A1_2 l1_2.length c1_2):=(Zm BK149002.out 2).trans rfl
        have hfz19_0:=Zo BK149002.out 0
        have hfz19_1:=Zo BK149002.out 1
        have hfz19_2:=Zo BK149002.out 2
        go_wp2_with (first|(go_at_call 98;(with_reducible refine(ZV.calls k1 _ _ l0_0 _ _ l0_1 a0_2 a1_0 _ _ l1_1 _ _ l1_2 x10_1 t149004 _ ?side1 ?side2 ?side3 ?side4 ?side5 ?side6 ?side7 ?side8 A11.out).mono ?_);(case side1=>exact(Zb HR0_0.out HB.out));(case side2=>exact HC0_0.out);(case side3=>exact(Zb HR0_1.out HB.out));(case side4=>exact HC0_1.out);(case side5=>exact(Zb HR1_1.out HB.out));(case side6=>exact HC1_1.out);(case side7=>exact(Zb HR1_2.out HB.out));(case side8=>exact HC1_2.out);rintro e w20 ⟨rfl,hb⟩;have n0_:=Za (Zw (g:=gb149001) (o:=.cells #[.slice A0_0 l0_0.length c0_0,.slice A0_1 l0_1.length c0_1,.int .i64 a0_2] 35 (0,0)) BK149001.out hb);have n1_:=Za (Zw (g:=gb149002) (o:=.cells #[.int .i64 a1_0,.slice (some ad149003) l1_1.length c1_1,.slice A1_2 l1_2.length c1_2] 66 (0,0)) BK149002.out hb);have n2_:=Za (Zv (by exact HB.out) hb);clear BK149001;clear BK149002;clear HB;have BK149001:=n0_;have BK149002:=n1_;have HB:=n2_;clear n0_ n1_ n2_;(try clear hb);(try clear hb2);(try clear hk);(try clear hi)))
        go_ret
        exact⟨by first|rfl|(simp[Zy,Zx] <;> rfl)|(simp[*,Zy,Zx] <;> rfl),by repeat(first|(with_reducible first|exact HB.out|apply Zp|apply Zn|apply Zr|refine Zq ?_ GE149001.out|refine Zq ?_ GE149002.out)|exact HB.out)⟩
      ·rw[if_neg c10] at H
       have c10b0:((rd l1_1 x10_1) == (-1))=false:=beq_eq_false_iff_ne.mpr c10
       have c10b1:((rd l1_1 x10_1) != (-1))=true:=bne_iff_ne.mpr c10
       have H':=Za H
       clear H
       have p149003:0≤(x10_1:Int):=Zd (by with_reducible assumption)
       have q149003:x10_1<(l1_1.length:Int):=Zd (by with_reducible assumption)
       obtain⟨ad149003,e149003,hx149003_0⟩:=Kd.at_int HR1_1.out x10_1 p149003 q149003
       cases e149003
       replace hx149003_0:=(HB.out.cell (Zc w _ hx149003_0)).trans hx149003_0
       replace p149003:=eq_true p149003
       replace q149003:=eq_true q149003
       go_wp2
       go_roundg k1
       case measure=>have:=HK1.out;omega
       case rel=>exact⟨(wrap64 (x10_1+1)),(by first|rfl|(simp;done)|(simp[*];done)),H',⟨by have:=HK1.out;omega⟩,⟨by(with_reducible repeat(first|refine Zs ?_ _|refine Zu ?_|refine Zt ?_ _));exact BK149001.out⟩,⟨by(with_reducible repeat(first|refine Zs ?_ _|refine Zu ?_|refine Zt ?_ _));exact BK149002.out⟩,⟨by repeat(first|(with_reducible first|exact HB.out|apply Zp|apply Zn|apply Zr|refine Zq ?_ GE149001.out|refine Zq ?_ GE149002.out)|exact HB.out)⟩⟩
     ·rw[if_neg c9] at H
      exact absurd H (by simp)
    ·rw[if_neg c8] at H
     exact absurd H (by simp)
   ·rw[if_neg c7] at H
    have c7b0:decide (x10_1<(l1_1.length:Int))=false:=Zf c7
    clear c7
    obtain rfl:=Zg H
    go_wp2
    go_ret
    exact⟨by first|rfl|(simp[Zy,Zx] <;> rfl)|(simp[*,Zy,Zx] <;> rfl),by repeat(first|(with_reducible first|exact HB.out|apply Zp|apply Zn|apply Zr|refine Zq ?_ GE149001.out|refine Zq ?_ GE149002.out)|exact HB.out)⟩
end Go.Proofs.Ytodfnelilhjoeaa.Pr
namespace Go.Proofs.Ytodfnelilhjoeaa.Pr
open Go.RowKit Go.Proofs.YtodfnelilhjoeaaW.PrintWords Go.Proofs.YtodfnelilhjoeaaW.PrintLast Go.Proofs.YtodfnelilhjoeaaW.PrintMore
attribute [local go_sem] Zaj Zah Zat Zas Zaa Z9 Zai Zag
set_option linter.unusedVariables false
set_option linter.unusedSimpArgs false
open Go.Proofs.Ytodfnelilhjoeaa.Ni
def Zac.p (k:Nat) (l0_0:List (S116)) (l0_1:List (S90)) (a0_2:Int) (a1_0:Int) (l1_1:List Int) (l1_2:List Int) (t:S90):Option Bool:=Zaq.f k l0_0 l0_1 a0_2 a1_0 l1_1 l1_2 t.f0 t.f1 t.f2 t.f3 t.f4
def Zac.f (k:Nat) (l0_0:List (S116)) (l0_1:List (S90)) (a0_2:Int) (a1_0:Int) (l1_1:List Int) (l1_2:List Int):Option Bool:=
 if l0_1.all (fun t=>(Zac.p k l0_0 l0_1 a0_2 a1_0 l1_1 l1_2 t).isSome)=true then
  (if l0_1.any (fun t=>Zac.p k l0_0 l0_1 a0_2 a1_0 l1_1 l1_2 t == some true)=true then some true
  else if a0_2<a1_0 then(Zaw.f k l0_0 l0_1 a0_2 a1_0 l1_1 l1_2).bind fun b=>some (!b) else some false) else none
set_option maxHeartbeats 8000000 in
theorem Zd4.clo (k:Nat) (B D:Nat) (A0_0:Option Addr) (c0_0:Nat) (l0_0:List S116) (A0_1:Option Addr) (c0_1:Nat) (l0_1:List S90) (a0_2:Int) (a1_0:Int) (A1_1:Option Addr) (c1_1:Nat) (l1_1:List Int) (A1_2:Option Addr) (c1_2:Nat) (l1_2:List Int) (x:S90) (r:Bool) (W:World)
  (h0:W.cell? ⟨B,0,none⟩=some (.slice A0_0 l0_0.length c0_0)) (h1:W.cell? ⟨B,1,none⟩=some (.slice A0_1 l0_1.length c0_1)) (h2:W.cell? ⟨B,2,none⟩=some (.int .i64 a0_2))
  (g0:W.cell? ⟨D,0,none⟩=some (.int .i64 a1_0)) (g1:W.cell? ⟨D,1,none⟩=some (.slice A1_1 l1_1.length c1_1)) (g2:W.cell? ⟨D,2,none⟩=some (.slice A1_2 l1_2.length c1_2))
  (hr0_0:Kd.C k116 W A0_0 l0_0.length l0_0) (hc0_0:l0_0.length≤c0_0) (hr0_1:Kd.C k90 W A0_1 l0_1.length l0_1) (hc0_1:l0_1.length≤c0_1) (hr1_1:Kd.C (Kd.int .i64) W A1_1 l1_1.length l1_1) (hc1_1:l1_1.length≤c1_1) (hr1_2:Kd.C (Kd.int .i64) W A1_2 l1_2.length l1_2) (hc1_2:l1_2.length≤c1_2)
  (hf:Zac.p k l0_0 l0_1 a0_2 a1_0 l1_1 l1_2 x=some r) :
  Calls Try.prog 147 #[.agg #[.int .i64 x.f0,.int .i64 x.f1,.int .i64 x.f2,.int .i64 x.f3,.bool x.f4],.pointer (some ⟨B,0,none⟩),.pointer (some ⟨D,0,none⟩)] W fun e w'=>e=.returned (.bool r)∧Below W.heap.size W w':=by
 have hltB:B<W.heap.size:=Zc W _ h0
 have hltD:D<W.heap.size:=Zc W _ g0
 have B1:=Za (Zp (Below.refl W.heap.size W) (.cells #[.int .i64 x.f0,.int .i64 x.f1,.int .i64 x.f2,.int .i64 x.f3,.bool x.f4] 90))
 have HC:=Za fun (W':World) (hb:Below W.heap.size W W')=>Zaq.calls k A0_0 c0_0 l0_0 A0_1 c0_1 l0_1 a0_2 a1_0 A1_1 c1_1 l1_1 A1_2 c1_2 l1_2 x.f0 x.f1 x.f2 x.f3 x.f4 r W' (Zb hr0_0 hb) hc0_0 (Zb hr0_1 hb) hc0_1 (Zb hr1_1 hb) hc1_1 (Zb hr1_2 hb) hc1_2 hf
 have hu:=Try.underlying35
 have hu2:=Try.underlying66
 have hu3:=Try.underlying90
 clear hr0_0 hr0_1 hr1_1 hr1_2 hf hc0_0 hc0_1 hc1_1 hc1_2
 go_enter Try.func147,Try.ntmps147
 go_wp2_with (go_at_call 148;refine(HC.out _ B1.out).mono ?_;rintro e w' ⟨rfl,hb⟩)
 go_ret
 exact⟨rfl,B1.out.trans (hb.mono B1.out.size)⟩
set_option maxHeartbeats 8000000 in
set_option maxRecDepth 100000 in
theorem Zac.calls (k:Nat) (A0_0:Option Addr) (c0_0:Nat) (l0_0:List (S116)) (A0_1:Option Addr) (c0_1:Nat) (l0_1:List (S90)) (a0_2:Int) (a1_0:Int) (A1_1:Option Addr) (c1_1:Nat) (l1_1:List Int) (A1_2:Option Addr) (c1_2:Nat) (l1_2:List Int) (r:Bool) (w:World) (hr0_0:Kd.C k116 w A0_0 l0_0.length l0_0) (hc0_0:l0_0.length≤c0_0) (hr0_1:Kd.C k90 w A0_1 l0_1.length l0_1) (hc0_1:l0_1.length≤c0_1) (hr1_1:Kd.C (Kd.int .i64) w A1_1 l1_1.length l1_1) (hc1_1:l1_1.length≤c1_1) (hr1_2:Kd.C (Kd.int .i64) w A1_2 l1_2.length l1_2) (hc1_2:l1_2.length≤c1_2) (h:Zac.f k l0_0 l0_1 a0_2 a1_0 l1_1 l1_2=some r) :
  Calls Try.prog 102 #[.agg #[.slice A0_0 l0_0.length c0_0,.slice A0_1 l0_1.length c0_1,.int .i64 a0_2],.agg #[.int .i64 a1_0,.slice A1_1 l1_1.length c1_1,.slice A1_2 l1_2.length c1_2]] w fun e w'=>e=.returned (.bool r)∧Below w.heap.size w w':=by
 unfold Zac.f at h
 by_cases hall:l0_1.all (fun t=>(Zac.p k l0_0 l0_1 a0_2 a1_0 l1_1 l1_2 t).isSome)=true
 case neg=>rw[if_neg hall] at h;exact absurd h (by simp)
 rw[if_pos hall] at h
 have HP:=Za (show ∀t∈l0_1,Zac.p k l0_0 l0_1 a0_2 a1_0 l1_1 l1_2 t=some (Zac.p k l0_0 l0_1 a0_2 a1_0 l1_1 l1_2 t == some true) from fun t ht=>by
  obtain⟨b,hb⟩:=Option.isSome_iff_exists.1 (List.all_eq_true.1 hall t ht)
  rw[hb]
  cases b <;> rfl)
 have H:=Za h;have HR0:=Za hr0_0;have HC0:=Za hc0_0;have HR1:=Za hr0_1;have HC1:=Za hc0_1;have HS1:=Za hr1_1;have HD1:=Za hc1_1;have HS2:=Za hr1_2;have HD2:=Za hc1_2;clear hr0_0 hc0_0 hr0_1 hc0_1 hr1_1 hc1_1 hr1_2 hc1_2 h hall
 have hu:=Try.underlying35
 have hu2:=Try.underlying66
 have B1:=Za (Zp (Below.refl w.heap.size w) (.cells #[.slice A0_0 l0_0.length c0_0,.slice A0_1 l0_1.length c0_1,.int .i64 a0_2] 35))
 have B2:=Za (Zp (Below.refl (w.alloc (.cells #[.slice A0_0 l0_0.length c0_0,.slice A0_1 l0_1.length c0_1,.int .i64 a0_2] 35)).heap.size (w.alloc (.cells #[.slice A0_0 l0_0.length c0_0,.slice A0_1 l0_1.length c0_1,.int .i64 a0_2] 35))) (.cells #[.int .i64 a1_0,.slice A1_1 l1_1.length c1_1,.slice A1_2 l1_2.length c1_2] 66))
 have B3:=Za (B1.out.trans (B2.out.mono B1.out.size))
 obtain⟨W1,hW1⟩:∃W1,W1=(w.alloc (.cells #[.slice A0_0 l0_0.length c0_0,.slice A0_1 l0_1.length c0_1,.int .i64 a0_2] 35)).alloc (.cells #[.int .i64 a1_0,.slice A1_1 l1_1.length c1_1,.slice A1_2 l1_2.length c1_2] 66):=⟨_,rfl⟩
 have CS:=Za (show W1.cell? ⟨w.heap.size,0,none⟩=some (.slice A0_0 l0_0.length c0_0)∧W1.cell? ⟨w.heap.size,1,none⟩=some (.slice A0_1 l0_1.length c0_1)∧W1.cell? ⟨w.heap.size,2,none⟩=some (.int .i64 a0_2) from by
  rw[hW1]
  exact⟨ZI B2.out (Zds w _ _ _ _),ZI B2.out (Zdr w _ _ _ _),ZI B2.out (Zdq w _ _ _ _)⟩)
 have CX:=Za (show W1.cell? ⟨w.heap.size+1,0,none⟩=some (.int .i64 a1_0)∧W1.cell? ⟨w.heap.size+1,1,none⟩=some (.slice A1_1 l1_1.length c1_1)∧W1.cell? ⟨w.heap.size+1,2,none⟩=some (.slice A1_2 l1_2.length c1_2) from by
  rw[hW1]
  exact⟨by go_simp,by go_simp,by go_simp⟩)
 rw[← hW1] at B2 B3
 have HCF:=Za (Zdw.any (fun t=>Zac.p k l0_0 l0_1 a0_2 a1_0 l1_1 l1_2 t == some true) 147 #[.pointer (some ⟨w.heap.size,0,none⟩),.pointer (some ⟨w.heap.size+1,0,none⟩)] (enters_of Try.func147 (by kernel_rfl) rfl) A0_1 c0_1 l0_1 W1 (Zb HR1.out B3.out)
  (fun W' x hx hb'=>Zd4.clo k w.heap.size (w.heap.size+1) A0_0 c0_0 l0_0 A0_1 c0_1 l0_1 a0_2 a1_0 A1_1 c1_1 l1_1 A1_2 c1_2 l1_2 x _ W' (ZI hb' CS.out.1) (ZI hb' CS.out.2.1) (ZI hb' CS.out.2.2) (ZI hb' CX.out.1) (ZI hb' CX.out.2.1) (ZI hb' CX.out.2.2)
   (Zb (Zb HR0.out B3.out) hb') HC0.out (Zb (Zb HR1.out B3.out) hb') HC1.out (Zb (Zb HS1.out B3.out) hb') HD1.out (Zb (Zb HS2.out B3.out) hb') HD2.out (HP.out x hx)))
 have HOV:=Za fun (b:Bool) (hb:Zaw.f k l0_0 l0_1 a0_2 a1_0 l1_1 l1_2=some b) (W:World) (hB:Below w.heap.size w W)=>Zaw.calls k A0_0 c0_0 l0_0 A0_1 c0_1 l0_1 a0_2 a1_0 A1_1 c1_1 l1_1 A1_2 c1_2 l1_2 b W (Zb HR0.out hB) HC0.out (Zb HR1.out hB) HC1.out (Zb HS1.out hB) HD1.out (Zb HS2.out hB) HD2.out hb
 go_enter Try.func102,Try.ntmps102
 have HE1:=Za fun (b5:l0_1.any (fun t=>Zac.p k l0_0 l0_1 a0_2 a1_0 l1_1 l1_2 t == some true)=true)=>show true=r from by
  have h:=H.out
  rw[if_pos b5] at h
  exact Zg h
 have HE2:=Za fun (b5:l0_1.any (fun t=>Zac.p k l0_0 l0_1 a0_2 a1_0 l1_1 l1_2 t == some true)=false)=>show(if a0_2<a1_0 then(Zaw.f k l0_0 l0_1 a0_2 a1_0 l1_1 l1_2).bind fun b=>some (!b) else some false)=some r from by
  have h:=H.out
  rw[if_neg (by rw[b5];simp)] at h
  exact h
 clear H
 cases b5:l0_1.any (fun t=>Zac.p k l0_0 l0_1 a0_2 a1_0 l1_1 l1_2 t == some true) with
 | true=>
  have HE:=Za (HE1.out b5)
  rw[b5] at HCF
  clear HE1 HE2
  go_wp2_with fail
  rw[← hW1]
  refine HCF.out.mono ?_
  rintro e w3 ⟨rfl,hb⟩
  have HB:=Za (B3.out.trans (hb.mono B3.out.size))
  clear hb b5
  go_wp2
  go_ret
  exact⟨by rw[HE.out];rfl,HB.out⟩
 | false=>
  have HE:=Za (HE2.out b5)
  rw[b5] at HCF
  clear HE1 HE2
  go_wp2_with fail
  rw[← hW1]
  refine HCF.out.mono ?_
  rintro e w3 ⟨rfl,hb⟩
  have HB:=Za (B3.out.trans (hb.mono B3.out.size))
  obtain⟨s0,s1,s2⟩:=CS.out
  obtain⟨x0,x1,x2⟩:=CX.out
  replace s0:=ZI hb s0
  replace s1:=ZI hb s1
  replace s2:=ZI hb s2
  replace x0:=ZI hb x0
  replace x1:=ZI hb x1
  replace x2:=ZI hb x2
  clear hb b5
  by_cases hz:a0_2<a1_0
  ·have hdz:decide (a0_2<a1_0)=true:=Ze hz
   have hE:=HE.out
   rw[if_pos hz] at hE
   obtain⟨b,hb,hr⟩:=Zh hE
   have HR:=Za (Zg hr)
   have HO:=Za (HOV.out b hb)
   clear hE hb hr HE
   cases b
   all_goals
    go_wp2_with (go_at_call 149;refine(HO.out _ HB.out).mono ?_;rintro e w4 ⟨rfl,hb⟩)
    go_ret
    exact⟨by rw[← HR.out];rfl,HB.out.trans (hb.mono HB.out.size)⟩
  ·have hdz:decide (a0_2<a1_0)=false:=Zf hz
   have HE':=Za (show false=r from by have h:=HE.out;rw[if_neg hz] at h;exact Zg h)
   go_wp2
   go_ret
   exact⟨by rw[HE'.out];rfl,HB.out⟩
set_option maxHeartbeats 4000000 in
theorem impl_Node.any (p:S116→Bool) (g:Nat) (lb:Array Value) (eg:∀args w,(callFunc g args).run Try.prog w=.ok (.enter g args) w) (A0:Option Addr) (c0:Nat) (l0:List S116) (w:World) (hr0:Kd.C k116 w A0 l0.length l0)
  (hp:∀(W:World) (x:S116) (A1_:Option Addr) (c1_:Nat),x∈l0→Below w.heap.size w W→x.f1.length≤c1_→Kd.C (Kd.int .i64) W A1_ x.f1.length x.f1→Calls Try.prog g (#[.agg #[.string x.f0,.slice A1_ x.f1.length c1_,.int .i64 x.f2]] ++ lb) W fun e w'=>e=.returned (.bool (p x))∧Below W.heap.size W w') :
  Calls Try.prog 164 #[.slice A0 l0.length c0,.func (.func g) #[] lb] w fun e w'=>e=.returned (.int .i64 (Zbo p l0))∧Below w.heap.size w w':=by
 have HR0:=Za hr0;have HP:=Za hp;clear hr0 hp
 have HL:l0.length≤9223372036854775807:=HR0.out.2.1
 go_enter Try.func164,Try.ntmps164
 go_wp2
 go_loopg [5,8] l0.length (fun gg _ s8 wr=>∃kk:Nat,Aside0 (kk≤l0.length)∧Aside0 (l0.length - kk≤gg)∧s8=.int .i64 kk∧Aside0 (Below w.heap.size w wr)∧Aside0 (∀j y,j<kk→l0[j]? = some y→p y=false))
 case atStart=>exact⟨0,⟨Nat.zero_le _⟩,⟨by omega⟩,rfl,⟨Below.refl _ _⟩,⟨fun j y hj=>absurd hj (Nat.not_lt_zero _)⟩⟩
 case round=>
  obtain⟨kk,HK,HG,rfl,HB,HN⟩:=hrel
  by_cases hlt:kk<l0.length
  ·have hltz:(kk:Int)<(l0.length:Int):=by omega
   obtain⟨ad,A1_,c1_,e1,hx0,hx1,hx2,l1_,g1_⟩:=Zak HR0.out (kk:Int) (by omega) hltz
   cases e1
   replace hx0:=(HB.out.cell (Zc w _ hx0)).trans hx0
   rw[Int.toNat_natCast] at hx0
   replace hx1:=(HB.out.cell (Zc w _ hx1)).trans hx1
   rw[Int.toNat_natCast] at hx1
   replace hx2:=(HB.out.cell (Zc w _ hx2)).trans hx2
   rw[Int.toNat_natCast] at hx2
   have hxe:l0[kk]? = some (ZA l0 (kk:Int)):=by
    unfold ZA
    rw[Int.toNat_natCast,List.getD_eq_getElem?_getD,Zl hlt];rfl
   generalize ZA l0 (kk:Int)=y at hx0 hx1 hx2 l1_ g1_ hxe
   have HX:=Za hxe;clear hxe
   have hcall:=HP.out wr y A1_ c1_ (List.mem_of_getElem? HX.out) HB.out l1_ (Zb g1_ HB.out)
   clear g1_ l1_
   cases hq:p y with
   | true=>
    have HQ:=Za hq
    rw[hq] at hcall
    clear hq
    go_wp2_with (go_at_fn g;refine hcall.mono ?_;rintro e w' ⟨rfl,hb⟩)
    go_ret
    exact⟨by rw[ZbN p l0 kk y HX.out HQ.out HN.out];rfl,HB.out.trans (hb.mono HB.out.size)⟩
   | false=>
    have HQ:=Za hq
    rw[hq] at hcall
    clear hq
    go_wp2_with (go_at_fn g;refine hcall.mono ?_;rintro e w' ⟨rfl,hb⟩)
    go_roundg (l0.length - (kk+1))
    case measure=>have:=HG.out;omega
    case rel=>
     refine⟨kk+1,⟨by omega⟩,⟨by omega⟩,by go_num,⟨HB.out.trans (hb.mono HB.out.size)⟩,⟨fun j y' hj hy=>?_⟩⟩
     by_cases e:j=kk
     ·subst e
      rw[HX.out] at hy
      cases hy
      exact HQ.out
     ·exact HN.out j y' (by omega) hy
  ·have hltz:¬(kk:Int)<(l0.length:Int):=by omega
   have:kk=l0.length:=by have:=HK.out;omega
   subst this
   go_wp2
   go_ret
   exact⟨by rw[ZbF p l0 HN.out];rfl,HB.out⟩
def Zbc (ns:List S116) (p:Int):Int:=Zbo (fun n=>decide (0<p) && decide (n.f2=p)) ns
def ZaM.f (l0_0:List (S116)) (l0_1:List (S90)) (a0_2:Int) (a1:Int):Option Int:=some (Zbc l0_0 a1)
theorem Zeg.clo (B:Nat) (p:Int) (W:World) (hB:W.cell? ⟨B,0,none⟩=some (.int .i64 p)) (x:S116) (A1_:Option Addr) (c1_:Nat) :
  Calls Try.prog 165 #[.agg #[.string x.f0,.slice A1_ x.f1.length c1_,.int .i64 x.f2],.pointer (some ⟨B,0,none⟩)] W fun e w'=>e=.returned (.bool (decide (0<p) && decide (x.f2=p)))∧Below W.heap.size W w':=by
 have hlt:B<W.heap.size:=Zc W _ hB
 have HE:=Za (show(x.f2 == p)=decide (x.f2=p) by rw[Bool.eq_iff_iff];simp)
 cases hp:decide (0<p) with
 | false=>
  go_enter Try.func165,Try.ntmps165
  go_wp2
  go_ret
  exact⟨rfl,(Below.refl _ _).alloc (Nat.le_refl _) _⟩
 | true=>
  go_enter Try.func165,Try.ntmps165
  go_wp2
  go_ret
  exact⟨by rw[← HE.out];rfl,(Below.refl _ _).alloc (Nat.le_refl _) _⟩
set_option maxHeartbeats 4000000 in
theorem ZaM.calls (A0_0:Option Addr) (c0_0:Nat) (l0_0:List (S116)) (A0_1:Option Addr) (c0_1:Nat) (l0_1:List (S90)) (a0_2:Int) (a1:Int) (r:Int) (w:World) (hr0_0:Kd.C k116 w A0_0 l0_0.length l0_0) (hc0_0:l0_0.length≤c0_0) (hr0_1:Kd.C k90 w A0_1 l0_1.length l0_1) (hc0_1:l0_1.length≤c0_1) (h:ZaM.f l0_0 l0_1 a0_2 a1=some r) :
  Calls Try.prog 126 #[.agg #[.slice A0_0 l0_0.length c0_0,.slice A0_1 l0_1.length c0_1,.int .i64 a0_2],.int .i64 a1] w fun e w'=>e=.returned (.int .i64 r)∧Below w.heap.size w w':=by
 obtain rfl:=Zg h
 have HC':=Za fun (W:World) (B:Nat) (hb:Below w.heap.size w W) (hcell:W.cell? ⟨B,0,none⟩=some (.int .i64 a1))=>impl_Node.any (fun n=>decide (0<a1) && decide (n.f2=a1)) 165 #[.pointer (some ⟨B,0,none⟩)] (enters_of Try.func165 (by kernel_rfl) rfl) A0_0 c0_0 l0_0 W (Zb hr0_0 hb)
    (fun W' x A1_ c1_ _ hb' _ _=>Zeg.clo B a1 W' ((hb'.cell (Zc W _ hcell)).trans hcell) x A1_ c1_)
 clear hr0_0 hr0_1 h
 have HB2:=Za (((Below.refl w.heap.size w).alloc (Nat.le_refl _) (.cells #[.slice A0_0 l0_0.length c0_0,.slice A0_1 l0_1.length c0_1,.int .i64 a0_2] 35)).alloc (by simp) (.cells #[.int .i64 a1] 3))
 have hu:=Try.underlying35
 go_enter Try.func126,Try.ntmps126
 go_wp2_with fail
 refine(HC'.out _ _ HB2.out (by go_simp)).mono ?_
 rintro e w' ⟨rfl,hb⟩
 go_wp2
 go_ret
 exact⟨rfl,HB2.out.trans (hb.mono HB2.out.size)⟩
end Go.Proofs.Ytodfnelilhjoeaa.Pr
namespace Go.Proofs.Ytodfnelilhjoeaa.Pr
open Go.RowKit Go.Proofs.YtodfnelilhjoeaaW.PrintWords Go.Proofs.YtodfnelilhjoeaaW.PrintLast Go.Proofs.YtodfnelilhjoeaaW.PrintMore
attribute [local go_sem] Zaj Zah Zat Zas Zaa Z9 Zai Zag
set_option linter.unusedVariables false
set_option linter.unusedSimpArgs false
mutual
def ZN.j0:Nat→Bool→List (S116)→List (S90)→Int→Int→List Int→List Int→Option (Bool)
 | 0,_,_,_,_,_,_,_=>none
 | k+1,x35,x142002000,x142002001,x142002002,x142003000,x142003001,x142003002=>if x35=true then(some false) else(ZN.l0 k x142003001 (x142003001.length:Int) 0 x142002000 x142002001 x142002002 x142003000 x142003001 x142003002)
def ZN.l0:Nat→List Int→Int→Int→List (S116)→List (S90)→Int→Int→List Int→List Int→Option (Bool)
 | 0,_,_,_,_,_,_,_,_,_=>none
 | k+1,x37,x38,x39,x142002000,x142002001,x142002002,x142003000,x142003001,x142003002=>if x39<x38 then(if 0≤x39 then(if x39<(x37.length:Int) then(if x39=0 then(if (rd x37 x39)=0 then(if x39 > 0 then(if (rd x37 x39)<(-1) then(some false) else(if (rd x37 x39) > (wrap64 (x142003000 - 1)) then(some false) else(ZN.l0 k x37 x38 (wrap64 (x39+1)) x142002000 x142002001 x142002002 x142003000 x142003001 x142003002))) else(ZN.l0 k x37 x38 (wrap64 (x39+1)) x142002000 x142002001 x142002002 x142003000 x142003001 x142003002)) else(some false)) else(if x39 > 0 then(if (rd x37 x39)<(-1) then(some false) else(if (rd x37 x39) > (wrap64 (x142003000 - 1)) then(some false) else(ZN.l0 k x37 x38 (wrap64 (x39+1)) x142002000 x142002001 x142002002 x142003000 x142003001 x142003002))) else(ZN.l0 k x37 x38 (wrap64 (x39+1)) x142002000 x142002001 x142002002 x142003000 x142003001 x142003002))) else(none)) else(none)) else(ZN.l1 k x142003002 (x142003002.length:Int) 0 x142002000 x142002001 x142002002 x142003000 x142003001 x142003002)
def ZN.l1:Nat→List Int→Int→Int→List (S116)→List (S90)→Int→Int→List Int→List Int→Option (Bool)
 | 0,_,_,_,_,_,_,_,_,_=>none
 | k+1,x67,x68,x69,x142002000,x142002001,x142002002,x142003000,x142003001,x142003002=>if x69<x68 then(if 0≤x69 then(if x69<(x67.length:Int) then((ZaM.f x142002000 x142002001 x142002002 (wrap64 (x69+1))).bind fun t142006=>(if t142006≥0 then(if 0≤t142006 then(if t142006<(x142003001.length:Int) then(if (((rd x67 x69) != 0) != ((rd x142003001 t142006) != (-1)))=true then(some false) else(ZN.l1 k x67 x68 (wrap64 (x69+1)) x142002000 x142002001 x142002002 x142003000 x142003001 x142003002)) else(none)) else(none)) else(if (((rd x67 x69) != 0) != false)=true then(some false) else(ZN.l1 k x67 x68 (wrap64 (x69+1)) x142002000 x142002001 x142002002 x142003000 x142003001 x142003002)))) else(none)) else(none)) else(some true)
end
def ZN.f (k:Nat) (l0_0:List (S116)) (l0_1:List (S90)) (a0_2:Int) (a1_0:Int) (l1_1:List Int) (l1_2:List Int):Option (Bool):=if a1_0<0 then(ZN.j0 k true l0_0 l0_1 a0_2 a1_0 l1_1 l1_2) else(if a1_0 > (wrap64 (a0_2+1)) then(ZN.j0 k true l0_0 l0_1 a0_2 a1_0 l1_1 l1_2) else(if (l1_1.length:Int)=(l0_0.length:Int) then((ZaT.f l1_2).bind fun t142003=>(ZN.j0 k (!t142003) l0_0 l0_1 a0_2 a1_0 l1_1 l1_2)) else(ZN.j0 k true l0_0 l0_1 a0_2 a1_0 l1_1 l1_2)))
set_option maxHeartbeats 8000000 in
set_option maxRecDepth 100000 in
theorem ZN.calls (k:Nat) (A0_0:Option Addr) (c0_0:Nat) (l0_0:List (S116)) (A0_1:Option Addr) (c0_1:Nat) (l0_1:List (S90)) (a0_2:Int) (a1_0:Int) (A1_1:Option Addr) (c1_1:Nat) (l1_1:List Int) (A1_2:Option Addr) (c1_2:Nat) (l1_2:List Int) (r:Bool) (w:World) (hr0_0:Kd.C k116 w A0_0 l0_0.length l0_0) (hc0_0:l0_0.length≤c0_0) (hr0_1:Kd.C k90 w A0_1 l0_1.length l0_1) (hc0_1:l0_1.length≤c0_1) (hr1_1:Kd.C (Kd.int .i64) w A1_1 l1_1.length l1_1) (hc1_1:l1_1.length≤c1_1) (hr1_2:Kd.C (Kd.int .i64) w A1_2 l1_2.length l1_2) (hc1_2:l1_2.length≤c1_2) (h:ZN.f k l0_0 l0_1 a0_2 a1_0 l1_1 l1_2=some r) :
  Calls Try.prog 142 #[.agg #[.slice A0_0 l0_0.length c0_0,.slice A0_1 l0_1.length c0_1,.int .i64 a0_2],.agg #[.int .i64 a1_0,.slice A1_1 l1_1.length c1_1,.slice A1_2 l1_2.length c1_2]] w fun e w'=>e=.returned (.bool r)∧Below w.heap.size w w':=by
 have hu35:=Try.underlying35
 have hu66:=Try.underlying66
 have HR0_0:=Za hr0_0;have HC0_0:=Za hc0_0;clear hr0_0 hc0_0;have HR0_1:=Za hr0_1;have HC0_1:=Za hc0_1;clear hr0_1 hc0_1;have HR1_1:=Za hr1_1;have HC1_1:=Za hc1_1;clear hr1_1 hc1_1;have HR1_2:=Za hr1_2;have HC1_2:=Za hc1_2;clear hr1_2 hc1_2
 have HB:=Za (Below.refl w.heap.size w)
 have H:(if a1_0<0 then(ZN.j0 k true l0_0 l0_1 a0_2 a1_0 l1_1 l1_2) else(if a1_0 > (wrap64 (a0_2+1)) then(ZN.j0 k true l0_0 l0_1 a0_2 a1_0 l1_1 l1_2) else(if (l1_1.length:Int)=(l0_0.length:Int) then((ZaT.f l1_2).bind fun t142003=>(ZN.j0 k (!t142003) l0_0 l0_1 a0_2 a1_0 l1_1 l1_2)) else(ZN.j0 k true l0_0 l0_1 a0_2 a1_0 l1_1 l1_2))))=some r:=h
 clear h;have HC3:=Za H;clear H
 go_enter Try.func142,Try.ntmps142
 go_upto_region 1 with (first|((with_reducible refine ZG (N:=2) rfl ?_);(try(refine ZaX (by rfl) ?_;dsimp only));refine ZE ?hg (N:=2) ?hd (cs:=#[.slice A0_0 l0_0.length c0_0,.slice A0_1 l0_1.length c0_1,.int .i64 a0_2]) (t:=35) ?hr ?_;(case hd=>rfl);(case hg=>rfl);(case hr=>first|(go_simp;done)|(go_simp;rfl));intro gb142001 hg w4 hbox hb;have n0_:=Za (Zv (by exact HB.out) hb);have n1_:=Za (hbox);have n2_:=Za ((by rw[hg];exact(Zz (by exact HB.out)):w.heap.size≤gb142001));have n3_:=n2_;clear HB;have HB:=n0_;have BK142001:=n1_;have GW142001:=n2_;have GE142001:=n3_;clear n0_ n1_ n2_ n3_;clear hb hbox hg)|((with_reducible refine ZG (N:=3) rfl ?_);(try(refine ZaX (by rfl) ?_;dsimp only));refine ZE ?hg (N:=3) ?hd (cs:=#[.int .i64 a1_0,.slice A1_1 l1_1.length c1_1,.slice A1_2 l1_2.length c1_2]) (t:=66) ?hr ?_;(case hd=>rfl);(case hg=>rfl);(case hr=>first|(go_simp;done)|(go_simp;rfl));intro gb142002 hg w5 hbox hb;have n0_:=Za (Zw (g:=gb142001) (o:=.cells #[.slice A0_0 l0_0.length c0_0,.slice A0_1 l0_1.length c0_1,.int .i64 a0_2] 35 (0,0)) BK142001.out hb);have n1_:=Za (Zv (by exact HB.out) hb);have n2_:=Za (hbox);have n3_:=Za ((by rw[hg];exact(Zz (by exact HB.out)):w.heap.size≤gb142002));have n4_:=n3_;have n5_:=Za ((by rw[hg];exact Nat.ne_of_lt (ZK (g:=gb142001) (o:=.cells #[.slice A0_0 l0_0.length c0_0,.slice A0_1 l0_1.length c0_1,.int .i64 a0_2] 35 (0,0)) BK142001.out):gb142001≠gb142002));have n6_:=Za n5_.out.symm;clear BK142001;clear HB;have BK142001:=n0_;have HB:=n1_;have BK142002:=n2_;have GW142002:=n3_;have GE142002:=n4_;have NB142001_142002:=n5_;have NB142002_142001:=n6_;clear n0_ n1_ n2_ n3_ n4_ n5_ n6_;clear hb hbox hg))
 (try simp only[Act.put,List.setIfInBounds_toArray,List.set_cons_zero,List.set_cons_succ])
 go_cut [35] (fun v35 wc=>∃(kq:Nat) (x35_2:Bool),v35=.bool x35_2∧Aside0 (ZN.j0 kq x35_2 l0_0 l0_1 a0_2 a1_0 l1_1 l1_2=some r)∧Aside0 (kq≤k)∧Aside0 (wc.heap[gb142001]? = some (.cells #[(.slice A0_0 l0_0.length c0_0),(.slice A0_1 l0_1.length c0_1),.int .i64 a0_2] 35 (0,0)))∧Aside0 (wc.heap[gb142002]? = some (.cells #[.int .i64 a1_0,(.slice A1_1 l1_1.length c1_1),(.slice A1_2 l1_2.length c1_2)] 66 (0,0)))∧Aside0 (Below w.heap.size w wc))
 case first=>
  have H:=HC3.out
  clear HC3
  by_cases c6:a1_0<0
  ·rw[if_pos c6] at H
   have c6b0:decide (a1_0<0)=true:=Ze c6
   clear c6
   (first|rw[c6b0]|(simp only[ZL,ZM];rw[c6b0])|skip)
   have H':=Za H
   clear H
   have hcz8_0:w5.cell? ⟨gb142002,0,none⟩=some (.int .i64 a1_0):=(Zm BK142002.out 0).trans rfl
   have hcz8_1:w5.cell? ⟨gb142002,1,none⟩=some (.slice A1_1 l1_1.length c1_1):=(Zm BK142002.out 1).trans rfl
   have hcz8_2:w5.cell? ⟨gb142002,2,none⟩=some (.slice A1_2 l1_2.length c1_2):=(Zm BK142002.out 2).trans rfl
   go_wp2
   go_meet
   case rel=>exact⟨_,(true),(by first|rfl|(simp;done)|(simp[*];done)),H',⟨by first|omega|exact Nat.le_refl _⟩,⟨by(with_reducible repeat(first|refine Zs ?_ _|refine Zu ?_|refine Zt ?_ _));exact BK142001.out⟩,⟨by(with_reducible repeat(first|refine Zs ?_ _|refine Zu ?_|refine Zt ?_ _));exact BK142002.out⟩,⟨by repeat(first|(with_reducible first|exact HB.out|apply Zp|apply Zn|apply Zr|refine Zq ?_ GE142001.out|refine Zq ?_ GE142002.out)|exact HB.out)⟩⟩
  ·rw[if_neg c6] at H
   have c6b0:decide (a1_0<0)=false:=Zf c6
   clear c6
   (first|rw[c6b0]|(simp only[ZL,ZM];rw[c6b0])|skip)
   by_cases c9:a1_0 > (wrap64 (a0_2+1))
   ·rw[if_pos c9] at H
    have c9b0:decide ((wrap64 (a0_2+1))<a1_0)=true:=Ze c9
    clear c9
    have H':=Za H
    clear H
    have hcz11_0:w5.cell? ⟨gb142002,0,none⟩=some (.int .i64 a1_0):=(Zm BK142002.out 0).trans rfl
    have hcz11_1:w5.cell? ⟨gb142002,1,none⟩=some (.slice A1_1 l1_1.length c1_1):=(Zm BK142002.out 1).trans rfl
    have hcz11_2:w5.cell? ⟨gb142002,2,none⟩=some (.slice A1_2 l1_2.length c1_2):=(Zm BK142002.out 2).trans rfl
    have hcz12_0:w5.cell? ⟨gb142001,0,none⟩=some (.slice A0_0 l0_0.length c0_0):=(Zm BK142001.out 0).trans rfl
    have hcz12_1:w5.cell? ⟨gb142001,1,none⟩=some (.slice A0_1 l0_1.length c0_1):=(Zm BK142001.out 1).trans rfl
    have hcz12_2:w5.cell? ⟨gb142001,2,none⟩=some (.int .i64 a0_2):=(Zm BK142001.out 2).trans rfl
    go_wp2
    go_meet
    case rel=>exact⟨_,(true),(by first|rfl|(simp;done)|(simp[*];done)),H',⟨by first|omega|exact Nat.le_refl _⟩,⟨by(with_reducible repeat(first|refine Zs ?_ _|refine Zu ?_|refine Zt ?_ _));exact BK142001.out⟩,⟨by(with_reducible repeat(first|refine Zs ?_ _|refine Zu ?_|refine Zt ?_ _));exact BK142002.out⟩,⟨by repeat(first|(with_reducible first|exact HB.out|apply Zp|apply Zn|apply Zr|refine Zq ?_ GE142001.out|refine Zq ?_ GE142002.out)|exact HB.out)⟩⟩
   ·rw[if_neg c9] at H
    have c9b0:decide ((wrap64 (a0_2+1))<a1_0)=false:=Zf c9
    clear c9
    by_cases c13:(l1_1.length:Int)=(l0_0.length:Int)
    ·rw[if_pos c13] at H
     have c13b0:((l1_1.length:Int) == (l0_0.length:Int))=true:=beq_iff_eq.mpr c13
     have c13b1:((l1_1.length:Int) != (l0_0.length:Int))=false:=bne_eq_false_iff_eq.mpr c13
     have c13b2:(l1_1.length == l0_0.length)=true:=by first|simpa using c13|(simp at c13 ⊢;omega)
     clear c13
     replace H:=Zh H
     obtain⟨t142003,A140,H⟩:=H;have A14:=Za A140;clear A140
     have H':=Za H
     clear H
     have hcz16_0:w5.cell? ⟨gb142002,0,none⟩=some (.int .i64 a1_0):=(Zm BK142002.out 0).trans rfl
     have hcz16_1:w5.cell? ⟨gb142002,1,none⟩=some (.slice A1_1 l1_1.length c1_1):=(Zm BK142002.out 1).trans rfl
     have hcz16_2:w5.cell? ⟨gb142002,2,none⟩=some (.slice A1_2 l1_2.length c1_2):=(Zm BK142002.out 2).trans rfl
     have hcz17_0:w5.cell? ⟨gb142001,0,none⟩=some (.slice A0_0 l0_0.length c0_0):=(Zm BK142001.out 0).trans rfl
     have hcz17_1:w5.cell? ⟨gb142001,1,none⟩=some (.slice A0_1 l0_1.length c0_1):=(Zm BK142001.out 1).trans rfl
     have hcz17_2:w5.cell? ⟨gb142001,2,none⟩=some (.int .i64 a0_2):=(Zm BK142001.out 2).trans rfl
     go_wp2_with (first|(go_at_call 167;(with_reducible refine(ZaT.calls _ _ l1_2 t142003 _ ?side1 ?side2 A14.out).mono ?_);(case side1=>exact(Zb HR1_2.out HB.out));(case side2=>exact HC1_2.out);rintro e w18 ⟨rfl,hb⟩;have n0_:=Za (Zw (g:=gb142001) (o:=.cells #[.slice A0_0 l0_0.length c0_0,.slice A0_1 l0_1.length c0_1,.int .i64 a0_2] 35 (0,0)) BK142001.out hb);have n1_:=Za (Zw (g:=gb142002) (o:=.cells #[.int .i64 a1_0,.slice A1_1 l1_1.length c1_1,.slice A1_2 l1_2.length c1_2] 66 (0,0)) BK142002.out hb);have n2_:=Za (Zv (by exact HB.out) hb);clear BK142001;clear BK142002;clear HB;have BK142001:=n0_;have BK142002:=n1_;have HB:=n2_;clear n0_ n1_ n2_;(try clear hi)))
     go_meet
     case rel=>exact⟨_,(!t142003),(by first|rfl|(simp;done)|(simp[*];done)),H',⟨by first|omega|exact Nat.le_refl _⟩,⟨by(with_reducible repeat(first|refine Zs ?_ _|refine Zu ?_|refine Zt ?_ _));exact BK142001.out⟩,⟨by(with_reducible repeat(first|refine Zs ?_ _|refine Zu ?_|refine Zt ?_ _));exact BK142002.out⟩,⟨by repeat(first|(with_reducible first|exact HB.out|apply Zp|apply Zn|apply Zr|refine Zq ?_ GE142001.out|refine Zq ?_ GE142002.out)|exact HB.out)⟩⟩
    ·rw[if_neg c13] at H
     have c13b0:((l1_1.length:Int) == (l0_0.length:Int))=false:=beq_eq_false_iff_ne.mpr c13
     have c13b1:((l1_1.length:Int) != (l0_0.length:Int))=true:=bne_iff_ne.mpr c13
     have c13b2:(l1_1.length == l0_0.length)=false:=by first|simpa using c13|(simp at c13 ⊢;omega)
     have H':=Za H
     clear H
     have hcz20_0:w5.cell? ⟨gb142002,0,none⟩=some (.int .i64 a1_0):=(Zm BK142002.out 0).trans rfl
     have hcz20_1:w5.cell? ⟨gb142002,1,none⟩=some (.slice A1_1 l1_1.length c1_1):=(Zm BK142002.out 1).trans rfl
     have hcz20_2:w5.cell? ⟨gb142002,2,none⟩=some (.slice A1_2 l1_2.length c1_2):=(Zm BK142002.out 2).trans rfl
     have hcz21_0:w5.cell? ⟨gb142001,0,none⟩=some (.slice A0_0 l0_0.length c0_0):=(Zm BK142001.out 0).trans rfl
     have hcz21_1:w5.cell? ⟨gb142001,1,none⟩=some (.slice A0_1 l0_1.length c0_1):=(Zm BK142001.out 1).trans rfl
     have hcz21_2:w5.cell? ⟨gb142001,2,none⟩=some (.int .i64 a0_2):=(Zm BK142001.out 2).trans rfl
     go_wp2
     go_meet
     case rel=>exact⟨_,(true),(by first|rfl|(simp;done)|(simp[*];done)),H',⟨by first|omega|exact Nat.le_refl _⟩,⟨by(with_reducible repeat(first|refine Zs ?_ _|refine Zu ?_|refine Zt ?_ _));exact BK142001.out⟩,⟨by(with_reducible repeat(first|refine Zs ?_ _|refine Zu ?_|refine Zt ?_ _));exact BK142002.out⟩,⟨by repeat(first|(with_reducible first|exact HB.out|apply Zp|apply Zn|apply Zr|refine Zq ?_ GE142001.out|refine Zq ?_ GE142002.out)|exact HB.out)⟩⟩
 case rest=>
  clear HC3
  try clear c1
  try clear p2
  try clear c6
  try clear c6b0
  try clear p6
  try clear c7
  try clear c9
  try clear c9b0
  try clear c10
  try clear c13
  try clear c13b0
  try clear c13b1
  try clear c13b2
  try clear c14
  try clear c15
  try clear c19
  obtain⟨kq,x35_2,rfl,HA,HJ2,BK142001,BK142002,HB⟩:=hcut
  cases kq with
  | zero=>exact absurd HA.out (by simp[ZN.j0])
  | succ kj2=>
   have H:=HA.out
   clear HA
   simp only[ZN.j0] at H
   by_cases c22:x35_2=true
   ·subst c22
    have H1:(some false)=some r:=by rw[if_pos rfl] at H;exact H
    clear H
    have H:=H1
    clear H1
    obtain rfl:=Zg H
    go_wp2
    go_ret
    exact⟨by first|rfl|(simp[Zy,Zx] <;> rfl)|(simp[*,Zy,Zx] <;> rfl),by repeat(first|(with_reducible first|exact HB.out|apply Zp|apply Zn|apply Zr|refine Zq ?_ GE142001.out|refine Zq ?_ GE142002.out)|exact HB.out)⟩
   ·replace c22:=Bool.eq_false_iff.mpr c22
    subst c22
    have H1:(ZN.l0 kj2 l1_1 (l1_1.length:Int) 0 l0_0 l0_1 a0_2 a1_0 l1_1 l1_2)=some r:=by rw[if_neg (show ¬(false=true) by decide)] at H;exact H
    clear H
    have H:=H1
    clear H1
    have H':=Za H
    clear H
    have hcz24_0:wc.cell? ⟨gb142002,0,none⟩=some (.int .i64 a1_0):=(Zm BK142002.out 0).trans rfl
    have hcz24_1:wc.cell? ⟨gb142002,1,none⟩=some (.slice A1_1 l1_1.length c1_1):=(Zm BK142002.out 1).trans rfl
    have hcz24_2:wc.cell? ⟨gb142002,2,none⟩=some (.slice A1_2 l1_2.length c1_2):=(Zm BK142002.out 2).trans rfl
    go_wp2
    go_loopg [39] kj2 (fun kq v39 w'=>∃(x39_2:Int),v39=.int .i64 x39_2∧Aside0 (ZN.l0 kq l1_1 (l1_1.length:Int) x39_2 l0_0 l0_1 a0_2 a1_0 l1_1 l1_2=some r)∧Aside0 (kq≤kj2)∧Aside0 (w'.heap[gb142001]? = some (.cells #[(.slice A0_0 l0_0.length c0_0),(.slice A0_1 l0_1.length c0_1),.int .i64 a0_2] 35 (0,0)))∧Aside0 (w'.heap[gb142002]? = some (.cells #[.int .i64 a1_0,(.slice A1_1 l1_1.length c1_1),(.slice A1_2 l1_2.length c1_2)] 66 (0,0)))∧Aside0 (Below w.heap.size w w'))
    case atStart=>exact⟨(0),(by first|rfl|(simp;done)|(simp[*];done)),H',⟨Nat.le_refl _⟩,⟨by(with_reducible repeat(first|refine Zs ?_ _|refine Zu ?_|refine Zt ?_ _));exact BK142001.out⟩,⟨by(with_reducible repeat(first|refine Zs ?_ _|refine Zu ?_|refine Zt ?_ _));exact BK142002.out⟩,⟨by repeat(first|(with_reducible first|exact HB.out|apply Zp|apply Zn|apply Zr|refine Zq ?_ GE142001.out|refine Zq ?_ GE142002.out)|exact HB.out)⟩⟩
    case round=>
     clear H'
     try clear c1
     try clear c2
     try clear p2
     try clear c6
     try clear c6b0
     try clear p6
     try clear c7
     try clear c9
     try clear c9b0
     try clear c10
     try clear c13
     try clear c13b0
     try clear c13b1
     try clear c13b2
     try clear c14
     try clear c15
     try clear c19
     try clear c22
     try clear c23
     try clear p2
     try clear p6
     obtain⟨x39_2,rfl,HA,HK2,BK142001,BK142002,HB⟩:=hrel
     cases gk with
     | zero=>exact absurd HA.out (by simp[ZN.l0])
     | succ k2=>
      have H:=HA.out
      clear HA
      simp only[ZN.l0] at H
      by_cases c25:x39_2<(l1_1.length:Int)
      ·rw[if_pos c25] at H
       have c25b0:decide (x39_2<(l1_1.length:Int))=true:=Ze c25
       clear c25
       by_cases c26:0≤x39_2
       ·rw[if_pos c26] at H
        have c26b0:decide (0≤x39_2)=true:=Ze c26
        clear c26
        by_cases c27:x39_2<(l1_1.length:Int)
        ·rw[if_pos c27] at H
         have c27b0:decide (x39_2<(l1_1.length:Int))=true:=Ze c27
         clear c27
         by_cases c28:x39_2=0
         ·rw[if_pos c28] at H
          have c28b0:(x39_2 == 0)=true:=beq_iff_eq.mpr c28
          have c28b1:(x39_2 != 0)=false:=bne_eq_false_iff_eq.mpr c28
          clear c28
          by_cases c29:(rd l1_1 x39_2)=0
          ·rw[if_pos c29] at H
           have c29b0:((rd l1_1 x39_2) == 0)=true:=beq_iff_eq.mpr c29
           have c29b1:((rd l1_1 x39_2) != 0)=false:=bne_eq_false_iff_eq.mpr c29
           clear c29
           by_cases c30:x39_2 > 0
           ·rw[if_pos c30] at H
            have c30b0:decide (0<x39_2)=true:=Ze c30
            clear c30
            by_cases c31:(rd l1_1 x39_2)<(-1)
            ·rw[if_pos c31] at H
             have c31b0:decide ((rd l1_1 x39_2)<(-1))=true:=Ze c31
             clear c31
             obtain rfl:=Zg H
             have p142004:0≤(x39_2:Int):=Zd (by with_reducible assumption)
             have q142004:x39_2<(l1_1.length:Int):=Zd (by with_reducible assumption)
             obtain⟨ad142004,e142004,hx142004_0⟩:=Kd.at_int HR1_1.out x39_2 p142004 q142004
             cases e142004
             replace hx142004_0:=(HB.out.cell (Zc w _ hx142004_0)).trans hx142004_0
             replace p142004:=eq_true p142004
             replace q142004:=eq_true q142004
             go_wp2
             go_ret
             exact⟨by first|rfl|(simp[Zy,Zx] <;> rfl)|(simp[*,Zy,Zx] <;> rfl),by repeat(first|(with_reducible first|exact HB.out|apply Zp|apply Zn|apply Zr|refine Zq ?_ GE142001.out|refine Zq ?_ GE142002.out)|exact HB.out)⟩
            ·rw[if_neg c31] at H
             have c31b0:decide ((rd l1_1 x39_2)<(-1))=false:=Zf c31
             clear c31
             by_cases c32:(rd l1_1 x39_2) > (wrap64 (a1_0 - 1))
             ·rw[if_pos c32] at H
              have c32b0:decide ((wrap64 (a1_0 - 1))<(rd l1_1 x39_2))=true:=Ze c32
              clear c32
              obtain rfl:=Zg H
              have p142004:0≤(x39_2:Int):=Zd (by with_reducible assumption)
              have q142004:x39_2<(l1_1.length:Int):=Zd (by with_reducible assumption)
              obtain⟨ad142004,e142004,hx142004_0⟩:=Kd.at_int HR1_1.out x39_2 p142004 q142004
              cases e142004
              replace hx142004_0:=(HB.out.cell (Zc w _ hx142004_0)).trans hx142004_0
              replace p142004:=eq_true p142004
              replace q142004:=eq_true q142004
              have hcz34_0:wr.cell? ⟨gb142002,0,none⟩=some (.int .i64 a1_0):=(Zm BK142002.out 0).trans rfl
              have hcz34_1:wr.cell? ⟨gb142002,1,none⟩=some (.slice (some ad142004) l1_1.length c1_1):=(Zm BK142002.out 1).trans rfl
              have hcz34_2:wr.cell? ⟨gb142002,2,none⟩=some (.slice A1_2 l1_2.length c1_2):=(Zm BK142002.out 2).trans rfl
              go_wp2
              go_ret
              exact⟨by first|rfl|(simp[Zy,Zx] <;> rfl)|(simp[*,Zy,Zx] <;> rfl),by repeat(first|(with_reducible first|exact HB.out|apply Zp|apply Zn|apply Zr|refine Zq ?_ GE142001.out|refine Zq ?_ GE142002.out)|exact HB.out)⟩
             ·rw[if_neg c32] at H
              have c32b0:decide ((wrap64 (a1_0 - 1))<(rd l1_1 x39_2))=false:=Zf c32
              clear c32
              have H':=Za H
              clear H
              have p142004:0≤(x39_2:Int):=Zd (by with_reducible assumption)
              have q142004:x39_2<(l1_1.length:Int):=Zd (by with_reducible assumption)
              obtain⟨ad142004,e142004,hx142004_0⟩:=Kd.at_int HR1_1.out x39_2 p142004 q142004
              cases e142004
              replace hx142004_0:=(HB.out.cell (Zc w _ hx142004_0)).trans hx142004_0
              replace p142004:=eq_true p142004
              replace q142004:=eq_true q142004
              have hcz36_0:wr.cell? ⟨gb142002,0,none⟩=some (.int .i64 a1_0):=(Zm BK142002.out 0).trans rfl
              have hcz36_1:wr.cell? ⟨gb142002,1,none⟩=some (.slice (some ad142004) l1_1.length c1_1):=(Zm BK142002.out 1).trans rfl
              have hcz36_2:wr.cell? ⟨gb142002,2,none⟩=some (.slice A1_2 l1_2.length c1_2):=(Zm BK142002.out 2).trans rfl
              go_wp2
              go_roundg k2
              case measure=>have:=HJ2.out;have:=HK2.out;omega
              case rel=>exact⟨(wrap64 (x39_2+1)),(by first|rfl|(simp;done)|(simp[*];done)),H',⟨by have:=HJ2.out;have:=HK2.out;omega⟩,⟨by(with_reducible repeat(first|refine Zs ?_ _|refine Zu ?_|refine Zt ?_ _));exact BK142001.out⟩,⟨by(with_reducible repeat(first|refine Zs ?_ _|refine Zu ?_|refine Zt ?_ _));exact BK142002.out⟩,⟨by repeat(first|(with_reducible first|exact HB.out|apply Zp|apply Zn|apply Zr|refine Zq ?_ GE142001.out|refine Zq ?_ GE142002.out)|exact HB.out)⟩⟩
           ·rw[if_neg c30] at H
            have c30b0:decide (0<x39_2)=false:=Zf c30
            clear c30
            have H':=Za H
            clear H
            have p142004:0≤(x39_2:Int):=Zd (by with_reducible assumption)
            have q142004:x39_2<(l1_1.length:Int):=Zd (by with_reducible assumption)
            obtain⟨ad142004,e142004,hx142004_0⟩:=Kd.at_int HR1_1.out x39_2 p142004 q142004
            cases e142004
            replace hx142004_0:=(HB.out.cell (Zc w _ hx142004_0)).trans hx142004_0
            replace p142004:=eq_true p142004
            replace q142004:=eq_true q142004
            go_wp2
            go_roundg k2
            case measure=>have:=HJ2.out;have:=HK2.out;omega
            case rel=>exact⟨(wrap64 (x39_2+1)),(by first|rfl|(simp;done)|(simp[*];done)),H',⟨by have:=HJ2.out;have:=HK2.out;omega⟩,⟨by(with_reducible repeat(first|refine Zs ?_ _|refine Zu ?_|refine Zt ?_ _));exact BK142001.out⟩,⟨by(with_reducible repeat(first|refine Zs ?_ _|refine Zu ?_|refine Zt ?_ _));exact BK142002.out⟩,⟨by repeat(first|(with_reducible first|exact HB.out|apply Zp|apply Zn|apply Zr|refine Zq ?_ GE142001.out|refine Zq ?_ GE142002.out)|exact HB.out)⟩⟩
          ·rw[if_neg c29] at H
           have c29b0:((rd l1_1 x39_2) == 0)=false:=beq_eq_false_iff_ne.mpr c29
           have c29b1:((rd l1_1 x39_2) != 0)=true:=bne_iff_ne.mpr c29
           obtain rfl:=Zg H
           have p142004:0≤(x39_2:Int):=Zd (by with_reducible assumption)
           have q142004:x39_2<(l1_1.length:Int):=Zd (by with_reducible assumption)
           obtain⟨ad142004,e142004,hx142004_0⟩:=Kd.at_int HR1_1.out x39_2 p142004 q142004
           cases e142004
           replace hx142004_0:=(HB.out.cell (Zc w _ hx142004_0)).trans hx142004_0
           replace p142004:=eq_true p142004
           replace q142004:=eq_true q142004
           go_wp2
           go_ret
           exact⟨by first|rfl|(simp[Zy,Zx] <;> rfl)|(simp[*,Zy,Zx] <;> rfl),by repeat(first|(with_reducible first|exact HB.out|apply Zp|apply Zn|apply Zr|refine Zq ?_ GE142001.out|refine Zq ?_ GE142002.out)|exact HB.out)⟩
         ·rw[if_neg c28] at H
          have c28b0:(x39_2 == 0)=false:=beq_eq_false_iff_ne.mpr c28
          have c28b1:(x39_2 != 0)=true:=bne_iff_ne.mpr c28
          by_cases c37:x39_2 > 0
          ·rw[if_pos c37] at H
           have c37b0:decide (0<x39_2)=true:=Ze c37
           clear c37
           by_cases c38:(rd l1_1 x39_2)<(-1)
           ·rw[if_pos c38] at H
            have c38b0:decide ((rd l1_1 x39_2)<(-1))=true:=Ze c38
            clear c38
            obtain rfl:=Zg H
            have p142004:0≤(x39_2:Int):=Zd (by with_reducible assumption)
            have q142004:x39_2<(l1_1.length:Int):=Zd (by with_reducible assumption)
            obtain⟨ad142004,e142004,hx142004_0⟩:=Kd.at_int HR1_1.out x39_2 p142004 q142004
            cases e142004
            replace hx142004_0:=(HB.out.cell (Zc w _ hx142004_0)).trans hx142004_0
            replace p142004:=eq_true p142004
            replace q142004:=eq_true q142004
            go_wp2
            go_ret
            exact⟨by first|rfl|(simp[Zy,Zx] <;> rfl)|(simp[*,Zy,Zx] <;> rfl),by repeat(first|(with_reducible first|exact HB.out|apply Zp|apply Zn|apply Zr|refine Zq ?_ GE142001.out|refine Zq ?_ GE142002.out)|exact HB.out)⟩
           ·rw[if_neg c38] at H
            have c38b0:decide ((rd l1_1 x39_2)<(-1))=false:=Zf c38
            clear c38
            by_cases c39:(rd l1_1 x39_2) > (wrap64 (a1_0 - 1))
            ·rw[if_pos c39] at H
             have c39b0:decide ((wrap64 (a1_0 - 1))<(rd l1_1 x39_2))=true:=Ze c39
             clear c39
             obtain rfl:=Zg H
             have p142004:0≤(x39_2:Int):=Zd (by with_reducible assumption)
             have q142004:x39_2<(l1_1.length:Int):=Zd (by with_reducible assumption)
             obtain⟨ad142004,e142004,hx142004_0⟩:=Kd.at_int HR1_1.out x39_2 p142004 q142004
             cases e142004
             replace hx142004_0:=(HB.out.cell (Zc w _ hx142004_0)).trans hx142004_0
             replace p142004:=eq_true p142004
             replace q142004:=eq_true q142004
             have hcz41_0:wr.cell? ⟨gb142002,0,none⟩=some (.int .i64 a1_0):=(Zm BK142002.out 0).trans rfl
             have hcz41_1:wr.cell? ⟨gb142002,1,none⟩=some (.slice (some ad142004) l1_1.length c1_1):=(Zm BK142002.out 1).trans rfl
             have hcz41_2:wr.cell? ⟨gb142002,2,none⟩=some (.slice A1_2 l1_2.length c1_2):=(Zm BK142002.out 2).trans rfl
             go_wp2
             go_ret
             exact⟨by first|rfl|(simp[Zy,Zx] <;> rfl)|(simp[*,Zy,Zx] <;> rfl),by repeat(first|(with_reducible first|exact HB.out|apply Zp|apply Zn|apply Zr|refine Zq ?_ GE142001.out|refine Zq ?_ GE142002.out)|exact HB.out)⟩
            ·rw[if_neg c39] at H
             have c39b0:decide ((wrap64 (a1_0 - 1))<(rd l1_1 x39_2))=false:=Zf c39
             clear c39
             have H':=Za H
             clear H
             have p142004:0≤(x39_2:Int):=Zd (by with_reducible assumption)
             have q142004:x39_2<(l1_1.length:Int):=Zd (by with_reducible assumption)
             obtain⟨ad142004,e142004,hx142004_0⟩:=Kd.at_int HR1_1.out x39_2 p142004 q142004
             cases e142004
             replace hx142004_0:=(HB.out.cell (Zc w _ hx142004_0)).trans hx142004_0
             replace p142004:=eq_true p142004
             replace q142004:=eq_true q142004
             have hcz43_0:wr.cell? ⟨gb142002,0,none⟩=some (.int .i64 a1_0):=(Zm BK142002.out 0).trans rfl
             have hcz43_1:wr.cell? ⟨gb142002,1,none⟩=some (.slice (some ad142004) l1_1.length c1_1):=(Zm BK142002.out 1).trans rfl
             have hcz43_2:wr.cell? ⟨gb142002,2,none⟩=some (.slice A1_2 l1_2.length c1_2):=(Zm BK142002.out 2).trans rfl
             go_wp2
             go_roundg k2
             case measure=>have:=HJ2.out;have:=HK2.out;omega
             case rel=>exact⟨(wrap64 (x39_2+1)),(by first|rfl|(simp;done)|(simp[*];done)),H',⟨by have:=HJ2.out;have:=HK2.out;omega⟩,⟨by(with_reducible repeat(first|refine Zs ?_ _|refine Zu ?_|refine Zt ?_ _));exact BK142001.out⟩,⟨by(with_reducible repeat(first|refine Zs ?_ _|refine Zu ?_|refine Zt ?_ _));exact BK142002.out⟩,⟨by repeat(first|(with_reducible first|exact HB.out|apply Zp|apply Zn|apply Zr|refine Zq ?_ GE142001.out|refine Zq ?_ GE142002.out)|exact HB.out)⟩⟩
          ·rw[if_neg c37] at H
           have c37b0:decide (0<x39_2)=false:=Zf c37
           clear c37
           have H':=Za H
           clear H
           have p142004:0≤(x39_2:Int):=Zd (by with_reducible assumption)
           have q142004:x39_2<(l1_1.length:Int):=Zd (by with_reducible assumption)
           obtain⟨ad142004,e142004,hx142004_0⟩:=Kd.at_int HR1_1.out x39_2 p142004 q142004
           cases e142004
           replace hx142004_0:=(HB.out.cell (Zc w _ hx142004_0)).trans hx142004_0
           replace p142004:=eq_true p142004
           replace q142004:=eq_true q142004
           go_wp2
           go_roundg k2
           case measure=>have:=HJ2.out;have:=HK2.out;omega
           case rel=>exact⟨(wrap64 (x39_2+1)),(by first|rfl|(simp;done)|(simp[*];done)),H',⟨by have:=HJ2.out;have:=HK2.out;omega⟩,⟨by(with_reducible repeat(first|refine Zs ?_ _|refine Zu ?_|refine Zt ?_ _));exact BK142001.out⟩,⟨by(with_reducible repeat(first|refine Zs ?_ _|refine Zu ?_|refine Zt ?_ _));exact BK142002.out⟩,⟨by repeat(first|(with_reducible first|exact HB.out|apply Zp|apply Zn|apply Zr|refine Zq ?_ GE142001.out|refine Zq ?_ GE142002.out)|exact HB.out)⟩⟩
        ·rw[if_neg c27] at H
         exact absurd H (by simp)
       ·rw[if_neg c26] at H
        exact absurd H (by simp)
      ·rw[if_neg c25] at H
       have c25b0:decide (x39_2<(l1_1.length:Int))=false:=Zf c25
       clear c25
       have H':=Za H
       clear H
       have hcz45_0:wr.cell? ⟨gb142002,0,none⟩=some (.int .i64 a1_0):=(Zm BK142002.out 0).trans rfl
       have hcz45_1:wr.cell? ⟨gb142002,1,none⟩=some (.slice A1_1 l1_1.length c1_1):=(Zm BK142002.out 1).trans rfl
       have hcz45_2:wr.cell? ⟨gb142002,2,none⟩=some (.slice A1_2 l1_2.length c1_2):=(Zm BK142002.out 2).trans rfl
       go_wp2
       go_loopg [69] k2 (fun kq v69 w'=>∃(x69_3:Int),v69=.int .i64 x69_3∧Aside0 (ZN.l1 kq l1_2 (l1_2.length:Int) x69_3 l0_0 l0_1 a0_2 a1_0 l1_1 l1_2=some r)∧Aside0 (kq≤k2)∧Aside0 (w'.heap[gb142001]? = some (.cells #[(.slice A0_0 l0_0.length c0_0),(.slice A0_1 l0_1.length c0_1),.int .i64 a0_2] 35 (0,0)))∧Aside0 (w'.heap[gb142002]? = some (.cells #[.int .i64 a1_0,(.slice A1_1 l1_1.length c1_1),(.slice A1_2 l1_2.length c1_2)] 66 (0,0)))∧Aside0 (Below w.heap.size w w'))
       case atStart=>exact⟨(0),(by first|rfl|(simp;done)|(simp[*];done)),H',⟨Nat.le_refl _⟩,⟨by(with_reducible repeat(first|refine Zs ?_ _|refine Zu ?_|refine Zt ?_ _));exact BK142001.out⟩,⟨by(with_reducible repeat(first|refine Zs ?_ _|refine Zu ?_|refine Zt ?_ _));exact BK142002.out⟩,⟨by repeat(first|(with_reducible first|exact HB.out|apply Zp|apply Zn|apply Zr|refine Zq ?_ GE142001.out|refine Zq ?_ GE142002.out)|exact HB.out)⟩⟩
       case round=>
        clear H'
        try clear c1
        try clear p1
        try clear q1
        try clear c2
        try clear p2
        try clear c3
        try clear c4
        try clear c6
        try clear c6b0
        try clear p6
        try clear c7
        try clear c9
        try clear c9b0
        try clear c10
        try clear c13
        try clear c13b0
        try clear c13b1
        try clear c13b2
        try clear c14
        try clear p14
        try clear q14
        try clear c15
        try clear c19
        try clear c22
        try clear c23
        try clear c25
        try clear c25b0
        try clear c26
        try clear c26b0
        try clear c27
        try clear c27b0
        try clear c28
        try clear c28b0
        try clear c28b1
        try clear c29
        try clear c29b0
        try clear c29b1
        try clear c30
        try clear c30b0
        try clear c31
        try clear c31b0
        try clear c32
        try clear c32b0
        try clear c33
        try clear c35
        try clear c37
        try clear c37b0
        try clear c38
        try clear c38b0
        try clear c39
        try clear c39b0
        try clear c40
        try clear c42
        try clear c44
        try clear p142004
        try clear p2
        try clear p6
        try clear q142004
        obtain⟨x69_3,rfl,HA,HK3,BK142001,BK142002,HB⟩:=hrel
        cases gk with
        | zero=>exact absurd HA.out (by simp[ZN.l1])
        | succ k3=>
         have H:=HA.out
         clear HA
         simp only[ZN.l1] at H
         by_cases c46:x69_3<(l1_2.length:Int)
         ·rw[if_pos c46] at H
          have c46b0:decide (x69_3<(l1_2.length:Int))=true:=Ze c46
          clear c46
          by_cases c47:0≤x69_3
          ·rw[if_pos c47] at H
           have c47b0:decide (0≤x69_3)=true:=Ze c47
           clear c47
           by_cases c48:x69_3<(l1_2.length:Int)
           ·rw[if_pos c48] at H
            have c48b0:decide (x69_3<(l1_2.length:Int))=true:=Ze c48
            clear c48
            replace H:=Zh H
            obtain⟨t142006,A490,H⟩:=H;have A49:=Za A490;clear A490
            by_cases c50:t142006≥0
            ·rw[if_pos c50] at H
             have c50b0:decide (0≤t142006)=true:=Ze c50
             clear c50
             by_cases c51:0≤t142006
             ·rw[if_pos c51] at H
              have c51b0:decide (0≤t142006)=true:=Ze c51
              clear c51
              by_cases c52:t142006<(l1_1.length:Int)
              ·rw[if_pos c52] at H
               have c52b0:decide (t142006<(l1_1.length:Int))=true:=Ze c52
               clear c52
               by_cases c53:(((rd l1_2 x69_3) != 0) != ((rd l1_1 t142006) != (-1)))=true
               ·rw[if_pos c53] at H
                have c53b0:(((rd l1_2 x69_3) != 0) != ((rd l1_1 t142006) != (-1)))=true:=c53
                (try(have c53b1:decide (((rd l1_2 x69_3) != 0)=((rd l1_1 t142006) != (-1)))=false:=by simpa using c53))
                (try(have c53b2:(((rd l1_2 x69_3) != 0) == ((rd l1_1 t142006) != (-1)))=false:=by simpa using c53))
                (try(have c53b3:¬(((rd l1_2 x69_3) != 0)=((rd l1_1 t142006) != (-1))):=by simpa using c53))
                clear c53
                obtain rfl:=Zg H
                have p142005:0≤(x69_3:Int):=Zd (by with_reducible assumption)
                have q142005:x69_3<(l1_2.length:Int):=Zd (by with_reducible assumption)
                obtain⟨ad142005,e142005,hx142005_0⟩:=Kd.at_int HR1_2.out x69_3 p142005 q142005
                cases e142005
                replace hx142005_0:=(HB.out.cell (Zc w _ hx142005_0)).trans hx142005_0
                replace p142005:=eq_true p142005
                replace q142005:=eq_true q142005
                have hcz55_0:wr.cell? ⟨gb142001,0,none⟩=some (.slice A0_0 l0_0.length c0_0):=(Zm BK142001.out 0).trans rfl
                have hcz55_1:wr.cell? ⟨gb142001,1,none⟩=some (.slice A0_1 l0_1.length c0_1):=(Zm BK142001.out 1).trans rfl
                have hcz55_2:wr.cell? ⟨gb142001,2,none⟩=some (.int .i64 a0_2):=(Zm BK142001.out 2).trans rfl
                go_wp2_with (first|((with_reducible refine ZH (f:=126) rfl ?_);refine ZW (some 77) rfl rfl Try.func126 (by kernel_rfl) rfl #[.agg #[.slice A0_0 l0_0.length c0_0,.slice A0_1 l0_1.length c0_1,.int .i64 a0_2],.int .i64 (wrap64 (x69_3+1))] rfl (by(try simp only[List.map_toArray,List.map_cons,List.map_nil]);first|done|rfl|(simp only[Zk,Zj];rfl)) ?_;(with_reducible refine(ZaM.calls _ _ l0_0 _ _ l0_1 a0_2 (wrap64 (x69_3+1)) t142006 _ ?side1 ?side2 ?side3 ?side4 A49.out).mono ?_);(case side1=>exact(Zb HR0_0.out HB.out));(case side2=>exact HC0_0.out);(case side3=>exact(Zb HR0_1.out HB.out));(case side4=>exact HC0_1.out);rintro e w56 ⟨rfl,hb⟩;refine⟨_,rfl,?_⟩;have n0_:=Za (Zw (g:=gb142001) (o:=.cells #[.slice A0_0 l0_0.length c0_0,.slice A0_1 l0_1.length c0_1,.int .i64 a0_2] 35 (0,0)) BK142001.out hb);have n1_:=Za (Zw (g:=gb142002) (o:=.cells #[.int .i64 a1_0,.slice A1_1 l1_1.length c1_1,.slice (some ad142005) l1_2.length c1_2] 66 (0,0)) BK142002.out hb);have n2_:=Za (Zv (by exact HB.out) hb);clear BK142001;clear BK142002;clear HB;have BK142001:=n0_;have BK142002:=n1_;have HB:=n2_;clear n0_ n1_ n2_;have hcz57_0:w56.cell? ⟨gb142002,0,none⟩=some (.int .i64 a1_0):=(Zm BK142002.out 0).trans rfl;have hcz57_1:w56.cell? ⟨gb142002,1,none⟩=some (.slice A1_1 l1_1.length c1_1):=(Zm BK142002.out 1).trans rfl;have hcz57_2:w56.cell? ⟨gb142002,2,none⟩=some (.slice (some ad142005) l1_2.length c1_2):=(Zm BK142002.out 2).trans rfl;have p142007:0≤(t142006:Int):=Zd (by with_reducible assumption);have q142007:t142006<(l1_1.length:Int):=Zd (by with_reducible assumption);obtain⟨ad142007,e142007,hx142007_0⟩:=Kd.at_int HR1_1.out t142006 p142007 q142007;cases e142007;replace hx142007_0:=(HB.out.cell (Zc w _ hx142007_0)).trans hx142007_0;replace p142007:=eq_true p142007;replace q142007:=eq_true q142007))
                go_ret
                exact⟨by first|rfl|(simp[Zy,Zx] <;> rfl)|(simp[*,Zy,Zx] <;> rfl),by repeat(first|(with_reducible first|exact HB.out|apply Zp|apply Zn|apply Zr|refine Zq ?_ GE142001.out|refine Zq ?_ GE142002.out)|exact HB.out)⟩
               ·rw[if_neg c53] at H
                have c53b0:(((rd l1_2 x69_3) != 0) != ((rd l1_1 t142006) != (-1)))=false:=by simpa using c53
                (try(have c53b1:decide (((rd l1_2 x69_3) != 0)=((rd l1_1 t142006) != (-1)))=true:=by simpa using c53))
                (try(have c53b2:(((rd l1_2 x69_3) != 0) == ((rd l1_1 t142006) != (-1)))=true:=by simpa using c53))
                clear c53
                have H':=Za H
                clear H
                have p142005:0≤(x69_3:Int):=Zd (by with_reducible assumption)
                have q142005:x69_3<(l1_2.length:Int):=Zd (by with_reducible assumption)
                obtain⟨ad142005,e142005,hx142005_0⟩:=Kd.at_int HR1_2.out x69_3 p142005 q142005
                cases e142005
                replace hx142005_0:=(HB.out.cell (Zc w _ hx142005_0)).trans hx142005_0
                replace p142005:=eq_true p142005
                replace q142005:=eq_true q142005
                have hcz59_0:wr.cell? ⟨gb142001,0,none⟩=some (.slice A0_0 l0_0.length c0_0):=(Zm BK142001.out 0).trans rfl
                have hcz59_1:wr.cell? ⟨gb142001,1,none⟩=some (.slice A0_1 l0_1.length c0_1):=(Zm BK142001.out 1).trans rfl
                have hcz59_2:wr.cell? ⟨gb142001,2,none⟩=some (.int .i64 a0_2):=(Zm BK142001.out 2).trans rfl
                go_wp2_with (first|((with_reducible refine ZH (f:=126) rfl ?_);refine ZW (some 77) rfl rfl Try.func126 (by kernel_rfl) rfl #[.agg #[.slice A0_0 l0_0.length c0_0,.slice A0_1 l0_1.length c0_1,.int .i64 a0_2],.int .i64 (wrap64 (x69_3+1))] rfl (by(try simp only[List.map_toArray,List.map_cons,List.map_nil]);first|done|rfl|(simp only[Zk,Zj];rfl)) ?_;(with_reducible refine(ZaM.calls _ _ l0_0 _ _ l0_1 a0_2 (wrap64 (x69_3+1)) t142006 _ ?side1 ?side2 ?side3 ?side4 A49.out).mono ?_);(case side1=>exact(Zb HR0_0.out HB.out));(case side2=>exact HC0_0.out);(case side3=>exact(Zb HR0_1.out HB.out));(case side4=>exact HC0_1.out);rintro e w60 ⟨rfl,hb⟩;refine⟨_,rfl,?_⟩;have n0_:=Za (Zw (g:=gb142001) (o:=.cells #[.slice A0_0 l0_0.length c0_0,.slice A0_1 l0_1.length c0_1,.int .i64 a0_2] 35 (0,0)) BK142001.out hb);have n1_:=Za (Zw (g:=gb142002) (o:=.cells #[.int .i64 a1_0,.slice A1_1 l1_1.length c1_1,.slice (some ad142005) l1_2.length c1_2] 66 (0,0)) BK142002.out hb);have n2_:=Za (Zv (by exact HB.out) hb);clear BK142001;clear BK142002;clear HB;have BK142001:=n0_;have BK142002:=n1_;have HB:=n2_;clear n0_ n1_ n2_;have hcz61_0:w60.cell? ⟨gb142002,0,none⟩=some (.int .i64 a1_0):=(Zm BK142002.out 0).trans rfl;have hcz61_1:w60.cell? ⟨gb142002,1,none⟩=some (.slice A1_1 l1_1.length c1_1):=(Zm BK142002.out 1).trans rfl;have hcz61_2:w60.cell? ⟨gb142002,2,none⟩=some (.slice (some ad142005) l1_2.length c1_2):=(Zm BK142002.out 2).trans rfl;have p142007:0≤(t142006:Int):=Zd (by with_reducible assumption);have q142007:t142006<(l1_1.length:Int):=Zd (by with_reducible assumption);obtain⟨ad142007,e142007,hx142007_0⟩:=Kd.at_int HR1_1.out t142006 p142007 q142007;cases e142007;replace hx142007_0:=(HB.out.cell (Zc w _ hx142007_0)).trans hx142007_0;replace p142007:=eq_true p142007;replace q142007:=eq_true q142007))
                go_roundg k3
                case measure=>have:=HJ2.out;have:=HK2.out;have:=HK3.out;omega
                case rel=>exact⟨(wrap64 (x69_3+1)),(by first|rfl|(simp;done)|(simp[*];done)),H',⟨by have:=HJ2.out;have:=HK2.out;have:=HK3.out;omega⟩,⟨by(with_reducible repeat(first|refine Zs ?_ _|refine Zu ?_|refine Zt ?_ _));exact BK142001.out⟩,⟨by(with_reducible repeat(first|refine Zs ?_ _|refine Zu ?_|refine Zt ?_ _));exact BK142002.out⟩,⟨by repeat(first|(with_reducible first|exact HB.out|apply Zp|apply Zn|apply Zr|refine Zq ?_ GE142001.out|refine Zq ?_ GE142002.out)|exact HB.out)⟩⟩
              ·rw[if_neg c52] at H
               exact absurd H (by simp)
             ·rw[if_neg c51] at H
              exact absurd H (by simp)
            ·rw[if_neg c50] at H
             have c50b0:decide (0≤t142006)=false:=Zf c50
             clear c50
             by_cases c62:(((rd l1_2 x69_3) != 0) != false)=true
             ·rw[if_pos c62] at H
              have c62b0:(((rd l1_2 x69_3) != 0) != false)=true:=c62
              (try(have c62b1:decide (((rd l1_2 x69_3) != 0)=false)=false:=by simpa using c62))
              (try(have c62b2:(((rd l1_2 x69_3) != 0) == false)=false:=by simpa using c62))
              (try(have c62b3:¬(((rd l1_2 x69_3) != 0)=false):=by simpa using c62))
              clear c62
              obtain rfl:=Zg H
              have p142005:0≤(x69_3:Int):=Zd (by with_reducible assumption)
              have q142005:x69_3<(l1_2.length:Int):=Zd (by with_reducible assumption)
              obtain⟨ad142005,e142005,hx142005_0⟩:=Kd.at_int HR1_2.out x69_3 p142005 q142005
              cases e142005
              replace hx142005_0:=(HB.out.cell (Zc w _ hx142005_0)).trans hx142005_0
              replace p142005:=eq_true p142005
              replace q142005:=eq_true q142005
              have hcz64_0:wr.cell? ⟨gb142001,0,none⟩=some (.slice A0_0 l0_0.length c0_0):=(Zm BK142001.out 0).trans rfl
              have hcz64_1:wr.cell? ⟨gb142001,1,none⟩=some (.slice A0_1 l0_1.length c0_1):=(Zm BK142001.out 1).trans rfl
              have hcz64_2:wr.cell? ⟨gb142001,2,none⟩=some (.int .i64 a0_2):=(Zm BK142001.out 2).trans rfl
              go_wp2_with (first|((with_reducible refine ZH (f:=126) rfl ?_);refine ZW (some 77) rfl rfl Try.func126 (by kernel_rfl) rfl #[.agg #[.slice A0_0 l0_0.length c0_0,.slice A0_1 l0_1.length c0_1,.int .i64 a0_2],.int .i64 (wrap64 (x69_3+1))] rfl (by(try simp only[List.map_toArray,List.map_cons,List.map_nil]);first|done|rfl|(simp only[Zk,Zj];rfl)) ?_;(with_reducible refine(ZaM.calls _ _ l0_0 _ _ l0_1 a0_2 (wrap64 (x69_3+1)) t142006 _ ?side1 ?side2 ?side3 ?side4 A49.out).mono ?_);(case side1=>exact(Zb HR0_0.out HB.out));(case side2=>exact HC0_0.out);(case side3=>exact(Zb HR0_1.out HB.out));(case side4=>exact HC0_1.out);rintro e w65 ⟨rfl,hb⟩;refine⟨_,rfl,?_⟩;have n0_:=Za (Zw (g:=gb142001) (o:=.cells #[.slice A0_0 l0_0.length c0_0,.slice A0_1 l0_1.length c0_1,.int .i64 a0_2] 35 (0,0)) BK142001.out hb);have n1_:=Za (Zw (g:=gb142002) (o:=.cells #[.int .i64 a1_0,.slice A1_1 l1_1.length c1_1,.slice (some ad142005) l1_2.length c1_2] 66 (0,0)) BK142002.out hb);have n2_:=Za (Zv (by exact HB.out) hb);clear BK142001;clear BK142002;clear HB;have BK142001:=n0_;have BK142002:=n1_;have HB:=n2_;clear n0_ n1_ n2_;(try clear hi)))
              go_ret
              exact⟨by first|rfl|(simp[Zy,Zx] <;> rfl)|(simp[*,Zy,Zx] <;> rfl),by repeat(first|(with_reducible first|exact HB.out|apply Zp|apply Zn|apply Zr|refine Zq ?_ GE142001.out|refine Zq ?_ GE142002.out)|exact HB.out)⟩
             ·rw[if_neg c62] at H
              have c62b0:(((rd l1_2 x69_3) != 0) != false)=false:=by simpa using c62
              (try(have c62b1:decide (((rd l1_2 x69_3) != 0)=false)=true:=by simpa using c62))
              (try(have c62b2:(((rd l1_2 x69_3) != 0) == false)=true:=by simpa using c62))
              clear c62
              have H':=Za H
              clear H
              have p142005:0≤(x69_3:Int):=Zd (by with_reducible assumption)
              have q142005:x69_3<(l1_2.length:Int):=Zd (by with_reducible assumption)
              obtain⟨ad142005,e142005,hx142005_0⟩:=Kd.at_int HR1_2.out x69_3 p142005 q142005
              cases e142005
              replace hx142005_0:=(HB.out.cell (Zc w _ hx142005_0)).trans hx142005_0
              replace p142005:=eq_true p142005
              replace q142005:=eq_true q142005
              have hcz67_0:wr.cell? ⟨gb142001,0,none⟩=some (.slice A0_0 l0_0.length c0_0):=(Zm BK142001.out 0).trans rfl
              have hcz67_1:wr.cell? ⟨gb142001,1,none⟩=some (.slice A0_1 l0_1.length c0_1):=(Zm BK142001.out 1).trans rfl
              have hcz67_2:wr.cell? ⟨gb142001,2,none⟩=some (.int .i64 a0_2):=(Zm BK142001.out 2).trans rfl
              go_wp2_with (first|((with_reducible refine ZH (f:=126) rfl ?_);refine ZW (some 77) rfl rfl Try.func126 (by kernel_rfl) rfl #[.agg #[.slice A0_0 l0_0.length c0_0,.slice A0_1 l0_1.length c0_1,.int .i64 a0_2],.int .i64 (wrap64 (x69_3+1))] rfl (by(try simp only[List.map_toArray,List.map_cons,List.map_nil]);first|done|rfl|(simp only[Zk,Zj];rfl)) ?_;(with_reducible refine(ZaM.calls _ _ l0_0 _ _ l0_1 a0_2 (wrap64 (x69_3+1)) t142006 _ ?side1 ?side2 ?side3 ?side4 A49.out).mono ?_);(case side1=>exact(Zb HR0_0.out HB.out));(case side2=>exact HC0_0.out);(case side3=>exact(Zb HR0_1.out HB.out));(case side4=>exact HC0_1.out);rintro e w68 ⟨rfl,hb⟩;refine⟨_,rfl,?_⟩;have n0_:=Za (Zw (g:=gb142001) (o:=.cells #[.slice A0_0 l0_0.length c0_0,.slice A0_1 l0_1.length c0_1,.int .i64 a0_2] 35 (0,0)) BK142001.out hb);have n1_:=Za (Zw (g:=gb142002) (o:=.cells #[.int .i64 a1_0,.slice A1_1 l1_1.length c1_1,.slice (some ad142005) l1_2.length c1_2] 66 (0,0)) BK142002.out hb);have n2_:=Za (Zv (by exact HB.out) hb);clear BK142001;clear BK142002;clear HB;have BK142001:=n0_;have BK142002:=n1_;have HB:=n2_;clear n0_ n1_ n2_;(try clear hi)))
              go_roundg k3
              case measure=>have:=HJ2.out;have:=HK2.out;have:=HK3.out;omega
              case rel=>exact⟨(wrap64 (x69_3+1)),(by first|rfl|(simp;done)|(simp[*];done)),H',⟨by have:=HJ2.out;have:=HK2.out;have:=HK3.out;omega⟩,⟨by(with_reducible repeat(first|refine Zs ?_ _|refine Zu ?_|refine Zt ?_ _));exact BK142001.out⟩,⟨by(with_reducible repeat(first|refine Zs ?_ _|refine Zu ?_|refine Zt ?_ _));exact BK142002.out⟩,⟨by repeat(first|(with_reducible first|exact HB.out|apply Zp|apply Zn|apply Zr|refine Zq ?_ GE142001.out|refine Zq ?_ GE142002.out)|exact HB.out)⟩⟩
           ·rw[if_neg c48] at H
            exact absurd H (by simp)
          ·rw[if_neg c47] at H
           exact absurd H (by simp)
         ·rw[if_neg c46] at H
          have c46b0:decide (x69_3<(l1_2.length:Int))=false:=Zf c46
          clear c46
          obtain rfl:=Zg H
          go_wp2
          go_ret
          exact⟨by first|rfl|(simp[Zy,Zx] <;> rfl)|(simp[*,Zy,Zx] <;> rfl),by repeat(first|(with_reducible first|exact HB.out|apply Zp|apply Zn|apply Zr|refine Zq ?_ GE142001.out|refine Zq ?_ GE142002.out)|exact HB.out)⟩
def Zbw.f (k:Nat) (l0_0:List (S116)) (l0_1:List (S90)) (a0_2:Int) (l1:List Int) (a2:Int):Option (Bool):=(Zan.f a2).bind fun t125002=>((ZaM.f l0_0 l0_1 a0_2 t125002).bind fun t125003=>(if t125003<0 then(some false) else(if 0≤t125003 then(if t125003<(l0_0.length:Int) then((Z4.f ((ZA l0_0 t125003).f1) a2).bind fun t125005=>(if t125005=true then(some false) else((Z4.f ((ZA l0_0 t125003).f1) (wrap64 (-a2))).bind fun t125006=>(if t125006=true then(some false) else((ZaP.f k l1 ((ZA l0_0 t125003).f1)).bind fun t125007=>(some t125007)))))) else(none)) else(none))))
set_option maxHeartbeats 8000000 in
set_option maxRecDepth 100000 in
theorem Zbw.calls (k:Nat) (A0_0:Option Addr) (c0_0:Nat) (l0_0:List (S116)) (A0_1:Option Addr) (c0_1:Nat) (l0_1:List (S90)) (a0_2:Int) (A1:Option Addr) (c1:Nat) (l1:List Int) (a2:Int) (r:Bool) (w:World) (hr0_0:Kd.C k116 w A0_0 l0_0.length l0_0) (hc0_0:l0_0.length≤c0_0) (hr0_1:Kd.C k90 w A0_1 l0_1.length l0_1) (hc0_1:l0_1.length≤c0_1) (hr1:Kd.C (Kd.int .i64) w A1 l1.length l1) (hc1:l1.length≤c1) (h:Zbw.f k l0_0 l0_1 a0_2 l1 a2=some r) :
  Calls Try.prog 125 #[.agg #[.slice A0_0 l0_0.length c0_0,.slice A0_1 l0_1.length c0_1,.int .i64 a0_2],.slice A1 l1.length c1,.int .i64 a2] w fun e w'=>e=.returned (.bool r)∧Below w.heap.size w w':=by
 have hu35:=Try.underlying35
 have HR0_0:=Za hr0_0;have HC0_0:=Za hc0_0;clear hr0_0 hc0_0;have HR0_1:=Za hr0_1;have HC0_1:=Za hc0_1;clear hr0_1 hc0_1;have HR1:=Za hr1;have HC1:=Za hc1;clear hr1 hc1
 have HB:=Za (Below.refl w.heap.size w)
 have H:((Zan.f a2).bind fun t125002=>((ZaM.f l0_0 l0_1 a0_2 t125002).bind fun t125003=>(if t125003<0 then(some false) else(if 0≤t125003 then(if t125003<(l0_0.length:Int) then((Z4.f ((ZA l0_0 t125003).f1) a2).bind fun t125005=>(if t125005=true then(some false) else((Z4.f ((ZA l0_0 t125003).f1) (wrap64 (-a2))).bind fun t125006=>(if t125006=true then(some false) else((ZaP.f k l1 ((ZA l0_0 t125003).f1)).bind fun t125007=>(some t125007)))))) else(none)) else(none)))))=some r:=h
 clear h
 replace H:=Zh H
 obtain⟨t125002,A40,H⟩:=H;have A4:=Za A40;clear A40
 replace H:=Zh H
 obtain⟨t125003,A50,H⟩:=H;have A5:=Za A50;clear A50
 by_cases c6:t125003<0
 ·rw[if_pos c6] at H
  have c6b0:decide (t125003<0)=true:=Ze c6
  clear c6
  obtain rfl:=Zg H
  go_enter Try.func125,Try.ntmps125
  try go_wp2_with (first|((with_reducible refine ZG (N:=3) rfl ?_);refine ZE ?hg (N:=3) ?hd (cs:=#[.slice A0_0 l0_0.length c0_0,.slice A0_1 l0_1.length c0_1,.int .i64 a0_2]) (t:=35) ?hr ?_;(case hd=>rfl);(case hg=>rfl);(case hr=>first|(go_simp;done)|(go_simp;rfl));intro gb125001 hg w7 hbox hb;have n0_:=Za (Zv (by exact HB.out) hb);have n1_:=Za (hbox);have n2_:=Za ((by rw[hg];exact(Zz (by exact HB.out)):w.heap.size≤gb125001));have n3_:=n2_;clear HB;have HB:=n0_;have BK125001:=n1_;have GW125001:=n2_;have GE125001:=n3_;clear n0_ n1_ n2_ n3_;clear hb hbox hg))
  have n0_:=Za (Zu BK125001.out)
  have n1_:=Za (Zr HB.out)
  clear BK125001 HB;have BK125001:=n0_;have HB:=n1_;clear n0_ n1_
  refine Zb7 (n:=5) (S:=fun w'=>w'.cell? ⟨gb125001,0,none⟩=some (.slice A0_0 l0_0.length c0_0)∧w'.cell? ⟨gb125001,1,none⟩=some (.slice A0_1 l0_1.length c0_1)∧w'.cell? ⟨gb125001,2,none⟩=some (.int .i64 a0_2)) (ds:=[]) #[false,false,false,false,false] (by kernel_rfl) rfl rfl ⟨(Zm BK125001.out 0).trans rfl,(Zm BK125001.out 1).trans rfl,(Zm BK125001.out 2).trans rfl⟩ (fun hHeld=>?_)
  generalize w7.drew=w8 at BK125001 HB hHeld ⊢
  refine Z2 (i:=1) (N:=some 10) (v:=?_) (a':=?_) #[false,true,false,false,false] rfl rfl (by kernel_rfl) (fun _ _ _ h=>h) (Or.inl ⟨by rfl,?_⟩) ?_ ?_
  rotate_left
  ·intro w'
   go_simp
   with_reducible rfl
  rotate_left
  ·simp only[Act.put,List.setIfInBounds_toArray,List.set_cons_zero,List.set_cons_succ,ZL,ZM]
   rfl
  refine take_ (i:=0) (N:=some 9) (v:=?_) (a':=?_) #[true,true,false,false,false] rfl rfl (by kernel_rfl) (fun _ _ _ h=>h) (Or.inl ⟨by rfl,?_⟩) hHeld ?_ ?_
  rotate_left
  ·rintro w' ⟨s0,s1,s2⟩
   go_simp
   with_reducible rfl
  rotate_left
  ·simp only[Act.put,List.setIfInBounds_toArray,List.set_cons_zero,List.set_cons_succ,ZL,ZM]
   rfl
  refine one_ (i:=2) (N:=some 11) #[true,true,true,false,false] rfl rfl (by kernel_rfl) (by decide) (fun K hK=>?_)
  refine Zb1 Try.func162 (by kernel_rfl) rfl #[.int .i64 a2] (by rfl) rfl rfl (by(try simp only[List.map_toArray,List.map_cons,List.map_nil]);first|done|rfl|(simp only[Zk,Zj];rfl)) ?_
  with_reducible refine(Zan.calls a2 t125002 _ A4.out).mono ?_
  rintro e w9 ⟨rfl,hb⟩
  refine⟨_,rfl,?_⟩
  have n0_:=Za (Zw BK125001.out hb)
  have n1_:=Za (Zv (by exact HB.out) hb)
  clear BK125001 HB;have BK125001:=n0_;have HB:=n1_;clear n0_ n1_
  (try clear hb)
  (try clear hb2)
  (try clear hk)
  (try clear hi)
  refine hK.out _ _ ⟨(Zm BK125001.out 0).trans rfl,(Zm BK125001.out 1).trans rfl,(Zm BK125001.out 2).trans rfl⟩ (fun hHeld=>?_)
  clear hK K
  refine ZbX (a':=?_) ?_ ?_
  rotate_left
  ·show Act.put _ (some 11) _=_
   simp only[Act.put,List.setIfInBounds_toArray,List.set_cons_zero,List.set_cons_succ,ZL,ZM]
   rfl
  refine one_ (i:=3) (N:=some 12) #[true,true,true,true,false] rfl rfl (by kernel_rfl) (by decide) (fun K hK=>?_)
  refine Zb1 Try.func126 (by kernel_rfl) rfl #[.agg #[.slice A0_0 l0_0.length c0_0,.slice A0_1 l0_1.length c0_1,.int .i64 a0_2],.int .i64 t125002] (by rfl) rfl rfl (by(try simp only[List.map_toArray,List.map_cons,List.map_nil]);first|done|rfl|(simp only[Zk,Zj];rfl)) ?_
  with_reducible refine(ZaM.calls _ _ l0_0 _ _ l0_1 a0_2 t125002 t125003 _ ?side1 ?side2 ?side3 ?side4 A5.out).mono ?_
  (case side1=>exact(Zb HR0_0.out HB.out))
  (case side2=>exact HC0_0.out)
  (case side3=>exact(Zb HR0_1.out HB.out))
  (case side4=>exact HC0_1.out)
  rintro e w10 ⟨rfl,hb⟩
  refine⟨_,rfl,?_⟩
  have n0_:=Za (Zw BK125001.out hb)
  have n1_:=Za (Zv (by exact HB.out) hb)
  clear BK125001 HB;have BK125001:=n0_;have HB:=n1_;clear n0_ n1_
  (try clear hb)
  (try clear hb2)
  (try clear hk)
  (try clear hi)
  refine hK.out _ _ ⟨(Zm BK125001.out 0).trans rfl,(Zm BK125001.out 1).trans rfl,(Zm BK125001.out 2).trans rfl⟩ (fun hHeld=>?_)
  clear hK K
  refine ZbX (a':=?_) ?_ ?_
  rotate_left
  ·show Act.put _ (some 12) _=_
   simp only[Act.put,List.setIfInBounds_toArray,List.set_cons_zero,List.set_cons_succ,ZL,ZM]
   rfl
  refine Z2 (i:=4) (N:=some 7) (v:=?_) (a':=?_) #[true,true,true,true,true] rfl rfl (by kernel_rfl) (fun _ _ _ h=>h) (Or.inl ⟨by rfl,?_⟩) ?_ ?_
  rotate_left
  ·intro w'
   go_simp
   with_reducible rfl
  rotate_left
  ·simp only[Act.put,List.setIfInBounds_toArray,List.set_cons_zero,List.set_cons_succ,ZL,ZM]
   rfl
  refine Zct (by kernel_rfl) ?_
  try go_wp2
  go_ret
  exact⟨by first|rfl|(simp[Zy,Zx] <;> rfl)|(simp[*,Zy,Zx] <;> rfl),by repeat(first|(with_reducible first|exact HB.out|apply Zp|apply Zn|apply Zr|refine Zq ?_ GE125001.out)|exact HB.out)⟩
 ·rw[if_neg c6] at H
  have c6b0:decide (t125003<0)=false:=Zf c6
  clear c6
  by_cases c11:0≤t125003
  ·rw[if_pos c11] at H
   have c11b0:decide (0≤t125003)=true:=Ze c11
   clear c11
   by_cases c12:t125003<(l0_0.length:Int)
   ·rw[if_pos c12] at H
    have c12b0:decide (t125003<(l0_0.length:Int))=true:=Ze c12
    clear c12
    replace H:=Zh H
    obtain⟨t125005,A130,H⟩:=H;have A13:=Za A130;clear A130
    by_cases c14:t125005=true
    ·subst c14
     rw[if_pos rfl] at H
     obtain rfl:=Zg H
     go_enter Try.func125,Try.ntmps125
     try go_wp2_with (first|((with_reducible refine ZG (N:=3) rfl ?_);refine ZE ?hg (N:=3) ?hd (cs:=#[.slice A0_0 l0_0.length c0_0,.slice A0_1 l0_1.length c0_1,.int .i64 a0_2]) (t:=35) ?hr ?_;(case hd=>rfl);(case hg=>rfl);(case hr=>first|(go_simp;done)|(go_simp;rfl));intro gb125001 hg w15 hbox hb;have n0_:=Za (Zv (by exact HB.out) hb);have n1_:=Za (hbox);have n2_:=Za ((by rw[hg];exact(Zz (by exact HB.out)):w.heap.size≤gb125001));have n3_:=n2_;clear HB;have HB:=n0_;have BK125001:=n1_;have GW125001:=n2_;have GE125001:=n3_;clear n0_ n1_ n2_ n3_;clear hb hbox hg))
     have n0_:=Za (Zu BK125001.out)
     have n1_:=Za (Zr HB.out)
     clear BK125001 HB;have BK125001:=n0_;have HB:=n1_;clear n0_ n1_
     refine Zb7 (n:=5) (S:=fun w'=>w'.cell? ⟨gb125001,0,none⟩=some (.slice A0_0 l0_0.length c0_0)∧w'.cell? ⟨gb125001,1,none⟩=some (.slice A0_1 l0_1.length c0_1)∧w'.cell? ⟨gb125001,2,none⟩=some (.int .i64 a0_2)) (ds:=[]) #[false,false,false,false,false] (by kernel_rfl) rfl rfl ⟨(Zm BK125001.out 0).trans rfl,(Zm BK125001.out 1).trans rfl,(Zm BK125001.out 2).trans rfl⟩ (fun hHeld=>?_)
     generalize w15.drew=w16 at BK125001 HB hHeld ⊢
     refine Z2 (i:=1) (N:=some 10) (v:=?_) (a':=?_) #[false,true,false,false,false] rfl rfl (by kernel_rfl) (fun _ _ _ h=>h) (Or.inl ⟨by rfl,?_⟩) ?_ ?_
     rotate_left
     ·intro w'
      go_simp
      with_reducible rfl
     rotate_left
     ·simp only[Act.put,List.setIfInBounds_toArray,List.set_cons_zero,List.set_cons_succ,ZL,ZM]
      rfl
     refine take_ (i:=0) (N:=some 9) (v:=?_) (a':=?_) #[true,true,false,false,false] rfl rfl (by kernel_rfl) (fun _ _ _ h=>h) (Or.inl ⟨by rfl,?_⟩) hHeld ?_ ?_
     rotate_left
     ·rintro w' ⟨s0,s1,s2⟩
      go_simp
      with_reducible rfl
     rotate_left
     ·simp only[Act.put,List.setIfInBounds_toArray,List.set_cons_zero,List.set_cons_succ,ZL,ZM]
      rfl
     refine one_ (i:=2) (N:=some 11) #[true,true,true,false,false] rfl rfl (by kernel_rfl) (by decide) (fun K hK=>?_)
     refine Zb1 Try.func162 (by kernel_rfl) rfl #[.int .i64 a2] (by rfl) rfl rfl (by(try simp only[List.map_toArray,List.map_cons,List.map_nil]);first|done|rfl|(simp only[Zk,Zj];rfl)) ?_
     with_reducible refine(Zan.calls a2 t125002 _ A4.out).mono ?_
     rintro e w17 ⟨rfl,hb⟩
     refine⟨_,rfl,?_⟩
     have n0_:=Za (Zw BK125001.out hb)
     have n1_:=Za (Zv (by exact HB.out) hb)
     clear BK125001 HB;have BK125001:=n0_;have HB:=n1_;clear n0_ n1_
     (try clear hb)
     (try clear hb2)
     (try clear hk)
     (try clear hi)
     refine hK.out _ _ ⟨(Zm BK125001.out 0).trans rfl,(Zm BK125001.out 1).trans rfl,(Zm BK125001.out 2).trans rfl⟩ (fun hHeld=>?_)
     clear hK K
     refine ZbX (a':=?_) ?_ ?_
     rotate_left
     ·show Act.put _ (some 11) _=_
      simp only[Act.put,List.setIfInBounds_toArray,List.set_cons_zero,List.set_cons_succ,ZL,ZM]
      rfl
     refine one_ (i:=3) (N:=some 12) #[true,true,true,true,false] rfl rfl (by kernel_rfl) (by decide) (fun K hK=>?_)
     refine Zb1 Try.func126 (by kernel_rfl) rfl #[.agg #[.slice A0_0 l0_0.length c0_0,.slice A0_1 l0_1.length c0_1,.int .i64 a0_2],.int .i64 t125002] (by rfl) rfl rfl (by(try simp only[List.map_toArray,List.map_cons,List.map_nil]);first|done|rfl|(simp only[Zk,Zj];rfl)) ?_
     with_reducible refine(ZaM.calls _ _ l0_0 _ _ l0_1 a0_2 t125002 t125003 _ ?side1 ?side2 ?side3 ?side4 A5.out).mono ?_
     (case side1=>exact(Zb HR0_0.out HB.out))
     (case side2=>exact HC0_0.out)
     (case side3=>exact(Zb HR0_1.out HB.out))
     (case side4=>exact HC0_1.out)
     rintro e w18 ⟨rfl,hb⟩
     refine⟨_,rfl,?_⟩
     have n0_:=Za (Zw BK125001.out hb)
     have n1_:=Za (Zv (by exact HB.out) hb)
     clear BK125001 HB;have BK125001:=n0_;have HB:=n1_;clear n0_ n1_
     (try clear hb)
     (try clear hb2)
     (try clear hk)
     (try clear hi)
     refine hK.out _ _ ⟨(Zm BK125001.out 0).trans rfl,(Zm BK125001.out 1).trans rfl,(Zm BK125001.out 2).trans rfl⟩ (fun hHeld=>?_)
     clear hK K
     refine ZbX (a':=?_) ?_ ?_
     rotate_left
     ·show Act.put _ (some 12) _=_
      simp only[Act.put,List.setIfInBounds_toArray,List.set_cons_zero,List.set_cons_succ,ZL,ZM]
      rfl
     refine Z2 (i:=4) (N:=some 7) (v:=?_) (a':=?_) #[true,true,true,true,true] rfl rfl (by kernel_rfl) (fun _ _ _ h=>h) (Or.inl ⟨by rfl,?_⟩) ?_ ?_
     rotate_left
     ·intro w'
      go_simp
      with_reducible rfl
     rotate_left
     ·simp only[Act.put,List.setIfInBounds_toArray,List.set_cons_zero,List.set_cons_succ,ZL,ZM]
      rfl
     refine Zct (by kernel_rfl) ?_
     have hcz19_0:w18.cell? ⟨gb125001,0,none⟩=some (.slice A0_0 l0_0.length c0_0):=(Zm BK125001.out 0).trans rfl
     have hcz19_1:w18.cell? ⟨gb125001,1,none⟩=some (.slice A0_1 l0_1.length c0_1):=(Zm BK125001.out 1).trans rfl
     have hcz19_2:w18.cell? ⟨gb125001,2,none⟩=some (.int .i64 a0_2):=(Zm BK125001.out 2).trans rfl
     have p125004:0≤(t125003:Int):=Zd (by with_reducible assumption)
     have q125004:t125003<(l0_0.length:Int):=Zd (by with_reducible assumption)
     obtain⟨ad125004,A125004_1,c125004_1,e125004,hx125004_0,hx125004_1,hx125004_2,hl125004_1,hi125004_1⟩:=Zak HR0_0.out t125003 p125004 q125004
     cases e125004
     replace hx125004_0:=(HB.out.cell (Zc w _ hx125004_0)).trans hx125004_0
     replace hx125004_1:=(HB.out.cell (Zc w _ hx125004_1)).trans hx125004_1
     replace hx125004_2:=(HB.out.cell (Zc w _ hx125004_2)).trans hx125004_2
     have HR125004_1:=Za hi125004_1;have HC125004_1:=Za hl125004_1;clear hi125004_1 hl125004_1
     replace p125004:=eq_true p125004
     replace q125004:=eq_true q125004
     try go_wp2_with (first|((with_reducible refine ZH (f:=134) rfl ?_);refine ZW (some 23) rfl rfl Try.func134 (by kernel_rfl) rfl #[.slice A125004_1 ((ZA l0_0 t125003).f1).length c125004_1,.int .i64 a2] rfl (by(try simp only[List.map_toArray,List.map_cons,List.map_nil]);first|done|rfl|(simp only[Zk,Zj];rfl)) ?_;(with_reducible refine(Z4.calls _ _ ((ZA l0_0 t125003).f1) a2 true _ ?side1 ?side2 A13.out).mono ?_);(case side1=>exact(Zb HR125004_1.out HB.out));(case side2=>exact HC125004_1.out);rintro e w20 ⟨rfl,hb⟩;refine⟨_,rfl,?_⟩;have n0_:=Za (Zw BK125001.out hb);have n1_:=Za (Zv (by exact HB.out) hb);clear BK125001;clear HB;have BK125001:=n0_;have HB:=n1_;clear n0_ n1_;(try clear hi)))
     go_ret
     exact⟨by first|rfl|(simp[Zy,Zx] <;> rfl)|(simp[*,Zy,Zx] <;> rfl),by repeat(first|(with_reducible first|exact HB.out|apply Zp|apply Zn|apply Zr|refine Zq ?_ GE125001.out)|exact HB.out)⟩
    ·replace c14:=Bool.eq_false_iff.mpr c14
     subst c14
     have H1:((Z4.f ((ZA l0_0 t125003).f1) (wrap64 (-a2))).bind fun t125006=>(if t125006=true then(some false) else((ZaP.f k l1 ((ZA l0_0 t125003).f1)).bind fun t125007=>(some t125007))))=some r:=by rw[if_neg (show ¬(false=true) by decide)] at H;exact H
     clear H
     have H:=H1
     clear H1
     replace H:=Zh H
     obtain⟨t125006,A210,H⟩:=H;have A21:=Za A210;clear A210
     by_cases c22:t125006=true
     ·subst c22
      rw[if_pos rfl] at H
      obtain rfl:=Zg H
      go_enter Try.func125,Try.ntmps125
      try go_wp2_with (first|((with_reducible refine ZG (N:=3) rfl ?_);refine ZE ?hg (N:=3) ?hd (cs:=#[.slice A0_0 l0_0.length c0_0,.slice A0_1 l0_1.length c0_1,.int .i64 a0_2]) (t:=35) ?hr ?_;(case hd=>rfl);(case hg=>rfl);(case hr=>first|(go_simp;done)|(go_simp;rfl));intro gb125001 hg w23 hbox hb;have n0_:=Za (Zv (by exact HB.out) hb);have n1_:=Za (hbox);have n2_:=Za ((by rw[hg];exact(Zz (by exact HB.out)):w.heap.size≤gb125001));have n3_:=n2_;clear HB;have HB:=n0_;have BK125001:=n1_;have GW125001:=n2_;have GE125001:=n3_;clear n0_ n1_ n2_ n3_;clear hb hbox hg))
      have n0_:=Za (Zu BK125001.out)
      have n1_:=Za (Zr HB.out)
      clear BK125001 HB;have BK125001:=n0_;have HB:=n1_;clear n0_ n1_
      refine Zb7 (n:=5) (S:=fun w'=>w'.cell? ⟨gb125001,0,none⟩=some (.slice A0_0 l0_0.length c0_0)∧w'.cell? ⟨gb125001,1,none⟩=some (.slice A0_1 l0_1.length c0_1)∧w'.cell? ⟨gb125001,2,none⟩=some (.int .i64 a0_2)) (ds:=[]) #[false,false,false,false,false] (by kernel_rfl) rfl rfl ⟨(Zm BK125001.out 0).trans rfl,(Zm BK125001.out 1).trans rfl,(Zm BK125001.out 2).trans rfl⟩ (fun hHeld=>?_)
      generalize w23.drew=w24 at BK125001 HB hHeld ⊢
      refine Z2 (i:=1) (N:=some 10) (v:=?_) (a':=?_) #[false,true,false,false,false] rfl rfl (by kernel_rfl) (fun _ _ _ h=>h) (Or.inl ⟨by rfl,?_⟩) ?_ ?_
      rotate_left
      ·intro w'
       go_simp
       with_reducible rfl
      rotate_left
      ·simp only[Act.put,List.setIfInBounds_toArray,List.set_cons_zero,List.set_cons_succ,ZL,ZM]
       rfl
      refine take_ (i:=0) (N:=some 9) (v:=?_) (a':=?_) #[true,true,false,false,false] rfl rfl (by kernel_rfl) (fun _ _ _ h=>h) (Or.inl ⟨by rfl,?_⟩) hHeld ?_ ?_
      rotate_left
      ·rintro w' ⟨s0,s1,s2⟩
       go_simp
       with_reducible rfl
      rotate_left
      ·simp only[Act.put,List.setIfInBounds_toArray,List.set_cons_zero,List.set_cons_succ,ZL,ZM]
       rfl
      refine one_ (i:=2) (N:=some 11) #[true,true,true,false,false] rfl rfl (by kernel_rfl) (by decide) (fun K hK=>?_)
      refine Zb1 Try.func162 (by kernel_rfl) rfl #[.int .i64 a2] (by rfl) rfl rfl (by(try simp only[List.map_toArray,List.map_cons,List.map_nil]);first|done|rfl|(simp only[Zk,Zj];rfl)) ?_
      with_reducible refine(Zan.calls a2 t125002 _ A4.out).mono ?_
      rintro e w25 ⟨rfl,hb⟩
      refine⟨_,rfl,?_⟩
      have n0_:=Za (Zw BK125001.out hb)
      have n1_:=Za (Zv (by exact HB.out) hb)
      clear BK125001 HB;have BK125001:=n0_;have HB:=n1_;clear n0_ n1_
      (try clear hb)
      (try clear hb2)
      (try clear hk)
      (try clear hi)
      refine hK.out _ _ ⟨(Zm BK125001.out 0).trans rfl,(Zm BK125001.out 1).trans rfl,(Zm BK125001.out 2).trans rfl⟩ (fun hHeld=>?_)
      clear hK K
      refine ZbX (a':=?_) ?_ ?_
      rotate_left
      ·show Act.put _ (some 11) _=_
       simp only[Act.put,List.setIfInBounds_toArray,List.set_cons_zero,List.set_cons_succ,ZL,ZM]
       rfl
      refine one_ (i:=3) (N:=some 12) #[true,true,true,true,false] rfl rfl (by kernel_rfl) (by decide) (fun K hK=>?_)
      refine Zb1 Try.func126 (by kernel_rfl) rfl #[.agg #[.slice A0_0 l0_0.length c0_0,.slice A0_1 l0_1.length c0_1,.int .i64 a0_2],.int .i64 t125002] (by rfl) rfl rfl (by(try simp only[List.map_toArray,List.map_cons,List.map_nil]);first|done|rfl|(simp only[Zk,Zj];rfl)) ?_
      with_reducible refine(ZaM.calls _ _ l0_0 _ _ l0_1 a0_2 t125002 t125003 _ ?side1 ?side2 ?side3 ?side4 A5.out).mono ?_
      (case side1=>exact(Zb HR0_0.out HB.out))
      (case side2=>exact HC0_0.out)
      (case side3=>exact(Zb HR0_1.out HB.out))
      (case side4=>exact HC0_1.out)
      rintro e w26 ⟨rfl,hb⟩
      refine⟨_,rfl,?_⟩
      have n0_:=Za (Zw BK125001.out hb)
      have n1_:=Za (Zv (by exact HB.out) hb)
      clear BK125001 HB;have BK125001:=n0_;have HB:=n1_;clear n0_ n1_
      (try clear hb)
      (try clear hb2)
      (try clear hk)
      (try clear hi)
      refine hK.out _ _ ⟨(Zm BK125001.out 0).trans rfl,(Zm BK125001.out 1).trans rfl,(Zm BK125001.out 2).trans rfl⟩ (fun hHeld=>?_)
      clear hK K
      refine ZbX (a':=?_) ?_ ?_
      rotate_left
      ·show Act.put _ (some 12) _=_
       simp only[Act.put,List.setIfInBounds_toArray,List.set_cons_zero,List.set_cons_succ,ZL,ZM]
       rfl
      refine Z2 (i:=4) (N:=some 7) (v:=?_) (a':=?_) #[true,true,true,true,true] rfl rfl (by kernel_rfl) (fun _ _ _ h=>h) (Or.inl ⟨by rfl,?_⟩) ?_ ?_
      rotate_left
      ·intro w'
       go_simp
       with_reducible rfl
      rotate_left
      ·simp only[Act.put,List.setIfInBounds_toArray,List.set_cons_zero,List.set_cons_succ,ZL,ZM]
       rfl
      refine Zct (by kernel_rfl) ?_
      have hcz27_0:w26.cell? ⟨gb125001,0,none⟩=some (.slice A0_0 l0_0.length c0_0):=(Zm BK125001.out 0).trans rfl
      have hcz27_1:w26.cell? ⟨gb125001,1,none⟩=some (.slice A0_1 l0_1.length c0_1):=(Zm BK125001.out 1).trans rfl
      have hcz27_2:w26.cell? ⟨gb125001,2,none⟩=some (.int .i64 a0_2):=(Zm BK125001.out 2).trans rfl
      have p125004:0≤(t125003:Int):=Zd (by with_reducible assumption)
      have q125004:t125003<(l0_0.length:Int):=Zd (by with_reducible assumption)
      obtain⟨ad125004,A125004_1,c125004_1,e125004,hx125004_0,hx125004_1,hx125004_2,hl125004_1,hi125004_1⟩:=Zak HR0_0.out t125003 p125004 q125004
      cases e125004
      replace hx125004_0:=(HB.out.cell (Zc w _ hx125004_0)).trans hx125004_0
      replace hx125004_1:=(HB.out.cell (Zc w _ hx125004_1)).trans hx125004_1
      replace hx125004_2:=(HB.out.cell (Zc w _ hx125004_2)).trans hx125004_2
      have HR125004_1:=Za hi125004_1;have HC125004_1:=Za hl125004_1;clear hi125004_1 hl125004_1
      replace p125004:=eq_true p125004
      replace q125004:=eq_true q125004
      try go_wp2_with (first|((with_reducible refine ZH (f:=134) rfl ?_);refine ZW (some 23) rfl rfl Try.func134 (by kernel_rfl) rfl #[.slice A125004_1 ((ZA l0_0 t125003).f1).length c125004_1,.int .i64 a2] rfl (by(try simp only[List.map_toArray,List.map_cons,List.map_nil]);first|done|rfl|(simp only[Zk,Zj];rfl)) ?_;(with_reducible refine(Z4.calls _ _ ((ZA l0_0 t125003).f1) a2 false _ ?side1 ?side2 A13.out).mono ?_);(case side1=>exact(Zb HR125004_1.out HB.out));(case side2=>exact HC125004_1.out);rintro e w28 ⟨rfl,hb⟩;refine⟨_,rfl,?_⟩;have n0_:=Za (Zw BK125001.out hb);have n1_:=Za (Zv (by exact HB.out) hb);clear BK125001;clear HB;have BK125001:=n0_;have HB:=n1_;clear n0_ n1_;(try clear hi))|(go_at_call 134;(with_reducible refine(Z4.calls _ _ ((ZA l0_0 t125003).f1) (wrap64 (-a2)) true _ ?side1 ?side2 A21.out).mono ?_);(case side1=>exact(Zb HR125004_1.out HB.out));(case side2=>exact HC125004_1.out);rintro e w29 ⟨rfl,hb⟩;have n0_:=Za (Zw BK125001.out hb);have n1_:=Za (Zv (by exact HB.out) hb);clear BK125001;clear HB;have BK125001:=n0_;have HB:=n1_;clear n0_ n1_;(try clear hi)))
      go_ret
      exact⟨by first|rfl|(simp[Zy,Zx] <;> rfl)|(simp[*,Zy,Zx] <;> rfl),by repeat(first|(with_reducible first|exact HB.out|apply Zp|apply Zn|apply Zr|refine Zq ?_ GE125001.out)|exact HB.out)⟩
     ·replace c22:=Bool.eq_false_iff.mpr c22
      subst c22
      have H1:((ZaP.f k l1 ((ZA l0_0 t125003).f1)).bind fun t125007=>(some t125007))=some r:=by rw[if_neg (show ¬(false=true) by decide)] at H;exact H
      clear H
      have H:=H1
      clear H1
      replace H:=Zh H
      obtain⟨t125007,A300,H⟩:=H;have A30:=Za A300;clear A300
      obtain rfl:=Zg H
      go_enter Try.func125,Try.ntmps125
      try go_wp2_with (first|((with_reducible refine ZG (N:=3) rfl ?_);refine ZE ?hg (N:=3) ?hd (cs:=#[.slice A0_0 l0_0.length c0_0,.slice A0_1 l0_1.length c0_1,.int .i64 a0_2]) (t:=35) ?hr ?_;(case hd=>rfl);(case hg=>rfl);(case hr=>first|(go_simp;done)|(go_simp;rfl));intro gb125001 hg w31 hbox hb;have n0_:=Za (Zv (by exact HB.out) hb);have n1_:=Za (hbox);have n2_:=Za ((by rw[hg];exact(Zz (by exact HB.out)):w.heap.size≤gb125001));have n3_:=n2_;clear HB;have HB:=n0_;have BK125001:=n1_;have GW125001:=n2_;have GE125001:=n3_;clear n0_ n1_ n2_ n3_;clear hb hbox hg))
      have n0_:=Za (Zu BK125001.out)
      have n1_:=Za (Zr HB.out)
      clear BK125001 HB;have BK125001:=n0_;have HB:=n1_;clear n0_ n1_
      refine Zb7 (n:=5) (S:=fun w'=>w'.cell? ⟨gb125001,0,none⟩=some (.slice A0_0 l0_0.length c0_0)∧w'.cell? ⟨gb125001,1,none⟩=some (.slice A0_1 l0_1.length c0_1)∧w'.cell? ⟨gb125001,2,none⟩=some (.int .i64 a0_2)) (ds:=[]) #[false,false,false,false,false] (by kernel_rfl) rfl rfl ⟨(Zm BK125001.out 0).trans rfl,(Zm BK125001.out 1).trans rfl,(Zm BK125001.out 2).trans rfl⟩ (fun hHeld=>?_)
      generalize w31.drew=w32 at BK125001 HB hHeld ⊢
      refine Z2 (i:=1) (N:=some 10) (v:=?_) (a':=?_) #[false,true,false,false,false] rfl rfl (by kernel_rfl) (fun _ _ _ h=>h) (Or.inl ⟨by rfl,?_⟩) ?_ ?_
      rotate_left
      ·intro w'
       go_simp
       with_reducible rfl
      rotate_left
      ·simp only[Act.put,List.setIfInBounds_toArray,List.set_cons_zero,List.set_cons_succ,ZL,ZM]
       rfl
      refine take_ (i:=0) (N:=some 9) (v:=?_) (a':=?_) #[true,true,false,false,false] rfl rfl (by kernel_rfl) (fun _ _ _ h=>h) (Or.inl ⟨by rfl,?_⟩) hHeld ?_ ?_
      rotate_left
      ·rintro w' ⟨s0,s1,s2⟩
       go_simp
       with_reducible rfl
      rotate_left
      ·simp only[Act.put,List.setIfInBounds_toArray,List.set_cons_zero,List.set_cons_succ,ZL,ZM]
       rfl
      refine one_ (i:=2) (N:=some 11) #[true,true,true,false,false] rfl rfl (by kernel_rfl) (by decide) (fun K hK=>?_)
      refine Zb1 Try.func162 (by kernel_rfl) rfl #[.int .i64 a2] (by rfl) rfl rfl (by(try simp only[List.map_toArray,List.map_cons,List.map_nil]);first|done|rfl|(simp only[Zk,Zj];rfl)) ?_
      with_reducible refine(Zan.calls a2 t125002 _ A4.out).mono ?_
      rintro e w33 ⟨rfl,hb⟩
      refine⟨_,rfl,?_⟩
      have n0_:=Za (Zw BK125001.out hb)
      have n1_:=Za (Zv (by exact HB.out) hb)
      clear BK125001 HB;have BK125001:=n0_;have HB:=n1_;clear n0_ n1_
      (try clear hb)
      (try clear hb2)
      (try clear hk)
      (try clear hi)
      refine hK.out _ _ ⟨(Zm BK125001.out 0).trans rfl,(Zm BK125001.out 1).trans rfl,(Zm BK125001.out 2).trans rfl⟩ (fun hHeld=>?_)
      clear hK K
      refine ZbX (a':=?_) ?_ ?_
      rotate_left
      ·show Act.put _ (some 11) _=_
       simp only[Act.put,List.setIfInBounds_toArray,List.set_cons_zero,List.set_cons_succ,ZL,ZM]
       rfl
      refine one_ (i:=3) (N:=some 12) #[true,true,true,true,false] rfl rfl (by kernel_rfl) (by decide) (fun K hK=>?_)
      refine Zb1 Try.func126 (by kernel_rfl) rfl #[.agg #[.slice A0_0 l0_0.length c0_0,.slice A0_1 l0_1.length c0_1,.int .i64 a0_2],.int .i64 t125002] (by rfl) rfl rfl (by(try simp only[List.map_toArray,List.map_cons,List.map_nil]);first|done|rfl|(simp only[Zk,Zj];rfl)) ?_
      with_reducible refine(ZaM.calls _ _ l0_0 _ _ l0_1 a0_2 t125002 t125003 _ ?side1 ?side2 ?side3 ?side4 A5.out).mono ?_
      (case side1=>exact(Zb HR0_0.out HB.out))
      (case side2=>exact HC0_0.out)
      (case side3=>exact(Zb HR0_1.out HB.out))
      (case side4=>exact HC0_1.out)
      rintro e w34 ⟨rfl,hb⟩
      refine⟨_,rfl,?_⟩
      have n0_:=Za (Zw BK125001.out hb)
      have n1_:=Za (Zv (by exact HB.out) hb)
      clear BK125001 HB;have BK125001:=n0_;have HB:=n1_;clear n0_ n1_
      (try clear hb)
      (try clear hb2)
      (try clear hk)
      (try clear hi)
      refine hK.out _ _ ⟨(Zm BK125001.out 0).trans rfl,(Zm BK125001.out 1).trans rfl,(Zm BK125001.out 2).trans rfl⟩ (fun hHeld=>?_)
      clear hK K
      refine ZbX (a':=?_) ?_ ?_
      rotate_left
      ·show Act.put _ (some 12) _=_
       simp only[Act.put,List.setIfInBounds_toArray,List.set_cons_zero,List.set_cons_succ,ZL,ZM]
       rfl
      refine Z2 (i:=4) (N:=some 7) (v:=?_) (a':=?_) #[true,true,true,true,true] rfl rfl (by kernel_rfl) (fun _ _ _ h=>h) (Or.inl ⟨by rfl,?_⟩) ?_ ?_
      rotate_left
      ·intro w'
       go_simp
       with_reducible rfl
      rotate_left
      ·simp only[Act.put,List.setIfInBounds_toArray,List.set_cons_zero,List.set_cons_succ,ZL,ZM]
       rfl
      refine Zct (by kernel_rfl) ?_
      have hcz35_0:w34.cell? ⟨gb125001,0,none⟩=some (.slice A0_0 l0_0.length c0_0):=(Zm BK125001.out 0).trans rfl
      have hcz35_1:w34.cell? ⟨gb125001,1,none⟩=some (.slice A0_1 l0_1.length c0_1):=(Zm BK125001.out 1).trans rfl
      have hcz35_2:w34.cell? ⟨gb125001,2,none⟩=some (.int .i64 a0_2):=(Zm BK125001.out 2).trans rfl
      have p125004:0≤(t125003:Int):=Zd (by with_reducible assumption)
      have q125004:t125003<(l0_0.length:Int):=Zd (by with_reducible assumption)
      obtain⟨ad125004,A125004_1,c125004_1,e125004,hx125004_0,hx125004_1,hx125004_2,hl125004_1,hi125004_1⟩:=Zak HR0_0.out t125003 p125004 q125004
      cases e125004
      replace hx125004_0:=(HB.out.cell (Zc w _ hx125004_0)).trans hx125004_0
      replace hx125004_1:=(HB.out.cell (Zc w _ hx125004_1)).trans hx125004_1
      replace hx125004_2:=(HB.out.cell (Zc w _ hx125004_2)).trans hx125004_2
      have HR125004_1:=Za hi125004_1;have HC125004_1:=Za hl125004_1;clear hi125004_1 hl125004_1
      replace p125004:=eq_true p125004
      replace q125004:=eq_true q125004
      try go_wp2_with (first|((with_reducible refine ZH (f:=134) rfl ?_);refine ZW (some 23) rfl rfl Try.func134 (by kernel_rfl) rfl #[.slice A125004_1 ((ZA l0_0 t125003).f1).length c125004_1,.int .i64 a2] rfl (by(try simp only[List.map_toArray,List.map_cons,List.map_nil]);first|done|rfl|(simp only[Zk,Zj];rfl)) ?_;(with_reducible refine(Z4.calls _ _ ((ZA l0_0 t125003).f1) a2 false _ ?side1 ?side2 A13.out).mono ?_);(case side1=>exact(Zb HR125004_1.out HB.out));(case side2=>exact HC125004_1.out);rintro e w36 ⟨rfl,hb⟩;refine⟨_,rfl,?_⟩;have n0_:=Za (Zw BK125001.out hb);have n1_:=Za (Zv (by exact HB.out) hb);clear BK125001;clear HB;have BK125001:=n0_;have HB:=n1_;clear n0_ n1_;(try clear hi))|(go_at_call 134;(with_reducible refine(Z4.calls _ _ ((ZA l0_0 t125003).f1) (wrap64 (-a2)) false _ ?side1 ?side2 A21.out).mono ?_);(case side1=>exact(Zb HR125004_1.out HB.out));(case side2=>exact HC125004_1.out);rintro e w37 ⟨rfl,hb⟩;have n0_:=Za (Zw BK125001.out hb);have n1_:=Za (Zv (by exact HB.out) hb);clear BK125001;clear HB;have BK125001:=n0_;have HB:=n1_;clear n0_ n1_;(try clear hi))|(go_at_call 163;(with_reducible refine(ZaP.calls k _ _ l1 _ _ ((ZA l0_0 t125003).f1) t125007 _ ?side1 ?side2 ?side3 ?side4 A30.out).mono ?_);(case side1=>exact(Zb HR1.out HB.out));(case side2=>exact HC1.out);(case side3=>exact(Zb HR125004_1.out HB.out));(case side4=>exact HC125004_1.out);rintro e w38 ⟨rfl,hb⟩;have n0_:=Za (Zw BK125001.out hb);have n1_:=Za (Zv (by exact HB.out) hb);clear BK125001;clear HB;have BK125001:=n0_;have HB:=n1_;clear n0_ n1_;(try clear hi)))
      go_ret
      exact⟨by first|rfl|(simp[Zy,Zx] <;> rfl)|(simp[*,Zy,Zx] <;> rfl),by repeat(first|(with_reducible first|exact HB.out|apply Zp|apply Zn|apply Zr|refine Zq ?_ GE125001.out)|exact HB.out)⟩
   ·rw[if_neg c12] at H
    exact absurd H (by simp)
  ·rw[if_neg c11] at H
   exact absurd H (by simp)
end Go.Proofs.Ytodfnelilhjoeaa.Pr
namespace Go.Proofs.Ytodfnelilhjoeaa.Pr
open Go.RowKit Go.Proofs.YtodfnelilhjoeaaW.PrintWords Go.Proofs.Ytodfnelilhjoeaa.Ni
def ZdL (ns:List ZX) (lb:List Int) (x w:Int):Bool:=
 decide (0≤w) && !((ZA ns w).f1.any fun y=>decide (x=y)) && !((ZA ns w).f1.any fun y=>decide (-x=y)) && impB lb (ZA ns w).f1
def ZbG (ns:List ZX) (lb:List Int) (x:Int):Bool:=ZdL ns lb x (Zbc ns (prp x))
theorem isWatched_f (ns:List ZX) (ts:List PTie) (z:Int) (lb:List Int) (x:Int) (hb:∀n∈ns,n.f1.length≤9223372036854775807) (hl:lb.length≤9223372036854775807) (hx:Za6 x=true) (k:Nat) (hk:2 ^ 64≤k) :
  Zbw.f k ns ts z lb x=some (ZbG ns lb x):=by
 have hx3:=(Zbm x).1 hx
 have hbd:=ZdQ (fun n:ZX=>decide (0<prp x) && decide (n.f2=prp x)) ns
 unfold Zbw.f
 rw[Zdd hx,Zi]
 unfold ZaM.f ZbG ZdL
 rw[Zi]
 have hbd' : -1≤Zbc ns (prp x)∧Zbc ns (prp x)<ns.length:=hbd
 generalize Zbc ns (prp x)=w at hbd' ⊢
 by_cases h:w<0
 ·rw[if_pos h,Zf (show ¬0≤w by omega)];rfl
 ·rw[if_neg h,if_pos (by omega),if_pos (by omega),Ze (show 0≤w by omega)]
  have hm:(ZA ns w).f1.length≤9223372036854775807:=by
   obtain⟨n,rfl⟩:=Int.eq_ofNat_of_zero_le (show 0≤w by omega)
   rw[show ZA ns (n:Int)=ns.getD n z116 from ZbB ns n]
   exact hb _ (Zbq (by omega) _)
  unfold Z4.f
  rw[Zi,Za5 (i:=-x) (by omega) (by omega),Zdm lb _ hl hm k hk]
  simp only[Zi,Bool.true_and]
  cases (ZA ns w).f1.any fun y=>decide (x=y)
  ·cases (ZA ns w).f1.any fun y=>decide (-x=y)
   ·simp
   ·rfl
  ·rfl
end Go.Proofs.Ytodfnelilhjoeaa.Pr
