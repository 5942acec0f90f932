/- The texts of one claim, put together by a program of this session. -/
import Derived.Test.YtodfnelilhjoeaaBIbc1x1
import Derived.Test.YtodfnelilhjoeaaBIbc1x2
namespace Go.Proofs.Ytodfnelilhjoeaa.Pr
open Go.RowKit Go.Proofs.YtodfnelilhjoeaaW.PrintWords Go.Proofs.YtodfnelilhjoeaaW.PrintLast Go.Proofs.YtodfnelilhjoeaaW.PrintMore
attribute [local go_sem] Zaj Zah Zat Zas Zaa Z9 Zai Zag
set_option linter.unusedVariables false
set_option linter.unusedSimpArgs false
mutual
def ZS.l0:Nat→List (S90)→Int→Int→List (S116)→List (S90)→Int→Int→List Int→List Int→Option (Bool)
 | 0,_,_,_,_,_,_,_,_,_=>none
 | k+1,x10,x11,x12,x101002000,x101002001,x101002002,x101003000,x101003001,x101003002=>if x12<x11 then(if 0≤x12 then(if x12<(x10.length:Int) then((ZY.f k x101002000 x101002001 x101002002 x101003000 x101003001 x101003002 ((ZB x10 x12).f0) ((ZB x10 x12).f1) ((ZB x10 x12).f2) ((ZB x10 x12).f3) ((ZB x10 x12).f4)).bind fun t101005=>(if t101005=true then(some true) else(ZS.l0 k x10 x11 (wrap64 (x12+1)) x101002000 x101002001 x101002002 x101003000 x101003001 x101003002))) else(none)) else(none)) else(ZS.l1 k x101002000 (x101002000.length:Int) 0 x101002000 x101002001 x101002002 x101003000 x101003001 x101003002)
def ZS.l1:Nat→List (S116)→Int→Int→List (S116)→List (S90)→Int→Int→List Int→List Int→Option (Bool)
 | 0,_,_,_,_,_,_,_,_,_=>none
 | k+1,x22,x23,x24,x101002000,x101002001,x101002002,x101003000,x101003001,x101003002=>if x24<x23 then(if 0≤x24 then(if x24<(x22.length:Int) then(if x101003000 > x101002002 then(if x24<(x101003001.length:Int) then(if (rd x101003001 x24)=(-1) then((ZQ.f k ((ZA x22 x24).f1) x101003002).bind fun t101009=>(if t101009≥0 then(some true) else(ZS.l1 k x22 x23 (wrap64 (x24+1)) x101002000 x101002001 x101002002 x101003000 x101003001 x101003002))) else(ZS.l1 k x22 x23 (wrap64 (x24+1)) x101002000 x101002001 x101002002 x101003000 x101003001 x101003002)) else(none)) else(ZS.l1 k x22 x23 (wrap64 (x24+1)) x101002000 x101002001 x101002002 x101003000 x101003001 x101003002)) else(none)) else(none)) else(some false)
end
def ZS.f (k:Nat) (l0_0:List (S116)) (l0_1:List (S90)) (a0_2:Int) (a1_0:Int) (l1_1:List Int) (l1_2:List Int):Option (Bool):=ZS.l0 k l0_1 (l0_1.length:Int) 0 l0_0 l0_1 a0_2 a1_0 l1_1 l1_2
set_option maxHeartbeats 8000000 in
set_option maxRecDepth 100000 in
theorem ZS.calls (k:Nat) (A0_0:Option Addr) (c0_0:Nat) (l0_0:List (S116)) (A0_1:Option Addr) (c0_1:Nat) (l0_1:List (S90)) (a0_2:Int) (a1_0:Int) (A1_1:Option Addr) (c1_1:Nat) (l1_1:List Int) (A1_2:Option Addr) (c1_2:Nat) (l1_2:List Int) (r:Bool) (w:World) (hr0_0:Kd.C k116 w A0_0 l0_0.length l0_0) (hc0_0:l0_0.length≤c0_0) (hr0_1:Kd.C k90 w A0_1 l0_1.length l0_1) (hc0_1:l0_1.length≤c0_1) (hr1_1:Kd.C (Kd.int .i64) w A1_1 l1_1.length l1_1) (hc1_1:l1_1.length≤c1_1) (hr1_2:Kd.C (Kd.int .i64) w A1_2 l1_2.length l1_2) (hc1_2:l1_2.length≤c1_2) (h:ZS.f k l0_0 l0_1 a0_2 a1_0 l1_1 l1_2=some r) :
  Calls Try.prog 101 #[.agg #[.slice A0_0 l0_0.length c0_0,.slice A0_1 l0_1.length c0_1,.int .i64 a0_2],.agg #[.int .i64 a1_0,.slice A1_1 l1_1.length c1_1,.slice A1_2 l1_2.length c1_2]] w fun e w'=>e=.returned (.bool r)∧Below w.heap.size w w':=by
 have hu35:=Try.underlying35
 have hu66:=Try.underlying66
 have hu90:=Try.underlying90
 have hu116:=Try.underlying116
 have HR0_0:=Za hr0_0;have HC0_0:=Za hc0_0;clear hr0_0 hc0_0;have HR0_1:=Za hr0_1;have HC0_1:=Za hc0_1;clear hr0_1 hc0_1;have HR1_1:=Za hr1_1;have HC1_1:=Za hc1_1;clear hr1_1 hc1_1;have HR1_2:=Za hr1_2;have HC1_2:=Za hc1_2;clear hr1_2 hc1_2
 have HB:=Za (Below.refl w.heap.size w)
 have H:(ZS.l0 k l0_1 (l0_1.length:Int) 0 l0_0 l0_1 a0_2 a1_0 l1_1 l1_2)=some r:=h
 clear h
 have H':=Za H
 clear H
 go_enter Try.func101,Try.ntmps101
 go_wp2_with (first|((with_reducible refine ZG (N:=2) rfl ?_);refine ZE ?hg (N:=2) ?hd (cs:=#[.slice A0_0 l0_0.length c0_0,.slice A0_1 l0_1.length c0_1,.int .i64 a0_2]) (t:=35) ?hr ?_;(case hd=>rfl);(case hg=>rfl);(case hr=>first|(go_simp;done)|(go_simp;rfl));intro gb101001 hg w3 hbox hb;have n0_:=Za (Zv (by repeat(first|(with_reducible first|exact HB.out|apply Zp|apply Zn|apply Zr)|exact HB.out)) hb);have n1_:=Za (hbox);have n2_:=Za ((by rw[hg];exact(Zz (by repeat(first|(with_reducible first|exact HB.out|apply Zp|apply Zn|apply Zr)|exact HB.out))):w.heap.size≤gb101001));have n3_:=n2_;clear HB;have HB:=n0_;have BK101001:=n1_;have GW101001:=n2_;have GE101001:=n3_;clear n0_ n1_ n2_ n3_;clear hb hbox hg)|((with_reducible refine ZG (N:=3) rfl ?_);refine ZE ?hg (N:=3) ?hd (cs:=#[.int .i64 a1_0,.slice A1_1 l1_1.length c1_1,.slice A1_2 l1_2.length c1_2]) (t:=66) ?hr ?_;(case hd=>rfl);(case hg=>rfl);(case hr=>first|(go_simp;done)|(go_simp;rfl));intro gb101002 hg w4 hbox hb;have n0_:=Za (Zw (g:=gb101001) (o:=.cells #[.slice A0_0 l0_0.length c0_0,.slice A0_1 l0_1.length c0_1,.int .i64 a0_2] 35 (0,0)) BK101001.out hb);have n1_:=Za (Zv (by repeat(first|(with_reducible first|exact HB.out|apply Zp|apply Zn|apply Zr|refine Zq ?_ GE101001.out)|exact HB.out)) hb);have n2_:=Za (hbox);have n3_:=Za ((by rw[hg];exact(Zz (by repeat(first|(with_reducible first|exact HB.out|apply Zp|apply Zn|apply Zr|refine Zq ?_ GE101001.out)|exact HB.out))):w.heap.size≤gb101002));have n4_:=n3_;have n5_:=Za ((by rw[hg];exact Nat.ne_of_lt (ZK (g:=gb101001) (o:=.cells #[.slice A0_0 l0_0.length c0_0,.slice A0_1 l0_1.length c0_1,.int .i64 a0_2] 35 (0,0)) BK101001.out):gb101001≠gb101002));have n6_:=Za n5_.out.symm;clear BK101001;clear HB;have BK101001:=n0_;have HB:=n1_;have BK101002:=n2_;have GW101002:=n3_;have GE101002:=n4_;have NB101001_101002:=n5_;have NB101002_101001:=n6_;clear n0_ n1_ n2_ n3_ n4_ n5_ n6_;clear hb hbox hg;have hnb5:=NB101001_101002.out;have hnc5:=NB101002_101001.out;have hcz6_0:w4.cell? ⟨gb101001,0,none⟩=some (.slice A0_0 l0_0.length c0_0):=(Zm BK101001.out 0).trans rfl;have hcz6_1:w4.cell? ⟨gb101001,1,none⟩=some (.slice A0_1 l0_1.length c0_1):=(Zm BK101001.out 1).trans rfl;have hcz6_2:w4.cell? ⟨gb101001,2,none⟩=some (.int .i64 a0_2):=(Zm BK101001.out 2).trans rfl;have hfz6_0:=Zo BK101001.out 0;have hfz6_1:=Zo BK101001.out 1;have hfz6_2:=Zo BK101001.out 2))
 go_loopg [12] k (fun kq v12 w'=>∃(x12_1:Int),v12=.int .i64 x12_1∧Aside0 (ZS.l0 kq l0_1 (l0_1.length:Int) x12_1 l0_0 l0_1 a0_2 a1_0 l1_1 l1_2=some r)∧Aside0 (kq≤k)∧Aside0 (w'.heap[gb101001]? = some (.cells #[(.slice A0_0 l0_0.length c0_0),(.slice A0_1 l0_1.length c0_1),.int .i64 a0_2] 35 (0,0)))∧Aside0 (w'.heap[gb101002]? = some (.cells #[.int .i64 a1_0,(.slice A1_1 l1_1.length c1_1),(.slice A1_2 l1_2.length c1_2)] 66 (0,0)))∧Aside0 (Below w.heap.size w w'))
 case atStart=>exact⟨(0),(by first|rfl|(simp;done)|(simp[*];done)),H',⟨Nat.le_refl _⟩,⟨by(with_reducible repeat(first|refine Zs ?_ _|refine Zu ?_|refine Zt ?_ _));exact BK101001.out⟩,⟨by(with_reducible repeat(first|refine Zs ?_ _|refine Zu ?_|refine Zt ?_ _));exact BK101002.out⟩,⟨by repeat(first|(with_reducible first|exact HB.out|apply Zp|apply Zn|apply Zr|refine Zq ?_ GE101001.out|refine Zq ?_ GE101002.out)|exact HB.out)⟩⟩
 case round=>
  clear H'
  try clear c1
  try clear p2
  try clear c5
  obtain⟨x12_1,rfl,HA,HK1,BK101001,BK101002,HB⟩:=hrel
  cases gk with
  | zero=>exact absurd HA.out (by simp[ZS.l0])
  | succ k1=>
   have H:=HA.out
   clear HA
   simp only[ZS.l0] at H
   by_cases c7:x12_1<(l0_1.length:Int)
   ·rw[if_pos c7] at H
    have c7b0:decide (x12_1<(l0_1.length:Int))=true:=Ze c7
    clear c7
    by_cases c8:0≤x12_1
    ·rw[if_pos c8] at H
     have c8b0:decide (0≤x12_1)=true:=Ze c8
     clear c8
     by_cases c9:x12_1<(l0_1.length:Int)
     ·rw[if_pos c9] at H
      have c9b0:decide (x12_1<(l0_1.length:Int))=true:=Ze c9
      clear c9
      replace H:=Zh H
      obtain⟨t101005,A100,H⟩:=H
      replace H:(if t101005=true then(some true) else(ZS.l0 k1 l0_1 (l0_1.length:Int) (wrap64 (x12_1+1)) l0_0 l0_1 a0_2 a1_0 l1_1 l1_2))=some r:=H
      have A10:=Za A100;clear A100
      by_cases c11:t101005=true
      ·subst c11
       have H1:(some true)=some r:=by rw[if_pos rfl] at H;exact H
       clear H
       have H:=H1
       clear H1
       obtain rfl:=Zg H
       have p101003:0≤(x12_1:Int):=Zd (by first|(with_reducible assumption)|assumption)
       have q101003:x12_1<(l0_1.length:Int):=Zd (by first|(with_reducible assumption)|assumption)
       obtain⟨ad101003,e101003,hx101003_0,hx101003_1,hx101003_2,hx101003_3,hx101003_4⟩:=Zbg HR0_1.out x12_1 p101003 q101003
       cases e101003
       replace hx101003_0:=(HB.out.cell (Zc w _ hx101003_0)).trans hx101003_0
       replace hx101003_1:=(HB.out.cell (Zc w _ hx101003_1)).trans hx101003_1
       replace hx101003_2:=(HB.out.cell (Zc w _ hx101003_2)).trans hx101003_2
       replace hx101003_3:=(HB.out.cell (Zc w _ hx101003_3)).trans hx101003_3
       replace hx101003_4:=(HB.out.cell (Zc w _ hx101003_4)).trans hx101003_4
       replace p101003:=eq_true p101003
       replace q101003:=eq_true q101003
       go_wp2_with (first|((with_reducible refine ZG (N:=6) rfl ?_);refine ZE ?hg (N:=6) ?hd (cs:=#[.int .i64 0,.int .i64 0,.int .i64 0,.int .i64 0,.bool false]) (t:=90) ?hr ?_;(case hd=>rfl);(case hg=>rfl);(case hr=>first|(go_simp;done)|(go_simp;rfl));intro gb101004 hg w12 hbox hb;have n0_:=Za (Zw (g:=gb101001) (o:=.cells #[.slice A0_0 l0_0.length c0_0,.slice (some ad101003) l0_1.length c0_1,.int .i64 a0_2] 35 (0,0)) BK101001.out hb);have n1_:=Za (Zw (g:=gb101002) (o:=.cells #[.int .i64 a1_0,.slice A1_1 l1_1.length c1_1,.slice A1_2 l1_2.length c1_2] 66 (0,0)) BK101002.out hb);have n2_:=Za (Zv (by repeat(first|(with_reducible first|exact HB.out|apply Zp|apply Zn|apply Zr|refine Zq ?_ GE101001.out|refine Zq ?_ GE101002.out)|exact HB.out)) hb);have n3_:=Za (hbox);have n4_:=Za ((by rw[hg];exact(Zz (by repeat(first|(with_reducible first|exact HB.out|apply Zp|apply Zn|apply Zr|refine Zq ?_ GE101001.out|refine Zq ?_ GE101002.out)|exact HB.out))):w.heap.size≤gb101004));have n5_:=n4_;have n6_:=Za ((by rw[hg];exact Nat.ne_of_lt (ZK (g:=gb101001) (o:=.cells #[.slice A0_0 l0_0.length c0_0,.slice (some ad101003) l0_1.length c0_1,.int .i64 a0_2] 35 (0,0)) BK101001.out):gb101001≠gb101004));have n7_:=Za n6_.out.symm;have n8_:=Za ((by rw[hg];exact Nat.ne_of_lt (ZK (g:=gb101002) (o:=.cells #[.int .i64 a1_0,.slice A1_1 l1_1.length c1_1,.slice A1_2 l1_2.length c1_2] 66 (0,0)) BK101002.out):gb101002≠gb101004));have n9_:=Za n8_.out.symm;clear BK101001;clear BK101002;clear HB;have BK101001:=n0_;have BK101002:=n1_;have HB:=n2_;have BK101004:=n3_;have GW101004:=n4_;have GE101004:=n5_;have NB101001_101004:=n6_;have NB101004_101001:=n7_;have NB101002_101004:=n8_;have NB101004_101002:=n9_;clear n0_ n1_ n2_ n3_ n4_ n5_ n6_ n7_ n8_ n9_;clear hb hbox hg;have hnb13:=NB101004_101001.out;have hnc13:=NB101001_101004.out;have hnb14:=NB101004_101002.out;have hnc14:=NB101002_101004.out;have hcz15_0:w12.cell? ⟨gb101004,0,none⟩=some (.int .i64 0):=(Zm BK101004.out 0).trans rfl;have hcz15_1:w12.cell? ⟨gb101004,1,none⟩=some (.int .i64 0):=(Zm BK101004.out 1).trans rfl;have hcz15_2:w12.cell? ⟨gb101004,2,none⟩=some (.int .i64 0):=(Zm BK101004.out 2).trans rfl;have hcz15_3:w12.cell? ⟨gb101004,3,none⟩=some (.int .i64 0):=(Zm BK101004.out 3).trans rfl;have hcz15_4:w12.cell? ⟨gb101004,4,none⟩=some (.bool false):=(Zm BK101004.out 4).trans rfl;have hfz15_0:=Zo BK101004.out 0;have hfz15_1:=Zo BK101004.out 1;have hfz15_2:=Zo BK101004.out 2;have hfz15_3:=Zo BK101004.out 3;have hfz15_4:=Zo BK101004.out 4;have hnb16:=NB101001_101002.out;have hnc16:=NB101002_101001.out;have hcz17_0:w12.cell? ⟨gb101001,0,none⟩=some (.slice A0_0 l0_0.length c0_0):=(Zm BK101001.out 0).trans rfl;have hcz17_1:w12.cell? ⟨gb101001,1,none⟩=some (.slice (some ad101003) l0_1.length c0_1):=(Zm BK101001.out 1).trans rfl;have hcz17_2:w12.cell? ⟨gb101001,2,none⟩=some (.int .i64 a0_2):=(Zm BK101001.out 2).trans rfl;have hfz17_0:=Zo BK101001.out 0;have hfz17_1:=Zo BK101001.out 1;have hfz17_2:=Zo BK101001.out 2;have hcz18_0:w12.cell? ⟨gb101002,0,none⟩=some (.int .i64 a1_0):=(Zm BK101002.out 0).trans rfl;have hcz18_1:w12.cell? ⟨gb101002,1,none⟩=some (.slice A1_1 l1_1.length c1_1):=(Zm BK101002.out 1).trans rfl;have hcz18_2:w12.cell? ⟨gb101002,2,none⟩=some (.slice A1_2 l1_2.length c1_2):=(Zm BK101002.out 2).trans rfl;have hfz18_0:=Zo BK101002.out 0;have hfz18_1:=Zo BK101002.out 1;have hfz18_2:=Zo BK101002.out 2)|((with_reducible refine ZH (f:=145) rfl ?_);refine ZW (some 19) rfl rfl Try.func145 (by kernel_rfl) rfl #[.agg #[.slice A0_0 l0_0.length c0_0,.slice (some ad101003) l0_1.length c0_1,.int .i64 a0_2],.agg #[.int .i64 a1_0,.slice A1_1 l1_1.length c1_1,.slice A1_2 l1_2.length c1_2],.agg #[.int .i64 ((ZB l0_1 x12_1).f0),.int .i64 ((ZB l0_1 x12_1).f1),.int .i64 ((ZB l0_1 x12_1).f2),.int .i64 ((ZB l0_1 x12_1).f3),.bool ((ZB l0_1 x12_1).f4)]] rfl (by(try simp only[List.map_toArray,List.map_cons,List.map_nil]);first|done|rfl|(simp only[Zk,Zj];rfl)) ?_;(with_reducible refine(ZY.calls k1 _ _ l0_0 _ _ l0_1 a0_2 a1_0 _ _ l1_1 _ _ l1_2 ((ZB l0_1 x12_1).f0) ((ZB l0_1 x12_1).f1) ((ZB l0_1 x12_1).f2) ((ZB l0_1 x12_1).f3) ((ZB l0_1 x12_1).f4) true _ ?side1 ?side2 ?side3 ?side4 ?side5 ?side6 ?side7 ?side8 A10.out).mono ?_);(case side1=>exact Zb HR0_0.out (by repeat(first|(with_reducible first|exact HB.out|apply Zp|apply Zn|apply Zr|refine Zq ?_ GE101001.out|refine Zq ?_ GE101002.out|refine Zq ?_ GE101004.out)|exact HB.out)));(case side2=>exact HC0_0.out);(case side3=>exact Zb HR0_1.out (by repeat(first|(with_reducible first|exact HB.out|apply Zp|apply Zn|apply Zr|refine Zq ?_ GE101001.out|refine Zq ?_ GE101002.out|refine Zq ?_ GE101004.out)|exact HB.out)));(case side4=>exact HC0_1.out);(case side5=>exact Zb HR1_1.out (by repeat(first|(with_reducible first|exact HB.out|apply Zp|apply Zn|apply Zr|refine Zq ?_ GE101001.out|refine Zq ?_ GE101002.out|refine Zq ?_ GE101004.out)|exact HB.out)));(case side6=>exact HC1_1.out);(case side7=>exact Zb HR1_2.out (by repeat(first|(with_reducible first|exact HB.out|apply Zp|apply Zn|apply Zr|refine Zq ?_ GE101001.out|refine Zq ?_ GE101002.out|refine Zq ?_ GE101004.out)|exact HB.out)));(case side8=>exact HC1_2.out);rintro e w19 ⟨rfl,hb⟩;refine⟨_,rfl,?_⟩;have n0_:=Za (Zw (g:=gb101001) (o:=.cells #[.slice A0_0 l0_0.length c0_0,.slice (some ad101003) l0_1.length c0_1,.int .i64 a0_2] 35 (0,0)) (by(with_reducible repeat(first|refine Zs ?_ _|refine Zu ?_|refine Zt ?_ _));refine ZD ?_ NB101001_101004.out _;(with_reducible repeat(first|refine Zs ?_ _|refine Zu ?_|refine Zt ?_ _));refine ZD ?_ NB101001_101004.out _;(with_reducible repeat(first|refine Zs ?_ _|refine Zu ?_|refine Zt ?_ _));refine ZD ?_ NB101001_101004.out _;(with_reducible repeat(first|refine Zs ?_ _|refine Zu ?_|refine Zt ?_ _));refine ZD ?_ NB101001_101004.out _;(with_reducible repeat(first|refine Zs ?_ _|refine Zu ?_|refine Zt ?_ _));refine ZD ?_ NB101001_101004.out _;(with_reducible repeat(first|refine Zs ?_ _|refine Zu ?_|refine Zt ?_ _));exact BK101001.out) hb);have n1_:=Za (Zw (g:=gb101002) (o:=.cells #[.int .i64 a1_0,.slice A1_1 l1_1.length c1_1,.slice A1_2 l1_2.length c1_2] 66 (0,0)) (by(with_reducible repeat(first|refine Zs ?_ _|refine Zu ?_|refine Zt ?_ _));refine ZD ?_ NB101002_101004.out _;(with_reducible repeat(first|refine Zs ?_ _|refine Zu ?_|refine Zt ?_ _));refine ZD ?_ NB101002_101004.out _;(with_reducible repeat(first|refine Zs ?_ _|refine Zu ?_|refine Zt ?_ _));refine ZD ?_ NB101002_101004.out _;(with_reducible repeat(first|refine Zs ?_ _|refine Zu ?_|refine Zt ?_ _));refine ZD ?_ NB101002_101004.out _;(with_reducible repeat(first|refine Zs ?_ _|refine Zu ?_|refine Zt ?_ _));refine ZD ?_ NB101002_101004.out _;(with_reducible repeat(first|refine Zs ?_ _|refine Zu ?_|refine Zt ?_ _));exact BK101002.out) hb);have n2_:=Za (Zw (g:=gb101004) (o:=.cells #[.int .i64 ((ZB l0_1 x12_1).f0),.int .i64 ((ZB l0_1 x12_1).f1),.int .i64 ((ZB l0_1 x12_1).f2),.int .i64 ((ZB l0_1 x12_1).f3),.bool ((ZB l0_1 x12_1).f4)] 90 (0,0)) (by(with_reducible repeat(first|refine Zs ?_ _|refine Zu ?_|refine Zt ?_ _));refine Z7 (cs:=#[.int .i64 ((ZB l0_1 x12_1).f0),.int .i64 ((ZB l0_1 x12_1).f1),.int .i64 ((ZB l0_1 x12_1).f2),.int .i64 ((ZB l0_1 x12_1).f3),.bool false]) ?_ 4 _ rfl;(with_reducible repeat(first|refine Zs ?_ _|refine Zu ?_|refine Zt ?_ _));refine Z7 (cs:=#[.int .i64 ((ZB l0_1 x12_1).f0),.int .i64 ((ZB l0_1 x12_1).f1),.int .i64 ((ZB l0_1 x12_1).f2),.int .i64 0,.bool false]) ?_ 3 _ rfl;(with_reducible repeat(first|refine Zs ?_ _|refine Zu ?_|refine Zt ?_ _));refine Z7 (cs:=#[.int .i64 ((ZB l0_1 x12_1).f0),.int .i64 ((ZB l0_1 x12_1).f1),.int .i64 0,.int .i64 0,.bool false]) ?_ 2 _ rfl;(with_reducible repeat(first|refine Zs ?_ _|refine Zu ?_|refine Zt ?_ _));refine Z7 (cs:=#[.int .i64 ((ZB l0_1 x12_1).f0),.int .i64 0,.int .i64 0,.int .i64 0,.bool false]) ?_ 1 _ rfl;(with_reducible repeat(first|refine Zs ?_ _|refine Zu ?_|refine Zt ?_ _));refine Z7 (cs:=#[.int .i64 0,.int .i64 0,.int .i64 0,.int .i64 0,.bool false]) ?_ 0 _ rfl;(with_reducible repeat(first|refine Zs ?_ _|refine Zu ?_|refine Zt ?_ _));exact BK101004.out) hb);have n3_:=Za (Zv (by repeat(first|(with_reducible first|exact HB.out|apply Zp|apply Zn|apply Zr|refine Zq ?_ GE101001.out|refine Zq ?_ GE101002.out|refine Zq ?_ GE101004.out)|exact HB.out)) hb);clear BK101001;clear BK101002;clear BK101004;clear HB;have BK101001:=n0_;have BK101002:=n1_;have BK101004:=n2_;have HB:=n3_;clear n0_ n1_ n2_ n3_;(try clear hb);(try clear hb2);(try clear hk);(try clear hi)))
       go_ret
       exact⟨by first|rfl|(simp[Zy,Zx] <;> rfl)|(simp[*,Zy,Zx] <;> rfl),by repeat(first|(with_reducible first|exact HB.out|apply Zp|apply Zn|apply Zr|refine Zq ?_ GE101001.out|refine Zq ?_ GE101002.out|refine Zq ?_ GE101004.out)|exact HB.out)⟩
      ·replace c11:=Bool.eq_false_iff.mpr c11
       subst c11
       have H1:(ZS.l0 k1 l0_1 (l0_1.length:Int) (wrap64 (x12_1+1)) l0_0 l0_1 a0_2 a1_0 l1_1 l1_2)=some r:=by rw[if_neg (show ¬(false=true) by decide)] at H;exact H
       clear H
       have H:=H1
       clear H1
       have H':=Za H
       clear H
       have p101003:0≤(x12_1:Int):=Zd (by first|(with_reducible assumption)|assumption)
       have q101003:x12_1<(l0_1.length:Int):=Zd (by first|(with_reducible assumption)|assumption)
       obtain⟨ad101003,e101003,hx101003_0,hx101003_1,hx101003_2,hx101003_3,hx101003_4⟩:=Zbg HR0_1.out x12_1 p101003 q101003
       cases e101003
       replace hx101003_0:=(HB.out.cell (Zc w _ hx101003_0)).trans hx101003_0
       replace hx101003_1:=(HB.out.cell (Zc w _ hx101003_1)).trans hx101003_1
       replace hx101003_2:=(HB.out.cell (Zc w _ hx101003_2)).trans hx101003_2
       replace hx101003_3:=(HB.out.cell (Zc w _ hx101003_3)).trans hx101003_3
       replace hx101003_4:=(HB.out.cell (Zc w _ hx101003_4)).trans hx101003_4
       replace p101003:=eq_true p101003
       replace q101003:=eq_true q101003
       go_wp2_with (first|((with_reducible refine ZG (N:=6) rfl ?_);refine ZE ?hg (N:=6) ?hd (cs:=#[.int .i64 0,.int .i64 0,.int .i64 0,.int .i64 0,.bool false]) (t:=90) ?hr ?_;(case hd=>rfl);(case hg=>rfl);(case hr=>first|(go_simp;done)|(go_simp;rfl));intro gb101004 hg w20 hbox hb;have n0_:=Za (Zw (g:=gb101001) (o:=.cells #[.slice A0_0 l0_0.length c0_0,.slice (some ad101003) l0_1.length c0_1,.int .i64 a0_2] 35 (0,0)) BK101001.out hb);have n1_:=Za (Zw (g:=gb101002) (o:=.cells #[.int .i64 a1_0,.slice A1_1 l1_1.length c1_1,.slice A1_2 l1_2.length c1_2] 66 (0,0)) BK101002.out hb);have n2_:=Za (Zv (by repeat(first|(with_reducible first|exact HB.out|apply Zp|apply Zn|apply Zr|refine Zq ?_ GE101001.out|refine Zq ?_ GE101002.out)|exact HB.out)) hb);have n3_:=Za (hbox);have n4_:=Za ((by rw[hg];exact(Zz (by repeat(first|(with_reducible first|exact HB.out|apply Zp|apply Zn|apply Zr|refine Zq ?_ GE101001.out|refine Zq ?_ GE101002.out)|exact HB.out))):w.heap.size≤gb101004));have n5_:=n4_;have n6_:=Za ((by rw[hg];exact Nat.ne_of_lt (ZK (g:=gb101001) (o:=.cells #[.slice A0_0 l0_0.length c0_0,.slice (some ad101003) l0_1.length c0_1,.int .i64 a0_2] 35 (0,0)) BK101001.out):gb101001≠gb101004));have n7_:=Za n6_.out.symm;have n8_:=Za ((by rw[hg];exact Nat.ne_of_lt (ZK (g:=gb101002) (o:=.cells #[.int .i64 a1_0,.slice A1_1 l1_1.length c1_1,.slice A1_2 l1_2.length c1_2] 66 (0,0)) BK101002.out):gb101002≠gb101004));have n9_:=Za n8_.out.symm;clear BK101001;clear BK101002;clear HB;have BK101001:=n0_;have BK101002:=n1_;have HB:=n2_;have BK101004:=n3_;have GW101004:=n4_;have GE101004:=n5_;have NB101001_101004:=n6_;have NB101004_101001:=n7_;have NB101002_101004:=n8_;have NB101004_101002:=n9_;clear n0_ n1_ n2_ n3_ n4_ n5_ n6_ n7_ n8_ n9_;clear hb hbox hg;have hnb21:=NB101004_101001.out;have hnc21:=NB101001_101004.out;have hnb22:=NB101004_101002.out;have hnc22:=NB101002_101004.out;have hcz23_0:w20.cell? ⟨gb101004,0,none⟩=some (.int .i64 0):=(Zm BK101004.out 0).trans rfl;have hcz23_1:w20.cell? ⟨gb101004,1,none⟩=some (.int .i64 0):=(Zm BK101004.out 1).trans rfl;have hcz23_2:w20.cell? ⟨gb101004,2,none⟩=some (.int .i64 0):=(Zm BK101004.out 2).trans rfl;have hcz23_3:w20.cell? ⟨gb101004,3,none⟩=some (.int .i64 0):=(Zm BK101004.out 3).trans rfl;have hcz23_4:w20.cell? ⟨gb101004,4,none⟩=some (.bool false):=(Zm BK101004.out 4).trans rfl;have hfz23_0:=Zo BK101004.out 0;have hfz23_1:=Zo BK101004.out 1;have hfz23_2:=Zo BK101004.out 2;have hfz23_3:=Zo BK101004.out 3;have hfz23_4:=Zo BK101004.out 4;have hnb24:=NB101001_101002.out;have hnc24:=NB101002_101001.out;have hcz25_0:w20.cell? ⟨gb101001,0,none⟩=some (.slice A0_0 l0_0.length c0_0):=(Zm BK101001.out 0).trans rfl;have hcz25_1:w20.cell? ⟨gb101001,1,none⟩=some (.slice (some ad101003) l0_1.length c0_1):=(Zm BK101001.out 1).trans rfl;have hcz25_2:w20.cell? ⟨gb101001,2,none⟩=some (.int .i64 a0_2):=(Zm BK101001.out 2).trans rfl;have hfz25_0:=Zo BK101001.out 0;have hfz25_1:=Zo BK101001.out 1;have hfz25_2:=Zo BK101001.out 2;have hcz26_0:w20.cell? ⟨gb101002,0,none⟩=some (.int .i64 a1_0):=(Zm BK101002.out 0).trans rfl;have hcz26_1:w20.cell? ⟨gb101002,1,none⟩=some (.slice A1_1 l1_1.length c1_1):=(Zm BK101002.out 1).trans rfl;have hcz26_2:w20.cell? ⟨gb101002,2,none⟩=some (.slice A1_2 l1_2.length c1_2):=(Zm BK101002.out 2).trans rfl;have hfz26_0:=Zo BK101002.out 0;have hfz26_1:=Zo BK101002.out 1;have hfz26_2:=Zo BK101002.out 2)|((with_reducible refine ZH (f:=145) rfl ?_);refine ZW (some 19) rfl rfl Try.func145 (by kernel_rfl) rfl #[.agg #[.slice A0_0 l0_0.length c0_0,.slice (some ad101003) l0_1.length c0_1,.int .i64 a0_2],.agg #[.int .i64 a1_0,.slice A1_1 l1_1.length c1_1,.slice A1_2 l1_2.length c1_2],.agg #[.int .i64 ((ZB l0_1 x12_1).f0),.int .i64 ((ZB l0_1 x12_1).f1),.int .i64 ((ZB l0_1 x12_1).f2),.int .i64 ((ZB l0_1 x12_1).f3),.bool ((ZB l0_1 x12_1).f4)]] rfl (by(try simp only[List.map_toArray,List.map_cons,List.map_nil]);first|done|rfl|(simp only[Zk,Zj];rfl)) ?_;(with_reducible refine(ZY.calls k1 _ _ l0_0 _ _ l0_1 a0_2 a1_0 _ _ l1_1 _ _ l1_2 ((ZB l0_1 x12_1).f0) ((ZB l0_1 x12_1).f1) ((ZB l0_1 x12_1).f2) ((ZB l0_1 x12_1).f3) ((ZB l0_1 x12_1).f4) false _ ?side1 ?side2 ?side3 ?side4 ?side5 ?side6 ?side7 ?side8 A10.out).mono ?_);(case side1=>exact Zb HR0_0.out (by repeat(first|(with_reducible first|exact HB.out|apply Zp|apply Zn|apply Zr|refine Zq ?_ GE101001.out|refine Zq ?_ GE101002.out|refine Zq ?_ GE101004.out)|exact HB.out)));(case side2=>exact HC0_0.out);(case side3=>exact Zb HR0_1.out (by repeat(first|(with_reducible first|exact HB.out|apply Zp|apply Zn|apply Zr|refine Zq ?_ GE101001.out|refine Zq ?_ GE101002.out|refine Zq ?_ GE101004.out)|exact HB.out)));(case side4=>exact HC0_1.out);(case side5=>exact Zb HR1_1.out (by repeat(first|(with_reducible first|exact HB.out|apply Zp|apply Zn|apply Zr|refine Zq ?_ GE101001.out|refine Zq ?_ GE101002.out|refine Zq ?_ GE101004.out)|exact HB.out)));(case side6=>exact HC1_1.out);(case side7=>exact Zb HR1_2.out (by repeat(first|(with_reducible first|exact HB.out|apply Zp|apply Zn|apply Zr|refine Zq ?_ GE101001.out|refine Zq ?_ GE101002.out|refine Zq ?_ GE101004.out)|exact HB.out)));(case side8=>exact HC1_2.out);rintro e w27 ⟨rfl,hb⟩;refine⟨_,rfl,?_⟩;have n0_:=Za (Zw (g:=gb101001) (o:=.cells #[.slice A0_0 l0_0.length c0_0,.slice (some ad101003) l0_1.length c0_1,.int .i64 a0_2] 35 (0,0)) (by(with_reducible repeat(first|refine Zs ?_ _|refine Zu ?_|refine Zt ?_ _));refine ZD ?_ NB101001_101004.out _;(with_reducible repeat(first|refine Zs ?_ _|refine Zu ?_|refine Zt ?_ _));refine ZD ?_ NB101001_101004.out _;(with_reducible repeat(first|refine Zs ?_ _|refine Zu ?_|refine Zt ?_ _));refine ZD ?_ NB101001_101004.out _;(with_reducible repeat(first|refine Zs ?_ _|refine Zu ?_|refine Zt ?_ _));refine ZD ?_ NB101001_101004.out _;(with_reducible repeat(first|refine Zs ?_ _|refine Zu ?_|refine Zt ?_ _));refine ZD ?_ NB101001_101004.out _;(with_reducible repeat(first|refine Zs ?_ _|refine Zu ?_|refine Zt ?_ _));exact BK101001.out) hb);have n1_:=Za (Zw (g:=gb101002) (o:=.cells #[.int .i64 a1_0,.slice A1_1 l1_1.length c1_1,.slice A1_2 l1_2.length c1_2] 66 (0,0)) (by(with_reducible repeat(first|refine Zs ?_ _|refine Zu ?_|refine Zt ?_ _));refine ZD ?_ NB101002_101004.out _;(with_reducible repeat(first|refine Zs ?_ _|refine Zu ?_|refine Zt ?_ _));refine ZD ?_ NB101002_101004.out _;(with_reducible repeat(first|refine Zs ?_ _|refine Zu ?_|refine Zt ?_ _));refine ZD ?_ NB101002_101004.out _;(with_reducible repeat(first|refine Zs ?_ _|refine Zu ?_|refine Zt ?_ _));refine ZD ?_ NB101002_101004.out _;(with_reducible repeat(first|refine Zs ?_ _|refine Zu ?_|refine Zt ?_ _));refine ZD ?_ NB101002_101004.out _;(with_reducible repeat(first|refine Zs ?_ _|refine Zu ?_|refine Zt ?_ _));exact BK101002.out) hb);have n2_:=Za (Zw (g:=gb101004) (o:=.cells #[.int .i64 ((ZB l0_1 x12_1).f0),.int .i64 ((ZB l0_1 x12_1).f1),.int .i64 ((ZB l0_1 x12_1).f2),.int .i64 ((ZB l0_1 x12_1).f3),.bool ((ZB l0_1 x12_1).f4)] 90 (0,0)) (by(with_reducible repeat(first|refine Zs ?_ _|refine Zu ?_|refine Zt ?_ _));refine Z7 (cs:=#[.int .i64 ((ZB l0_1 x12_1).f0),.int .i64 ((ZB l0_1 x12_1).f1),.int .i64 ((ZB l0_1 x12_1).f2),.int .i64 ((ZB l0_1 x12_1).f3),.bool false]) ?_ 4 _ rfl;(with_reducible repeat(first|refine Zs ?_ _|refine Zu ?_|refine Zt ?_ _));refine Z7 (cs:=#[.int .i64 ((ZB l0_1 x12_1).f0),.int .i64 ((ZB l0_1 x12_1).f1),.int .i64 ((ZB l0_1 x12_1).f2),.int .i64 0,.bool false]) ?_ 3 _ rfl;(with_reducible repeat(first|refine Zs ?_ _|refine Zu ?_|refine Zt ?_ _));refine Z7 (cs:=#[.int .i64 ((ZB l0_1 x12_1).f0),.int .i64 ((ZB l0_1 x12_1).f1),.int .i64 0,.int .i64 0,.bool false]) ?_ 2 _ rfl;(with_reducible repeat(first|refine Zs ?_ _|refine Zu ?_|refine Zt ?_ _));refine Z7 (cs:=#[.int .i64 ((ZB l0_1 x12_1).f0),.int .i64 0,.int .i64 0,.int .i64 0,.bool false]) ?_ 1 _ rfl;(with_reducible repeat(first|refine Zs ?_ _|refine Zu ?_|refine Zt ?_ _));refine Z7 (cs:=#[.int .i64 0,.int .i64 0,.int .i64 0,.int .i64 0,.bool false]) ?_ 0 _ rfl;(with_reducible repeat(first|refine Zs ?_ _|refine Zu ?_|refine Zt ?_ _));exact BK101004.out) hb);have n3_:=Za (Zv (by repeat(first|(with_reducible first|exact HB.out|apply Zp|apply Zn|apply Zr|refine Zq ?_ GE101001.out|refine Zq ?_ GE101002.out|refine Zq ?_ GE101004.out)|exact HB.out)) hb);clear BK101001;clear BK101002;clear BK101004;clear HB;have BK101001:=n0_;have BK101002:=n1_;have BK101004:=n2_;have HB:=n3_;clear n0_ n1_ n2_ n3_;(try clear hb);(try clear hb2);(try clear hk);(try clear hi)))
       go_roundg k1
       case measure=>have:=HK1.out;omega
       case rel=>exact⟨(wrap64 (x12_1+1)),(by first|rfl|(simp;done)|(simp[*];done)),H',⟨by have:=HK1.out;omega⟩,⟨by(with_reducible repeat(first|refine Zs ?_ _|refine Zu ?_|refine Zt ?_ _));exact BK101001.out⟩,⟨by(with_reducible repeat(first|refine Zs ?_ _|refine Zu ?_|refine Zt ?_ _));exact BK101002.out⟩,⟨by repeat(first|(with_reducible first|exact HB.out|apply Zp|apply Zn|apply Zr|refine Zq ?_ GE101001.out|refine Zq ?_ GE101002.out|refine Zq ?_ GE101004.out)|exact HB.out)⟩⟩
     ·rw[if_neg c9] at H
      exact absurd H (by simp)
    ·rw[if_neg c8] at H
     exact absurd H (by simp)
   ·rw[if_neg c7] at H
    have c7b0:decide (x12_1<(l0_1.length:Int))=false:=Zf c7
    clear c7
    have H':=Za H
    clear H
    have hnb28:=NB101001_101002.out
    have hnc28:=NB101002_101001.out
    have hcz29_0:wr.cell? ⟨gb101001,0,none⟩=some (.slice A0_0 l0_0.length c0_0):=(Zm BK101001.out 0).trans rfl
    have hcz29_1:wr.cell? ⟨gb101001,1,none⟩=some (.slice A0_1 l0_1.length c0_1):=(Zm BK101001.out 1).trans rfl
    have hcz29_2:wr.cell? ⟨gb101001,2,none⟩=some (.int .i64 a0_2):=(Zm BK101001.out 2).trans rfl
    have hfz29_0:=Zo BK101001.out 0
    have hfz29_1:=Zo BK101001.out 1
    have hfz29_2:=Zo BK101001.out 2
    go_wp2
    go_loopg [24] k1 (fun kq v24 w'=>∃(x24_2:Int),v24=.int .i64 x24_2∧Aside0 (ZS.l1 kq l0_0 (l0_0.length:Int) x24_2 l0_0 l0_1 a0_2 a1_0 l1_1 l1_2=some r)∧Aside0 (kq≤k1)∧Aside0 (w'.heap[gb101001]? = some (.cells #[(.slice A0_0 l0_0.length c0_0),(.slice A0_1 l0_1.length c0_1),.int .i64 a0_2] 35 (0,0)))∧Aside0 (w'.heap[gb101002]? = some (.cells #[.int .i64 a1_0,(.slice A1_1 l1_1.length c1_1),(.slice A1_2 l1_2.length c1_2)] 66 (0,0)))∧Aside0 (Below w.heap.size w w'))
    case atStart=>exact⟨(0),(by first|rfl|(simp;done)|(simp[*];done)),H',⟨Nat.le_refl _⟩,⟨by(with_reducible repeat(first|refine Zs ?_ _|refine Zu ?_|refine Zt ?_ _));exact BK101001.out⟩,⟨by(with_reducible repeat(first|refine Zs ?_ _|refine Zu ?_|refine Zt ?_ _));exact BK101002.out⟩,⟨by repeat(first|(with_reducible first|exact HB.out|apply Zp|apply Zn|apply Zr|refine Zq ?_ GE101001.out|refine Zq ?_ GE101002.out)|exact HB.out)⟩⟩
    case round=>
     clear H'
     try clear c1
     try clear p1
     try clear q1
     try clear c2
     try clear p2
     try clear c5
     try clear p6
     try clear c7
     try clear c7b0
     try clear c8
     try clear c8b0
     try clear c9
     try clear c9b0
     try clear c10
     try clear p10
     try clear q10
     try clear c11
     try clear c13
     try clear c14
     try clear c16
     try clear c21
     try clear c22
     try clear c24
     try clear c28
     try clear p101003
     try clear p2
     try clear q101003
     obtain⟨x24_2,rfl,HA,HK2,BK101001,BK101002,HB⟩:=hrel
     cases gk with
     | zero=>exact absurd HA.out (by simp[ZS.l1])
     | succ k2=>
      have H:=HA.out
      clear HA
      simp only[ZS.l1] at H
      by_cases c30:x24_2<(l0_0.length:Int)
      ·rw[if_pos c30] at H
       have c30b0:decide (x24_2<(l0_0.length:Int))=true:=Ze c30
       clear c30
       by_cases c31:0≤x24_2
       ·rw[if_pos c31] at H
        have c31b0:decide (0≤x24_2)=true:=Ze c31
        clear c31
        by_cases c32:x24_2<(l0_0.length:Int)
        ·rw[if_pos c32] at H
         have c32b0:decide (x24_2<(l0_0.length:Int))=true:=Ze c32
         clear c32
         by_cases c33:a1_0 > a0_2
         ·rw[if_pos c33] at H
          have c33b0:decide (a0_2<a1_0)=true:=Ze c33
          clear c33
          by_cases c34:x24_2<(l1_1.length:Int)
          ·rw[if_pos c34] at H
           have c34b0:decide (x24_2<(l1_1.length:Int))=true:=Ze c34
           clear c34
           by_cases c35:(rd l1_1 x24_2)=(-1)
           ·rw[if_pos c35] at H
            have c35b0:((rd l1_1 x24_2) == (-1))=true:=beq_iff_eq.mpr c35
            have c35b1:((rd l1_1 x24_2) != (-1))=false:=bne_eq_false_iff_eq.mpr c35
            clear c35
            replace H:=Zh H
            obtain⟨t101009,A360,H⟩:=H
            replace H:(if t101009≥0 then(some true) else(ZS.l1 k2 l0_0 (l0_0.length:Int) (wrap64 (x24_2+1)) l0_0 l0_1 a0_2 a1_0 l1_1 l1_2))=some r:=H
            have A36:=Za A360;clear A360
            by_cases c37:t101009≥0
            ·rw[if_pos c37] at H
             have c37b0:decide (0≤t101009)=true:=Ze c37
             clear c37
             obtain rfl:=Zg H
             have p101006:0≤(x24_2:Int):=Zd (by first|(with_reducible assumption)|assumption)
             have q101006:x24_2<(l0_0.length:Int):=Zd (by first|(with_reducible assumption)|assumption)
             obtain⟨ad101006,A101006_1,c101006_1,e101006,hx101006_0,hx101006_1,hx101006_2,hl101006_1,hi101006_1⟩:=Zak HR0_0.out x24_2 p101006 q101006
             cases e101006
             replace hx101006_0:=(HB.out.cell (Zc w _ hx101006_0)).trans hx101006_0
             replace hx101006_1:=(HB.out.cell (Zc w _ hx101006_1)).trans hx101006_1
             replace hx101006_2:=(HB.out.cell (Zc w _ hx101006_2)).trans hx101006_2
             have HR101006_1:=Za hi101006_1;have HC101006_1:=Za hl101006_1;clear hi101006_1 hl101006_1
             replace p101006:=eq_true p101006
             replace q101006:=eq_true q101006
             go_wp2_with (first|((with_reducible refine ZG (N:=8) rfl ?_);refine ZE ?hg (N:=8) ?hd (cs:=#[.string (⟨#[]⟩:ByteArray),.slice none 0 0,.int .i64 0]) (t:=116) ?hr ?_;(case hd=>rfl);(case hg=>rfl);(case hr=>first|(go_simp;done)|(go_simp;rfl));intro gb101007 hg w38 hbox hb;have n0_:=Za (Zw (g:=gb101001) (o:=.cells #[.slice (some ad101006) l0_0.length c0_0,.slice A0_1 l0_1.length c0_1,.int .i64 a0_2] 35 (0,0)) BK101001.out hb);have n1_:=Za (Zw (g:=gb101002) (o:=.cells #[.int .i64 a1_0,.slice A1_1 l1_1.length c1_1,.slice A1_2 l1_2.length c1_2] 66 (0,0)) BK101002.out hb);have n2_:=Za (Zv (by repeat(first|(with_reducible first|exact HB.out|apply Zp|apply Zn|apply Zr|refine Zq ?_ GE101001.out|refine Zq ?_ GE101002.out)|exact HB.out)) hb);have n3_:=Za (hbox);have n4_:=Za ((by rw[hg];exact(Zz (by repeat(first|(with_reducible first|exact HB.out|apply Zp|apply Zn|apply Zr|refine Zq ?_ GE101001.out|refine Zq ?_ GE101002.out)|exact HB.out))):w.heap.size≤gb101007));have n5_:=n4_;have n6_:=Za ((by rw[hg];exact Nat.ne_of_lt (ZK (g:=gb101001) (o:=.cells #[.slice (some ad101006) l0_0.length c0_0,.slice A0_1 l0_1.length c0_1,.int .i64 a0_2] 35 (0,0)) BK101001.out):gb101001≠gb101007));have n7_:=Za n6_.out.symm;have n8_:=Za ((by rw[hg];exact Nat.ne_of_lt (ZK (g:=gb101002) (o:=.cells #[.int .i64 a1_0,.slice A1_1 l1_1.length c1_1,.slice A1_2 l1_2.length c1_2] 66 (0,0)) BK101002.out):gb101002≠gb101007));have n9_:=Za n8_.out.symm;clear BK101001;clear BK101002;clear HB;have BK101001:=n0_;have BK101002:=n1_;have HB:=n2_;have BK101007:=n3_;have GW101007:=n4_;have GE101007:=n5_;have NB101001_101007:=n6_;have NB101007_101001:=n7_;have NB101002_101007:=n8_;have NB101007_101002:=n9_;clear n0_ n1_ n2_ n3_ n4_ n5_ n6_ n7_ n8_ n9_;clear hb hbox hg;have hnb39:=NB101007_101001.out;have hnc39:=NB101001_101007.out;have hnb40:=NB101007_101002.out;have hnc40:=NB101002_101007.out;have hcz41_0:w38.cell? ⟨gb101007,0,none⟩=some (.string (⟨#[]⟩:ByteArray)):=(Zm BK101007.out 0).trans rfl;have hcz41_1:w38.cell? ⟨gb101007,1,none⟩=some (.slice none 0 0):=(Zm BK101007.out 1).trans rfl;have hcz41_2:w38.cell? ⟨gb101007,2,none⟩=some (.int .i64 0):=(Zm BK101007.out 2).trans rfl;have hfz41_0:=Zo BK101007.out 0;have hfz41_1:=Zo BK101007.out 1;have hfz41_2:=Zo BK101007.out 2;have hnb42:=NB101002_101001.out;have hnc42:=NB101001_101002.out;have hcz43_0:w38.cell? ⟨gb101002,0,none⟩=some (.int .i64 a1_0):=(Zm BK101002.out 0).trans rfl;have hcz43_1:w38.cell? ⟨gb101002,1,none⟩=some (.slice A1_1 l1_1.length c1_1):=(Zm BK101002.out 1).trans rfl;have hcz43_2:w38.cell? ⟨gb101002,2,none⟩=some (.slice A1_2 l1_2.length c1_2):=(Zm BK101002.out 2).trans rfl;have hfz43_0:=Zo BK101002.out 0;have hfz43_1:=Zo BK101002.out 1;have hfz43_2:=Zo BK101002.out 2;have hcz44_0:w38.cell? ⟨gb101001,0,none⟩=some (.slice (some ad101006) l0_0.length c0_0):=(Zm BK101001.out 0).trans rfl;have hcz44_1:w38.cell? ⟨gb101001,1,none⟩=some (.slice A0_1 l0_1.length c0_1):=(Zm BK101001.out 1).trans rfl;have hcz44_2:w38.cell? ⟨gb101001,2,none⟩=some (.int .i64 a0_2):=(Zm BK101001.out 2).trans rfl;have hfz44_0:=Zo BK101001.out 0;have hfz44_1:=Zo BK101001.out 1;have hfz44_2:=Zo BK101001.out 2;have p101008:0≤(x24_2:Int):=Zd (by first|(with_reducible assumption)|assumption);have q101008:x24_2<(l1_1.length:Int):=Zd (by first|(with_reducible assumption)|assumption);obtain⟨ad101008,e101008,hx101008_0⟩:=Kd.at_int HR1_1.out x24_2 p101008 q101008;cases e101008;have hn101008_0:ad101008.block≠gb101007:=Nat.ne_of_lt (Nat.lt_of_lt_of_le (by have:=Zc _ _ hx101008_0;first|rwa [ZC] at this|exact this) GW101007.out);have hn101008_1:=hn101008_0;have hn101008_2:ad101008.block≠gb101007:=Nat.ne_of_lt (Nat.lt_of_lt_of_le (by have:=Zc _ _ hx101008_0;first|rwa [ZC] at this|exact this) GW101007.out);replace hx101008_0:=(HB.out.cell (Zc w _ hx101008_0)).trans hx101008_0;replace hx101008_0:=(ZU (p:=⟨gb101007,0,none⟩) (by first|(rw[ZC];exact hn101008_0)|(show(Addr.add _ _).block≠_;rw[ZC];exact hn101008_0)|exact hn101008_0) (.string ((ZA l0_0 x24_2).f0))).trans hx101008_0;replace hx101008_0:=(ZU (p:=⟨gb101007,1,none⟩) (by first|(rw[ZC];exact hn101008_1)|(show(Addr.add _ _).block≠_;rw[ZC];exact hn101008_1)|exact hn101008_1) (.slice A101006_1 ((ZA l0_0 x24_2).f1).length c101006_1)).trans hx101008_0;replace hx101008_0:=(ZU (p:=⟨gb101007,2,none⟩) (by first|(rw[ZC];exact hn101008_2)|(show(Addr.add _ _).block≠_;rw[ZC];exact hn101008_2)|exact hn101008_2) (.int .i64 ((ZA l0_0 x24_2).f2))).trans hx101008_0;clear hn101008_0;clear hn101008_1;clear hn101008_2;replace p101008:=eq_true p101008;replace q101008:=eq_true q101008)|(go_at_call 96;(with_reducible refine(ZQ.calls k2 _ _ ((ZA l0_0 x24_2).f1) _ _ l1_2 t101009 _ ?side1 ?side2 ?side3 ?side4 A36.out).mono ?_);(case side1=>exact Zb HR101006_1.out (by repeat(first|(with_reducible first|exact HB.out|apply Zp|apply Zn|apply Zr|refine Zq ?_ GE101001.out|refine Zq ?_ GE101002.out|refine Zq ?_ GE101007.out)|exact HB.out)));(case side2=>exact HC101006_1.out);(case side3=>exact Zb HR1_2.out (by repeat(first|(with_reducible first|exact HB.out|apply Zp|apply Zn|apply Zr|refine Zq ?_ GE101001.out|refine Zq ?_ GE101002.out|refine Zq ?_ GE101007.out)|exact HB.out)));(case side4=>exact HC1_2.out);rintro e w45 ⟨rfl,hb⟩;have n0_:=Za (Zw (g:=gb101001) (o:=.cells #[.slice (some ad101006) l0_0.length c0_0,.slice A0_1 l0_1.length c0_1,.int .i64 a0_2] 35 (0,0)) (by(with_reducible repeat(first|refine Zs ?_ _|refine Zu ?_|refine Zt ?_ _));refine ZD ?_ NB101001_101007.out _;(with_reducible repeat(first|refine Zs ?_ _|refine Zu ?_|refine Zt ?_ _));refine ZD ?_ NB101001_101007.out _;(with_reducible repeat(first|refine Zs ?_ _|refine Zu ?_|refine Zt ?_ _));refine ZD ?_ NB101001_101007.out _;(with_reducible repeat(first|refine Zs ?_ _|refine Zu ?_|refine Zt ?_ _));exact BK101001.out) hb);have n1_:=Za (Zw (g:=gb101002) (o:=.cells #[.int .i64 a1_0,.slice (some ad101008) l1_1.length c1_1,.slice A1_2 l1_2.length c1_2] 66 (0,0)) (by(with_reducible repeat(first|refine Zs ?_ _|refine Zu ?_|refine Zt ?_ _));refine ZD ?_ NB101002_101007.out _;(with_reducible repeat(first|refine Zs ?_ _|refine Zu ?_|refine Zt ?_ _));refine ZD ?_ NB101002_101007.out _;(with_reducible repeat(first|refine Zs ?_ _|refine Zu ?_|refine Zt ?_ _));refine ZD ?_ NB101002_101007.out _;(with_reducible repeat(first|refine Zs ?_ _|refine Zu ?_|refine Zt ?_ _));exact BK101002.out) hb);have n2_:=Za (Zw (g:=gb101007) (o:=.cells #[.string ((ZA l0_0 x24_2).f0),.slice A101006_1 ((ZA l0_0 x24_2).f1).length c101006_1,.int .i64 ((ZA l0_0 x24_2).f2)] 116 (0,0)) (by(with_reducible repeat(first|refine Zs ?_ _|refine Zu ?_|refine Zt ?_ _));refine Z7 (cs:=#[.string ((ZA l0_0 x24_2).f0),.slice A101006_1 ((ZA l0_0 x24_2).f1).length c101006_1,.int .i64 0]) ?_ 2 _ rfl;(with_reducible repeat(first|refine Zs ?_ _|refine Zu ?_|refine Zt ?_ _));refine Z7 (cs:=#[.string ((ZA l0_0 x24_2).f0),.slice none 0 0,.int .i64 0]) ?_ 1 _ rfl;(with_reducible repeat(first|refine Zs ?_ _|refine Zu ?_|refine Zt ?_ _));refine Z7 (cs:=#[.string (⟨#[]⟩:ByteArray),.slice none 0 0,.int .i64 0]) ?_ 0 _ rfl;(with_reducible repeat(first|refine Zs ?_ _|refine Zu ?_|refine Zt ?_ _));exact BK101007.out) hb);have n3_:=Za (Zv (by repeat(first|(with_reducible first|exact HB.out|apply Zp|apply Zn|apply Zr|refine Zq ?_ GE101001.out|refine Zq ?_ GE101002.out|refine Zq ?_ GE101007.out)|exact HB.out)) hb);clear BK101001;clear BK101002;clear BK101007;clear HB;have BK101001:=n0_;have BK101002:=n1_;have BK101007:=n2_;have HB:=n3_;clear n0_ n1_ n2_ n3_;(try clear hb);(try clear hb2);(try clear hk);(try clear hi)))
             go_ret
             exact⟨by first|rfl|(simp[Zy,Zx] <;> rfl)|(simp[*,Zy,Zx] <;> rfl),by repeat(first|(with_reducible first|exact HB.out|apply Zp|apply Zn|apply Zr|refine Zq ?_ GE101001.out|refine Zq ?_ GE101002.out|refine Zq ?_ GE101007.out)|exact HB.out)⟩
            ·rw[if_neg c37] at H
             have c37b0:decide (0≤t101009)=false:=Zf c37
             clear c37
             have H':=Za H
             clear H
             have p101006:0≤(x24_2:Int):=Zd (by first|(with_reducible assumption)|assumption)
             have q101006:x24_2<(l0_0.length:Int):=Zd (by first|(with_reducible assumption)|assumption)
             obtain⟨ad101006,A101006_1,c101006_1,e101006,hx101006_0,hx101006_1,hx101006_2,hl101006_1,hi101006_1⟩:=Zak HR0_0.out x24_2 p101006 q101006
             cases e101006
             replace hx101006_0:=(HB.out.cell (Zc w _ hx101006_0)).trans hx101006_0
             replace hx101006_1:=(HB.out.cell (Zc w _ hx101006_1)).trans hx101006_1
             replace hx101006_2:=(HB.out.cell (Zc w _ hx101006_2)).trans hx101006_2
             have HR101006_1:=Za hi101006_1;have HC101006_1:=Za hl101006_1;clear hi101006_1 hl101006_1
             replace p101006:=eq_true p101006
             replace q101006:=eq_true q101006
             go_wp2_with (first|((with_reducible refine ZG (N:=8) rfl ?_);refine ZE ?hg (N:=8) ?hd (cs:=#[.string (⟨#[]⟩:ByteArray),.slice none 0 0,.int .i64 0]) (t:=116) ?hr ?_;(case hd=>rfl);(case hg=>rfl);(case hr=>first|(go_simp;done)|(go_simp;rfl));intro gb101007 hg w46 hbox hb;have n0_:=Za (Zw (g:=gb101001) (o:=.cells #[.slice (some ad101006) l0_0.length c0_0,.slice A0_1 l0_1.length c0_1,.int .i64 a0_2] 35 (0,0)) BK101001.out hb);have n1_:=Za (Zw (g:=gb101002) (o:=.cells #[.int .i64 a1_0,.slice A1_1 l1_1.length c1_1,.slice A1_2 l1_2.length c1_2] 66 (0,0)) BK101002.out hb);have n2_:=Za (Zv (by repeat(first|(with_reducible first|exact HB.out|apply Zp|apply Zn|apply Zr|refine Zq ?_ GE101001.out|refine Zq ?_ GE101002.out)|exact HB.out)) hb);have n3_:=Za (hbox);have n4_:=Za ((by rw[hg];exact(Zz (by repeat(first|(with_reducible first|exact HB.out|apply Zp|apply Zn|apply Zr|refine Zq ?_ GE101001.out|refine Zq ?_ GE101002.out)|exact HB.out))):w.heap.size≤gb101007));have n5_:=n4_;have n6_:=Za ((by rw[hg];exact Nat.ne_of_lt (ZK (g:=gb101001) (o:=.cells #[.slice (some ad101006) l0_0.length c0_0,.slice A0_1 l0_1.length c0_1,.int .i64 a0_2] 35 (0,0)) BK101001.out):gb101001≠gb101007));have n7_:=Za n6_.out.symm;have n8_:=Za ((by rw[hg];exact Nat.ne_of_lt (ZK (g:=gb101002) (o:=.cells #[.int .i64 a1_0,.slice A1_1 l1_1.length c1_1,.slice A1_2 l1_2.length c1_2] 66 (0,0)) BK101002.out):gb101002≠gb101007));have n9_:=Za n8_.out.symm;clear BK101001;clear BK101002;clear HB;have BK101001:=n0_;have BK101002:=n1_;have HB:=n2_;have BK101007:=n3_;have GW101007:=n4_;have GE101007:=n5_;have NB101001_101007:=n6_;have NB101007_101001:=n7_;have NB101002_101007:=n8_;have NB101007_101002:=n9_;clear n0_ n1_ n2_ n3_ n4_ n5_ n6_ n7_ n8_ n9_;clear hb hbox hg;have hnb47:=NB101007_101001.out;have hnc47:=NB101001_101007.out;have hnb48:=NB101007_101002.out;have hnc48:=NB101002_101007.out;have hcz49_0:w46.cell? ⟨gb101007,0,none⟩=some (.string (⟨#[]⟩:ByteArray)):=(Zm BK101007.out 0).trans rfl;have hcz49_1:w46.cell? ⟨gb101007,1,none⟩=some (.slice none 0 0):=(Zm BK101007.out 1).trans rfl;have hcz49_2:w46.cell? ⟨gb101007,2,none⟩=some (.int .i64 0):=(Zm BK101007.out 2).trans rfl;have hfz49_0:=Zo BK101007.out 0;have hfz49_1:=Zo BK101007.out 1;have hfz49_2:=Zo BK101007.out 2;have hnb50:=NB101002_101001.out;have hnc50:=NB101001_101002.out;have hcz51_0:w46.cell? ⟨gb101002,0,none⟩=some (.int .i64 a1_0):=(Zm BK101002.out 0).trans rfl;have hcz51_1:w46.cell? ⟨gb101002,1,none⟩=some (.slice A1_1 l1_1.length c1_1):=(Zm BK101002.out 1).trans rfl;have hcz51_2:w46.cell? ⟨gb101002,2,none⟩=some (.slice A1_2 l1_2.length c1_2):=(Zm BK101002.out 2).trans rfl;have hfz51_0:=Zo BK101002.out 0;have hfz51_1:=Zo BK101002.out 1;have hfz51_2:=Zo BK101002.out 2;have hcz52_0:w46.cell? ⟨gb101001,0,none⟩=some (.slice (some ad101006) l0_0.length c0_0):=(Zm BK101001.out 0).trans rfl;have hcz52_1:w46.cell? ⟨gb101001,1,none⟩=some (.slice A0_1 l0_1.length c0_1):=(Zm BK101001.out 1).trans rfl;have hcz52_2:w46.cell? ⟨gb101001,2,none⟩=some (.int .i64 a0_2):=(Zm BK101001.out 2).trans rfl;have hfz52_0:=Zo BK101001.out 0;have hfz52_1:=Zo BK101001.out 1;have hfz52_2:=Zo BK101001.out 2;have p101008:0≤(x24_2:Int):=Zd (by first|(with_reducible assumption)|assumption);have q101008:x24_2<(l1_1.length:Int):=Zd (by first|(with_reducible assumption)|assumption);obtain⟨ad101008,e101008,hx101008_0⟩:=Kd.at_int HR1_1.out x24_2 p101008 q101008;cases e101008;have hn101008_0:ad101008.block≠gb101007:=Nat.ne_of_lt (Nat.lt_of_lt_of_le (by have:=Zc _ _ hx101008_0;first|rwa [ZC] at this|exact this) GW101007.out);have hn101008_1:=hn101008_0;have hn101008_2:ad101008.block≠gb101007:=Nat.ne_of_lt (Nat.lt_of_lt_of_le (by have:=Zc _ _ hx101008_0;first|rwa [ZC] at this|exact this) GW101007.out);replace hx101008_0:=(HB.out.cell (Zc w _ hx101008_0)).trans hx101008_0;replace hx101008_0:=(ZU (p:=⟨gb101007,0,none⟩) (by first|(rw[ZC];exact hn101008_0)|(show(Addr.add _ _).block≠_;rw[ZC];exact hn101008_0)|exact hn101008_0) (.string ((ZA l0_0 x24_2).f0))).trans hx101008_0;replace hx101008_0:=(ZU (p:=⟨gb101007,1,none⟩) (by first|(rw[ZC];exact hn101008_1)|(show(Addr.add _ _).block≠_;rw[ZC];exact hn101008_1)|exact hn101008_1) (.slice A101006_1 ((ZA l0_0 x24_2).f1).length c101006_1)).trans hx101008_0;replace hx101008_0:=(ZU (p:=⟨gb101007,2,none⟩) (by first|(rw[ZC];exact hn101008_2)|(show(Addr.add _ _).block≠_;rw[ZC];exact hn101008_2)|exact hn101008_2) (.int .i64 ((ZA l0_0 x24_2).f2))).trans hx101008_0;clear hn101008_0;clear hn101008_1;clear hn101008_2;replace p101008:=eq_true p101008;replace q101008:=eq_true q101008)|(go_at_call 96;(with_reducible refine(ZQ.calls k2 _ _ ((ZA l0_0 x24_2).f1) _ _ l1_2 t101009 _ ?side1 ?side2 ?side3 ?side4 A36.out).mono ?_);(case side1=>exact Zb HR101006_1.out (by repeat(first|(with_reducible first|exact HB.out|apply Zp|apply Zn|apply Zr|refine Zq ?_ GE101001.out|refine Zq ?_ GE101002.out|refine Zq ?_ GE101007.out)|exact HB.out)));(case side2=>exact HC101006_1.out);(case side3=>exact Zb HR1_2.out (by repeat(first|(with_reducible first|exact HB.out|apply Zp|apply Zn|apply Zr|refine Zq ?_ GE101001.out|refine Zq ?_ GE101002.out|refine Zq ?_ GE101007.out)|exact HB.out)));(case side4=>exact HC1_2.out);rintro e w53 ⟨rfl,hb⟩;have n0_:=Za (Zw (g:=gb101001) (o:=.cells #[.slice (some ad101006) l0_0.length c0_0,.slice A0_1 l0_1.length c0_1,.int .i64 a0_2] 35 (0,0)) (by(with_reducible repeat(first|refine Zs ?_ _|refine Zu ?_|refine Zt ?_ _));refine ZD ?_ NB101001_101007.out _;(with_reducible repeat(first|refine Zs ?_ _|refine Zu ?_|refine Zt ?_ _));refine ZD ?_ NB101001_101007.out _;(with_reducible repeat(first|refine Zs ?_ _|refine Zu ?_|refine Zt ?_ _));refine ZD ?_ NB101001_101007.out _;(with_reducible repeat(first|refine Zs ?_ _|refine Zu ?_|refine Zt ?_ _));exact BK101001.out) hb);have n1_:=Za (Zw (g:=gb101002) (o:=.cells #[.int .i64 a1_0,.slice (some ad101008) l1_1.length c1_1,.slice A1_2 l1_2.length c1_2] 66 (0,0)) (by(with_reducible repeat(first|refine Zs ?_ _|refine Zu ?_|refine Zt ?_ _));refine ZD ?_ NB101002_101007.out _;(with_reducible repeat(first|refine Zs ?_ _|refine Zu ?_|refine Zt ?_ _));refine ZD ?_ NB101002_101007.out _;(with_reducible repeat(first|refine Zs ?_ _|refine Zu ?_|refine Zt ?_ _));refine ZD ?_ NB101002_101007.out _;(with_reducible repeat(first|refine Zs ?_ _|refine Zu ?_|refine Zt ?_ _));exact BK101002.out) hb);have n2_:=Za (Zw (g:=gb101007) (o:=.cells #[.string ((ZA l0_0 x24_2).f0),.slice A101006_1 ((ZA l0_0 x24_2).f1).length c101006_1,.int .i64 ((ZA l0_0 x24_2).f2)] 116 (0,0)) (by(with_reducible repeat(first|refine Zs ?_ _|refine Zu ?_|refine Zt ?_ _));refine Z7 (cs:=#[.string ((ZA l0_0 x24_2).f0),.slice A101006_1 ((ZA l0_0 x24_2).f1).length c101006_1,.int .i64 0]) ?_ 2 _ rfl;(with_reducible repeat(first|refine Zs ?_ _|refine Zu ?_|refine Zt ?_ _));refine Z7 (cs:=#[.string ((ZA l0_0 x24_2).f0),.slice none 0 0,.int .i64 0]) ?_ 1 _ rfl;(with_reducible repeat(first|refine Zs ?_ _|refine Zu ?_|refine Zt ?_ _));refine Z7 (cs:=#[.string (⟨#[]⟩:ByteArray),.slice none 0 0,.int .i64 0]) ?_ 0 _ rfl;(with_reducible repeat(first|refine Zs ?_ _|refine Zu ?_|refine Zt ?_ _));exact BK101007.out) hb);have n3_:=Za (Zv (by repeat(first|(with_reducible first|exact HB.out|apply Zp|apply Zn|apply Zr|refine Zq ?_ GE101001.out|refine Zq ?_ GE101002.out|refine Zq ?_ GE101007.out)|exact HB.out)) hb);clear BK101001;clear BK101002;clear BK101007;clear HB;have BK101001:=n0_;have BK101002:=n1_;have BK101007:=n2_;have HB:=n3_;clear n0_ n1_ n2_ n3_;(try clear hb);(try clear hb2);(try clear hk);(try clear hi)))
             go_roundg k2
             case measure=>have:=HK1.out;have:=HK2.out;omega
             case rel=>exact⟨(wrap64 (x24_2+1)),(by first|rfl|(simp;done)|(simp[*];done)),H',⟨by have:=HK1.out;have:=HK2.out;omega⟩,⟨by(with_reducible repeat(first|refine Zs ?_ _|refine Zu ?_|refine Zt ?_ _));exact BK101001.out⟩,⟨by(with_reducible repeat(first|refine Zs ?_ _|refine Zu ?_|refine Zt ?_ _));exact BK101002.out⟩,⟨by repeat(first|(with_reducible first|exact HB.out|apply Zp|apply Zn|apply Zr|refine Zq ?_ GE101001.out|refine Zq ?_ GE101002.out|refine Zq ?_ GE101007.out)|exact HB.out)⟩⟩
           ·rw[if_neg c35] at H
            have c35b0:((rd l1_1 x24_2) == (-1))=false:=beq_eq_false_iff_ne.mpr c35
            have c35b1:((rd l1_1 x24_2) != (-1))=true:=bne_iff_ne.mpr c35
            have H':=Za H
            clear H
            have p101006:0≤(x24_2:Int):=Zd (by first|(with_reducible assumption)|assumption)
            have q101006:x24_2<(l0_0.length:Int):=Zd (by first|(with_reducible assumption)|assumption)
            obtain⟨ad101006,A101006_1,c101006_1,e101006,hx101006_0,hx101006_1,hx101006_2,hl101006_1,hi101006_1⟩:=Zak HR0_0.out x24_2 p101006 q101006
            cases e101006
            replace hx101006_0:=(HB.out.cell (Zc w _ hx101006_0)).trans hx101006_0
            replace hx101006_1:=(HB.out.cell (Zc w _ hx101006_1)).trans hx101006_1
            replace hx101006_2:=(HB.out.cell (Zc w _ hx101006_2)).trans hx101006_2
            have HR101006_1:=Za hi101006_1;have HC101006_1:=Za hl101006_1;clear hi101006_1 hl101006_1
            replace p101006:=eq_true p101006
            replace q101006:=eq_true q101006
            go_wp2_with (first|((with_reducible refine ZG (N:=8) rfl ?_);refine ZE ?hg (N:=8) ?hd (cs:=#[.string (⟨#[]⟩:ByteArray),.slice none 0 0,.int .i64 0]) (t:=116) ?hr ?_;(case hd=>rfl);(case hg=>rfl);(case hr=>first|(go_simp;done)|(go_simp;rfl));intro gb101007 hg w54 hbox hb;have n0_:=Za (Zw (g:=gb101001) (o:=.cells #[.slice (some ad101006) l0_0.length c0_0,.slice A0_1 l0_1.length c0_1,.int .i64 a0_2] 35 (0,0)) BK101001.out hb);have n1_:=Za (Zw (g:=gb101002) (o:=.cells #[.int .i64 a1_0,.slice A1_1 l1_1.length c1_1,.slice A1_2 l1_2.length c1_2] 66 (0,0)) BK101002.out hb);have n2_:=Za (Zv (by repeat(first|(with_reducible first|exact HB.out|apply Zp|apply Zn|apply Zr|refine Zq ?_ GE101001.out|refine Zq ?_ GE101002.out)|exact HB.out)) hb);have n3_:=Za (hbox);have n4_:=Za ((by rw[hg];exact(Zz (by repeat(first|(with_reducible first|exact HB.out|apply Zp|apply Zn|apply Zr|refine Zq ?_ GE101001.out|refine Zq ?_ GE101002.out)|exact HB.out))):w.heap.size≤gb101007));have n5_:=n4_;have n6_:=Za ((by rw[hg];exact Nat.ne_of_lt (ZK (g:=gb101001) (o:=.cells #[.slice (some ad101006) l0_0.length c0_0,.slice A0_1 l0_1.length c0_1,.int .i64 a0_2] 35 (0,0)) BK101001.out):gb101001≠gb101007));have n7_:=Za n6_.out.symm;have n8_:=Za ((by rw[hg];exact Nat.ne_of_lt (ZK (g:=gb101002) (o:=.cells #[.int .i64 a1_0,.slice A1_1 l1_1.length c1_1,.slice A1_2 l1_2.length c1_2] 66 (0,0)) BK101002.out):gb101002≠gb101007));have n9_:=Za n8_.out.symm;clear BK101001;clear BK101002;clear HB;have BK101001:=n0_;have BK101002:=n1_;have HB:=n2_;have BK101007:=n3_;have GW101007:=n4_;have GE101007:=n5_;have NB101001_101007:=n6_;have NB101007_101001:=n7_;have NB101002_101007:=n8_;have NB101007_101002:=n9_;clear n0_ n1_ n2_ n3_ n4_ n5_ n6_ n7_ n8_ n9_;clear hb hbox hg;have hnb55:=NB101007_101001.out;have hnc55:=NB101001_101007.out;have hnb56:=NB101007_101002.out;have hnc56:=NB101002_101007.out;have hcz57_0:w54.cell? ⟨gb101007,0,none⟩=some (.string (⟨#[]⟩:ByteArray)):=(Zm BK101007.out 0).trans rfl;have hcz57_1:w54.cell? ⟨gb101007,1,none⟩=some (.slice none 0 0):=(Zm BK101007.out 1).trans rfl;have hcz57_2:w54.cell? ⟨gb101007,2,none⟩=some (.int .i64 0):=(Zm BK101007.out 2).trans rfl;have hfz57_0:=Zo BK101007.out 0;have hfz57_1:=Zo BK101007.out 1;have hfz57_2:=Zo BK101007.out 2;have hnb58:=NB101002_101001.out;have hnc58:=NB101001_101002.out;have hcz59_0:w54.cell? ⟨gb101002,0,none⟩=some (.int .i64 a1_0):=(Zm BK101002.out 0).trans rfl;have hcz59_1:w54.cell? ⟨gb101002,1,none⟩=some (.slice A1_1 l1_1.length c1_1):=(Zm BK101002.out 1).trans rfl;have hcz59_2:w54.cell? ⟨gb101002,2,none⟩=some (.slice A1_2 l1_2.length c1_2):=(Zm BK101002.out 2).trans rfl;have hfz59_0:=Zo BK101002.out 0;have hfz59_1:=Zo BK101002.out 1;have hfz59_2:=Zo BK101002.out 2;have hcz60_0:w54.cell? ⟨gb101001,0,none⟩=some (.slice (some ad101006) l0_0.length c0_0):=(Zm BK101001.out 0).trans rfl;have hcz60_1:w54.cell? ⟨gb101001,1,none⟩=some (.slice A0_1 l0_1.length c0_1):=(Zm BK101001.out 1).trans rfl;have hcz60_2:w54.cell? ⟨gb101001,2,none⟩=some (.int .i64 a0_2):=(Zm BK101001.out 2).trans rfl;have hfz60_0:=Zo BK101001.out 0;have hfz60_1:=Zo BK101001.out 1;have hfz60_2:=Zo BK101001.out 2;have p101008:0≤(x24_2:Int):=Zd (by first|(with_reducible assumption)|assumption);have q101008:x24_2<(l1_1.length:Int):=Zd (by first|(with_reducible assumption)|assumption);obtain⟨ad101008,e101008,hx101008_0⟩:=Kd.at_int HR1_1.out x24_2 p101008 q101008;cases e101008;have hn101008_0:ad101008.block≠gb101007:=Nat.ne_of_lt (Nat.lt_of_lt_of_le (by have:=Zc _ _ hx101008_0;first|rwa [ZC] at this|exact this) GW101007.out);have hn101008_1:=hn101008_0;have hn101008_2:ad101008.block≠gb101007:=Nat.ne_of_lt (Nat.lt_of_lt_of_le (by have:=Zc _ _ hx101008_0;first|rwa [ZC] at this|exact this) GW101007.out);replace hx101008_0:=(HB.out.cell (Zc w _ hx101008_0)).trans hx101008_0;replace hx101008_0:=(ZU (p:=⟨gb101007,0,none⟩) (by first|(rw[ZC];exact hn101008_0)|(show(Addr.add _ _).block≠_;rw[ZC];exact hn101008_0)|exact hn101008_0) (.string ((ZA l0_0 x24_2).f0))).trans hx101008_0;replace hx101008_0:=(ZU (p:=⟨gb101007,1,none⟩) (by first|(rw[ZC];exact hn101008_1)|(show(Addr.add _ _).block≠_;rw[ZC];exact hn101008_1)|exact hn101008_1) (.slice A101006_1 ((ZA l0_0 x24_2).f1).length c101006_1)).trans hx101008_0;replace hx101008_0:=(ZU (p:=⟨gb101007,2,none⟩) (by first|(rw[ZC];exact hn101008_2)|(show(Addr.add _ _).block≠_;rw[ZC];exact hn101008_2)|exact hn101008_2) (.int .i64 ((ZA l0_0 x24_2).f2))).trans hx101008_0;clear hn101008_0;clear hn101008_1;clear hn101008_2;replace p101008:=eq_true p101008;replace q101008:=eq_true q101008))
            go_roundg k2
            case measure=>have:=HK1.out;have:=HK2.out;omega
            case rel=>exact⟨(wrap64 (x24_2+1)),(by first|rfl|(simp;done)|(simp[*];done)),H',⟨by have:=HK1.out;have:=HK2.out;omega⟩,⟨by(with_reducible repeat(first|refine Zs ?_ _|refine Zu ?_|refine Zt ?_ _));refine ZD ?_ NB101001_101007.out _;(with_reducible repeat(first|refine Zs ?_ _|refine Zu ?_|refine Zt ?_ _));refine ZD ?_ NB101001_101007.out _;(with_reducible repeat(first|refine Zs ?_ _|refine Zu ?_|refine Zt ?_ _));refine ZD ?_ NB101001_101007.out _;(with_reducible repeat(first|refine Zs ?_ _|refine Zu ?_|refine Zt ?_ _));exact BK101001.out⟩,⟨by(with_reducible repeat(first|refine Zs ?_ _|refine Zu ?_|refine Zt ?_ _));refine ZD ?_ NB101002_101007.out _;(with_reducible repeat(first|refine Zs ?_ _|refine Zu ?_|refine Zt ?_ _));refine ZD ?_ NB101002_101007.out _;(with_reducible repeat(first|refine Zs ?_ _|refine Zu ?_|refine Zt ?_ _));refine ZD ?_ NB101002_101007.out _;(with_reducible repeat(first|refine Zs ?_ _|refine Zu ?_|refine Zt ?_ _));exact BK101002.out⟩,⟨by repeat(first|(with_reducible first|exact HB.out|apply Zp|apply Zn|apply Zr|refine Zq ?_ GE101001.out|refine Zq ?_ GE101002.out|refine Zq ?_ GE101007.out)|exact HB.out)⟩⟩
          ·rw[if_neg c34] at H
           exact absurd H (by simp)
         ·rw[if_neg c33] at H
          have c33b0:decide (a0_2<a1_0)=false:=Zf c33
          clear c33
          have H':=Za H
          clear H
          have p101006:0≤(x24_2:Int):=Zd (by first|(with_reducible assumption)|assumption)
          have q101006:x24_2<(l0_0.length:Int):=Zd (by first|(with_reducible assumption)|assumption)
          obtain⟨ad101006,A101006_1,c101006_1,e101006,hx101006_0,hx101006_1,hx101006_2,hl101006_1,hi101006_1⟩:=Zak HR0_0.out x24_2 p101006 q101006
          cases e101006
          replace hx101006_0:=(HB.out.cell (Zc w _ hx101006_0)).trans hx101006_0
          replace hx101006_1:=(HB.out.cell (Zc w _ hx101006_1)).trans hx101006_1
          replace hx101006_2:=(HB.out.cell (Zc w _ hx101006_2)).trans hx101006_2
          have HR101006_1:=Za hi101006_1;have HC101006_1:=Za hl101006_1;clear hi101006_1 hl101006_1
          replace p101006:=eq_true p101006
          replace q101006:=eq_true q101006
          go_wp2_with (first|((with_reducible refine ZG (N:=8) rfl ?_);refine ZE ?hg (N:=8) ?hd (cs:=#[.string (⟨#[]⟩:ByteArray),.slice none 0 0,.int .i64 0]) (t:=116) ?hr ?_;(case hd=>rfl);(case hg=>rfl);(case hr=>first|(go_simp;done)|(go_simp;rfl));intro gb101007 hg w61 hbox hb;have n0_:=Za (Zw (g:=gb101001) (o:=.cells #[.slice (some ad101006) l0_0.length c0_0,.slice A0_1 l0_1.length c0_1,.int .i64 a0_2] 35 (0,0)) BK101001.out hb);have n1_:=Za (Zw (g:=gb101002) (o:=.cells #[.int .i64 a1_0,.slice A1_1 l1_1.length c1_1,.slice A1_2 l1_2.length c1_2] 66 (0,0)) BK101002.out hb);have n2_:=Za (Zv (by repeat(first|(with_reducible first|exact HB.out|apply Zp|apply Zn|apply Zr|refine Zq ?_ GE101001.out|refine Zq ?_ GE101002.out)|exact HB.out)) hb);have n3_:=Za (hbox);have n4_:=Za ((by rw[hg];exact(Zz (by repeat(first|(with_reducible first|exact HB.out|apply Zp|apply Zn|apply Zr|refine Zq ?_ GE101001.out|refine Zq ?_ GE101002.out)|exact HB.out))):w.heap.size≤gb101007));have n5_:=n4_;have n6_:=Za ((by rw[hg];exact Nat.ne_of_lt (ZK (g:=gb101001) (o:=.cells #[.slice (some ad101006) l0_0.length c0_0,.slice A0_1 l0_1.length c0_1,.int .i64 a0_2] 35 (0,0)) BK101001.out):gb101001≠gb101007));have n7_:=Za n6_.out.symm;have n8_:=Za ((by rw[hg];exact Nat.ne_of_lt (ZK (g:=gb101002) (o:=.cells #[.int .i64 a1_0,.slice A1_1 l1_1.length c1_1,.slice A1_2 l1_2.length c1_2] 66 (0,0)) BK101002.out):gb101002≠gb101007));have n9_:=Za n8_.out.symm;clear BK101001;clear BK101002;clear HB;have BK101001:=n0_;have BK101002:=n1_;have HB:=n2_;have BK101007:=n3_;have GW101007:=n4_;have GE101007:=n5_;have NB101001_101007:=n6_;have NB101007_101001:=n7_;have NB101002_101007:=n8_;have NB101007_101002:=n9_;clear n0_ n1_ n2_ n3_ n4_ n5_ n6_ n7_ n8_ n9_;clear hb hbox hg;have hnb62:=NB101007_101001.out;have hnc62:=NB101001_101007.out;have hnb63:=NB101007_101002.out;have hnc63:=NB101002_101007.out;have hcz64_0:w61.cell? ⟨gb101007,0,none⟩=some (.string (⟨#[]⟩:ByteArray)):=(Zm BK101007.out 0).trans rfl;have hcz64_1:w61.cell? ⟨gb101007,1,none⟩=some (.slice none 0 0):=(Zm BK101007.out 1).trans rfl;have hcz64_2:w61.cell? ⟨gb101007,2,none⟩=some (.int .i64 0):=(Zm BK101007.out 2).trans rfl;have hfz64_0:=Zo BK101007.out 0;have hfz64_1:=Zo BK101007.out 1;have hfz64_2:=Zo BK101007.out 2;have hnb65:=NB101002_101001.out;have hnc65:=NB101001_101002.out;have hcz66_0:w61.cell? ⟨gb101002,0,none⟩=some (.int .i64 a1_0):=(Zm BK101002.out 0).trans rfl;have hcz66_1:w61.cell? ⟨gb101002,1,none⟩=some (.slice A1_1 l1_1.length c1_1):=(Zm BK101002.out 1).trans rfl;have hcz66_2:w61.cell? ⟨gb101002,2,none⟩=some (.slice A1_2 l1_2.length c1_2):=(Zm BK101002.out 2).trans rfl;have hfz66_0:=Zo BK101002.out 0;have hfz66_1:=Zo BK101002.out 1;have hfz66_2:=Zo BK101002.out 2;have hcz67_0:w61.cell? ⟨gb101001,0,none⟩=some (.slice (some ad101006) l0_0.length c0_0):=(Zm BK101001.out 0).trans rfl;have hcz67_1:w61.cell? ⟨gb101001,1,none⟩=some (.slice A0_1 l0_1.length c0_1):=(Zm BK101001.out 1).trans rfl;have hcz67_2:w61.cell? ⟨gb101001,2,none⟩=some (.int .i64 a0_2):=(Zm BK101001.out 2).trans rfl;have hfz67_0:=Zo BK101001.out 0;have hfz67_1:=Zo BK101001.out 1;have hfz67_2:=Zo BK101001.out 2))
          go_roundg k2
          case measure=>have:=HK1.out;have:=HK2.out;omega
          case rel=>exact⟨(wrap64 (x24_2+1)),(by first|rfl|(simp;done)|(simp[*];done)),H',⟨by have:=HK1.out;have:=HK2.out;omega⟩,⟨by(with_reducible repeat(first|refine Zs ?_ _|refine Zu ?_|refine Zt ?_ _));refine ZD ?_ NB101001_101007.out _;(with_reducible repeat(first|refine Zs ?_ _|refine Zu ?_|refine Zt ?_ _));refine ZD ?_ NB101001_101007.out _;(with_reducible repeat(first|refine Zs ?_ _|refine Zu ?_|refine Zt ?_ _));refine ZD ?_ NB101001_101007.out _;(with_reducible repeat(first|refine Zs ?_ _|refine Zu ?_|refine Zt ?_ _));exact BK101001.out⟩,⟨by(with_reducible repeat(first|refine Zs ?_ _|refine Zu ?_|refine Zt ?_ _));refine ZD ?_ NB101002_101007.out _;(with_reducible repeat(first|refine Zs ?_ _|refine Zu ?_|refine Zt ?_ _));refine ZD ?_ NB101002_101007.out _;(with_reducible repeat(first|refine Zs ?_ _|refine Zu ?_|refine Zt ?_ _));refine ZD ?_ NB101002_101007.out _;(with_reducible repeat(first|refine Zs ?_ _|refine Zu ?_|refine Zt ?_ _));exact BK101002.out⟩,⟨by repeat(first|(with_reducible first|exact HB.out|apply Zp|apply Zn|apply Zr|refine Zq ?_ GE101001.out|refine Zq ?_ GE101002.out|refine Zq ?_ GE101007.out)|exact HB.out)⟩⟩
        ·rw[if_neg c32] at H
         exact absurd H (by simp)
       ·rw[if_neg c31] at H
        exact absurd H (by simp)
      ·rw[if_neg c30] at H
       have c30b0:decide (x24_2<(l0_0.length:Int))=false:=Zf c30
       clear c30
       obtain rfl:=Zg H
       go_wp2
       go_ret
       exact⟨by first|rfl|(simp[Zy,Zx] <;> rfl)|(simp[*,Zy,Zx] <;> rfl),by repeat(first|(with_reducible first|exact HB.out|apply Zp|apply Zn|apply Zr|refine Zq ?_ GE101001.out|refine Zq ?_ GE101002.out)|exact HB.out)⟩
def Zap.l0:Nat→List Int→List Int→Int→Int→Option (Bool)
 | 0,_,_,_,_=>none
 | k+1,x0,x5,x6,x7=>if x7<x6 then(if 0≤x7 then(if x7<(x5.length:Int) then((ZT.f (rd x5 x7) (-1) 1).bind fun t140002=>(if t140002=true then(Zap.l0 k x0 x5 x6 (wrap64 (x7+1))) else(some false))) else(none)) else(none)) else(some ((x0.length:Int) == 3))
def Zap.f (k:Nat) (l0:List Int):Option (Bool):=Zap.l0 k l0 l0 (l0.length:Int) 0
set_option maxHeartbeats 8000000 in
set_option maxRecDepth 100000 in
theorem Zap.calls (k:Nat) (A0:Option Addr) (c0:Nat) (l0:List Int) (r:Bool) (w:World) (hr0:Kd.C (Kd.int .i64) w A0 l0.length l0) (hc0:l0.length≤c0) (h:Zap.f k l0=some r) :
  Calls Try.prog 140 #[.slice A0 l0.length c0] w fun e w'=>e=.returned (.bool r)∧ZF w w':=by
 have HR0:=Za hr0;have HC0:=Za hc0;clear hr0 hc0
 have H:(Zap.l0 k l0 l0 (l0.length:Int) 0)=some r:=h
 clear h
 have H':=Za H
 clear H
 go_enter Try.func140,Try.ntmps140
 go_wp2
 go_loopg [7] k (fun kq v7 w'=>∃(x7_1:Int),v7=.int .i64 x7_1∧Aside0 (Zap.l0 kq l0 l0 (l0.length:Int) x7_1=some r)∧Aside0 (kq≤k)∧ZF w w')
 case atStart=>exact⟨(0),(by first|rfl|(simp;done)|(simp[*];done)),H',⟨Nat.le_refl _⟩,by repeat(first|exact ZF.refl _|apply ZF.step)⟩
 case round=>
  clear H'
  try clear c1
  obtain⟨x7_1,rfl,HA,HK1,⟨m1,rfl⟩⟩:=hrel
  cases gk with
  | zero=>exact absurd HA.out (by simp[Zap.l0])
  | succ k1=>
   have H:=HA.out
   clear HA
   simp only[Zap.l0] at H
   by_cases c2:x7_1<(l0.length:Int)
   ·rw[if_pos c2] at H
    have c2b0:decide (x7_1<(l0.length:Int))=true:=Ze c2
    clear c2
    by_cases c3:0≤x7_1
    ·rw[if_pos c3] at H
     have c3b0:decide (0≤x7_1)=true:=Ze c3
     clear c3
     by_cases c4:x7_1<(l0.length:Int)
     ·rw[if_pos c4] at H
      have c4b0:decide (x7_1<(l0.length:Int))=true:=Ze c4
      clear c4
      replace H:=Zh H
      obtain⟨t140002,A50,H⟩:=H
      replace H:(if t140002=true then(Zap.l0 k1 l0 l0 (l0.length:Int) (wrap64 (x7_1+1))) else(some false))=some r:=H
      have A5:=Za A50;clear A50
      by_cases c6:t140002=true
      ·subst c6
       have H1:(Zap.l0 k1 l0 l0 (l0.length:Int) (wrap64 (x7_1+1)))=some r:=by rw[if_pos rfl] at H;exact H
       clear H
       have H:=H1
       clear H1
       have H':=Za H
       clear H
       have p140001:0≤(x7_1:Int):=Zd (by first|(with_reducible assumption)|assumption)
       have q140001:x7_1<(l0.length:Int):=Zd (by first|(with_reducible assumption)|assumption)
       obtain⟨ad140001,e140001,hx140001_0⟩:=Kd.at_int HR0.out x7_1 p140001 q140001
       cases e140001
       replace p140001:=eq_true p140001
       replace q140001:=eq_true q140001
       go_wp2_with (first|((with_reducible refine ZH (f:=68) rfl ?_);refine ZW (some 12) rfl rfl Try.func68 (by kernel_rfl) rfl #[.int .i64 (rd l0 x7_1),.int .i64 (-1),.int .i64 1] rfl (by(try simp only[List.map_toArray,List.map_cons,List.map_nil]);first|done|rfl|(simp only[Zk,Zj];rfl)) ?_;(with_reducible refine(ZT.calls (rd l0 x7_1) (-1) 1 true _ A5.out).mono ?_);rintro e w' ⟨rfl,⟨nd,rfl⟩⟩;refine⟨_,rfl,?_⟩))
       go_roundg k1
       case measure=>have:=HK1.out;omega
       case rel=>exact⟨(wrap64 (x7_1+1)),(by first|rfl|(simp;done)|(simp[*];done)),H',⟨by have:=HK1.out;omega⟩,by repeat(first|exact ZF.refl _|apply ZF.step)⟩
      ·replace c6:=Bool.eq_false_iff.mpr c6
       subst c6
       have H1:(some false)=some r:=by rw[if_neg (show ¬(false=true) by decide)] at H;exact H
       clear H
       have H:=H1
       clear H1
       obtain rfl:=Zg H
       have p140001:0≤(x7_1:Int):=Zd (by first|(with_reducible assumption)|assumption)
       have q140001:x7_1<(l0.length:Int):=Zd (by first|(with_reducible assumption)|assumption)
       obtain⟨ad140001,e140001,hx140001_0⟩:=Kd.at_int HR0.out x7_1 p140001 q140001
       cases e140001
       replace p140001:=eq_true p140001
       replace q140001:=eq_true q140001
       go_wp2_with (first|((with_reducible refine ZH (f:=68) rfl ?_);refine ZW (some 12) rfl rfl Try.func68 (by kernel_rfl) rfl #[.int .i64 (rd l0 x7_1),.int .i64 (-1),.int .i64 1] rfl (by(try simp only[List.map_toArray,List.map_cons,List.map_nil]);first|done|rfl|(simp only[Zk,Zj];rfl)) ?_;(with_reducible refine(ZT.calls (rd l0 x7_1) (-1) 1 false _ A5.out).mono ?_);rintro e w' ⟨rfl,⟨nd,rfl⟩⟩;refine⟨_,rfl,?_⟩))
       go_ret
       exact⟨by first|rfl|(simp;done)|(simp[*];done),by repeat(first|exact ZF.refl _|apply ZF.step)⟩
     ·rw[if_neg c4] at H
      exact absurd H (by simp)
    ·rw[if_neg c3] at H
     exact absurd H (by simp)
   ·rw[if_neg c2] at H
    have c2b0:decide (x7_1<(l0.length:Int))=false:=Zf c2
    clear c2
    obtain rfl:=Zg H
    go_wp2
    go_ret
    exact⟨by first|rfl|(simp;done)|(simp[*];done),by repeat(first|exact ZF.refl _|apply ZF.step)⟩
end Go.Proofs.Ytodfnelilhjoeaa.Pr
namespace Go.Proofs.Ytodfnelilhjoeaa.Pr
open Go.RowKit Go.Proofs.YtodfnelilhjoeaaW.PrintWords Go.Proofs.Ytodfnelilhjoeaa.Ni
abbrev LNode:=S127
abbrev ZX:=S116
abbrev LTie:=S130
abbrev PTie:=S90
def cvN (x:LNode):ZX:=⟨x.f0,x.f1,x.f2⟩
def cvT (x:LTie):PTie:=⟨x.f0,x.f1,x.f2,x.f3,x.f4⟩
theorem ZbB (l:List ZX) (i:Nat):ZA l (i:Int)=l.getD i z116:=by unfold ZA;rw[Int.toNat_natCast]
theorem ZcF (l:List PTie) (i:Nat):ZB l (i:Int)=l.getD i z90:=by unfold ZB;rw[Int.toNat_natCast]
theorem rdLN_nat (l:List LNode) (i:Nat):ZaB l (i:Int)=l.getD i z127:=by unfold ZaB;rw[Int.toNat_natCast]
theorem rdLT_nat (l:List LTie) (i:Nat):ZaV l (i:Int)=l.getD i z130:=by unfold ZaV;rw[Int.toNat_natCast]
theorem zN:cvN z127=z116:=rfl
theorem zT:cvT z130=z90:=rfl
theorem getD_map {α β:Type} (f:α→β) (l:List α) (i:Nat) (a:α) (b:β) (h:f a=b):(l.map f).getD i b=f (l.getD i a):=by
 subst h
 rw[List.getD_eq_getElem?_getD,List.getD_eq_getElem?_getD,List.getElem?_map]
 cases l[i]? <;> rfl
def ZcZ (ns:List LNode) (ts:List LTie):Prop:=ns.length≤1048576∧ts.length≤1048576∧∀n∈ns,n.f0.size≤1048576∧n.f1.length≤1048576
def Zbh (ns:List ZX) (ts:List PTie):Prop:=ns.length≤1048576∧ts.length≤1048576∧∀n∈ns,n.f0.size≤1048576∧n.f1.length≤1048576
theorem ZcZ.cv {ns:List LNode} {ts:List LTie} (h:ZcZ ns ts):Zbh (ns.map cvN) (ts.map cvT):=by
 refine⟨by simpa using h.1,by simpa using h.2.1,fun n hn=>?_⟩
 obtain⟨m,hm,rfl⟩:=List.mem_map.1 hn
 exact h.2.2 m hm
end Go.Proofs.Ytodfnelilhjoeaa.Pr
namespace Go.Proofs.Ytodfnelilhjoeaa.Pr
open Go.RowKit Go.Proofs.YtodfnelilhjoeaaW.PrintWords Go.Proofs.YtodfnelilhjoeaaW.PrintLast Go.Proofs.YtodfnelilhjoeaaW.PrintMore
attribute [local go_sem] Zaj Zah Zat Zas Zaa Z9 Zai Zag
set_option linter.unusedVariables false
set_option linter.unusedSimpArgs false
def ZaD.l0:Nat→ByteArray→List (S116)→Int→Int→Option (Int)
 | 0,_,_,_,_=>none
 | k+1,x1,x8,x9,x10=>if x10<x9 then(if 0≤x10 then(if x10<(x8.length:Int) then(if ((ZA x8 x10).f0).toList=x1.toList then(some x10) else(ZaD.l0 k x1 x8 x9 (wrap64 (x10+1)))) else(none)) else(none)) else(some (-1))
def ZaD.f (k:Nat) (l0_0:List (S116)) (l0_1:List (S90)) (a0_2:Int) (a1:ByteArray):Option (Int):=ZaD.l0 k a1 l0_0 (l0_0.length:Int) 0
set_option maxHeartbeats 8000000 in
set_option maxRecDepth 100000 in
theorem ZaD.calls (k:Nat) (A0_0:Option Addr) (c0_0:Nat) (l0_0:List (S116)) (A0_1:Option Addr) (c0_1:Nat) (l0_1:List (S90)) (a0_2:Int) (a1:ByteArray) (r:Int) (w:World) (hr0_0:Kd.C k116 w A0_0 l0_0.length l0_0) (hc0_0:l0_0.length≤c0_0) (hr0_1:Kd.C k90 w A0_1 l0_1.length l0_1) (hc0_1:l0_1.length≤c0_1) (h:ZaD.f k l0_0 l0_1 a0_2 a1=some r) :
  Calls Try.prog 154 #[.agg #[.slice A0_0 l0_0.length c0_0,.slice A0_1 l0_1.length c0_1,.int .i64 a0_2],.string a1] w fun e w'=>e=.returned (.int .i64 r)∧Below w.heap.size w w':=by
 have hu35:=Try.underlying35
 have hu116:=Try.underlying116
 have HR0_0:=Za hr0_0;have HC0_0:=Za hc0_0;clear hr0_0 hc0_0;have HR0_1:=Za hr0_1;have HC0_1:=Za hc0_1;clear hr0_1 hc0_1
 have HB:=Za (Below.refl w.heap.size w)
 have H:(ZaD.l0 k a1 l0_0 (l0_0.length:Int) 0)=some r:=h
 clear h
 have H':=Za H
 clear H
 go_enter Try.func154,Try.ntmps154
 go_wp2_with (first|((with_reducible refine ZG (N:=2) rfl ?_);refine ZE ?hg (N:=2) ?hd (cs:=#[.slice A0_0 l0_0.length c0_0,.slice A0_1 l0_1.length c0_1,.int .i64 a0_2]) (t:=35) ?hr ?_;(case hd=>rfl);(case hg=>rfl);(case hr=>first|(go_simp;done)|(go_simp;rfl));intro gb154001 hg w3 hbox hb;have n0_:=Za (Zv (by exact HB.out) hb);have n1_:=Za (hbox);have n2_:=Za ((by rw[hg];exact(Zz (by exact HB.out)):w.heap.size≤gb154001));have n3_:=n2_;clear HB;have HB:=n0_;have BK154001:=n1_;have GW154001:=n2_;have GE154001:=n3_;clear n0_ n1_ n2_ n3_;clear hb hbox hg;have hcz4_0:w3.cell? ⟨gb154001,0,none⟩=some (.slice A0_0 l0_0.length c0_0):=(Zm BK154001.out 0).trans rfl;have hcz4_1:w3.cell? ⟨gb154001,1,none⟩=some (.slice A0_1 l0_1.length c0_1):=(Zm BK154001.out 1).trans rfl;have hcz4_2:w3.cell? ⟨gb154001,2,none⟩=some (.int .i64 a0_2):=(Zm BK154001.out 2).trans rfl;have hfz4_0:=Zo BK154001.out 0;have hfz4_1:=Zo BK154001.out 1;have hfz4_2:=Zo BK154001.out 2))
 go_loopg [10] k (fun kq v10 w'=>∃(x10_1:Int),v10=.int .i64 x10_1∧Aside0 (ZaD.l0 kq a1 l0_0 (l0_0.length:Int) x10_1=some r)∧Aside0 (kq≤k)∧Aside0 (w'.heap[gb154001]? = some (.cells #[(.slice A0_0 l0_0.length c0_0),(.slice A0_1 l0_1.length c0_1),.int .i64 a0_2] 35 (0,0)))∧Aside0 (Below w.heap.size w w'))
 case atStart=>exact⟨(0),(by first|rfl|(simp;done)|(simp[*];done)),H',⟨Nat.le_refl _⟩,⟨by(with_reducible repeat(first|refine Zs ?_ _|refine Zu ?_|refine Zt ?_ _));exact BK154001.out⟩,⟨by repeat(first|(with_reducible first|exact HB.out|apply Zp|apply Zn|apply Zr|refine Zq ?_ GE154001.out)|exact HB.out)⟩⟩
 case round=>
  clear H'
  try clear c1
  try clear p2
  obtain⟨x10_1,rfl,HA,HK1,BK154001,HB⟩:=hrel
  cases gk with
  | zero=>exact absurd HA.out (by simp[ZaD.l0])
  | succ k1=>
   have H:=HA.out
   clear HA
   simp only[ZaD.l0] at H
   by_cases c5:x10_1<(l0_0.length:Int)
   ·rw[if_pos c5] at H
    have c5b0:decide (x10_1<(l0_0.length:Int))=true:=Ze c5
    clear c5
    by_cases c6:0≤x10_1
    ·rw[if_pos c6] at H
     have c6b0:decide (0≤x10_1)=true:=Ze c6
     clear c6
     by_cases c7:x10_1<(l0_0.length:Int)
     ·rw[if_pos c7] at H
      have c7b0:decide (x10_1<(l0_0.length:Int))=true:=Ze c7
      clear c7
      by_cases c8:((ZA l0_0 x10_1).f0).toList=a1.toList
      ·rw[if_pos c8] at H
       have c8b0:(((ZA l0_0 x10_1).f0).toList == a1.toList)=true:=beq_iff_eq.mpr c8
       have c8b1:(((ZA l0_0 x10_1).f0).toList != a1.toList)=false:=bne_eq_false_iff_eq.mpr c8
       clear c8
       obtain rfl:=Zg H
       have p154002:0≤(x10_1:Int):=Zd (by with_reducible assumption)
       have q154002:x10_1<(l0_0.length:Int):=Zd (by with_reducible assumption)
       obtain⟨ad154002,A154002_1,c154002_1,e154002,hx154002_0,hx154002_1,hx154002_2,hl154002_1,hi154002_1⟩:=Zak HR0_0.out x10_1 p154002 q154002
       cases e154002
       replace hx154002_0:=(HB.out.cell (Zc w _ hx154002_0)).trans hx154002_0
       replace hx154002_1:=(HB.out.cell (Zc w _ hx154002_1)).trans hx154002_1
       replace hx154002_2:=(HB.out.cell (Zc w _ hx154002_2)).trans hx154002_2
       have HR154002_1:=Za hi154002_1;have HC154002_1:=Za hl154002_1;clear hi154002_1 hl154002_1
       replace p154002:=eq_true p154002
       replace q154002:=eq_true q154002
       go_wp2_with (first|((with_reducible refine ZG (N:=6) rfl ?_);refine ZE ?hg (N:=6) ?hd (cs:=#[.string (⟨#[]⟩:ByteArray),.slice none 0 0,.int .i64 0]) (t:=116) ?hr ?_;(case hd=>rfl);(case hg=>rfl);(case hr=>first|(go_simp;done)|(go_simp;rfl));intro gb154003 hg w9 hbox hb;have n0_:=Za (Zw BK154001.out hb);have n1_:=Za (Zv (by exact HB.out) hb);have n2_:=Za (hbox);have n3_:=Za ((by rw[hg];exact(Zz (by exact HB.out)):w.heap.size≤gb154003));have n4_:=n3_;have n5_:=Za ((by rw[hg];exact Nat.ne_of_lt (ZK BK154001.out):gb154001≠gb154003));have n6_:=Za n5_.out.symm;clear BK154001;clear HB;have BK154001:=n0_;have HB:=n1_;have BK154003:=n2_;have GW154003:=n3_;have GE154003:=n4_;have NB154001_154003:=n5_;have NB154003_154001:=n6_;clear n0_ n1_ n2_ n3_ n4_ n5_ n6_;clear hb hbox hg;have hnb10:=NB154003_154001.out;have hnc10:=NB154001_154003.out;have hcz11_0:w9.cell? ⟨gb154003,0,none⟩=some (.string (⟨#[]⟩:ByteArray)):=(Zm BK154003.out 0).trans rfl;have hcz11_1:w9.cell? ⟨gb154003,1,none⟩=some (.slice none 0 0):=(Zm BK154003.out 1).trans rfl;have hcz11_2:w9.cell? ⟨gb154003,2,none⟩=some (.int .i64 0):=(Zm BK154003.out 2).trans rfl;have hfz11_0:=Zo BK154003.out 0;have hfz11_1:=Zo BK154003.out 1;have hfz11_2:=Zo BK154003.out 2))
       go_ret
       exact⟨by first|rfl|(simp[Zy,Zx] <;> rfl)|(simp[*,Zy,Zx] <;> rfl),by repeat(first|(with_reducible first|exact HB.out|apply Zp|apply Zn|apply Zr|refine Zq ?_ GE154001.out|refine Zq ?_ GE154003.out)|exact HB.out)⟩
      ·rw[if_neg c8] at H
       have c8b0:(((ZA l0_0 x10_1).f0).toList == a1.toList)=false:=beq_eq_false_iff_ne.mpr c8
       have c8b1:(((ZA l0_0 x10_1).f0).toList != a1.toList)=true:=bne_iff_ne.mpr c8
       have H':=Za H
       clear H
       have p154002:0≤(x10_1:Int):=Zd (by with_reducible assumption)
       have q154002:x10_1<(l0_0.length:Int):=Zd (by with_reducible assumption)
       obtain⟨ad154002,A154002_1,c154002_1,e154002,hx154002_0,hx154002_1,hx154002_2,hl154002_1,hi154002_1⟩:=Zak HR0_0.out x10_1 p154002 q154002
       cases e154002
       replace hx154002_0:=(HB.out.cell (Zc w _ hx154002_0)).trans hx154002_0
       replace hx154002_1:=(HB.out.cell (Zc w _ hx154002_1)).trans hx154002_1
       replace hx154002_2:=(HB.out.cell (Zc w _ hx154002_2)).trans hx154002_2
       have HR154002_1:=Za hi154002_1;have HC154002_1:=Za hl154002_1;clear hi154002_1 hl154002_1
       replace p154002:=eq_true p154002
       replace q154002:=eq_true q154002
       go_wp2_with (first|((with_reducible refine ZG (N:=6) rfl ?_);refine ZE ?hg (N:=6) ?hd (cs:=#[.string (⟨#[]⟩:ByteArray),.slice none 0 0,.int .i64 0]) (t:=116) ?hr ?_;(case hd=>rfl);(case hg=>rfl);(case hr=>first|(go_simp;done)|(go_simp;rfl));intro gb154003 hg w12 hbox hb;have n0_:=Za (Zw BK154001.out hb);have n1_:=Za (Zv (by exact HB.out) hb);have n2_:=Za (hbox);have n3_:=Za ((by rw[hg];exact(Zz (by exact HB.out)):w.heap.size≤gb154003));have n4_:=n3_;have n5_:=Za ((by rw[hg];exact Nat.ne_of_lt (ZK BK154001.out):gb154001≠gb154003));have n6_:=Za n5_.out.symm;clear BK154001;clear HB;have BK154001:=n0_;have HB:=n1_;have BK154003:=n2_;have GW154003:=n3_;have GE154003:=n4_;have NB154001_154003:=n5_;have NB154003_154001:=n6_;clear n0_ n1_ n2_ n3_ n4_ n5_ n6_;clear hb hbox hg;have hnb13:=NB154003_154001.out;have hnc13:=NB154001_154003.out;have hcz14_0:w12.cell? ⟨gb154003,0,none⟩=some (.string (⟨#[]⟩:ByteArray)):=(Zm BK154003.out 0).trans rfl;have hcz14_1:w12.cell? ⟨gb154003,1,none⟩=some (.slice none 0 0):=(Zm BK154003.out 1).trans rfl;have hcz14_2:w12.cell? ⟨gb154003,2,none⟩=some (.int .i64 0):=(Zm BK154003.out 2).trans rfl;have hfz14_0:=Zo BK154003.out 0;have hfz14_1:=Zo BK154003.out 1;have hfz14_2:=Zo BK154003.out 2))
       go_roundg k1
       case measure=>have:=HK1.out;omega
       case rel=>exact⟨(wrap64 (x10_1+1)),(by first|rfl|(simp;done)|(simp[*];done)),H',⟨by have:=HK1.out;omega⟩,⟨by(with_reducible repeat(first|refine Zs ?_ _|refine Zu ?_|refine Zt ?_ _));refine ZD ?_ NB154001_154003.out _;(with_reducible repeat(first|refine Zs ?_ _|refine Zu ?_|refine Zt ?_ _));refine ZD ?_ NB154001_154003.out _;(with_reducible repeat(first|refine Zs ?_ _|refine Zu ?_|refine Zt ?_ _));refine ZD ?_ NB154001_154003.out _;(with_reducible repeat(first|refine Zs ?_ _|refine Zu ?_|refine Zt ?_ _));exact BK154001.out⟩,⟨by repeat(first|(with_reducible first|exact HB.out|apply Zp|apply Zn|apply Zr|refine Zq ?_ GE154001.out|refine Zq ?_ GE154003.out)|exact HB.out)⟩⟩
     ·rw[if_neg c7] at H
      exact absurd H (by simp)
    ·rw[if_neg c6] at H
     exact absurd H (by simp)
   ·rw[if_neg c5] at H
    have c5b0:decide (x10_1<(l0_0.length:Int))=false:=Zf c5
    clear c5
    obtain rfl:=Zg H
    go_wp2
    go_ret
    exact⟨by first|rfl|(simp[Zy,Zx] <;> rfl)|(simp[*,Zy,Zx] <;> rfl),by repeat(first|(with_reducible first|exact HB.out|apply Zp|apply Zn|apply Zr|refine Zq ?_ GE154001.out)|exact HB.out)⟩
end Go.Proofs.Ytodfnelilhjoeaa.Pr
namespace Go.Proofs.Ytodfnelilhjoeaa.Pr
open Go.RowKit Go.Proofs.YtodfnelilhjoeaaW.PrintWords Go.Proofs.Ytodfnelilhjoeaa.Ni
def ZcO (ns:List ZX) (s:ByteArray):Int:=Zbo (fun n=>decide (n.f0.toList=s.toList)) ns
theorem ZdO (ns:List ZX) (ts:List PTie) (z:Int) (s:ByteArray) (hl:ns.length≤9223372036854775807) (k:Nat) (hk:2 ^ 64≤k):ZaD.f k ns ts z s=some (ZcO ns s):=by
 have key:=ZaK ns.length (fun k i=>(∀j y,j<i→ns[j]? = some y→decide (y.f0.toList=s.toList)=false)→ZaD.l0 k s ns ns.length (i:Int)=some (ZcO ns s)) 0
  (fun k _ hb=>by
   simp only[ZaD.l0]
   rw[if_neg (by omega),ZcO,ZbF _ _ hb])
  (fun k i _ hi ih hb=>by
   simp only[ZaD.l0]
   rw[if_pos (by omega),if_pos (by omega),if_pos (by omega),ZbB,Zal hi (by omega)]
   by_cases h:(ns.getD i z116).f0.toList=s.toList
   ·rw[if_pos h,ZcO,ZbN _ ns i _ (getD_some hi z116) (Ze h) hb]
   ·rw[if_neg h,ih]
    intro j y hj hy
    by_cases e:j=i
    ·subst e
     rw[getD_some hi z116] at hy
     cases hy
     exact Zf h
    ·exact hb j y (by omega) hy) 0 k (Nat.zero_le _) (by omega)
 unfold ZaD.f
 exact key (fun j y hj=>absurd hj (by omega))
end Go.Proofs.Ytodfnelilhjoeaa.Pr
namespace Go.Proofs.Ytodfnelilhjoeaa.Pr
open Go.RowKit Go.Proofs.YtodfnelilhjoeaaW.PrintWords Go.Proofs.YtodfnelilhjoeaaW.PrintLast Go.Proofs.YtodfnelilhjoeaaW.PrintMore
attribute [local go_sem] Zaj Zah Zat Zas Zaa Z9 Zai Zag
set_option linter.unusedVariables false
set_option linter.unusedSimpArgs false
def Zay.l0:Nat→ByteArray→Int→Option (Bool)
 | 0,_,_=>none
 | k+1,x0,x3=>if x3<(x0.size:Int) then(if 0≤x3 then(if (bt x0 x3)≥97 then(if ((bt x0 x3)≤122) then(Zay.l0 k x0 (wrap64 (x3+1))) else(if x3=0 then(some false) else(if (bt x0 x3)<48 then(some false) else(if (bt x0 x3) > 57 then(some false) else(Zay.l0 k x0 (wrap64 (x3+1))))))) else(if x3=0 then(some false) else(if (bt x0 x3)<48 then(some false) else(if (bt x0 x3) > 57 then(some false) else(Zay.l0 k x0 (wrap64 (x3+1))))))) else(none)) else((ZT.f (x0.size:Int) 1 8).bind fun t173001=>(some t173001))
def Zay.f (k:Nat) (a0:ByteArray):Option (Bool):=Zay.l0 k a0 0
set_option maxHeartbeats 8000000 in
set_option maxRecDepth 100000 in
theorem Zay.calls (k:Nat) (a0:ByteArray) (r:Bool) (w:World) (h:Zay.f k a0=some r) :
  Calls Try.prog 173 #[.string a0] w fun e w'=>e=.returned (.bool r)∧ZF w w':=by
 have H:(Zay.l0 k a0 0)=some r:=h
 clear h
 have H':=Za H
 clear H
 go_enter Try.func173,Try.ntmps173
 go_wp2
 go_loopg [3] k (fun kq v3 w'=>∃(x3_1:Int),v3=.int .i64 x3_1∧Aside0 (Zay.l0 kq a0 x3_1=some r)∧Aside0 (kq≤k)∧ZF w w')
 case atStart=>exact⟨(0),(by first|rfl|(simp;done)|(simp[*];done)),H',⟨Nat.le_refl _⟩,by repeat(first|exact ZF.refl _|apply ZF.step)⟩
 case round=>
  clear H'
  try clear c1
  obtain⟨x3_1,rfl,HA,HK1,⟨m1,rfl⟩⟩:=hrel
  cases gk with
  | zero=>exact absurd HA.out (by simp[Zay.l0])
  | succ k1=>
   have H:=HA.out
   clear HA
   simp only[Zay.l0] at H
   by_cases c2:x3_1<(a0.size:Int)
   ·rw[if_pos c2] at H
    have c2b0:decide (x3_1<(a0.size:Int))=true:=Ze c2
    clear c2
    by_cases c3:0≤x3_1
    ·rw[if_pos c3] at H
     have c3b0:decide (0≤x3_1)=true:=Ze c3
     clear c3
     by_cases c5:(bt a0 x3_1)≥97
     ·rw[if_pos c5] at H
      have c5b0:decide (97≤(bt a0 x3_1))=true:=Ze c5
      clear c5
      by_cases c7:((bt a0 x3_1)≤122)
      ·rw[if_pos c7] at H
       have c7b0:decide ((bt a0 x3_1)≤122)=true:=Ze c7
       clear c7
       have H':=Za H
       clear H
       have p4:0≤(x3_1:Int):=Zd (by with_reducible assumption)
       have q4:x3_1<(a0.size:Int):=Zd (by with_reducible assumption)
       have hx4:=Zaf a0 x3_1
       replace p4:=eq_true p4
       replace q4:=eq_true q4
       have p6:0≤(x3_1:Int):=Zd (by with_reducible assumption)
       have q6:x3_1<(a0.size:Int):=Zd (by with_reducible assumption)
       have hx6:=Zaf a0 x3_1
       replace p6:=eq_true p6
       replace q6:=eq_true q6
       go_wp2
       go_roundg k1
       case measure=>have:=HK1.out;omega
       case rel=>exact⟨(wrap64 (x3_1+1)),(by first|rfl|(simp;done)|(simp[*];done)),H',⟨by have:=HK1.out;omega⟩,by repeat(first|exact ZF.refl _|apply ZF.step)⟩
      ·rw[if_neg c7] at H
       have c7b0:decide ((bt a0 x3_1)≤122)=false:=Zf c7
       clear c7
       by_cases c8:x3_1=0
       ·rw[if_pos c8] at H
        have c8b0:(x3_1 == 0)=true:=beq_iff_eq.mpr c8
        have c8b1:(x3_1 != 0)=false:=bne_eq_false_iff_eq.mpr c8
        clear c8
        obtain rfl:=Zg H
        have p4:0≤(x3_1:Int):=Zd (by with_reducible assumption)
        have q4:x3_1<(a0.size:Int):=Zd (by with_reducible assumption)
        have hx4:=Zaf a0 x3_1
        replace p4:=eq_true p4
        replace q4:=eq_true q4
        have p6:0≤(x3_1:Int):=Zd (by with_reducible assumption)
        have q6:x3_1<(a0.size:Int):=Zd (by with_reducible assumption)
        have hx6:=Zaf a0 x3_1
        replace p6:=eq_true p6
        replace q6:=eq_true q6
        go_wp2
        go_ret
        exact⟨by first|rfl|(simp;done)|(simp[*];done),by repeat(first|exact ZF.refl _|apply ZF.step)⟩
       ·rw[if_neg c8] at H
        have c8b0:(x3_1 == 0)=false:=beq_eq_false_iff_ne.mpr c8
        have c8b1:(x3_1 != 0)=true:=bne_iff_ne.mpr c8
        by_cases c10:(bt a0 x3_1)<48
        ·rw[if_pos c10] at H
         have c10b0:decide ((bt a0 x3_1)<48)=true:=Ze c10
         clear c10
         obtain rfl:=Zg H
         have p4:0≤(x3_1:Int):=Zd (by with_reducible assumption)
         have q4:x3_1<(a0.size:Int):=Zd (by with_reducible assumption)
         have hx4:=Zaf a0 x3_1
         replace p4:=eq_true p4
         replace q4:=eq_true q4
         have p6:0≤(x3_1:Int):=Zd (by with_reducible assumption)
         have q6:x3_1<(a0.size:Int):=Zd (by with_reducible assumption)
         have hx6:=Zaf a0 x3_1
         replace p6:=eq_true p6
         replace q6:=eq_true q6
         have p9:0≤(x3_1:Int):=Zd (by with_reducible assumption)
         have q9:x3_1<(a0.size:Int):=Zd (by with_reducible assumption)
         have hx9:=Zaf a0 x3_1
         replace p9:=eq_true p9
         replace q9:=eq_true q9
         go_wp2
         go_ret
         exact⟨by first|rfl|(simp;done)|(simp[*];done),by repeat(first|exact ZF.refl _|apply ZF.step)⟩
        ·rw[if_neg c10] at H
         have c10b0:decide ((bt a0 x3_1)<48)=false:=Zf c10
         clear c10
         by_cases c12:(bt a0 x3_1) > 57
         ·rw[if_pos c12] at H
          have c12b0:decide (57<(bt a0 x3_1))=true:=Ze c12
          clear c12
          obtain rfl:=Zg H
          have p4:0≤(x3_1:Int):=Zd (by with_reducible assumption)
          have q4:x3_1<(a0.size:Int):=Zd (by with_reducible assumption)
          have hx4:=Zaf a0 x3_1
          replace p4:=eq_true p4
          replace q4:=eq_true q4
          have p6:0≤(x3_1:Int):=Zd (by with_reducible assumption)
          have q6:x3_1<(a0.size:Int):=Zd (by with_reducible assumption)
          have hx6:=Zaf a0 x3_1
          replace p6:=eq_true p6
          replace q6:=eq_true q6
          have p9:0≤(x3_1:Int):=Zd (by with_reducible assumption)
          have q9:x3_1<(a0.size:Int):=Zd (by with_reducible assumption)
          have hx9:=Zaf a0 x3_1
          replace p9:=eq_true p9
          replace q9:=eq_true q9
          have p11:0≤(x3_1:Int):=Zd (by with_reducible assumption)
          have q11:x3_1<(a0.size:Int):=Zd (by with_reducible assumption)
          have hx11:=Zaf a0 x3_1
          replace p11:=eq_true p11
          replace q11:=eq_true q11
          go_wp2
          go_ret
          exact⟨by first|rfl|(simp;done)|(simp[*];done),by repeat(first|exact ZF.refl _|apply ZF.step)⟩
         ·rw[if_neg c12] at H
          have c12b0:decide (57<(bt a0 x3_1))=false:=Zf c12
          clear c12
          have H':=Za H
          clear H
          have p4:0≤(x3_1:Int):=Zd (by with_reducible assumption)
          have q4:x3_1<(a0.size:Int):=Zd (by with_reducible assumption)
          have hx4:=Zaf a0 x3_1
          replace p4:=eq_true p4
          replace q4:=eq_true q4
          have p6:0≤(x3_1:Int):=Zd (by with_reducible assumption)
          have q6:x3_1<(a0.size:Int):=Zd (by with_reducible assumption)
          have hx6:=Zaf a0 x3_1
          replace p6:=eq_true p6
          replace q6:=eq_true q6
          have p9:0≤(x3_1:Int):=Zd (by with_reducible assumption)
          have q9:x3_1<(a0.size:Int):=Zd (by with_reducible assumption)
          have hx9:=Zaf a0 x3_1
          replace p9:=eq_true p9
          replace q9:=eq_true q9
          have p11:0≤(x3_1:Int):=Zd (by with_reducible assumption)
          have q11:x3_1<(a0.size:Int):=Zd (by with_reducible assumption)
          have hx11:=Zaf a0 x3_1
          replace p11:=eq_true p11
          replace q11:=eq_true q11
          go_wp2
          go_roundg k1
          case measure=>have:=HK1.out;omega
          case rel=>exact⟨(wrap64 (x3_1+1)),(by first|rfl|(simp;done)|(simp[*];done)),H',⟨by have:=HK1.out;omega⟩,by repeat(first|exact ZF.refl _|apply ZF.step)⟩
     ·rw[if_neg c5] at H
      have c5b0:decide (97≤(bt a0 x3_1))=false:=Zf c5
      clear c5
      by_cases c13:x3_1=0
      ·rw[if_pos c13] at H
       have c13b0:(x3_1 == 0)=true:=beq_iff_eq.mpr c13
       have c13b1:(x3_1 != 0)=false:=bne_eq_false_iff_eq.mpr c13
       clear c13
       obtain rfl:=Zg H
       have p4:0≤(x3_1:Int):=Zd (by with_reducible assumption)
       have q4:x3_1<(a0.size:Int):=Zd (by with_reducible assumption)
       have hx4:=Zaf a0 x3_1
       replace p4:=eq_true p4
       replace q4:=eq_true q4
       go_wp2
       go_ret
       exact⟨by first|rfl|(simp;done)|(simp[*];done),by repeat(first|exact ZF.refl _|apply ZF.step)⟩
      ·rw[if_neg c13] at H
       have c13b0:(x3_1 == 0)=false:=beq_eq_false_iff_ne.mpr c13
       have c13b1:(x3_1 != 0)=true:=bne_iff_ne.mpr c13
       by_cases c15:(bt a0 x3_1)<48
       ·rw[if_pos c15] at H
        have c15b0:decide ((bt a0 x3_1)<48)=true:=Ze c15
        clear c15
        obtain rfl:=Zg H
        have p4:0≤(x3_1:Int):=Zd (by with_reducible assumption)
        have q4:x3_1<(a0.size:Int):=Zd (by with_reducible assumption)
        have hx4:=Zaf a0 x3_1
        replace p4:=eq_true p4
        replace q4:=eq_true q4
        have p14:0≤(x3_1:Int):=Zd (by with_reducible assumption)
        have q14:x3_1<(a0.size:Int):=Zd (by with_reducible assumption)
        have hx14:=Zaf a0 x3_1
        replace p14:=eq_true p14
        replace q14:=eq_true q14
        go_wp2
        go_ret
        exact⟨by first|rfl|(simp;done)|(simp[*];done),by repeat(first|exact ZF.refl _|apply ZF.step)⟩
       ·rw[if_neg c15] at H
        have c15b0:decide ((bt a0 x3_1)<48)=false:=Zf c15
        clear c15
        by_cases c17:(bt a0 x3_1) > 57
        ·rw[if_pos c17] at H
         have c17b0:decide (57<(bt a0 x3_1))=true:=Ze c17
         clear c17
         obtain rfl:=Zg H
         have p4:0≤(x3_1:Int):=Zd (by with_reducible assumption)
         have q4:x3_1<(a0.size:Int):=Zd (by with_reducible assumption)
         have hx4:=Zaf a0 x3_1
         replace p4:=eq_true p4
         replace q4:=eq_true q4
         have p14:0≤(x3_1:Int):=Zd (by with_reducible assumption)
         have q14:x3_1<(a0.size:Int):=Zd (by with_reducible assumption)
         have hx14:=Zaf a0 x3_1
         replace p14:=eq_true p14
         replace q14:=eq_true q14
         have p16:0≤(x3_1:Int):=Zd (by with_reducible assumption)
         have q16:x3_1<(a0.size:Int):=Zd (by with_reducible assumption)
         have hx16:=Zaf a0 x3_1
         replace p16:=eq_true p16
         replace q16:=eq_true q16
         go_wp2
         go_ret
         exact⟨by first|rfl|(simp;done)|(simp[*];done),by repeat(first|exact ZF.refl _|apply ZF.step)⟩
        ·rw[if_neg c17] at H
         have c17b0:decide (57<(bt a0 x3_1))=false:=Zf c17
         clear c17
         have H':=Za H
         clear H
         have p4:0≤(x3_1:Int):=Zd (by with_reducible assumption)
         have q4:x3_1<(a0.size:Int):=Zd (by with_reducible assumption)
         have hx4:=Zaf a0 x3_1
         replace p4:=eq_true p4
         replace q4:=eq_true q4
         have p14:0≤(x3_1:Int):=Zd (by with_reducible assumption)
         have q14:x3_1<(a0.size:Int):=Zd (by with_reducible assumption)
         have hx14:=Zaf a0 x3_1
         replace p14:=eq_true p14
         replace q14:=eq_true q14
         have p16:0≤(x3_1:Int):=Zd (by with_reducible assumption)
         have q16:x3_1<(a0.size:Int):=Zd (by with_reducible assumption)
         have hx16:=Zaf a0 x3_1
         replace p16:=eq_true p16
         replace q16:=eq_true q16
         go_wp2
         go_roundg k1
         case measure=>have:=HK1.out;omega
         case rel=>exact⟨(wrap64 (x3_1+1)),(by first|rfl|(simp;done)|(simp[*];done)),H',⟨by have:=HK1.out;omega⟩,by repeat(first|exact ZF.refl _|apply ZF.step)⟩
    ·rw[if_neg c3] at H
     exact absurd H (by simp)
   ·rw[if_neg c2] at H
    have c2b0:decide (x3_1<(a0.size:Int))=false:=Zf c2
    clear c2
    replace H:=Zh H
    obtain⟨t173001,A180,H⟩:=H
    replace H:(some t173001)=some r:=H
    have A18:=Za A180;clear A180
    obtain rfl:=Zg H
    go_wp2_with (first|((with_reducible refine ZH (f:=68) rfl ?_);refine ZW (some 41) rfl rfl Try.func68 (by kernel_rfl) rfl #[.int .i64 (a0.size:Int),.int .i64 1,.int .i64 8] rfl (by(try simp only[List.map_toArray,List.map_cons,List.map_nil]);first|done|rfl|(simp only[Zk,Zj];rfl)) ?_;(with_reducible refine(ZT.calls (a0.size:Int) 1 8 t173001 _ A18.out).mono ?_);rintro e w' ⟨rfl,⟨nd,rfl⟩⟩;refine⟨_,rfl,?_⟩))
    go_ret
    exact⟨by first|rfl|(simp;done)|(simp[*];done),by repeat(first|exact ZF.refl _|apply ZF.step)⟩
def Zao.l0:Nat→ByteArray→Int→Option (Bool)
 | 0,_,_=>none
 | k+1,x0,x3=>if x3<(x0.size:Int) then(if 0≤x3 then(if (bt x0 x3)≥97 then(if (bt x0 x3)≥48 then(if ((bt x0 x3)≤122) then(Zao.l0 k x0 (wrap64 (x3+1))) else(if ((bt x0 x3)≤57) then(if x3=0 then(some false) else(Zao.l0 k x0 (wrap64 (x3+1)))) else(some false))) else(if ((bt x0 x3)≤122) then(Zao.l0 k x0 (wrap64 (x3+1))) else(some false))) else(if (bt x0 x3)≥48 then(if ((bt x0 x3)≤57) then(if x3=0 then(some false) else(Zao.l0 k x0 (wrap64 (x3+1)))) else(some false)) else(some false))) else(none)) else(if (x0.size:Int)≥1 then(some (decide ((x0.size:Int)≤8))) else(some false))
def Zao.f (k:Nat) (a0:ByteArray):Option (Bool):=Zao.l0 k a0 0
set_option maxHeartbeats 8000000 in
set_option maxRecDepth 100000 in
theorem Zao.calls (k:Nat) (a0:ByteArray) (r:Bool) (w:World) (h:Zao.f k a0=some r) :
  Calls Try.prog 175 #[.string a0] w fun e w'=>e=.returned (.bool r)∧ZF w w':=by
 have H:(Zao.l0 k a0 0)=some r:=h
 clear h
 have H':=Za H
 clear H
 go_enter Try.func175,Try.ntmps175
 go_wp2
 repeat(go_quiet (fail);try go_wp2)
 go_loopg [3] k (fun kq v3 w'=>∃(x3_1:Int),v3=.int .i64 x3_1∧Aside0 (Zao.l0 kq a0 x3_1=some r)∧Aside0 (kq≤k)∧ZF w w')
 case atStart=>exact⟨(0),(by first|rfl|(simp;done)|(simp[*];done)),H',⟨Nat.le_refl _⟩,by repeat(first|exact ZF.refl _|apply ZF.step)⟩
 case round=>
  clear H'
  try clear c1
  obtain⟨x3_1,rfl,HA,HK1,⟨m1,rfl⟩⟩:=hrel
  cases gk with
  | zero=>exact absurd HA.out (by simp[Zao.l0])
  | succ k1=>
   have H:=HA.out
   clear HA
   simp only[Zao.l0] at H
   by_cases c2:x3_1<(a0.size:Int)
   ·rw[if_pos c2] at H
    have c2b0:decide (x3_1<(a0.size:Int))=true:=Ze c2
    clear c2
    by_cases c3:0≤x3_1
    ·rw[if_pos c3] at H
     have c3b0:decide (0≤x3_1)=true:=Ze c3
     clear c3
     by_cases c5:(bt a0 x3_1)≥97
     ·rw[if_pos c5] at H
      have c5b0:decide (97≤(bt a0 x3_1))=true:=Ze c5
      clear c5
      by_cases c8:(bt a0 x3_1)≥48
      ·rw[if_pos c8] at H
       have c8b0:decide (48≤(bt a0 x3_1))=true:=Ze c8
       clear c8
       by_cases c10:((bt a0 x3_1)≤122)
       ·rw[if_pos c10] at H
        have c10b0:decide ((bt a0 x3_1)≤122)=true:=Ze c10
        clear c10
        have H':=Za H
        clear H
        have p4:0≤(x3_1:Int):=Zd (by with_reducible assumption)
        have q4:x3_1<(a0.size:Int):=Zd (by with_reducible assumption)
        have hx4:=Zaf a0 x3_1
        replace p4:=eq_true p4
        replace q4:=eq_true q4
        have p6:0≤(x3_1:Int):=Zd (by with_reducible assumption)
        have q6:x3_1<(a0.size:Int):=Zd (by with_reducible assumption)
        have hx6:=Zaf a0 x3_1
        replace p6:=eq_true p6
        replace q6:=eq_true q6
        have p7:0≤(x3_1:Int):=Zd (by with_reducible assumption)
        have q7:x3_1<(a0.size:Int):=Zd (by with_reducible assumption)
        have hx7:=Zaf a0 x3_1
        replace p7:=eq_true p7
        replace q7:=eq_true q7
        have p9:0≤(x3_1:Int):=Zd (by with_reducible assumption)
        have q9:x3_1<(a0.size:Int):=Zd (by with_reducible assumption)
        have hx9:=Zaf a0 x3_1
        replace p9:=eq_true p9
        replace q9:=eq_true q9
        go_wp2
        repeat(go_quiet (fail);try go_wp2)
        go_roundg k1
        case measure=>have:=HK1.out;omega
        case rel=>exact⟨(wrap64 (x3_1+1)),(by first|rfl|(simp;done)|(simp[*];done)),H',⟨by have:=HK1.out;omega⟩,by repeat(first|exact ZF.refl _|apply ZF.step)⟩
       ·rw[if_neg c10] at H
        have c10b0:decide ((bt a0 x3_1)≤122)=false:=Zf c10
        clear c10
        by_cases c11:((bt a0 x3_1)≤57)
        ·rw[if_pos c11] at H
         have c11b0:decide ((bt a0 x3_1)≤57)=true:=Ze c11
         clear c11
         by_cases c12:x3_1=0
         ·rw[if_pos c12] at H
          have c12b0:(x3_1 == 0)=true:=beq_iff_eq.mpr c12
          have c12b1:(x3_1 != 0)=false:=bne_eq_false_iff_eq.mpr c12
          clear c12
          obtain rfl:=Zg H
          have p4:0≤(x3_1:Int):=Zd (by with_reducible assumption)
          have q4:x3_1<(a0.size:Int):=Zd (by with_reducible assumption)
          have hx4:=Zaf a0 x3_1
          replace p4:=eq_true p4
          replace q4:=eq_true q4
          have p6:0≤(x3_1:Int):=Zd (by with_reducible assumption)
          have q6:x3_1<(a0.size:Int):=Zd (by with_reducible assumption)
          have hx6:=Zaf a0 x3_1
          replace p6:=eq_true p6
          replace q6:=eq_true q6
          have p7:0≤(x3_1:Int):=Zd (by with_reducible assumption)
          have q7:x3_1<(a0.size:Int):=Zd (by with_reducible assumption)
          have hx7:=Zaf a0 x3_1
          replace p7:=eq_true p7
          replace q7:=eq_true q7
          have p9:0≤(x3_1:Int):=Zd (by with_reducible assumption)
          have q9:x3_1<(a0.size:Int):=Zd (by with_reducible assumption)
          have hx9:=Zaf a0 x3_1
          replace p9:=eq_true p9
          replace q9:=eq_true q9
          go_wp2
          repeat(go_quiet (fail);try go_wp2)
          go_ret
          exact⟨by first|rfl|(simp;done)|(simp[*];done),by repeat(first|exact ZF.refl _|apply ZF.step)⟩
         ·rw[if_neg c12] at H
          have c12b0:(x3_1 == 0)=false:=beq_eq_false_iff_ne.mpr c12
          have c12b1:(x3_1 != 0)=true:=bne_iff_ne.mpr c12
          have H':=Za H
          clear H
          have p4:0≤(x3_1:Int):=Zd (by with_reducible assumption)
          have q4:x3_1<(a0.size:Int):=Zd (by with_reducible assumption)
          have hx4:=Zaf a0 x3_1
          replace p4:=eq_true p4
          replace q4:=eq_true q4
          have p6:0≤(x3_1:Int):=Zd (by with_reducible assumption)
          have q6:x3_1<(a0.size:Int):=Zd (by with_reducible assumption)
          have hx6:=Zaf a0 x3_1
          replace p6:=eq_true p6
          replace q6:=eq_true q6
          have p7:0≤(x3_1:Int):=Zd (by with_reducible assumption)
          have q7:x3_1<(a0.size:Int):=Zd (by with_reducible assumption)
          have hx7:=Zaf a0 x3_1
          replace p7:=eq_true p7
          replace q7:=eq_true q7
          have p9:0≤(x3_1:Int):=Zd (by with_reducible assumption)
          have q9:x3_1<(a0.size:Int):=Zd (by with_reducible assumption)
          have hx9:=Zaf a0 x3_1
          replace p9:=eq_true p9
          replace q9:=eq_true q9
          go_wp2
          repeat(go_quiet (fail);try go_wp2)
          go_roundg k1
          case measure=>have:=HK1.out;omega
          case rel=>exact⟨(wrap64 (x3_1+1)),(by first|rfl|(simp;done)|(simp[*];done)),H',⟨by have:=HK1.out;omega⟩,by repeat(first|exact ZF.refl _|apply ZF.step)⟩
        ·rw[if_neg c11] at H
         have c11b0:decide ((bt a0 x3_1)≤57)=false:=Zf c11
         clear c11
         obtain rfl:=Zg H
         have p4:0≤(x3_1:Int):=Zd (by with_reducible assumption)
         have q4:x3_1<(a0.size:Int):=Zd (by with_reducible assumption)
         have hx4:=Zaf a0 x3_1
         replace p4:=eq_true p4
         replace q4:=eq_true q4
         have p6:0≤(x3_1:Int):=Zd (by with_reducible assumption)
         have q6:x3_1<(a0.size:Int):=Zd (by with_reducible assumption)
         have hx6:=Zaf a0 x3_1
         replace p6:=eq_true p6
         replace q6:=eq_true q6
         have p7:0≤(x3_1:Int):=Zd (by with_reducible assumption)
         have q7:x3_1<(a0.size:Int):=Zd (by with_reducible assumption)
         have hx7:=Zaf a0 x3_1
         replace p7:=eq_true p7
         replace q7:=eq_true q7
         have p9:0≤(x3_1:Int):=Zd (by with_reducible assumption)
         have q9:x3_1<(a0.size:Int):=Zd (by with_reducible assumption)
         have hx9:=Zaf a0 x3_1
         replace p9:=eq_true p9
         replace q9:=eq_true q9
         go_wp2
         repeat(go_quiet (fail);try go_wp2)
         go_ret
         exact⟨by first|rfl|(simp;done)|(simp[*];done),by repeat(first|exact ZF.refl _|apply ZF.step)⟩
      ·rw[if_neg c8] at H
       have c8b0:decide (48≤(bt a0 x3_1))=false:=Zf c8
       clear c8
       by_cases c13:((bt a0 x3_1)≤122)
       ·rw[if_pos c13] at H
        have c13b0:decide ((bt a0 x3_1)≤122)=true:=Ze c13
        clear c13
        have H':=Za H
        clear H
        have p4:0≤(x3_1:Int):=Zd (by with_reducible assumption)
        have q4:x3_1<(a0.size:Int):=Zd (by with_reducible assumption)
        have hx4:=Zaf a0 x3_1
        replace p4:=eq_true p4
        replace q4:=eq_true q4
        have p6:0≤(x3_1:Int):=Zd (by with_reducible assumption)
        have q6:x3_1<(a0.size:Int):=Zd (by with_reducible assumption)
        have hx6:=Zaf a0 x3_1
        replace p6:=eq_true p6
        replace q6:=eq_true q6
        have p7:0≤(x3_1:Int):=Zd (by with_reducible assumption)
        have q7:x3_1<(a0.size:Int):=Zd (by with_reducible assumption)
        have hx7:=Zaf a0 x3_1
        replace p7:=eq_true p7
        replace q7:=eq_true q7
        go_wp2
        repeat(go_quiet (fail);try go_wp2)
        go_roundg k1
        case measure=>have:=HK1.out;omega
        case rel=>exact⟨(wrap64 (x3_1+1)),(by first|rfl|(simp;done)|(simp[*];done)),H',⟨by have:=HK1.out;omega⟩,by repeat(first|exact ZF.refl _|apply ZF.step)⟩
       ·rw[if_neg c13] at H
        have c13b0:decide ((bt a0 x3_1)≤122)=false:=Zf c13
        clear c13
        obtain rfl:=Zg H
        have p4:0≤(x3_1:Int):=Zd (by with_reducible assumption)
        have q4:x3_1<(a0.size:Int):=Zd (by with_reducible assumption)
        have hx4:=Zaf a0 x3_1
        replace p4:=eq_true p4
        replace q4:=eq_true q4
        have p6:0≤(x3_1:Int):=Zd (by with_reducible assumption)
        have q6:x3_1<(a0.size:Int):=Zd (by with_reducible assumption)
        have hx6:=Zaf a0 x3_1
        replace p6:=eq_true p6
        replace q6:=eq_true q6
        have p7:0≤(x3_1:Int):=Zd (by with_reducible assumption)
        have q7:x3_1<(a0.size:Int):=Zd (by with_reducible assumption)
        have hx7:=Zaf a0 x3_1
        replace p7:=eq_true p7
        replace q7:=eq_true q7
        go_wp2
        repeat(go_quiet (fail);try go_wp2)
        go_ret
        exact⟨by first|rfl|(simp;done)|(simp[*];done),by repeat(first|exact ZF.refl _|apply ZF.step)⟩
     ·rw[if_neg c5] at H
      have c5b0:decide (97≤(bt a0 x3_1))=false:=Zf c5
      clear c5
      by_cases c15:(bt a0 x3_1)≥48
      ·rw[if_pos c15] at H
       have c15b0:decide (48≤(bt a0 x3_1))=true:=Ze c15
       clear c15
       by_cases c17:((bt a0 x3_1)≤57)
       ·rw[if_pos c17] at H
        have c17b0:decide ((bt a0 x3_1)≤57)=true:=Ze c17
        clear c17
        by_cases c18:x3_1=0
        ·rw[if_pos c18] at H
         have c18b0:(x3_1 == 0)=true:=beq_iff_eq.mpr c18
         have c18b1:(x3_1 != 0)=false:=bne_eq_false_iff_eq.mpr c18
         clear c18
         obtain rfl:=Zg H
         have p4:0≤(x3_1:Int):=Zd (by with_reducible assumption)
         have q4:x3_1<(a0.size:Int):=Zd (by with_reducible assumption)
         have hx4:=Zaf a0 x3_1
         replace p4:=eq_true p4
         replace q4:=eq_true q4
         have p14:0≤(x3_1:Int):=Zd (by with_reducible assumption)
         have q14:x3_1<(a0.size:Int):=Zd (by with_reducible assumption)
         have hx14:=Zaf a0 x3_1
         replace p14:=eq_true p14
         replace q14:=eq_true q14
         have p16:0≤(x3_1:Int):=Zd (by with_reducible assumption)
         have q16:x3_1<(a0.size:Int):=Zd (by with_reducible assumption)
         have hx16:=Zaf a0 x3_1
         replace p16:=eq_true p16
         replace q16:=eq_true q16
         go_wp2
         repeat(go_quiet (fail);try go_wp2)
         go_ret
         exact⟨by first|rfl|(simp;done)|(simp[*];done),by repeat(first|exact ZF.refl _|apply ZF.step)⟩
        ·rw[if_neg c18] at H
         have c18b0:(x3_1 == 0)=false:=beq_eq_false_iff_ne.mpr c18
         have c18b1:(x3_1 != 0)=true:=bne_iff_ne.mpr c18
         have H':=Za H
         clear H
         have p4:0≤(x3_1:Int):=Zd (by with_reducible assumption)
         have q4:x3_1<(a0.size:Int):=Zd (by with_reducible assumption)
         have hx4:=Zaf a0 x3_1
         replace p4:=eq_true p4
         replace q4:=eq_true q4
         have p14:0≤(x3_1:Int):=Zd (by with_reducible assumption)
         have q14:x3_1<(a0.size:Int):=Zd (by with_reducible assumption)
         have hx14:=Zaf a0 x3_1
         replace p14:=eq_true p14
         replace q14:=eq_true q14
         have p16:0≤(x3_1:Int):=Zd (by with_reducible assumption)
         have q16:x3_1<(a0.size:Int):=Zd (by with_reducible assumption)
         have hx16:=Zaf a0 x3_1
         replace p16:=eq_true p16
         replace q16:=eq_true q16
         go_wp2
         repeat(go_quiet (fail);try go_wp2)
         go_roundg k1
         case measure=>have:=HK1.out;omega
         case rel=>exact⟨(wrap64 (x3_1+1)),(by first|rfl|(simp;done)|(simp[*];done)),H',⟨by have:=HK1.out;omega⟩,by repeat(first|exact ZF.refl _|apply ZF.step)⟩
       ·rw[if_neg c17] at H
        have c17b0:decide ((bt a0 x3_1)≤57)=false:=Zf c17
        clear c17
        obtain rfl:=Zg H
        have p4:0≤(x3_1:Int):=Zd (by with_reducible assumption)
        have q4:x3_1<(a0.size:Int):=Zd (by with_reducible assumption)
        have hx4:=Zaf a0 x3_1
        replace p4:=eq_true p4
        replace q4:=eq_true q4
        have p14:0≤(x3_1:Int):=Zd (by with_reducible assumption)
        have q14:x3_1<(a0.size:Int):=Zd (by with_reducible assumption)
        have hx14:=Zaf a0 x3_1
        replace p14:=eq_true p14
        replace q14:=eq_true q14
        have p16:0≤(x3_1:Int):=Zd (by with_reducible assumption)
        have q16:x3_1<(a0.size:Int):=Zd (by with_reducible assumption)
        have hx16:=Zaf a0 x3_1
        replace p16:=eq_true p16
        replace q16:=eq_true q16
        go_wp2
        repeat(go_quiet (fail);try go_wp2)
        go_ret
        exact⟨by first|rfl|(simp;done)|(simp[*];done),by repeat(first|exact ZF.refl _|apply ZF.step)⟩
      ·rw[if_neg c15] at H
       have c15b0:decide (48≤(bt a0 x3_1))=false:=Zf c15
       clear c15
       obtain rfl:=Zg H
       have p4:0≤(x3_1:Int):=Zd (by with_reducible assumption)
       have q4:x3_1<(a0.size:Int):=Zd (by with_reducible assumption)
       have hx4:=Zaf a0 x3_1
       replace p4:=eq_true p4
       replace q4:=eq_true q4
       have p14:0≤(x3_1:Int):=Zd (by with_reducible assumption)
       have q14:x3_1<(a0.size:Int):=Zd (by with_reducible assumption)
       have hx14:=Zaf a0 x3_1
       replace p14:=eq_true p14
       replace q14:=eq_true q14
       go_wp2
       repeat(go_quiet (fail);try go_wp2)
       go_ret
       exact⟨by first|rfl|(simp;done)|(simp[*];done),by repeat(first|exact ZF.refl _|apply ZF.step)⟩
    ·rw[if_neg c3] at H
     exact absurd H (by simp)
   ·rw[if_neg c2] at H
    have c2b0:decide (x3_1<(a0.size:Int))=false:=Zf c2
    clear c2
    by_cases c19:(a0.size:Int)≥1
    ·rw[if_pos c19] at H
     have c19b0:decide (1≤(a0.size:Int))=true:=Ze c19
     have c19b1:decide (1≤a0.size)=true:=Ze (by omega)
     clear c19
     obtain rfl:=Zg H
     go_wp2
     repeat(go_quiet (fail);try go_wp2)
     go_ret
     exact⟨by first|rfl|(simp;done)|(simp[*];done),by repeat(first|exact ZF.refl _|apply ZF.step)⟩
    ·rw[if_neg c19] at H
     have c19b0:decide (1≤(a0.size:Int))=false:=Zf c19
     have c19b1:decide (1≤a0.size)=false:=Zf (by omega)
     clear c19
     obtain rfl:=Zg H
     go_wp2
     repeat(go_quiet (fail);try go_wp2)
     go_ret
     exact⟨by first|rfl|(simp;done)|(simp[*];done),by repeat(first|exact ZF.refl _|apply ZF.step)⟩
end Go.Proofs.Ytodfnelilhjoeaa.Pr
namespace Go.Proofs.Ytodfnelilhjoeaa.Pr
open Go.RowKit Go.Proofs.YtodfnelilhjoeaaW.PrintWords Go.Proofs.Ytodfnelilhjoeaa.Ni
def chB (s:ByteArray) (i:Nat):Bool:=(decide (97≤bt s i) && decide (bt s i≤122)) || (decide (0<i) && decide (48≤bt s i) && decide (bt s i≤57))
def chsB (s:ByteArray) (i:Nat):Nat→Bool
 | 0=>true
 | d+1=>chB s i && chsB s (i+1) d
def nameB (s:ByteArray):Bool:=chsB s 0 s.size && (decide (1≤s.size) && decide (s.size≤8))
theorem Zey (s:ByteArray) (hs:s.size≤9223372036854775807) (k:Nat) (hk:2 ^ 64≤k):Zay.f k s=some (nameB s):=by
 have key:=ZaK s.size (fun k i=>Zay.l0 k s (i:Int)=some (chsB s i (s.size - i) && (decide (1≤s.size) && decide (s.size≤8)))) 0
  (fun k _=>by
   simp only[Zay.l0]
   rw[if_neg (by omega),Nat.sub_self]
   unfold ZT.f chsB
   by_cases h1:1≤s.size
   ·rw[if_pos (by omega),Ze h1]
    simp only[Zi,Bool.true_and]
    congr 1
    rw[Bool.eq_iff_iff];simp;omega
   ·rw[if_neg (by omega),Zf h1];rfl)
  (fun k i _ hi ih=>by
   simp only[Zay.l0]
   rw[if_pos (by omega),if_pos (by omega),Zal hi (by omega),ih,show chsB s i (s.size - i)=(chB s i && chsB s (i+1) (s.size - (i+1))) by rw[show s.size - i=(s.size - (i+1))+1 by omega];rfl]
   have hF:chB s i=false→(chB s i && chsB s (i+1) (s.size - (i+1)) && (decide (1≤s.size) && decide (s.size≤8)))=false:=fun h=>by rw[h];rfl
   have hT:chB s i=true→(chB s i && chsB s (i+1) (s.size - (i+1)) && (decide (1≤s.size) && decide (s.size≤8)))=(chsB s (i+1) (s.size - (i+1)) && (decide (1≤s.size) && decide (s.size≤8))):=fun h=>by rw[h,Bool.true_and]
   generalize hc:bt s (i:Int)=c at *
   have hch:chB s i=((decide (97≤c) && decide (c≤122)) || (decide (0<i) && decide (48≤c) && decide (c≤57))):=by unfold chB;rw[hc]
   by_cases a1:c≥97
   ·rw[if_pos a1]
    by_cases a2:c≤122
    ·rw[if_pos a2,hT (by rw[hch];simp;omega)]
    ·rw[if_neg a2,hF (by rw[hch];simp;omega)]
     split
     ·rfl
     ·split
      ·rfl
      ·rw[if_pos (by omega)]
   ·rw[if_neg a1]
    by_cases b0:(i:Int)=0
    ·rw[if_pos b0,hF (by rw[hch];simp;omega)]
    ·rw[if_neg b0]
     by_cases b1:c<48
     ·rw[if_pos b1,hF (by rw[hch];simp;omega)]
     ·rw[if_neg b1]
      by_cases b2:c > 57
      ·rw[if_pos b2,hF (by rw[hch];simp;omega)]
      ·rw[if_neg b2,hT (by rw[hch];simp;omega)]) 0 k (Nat.zero_le _) (by omega)
 unfold Zay.f nameB
 simpa using key
theorem ZeD (s:ByteArray) (hs:s.size≤9223372036854775807) (k:Nat) (hk:2 ^ 64≤k):Zao.f k s=some (nameB s):=by
 have key:=ZaK s.size (fun k i=>Zao.l0 k s (i:Int)=some (chsB s i (s.size - i) && (decide (1≤s.size) && decide (s.size≤8)))) 0
  (fun k _=>by
   simp only[Zao.l0]
   rw[if_neg (by omega),Nat.sub_self]
   unfold chsB
   by_cases h1:1≤s.size
   ·rw[if_pos (by omega),Ze h1]
    simp only[Bool.true_and]
    congr 1
    rw[Bool.eq_iff_iff];simp;omega
   ·rw[if_neg (by omega),Zf h1];rfl)
  (fun k i _ hi ih=>by
   simp only[Zao.l0]
   rw[if_pos (by omega),if_pos (by omega),Zal hi (by omega),ih,show chsB s i (s.size - i)=(chB s i && chsB s (i+1) (s.size - (i+1))) by rw[show s.size - i=(s.size - (i+1))+1 by omega];rfl]
   have hF:chB s i=false→(chB s i && chsB s (i+1) (s.size - (i+1)) && (decide (1≤s.size) && decide (s.size≤8)))=false:=fun h=>by rw[h];rfl
   have hT:chB s i=true→(chB s i && chsB s (i+1) (s.size - (i+1)) && (decide (1≤s.size) && decide (s.size≤8)))=(chsB s (i+1) (s.size - (i+1)) && (decide (1≤s.size) && decide (s.size≤8))):=fun h=>by rw[h,Bool.true_and]
   generalize hc:bt s (i:Int)=c at *
   have hch:chB s i=((decide (97≤c) && decide (c≤122)) || (decide (0<i) && decide (48≤c) && decide (c≤57))):=by unfold chB;rw[hc]
   by_cases a1:c≥97
   ·rw[if_pos a1,if_pos (by omega)]
    by_cases a2:c≤122
    ·rw[if_pos a2,hT (by rw[hch];simp;omega)]
    ·rw[if_neg a2,if_neg (by omega),hF (by rw[hch];simp;omega)]
   ·rw[if_neg a1]
    by_cases b1:c≥48
    ·rw[if_pos b1]
     by_cases b2:c≤57
     ·rw[if_pos b2]
      by_cases b0:(i:Int)=0
      ·rw[if_pos b0,hF (by rw[hch];simp;omega)]
      ·rw[if_neg b0,hT (by rw[hch];simp;omega)]
     ·rw[if_neg b2,hF (by rw[hch];simp;omega)]
    ·rw[if_neg b1,hF (by rw[hch];simp;omega)]) 0 k (Nat.zero_le _) (by omega)
 unfold Zao.f nameB
 simpa using key
end Go.Proofs.Ytodfnelilhjoeaa.Pr
namespace Go.Proofs.Ytodfnelilhjoeaa.Pr
open Go.RowKit Go.Proofs.YtodfnelilhjoeaaW.PrintWords Go.Proofs.YtodfnelilhjoeaaW.PrintLast Go.Proofs.YtodfnelilhjoeaaW.PrintMore
attribute [local go_sem] Zaj Zah Zat Zas Zaa Z9 Zai Zag
set_option linter.unusedVariables false
set_option linter.unusedSimpArgs false
def ZZ.l0:Nat→List Int→List Int→Int→Int→Option (Bool)
 | 0,_,_,_,_=>none
 | k+1,x0,x5,x6,x7=>if x7<x6 then(if 0≤x7 then(if x7<(x5.length:Int) then(if (rd x5 x7)=0 then(some false) else((ZT.f (rd x5 x7) (-3) 3).bind fun t174002=>(if t174002=true then(if x7 > 0 then(if 0≤(wrap64 (x7 - 1)) then(if (wrap64 (x7 - 1))<(x0.length:Int) then((Zam.f (rd x0 (wrap64 (x7 - 1)))).bind fun t174004=>((Zam.f (rd x5 x7)).bind fun t174005=>(if t174004≥t174005 then(some false) else(ZZ.l0 k x0 x5 x6 (wrap64 (x7+1)))))) else(none)) else(none)) else(ZZ.l0 k x0 x5 x6 (wrap64 (x7+1)))) else(some false)))) else(none)) else(none)) else(some true)
def ZZ.f (k:Nat) (l0:List Int):Option (Bool):=ZZ.l0 k l0 l0 (l0.length:Int) 0
set_option maxHeartbeats 8000000 in
set_option maxRecDepth 100000 in
theorem ZZ.calls (k:Nat) (A0:Option Addr) (c0:Nat) (l0:List Int) (r:Bool) (w:World) (hr0:Kd.C (Kd.int .i64) w A0 l0.length l0) (hc0:l0.length≤c0) (h:ZZ.f k l0=some r) :
  Calls Try.prog 174 #[.slice A0 l0.length c0] w fun e w'=>e=.returned (.bool r)∧ZF w w':=by
 have HR0:=Za hr0;have HC0:=Za hc0;clear hr0 hc0
 have H:(ZZ.l0 k l0 l0 (l0.length:Int) 0)=some r:=h
 clear h
 have H':=Za H
 clear H
 go_enter Try.func174,Try.ntmps174
 go_wp2
 go_loopg [7] k (fun kq v7 w'=>∃(x7_1:Int),v7=.int .i64 x7_1∧Aside0 (ZZ.l0 kq l0 l0 (l0.length:Int) x7_1=some r)∧Aside0 (kq≤k)∧ZF w w')
 case atStart=>exact⟨(0),(by first|rfl|(simp;done)|(simp[*];done)),H',⟨Nat.le_refl _⟩,by repeat(first|exact ZF.refl _|apply ZF.step)⟩
 case round=>
  clear H'
  try clear c1
  obtain⟨x7_1,rfl,HA,HK1,⟨m1,rfl⟩⟩:=hrel
  cases gk with
  | zero=>exact absurd HA.out (by simp[ZZ.l0])
  | succ k1=>
   have H:=HA.out
   clear HA
   simp only[ZZ.l0] at H
   by_cases c2:x7_1<(l0.length:Int)
   ·rw[if_pos c2] at H
    have c2b0:decide (x7_1<(l0.length:Int))=true:=Ze c2
    clear c2
    by_cases c3:0≤x7_1
    ·rw[if_pos c3] at H
     have c3b0:decide (0≤x7_1)=true:=Ze c3
     clear c3
     by_cases c4:x7_1<(l0.length:Int)
     ·rw[if_pos c4] at H
      have c4b0:decide (x7_1<(l0.length:Int))=true:=Ze c4
      clear c4
      by_cases c5:(rd l0 x7_1)=0
      ·rw[if_pos c5] at H
       have c5b0:((rd l0 x7_1) == 0)=true:=beq_iff_eq.mpr c5
       have c5b1:((rd l0 x7_1) != 0)=false:=bne_eq_false_iff_eq.mpr c5
       clear c5
       obtain rfl:=Zg H
       have p174001:0≤(x7_1:Int):=Zd (by with_reducible assumption)
       have q174001:x7_1<(l0.length:Int):=Zd (by with_reducible assumption)
       obtain⟨ad174001,e174001,hx174001_0⟩:=Kd.at_int HR0.out x7_1 p174001 q174001
       cases e174001
       replace p174001:=eq_true p174001
       replace q174001:=eq_true q174001
       go_wp2
       go_ret
       exact⟨by first|rfl|(simp;done)|(simp[*];done),by repeat(first|exact ZF.refl _|apply ZF.step)⟩
      ·rw[if_neg c5] at H
       have c5b0:((rd l0 x7_1) == 0)=false:=beq_eq_false_iff_ne.mpr c5
       have c5b1:((rd l0 x7_1) != 0)=true:=bne_iff_ne.mpr c5
       replace H:=Zh H
       obtain⟨t174002,A60,H⟩:=H
       replace H:(if t174002=true then(if x7_1 > 0 then(if 0≤(wrap64 (x7_1 - 1)) then(if (wrap64 (x7_1 - 1))<(l0.length:Int) then((Zam.f (rd l0 (wrap64 (x7_1 - 1)))).bind fun t174004=>((Zam.f (rd l0 x7_1)).bind fun t174005=>(if t174004≥t174005 then(some false) else(ZZ.l0 k1 l0 l0 (l0.length:Int) (wrap64 (x7_1+1)))))) else(none)) else(none)) else(ZZ.l0 k1 l0 l0 (l0.length:Int) (wrap64 (x7_1+1)))) else(some false))=some r:=H
       have A6:=Za A60;clear A60
       by_cases c7:t174002=true
       ·subst c7
        have H1:(if x7_1 > 0 then(if 0≤(wrap64 (x7_1 - 1)) then(if (wrap64 (x7_1 - 1))<(l0.length:Int) then((Zam.f (rd l0 (wrap64 (x7_1 - 1)))).bind fun t174004=>((Zam.f (rd l0 x7_1)).bind fun t174005=>(if t174004≥t174005 then(some false) else(ZZ.l0 k1 l0 l0 (l0.length:Int) (wrap64 (x7_1+1)))))) else(none)) else(none)) else(ZZ.l0 k1 l0 l0 (l0.length:Int) (wrap64 (x7_1+1))))=some r:=by rw[if_pos rfl] at H;exact H
        clear H
        have H:=H1
        clear H1
        by_cases c8:x7_1 > 0
        ·rw[if_pos c8] at H
         have c8b0:decide (0<x7_1)=true:=Ze c8
         clear c8
         obtain⟨ji9,hji9⟩:∃j_:Int,(wrap64 (x7_1 - 1))=j_:=⟨_,rfl⟩
         replace H:(if 0≤(ji9) then(if (ji9)<(l0.length:Int) then((Zam.f (rd l0 (ji9))).bind fun t174004=>((Zam.f (rd l0 x7_1)).bind fun t174005=>(if t174004≥t174005 then(some false) else(ZZ.l0 k1 l0 l0 (l0.length:Int) (wrap64 (x7_1+1)))))) else(none)) else(none))=some r:=by first|(rw[hji9] at H;exact H)|(simp only[hji9] at H ⊢;exact H)
         (try rw[hji9] at A6)
         have hji9w:(IntKind.i64.wrap (x7_1 - 1))=ji9:=(ZL _).trans hji9
         by_cases c10:0≤(ji9)
         ·rw[if_pos c10] at H
          have c10b0:decide (0≤(ji9))=true:=Ze c10
          clear c10
          by_cases c11:(ji9)<(l0.length:Int)
          ·rw[if_pos c11] at H
           have c11b0:decide ((ji9)<(l0.length:Int))=true:=Ze c11
           clear c11
           replace H:=Zh H
           obtain⟨t174004,A120,H⟩:=H
           replace H:((Zam.f (rd l0 x7_1)).bind fun t174005=>(if t174004≥t174005 then(some false) else(ZZ.l0 k1 l0 l0 (l0.length:Int) (wrap64 (x7_1+1)))))=some r:=H
           have A12:=Za A120;clear A120
           replace H:=Zh H
           obtain⟨t174005,A130,H⟩:=H
           replace H:(if t174004≥t174005 then(some false) else(ZZ.l0 k1 l0 l0 (l0.length:Int) (wrap64 (x7_1+1))))=some r:=H
           have A13:=Za A130;clear A130
           by_cases c14:t174004≥t174005
           ·rw[if_pos c14] at H
            have c14b0:decide (t174005≤t174004)=true:=Ze c14
            clear c14
            obtain rfl:=Zg H
            have p174001:0≤(x7_1:Int):=Zd (by with_reducible assumption)
            have q174001:x7_1<(l0.length:Int):=Zd (by with_reducible assumption)
            obtain⟨ad174001,e174001,hx174001_0⟩:=Kd.at_int HR0.out x7_1 p174001 q174001
            cases e174001
            replace p174001:=eq_true p174001
            replace q174001:=eq_true q174001
            go_wp2_with (first|(go_at_call 68;(with_reducible refine(ZT.calls (rd l0 x7_1) (-3) 3 true _ A6.out).mono ?_);rintro e w' ⟨rfl,⟨nd,rfl⟩⟩;have p174003:0≤((ji9):Int):=Zd (by with_reducible assumption);have q174003:(ji9)<(l0.length:Int):=Zd (by with_reducible assumption);obtain⟨ad174003,e174003,hx174003_0⟩:=Kd.at_int HR0.out (ji9) p174003 q174003;obtain rfl:ad174001=ad174003:=(by injection e174003);replace p174003:=eq_true p174003;replace q174003:=eq_true q174003)|(go_at_call 141;(with_reducible refine(Zam.calls (rd l0 (ji9)) t174004 _ A12.out).mono ?_);rintro e w' ⟨rfl,⟨nd,rfl⟩⟩)|(go_at_call 141;(with_reducible refine(Zam.calls (rd l0 x7_1) t174005 _ A13.out).mono ?_);rintro e w' ⟨rfl,⟨nd,rfl⟩⟩))
            go_ret
            exact⟨by first|rfl|(simp;done)|(simp only[← hji9] <;> (first|rfl|simp))|(simp[*];done),by repeat(first|exact ZF.refl _|apply ZF.step)⟩
           ·rw[if_neg c14] at H
            have c14b0:decide (t174005≤t174004)=false:=Zf c14
            clear c14
            have H':=Za H
            clear H
            have p174001:0≤(x7_1:Int):=Zd (by with_reducible assumption)
            have q174001:x7_1<(l0.length:Int):=Zd (by with_reducible assumption)
            obtain⟨ad174001,e174001,hx174001_0⟩:=Kd.at_int HR0.out x7_1 p174001 q174001
            cases e174001
            replace p174001:=eq_true p174001
            replace q174001:=eq_true q174001
            go_wp2_with (first|(go_at_call 68;(with_reducible refine(ZT.calls (rd l0 x7_1) (-3) 3 true _ A6.out).mono ?_);rintro e w' ⟨rfl,⟨nd,rfl⟩⟩;have p174003:0≤((ji9):Int):=Zd (by with_reducible assumption);have q174003:(ji9)<(l0.length:Int):=Zd (by with_reducible assumption);obtain⟨ad174003,e174003,hx174003_0⟩:=Kd.at_int HR0.out (ji9) p174003 q174003;obtain rfl:ad174001=ad174003:=(by injection e174003);replace p174003:=eq_true p174003;replace q174003:=eq_true q174003)|(go_at_call 141;(with_reducible refine(Zam.calls (rd l0 (ji9)) t174004 _ A12.out).mono ?_);rintro e w' ⟨rfl,⟨nd,rfl⟩⟩)|(go_at_call 141;(with_reducible refine(Zam.calls (rd l0 x7_1) t174005 _ A13.out).mono ?_);rintro e w' ⟨rfl,⟨nd,rfl⟩⟩))
            go_roundg k1
            case measure=>have:=HK1.out;omega
            case rel=>exact⟨(wrap64 (x7_1+1)),(by first|rfl|(simp;done)|(simp[*];done)),H',⟨by have:=HK1.out;omega⟩,by repeat(first|exact ZF.refl _|apply ZF.step)⟩
          ·rw[if_neg c11] at H
           exact absurd H (by simp)
         ·rw[if_neg c10] at H
          exact absurd H (by simp)
        ·rw[if_neg c8] at H
         have c8b0:decide (0<x7_1)=false:=Zf c8
         clear c8
         have H':=Za H
         clear H
         have p174001:0≤(x7_1:Int):=Zd (by with_reducible assumption)
         have q174001:x7_1<(l0.length:Int):=Zd (by with_reducible assumption)
         obtain⟨ad174001,e174001,hx174001_0⟩:=Kd.at_int HR0.out x7_1 p174001 q174001
         cases e174001
         replace p174001:=eq_true p174001
         replace q174001:=eq_true q174001
         go_wp2_with (first|(go_at_call 68;(with_reducible refine(ZT.calls (rd l0 x7_1) (-3) 3 true _ A6.out).mono ?_);rintro e w' ⟨rfl,⟨nd,rfl⟩⟩))
         go_roundg k1
         case measure=>have:=HK1.out;omega
         case rel=>exact⟨(wrap64 (x7_1+1)),(by first|rfl|(simp;done)|(simp[*];done)),H',⟨by have:=HK1.out;omega⟩,by repeat(first|exact ZF.refl _|apply ZF.step)⟩
       ·replace c7:=Bool.eq_false_iff.mpr c7
        subst c7
        have H1:(some false)=some r:=by rw[if_neg (show ¬(false=true) by decide)] at H;exact H
        clear H
        have H:=H1
        clear H1
        obtain rfl:=Zg H
        have p174001:0≤(x7_1:Int):=Zd (by with_reducible assumption)
        have q174001:x7_1<(l0.length:Int):=Zd (by with_reducible assumption)
        obtain⟨ad174001,e174001,hx174001_0⟩:=Kd.at_int HR0.out x7_1 p174001 q174001
        cases e174001
        replace p174001:=eq_true p174001
        replace q174001:=eq_true q174001
        go_wp2_with (first|(go_at_call 68;(with_reducible refine(ZT.calls (rd l0 x7_1) (-3) 3 false _ A6.out).mono ?_);rintro e w' ⟨rfl,⟨nd,rfl⟩⟩))
        go_ret
        exact⟨by first|rfl|(simp;done)|(simp[*];done),by repeat(first|exact ZF.refl _|apply ZF.step)⟩
     ·rw[if_neg c4] at H
      exact absurd H (by simp)
    ·rw[if_neg c3] at H
     exact absurd H (by simp)
   ·rw[if_neg c2] at H
    have c2b0:decide (x7_1<(l0.length:Int))=false:=Zf c2
    clear c2
    obtain rfl:=Zg H
    go_wp2
    go_ret
    exact⟨by first|rfl|(simp;done)|(simp[*];done),by repeat(first|exact ZF.refl _|apply ZF.step)⟩
def Zan.f (a0:Int):Option (Int):=some (mx a0 (wrap64 (-a0)))
set_option maxHeartbeats 8000000 in
set_option maxRecDepth 100000 in
theorem Zan.calls (a0:Int) (r:Int) (w:World) (h:Zan.f a0=some r) :
  Calls Try.prog 162 #[.int .i64 a0] w fun e w'=>e=.returned (.int .i64 r)∧Below w.heap.size w w':=by
 have HB:=Za (Below.refl w.heap.size w)
 have H:(some (mx a0 (wrap64 (-a0))))=some r:=h
 clear h
 obtain⟨ji2,hji2⟩:∃j_:Int,(mx a0 (wrap64 (-a0)))=j_:=⟨_,rfl⟩
 replace H:(some ji2)=some r:=by first|(rw[hji2] at H;exact H)|(simp only[hji2] at H ⊢;exact H)
 have hji2_:(if a0<(wrap64 (-a0)) then(wrap64 (-a0)) else a0)=ji2:=hji2
 obtain rfl:=Zg H
 go_enter Try.func162,Try.ntmps162
 go_wp2
 go_ret
 exact⟨by first|rfl|(simp[Zy,Zx] <;> rfl)|(simp only[← hji2];first|rfl|(simp[Zy,Zx] <;> rfl))|(simp[*,Zy,Zx] <;> rfl),by repeat(first|(with_reducible first|exact HB.out|apply Zp|apply Zn|apply Zr)|exact HB.out)⟩
def Z1.l0:Nat→List Int→List Int→Int→Int→Option (Bool)
 | 0,_,_,_,_=>none
 | k+1,x0,x5,x6,x7=>if x7<x6 then(if 0≤x7 then(if x7<(x5.length:Int) then(if (rd x5 x7)=0 then(some false) else(if (rd x5 x7)<(-3) then(some false) else(if (rd x5 x7) > 3 then(some false) else(if x7 > 0 then(if 0≤(wrap64 (x7 - 1)) then(if (wrap64 (x7 - 1))<(x0.length:Int) then((Zan.f (rd x0 (wrap64 (x7 - 1)))).bind fun t168003=>((Zan.f (rd x5 x7)).bind fun t168004=>(if t168003≥t168004 then(some false) else(Z1.l0 k x0 x5 x6 (wrap64 (x7+1)))))) else(none)) else(none)) else(Z1.l0 k x0 x5 x6 (wrap64 (x7+1))))))) else(none)) else(none)) else(some true)
def Z1.f (k:Nat) (l0:List Int):Option (Bool):=Z1.l0 k l0 l0 (l0.length:Int) 0
set_option maxHeartbeats 8000000 in
set_option maxRecDepth 100000 in
theorem Z1.calls (k:Nat) (A0:Option Addr) (c0:Nat) (l0:List Int) (r:Bool) (w:World) (hr0:Kd.C (Kd.int .i64) w A0 l0.length l0) (hc0:l0.length≤c0) (h:Z1.f k l0=some r) :
  Calls Try.prog 168 #[.slice A0 l0.length c0] w fun e w'=>e=.returned (.bool r)∧Below w.heap.size w w':=by
 have HR0:=Za hr0;have HC0:=Za hc0;clear hr0 hc0
 have HB:=Za (Below.refl w.heap.size w)
 have H:(Z1.l0 k l0 l0 (l0.length:Int) 0)=some r:=h
 clear h
 have H':=Za H
 clear H
 go_enter Try.func168,Try.ntmps168
 go_wp2
 go_loopg [7] k (fun kq v7 w'=>∃(x7_1:Int),v7=.int .i64 x7_1∧Aside0 (Z1.l0 kq l0 l0 (l0.length:Int) x7_1=some r)∧Aside0 (kq≤k)∧Aside0 (Below w.heap.size w w'))
 case atStart=>exact⟨(0),(by first|rfl|(simp;done)|(simp[*];done)),H',⟨Nat.le_refl _⟩,⟨by repeat(first|(with_reducible first|exact HB.out|apply Zp|apply Zn|apply Zr)|exact HB.out)⟩⟩
 case round=>
  clear H'
  try clear c1
  obtain⟨x7_1,rfl,HA,HK1,HB⟩:=hrel
  cases gk with
  | zero=>exact absurd HA.out (by simp[Z1.l0])
  | succ k1=>
   have H:=HA.out
   clear HA
   simp only[Z1.l0] at H
   by_cases c2:x7_1<(l0.length:Int)
   ·rw[if_pos c2] at H
    have c2b0:decide (x7_1<(l0.length:Int))=true:=Ze c2
    clear c2
    by_cases c3:0≤x7_1
    ·rw[if_pos c3] at H
     have c3b0:decide (0≤x7_1)=true:=Ze c3
     clear c3
     by_cases c4:x7_1<(l0.length:Int)
     ·rw[if_pos c4] at H
      have c4b0:decide (x7_1<(l0.length:Int))=true:=Ze c4
      clear c4
      by_cases c5:(rd l0 x7_1)=0
      ·rw[if_pos c5] at H
       have c5b0:((rd l0 x7_1) == 0)=true:=beq_iff_eq.mpr c5
       have c5b1:((rd l0 x7_1) != 0)=false:=bne_eq_false_iff_eq.mpr c5
       clear c5
       obtain rfl:=Zg H
       have p168001:0≤(x7_1:Int):=Zd (by with_reducible assumption)
       have q168001:x7_1<(l0.length:Int):=Zd (by with_reducible assumption)
       obtain⟨ad168001,e168001,hx168001_0⟩:=Kd.at_int HR0.out x7_1 p168001 q168001
       cases e168001
       replace hx168001_0:=(HB.out.cell (Zc w _ hx168001_0)).trans hx168001_0
       replace p168001:=eq_true p168001
       replace q168001:=eq_true q168001
       go_wp2
       go_ret
       exact⟨by first|rfl|(simp[Zy,Zx] <;> rfl)|(simp[*,Zy,Zx] <;> rfl),by repeat(first|(with_reducible first|exact HB.out|apply Zp|apply Zn|apply Zr)|exact HB.out)⟩
      ·rw[if_neg c5] at H
       have c5b0:((rd l0 x7_1) == 0)=false:=beq_eq_false_iff_ne.mpr c5
       have c5b1:((rd l0 x7_1) != 0)=true:=bne_iff_ne.mpr c5
       by_cases c6:(rd l0 x7_1)<(-3)
       ·rw[if_pos c6] at H
        have c6b0:decide ((rd l0 x7_1)<(-3))=true:=Ze c6
        clear c6
        obtain rfl:=Zg H
        have p168001:0≤(x7_1:Int):=Zd (by with_reducible assumption)
        have q168001:x7_1<(l0.length:Int):=Zd (by with_reducible assumption)
        obtain⟨ad168001,e168001,hx168001_0⟩:=Kd.at_int HR0.out x7_1 p168001 q168001
        cases e168001
        replace hx168001_0:=(HB.out.cell (Zc w _ hx168001_0)).trans hx168001_0
        replace p168001:=eq_true p168001
        replace q168001:=eq_true q168001
        go_wp2
        go_ret
        exact⟨by first|rfl|(simp[Zy,Zx] <;> rfl)|(simp[*,Zy,Zx] <;> rfl),by repeat(first|(with_reducible first|exact HB.out|apply Zp|apply Zn|apply Zr)|exact HB.out)⟩
       ·rw[if_neg c6] at H
        have c6b0:decide ((rd l0 x7_1)<(-3))=false:=Zf c6
        clear c6
        by_cases c7:(rd l0 x7_1) > 3
        ·rw[if_pos c7] at H
         have c7b0:decide (3<(rd l0 x7_1))=true:=Ze c7
         clear c7
         obtain rfl:=Zg H
         have p168001:0≤(x7_1:Int):=Zd (by with_reducible assumption)
         have q168001:x7_1<(l0.length:Int):=Zd (by with_reducible assumption)
         obtain⟨ad168001,e168001,hx168001_0⟩:=Kd.at_int HR0.out x7_1 p168001 q168001
         cases e168001
         replace hx168001_0:=(HB.out.cell (Zc w _ hx168001_0)).trans hx168001_0
         replace p168001:=eq_true p168001
         replace q168001:=eq_true q168001
         go_wp2
         go_ret
         exact⟨by first|rfl|(simp[Zy,Zx] <;> rfl)|(simp[*,Zy,Zx] <;> rfl),by repeat(first|(with_reducible first|exact HB.out|apply Zp|apply Zn|apply Zr)|exact HB.out)⟩
        ·rw[if_neg c7] at H
         have c7b0:decide (3<(rd l0 x7_1))=false:=Zf c7
         clear c7
         by_cases c8:x7_1 > 0
         ·rw[if_pos c8] at H
          have c8b0:decide (0<x7_1)=true:=Ze c8
          clear c8
          obtain⟨ji9,hji9⟩:∃j_:Int,(wrap64 (x7_1 - 1))=j_:=⟨_,rfl⟩
          replace H:(if 0≤(ji9) then(if (ji9)<(l0.length:Int) then((Zan.f (rd l0 (ji9))).bind fun t168003=>((Zan.f (rd l0 x7_1)).bind fun t168004=>(if t168003≥t168004 then(some false) else(Z1.l0 k1 l0 l0 (l0.length:Int) (wrap64 (x7_1+1)))))) else(none)) else(none))=some r:=by first|(rw[hji9] at H;exact H)|(simp only[hji9] at H ⊢;exact H)
          have hji9w:(IntKind.i64.wrap (x7_1 - 1))=ji9:=(ZL _).trans hji9
          by_cases c10:0≤(ji9)
          ·rw[if_pos c10] at H
           have c10b0:decide (0≤(ji9))=true:=Ze c10
           clear c10
           by_cases c11:(ji9)<(l0.length:Int)
           ·rw[if_pos c11] at H
            have c11b0:decide ((ji9)<(l0.length:Int))=true:=Ze c11
            clear c11
            replace H:=Zh H
            obtain⟨t168003,A120,H⟩:=H
            replace H:((Zan.f (rd l0 x7_1)).bind fun t168004=>(if t168003≥t168004 then(some false) else(Z1.l0 k1 l0 l0 (l0.length:Int) (wrap64 (x7_1+1)))))=some r:=H
            have A12:=Za A120;clear A120
            replace H:=Zh H
            obtain⟨t168004,A130,H⟩:=H
            replace H:(if t168003≥t168004 then(some false) else(Z1.l0 k1 l0 l0 (l0.length:Int) (wrap64 (x7_1+1))))=some r:=H
            have A13:=Za A130;clear A130
            by_cases c14:t168003≥t168004
            ·rw[if_pos c14] at H
             have c14b0:decide (t168004≤t168003)=true:=Ze c14
             clear c14
             obtain rfl:=Zg H
             have p168001:0≤(x7_1:Int):=Zd (by with_reducible assumption)
             have q168001:x7_1<(l0.length:Int):=Zd (by with_reducible assumption)
             obtain⟨ad168001,e168001,hx168001_0⟩:=Kd.at_int HR0.out x7_1 p168001 q168001
             cases e168001
             replace hx168001_0:=(HB.out.cell (Zc w _ hx168001_0)).trans hx168001_0
             replace p168001:=eq_true p168001
             replace q168001:=eq_true q168001
             have p168002:0≤((ji9):Int):=Zd (by with_reducible assumption)
             have q168002:(ji9)<(l0.length:Int):=Zd (by with_reducible assumption)
             obtain⟨ad168002,e168002,hx168002_0⟩:=Kd.at_int HR0.out (ji9) p168002 q168002
             obtain rfl:ad168001=ad168002:=(by injection e168002)
             replace hx168002_0:=(HB.out.cell (Zc w _ hx168002_0)).trans hx168002_0
             replace p168002:=eq_true p168002
             replace q168002:=eq_true q168002
             go_wp2_with (first|(go_at_call 162;(with_reducible refine(Zan.calls (rd l0 (ji9)) t168003 _ A12.out).mono ?_);rintro e w15 ⟨rfl,hb⟩;have n0_:=Za (Zv (by exact HB.out) hb);clear HB;have HB:=n0_;clear n0_;(try clear hb);(try clear hb2);(try clear hk);(try clear hi))|(go_at_call 162;(with_reducible refine(Zan.calls (rd l0 x7_1) t168004 _ A13.out).mono ?_);rintro e w16 ⟨rfl,hb⟩;have n0_:=Za (Zv (by exact HB.out) hb);clear HB;have HB:=n0_;clear n0_;(try clear hb);(try clear hb2);(try clear hk);(try clear hi)))
             go_ret
             exact⟨by first|rfl|(simp[Zy,Zx] <;> rfl)|(simp only[← hji9];first|rfl|(simp[Zy,Zx] <;> rfl))|(simp[*,Zy,Zx] <;> rfl),by repeat(first|(with_reducible first|exact HB.out|apply Zp|apply Zn|apply Zr)|exact HB.out)⟩
            ·rw[if_neg c14] at H
             have c14b0:decide (t168004≤t168003)=false:=Zf c14
             clear c14
             have H':=Za H
             clear H
             have p168001:0≤(x7_1:Int):=Zd (by with_reducible assumption)
             have q168001:x7_1<(l0.length:Int):=Zd (by with_reducible assumption)
             obtain⟨ad168001,e168001,hx168001_0⟩:=Kd.at_int HR0.out x7_1 p168001 q168001
             cases e168001
             replace hx168001_0:=(HB.out.cell (Zc w _ hx168001_0)).trans hx168001_0
             replace p168001:=eq_true p168001
             replace q168001:=eq_true q168001
             have p168002:0≤((ji9):Int):=Zd (by with_reducible assumption)
             have q168002:(ji9)<(l0.length:Int):=Zd (by with_reducible assumption)
             obtain⟨ad168002,e168002,hx168002_0⟩:=Kd.at_int HR0.out (ji9) p168002 q168002
             obtain rfl:ad168001=ad168002:=(by injection e168002)
             replace hx168002_0:=(HB.out.cell (Zc w _ hx168002_0)).trans hx168002_0
             replace p168002:=eq_true p168002
             replace q168002:=eq_true q168002
             go_wp2_with (first|(go_at_call 162;(with_reducible refine(Zan.calls (rd l0 (ji9)) t168003 _ A12.out).mono ?_);rintro e w17 ⟨rfl,hb⟩;have n0_:=Za (Zv (by exact HB.out) hb);clear HB;have HB:=n0_;clear n0_;(try clear hb);(try clear hb2);(try clear hk);(try clear hi))|(go_at_call 162;(with_reducible refine(Zan.calls (rd l0 x7_1) t168004 _ A13.out).mono ?_);rintro e w18 ⟨rfl,hb⟩;have n0_:=Za (Zv (by exact HB.out) hb);clear HB;have HB:=n0_;clear n0_;(try clear hb);(try clear hb2);(try clear hk);(try clear hi)))
             go_roundg k1
             case measure=>have:=HK1.out;omega
             case rel=>exact⟨(wrap64 (x7_1+1)),(by first|rfl|(simp;done)|(simp[*];done)),H',⟨by have:=HK1.out;omega⟩,⟨by repeat(first|(with_reducible first|exact HB.out|apply Zp|apply Zn|apply Zr)|exact HB.out)⟩⟩
           ·rw[if_neg c11] at H
            exact absurd H (by simp)
          ·rw[if_neg c10] at H
           exact absurd H (by simp)
         ·rw[if_neg c8] at H
          have c8b0:decide (0<x7_1)=false:=Zf c8
          clear c8
          have H':=Za H
          clear H
          have p168001:0≤(x7_1:Int):=Zd (by with_reducible assumption)
          have q168001:x7_1<(l0.length:Int):=Zd (by with_reducible assumption)
          obtain⟨ad168001,e168001,hx168001_0⟩:=Kd.at_int HR0.out x7_1 p168001 q168001
          cases e168001
          replace hx168001_0:=(HB.out.cell (Zc w _ hx168001_0)).trans hx168001_0
          replace p168001:=eq_true p168001
          replace q168001:=eq_true q168001
          go_wp2
          go_roundg k1
          case measure=>have:=HK1.out;omega
          case rel=>exact⟨(wrap64 (x7_1+1)),(by first|rfl|(simp;done)|(simp[*];done)),H',⟨by have:=HK1.out;omega⟩,⟨by repeat(first|(with_reducible first|exact HB.out|apply Zp|apply Zn|apply Zr)|exact HB.out)⟩⟩
     ·rw[if_neg c4] at H
      exact absurd H (by simp)
    ·rw[if_neg c3] at H
     exact absurd H (by simp)
   ·rw[if_neg c2] at H
    have c2b0:decide (x7_1<(l0.length:Int))=false:=Zf c2
    clear c2
    obtain rfl:=Zg H
    go_wp2
    go_ret
    exact⟨by first|rfl|(simp[Zy,Zx] <;> rfl)|(simp[*,Zy,Zx] <;> rfl),by repeat(first|(with_reducible first|exact HB.out|apply Zp|apply Zn|apply Zr)|exact HB.out)⟩
end Go.Proofs.Ytodfnelilhjoeaa.Pr
namespace Go.Proofs.Ytodfnelilhjoeaa.Pr
open Go.RowKit Go.Proofs.YtodfnelilhjoeaaW.PrintWords Go.Proofs.YtodfnelilhjoeaaW.PrintMore Go.Proofs.Ytodfnelilhjoeaa.Ni
theorem ZcW {x:Int} (h:Za6 x=true):Zam.f x=some (prp x):=by
 have:=(Zbm x).1 h
 unfold Zam.f prp
 split
 ·rw[Za5 (by omega) (by omega)]
 ·rfl
theorem Zdd {x:Int} (h:Za6 x=true):Zan.f x=some (prp x):=by
 have:=(Zbm x).1 h
 unfold Zan.f prp mx
 rw[Za5 (by omega) (by omega)]
 congr 1
 split <;> split <;> omega
theorem Zcn (l:List Int) (hl:l.length≤9223372036854775807) (k:Nat) (hk:2 ^ 64≤k):ZZ.f k l=some (labB l):=by
 have key:=ZaK l.length (fun k i=>(0<i→Za6 (l.getD (i - 1) 0)=true)→ZZ.l0 k l l l.length (i:Int)=some (ZbC (if i=0 then 0 else prp (l.getD (i - 1) 0)) (l.drop i))) 0
  (fun k _ _=>by simp[ZZ.l0,ZbC])
  (fun k i _ hi ih hb=>by
   simp only[ZZ.l0]
   rw[if_pos (by omega),if_pos (by omega),if_pos (by omega),Za0,Zal hi (by omega),ZaI hi 0]
   unfold ZbC
   have ih':=fun h=>ih (fun _=>h)
   simp only[Nat.add_sub_cancel,Nat.add_eq_zero_iff,Nat.one_ne_zero,and_false,if_false] at ih'
   by_cases h0:l.getD i 0=0
   ·rw[if_pos h0,h0];simp[Za6]
   rw[if_neg h0]
   unfold ZT.f
   by_cases h1:l.getD i 0≥-3
   ·rw[if_pos h1,Zi]
    by_cases h2:l.getD i 0≤3
    ·have hok:Za6 (l.getD i 0)=true:=(Zbm _).2 ⟨h0,h1,h2⟩
     have hp:=Zc6 hok
     rw[if_pos (by simpa using h2)]
     by_cases hi0:i=0
     ·subst hi0
      rw[if_neg (by omega),ih' hok,hok]
      simp only[Bool.true_and,if_true]
      rw[Ze (show(0:Int)<prp (l.getD 0 0) by omega)]
      rfl
     ·rw[if_pos (by omega),wrap_pred (by omega) (by omega),if_pos (by omega),if_pos (by omega),Za0,ZcW (hb (by omega)),Zi,ZcW hok,Zi,if_neg hi0,hok]
      by_cases hlt:prp (l.getD (i - 1) 0)<prp (l.getD i 0)
      ·rw[if_neg (by omega),ih' hok,Ze hlt];rfl
      ·rw[if_pos (by omega),Zf hlt];rfl
    ·rw[if_neg (by simpa using h2)]
     rw[show Za6 (l.getD i 0)=false from Bool.eq_false_iff.2 fun h=>by have:=(Zbm _).1 h;omega];rfl
   ·rw[if_neg h1,Zi,if_neg (by decide)]
    rw[show Za6 (l.getD i 0)=false from Bool.eq_false_iff.2 fun h=>by have:=(Zbm _).1 h;omega];rfl) 0 k (Nat.zero_le _) (by omega)
 unfold ZZ.f labB
 have:=key (fun h=>absurd h (by omega))
 simpa using this
theorem Zb6 (l:List Int) (hl:l.length≤9223372036854775807) (k:Nat) (hk:2 ^ 64≤k):Z1.f k l=some (labB l):=by
 have key:=ZaK l.length (fun k i=>(0<i→Za6 (l.getD (i - 1) 0)=true)→Z1.l0 k l l l.length (i:Int)=some (ZbC (if i=0 then 0 else prp (l.getD (i - 1) 0)) (l.drop i))) 0
  (fun k _ _=>by simp[Z1.l0,ZbC])
  (fun k i _ hi ih hb=>by
   simp only[Z1.l0]
   rw[if_pos (by omega),if_pos (by omega),if_pos (by omega),Za0,Zal hi (by omega),ZaI hi 0]
   unfold ZbC
   have ih':=fun h=>ih (fun _=>h)
   simp only[Nat.add_sub_cancel,Nat.add_eq_zero_iff,Nat.one_ne_zero,and_false,if_false] at ih'
   by_cases h0:l.getD i 0=0
   ·rw[if_pos h0,h0];simp[Za6]
   rw[if_neg h0]
   by_cases h1:l.getD i 0≥-3
   ·rw[if_neg (by omega)]
    by_cases h2:l.getD i 0≤3
    ·have hok:Za6 (l.getD i 0)=true:=(Zbm _).2 ⟨h0,h1,h2⟩
     have hp:=Zc6 hok
     rw[if_neg (by omega)]
     by_cases hi0:i=0
     ·subst hi0
      rw[if_neg (by omega),ih' hok,hok]
      simp only[Bool.true_and,if_true]
      rw[Ze (show(0:Int)<prp (l.getD 0 0) by omega)]
      rfl
     ·rw[if_pos (by omega),wrap_pred (by omega) (by omega),if_pos (by omega),if_pos (by omega),Za0,Zdd (hb (by omega)),Zi,Zdd hok,Zi,if_neg hi0,hok]
      by_cases hlt:prp (l.getD (i - 1) 0)<prp (l.getD i 0)
      ·rw[if_neg (by omega),ih' hok,Ze hlt];rfl
      ·rw[if_pos (by omega),Zf hlt];rfl
    ·rw[if_pos (by omega)]
     rw[show Za6 (l.getD i 0)=false from Bool.eq_false_iff.2 fun h=>by have:=(Zbm _).1 h;omega];rfl
   ·rw[if_pos (by omega)]
    rw[show Za6 (l.getD i 0)=false from Bool.eq_false_iff.2 fun h=>by have:=(Zbm _).1 h;omega];rfl) 0 k (Nat.zero_le _) (by omega)
 unfold Z1.f labB
 have:=key (fun h=>absurd h (by omega))
 simpa using this
end Go.Proofs.Ytodfnelilhjoeaa.Pr
namespace Go.Proofs.Ytodfnelilhjoeaa.Pr
open Go.RowKit Go.Proofs.YtodfnelilhjoeaaW.PrintWords Go.Proofs.YtodfnelilhjoeaaW.PrintLast Go.Proofs.YtodfnelilhjoeaaW.PrintMore
attribute [local go_sem] Zaj Zah Zat Zas Zaa Z9 Zai Zag
set_option linter.unusedVariables false
set_option linter.unusedSimpArgs false
def Zb8.f (k:Nat) (a0_0:ByteArray) (l0_1:List Int) (a0_2:Int):Option (Bool):=(Zay.f k a0_0).bind fun t153002=>(if t153002=true then((ZZ.f k l0_1).bind fun t153003=>(if t153003=true then((ZT.f a0_2 0 3).bind fun t153004=>(some t153004)) else(some false))) else(some false))
set_option maxHeartbeats 8000000 in
set_option maxRecDepth 100000 in
theorem Zb8.calls (k:Nat) (a0_0:ByteArray) (A0_1:Option Addr) (c0_1:Nat) (l0_1:List Int) (a0_2:Int) (r:Bool) (w:World) (hr0_1:Kd.C (Kd.int .i64) w A0_1 l0_1.length l0_1) (hc0_1:l0_1.length≤c0_1) (h:Zb8.f k a0_0 l0_1 a0_2=some r) :
  Calls Try.prog 153 #[.agg #[.string a0_0,.slice A0_1 l0_1.length c0_1,.int .i64 a0_2]] w fun e w'=>e=.returned (.bool r)∧Below w.heap.size w w':=by
 have hu116:=Try.underlying116
 have HR0_1:=Za hr0_1;have HC0_1:=Za hc0_1;clear hr0_1 hc0_1
 have HB:=Za (Below.refl w.heap.size w)
 have H:((Zay.f k a0_0).bind fun t153002=>(if t153002=true then((ZZ.f k l0_1).bind fun t153003=>(if t153003=true then((ZT.f a0_2 0 3).bind fun t153004=>(some t153004)) else(some false))) else(some false)))=some r:=h
 clear h
 replace H:=Zh H
 obtain⟨t153002,A20,H⟩:=H
 replace H:(if t153002=true then((ZZ.f k l0_1).bind fun t153003=>(if t153003=true then((ZT.f a0_2 0 3).bind fun t153004=>(some t153004)) else(some false))) else(some false))=some r:=H
 have A2:=Za A20;clear A20
 by_cases c3:t153002=true
 ·subst c3
  have H1:((ZZ.f k l0_1).bind fun t153003=>(if t153003=true then((ZT.f a0_2 0 3).bind fun t153004=>(some t153004)) else(some false)))=some r:=by rw[if_pos rfl] at H;exact H
  clear H
  have H:=H1
  clear H1
  replace H:=Zh H
  obtain⟨t153003,A40,H⟩:=H
  replace H:(if t153003=true then((ZT.f a0_2 0 3).bind fun t153004=>(some t153004)) else(some false))=some r:=H
  have A4:=Za A40;clear A40
  by_cases c5:t153003=true
  ·subst c5
   have H1:((ZT.f a0_2 0 3).bind fun t153004=>(some t153004))=some r:=by rw[if_pos rfl] at H;exact H
   clear H
   have H:=H1
   clear H1
   replace H:=Zh H
   obtain⟨t153004,A60,H⟩:=H
   replace H:(some t153004)=some r:=H
   have A6:=Za A60;clear A60
   obtain rfl:=Zg H
   go_enter Try.func153,Try.ntmps153
   go_wp2_with (first|((with_reducible refine ZG (N:=1) rfl ?_);refine ZE ?hg (N:=1) ?hd (cs:=#[.string a0_0,.slice A0_1 l0_1.length c0_1,.int .i64 a0_2]) (t:=116) ?hr ?_;(case hd=>rfl);(case hg=>rfl);(case hr=>first|(go_simp;done)|(go_simp;rfl));intro gb153001 hg w7 hbox hb;have n0_:=Za (Zv (by repeat(first|(with_reducible first|exact HB.out|apply Zp|apply Zn|apply Zr)|exact HB.out)) hb);have n1_:=Za (hbox);have n2_:=Za ((by rw[hg];exact(Zz (by repeat(first|(with_reducible first|exact HB.out|apply Zp|apply Zn|apply Zr)|exact HB.out))):w.heap.size≤gb153001));have n3_:=Za ((by rw[hg];exact(Zz (by repeat(first|(with_reducible first|exact HB.out|apply Zp|apply Zn|apply Zr)|exact HB.out))):w.heap.size≤gb153001));clear HB;have HB:=n0_;have BK153001:=n1_;have GW153001:=n2_;have GE153001:=n3_;clear n0_ n1_ n2_ n3_;clear hb hbox hg;have hcz8_0:w7.cell? ⟨gb153001,0,none⟩=some (.string a0_0):=(Zm BK153001.out 0).trans rfl;have hcz8_1:w7.cell? ⟨gb153001,1,none⟩=some (.slice A0_1 l0_1.length c0_1):=(Zm BK153001.out 1).trans rfl;have hcz8_2:w7.cell? ⟨gb153001,2,none⟩=some (.int .i64 a0_2):=(Zm BK153001.out 2).trans rfl;have hfz8_0:=Zo BK153001.out 0;have hfz8_1:=Zo BK153001.out 1;have hfz8_2:=Zo BK153001.out 2)|((with_reducible refine ZH (f:=173) rfl ?_);refine ZW (some 5) rfl rfl Try.func173 (by kernel_rfl) rfl #[.string a0_0] rfl (by(try simp only[List.map_toArray,List.map_cons,List.map_nil]);first|done|rfl|(simp only[Zk,Zj];rfl)) ?_;(with_reducible refine(Zay.calls k a0_0 true _ A2.out).mono ?_);rintro e w' ⟨rfl,⟨nd,rfl⟩⟩;refine⟨_,rfl,?_⟩)|(go_at_call 174;(with_reducible refine(ZZ.calls k _ _ l0_1 true _ ?side1 ?side2 A4.out).mono ?_);(case side1=>repeat(first|exact(Zb HR0_1.out (by repeat(first|(with_reducible first|exact HB.out|apply Zp|apply Zn|apply Zr|refine Zq ?_ GE153001.out)|exact HB.out)))|(with_reducible refine Kd.C_alloc ?_ _)|(with_reducible refine Kd.C_drewN ?_ _)|(with_reducible refine Kd.C_drew ?_)));(case side2=>exact HC0_1.out);rintro e w' ⟨rfl,⟨nd,rfl⟩⟩)|(go_at_call 68;(with_reducible refine(ZT.calls a0_2 0 3 t153004 _ A6.out).mono ?_);rintro e w' ⟨rfl,⟨nd,rfl⟩⟩))
   go_ret
   exact⟨by first|rfl|(simp[Zy,Zx] <;> rfl)|(simp[*,Zy,Zx] <;> rfl),by repeat(first|(with_reducible first|exact HB.out|apply Zp|apply Zn|apply Zr|refine Zq ?_ GE153001.out)|exact HB.out)⟩
  ·replace c5:=Bool.eq_false_iff.mpr c5
   subst c5
   have H1:(some false)=some r:=by rw[if_neg (show ¬(false=true) by decide)] at H;exact H
   clear H
   have H:=H1
   clear H1
   obtain rfl:=Zg H
   go_enter Try.func153,Try.ntmps153
   go_wp2_with (first|((with_reducible refine ZG (N:=1) rfl ?_);refine ZE ?hg (N:=1) ?hd (cs:=#[.string a0_0,.slice A0_1 l0_1.length c0_1,.int .i64 a0_2]) (t:=116) ?hr ?_;(case hd=>rfl);(case hg=>rfl);(case hr=>first|(go_simp;done)|(go_simp;rfl));intro gb153001 hg w9 hbox hb;have n0_:=Za (Zv (by repeat(first|(with_reducible first|exact HB.out|apply Zp|apply Zn|apply Zr)|exact HB.out)) hb);have n1_:=Za (hbox);have n2_:=Za ((by rw[hg];exact(Zz (by repeat(first|(with_reducible first|exact HB.out|apply Zp|apply Zn|apply Zr)|exact HB.out))):w.heap.size≤gb153001));have n3_:=Za ((by rw[hg];exact(Zz (by repeat(first|(with_reducible first|exact HB.out|apply Zp|apply Zn|apply Zr)|exact HB.out))):w.heap.size≤gb153001));clear HB;have HB:=n0_;have BK153001:=n1_;have GW153001:=n2_;have GE153001:=n3_;clear n0_ n1_ n2_ n3_;clear hb hbox hg;have hcz10_0:w9.cell? ⟨gb153001,0,none⟩=some (.string a0_0):=(Zm BK153001.out 0).trans rfl;have hcz10_1:w9.cell? ⟨gb153001,1,none⟩=some (.slice A0_1 l0_1.length c0_1):=(Zm BK153001.out 1).trans rfl;have hcz10_2:w9.cell? ⟨gb153001,2,none⟩=some (.int .i64 a0_2):=(Zm BK153001.out 2).trans rfl;have hfz10_0:=Zo BK153001.out 0;have hfz10_1:=Zo BK153001.out 1;have hfz10_2:=Zo BK153001.out 2)|((with_reducible refine ZH (f:=173) rfl ?_);refine ZW (some 5) rfl rfl Try.func173 (by kernel_rfl) rfl #[.string a0_0] rfl (by(try simp only[List.map_toArray,List.map_cons,List.map_nil]);first|done|rfl|(simp only[Zk,Zj];rfl)) ?_;(with_reducible refine(Zay.calls k a0_0 true _ A2.out).mono ?_);rintro e w' ⟨rfl,⟨nd,rfl⟩⟩;refine⟨_,rfl,?_⟩)|(go_at_call 174;(with_reducible refine(ZZ.calls k _ _ l0_1 false _ ?side1 ?side2 A4.out).mono ?_);(case side1=>repeat(first|exact(Zb HR0_1.out (by repeat(first|(with_reducible first|exact HB.out|apply Zp|apply Zn|apply Zr|refine Zq ?_ GE153001.out)|exact HB.out)))|(with_reducible refine Kd.C_alloc ?_ _)|(with_reducible refine Kd.C_drewN ?_ _)|(with_reducible refine Kd.C_drew ?_)));(case side2=>exact HC0_1.out);rintro e w' ⟨rfl,⟨nd,rfl⟩⟩))
   go_ret
   exact⟨by first|rfl|(simp[Zy,Zx] <;> rfl)|(simp[*,Zy,Zx] <;> rfl),by repeat(first|(with_reducible first|exact HB.out|apply Zp|apply Zn|apply Zr|refine Zq ?_ GE153001.out)|exact HB.out)⟩
 ·replace c3:=Bool.eq_false_iff.mpr c3
  subst c3
  have H1:(some false)=some r:=by rw[if_neg (show ¬(false=true) by decide)] at H;exact H
  clear H
  have H:=H1
  clear H1
  obtain rfl:=Zg H
  go_enter Try.func153,Try.ntmps153
  go_wp2_with (first|((with_reducible refine ZG (N:=1) rfl ?_);refine ZE ?hg (N:=1) ?hd (cs:=#[.string a0_0,.slice A0_1 l0_1.length c0_1,.int .i64 a0_2]) (t:=116) ?hr ?_;(case hd=>rfl);(case hg=>rfl);(case hr=>first|(go_simp;done)|(go_simp;rfl));intro gb153001 hg w11 hbox hb;have n0_:=Za (Zv (by repeat(first|(with_reducible first|exact HB.out|apply Zp|apply Zn|apply Zr)|exact HB.out)) hb);have n1_:=Za (hbox);have n2_:=Za ((by rw[hg];exact(Zz (by repeat(first|(with_reducible first|exact HB.out|apply Zp|apply Zn|apply Zr)|exact HB.out))):w.heap.size≤gb153001));have n3_:=Za ((by rw[hg];exact(Zz (by repeat(first|(with_reducible first|exact HB.out|apply Zp|apply Zn|apply Zr)|exact HB.out))):w.heap.size≤gb153001));clear HB;have HB:=n0_;have BK153001:=n1_;have GW153001:=n2_;have GE153001:=n3_;clear n0_ n1_ n2_ n3_;clear hb hbox hg;have hcz12_0:w11.cell? ⟨gb153001,0,none⟩=some (.string a0_0):=(Zm BK153001.out 0).trans rfl;have hcz12_1:w11.cell? ⟨gb153001,1,none⟩=some (.slice A0_1 l0_1.length c0_1):=(Zm BK153001.out 1).trans rfl;have hcz12_2:w11.cell? ⟨gb153001,2,none⟩=some (.int .i64 a0_2):=(Zm BK153001.out 2).trans rfl;have hfz12_0:=Zo BK153001.out 0;have hfz12_1:=Zo BK153001.out 1;have hfz12_2:=Zo BK153001.out 2)|((with_reducible refine ZH (f:=173) rfl ?_);refine ZW (some 5) rfl rfl Try.func173 (by kernel_rfl) rfl #[.string a0_0] rfl (by(try simp only[List.map_toArray,List.map_cons,List.map_nil]);first|done|rfl|(simp only[Zk,Zj];rfl)) ?_;(with_reducible refine(Zay.calls k a0_0 false _ A2.out).mono ?_);rintro e w' ⟨rfl,⟨nd,rfl⟩⟩;refine⟨_,rfl,?_⟩))
  go_ret
  exact⟨by first|rfl|(simp[Zy,Zx] <;> rfl)|(simp[*,Zy,Zx] <;> rfl),by repeat(first|(with_reducible first|exact HB.out|apply Zp|apply Zn|apply Zr|refine Zq ?_ GE153001.out)|exact HB.out)⟩
end Go.Proofs.Ytodfnelilhjoeaa.Pr
