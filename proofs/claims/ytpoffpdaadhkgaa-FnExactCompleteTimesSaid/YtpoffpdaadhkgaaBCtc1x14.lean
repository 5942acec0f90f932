/- The texts of one claim, put together by a program of this session. -/
import Derived.Test.YtpoffpdaadhkgaaBCtc1x1
import Derived.Test.YtpoffpdaadhkgaaBCtc1x10
import Derived.Test.YtpoffpdaadhkgaaBCtc1x13
import Derived.Test.YtpoffpdaadhkgaaBCtc1x9
namespace Go.Proofs.Ytpoffpdaadhkgaa.Pr
open Go.RowKit Go.Proofs.YtpoffpdaadhkgaaW.PrintWords Go.Proofs.YtpoffpdaadhkgaaW.PrintLast Go.Proofs.YtpoffpdaadhkgaaW.PrintMore
attribute [local go_sem] Zaa Z8 Zak Zaj Z5 Z4 Z9 Z7
set_option linter.unusedVariables false
set_option linter.unusedSimpArgs false
def Zbn.f (a0:Int):Option (Int):=if a0<(-1000000) then(some (-1000000)) else(if a0 > 1000000 then(some 1000000) else(some a0))
set_option maxHeartbeats 8000000 in
set_option maxRecDepth 100000 in
theorem Zbn.calls (a0:Int) (r:Int) (w:World) (h:Zbn.f a0=some r) :
  Calls Try.prog 171 #[.int .i64 a0] w fun e w'=>e=.returned (.int .i64 r)∧ZZ w w':=by
 have H:(if a0<(-1000000) then(some (-1000000)) else(if a0 > 1000000 then(some 1000000) else(some a0)))=some r:=h
 clear h
 by_cases c2:a0<(-1000000)
 ·rw[if_pos c2] at H
  have c2b0:decide (a0<(-1000000))=true:=Ze c2
  clear c2
  obtain rfl:=Zg H
  go_enter Try.func171,Try.ntmps171
  go_wp2
  go_ret
  exact⟨by first|rfl|(simp;done)|(simp[*];done),by repeat(first|exact ZZ.refl _|apply ZZ.step)⟩
 ·rw[if_neg c2] at H
  have c2b0:decide (a0<(-1000000))=false:=Zf c2
  clear c2
  by_cases c3:a0 > 1000000
  ·rw[if_pos c3] at H
   have c3b0:decide (1000000<a0)=true:=Ze c3
   clear c3
   obtain rfl:=Zg H
   go_enter Try.func171,Try.ntmps171
   go_wp2
   go_ret
   exact⟨by first|rfl|(simp;done)|(simp[*];done),by repeat(first|exact ZZ.refl _|apply ZZ.step)⟩
  ·rw[if_neg c3] at H
   have c3b0:decide (1000000<a0)=false:=Zf c3
   clear c3
   obtain rfl:=Zg H
   go_enter Try.func171,Try.ntmps171
   go_wp2
   go_ret
   exact⟨by first|rfl|(simp;done)|(simp[*];done),by repeat(first|exact ZZ.refl _|apply ZZ.step)⟩
mutual
def ZM.l0:Nat→Int→Int→List (S148)→Int→List Int→Option (Int×List Int×Bool)
 | 0,_,_,_,_,_=>none
 | k+1,x5,x134002000,x134002001,x134005000,x134005001=>if x5<x134002000 then((Za5.f k x134002000 x134002001 x5).bind fun bt134005=>(if bt134005.2=true then(ZM.l1 k x5 bt134005.1 (bt134005.1.length:Int) 0 x134002000 x134002001 x134005000 x134005001) else(some (0,([]:List Int),false)))) else(some (x134005000,x134005001,true))
def ZM.l1:Nat→Int→List Int→Int→Int→Int→List (S148)→Int→List Int→Option (Int×List Int×Bool)
 | 0,_,_,_,_,_,_,_,_=>none
 | k+1,x5,x32,x33,x34,x134002000,x134002001,x134005000,x134005001=>if x34<x33 then(if 0≤x34 then(if x34<(x32.length:Int) then((Zbn.f (rd x32 x34)).bind fun t134010=>(if x134005001.length<17592186044416 then(ZM.l1 k x5 x32 x33 (wrap64 (x34+1)) x134002000 x134002001 x134005000 (x134005001 ++ [t134010])) else(none))) else(none)) else(none)) else(ZM.l0 k (wrap64 (x5+1)) x134002000 x134002001 x134005000 x134005001)
end
def ZM.f (k:Nat) (a0_0:Int) (l0_1:List (S148)):Option (Int×List Int×Bool):=(ZW.f k a0_0 l0_1).bind fun t134003=>(if t134003=true then(ZM.l0 k 0 a0_0 l0_1 a0_0 ([]:List Int)) else(some (0,([]:List Int),false)))
def ZM.T13:Bool×List (List Nat×List Nat):=(true,[([],[]),([0],[0]),([],[]),([2],[2]),([3],[3]),([1,4,3],[1,4]),([0,1,2,3,4,5],[]),([6,5,5,0,1,2,3,4,5],[5,6])])
def ZM.B13:List Nat:=[0,1,0,4,12,31,63,127]
theorem ZM.tab13:rtab .any (opsOf Try.f134 13)=ZM.T13:=by kernel_rfl
theorem ZM.bits13:ZbC ZM.T13.2 ZM.B13=true:=by kernel_rfl
set_option maxHeartbeats 8000000 in
set_option maxRecDepth 100000 in
theorem ZM.calls (k:Nat) (a0_0:Int) (A0_1:Option Addr) (c0_1:Nat) (l0_1:List (S148)) (r1:Int) (r2:List Int) (r3:Bool) (w:World) (hr0_1:Kd.C k148 w A0_1 l0_1.length l0_1) (hc0_1:l0_1.length≤c0_1) (h:ZM.f k a0_0 l0_1=some (r1,r2,r3)) :
  Calls Try.prog 134 #[.agg #[.int .i64 a0_0,.slice A0_1 l0_1.length c0_1]] w fun e w'=>∃v1_:Value,e=.returned (.tuple #[.agg #[.int .i64 r1,v1_],.bool r3])∧Kd.R (Kd.int .i64) 3 w' w.heap.size (fun _=>True) v1_ r2∧Below w.heap.size w w':=by
 have hu95:=Try.underlying95
 have hu90:=Try.underlying90
 have HR0_1:=Za hr0_1;have HC0_1:=Za hc0_1;clear hr0_1 hc0_1
 have HB:=Za (Below.refl w.heap.size w)
 have H:((ZW.f k a0_0 l0_1).bind fun t134003=>(if t134003=true then(ZM.l0 k 0 a0_0 l0_1 a0_0 ([]:List Int)) else(some (0,([]:List Int),false))))=some (r1,r2,r3):=h
 clear h
 replace H:=Zh H
 obtain⟨t134003,A20,H⟩:=H
 replace H:(if t134003=true then(ZM.l0 k 0 a0_0 l0_1 a0_0 ([]:List Int)) else(some (0,([]:List Int),false)))=some (r1,r2,r3):=H
 have A2:=Za A20;clear A20
 by_cases c3:t134003=true
 ·subst c3
  have H1:(ZM.l0 k 0 a0_0 l0_1 a0_0 ([]:List Int))=some (r1,r2,r3):=by rw[if_pos rfl] at H;exact H
  clear H
  have H:=H1
  clear H1
  have H':=Za H
  clear H
  go_enter Try.func134,Try.ntmps134
  go_wp2_with (first|((with_reducible refine ZC (N:=1) rfl ?_);refine ZE ?hg (N:=1) ?hd (cs:=#[.int .i64 a0_0,.slice A0_1 l0_1.length c0_1]) (t:=95) ?hr ?_;(case hd=>rfl);(case hg=>rfl);(case hr=>first|(go_simp;done)|(go_simp;rfl));intro gb134001 hg w4 hbox hb;have n0_:=Za (Zy (by repeat(first|(with_reducible first|exact HB.out|apply Zq|apply Zm|apply Zs)|exact HB.out)) hb);have n1_:=Za (hbox);have n2_:=Za ((by rw[hg];exact(Zv (by repeat(first|(with_reducible first|exact HB.out|apply Zq|apply Zm|apply Zs)|exact HB.out))):w.heap.size≤gb134001));have n3_:=Za ((by rw[hg];exact(Zv (by repeat(first|(with_reducible first|exact HB.out|apply Zq|apply Zm|apply Zs)|exact HB.out))):w.heap.size≤gb134001));clear HB;have HB:=n0_;have BK134001:=n1_;have GW134001:=n2_;have GE134001:=n3_;clear n0_ n1_ n2_ n3_;clear hb hbox hg)|((with_reducible refine ZC (N:=2) rfl ?_);refine ZE ?hg (N:=2) ?hd (cs:=#[.int .i64 0,.slice none 0 0]) (t:=90) ?hr ?_;(case hd=>rfl);(case hg=>rfl);(case hr=>first|(go_simp;done)|(go_simp;rfl));intro gb134002 hg w5 hbox hb;have n0_:=Za (Zx (g:=gb134001) (o:=.cells #[.int .i64 a0_0,.slice A0_1 l0_1.length c0_1] 95 (0,0)) (by(with_reducible repeat(first|refine Zo ?_ _|refine Zr ?_|refine Zn ?_ _));exact BK134001.out) hb);have n1_:=Za (Zy (by repeat(first|(with_reducible first|exact HB.out|apply Zq|apply Zm|apply Zs|refine Zp ?_ GE134001.out)|exact HB.out)) hb);have n2_:=Za (hbox);have n3_:=Za ((by rw[hg];exact(Zv (by repeat(first|(with_reducible first|exact HB.out|apply Zq|apply Zm|apply Zs|refine Zp ?_ GE134001.out)|exact HB.out))):w.heap.size≤gb134002));have n4_:=Za ((by rw[hg];exact(Zv (by repeat(first|(with_reducible first|exact HB.out|apply Zq|apply Zm|apply Zs|refine Zp ?_ GE134001.out)|exact HB.out))):w.heap.size≤gb134002));have n5_:=Za ((by rw[hg];exact Nat.ne_of_lt (ZB (g:=gb134001) (o:=.cells #[.int .i64 a0_0,.slice A0_1 l0_1.length c0_1] 95 (0,0)) (by(with_reducible repeat(first|refine Zo ?_ _|refine Zr ?_|refine Zn ?_ _));exact BK134001.out)):gb134001≠gb134002));have n6_:=Za ((by rw[hg];exact Nat.ne_of_gt (ZB (g:=gb134001) (o:=.cells #[.int .i64 a0_0,.slice A0_1 l0_1.length c0_1] 95 (0,0)) (by(with_reducible repeat(first|refine Zo ?_ _|refine Zr ?_|refine Zn ?_ _));exact BK134001.out)):gb134002≠gb134001));clear BK134001;clear HB;have BK134001:=n0_;have HB:=n1_;have BK134002:=n2_;have GW134002:=n3_;have GE134002:=n4_;have NB134001_134002:=n5_;have NB134002_134001:=n6_;clear n0_ n1_ n2_ n3_ n4_ n5_ n6_;clear hb hbox hg;have hnb6:=NB134001_134002.out;have hnc6:=NB134002_134001.out;have hcz7_0:w5.cell? ⟨gb134001,0,none⟩=some (.int .i64 a0_0):=(Zu BK134001.out 0).trans rfl;have hcz7_1:w5.cell? ⟨gb134001,1,none⟩=some (.slice A0_1 l0_1.length c0_1):=(Zu BK134001.out 1).trans rfl;have hfz7_0:=Zt BK134001.out 0;have hfz7_1:=Zt BK134001.out 1)|((with_reducible refine ZG (f:=166) rfl ?_);refine ZV (some 11) rfl rfl Try.func166 (by kernel_rfl) rfl #[.agg #[.int .i64 a0_0,.slice A0_1 l0_1.length c0_1]] rfl (by(try simp only[List.map_toArray,List.map_cons,List.map_nil]);first|done|rfl|(simp only[Zk,Zj];rfl)) ?_;(with_reducible refine(ZW.calls k a0_0 _ _ l0_1 true _ ?side1 ?side2 A2.out).mono ?_);(case side1=>repeat(first|exact(Zb HR0_1.out HB.out)|(with_reducible refine Kd.C_alloc ?_ _)|(with_reducible refine Kd.C_drewN ?_ _)|(with_reducible refine Kd.C_drew ?_)));(case side2=>exact HC0_1.out);rintro e w8 ⟨rfl,hb⟩;refine⟨_,rfl,?_⟩;have n0_:=Za (Zx (g:=gb134001) (o:=.cells #[.int .i64 a0_0,.slice A0_1 l0_1.length c0_1] 95 (0,0)) (by(with_reducible repeat(first|refine Zo ?_ _|refine Zr ?_|refine Zn ?_ _));exact BK134001.out) hb);have n1_:=Za (Zx (g:=gb134002) (o:=.cells #[.int .i64 0,.slice none 0 0] 90 (0,0)) (by(with_reducible repeat(first|refine Zo ?_ _|refine Zr ?_|refine Zn ?_ _));exact BK134002.out) hb);have n2_:=Za (Zy (by repeat(first|(with_reducible first|exact HB.out|apply Zq|apply Zm|apply Zs|refine Zp ?_ GE134001.out|refine Zp ?_ GE134002.out)|exact HB.out)) hb);clear BK134001;clear BK134002;clear HB;have BK134001:=n0_;have BK134002:=n1_;have HB:=n2_;clear n0_ n1_ n2_;(try clear hb);(try clear hb2);(try clear hk);(try clear hi);have hcz9_0:w8.cell? ⟨gb134001,0,none⟩=some (.int .i64 a0_0):=(Zu BK134001.out 0).trans rfl;have hcz9_1:w8.cell? ⟨gb134001,1,none⟩=some (.slice A0_1 l0_1.length c0_1):=(Zu BK134001.out 1).trans rfl;have hfz9_0:=Zt BK134001.out 0;have hfz9_1:=Zt BK134001.out 1)|((with_reducible refine ZC (N:=4) rfl ?_);refine ZE ?hg (N:=4) ?hd (cs:=#[.int .i64 0,.slice none 0 0]) (t:=90) ?hr ?_;(case hd=>rfl);(case hg=>rfl);(case hr=>first|(go_simp;done)|(go_simp;rfl));intro gb134004 hg w10 hbox hb;have n0_:=Za (Zx (g:=gb134001) (o:=.cells #[.int .i64 a0_0,.slice A0_1 l0_1.length c0_1] 95 (0,0)) (by(with_reducible repeat(first|refine Zo ?_ _|refine Zr ?_|refine Zn ?_ _));exact BK134001.out) hb);have n1_:=Za (Zx (g:=gb134002) (o:=.cells #[.int .i64 0,.slice none 0 0] 90 (0,0)) (by(with_reducible repeat(first|refine Zo ?_ _|refine Zr ?_|refine Zn ?_ _));exact BK134002.out) hb);have n2_:=Za (Zy (by repeat(first|(with_reducible first|exact HB.out|apply Zq|apply Zm|apply Zs|refine Zp ?_ GE134001.out|refine Zp ?_ GE134002.out)|exact HB.out)) hb);have n3_:=Za (hbox);have n4_:=Za ((by rw[hg];exact(Zv (by repeat(first|(with_reducible first|exact HB.out|apply Zq|apply Zm|apply Zs|refine Zp ?_ GE134001.out|refine Zp ?_ GE134002.out)|exact HB.out))):w.heap.size≤gb134004));have n5_:=Za ((by rw[hg];exact(Zv (by repeat(first|(with_reducible first|exact HB.out|apply Zq|apply Zm|apply Zs|refine Zp ?_ GE134001.out|refine Zp ?_ GE134002.out)|exact HB.out))):w.heap.size≤gb134004));have n6_:=Za ((by rw[hg];exact Nat.ne_of_lt (ZB (g:=gb134001) (o:=.cells #[.int .i64 a0_0,.slice A0_1 l0_1.length c0_1] 95 (0,0)) (by(with_reducible repeat(first|refine Zo ?_ _|refine Zr ?_|refine Zn ?_ _));exact BK134001.out)):gb134001≠gb134004));have n7_:=Za ((by rw[hg];exact Nat.ne_of_gt (ZB (g:=gb134001) (o:=.cells #[.int .i64 a0_0,.slice A0_1 l0_1.length c0_1] 95 (0,0)) (by(with_reducible repeat(first|refine Zo ?_ _|refine Zr ?_|refine Zn ?_ _));exact BK134001.out)):gb134004≠gb134001));have n8_:=Za ((by rw[hg];exact Nat.ne_of_lt (ZB (g:=gb134002) (o:=.cells #[.int .i64 0,.slice none 0 0] 90 (0,0)) (by(with_reducible repeat(first|refine Zo ?_ _|refine Zr ?_|refine Zn ?_ _));exact BK134002.out)):gb134002≠gb134004));have n9_:=Za ((by rw[hg];exact Nat.ne_of_gt (ZB (g:=gb134002) (o:=.cells #[.int .i64 0,.slice none 0 0] 90 (0,0)) (by(with_reducible repeat(first|refine Zo ?_ _|refine Zr ?_|refine Zn ?_ _));exact BK134002.out)):gb134004≠gb134002));clear BK134001;clear BK134002;clear HB;have BK134001:=n0_;have BK134002:=n1_;have HB:=n2_;have BK134004:=n3_;have GW134004:=n4_;have GE134004:=n5_;have NB134001_134004:=n6_;have NB134004_134001:=n7_;have NB134002_134004:=n8_;have NB134004_134002:=n9_;clear n0_ n1_ n2_ n3_ n4_ n5_ n6_ n7_ n8_ n9_;clear hb hbox hg;have hnb11:=NB134004_134001.out;have hnc11:=NB134001_134004.out;have hnb12:=NB134004_134002.out;have hnc12:=NB134002_134004.out;have hcz13_0:w10.cell? ⟨gb134004,0,none⟩=some (.int .i64 0):=(Zu BK134004.out 0).trans rfl;have hcz13_1:w10.cell? ⟨gb134004,1,none⟩=some (.slice none 0 0):=(Zu BK134004.out 1).trans rfl;have hfz13_0:=Zt BK134004.out 0;have hfz13_1:=Zt BK134004.out 1))
  go_loopg [5] k (fun kq v5 w'=>∃(x5_1:Int) (x134003000_1:Int) (x134005001_1:List Int) (u134005001:Value),v5=.int .i64 x5_1∧Aside0 (ZM.l0 kq x5_1 a0_0 l0_1 a0_0 x134005001_1=some (r1,r2,r3))∧Aside0 (kq≤k)∧Aside0 (Kd.R (Kd.int .i64) 3 w' w.heap.size (fun _=>True) u134005001 x134005001_1)∧Aside0 (w'.heap[gb134001]? = some (.cells #[.int .i64 a0_0,(.slice A0_1 l0_1.length c0_1)] 95 (0,0)))∧Aside0 (w'.heap[gb134002]? = some (.cells #[.int .i64 x134003000_1,(.slice none 0 0)] 90 (0,0)))∧Aside0 (w'.heap[gb134004]? = some (.cells #[.int .i64 a0_0,u134005001] 90 (0,0)))∧Aside0 (Below w.heap.size w w'))
  case atStart=>exact⟨(0),(0),(([]:List Int)),(.slice none 0 0),(by first|rfl|(simp;done)|(simp[*];done)),H',⟨Nat.le_refl _⟩,⟨by first|exact Kd.R_nil _ _ _ _ _|exact Kd.N_nil _ _ _ _ _|exact Kd.V_nil _ _ _ _ _|exact Kd.Q_nil _ _ _ _ _|exact Kd.S_nil _ _ _ _ _⟩,⟨by(with_reducible repeat(first|refine Zo ?_ _|refine Zr ?_|refine Zn ?_ _));refine ZD ?_ NB134001_134004.out _;(with_reducible repeat(first|refine Zo ?_ _|refine Zr ?_|refine Zn ?_ _));refine ZD ?_ NB134001_134004.out _;(with_reducible repeat(first|refine Zo ?_ _|refine Zr ?_|refine Zn ?_ _));exact BK134001.out⟩,⟨by(with_reducible repeat(first|refine Zo ?_ _|refine Zr ?_|refine Zn ?_ _));refine ZD ?_ NB134002_134004.out _;(with_reducible repeat(first|refine Zo ?_ _|refine Zr ?_|refine Zn ?_ _));refine ZD ?_ NB134002_134004.out _;(with_reducible repeat(first|refine Zo ?_ _|refine Zr ?_|refine Zn ?_ _));exact BK134002.out⟩,⟨by(with_reducible repeat(first|refine Zo ?_ _|refine Zr ?_|refine Zn ?_ _));refine ZF (cs:=#[.int .i64 a0_0,.slice none 0 0]) ?_ 1 _ rfl;(with_reducible repeat(first|refine Zo ?_ _|refine Zr ?_|refine Zn ?_ _));refine ZF (cs:=#[.int .i64 0,.slice none 0 0]) ?_ 0 _ rfl;(with_reducible repeat(first|refine Zo ?_ _|refine Zr ?_|refine Zn ?_ _));exact BK134004.out⟩,⟨by repeat(first|(with_reducible first|exact HB.out|apply Zq|apply Zm|apply Zs|refine Zp ?_ GE134001.out|refine Zp ?_ GE134002.out|refine Zp ?_ GE134004.out)|exact HB.out)⟩⟩
  case round=>
   clear H'
   try clear c1
   try clear p2
   try clear c3
   try clear c6
   try clear c11
   try clear c12
   try clear c13
   try clear hcz13_0
   try clear hcz13_1
   try clear hcz7_0
   try clear hcz7_1
   try clear hcz9_0
   try clear hcz9_1
   try clear hfz13_0
   try clear hfz13_1
   try clear hfz7_0
   try clear hfz7_1
   try clear hfz9_0
   try clear hfz9_1
   obtain⟨x5_1,x134003000_1,x134005001_1,u134005001,rfl,HA,HK1,HO_134005001,BK134001,BK134002,BK134004,HB⟩:=hrel
   cases gk with
   | zero=>exact absurd HA.out (by simp[ZM.l0])
   | succ k1=>
    have H:=HA.out
    clear HA
    simp only[ZM.l0] at H
    by_cases c14:x5_1<a0_0
    ·rw[if_pos c14] at H
     have c14b0:decide (x5_1<a0_0)=true:=Ze c14
     clear c14
     replace H:=Zh H
     obtain⟨⟨t134005,t134008⟩,A150,H⟩:=H
     replace H:(if t134008=true then(ZM.l1 k1 x5_1 t134005 (t134005.length:Int) 0 a0_0 l0_1 a0_0 x134005001_1) else(some (0,([]:List Int),false)))=some (r1,r2,r3):=H
     have A15:=Za A150;clear A150
     by_cases c16:t134008=true
     ·subst c16
      have H1:(ZM.l1 k1 x5_1 t134005 (t134005.length:Int) 0 a0_0 l0_1 a0_0 x134005001_1)=some (r1,r2,r3):=by rw[if_pos rfl] at H;exact H
      clear H
      have H:=H1
      clear H1
      have H':=Za H
      clear H
      have hnb17:=NB134001_134002.out
      have hnc17:=NB134002_134001.out
      have hnb18:=NB134001_134004.out
      have hnc18:=NB134004_134001.out
      have hcz19_0:wr.cell? ⟨gb134001,0,none⟩=some (.int .i64 a0_0):=(Zu BK134001.out 0).trans rfl
      have hcz19_1:wr.cell? ⟨gb134001,1,none⟩=some (.slice A0_1 l0_1.length c0_1):=(Zu BK134001.out 1).trans rfl
      have hfz19_0:=Zt BK134001.out 0
      have hfz19_1:=Zt BK134001.out 1
      go_wp2_with (first|((with_reducible refine ZG (f:=170) rfl ?_);refine ZV (some 26) rfl rfl Try.func170 (by kernel_rfl) rfl #[.agg #[.int .i64 a0_0,.slice A0_1 l0_1.length c0_1],.int .i64 x5_1] rfl (by(try simp only[List.map_toArray,List.map_cons,List.map_nil]);first|done|rfl|(simp only[Zk,Zj];rfl)) ?_;(with_reducible refine(Za5.calls k1 a0_0 _ _ l0_1 x5_1 t134005 true _ ?side1 ?side2 A15.out).mono ?_);(case side1=>repeat(first|exact(Zb HR0_1.out HB.out)|(with_reducible refine Kd.C_alloc ?_ _)|(with_reducible refine Kd.C_drewN ?_ _)|(with_reducible refine Kd.C_drew ?_)));(case side2=>exact HC0_1.out);rintro e w20 ⟨v134006,rfl,ho0,hb⟩;refine⟨_,rfl,?_⟩;have n0_:=Za (Kd.R_elder' (by(with_reducible repeat(first|apply Kd.R_alloc|apply Kd.R_drewN|apply Kd.R_drew));exact HO_134005001.out) (Kd.R_base ho0) hb);have n1_:=Za (Kd.R_lower (Kd.R_new' ho0 (Kd.R_lt (by(with_reducible repeat(first|apply Kd.R_alloc|apply Kd.R_drewN|apply Kd.R_drew));exact HO_134005001.out))) (Zv (by repeat(first|(with_reducible first|exact HB.out|apply Zq|apply Zm|apply Zs|refine Zp ?_ GE134001.out|refine Zp ?_ GE134002.out|refine Zp ?_ GE134004.out)|exact HB.out))));have n2_:=Za (Zx (g:=gb134001) (o:=.cells #[.int .i64 a0_0,.slice A0_1 l0_1.length c0_1] 95 (0,0)) (by(with_reducible repeat(first|refine Zo ?_ _|refine Zr ?_|refine Zn ?_ _));exact BK134001.out) hb);have n3_:=Za (Zx (g:=gb134002) (o:=.cells #[.int .i64 x134003000_1,.slice none 0 0] 90 (0,0)) (by(with_reducible repeat(first|refine Zo ?_ _|refine Zr ?_|refine Zn ?_ _));exact BK134002.out) hb);have n4_:=Za (Zx (g:=gb134004) (o:=.cells #[.int .i64 a0_0,u134005001] 90 (0,0)) (by(with_reducible repeat(first|refine Zo ?_ _|refine Zr ?_|refine Zn ?_ _));exact BK134004.out) hb);have n5_:=Za (Zy (by repeat(first|(with_reducible first|exact HB.out|apply Zq|apply Zm|apply Zs|refine Zp ?_ GE134001.out|refine Zp ?_ GE134002.out|refine Zp ?_ GE134004.out)|exact HB.out)) hb);clear HO_134005001;clear BK134001;clear BK134002;clear BK134004;clear HB;have HO_134005001:=n0_;have HO134007:=n1_;have BK134001:=n2_;have BK134002:=n3_;have BK134004:=n4_;have HB:=n5_;clear n0_ n1_ n2_ n3_ n4_ n5_;(try clear hb);(try clear hb2);(try clear hk);(try clear hi);(try clear ho0);obtain⟨Ao21,co21,eo21⟩:=Kd.R_slice HO134007.out;subst eo21))
      go_loopg [34] k1 (fun kq v34 w'=>∃(x34_2:Int) (x134005001_2:List Int) (u134005001:Value),v34=.int .i64 x34_2∧Aside0 (ZM.l1 kq x5_1 t134005 (t134005.length:Int) x34_2 a0_0 l0_1 a0_0 x134005001_2=some (r1,r2,r3))∧Aside0 (kq≤k1)∧Aside0 (Kd.R (Kd.int .i64) 3 w' w.heap.size (fun k_=>some k_≠(u134005001:Value).ownBlock) (.slice Ao21 t134005.length co21) t134005)∧Aside0 (Kd.R (Kd.int .i64) 3 w' w.heap.size (fun k_=>some k_≠((.slice Ao21 t134005.length co21):Value).ownBlock) u134005001 x134005001_2)∧Aside0 (w'.heap[gb134001]? = some (.cells #[.int .i64 a0_0,(.slice A0_1 l0_1.length c0_1)] 95 (0,0)))∧Aside0 (w'.heap[gb134002]? = some (.cells #[.int .i64 x134003000_1,(.slice none 0 0)] 90 (0,0)))∧Aside0 (w'.heap[gb134004]? = some (.cells #[.int .i64 a0_0,u134005001] 90 (0,0)))∧Aside0 (Below w.heap.size w w'))
      case atStart=>exact⟨(0),(x134005001_1),(u134005001),(by first|rfl|(simp;done)|(simp[*];done)),H',⟨Nat.le_refl _⟩,⟨by(with_reducible repeat(first|apply Kd.R_alloc|apply Kd.R_drewN|apply Kd.R_drew));exact Kd.R_mono HO134007.out (fun _ hk=>hk.2)⟩,⟨by(with_reducible repeat(first|apply Kd.R_alloc|apply Kd.R_drewN|apply Kd.R_drew));exact Kd.R_mono HO_134005001.out (fun _ hk=>hk.2)⟩,⟨by(with_reducible repeat(first|refine Zo ?_ _|refine Zr ?_|refine Zn ?_ _));exact BK134001.out⟩,⟨by(with_reducible repeat(first|refine Zo ?_ _|refine Zr ?_|refine Zn ?_ _));exact BK134002.out⟩,⟨by(with_reducible repeat(first|refine Zo ?_ _|refine Zr ?_|refine Zn ?_ _));exact BK134004.out⟩,⟨by repeat(first|(with_reducible first|exact HB.out|apply Zq|apply Zm|apply Zs|refine Zp ?_ GE134001.out|refine Zp ?_ GE134002.out|refine Zp ?_ GE134004.out)|exact HB.out)⟩⟩
      case round=>
       clear H'
       try clear c1
       try clear p2
       try clear c3
       try clear c6
       try clear c11
       try clear c12
       try clear c13
       try clear c14
       try clear c14b0
       try clear c16
       try clear c17
       try clear c18
       try clear hcz13_0
       try clear hcz13_1
       try clear hcz19_0
       try clear hcz19_1
       try clear hcz7_0
       try clear hcz7_1
       try clear hcz9_0
       try clear hcz9_1
       try clear hfz13_0
       try clear hfz13_1
       try clear hfz19_0
       try clear hfz19_1
       try clear hfz7_0
       try clear hfz7_1
       try clear hfz9_0
       try clear hfz9_1
       try clear p2
       obtain⟨x34_2,x134005001_2,u134005001,rfl,HA,HK2,HO_32,HO_134005001,BK134001,BK134002,BK134004,HB⟩:=hrel
       cases gk with
       | zero=>exact absurd HA.out (by simp[ZM.l1])
       | succ k2=>
        have H:=HA.out
        clear HA
        simp only[ZM.l1] at H
        by_cases c22:x34_2<(t134005.length:Int)
        ·rw[if_pos c22] at H
         have c22b0:decide (x34_2<(t134005.length:Int))=true:=Ze c22
         clear c22
         by_cases c23:0≤x34_2
         ·rw[if_pos c23] at H
          have c23b0:decide (0≤x34_2)=true:=Ze c23
          clear c23
          by_cases c24:x34_2<(t134005.length:Int)
          ·rw[if_pos c24] at H
           have c24b0:decide (x34_2<(t134005.length:Int))=true:=Ze c24
           clear c24
           replace H:=Zh H
           obtain⟨t134010,A250,H⟩:=H
           replace H:(if x134005001_2.length<17592186044416 then(ZM.l1 k2 x5_1 t134005 (t134005.length:Int) (wrap64 (x34_2+1)) a0_0 l0_1 a0_0 (x134005001_2 ++ [t134010])) else(none))=some (r1,r2,r3):=H
           have A25:=Za A250;clear A250
           by_cases c26:x134005001_2.length<17592186044416
           ·rw[if_pos c26] at H
            have LMc26:=Za c26;clear c26
            obtain⟨y134011,hy134011⟩:∃y_:List Int,y_=(x134005001_2 ++ [t134010]):=⟨_,rfl⟩
            replace H:(ZM.l1 k2 x5_1 t134005 (t134005.length:Int) (wrap64 (x34_2+1)) a0_0 l0_1 a0_0 y134011)=some (r1,r2,r3):=by first|(rw[hy134011];with_reducible exact H)|(have H2_:=(Zi _ _).symm.trans H;rw[hy134011];with_reducible exact H2_)|(have H2_:=(Zi _ _).symm.trans H;with_reducible exact H2_)|with_reducible exact H|(rw[hy134011];exact H)|exact H
            have Ny134011:=Za hy134011;clear hy134011
            have H':=Za H
            clear H
            have p134009:0≤(x34_2:Int):=Zd (by first|(with_reducible assumption)|assumption)
            have q134009:x34_2<(t134005.length:Int):=Zd (by first|(with_reducible assumption)|assumption)
            obtain⟨ad134009,e134009,hx134009_0⟩:=Kd.at_int (Kd.R_reads' HO_32.out).2.2 x34_2 p134009 q134009
            cases e134009
            replace p134009:=eq_true p134009
            replace q134009:=eq_true q134009
            try go_wp2
            have n0_:=Za (Kd.R_drew HO_32.out)
            have n1_:=Za (Kd.R_drew HO_134005001.out)
            have n2_:=Za (Zr BK134001.out)
            have n3_:=Za (Zr BK134002.out)
            have n4_:=Za (Zr BK134004.out)
            have n5_:=Za (Zs HB.out)
            clear HO_32 HO_134005001 BK134001 BK134002 BK134004 HB;have HO_32:=n0_;have HO_134005001:=n1_;have BK134001:=n2_;have BK134002:=n3_;have BK134004:=n4_;have HB:=n5_;clear n0_ n1_ n2_ n3_ n4_ n5_
            refine ZbU (n:=8) (S:=fun w'=>w'.cell? ⟨gb134004,0,none⟩=some (.int .i64 a0_0)∧w'.cell? ⟨gb134004,1,none⟩=some (u134005001)) (ds:=[7]) #[false,false,false,false,false,false,false,false] (by kernel_rfl) rfl rfl ⟨(Zu BK134004.out 0).trans rfl,(Zu BK134004.out 1).trans rfl⟩ (fun hHeld=>?_);refine ZbE ZM.tab13 ZM.bits13 (fun HT_ HW_=>?_)
            generalize wr.drew=w27 at HO_32 HO_134005001 BK134001 BK134002 BK134004 HB hHeld ⊢
            refine Zaf (i:=0) (N:=some 38) (v:=?_) (a':=?_) #[true,false,false,false,false,false,false,false] rfl rfl (Zac HT_.out (by kernel_rfl)) (fun _ _ _ h=>h) (Or.inl ⟨by rfl,?_⟩) ?_ ?_
            rotate_left
            ·intro w'
             go_simp
             with_reducible rfl
            rotate_left
            ·simp only[Act.put,List.setIfInBounds_toArray,List.set_cons_zero,List.set_cons_succ,ZO,ZP]
             rfl
            refine Zaf (i:=2) (N:=some 40) (v:=?_) (a':=?_) #[true,false,true,false,false,false,false,false] rfl rfl (Zac HT_.out (by kernel_rfl)) (fun _ _ _ h=>h) (Or.inl ⟨by rfl,?_⟩) ?_ ?_
            rotate_left
            ·intro w'
             go_simp
             with_reducible rfl
            rotate_left
            ·simp only[Act.put,List.setIfInBounds_toArray,List.set_cons_zero,List.set_cons_succ,ZO,ZP]
             rfl
            refine take_ (i:=1) (N:=some 39) (v:=?_) (a':=?_) #[true,true,true,false,false,false,false,false] rfl rfl (Zbd HT_.out HW_.out (by kernel_rfl)) (fun _ _ _ h=>h) (Or.inl ⟨by rfl,?_⟩) hHeld ?_ ?_
            rotate_left
            ·rintro w' ⟨s0,s1⟩
             go_simp
             with_reducible rfl
            rotate_left
            ·simp only[Act.put,List.setIfInBounds_toArray,List.set_cons_zero,List.set_cons_succ,ZO,ZP]
             rfl
            refine one_ (i:=3) (N:=some 41) #[true,true,true,true,false,false,false,false] rfl rfl (ZaI HT_.out (by kernel_rfl)) (by decide) (fun K hK=>?_)
            refine Zbr Try.func171 (by kernel_rfl) rfl #[.int .i64 (rd t134005 x34_2)] (by rfl) rfl rfl (by(try simp only[List.map_toArray,List.map_cons,List.map_nil]);first|done|rfl|(simp only[Zk,Zj];rfl)) ?_
            with_reducible refine(Zbn.calls (rd t134005 x34_2) t134010 _ A25.out).mono ?_
            rintro e w' ⟨rfl,⟨nd,rfl⟩⟩
            refine⟨_,rfl,?_⟩
            refine hK.out _ _ ⟨(Zu BK134004.out 0).trans rfl,(Zu BK134004.out 1).trans rfl⟩ (fun hHeld=>?_)
            clear hK K
            refine Zag (a':=?_) ?_ ?_
            rotate_left
            ·show Act.put _ (some 41) _=_
             simp only[Act.put,List.setIfInBounds_toArray,List.set_cons_zero,List.set_cons_succ,ZO,ZP]
             rfl
            refine one_ (i:=4) (N:=some 42) #[true,true,true,true,true,false,false,false] rfl rfl (ZaI HT_.out (by kernel_rfl)) (by decide) (fun K hK=>?_)
            refine value_ (w1:=?_) (v:=?_) (by rfl) rfl ?_ ?_
            rotate_left 2
            ·go_simp
             constructor
             ·rfl
             ·rfl
            refine hK.out _ _ ⟨(Zu (Zn BK134004.out _) 0).trans rfl,(Zu (Zn BK134004.out _) 1).trans rfl⟩ (fun hHeld=>?_)
            clear hK K
            refine Zag (a':=?_) ?_ ?_
            rotate_left
            ·show Act.put _ (some 42) _=_
             simp only[Act.put,List.setIfInBounds_toArray,List.set_cons_zero,List.set_cons_succ,ZO,ZP]
             rfl
            refine one_ (i:=5) (N:=some 43) #[true,true,true,true,true,true,false,false] rfl rfl (ZaI HT_.out (by kernel_rfl)) (by decide) (fun K hK=>?_)
            refine Kd.R_append_step (Kd.int .i64) (w0:=w) w.heap.size (by rfl) (.tmp 39) (.tmp 42) 33 3 (.int .i64 0) 8 rfl Try.underlying33 Za1 rfl (by decide) (by omega) u134005001 x134005001_2 t134010 [.int .i64 t134010] (fun k_=>some k_≠(.slice (some ad134009) t134005.length co21:Value).ownBlock) (fun _=>False) rfl rfl ?aP (fun _ hk=>hk.elim) ?aF ?aO ?aB ?aS ?aL ?_
            (case aP=>exact rfl)
            (case aB=>exact(by repeat(first|(with_reducible first|exact HB.out|apply Zq|apply Zm|apply Zs|refine Zp ?_ GE134001.out|refine Zp ?_ GE134002.out|refine Zp ?_ GE134004.out)|exact HB.out)))
            (case aF=>exact(fun k_ hk=>Kd.fresh' (Kd.R_lt (by(with_reducible repeat(first|apply Kd.R_alloc|apply Kd.R_drewN|apply Kd.R_drew));exact HO_32.out)) k_ hk))
            (case aO=>exact(by(with_reducible repeat(first|apply Kd.R_alloc|apply Kd.R_drewN|apply Kd.R_drew));exact HO_134005001.out))
            (case aS=>exact(Zv (by repeat(first|(with_reducible first|exact HB.out|apply Zq|apply Zm|apply Zs|refine Zp ?_ GE134001.out|refine Zp ?_ GE134002.out|refine Zp ?_ GE134004.out)|exact HB.out))))
            (case aL=>have:=LMc26.out;omega)
            intro v134012 w28 ho hb hg hat
            rw[← Ny134011.out] at ho
            have n0_:=Za (Kd.R_after (ok:=(fun _=>True)) (by(with_reducible repeat(first|apply Kd.R_alloc|apply Kd.R_drewN|apply Kd.R_drew));exact Kd.R_mono HO_32.out (fun _ hk=>⟨trivial,hk⟩)) hg hat)
            have n1_:=Za (ZT (g:=gb134001) (o:=.cells #[.int .i64 a0_0,.slice A0_1 l0_1.length c0_1] 95 (0,0)) (by(with_reducible repeat(first|refine Zo ?_ _|refine Zr ?_|refine Zn ?_ _));exact BK134001.out) hg (Kd.R_ne HO_134005001.out BK134001.out (by decide)))
            have n2_:=Za (ZT (g:=gb134002) (o:=.cells #[.int .i64 x134003000_1,.slice none 0 0] 90 (0,0)) (by(with_reducible repeat(first|refine Zo ?_ _|refine Zr ?_|refine Zn ?_ _));exact BK134002.out) hg (Kd.R_ne HO_134005001.out BK134002.out (by decide)))
            have n3_:=Za (ZT (g:=gb134004) (o:=.cells #[.int .i64 a0_0,u134005001] 90 (0,0)) (by(with_reducible repeat(first|refine Zo ?_ _|refine Zr ?_|refine Zn ?_ _));exact BK134004.out) hg (Kd.R_ne HO_134005001.out BK134004.out (by decide)))
            have n4_:=Za (hb)
            have n5_:=Za (ho)
            clear HO_32 BK134001 BK134002 BK134004 HB HO_134005001;have HO_32:=n0_;have BK134001:=n1_;have BK134002:=n2_;have BK134004:=n3_;have HB:=n4_;have HO134013:=n5_;clear n0_ n1_ n2_ n3_ n4_ n5_ ho hb hg hat
            obtain⟨Ao29,co29,eo29⟩:=Kd.R_slice HO134013.out
            (first|subst eo29|(injection eo29 with f1_ f2_ f3_;have f4_:=f1_.symm;have f5_:=f3_.symm;clear f1_ f2_ f3_;subst f4_;subst f5_))
            refine hK.out _ _ ⟨(Zu BK134004.out 0).trans rfl,(Zu BK134004.out 1).trans rfl⟩ (fun hHeld=>?_)
            clear hK K
            refine Zag (a':=?_) ?_ ?_
            rotate_left
            ·show Act.put _ (some 43) _=_
             simp only[Act.put,List.setIfInBounds_toArray,List.set_cons_zero,List.set_cons_succ,ZO,ZP]
             rfl
            refine Zaf (i:=6) (N:=some 44) (v:=?_) (a':=?_) #[true,true,true,true,true,true,true,false] rfl rfl (Zac HT_.out (by kernel_rfl)) (fun _ _ _ h=>h) (Or.inl ⟨by rfl,?_⟩) ?_ ?_
            rotate_left
            ·intro w'
             go_simp
             with_reducible rfl
            rotate_left
            ·simp only[Act.put,List.setIfInBounds_toArray,List.set_cons_zero,List.set_cons_succ,ZO,ZP]
             rfl
            refine last_ (i:=7) (N:=none) #[true,true,true,true,true,true,true,true] rfl rfl (ZaI HT_.out (by kernel_rfl)) (by decide) (fun K hK=>?_)
            have hs30:w28.cell? ⟨gb134004,1,none⟩=some (u134005001):=(Zu BK134004.out 1).trans rfl
            have hfs30:=Zt BK134004.out 1
            have hns30_0:=NB134001_134004.out
            have hns30_1:=NB134002_134004.out
            have hms30_0:=NB134004_134001.out
            have hms30_1:=NB134004_134002.out
            refine Zcl (w1:=?_) (by rfl) rfl ?_ ?_
            rotate_left
            ·go_simp
             rfl
            refine hK.out _ _ ?_
            clear hK K
            refine Zce (Zb1 HT_.out (by kernel_rfl)) ?_
            try go_wp2
            go_roundg k2
            case measure=>have:=HK1.out;have:=HK2.out;omega
            case rel=>exact⟨(wrap64 (x34_2+1)),(y134011),(.slice Ao29 y134011.length co29),(by first|rfl|(simp;done)|(simp[*];done)),H',⟨by have:=HK1.out;have:=HK2.out;omega⟩,⟨by(with_reducible repeat(first|apply Kd.R_alloc|apply Kd.R_drewN|apply Kd.R_drew));exact Kd.R_mono (Kd.R_far (p:=⟨gb134004,1,none⟩) (Kd.R_types HO_32.out BK134004.out (by decide)) (fun _ hk=>hk.2) (.slice Ao29 y134011.length co29)) (fun _ hk=>hk.1.2)⟩,⟨by(with_reducible repeat(first|apply Kd.R_alloc|apply Kd.R_drewN|apply Kd.R_drew));exact Kd.R_mono (Kd.R_far (p:=⟨gb134004,1,none⟩) (Kd.R_types HO134013.out BK134004.out (by decide)) (fun _ hk=>hk.2) (.slice Ao29 y134011.length co29)) (fun _ hk=>hk.1)⟩,⟨by(with_reducible repeat(first|refine Zo ?_ _|refine Zr ?_|refine Zn ?_ _));refine ZD ?_ NB134001_134004.out _;(with_reducible repeat(first|refine Zo ?_ _|refine Zr ?_|refine Zn ?_ _));exact BK134001.out⟩,⟨by(with_reducible repeat(first|refine Zo ?_ _|refine Zr ?_|refine Zn ?_ _));refine ZD ?_ NB134002_134004.out _;(with_reducible repeat(first|refine Zo ?_ _|refine Zr ?_|refine Zn ?_ _));exact BK134002.out⟩,⟨by(with_reducible repeat(first|refine Zo ?_ _|refine Zr ?_|refine Zn ?_ _));refine ZF (cs:=#[.int .i64 a0_0,u134005001]) ?_ 1 _ rfl;(with_reducible repeat(first|refine Zo ?_ _|refine Zr ?_|refine Zn ?_ _));exact BK134004.out⟩,⟨by repeat(first|(with_reducible first|exact HB.out|apply Zq|apply Zm|apply Zs|refine Zp ?_ GE134001.out|refine Zp ?_ GE134002.out|refine Zp ?_ GE134004.out)|exact HB.out)⟩⟩
           ·rw[if_neg c26] at H
            exact absurd H (by simp)
          ·rw[if_neg c24] at H
           exact absurd H (by simp)
         ·rw[if_neg c23] at H
          exact absurd H (by simp)
        ·rw[if_neg c22] at H
         have c22b0:decide (x34_2<(t134005.length:Int))=false:=Zf c22
         clear c22
         have H':=Za H
         clear H
         go_wp2
         go_roundg k2
         case measure=>have:=HK1.out;have:=HK2.out;omega
         case rel=>exact⟨(wrap64 (x5_1+1)),(x134003000_1),(x134005001_2),(u134005001),(by first|rfl|(simp;done)|(simp[*];done)),H',⟨by have:=HK1.out;have:=HK2.out;omega⟩,⟨by(with_reducible repeat(first|apply Kd.R_alloc|apply Kd.R_drewN|apply Kd.R_drew));exact Kd.R_mono HO_134005001.out (fun _ hk=>trivial)⟩,⟨by(with_reducible repeat(first|refine Zo ?_ _|refine Zr ?_|refine Zn ?_ _));exact BK134001.out⟩,⟨by(with_reducible repeat(first|refine Zo ?_ _|refine Zr ?_|refine Zn ?_ _));exact BK134002.out⟩,⟨by(with_reducible repeat(first|refine Zo ?_ _|refine Zr ?_|refine Zn ?_ _));exact BK134004.out⟩,⟨by repeat(first|(with_reducible first|exact HB.out|apply Zq|apply Zm|apply Zs|refine Zp ?_ GE134001.out|refine Zp ?_ GE134002.out|refine Zp ?_ GE134004.out)|exact HB.out)⟩⟩
     ·replace c16:=Bool.eq_false_iff.mpr c16
      subst c16
      have H1:(some (0,([]:List Int),false))=some (r1,r2,r3):=by rw[if_neg (show ¬(false=true) by decide)] at H;exact H
      clear H
      have H:=H1
      clear H1
      simp only[Option.some.injEq,Prod.mk.injEq] at H
      obtain⟨rfl,rfl,rfl⟩:=H
      have hnb31:=NB134001_134002.out
      have hnc31:=NB134002_134001.out
      have hnb32:=NB134001_134004.out
      have hnc32:=NB134004_134001.out
      have hcz33_0:wr.cell? ⟨gb134001,0,none⟩=some (.int .i64 a0_0):=(Zu BK134001.out 0).trans rfl
      have hcz33_1:wr.cell? ⟨gb134001,1,none⟩=some (.slice A0_1 l0_1.length c0_1):=(Zu BK134001.out 1).trans rfl
      have hfz33_0:=Zt BK134001.out 0
      have hfz33_1:=Zt BK134001.out 1
      go_wp2_with (first|((with_reducible refine ZG (f:=170) rfl ?_);refine ZV (some 26) rfl rfl Try.func170 (by kernel_rfl) rfl #[.agg #[.int .i64 a0_0,.slice A0_1 l0_1.length c0_1],.int .i64 x5_1] rfl (by(try simp only[List.map_toArray,List.map_cons,List.map_nil]);first|done|rfl|(simp only[Zk,Zj];rfl)) ?_;(with_reducible refine(Za5.calls k1 a0_0 _ _ l0_1 x5_1 t134005 false _ ?side1 ?side2 A15.out).mono ?_);(case side1=>repeat(first|exact(Zb HR0_1.out HB.out)|(with_reducible refine Kd.C_alloc ?_ _)|(with_reducible refine Kd.C_drewN ?_ _)|(with_reducible refine Kd.C_drew ?_)));(case side2=>exact HC0_1.out);rintro e w34 ⟨v134006,rfl,ho0,hb⟩;refine⟨_,rfl,?_⟩;have n0_:=Za (Kd.R_elder' (by(with_reducible repeat(first|apply Kd.R_alloc|apply Kd.R_drewN|apply Kd.R_drew));exact HO_134005001.out) (Kd.R_base ho0) hb);have n1_:=Za (Kd.R_lower (Kd.R_new' ho0 (Kd.R_lt (by(with_reducible repeat(first|apply Kd.R_alloc|apply Kd.R_drewN|apply Kd.R_drew));exact HO_134005001.out))) (Zv (by repeat(first|(with_reducible first|exact HB.out|apply Zq|apply Zm|apply Zs|refine Zp ?_ GE134001.out|refine Zp ?_ GE134002.out|refine Zp ?_ GE134004.out)|exact HB.out))));have n2_:=Za (Zx (g:=gb134001) (o:=.cells #[.int .i64 a0_0,.slice A0_1 l0_1.length c0_1] 95 (0,0)) (by(with_reducible repeat(first|refine Zo ?_ _|refine Zr ?_|refine Zn ?_ _));exact BK134001.out) hb);have n3_:=Za (Zx (g:=gb134002) (o:=.cells #[.int .i64 x134003000_1,.slice none 0 0] 90 (0,0)) (by(with_reducible repeat(first|refine Zo ?_ _|refine Zr ?_|refine Zn ?_ _));exact BK134002.out) hb);have n4_:=Za (Zx (g:=gb134004) (o:=.cells #[.int .i64 a0_0,u134005001] 90 (0,0)) (by(with_reducible repeat(first|refine Zo ?_ _|refine Zr ?_|refine Zn ?_ _));exact BK134004.out) hb);have n5_:=Za (Zy (by repeat(first|(with_reducible first|exact HB.out|apply Zq|apply Zm|apply Zs|refine Zp ?_ GE134001.out|refine Zp ?_ GE134002.out|refine Zp ?_ GE134004.out)|exact HB.out)) hb);clear HO_134005001;clear BK134001;clear BK134002;clear BK134004;clear HB;have HO_134005001:=n0_;have HO134007:=n1_;have BK134001:=n2_;have BK134002:=n3_;have BK134004:=n4_;have HB:=n5_;clear n0_ n1_ n2_ n3_ n4_ n5_;(try clear hb);(try clear hb2);(try clear hk);(try clear hi);(try clear ho0);have hnb35:=NB134002_134004.out;have hnc35:=NB134004_134002.out;have hcz36_0:w34.cell? ⟨gb134002,0,none⟩=some (.int .i64 x134003000_1):=(Zu BK134002.out 0).trans rfl;have hcz36_1:w34.cell? ⟨gb134002,1,none⟩=some (.slice none 0 0):=(Zu BK134002.out 1).trans rfl;have hfz36_0:=Zt BK134002.out 0;have hfz36_1:=Zt BK134002.out 1))
      refine bodyPost_ret (Zab rfl _ _ gb134002 90 #[.int .i64 0,.slice none 0 0] (0,0) _ rfl (by(with_reducible repeat(first|refine Zo ?_ _|refine Zr ?_|refine Zn ?_ _));refine ZF (cs:=#[.int .i64 0,.slice none 0 0]) ?_ 1 _ rfl;(with_reducible repeat(first|refine Zo ?_ _|refine Zr ?_|refine Zn ?_ _));refine ZF (cs:=#[.int .i64 x134003000_1,.slice none 0 0]) ?_ 0 _ rfl;(with_reducible repeat(first|refine Zo ?_ _|refine Zr ?_|refine Zn ?_ _));exact BK134002.out) Try.underlying90 rfl (by kernel_rfl)) rfl ?_
      exact⟨_,by first|rfl|(simp[ZA,Zz] <;> rfl)|(simp[*,ZA,Zz] <;> rfl),by first|exact Kd.R_nil _ _ _ _ _|exact Kd.N_nil _ _ _ _ _|exact Kd.V_nil _ _ _ _ _|exact Kd.Q_nil _ _ _ _ _|exact Kd.S_nil _ _ _ _ _,by repeat(first|(with_reducible first|exact HB.out|apply Zq|apply Zm|apply Zs|refine Zp ?_ GE134001.out|refine Zp ?_ GE134002.out|refine Zp ?_ GE134004.out)|exact HB.out)⟩
    ·rw[if_neg c14] at H
     have c14b0:decide (x5_1<a0_0)=false:=Zf c14
     clear c14
     simp only[Option.some.injEq,Prod.mk.injEq] at H
     obtain⟨rfl,rfl,rfl⟩:=H
     have hnb37:=NB134001_134002.out
     have hnc37:=NB134002_134001.out
     have hnb38:=NB134001_134004.out
     have hnc38:=NB134004_134001.out
     have hcz39_0:wr.cell? ⟨gb134001,0,none⟩=some (.int .i64 a0_0):=(Zu BK134001.out 0).trans rfl
     have hcz39_1:wr.cell? ⟨gb134001,1,none⟩=some (.slice A0_1 l0_1.length c0_1):=(Zu BK134001.out 1).trans rfl
     have hfz39_0:=Zt BK134001.out 0
     have hfz39_1:=Zt BK134001.out 1
     have hnb40:=NB134004_134002.out
     have hnc40:=NB134002_134004.out
     have hcz41_0:wr.cell? ⟨gb134004,0,none⟩=some (.int .i64 a0_0):=(Zu BK134004.out 0).trans rfl
     have hcz41_1:wr.cell? ⟨gb134004,1,none⟩=some (u134005001):=(Zu BK134004.out 1).trans rfl
     have hfz41_0:=Zt BK134004.out 0
     have hfz41_1:=Zt BK134004.out 1
     have hcz42_0:wr.cell? ⟨gb134002,0,none⟩=some (.int .i64 x134003000_1):=(Zu BK134002.out 0).trans rfl
     have hcz42_1:wr.cell? ⟨gb134002,1,none⟩=some (.slice none 0 0):=(Zu BK134002.out 1).trans rfl
     have hfz42_0:=Zt BK134002.out 0
     have hfz42_1:=Zt BK134002.out 1
     obtain⟨Ao43,co43,eo43⟩:=Kd.R_slice HO_134005001.out
     subst eo43
     go_wp2
     refine bodyPost_ret (Zab rfl _ _ gb134002 90 #[.int .i64 a0_0,.slice Ao43 x134005001_1.length co43] (0,0) _ rfl (by(with_reducible repeat(first|refine Zo ?_ _|refine Zr ?_|refine Zn ?_ _));refine ZF (cs:=#[.int .i64 a0_0,.slice none 0 0]) ?_ 1 _ rfl;(with_reducible repeat(first|refine Zo ?_ _|refine Zr ?_|refine Zn ?_ _));refine ZF (cs:=#[.int .i64 x134003000_1,.slice none 0 0]) ?_ 0 _ rfl;(with_reducible repeat(first|refine Zo ?_ _|refine Zr ?_|refine Zn ?_ _));exact BK134002.out) Try.underlying90 rfl (by kernel_rfl)) rfl ?_
     exact⟨_,by first|rfl|(simp[ZA,Zz] <;> rfl)|(simp[*,ZA,Zz] <;> rfl),by(with_reducible repeat(first|apply Kd.R_alloc|apply Kd.R_drewN|apply Kd.R_drew));exact Kd.R_mono (Kd.R_far (p:=⟨gb134002,1,none⟩) (Kd.R_far (p:=⟨gb134002,0,none⟩) (Kd.R_types HO_134005001.out BK134002.out (by decide)) (fun _ hk=>hk.2) (.int .i64 a0_0)) (fun _ hk=>hk.2) (.slice Ao43 x134005001_1.length co43)) (fun _ hk=>trivial),by repeat(first|(with_reducible first|exact HB.out|apply Zq|apply Zm|apply Zs|refine Zp ?_ GE134001.out|refine Zp ?_ GE134002.out|refine Zp ?_ GE134004.out)|exact HB.out)⟩
 ·replace c3:=Bool.eq_false_iff.mpr c3
  subst c3
  have H1:(some (0,([]:List Int),false))=some (r1,r2,r3):=by rw[if_neg (show ¬(false=true) by decide)] at H;exact H
  clear H
  have H:=H1
  clear H1
  simp only[Option.some.injEq,Prod.mk.injEq] at H
  obtain⟨rfl,rfl,rfl⟩:=H
  go_enter Try.func134,Try.ntmps134
  go_wp2_with (first|((with_reducible refine ZC (N:=1) rfl ?_);refine ZE ?hg (N:=1) ?hd (cs:=#[.int .i64 a0_0,.slice A0_1 l0_1.length c0_1]) (t:=95) ?hr ?_;(case hd=>rfl);(case hg=>rfl);(case hr=>first|(go_simp;done)|(go_simp;rfl));intro gb134001 hg w44 hbox hb;have n0_:=Za (Zy (by repeat(first|(with_reducible first|exact HB.out|apply Zq|apply Zm|apply Zs)|exact HB.out)) hb);have n1_:=Za (hbox);have n2_:=Za ((by rw[hg];exact(Zv (by repeat(first|(with_reducible first|exact HB.out|apply Zq|apply Zm|apply Zs)|exact HB.out))):w.heap.size≤gb134001));have n3_:=Za ((by rw[hg];exact(Zv (by repeat(first|(with_reducible first|exact HB.out|apply Zq|apply Zm|apply Zs)|exact HB.out))):w.heap.size≤gb134001));clear HB;have HB:=n0_;have BK134001:=n1_;have GW134001:=n2_;have GE134001:=n3_;clear n0_ n1_ n2_ n3_;clear hb hbox hg)|((with_reducible refine ZC (N:=2) rfl ?_);refine ZE ?hg (N:=2) ?hd (cs:=#[.int .i64 0,.slice none 0 0]) (t:=90) ?hr ?_;(case hd=>rfl);(case hg=>rfl);(case hr=>first|(go_simp;done)|(go_simp;rfl));intro gb134002 hg w45 hbox hb;have n0_:=Za (Zx (g:=gb134001) (o:=.cells #[.int .i64 a0_0,.slice A0_1 l0_1.length c0_1] 95 (0,0)) (by(with_reducible repeat(first|refine Zo ?_ _|refine Zr ?_|refine Zn ?_ _));exact BK134001.out) hb);have n1_:=Za (Zy (by repeat(first|(with_reducible first|exact HB.out|apply Zq|apply Zm|apply Zs|refine Zp ?_ GE134001.out)|exact HB.out)) hb);have n2_:=Za (hbox);have n3_:=Za ((by rw[hg];exact(Zv (by repeat(first|(with_reducible first|exact HB.out|apply Zq|apply Zm|apply Zs|refine Zp ?_ GE134001.out)|exact HB.out))):w.heap.size≤gb134002));have n4_:=Za ((by rw[hg];exact(Zv (by repeat(first|(with_reducible first|exact HB.out|apply Zq|apply Zm|apply Zs|refine Zp ?_ GE134001.out)|exact HB.out))):w.heap.size≤gb134002));have n5_:=Za ((by rw[hg];exact Nat.ne_of_lt (ZB (g:=gb134001) (o:=.cells #[.int .i64 a0_0,.slice A0_1 l0_1.length c0_1] 95 (0,0)) (by(with_reducible repeat(first|refine Zo ?_ _|refine Zr ?_|refine Zn ?_ _));exact BK134001.out)):gb134001≠gb134002));have n6_:=Za ((by rw[hg];exact Nat.ne_of_gt (ZB (g:=gb134001) (o:=.cells #[.int .i64 a0_0,.slice A0_1 l0_1.length c0_1] 95 (0,0)) (by(with_reducible repeat(first|refine Zo ?_ _|refine Zr ?_|refine Zn ?_ _));exact BK134001.out)):gb134002≠gb134001));clear BK134001;clear HB;have BK134001:=n0_;have HB:=n1_;have BK134002:=n2_;have GW134002:=n3_;have GE134002:=n4_;have NB134001_134002:=n5_;have NB134002_134001:=n6_;clear n0_ n1_ n2_ n3_ n4_ n5_ n6_;clear hb hbox hg;have hnb46:=NB134001_134002.out;have hnc46:=NB134002_134001.out;have hcz47_0:w45.cell? ⟨gb134001,0,none⟩=some (.int .i64 a0_0):=(Zu BK134001.out 0).trans rfl;have hcz47_1:w45.cell? ⟨gb134001,1,none⟩=some (.slice A0_1 l0_1.length c0_1):=(Zu BK134001.out 1).trans rfl;have hfz47_0:=Zt BK134001.out 0;have hfz47_1:=Zt BK134001.out 1)|((with_reducible refine ZG (f:=166) rfl ?_);refine ZV (some 11) rfl rfl Try.func166 (by kernel_rfl) rfl #[.agg #[.int .i64 a0_0,.slice A0_1 l0_1.length c0_1]] rfl (by(try simp only[List.map_toArray,List.map_cons,List.map_nil]);first|done|rfl|(simp only[Zk,Zj];rfl)) ?_;(with_reducible refine(ZW.calls k a0_0 _ _ l0_1 false _ ?side1 ?side2 A2.out).mono ?_);(case side1=>repeat(first|exact(Zb HR0_1.out HB.out)|(with_reducible refine Kd.C_alloc ?_ _)|(with_reducible refine Kd.C_drewN ?_ _)|(with_reducible refine Kd.C_drew ?_)));(case side2=>exact HC0_1.out);rintro e w48 ⟨rfl,hb⟩;refine⟨_,rfl,?_⟩;have n0_:=Za (Zx (g:=gb134001) (o:=.cells #[.int .i64 a0_0,.slice A0_1 l0_1.length c0_1] 95 (0,0)) (by(with_reducible repeat(first|refine Zo ?_ _|refine Zr ?_|refine Zn ?_ _));exact BK134001.out) hb);have n1_:=Za (Zx (g:=gb134002) (o:=.cells #[.int .i64 0,.slice none 0 0] 90 (0,0)) (by(with_reducible repeat(first|refine Zo ?_ _|refine Zr ?_|refine Zn ?_ _));exact BK134002.out) hb);have n2_:=Za (Zy (by repeat(first|(with_reducible first|exact HB.out|apply Zq|apply Zm|apply Zs|refine Zp ?_ GE134001.out|refine Zp ?_ GE134002.out)|exact HB.out)) hb);clear BK134001;clear BK134002;clear HB;have BK134001:=n0_;have BK134002:=n1_;have HB:=n2_;clear n0_ n1_ n2_;(try clear hb);(try clear hb2);(try clear hk);(try clear hi);have hcz49_0:w48.cell? ⟨gb134002,0,none⟩=some (.int .i64 0):=(Zu BK134002.out 0).trans rfl;have hcz49_1:w48.cell? ⟨gb134002,1,none⟩=some (.slice none 0 0):=(Zu BK134002.out 1).trans rfl;have hfz49_0:=Zt BK134002.out 0;have hfz49_1:=Zt BK134002.out 1))
  refine bodyPost_ret (Zab rfl _ _ gb134002 90 #[.int .i64 0,.slice none 0 0] (0,0) _ rfl (by(with_reducible repeat(first|refine Zo ?_ _|refine Zr ?_|refine Zn ?_ _));refine ZF (cs:=#[.int .i64 0,.slice none 0 0]) ?_ 1 _ rfl;(with_reducible repeat(first|refine Zo ?_ _|refine Zr ?_|refine Zn ?_ _));refine ZF (cs:=#[.int .i64 0,.slice none 0 0]) ?_ 0 _ rfl;(with_reducible repeat(first|refine Zo ?_ _|refine Zr ?_|refine Zn ?_ _));exact BK134002.out) Try.underlying90 rfl (by kernel_rfl)) rfl ?_
  exact⟨_,by first|rfl|(simp[ZA,Zz] <;> rfl)|(simp[*,ZA,Zz] <;> rfl),by first|exact Kd.R_nil _ _ _ _ _|exact Kd.N_nil _ _ _ _ _|exact Kd.V_nil _ _ _ _ _|exact Kd.Q_nil _ _ _ _ _|exact Kd.S_nil _ _ _ _ _,by repeat(first|(with_reducible first|exact HB.out|apply Zq|apply Zm|apply Zs|refine Zp ?_ GE134001.out|refine Zp ?_ GE134002.out)|exact HB.out)⟩
mutual
def ZX.j0:Nat→Bool→Int→List Int→Option (Bool)
 | 0,_,_,_=>none
 | k+1,x19,x172002000,x172002001=>if x19=true then(some false) else(ZX.l0 k x172002001 (x172002001.length:Int) 0 x172002000 x172002001)
def ZX.l0:Nat→List Int→Int→Int→Int→List Int→Option (Bool)
 | 0,_,_,_,_,_=>none
 | k+1,x21,x22,x23,x172002000,x172002001=>if x23<x22 then(if 0≤x23 then(if x23<(x21.length:Int) then((ZJ.f (rd x21 x23) (-1000000) 1000000).bind fun t172004=>(if t172004=true then(if (wrap64 (x172002000+1))=0 then(none) else(if (Int.tmod x23 (wrap64 (x172002000+1)))=0 then(if (rd x21 x23)=0 then(ZX.l0 k x21 x22 (wrap64 (x23+1)) x172002000 x172002001) else(some false)) else(ZX.l0 k x21 x22 (wrap64 (x23+1)) x172002000 x172002001))) else(some false))) else(none)) else(none)) else(some true)
end
def ZX.f (k:Nat) (a0_0:Int) (l0_1:List Int):Option (Bool):=(ZJ.f a0_0 0 8).bind fun t172002=>(if t172002=true then(ZX.j0 k ((l0_1.length:Int) != (wrap64 (a0_0 * a0_0))) a0_0 l0_1) else(ZX.j0 k true a0_0 l0_1))
set_option maxHeartbeats 8000000 in
set_option maxRecDepth 100000 in
theorem ZX.calls (k:Nat) (a0_0:Int) (A0_1:Option Addr) (c0_1:Nat) (l0_1:List Int) (r:Bool) (w:World) (hr0_1:Kd.C (Kd.int .i64) w A0_1 l0_1.length l0_1) (hc0_1:l0_1.length≤c0_1) (h:ZX.f k a0_0 l0_1=some r) :
  Calls Try.prog 172 #[.agg #[.int .i64 a0_0,.slice A0_1 l0_1.length c0_1]] w fun e w'=>e=.returned (.bool r)∧Below w.heap.size w w':=by
 have hu90:=Try.underlying90
 have HR0_1:=Za hr0_1;have HC0_1:=Za hc0_1;clear hr0_1 hc0_1
 have HB:=Za (Below.refl w.heap.size w)
 have H:((ZJ.f a0_0 0 8).bind fun t172002=>(if t172002=true then(ZX.j0 k ((l0_1.length:Int) != (wrap64 (a0_0 * a0_0))) a0_0 l0_1) else(ZX.j0 k true a0_0 l0_1)))=some r:=h
 clear h;have HC2:=Za H;clear H
 go_enter Try.func172,Try.ntmps172
 go_upto_region 1 with (first|((with_reducible refine ZC (N:=1) rfl ?_);(try(refine ZaN (by rfl) ?_;dsimp only));refine ZE ?hg (N:=1) ?hd (cs:=#[.int .i64 a0_0,.slice A0_1 l0_1.length c0_1]) (t:=90) ?hr ?_;(case hd=>rfl);(case hg=>rfl);(case hr=>first|(go_simp;done)|(go_simp;rfl));intro gb172001 hg w3 hbox hb;have n0_:=Za (Zy (by repeat(first|(with_reducible first|exact HB.out|apply Zq|apply Zm|apply Zs)|exact HB.out)) hb);have n1_:=Za (hbox);have n2_:=Za ((by rw[hg];exact(Zv (by repeat(first|(with_reducible first|exact HB.out|apply Zq|apply Zm|apply Zs)|exact HB.out))):w.heap.size≤gb172001));have n3_:=Za ((by rw[hg];exact(Zv (by repeat(first|(with_reducible first|exact HB.out|apply Zq|apply Zm|apply Zs)|exact HB.out))):w.heap.size≤gb172001));clear HB;have HB:=n0_;have BK172001:=n1_;have GW172001:=n2_;have GE172001:=n3_;clear n0_ n1_ n2_ n3_;clear hb hbox hg))
 (try simp only[Act.put,List.setIfInBounds_toArray,List.set_cons_zero,List.set_cons_succ])
 go_cut [19] (fun v19 wc=>∃(kq:Nat) (x19_1:Bool),v19=.bool x19_1∧Aside0 (ZX.j0 kq x19_1 a0_0 l0_1=some r)∧Aside0 (kq≤k)∧Aside0 (wc.heap[gb172001]? = some (.cells #[.int .i64 a0_0,(.slice A0_1 l0_1.length c0_1)] 90 (0,0)))∧Aside0 (Below w.heap.size w wc))
 case first=>
  have H:=HC2.out
  clear HC2
  replace H:=Zh H
  obtain⟨t172002,A40,H⟩:=H
  replace H:(if t172002=true then(ZX.j0 k ((l0_1.length:Int) != (wrap64 (a0_0 * a0_0))) a0_0 l0_1) else(ZX.j0 k true a0_0 l0_1))=some r:=H
  have A4:=Za A40;clear A40
  by_cases c5:t172002=true
  ·subst c5
   have H1:(ZX.j0 k ((l0_1.length:Int) != (wrap64 (a0_0 * a0_0))) a0_0 l0_1)=some r:=by rw[if_pos rfl] at H;exact H
   clear H
   have H:=H1
   clear H1
   have H':=Za H
   clear H
   have hcz6_0:w3.cell? ⟨gb172001,0,none⟩=some (.int .i64 a0_0):=(Zu BK172001.out 0).trans rfl
   have hcz6_1:w3.cell? ⟨gb172001,1,none⟩=some (.slice A0_1 l0_1.length c0_1):=(Zu BK172001.out 1).trans rfl
   have hfz6_0:=Zt BK172001.out 0
   have hfz6_1:=Zt BK172001.out 1
   go_wp2_with (first|((with_reducible refine ZG (f:=87) rfl ?_);refine ZV (some 7) rfl rfl Try.func87 (by kernel_rfl) rfl #[.int .i64 a0_0,.int .i64 0,.int .i64 8] rfl (by(try simp only[List.map_toArray,List.map_cons,List.map_nil]);first|done|rfl|(simp only[Zk,Zj];rfl)) ?_;(with_reducible refine(ZJ.calls a0_0 0 8 true _ A4.out).mono ?_);rintro e w' ⟨rfl,⟨nd,rfl⟩⟩;refine⟨_,rfl,?_⟩))
   go_meet
   case rel=>exact⟨_,(((l0_1.length:Int) != (wrap64 (a0_0 * a0_0)))),(by first|rfl|(simp;done)|(simp[*];done)),H',⟨by first|omega|exact Nat.le_refl _⟩,⟨by(with_reducible repeat(first|refine Zo ?_ _|refine Zr ?_|refine Zn ?_ _));exact BK172001.out⟩,⟨by repeat(first|(with_reducible first|exact HB.out|apply Zq|apply Zm|apply Zs|refine Zp ?_ GE172001.out)|exact HB.out)⟩⟩
  ·replace c5:=Bool.eq_false_iff.mpr c5
   subst c5
   have H1:(ZX.j0 k true a0_0 l0_1)=some r:=by rw[if_neg (show ¬(false=true) by decide)] at H;exact H
   clear H
   have H:=H1
   clear H1
   have H':=Za H
   clear H
   have hcz7_0:w3.cell? ⟨gb172001,0,none⟩=some (.int .i64 a0_0):=(Zu BK172001.out 0).trans rfl
   have hcz7_1:w3.cell? ⟨gb172001,1,none⟩=some (.slice A0_1 l0_1.length c0_1):=(Zu BK172001.out 1).trans rfl
   have hfz7_0:=Zt BK172001.out 0
   have hfz7_1:=Zt BK172001.out 1
   go_wp2_with (first|((with_reducible refine ZG (f:=87) rfl ?_);refine ZV (some 7) rfl rfl Try.func87 (by kernel_rfl) rfl #[.int .i64 a0_0,.int .i64 0,.int .i64 8] rfl (by(try simp only[List.map_toArray,List.map_cons,List.map_nil]);first|done|rfl|(simp only[Zk,Zj];rfl)) ?_;(with_reducible refine(ZJ.calls a0_0 0 8 false _ A4.out).mono ?_);rintro e w' ⟨rfl,⟨nd,rfl⟩⟩;refine⟨_,rfl,?_⟩))
   go_meet
   case rel=>exact⟨_,(true),(by first|rfl|(simp;done)|(simp[*];done)),H',⟨by first|omega|exact Nat.le_refl _⟩,⟨by(with_reducible repeat(first|refine Zo ?_ _|refine Zr ?_|refine Zn ?_ _));exact BK172001.out⟩,⟨by repeat(first|(with_reducible first|exact HB.out|apply Zq|apply Zm|apply Zs|refine Zp ?_ GE172001.out)|exact HB.out)⟩⟩
 case rest=>
  clear HC2
  try clear c1
  try clear p2
  try clear c5
  try clear p6
  try clear hcz6_0
  try clear hcz6_1
  try clear hcz7_0
  try clear hcz7_1
  try clear hfz6_0
  try clear hfz6_1
  try clear hfz7_0
  try clear hfz7_1
  obtain⟨kq,x19_1,rfl,HA,HJ1,BK172001,HB⟩:=hcut
  cases kq with
  | zero=>exact absurd HA.out (by simp[ZX.j0])
  | succ kj1=>
   have H:=HA.out
   clear HA
   simp only[ZX.j0] at H
   by_cases c8:x19_1=true
   ·subst c8
    have H1:(some false)=some r:=by rw[if_pos rfl] at H;exact H
    clear H
    have H:=H1
    clear H1
    obtain rfl:=Zg H
    go_wp2
    go_ret
    exact⟨by first|rfl|(simp[ZA,Zz] <;> rfl)|(simp[*,ZA,Zz] <;> rfl),by repeat(first|(with_reducible first|exact HB.out|apply Zq|apply Zm|apply Zs|refine Zp ?_ GE172001.out)|exact HB.out)⟩
   ·replace c8:=Bool.eq_false_iff.mpr c8
    subst c8
    have H1:(ZX.l0 kj1 l0_1 (l0_1.length:Int) 0 a0_0 l0_1)=some r:=by rw[if_neg (show ¬(false=true) by decide)] at H;exact H
    clear H
    have H:=H1
    clear H1
    have H':=Za H
    clear H
    have hcz9_0:wc.cell? ⟨gb172001,0,none⟩=some (.int .i64 a0_0):=(Zu BK172001.out 0).trans rfl
    have hcz9_1:wc.cell? ⟨gb172001,1,none⟩=some (.slice A0_1 l0_1.length c0_1):=(Zu BK172001.out 1).trans rfl
    have hfz9_0:=Zt BK172001.out 0
    have hfz9_1:=Zt BK172001.out 1
    go_wp2
    go_loopg [23] kj1 (fun kq v23 w'=>∃(x23_2:Int),v23=.int .i64 x23_2∧Aside0 (ZX.l0 kq l0_1 (l0_1.length:Int) x23_2 a0_0 l0_1=some r)∧Aside0 (kq≤kj1)∧Aside0 (w'.heap[gb172001]? = some (.cells #[.int .i64 a0_0,(.slice A0_1 l0_1.length c0_1)] 90 (0,0)))∧Aside0 (Below w.heap.size w w'))
    case atStart=>exact⟨(0),(by first|rfl|(simp;done)|(simp[*];done)),H',⟨Nat.le_refl _⟩,⟨by(with_reducible repeat(first|refine Zo ?_ _|refine Zr ?_|refine Zn ?_ _));exact BK172001.out⟩,⟨by repeat(first|(with_reducible first|exact HB.out|apply Zq|apply Zm|apply Zs|refine Zp ?_ GE172001.out)|exact HB.out)⟩⟩
    case round=>
     clear H'
     try clear c1
     try clear p2
     try clear c5
     try clear p6
     try clear c8
     try clear hcz6_0
     try clear hcz6_1
     try clear hcz7_0
     try clear hcz7_1
     try clear hcz9_0
     try clear hcz9_1
     try clear hfz6_0
     try clear hfz6_1
     try clear hfz7_0
     try clear hfz7_1
     try clear hfz9_0
     try clear hfz9_1
     try clear p2
     try clear p6
     obtain⟨x23_2,rfl,HA,HK2,BK172001,HB⟩:=hrel
     cases gk with
     | zero=>exact absurd HA.out (by simp[ZX.l0])
     | succ k2=>
      have H:=HA.out
      clear HA
      simp only[ZX.l0] at H
      by_cases c10:x23_2<(l0_1.length:Int)
      ·rw[if_pos c10] at H
       have c10b0:decide (x23_2<(l0_1.length:Int))=true:=Ze c10
       clear c10
       by_cases c11:0≤x23_2
       ·rw[if_pos c11] at H
        have c11b0:decide (0≤x23_2)=true:=Ze c11
        clear c11
        by_cases c12:x23_2<(l0_1.length:Int)
        ·rw[if_pos c12] at H
         have c12b0:decide (x23_2<(l0_1.length:Int))=true:=Ze c12
         clear c12
         replace H:=Zh H
         obtain⟨t172004,A130,H⟩:=H
         replace H:(if t172004=true then(if (wrap64 (a0_0+1))=0 then(none) else(if (Int.tmod x23_2 (wrap64 (a0_0+1)))=0 then(if (rd l0_1 x23_2)=0 then(ZX.l0 k2 l0_1 (l0_1.length:Int) (wrap64 (x23_2+1)) a0_0 l0_1) else(some false)) else(ZX.l0 k2 l0_1 (l0_1.length:Int) (wrap64 (x23_2+1)) a0_0 l0_1))) else(some false))=some r:=H
         have A13:=Za A130;clear A130
         by_cases c14:t172004=true
         ·subst c14
          have H1:(if (wrap64 (a0_0+1))=0 then(none) else(if (Int.tmod x23_2 (wrap64 (a0_0+1)))=0 then(if (rd l0_1 x23_2)=0 then(ZX.l0 k2 l0_1 (l0_1.length:Int) (wrap64 (x23_2+1)) a0_0 l0_1) else(some false)) else(ZX.l0 k2 l0_1 (l0_1.length:Int) (wrap64 (x23_2+1)) a0_0 l0_1)))=some r:=by rw[if_pos rfl] at H;exact H
          clear H
          have H:=H1
          clear H1
          by_cases c15:(wrap64 (a0_0+1))=0
          ·rw[if_pos c15] at H
           exact absurd H (by simp)
          ·rw[if_neg c15] at H
           have c15b0:((wrap64 (a0_0+1)) == 0)=false:=beq_eq_false_iff_ne.mpr c15
           have c15b1:((wrap64 (a0_0+1)) != 0)=true:=bne_iff_ne.mpr c15
           by_cases c16:(Int.tmod x23_2 (wrap64 (a0_0+1)))=0
           ·rw[if_pos c16] at H
            have c16b0:((Int.tmod x23_2 (wrap64 (a0_0+1))) == 0)=true:=beq_iff_eq.mpr c16
            have c16b1:((Int.tmod x23_2 (wrap64 (a0_0+1))) != 0)=false:=bne_eq_false_iff_eq.mpr c16
            clear c16
            by_cases c17:(rd l0_1 x23_2)=0
            ·rw[if_pos c17] at H
             have c17b0:((rd l0_1 x23_2) == 0)=true:=beq_iff_eq.mpr c17
             have c17b1:((rd l0_1 x23_2) != 0)=false:=bne_eq_false_iff_eq.mpr c17
             clear c17
             have H':=Za H
             clear H
             have p172003:0≤(x23_2:Int):=Zd (by first|(with_reducible assumption)|assumption)
             have q172003:x23_2<(l0_1.length:Int):=Zd (by first|(with_reducible assumption)|assumption)
             obtain⟨ad172003,e172003,hx172003_0⟩:=Kd.at_int HR0_1.out x23_2 p172003 q172003
             cases e172003
             replace hx172003_0:=(HB.out.cell (Zc w _ hx172003_0)).trans hx172003_0
             replace p172003:=eq_true p172003
             replace q172003:=eq_true q172003
             go_wp2_with (first|((with_reducible refine ZG (f:=87) rfl ?_);refine ZV (some 29) rfl rfl Try.func87 (by kernel_rfl) rfl #[.int .i64 (rd l0_1 x23_2),.int .i64 (-1000000),.int .i64 1000000] rfl (by(try simp only[List.map_toArray,List.map_cons,List.map_nil]);first|done|rfl|(simp only[Zk,Zj];rfl)) ?_;(with_reducible refine(ZJ.calls (rd l0_1 x23_2) (-1000000) 1000000 true _ A13.out).mono ?_);rintro e w' ⟨rfl,⟨nd,rfl⟩⟩;refine⟨_,rfl,?_⟩;have hcz18_0:wr.cell? ⟨gb172001,0,none⟩=some (.int .i64 a0_0):=(Zu BK172001.out 0).trans rfl;have hcz18_1:wr.cell? ⟨gb172001,1,none⟩=some (.slice (some ad172003) l0_1.length c0_1):=(Zu BK172001.out 1).trans rfl;have hfz18_0:=Zt BK172001.out 0;have hfz18_1:=Zt BK172001.out 1))
             go_roundg k2
             case measure=>have:=HJ1.out;have:=HK2.out;omega
             case rel=>exact⟨(wrap64 (x23_2+1)),(by first|rfl|(simp;done)|(simp[*];done)),H',⟨by have:=HJ1.out;have:=HK2.out;omega⟩,⟨by(with_reducible repeat(first|refine Zo ?_ _|refine Zr ?_|refine Zn ?_ _));exact BK172001.out⟩,⟨by repeat(first|(with_reducible first|exact HB.out|apply Zq|apply Zm|apply Zs|refine Zp ?_ GE172001.out)|exact HB.out)⟩⟩
            ·rw[if_neg c17] at H
             have c17b0:((rd l0_1 x23_2) == 0)=false:=beq_eq_false_iff_ne.mpr c17
             have c17b1:((rd l0_1 x23_2) != 0)=true:=bne_iff_ne.mpr c17
             obtain rfl:=Zg H
             have p172003:0≤(x23_2:Int):=Zd (by first|(with_reducible assumption)|assumption)
             have q172003:x23_2<(l0_1.length:Int):=Zd (by first|(with_reducible assumption)|assumption)
             obtain⟨ad172003,e172003,hx172003_0⟩:=Kd.at_int HR0_1.out x23_2 p172003 q172003
             cases e172003
             replace hx172003_0:=(HB.out.cell (Zc w _ hx172003_0)).trans hx172003_0
             replace p172003:=eq_true p172003
             replace q172003:=eq_true q172003
             go_wp2_with (first|((with_reducible refine ZG (f:=87) rfl ?_);refine ZV (some 29) rfl rfl Try.func87 (by kernel_rfl) rfl #[.int .i64 (rd l0_1 x23_2),.int .i64 (-1000000),.int .i64 1000000] rfl (by(try simp only[List.map_toArray,List.map_cons,List.map_nil]);first|done|rfl|(simp only[Zk,Zj];rfl)) ?_;(with_reducible refine(ZJ.calls (rd l0_1 x23_2) (-1000000) 1000000 true _ A13.out).mono ?_);rintro e w' ⟨rfl,⟨nd,rfl⟩⟩;refine⟨_,rfl,?_⟩;have hcz19_0:wr.cell? ⟨gb172001,0,none⟩=some (.int .i64 a0_0):=(Zu BK172001.out 0).trans rfl;have hcz19_1:wr.cell? ⟨gb172001,1,none⟩=some (.slice (some ad172003) l0_1.length c0_1):=(Zu BK172001.out 1).trans rfl;have hfz19_0:=Zt BK172001.out 0;have hfz19_1:=Zt BK172001.out 1))
             go_ret
             exact⟨by first|rfl|(simp[ZA,Zz] <;> rfl)|(simp[*,ZA,Zz] <;> rfl),by repeat(first|(with_reducible first|exact HB.out|apply Zq|apply Zm|apply Zs|refine Zp ?_ GE172001.out)|exact HB.out)⟩
           ·rw[if_neg c16] at H
            have c16b0:((Int.tmod x23_2 (wrap64 (a0_0+1))) == 0)=false:=beq_eq_false_iff_ne.mpr c16
            have c16b1:((Int.tmod x23_2 (wrap64 (a0_0+1))) != 0)=true:=bne_iff_ne.mpr c16
            have H':=Za H
            clear H
            have p172003:0≤(x23_2:Int):=Zd (by first|(with_reducible assumption)|assumption)
            have q172003:x23_2<(l0_1.length:Int):=Zd (by first|(with_reducible assumption)|assumption)
            obtain⟨ad172003,e172003,hx172003_0⟩:=Kd.at_int HR0_1.out x23_2 p172003 q172003
            cases e172003
            replace hx172003_0:=(HB.out.cell (Zc w _ hx172003_0)).trans hx172003_0
            replace p172003:=eq_true p172003
            replace q172003:=eq_true q172003
            go_wp2_with (first|((with_reducible refine ZG (f:=87) rfl ?_);refine ZV (some 29) rfl rfl Try.func87 (by kernel_rfl) rfl #[.int .i64 (rd l0_1 x23_2),.int .i64 (-1000000),.int .i64 1000000] rfl (by(try simp only[List.map_toArray,List.map_cons,List.map_nil]);first|done|rfl|(simp only[Zk,Zj];rfl)) ?_;(with_reducible refine(ZJ.calls (rd l0_1 x23_2) (-1000000) 1000000 true _ A13.out).mono ?_);rintro e w' ⟨rfl,⟨nd,rfl⟩⟩;refine⟨_,rfl,?_⟩;have hcz20_0:wr.cell? ⟨gb172001,0,none⟩=some (.int .i64 a0_0):=(Zu BK172001.out 0).trans rfl;have hcz20_1:wr.cell? ⟨gb172001,1,none⟩=some (.slice (some ad172003) l0_1.length c0_1):=(Zu BK172001.out 1).trans rfl;have hfz20_0:=Zt BK172001.out 0;have hfz20_1:=Zt BK172001.out 1))
            go_roundg k2
            case measure=>have:=HJ1.out;have:=HK2.out;omega
            case rel=>exact⟨(wrap64 (x23_2+1)),(by first|rfl|(simp;done)|(simp[*];done)),H',⟨by have:=HJ1.out;have:=HK2.out;omega⟩,⟨by(with_reducible repeat(first|refine Zo ?_ _|refine Zr ?_|refine Zn ?_ _));exact BK172001.out⟩,⟨by repeat(first|(with_reducible first|exact HB.out|apply Zq|apply Zm|apply Zs|refine Zp ?_ GE172001.out)|exact HB.out)⟩⟩
         ·replace c14:=Bool.eq_false_iff.mpr c14
          subst c14
          have H1:(some false)=some r:=by rw[if_neg (show ¬(false=true) by decide)] at H;exact H
          clear H
          have H:=H1
          clear H1
          obtain rfl:=Zg H
          have p172003:0≤(x23_2:Int):=Zd (by first|(with_reducible assumption)|assumption)
          have q172003:x23_2<(l0_1.length:Int):=Zd (by first|(with_reducible assumption)|assumption)
          obtain⟨ad172003,e172003,hx172003_0⟩:=Kd.at_int HR0_1.out x23_2 p172003 q172003
          cases e172003
          replace hx172003_0:=(HB.out.cell (Zc w _ hx172003_0)).trans hx172003_0
          replace p172003:=eq_true p172003
          replace q172003:=eq_true q172003
          go_wp2_with (first|((with_reducible refine ZG (f:=87) rfl ?_);refine ZV (some 29) rfl rfl Try.func87 (by kernel_rfl) rfl #[.int .i64 (rd l0_1 x23_2),.int .i64 (-1000000),.int .i64 1000000] rfl (by(try simp only[List.map_toArray,List.map_cons,List.map_nil]);first|done|rfl|(simp only[Zk,Zj];rfl)) ?_;(with_reducible refine(ZJ.calls (rd l0_1 x23_2) (-1000000) 1000000 false _ A13.out).mono ?_);rintro e w' ⟨rfl,⟨nd,rfl⟩⟩;refine⟨_,rfl,?_⟩))
          go_ret
          exact⟨by first|rfl|(simp[ZA,Zz] <;> rfl)|(simp[*,ZA,Zz] <;> rfl),by repeat(first|(with_reducible first|exact HB.out|apply Zq|apply Zm|apply Zs|refine Zp ?_ GE172001.out)|exact HB.out)⟩
        ·rw[if_neg c12] at H
         exact absurd H (by simp)
       ·rw[if_neg c11] at H
        exact absurd H (by simp)
      ·rw[if_neg c10] at H
       have c10b0:decide (x23_2<(l0_1.length:Int))=false:=Zf c10
       clear c10
       obtain rfl:=Zg H
       go_wp2
       go_ret
       exact⟨by first|rfl|(simp[ZA,Zz] <;> rfl)|(simp[*,ZA,Zz] <;> rfl),by repeat(first|(with_reducible first|exact HB.out|apply Zq|apply Zm|apply Zs|refine Zp ?_ GE172001.out)|exact HB.out)⟩
def ZaF.f (a0_0:Int) (l0_1:List Int) (a1:Int) (a2:Int):Option (Int):=if 0≤(wrap64 ((wrap64 (a1 * a0_0))+a2)) then(if (wrap64 ((wrap64 (a1 * a0_0))+a2))<(l0_1.length:Int) then(some (rd l0_1 (wrap64 ((wrap64 (a1 * a0_0))+a2)))) else(none)) else(none)
set_option maxHeartbeats 8000000 in
set_option maxRecDepth 100000 in
theorem ZaF.calls (a0_0:Int) (A0_1:Option Addr) (c0_1:Nat) (l0_1:List Int) (a1:Int) (a2:Int) (r:Int) (w:World) (hr0_1:Kd.C (Kd.int .i64) w A0_1 l0_1.length l0_1) (hc0_1:l0_1.length≤c0_1) (h:ZaF.f a0_0 l0_1 a1 a2=some r) :
  Calls Try.prog 173 #[.agg #[.int .i64 a0_0,.slice A0_1 l0_1.length c0_1],.int .i64 a1,.int .i64 a2] w fun e w'=>e=.returned (.int .i64 r)∧Below w.heap.size w w':=by
 have hu90:=Try.underlying90
 have HR0_1:=Za hr0_1;have HC0_1:=Za hc0_1;clear hr0_1 hc0_1
 have HB:=Za (Below.refl w.heap.size w)
 have H:(if 0≤(wrap64 ((wrap64 (a1 * a0_0))+a2)) then(if (wrap64 ((wrap64 (a1 * a0_0))+a2))<(l0_1.length:Int) then(some (rd l0_1 (wrap64 ((wrap64 (a1 * a0_0))+a2)))) else(none)) else(none))=some r:=h
 clear h
 obtain⟨ji4,hji4⟩:∃j_:Int,(wrap64 ((wrap64 (a1 * a0_0))+a2))=j_:=⟨_,rfl⟩
 replace H:(if 0≤(ji4) then(if (ji4)<(l0_1.length:Int) then(some (rd l0_1 (ji4))) else(none)) else(none))=some r:=by first|(rw[hji4] at H;exact H)|(simp only[hji4] at H ⊢;exact H)
 have hji4w:(IntKind.i64.wrap ((wrap64 (a1 * a0_0))+a2))=ji4:=(ZO _).trans hji4
 by_cases c5:0≤(ji4)
 ·rw[if_pos c5] at H
  have c5b0:decide (0≤(ji4))=true:=Ze c5
  clear c5
  by_cases c6:(ji4)<(l0_1.length:Int)
  ·rw[if_pos c6] at H
   have c6b0:decide ((ji4)<(l0_1.length:Int))=true:=Ze c6
   clear c6
   obtain rfl:=Zg H
   go_enter Try.func173,Try.ntmps173
   go_wp2_with (first|((with_reducible refine ZC (N:=3) rfl ?_);refine ZE ?hg (N:=3) ?hd (cs:=#[.int .i64 a0_0,.slice A0_1 l0_1.length c0_1]) (t:=90) ?hr ?_;(case hd=>rfl);(case hg=>rfl);(case hr=>first|(go_simp;done)|(go_simp;rfl));intro gb173001 hg w7 hbox hb;have n0_:=Za (Zy (by repeat(first|(with_reducible first|exact HB.out|apply Zq|apply Zm|apply Zs)|exact HB.out)) hb);have n1_:=Za (hbox);have n2_:=Za ((by rw[hg];exact(Zv (by repeat(first|(with_reducible first|exact HB.out|apply Zq|apply Zm|apply Zs)|exact HB.out))):w.heap.size≤gb173001));have n3_:=Za ((by rw[hg];exact(Zv (by repeat(first|(with_reducible first|exact HB.out|apply Zq|apply Zm|apply Zs)|exact HB.out))):w.heap.size≤gb173001));clear HB;have HB:=n0_;have BK173001:=n1_;have GW173001:=n2_;have GE173001:=n3_;clear n0_ n1_ n2_ n3_;clear hb hbox hg;have hcz8_0:w7.cell? ⟨gb173001,0,none⟩=some (.int .i64 a0_0):=(Zu BK173001.out 0).trans rfl;have hcz8_1:w7.cell? ⟨gb173001,1,none⟩=some (.slice A0_1 l0_1.length c0_1):=(Zu BK173001.out 1).trans rfl;have hfz8_0:=Zt BK173001.out 0;have hfz8_1:=Zt BK173001.out 1;have p173002:0≤((ji4):Int):=Zd (by first|(with_reducible assumption)|assumption);have q173002:(ji4)<(l0_1.length:Int):=Zd (by first|(with_reducible assumption)|assumption);obtain⟨ad173002,e173002,hx173002_0⟩:=Kd.at_int HR0_1.out (ji4) p173002 q173002;cases e173002;replace hx173002_0:=(HB.out.cell (Zc w _ hx173002_0)).trans hx173002_0;replace p173002:=eq_true p173002;replace q173002:=eq_true q173002))
   go_ret
   exact⟨by first|rfl|(simp[ZA,Zz] <;> rfl)|(simp only[← hji4];first|rfl|(simp[ZA,Zz] <;> rfl))|(simp[*,ZA,Zz] <;> rfl),by repeat(first|(with_reducible first|exact HB.out|apply Zq|apply Zm|apply Zs|refine Zp ?_ GE173001.out)|exact HB.out)⟩
  ·rw[if_neg c6] at H
   exact absurd H (by simp)
 ·rw[if_neg c5] at H
  exact absurd H (by simp)
def ZH.j0:Nat→Int→Int→Bool→Int→List Int→Option (Int×Int×Bool)
 | 0,_,_,_,_,_=>none
 | k+1,x1,x2,x27,x135002000,x135002001=>if x27=true then(some (0,0,false)) else((ZaF.f x135002000 x135002001 x2 x1).bind fun t135006=>((ZaF.f x135002000 x135002001 x1 x2).bind fun t135007=>((Zao.f (wrap64 (-t135006)) t135007).bind fun t135009=>(if t135009=true then(some (wrap64 (-t135006),t135007,true)) else(some (0,0,false))))))
def ZH.f (k:Nat) (a0_0:Int) (l0_1:List Int) (a1:Int) (a2:Int):Option (Int×Int×Bool):=(ZX.f k a0_0 l0_1).bind fun t135003=>(if t135003=true then((ZJ.f a1 0 (wrap64 (a0_0 - 1))).bind fun t135004=>(if t135004=true then((ZJ.f a2 0 (wrap64 (a0_0 - 1))).bind fun t135005=>(ZH.j0 k a1 a2 (!t135005) a0_0 l0_1)) else(ZH.j0 k a1 a2 true a0_0 l0_1))) else(ZH.j0 k a1 a2 true a0_0 l0_1))
def ZH.T3:Bool×List (List Nat×List Nat):=(true,[([],[]),([],[]),([],[]),([0,1,2],[0,1,2]),([3],[3]),([],[]),([],[]),([],[]),([5,6,7,3],[5,6,7]),([4,8],[4,8]),([],[]),([10,9,8,0,1,2,3,4,5,6,7,8,9,10],[9,10])])
def ZH.B3:List Nat:=[0,0,0,7,15,0,0,0,239,511,0,2047]
theorem ZH.tab3:rtab .any (opsOf Try.f135 3)=ZH.T3:=by kernel_rfl
theorem ZH.bits3:ZbC ZH.T3.2 ZH.B3=true:=by kernel_rfl
set_option maxHeartbeats 8000000 in
set_option maxRecDepth 100000 in
theorem ZH.calls (k:Nat) (a0_0:Int) (A0_1:Option Addr) (c0_1:Nat) (l0_1:List Int) (a1:Int) (a2:Int) (r1:Int) (r2:Int) (r3:Bool) (w:World) (hr0_1:Kd.C (Kd.int .i64) w A0_1 l0_1.length l0_1) (hc0_1:l0_1.length≤c0_1) (h:ZH.f k a0_0 l0_1 a1 a2=some (r1,r2,r3)) :
  Calls Try.prog 135 #[.agg #[.int .i64 a0_0,.slice A0_1 l0_1.length c0_1],.int .i64 a1,.int .i64 a2] w fun e w'=>e=.returned (.tuple #[.agg #[.int .i64 r1,.int .i64 r2],.bool r3])∧Below w.heap.size w w':=by
 have hu90:=Try.underlying90
 have hu29:=Try.underlying29
 have HR0_1:=Za hr0_1;have HC0_1:=Za hc0_1;clear hr0_1 hc0_1
 have HB:=Za (Below.refl w.heap.size w)
 have H:((ZX.f k a0_0 l0_1).bind fun t135003=>(if t135003=true then((ZJ.f a1 0 (wrap64 (a0_0 - 1))).bind fun t135004=>(if t135004=true then((ZJ.f a2 0 (wrap64 (a0_0 - 1))).bind fun t135005=>(ZH.j0 k a1 a2 (!t135005) a0_0 l0_1)) else(ZH.j0 k a1 a2 true a0_0 l0_1))) else(ZH.j0 k a1 a2 true a0_0 l0_1)))=some (r1,r2,r3):=h
 clear h;have HC4:=Za H;clear H
 go_enter Try.func135,Try.ntmps135
 go_upto_region 1 with (first|((with_reducible refine ZC (N:=3) rfl ?_);refine ZE ?hg (N:=3) ?hd (cs:=#[.int .i64 a0_0,.slice A0_1 l0_1.length c0_1]) (t:=90) ?hr ?_;(case hd=>rfl);(case hg=>rfl);(case hr=>first|(go_simp;done)|(go_simp;rfl));intro gb135001 hg w5 hbox hb;have n0_:=Za (Zy (by repeat(first|(with_reducible first|exact HB.out|apply Zq|apply Zm|apply Zs)|exact HB.out)) hb);have n1_:=Za (hbox);have n2_:=Za ((by rw[hg];exact(Zv (by repeat(first|(with_reducible first|exact HB.out|apply Zq|apply Zm|apply Zs)|exact HB.out))):w.heap.size≤gb135001));have n3_:=Za ((by rw[hg];exact(Zv (by repeat(first|(with_reducible first|exact HB.out|apply Zq|apply Zm|apply Zs)|exact HB.out))):w.heap.size≤gb135001));clear HB;have HB:=n0_;have BK135001:=n1_;have GW135001:=n2_;have GE135001:=n3_;clear n0_ n1_ n2_ n3_;clear hb hbox hg)|((with_reducible refine ZC (N:=6) rfl ?_);refine ZE ?hg (N:=6) ?hd (cs:=#[.int .i64 0,.int .i64 0]) (t:=29) ?hr ?_;(case hd=>rfl);(case hg=>rfl);(case hr=>first|(go_simp;done)|(go_simp;rfl));intro gb135002 hg w6 hbox hb;have n0_:=Za (Zx (g:=gb135001) (o:=.cells #[.int .i64 a0_0,.slice A0_1 l0_1.length c0_1] 90 (0,0)) (by(with_reducible repeat(first|refine Zo ?_ _|refine Zr ?_|refine Zn ?_ _));exact BK135001.out) hb);have n1_:=Za (Zy (by repeat(first|(with_reducible first|exact HB.out|apply Zq|apply Zm|apply Zs|refine Zp ?_ GE135001.out)|exact HB.out)) hb);have n2_:=Za (hbox);have n3_:=Za ((by rw[hg];exact(Zv (by repeat(first|(with_reducible first|exact HB.out|apply Zq|apply Zm|apply Zs|refine Zp ?_ GE135001.out)|exact HB.out))):w.heap.size≤gb135002));have n4_:=Za ((by rw[hg];exact(Zv (by repeat(first|(with_reducible first|exact HB.out|apply Zq|apply Zm|apply Zs|refine Zp ?_ GE135001.out)|exact HB.out))):w.heap.size≤gb135002));have n5_:=Za ((by rw[hg];exact Nat.ne_of_lt (ZB (g:=gb135001) (o:=.cells #[.int .i64 a0_0,.slice A0_1 l0_1.length c0_1] 90 (0,0)) (by(with_reducible repeat(first|refine Zo ?_ _|refine Zr ?_|refine Zn ?_ _));exact BK135001.out)):gb135001≠gb135002));have n6_:=Za ((by rw[hg];exact Nat.ne_of_gt (ZB (g:=gb135001) (o:=.cells #[.int .i64 a0_0,.slice A0_1 l0_1.length c0_1] 90 (0,0)) (by(with_reducible repeat(first|refine Zo ?_ _|refine Zr ?_|refine Zn ?_ _));exact BK135001.out)):gb135002≠gb135001));clear BK135001;clear HB;have BK135001:=n0_;have HB:=n1_;have BK135002:=n2_;have GW135002:=n3_;have GE135002:=n4_;have NB135001_135002:=n5_;have NB135002_135001:=n6_;clear n0_ n1_ n2_ n3_ n4_ n5_ n6_;clear hb hbox hg))
 (try simp only[Act.put,List.setIfInBounds_toArray,List.set_cons_zero,List.set_cons_succ])
 go_cut [27] (fun v27 wc=>∃(kq:Nat) (x27_3:Bool),v27=.bool x27_3∧Aside0 (ZH.j0 kq a1 a2 x27_3 a0_0 l0_1=some (r1,r2,r3))∧Aside0 (kq≤k)∧Aside0 (wc.heap[gb135001]? = some (.cells #[.int .i64 a0_0,(.slice A0_1 l0_1.length c0_1)] 90 (0,0)))∧Aside0 (wc.heap[gb135002]? = some (.cells #[.int .i64 0,.int .i64 0] 29 (0,0)))∧Aside0 (Below w.heap.size w wc))
 case first=>
  have H:=HC4.out
  clear HC4
  replace H:=Zh H
  obtain⟨t135003,A70,H⟩:=H
  replace H:(if t135003=true then((ZJ.f a1 0 (wrap64 (a0_0 - 1))).bind fun t135004=>(if t135004=true then((ZJ.f a2 0 (wrap64 (a0_0 - 1))).bind fun t135005=>(ZH.j0 k a1 a2 (!t135005) a0_0 l0_1)) else(ZH.j0 k a1 a2 true a0_0 l0_1))) else(ZH.j0 k a1 a2 true a0_0 l0_1))=some (r1,r2,r3):=H
  have A7:=Za A70;clear A70
  by_cases c8:t135003=true
  ·subst c8
   have H1:((ZJ.f a1 0 (wrap64 (a0_0 - 1))).bind fun t135004=>(if t135004=true then((ZJ.f a2 0 (wrap64 (a0_0 - 1))).bind fun t135005=>(ZH.j0 k a1 a2 (!t135005) a0_0 l0_1)) else(ZH.j0 k a1 a2 true a0_0 l0_1)))=some (r1,r2,r3):=by rw[if_pos rfl] at H;exact H
   clear H
   have H:=H1
   clear H1
   replace H:=Zh H
   obtain⟨t135004,A90,H⟩:=H
   replace H:(if t135004=true then((ZJ.f a2 0 (wrap64 (a0_0 - 1))).bind fun t135005=>(ZH.j0 k a1 a2 (!t135005) a0_0 l0_1)) else(ZH.j0 k a1 a2 true a0_0 l0_1))=some (r1,r2,r3):=H
   have A9:=Za A90;clear A90
   by_cases c10:t135004=true
   ·subst c10
    have H1:((ZJ.f a2 0 (wrap64 (a0_0 - 1))).bind fun t135005=>(ZH.j0 k a1 a2 (!t135005) a0_0 l0_1))=some (r1,r2,r3):=by rw[if_pos rfl] at H;exact H
    clear H
    have H:=H1
    clear H1
    replace H:=Zh H
    obtain⟨t135005,A110,H⟩:=H
    replace H:(ZH.j0 k a1 a2 (!t135005) a0_0 l0_1)=some (r1,r2,r3):=H
    have A11:=Za A110;clear A110
    have H':=Za H
    clear H
    have hnb12:=NB135001_135002.out
    have hnc12:=NB135002_135001.out
    have hcz13_0:w6.cell? ⟨gb135001,0,none⟩=some (.int .i64 a0_0):=(Zu BK135001.out 0).trans rfl
    have hcz13_1:w6.cell? ⟨gb135001,1,none⟩=some (.slice A0_1 l0_1.length c0_1):=(Zu BK135001.out 1).trans rfl
    have hfz13_0:=Zt BK135001.out 0
    have hfz13_1:=Zt BK135001.out 1
    go_wp2_with (first|((with_reducible refine ZG (f:=172) rfl ?_);refine ZV (some 10) rfl rfl Try.func172 (by kernel_rfl) rfl #[.agg #[.int .i64 a0_0,.slice A0_1 l0_1.length c0_1]] rfl (by(try simp only[List.map_toArray,List.map_cons,List.map_nil]);first|done|rfl|(simp only[Zk,Zj];rfl)) ?_;(with_reducible refine(ZX.calls k a0_0 _ _ l0_1 true _ ?side1 ?side2 A7.out).mono ?_);(case side1=>repeat(first|exact(Zb HR0_1.out HB.out)|(with_reducible refine Kd.C_alloc ?_ _)|(with_reducible refine Kd.C_drewN ?_ _)|(with_reducible refine Kd.C_drew ?_)));(case side2=>exact HC0_1.out);rintro e w14 ⟨rfl,hb⟩;refine⟨_,rfl,?_⟩;have n0_:=Za (Zx (g:=gb135001) (o:=.cells #[.int .i64 a0_0,.slice A0_1 l0_1.length c0_1] 90 (0,0)) (by(with_reducible repeat(first|refine Zo ?_ _|refine Zr ?_|refine Zn ?_ _));exact BK135001.out) hb);have n1_:=Za (Zx (g:=gb135002) (o:=.cells #[.int .i64 0,.int .i64 0] 29 (0,0)) (by(with_reducible repeat(first|refine Zo ?_ _|refine Zr ?_|refine Zn ?_ _));exact BK135002.out) hb);have n2_:=Za (Zy (by repeat(first|(with_reducible first|exact HB.out|apply Zq|apply Zm|apply Zs|refine Zp ?_ GE135001.out|refine Zp ?_ GE135002.out)|exact HB.out)) hb);clear BK135001;clear BK135002;clear HB;have BK135001:=n0_;have BK135002:=n1_;have HB:=n2_;clear n0_ n1_ n2_;(try clear hb);(try clear hb2);(try clear hk);(try clear hi);have hcz15_0:w14.cell? ⟨gb135001,0,none⟩=some (.int .i64 a0_0):=(Zu BK135001.out 0).trans rfl;have hcz15_1:w14.cell? ⟨gb135001,1,none⟩=some (.slice A0_1 l0_1.length c0_1):=(Zu BK135001.out 1).trans rfl;have hfz15_0:=Zt BK135001.out 0;have hfz15_1:=Zt BK135001.out 1)|(go_at_call 87;(with_reducible refine(ZJ.calls a1 0 (wrap64 (a0_0 - 1)) true _ A9.out).mono ?_);rintro e w' ⟨rfl,⟨nd,rfl⟩⟩)|(go_at_call 87;(with_reducible refine(ZJ.calls a2 0 (wrap64 (a0_0 - 1)) t135005 _ A11.out).mono ?_);rintro e w' ⟨rfl,⟨nd,rfl⟩⟩))
    go_meet
    case rel=>exact⟨_,(!t135005),(by first|rfl|(simp;done)|(simp[*];done)),H',⟨by first|omega|exact Nat.le_refl _⟩,⟨by(with_reducible repeat(first|refine Zo ?_ _|refine Zr ?_|refine Zn ?_ _));exact BK135001.out⟩,⟨by(with_reducible repeat(first|refine Zo ?_ _|refine Zr ?_|refine Zn ?_ _));exact BK135002.out⟩,⟨by repeat(first|(with_reducible first|exact HB.out|apply Zq|apply Zm|apply Zs|refine Zp ?_ GE135001.out|refine Zp ?_ GE135002.out)|exact HB.out)⟩⟩
   ·replace c10:=Bool.eq_false_iff.mpr c10
    subst c10
    have H1:(ZH.j0 k a1 a2 true a0_0 l0_1)=some (r1,r2,r3):=by rw[if_neg (show ¬(false=true) by decide)] at H;exact H
    clear H
    have H:=H1
    clear H1
    have H':=Za H
    clear H
    have hnb16:=NB135001_135002.out
    have hnc16:=NB135002_135001.out
    have hcz17_0:w6.cell? ⟨gb135001,0,none⟩=some (.int .i64 a0_0):=(Zu BK135001.out 0).trans rfl
    have hcz17_1:w6.cell? ⟨gb135001,1,none⟩=some (.slice A0_1 l0_1.length c0_1):=(Zu BK135001.out 1).trans rfl
    have hfz17_0:=Zt BK135001.out 0
    have hfz17_1:=Zt BK135001.out 1
    go_wp2_with (first|((with_reducible refine ZG (f:=172) rfl ?_);refine ZV (some 10) rfl rfl Try.func172 (by kernel_rfl) rfl #[.agg #[.int .i64 a0_0,.slice A0_1 l0_1.length c0_1]] rfl (by(try simp only[List.map_toArray,List.map_cons,List.map_nil]);first|done|rfl|(simp only[Zk,Zj];rfl)) ?_;(with_reducible refine(ZX.calls k a0_0 _ _ l0_1 true _ ?side1 ?side2 A7.out).mono ?_);(case side1=>repeat(first|exact(Zb HR0_1.out HB.out)|(with_reducible refine Kd.C_alloc ?_ _)|(with_reducible refine Kd.C_drewN ?_ _)|(with_reducible refine Kd.C_drew ?_)));(case side2=>exact HC0_1.out);rintro e w18 ⟨rfl,hb⟩;refine⟨_,rfl,?_⟩;have n0_:=Za (Zx (g:=gb135001) (o:=.cells #[.int .i64 a0_0,.slice A0_1 l0_1.length c0_1] 90 (0,0)) (by(with_reducible repeat(first|refine Zo ?_ _|refine Zr ?_|refine Zn ?_ _));exact BK135001.out) hb);have n1_:=Za (Zx (g:=gb135002) (o:=.cells #[.int .i64 0,.int .i64 0] 29 (0,0)) (by(with_reducible repeat(first|refine Zo ?_ _|refine Zr ?_|refine Zn ?_ _));exact BK135002.out) hb);have n2_:=Za (Zy (by repeat(first|(with_reducible first|exact HB.out|apply Zq|apply Zm|apply Zs|refine Zp ?_ GE135001.out|refine Zp ?_ GE135002.out)|exact HB.out)) hb);clear BK135001;clear BK135002;clear HB;have BK135001:=n0_;have BK135002:=n1_;have HB:=n2_;clear n0_ n1_ n2_;(try clear hb);(try clear hb2);(try clear hk);(try clear hi);have hcz19_0:w18.cell? ⟨gb135001,0,none⟩=some (.int .i64 a0_0):=(Zu BK135001.out 0).trans rfl;have hcz19_1:w18.cell? ⟨gb135001,1,none⟩=some (.slice A0_1 l0_1.length c0_1):=(Zu BK135001.out 1).trans rfl;have hfz19_0:=Zt BK135001.out 0;have hfz19_1:=Zt BK135001.out 1)|(go_at_call 87;(with_reducible refine(ZJ.calls a1 0 (wrap64 (a0_0 - 1)) false _ A9.out).mono ?_);rintro e w' ⟨rfl,⟨nd,rfl⟩⟩))
    go_meet
    case rel=>exact⟨_,(true),(by first|rfl|(simp;done)|(simp[*];done)),H',⟨by first|omega|exact Nat.le_refl _⟩,⟨by(with_reducible repeat(first|refine Zo ?_ _|refine Zr ?_|refine Zn ?_ _));exact BK135001.out⟩,⟨by(with_reducible repeat(first|refine Zo ?_ _|refine Zr ?_|refine Zn ?_ _));exact BK135002.out⟩,⟨by repeat(first|(with_reducible first|exact HB.out|apply Zq|apply Zm|apply Zs|refine Zp ?_ GE135001.out|refine Zp ?_ GE135002.out)|exact HB.out)⟩⟩
  ·replace c8:=Bool.eq_false_iff.mpr c8
   subst c8
   have H1:(ZH.j0 k a1 a2 true a0_0 l0_1)=some (r1,r2,r3):=by rw[if_neg (show ¬(false=true) by decide)] at H;exact H
   clear H
   have H:=H1
   clear H1
   have H':=Za H
   clear H
   have hnb20:=NB135001_135002.out
   have hnc20:=NB135002_135001.out
   have hcz21_0:w6.cell? ⟨gb135001,0,none⟩=some (.int .i64 a0_0):=(Zu BK135001.out 0).trans rfl
   have hcz21_1:w6.cell? ⟨gb135001,1,none⟩=some (.slice A0_1 l0_1.length c0_1):=(Zu BK135001.out 1).trans rfl
   have hfz21_0:=Zt BK135001.out 0
   have hfz21_1:=Zt BK135001.out 1
   go_wp2_with (first|((with_reducible refine ZG (f:=172) rfl ?_);refine ZV (some 10) rfl rfl Try.func172 (by kernel_rfl) rfl #[.agg #[.int .i64 a0_0,.slice A0_1 l0_1.length c0_1]] rfl (by(try simp only[List.map_toArray,List.map_cons,List.map_nil]);first|done|rfl|(simp only[Zk,Zj];rfl)) ?_;(with_reducible refine(ZX.calls k a0_0 _ _ l0_1 false _ ?side1 ?side2 A7.out).mono ?_);(case side1=>repeat(first|exact(Zb HR0_1.out HB.out)|(with_reducible refine Kd.C_alloc ?_ _)|(with_reducible refine Kd.C_drewN ?_ _)|(with_reducible refine Kd.C_drew ?_)));(case side2=>exact HC0_1.out);rintro e w22 ⟨rfl,hb⟩;refine⟨_,rfl,?_⟩;have n0_:=Za (Zx (g:=gb135001) (o:=.cells #[.int .i64 a0_0,.slice A0_1 l0_1.length c0_1] 90 (0,0)) (by(with_reducible repeat(first|refine Zo ?_ _|refine Zr ?_|refine Zn ?_ _));exact BK135001.out) hb);have n1_:=Za (Zx (g:=gb135002) (o:=.cells #[.int .i64 0,.int .i64 0] 29 (0,0)) (by(with_reducible repeat(first|refine Zo ?_ _|refine Zr ?_|refine Zn ?_ _));exact BK135002.out) hb);have n2_:=Za (Zy (by repeat(first|(with_reducible first|exact HB.out|apply Zq|apply Zm|apply Zs|refine Zp ?_ GE135001.out|refine Zp ?_ GE135002.out)|exact HB.out)) hb);clear BK135001;clear BK135002;clear HB;have BK135001:=n0_;have BK135002:=n1_;have HB:=n2_;clear n0_ n1_ n2_;(try clear hb);(try clear hb2);(try clear hk);(try clear hi)))
   go_meet
   case rel=>exact⟨_,(true),(by first|rfl|(simp;done)|(simp[*];done)),H',⟨by first|omega|exact Nat.le_refl _⟩,⟨by(with_reducible repeat(first|refine Zo ?_ _|refine Zr ?_|refine Zn ?_ _));exact BK135001.out⟩,⟨by(with_reducible repeat(first|refine Zo ?_ _|refine Zr ?_|refine Zn ?_ _));exact BK135002.out⟩,⟨by repeat(first|(with_reducible first|exact HB.out|apply Zq|apply Zm|apply Zs|refine Zp ?_ GE135001.out|refine Zp ?_ GE135002.out)|exact HB.out)⟩⟩
 case rest=>
  clear HC4
  try clear c1
  try clear c2
  try clear p2
  try clear p6
  try clear c8
  try clear c10
  try clear c12
  try clear c13
  try clear c16
  try clear c17
  try clear c20
  try clear hcz13_0
  try clear hcz13_1
  try clear hcz15_0
  try clear hcz15_1
  try clear hcz17_0
  try clear hcz17_1
  try clear hcz19_0
  try clear hcz19_1
  try clear hcz21_0
  try clear hcz21_1
  try clear hfz13_0
  try clear hfz13_1
  try clear hfz15_0
  try clear hfz15_1
  try clear hfz17_0
  try clear hfz17_1
  try clear hfz19_0
  try clear hfz19_1
  try clear hfz21_0
  try clear hfz21_1
  obtain⟨kq,x27_3,rfl,HA,HJ3,BK135001,BK135002,HB⟩:=hcut
  cases kq with
  | zero=>exact absurd HA.out (by simp[ZH.j0])
  | succ kj3=>
   have H:=HA.out
   clear HA
   simp only[ZH.j0] at H
   by_cases c23:x27_3=true
   ·subst c23
    have H1:(some (0,0,false))=some (r1,r2,r3):=by rw[if_pos rfl] at H;exact H
    clear H
    have H:=H1
    clear H1
    simp only[Option.some.injEq,Prod.mk.injEq] at H
    obtain⟨rfl,rfl,rfl⟩:=H
    have hnb24:=NB135002_135001.out
    have hnc24:=NB135001_135002.out
    have hcz25_0:wc.cell? ⟨gb135002,0,none⟩=some (.int .i64 0):=(Zu BK135002.out 0).trans rfl
    have hcz25_1:wc.cell? ⟨gb135002,1,none⟩=some (.int .i64 0):=(Zu BK135002.out 1).trans rfl
    have hfz25_0:=Zt BK135002.out 0
    have hfz25_1:=Zt BK135002.out 1
    go_wp2
    refine bodyPost_ret (Zab rfl _ _ gb135002 29 #[.int .i64 0,.int .i64 0] (0,0) _ rfl (by(with_reducible repeat(first|refine Zo ?_ _|refine Zr ?_|refine Zn ?_ _));refine ZF (cs:=#[.int .i64 0,.int .i64 0]) ?_ 1 _ rfl;(with_reducible repeat(first|refine Zo ?_ _|refine Zr ?_|refine Zn ?_ _));refine ZF (cs:=#[.int .i64 0,.int .i64 0]) ?_ 0 _ rfl;(with_reducible repeat(first|refine Zo ?_ _|refine Zr ?_|refine Zn ?_ _));exact BK135002.out) Try.underlying29 rfl (by kernel_rfl)) rfl ?_
    exact⟨by first|rfl|(simp[ZA,Zz] <;> rfl)|(simp[*,ZA,Zz] <;> rfl),by repeat(first|(with_reducible first|exact HB.out|apply Zq|apply Zm|apply Zs|refine Zp ?_ GE135001.out|refine Zp ?_ GE135002.out)|exact HB.out)⟩
   ·replace c23:=Bool.eq_false_iff.mpr c23
    subst c23
    have H1:((ZaF.f a0_0 l0_1 a2 a1).bind fun t135006=>((ZaF.f a0_0 l0_1 a1 a2).bind fun t135007=>((Zao.f (wrap64 (-t135006)) t135007).bind fun t135009=>(if t135009=true then(some (wrap64 (-t135006),t135007,true)) else(some (0,0,false))))))=some (r1,r2,r3):=by rw[if_neg (show ¬(false=true) by decide)] at H;exact H
    clear H
    have H:=H1
    clear H1
    replace H:=Zh H
    obtain⟨t135006,A260,H⟩:=H
    replace H:((ZaF.f a0_0 l0_1 a1 a2).bind fun t135007=>((Zao.f (wrap64 (-t135006)) t135007).bind fun t135009=>(if t135009=true then(some (wrap64 (-t135006),t135007,true)) else(some (0,0,false)))))=some (r1,r2,r3):=H
    have A26:=Za A260;clear A260
    replace H:=Zh H
    obtain⟨t135007,A270,H⟩:=H
    replace H:((Zao.f (wrap64 (-t135006)) t135007).bind fun t135009=>(if t135009=true then(some (wrap64 (-t135006),t135007,true)) else(some (0,0,false))))=some (r1,r2,r3):=H
    have A27:=Za A270;clear A270
    replace H:=Zh H
    obtain⟨t135009,A280,H⟩:=H
    replace H:(if t135009=true then(some (wrap64 (-t135006),t135007,true)) else(some (0,0,false)))=some (r1,r2,r3):=H
    have A28:=Za A280;clear A280
    by_cases c29:t135009=true
    ·subst c29
     have H1:(some (wrap64 (-t135006),t135007,true))=some (r1,r2,r3):=by rw[if_pos rfl] at H;exact H
     clear H
     have H:=H1
     clear H1
     simp only[Option.some.injEq,Prod.mk.injEq] at H
     obtain⟨rfl,rfl,rfl⟩:=H
     try go_wp2
     have n0_:=Za (Zr BK135001.out)
     have n1_:=Za (Zr BK135002.out)
     have n2_:=Za (Zs HB.out)
     clear BK135001 BK135002 HB;have BK135001:=n0_;have BK135002:=n1_;have HB:=n2_;clear n0_ n1_ n2_
     refine ZbU (n:=12) (S:=fun w'=>w'.cell? ⟨gb135001,0,none⟩=some (.int .i64 a0_0)∧w'.cell? ⟨gb135001,1,none⟩=some (.slice A0_1 l0_1.length c0_1)) (ds:=[]) #[false,false,false,false,false,false,false,false,false,false,false,false] (by kernel_rfl) rfl rfl ⟨(Zu BK135001.out 0).trans rfl,(Zu BK135001.out 1).trans rfl⟩ (fun hHeld=>?_);refine ZbE ZH.tab3 ZH.bits3 (fun HT_ HW_=>?_)
     generalize wc.drew=w30 at BK135001 BK135002 HB hHeld ⊢
     refine Zaf (i:=1) (N:=some 30) (v:=?_) (a':=?_) #[false,true,false,false,false,false,false,false,false,false,false,false] rfl rfl (Zac HT_.out (by kernel_rfl)) (fun _ _ _ h=>h) (Or.inl ⟨by rfl,?_⟩) ?_ ?_
     rotate_left
     ·intro w'
      go_simp
      with_reducible rfl
     rotate_left
     ·simp only[Act.put,List.setIfInBounds_toArray,List.set_cons_zero,List.set_cons_succ,ZO,ZP]
      rfl
     refine Zaf (i:=2) (N:=some 31) (v:=?_) (a':=?_) #[false,true,true,false,false,false,false,false,false,false,false,false] rfl rfl (Zac HT_.out (by kernel_rfl)) (fun _ _ _ h=>h) (Or.inl ⟨by rfl,?_⟩) ?_ ?_
     rotate_left
     ·intro w'
      go_simp
      with_reducible rfl
     rotate_left
     ·simp only[Act.put,List.setIfInBounds_toArray,List.set_cons_zero,List.set_cons_succ,ZO,ZP]
      rfl
     refine Zaf (i:=6) (N:=some 35) (v:=?_) (a':=?_) #[false,true,true,false,false,false,true,false,false,false,false,false] rfl rfl (Zac HT_.out (by kernel_rfl)) (fun _ _ _ h=>h) (Or.inl ⟨by rfl,?_⟩) ?_ ?_
     rotate_left
     ·intro w'
      go_simp
      with_reducible rfl
     rotate_left
     ·simp only[Act.put,List.setIfInBounds_toArray,List.set_cons_zero,List.set_cons_succ,ZO,ZP]
      rfl
     refine Zaf (i:=7) (N:=some 36) (v:=?_) (a':=?_) #[false,true,true,false,false,false,true,true,false,false,false,false] rfl rfl (Zac HT_.out (by kernel_rfl)) (fun _ _ _ h=>h) (Or.inl ⟨by rfl,?_⟩) ?_ ?_
     rotate_left
     ·intro w'
      go_simp
      with_reducible rfl
     rotate_left
     ·simp only[Act.put,List.setIfInBounds_toArray,List.set_cons_zero,List.set_cons_succ,ZO,ZP]
      rfl
     refine take_ (i:=0) (N:=some 29) (v:=?_) (a':=?_) #[true,true,true,false,false,false,true,true,false,false,false,false] rfl rfl (Zbd HT_.out HW_.out (by kernel_rfl)) (fun _ _ _ h=>h) (Or.inl ⟨by rfl,?_⟩) hHeld ?_ ?_
     rotate_left
     ·rintro w' ⟨s0,s1⟩
      go_simp
      with_reducible rfl
     rotate_left
     ·simp only[Act.put,List.setIfInBounds_toArray,List.set_cons_zero,List.set_cons_succ,ZO,ZP]
      rfl
     refine take_ (i:=5) (N:=some 34) (v:=?_) (a':=?_) #[true,true,true,false,false,true,true,true,false,false,false,false] rfl rfl (Zbd HT_.out HW_.out (by kernel_rfl)) (fun _ _ _ h=>h) (Or.inl ⟨by rfl,?_⟩) hHeld ?_ ?_
     rotate_left
     ·rintro w' ⟨s0,s1⟩
      go_simp
      with_reducible rfl
     rotate_left
     ·simp only[Act.put,List.setIfInBounds_toArray,List.set_cons_zero,List.set_cons_succ,ZO,ZP]
      rfl
     refine join_ (σ:=Nat) 1 #[true,true,true,true,true,true,true,true,true,true,true,false] (fun s_=>[(32,.int .i64 t135006),(37,.int .i64 t135007),(8,.pointer (some ⟨s_,0,none⟩)),(33,.int .i64 (wrap64 (-t135006))),(38,.agg #[.int .i64 (wrap64 (-t135006)),.int .i64 t135007])]) (fun s_ w'=>(w'.cell? ⟨gb135001,0,none⟩=some (.int .i64 a0_0)∧w'.cell? ⟨gb135001,1,none⟩=some (.slice A0_1 l0_1.length c0_1))∧(w'.heap[gb135001]? = some (.cells #[.int .i64 a0_0,.slice A0_1 l0_1.length c0_1] 90 (0,0)))∧(w'.heap[gb135002]? = some (.cells #[.int .i64 0,.int .i64 0] 29 (0,0)))∧(w'.heap[s_]? = some (.cells #[.int .i64 0,.int .i64 0] 29 (0,0)))∧(w.heap.size≤s_)∧(w.heap.size≤s_)∧(gb135001≠s_)∧(s_≠gb135001)∧(gb135002≠s_)∧(s_≠gb135002)∧(Below w.heap.size w w')) ?_ ?_
     rotate_left
     ·intro hCont
      refine two_ (i:=3) (j:=10) (Ni:=some 32) (Nj:=some 8) #[true,true,true,true,false,true,true,true,false,false,false,false] #[true,true,true,false,false,true,true,true,false,false,true,false] rfl rfl rfl rfl (two_of HT_.out (by kernel_rfl)) (by decide) (by decide) (fun K hK=>?_) (fun K hK=>?_)
      ·skip
       refine Zbr Try.func173 (by kernel_rfl) rfl #[.agg #[.int .i64 a0_0,.slice A0_1 l0_1.length c0_1],.int .i64 a2,.int .i64 a1] (by rfl) rfl rfl (by(try simp only[List.map_toArray,List.map_cons,List.map_nil]);first|done|rfl|(simp only[Zk,Zj];rfl)) ?_
       with_reducible refine(ZaF.calls a0_0 _ _ l0_1 a2 a1 t135006 _ ?side1 ?side2 A26.out).mono ?_
       (case side1=>repeat(first|exact(Zb HR0_1.out HB.out)|(with_reducible refine Kd.C_alloc ?_ _)|(with_reducible refine Kd.C_drewN ?_ _)|(with_reducible refine Kd.C_drew ?_)))
       (case side2=>exact HC0_1.out)
       rintro e w31 ⟨rfl,hb⟩
       refine⟨_,rfl,?_⟩
       have n0_:=Za (Zx (g:=gb135001) (o:=.cells #[.int .i64 a0_0,.slice A0_1 l0_1.length c0_1] 90 (0,0)) (by(with_reducible repeat(first|refine Zo ?_ _|refine Zr ?_|refine Zn ?_ _));exact BK135001.out) hb)
       have n1_:=Za (Zx (g:=gb135002) (o:=.cells #[.int .i64 0,.int .i64 0] 29 (0,0)) (by(with_reducible repeat(first|refine Zo ?_ _|refine Zr ?_|refine Zn ?_ _));exact BK135002.out) hb)
       have n2_:=Za (Zy (by repeat(first|(with_reducible first|exact HB.out|apply Zq|apply Zm|apply Zs|refine Zp ?_ GE135001.out|refine Zp ?_ GE135002.out)|exact HB.out)) hb)
       clear BK135001 BK135002 HB;have BK135001:=n0_;have BK135002:=n1_;have HB:=n2_;clear n0_ n1_ n2_
       (try clear hb)
       (try clear hb2)
       (try clear hk)
       (try clear hi)
       refine hK.out _ _ ⟨(Zu BK135001.out 0).trans rfl,(Zu BK135001.out 1).trans rfl⟩ (fun hHeld=>?_)
       clear hK K
       refine Zag (a':=?_) ?_ ?_
       rotate_left
       ·show Act.put _ (some 32) _=_
        simp only[Act.put,List.setIfInBounds_toArray,List.set_cons_zero,List.set_cons_succ,ZO,ZP]
        rfl
       refine Zaf (i:=4) (N:=some 33) (v:=?_) (a':=?_) #[true,true,true,true,true,true,true,true,false,false,false,false] rfl rfl (Zac HT_.out (by kernel_rfl)) (fun _ _ _ h=>h) (Or.inl ⟨by rfl,?_⟩) ?_ ?_
       rotate_left
       ·intro w'
        go_simp
        with_reducible rfl
       rotate_left
       ·simp only[Act.put,List.setIfInBounds_toArray,List.set_cons_zero,List.set_cons_succ,ZO,ZP]
        rfl
       refine two_ (i:=8) (j:=10) (Ni:=some 37) (Nj:=some 8) #[true,true,true,true,true,true,true,true,true,false,false,false] #[true,true,true,true,true,true,true,true,false,false,true,false] rfl rfl rfl rfl (two_of HT_.out (by kernel_rfl)) (by decide) (by decide) (fun K hK=>?_) (fun K hK=>?_)
       ·skip
        refine Zbr Try.func173 (by kernel_rfl) rfl #[.agg #[.int .i64 a0_0,.slice A0_1 l0_1.length c0_1],.int .i64 a1,.int .i64 a2] (by rfl) rfl rfl (by(try simp only[List.map_toArray,List.map_cons,List.map_nil]);first|done|rfl|(simp only[Zk,Zj];rfl)) ?_
        with_reducible refine(ZaF.calls a0_0 _ _ l0_1 a1 a2 t135007 _ ?side1 ?side2 A27.out).mono ?_
        (case side1=>repeat(first|exact(Zb HR0_1.out HB.out)|(with_reducible refine Kd.C_alloc ?_ _)|(with_reducible refine Kd.C_drewN ?_ _)|(with_reducible refine Kd.C_drew ?_)))
        (case side2=>exact HC0_1.out)
        rintro e w32 ⟨rfl,hb⟩
        refine⟨_,rfl,?_⟩
        have n0_:=Za (Zx (g:=gb135001) (o:=.cells #[.int .i64 a0_0,.slice A0_1 l0_1.length c0_1] 90 (0,0)) (by(with_reducible repeat(first|refine Zo ?_ _|refine Zr ?_|refine Zn ?_ _));exact BK135001.out) hb)
        have n1_:=Za (Zx (g:=gb135002) (o:=.cells #[.int .i64 0,.int .i64 0] 29 (0,0)) (by(with_reducible repeat(first|refine Zo ?_ _|refine Zr ?_|refine Zn ?_ _));exact BK135002.out) hb)
        have n2_:=Za (Zy (by repeat(first|(with_reducible first|exact HB.out|apply Zq|apply Zm|apply Zs|refine Zp ?_ GE135001.out|refine Zp ?_ GE135002.out)|exact HB.out)) hb)
        clear BK135001 BK135002 HB;have BK135001:=n0_;have BK135002:=n1_;have HB:=n2_;clear n0_ n1_ n2_
        (try clear hb)
        (try clear hb2)
        (try clear hk)
        (try clear hi)
        refine hK.out _ _ ⟨(Zu BK135001.out 0).trans rfl,(Zu BK135001.out 1).trans rfl⟩ (fun hHeld=>?_)
        clear hK K
        refine Zag (a':=?_) ?_ ?_
        rotate_left
        ·show Act.put _ (some 37) _=_
         simp only[Act.put,List.setIfInBounds_toArray,List.set_cons_zero,List.set_cons_succ,ZO,ZP]
         rfl
        refine Zaf (i:=9) (N:=some 38) (v:=?_) (a':=?_) #[true,true,true,true,true,true,true,true,true,true,false,false] rfl rfl (Zac HT_.out (by kernel_rfl)) (fun _ _ _ h=>h) (Or.inl ⟨by rfl,?_⟩) ?_ ?_
        rotate_left
        ·intro w'
         go_simp
         with_reducible rfl
        rotate_left
        ·simp only[Act.put,List.setIfInBounds_toArray,List.set_cons_zero,List.set_cons_succ,ZO,ZP]
         rfl
        refine one_ (i:=10) (N:=some 8) #[true,true,true,true,true,true,true,true,true,true,true,false] rfl rfl (ZaI HT_.out (by kernel_rfl)) (by decide) (fun K hK=>?_)
        refine ZbS ?hg (N:=8) ?hd (cs:=#[.int .i64 0,.int .i64 0]) (t:=29) ?hr ?_;(case hd=>rfl);(case hg=>rfl);(case hr=>first|(go_simp;done)|(go_simp;rfl))
        intro gb135008 hg w33 hbox hb
        have n0_:=Za (Zx (g:=gb135001) (o:=.cells #[.int .i64 a0_0,.slice A0_1 l0_1.length c0_1] 90 (0,0)) (by(with_reducible repeat(first|refine Zo ?_ _|refine Zr ?_|refine Zn ?_ _));exact BK135001.out) hb)
        have n1_:=Za (Zx (g:=gb135002) (o:=.cells #[.int .i64 0,.int .i64 0] 29 (0,0)) (by(with_reducible repeat(first|refine Zo ?_ _|refine Zr ?_|refine Zn ?_ _));exact BK135002.out) hb)
        have n2_:=Za (Zy (by repeat(first|(with_reducible first|exact HB.out|apply Zq|apply Zm|apply Zs|refine Zp ?_ GE135001.out|refine Zp ?_ GE135002.out)|exact HB.out)) hb)
        have n3_:=Za (hbox)
        have n4_:=Za ((by rw[hg];exact(Zv (by repeat(first|(with_reducible first|exact HB.out|apply Zq|apply Zm|apply Zs|refine Zp ?_ GE135001.out|refine Zp ?_ GE135002.out)|exact HB.out))):w.heap.size≤gb135008))
        have n5_:=Za ((by rw[hg];exact(Zv (by repeat(first|(with_reducible first|exact HB.out|apply Zq|apply Zm|apply Zs|refine Zp ?_ GE135001.out|refine Zp ?_ GE135002.out)|exact HB.out))):w.heap.size≤gb135008))
        have n6_:=Za ((by rw[hg];exact Nat.ne_of_lt (ZB (g:=gb135001) (o:=.cells #[.int .i64 a0_0,.slice A0_1 l0_1.length c0_1] 90 (0,0)) (by(with_reducible repeat(first|refine Zo ?_ _|refine Zr ?_|refine Zn ?_ _));exact BK135001.out)):gb135001≠gb135008))
        have n7_:=Za ((by rw[hg];exact Nat.ne_of_gt (ZB (g:=gb135001) (o:=.cells #[.int .i64 a0_0,.slice A0_1 l0_1.length c0_1] 90 (0,0)) (by(with_reducible repeat(first|refine Zo ?_ _|refine Zr ?_|refine Zn ?_ _));exact BK135001.out)):gb135008≠gb135001))
        have n8_:=Za ((by rw[hg];exact Nat.ne_of_lt (ZB (g:=gb135002) (o:=.cells #[.int .i64 0,.int .i64 0] 29 (0,0)) (by(with_reducible repeat(first|refine Zo ?_ _|refine Zr ?_|refine Zn ?_ _));exact BK135002.out)):gb135002≠gb135008))
        have n9_:=Za ((by rw[hg];exact Nat.ne_of_gt (ZB (g:=gb135002) (o:=.cells #[.int .i64 0,.int .i64 0] 29 (0,0)) (by(with_reducible repeat(first|refine Zo ?_ _|refine Zr ?_|refine Zn ?_ _));exact BK135002.out)):gb135008≠gb135002))
        clear BK135001 BK135002 HB;have BK135001:=n0_;have BK135002:=n1_;have HB:=n2_;have BK135008:=n3_;have GW135008:=n4_;have GE135008:=n5_;have NB135001_135008:=n6_;have NB135008_135001:=n7_;have NB135002_135008:=n8_;have NB135008_135002:=n9_;clear n0_ n1_ n2_ n3_ n4_ n5_ n6_ n7_ n8_ n9_ hb hbox hg
        refine hK.out _ _ ⟨(Zu BK135001.out 0).trans rfl,(Zu BK135001.out 1).trans rfl⟩ (fun hHeld=>?_)
        clear hK K
        refine Zag (a':=?_) ?_ ?_
        rotate_left
        ·show Act.put _ (some 8) _=_
         simp only[Act.put,List.setIfInBounds_toArray,List.set_cons_zero,List.set_cons_succ,ZO,ZP]
         rfl
        exact Zag (by simp only[Zbb,Act.put,List.setIfInBounds_toArray,List.set_cons_zero,List.set_cons_succ]) (hCont (gb135008) _ ⟨hHeld,(by(with_reducible repeat(first|refine Zo ?_ _|refine Zr ?_|refine Zn ?_ _));exact BK135001.out),(by(with_reducible repeat(first|refine Zo ?_ _|refine Zr ?_|refine Zn ?_ _));exact BK135002.out),(by(with_reducible repeat(first|refine Zo ?_ _|refine Zr ?_|refine Zn ?_ _));exact BK135008.out),GW135008.out,GE135008.out,NB135001_135008.out,NB135008_135001.out,NB135002_135008.out,NB135008_135002.out,(by repeat(first|(with_reducible first|exact HB.out|apply Zq|apply Zm|apply Zs|refine Zp ?_ GE135001.out|refine Zp ?_ GE135002.out|refine Zp ?_ GE135008.out)|exact HB.out))⟩)
       ·skip
        refine ZbS ?hg (N:=8) ?hd (cs:=#[.int .i64 0,.int .i64 0]) (t:=29) ?hr ?_;(case hd=>rfl);(case hg=>rfl);(case hr=>first|(go_simp;done)|(go_simp;rfl))
        intro gb135008 hg w32 hbox hb
        have n0_:=Za (Zx (g:=gb135001) (o:=.cells #[.int .i64 a0_0,.slice A0_1 l0_1.length c0_1] 90 (0,0)) (by(with_reducible repeat(first|refine Zo ?_ _|refine Zr ?_|refine Zn ?_ _));exact BK135001.out) hb)
        have n1_:=Za (Zx (g:=gb135002) (o:=.cells #[.int .i64 0,.int .i64 0] 29 (0,0)) (by(with_reducible repeat(first|refine Zo ?_ _|refine Zr ?_|refine Zn ?_ _));exact BK135002.out) hb)
        have n2_:=Za (Zy (by repeat(first|(with_reducible first|exact HB.out|apply Zq|apply Zm|apply Zs|refine Zp ?_ GE135001.out|refine Zp ?_ GE135002.out)|exact HB.out)) hb)
        have n3_:=Za (hbox)
        have n4_:=Za ((by rw[hg];exact(Zv (by repeat(first|(with_reducible first|exact HB.out|apply Zq|apply Zm|apply Zs|refine Zp ?_ GE135001.out|refine Zp ?_ GE135002.out)|exact HB.out))):w.heap.size≤gb135008))
        have n5_:=Za ((by rw[hg];exact(Zv (by repeat(first|(with_reducible first|exact HB.out|apply Zq|apply Zm|apply Zs|refine Zp ?_ GE135001.out|refine Zp ?_ GE135002.out)|exact HB.out))):w.heap.size≤gb135008))
        have n6_:=Za ((by rw[hg];exact Nat.ne_of_lt (ZB (g:=gb135001) (o:=.cells #[.int .i64 a0_0,.slice A0_1 l0_1.length c0_1] 90 (0,0)) (by(with_reducible repeat(first|refine Zo ?_ _|refine Zr ?_|refine Zn ?_ _));exact BK135001.out)):gb135001≠gb135008))
        have n7_:=Za ((by rw[hg];exact Nat.ne_of_gt (ZB (g:=gb135001) (o:=.cells #[.int .i64 a0_0,.slice A0_1 l0_1.length c0_1] 90 (0,0)) (by(with_reducible repeat(first|refine Zo ?_ _|refine Zr ?_|refine Zn ?_ _));exact BK135001.out)):gb135008≠gb135001))
        have n8_:=Za ((by rw[hg];exact Nat.ne_of_lt (ZB (g:=gb135002) (o:=.cells #[.int .i64 0,.int .i64 0] 29 (0,0)) (by(with_reducible repeat(first|refine Zo ?_ _|refine Zr ?_|refine Zn ?_ _));exact BK135002.out)):gb135002≠gb135008))
        have n9_:=Za ((by rw[hg];exact Nat.ne_of_gt (ZB (g:=gb135002) (o:=.cells #[.int .i64 0,.int .i64 0] 29 (0,0)) (by(with_reducible repeat(first|refine Zo ?_ _|refine Zr ?_|refine Zn ?_ _));exact BK135002.out)):gb135008≠gb135002))
        clear BK135001 BK135002 HB;have BK135001:=n0_;have BK135002:=n1_;have HB:=n2_;have BK135008:=n3_;have GW135008:=n4_;have GE135008:=n5_;have NB135001_135008:=n6_;have NB135008_135001:=n7_;have NB135002_135008:=n8_;have NB135008_135002:=n9_;clear n0_ n1_ n2_ n3_ n4_ n5_ n6_ n7_ n8_ n9_ hb hbox hg
        refine hK.out _ _ ⟨(Zu BK135001.out 0).trans rfl,(Zu BK135001.out 1).trans rfl⟩ (fun hHeld=>?_)
        clear hK K
        refine Zag (a':=?_) ?_ ?_
        rotate_left
        ·show Act.put _ (some 8) _=_
         simp only[Act.put,List.setIfInBounds_toArray,List.set_cons_zero,List.set_cons_succ,ZO,ZP]
         rfl
        refine one_ (i:=8) (N:=some 37) #[true,true,true,true,true,true,true,true,true,false,true,false] rfl rfl (ZaI HT_.out (by kernel_rfl)) (by decide) (fun K hK=>?_)
        refine Zbr Try.func173 (by kernel_rfl) rfl #[.agg #[.int .i64 a0_0,.slice A0_1 l0_1.length c0_1],.int .i64 a1,.int .i64 a2] (by rfl) rfl rfl (by(try simp only[List.map_toArray,List.map_cons,List.map_nil]);first|done|rfl|(simp only[Zk,Zj];rfl)) ?_
        with_reducible refine(ZaF.calls a0_0 _ _ l0_1 a1 a2 t135007 _ ?side1 ?side2 A27.out).mono ?_
        (case side1=>repeat(first|exact(Zb HR0_1.out HB.out)|(with_reducible refine Kd.C_alloc ?_ _)|(with_reducible refine Kd.C_drewN ?_ _)|(with_reducible refine Kd.C_drew ?_)))
        (case side2=>exact HC0_1.out)
        rintro e w33 ⟨rfl,hb⟩
        refine⟨_,rfl,?_⟩
        have n0_:=Za (Zx (g:=gb135001) (o:=.cells #[.int .i64 a0_0,.slice A0_1 l0_1.length c0_1] 90 (0,0)) (by(with_reducible repeat(first|refine Zo ?_ _|refine Zr ?_|refine Zn ?_ _));exact BK135001.out) hb)
        have n1_:=Za (Zx (g:=gb135002) (o:=.cells #[.int .i64 0,.int .i64 0] 29 (0,0)) (by(with_reducible repeat(first|refine Zo ?_ _|refine Zr ?_|refine Zn ?_ _));exact BK135002.out) hb)
        have n2_:=Za (Zx (g:=gb135008) (o:=.cells #[.int .i64 0,.int .i64 0] 29 (0,0)) (by(with_reducible repeat(first|refine Zo ?_ _|refine Zr ?_|refine Zn ?_ _));exact BK135008.out) hb)
        have n3_:=Za (Zy (by repeat(first|(with_reducible first|exact HB.out|apply Zq|apply Zm|apply Zs|refine Zp ?_ GE135001.out|refine Zp ?_ GE135002.out|refine Zp ?_ GE135008.out)|exact HB.out)) hb)
        clear BK135001 BK135002 BK135008 HB;have BK135001:=n0_;have BK135002:=n1_;have BK135008:=n2_;have HB:=n3_;clear n0_ n1_ n2_ n3_
        (try clear hb)
        (try clear hb2)
        (try clear hk)
        (try clear hi)
        refine hK.out _ _ ⟨(Zu BK135001.out 0).trans rfl,(Zu BK135001.out 1).trans rfl⟩ (fun hHeld=>?_)
        clear hK K
        refine Zag (a':=?_) ?_ ?_
        rotate_left
        ·show Act.put _ (some 37) _=_
         simp only[Act.put,List.setIfInBounds_toArray,List.set_cons_zero,List.set_cons_succ,ZO,ZP]
         rfl
        refine Zaf (i:=9) (N:=some 38) (v:=?_) (a':=?_) #[true,true,true,true,true,true,true,true,true,true,true,false] rfl rfl (Zac HT_.out (by kernel_rfl)) (fun _ _ _ h=>h) (Or.inl ⟨by rfl,?_⟩) ?_ ?_
        rotate_left
        ·intro w'
         go_simp
         with_reducible rfl
        rotate_left
        ·simp only[Act.put,List.setIfInBounds_toArray,List.set_cons_zero,List.set_cons_succ,ZO,ZP]
         rfl
        exact Zag (by simp only[Zbb,Act.put,List.setIfInBounds_toArray,List.set_cons_zero,List.set_cons_succ]) (hCont (gb135008) _ ⟨hHeld,(by(with_reducible repeat(first|refine Zo ?_ _|refine Zr ?_|refine Zn ?_ _));exact BK135001.out),(by(with_reducible repeat(first|refine Zo ?_ _|refine Zr ?_|refine Zn ?_ _));exact BK135002.out),(by(with_reducible repeat(first|refine Zo ?_ _|refine Zr ?_|refine Zn ?_ _));exact BK135008.out),GW135008.out,GE135008.out,NB135001_135008.out,NB135008_135001.out,NB135002_135008.out,NB135008_135002.out,(by repeat(first|(with_reducible first|exact HB.out|apply Zq|apply Zm|apply Zs|refine Zp ?_ GE135001.out|refine Zp ?_ GE135002.out|refine Zp ?_ GE135008.out)|exact HB.out))⟩)
      ·skip
       refine ZbS ?hg (N:=8) ?hd (cs:=#[.int .i64 0,.int .i64 0]) (t:=29) ?hr ?_;(case hd=>rfl);(case hg=>rfl);(case hr=>first|(go_simp;done)|(go_simp;rfl))
       intro gb135008 hg w31 hbox hb
       have n0_:=Za (Zx (g:=gb135001) (o:=.cells #[.int .i64 a0_0,.slice A0_1 l0_1.length c0_1] 90 (0,0)) (by(with_reducible repeat(first|refine Zo ?_ _|refine Zr ?_|refine Zn ?_ _));exact BK135001.out) hb)
       have n1_:=Za (Zx (g:=gb135002) (o:=.cells #[.int .i64 0,.int .i64 0] 29 (0,0)) (by(with_reducible repeat(first|refine Zo ?_ _|refine Zr ?_|refine Zn ?_ _));exact BK135002.out) hb)
       have n2_:=Za (Zy (by repeat(first|(with_reducible first|exact HB.out|apply Zq|apply Zm|apply Zs|refine Zp ?_ GE135001.out|refine Zp ?_ GE135002.out)|exact HB.out)) hb)
       have n3_:=Za (hbox)
       have n4_:=Za ((by rw[hg];exact(Zv (by repeat(first|(with_reducible first|exact HB.out|apply Zq|apply Zm|apply Zs|refine Zp ?_ GE135001.out|refine Zp ?_ GE135002.out)|exact HB.out))):w.heap.size≤gb135008))
       have n5_:=Za ((by rw[hg];exact(Zv (by repeat(first|(with_reducible first|exact HB.out|apply Zq|apply Zm|apply Zs|refine Zp ?_ GE135001.out|refine Zp ?_ GE135002.out)|exact HB.out))):w.heap.size≤gb135008))
       have n6_:=Za ((by rw[hg];exact Nat.ne_of_lt (ZB (g:=gb135001) (o:=.cells #[.int .i64 a0_0,.slice A0_1 l0_1.length c0_1] 90 (0,0)) (by(with_reducible repeat(first|refine Zo ?_ _|refine Zr ?_|refine Zn ?_ _));exact BK135001.out)):gb135001≠gb135008))
       have n7_:=Za ((by rw[hg];exact Nat.ne_of_gt (ZB (g:=gb135001) (o:=.cells #[.int .i64 a0_0,.slice A0_1 l0_1.length c0_1] 90 (0,0)) (by(with_reducible repeat(first|refine Zo ?_ _|refine Zr ?_|refine Zn ?_ _));exact BK135001.out)):gb135008≠gb135001))
       have n8_:=Za ((by rw[hg];exact Nat.ne_of_lt (ZB (g:=gb135002) (o:=.cells #[.int .i64 0,.int .i64 0] 29 (0,0)) (by(with_reducible repeat(first|refine Zo ?_ _|refine Zr ?_|refine Zn ?_ _));exact BK135002.out)):gb135002≠gb135008))
       have n9_:=Za ((by rw[hg];exact Nat.ne_of_gt (ZB (g:=gb135002) (o:=.cells #[.int .i64 0,.int .i64 0] 29 (0,0)) (by(with_reducible repeat(first|refine Zo ?_ _|refine Zr ?_|refine Zn ?_ _));exact BK135002.out)):gb135008≠gb135002))
       clear BK135001 BK135002 HB;have BK135001:=n0_;have BK135002:=n1_;have HB:=n2_;have BK135008:=n3_;have GW135008:=n4_;have GE135008:=n5_;have NB135001_135008:=n6_;have NB135008_135001:=n7_;have NB135002_135008:=n8_;have NB135008_135002:=n9_;clear n0_ n1_ n2_ n3_ n4_ n5_ n6_ n7_ n8_ n9_ hb hbox hg
       refine hK.out _ _ ⟨(Zu BK135001.out 0).trans rfl,(Zu BK135001.out 1).trans rfl⟩ (fun hHeld=>?_)
       clear hK K
       refine Zag (a':=?_) ?_ ?_
       rotate_left
       ·show Act.put _ (some 8) _=_
        simp only[Act.put,List.setIfInBounds_toArray,List.set_cons_zero,List.set_cons_succ,ZO,ZP]
        rfl
       refine one_ (i:=3) (N:=some 32) #[true,true,true,true,false,true,true,true,false,false,true,false] rfl rfl (ZaI HT_.out (by kernel_rfl)) (by decide) (fun K hK=>?_)
       refine Zbr Try.func173 (by kernel_rfl) rfl #[.agg #[.int .i64 a0_0,.slice A0_1 l0_1.length c0_1],.int .i64 a2,.int .i64 a1] (by rfl) rfl rfl (by(try simp only[List.map_toArray,List.map_cons,List.map_nil]);first|done|rfl|(simp only[Zk,Zj];rfl)) ?_
       with_reducible refine(ZaF.calls a0_0 _ _ l0_1 a2 a1 t135006 _ ?side1 ?side2 A26.out).mono ?_
       (case side1=>repeat(first|exact(Zb HR0_1.out HB.out)|(with_reducible refine Kd.C_alloc ?_ _)|(with_reducible refine Kd.C_drewN ?_ _)|(with_reducible refine Kd.C_drew ?_)))
       (case side2=>exact HC0_1.out)
       rintro e w32 ⟨rfl,hb⟩
       refine⟨_,rfl,?_⟩
       have n0_:=Za (Zx (g:=gb135001) (o:=.cells #[.int .i64 a0_0,.slice A0_1 l0_1.length c0_1] 90 (0,0)) (by(with_reducible repeat(first|refine Zo ?_ _|refine Zr ?_|refine Zn ?_ _));exact BK135001.out) hb)
       have n1_:=Za (Zx (g:=gb135002) (o:=.cells #[.int .i64 0,.int .i64 0] 29 (0,0)) (by(with_reducible repeat(first|refine Zo ?_ _|refine Zr ?_|refine Zn ?_ _));exact BK135002.out) hb)
       have n2_:=Za (Zx (g:=gb135008) (o:=.cells #[.int .i64 0,.int .i64 0] 29 (0,0)) (by(with_reducible repeat(first|refine Zo ?_ _|refine Zr ?_|refine Zn ?_ _));exact BK135008.out) hb)
       have n3_:=Za (Zy (by repeat(first|(with_reducible first|exact HB.out|apply Zq|apply Zm|apply Zs|refine Zp ?_ GE135001.out|refine Zp ?_ GE135002.out|refine Zp ?_ GE135008.out)|exact HB.out)) hb)
       clear BK135001 BK135002 BK135008 HB;have BK135001:=n0_;have BK135002:=n1_;have BK135008:=n2_;have HB:=n3_;clear n0_ n1_ n2_ n3_
       (try clear hb)
       (try clear hb2)
       (try clear hk)
       (try clear hi)
       refine hK.out _ _ ⟨(Zu BK135001.out 0).trans rfl,(Zu BK135001.out 1).trans rfl⟩ (fun hHeld=>?_)
       clear hK K
       refine Zag (a':=?_) ?_ ?_
       rotate_left
       ·show Act.put _ (some 32) _=_
        simp only[Act.put,List.setIfInBounds_toArray,List.set_cons_zero,List.set_cons_succ,ZO,ZP]
        rfl
       refine Zaf (i:=4) (N:=some 33) (v:=?_) (a':=?_) #[true,true,true,true,true,true,true,true,false,false,true,false] rfl rfl (Zac HT_.out (by kernel_rfl)) (fun _ _ _ h=>h) (Or.inl ⟨by rfl,?_⟩) ?_ ?_
       rotate_left
       ·intro w'
        go_simp
        with_reducible rfl
       rotate_left
       ·simp only[Act.put,List.setIfInBounds_toArray,List.set_cons_zero,List.set_cons_succ,ZO,ZP]
        rfl
       refine one_ (i:=8) (N:=some 37) #[true,true,true,true,true,true,true,true,true,false,true,false] rfl rfl (ZaI HT_.out (by kernel_rfl)) (by decide) (fun K hK=>?_)
       refine Zbr Try.func173 (by kernel_rfl) rfl #[.agg #[.int .i64 a0_0,.slice A0_1 l0_1.length c0_1],.int .i64 a1,.int .i64 a2] (by rfl) rfl rfl (by(try simp only[List.map_toArray,List.map_cons,List.map_nil]);first|done|rfl|(simp only[Zk,Zj];rfl)) ?_
       with_reducible refine(ZaF.calls a0_0 _ _ l0_1 a1 a2 t135007 _ ?side1 ?side2 A27.out).mono ?_
       (case side1=>repeat(first|exact(Zb HR0_1.out HB.out)|(with_reducible refine Kd.C_alloc ?_ _)|(with_reducible refine Kd.C_drewN ?_ _)|(with_reducible refine Kd.C_drew ?_)))
       (case side2=>exact HC0_1.out)
       rintro e w33 ⟨rfl,hb⟩
       refine⟨_,rfl,?_⟩
       have n0_:=Za (Zx (g:=gb135001) (o:=.cells #[.int .i64 a0_0,.slice A0_1 l0_1.length c0_1] 90 (0,0)) (by(with_reducible repeat(first|refine Zo ?_ _|refine Zr ?_|refine Zn ?_ _));exact BK135001.out) hb)
       have n1_:=Za (Zx (g:=gb135002) (o:=.cells #[.int .i64 0,.int .i64 0] 29 (0,0)) (by(with_reducible repeat(first|refine Zo ?_ _|refine Zr ?_|refine Zn ?_ _));exact BK135002.out) hb)
       have n2_:=Za (Zx (g:=gb135008) (o:=.cells #[.int .i64 0,.int .i64 0] 29 (0,0)) (by(with_reducible repeat(first|refine Zo ?_ _|refine Zr ?_|refine Zn ?_ _));exact BK135008.out) hb)
       have n3_:=Za (Zy (by repeat(first|(with_reducible first|exact HB.out|apply Zq|apply Zm|apply Zs|refine Zp ?_ GE135001.out|refine Zp ?_ GE135002.out|refine Zp ?_ GE135008.out)|exact HB.out)) hb)
       clear BK135001 BK135002 BK135008 HB;have BK135001:=n0_;have BK135002:=n1_;have BK135008:=n2_;have HB:=n3_;clear n0_ n1_ n2_ n3_
       (try clear hb)
       (try clear hb2)
       (try clear hk)
       (try clear hi)
       refine hK.out _ _ ⟨(Zu BK135001.out 0).trans rfl,(Zu BK135001.out 1).trans rfl⟩ (fun hHeld=>?_)
       clear hK K
       refine Zag (a':=?_) ?_ ?_
       rotate_left
       ·show Act.put _ (some 37) _=_
        simp only[Act.put,List.setIfInBounds_toArray,List.set_cons_zero,List.set_cons_succ,ZO,ZP]
        rfl
       refine Zaf (i:=9) (N:=some 38) (v:=?_) (a':=?_) #[true,true,true,true,true,true,true,true,true,true,true,false] rfl rfl (Zac HT_.out (by kernel_rfl)) (fun _ _ _ h=>h) (Or.inl ⟨by rfl,?_⟩) ?_ ?_
       rotate_left
       ·intro w'
        go_simp
        with_reducible rfl
       rotate_left
       ·simp only[Act.put,List.setIfInBounds_toArray,List.set_cons_zero,List.set_cons_succ,ZO,ZP]
        rfl
       exact Zag (by simp only[Zbb,Act.put,List.setIfInBounds_toArray,List.set_cons_zero,List.set_cons_succ]) (hCont (gb135008) _ ⟨hHeld,(by(with_reducible repeat(first|refine Zo ?_ _|refine Zr ?_|refine Zn ?_ _));exact BK135001.out),(by(with_reducible repeat(first|refine Zo ?_ _|refine Zr ?_|refine Zn ?_ _));exact BK135002.out),(by(with_reducible repeat(first|refine Zo ?_ _|refine Zr ?_|refine Zn ?_ _));exact BK135008.out),GW135008.out,GE135008.out,NB135001_135008.out,NB135008_135001.out,NB135002_135008.out,NB135008_135002.out,(by repeat(first|(with_reducible first|exact HB.out|apply Zq|apply Zm|apply Zs|refine Zp ?_ GE135001.out|refine Zp ?_ GE135002.out|refine Zp ?_ GE135008.out)|exact HB.out))⟩)
     rintro gb135008 w34 ⟨hS_,h0_,h1_,h2_,h3_,h4_,h5_,h6_,h7_,h8_,h9_⟩
     have n0_:Aside0 (w34.heap[gb135001]? = some (.cells #[.int .i64 a0_0,.slice A0_1 l0_1.length c0_1] 90 (0,0))):=⟨h0_⟩
     have n1_:Aside0 (w34.heap[gb135002]? = some (.cells #[.int .i64 0,.int .i64 0] 29 (0,0))):=⟨h1_⟩
     have n2_:Aside0 (w34.heap[gb135008]? = some (.cells #[.int .i64 0,.int .i64 0] 29 (0,0))):=⟨h2_⟩
     have n3_:Aside0 (w.heap.size≤gb135008):=⟨h3_⟩
     have n4_:Aside0 (w.heap.size≤gb135008):=⟨h4_⟩
     have n5_:Aside0 (gb135001≠gb135008):=⟨h5_⟩
     have n6_:Aside0 (gb135008≠gb135001):=⟨h6_⟩
     have n7_:Aside0 (gb135002≠gb135008):=⟨h7_⟩
     have n8_:Aside0 (gb135008≠gb135002):=⟨h8_⟩
     have n9_:Aside0 (Below w.heap.size w w34):=⟨h9_⟩
     clear BK135001 BK135002 HB h0_ h1_ h2_ h3_ h4_ h5_ h6_ h7_ h8_ h9_;have BK135001:=n0_;have BK135002:=n1_;have BK135008:=n2_;have GW135008:=n3_;have GE135008:=n4_;have NB135001_135008:=n5_;have NB135008_135001:=n6_;have NB135002_135008:=n7_;have NB135008_135002:=n8_;have HB:=n9_;clear n0_ n1_ n2_ n3_ n4_ n5_ n6_ n7_ n8_ n9_
     have hHeld:w34.cell? ⟨gb135001,0,none⟩=some (.int .i64 a0_0)∧w34.cell? ⟨gb135001,1,none⟩=some (.slice A0_1 l0_1.length c0_1):=hS_
     refine Zag (a':=?_) ?_ ?_
     rotate_left
     ·simp only[Zbb,Act.put,List.setIfInBounds_toArray,List.set_cons_zero,List.set_cons_succ]
      rfl
     refine one_ (i:=11) (N:=none) #[true,true,true,true,true,true,true,true,true,true,true,true] rfl rfl (ZaI HT_.out (by kernel_rfl)) (by decide) (fun K hK=>?_)
     have hs35:w34.cell? ⟨gb135008,0,none⟩=some (.int .i64 0):=(Zu BK135008.out 0).trans rfl
     have hfs35:=Zt BK135008.out 0
     have hns35_0:=NB135001_135008.out
     have hns35_1:=NB135002_135008.out
     have hms35_0:=NB135008_135001.out
     have hms35_1:=NB135008_135002.out
     have hs36:w34.cell? ⟨gb135008,1,none⟩=some (.int .i64 0):=(Zu BK135008.out 1).trans rfl
     have hfs36:=Zt BK135008.out 1
     have hns36_0:=NB135001_135008.out
     have hns36_1:=NB135002_135008.out
     have hms36_0:=NB135008_135001.out
     have hms36_1:=NB135008_135002.out
     refine Zcl (w1:=?_) (by rfl) rfl ?_ ?_
     rotate_left
     ·go_simp
      rfl
     refine hK.out _ _ ⟨((Zai (p:=⟨gb135008,_,none⟩) NB135001_135008.out _).trans (((Zai (p:=⟨gb135008,_,none⟩) NB135001_135008.out _).trans (hHeld.1)))),((Zai (p:=⟨gb135008,_,none⟩) NB135001_135008.out _).trans (((Zai (p:=⟨gb135008,_,none⟩) NB135001_135008.out _).trans (hHeld.2))))⟩ (fun hHeld=>?_)
     clear hK K
     refine Zce (Zb1 HT_.out (by kernel_rfl)) ?_
     have hnb37:=NB135008_135001.out
     have hnc37:=NB135001_135008.out
     have hnb38:=NB135008_135002.out
     have hnc38:=NB135002_135008.out
     have hcz39_0:w34.cell? ⟨gb135008,0,none⟩=some (.int .i64 0):=(Zu BK135008.out 0).trans rfl
     have hcz39_1:w34.cell? ⟨gb135008,1,none⟩=some (.int .i64 0):=(Zu BK135008.out 1).trans rfl
     have hfz39_0:=Zt BK135008.out 0
     have hfz39_1:=Zt BK135008.out 1
     try go_wp2_with (first|((with_reducible refine ZG (f:=165) rfl ?_);refine ZV (some 40) rfl rfl Try.func165 (by kernel_rfl) rfl #[.agg #[.int .i64 (wrap64 (-t135006)),.int .i64 t135007]] rfl (by(try simp only[List.map_toArray,List.map_cons,List.map_nil]);first|done|rfl|(simp only[Zk,Zj];rfl)) ?_;(with_reducible refine(Zao.calls (wrap64 (-t135006)) t135007 true _ A28.out).mono ?_);rintro e w40 ⟨rfl,hb⟩;refine⟨_,rfl,?_⟩;have n0_:=Za (Zx (g:=gb135001) (o:=.cells #[.int .i64 a0_0,.slice A0_1 l0_1.length c0_1] 90 (0,0)) (by(with_reducible repeat(first|refine Zo ?_ _|refine Zr ?_|refine Zn ?_ _));refine ZD ?_ NB135001_135008.out _;(with_reducible repeat(first|refine Zo ?_ _|refine Zr ?_|refine Zn ?_ _));refine ZD ?_ NB135001_135008.out _;(with_reducible repeat(first|refine Zo ?_ _|refine Zr ?_|refine Zn ?_ _));exact BK135001.out) hb);have n1_:=Za (Zx (g:=gb135002) (o:=.cells #[.int .i64 0,.int .i64 0] 29 (0,0)) (by(with_reducible repeat(first|refine Zo ?_ _|refine Zr ?_|refine Zn ?_ _));refine ZD ?_ NB135002_135008.out _;(with_reducible repeat(first|refine Zo ?_ _|refine Zr ?_|refine Zn ?_ _));refine ZD ?_ NB135002_135008.out _;(with_reducible repeat(first|refine Zo ?_ _|refine Zr ?_|refine Zn ?_ _));exact BK135002.out) hb);have n2_:=Za (Zx (g:=gb135008) (o:=.cells #[.int .i64 (wrap64 (-t135006)),.int .i64 t135007] 29 (0,0)) (by(with_reducible repeat(first|refine Zo ?_ _|refine Zr ?_|refine Zn ?_ _));refine ZF (cs:=#[.int .i64 (wrap64 (-t135006)),.int .i64 0]) ?_ 1 _ rfl;(with_reducible repeat(first|refine Zo ?_ _|refine Zr ?_|refine Zn ?_ _));refine ZF (cs:=#[.int .i64 0,.int .i64 0]) ?_ 0 _ rfl;(with_reducible repeat(first|refine Zo ?_ _|refine Zr ?_|refine Zn ?_ _));exact BK135008.out) hb);have n3_:=Za (Zy (by repeat(first|(with_reducible first|exact HB.out|apply Zq|apply Zm|apply Zs|refine Zp ?_ GE135001.out|refine Zp ?_ GE135002.out|refine Zp ?_ GE135008.out)|exact HB.out)) hb);clear BK135001;clear BK135002;clear BK135008;clear HB;have BK135001:=n0_;have BK135002:=n1_;have BK135008:=n2_;have HB:=n3_;clear n0_ n1_ n2_ n3_;(try clear hb);(try clear hb2);(try clear hk);(try clear hi);have hcz41_0:w40.cell? ⟨gb135008,0,none⟩=some (.int .i64 (wrap64 (-t135006))):=(Zu BK135008.out 0).trans rfl;have hcz41_1:w40.cell? ⟨gb135008,1,none⟩=some (.int .i64 t135007):=(Zu BK135008.out 1).trans rfl;have hfz41_0:=Zt BK135008.out 0;have hfz41_1:=Zt BK135008.out 1;have hnb42:=NB135002_135001.out;have hnc42:=NB135001_135002.out;have hcz43_0:w40.cell? ⟨gb135002,0,none⟩=some (.int .i64 0):=(Zu BK135002.out 0).trans rfl;have hcz43_1:w40.cell? ⟨gb135002,1,none⟩=some (.int .i64 0):=(Zu BK135002.out 1).trans rfl;have hfz43_0:=Zt BK135002.out 0;have hfz43_1:=Zt BK135002.out 1))
     refine bodyPost_ret (Zab rfl _ _ gb135002 29 #[.int .i64 (wrap64 (-t135006)),.int .i64 t135007] (0,0) _ rfl (by(with_reducible repeat(first|refine Zo ?_ _|refine Zr ?_|refine Zn ?_ _));refine ZF (cs:=#[.int .i64 (wrap64 (-t135006)),.int .i64 0]) ?_ 1 _ rfl;(with_reducible repeat(first|refine Zo ?_ _|refine Zr ?_|refine Zn ?_ _));refine ZF (cs:=#[.int .i64 0,.int .i64 0]) ?_ 0 _ rfl;(with_reducible repeat(first|refine Zo ?_ _|refine Zr ?_|refine Zn ?_ _));exact BK135002.out) Try.underlying29 rfl (by kernel_rfl)) rfl ?_
     exact⟨by first|rfl|(simp[ZA,Zz] <;> rfl)|(simp[*,ZA,Zz] <;> rfl),by repeat(first|(with_reducible first|exact HB.out|apply Zq|apply Zm|apply Zs|refine Zp ?_ GE135001.out|refine Zp ?_ GE135002.out|refine Zp ?_ GE135008.out)|exact HB.out)⟩
    ·replace c29:=Bool.eq_false_iff.mpr c29
     subst c29
     have H1:(some (0,0,false))=some (r1,r2,r3):=by rw[if_neg (show ¬(false=true) by decide)] at H;exact H
     clear H
     have H:=H1
     clear H1
     simp only[Option.some.injEq,Prod.mk.injEq] at H
     obtain⟨rfl,rfl,rfl⟩:=H
     try go_wp2
     have n0_:=Za (Zr BK135001.out)
     have n1_:=Za (Zr BK135002.out)
     have n2_:=Za (Zs HB.out)
     clear BK135001 BK135002 HB;have BK135001:=n0_;have BK135002:=n1_;have HB:=n2_;clear n0_ n1_ n2_
     refine ZbU (n:=12) (S:=fun w'=>w'.cell? ⟨gb135001,0,none⟩=some (.int .i64 a0_0)∧w'.cell? ⟨gb135001,1,none⟩=some (.slice A0_1 l0_1.length c0_1)) (ds:=[]) #[false,false,false,false,false,false,false,false,false,false,false,false] (by kernel_rfl) rfl rfl ⟨(Zu BK135001.out 0).trans rfl,(Zu BK135001.out 1).trans rfl⟩ (fun hHeld=>?_);refine ZbE ZH.tab3 ZH.bits3 (fun HT_ HW_=>?_)
     generalize wc.drew=w44 at BK135001 BK135002 HB hHeld ⊢
     refine Zaf (i:=1) (N:=some 30) (v:=?_) (a':=?_) #[false,true,false,false,false,false,false,false,false,false,false,false] rfl rfl (Zac HT_.out (by kernel_rfl)) (fun _ _ _ h=>h) (Or.inl ⟨by rfl,?_⟩) ?_ ?_
     rotate_left
     ·intro w'
      go_simp
      with_reducible rfl
     rotate_left
     ·simp only[Act.put,List.setIfInBounds_toArray,List.set_cons_zero,List.set_cons_succ,ZO,ZP]
      rfl
     refine Zaf (i:=2) (N:=some 31) (v:=?_) (a':=?_) #[false,true,true,false,false,false,false,false,false,false,false,false] rfl rfl (Zac HT_.out (by kernel_rfl)) (fun _ _ _ h=>h) (Or.inl ⟨by rfl,?_⟩) ?_ ?_
     rotate_left
     ·intro w'
      go_simp
      with_reducible rfl
     rotate_left
     ·simp only[Act.put,List.setIfInBounds_toArray,List.set_cons_zero,List.set_cons_succ,ZO,ZP]
      rfl
     refine Zaf (i:=6) (N:=some 35) (v:=?_) (a':=?_) #[false,true,true,false,false,false,true,false,false,false,false,false] rfl rfl (Zac HT_.out (by kernel_rfl)) (fun _ _ _ h=>h) (Or.inl ⟨by rfl,?_⟩) ?_ ?_
     rotate_left
     ·intro w'
      go_simp
      with_reducible rfl
     rotate_left
     ·simp only[Act.put,List.setIfInBounds_toArray,List.set_cons_zero,List.set_cons_succ,ZO,ZP]
      rfl
     refine Zaf (i:=7) (N:=some 36) (v:=?_) (a':=?_) #[false,true,true,false,false,false,true,true,false,false,false,false] rfl rfl (Zac HT_.out (by kernel_rfl)) (fun _ _ _ h=>h) (Or.inl ⟨by rfl,?_⟩) ?_ ?_
     rotate_left
     ·intro w'
      go_simp
      with_reducible rfl
     rotate_left
     ·simp only[Act.put,List.setIfInBounds_toArray,List.set_cons_zero,List.set_cons_succ,ZO,ZP]
      rfl
     refine take_ (i:=0) (N:=some 29) (v:=?_) (a':=?_) #[true,true,true,false,false,false,true,true,false,false,false,false] rfl rfl (Zbd HT_.out HW_.out (by kernel_rfl)) (fun _ _ _ h=>h) (Or.inl ⟨by rfl,?_⟩) hHeld ?_ ?_
     rotate_left
     ·rintro w' ⟨s0,s1⟩
      go_simp
      with_reducible rfl
     rotate_left
     ·simp only[Act.put,List.setIfInBounds_toArray,List.set_cons_zero,List.set_cons_succ,ZO,ZP]
      rfl
     refine take_ (i:=5) (N:=some 34) (v:=?_) (a':=?_) #[true,true,true,false,false,true,true,true,false,false,false,false] rfl rfl (Zbd HT_.out HW_.out (by kernel_rfl)) (fun _ _ _ h=>h) (Or.inl ⟨by rfl,?_⟩) hHeld ?_ ?_
     rotate_left
     ·rintro w' ⟨s0,s1⟩
      go_simp
      with_reducible rfl
     rotate_left
     ·simp only[Act.put,List.setIfInBounds_toArray,List.set_cons_zero,List.set_cons_succ,ZO,ZP]
      rfl
     refine join_ (σ:=Nat) 1 #[true,true,true,true,true,true,true,true,true,true,true,false] (fun s_=>[(32,.int .i64 t135006),(37,.int .i64 t135007),(8,.pointer (some ⟨s_,0,none⟩)),(33,.int .i64 (wrap64 (-t135006))),(38,.agg #[.int .i64 (wrap64 (-t135006)),.int .i64 t135007])]) (fun s_ w'=>(w'.cell? ⟨gb135001,0,none⟩=some (.int .i64 a0_0)∧w'.cell? ⟨gb135001,1,none⟩=some (.slice A0_1 l0_1.length c0_1))∧(w'.heap[gb135001]? = some (.cells #[.int .i64 a0_0,.slice A0_1 l0_1.length c0_1] 90 (0,0)))∧(w'.heap[gb135002]? = some (.cells #[.int .i64 0,.int .i64 0] 29 (0,0)))∧(w'.heap[s_]? = some (.cells #[.int .i64 0,.int .i64 0] 29 (0,0)))∧(w.heap.size≤s_)∧(w.heap.size≤s_)∧(gb135001≠s_)∧(s_≠gb135001)∧(gb135002≠s_)∧(s_≠gb135002)∧(Below w.heap.size w w')) ?_ ?_
     rotate_left
     ·intro hCont
      refine two_ (i:=3) (j:=10) (Ni:=some 32) (Nj:=some 8) #[true,true,true,true,false,true,true,true,false,false,false,false] #[true,true,true,false,false,true,true,true,false,false,true,false] rfl rfl rfl rfl (two_of HT_.out (by kernel_rfl)) (by decide) (by decide) (fun K hK=>?_) (fun K hK=>?_)
      ·skip
       refine Zbr Try.func173 (by kernel_rfl) rfl #[.agg #[.int .i64 a0_0,.slice A0_1 l0_1.length c0_1],.int .i64 a2,.int .i64 a1] (by rfl) rfl rfl (by(try simp only[List.map_toArray,List.map_cons,List.map_nil]);first|done|rfl|(simp only[Zk,Zj];rfl)) ?_
       with_reducible refine(ZaF.calls a0_0 _ _ l0_1 a2 a1 t135006 _ ?side1 ?side2 A26.out).mono ?_
       (case side1=>repeat(first|exact(Zb HR0_1.out HB.out)|(with_reducible refine Kd.C_alloc ?_ _)|(with_reducible refine Kd.C_drewN ?_ _)|(with_reducible refine Kd.C_drew ?_)))
       (case side2=>exact HC0_1.out)
       rintro e w45 ⟨rfl,hb⟩
       refine⟨_,rfl,?_⟩
       have n0_:=Za (Zx (g:=gb135001) (o:=.cells #[.int .i64 a0_0,.slice A0_1 l0_1.length c0_1] 90 (0,0)) (by(with_reducible repeat(first|refine Zo ?_ _|refine Zr ?_|refine Zn ?_ _));exact BK135001.out) hb)
       have n1_:=Za (Zx (g:=gb135002) (o:=.cells #[.int .i64 0,.int .i64 0] 29 (0,0)) (by(with_reducible repeat(first|refine Zo ?_ _|refine Zr ?_|refine Zn ?_ _));exact BK135002.out) hb)
       have n2_:=Za (Zy (by repeat(first|(with_reducible first|exact HB.out|apply Zq|apply Zm|apply Zs|refine Zp ?_ GE135001.out|refine Zp ?_ GE135002.out)|exact HB.out)) hb)
       clear BK135001 BK135002 HB;have BK135001:=n0_;have BK135002:=n1_;have HB:=n2_;clear n0_ n1_ n2_
       (try clear hb)
       (try clear hb2)
       (try clear hk)
       (try clear hi)
       refine hK.out _ _ ⟨(Zu BK135001.out 0).trans rfl,(Zu BK135001.out 1).trans rfl⟩ (fun hHeld=>?_)
       clear hK K
       refine Zag (a':=?_) ?_ ?_
       rotate_left
       ·show Act.put _ (some 32) _=_
        simp only[Act.put,List.setIfInBounds_toArray,List.set_cons_zero,List.set_cons_succ,ZO,ZP]
        rfl
       refine Zaf (i:=4) (N:=some 33) (v:=?_) (a':=?_) #[true,true,true,true,true,true,true,true,false,false,false,false] rfl rfl (Zac HT_.out (by kernel_rfl)) (fun _ _ _ h=>h) (Or.inl ⟨by rfl,?_⟩) ?_ ?_
       rotate_left
       ·intro w'
        go_simp
        with_reducible rfl
       rotate_left
       ·simp only[Act.put,List.setIfInBounds_toArray,List.set_cons_zero,List.set_cons_succ,ZO,ZP]
        rfl
       refine two_ (i:=8) (j:=10) (Ni:=some 37) (Nj:=some 8) #[true,true,true,true,true,true,true,true,true,false,false,false] #[true,true,true,true,true,true,true,true,false,false,true,false] rfl rfl rfl rfl (two_of HT_.out (by kernel_rfl)) (by decide) (by decide) (fun K hK=>?_) (fun K hK=>?_)
       ·skip
        refine Zbr Try.func173 (by kernel_rfl) rfl #[.agg #[.int .i64 a0_0,.slice A0_1 l0_1.length c0_1],.int .i64 a1,.int .i64 a2] (by rfl) rfl rfl (by(try simp only[List.map_toArray,List.map_cons,List.map_nil]);first|done|rfl|(simp only[Zk,Zj];rfl)) ?_
        with_reducible refine(ZaF.calls a0_0 _ _ l0_1 a1 a2 t135007 _ ?side1 ?side2 A27.out).mono ?_
        (case side1=>repeat(first|exact(Zb HR0_1.out HB.out)|(with_reducible refine Kd.C_alloc ?_ _)|(with_reducible refine Kd.C_drewN ?_ _)|(with_reducible refine Kd.C_drew ?_)))
        (case side2=>exact HC0_1.out)
        rintro e w46 ⟨rfl,hb⟩
        refine⟨_,rfl,?_⟩
        have n0_:=Za (Zx (g:=gb135001) (o:=.cells #[.int .i64 a0_0,.slice A0_1 l0_1.length c0_1] 90 (0,0)) (by(with_reducible repeat(first|refine Zo ?_ _|refine Zr ?_|refine Zn ?_ _));exact BK135001.out) hb)
        have n1_:=Za (Zx (g:=gb135002) (o:=.cells #[.int .i64 0,.int .i64 0] 29 (0,0)) (by(with_reducible repeat(first|refine Zo ?_ _|refine Zr ?_|refine Zn ?_ _));exact BK135002.out) hb)
        have n2_:=Za (Zy (by repeat(first|(with_reducible first|exact HB.out|apply Zq|apply Zm|apply Zs|refine Zp ?_ GE135001.out|refine Zp ?_ GE135002.out)|exact HB.out)) hb)
        clear BK135001 BK135002 HB;have BK135001:=n0_;have BK135002:=n1_;have HB:=n2_;clear n0_ n1_ n2_
        (try clear hb)
        (try clear hb2)
        (try clear hk)
        (try clear hi)
        refine hK.out _ _ ⟨(Zu BK135001.out 0).trans rfl,(Zu BK135001.out 1).trans rfl⟩ (fun hHeld=>?_)
        clear hK K
        refine Zag (a':=?_) ?_ ?_
        rotate_left
        ·show Act.put _ (some 37) _=_
         simp only[Act.put,List.setIfInBounds_toArray,List.set_cons_zero,List.set_cons_succ,ZO,ZP]
         rfl
        refine Zaf (i:=9) (N:=some 38) (v:=?_) (a':=?_) #[true,true,true,true,true,true,true,true,true,true,false,false] rfl rfl (Zac HT_.out (by kernel_rfl)) (fun _ _ _ h=>h) (Or.inl ⟨by rfl,?_⟩) ?_ ?_
        rotate_left
        ·intro w'
         go_simp
         with_reducible rfl
        rotate_left
        ·simp only[Act.put,List.setIfInBounds_toArray,List.set_cons_zero,List.set_cons_succ,ZO,ZP]
         rfl
        refine one_ (i:=10) (N:=some 8) #[true,true,true,true,true,true,true,true,true,true,true,false] rfl rfl (ZaI HT_.out (by kernel_rfl)) (by decide) (fun K hK=>?_)
        refine ZbS ?hg (N:=8) ?hd (cs:=#[.int .i64 0,.int .i64 0]) (t:=29) ?hr ?_;(case hd=>rfl);(case hg=>rfl);(case hr=>first|(go_simp;done)|(go_simp;rfl))
        intro gb135008 hg w47 hbox hb
        have n0_:=Za (Zx (g:=gb135001) (o:=.cells #[.int .i64 a0_0,.slice A0_1 l0_1.length c0_1] 90 (0,0)) (by(with_reducible repeat(first|refine Zo ?_ _|refine Zr ?_|refine Zn ?_ _));exact BK135001.out) hb)
        have n1_:=Za (Zx (g:=gb135002) (o:=.cells #[.int .i64 0,.int .i64 0] 29 (0,0)) (by(with_reducible repeat(first|refine Zo ?_ _|refine Zr ?_|refine Zn ?_ _));exact BK135002.out) hb)
        have n2_:=Za (Zy (by repeat(first|(with_reducible first|exact HB.out|apply Zq|apply Zm|apply Zs|refine Zp ?_ GE135001.out|refine Zp ?_ GE135002.out)|exact HB.out)) hb)
        have n3_:=Za (hbox)
        have n4_:=Za ((by rw[hg];exact(Zv (by repeat(first|(with_reducible first|exact HB.out|apply Zq|apply Zm|apply Zs|refine Zp ?_ GE135001.out|refine Zp ?_ GE135002.out)|exact HB.out))):w.heap.size≤gb135008))
        have n5_:=Za ((by rw[hg];exact(Zv (by repeat(first|(with_reducible first|exact HB.out|apply Zq|apply Zm|apply Zs|refine Zp ?_ GE135001.out|refine Zp ?_ GE135002.out)|exact HB.out))):w.heap.size≤gb135008))
        have n6_:=Za ((by rw[hg];exact Nat.ne_of_lt (ZB (g:=gb135001) (o:=.cells #[.int .i64 a0_0,.slice A0_1 l0_1.length c0_1] 90 (0,0)) (by(with_reducible repeat(first|refine Zo ?_ _|refine Zr ?_|refine Zn ?_ _));exact BK135001.out)):gb135001≠gb135008))
        have n7_:=Za ((by rw[hg];exact Nat.ne_of_gt (ZB (g:=gb135001) (o:=.cells #[.int .i64 a0_0,.slice A0_1 l0_1.length c0_1] 90 (0,0)) (by(with_reducible repeat(first|refine Zo ?_ _|refine Zr ?_|refine Zn ?_ _));exact BK135001.out)):gb135008≠gb135001))
        have n8_:=Za ((by rw[hg];exact Nat.ne_of_lt (ZB (g:=gb135002) (o:=.cells #[.int .i64 0,.int .i64 0] 29 (0,0)) (by(with_reducible repeat(first|refine Zo ?_ _|refine Zr ?_|refine Zn ?_ _));exact BK135002.out)):gb135002≠gb135008))
        have n9_:=Za ((by rw[hg];exact Nat.ne_of_gt (ZB (g:=gb135002) (o:=.cells #[.int .i64 0,.int .i64 0] 29 (0,0)) (by(with_reducible repeat(first|refine Zo ?_ _|refine Zr ?_|refine Zn ?_ _));exact BK135002.out)):gb135008≠gb135002))
        clear BK135001 BK135002 HB;have BK135001:=n0_;have BK135002:=n1_;have HB:=n2_;have BK135008:=n3_;have GW135008:=n4_;have GE135008:=n5_;have NB135001_135008:=n6_;have NB135008_135001:=n7_;have NB135002_135008:=n8_;have NB135008_135002:=n9_;clear n0_ n1_ n2_ n3_ n4_ n5_ n6_ n7_ n8_ n9_ hb hbox hg
        refine hK.out _ _ ⟨(Zu BK135001.out 0).trans rfl,(Zu BK135001.out 1).trans rfl⟩ (fun hHeld=>?_)
        clear hK K
        refine Zag (a':=?_) ?_ ?_
        rotate_left
        ·show Act.put _ (some 8) _=_
         simp only[Act.put,List.setIfInBounds_toArray,List.set_cons_zero,List.set_cons_succ,ZO,ZP]
         rfl
        exact Zag (by simp only[Zbb,Act.put,List.setIfInBounds_toArray,List.set_cons_zero,List.set_cons_succ]) (hCont (gb135008) _ ⟨hHeld,(by(with_reducible repeat(first|refine Zo ?_ _|refine Zr ?_|refine Zn ?_ _));exact BK135001.out),(by(with_reducible repeat(first|refine Zo ?_ _|refine Zr ?_|refine Zn ?_ _));exact BK135002.out),(by(with_reducible repeat(first|refine Zo ?_ _|refine Zr ?_|refine Zn ?_ _));exact BK135008.out),GW135008.out,GE135008.out,NB135001_135008.out,NB135008_135001.out,NB135002_135008.out,NB135008_135002.out,(by repeat(first|(with_reducible first|exact HB.out|apply Zq|apply Zm|apply Zs|refine Zp ?_ GE135001.out|refine Zp ?_ GE135002.out|refine Zp ?_ GE135008.out)|exact HB.out))⟩)
       ·skip
        refine ZbS ?hg (N:=8) ?hd (cs:=#[.int .i64 0,.int .i64 0]) (t:=29) ?hr ?_;(case hd=>rfl);(case hg=>rfl);(case hr=>first|(go_simp;done)|(go_simp;rfl))
        intro gb135008 hg w46 hbox hb
        have n0_:=Za (Zx (g:=gb135001) (o:=.cells #[.int .i64 a0_0,.slice A0_1 l0_1.length c0_1] 90 (0,0)) (by(with_reducible repeat(first|refine Zo ?_ _|refine Zr ?_|refine Zn ?_ _));exact BK135001.out) hb)
        have n1_:=Za (Zx (g:=gb135002) (o:=.cells #[.int .i64 0,.int .i64 0] 29 (0,0)) (by(with_reducible repeat(first|refine Zo ?_ _|refine Zr ?_|refine Zn ?_ _));exact BK135002.out) hb)
        have n2_:=Za (Zy (by repeat(first|(with_reducible first|exact HB.out|apply Zq|apply Zm|apply Zs|refine Zp ?_ GE135001.out|refine Zp ?_ GE135002.out)|exact HB.out)) hb)
        have n3_:=Za (hbox)
        have n4_:=Za ((by rw[hg];exact(Zv (by repeat(first|(with_reducible first|exact HB.out|apply Zq|apply Zm|apply Zs|refine Zp ?_ GE135001.out|refine Zp ?_ GE135002.out)|exact HB.out))):w.heap.size≤gb135008))
        have n5_:=Za ((by rw[hg];exact(Zv (by repeat(first|(with_reducible first|exact HB.out|apply Zq|apply Zm|apply Zs|refine Zp ?_ GE135001.out|refine Zp ?_ GE135002.out)|exact HB.out))):w.heap.size≤gb135008))
        have n6_:=Za ((by rw[hg];exact Nat.ne_of_lt (ZB (g:=gb135001) (o:=.cells #[.int .i64 a0_0,.slice A0_1 l0_1.length c0_1] 90 (0,0)) (by(with_reducible repeat(first|refine Zo ?_ _|refine Zr ?_|refine Zn ?_ _));exact BK135001.out)):gb135001≠gb135008))
        have n7_:=Za ((by rw[hg];exact Nat.ne_of_gt (ZB (g:=gb135001) (o:=.cells #[.int .i64 a0_0,.slice A0_1 l0_1.length c0_1] 90 (0,0)) (by(with_reducible repeat(first|refine Zo ?_ _|refine Zr ?_|refine Zn ?_ _));exact BK135001.out)):gb135008≠gb135001))
        have n8_:=Za ((by rw[hg];exact Nat.ne_of_lt (ZB (g:=gb135002) (o:=.cells #[.int .i64 0,.int .i64 0] 29 (0,0)) (by(with_reducible repeat(first|refine Zo ?_ _|refine Zr ?_|refine Zn ?_ _));exact BK135002.out)):gb135002≠gb135008))
        have n9_:=Za ((by rw[hg];exact Nat.ne_of_gt (ZB (g:=gb135002) (o:=.cells #[.int .i64 0,.int .i64 0] 29 (0,0)) (by(with_reducible repeat(first|refine Zo ?_ _|refine Zr ?_|refine Zn ?_ _));exact BK135002.out)):gb135008≠gb135002))
        clear BK135001 BK135002 HB;have BK135001:=n0_;have BK135002:=n1_;have HB:=n2_;have BK135008:=n3_;have GW135008:=n4_;have GE135008:=n5_;have NB135001_135008:=n6_;have NB135008_135001:=n7_;have NB135002_135008:=n8_;have NB135008_135002:=n9_;clear n0_ n1_ n2_ n3_ n4_ n5_ n6_ n7_ n8_ n9_ hb hbox hg
        refine hK.out _ _ ⟨(Zu BK135001.out 0).trans rfl,(Zu BK135001.out 1).trans rfl⟩ (fun hHeld=>?_)
        clear hK K
        refine Zag (a':=?_) ?_ ?_
        rotate_left
        ·show Act.put _ (some 8) _=_
         simp only[Act.put,List.setIfInBounds_toArray,List.set_cons_zero,List.set_cons_succ,ZO,ZP]
         rfl
        refine one_ (i:=8) (N:=some 37) #[true,true,true,true,true,true,true,true,true,false,true,false] rfl rfl (ZaI HT_.out (by kernel_rfl)) (by decide) (fun K hK=>?_)
        refine Zbr Try.func173 (by kernel_rfl) rfl #[.agg #[.int .i64 a0_0,.slice A0_1 l0_1.length c0_1],.int .i64 a1,.int .i64 a2] (by rfl) rfl rfl (by(try simp only[List.map_toArray,List.map_cons,List.map_nil]);first|done|rfl|(simp only[Zk,Zj];rfl)) ?_
        with_reducible refine(ZaF.calls a0_0 _ _ l0_1 a1 a2 t135007 _ ?side1 ?side2 A27.out).mono ?_
        (case side1=>repeat(first|exact(Zb HR0_1.out HB.out)|(with_reducible refine Kd.C_alloc ?_ _)|(with_reducible refine Kd.C_drewN ?_ _)|(with_reducible refine Kd.C_drew ?_)))
        (case side2=>exact HC0_1.out)
        rintro e w47 ⟨rfl,hb⟩
        refine⟨_,rfl,?_⟩
        have n0_:=Za (Zx (g:=gb135001) (o:=.cells #[.int .i64 a0_0,.slice A0_1 l0_1.length c0_1] 90 (0,0)) (by(with_reducible repeat(first|refine Zo ?_ _|refine Zr ?_|refine Zn ?_ _));exact BK135001.out) hb)
        have n1_:=Za (Zx (g:=gb135002) (o:=.cells #[.int .i64 0,.int .i64 0] 29 (0,0)) (by(with_reducible repeat(first|refine Zo ?_ _|refine Zr ?_|refine Zn ?_ _));exact BK135002.out) hb)
        have n2_:=Za (Zx (g:=gb135008) (o:=.cells #[.int .i64 0,.int .i64 0] 29 (0,0)) (by(with_reducible repeat(first|refine Zo ?_ _|refine Zr ?_|refine Zn ?_ _));exact BK135008.out) hb)
        have n3_:=Za (Zy (by repeat(first|(with_reducible first|exact HB.out|apply Zq|apply Zm|apply Zs|refine Zp ?_ GE135001.out|refine Zp ?_ GE135002.out|refine Zp ?_ GE135008.out)|exact HB.out)) hb)
        clear BK135001 BK135002 BK135008 HB;have BK135001:=n0_;have BK135002:=n1_;have BK135008:=n2_;have HB:=n3_;clear n0_ n1_ n2_ n3_
        (try clear hb)
        (try clear hb2)
        (try clear hk)
        (try clear hi)
        refine hK.out _ _ ⟨(Zu BK135001.out 0).trans rfl,(Zu BK135001.out 1).trans rfl⟩ (fun hHeld=>?_)
        clear hK K
        refine Zag (a':=?_) ?_ ?_
        rotate_left
        ·show Act.put _ (some 37) _=_
         simp only[Act.put,List.setIfInBounds_toArray,List.set_cons_zero,List.set_cons_succ,ZO,ZP]
         rfl
        refine Zaf (i:=9) (N:=some 38) (v:=?_) (a':=?_) #[true,true,true,true,true,true,true,true,true,true,true,false] rfl rfl (Zac HT_.out (by kernel_rfl)) (fun _ _ _ h=>h) (Or.inl ⟨by rfl,?_⟩) ?_ ?_
        rotate_left
        ·intro w'
         go_simp
         with_reducible rfl
        rotate_left
        ·simp only[Act.put,List.setIfInBounds_toArray,List.set_cons_zero,List.set_cons_succ,ZO,ZP]
         rfl
        exact Zag (by simp only[Zbb,Act.put,List.setIfInBounds_toArray,List.set_cons_zero,List.set_cons_succ]) (hCont (gb135008) _ ⟨hHeld,(by(with_reducible repeat(first|refine Zo ?_ _|refine Zr ?_|refine Zn ?_ _));exact BK135001.out),(by(with_reducible repeat(first|refine Zo ?_ _|refine Zr ?_|refine Zn ?_ _));exact BK135002.out),(by(with_reducible repeat(first|refine Zo ?_ _|refine Zr ?_|refine Zn ?_ _));exact BK135008.out),GW135008.out,GE135008.out,NB135001_135008.out,NB135008_135001.out,NB135002_135008.out,NB135008_135002.out,(by repeat(first|(with_reducible first|exact HB.out|apply Zq|apply Zm|apply Zs|refine Zp ?_ GE135001.out|refine Zp ?_ GE135002.out|refine Zp ?_ GE135008.out)|exact HB.out))⟩)
      ·skip
       refine ZbS ?hg (N:=8) ?hd (cs:=#[.int .i64 0,.int .i64 0]) (t:=29) ?hr ?_;(case hd=>rfl);(case hg=>rfl);(case hr=>first|(go_simp;done)|(go_simp;rfl))
       intro gb135008 hg w45 hbox hb
       have n0_:=Za (Zx (g:=gb135001) (o:=.cells #[.int .i64 a0_0,.slice A0_1 l0_1.length c0_1] 90 (0,0)) (by(with_reducible repeat(first|refine Zo ?_ _|refine Zr ?_|refine Zn ?_ _));exact BK135001.out) hb)
       have n1_:=Za (Zx (g:=gb135002) (o:=.cells #[.int .i64 0,.int .i64 0] 29 (0,0)) (by(with_reducible repeat(first|refine Zo ?_ _|refine Zr ?_|refine Zn ?_ _));exact BK135002.out) hb)
       have n2_:=Za (Zy (by repeat(first|(with_reducible first|exact HB.out|apply Zq|apply Zm|apply Zs|refine Zp ?_ GE135001.out|refine Zp ?_ GE135002.out)|exact HB.out)) hb)
       have n3_:=Za (hbox)
       have n4_:=Za ((by rw[hg];exact(Zv (by repeat(first|(with_reducible first|exact HB.out|apply Zq|apply Zm|apply Zs|refine Zp ?_ GE135001.out|refine Zp ?_ GE135002.out)|exact HB.out))):w.heap.size≤gb135008))
       have n5_:=Za ((by rw[hg];exact(Zv (by repeat(first|(with_reducible first|exact HB.out|apply Zq|apply Zm|apply Zs|refine Zp ?_ GE135001.out|refine Zp ?_ GE135002.out)|exact HB.out))):w.heap.size≤gb135008))
       have n6_:=Za ((by rw[hg];exact Nat.ne_of_lt (ZB (g:=gb135001) (o:=.cells #[.int .i64 a0_0,.slice A0_1 l0_1.length c0_1] 90 (0,0)) (by(with_reducible repeat(first|refine Zo ?_ _|refine Zr ?_|refine Zn ?_ _));exact BK135001.out)):gb135001≠gb135008))
       have n7_:=Za ((by rw[hg];exact Nat.ne_of_gt (ZB (g:=gb135001) (o:=.cells #[.int .i64 a0_0,.slice A0_1 l0_1.length c0_1] 90 (0,0)) (by(with_reducible repeat(first|refine Zo ?_ _|refine Zr ?_|refine Zn ?_ _));exact BK135001.out)):gb135008≠gb135001))
       have n8_:=Za ((by rw[hg];exact Nat.ne_of_lt (ZB (g:=gb135002) (o:=.cells #[.int .i64 0,.int .i64 0] 29 (0,0)) (by(with_reducible repeat(first|refine Zo ?_ _|refine Zr ?_|refine Zn ?_ _));exact BK135002.out)):gb135002≠gb135008))
       have n9_:=Za ((by rw[hg];exact Nat.ne_of_gt (ZB (g:=gb135002) (o:=.cells #[.int .i64 0,.int .i64 0] 29 (0,0)) (by(with_reducible repeat(first|refine Zo ?_ _|refine Zr ?_|refine Zn ?_ _));exact BK135002.out)):gb135008≠gb135002))
       clear BK135001 BK135002 HB;have BK135001:=n0_;have BK135002:=n1_;have HB:=n2_;have BK135008:=n3_;have GW135008:=n4_;have GE135008:=n5_;have NB135001_135008:=n6_;have NB135008_135001:=n7_;have NB135002_135008:=n8_;have NB135008_135002:=n9_;clear n0_ n1_ n2_ n3_ n4_ n5_ n6_ n7_ n8_ n9_ hb hbox hg
       refine hK.out _ _ ⟨(Zu BK135001.out 0).trans rfl,(Zu BK135001.out 1).trans rfl⟩ (fun hHeld=>?_)
       clear hK K
       refine Zag (a':=?_) ?_ ?_
       rotate_left
       ·show Act.put _ (some 8) _=_
        simp only[Act.put,List.setIfInBounds_toArray,List.set_cons_zero,List.set_cons_succ,ZO,ZP]
        rfl
       refine one_ (i:=3) (N:=some 32) #[true,true,true,true,false,true,true,true,false,false,true,false] rfl rfl (ZaI HT_.out (by kernel_rfl)) (by decide) (fun K hK=>?_)
       refine Zbr Try.func173 (by kernel_rfl) rfl #[.agg #[.int .i64 a0_0,.slice A0_1 l0_1.length c0_1],.int .i64 a2,.int .i64 a1] (by rfl) rfl rfl (by(try simp only[List.map_toArray,List.map_cons,List.map_nil]);first|done|rfl|(simp only[Zk,Zj];rfl)) ?_
       with_reducible refine(ZaF.calls a0_0 _ _ l0_1 a2 a1 t135006 _ ?side1 ?side2 A26.out).mono ?_
       (case side1=>repeat(first|exact(Zb HR0_1.out HB.out)|(with_reducible refine Kd.C_alloc ?_ _)|(with_reducible refine Kd.C_drewN ?_ _)|(with_reducible refine Kd.C_drew ?_)))
       (case side2=>exact HC0_1.out)
       rintro e w46 ⟨rfl,hb⟩
       refine⟨_,rfl,?_⟩
       have n0_:=Za (Zx (g:=gb135001) (o:=.cells #[.int .i64 a0_0,.slice A0_1 l0_1.length c0_1] 90 (0,0)) (by(with_reducible repeat(first|refine Zo ?_ _|refine Zr ?_|refine Zn ?_ _));exact BK135001.out) hb)
       have n1_:=Za (Zx (g:=gb135002) (o:=.cells #[.int .i64 0,.int .i64 0] 29 (0,0)) (by(with_reducible repeat(first|refine Zo ?_ _|refine Zr ?_|refine Zn ?_ _));exact BK135002.out) hb)
       have n2_:=Za (Zx (g:=gb135008) (o:=.cells #[.int .i64 0,.int .i64 0] 29 (0,0)) (by(with_reducible repeat(first|refine Zo ?_ _|refine Zr ?_|refine Zn ?_ _));exact BK135008.out) hb)
       have n3_:=Za (Zy (by repeat(first|(with_reducible first|exact HB.out|apply Zq|apply Zm|apply Zs|refine Zp ?_ GE135001.out|refine Zp ?_ GE135002.out|refine Zp ?_ GE135008.out)|exact HB.out)) hb)
       clear BK135001 BK135002 BK135008 HB;have BK135001:=n0_;have BK135002:=n1_;have BK135008:=n2_;have HB:=n3_;clear n0_ n1_ n2_ n3_
       (try clear hb)
       (try clear hb2)
       (try clear hk)
       (try clear hi)
       refine hK.out _ _ ⟨(Zu BK135001.out 0).trans rfl,(Zu BK135001.out 1).trans rfl⟩ (fun hHeld=>?_)
       clear hK K
       refine Zag (a':=?_) ?_ ?_
       rotate_left
       ·show Act.put _ (some 32) _=_
        simp only[Act.put,List.setIfInBounds_toArray,List.set_cons_zero,List.set_cons_succ,ZO,ZP]
        rfl
       refine Zaf (i:=4) (N:=some 33) (v:=?_) (a':=?_) #[true,true,true,true,true,true,true,true,false,false,true,false] rfl rfl (Zac HT_.out (by kernel_rfl)) (fun _ _ _ h=>h) (Or.inl ⟨by rfl,?_⟩) ?_ ?_
       rotate_left
       ·intro w'
        go_simp
        with_reducible rfl
       rotate_left
       ·simp only[Act.put,List.setIfInBounds_toArray,List.set_cons_zero,List.set_cons_succ,ZO,ZP]
        rfl
       refine one_ (i:=8) (N:=some 37) #[true,true,true,true,true,true,true,true,true,false,true,false] rfl rfl (ZaI HT_.out (by kernel_rfl)) (by decide) (fun K hK=>?_)
       refine Zbr Try.func173 (by kernel_rfl) rfl #[.agg #[.int .i64 a0_0,.slice A0_1 l0_1.length c0_1],.int .i64 a1,.int .i64 a2] (by rfl) rfl rfl (by(try simp only[List.map_toArray,List.map_cons,List.map_nil]);first|done|rfl|(simp only[Zk,Zj];rfl)) ?_
       with_reducible refine(ZaF.calls a0_0 _ _ l0_1 a1 a2 t135007 _ ?side1 ?side2 A27.out).mono ?_
       (case side1=>repeat(first|exact(Zb HR0_1.out HB.out)|(with_reducible refine Kd.C_alloc ?_ _)|(with_reducible refine Kd.C_drewN ?_ _)|(with_reducible refine Kd.C_drew ?_)))
       (case side2=>exact HC0_1.out)
       rintro e w47 ⟨rfl,hb⟩
       refine⟨_,rfl,?_⟩
       have n0_:=Za (Zx (g:=gb135001) (o:=.cells #[.int .i64 a0_0,.slice A0_1 l0_1.length c0_1] 90 (0,0)) (by(with_reducible repeat(first|refine Zo ?_ _|refine Zr ?_|refine Zn ?_ _));exact BK135001.out) hb)
       have n1_:=Za (Zx (g:=gb135002) (o:=.cells #[.int .i64 0,.int .i64 0] 29 (0,0)) (by(with_reducible repeat(first|refine Zo ?_ _|refine Zr ?_|refine Zn ?_ _));exact BK135002.out) hb)
       have n2_:=Za (Zx (g:=gb135008) (o:=.cells #[.int .i64 0,.int .i64 0] 29 (0,0)) (by(with_reducible repeat(first|refine Zo ?_ _|refine Zr ?_|refine Zn ?_ _));exact BK135008.out) hb)
       have n3_:=Za (Zy (by repeat(first|(with_reducible first|exact HB.out|apply Zq|apply Zm|apply Zs|refine Zp ?_ GE135001.out|refine Zp ?_ GE135002.out|refine Zp ?_ GE135008.out)|exact HB.out)) hb)
       clear BK135001 BK135002 BK135008 HB;have BK135001:=n0_;have BK135002:=n1_;have BK135008:=n2_;have HB:=n3_;clear n0_ n1_ n2_ n3_
       (try clear hb)
       (try clear hb2)
       (try clear hk)
       (try clear hi)
       refine hK.out _ _ ⟨(Zu BK135001.out 0).trans rfl,(Zu BK135001.out 1).trans rfl⟩ (fun hHeld=>?_)
       clear hK K
       refine Zag (a':=?_) ?_ ?_
       rotate_left
       ·show Act.put _ (some 37) _=_
        simp only[Act.put,List.setIfInBounds_toArray,List.set_cons_zero,List.set_cons_succ,ZO,ZP]
        rfl
       refine Zaf (i:=9) (N:=some 38) (v:=?_) (a':=?_) #[true,true,true,true,true,true,true,true,true,true,true,false] rfl rfl (Zac HT_.out (by kernel_rfl)) (fun _ _ _ h=>h) (Or.inl ⟨by rfl,?_⟩) ?_ ?_
       rotate_left
       ·intro w'
        go_simp
        with_reducible rfl
       rotate_left
       ·simp only[Act.put,List.setIfInBounds_toArray,List.set_cons_zero,List.set_cons_succ,ZO,ZP]
        rfl
       exact Zag (by simp only[Zbb,Act.put,List.setIfInBounds_toArray,List.set_cons_zero,List.set_cons_succ]) (hCont (gb135008) _ ⟨hHeld,(by(with_reducible repeat(first|refine Zo ?_ _|refine Zr ?_|refine Zn ?_ _));exact BK135001.out),(by(with_reducible repeat(first|refine Zo ?_ _|refine Zr ?_|refine Zn ?_ _));exact BK135002.out),(by(with_reducible repeat(first|refine Zo ?_ _|refine Zr ?_|refine Zn ?_ _));exact BK135008.out),GW135008.out,GE135008.out,NB135001_135008.out,NB135008_135001.out,NB135002_135008.out,NB135008_135002.out,(by repeat(first|(with_reducible first|exact HB.out|apply Zq|apply Zm|apply Zs|refine Zp ?_ GE135001.out|refine Zp ?_ GE135002.out|refine Zp ?_ GE135008.out)|exact HB.out))⟩)
     rintro gb135008 w48 ⟨hS_,h0_,h1_,h2_,h3_,h4_,h5_,h6_,h7_,h8_,h9_⟩
     have n0_:Aside0 (w48.heap[gb135001]? = some (.cells #[.int .i64 a0_0,.slice A0_1 l0_1.length c0_1] 90 (0,0))):=⟨h0_⟩
     have n1_:Aside0 (w48.heap[gb135002]? = some (.cells #[.int .i64 0,.int .i64 0] 29 (0,0))):=⟨h1_⟩
     have n2_:Aside0 (w48.heap[gb135008]? = some (.cells #[.int .i64 0,.int .i64 0] 29 (0,0))):=⟨h2_⟩
     have n3_:Aside0 (w.heap.size≤gb135008):=⟨h3_⟩
     have n4_:Aside0 (w.heap.size≤gb135008):=⟨h4_⟩
     have n5_:Aside0 (gb135001≠gb135008):=⟨h5_⟩
     have n6_:Aside0 (gb135008≠gb135001):=⟨h6_⟩
     have n7_:Aside0 (gb135002≠gb135008):=⟨h7_⟩
     have n8_:Aside0 (gb135008≠gb135002):=⟨h8_⟩
     have n9_:Aside0 (Below w.heap.size w w48):=⟨h9_⟩
     clear BK135001 BK135002 HB h0_ h1_ h2_ h3_ h4_ h5_ h6_ h7_ h8_ h9_;have BK135001:=n0_;have BK135002:=n1_;have BK135008:=n2_;have GW135008:=n3_;have GE135008:=n4_;have NB135001_135008:=n5_;have NB135008_135001:=n6_;have NB135002_135008:=n7_;have NB135008_135002:=n8_;have HB:=n9_;clear n0_ n1_ n2_ n3_ n4_ n5_ n6_ n7_ n8_ n9_
     have hHeld:w48.cell? ⟨gb135001,0,none⟩=some (.int .i64 a0_0)∧w48.cell? ⟨gb135001,1,none⟩=some (.slice A0_1 l0_1.length c0_1):=hS_
     refine Zag (a':=?_) ?_ ?_
     rotate_left
     ·simp only[Zbb,Act.put,List.setIfInBounds_toArray,List.set_cons_zero,List.set_cons_succ]
      rfl
     refine one_ (i:=11) (N:=none) #[true,true,true,true,true,true,true,true,true,true,true,true] rfl rfl (ZaI HT_.out (by kernel_rfl)) (by decide) (fun K hK=>?_)
     have hs49:w48.cell? ⟨gb135008,0,none⟩=some (.int .i64 0):=(Zu BK135008.out 0).trans rfl
     have hfs49:=Zt BK135008.out 0
     have hns49_0:=NB135001_135008.out
     have hns49_1:=NB135002_135008.out
     have hms49_0:=NB135008_135001.out
     have hms49_1:=NB135008_135002.out
     have hs50:w48.cell? ⟨gb135008,1,none⟩=some (.int .i64 0):=(Zu BK135008.out 1).trans rfl
     have hfs50:=Zt BK135008.out 1
     have hns50_0:=NB135001_135008.out
     have hns50_1:=NB135002_135008.out
     have hms50_0:=NB135008_135001.out
     have hms50_1:=NB135008_135002.out
     refine Zcl (w1:=?_) (by rfl) rfl ?_ ?_
     rotate_left
     ·go_simp
      rfl
     refine hK.out _ _ ⟨((Zai (p:=⟨gb135008,_,none⟩) NB135001_135008.out _).trans (((Zai (p:=⟨gb135008,_,none⟩) NB135001_135008.out _).trans (hHeld.1)))),((Zai (p:=⟨gb135008,_,none⟩) NB135001_135008.out _).trans (((Zai (p:=⟨gb135008,_,none⟩) NB135001_135008.out _).trans (hHeld.2))))⟩ (fun hHeld=>?_)
     clear hK K
     refine Zce (Zb1 HT_.out (by kernel_rfl)) ?_
     have hnb51:=NB135008_135001.out
     have hnc51:=NB135001_135008.out
     have hnb52:=NB135008_135002.out
     have hnc52:=NB135002_135008.out
     have hcz53_0:w48.cell? ⟨gb135008,0,none⟩=some (.int .i64 0):=(Zu BK135008.out 0).trans rfl
     have hcz53_1:w48.cell? ⟨gb135008,1,none⟩=some (.int .i64 0):=(Zu BK135008.out 1).trans rfl
     have hfz53_0:=Zt BK135008.out 0
     have hfz53_1:=Zt BK135008.out 1
     try go_wp2_with (first|((with_reducible refine ZG (f:=165) rfl ?_);refine ZV (some 40) rfl rfl Try.func165 (by kernel_rfl) rfl #[.agg #[.int .i64 (wrap64 (-t135006)),.int .i64 t135007]] rfl (by(try simp only[List.map_toArray,List.map_cons,List.map_nil]);first|done|rfl|(simp only[Zk,Zj];rfl)) ?_;(with_reducible refine(Zao.calls (wrap64 (-t135006)) t135007 false _ A28.out).mono ?_);rintro e w54 ⟨rfl,hb⟩;refine⟨_,rfl,?_⟩;have n0_:=Za (Zx (g:=gb135001) (o:=.cells #[.int .i64 a0_0,.slice A0_1 l0_1.length c0_1] 90 (0,0)) (by(with_reducible repeat(first|refine Zo ?_ _|refine Zr ?_|refine Zn ?_ _));refine ZD ?_ NB135001_135008.out _;(with_reducible repeat(first|refine Zo ?_ _|refine Zr ?_|refine Zn ?_ _));refine ZD ?_ NB135001_135008.out _;(with_reducible repeat(first|refine Zo ?_ _|refine Zr ?_|refine Zn ?_ _));exact BK135001.out) hb);have n1_:=Za (Zx (g:=gb135002) (o:=.cells #[.int .i64 0,.int .i64 0] 29 (0,0)) (by(with_reducible repeat(first|refine Zo ?_ _|refine Zr ?_|refine Zn ?_ _));refine ZD ?_ NB135002_135008.out _;(with_reducible repeat(first|refine Zo ?_ _|refine Zr ?_|refine Zn ?_ _));refine ZD ?_ NB135002_135008.out _;(with_reducible repeat(first|refine Zo ?_ _|refine Zr ?_|refine Zn ?_ _));exact BK135002.out) hb);have n2_:=Za (Zx (g:=gb135008) (o:=.cells #[.int .i64 (wrap64 (-t135006)),.int .i64 t135007] 29 (0,0)) (by(with_reducible repeat(first|refine Zo ?_ _|refine Zr ?_|refine Zn ?_ _));refine ZF (cs:=#[.int .i64 (wrap64 (-t135006)),.int .i64 0]) ?_ 1 _ rfl;(with_reducible repeat(first|refine Zo ?_ _|refine Zr ?_|refine Zn ?_ _));refine ZF (cs:=#[.int .i64 0,.int .i64 0]) ?_ 0 _ rfl;(with_reducible repeat(first|refine Zo ?_ _|refine Zr ?_|refine Zn ?_ _));exact BK135008.out) hb);have n3_:=Za (Zy (by repeat(first|(with_reducible first|exact HB.out|apply Zq|apply Zm|apply Zs|refine Zp ?_ GE135001.out|refine Zp ?_ GE135002.out|refine Zp ?_ GE135008.out)|exact HB.out)) hb);clear BK135001;clear BK135002;clear BK135008;clear HB;have BK135001:=n0_;have BK135002:=n1_;have BK135008:=n2_;have HB:=n3_;clear n0_ n1_ n2_ n3_;(try clear hb);(try clear hb2);(try clear hk);(try clear hi);have hnb55:=NB135002_135001.out;have hnc55:=NB135001_135002.out;have hcz56_0:w54.cell? ⟨gb135002,0,none⟩=some (.int .i64 0):=(Zu BK135002.out 0).trans rfl;have hcz56_1:w54.cell? ⟨gb135002,1,none⟩=some (.int .i64 0):=(Zu BK135002.out 1).trans rfl;have hfz56_0:=Zt BK135002.out 0;have hfz56_1:=Zt BK135002.out 1))
     refine bodyPost_ret (Zab rfl _ _ gb135002 29 #[.int .i64 0,.int .i64 0] (0,0) _ rfl (by(with_reducible repeat(first|refine Zo ?_ _|refine Zr ?_|refine Zn ?_ _));refine ZF (cs:=#[.int .i64 0,.int .i64 0]) ?_ 1 _ rfl;(with_reducible repeat(first|refine Zo ?_ _|refine Zr ?_|refine Zn ?_ _));refine ZF (cs:=#[.int .i64 0,.int .i64 0]) ?_ 0 _ rfl;(with_reducible repeat(first|refine Zo ?_ _|refine Zr ?_|refine Zn ?_ _));exact BK135002.out) Try.underlying29 rfl (by kernel_rfl)) rfl ?_
     exact⟨by first|rfl|(simp[ZA,Zz] <;> rfl)|(simp[*,ZA,Zz] <;> rfl),by repeat(first|(with_reducible first|exact HB.out|apply Zq|apply Zm|apply Zs|refine Zp ?_ GE135001.out|refine Zp ?_ GE135002.out|refine Zp ?_ GE135008.out)|exact HB.out)⟩
end Go.Proofs.Ytpoffpdaadhkgaa.Pr
