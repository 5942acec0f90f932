/- The texts of one claim, put together by a program of this session. -/
import Derived.Test.YtpoffpdaadhkgaaBCtc1x1
import Derived.Test.YtpoffpdaadhkgaaBCtc1x3
import Derived.Test.YtpoffpdaadhkgaaBCtc1x7
namespace Go.Proofs.Ytpoffpdaadhkgaa.Pr
open Go.RowKit Go.Proofs.YtpoffpdaadhkgaaW.PrintWords Go.Proofs.YtpoffpdaadhkgaaW.PrintLast Go.Proofs.YtpoffpdaadhkgaaW.PrintMore
attribute [local go_sem] Zaa Z8 Zak Zaj Z5 Z4 Z9 Z7
set_option linter.unusedVariables false
set_option linter.unusedSimpArgs false
def Zbq.f (a0:Int):Option (Int):=some (mx (-1000000) (mn a0 1000000))
set_option maxHeartbeats 8000000 in
set_option maxRecDepth 100000 in
theorem Zbq.calls (a0:Int) (r:Int) (w:World) (h:Zbq.f a0=some r) :
  Calls Try.prog 116 #[.int .i64 a0] w fun e w'=>e=.returned (.int .i64 r)∧Below w.heap.size w w':=by
 have HB:=Za (Below.refl w.heap.size w)
 have H:(some (mx (-1000000) (mn a0 1000000)))=some r:=h
 clear h
 obtain⟨ji2,hji2⟩:∃j_:Int,(mn a0 1000000)=j_:=⟨_,rfl⟩
 replace H:(some (mx (-1000000) (ji2)))=some r:=by first|(rw[hji2] at H;exact H)|(simp only[hji2] at H ⊢;exact H)
 (try(have hji2h:ji2≤1000000:=by(rw[← hji2];unfold mn;(repeat' split) <;> omega)))
 (try(have hji2g:ji2≤64:=by omega))
 have hji2_:(if 1000000<a0 then 1000000 else a0)=ji2:=hji2
 obtain⟨ji3,hji3⟩:∃j_:Int,(mx (-1000000) (ji2))=j_:=⟨_,rfl⟩
 replace H:(some ji3)=some r:=by first|(rw[hji3] at H;exact H)|(simp only[hji3] at H ⊢;exact H)
 have hji3_:(if (-1000000)<(ji2) then(ji2) else(-1000000))=ji3:=hji3
 obtain rfl:=Zg H
 go_enter Try.func116,Try.ntmps116
 go_wp2
 go_ret
 exact⟨by first|rfl|(simp[ZA,Zz] <;> rfl)|(simp only[← hji2,← hji3];first|rfl|(simp[ZA,Zz] <;> rfl))|(simp[*,ZA,Zz] <;> rfl),by repeat(first|(with_reducible first|exact HB.out|apply Zq|apply Zm|apply Zs)|exact HB.out)⟩
mutual
def ZN.l0:Nat→Int→Int→List (S148)→Int→List Int→Option (Int×List Int×Bool)
 | 0,_,_,_,_,_=>none
 | k+1,x5,x65002000,x65002001,x65005000,x65005001=>if x5<x65002000 then((ZaD.f x65002000 x65002001 x5).bind fun bt65005=>(if bt65005.2=true then(ZN.l1 k x5 bt65005.1 (bt65005.1.length:Int) 0 x65002000 x65002001 x65005000 x65005001) else(some (0,([]:List Int),false)))) else(some (x65005000,x65005001,true))
def ZN.l1:Nat→Int→List Int→Int→Int→Int→List (S148)→Int→List Int→Option (Int×List Int×Bool)
 | 0,_,_,_,_,_,_,_,_=>none
 | k+1,x5,x32,x33,x34,x65002000,x65002001,x65005000,x65005001=>if x34<x33 then(if 0≤x34 then(if x34<(x32.length:Int) then((Zbq.f (rd x32 x34)).bind fun t65010=>(if x65005001.length<17592186044416 then(ZN.l1 k x5 x32 x33 (wrap64 (x34+1)) x65002000 x65002001 x65005000 (x65005001 ++ [t65010])) else(none))) else(none)) else(none)) else(ZN.l0 k (wrap64 (x5+1)) x65002000 x65002001 x65005000 x65005001)
end
def ZN.f (k:Nat) (a0_0:Int) (l0_1:List (S148)):Option (Int×List Int×Bool):=(Zbf.f a0_0 l0_1).bind fun t65003=>(if t65003=true then(ZN.l0 k 0 a0_0 l0_1 a0_0 ([]:List Int)) else(some (0,([]:List Int),false)))
def ZN.T13:Bool×List (List Nat×List Nat):=(true,[([],[]),([0],[0]),([],[]),([2],[2]),([3],[3]),([1,4,3],[1,4]),([0,1,2,3,4,5],[]),([6,5,5,0,1,2,3,4,5],[5,6])])
def ZN.B13:List Nat:=[0,1,0,4,12,31,63,127]
theorem ZN.tab13:rtab .any (opsOf Try.f65 13)=ZN.T13:=by kernel_rfl
theorem ZN.bits13:ZbC ZN.T13.2 ZN.B13=true:=by kernel_rfl
set_option maxHeartbeats 8000000 in
set_option maxRecDepth 100000 in
theorem ZN.calls (k:Nat) (a0_0:Int) (A0_1:Option Addr) (c0_1:Nat) (l0_1:List (S148)) (r1:Int) (r2:List Int) (r3:Bool) (w:World) (hr0_1:Kd.C k148 w A0_1 l0_1.length l0_1) (hc0_1:l0_1.length≤c0_1) (h:ZN.f k a0_0 l0_1=some (r1,r2,r3)) :
  Calls Try.prog 65 #[.agg #[.int .i64 a0_0,.slice A0_1 l0_1.length c0_1]] w fun e w'=>∃v1_:Value,e=.returned (.tuple #[.agg #[.int .i64 r1,v1_],.bool r3])∧Kd.R (Kd.int .i64) 3 w' w.heap.size (fun _=>True) v1_ r2∧Below w.heap.size w w':=by
 have hu95:=Try.underlying95
 have hu90:=Try.underlying90
 have HR0_1:=Za hr0_1;have HC0_1:=Za hc0_1;clear hr0_1 hc0_1
 have HB:=Za (Below.refl w.heap.size w)
 have H:((Zbf.f a0_0 l0_1).bind fun t65003=>(if t65003=true then(ZN.l0 k 0 a0_0 l0_1 a0_0 ([]:List Int)) else(some (0,([]:List Int),false))))=some (r1,r2,r3):=h
 clear h
 replace H:=Zh H
 obtain⟨t65003,A20,H⟩:=H
 replace H:(if t65003=true then(ZN.l0 k 0 a0_0 l0_1 a0_0 ([]:List Int)) else(some (0,([]:List Int),false)))=some (r1,r2,r3):=H
 have A2:=Za A20;clear A20
 by_cases c3:t65003=true
 ·subst c3
  have H1:(ZN.l0 k 0 a0_0 l0_1 a0_0 ([]:List Int))=some (r1,r2,r3):=by rw[if_pos rfl] at H;exact H
  clear H
  have H:=H1
  clear H1
  have H':=Za H
  clear H
  go_enter Try.func65,Try.ntmps65
  go_wp2_with (first|((with_reducible refine ZC (N:=1) rfl ?_);refine ZE ?hg (N:=1) ?hd (cs:=#[.int .i64 a0_0,.slice A0_1 l0_1.length c0_1]) (t:=95) ?hr ?_;(case hd=>rfl);(case hg=>rfl);(case hr=>first|(go_simp;done)|(go_simp;rfl));intro gb65001 hg w4 hbox hb;have n0_:=Za (Zy (by repeat(first|(with_reducible first|exact HB.out|apply Zq|apply Zm|apply Zs)|exact HB.out)) hb);have n1_:=Za (hbox);have n2_:=Za ((by rw[hg];exact(Zv (by repeat(first|(with_reducible first|exact HB.out|apply Zq|apply Zm|apply Zs)|exact HB.out))):w.heap.size≤gb65001));have n3_:=Za ((by rw[hg];exact(Zv (by repeat(first|(with_reducible first|exact HB.out|apply Zq|apply Zm|apply Zs)|exact HB.out))):w.heap.size≤gb65001));clear HB;have HB:=n0_;have BK65001:=n1_;have GW65001:=n2_;have GE65001:=n3_;clear n0_ n1_ n2_ n3_;clear hb hbox hg)|((with_reducible refine ZC (N:=2) rfl ?_);refine ZE ?hg (N:=2) ?hd (cs:=#[.int .i64 0,.slice none 0 0]) (t:=90) ?hr ?_;(case hd=>rfl);(case hg=>rfl);(case hr=>first|(go_simp;done)|(go_simp;rfl));intro gb65002 hg w5 hbox hb;have n0_:=Za (Zx (g:=gb65001) (o:=.cells #[.int .i64 a0_0,.slice A0_1 l0_1.length c0_1] 95 (0,0)) (by(with_reducible repeat(first|refine Zo ?_ _|refine Zr ?_|refine Zn ?_ _));exact BK65001.out) hb);have n1_:=Za (Zy (by repeat(first|(with_reducible first|exact HB.out|apply Zq|apply Zm|apply Zs|refine Zp ?_ GE65001.out)|exact HB.out)) hb);have n2_:=Za (hbox);have n3_:=Za ((by rw[hg];exact(Zv (by repeat(first|(with_reducible first|exact HB.out|apply Zq|apply Zm|apply Zs|refine Zp ?_ GE65001.out)|exact HB.out))):w.heap.size≤gb65002));have n4_:=Za ((by rw[hg];exact(Zv (by repeat(first|(with_reducible first|exact HB.out|apply Zq|apply Zm|apply Zs|refine Zp ?_ GE65001.out)|exact HB.out))):w.heap.size≤gb65002));have n5_:=Za ((by rw[hg];exact Nat.ne_of_lt (ZB (g:=gb65001) (o:=.cells #[.int .i64 a0_0,.slice A0_1 l0_1.length c0_1] 95 (0,0)) (by(with_reducible repeat(first|refine Zo ?_ _|refine Zr ?_|refine Zn ?_ _));exact BK65001.out)):gb65001≠gb65002));have n6_:=Za ((by rw[hg];exact Nat.ne_of_gt (ZB (g:=gb65001) (o:=.cells #[.int .i64 a0_0,.slice A0_1 l0_1.length c0_1] 95 (0,0)) (by(with_reducible repeat(first|refine Zo ?_ _|refine Zr ?_|refine Zn ?_ _));exact BK65001.out)):gb65002≠gb65001));clear BK65001;clear HB;have BK65001:=n0_;have HB:=n1_;have BK65002:=n2_;have GW65002:=n3_;have GE65002:=n4_;have NB65001_65002:=n5_;have NB65002_65001:=n6_;clear n0_ n1_ n2_ n3_ n4_ n5_ n6_;clear hb hbox hg;have hnb6:=NB65001_65002.out;have hnc6:=NB65002_65001.out;have hcz7_0:w5.cell? ⟨gb65001,0,none⟩=some (.int .i64 a0_0):=(Zu BK65001.out 0).trans rfl;have hcz7_1:w5.cell? ⟨gb65001,1,none⟩=some (.slice A0_1 l0_1.length c0_1):=(Zu BK65001.out 1).trans rfl;have hfz7_0:=Zt BK65001.out 0;have hfz7_1:=Zt BK65001.out 1)|((with_reducible refine ZG (f:=114) rfl ?_);refine ZV (some 11) rfl rfl Try.func114 (by kernel_rfl) rfl #[.agg #[.int .i64 a0_0,.slice A0_1 l0_1.length c0_1]] rfl (by(try simp only[List.map_toArray,List.map_cons,List.map_nil]);first|done|rfl|(simp only[Zk,Zj];rfl)) ?_;(with_reducible refine(Zbf.calls a0_0 _ _ l0_1 true _ ?side1 ?side2 A2.out).mono ?_);(case side1=>repeat(first|exact(Zb HR0_1.out HB.out)|(with_reducible refine Kd.C_alloc ?_ _)|(with_reducible refine Kd.C_drewN ?_ _)|(with_reducible refine Kd.C_drew ?_)));(case side2=>exact HC0_1.out);rintro e w8 ⟨rfl,hb⟩;refine⟨_,rfl,?_⟩;have n0_:=Za (Zx (g:=gb65001) (o:=.cells #[.int .i64 a0_0,.slice A0_1 l0_1.length c0_1] 95 (0,0)) (by(with_reducible repeat(first|refine Zo ?_ _|refine Zr ?_|refine Zn ?_ _));exact BK65001.out) hb);have n1_:=Za (Zx (g:=gb65002) (o:=.cells #[.int .i64 0,.slice none 0 0] 90 (0,0)) (by(with_reducible repeat(first|refine Zo ?_ _|refine Zr ?_|refine Zn ?_ _));exact BK65002.out) hb);have n2_:=Za (Zy (by repeat(first|(with_reducible first|exact HB.out|apply Zq|apply Zm|apply Zs|refine Zp ?_ GE65001.out|refine Zp ?_ GE65002.out)|exact HB.out)) hb);clear BK65001;clear BK65002;clear HB;have BK65001:=n0_;have BK65002:=n1_;have HB:=n2_;clear n0_ n1_ n2_;(try clear hb);(try clear hb2);(try clear hk);(try clear hi);have hcz9_0:w8.cell? ⟨gb65001,0,none⟩=some (.int .i64 a0_0):=(Zu BK65001.out 0).trans rfl;have hcz9_1:w8.cell? ⟨gb65001,1,none⟩=some (.slice A0_1 l0_1.length c0_1):=(Zu BK65001.out 1).trans rfl;have hfz9_0:=Zt BK65001.out 0;have hfz9_1:=Zt BK65001.out 1)|((with_reducible refine ZC (N:=4) rfl ?_);refine ZE ?hg (N:=4) ?hd (cs:=#[.int .i64 0,.slice none 0 0]) (t:=90) ?hr ?_;(case hd=>rfl);(case hg=>rfl);(case hr=>first|(go_simp;done)|(go_simp;rfl));intro gb65004 hg w10 hbox hb;have n0_:=Za (Zx (g:=gb65001) (o:=.cells #[.int .i64 a0_0,.slice A0_1 l0_1.length c0_1] 95 (0,0)) (by(with_reducible repeat(first|refine Zo ?_ _|refine Zr ?_|refine Zn ?_ _));exact BK65001.out) hb);have n1_:=Za (Zx (g:=gb65002) (o:=.cells #[.int .i64 0,.slice none 0 0] 90 (0,0)) (by(with_reducible repeat(first|refine Zo ?_ _|refine Zr ?_|refine Zn ?_ _));exact BK65002.out) hb);have n2_:=Za (Zy (by repeat(first|(with_reducible first|exact HB.out|apply Zq|apply Zm|apply Zs|refine Zp ?_ GE65001.out|refine Zp ?_ GE65002.out)|exact HB.out)) hb);have n3_:=Za (hbox);have n4_:=Za ((by rw[hg];exact(Zv (by repeat(first|(with_reducible first|exact HB.out|apply Zq|apply Zm|apply Zs|refine Zp ?_ GE65001.out|refine Zp ?_ GE65002.out)|exact HB.out))):w.heap.size≤gb65004));have n5_:=Za ((by rw[hg];exact(Zv (by repeat(first|(with_reducible first|exact HB.out|apply Zq|apply Zm|apply Zs|refine Zp ?_ GE65001.out|refine Zp ?_ GE65002.out)|exact HB.out))):w.heap.size≤gb65004));have n6_:=Za ((by rw[hg];exact Nat.ne_of_lt (ZB (g:=gb65001) (o:=.cells #[.int .i64 a0_0,.slice A0_1 l0_1.length c0_1] 95 (0,0)) (by(with_reducible repeat(first|refine Zo ?_ _|refine Zr ?_|refine Zn ?_ _));exact BK65001.out)):gb65001≠gb65004));have n7_:=Za ((by rw[hg];exact Nat.ne_of_gt (ZB (g:=gb65001) (o:=.cells #[.int .i64 a0_0,.slice A0_1 l0_1.length c0_1] 95 (0,0)) (by(with_reducible repeat(first|refine Zo ?_ _|refine Zr ?_|refine Zn ?_ _));exact BK65001.out)):gb65004≠gb65001));have n8_:=Za ((by rw[hg];exact Nat.ne_of_lt (ZB (g:=gb65002) (o:=.cells #[.int .i64 0,.slice none 0 0] 90 (0,0)) (by(with_reducible repeat(first|refine Zo ?_ _|refine Zr ?_|refine Zn ?_ _));exact BK65002.out)):gb65002≠gb65004));have n9_:=Za ((by rw[hg];exact Nat.ne_of_gt (ZB (g:=gb65002) (o:=.cells #[.int .i64 0,.slice none 0 0] 90 (0,0)) (by(with_reducible repeat(first|refine Zo ?_ _|refine Zr ?_|refine Zn ?_ _));exact BK65002.out)):gb65004≠gb65002));clear BK65001;clear BK65002;clear HB;have BK65001:=n0_;have BK65002:=n1_;have HB:=n2_;have BK65004:=n3_;have GW65004:=n4_;have GE65004:=n5_;have NB65001_65004:=n6_;have NB65004_65001:=n7_;have NB65002_65004:=n8_;have NB65004_65002:=n9_;clear n0_ n1_ n2_ n3_ n4_ n5_ n6_ n7_ n8_ n9_;clear hb hbox hg;have hnb11:=NB65004_65001.out;have hnc11:=NB65001_65004.out;have hnb12:=NB65004_65002.out;have hnc12:=NB65002_65004.out;have hcz13_0:w10.cell? ⟨gb65004,0,none⟩=some (.int .i64 0):=(Zu BK65004.out 0).trans rfl;have hcz13_1:w10.cell? ⟨gb65004,1,none⟩=some (.slice none 0 0):=(Zu BK65004.out 1).trans rfl;have hfz13_0:=Zt BK65004.out 0;have hfz13_1:=Zt BK65004.out 1))
  go_loopg [5] k (fun kq v5 w'=>∃(x5_1:Int) (x65003000_1:Int) (x65005001_1:List Int) (u65005001:Value),v5=.int .i64 x5_1∧Aside0 (ZN.l0 kq x5_1 a0_0 l0_1 a0_0 x65005001_1=some (r1,r2,r3))∧Aside0 (kq≤k)∧Aside0 (Kd.R (Kd.int .i64) 3 w' w.heap.size (fun _=>True) u65005001 x65005001_1)∧Aside0 (w'.heap[gb65001]? = some (.cells #[.int .i64 a0_0,(.slice A0_1 l0_1.length c0_1)] 95 (0,0)))∧Aside0 (w'.heap[gb65002]? = some (.cells #[.int .i64 x65003000_1,(.slice none 0 0)] 90 (0,0)))∧Aside0 (w'.heap[gb65004]? = some (.cells #[.int .i64 a0_0,u65005001] 90 (0,0)))∧Aside0 (Below w.heap.size w w'))
  case atStart=>exact⟨(0),(0),(([]:List Int)),(.slice none 0 0),(by first|rfl|(simp;done)|(simp[*];done)),H',⟨Nat.le_refl _⟩,⟨by first|exact Kd.R_nil _ _ _ _ _|exact Kd.N_nil _ _ _ _ _|exact Kd.V_nil _ _ _ _ _|exact Kd.Q_nil _ _ _ _ _|exact Kd.S_nil _ _ _ _ _⟩,⟨by(with_reducible repeat(first|refine Zo ?_ _|refine Zr ?_|refine Zn ?_ _));refine ZD ?_ NB65001_65004.out _;(with_reducible repeat(first|refine Zo ?_ _|refine Zr ?_|refine Zn ?_ _));refine ZD ?_ NB65001_65004.out _;(with_reducible repeat(first|refine Zo ?_ _|refine Zr ?_|refine Zn ?_ _));exact BK65001.out⟩,⟨by(with_reducible repeat(first|refine Zo ?_ _|refine Zr ?_|refine Zn ?_ _));refine ZD ?_ NB65002_65004.out _;(with_reducible repeat(first|refine Zo ?_ _|refine Zr ?_|refine Zn ?_ _));refine ZD ?_ NB65002_65004.out _;(with_reducible repeat(first|refine Zo ?_ _|refine Zr ?_|refine Zn ?_ _));exact BK65002.out⟩,⟨by(with_reducible repeat(first|refine Zo ?_ _|refine Zr ?_|refine Zn ?_ _));refine ZF (cs:=#[.int .i64 a0_0,.slice none 0 0]) ?_ 1 _ rfl;(with_reducible repeat(first|refine Zo ?_ _|refine Zr ?_|refine Zn ?_ _));refine ZF (cs:=#[.int .i64 0,.slice none 0 0]) ?_ 0 _ rfl;(with_reducible repeat(first|refine Zo ?_ _|refine Zr ?_|refine Zn ?_ _));exact BK65004.out⟩,⟨by repeat(first|(with_reducible first|exact HB.out|apply Zq|apply Zm|apply Zs|refine Zp ?_ GE65001.out|refine Zp ?_ GE65002.out|refine Zp ?_ GE65004.out)|exact HB.out)⟩⟩
  case round=>
   clear H'
   try clear c1
   try clear p2
   try clear c3
   try clear c6
   try clear c11
   try clear c12
   try clear hcz13_0
   try clear hcz13_1
   try clear hcz7_0
   try clear hcz7_1
   try clear hcz9_0
   try clear hcz9_1
   try clear hfz13_0
   try clear hfz13_1
   try clear hfz7_0
   try clear hfz7_1
   try clear hfz9_0
   try clear hfz9_1
   obtain⟨x5_1,x65003000_1,x65005001_1,u65005001,rfl,HA,HK1,HO_65005001,BK65001,BK65002,BK65004,HB⟩:=hrel
   cases gk with
   | zero=>exact absurd HA.out (by simp[ZN.l0])
   | succ k1=>
    have H:=HA.out
    clear HA
    simp only[ZN.l0] at H
    by_cases c14:x5_1<a0_0
    ·rw[if_pos c14] at H
     have c14b0:decide (x5_1<a0_0)=true:=Ze c14
     clear c14
     replace H:=Zh H
     obtain⟨⟨t65005,t65008⟩,A150,H⟩:=H
     replace H:(if t65008=true then(ZN.l1 k1 x5_1 t65005 (t65005.length:Int) 0 a0_0 l0_1 a0_0 x65005001_1) else(some (0,([]:List Int),false)))=some (r1,r2,r3):=H
     have A15:=Za A150;clear A150
     by_cases c16:t65008=true
     ·subst c16
      have H1:(ZN.l1 k1 x5_1 t65005 (t65005.length:Int) 0 a0_0 l0_1 a0_0 x65005001_1)=some (r1,r2,r3):=by rw[if_pos rfl] at H;exact H
      clear H
      have H:=H1
      clear H1
      have H':=Za H
      clear H
      have hnb17:=NB65001_65002.out
      have hnc17:=NB65002_65001.out
      have hnb18:=NB65001_65004.out
      have hnc18:=NB65004_65001.out
      have hcz19_0:wr.cell? ⟨gb65001,0,none⟩=some (.int .i64 a0_0):=(Zu BK65001.out 0).trans rfl
      have hcz19_1:wr.cell? ⟨gb65001,1,none⟩=some (.slice A0_1 l0_1.length c0_1):=(Zu BK65001.out 1).trans rfl
      have hfz19_0:=Zt BK65001.out 0
      have hfz19_1:=Zt BK65001.out 1
      go_wp2_with (first|((with_reducible refine ZG (f:=115) rfl ?_);refine ZV (some 26) rfl rfl Try.func115 (by kernel_rfl) rfl #[.agg #[.int .i64 a0_0,.slice A0_1 l0_1.length c0_1],.int .i64 x5_1] rfl (by(try simp only[List.map_toArray,List.map_cons,List.map_nil]);first|done|rfl|(simp only[Zk,Zj];rfl)) ?_;(with_reducible refine(ZaD.calls a0_0 _ _ l0_1 x5_1 t65005 true _ ?side1 ?side2 A15.out).mono ?_);(case side1=>repeat(first|exact(Zb HR0_1.out HB.out)|(with_reducible refine Kd.C_alloc ?_ _)|(with_reducible refine Kd.C_drewN ?_ _)|(with_reducible refine Kd.C_drew ?_)));(case side2=>exact HC0_1.out);rintro e w20 ⟨v65006,rfl,ho0,hb⟩;refine⟨_,rfl,?_⟩;have n0_:=Za (Kd.R_elder' (by(with_reducible repeat(first|apply Kd.R_alloc|apply Kd.R_drewN|apply Kd.R_drew));exact HO_65005001.out) (Kd.R_base ho0) hb);have n1_:=Za (Kd.R_lower (Kd.R_new' ho0 (Kd.R_lt (by(with_reducible repeat(first|apply Kd.R_alloc|apply Kd.R_drewN|apply Kd.R_drew));exact HO_65005001.out))) (Zv (by repeat(first|(with_reducible first|exact HB.out|apply Zq|apply Zm|apply Zs|refine Zp ?_ GE65001.out|refine Zp ?_ GE65002.out|refine Zp ?_ GE65004.out)|exact HB.out))));have n2_:=Za (Zx (g:=gb65001) (o:=.cells #[.int .i64 a0_0,.slice A0_1 l0_1.length c0_1] 95 (0,0)) (by(with_reducible repeat(first|refine Zo ?_ _|refine Zr ?_|refine Zn ?_ _));exact BK65001.out) hb);have n3_:=Za (Zx (g:=gb65002) (o:=.cells #[.int .i64 x65003000_1,.slice none 0 0] 90 (0,0)) (by(with_reducible repeat(first|refine Zo ?_ _|refine Zr ?_|refine Zn ?_ _));exact BK65002.out) hb);have n4_:=Za (Zx (g:=gb65004) (o:=.cells #[.int .i64 a0_0,u65005001] 90 (0,0)) (by(with_reducible repeat(first|refine Zo ?_ _|refine Zr ?_|refine Zn ?_ _));exact BK65004.out) hb);have n5_:=Za (Zy (by repeat(first|(with_reducible first|exact HB.out|apply Zq|apply Zm|apply Zs|refine Zp ?_ GE65001.out|refine Zp ?_ GE65002.out|refine Zp ?_ GE65004.out)|exact HB.out)) hb);clear HO_65005001;clear BK65001;clear BK65002;clear BK65004;clear HB;have HO_65005001:=n0_;have HO65007:=n1_;have BK65001:=n2_;have BK65002:=n3_;have BK65004:=n4_;have HB:=n5_;clear n0_ n1_ n2_ n3_ n4_ n5_;(try clear hb);(try clear hb2);(try clear hk);(try clear hi);(try clear ho0);obtain⟨Ao21,co21,eo21⟩:=Kd.R_slice HO65007.out;subst eo21))
      go_loopg [34] k1 (fun kq v34 w'=>∃(x34_2:Int) (x65005001_2:List Int) (u65005001:Value),v34=.int .i64 x34_2∧Aside0 (ZN.l1 kq x5_1 t65005 (t65005.length:Int) x34_2 a0_0 l0_1 a0_0 x65005001_2=some (r1,r2,r3))∧Aside0 (kq≤k1)∧Aside0 (Kd.R (Kd.int .i64) 3 w' w.heap.size (fun k_=>some k_≠(u65005001:Value).ownBlock) (.slice Ao21 t65005.length co21) t65005)∧Aside0 (Kd.R (Kd.int .i64) 3 w' w.heap.size (fun k_=>some k_≠((.slice Ao21 t65005.length co21):Value).ownBlock) u65005001 x65005001_2)∧Aside0 (w'.heap[gb65001]? = some (.cells #[.int .i64 a0_0,(.slice A0_1 l0_1.length c0_1)] 95 (0,0)))∧Aside0 (w'.heap[gb65002]? = some (.cells #[.int .i64 x65003000_1,(.slice none 0 0)] 90 (0,0)))∧Aside0 (w'.heap[gb65004]? = some (.cells #[.int .i64 a0_0,u65005001] 90 (0,0)))∧Aside0 (Below w.heap.size w w'))
      case atStart=>exact⟨(0),(x65005001_1),(u65005001),(by first|rfl|(simp;done)|(simp[*];done)),H',⟨Nat.le_refl _⟩,⟨by(with_reducible repeat(first|apply Kd.R_alloc|apply Kd.R_drewN|apply Kd.R_drew));exact Kd.R_mono HO65007.out (fun _ hk=>hk.2)⟩,⟨by(with_reducible repeat(first|apply Kd.R_alloc|apply Kd.R_drewN|apply Kd.R_drew));exact Kd.R_mono HO_65005001.out (fun _ hk=>hk.2)⟩,⟨by(with_reducible repeat(first|refine Zo ?_ _|refine Zr ?_|refine Zn ?_ _));exact BK65001.out⟩,⟨by(with_reducible repeat(first|refine Zo ?_ _|refine Zr ?_|refine Zn ?_ _));exact BK65002.out⟩,⟨by(with_reducible repeat(first|refine Zo ?_ _|refine Zr ?_|refine Zn ?_ _));exact BK65004.out⟩,⟨by repeat(first|(with_reducible first|exact HB.out|apply Zq|apply Zm|apply Zs|refine Zp ?_ GE65001.out|refine Zp ?_ GE65002.out|refine Zp ?_ GE65004.out)|exact HB.out)⟩⟩
      case round=>
       clear H'
       try clear c1
       try clear p2
       try clear c3
       try clear c6
       try clear c11
       try clear c12
       try clear c14
       try clear c14b0
       try clear c16
       try clear c17
       try clear c18
       try clear hcz13_0
       try clear hcz13_1
       try clear hcz19_0
       try clear hcz19_1
       try clear hcz7_0
       try clear hcz7_1
       try clear hcz9_0
       try clear hcz9_1
       try clear hfz13_0
       try clear hfz13_1
       try clear hfz19_0
       try clear hfz19_1
       try clear hfz7_0
       try clear hfz7_1
       try clear hfz9_0
       try clear hfz9_1
       try clear p2
       obtain⟨x34_2,x65005001_2,u65005001,rfl,HA,HK2,HO_32,HO_65005001,BK65001,BK65002,BK65004,HB⟩:=hrel
       cases gk with
       | zero=>exact absurd HA.out (by simp[ZN.l1])
       | succ k2=>
        have H:=HA.out
        clear HA
        simp only[ZN.l1] at H
        by_cases c22:x34_2<(t65005.length:Int)
        ·rw[if_pos c22] at H
         have c22b0:decide (x34_2<(t65005.length:Int))=true:=Ze c22
         clear c22
         by_cases c23:0≤x34_2
         ·rw[if_pos c23] at H
          have c23b0:decide (0≤x34_2)=true:=Ze c23
          clear c23
          by_cases c24:x34_2<(t65005.length:Int)
          ·rw[if_pos c24] at H
           have c24b0:decide (x34_2<(t65005.length:Int))=true:=Ze c24
           clear c24
           replace H:=Zh H
           obtain⟨t65010,A250,H⟩:=H
           replace H:(if x65005001_2.length<17592186044416 then(ZN.l1 k2 x5_1 t65005 (t65005.length:Int) (wrap64 (x34_2+1)) a0_0 l0_1 a0_0 (x65005001_2 ++ [t65010])) else(none))=some (r1,r2,r3):=H
           have A25:=Za A250;clear A250
           by_cases c26:x65005001_2.length<17592186044416
           ·rw[if_pos c26] at H
            have LMc26:=Za c26;clear c26
            obtain⟨y65011,hy65011⟩:∃y_:List Int,y_=(x65005001_2 ++ [t65010]):=⟨_,rfl⟩
            replace H:(ZN.l1 k2 x5_1 t65005 (t65005.length:Int) (wrap64 (x34_2+1)) a0_0 l0_1 a0_0 y65011)=some (r1,r2,r3):=by first|(rw[hy65011];with_reducible exact H)|(have H2_:=(Zi _ _).symm.trans H;rw[hy65011];with_reducible exact H2_)|(have H2_:=(Zi _ _).symm.trans H;with_reducible exact H2_)|with_reducible exact H|(rw[hy65011];exact H)|exact H
            have Ny65011:=Za hy65011;clear hy65011
            have H':=Za H
            clear H
            have p65009:0≤(x34_2:Int):=Zd (by first|(with_reducible assumption)|assumption)
            have q65009:x34_2<(t65005.length:Int):=Zd (by first|(with_reducible assumption)|assumption)
            obtain⟨ad65009,e65009,hx65009_0⟩:=Kd.at_int (Kd.R_reads' HO_32.out).2.2 x34_2 p65009 q65009
            cases e65009
            replace p65009:=eq_true p65009
            replace q65009:=eq_true q65009
            try go_wp2
            have n0_:=Za (Kd.R_drew HO_32.out)
            have n1_:=Za (Kd.R_drew HO_65005001.out)
            have n2_:=Za (Zr BK65001.out)
            have n3_:=Za (Zr BK65002.out)
            have n4_:=Za (Zr BK65004.out)
            have n5_:=Za (Zs HB.out)
            clear HO_32 HO_65005001 BK65001 BK65002 BK65004 HB;have HO_32:=n0_;have HO_65005001:=n1_;have BK65001:=n2_;have BK65002:=n3_;have BK65004:=n4_;have HB:=n5_;clear n0_ n1_ n2_ n3_ n4_ n5_
            refine ZbU (n:=8) (S:=fun w'=>w'.cell? ⟨gb65004,0,none⟩=some (.int .i64 a0_0)∧w'.cell? ⟨gb65004,1,none⟩=some (u65005001)) (ds:=[7]) #[false,false,false,false,false,false,false,false] (by kernel_rfl) rfl rfl ⟨(Zu BK65004.out 0).trans rfl,(Zu BK65004.out 1).trans rfl⟩ (fun hHeld=>?_);refine ZbE ZN.tab13 ZN.bits13 (fun HT_ HW_=>?_)
            generalize wr.drew=w27 at HO_32 HO_65005001 BK65001 BK65002 BK65004 HB hHeld ⊢
            refine Zaf (i:=0) (N:=some 38) (v:=?_) (a':=?_) #[true,false,false,false,false,false,false,false] rfl rfl (Zac HT_.out (by kernel_rfl)) (fun _ _ _ h=>h) (Or.inl ⟨by rfl,?_⟩) ?_ ?_
            rotate_left
            ·intro w'
             go_simp
             with_reducible rfl
            rotate_left
            ·simp only[Act.put,List.setIfInBounds_toArray,List.set_cons_zero,List.set_cons_succ,ZO,ZP]
             rfl
            refine Zaf (i:=2) (N:=some 40) (v:=?_) (a':=?_) #[true,false,true,false,false,false,false,false] rfl rfl (Zac HT_.out (by kernel_rfl)) (fun _ _ _ h=>h) (Or.inl ⟨by rfl,?_⟩) ?_ ?_
            rotate_left
            ·intro w'
             go_simp
             with_reducible rfl
            rotate_left
            ·simp only[Act.put,List.setIfInBounds_toArray,List.set_cons_zero,List.set_cons_succ,ZO,ZP]
             rfl
            refine take_ (i:=1) (N:=some 39) (v:=?_) (a':=?_) #[true,true,true,false,false,false,false,false] rfl rfl (Zbd HT_.out HW_.out (by kernel_rfl)) (fun _ _ _ h=>h) (Or.inl ⟨by rfl,?_⟩) hHeld ?_ ?_
            rotate_left
            ·rintro w' ⟨s0,s1⟩
             go_simp
             with_reducible rfl
            rotate_left
            ·simp only[Act.put,List.setIfInBounds_toArray,List.set_cons_zero,List.set_cons_succ,ZO,ZP]
             rfl
            refine one_ (i:=3) (N:=some 41) #[true,true,true,true,false,false,false,false] rfl rfl (ZaI HT_.out (by kernel_rfl)) (by decide) (fun K hK=>?_)
            refine Zbr Try.func116 (by kernel_rfl) rfl #[.int .i64 (rd t65005 x34_2)] (by rfl) rfl rfl (by(try simp only[List.map_toArray,List.map_cons,List.map_nil]);first|done|rfl|(simp only[Zk,Zj];rfl)) ?_
            with_reducible refine(Zbq.calls (rd t65005 x34_2) t65010 _ A25.out).mono ?_
            rintro e w28 ⟨rfl,hb⟩
            refine⟨_,rfl,?_⟩
            have n0_:=Za (Kd.R_below (by(with_reducible repeat(first|apply Kd.R_alloc|apply Kd.R_drewN|apply Kd.R_drew));exact HO_32.out) hb)
            have n1_:=Za (Kd.R_below (by(with_reducible repeat(first|apply Kd.R_alloc|apply Kd.R_drewN|apply Kd.R_drew));exact HO_65005001.out) hb)
            have n2_:=Za (Zx (g:=gb65001) (o:=.cells #[.int .i64 a0_0,.slice A0_1 l0_1.length c0_1] 95 (0,0)) (by(with_reducible repeat(first|refine Zo ?_ _|refine Zr ?_|refine Zn ?_ _));exact BK65001.out) hb)
            have n3_:=Za (Zx (g:=gb65002) (o:=.cells #[.int .i64 x65003000_1,.slice none 0 0] 90 (0,0)) (by(with_reducible repeat(first|refine Zo ?_ _|refine Zr ?_|refine Zn ?_ _));exact BK65002.out) hb)
            have n4_:=Za (Zx (g:=gb65004) (o:=.cells #[.int .i64 a0_0,u65005001] 90 (0,0)) (by(with_reducible repeat(first|refine Zo ?_ _|refine Zr ?_|refine Zn ?_ _));exact BK65004.out) hb)
            have n5_:=Za (Zy (by repeat(first|(with_reducible first|exact HB.out|apply Zq|apply Zm|apply Zs|refine Zp ?_ GE65001.out|refine Zp ?_ GE65002.out|refine Zp ?_ GE65004.out)|exact HB.out)) hb)
            clear HO_32 HO_65005001 BK65001 BK65002 BK65004 HB;have HO_32:=n0_;have HO_65005001:=n1_;have BK65001:=n2_;have BK65002:=n3_;have BK65004:=n4_;have HB:=n5_;clear n0_ n1_ n2_ n3_ n4_ n5_
            (try clear hb)
            (try clear hb2)
            (try clear hk)
            (try clear hi)
            refine hK.out _ _ ⟨(Zu BK65004.out 0).trans rfl,(Zu BK65004.out 1).trans rfl⟩ (fun hHeld=>?_)
            clear hK K
            refine Zag (a':=?_) ?_ ?_
            rotate_left
            ·show Act.put _ (some 41) _=_
             simp only[Act.put,List.setIfInBounds_toArray,List.set_cons_zero,List.set_cons_succ,ZO,ZP]
             rfl
            refine one_ (i:=4) (N:=some 42) #[true,true,true,true,true,false,false,false] rfl rfl (ZaI HT_.out (by kernel_rfl)) (by decide) (fun K hK=>?_)
            refine value_ (w1:=?_) (v:=?_) (by rfl) rfl ?_ ?_
            rotate_left 2
            ·go_simp
             constructor
             ·rfl
             ·rfl
            refine hK.out _ _ ⟨(Zu (Zn BK65004.out _) 0).trans rfl,(Zu (Zn BK65004.out _) 1).trans rfl⟩ (fun hHeld=>?_)
            clear hK K
            refine Zag (a':=?_) ?_ ?_
            rotate_left
            ·show Act.put _ (some 42) _=_
             simp only[Act.put,List.setIfInBounds_toArray,List.set_cons_zero,List.set_cons_succ,ZO,ZP]
             rfl
            refine one_ (i:=5) (N:=some 43) #[true,true,true,true,true,true,false,false] rfl rfl (ZaI HT_.out (by kernel_rfl)) (by decide) (fun K hK=>?_)
            refine Kd.R_append_step (Kd.int .i64) (w0:=w) w.heap.size (by rfl) (.tmp 39) (.tmp 42) 33 3 (.int .i64 0) 8 rfl Try.underlying33 Za1 rfl (by decide) (by omega) u65005001 x65005001_2 t65010 [.int .i64 t65010] (fun k_=>some k_≠(.slice (some ad65009) t65005.length co21:Value).ownBlock) (fun _=>False) rfl rfl ?aP (fun _ hk=>hk.elim) ?aF ?aO ?aB ?aS ?aL ?_
            (case aP=>exact rfl)
            (case aB=>exact(by repeat(first|(with_reducible first|exact HB.out|apply Zq|apply Zm|apply Zs|refine Zp ?_ GE65001.out|refine Zp ?_ GE65002.out|refine Zp ?_ GE65004.out)|exact HB.out)))
            (case aF=>exact(fun k_ hk=>Kd.fresh' (Kd.R_lt (by(with_reducible repeat(first|apply Kd.R_alloc|apply Kd.R_drewN|apply Kd.R_drew));exact HO_32.out)) k_ hk))
            (case aO=>exact(by(with_reducible repeat(first|apply Kd.R_alloc|apply Kd.R_drewN|apply Kd.R_drew));exact HO_65005001.out))
            (case aS=>exact(Zv (by repeat(first|(with_reducible first|exact HB.out|apply Zq|apply Zm|apply Zs|refine Zp ?_ GE65001.out|refine Zp ?_ GE65002.out|refine Zp ?_ GE65004.out)|exact HB.out))))
            (case aL=>have:=LMc26.out;omega)
            intro v65012 w29 ho hb hg hat
            rw[← Ny65011.out] at ho
            have n0_:=Za (Kd.R_after (ok:=(fun _=>True)) (by(with_reducible repeat(first|apply Kd.R_alloc|apply Kd.R_drewN|apply Kd.R_drew));exact Kd.R_mono HO_32.out (fun _ hk=>⟨trivial,hk⟩)) hg hat)
            have n1_:=Za (ZT (g:=gb65001) (o:=.cells #[.int .i64 a0_0,.slice A0_1 l0_1.length c0_1] 95 (0,0)) (by(with_reducible repeat(first|refine Zo ?_ _|refine Zr ?_|refine Zn ?_ _));exact BK65001.out) hg (Kd.R_ne HO_65005001.out BK65001.out (by decide)))
            have n2_:=Za (ZT (g:=gb65002) (o:=.cells #[.int .i64 x65003000_1,.slice none 0 0] 90 (0,0)) (by(with_reducible repeat(first|refine Zo ?_ _|refine Zr ?_|refine Zn ?_ _));exact BK65002.out) hg (Kd.R_ne HO_65005001.out BK65002.out (by decide)))
            have n3_:=Za (ZT (g:=gb65004) (o:=.cells #[.int .i64 a0_0,u65005001] 90 (0,0)) (by(with_reducible repeat(first|refine Zo ?_ _|refine Zr ?_|refine Zn ?_ _));exact BK65004.out) hg (Kd.R_ne HO_65005001.out BK65004.out (by decide)))
            have n4_:=Za (hb)
            have n5_:=Za (ho)
            clear HO_32 BK65001 BK65002 BK65004 HB HO_65005001;have HO_32:=n0_;have BK65001:=n1_;have BK65002:=n2_;have BK65004:=n3_;have HB:=n4_;have HO65013:=n5_;clear n0_ n1_ n2_ n3_ n4_ n5_ ho hb hg hat
            obtain⟨Ao30,co30,eo30⟩:=Kd.R_slice HO65013.out
            (first|subst eo30|(injection eo30 with f1_ f2_ f3_;have f4_:=f1_.symm;have f5_:=f3_.symm;clear f1_ f2_ f3_;subst f4_;subst f5_))
            refine hK.out _ _ ⟨(Zu BK65004.out 0).trans rfl,(Zu BK65004.out 1).trans rfl⟩ (fun hHeld=>?_)
            clear hK K
            refine Zag (a':=?_) ?_ ?_
            rotate_left
            ·show Act.put _ (some 43) _=_
             simp only[Act.put,List.setIfInBounds_toArray,List.set_cons_zero,List.set_cons_succ,ZO,ZP]
             rfl
            refine Zaf (i:=6) (N:=some 44) (v:=?_) (a':=?_) #[true,true,true,true,true,true,true,false] rfl rfl (Zac HT_.out (by kernel_rfl)) (fun _ _ _ h=>h) (Or.inl ⟨by rfl,?_⟩) ?_ ?_
            rotate_left
            ·intro w'
             go_simp
             with_reducible rfl
            rotate_left
            ·simp only[Act.put,List.setIfInBounds_toArray,List.set_cons_zero,List.set_cons_succ,ZO,ZP]
             rfl
            refine last_ (i:=7) (N:=none) #[true,true,true,true,true,true,true,true] rfl rfl (ZaI HT_.out (by kernel_rfl)) (by decide) (fun K hK=>?_)
            have hs31:w29.cell? ⟨gb65004,1,none⟩=some (u65005001):=(Zu BK65004.out 1).trans rfl
            have hfs31:=Zt BK65004.out 1
            have hns31_0:=NB65001_65004.out
            have hns31_1:=NB65002_65004.out
            have hms31_0:=NB65004_65001.out
            have hms31_1:=NB65004_65002.out
            refine Zcl (w1:=?_) (by rfl) rfl ?_ ?_
            rotate_left
            ·go_simp
             rfl
            refine hK.out _ _ ?_
            clear hK K
            refine Zce (Zb1 HT_.out (by kernel_rfl)) ?_
            try go_wp2
            go_roundg k2
            case measure=>have:=HK1.out;have:=HK2.out;omega
            case rel=>exact⟨(wrap64 (x34_2+1)),(y65011),(.slice Ao30 y65011.length co30),(by first|rfl|(simp;done)|(simp[*];done)),H',⟨by have:=HK1.out;have:=HK2.out;omega⟩,⟨by(with_reducible repeat(first|apply Kd.R_alloc|apply Kd.R_drewN|apply Kd.R_drew));exact Kd.R_mono (Kd.R_far (p:=⟨gb65004,1,none⟩) (Kd.R_types HO_32.out BK65004.out (by decide)) (fun _ hk=>hk.2) (.slice Ao30 y65011.length co30)) (fun _ hk=>hk.1.2)⟩,⟨by(with_reducible repeat(first|apply Kd.R_alloc|apply Kd.R_drewN|apply Kd.R_drew));exact Kd.R_mono (Kd.R_far (p:=⟨gb65004,1,none⟩) (Kd.R_types HO65013.out BK65004.out (by decide)) (fun _ hk=>hk.2) (.slice Ao30 y65011.length co30)) (fun _ hk=>hk.1)⟩,⟨by(with_reducible repeat(first|refine Zo ?_ _|refine Zr ?_|refine Zn ?_ _));refine ZD ?_ NB65001_65004.out _;(with_reducible repeat(first|refine Zo ?_ _|refine Zr ?_|refine Zn ?_ _));exact BK65001.out⟩,⟨by(with_reducible repeat(first|refine Zo ?_ _|refine Zr ?_|refine Zn ?_ _));refine ZD ?_ NB65002_65004.out _;(with_reducible repeat(first|refine Zo ?_ _|refine Zr ?_|refine Zn ?_ _));exact BK65002.out⟩,⟨by(with_reducible repeat(first|refine Zo ?_ _|refine Zr ?_|refine Zn ?_ _));refine ZF (cs:=#[.int .i64 a0_0,u65005001]) ?_ 1 _ rfl;(with_reducible repeat(first|refine Zo ?_ _|refine Zr ?_|refine Zn ?_ _));exact BK65004.out⟩,⟨by repeat(first|(with_reducible first|exact HB.out|apply Zq|apply Zm|apply Zs|refine Zp ?_ GE65001.out|refine Zp ?_ GE65002.out|refine Zp ?_ GE65004.out)|exact HB.out)⟩⟩
           ·rw[if_neg c26] at H
            exact absurd H (by simp)
          ·rw[if_neg c24] at H
           exact absurd H (by simp)
         ·rw[if_neg c23] at H
          exact absurd H (by simp)
        ·rw[if_neg c22] at H
         have c22b0:decide (x34_2<(t65005.length:Int))=false:=Zf c22
         clear c22
         have H':=Za H
         clear H
         go_wp2
         go_roundg k2
         case measure=>have:=HK1.out;have:=HK2.out;omega
         case rel=>exact⟨(wrap64 (x5_1+1)),(x65003000_1),(x65005001_2),(u65005001),(by first|rfl|(simp;done)|(simp[*];done)),H',⟨by have:=HK1.out;have:=HK2.out;omega⟩,⟨by(with_reducible repeat(first|apply Kd.R_alloc|apply Kd.R_drewN|apply Kd.R_drew));exact Kd.R_mono HO_65005001.out (fun _ hk=>trivial)⟩,⟨by(with_reducible repeat(first|refine Zo ?_ _|refine Zr ?_|refine Zn ?_ _));exact BK65001.out⟩,⟨by(with_reducible repeat(first|refine Zo ?_ _|refine Zr ?_|refine Zn ?_ _));exact BK65002.out⟩,⟨by(with_reducible repeat(first|refine Zo ?_ _|refine Zr ?_|refine Zn ?_ _));exact BK65004.out⟩,⟨by repeat(first|(with_reducible first|exact HB.out|apply Zq|apply Zm|apply Zs|refine Zp ?_ GE65001.out|refine Zp ?_ GE65002.out|refine Zp ?_ GE65004.out)|exact HB.out)⟩⟩
     ·replace c16:=Bool.eq_false_iff.mpr c16
      subst c16
      have H1:(some (0,([]:List Int),false))=some (r1,r2,r3):=by rw[if_neg (show ¬(false=true) by decide)] at H;exact H
      clear H
      have H:=H1
      clear H1
      simp only[Option.some.injEq,Prod.mk.injEq] at H
      obtain⟨rfl,rfl,rfl⟩:=H
      have hnb32:=NB65001_65002.out
      have hnc32:=NB65002_65001.out
      have hnb33:=NB65001_65004.out
      have hnc33:=NB65004_65001.out
      have hcz34_0:wr.cell? ⟨gb65001,0,none⟩=some (.int .i64 a0_0):=(Zu BK65001.out 0).trans rfl
      have hcz34_1:wr.cell? ⟨gb65001,1,none⟩=some (.slice A0_1 l0_1.length c0_1):=(Zu BK65001.out 1).trans rfl
      have hfz34_0:=Zt BK65001.out 0
      have hfz34_1:=Zt BK65001.out 1
      go_wp2_with (first|((with_reducible refine ZG (f:=115) rfl ?_);refine ZV (some 26) rfl rfl Try.func115 (by kernel_rfl) rfl #[.agg #[.int .i64 a0_0,.slice A0_1 l0_1.length c0_1],.int .i64 x5_1] rfl (by(try simp only[List.map_toArray,List.map_cons,List.map_nil]);first|done|rfl|(simp only[Zk,Zj];rfl)) ?_;(with_reducible refine(ZaD.calls a0_0 _ _ l0_1 x5_1 t65005 false _ ?side1 ?side2 A15.out).mono ?_);(case side1=>repeat(first|exact(Zb HR0_1.out HB.out)|(with_reducible refine Kd.C_alloc ?_ _)|(with_reducible refine Kd.C_drewN ?_ _)|(with_reducible refine Kd.C_drew ?_)));(case side2=>exact HC0_1.out);rintro e w35 ⟨v65006,rfl,ho0,hb⟩;refine⟨_,rfl,?_⟩;have n0_:=Za (Kd.R_elder' (by(with_reducible repeat(first|apply Kd.R_alloc|apply Kd.R_drewN|apply Kd.R_drew));exact HO_65005001.out) (Kd.R_base ho0) hb);have n1_:=Za (Kd.R_lower (Kd.R_new' ho0 (Kd.R_lt (by(with_reducible repeat(first|apply Kd.R_alloc|apply Kd.R_drewN|apply Kd.R_drew));exact HO_65005001.out))) (Zv (by repeat(first|(with_reducible first|exact HB.out|apply Zq|apply Zm|apply Zs|refine Zp ?_ GE65001.out|refine Zp ?_ GE65002.out|refine Zp ?_ GE65004.out)|exact HB.out))));have n2_:=Za (Zx (g:=gb65001) (o:=.cells #[.int .i64 a0_0,.slice A0_1 l0_1.length c0_1] 95 (0,0)) (by(with_reducible repeat(first|refine Zo ?_ _|refine Zr ?_|refine Zn ?_ _));exact BK65001.out) hb);have n3_:=Za (Zx (g:=gb65002) (o:=.cells #[.int .i64 x65003000_1,.slice none 0 0] 90 (0,0)) (by(with_reducible repeat(first|refine Zo ?_ _|refine Zr ?_|refine Zn ?_ _));exact BK65002.out) hb);have n4_:=Za (Zx (g:=gb65004) (o:=.cells #[.int .i64 a0_0,u65005001] 90 (0,0)) (by(with_reducible repeat(first|refine Zo ?_ _|refine Zr ?_|refine Zn ?_ _));exact BK65004.out) hb);have n5_:=Za (Zy (by repeat(first|(with_reducible first|exact HB.out|apply Zq|apply Zm|apply Zs|refine Zp ?_ GE65001.out|refine Zp ?_ GE65002.out|refine Zp ?_ GE65004.out)|exact HB.out)) hb);clear HO_65005001;clear BK65001;clear BK65002;clear BK65004;clear HB;have HO_65005001:=n0_;have HO65007:=n1_;have BK65001:=n2_;have BK65002:=n3_;have BK65004:=n4_;have HB:=n5_;clear n0_ n1_ n2_ n3_ n4_ n5_;(try clear hb);(try clear hb2);(try clear hk);(try clear hi);(try clear ho0);have hnb36:=NB65002_65004.out;have hnc36:=NB65004_65002.out;have hcz37_0:w35.cell? ⟨gb65002,0,none⟩=some (.int .i64 x65003000_1):=(Zu BK65002.out 0).trans rfl;have hcz37_1:w35.cell? ⟨gb65002,1,none⟩=some (.slice none 0 0):=(Zu BK65002.out 1).trans rfl;have hfz37_0:=Zt BK65002.out 0;have hfz37_1:=Zt BK65002.out 1))
      refine bodyPost_ret (Zab rfl _ _ gb65002 90 #[.int .i64 0,.slice none 0 0] (0,0) _ rfl (by(with_reducible repeat(first|refine Zo ?_ _|refine Zr ?_|refine Zn ?_ _));refine ZF (cs:=#[.int .i64 0,.slice none 0 0]) ?_ 1 _ rfl;(with_reducible repeat(first|refine Zo ?_ _|refine Zr ?_|refine Zn ?_ _));refine ZF (cs:=#[.int .i64 x65003000_1,.slice none 0 0]) ?_ 0 _ rfl;(with_reducible repeat(first|refine Zo ?_ _|refine Zr ?_|refine Zn ?_ _));exact BK65002.out) Try.underlying90 rfl (by kernel_rfl)) rfl ?_
      exact⟨_,by first|rfl|(simp[ZA,Zz] <;> rfl)|(simp[*,ZA,Zz] <;> rfl),by first|exact Kd.R_nil _ _ _ _ _|exact Kd.N_nil _ _ _ _ _|exact Kd.V_nil _ _ _ _ _|exact Kd.Q_nil _ _ _ _ _|exact Kd.S_nil _ _ _ _ _,by repeat(first|(with_reducible first|exact HB.out|apply Zq|apply Zm|apply Zs|refine Zp ?_ GE65001.out|refine Zp ?_ GE65002.out|refine Zp ?_ GE65004.out)|exact HB.out)⟩
    ·rw[if_neg c14] at H
     have c14b0:decide (x5_1<a0_0)=false:=Zf c14
     clear c14
     simp only[Option.some.injEq,Prod.mk.injEq] at H
     obtain⟨rfl,rfl,rfl⟩:=H
     have hnb38:=NB65001_65002.out
     have hnc38:=NB65002_65001.out
     have hnb39:=NB65001_65004.out
     have hnc39:=NB65004_65001.out
     have hcz40_0:wr.cell? ⟨gb65001,0,none⟩=some (.int .i64 a0_0):=(Zu BK65001.out 0).trans rfl
     have hcz40_1:wr.cell? ⟨gb65001,1,none⟩=some (.slice A0_1 l0_1.length c0_1):=(Zu BK65001.out 1).trans rfl
     have hfz40_0:=Zt BK65001.out 0
     have hfz40_1:=Zt BK65001.out 1
     have hnb41:=NB65004_65002.out
     have hnc41:=NB65002_65004.out
     have hcz42_0:wr.cell? ⟨gb65004,0,none⟩=some (.int .i64 a0_0):=(Zu BK65004.out 0).trans rfl
     have hcz42_1:wr.cell? ⟨gb65004,1,none⟩=some (u65005001):=(Zu BK65004.out 1).trans rfl
     have hfz42_0:=Zt BK65004.out 0
     have hfz42_1:=Zt BK65004.out 1
     have hcz43_0:wr.cell? ⟨gb65002,0,none⟩=some (.int .i64 x65003000_1):=(Zu BK65002.out 0).trans rfl
     have hcz43_1:wr.cell? ⟨gb65002,1,none⟩=some (.slice none 0 0):=(Zu BK65002.out 1).trans rfl
     have hfz43_0:=Zt BK65002.out 0
     have hfz43_1:=Zt BK65002.out 1
     obtain⟨Ao44,co44,eo44⟩:=Kd.R_slice HO_65005001.out
     subst eo44
     go_wp2
     refine bodyPost_ret (Zab rfl _ _ gb65002 90 #[.int .i64 a0_0,.slice Ao44 x65005001_1.length co44] (0,0) _ rfl (by(with_reducible repeat(first|refine Zo ?_ _|refine Zr ?_|refine Zn ?_ _));refine ZF (cs:=#[.int .i64 a0_0,.slice none 0 0]) ?_ 1 _ rfl;(with_reducible repeat(first|refine Zo ?_ _|refine Zr ?_|refine Zn ?_ _));refine ZF (cs:=#[.int .i64 x65003000_1,.slice none 0 0]) ?_ 0 _ rfl;(with_reducible repeat(first|refine Zo ?_ _|refine Zr ?_|refine Zn ?_ _));exact BK65002.out) Try.underlying90 rfl (by kernel_rfl)) rfl ?_
     exact⟨_,by first|rfl|(simp[ZA,Zz] <;> rfl)|(simp[*,ZA,Zz] <;> rfl),by(with_reducible repeat(first|apply Kd.R_alloc|apply Kd.R_drewN|apply Kd.R_drew));exact Kd.R_mono (Kd.R_far (p:=⟨gb65002,1,none⟩) (Kd.R_far (p:=⟨gb65002,0,none⟩) (Kd.R_types HO_65005001.out BK65002.out (by decide)) (fun _ hk=>hk.2) (.int .i64 a0_0)) (fun _ hk=>hk.2) (.slice Ao44 x65005001_1.length co44)) (fun _ hk=>trivial),by repeat(first|(with_reducible first|exact HB.out|apply Zq|apply Zm|apply Zs|refine Zp ?_ GE65001.out|refine Zp ?_ GE65002.out|refine Zp ?_ GE65004.out)|exact HB.out)⟩
 ·replace c3:=Bool.eq_false_iff.mpr c3
  subst c3
  have H1:(some (0,([]:List Int),false))=some (r1,r2,r3):=by rw[if_neg (show ¬(false=true) by decide)] at H;exact H
  clear H
  have H:=H1
  clear H1
  simp only[Option.some.injEq,Prod.mk.injEq] at H
  obtain⟨rfl,rfl,rfl⟩:=H
  go_enter Try.func65,Try.ntmps65
  go_wp2_with (first|((with_reducible refine ZC (N:=1) rfl ?_);refine ZE ?hg (N:=1) ?hd (cs:=#[.int .i64 a0_0,.slice A0_1 l0_1.length c0_1]) (t:=95) ?hr ?_;(case hd=>rfl);(case hg=>rfl);(case hr=>first|(go_simp;done)|(go_simp;rfl));intro gb65001 hg w45 hbox hb;have n0_:=Za (Zy (by repeat(first|(with_reducible first|exact HB.out|apply Zq|apply Zm|apply Zs)|exact HB.out)) hb);have n1_:=Za (hbox);have n2_:=Za ((by rw[hg];exact(Zv (by repeat(first|(with_reducible first|exact HB.out|apply Zq|apply Zm|apply Zs)|exact HB.out))):w.heap.size≤gb65001));have n3_:=Za ((by rw[hg];exact(Zv (by repeat(first|(with_reducible first|exact HB.out|apply Zq|apply Zm|apply Zs)|exact HB.out))):w.heap.size≤gb65001));clear HB;have HB:=n0_;have BK65001:=n1_;have GW65001:=n2_;have GE65001:=n3_;clear n0_ n1_ n2_ n3_;clear hb hbox hg)|((with_reducible refine ZC (N:=2) rfl ?_);refine ZE ?hg (N:=2) ?hd (cs:=#[.int .i64 0,.slice none 0 0]) (t:=90) ?hr ?_;(case hd=>rfl);(case hg=>rfl);(case hr=>first|(go_simp;done)|(go_simp;rfl));intro gb65002 hg w46 hbox hb;have n0_:=Za (Zx (g:=gb65001) (o:=.cells #[.int .i64 a0_0,.slice A0_1 l0_1.length c0_1] 95 (0,0)) (by(with_reducible repeat(first|refine Zo ?_ _|refine Zr ?_|refine Zn ?_ _));exact BK65001.out) hb);have n1_:=Za (Zy (by repeat(first|(with_reducible first|exact HB.out|apply Zq|apply Zm|apply Zs|refine Zp ?_ GE65001.out)|exact HB.out)) hb);have n2_:=Za (hbox);have n3_:=Za ((by rw[hg];exact(Zv (by repeat(first|(with_reducible first|exact HB.out|apply Zq|apply Zm|apply Zs|refine Zp ?_ GE65001.out)|exact HB.out))):w.heap.size≤gb65002));have n4_:=Za ((by rw[hg];exact(Zv (by repeat(first|(with_reducible first|exact HB.out|apply Zq|apply Zm|apply Zs|refine Zp ?_ GE65001.out)|exact HB.out))):w.heap.size≤gb65002));have n5_:=Za ((by rw[hg];exact Nat.ne_of_lt (ZB (g:=gb65001) (o:=.cells #[.int .i64 a0_0,.slice A0_1 l0_1.length c0_1] 95 (0,0)) (by(with_reducible repeat(first|refine Zo ?_ _|refine Zr ?_|refine Zn ?_ _));exact BK65001.out)):gb65001≠gb65002));have n6_:=Za ((by rw[hg];exact Nat.ne_of_gt (ZB (g:=gb65001) (o:=.cells #[.int .i64 a0_0,.slice A0_1 l0_1.length c0_1] 95 (0,0)) (by(with_reducible repeat(first|refine Zo ?_ _|refine Zr ?_|refine Zn ?_ _));exact BK65001.out)):gb65002≠gb65001));clear BK65001;clear HB;have BK65001:=n0_;have HB:=n1_;have BK65002:=n2_;have GW65002:=n3_;have GE65002:=n4_;have NB65001_65002:=n5_;have NB65002_65001:=n6_;clear n0_ n1_ n2_ n3_ n4_ n5_ n6_;clear hb hbox hg;have hnb47:=NB65001_65002.out;have hnc47:=NB65002_65001.out;have hcz48_0:w46.cell? ⟨gb65001,0,none⟩=some (.int .i64 a0_0):=(Zu BK65001.out 0).trans rfl;have hcz48_1:w46.cell? ⟨gb65001,1,none⟩=some (.slice A0_1 l0_1.length c0_1):=(Zu BK65001.out 1).trans rfl;have hfz48_0:=Zt BK65001.out 0;have hfz48_1:=Zt BK65001.out 1)|((with_reducible refine ZG (f:=114) rfl ?_);refine ZV (some 11) rfl rfl Try.func114 (by kernel_rfl) rfl #[.agg #[.int .i64 a0_0,.slice A0_1 l0_1.length c0_1]] rfl (by(try simp only[List.map_toArray,List.map_cons,List.map_nil]);first|done|rfl|(simp only[Zk,Zj];rfl)) ?_;(with_reducible refine(Zbf.calls a0_0 _ _ l0_1 false _ ?side1 ?side2 A2.out).mono ?_);(case side1=>repeat(first|exact(Zb HR0_1.out HB.out)|(with_reducible refine Kd.C_alloc ?_ _)|(with_reducible refine Kd.C_drewN ?_ _)|(with_reducible refine Kd.C_drew ?_)));(case side2=>exact HC0_1.out);rintro e w49 ⟨rfl,hb⟩;refine⟨_,rfl,?_⟩;have n0_:=Za (Zx (g:=gb65001) (o:=.cells #[.int .i64 a0_0,.slice A0_1 l0_1.length c0_1] 95 (0,0)) (by(with_reducible repeat(first|refine Zo ?_ _|refine Zr ?_|refine Zn ?_ _));exact BK65001.out) hb);have n1_:=Za (Zx (g:=gb65002) (o:=.cells #[.int .i64 0,.slice none 0 0] 90 (0,0)) (by(with_reducible repeat(first|refine Zo ?_ _|refine Zr ?_|refine Zn ?_ _));exact BK65002.out) hb);have n2_:=Za (Zy (by repeat(first|(with_reducible first|exact HB.out|apply Zq|apply Zm|apply Zs|refine Zp ?_ GE65001.out|refine Zp ?_ GE65002.out)|exact HB.out)) hb);clear BK65001;clear BK65002;clear HB;have BK65001:=n0_;have BK65002:=n1_;have HB:=n2_;clear n0_ n1_ n2_;(try clear hb);(try clear hb2);(try clear hk);(try clear hi);have hcz50_0:w49.cell? ⟨gb65002,0,none⟩=some (.int .i64 0):=(Zu BK65002.out 0).trans rfl;have hcz50_1:w49.cell? ⟨gb65002,1,none⟩=some (.slice none 0 0):=(Zu BK65002.out 1).trans rfl;have hfz50_0:=Zt BK65002.out 0;have hfz50_1:=Zt BK65002.out 1))
  refine bodyPost_ret (Zab rfl _ _ gb65002 90 #[.int .i64 0,.slice none 0 0] (0,0) _ rfl (by(with_reducible repeat(first|refine Zo ?_ _|refine Zr ?_|refine Zn ?_ _));refine ZF (cs:=#[.int .i64 0,.slice none 0 0]) ?_ 1 _ rfl;(with_reducible repeat(first|refine Zo ?_ _|refine Zr ?_|refine Zn ?_ _));refine ZF (cs:=#[.int .i64 0,.slice none 0 0]) ?_ 0 _ rfl;(with_reducible repeat(first|refine Zo ?_ _|refine Zr ?_|refine Zn ?_ _));exact BK65002.out) Try.underlying90 rfl (by kernel_rfl)) rfl ?_
  exact⟨_,by first|rfl|(simp[ZA,Zz] <;> rfl)|(simp[*,ZA,Zz] <;> rfl),by first|exact Kd.R_nil _ _ _ _ _|exact Kd.N_nil _ _ _ _ _|exact Kd.V_nil _ _ _ _ _|exact Kd.Q_nil _ _ _ _ _|exact Kd.S_nil _ _ _ _ _,by repeat(first|(with_reducible first|exact HB.out|apply Zq|apply Zm|apply Zs|refine Zp ?_ GE65001.out|refine Zp ?_ GE65002.out)|exact HB.out)⟩
mutual
def Z2.j0:Nat→Bool→Int→List Int→Option (Bool)
 | 0,_,_,_=>none
 | k+1,x23,x118002000,x118002001=>if x23=true then(some false) else(Z2.l0 k x118002001 (x118002001.length:Int) 0 x118002000 x118002001)
def Z2.l0:Nat→List Int→Int→Int→Int→List Int→Option (Bool)
 | 0,_,_,_,_,_=>none
 | k+1,x25,x26,x27,x118002000,x118002001=>if x27<x26 then(if 0≤x27 then(if x27<(x25.length:Int) then(if (rd x25 x27)<(-1000000) then(some false) else(if (rd x25 x27) > 1000000 then(some false) else(if x118002000=0 then(none) else(if (wrap64 (Int.tdiv x27 x118002000))=(Int.tmod x27 x118002000) then(if (rd x25 x27)=0 then(Z2.l0 k x25 x26 (wrap64 (x27+1)) x118002000 x118002001) else(some false)) else(Z2.l0 k x25 x26 (wrap64 (x27+1)) x118002000 x118002001))))) else(none)) else(none)) else(some true)
end
def Z2.f (k:Nat) (a0_0:Int) (l0_1:List Int):Option (Bool):=if a0_0<0 then(Z2.j0 k true a0_0 l0_1) else(if a0_0 > 8 then(Z2.j0 k true a0_0 l0_1) else(Z2.j0 k ((l0_1.length:Int) != (wrap64 (a0_0 * a0_0))) a0_0 l0_1))
set_option maxHeartbeats 8000000 in
set_option maxRecDepth 100000 in
theorem Z2.calls (k:Nat) (a0_0:Int) (A0_1:Option Addr) (c0_1:Nat) (l0_1:List Int) (r:Bool) (w:World) (hr0_1:Kd.C (Kd.int .i64) w A0_1 l0_1.length l0_1) (hc0_1:l0_1.length≤c0_1) (h:Z2.f k a0_0 l0_1=some r) :
  Calls Try.prog 118 #[.agg #[.int .i64 a0_0,.slice A0_1 l0_1.length c0_1]] w fun e w'=>e=.returned (.bool r)∧Below w.heap.size w w':=by
 have hu90:=Try.underlying90
 have HR0_1:=Za hr0_1;have HC0_1:=Za hc0_1;clear hr0_1 hc0_1
 have HB:=Za (Below.refl w.heap.size w)
 have H:(if a0_0<0 then(Z2.j0 k true a0_0 l0_1) else(if a0_0 > 8 then(Z2.j0 k true a0_0 l0_1) else(Z2.j0 k ((l0_1.length:Int) != (wrap64 (a0_0 * a0_0))) a0_0 l0_1)))=some r:=h
 clear h;have HC2:=Za H;clear H
 go_enter Try.func118,Try.ntmps118
 go_upto_region 1 with (first|((with_reducible refine ZC (N:=1) rfl ?_);(try(refine ZaN (by rfl) ?_;dsimp only));refine ZE ?hg (N:=1) ?hd (cs:=#[.int .i64 a0_0,.slice A0_1 l0_1.length c0_1]) (t:=90) ?hr ?_;(case hd=>rfl);(case hg=>rfl);(case hr=>first|(go_simp;done)|(go_simp;rfl));intro gb118001 hg w3 hbox hb;have n0_:=Za (Zy (by repeat(first|(with_reducible first|exact HB.out|apply Zq|apply Zm|apply Zs)|exact HB.out)) hb);have n1_:=Za (hbox);have n2_:=Za ((by rw[hg];exact(Zv (by repeat(first|(with_reducible first|exact HB.out|apply Zq|apply Zm|apply Zs)|exact HB.out))):w.heap.size≤gb118001));have n3_:=Za ((by rw[hg];exact(Zv (by repeat(first|(with_reducible first|exact HB.out|apply Zq|apply Zm|apply Zs)|exact HB.out))):w.heap.size≤gb118001));clear HB;have HB:=n0_;have BK118001:=n1_;have GW118001:=n2_;have GE118001:=n3_;clear n0_ n1_ n2_ n3_;clear hb hbox hg))
 repeat(go_quiet (first|((with_reducible refine ZC (N:=1) rfl ?_);(try(refine ZaN (by rfl) ?_;dsimp only));refine ZE ?hg (N:=1) ?hd (cs:=#[.int .i64 a0_0,.slice A0_1 l0_1.length c0_1]) (t:=90) ?hr ?_;(case hd=>rfl);(case hg=>rfl);(case hr=>first|(go_simp;done)|(go_simp;rfl));intro gb118001 hg w3 hbox hb;have n0_:=Za (Zy (by repeat(first|(with_reducible first|exact HB.out|apply Zq|apply Zm|apply Zs)|exact HB.out)) hb);have n1_:=Za (hbox);have n2_:=Za ((by rw[hg];exact(Zv (by repeat(first|(with_reducible first|exact HB.out|apply Zq|apply Zm|apply Zs)|exact HB.out))):w.heap.size≤gb118001));have n3_:=Za ((by rw[hg];exact(Zv (by repeat(first|(with_reducible first|exact HB.out|apply Zq|apply Zm|apply Zs)|exact HB.out))):w.heap.size≤gb118001));clear HB;have HB:=n0_;have BK118001:=n1_;have GW118001:=n2_;have GE118001:=n3_;clear n0_ n1_ n2_ n3_;clear hb hbox hg));go_upto_region 1 with (first|((with_reducible refine ZC (N:=1) rfl ?_);(try(refine ZaN (by rfl) ?_;dsimp only));refine ZE ?hg (N:=1) ?hd (cs:=#[.int .i64 a0_0,.slice A0_1 l0_1.length c0_1]) (t:=90) ?hr ?_;(case hd=>rfl);(case hg=>rfl);(case hr=>first|(go_simp;done)|(go_simp;rfl));intro gb118001 hg w3 hbox hb;have n0_:=Za (Zy (by repeat(first|(with_reducible first|exact HB.out|apply Zq|apply Zm|apply Zs)|exact HB.out)) hb);have n1_:=Za (hbox);have n2_:=Za ((by rw[hg];exact(Zv (by repeat(first|(with_reducible first|exact HB.out|apply Zq|apply Zm|apply Zs)|exact HB.out))):w.heap.size≤gb118001));have n3_:=Za ((by rw[hg];exact(Zv (by repeat(first|(with_reducible first|exact HB.out|apply Zq|apply Zm|apply Zs)|exact HB.out))):w.heap.size≤gb118001));clear HB;have HB:=n0_;have BK118001:=n1_;have GW118001:=n2_;have GE118001:=n3_;clear n0_ n1_ n2_ n3_;clear hb hbox hg)))
 (try simp only[Act.put,List.setIfInBounds_toArray,List.set_cons_zero,List.set_cons_succ])
 go_cut [23] (fun v23 wc=>∃(kq:Nat) (x23_1:Bool),v23=.bool x23_1∧Aside0 (Z2.j0 kq x23_1 a0_0 l0_1=some r)∧Aside0 (kq≤k)∧Aside0 (wc.heap[gb118001]? = some (.cells #[.int .i64 a0_0,(.slice A0_1 l0_1.length c0_1)] 90 (0,0)))∧Aside0 (Below w.heap.size w wc))
 case first=>
  have H:=HC2.out
  clear HC2
  by_cases c4:a0_0<0
  ·rw[if_pos c4] at H
   have c4b0:decide (a0_0<0)=true:=Ze c4
   clear c4
   (first|rw[c4b0]|(simp only[ZO,ZP];rw[c4b0])|skip)
   have H':=Za H
   clear H
   have hcz5_0:w3.cell? ⟨gb118001,0,none⟩=some (.int .i64 a0_0):=(Zu BK118001.out 0).trans rfl
   have hcz5_1:w3.cell? ⟨gb118001,1,none⟩=some (.slice A0_1 l0_1.length c0_1):=(Zu BK118001.out 1).trans rfl
   have hfz5_0:=Zt BK118001.out 0
   have hfz5_1:=Zt BK118001.out 1
   go_wp2
   repeat(go_quiet (fail);try go_wp2)
   go_meet
   case rel=>exact⟨_,(true),(by first|rfl|(simp;done)|(simp[*];done)),H',⟨by first|omega|exact Nat.le_refl _⟩,⟨by(with_reducible repeat(first|refine Zo ?_ _|refine Zr ?_|refine Zn ?_ _));exact BK118001.out⟩,⟨by repeat(first|(with_reducible first|exact HB.out|apply Zq|apply Zm|apply Zs|refine Zp ?_ GE118001.out)|exact HB.out)⟩⟩
  ·rw[if_neg c4] at H
   have c4b0:decide (a0_0<0)=false:=Zf c4
   clear c4
   (first|rw[c4b0]|(simp only[ZO,ZP];rw[c4b0])|skip)
   by_cases c6:a0_0 > 8
   ·rw[if_pos c6] at H
    have c6b0:decide (8<a0_0)=true:=Ze c6
    clear c6
    have H':=Za H
    clear H
    have hcz7_0:w3.cell? ⟨gb118001,0,none⟩=some (.int .i64 a0_0):=(Zu BK118001.out 0).trans rfl
    have hcz7_1:w3.cell? ⟨gb118001,1,none⟩=some (.slice A0_1 l0_1.length c0_1):=(Zu BK118001.out 1).trans rfl
    have hfz7_0:=Zt BK118001.out 0
    have hfz7_1:=Zt BK118001.out 1
    go_wp2
    repeat(go_quiet (fail);try go_wp2)
    go_meet
    case rel=>exact⟨_,(true),(by first|rfl|(simp;done)|(simp[*];done)),H',⟨by first|omega|exact Nat.le_refl _⟩,⟨by(with_reducible repeat(first|refine Zo ?_ _|refine Zr ?_|refine Zn ?_ _));exact BK118001.out⟩,⟨by repeat(first|(with_reducible first|exact HB.out|apply Zq|apply Zm|apply Zs|refine Zp ?_ GE118001.out)|exact HB.out)⟩⟩
   ·rw[if_neg c6] at H
    have c6b0:decide (8<a0_0)=false:=Zf c6
    clear c6
    have H':=Za H
    clear H
    have hcz8_0:w3.cell? ⟨gb118001,0,none⟩=some (.int .i64 a0_0):=(Zu BK118001.out 0).trans rfl
    have hcz8_1:w3.cell? ⟨gb118001,1,none⟩=some (.slice A0_1 l0_1.length c0_1):=(Zu BK118001.out 1).trans rfl
    have hfz8_0:=Zt BK118001.out 0
    have hfz8_1:=Zt BK118001.out 1
    go_wp2
    repeat(go_quiet (fail);try go_wp2)
    go_meet
    case rel=>exact⟨_,(((l0_1.length:Int) != (wrap64 (a0_0 * a0_0)))),(by first|rfl|(simp;done)|(simp[*];done)),H',⟨by first|omega|exact Nat.le_refl _⟩,⟨by(with_reducible repeat(first|refine Zo ?_ _|refine Zr ?_|refine Zn ?_ _));exact BK118001.out⟩,⟨by repeat(first|(with_reducible first|exact HB.out|apply Zq|apply Zm|apply Zs|refine Zp ?_ GE118001.out)|exact HB.out)⟩⟩
 case rest=>
  clear HC2
  try clear c1
  try clear p2
  try clear c4
  try clear c4b0
  try clear c6
  try clear c6b0
  try clear p6
  try clear hcz5_0
  try clear hcz5_1
  try clear hcz7_0
  try clear hcz7_1
  try clear hcz8_0
  try clear hcz8_1
  try clear hfz5_0
  try clear hfz5_1
  try clear hfz7_0
  try clear hfz7_1
  try clear hfz8_0
  try clear hfz8_1
  obtain⟨kq,x23_1,rfl,HA,HJ1,BK118001,HB⟩:=hcut
  cases kq with
  | zero=>exact absurd HA.out (by simp[Z2.j0])
  | succ kj1=>
   have H:=HA.out
   clear HA
   simp only[Z2.j0] at H
   by_cases c9:x23_1=true
   ·subst c9
    have H1:(some false)=some r:=by rw[if_pos rfl] at H;exact H
    clear H
    have H:=H1
    clear H1
    obtain rfl:=Zg H
    go_wp2
    repeat(go_quiet (fail);try go_wp2)
    go_ret
    exact⟨by first|rfl|(simp[ZA,Zz] <;> rfl)|(simp[*,ZA,Zz] <;> rfl),by repeat(first|(with_reducible first|exact HB.out|apply Zq|apply Zm|apply Zs|refine Zp ?_ GE118001.out)|exact HB.out)⟩
   ·replace c9:=Bool.eq_false_iff.mpr c9
    subst c9
    have H1:(Z2.l0 kj1 l0_1 (l0_1.length:Int) 0 a0_0 l0_1)=some r:=by rw[if_neg (show ¬(false=true) by decide)] at H;exact H
    clear H
    have H:=H1
    clear H1
    have H':=Za H
    clear H
    have hcz10_0:wc.cell? ⟨gb118001,0,none⟩=some (.int .i64 a0_0):=(Zu BK118001.out 0).trans rfl
    have hcz10_1:wc.cell? ⟨gb118001,1,none⟩=some (.slice A0_1 l0_1.length c0_1):=(Zu BK118001.out 1).trans rfl
    have hfz10_0:=Zt BK118001.out 0
    have hfz10_1:=Zt BK118001.out 1
    go_wp2
    repeat(go_quiet (fail);try go_wp2)
    go_loopg [27] kj1 (fun kq v27 w'=>∃(x27_2:Int),v27=.int .i64 x27_2∧Aside0 (Z2.l0 kq l0_1 (l0_1.length:Int) x27_2 a0_0 l0_1=some r)∧Aside0 (kq≤kj1)∧Aside0 (w'.heap[gb118001]? = some (.cells #[.int .i64 a0_0,(.slice A0_1 l0_1.length c0_1)] 90 (0,0)))∧Aside0 (Below w.heap.size w w'))
    case atStart=>exact⟨(0),(by first|rfl|(simp;done)|(simp[*];done)),H',⟨Nat.le_refl _⟩,⟨by(with_reducible repeat(first|refine Zo ?_ _|refine Zr ?_|refine Zn ?_ _));exact BK118001.out⟩,⟨by repeat(first|(with_reducible first|exact HB.out|apply Zq|apply Zm|apply Zs|refine Zp ?_ GE118001.out)|exact HB.out)⟩⟩
    case round=>
     clear H'
     try clear c1
     try clear p2
     try clear c4
     try clear c4b0
     try clear c6
     try clear c6b0
     try clear p6
     try clear c9
     try clear hcz10_0
     try clear hcz10_1
     try clear hcz5_0
     try clear hcz5_1
     try clear hcz7_0
     try clear hcz7_1
     try clear hcz8_0
     try clear hcz8_1
     try clear hfz10_0
     try clear hfz10_1
     try clear hfz5_0
     try clear hfz5_1
     try clear hfz7_0
     try clear hfz7_1
     try clear hfz8_0
     try clear hfz8_1
     try clear p2
     try clear p6
     obtain⟨x27_2,rfl,HA,HK2,BK118001,HB⟩:=hrel
     cases gk with
     | zero=>exact absurd HA.out (by simp[Z2.l0])
     | succ k2=>
      have H:=HA.out
      clear HA
      simp only[Z2.l0] at H
      by_cases c11:x27_2<(l0_1.length:Int)
      ·rw[if_pos c11] at H
       have c11b0:decide (x27_2<(l0_1.length:Int))=true:=Ze c11
       clear c11
       by_cases c12:0≤x27_2
       ·rw[if_pos c12] at H
        have c12b0:decide (0≤x27_2)=true:=Ze c12
        clear c12
        by_cases c13:x27_2<(l0_1.length:Int)
        ·rw[if_pos c13] at H
         have c13b0:decide (x27_2<(l0_1.length:Int))=true:=Ze c13
         clear c13
         by_cases c14:(rd l0_1 x27_2)<(-1000000)
         ·rw[if_pos c14] at H
          have c14b0:decide ((rd l0_1 x27_2)<(-1000000))=true:=Ze c14
          clear c14
          obtain rfl:=Zg H
          have p118002:0≤(x27_2:Int):=Zd (by first|(with_reducible assumption)|assumption)
          have q118002:x27_2<(l0_1.length:Int):=Zd (by first|(with_reducible assumption)|assumption)
          obtain⟨ad118002,e118002,hx118002_0⟩:=Kd.at_int HR0_1.out x27_2 p118002 q118002
          cases e118002
          replace hx118002_0:=(HB.out.cell (Zc w _ hx118002_0)).trans hx118002_0
          replace p118002:=eq_true p118002
          replace q118002:=eq_true q118002
          go_wp2
          repeat(go_quiet (fail);try go_wp2)
          go_ret
          exact⟨by first|rfl|(simp[ZA,Zz] <;> rfl)|(simp[*,ZA,Zz] <;> rfl),by repeat(first|(with_reducible first|exact HB.out|apply Zq|apply Zm|apply Zs|refine Zp ?_ GE118001.out)|exact HB.out)⟩
         ·rw[if_neg c14] at H
          have c14b0:decide ((rd l0_1 x27_2)<(-1000000))=false:=Zf c14
          clear c14
          by_cases c15:(rd l0_1 x27_2) > 1000000
          ·rw[if_pos c15] at H
           have c15b0:decide (1000000<(rd l0_1 x27_2))=true:=Ze c15
           clear c15
           obtain rfl:=Zg H
           have p118002:0≤(x27_2:Int):=Zd (by first|(with_reducible assumption)|assumption)
           have q118002:x27_2<(l0_1.length:Int):=Zd (by first|(with_reducible assumption)|assumption)
           obtain⟨ad118002,e118002,hx118002_0⟩:=Kd.at_int HR0_1.out x27_2 p118002 q118002
           cases e118002
           replace hx118002_0:=(HB.out.cell (Zc w _ hx118002_0)).trans hx118002_0
           replace p118002:=eq_true p118002
           replace q118002:=eq_true q118002
           go_wp2
           repeat(go_quiet (fail);try go_wp2)
           go_ret
           exact⟨by first|rfl|(simp[ZA,Zz] <;> rfl)|(simp[*,ZA,Zz] <;> rfl),by repeat(first|(with_reducible first|exact HB.out|apply Zq|apply Zm|apply Zs|refine Zp ?_ GE118001.out)|exact HB.out)⟩
          ·rw[if_neg c15] at H
           have c15b0:decide (1000000<(rd l0_1 x27_2))=false:=Zf c15
           clear c15
           by_cases c16:a0_0=0
           ·rw[if_pos c16] at H
            exact absurd H (by simp)
           ·rw[if_neg c16] at H
            have c16b0:(a0_0 == 0)=false:=beq_eq_false_iff_ne.mpr c16
            have c16b1:(a0_0 != 0)=true:=bne_iff_ne.mpr c16
            by_cases c17:(wrap64 (Int.tdiv x27_2 a0_0))=(Int.tmod x27_2 a0_0)
            ·rw[if_pos c17] at H
             have c17b0:((wrap64 (Int.tdiv x27_2 a0_0)) == (Int.tmod x27_2 a0_0))=true:=beq_iff_eq.mpr c17
             have c17b1:((wrap64 (Int.tdiv x27_2 a0_0)) != (Int.tmod x27_2 a0_0))=false:=bne_eq_false_iff_eq.mpr c17
             clear c17
             by_cases c18:(rd l0_1 x27_2)=0
             ·rw[if_pos c18] at H
              have c18b0:((rd l0_1 x27_2) == 0)=true:=beq_iff_eq.mpr c18
              have c18b1:((rd l0_1 x27_2) != 0)=false:=bne_eq_false_iff_eq.mpr c18
              clear c18
              have H':=Za H
              clear H
              have p118002:0≤(x27_2:Int):=Zd (by first|(with_reducible assumption)|assumption)
              have q118002:x27_2<(l0_1.length:Int):=Zd (by first|(with_reducible assumption)|assumption)
              obtain⟨ad118002,e118002,hx118002_0⟩:=Kd.at_int HR0_1.out x27_2 p118002 q118002
              cases e118002
              replace hx118002_0:=(HB.out.cell (Zc w _ hx118002_0)).trans hx118002_0
              replace p118002:=eq_true p118002
              replace q118002:=eq_true q118002
              have hcz19_0:wr.cell? ⟨gb118001,0,none⟩=some (.int .i64 a0_0):=(Zu BK118001.out 0).trans rfl
              have hcz19_1:wr.cell? ⟨gb118001,1,none⟩=some (.slice (some ad118002) l0_1.length c0_1):=(Zu BK118001.out 1).trans rfl
              have hfz19_0:=Zt BK118001.out 0
              have hfz19_1:=Zt BK118001.out 1
              go_wp2
              repeat(go_quiet (fail);try go_wp2)
              go_roundg k2
              case measure=>have:=HJ1.out;have:=HK2.out;omega
              case rel=>exact⟨(wrap64 (x27_2+1)),(by first|rfl|(simp;done)|(simp[*];done)),H',⟨by have:=HJ1.out;have:=HK2.out;omega⟩,⟨by(with_reducible repeat(first|refine Zo ?_ _|refine Zr ?_|refine Zn ?_ _));exact BK118001.out⟩,⟨by repeat(first|(with_reducible first|exact HB.out|apply Zq|apply Zm|apply Zs|refine Zp ?_ GE118001.out)|exact HB.out)⟩⟩
             ·rw[if_neg c18] at H
              have c18b0:((rd l0_1 x27_2) == 0)=false:=beq_eq_false_iff_ne.mpr c18
              have c18b1:((rd l0_1 x27_2) != 0)=true:=bne_iff_ne.mpr c18
              obtain rfl:=Zg H
              have p118002:0≤(x27_2:Int):=Zd (by first|(with_reducible assumption)|assumption)
              have q118002:x27_2<(l0_1.length:Int):=Zd (by first|(with_reducible assumption)|assumption)
              obtain⟨ad118002,e118002,hx118002_0⟩:=Kd.at_int HR0_1.out x27_2 p118002 q118002
              cases e118002
              replace hx118002_0:=(HB.out.cell (Zc w _ hx118002_0)).trans hx118002_0
              replace p118002:=eq_true p118002
              replace q118002:=eq_true q118002
              have hcz20_0:wr.cell? ⟨gb118001,0,none⟩=some (.int .i64 a0_0):=(Zu BK118001.out 0).trans rfl
              have hcz20_1:wr.cell? ⟨gb118001,1,none⟩=some (.slice (some ad118002) l0_1.length c0_1):=(Zu BK118001.out 1).trans rfl
              have hfz20_0:=Zt BK118001.out 0
              have hfz20_1:=Zt BK118001.out 1
              go_wp2
              repeat(go_quiet (fail);try go_wp2)
              go_ret
              exact⟨by first|rfl|(simp[ZA,Zz] <;> rfl)|(simp[*,ZA,Zz] <;> rfl),by repeat(first|(with_reducible first|exact HB.out|apply Zq|apply Zm|apply Zs|refine Zp ?_ GE118001.out)|exact HB.out)⟩
            ·rw[if_neg c17] at H
             have c17b0:((wrap64 (Int.tdiv x27_2 a0_0)) == (Int.tmod x27_2 a0_0))=false:=beq_eq_false_iff_ne.mpr c17
             have c17b1:((wrap64 (Int.tdiv x27_2 a0_0)) != (Int.tmod x27_2 a0_0))=true:=bne_iff_ne.mpr c17
             have H':=Za H
             clear H
             have p118002:0≤(x27_2:Int):=Zd (by first|(with_reducible assumption)|assumption)
             have q118002:x27_2<(l0_1.length:Int):=Zd (by first|(with_reducible assumption)|assumption)
             obtain⟨ad118002,e118002,hx118002_0⟩:=Kd.at_int HR0_1.out x27_2 p118002 q118002
             cases e118002
             replace hx118002_0:=(HB.out.cell (Zc w _ hx118002_0)).trans hx118002_0
             replace p118002:=eq_true p118002
             replace q118002:=eq_true q118002
             have hcz21_0:wr.cell? ⟨gb118001,0,none⟩=some (.int .i64 a0_0):=(Zu BK118001.out 0).trans rfl
             have hcz21_1:wr.cell? ⟨gb118001,1,none⟩=some (.slice (some ad118002) l0_1.length c0_1):=(Zu BK118001.out 1).trans rfl
             have hfz21_0:=Zt BK118001.out 0
             have hfz21_1:=Zt BK118001.out 1
             go_wp2
             repeat(go_quiet (fail);try go_wp2)
             go_roundg k2
             case measure=>have:=HJ1.out;have:=HK2.out;omega
             case rel=>exact⟨(wrap64 (x27_2+1)),(by first|rfl|(simp;done)|(simp[*];done)),H',⟨by have:=HJ1.out;have:=HK2.out;omega⟩,⟨by(with_reducible repeat(first|refine Zo ?_ _|refine Zr ?_|refine Zn ?_ _));exact BK118001.out⟩,⟨by repeat(first|(with_reducible first|exact HB.out|apply Zq|apply Zm|apply Zs|refine Zp ?_ GE118001.out)|exact HB.out)⟩⟩
        ·rw[if_neg c13] at H
         exact absurd H (by simp)
       ·rw[if_neg c12] at H
        exact absurd H (by simp)
      ·rw[if_neg c11] at H
       have c11b0:decide (x27_2<(l0_1.length:Int))=false:=Zf c11
       clear c11
       obtain rfl:=Zg H
       go_wp2
       repeat(go_quiet (fail);try go_wp2)
       go_ret
       exact⟨by first|rfl|(simp[ZA,Zz] <;> rfl)|(simp[*,ZA,Zz] <;> rfl),by repeat(first|(with_reducible first|exact HB.out|apply Zq|apply Zm|apply Zs|refine Zp ?_ GE118001.out)|exact HB.out)⟩
def Zbm.f (a0_0:Int) (a0_1:Int) (a1:Bool):Option (Int×Int×Bool):=if a1=true then((ZaS.f a0_0 a0_1).bind fun t119003=>(if t119003=true then(some (a0_0,a0_1,true)) else(some (0,0,false)))) else(some (0,0,false))
set_option maxHeartbeats 8000000 in
set_option maxRecDepth 100000 in
theorem Zbm.calls (a0_0:Int) (a0_1:Int) (a1:Bool) (r1:Int) (r2:Int) (r3:Bool) (w:World) (h:Zbm.f a0_0 a0_1 a1=some (r1,r2,r3)) :
  Calls Try.prog 119 #[.agg #[.int .i64 a0_0,.int .i64 a0_1],.bool a1] w fun e w'=>e=.returned (.tuple #[.agg #[.int .i64 r1,.int .i64 r2],.bool r3])∧Below w.heap.size w w':=by
 have hu29:=Try.underlying29
 have HB:=Za (Below.refl w.heap.size w)
 have H:(if a1=true then((ZaS.f a0_0 a0_1).bind fun t119003=>(if t119003=true then(some (a0_0,a0_1,true)) else(some (0,0,false)))) else(some (0,0,false)))=some (r1,r2,r3):=h
 clear h
 by_cases c3:a1=true
 ·subst c3
  have H1:((ZaS.f a0_0 a0_1).bind fun t119003=>(if t119003=true then(some (a0_0,a0_1,true)) else(some (0,0,false))))=some (r1,r2,r3):=by rw[if_pos rfl] at H;exact H
  clear H
  have H:=H1
  clear H1
  replace H:=Zh H
  obtain⟨t119003,A40,H⟩:=H
  replace H:(if t119003=true then(some (a0_0,a0_1,true)) else(some (0,0,false)))=some (r1,r2,r3):=H
  have A4:=Za A40;clear A40
  by_cases c5:t119003=true
  ·subst c5
   have H1:(some (a0_0,a0_1,true))=some (r1,r2,r3):=by rw[if_pos rfl] at H;exact H
   clear H
   have H:=H1
   clear H1
   simp only[Option.some.injEq,Prod.mk.injEq] at H
   obtain⟨rfl,rfl,rfl⟩:=H
   go_enter Try.func119,Try.ntmps119
   go_wp2_with (first|((with_reducible refine ZC (N:=2) rfl ?_);refine ZE ?hg (N:=2) ?hd (cs:=#[.int .i64 a0_0,.int .i64 a0_1]) (t:=29) ?hr ?_;(case hd=>rfl);(case hg=>rfl);(case hr=>first|(go_simp;done)|(go_simp;rfl));intro gb119001 hg w6 hbox hb;have n0_:=Za (Zy (by repeat(first|(with_reducible first|exact HB.out|apply Zq|apply Zm|apply Zs)|exact HB.out)) hb);have n1_:=Za (hbox);have n2_:=Za ((by rw[hg];exact(Zv (by repeat(first|(with_reducible first|exact HB.out|apply Zq|apply Zm|apply Zs)|exact HB.out))):w.heap.size≤gb119001));have n3_:=Za ((by rw[hg];exact(Zv (by repeat(first|(with_reducible first|exact HB.out|apply Zq|apply Zm|apply Zs)|exact HB.out))):w.heap.size≤gb119001));clear HB;have HB:=n0_;have BK119001:=n1_;have GW119001:=n2_;have GE119001:=n3_;clear n0_ n1_ n2_ n3_;clear hb hbox hg)|((with_reducible refine ZC (N:=4) rfl ?_);refine ZE ?hg (N:=4) ?hd (cs:=#[.int .i64 0,.int .i64 0]) (t:=29) ?hr ?_;(case hd=>rfl);(case hg=>rfl);(case hr=>first|(go_simp;done)|(go_simp;rfl));intro gb119002 hg w7 hbox hb;have n0_:=Za (Zx (g:=gb119001) (o:=.cells #[.int .i64 a0_0,.int .i64 a0_1] 29 (0,0)) (by(with_reducible repeat(first|refine Zo ?_ _|refine Zr ?_|refine Zn ?_ _));exact BK119001.out) hb);have n1_:=Za (Zy (by repeat(first|(with_reducible first|exact HB.out|apply Zq|apply Zm|apply Zs|refine Zp ?_ GE119001.out)|exact HB.out)) hb);have n2_:=Za (hbox);have n3_:=Za ((by rw[hg];exact(Zv (by repeat(first|(with_reducible first|exact HB.out|apply Zq|apply Zm|apply Zs|refine Zp ?_ GE119001.out)|exact HB.out))):w.heap.size≤gb119002));have n4_:=Za ((by rw[hg];exact(Zv (by repeat(first|(with_reducible first|exact HB.out|apply Zq|apply Zm|apply Zs|refine Zp ?_ GE119001.out)|exact HB.out))):w.heap.size≤gb119002));have n5_:=Za ((by rw[hg];exact Nat.ne_of_lt (ZB (g:=gb119001) (o:=.cells #[.int .i64 a0_0,.int .i64 a0_1] 29 (0,0)) (by(with_reducible repeat(first|refine Zo ?_ _|refine Zr ?_|refine Zn ?_ _));exact BK119001.out)):gb119001≠gb119002));have n6_:=Za ((by rw[hg];exact Nat.ne_of_gt (ZB (g:=gb119001) (o:=.cells #[.int .i64 a0_0,.int .i64 a0_1] 29 (0,0)) (by(with_reducible repeat(first|refine Zo ?_ _|refine Zr ?_|refine Zn ?_ _));exact BK119001.out)):gb119002≠gb119001));clear BK119001;clear HB;have BK119001:=n0_;have HB:=n1_;have BK119002:=n2_;have GW119002:=n3_;have GE119002:=n4_;have NB119001_119002:=n5_;have NB119002_119001:=n6_;clear n0_ n1_ n2_ n3_ n4_ n5_ n6_;clear hb hbox hg;have hnb8:=NB119001_119002.out;have hnc8:=NB119002_119001.out;have hcz9_0:w7.cell? ⟨gb119001,0,none⟩=some (.int .i64 a0_0):=(Zu BK119001.out 0).trans rfl;have hcz9_1:w7.cell? ⟨gb119001,1,none⟩=some (.int .i64 a0_1):=(Zu BK119001.out 1).trans rfl;have hfz9_0:=Zt BK119001.out 0;have hfz9_1:=Zt BK119001.out 1)|(go_at_call 72;(with_reducible refine(ZaS.calls a0_0 a0_1 true _ A4.out).mono ?_);rintro e w10 ⟨rfl,hb⟩;have n0_:=Za (Zx (g:=gb119001) (o:=.cells #[.int .i64 a0_0,.int .i64 a0_1] 29 (0,0)) (by(with_reducible repeat(first|refine Zo ?_ _|refine Zr ?_|refine Zn ?_ _));exact BK119001.out) hb);have n1_:=Za (Zx (g:=gb119002) (o:=.cells #[.int .i64 0,.int .i64 0] 29 (0,0)) (by(with_reducible repeat(first|refine Zo ?_ _|refine Zr ?_|refine Zn ?_ _));exact BK119002.out) hb);have n2_:=Za (Zy (by repeat(first|(with_reducible first|exact HB.out|apply Zq|apply Zm|apply Zs|refine Zp ?_ GE119001.out|refine Zp ?_ GE119002.out)|exact HB.out)) hb);clear BK119001;clear BK119002;clear HB;have BK119001:=n0_;have BK119002:=n1_;have HB:=n2_;clear n0_ n1_ n2_;(try clear hb);(try clear hb2);(try clear hk);(try clear hi);have hcz11_0:w10.cell? ⟨gb119001,0,none⟩=some (.int .i64 a0_0):=(Zu BK119001.out 0).trans rfl;have hcz11_1:w10.cell? ⟨gb119001,1,none⟩=some (.int .i64 a0_1):=(Zu BK119001.out 1).trans rfl;have hfz11_0:=Zt BK119001.out 0;have hfz11_1:=Zt BK119001.out 1;have hcz12_0:w10.cell? ⟨gb119002,0,none⟩=some (.int .i64 0):=(Zu BK119002.out 0).trans rfl;have hcz12_1:w10.cell? ⟨gb119002,1,none⟩=some (.int .i64 0):=(Zu BK119002.out 1).trans rfl;have hfz12_0:=Zt BK119002.out 0;have hfz12_1:=Zt BK119002.out 1))
   refine bodyPost_ret (Zab rfl _ _ gb119002 29 #[.int .i64 a0_0,.int .i64 a0_1] (0,0) _ rfl (by(with_reducible repeat(first|refine Zo ?_ _|refine Zr ?_|refine Zn ?_ _));refine ZF (cs:=#[.int .i64 a0_0,.int .i64 0]) ?_ 1 _ rfl;(with_reducible repeat(first|refine Zo ?_ _|refine Zr ?_|refine Zn ?_ _));refine ZF (cs:=#[.int .i64 0,.int .i64 0]) ?_ 0 _ rfl;(with_reducible repeat(first|refine Zo ?_ _|refine Zr ?_|refine Zn ?_ _));exact BK119002.out) Try.underlying29 rfl (by kernel_rfl)) rfl ?_
   exact⟨by first|rfl|(simp[ZA,Zz] <;> rfl)|(simp[*,ZA,Zz] <;> rfl),by repeat(first|(with_reducible first|exact HB.out|apply Zq|apply Zm|apply Zs|refine Zp ?_ GE119001.out|refine Zp ?_ GE119002.out)|exact HB.out)⟩
  ·replace c5:=Bool.eq_false_iff.mpr c5
   subst c5
   have H1:(some (0,0,false))=some (r1,r2,r3):=by rw[if_neg (show ¬(false=true) by decide)] at H;exact H
   clear H
   have H:=H1
   clear H1
   simp only[Option.some.injEq,Prod.mk.injEq] at H
   obtain⟨rfl,rfl,rfl⟩:=H
   go_enter Try.func119,Try.ntmps119
   go_wp2_with (first|((with_reducible refine ZC (N:=2) rfl ?_);refine ZE ?hg (N:=2) ?hd (cs:=#[.int .i64 a0_0,.int .i64 a0_1]) (t:=29) ?hr ?_;(case hd=>rfl);(case hg=>rfl);(case hr=>first|(go_simp;done)|(go_simp;rfl));intro gb119001 hg w13 hbox hb;have n0_:=Za (Zy (by repeat(first|(with_reducible first|exact HB.out|apply Zq|apply Zm|apply Zs)|exact HB.out)) hb);have n1_:=Za (hbox);have n2_:=Za ((by rw[hg];exact(Zv (by repeat(first|(with_reducible first|exact HB.out|apply Zq|apply Zm|apply Zs)|exact HB.out))):w.heap.size≤gb119001));have n3_:=Za ((by rw[hg];exact(Zv (by repeat(first|(with_reducible first|exact HB.out|apply Zq|apply Zm|apply Zs)|exact HB.out))):w.heap.size≤gb119001));clear HB;have HB:=n0_;have BK119001:=n1_;have GW119001:=n2_;have GE119001:=n3_;clear n0_ n1_ n2_ n3_;clear hb hbox hg)|((with_reducible refine ZC (N:=4) rfl ?_);refine ZE ?hg (N:=4) ?hd (cs:=#[.int .i64 0,.int .i64 0]) (t:=29) ?hr ?_;(case hd=>rfl);(case hg=>rfl);(case hr=>first|(go_simp;done)|(go_simp;rfl));intro gb119002 hg w14 hbox hb;have n0_:=Za (Zx (g:=gb119001) (o:=.cells #[.int .i64 a0_0,.int .i64 a0_1] 29 (0,0)) (by(with_reducible repeat(first|refine Zo ?_ _|refine Zr ?_|refine Zn ?_ _));exact BK119001.out) hb);have n1_:=Za (Zy (by repeat(first|(with_reducible first|exact HB.out|apply Zq|apply Zm|apply Zs|refine Zp ?_ GE119001.out)|exact HB.out)) hb);have n2_:=Za (hbox);have n3_:=Za ((by rw[hg];exact(Zv (by repeat(first|(with_reducible first|exact HB.out|apply Zq|apply Zm|apply Zs|refine Zp ?_ GE119001.out)|exact HB.out))):w.heap.size≤gb119002));have n4_:=Za ((by rw[hg];exact(Zv (by repeat(first|(with_reducible first|exact HB.out|apply Zq|apply Zm|apply Zs|refine Zp ?_ GE119001.out)|exact HB.out))):w.heap.size≤gb119002));have n5_:=Za ((by rw[hg];exact Nat.ne_of_lt (ZB (g:=gb119001) (o:=.cells #[.int .i64 a0_0,.int .i64 a0_1] 29 (0,0)) (by(with_reducible repeat(first|refine Zo ?_ _|refine Zr ?_|refine Zn ?_ _));exact BK119001.out)):gb119001≠gb119002));have n6_:=Za ((by rw[hg];exact Nat.ne_of_gt (ZB (g:=gb119001) (o:=.cells #[.int .i64 a0_0,.int .i64 a0_1] 29 (0,0)) (by(with_reducible repeat(first|refine Zo ?_ _|refine Zr ?_|refine Zn ?_ _));exact BK119001.out)):gb119002≠gb119001));clear BK119001;clear HB;have BK119001:=n0_;have HB:=n1_;have BK119002:=n2_;have GW119002:=n3_;have GE119002:=n4_;have NB119001_119002:=n5_;have NB119002_119001:=n6_;clear n0_ n1_ n2_ n3_ n4_ n5_ n6_;clear hb hbox hg;have hnb15:=NB119001_119002.out;have hnc15:=NB119002_119001.out;have hcz16_0:w14.cell? ⟨gb119001,0,none⟩=some (.int .i64 a0_0):=(Zu BK119001.out 0).trans rfl;have hcz16_1:w14.cell? ⟨gb119001,1,none⟩=some (.int .i64 a0_1):=(Zu BK119001.out 1).trans rfl;have hfz16_0:=Zt BK119001.out 0;have hfz16_1:=Zt BK119001.out 1)|(go_at_call 72;(with_reducible refine(ZaS.calls a0_0 a0_1 false _ A4.out).mono ?_);rintro e w17 ⟨rfl,hb⟩;have n0_:=Za (Zx (g:=gb119001) (o:=.cells #[.int .i64 a0_0,.int .i64 a0_1] 29 (0,0)) (by(with_reducible repeat(first|refine Zo ?_ _|refine Zr ?_|refine Zn ?_ _));exact BK119001.out) hb);have n1_:=Za (Zx (g:=gb119002) (o:=.cells #[.int .i64 0,.int .i64 0] 29 (0,0)) (by(with_reducible repeat(first|refine Zo ?_ _|refine Zr ?_|refine Zn ?_ _));exact BK119002.out) hb);have n2_:=Za (Zy (by repeat(first|(with_reducible first|exact HB.out|apply Zq|apply Zm|apply Zs|refine Zp ?_ GE119001.out|refine Zp ?_ GE119002.out)|exact HB.out)) hb);clear BK119001;clear BK119002;clear HB;have BK119001:=n0_;have BK119002:=n1_;have HB:=n2_;clear n0_ n1_ n2_;(try clear hb);(try clear hb2);(try clear hk);(try clear hi);have hcz18_0:w17.cell? ⟨gb119002,0,none⟩=some (.int .i64 0):=(Zu BK119002.out 0).trans rfl;have hcz18_1:w17.cell? ⟨gb119002,1,none⟩=some (.int .i64 0):=(Zu BK119002.out 1).trans rfl;have hfz18_0:=Zt BK119002.out 0;have hfz18_1:=Zt BK119002.out 1))
   refine bodyPost_ret (Zab rfl _ _ gb119002 29 #[.int .i64 0,.int .i64 0] (0,0) _ rfl (by(with_reducible repeat(first|refine Zo ?_ _|refine Zr ?_|refine Zn ?_ _));refine ZF (cs:=#[.int .i64 0,.int .i64 0]) ?_ 1 _ rfl;(with_reducible repeat(first|refine Zo ?_ _|refine Zr ?_|refine Zn ?_ _));refine ZF (cs:=#[.int .i64 0,.int .i64 0]) ?_ 0 _ rfl;(with_reducible repeat(first|refine Zo ?_ _|refine Zr ?_|refine Zn ?_ _));exact BK119002.out) Try.underlying29 rfl (by kernel_rfl)) rfl ?_
   exact⟨by first|rfl|(simp[ZA,Zz] <;> rfl)|(simp[*,ZA,Zz] <;> rfl),by repeat(first|(with_reducible first|exact HB.out|apply Zq|apply Zm|apply Zs|refine Zp ?_ GE119001.out|refine Zp ?_ GE119002.out)|exact HB.out)⟩
 ·replace c3:=Bool.eq_false_iff.mpr c3
  subst c3
  have H1:(some (0,0,false))=some (r1,r2,r3):=by rw[if_neg (show ¬(false=true) by decide)] at H;exact H
  clear H
  have H:=H1
  clear H1
  simp only[Option.some.injEq,Prod.mk.injEq] at H
  obtain⟨rfl,rfl,rfl⟩:=H
  go_enter Try.func119,Try.ntmps119
  go_wp2_with (first|((with_reducible refine ZC (N:=2) rfl ?_);refine ZE ?hg (N:=2) ?hd (cs:=#[.int .i64 a0_0,.int .i64 a0_1]) (t:=29) ?hr ?_;(case hd=>rfl);(case hg=>rfl);(case hr=>first|(go_simp;done)|(go_simp;rfl));intro gb119001 hg w19 hbox hb;have n0_:=Za (Zy (by repeat(first|(with_reducible first|exact HB.out|apply Zq|apply Zm|apply Zs)|exact HB.out)) hb);have n1_:=Za (hbox);have n2_:=Za ((by rw[hg];exact(Zv (by repeat(first|(with_reducible first|exact HB.out|apply Zq|apply Zm|apply Zs)|exact HB.out))):w.heap.size≤gb119001));have n3_:=Za ((by rw[hg];exact(Zv (by repeat(first|(with_reducible first|exact HB.out|apply Zq|apply Zm|apply Zs)|exact HB.out))):w.heap.size≤gb119001));clear HB;have HB:=n0_;have BK119001:=n1_;have GW119001:=n2_;have GE119001:=n3_;clear n0_ n1_ n2_ n3_;clear hb hbox hg)|((with_reducible refine ZC (N:=4) rfl ?_);refine ZE ?hg (N:=4) ?hd (cs:=#[.int .i64 0,.int .i64 0]) (t:=29) ?hr ?_;(case hd=>rfl);(case hg=>rfl);(case hr=>first|(go_simp;done)|(go_simp;rfl));intro gb119002 hg w20 hbox hb;have n0_:=Za (Zx (g:=gb119001) (o:=.cells #[.int .i64 a0_0,.int .i64 a0_1] 29 (0,0)) (by(with_reducible repeat(first|refine Zo ?_ _|refine Zr ?_|refine Zn ?_ _));exact BK119001.out) hb);have n1_:=Za (Zy (by repeat(first|(with_reducible first|exact HB.out|apply Zq|apply Zm|apply Zs|refine Zp ?_ GE119001.out)|exact HB.out)) hb);have n2_:=Za (hbox);have n3_:=Za ((by rw[hg];exact(Zv (by repeat(first|(with_reducible first|exact HB.out|apply Zq|apply Zm|apply Zs|refine Zp ?_ GE119001.out)|exact HB.out))):w.heap.size≤gb119002));have n4_:=Za ((by rw[hg];exact(Zv (by repeat(first|(with_reducible first|exact HB.out|apply Zq|apply Zm|apply Zs|refine Zp ?_ GE119001.out)|exact HB.out))):w.heap.size≤gb119002));have n5_:=Za ((by rw[hg];exact Nat.ne_of_lt (ZB (g:=gb119001) (o:=.cells #[.int .i64 a0_0,.int .i64 a0_1] 29 (0,0)) (by(with_reducible repeat(first|refine Zo ?_ _|refine Zr ?_|refine Zn ?_ _));exact BK119001.out)):gb119001≠gb119002));have n6_:=Za ((by rw[hg];exact Nat.ne_of_gt (ZB (g:=gb119001) (o:=.cells #[.int .i64 a0_0,.int .i64 a0_1] 29 (0,0)) (by(with_reducible repeat(first|refine Zo ?_ _|refine Zr ?_|refine Zn ?_ _));exact BK119001.out)):gb119002≠gb119001));clear BK119001;clear HB;have BK119001:=n0_;have HB:=n1_;have BK119002:=n2_;have GW119002:=n3_;have GE119002:=n4_;have NB119001_119002:=n5_;have NB119002_119001:=n6_;clear n0_ n1_ n2_ n3_ n4_ n5_ n6_;clear hb hbox hg;have hnb21:=NB119002_119001.out;have hnc21:=NB119001_119002.out;have hcz22_0:w20.cell? ⟨gb119002,0,none⟩=some (.int .i64 0):=(Zu BK119002.out 0).trans rfl;have hcz22_1:w20.cell? ⟨gb119002,1,none⟩=some (.int .i64 0):=(Zu BK119002.out 1).trans rfl;have hfz22_0:=Zt BK119002.out 0;have hfz22_1:=Zt BK119002.out 1))
  refine bodyPost_ret (Zab rfl _ _ gb119002 29 #[.int .i64 0,.int .i64 0] (0,0) _ rfl (by(with_reducible repeat(first|refine Zo ?_ _|refine Zr ?_|refine Zn ?_ _));refine ZF (cs:=#[.int .i64 0,.int .i64 0]) ?_ 1 _ rfl;(with_reducible repeat(first|refine Zo ?_ _|refine Zr ?_|refine Zn ?_ _));refine ZF (cs:=#[.int .i64 0,.int .i64 0]) ?_ 0 _ rfl;(with_reducible repeat(first|refine Zo ?_ _|refine Zr ?_|refine Zn ?_ _));exact BK119002.out) Try.underlying29 rfl (by kernel_rfl)) rfl ?_
  exact⟨by first|rfl|(simp[ZA,Zz] <;> rfl)|(simp[*,ZA,Zz] <;> rfl),by repeat(first|(with_reducible first|exact HB.out|apply Zq|apply Zm|apply Zs|refine Zp ?_ GE119001.out|refine Zp ?_ GE119002.out)|exact HB.out)⟩
def ZaR.f (a0_0:Int) (l0_1:List Int) (a1:Int) (a2:Int):Option (Int):=if 0≤(wrap64 ((wrap64 (a1 * a0_0))+a2)) then(if (wrap64 ((wrap64 (a1 * a0_0))+a2))<(l0_1.length:Int) then(some (rd l0_1 (wrap64 ((wrap64 (a1 * a0_0))+a2)))) else(none)) else(none)
set_option maxHeartbeats 8000000 in
set_option maxRecDepth 100000 in
theorem ZaR.calls (a0_0:Int) (A0_1:Option Addr) (c0_1:Nat) (l0_1:List Int) (a1:Int) (a2:Int) (r:Int) (w:World) (hr0_1:Kd.C (Kd.int .i64) w A0_1 l0_1.length l0_1) (hc0_1:l0_1.length≤c0_1) (h:ZaR.f a0_0 l0_1 a1 a2=some r) :
  Calls Try.prog 120 #[.agg #[.int .i64 a0_0,.slice A0_1 l0_1.length c0_1],.int .i64 a1,.int .i64 a2] w fun e w'=>e=.returned (.int .i64 r)∧Below w.heap.size w w':=by
 have hu90:=Try.underlying90
 have HR0_1:=Za hr0_1;have HC0_1:=Za hc0_1;clear hr0_1 hc0_1
 have HB:=Za (Below.refl w.heap.size w)
 have H:(if 0≤(wrap64 ((wrap64 (a1 * a0_0))+a2)) then(if (wrap64 ((wrap64 (a1 * a0_0))+a2))<(l0_1.length:Int) then(some (rd l0_1 (wrap64 ((wrap64 (a1 * a0_0))+a2)))) else(none)) else(none))=some r:=h
 clear h
 obtain⟨ji4,hji4⟩:∃j_:Int,(wrap64 ((wrap64 (a1 * a0_0))+a2))=j_:=⟨_,rfl⟩
 replace H:(if 0≤(ji4) then(if (ji4)<(l0_1.length:Int) then(some (rd l0_1 (ji4))) else(none)) else(none))=some r:=by first|(rw[hji4] at H;exact H)|(simp only[hji4] at H ⊢;exact H)
 have hji4w:(IntKind.i64.wrap ((wrap64 (a1 * a0_0))+a2))=ji4:=(ZO _).trans hji4
 by_cases c5:0≤(ji4)
 ·rw[if_pos c5] at H
  have c5b0:decide (0≤(ji4))=true:=Ze c5
  clear c5
  by_cases c6:(ji4)<(l0_1.length:Int)
  ·rw[if_pos c6] at H
   have c6b0:decide ((ji4)<(l0_1.length:Int))=true:=Ze c6
   clear c6
   obtain rfl:=Zg H
   go_enter Try.func120,Try.ntmps120
   go_wp2_with (first|((with_reducible refine ZC (N:=3) rfl ?_);refine ZE ?hg (N:=3) ?hd (cs:=#[.int .i64 a0_0,.slice A0_1 l0_1.length c0_1]) (t:=90) ?hr ?_;(case hd=>rfl);(case hg=>rfl);(case hr=>first|(go_simp;done)|(go_simp;rfl));intro gb120001 hg w7 hbox hb;have n0_:=Za (Zy (by repeat(first|(with_reducible first|exact HB.out|apply Zq|apply Zm|apply Zs)|exact HB.out)) hb);have n1_:=Za (hbox);have n2_:=Za ((by rw[hg];exact(Zv (by repeat(first|(with_reducible first|exact HB.out|apply Zq|apply Zm|apply Zs)|exact HB.out))):w.heap.size≤gb120001));have n3_:=Za ((by rw[hg];exact(Zv (by repeat(first|(with_reducible first|exact HB.out|apply Zq|apply Zm|apply Zs)|exact HB.out))):w.heap.size≤gb120001));clear HB;have HB:=n0_;have BK120001:=n1_;have GW120001:=n2_;have GE120001:=n3_;clear n0_ n1_ n2_ n3_;clear hb hbox hg;have hcz8_0:w7.cell? ⟨gb120001,0,none⟩=some (.int .i64 a0_0):=(Zu BK120001.out 0).trans rfl;have hcz8_1:w7.cell? ⟨gb120001,1,none⟩=some (.slice A0_1 l0_1.length c0_1):=(Zu BK120001.out 1).trans rfl;have hfz8_0:=Zt BK120001.out 0;have hfz8_1:=Zt BK120001.out 1;have p120002:0≤((ji4):Int):=Zd (by first|(with_reducible assumption)|assumption);have q120002:(ji4)<(l0_1.length:Int):=Zd (by first|(with_reducible assumption)|assumption);obtain⟨ad120002,e120002,hx120002_0⟩:=Kd.at_int HR0_1.out (ji4) p120002 q120002;cases e120002;replace hx120002_0:=(HB.out.cell (Zc w _ hx120002_0)).trans hx120002_0;replace p120002:=eq_true p120002;replace q120002:=eq_true q120002))
   go_ret
   exact⟨by first|rfl|(simp[ZA,Zz] <;> rfl)|(simp only[← hji4];first|rfl|(simp[ZA,Zz] <;> rfl))|(simp[*,ZA,Zz] <;> rfl),by repeat(first|(with_reducible first|exact HB.out|apply Zq|apply Zm|apply Zs|refine Zp ?_ GE120001.out)|exact HB.out)⟩
  ·rw[if_neg c6] at H
   exact absurd H (by simp)
 ·rw[if_neg c5] at H
  exact absurd H (by simp)
def ZI.j0:Nat→Int→Int→Bool→Int→List Int→Option (Int×Int×Bool)
 | 0,_,_,_,_,_=>none
 | k+1,x1,x2,x24,x67002000,x67002001=>if x24=true then(some (0,0,false)) else((ZaR.f x67002000 x67002001 x2 x1).bind fun t67006=>((ZaR.f x67002000 x67002001 x1 x2).bind fun t67007=>((Zbm.f (wrap64 (-t67006)) t67007 true).bind fun bt67008=>(some (bt67008.1,bt67008.2.1,bt67008.2.2)))))
def ZI.f (k:Nat) (a0_0:Int) (l0_1:List Int) (a1:Int) (a2:Int):Option (Int×Int×Bool):=(Z2.f k a0_0 l0_1).bind fun t67003=>(if t67003=true then((Zaz.f a0_0 a1).bind fun t67004=>(if t67004=true then((Zaz.f a0_0 a2).bind fun t67005=>(ZI.j0 k a1 a2 (!t67005) a0_0 l0_1)) else(ZI.j0 k a1 a2 true a0_0 l0_1))) else(ZI.j0 k a1 a2 true a0_0 l0_1))
def ZI.T3:Bool×List (List Nat×List Nat):=(true,[([],[]),([],[]),([],[]),([0,1,2],[0,1,2]),([3],[3]),([],[]),([],[]),([],[]),([5,6,7,3],[5,6,7]),([4,8],[4,8]),([9,8],[9]),([10],[10]),([10],[10]),([11,10,0,1,2,3,4,5,6,7,8,9,10,11,12],[11]),([12,13,0,1,2,3,4,5,6,7,8,9,10,11,12,13],[12])])
def ZI.B3:List Nat:=[0,0,0,7,15,0,0,0,239,511,1023,2047,2047,8191,16383]
theorem ZI.tab3:rtab .any (opsOf Try.f67 3)=ZI.T3:=by kernel_rfl
theorem ZI.bits3:ZbC ZI.T3.2 ZI.B3=true:=by kernel_rfl
set_option maxHeartbeats 8000000 in
set_option maxRecDepth 100000 in
theorem ZI.calls (k:Nat) (a0_0:Int) (A0_1:Option Addr) (c0_1:Nat) (l0_1:List Int) (a1:Int) (a2:Int) (r1:Int) (r2:Int) (r3:Bool) (w:World) (hr0_1:Kd.C (Kd.int .i64) w A0_1 l0_1.length l0_1) (hc0_1:l0_1.length≤c0_1) (h:ZI.f k a0_0 l0_1 a1 a2=some (r1,r2,r3)) :
  Calls Try.prog 67 #[.agg #[.int .i64 a0_0,.slice A0_1 l0_1.length c0_1],.int .i64 a1,.int .i64 a2] w fun e w'=>e=.returned (.tuple #[.agg #[.int .i64 r1,.int .i64 r2],.bool r3])∧Below w.heap.size w w':=by
 have hu90:=Try.underlying90
 have hu29:=Try.underlying29
 have HR0_1:=Za hr0_1;have HC0_1:=Za hc0_1;clear hr0_1 hc0_1
 have HB:=Za (Below.refl w.heap.size w)
 have H:((Z2.f k a0_0 l0_1).bind fun t67003=>(if t67003=true then((Zaz.f a0_0 a1).bind fun t67004=>(if t67004=true then((Zaz.f a0_0 a2).bind fun t67005=>(ZI.j0 k a1 a2 (!t67005) a0_0 l0_1)) else(ZI.j0 k a1 a2 true a0_0 l0_1))) else(ZI.j0 k a1 a2 true a0_0 l0_1)))=some (r1,r2,r3):=h
 clear h;have HC4:=Za H;clear H
 go_enter Try.func67,Try.ntmps67
 go_upto_region 1 with (first|((with_reducible refine ZC (N:=3) rfl ?_);refine ZE ?hg (N:=3) ?hd (cs:=#[.int .i64 a0_0,.slice A0_1 l0_1.length c0_1]) (t:=90) ?hr ?_;(case hd=>rfl);(case hg=>rfl);(case hr=>first|(go_simp;done)|(go_simp;rfl));intro gb67001 hg w5 hbox hb;have n0_:=Za (Zy (by repeat(first|(with_reducible first|exact HB.out|apply Zq|apply Zm|apply Zs)|exact HB.out)) hb);have n1_:=Za (hbox);have n2_:=Za ((by rw[hg];exact(Zv (by repeat(first|(with_reducible first|exact HB.out|apply Zq|apply Zm|apply Zs)|exact HB.out))):w.heap.size≤gb67001));have n3_:=Za ((by rw[hg];exact(Zv (by repeat(first|(with_reducible first|exact HB.out|apply Zq|apply Zm|apply Zs)|exact HB.out))):w.heap.size≤gb67001));clear HB;have HB:=n0_;have BK67001:=n1_;have GW67001:=n2_;have GE67001:=n3_;clear n0_ n1_ n2_ n3_;clear hb hbox hg)|((with_reducible refine ZC (N:=6) rfl ?_);refine ZE ?hg (N:=6) ?hd (cs:=#[.int .i64 0,.int .i64 0]) (t:=29) ?hr ?_;(case hd=>rfl);(case hg=>rfl);(case hr=>first|(go_simp;done)|(go_simp;rfl));intro gb67002 hg w6 hbox hb;have n0_:=Za (Zx (g:=gb67001) (o:=.cells #[.int .i64 a0_0,.slice A0_1 l0_1.length c0_1] 90 (0,0)) (by(with_reducible repeat(first|refine Zo ?_ _|refine Zr ?_|refine Zn ?_ _));exact BK67001.out) hb);have n1_:=Za (Zy (by repeat(first|(with_reducible first|exact HB.out|apply Zq|apply Zm|apply Zs|refine Zp ?_ GE67001.out)|exact HB.out)) hb);have n2_:=Za (hbox);have n3_:=Za ((by rw[hg];exact(Zv (by repeat(first|(with_reducible first|exact HB.out|apply Zq|apply Zm|apply Zs|refine Zp ?_ GE67001.out)|exact HB.out))):w.heap.size≤gb67002));have n4_:=Za ((by rw[hg];exact(Zv (by repeat(first|(with_reducible first|exact HB.out|apply Zq|apply Zm|apply Zs|refine Zp ?_ GE67001.out)|exact HB.out))):w.heap.size≤gb67002));have n5_:=Za ((by rw[hg];exact Nat.ne_of_lt (ZB (g:=gb67001) (o:=.cells #[.int .i64 a0_0,.slice A0_1 l0_1.length c0_1] 90 (0,0)) (by(with_reducible repeat(first|refine Zo ?_ _|refine Zr ?_|refine Zn ?_ _));exact BK67001.out)):gb67001≠gb67002));have n6_:=Za ((by rw[hg];exact Nat.ne_of_gt (ZB (g:=gb67001) (o:=.cells #[.int .i64 a0_0,.slice A0_1 l0_1.length c0_1] 90 (0,0)) (by(with_reducible repeat(first|refine Zo ?_ _|refine Zr ?_|refine Zn ?_ _));exact BK67001.out)):gb67002≠gb67001));clear BK67001;clear HB;have BK67001:=n0_;have HB:=n1_;have BK67002:=n2_;have GW67002:=n3_;have GE67002:=n4_;have NB67001_67002:=n5_;have NB67002_67001:=n6_;clear n0_ n1_ n2_ n3_ n4_ n5_ n6_;clear hb hbox hg))
 (try simp only[Act.put,List.setIfInBounds_toArray,List.set_cons_zero,List.set_cons_succ])
 go_cut [24] (fun v24 wc=>∃(kq:Nat) (x24_3:Bool),v24=.bool x24_3∧Aside0 (ZI.j0 kq a1 a2 x24_3 a0_0 l0_1=some (r1,r2,r3))∧Aside0 (kq≤k)∧Aside0 (wc.heap[gb67001]? = some (.cells #[.int .i64 a0_0,(.slice A0_1 l0_1.length c0_1)] 90 (0,0)))∧Aside0 (wc.heap[gb67002]? = some (.cells #[.int .i64 0,.int .i64 0] 29 (0,0)))∧Aside0 (Below w.heap.size w wc))
 case first=>
  have H:=HC4.out
  clear HC4
  replace H:=Zh H
  obtain⟨t67003,A70,H⟩:=H
  replace H:(if t67003=true then((Zaz.f a0_0 a1).bind fun t67004=>(if t67004=true then((Zaz.f a0_0 a2).bind fun t67005=>(ZI.j0 k a1 a2 (!t67005) a0_0 l0_1)) else(ZI.j0 k a1 a2 true a0_0 l0_1))) else(ZI.j0 k a1 a2 true a0_0 l0_1))=some (r1,r2,r3):=H
  have A7:=Za A70;clear A70
  by_cases c8:t67003=true
  ·subst c8
   have H1:((Zaz.f a0_0 a1).bind fun t67004=>(if t67004=true then((Zaz.f a0_0 a2).bind fun t67005=>(ZI.j0 k a1 a2 (!t67005) a0_0 l0_1)) else(ZI.j0 k a1 a2 true a0_0 l0_1)))=some (r1,r2,r3):=by rw[if_pos rfl] at H;exact H
   clear H
   have H:=H1
   clear H1
   replace H:=Zh H
   obtain⟨t67004,A90,H⟩:=H
   replace H:(if t67004=true then((Zaz.f a0_0 a2).bind fun t67005=>(ZI.j0 k a1 a2 (!t67005) a0_0 l0_1)) else(ZI.j0 k a1 a2 true a0_0 l0_1))=some (r1,r2,r3):=H
   have A9:=Za A90;clear A90
   by_cases c10:t67004=true
   ·subst c10
    have H1:((Zaz.f a0_0 a2).bind fun t67005=>(ZI.j0 k a1 a2 (!t67005) a0_0 l0_1))=some (r1,r2,r3):=by rw[if_pos rfl] at H;exact H
    clear H
    have H:=H1
    clear H1
    replace H:=Zh H
    obtain⟨t67005,A110,H⟩:=H
    replace H:(ZI.j0 k a1 a2 (!t67005) a0_0 l0_1)=some (r1,r2,r3):=H
    have A11:=Za A110;clear A110
    have H':=Za H
    clear H
    have hnb12:=NB67001_67002.out
    have hnc12:=NB67002_67001.out
    have hcz13_0:w6.cell? ⟨gb67001,0,none⟩=some (.int .i64 a0_0):=(Zu BK67001.out 0).trans rfl
    have hcz13_1:w6.cell? ⟨gb67001,1,none⟩=some (.slice A0_1 l0_1.length c0_1):=(Zu BK67001.out 1).trans rfl
    have hfz13_0:=Zt BK67001.out 0
    have hfz13_1:=Zt BK67001.out 1
    go_wp2_with (first|((with_reducible refine ZG (f:=118) rfl ?_);refine ZV (some 9) rfl rfl Try.func118 (by kernel_rfl) rfl #[.agg #[.int .i64 a0_0,.slice A0_1 l0_1.length c0_1]] rfl (by(try simp only[List.map_toArray,List.map_cons,List.map_nil]);first|done|rfl|(simp only[Zk,Zj];rfl)) ?_;(with_reducible refine(Z2.calls k a0_0 _ _ l0_1 true _ ?side1 ?side2 A7.out).mono ?_);(case side1=>repeat(first|exact(Zb HR0_1.out HB.out)|(with_reducible refine Kd.C_alloc ?_ _)|(with_reducible refine Kd.C_drewN ?_ _)|(with_reducible refine Kd.C_drew ?_)));(case side2=>exact HC0_1.out);rintro e w14 ⟨rfl,hb⟩;refine⟨_,rfl,?_⟩;have n0_:=Za (Zx (g:=gb67001) (o:=.cells #[.int .i64 a0_0,.slice A0_1 l0_1.length c0_1] 90 (0,0)) (by(with_reducible repeat(first|refine Zo ?_ _|refine Zr ?_|refine Zn ?_ _));exact BK67001.out) hb);have n1_:=Za (Zx (g:=gb67002) (o:=.cells #[.int .i64 0,.int .i64 0] 29 (0,0)) (by(with_reducible repeat(first|refine Zo ?_ _|refine Zr ?_|refine Zn ?_ _));exact BK67002.out) hb);have n2_:=Za (Zy (by repeat(first|(with_reducible first|exact HB.out|apply Zq|apply Zm|apply Zs|refine Zp ?_ GE67001.out|refine Zp ?_ GE67002.out)|exact HB.out)) hb);clear BK67001;clear BK67002;clear HB;have BK67001:=n0_;have BK67002:=n1_;have HB:=n2_;clear n0_ n1_ n2_;(try clear hb);(try clear hb2);(try clear hk);(try clear hi);have hcz15_0:w14.cell? ⟨gb67001,0,none⟩=some (.int .i64 a0_0):=(Zu BK67001.out 0).trans rfl;have hcz15_1:w14.cell? ⟨gb67001,1,none⟩=some (.slice A0_1 l0_1.length c0_1):=(Zu BK67001.out 1).trans rfl;have hfz15_0:=Zt BK67001.out 0;have hfz15_1:=Zt BK67001.out 1)|(go_at_call 71;(with_reducible refine(Zaz.calls a0_0 a1 true _ A9.out).mono ?_);rintro e w' ⟨rfl,⟨nd,rfl⟩⟩)|(go_at_call 71;(with_reducible refine(Zaz.calls a0_0 a2 t67005 _ A11.out).mono ?_);rintro e w' ⟨rfl,⟨nd,rfl⟩⟩))
    go_meet
    case rel=>exact⟨_,(!t67005),(by first|rfl|(simp;done)|(simp[*];done)),H',⟨by first|omega|exact Nat.le_refl _⟩,⟨by(with_reducible repeat(first|refine Zo ?_ _|refine Zr ?_|refine Zn ?_ _));exact BK67001.out⟩,⟨by(with_reducible repeat(first|refine Zo ?_ _|refine Zr ?_|refine Zn ?_ _));exact BK67002.out⟩,⟨by repeat(first|(with_reducible first|exact HB.out|apply Zq|apply Zm|apply Zs|refine Zp ?_ GE67001.out|refine Zp ?_ GE67002.out)|exact HB.out)⟩⟩
   ·replace c10:=Bool.eq_false_iff.mpr c10
    subst c10
    have H1:(ZI.j0 k a1 a2 true a0_0 l0_1)=some (r1,r2,r3):=by rw[if_neg (show ¬(false=true) by decide)] at H;exact H
    clear H
    have H:=H1
    clear H1
    have H':=Za H
    clear H
    have hnb16:=NB67001_67002.out
    have hnc16:=NB67002_67001.out
    have hcz17_0:w6.cell? ⟨gb67001,0,none⟩=some (.int .i64 a0_0):=(Zu BK67001.out 0).trans rfl
    have hcz17_1:w6.cell? ⟨gb67001,1,none⟩=some (.slice A0_1 l0_1.length c0_1):=(Zu BK67001.out 1).trans rfl
    have hfz17_0:=Zt BK67001.out 0
    have hfz17_1:=Zt BK67001.out 1
    go_wp2_with (first|((with_reducible refine ZG (f:=118) rfl ?_);refine ZV (some 9) rfl rfl Try.func118 (by kernel_rfl) rfl #[.agg #[.int .i64 a0_0,.slice A0_1 l0_1.length c0_1]] rfl (by(try simp only[List.map_toArray,List.map_cons,List.map_nil]);first|done|rfl|(simp only[Zk,Zj];rfl)) ?_;(with_reducible refine(Z2.calls k a0_0 _ _ l0_1 true _ ?side1 ?side2 A7.out).mono ?_);(case side1=>repeat(first|exact(Zb HR0_1.out HB.out)|(with_reducible refine Kd.C_alloc ?_ _)|(with_reducible refine Kd.C_drewN ?_ _)|(with_reducible refine Kd.C_drew ?_)));(case side2=>exact HC0_1.out);rintro e w18 ⟨rfl,hb⟩;refine⟨_,rfl,?_⟩;have n0_:=Za (Zx (g:=gb67001) (o:=.cells #[.int .i64 a0_0,.slice A0_1 l0_1.length c0_1] 90 (0,0)) (by(with_reducible repeat(first|refine Zo ?_ _|refine Zr ?_|refine Zn ?_ _));exact BK67001.out) hb);have n1_:=Za (Zx (g:=gb67002) (o:=.cells #[.int .i64 0,.int .i64 0] 29 (0,0)) (by(with_reducible repeat(first|refine Zo ?_ _|refine Zr ?_|refine Zn ?_ _));exact BK67002.out) hb);have n2_:=Za (Zy (by repeat(first|(with_reducible first|exact HB.out|apply Zq|apply Zm|apply Zs|refine Zp ?_ GE67001.out|refine Zp ?_ GE67002.out)|exact HB.out)) hb);clear BK67001;clear BK67002;clear HB;have BK67001:=n0_;have BK67002:=n1_;have HB:=n2_;clear n0_ n1_ n2_;(try clear hb);(try clear hb2);(try clear hk);(try clear hi);have hcz19_0:w18.cell? ⟨gb67001,0,none⟩=some (.int .i64 a0_0):=(Zu BK67001.out 0).trans rfl;have hcz19_1:w18.cell? ⟨gb67001,1,none⟩=some (.slice A0_1 l0_1.length c0_1):=(Zu BK67001.out 1).trans rfl;have hfz19_0:=Zt BK67001.out 0;have hfz19_1:=Zt BK67001.out 1)|(go_at_call 71;(with_reducible refine(Zaz.calls a0_0 a1 false _ A9.out).mono ?_);rintro e w' ⟨rfl,⟨nd,rfl⟩⟩))
    go_meet
    case rel=>exact⟨_,(true),(by first|rfl|(simp;done)|(simp[*];done)),H',⟨by first|omega|exact Nat.le_refl _⟩,⟨by(with_reducible repeat(first|refine Zo ?_ _|refine Zr ?_|refine Zn ?_ _));exact BK67001.out⟩,⟨by(with_reducible repeat(first|refine Zo ?_ _|refine Zr ?_|refine Zn ?_ _));exact BK67002.out⟩,⟨by repeat(first|(with_reducible first|exact HB.out|apply Zq|apply Zm|apply Zs|refine Zp ?_ GE67001.out|refine Zp ?_ GE67002.out)|exact HB.out)⟩⟩
  ·replace c8:=Bool.eq_false_iff.mpr c8
   subst c8
   have H1:(ZI.j0 k a1 a2 true a0_0 l0_1)=some (r1,r2,r3):=by rw[if_neg (show ¬(false=true) by decide)] at H;exact H
   clear H
   have H:=H1
   clear H1
   have H':=Za H
   clear H
   have hnb20:=NB67001_67002.out
   have hnc20:=NB67002_67001.out
   have hcz21_0:w6.cell? ⟨gb67001,0,none⟩=some (.int .i64 a0_0):=(Zu BK67001.out 0).trans rfl
   have hcz21_1:w6.cell? ⟨gb67001,1,none⟩=some (.slice A0_1 l0_1.length c0_1):=(Zu BK67001.out 1).trans rfl
   have hfz21_0:=Zt BK67001.out 0
   have hfz21_1:=Zt BK67001.out 1
   go_wp2_with (first|((with_reducible refine ZG (f:=118) rfl ?_);refine ZV (some 9) rfl rfl Try.func118 (by kernel_rfl) rfl #[.agg #[.int .i64 a0_0,.slice A0_1 l0_1.length c0_1]] rfl (by(try simp only[List.map_toArray,List.map_cons,List.map_nil]);first|done|rfl|(simp only[Zk,Zj];rfl)) ?_;(with_reducible refine(Z2.calls k a0_0 _ _ l0_1 false _ ?side1 ?side2 A7.out).mono ?_);(case side1=>repeat(first|exact(Zb HR0_1.out HB.out)|(with_reducible refine Kd.C_alloc ?_ _)|(with_reducible refine Kd.C_drewN ?_ _)|(with_reducible refine Kd.C_drew ?_)));(case side2=>exact HC0_1.out);rintro e w22 ⟨rfl,hb⟩;refine⟨_,rfl,?_⟩;have n0_:=Za (Zx (g:=gb67001) (o:=.cells #[.int .i64 a0_0,.slice A0_1 l0_1.length c0_1] 90 (0,0)) (by(with_reducible repeat(first|refine Zo ?_ _|refine Zr ?_|refine Zn ?_ _));exact BK67001.out) hb);have n1_:=Za (Zx (g:=gb67002) (o:=.cells #[.int .i64 0,.int .i64 0] 29 (0,0)) (by(with_reducible repeat(first|refine Zo ?_ _|refine Zr ?_|refine Zn ?_ _));exact BK67002.out) hb);have n2_:=Za (Zy (by repeat(first|(with_reducible first|exact HB.out|apply Zq|apply Zm|apply Zs|refine Zp ?_ GE67001.out|refine Zp ?_ GE67002.out)|exact HB.out)) hb);clear BK67001;clear BK67002;clear HB;have BK67001:=n0_;have BK67002:=n1_;have HB:=n2_;clear n0_ n1_ n2_;(try clear hb);(try clear hb2);(try clear hk);(try clear hi)))
   go_meet
   case rel=>exact⟨_,(true),(by first|rfl|(simp;done)|(simp[*];done)),H',⟨by first|omega|exact Nat.le_refl _⟩,⟨by(with_reducible repeat(first|refine Zo ?_ _|refine Zr ?_|refine Zn ?_ _));exact BK67001.out⟩,⟨by(with_reducible repeat(first|refine Zo ?_ _|refine Zr ?_|refine Zn ?_ _));exact BK67002.out⟩,⟨by repeat(first|(with_reducible first|exact HB.out|apply Zq|apply Zm|apply Zs|refine Zp ?_ GE67001.out|refine Zp ?_ GE67002.out)|exact HB.out)⟩⟩
 case rest=>
  clear HC4
  try clear c1
  try clear c2
  try clear p2
  try clear c6
  try clear c8
  try clear c10
  try clear c11
  try clear c12
  try clear c16
  try clear c20
  try clear hcz13_0
  try clear hcz13_1
  try clear hcz15_0
  try clear hcz15_1
  try clear hcz17_0
  try clear hcz17_1
  try clear hcz19_0
  try clear hcz19_1
  try clear hcz21_0
  try clear hcz21_1
  try clear hfz13_0
  try clear hfz13_1
  try clear hfz15_0
  try clear hfz15_1
  try clear hfz17_0
  try clear hfz17_1
  try clear hfz19_0
  try clear hfz19_1
  try clear hfz21_0
  try clear hfz21_1
  obtain⟨kq,x24_3,rfl,HA,HJ3,BK67001,BK67002,HB⟩:=hcut
  cases kq with
  | zero=>exact absurd HA.out (by simp[ZI.j0])
  | succ kj3=>
   have H:=HA.out
   clear HA
   simp only[ZI.j0] at H
   by_cases c23:x24_3=true
   ·subst c23
    have H1:(some (0,0,false))=some (r1,r2,r3):=by rw[if_pos rfl] at H;exact H
    clear H
    have H:=H1
    clear H1
    simp only[Option.some.injEq,Prod.mk.injEq] at H
    obtain⟨rfl,rfl,rfl⟩:=H
    have hnb24:=NB67002_67001.out
    have hnc24:=NB67001_67002.out
    have hcz25_0:wc.cell? ⟨gb67002,0,none⟩=some (.int .i64 0):=(Zu BK67002.out 0).trans rfl
    have hcz25_1:wc.cell? ⟨gb67002,1,none⟩=some (.int .i64 0):=(Zu BK67002.out 1).trans rfl
    have hfz25_0:=Zt BK67002.out 0
    have hfz25_1:=Zt BK67002.out 1
    go_wp2
    refine bodyPost_ret (Zab rfl _ _ gb67002 29 #[.int .i64 0,.int .i64 0] (0,0) _ rfl (by(with_reducible repeat(first|refine Zo ?_ _|refine Zr ?_|refine Zn ?_ _));refine ZF (cs:=#[.int .i64 0,.int .i64 0]) ?_ 1 _ rfl;(with_reducible repeat(first|refine Zo ?_ _|refine Zr ?_|refine Zn ?_ _));refine ZF (cs:=#[.int .i64 0,.int .i64 0]) ?_ 0 _ rfl;(with_reducible repeat(first|refine Zo ?_ _|refine Zr ?_|refine Zn ?_ _));exact BK67002.out) Try.underlying29 rfl (by kernel_rfl)) rfl ?_
    exact⟨by first|rfl|(simp[ZA,Zz] <;> rfl)|(simp[*,ZA,Zz] <;> rfl),by repeat(first|(with_reducible first|exact HB.out|apply Zq|apply Zm|apply Zs|refine Zp ?_ GE67001.out|refine Zp ?_ GE67002.out)|exact HB.out)⟩
   ·replace c23:=Bool.eq_false_iff.mpr c23
    subst c23
    have H1:((ZaR.f a0_0 l0_1 a2 a1).bind fun t67006=>((ZaR.f a0_0 l0_1 a1 a2).bind fun t67007=>((Zbm.f (wrap64 (-t67006)) t67007 true).bind fun bt67008=>(some (bt67008.1,bt67008.2.1,bt67008.2.2)))))=some (r1,r2,r3):=by rw[if_neg (show ¬(false=true) by decide)] at H;exact H
    clear H
    have H:=H1
    clear H1
    replace H:=Zh H
    obtain⟨t67006,A260,H⟩:=H
    replace H:((ZaR.f a0_0 l0_1 a1 a2).bind fun t67007=>((Zbm.f (wrap64 (-t67006)) t67007 true).bind fun bt67008=>(some (bt67008.1,bt67008.2.1,bt67008.2.2))))=some (r1,r2,r3):=H
    have A26:=Za A260;clear A260
    replace H:=Zh H
    obtain⟨t67007,A270,H⟩:=H
    replace H:((Zbm.f (wrap64 (-t67006)) t67007 true).bind fun bt67008=>(some (bt67008.1,bt67008.2.1,bt67008.2.2)))=some (r1,r2,r3):=H
    have A27:=Za A270;clear A270
    replace H:=Zh H
    obtain⟨⟨t67008,t67009,t67010⟩,A280,H⟩:=H
    replace H:(some (t67008,t67009,t67010))=some (r1,r2,r3):=H
    have A28:=Za A280;clear A280
    simp only[Option.some.injEq,Prod.mk.injEq] at H
    obtain⟨rfl,rfl,rfl⟩:=H
    try go_wp2
    have n0_:=Za (Zr BK67001.out)
    have n1_:=Za (Zr BK67002.out)
    have n2_:=Za (Zs HB.out)
    clear BK67001 BK67002 HB;have BK67001:=n0_;have BK67002:=n1_;have HB:=n2_;clear n0_ n1_ n2_
    refine ZbU (n:=15) (S:=fun w'=>w'.cell? ⟨gb67001,0,none⟩=some (.int .i64 a0_0)∧w'.cell? ⟨gb67001,1,none⟩=some (.slice A0_1 l0_1.length c0_1)) (ds:=[]) #[false,false,false,false,false,false,false,false,false,false,false,false,false,false,false] (by kernel_rfl) rfl rfl ⟨(Zu BK67001.out 0).trans rfl,(Zu BK67001.out 1).trans rfl⟩ (fun hHeld=>?_);refine ZbE ZI.tab3 ZI.bits3 (fun HT_ HW_=>?_)
    generalize wc.drew=w29 at BK67001 BK67002 HB hHeld ⊢
    refine Zaf (i:=1) (N:=some 27) (v:=?_) (a':=?_) #[false,true,false,false,false,false,false,false,false,false,false,false,false,false,false] rfl rfl (Zac HT_.out (by kernel_rfl)) (fun _ _ _ h=>h) (Or.inl ⟨by rfl,?_⟩) ?_ ?_
    rotate_left
    ·intro w'
     go_simp
     with_reducible rfl
    rotate_left
    ·simp only[Act.put,List.setIfInBounds_toArray,List.set_cons_zero,List.set_cons_succ,ZO,ZP]
     rfl
    refine Zaf (i:=2) (N:=some 28) (v:=?_) (a':=?_) #[false,true,true,false,false,false,false,false,false,false,false,false,false,false,false] rfl rfl (Zac HT_.out (by kernel_rfl)) (fun _ _ _ h=>h) (Or.inl ⟨by rfl,?_⟩) ?_ ?_
    rotate_left
    ·intro w'
     go_simp
     with_reducible rfl
    rotate_left
    ·simp only[Act.put,List.setIfInBounds_toArray,List.set_cons_zero,List.set_cons_succ,ZO,ZP]
     rfl
    refine Zaf (i:=6) (N:=some 32) (v:=?_) (a':=?_) #[false,true,true,false,false,false,true,false,false,false,false,false,false,false,false] rfl rfl (Zac HT_.out (by kernel_rfl)) (fun _ _ _ h=>h) (Or.inl ⟨by rfl,?_⟩) ?_ ?_
    rotate_left
    ·intro w'
     go_simp
     with_reducible rfl
    rotate_left
    ·simp only[Act.put,List.setIfInBounds_toArray,List.set_cons_zero,List.set_cons_succ,ZO,ZP]
     rfl
    refine Zaf (i:=7) (N:=some 33) (v:=?_) (a':=?_) #[false,true,true,false,false,false,true,true,false,false,false,false,false,false,false] rfl rfl (Zac HT_.out (by kernel_rfl)) (fun _ _ _ h=>h) (Or.inl ⟨by rfl,?_⟩) ?_ ?_
    rotate_left
    ·intro w'
     go_simp
     with_reducible rfl
    rotate_left
    ·simp only[Act.put,List.setIfInBounds_toArray,List.set_cons_zero,List.set_cons_succ,ZO,ZP]
     rfl
    refine take_ (i:=0) (N:=some 26) (v:=?_) (a':=?_) #[true,true,true,false,false,false,true,true,false,false,false,false,false,false,false] rfl rfl (Zbd HT_.out HW_.out (by kernel_rfl)) (fun _ _ _ h=>h) (Or.inl ⟨by rfl,?_⟩) hHeld ?_ ?_
    rotate_left
    ·rintro w' ⟨s0,s1⟩
     go_simp
     with_reducible rfl
    rotate_left
    ·simp only[Act.put,List.setIfInBounds_toArray,List.set_cons_zero,List.set_cons_succ,ZO,ZP]
     rfl
    refine take_ (i:=5) (N:=some 31) (v:=?_) (a':=?_) #[true,true,true,false,false,true,true,true,false,false,false,false,false,false,false] rfl rfl (Zbd HT_.out HW_.out (by kernel_rfl)) (fun _ _ _ h=>h) (Or.inl ⟨by rfl,?_⟩) hHeld ?_ ?_
    rotate_left
    ·rintro w' ⟨s0,s1⟩
     go_simp
     with_reducible rfl
    rotate_left
    ·simp only[Act.put,List.setIfInBounds_toArray,List.set_cons_zero,List.set_cons_succ,ZO,ZP]
     rfl
    refine one_ (i:=3) (N:=some 29) #[true,true,true,true,false,true,true,true,false,false,false,false,false,false,false] rfl rfl (ZaI HT_.out (by kernel_rfl)) (by decide) (fun K hK=>?_)
    refine Zbr Try.func120 (by kernel_rfl) rfl #[.agg #[.int .i64 a0_0,.slice A0_1 l0_1.length c0_1],.int .i64 a2,.int .i64 a1] (by rfl) rfl rfl (by(try simp only[List.map_toArray,List.map_cons,List.map_nil]);first|done|rfl|(simp only[Zk,Zj];rfl)) ?_
    with_reducible refine(ZaR.calls a0_0 _ _ l0_1 a2 a1 t67006 _ ?side1 ?side2 A26.out).mono ?_
    (case side1=>repeat(first|exact(Zb HR0_1.out HB.out)|(with_reducible refine Kd.C_alloc ?_ _)|(with_reducible refine Kd.C_drewN ?_ _)|(with_reducible refine Kd.C_drew ?_)))
    (case side2=>exact HC0_1.out)
    rintro e w30 ⟨rfl,hb⟩
    refine⟨_,rfl,?_⟩
    have n0_:=Za (Zx (g:=gb67001) (o:=.cells #[.int .i64 a0_0,.slice A0_1 l0_1.length c0_1] 90 (0,0)) (by(with_reducible repeat(first|refine Zo ?_ _|refine Zr ?_|refine Zn ?_ _));exact BK67001.out) hb)
    have n1_:=Za (Zx (g:=gb67002) (o:=.cells #[.int .i64 0,.int .i64 0] 29 (0,0)) (by(with_reducible repeat(first|refine Zo ?_ _|refine Zr ?_|refine Zn ?_ _));exact BK67002.out) hb)
    have n2_:=Za (Zy (by repeat(first|(with_reducible first|exact HB.out|apply Zq|apply Zm|apply Zs|refine Zp ?_ GE67001.out|refine Zp ?_ GE67002.out)|exact HB.out)) hb)
    clear BK67001 BK67002 HB;have BK67001:=n0_;have BK67002:=n1_;have HB:=n2_;clear n0_ n1_ n2_
    (try clear hb)
    (try clear hb2)
    (try clear hk)
    (try clear hi)
    refine hK.out _ _ ⟨(Zu BK67001.out 0).trans rfl,(Zu BK67001.out 1).trans rfl⟩ (fun hHeld=>?_)
    clear hK K
    refine Zag (a':=?_) ?_ ?_
    rotate_left
    ·show Act.put _ (some 29) _=_
     simp only[Act.put,List.setIfInBounds_toArray,List.set_cons_zero,List.set_cons_succ,ZO,ZP]
     rfl
    refine Zaf (i:=4) (N:=some 30) (v:=?_) (a':=?_) #[true,true,true,true,true,true,true,true,false,false,false,false,false,false,false] rfl rfl (Zac HT_.out (by kernel_rfl)) (fun _ _ _ h=>h) (Or.inl ⟨by rfl,?_⟩) ?_ ?_
    rotate_left
    ·intro w'
     go_simp
     with_reducible rfl
    rotate_left
    ·simp only[Act.put,List.setIfInBounds_toArray,List.set_cons_zero,List.set_cons_succ,ZO,ZP]
     rfl
    refine one_ (i:=8) (N:=some 34) #[true,true,true,true,true,true,true,true,true,false,false,false,false,false,false] rfl rfl (ZaI HT_.out (by kernel_rfl)) (by decide) (fun K hK=>?_)
    refine Zbr Try.func120 (by kernel_rfl) rfl #[.agg #[.int .i64 a0_0,.slice A0_1 l0_1.length c0_1],.int .i64 a1,.int .i64 a2] (by rfl) rfl rfl (by(try simp only[List.map_toArray,List.map_cons,List.map_nil]);first|done|rfl|(simp only[Zk,Zj];rfl)) ?_
    with_reducible refine(ZaR.calls a0_0 _ _ l0_1 a1 a2 t67007 _ ?side1 ?side2 A27.out).mono ?_
    (case side1=>repeat(first|exact(Zb HR0_1.out HB.out)|(with_reducible refine Kd.C_alloc ?_ _)|(with_reducible refine Kd.C_drewN ?_ _)|(with_reducible refine Kd.C_drew ?_)))
    (case side2=>exact HC0_1.out)
    rintro e w31 ⟨rfl,hb⟩
    refine⟨_,rfl,?_⟩
    have n0_:=Za (Zx (g:=gb67001) (o:=.cells #[.int .i64 a0_0,.slice A0_1 l0_1.length c0_1] 90 (0,0)) (by(with_reducible repeat(first|refine Zo ?_ _|refine Zr ?_|refine Zn ?_ _));exact BK67001.out) hb)
    have n1_:=Za (Zx (g:=gb67002) (o:=.cells #[.int .i64 0,.int .i64 0] 29 (0,0)) (by(with_reducible repeat(first|refine Zo ?_ _|refine Zr ?_|refine Zn ?_ _));exact BK67002.out) hb)
    have n2_:=Za (Zy (by repeat(first|(with_reducible first|exact HB.out|apply Zq|apply Zm|apply Zs|refine Zp ?_ GE67001.out|refine Zp ?_ GE67002.out)|exact HB.out)) hb)
    clear BK67001 BK67002 HB;have BK67001:=n0_;have BK67002:=n1_;have HB:=n2_;clear n0_ n1_ n2_
    (try clear hb)
    (try clear hb2)
    (try clear hk)
    (try clear hi)
    refine hK.out _ _ ⟨(Zu BK67001.out 0).trans rfl,(Zu BK67001.out 1).trans rfl⟩ (fun hHeld=>?_)
    clear hK K
    refine Zag (a':=?_) ?_ ?_
    rotate_left
    ·show Act.put _ (some 34) _=_
     simp only[Act.put,List.setIfInBounds_toArray,List.set_cons_zero,List.set_cons_succ,ZO,ZP]
     rfl
    refine Zaf (i:=9) (N:=some 35) (v:=?_) (a':=?_) #[true,true,true,true,true,true,true,true,true,true,false,false,false,false,false] rfl rfl (Zac HT_.out (by kernel_rfl)) (fun _ _ _ h=>h) (Or.inl ⟨by rfl,?_⟩) ?_ ?_
    rotate_left
    ·intro w'
     go_simp
     with_reducible rfl
    rotate_left
    ·simp only[Act.put,List.setIfInBounds_toArray,List.set_cons_zero,List.set_cons_succ,ZO,ZP]
     rfl
    refine one_ (i:=10) (N:=some 36) #[true,true,true,true,true,true,true,true,true,true,true,false,false,false,false] rfl rfl (ZaI HT_.out (by kernel_rfl)) (by decide) (fun K hK=>?_)
    refine Zbr Try.func119 (by kernel_rfl) rfl #[.agg #[.int .i64 (wrap64 (-t67006)),.int .i64 t67007],.bool true] (by rfl) rfl rfl (by(try simp only[List.map_toArray,List.map_cons,List.map_nil]);first|done|rfl|(simp only[Zk,Zj];rfl)) ?_
    with_reducible refine(Zbm.calls (wrap64 (-t67006)) t67007 true t67008 t67009 t67010 _ A28.out).mono ?_
    rintro e w32 ⟨rfl,hb⟩
    refine⟨_,rfl,?_⟩
    have n0_:=Za (Zx (g:=gb67001) (o:=.cells #[.int .i64 a0_0,.slice A0_1 l0_1.length c0_1] 90 (0,0)) (by(with_reducible repeat(first|refine Zo ?_ _|refine Zr ?_|refine Zn ?_ _));exact BK67001.out) hb)
    have n1_:=Za (Zx (g:=gb67002) (o:=.cells #[.int .i64 0,.int .i64 0] 29 (0,0)) (by(with_reducible repeat(first|refine Zo ?_ _|refine Zr ?_|refine Zn ?_ _));exact BK67002.out) hb)
    have n2_:=Za (Zy (by repeat(first|(with_reducible first|exact HB.out|apply Zq|apply Zm|apply Zs|refine Zp ?_ GE67001.out|refine Zp ?_ GE67002.out)|exact HB.out)) hb)
    clear BK67001 BK67002 HB;have BK67001:=n0_;have BK67002:=n1_;have HB:=n2_;clear n0_ n1_ n2_
    (try clear hb)
    (try clear hb2)
    (try clear hk)
    (try clear hi)
    refine hK.out _ _ ⟨(Zu BK67001.out 0).trans rfl,(Zu BK67001.out 1).trans rfl⟩ (fun hHeld=>?_)
    clear hK K
    refine Zag (a':=?_) ?_ ?_
    rotate_left
    ·show Act.put _ (some 36) _=_
     simp only[Act.put,List.setIfInBounds_toArray,List.set_cons_zero,List.set_cons_succ,ZO,ZP]
     rfl
    refine Zaf (i:=11) (N:=some 37) (v:=?_) (a':=?_) #[true,true,true,true,true,true,true,true,true,true,true,true,false,false,false] rfl rfl (Zac HT_.out (by kernel_rfl)) (fun _ _ _ h=>h) (Or.inl ⟨by rfl,?_⟩) ?_ ?_
    rotate_left
    ·intro w'
     go_simp
     with_reducible rfl
    rotate_left
    ·simp only[Act.put,List.setIfInBounds_toArray,List.set_cons_zero,List.set_cons_succ,ZO,ZP]
     rfl
    refine Zaf (i:=12) (N:=some 38) (v:=?_) (a':=?_) #[true,true,true,true,true,true,true,true,true,true,true,true,true,false,false] rfl rfl (Zac HT_.out (by kernel_rfl)) (fun _ _ _ h=>h) (Or.inl ⟨by rfl,?_⟩) ?_ ?_
    rotate_left
    ·intro w'
     go_simp
     with_reducible rfl
    rotate_left
    ·simp only[Act.put,List.setIfInBounds_toArray,List.set_cons_zero,List.set_cons_succ,ZO,ZP]
     rfl
    refine one_ (i:=13) (N:=none) #[true,true,true,true,true,true,true,true,true,true,true,true,true,true,false] rfl rfl (ZaI HT_.out (by kernel_rfl)) (by decide) (fun K hK=>?_)
    have hs33:w32.cell? ⟨gb67002,0,none⟩=some (.int .i64 0):=(Zu BK67002.out 0).trans rfl
    have hfs33:=Zt BK67002.out 0
    have hns33_0:=NB67001_67002.out
    have hms33_0:=NB67002_67001.out
    have hs34:w32.cell? ⟨gb67002,1,none⟩=some (.int .i64 0):=(Zu BK67002.out 1).trans rfl
    have hfs34:=Zt BK67002.out 1
    have hns34_0:=NB67001_67002.out
    have hms34_0:=NB67002_67001.out
    refine Zcl (w1:=?_) (by rfl) rfl ?_ ?_
    rotate_left
    ·go_simp
     rfl
    refine hK.out _ _ ⟨((Zai (p:=⟨gb67002,_,none⟩) NB67001_67002.out _).trans (((Zai (p:=⟨gb67002,_,none⟩) NB67001_67002.out _).trans (hHeld.1)))),((Zai (p:=⟨gb67002,_,none⟩) NB67001_67002.out _).trans (((Zai (p:=⟨gb67002,_,none⟩) NB67001_67002.out _).trans (hHeld.2))))⟩ (fun hHeld=>?_)
    clear hK K
    refine Zaf (i:=14) (N:=some 7) (v:=?_) (a':=?_) #[true,true,true,true,true,true,true,true,true,true,true,true,true,true,true] rfl rfl (Zac HT_.out (by kernel_rfl)) (fun _ _ _ h=>h) (Or.inl ⟨by rfl,?_⟩) ?_ ?_
    rotate_left
    ·intro w'
     go_simp
     with_reducible rfl
    rotate_left
    ·simp only[Act.put,List.setIfInBounds_toArray,List.set_cons_zero,List.set_cons_succ,ZO,ZP]
     rfl
    refine Zce (Zb1 HT_.out (by kernel_rfl)) ?_
    try go_wp2
    refine bodyPost_ret (Zab rfl _ _ gb67002 29 #[.int .i64 t67008,.int .i64 t67009] (0,0) _ rfl (by(with_reducible repeat(first|refine Zo ?_ _|refine Zr ?_|refine Zn ?_ _));refine ZF (cs:=#[.int .i64 t67008,.int .i64 0]) ?_ 1 _ rfl;(with_reducible repeat(first|refine Zo ?_ _|refine Zr ?_|refine Zn ?_ _));refine ZF (cs:=#[.int .i64 0,.int .i64 0]) ?_ 0 _ rfl;(with_reducible repeat(first|refine Zo ?_ _|refine Zr ?_|refine Zn ?_ _));exact BK67002.out) Try.underlying29 rfl (by kernel_rfl)) rfl ?_
    exact⟨by first|rfl|(simp[ZA,Zz] <;> rfl)|(simp[*,ZA,Zz] <;> rfl),by repeat(first|(with_reducible first|exact HB.out|apply Zq|apply Zm|apply Zs|refine Zp ?_ GE67001.out|refine Zp ?_ GE67002.out)|exact HB.out)⟩
end Go.Proofs.Ytpoffpdaadhkgaa.Pr
