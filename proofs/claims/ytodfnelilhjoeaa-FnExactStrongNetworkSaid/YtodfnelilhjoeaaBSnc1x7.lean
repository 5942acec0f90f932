/- The texts of one claim, put together by a program of this session. -/
import Derived.Test.YtodfnelilhjoeaaBSnc1x1
import Derived.Test.YtodfnelilhjoeaaBSnc1x3
import Derived.Test.YtodfnelilhjoeaaBSnc1x6
namespace Go.Proofs.Ytodfnelilhjoeaa.Pr
open Go.RowKit Go.Proofs.YtodfnelilhjoeaaW.PrintWords Go.Proofs.YtodfnelilhjoeaaW.PrintLast Go.Proofs.YtodfnelilhjoeaaW.PrintMore
attribute [local go_sem] Zac Zaa Zam Zal Z5 Z4 Zab Z9
set_option linter.unusedVariables false
set_option linter.unusedSimpArgs false
mutual
def ZF.l0:Nat→Int→Int→List (S116)→List (S90)→Int→Int→List (S112)→Option (Int×(List (S112))×Bool)
 | 0,_,_,_,_,_,_,_=>none
 | k+1,x31,x32,x37002000,x37002001,x37002002,x37005000,x37005001=>if x32<x31 then((ZR.f k x37002000 x37002001 x37002002 x32).bind fun bt37005=>((ZX.f k x37002000 x37002001 x37002002 bt37005.2 ([]:List Int)).bind fun bt37009=>(if x37005001.length<4398046511104 then(ZF.l0 k x31 (wrap64 (x32+1)) x37002000 x37002001 x37002002 x37005000 (x37005001 ++ [(⟨0,bt37005.1,(⟨wrap64 (-bt37009.1),wrap64 (x37002002 - bt37009.2)⟩:S110)⟩:S112)])) else(none)))) else(ZF.l1 k x37002001 (x37002001.length:Int) 0 x37002000 x37002001 x37002002 x37005000 x37005001)
def ZF.l1:Nat→List (S90)→Int→Int→List (S116)→List (S90)→Int→Int→List (S112)→Option (Int×(List (S112))×Bool)
 | 0,_,_,_,_,_,_,_,_=>none
 | k+1,x63,x64,x65,x37002000,x37002001,x37002002,x37005000,x37005001=>if x65<x64 then(if 0≤x65 then(if x65<(x63.length:Int) then(if (Zv x63 x65).f4=true then(ZF.l1 k x63 x64 (wrap64 (x65+1)) x37002000 x37002001 x37002002 x37005000 x37005001) else((ZR.f k x37002000 x37002001 x37002002 ((Zv x63 x65).f0)).bind fun bt37016=>((ZR.f k x37002000 x37002001 x37002002 ((Zv x63 x65).f1)).bind fun bt37020=>((ZX.f k x37002000 x37002001 x37002002 bt37016.2 bt37020.2).bind fun bt37024=>((ZX.f k x37002000 x37002001 x37002002 bt37020.2 bt37016.2).bind fun bt37026=>(if x37005001.length<4398046511104 then(ZF.l1 k x63 x64 (wrap64 (x65+1)) x37002000 x37002001 x37002002 x37005000 (x37005001 ++ [(⟨bt37016.1,bt37020.1,(⟨wrap64 ((wrap64 (((Zv x63 x65).f2)+bt37024.2)) - bt37026.1),wrap64 ((wrap64 (((Zv x63 x65).f3)+bt37024.1)) - bt37026.2)⟩:S110)⟩:S112)])) else(none))))))) else(none)) else(none)) else(ZF.l2 k (x37002000.length:Int) 0 x37002000 x37002001 x37002002 x37005000 x37005001)
def ZF.l2:Nat→Int→Int→List (S116)→List (S90)→Int→Int→List (S112)→Option (Int×(List (S112))×Bool)
 | 0,_,_,_,_,_,_,_=>none
 | k+1,x123,x124,x37002000,x37002001,x37002002,x37005000,x37005001=>if x124<x123 then((ZaX.f x37002000 x37002001 x37002002 x124).bind fun t37031=>(if t37031≥0 then(if x37005001.length<4398046511104 then(ZF.l2 k x123 (wrap64 (x124+1)) x37002000 x37002001 x37002002 x37005000 (x37005001 ++ [(⟨0,x124,(⟨0,0⟩:S110)⟩:S112)])) else(none)) else(ZF.l2 k x123 (wrap64 (x124+1)) x37002000 x37002001 x37002002 x37005000 x37005001))) else((ZbE.f x37005000 x37005001).bind fun t37035=>(if t37035=true then(some (x37005000,x37005001,true)) else(some (0,([]:List (S112)),false))))
end
def ZF.f (k:Nat) (l0_0:List (S116)) (l0_1:List (S90)) (a0_2:Int):Option (Int×(List (S112))×Bool):=(Zae.f k l0_0 l0_1 a0_2).bind fun t37003=>(if t37003=true then(ZF.l0 k (l0_0.length:Int) 0 l0_0 l0_1 a0_2 (l0_0.length:Int) ([]:List (S112))) else(some (0,([]:List (S112)),false)))
set_option maxHeartbeats 8000000 in
set_option maxRecDepth 100000 in
theorem ZF.calls (k:Nat) (A0_0:Option Addr) (c0_0:Nat) (l0_0:List (S116)) (A0_1:Option Addr) (c0_1:Nat) (l0_1:List (S90)) (a0_2:Int) (r1:Int) (r2:List (S112)) (r3:Bool) (w:World) (hr0_0:Kd.C k116 w A0_0 l0_0.length l0_0) (hc0_0:l0_0.length≤c0_0) (hr0_1:Kd.C k90 w A0_1 l0_1.length l0_1) (hc0_1:l0_1.length≤c0_1) (h:ZF.f k l0_0 l0_1 a0_2=some (r1,r2,r3)) :
  Calls Try.prog 37 #[.agg #[.slice A0_0 l0_0.length c0_0,.slice A0_1 l0_1.length c0_1,.int .i64 a0_2]] w fun e w'=>∃v1_:Value,e=.returned (.tuple #[.agg #[.int .i64 r1,v1_],.bool r3])∧Kd.R k112 112 w' w.heap.size (fun _=>True) v1_ r2∧Below w.heap.size w w':=by
 have hu35:=Try.underlying35
 have hu58:=Try.underlying58
 have hu110:=Try.underlying110
 have hu112:=Try.underlying112
 have hu90:=Try.underlying90
 have HR0_0:=Za hr0_0;have HC0_0:=Za hc0_0;clear hr0_0 hc0_0;have HR0_1:=Za hr0_1;have HC0_1:=Za hc0_1;clear hr0_1 hc0_1
 have HB:=Za (Below.refl w.heap.size w)
 have H:((Zae.f k l0_0 l0_1 a0_2).bind fun t37003=>(if t37003=true then(ZF.l0 k (l0_0.length:Int) 0 l0_0 l0_1 a0_2 (l0_0.length:Int) ([]:List (S112))) else(some (0,([]:List (S112)),false))))=some (r1,r2,r3):=h
 clear h
 replace H:=Zh H
 obtain⟨t37003,A20,H⟩:=H
 replace H:(if t37003=true then(ZF.l0 k (l0_0.length:Int) 0 l0_0 l0_1 a0_2 (l0_0.length:Int) ([]:List (S112))) else(some (0,([]:List (S112)),false)))=some (r1,r2,r3):=H
 have A2:=Za A20;clear A20
 by_cases c3:t37003=true
 ·subst c3
  have H1:(ZF.l0 k (l0_0.length:Int) 0 l0_0 l0_1 a0_2 (l0_0.length:Int) ([]:List (S112)))=some (r1,r2,r3):=by rw[if_pos rfl] at H;exact H
  clear H
  have H:=H1
  clear H1
  have H':=Za H
  clear H
  go_enter Try.func37,Try.ntmps37
  go_wp2_with (first|((with_reducible refine ZI (N:=1) rfl ?_);refine ZH ?hg (N:=1) ?hd (cs:=#[.slice A0_0 l0_0.length c0_0,.slice A0_1 l0_1.length c0_1,.int .i64 a0_2]) (t:=35) ?hr ?_;(case hd=>rfl);(case hg=>rfl);(case hr=>first|(go_simp;done)|(go_simp;rfl));intro gb37001 hg w4 hbox hb;have BK37001:=Za (hbox);have GW37001:=Za ((by rw[hg];exact(Zx (by repeat(first|(with_reducible first|exact HB.out|apply Zn|apply Zm|apply Zt)|exact HB.out))):w.heap.size≤gb37001));have GE37001:=Za ((by rw[hg];exact(Zx (by repeat(first|(with_reducible first|exact HB.out|apply Zn|apply Zm|apply Zt)|exact HB.out))):w.heap.size≤gb37001));replace HB:=Za (Zw (by repeat(first|(with_reducible first|exact HB.out|apply Zn|apply Zm|apply Zt)|exact HB.out)) hb);clear hb hbox hg)|((with_reducible refine ZI (N:=2) rfl ?_);refine ZH ?hg (N:=2) ?hd (cs:=#[.int .i64 0,.slice none 0 0]) (t:=58) ?hr ?_;(case hd=>rfl);(case hg=>rfl);(case hr=>first|(go_simp;done)|(go_simp;rfl));intro gb37002 hg w5 hbox hb;have BK37002:=Za (hbox);have GW37002:=Za ((by rw[hg];exact(Zx (by repeat(first|(with_reducible first|exact HB.out|apply Zn|apply Zm|apply Zt|refine Zq ?_ GE37001.out)|exact HB.out))):w.heap.size≤gb37002));have GE37002:=Za ((by rw[hg];exact(Zx (by repeat(first|(with_reducible first|exact HB.out|apply Zn|apply Zm|apply Zt|refine Zq ?_ GE37001.out)|exact HB.out))):w.heap.size≤gb37002));have NB37001_37002:=Za ((by rw[hg];exact Nat.ne_of_lt (ZO (g:=gb37001) (o:=.cells #[.slice A0_0 l0_0.length c0_0,.slice A0_1 l0_1.length c0_1,.int .i64 a0_2] 35 (0,0)) (by(with_reducible repeat(first|refine Zp ?_ _|refine Zu ?_|refine Zo ?_ _));exact BK37001.out)):gb37001≠gb37002));have NB37002_37001:=Za ((by rw[hg];exact Nat.ne_of_gt (ZO (g:=gb37001) (o:=.cells #[.slice A0_0 l0_0.length c0_0,.slice A0_1 l0_1.length c0_1,.int .i64 a0_2] 35 (0,0)) (by(with_reducible repeat(first|refine Zp ?_ _|refine Zu ?_|refine Zo ?_ _));exact BK37001.out)):gb37002≠gb37001));replace BK37001:=Za (Zy (g:=gb37001) (o:=.cells #[.slice A0_0 l0_0.length c0_0,.slice A0_1 l0_1.length c0_1,.int .i64 a0_2] 35 (0,0)) (by(with_reducible repeat(first|refine Zp ?_ _|refine Zu ?_|refine Zo ?_ _));exact BK37001.out) hb);replace HB:=Za (Zw (by repeat(first|(with_reducible first|exact HB.out|apply Zn|apply Zm|apply Zt|refine Zq ?_ GE37001.out)|exact HB.out)) hb);clear hb hbox hg;have hnb6:=NB37001_37002.out;have hnc6:=NB37002_37001.out;have hcz7_0:w5.cell? ⟨gb37001,0,none⟩=some (.slice A0_0 l0_0.length c0_0):=(Zs BK37001.out 0).trans rfl;have hcz7_1:w5.cell? ⟨gb37001,1,none⟩=some (.slice A0_1 l0_1.length c0_1):=(Zs BK37001.out 1).trans rfl;have hcz7_2:w5.cell? ⟨gb37001,2,none⟩=some (.int .i64 a0_2):=(Zs BK37001.out 2).trans rfl;have hfz7_0:=Zr BK37001.out 0;have hfz7_1:=Zr BK37001.out 1;have hfz7_2:=Zr BK37001.out 2)|((with_reducible refine ZG (f:=87) rfl ?_);refine ZQ (some 22) rfl rfl Try.func87 (by kernel_rfl) rfl #[.agg #[.slice A0_0 l0_0.length c0_0,.slice A0_1 l0_1.length c0_1,.int .i64 a0_2]] rfl (by(try simp only[List.map_toArray,List.map_cons,List.map_nil]);first|done|rfl|(simp only[Zk,Zj];rfl)) ?_;(with_reducible refine(Zae.calls k _ _ l0_0 _ _ l0_1 a0_2 true _ ?side1 ?side2 ?side3 ?side4 A2.out).mono ?_);(case side1=>repeat(first|exact(Zb HR0_0.out HB.out)|(with_reducible refine Kd.C_alloc ?_ _)|(with_reducible refine Kd.C_drewN ?_ _)|(with_reducible refine Kd.C_drew ?_)));(case side2=>exact HC0_0.out);(case side3=>repeat(first|exact(Zb HR0_1.out HB.out)|(with_reducible refine Kd.C_alloc ?_ _)|(with_reducible refine Kd.C_drewN ?_ _)|(with_reducible refine Kd.C_drew ?_)));(case side4=>exact HC0_1.out);rintro e w8 ⟨rfl,hb⟩;refine⟨_,rfl,?_⟩;replace BK37001:=Za (Zy (g:=gb37001) (o:=.cells #[.slice A0_0 l0_0.length c0_0,.slice A0_1 l0_1.length c0_1,.int .i64 a0_2] 35 (0,0)) (by(with_reducible repeat(first|refine Zp ?_ _|refine Zu ?_|refine Zo ?_ _));exact BK37001.out) hb);replace BK37002:=Za (Zy (g:=gb37002) (o:=.cells #[.int .i64 0,.slice none 0 0] 58 (0,0)) (by(with_reducible repeat(first|refine Zp ?_ _|refine Zu ?_|refine Zo ?_ _));exact BK37002.out) hb);replace HB:=Za (Zw (by repeat(first|(with_reducible first|exact HB.out|apply Zn|apply Zm|apply Zt|refine Zq ?_ GE37001.out|refine Zq ?_ GE37002.out)|exact HB.out)) hb);(try clear hb);(try clear hb2);(try clear hk);(try clear hi);have hcz9_0:w8.cell? ⟨gb37001,0,none⟩=some (.slice A0_0 l0_0.length c0_0):=(Zs BK37001.out 0).trans rfl;have hcz9_1:w8.cell? ⟨gb37001,1,none⟩=some (.slice A0_1 l0_1.length c0_1):=(Zs BK37001.out 1).trans rfl;have hcz9_2:w8.cell? ⟨gb37001,2,none⟩=some (.int .i64 a0_2):=(Zs BK37001.out 2).trans rfl;have hfz9_0:=Zr BK37001.out 0;have hfz9_1:=Zr BK37001.out 1;have hfz9_2:=Zr BK37001.out 2)|((with_reducible refine ZI (N:=4) rfl ?_);refine ZH ?hg (N:=4) ?hd (cs:=#[.int .i64 0,.slice none 0 0]) (t:=58) ?hr ?_;(case hd=>rfl);(case hg=>rfl);(case hr=>first|(go_simp;done)|(go_simp;rfl));intro gb37004 hg w10 hbox hb;have BK37004:=Za (hbox);have GW37004:=Za ((by rw[hg];exact(Zx (by repeat(first|(with_reducible first|exact HB.out|apply Zn|apply Zm|apply Zt|refine Zq ?_ GE37001.out|refine Zq ?_ GE37002.out)|exact HB.out))):w.heap.size≤gb37004));have GE37004:=Za ((by rw[hg];exact(Zx (by repeat(first|(with_reducible first|exact HB.out|apply Zn|apply Zm|apply Zt|refine Zq ?_ GE37001.out|refine Zq ?_ GE37002.out)|exact HB.out))):w.heap.size≤gb37004));have NB37001_37004:=Za ((by rw[hg];exact Nat.ne_of_lt (ZO (g:=gb37001) (o:=.cells #[.slice A0_0 l0_0.length c0_0,.slice A0_1 l0_1.length c0_1,.int .i64 a0_2] 35 (0,0)) (by(with_reducible repeat(first|refine Zp ?_ _|refine Zu ?_|refine Zo ?_ _));exact BK37001.out)):gb37001≠gb37004));have NB37004_37001:=Za ((by rw[hg];exact Nat.ne_of_gt (ZO (g:=gb37001) (o:=.cells #[.slice A0_0 l0_0.length c0_0,.slice A0_1 l0_1.length c0_1,.int .i64 a0_2] 35 (0,0)) (by(with_reducible repeat(first|refine Zp ?_ _|refine Zu ?_|refine Zo ?_ _));exact BK37001.out)):gb37004≠gb37001));have NB37002_37004:=Za ((by rw[hg];exact Nat.ne_of_lt (ZO (g:=gb37002) (o:=.cells #[.int .i64 0,.slice none 0 0] 58 (0,0)) (by(with_reducible repeat(first|refine Zp ?_ _|refine Zu ?_|refine Zo ?_ _));exact BK37002.out)):gb37002≠gb37004));have NB37004_37002:=Za ((by rw[hg];exact Nat.ne_of_gt (ZO (g:=gb37002) (o:=.cells #[.int .i64 0,.slice none 0 0] 58 (0,0)) (by(with_reducible repeat(first|refine Zp ?_ _|refine Zu ?_|refine Zo ?_ _));exact BK37002.out)):gb37004≠gb37002));replace BK37001:=Za (Zy (g:=gb37001) (o:=.cells #[.slice A0_0 l0_0.length c0_0,.slice A0_1 l0_1.length c0_1,.int .i64 a0_2] 35 (0,0)) (by(with_reducible repeat(first|refine Zp ?_ _|refine Zu ?_|refine Zo ?_ _));exact BK37001.out) hb);replace BK37002:=Za (Zy (g:=gb37002) (o:=.cells #[.int .i64 0,.slice none 0 0] 58 (0,0)) (by(with_reducible repeat(first|refine Zp ?_ _|refine Zu ?_|refine Zo ?_ _));exact BK37002.out) hb);replace HB:=Za (Zw (by repeat(first|(with_reducible first|exact HB.out|apply Zn|apply Zm|apply Zt|refine Zq ?_ GE37001.out|refine Zq ?_ GE37002.out)|exact HB.out)) hb);clear hb hbox hg;have hnb11:=NB37004_37001.out;have hnc11:=NB37001_37004.out;have hnb12:=NB37004_37002.out;have hnc12:=NB37002_37004.out;have hcz13_0:w10.cell? ⟨gb37004,0,none⟩=some (.int .i64 0):=(Zs BK37004.out 0).trans rfl;have hcz13_1:w10.cell? ⟨gb37004,1,none⟩=some (.slice none 0 0):=(Zs BK37004.out 1).trans rfl;have hfz13_0:=Zr BK37004.out 0;have hfz13_1:=Zr BK37004.out 1;have hcz14_0:w10.cell? ⟨gb37001,0,none⟩=some (.slice A0_0 l0_0.length c0_0):=(Zs BK37001.out 0).trans rfl;have hcz14_1:w10.cell? ⟨gb37001,1,none⟩=some (.slice A0_1 l0_1.length c0_1):=(Zs BK37001.out 1).trans rfl;have hcz14_2:w10.cell? ⟨gb37001,2,none⟩=some (.int .i64 a0_2):=(Zs BK37001.out 2).trans rfl;have hfz14_0:=Zr BK37001.out 0;have hfz14_1:=Zr BK37001.out 1;have hfz14_2:=Zr BK37001.out 2))
  go_loopg [32] k (fun kq v32 w'=>∃(x32_1:Int) (x37005001_1:List (S112)) (u37005001:Value),v32=.int .i64 x32_1∧Aside0 (ZF.l0 kq (l0_0.length:Int) x32_1 l0_0 l0_1 a0_2 (l0_0.length:Int) x37005001_1=some (r1,r2,r3))∧Aside0 (kq≤k)∧Aside0 (Kd.R k112 112 w' w.heap.size (fun _=>True) u37005001 x37005001_1)∧Aside0 (w'.heap[gb37001]? = some (.cells #[(.slice A0_0 l0_0.length c0_0),(.slice A0_1 l0_1.length c0_1),.int .i64 a0_2] 35 (0,0)))∧Aside0 (w'.heap[gb37002]? = some (.cells #[.int .i64 0,(.slice none 0 0)] 58 (0,0)))∧Aside0 (w'.heap[gb37004]? = some (.cells #[.int .i64 (l0_0.length:Int),u37005001] 58 (0,0)))∧Aside0 (Below w.heap.size w w'))
  case atStart=>exact⟨(0),(([]:List (S112))),(.slice none 0 0),(by first|rfl|(simp;done)|(simp[*];done)),H',⟨Nat.le_refl _⟩,⟨by first|exact Kd.R_nil _ _ _ _ _|exact Kd.N_nil _ _ _ _ _|exact Kd.V_nil _ _ _ _ _|exact Kd.Q_nil _ _ _ _ _|exact Kd.S_nil _ _ _ _ _⟩,⟨by(with_reducible repeat(first|refine Zp ?_ _|refine Zu ?_|refine Zo ?_ _));refine ZD ?_ NB37001_37004.out _;(with_reducible repeat(first|refine Zp ?_ _|refine Zu ?_|refine Zo ?_ _));refine ZD ?_ NB37001_37004.out _;(with_reducible repeat(first|refine Zp ?_ _|refine Zu ?_|refine Zo ?_ _));exact BK37001.out⟩,⟨by(with_reducible repeat(first|refine Zp ?_ _|refine Zu ?_|refine Zo ?_ _));refine ZD ?_ NB37002_37004.out _;(with_reducible repeat(first|refine Zp ?_ _|refine Zu ?_|refine Zo ?_ _));refine ZD ?_ NB37002_37004.out _;(with_reducible repeat(first|refine Zp ?_ _|refine Zu ?_|refine Zo ?_ _));exact BK37002.out⟩,⟨by(with_reducible repeat(first|refine Zp ?_ _|refine Zu ?_|refine Zo ?_ _));refine ZL (cs:=#[.int .i64 (l0_0.length:Int),.slice none 0 0]) ?_ 1 _ rfl;(with_reducible repeat(first|refine Zp ?_ _|refine Zu ?_|refine Zo ?_ _));refine ZL (cs:=#[.int .i64 0,.slice none 0 0]) ?_ 0 _ rfl;(with_reducible repeat(first|refine Zp ?_ _|refine Zu ?_|refine Zo ?_ _));exact BK37004.out⟩,⟨by repeat(first|(with_reducible first|exact HB.out|apply Zn|apply Zm|apply Zt|refine Zq ?_ GE37001.out|refine Zq ?_ GE37002.out|refine Zq ?_ GE37004.out)|exact HB.out)⟩⟩
  case round=>
   clear H'
   try clear c1
   try clear p2
   try clear c3
   try clear c6
   try clear c8
   try clear c11
   try clear c12
   try clear hcz13_0
   try clear hcz13_1
   try clear hcz14_0
   try clear hcz14_1
   try clear hcz14_2
   try clear hcz7_0
   try clear hcz7_1
   try clear hcz7_2
   try clear hcz9_0
   try clear hcz9_1
   try clear hcz9_2
   try clear hfz13_0
   try clear hfz13_1
   try clear hfz14_0
   try clear hfz14_1
   try clear hfz14_2
   try clear hfz7_0
   try clear hfz7_1
   try clear hfz7_2
   try clear hfz9_0
   try clear hfz9_1
   try clear hfz9_2
   obtain⟨x32_1,x37005001_1,u37005001,rfl,HA,HK1,HO_37005001,BK37001,BK37002,BK37004,HB⟩:=hrel
   cases gk with
   | zero=>exact absurd HA.out (by simp[ZF.l0])
   | succ k1=>
    have H:=HA.out
    clear HA
    simp only[ZF.l0] at H
    by_cases c15:x32_1<(l0_0.length:Int)
    ·rw[if_pos c15] at H
     have c15b0:decide (x32_1<(l0_0.length:Int))=true:=Ze c15
     clear c15
     replace H:=Zh H
     obtain⟨⟨t37005,t37006⟩,A160,H⟩:=H
     replace H:((ZX.f k1 l0_0 l0_1 a0_2 t37006 ([]:List Int)).bind fun bt37009=>(if x37005001_1.length<4398046511104 then(ZF.l0 k1 (l0_0.length:Int) (wrap64 (x32_1+1)) l0_0 l0_1 a0_2 (l0_0.length:Int) (x37005001_1 ++ [(⟨0,t37005,(⟨wrap64 (-bt37009.1),wrap64 (a0_2 - bt37009.2)⟩:S110)⟩:S112)])) else(none)))=some (r1,r2,r3):=H
     have A16:=Za A160;clear A160
     replace H:=Zh H
     obtain⟨⟨t37009,t37010⟩,A170,H⟩:=H
     replace H:(if x37005001_1.length<4398046511104 then(ZF.l0 k1 (l0_0.length:Int) (wrap64 (x32_1+1)) l0_0 l0_1 a0_2 (l0_0.length:Int) (x37005001_1 ++ [(⟨0,t37005,(⟨wrap64 (-t37009),wrap64 (a0_2 - t37010)⟩:S110)⟩:S112)])) else(none))=some (r1,r2,r3):=H
     have A17:=Za A170;clear A170
     by_cases c18:x37005001_1.length<4398046511104
     ·rw[if_pos c18] at H
      have LMc18:=Za c18;clear c18
      obtain⟨y37011,hy37011⟩:∃y_:List (S112),y_=(x37005001_1 ++ [(⟨0,t37005,(⟨wrap64 (-t37009),wrap64 (a0_2 - t37010)⟩:S110)⟩:S112)]):=⟨_,rfl⟩
      replace H:(ZF.l0 k1 (l0_0.length:Int) (wrap64 (x32_1+1)) l0_0 l0_1 a0_2 (l0_0.length:Int) y37011)=some (r1,r2,r3):=by first|(rw[hy37011];with_reducible exact H)|(have H2_:=(Zi _ _).symm.trans H;rw[hy37011];with_reducible exact H2_)|(have H2_:=(Zi _ _).symm.trans H;with_reducible exact H2_)|with_reducible exact H|(rw[hy37011];exact H)|exact H
      have Ny37011:=Za hy37011;clear hy37011
      have H':=Za H
      clear H
      have hnb19:=NB37001_37002.out
      have hnc19:=NB37002_37001.out
      have hnb20:=NB37001_37004.out
      have hnc20:=NB37004_37001.out
      have hcz21_0:wr.cell? ⟨gb37001,0,none⟩=some (.slice A0_0 l0_0.length c0_0):=(Zs BK37001.out 0).trans rfl
      have hcz21_1:wr.cell? ⟨gb37001,1,none⟩=some (.slice A0_1 l0_1.length c0_1):=(Zs BK37001.out 1).trans rfl
      have hcz21_2:wr.cell? ⟨gb37001,2,none⟩=some (.int .i64 a0_2):=(Zs BK37001.out 2).trans rfl
      have hfz21_0:=Zr BK37001.out 0
      have hfz21_1:=Zr BK37001.out 1
      have hfz21_2:=Zr BK37001.out 2
      go_wp2_with (first|((with_reducible refine ZG (f:=88) rfl ?_);refine ZQ (some 38) rfl rfl Try.func88 (by kernel_rfl) rfl #[.agg #[.slice A0_0 l0_0.length c0_0,.slice A0_1 l0_1.length c0_1,.int .i64 a0_2],.int .i64 x32_1] rfl (by(try simp only[List.map_toArray,List.map_cons,List.map_nil]);first|done|rfl|(simp only[Zk,Zj];rfl)) ?_;(with_reducible refine(ZR.calls k1 _ _ l0_0 _ _ l0_1 a0_2 x32_1 t37005 t37006 _ ?side1 ?side2 ?side3 ?side4 A16.out).mono ?_);(case side1=>repeat(first|exact(Zb HR0_0.out HB.out)|(with_reducible refine Kd.C_alloc ?_ _)|(with_reducible refine Kd.C_drewN ?_ _)|(with_reducible refine Kd.C_drew ?_)));(case side2=>exact HC0_0.out);(case side3=>repeat(first|exact(Zb HR0_1.out HB.out)|(with_reducible refine Kd.C_alloc ?_ _)|(with_reducible refine Kd.C_drewN ?_ _)|(with_reducible refine Kd.C_drew ?_)));(case side4=>exact HC0_1.out);rintro e w22 ⟨v37007,rfl,ho0,hb⟩;refine⟨_,rfl,?_⟩;have HO37008:=Za (Kd.R_lower ho0 (Zx (by repeat(first|(with_reducible first|exact HB.out|apply Zn|apply Zm|apply Zt|refine Zq ?_ GE37001.out|refine Zq ?_ GE37002.out|refine Zq ?_ GE37004.out)|exact HB.out))));replace HO_37005001:=Za (Kd.R_below (by(with_reducible repeat(first|apply Kd.R_alloc|apply Kd.R_drewN|apply Kd.R_drew));exact HO_37005001.out) hb);replace BK37001:=Za (Zy (g:=gb37001) (o:=.cells #[.slice A0_0 l0_0.length c0_0,.slice A0_1 l0_1.length c0_1,.int .i64 a0_2] 35 (0,0)) (by(with_reducible repeat(first|refine Zp ?_ _|refine Zu ?_|refine Zo ?_ _));exact BK37001.out) hb);replace BK37002:=Za (Zy (g:=gb37002) (o:=.cells #[.int .i64 0,.slice none 0 0] 58 (0,0)) (by(with_reducible repeat(first|refine Zp ?_ _|refine Zu ?_|refine Zo ?_ _));exact BK37002.out) hb);replace BK37004:=Za (Zy (g:=gb37004) (o:=.cells #[.int .i64 (l0_0.length:Int),u37005001] 58 (0,0)) (by(with_reducible repeat(first|refine Zp ?_ _|refine Zu ?_|refine Zo ?_ _));exact BK37004.out) hb);replace HB:=Za (Zw (by repeat(first|(with_reducible first|exact HB.out|apply Zn|apply Zm|apply Zt|refine Zq ?_ GE37001.out|refine Zq ?_ GE37002.out|refine Zq ?_ GE37004.out)|exact HB.out)) hb);(try clear hb);(try clear hb2);(try clear hk);(try clear hi);(try clear ho0);have hcz23_0:w22.cell? ⟨gb37001,0,none⟩=some (.slice A0_0 l0_0.length c0_0):=(Zs BK37001.out 0).trans rfl;have hcz23_1:w22.cell? ⟨gb37001,1,none⟩=some (.slice A0_1 l0_1.length c0_1):=(Zs BK37001.out 1).trans rfl;have hcz23_2:w22.cell? ⟨gb37001,2,none⟩=some (.int .i64 a0_2):=(Zs BK37001.out 2).trans rfl;have hfz23_0:=Zr BK37001.out 0;have hfz23_1:=Zr BK37001.out 1;have hfz23_2:=Zr BK37001.out 2;obtain⟨Ao24,co24,eo24⟩:=Kd.R_slice HO37008.out;subst eo24)|((with_reducible refine ZG (f:=91) rfl ?_);refine ZQ (some 44) rfl rfl Try.func91 (by kernel_rfl) rfl #[.agg #[.slice A0_0 l0_0.length c0_0,.slice A0_1 l0_1.length c0_1,.int .i64 a0_2],.slice Ao24 t37006.length co24,.slice none 0 0] rfl (by(try simp only[List.map_toArray,List.map_cons,List.map_nil]);first|done|rfl|(simp only[Zk,Zj];rfl)) ?_;(refine(ZX.calls k1 _ _ l0_0 _ _ l0_1 a0_2 _ _ t37006 _ _ ([]:List Int) t37009 t37010 _ ?side1 ?side2 ?side3 ?side4 ?side5 ?side6 ?side7 ?side8 A17.out).mono ?_);(case side1=>repeat(first|exact(Zb HR0_0.out HB.out)|(with_reducible refine Kd.C_alloc ?_ _)|(with_reducible refine Kd.C_drewN ?_ _)|(with_reducible refine Kd.C_drew ?_)));(case side2=>exact HC0_0.out);(case side3=>repeat(first|exact(Zb HR0_1.out HB.out)|(with_reducible refine Kd.C_alloc ?_ _)|(with_reducible refine Kd.C_drewN ?_ _)|(with_reducible refine Kd.C_drew ?_)));(case side4=>exact HC0_1.out);(case side5=>repeat(first|exact(Kd.R_reads' HO37008.out).2.2|(with_reducible refine Kd.C_alloc ?_ _)|(with_reducible refine Kd.C_drewN ?_ _)|(with_reducible refine Kd.C_drew ?_)));(case side6=>exact(Kd.R_reads' HO37008.out).2.1);(case side7=>exact Kd.C_nil _ _);(case side8=>exact Nat.le_refl _);rintro e w25 ⟨rfl,hb⟩;refine⟨_,rfl,?_⟩;replace HO_37005001:=Za (Kd.R_below (by(with_reducible repeat(first|apply Kd.R_alloc|apply Kd.R_drewN|apply Kd.R_drew));exact HO_37005001.out) hb);replace HO37008:=Za (Kd.R_below (by(with_reducible repeat(first|apply Kd.R_alloc|apply Kd.R_drewN|apply Kd.R_drew));exact HO37008.out) hb);replace BK37001:=Za (Zy (g:=gb37001) (o:=.cells #[.slice A0_0 l0_0.length c0_0,.slice A0_1 l0_1.length c0_1,.int .i64 a0_2] 35 (0,0)) (by(with_reducible repeat(first|refine Zp ?_ _|refine Zu ?_|refine Zo ?_ _));exact BK37001.out) hb);replace BK37002:=Za (Zy (g:=gb37002) (o:=.cells #[.int .i64 0,.slice none 0 0] 58 (0,0)) (by(with_reducible repeat(first|refine Zp ?_ _|refine Zu ?_|refine Zo ?_ _));exact BK37002.out) hb);replace BK37004:=Za (Zy (g:=gb37004) (o:=.cells #[.int .i64 (l0_0.length:Int),u37005001] 58 (0,0)) (by(with_reducible repeat(first|refine Zp ?_ _|refine Zu ?_|refine Zo ?_ _));exact BK37004.out) hb);replace HB:=Za (Zw (by repeat(first|(with_reducible first|exact HB.out|apply Zn|apply Zm|apply Zt|refine Zq ?_ GE37001.out|refine Zq ?_ GE37002.out|refine Zq ?_ GE37004.out)|exact HB.out)) hb);(try clear hb);(try clear hb2);(try clear hk);(try clear hi);have hnb26:=NB37004_37002.out;have hnc26:=NB37002_37004.out;have hcz27_0:w25.cell? ⟨gb37004,0,none⟩=some (.int .i64 (l0_0.length:Int)):=(Zs BK37004.out 0).trans rfl;have hcz27_1:w25.cell? ⟨gb37004,1,none⟩=some (u37005001):=(Zs BK37004.out 1).trans rfl;have hfz27_0:=Zr BK37004.out 0;have hfz27_1:=Zr BK37004.out 1;have hcz28_0:w25.cell? ⟨gb37001,0,none⟩=some (.slice A0_0 l0_0.length c0_0):=(Zs BK37001.out 0).trans rfl;have hcz28_1:w25.cell? ⟨gb37001,1,none⟩=some (.slice A0_1 l0_1.length c0_1):=(Zs BK37001.out 1).trans rfl;have hcz28_2:w25.cell? ⟨gb37001,2,none⟩=some (.int .i64 a0_2):=(Zs BK37001.out 2).trans rfl;have hfz28_0:=Zr BK37001.out 0;have hfz28_1:=Zr BK37001.out 1;have hfz28_2:=Zr BK37001.out 2)|((with_reducible refine Zbf (b:=.append) (xs:=#[.tmp 48,.tmp 58]) rfl ?_);at_builtin;refine Kd.R_append k112 (w0:=w) w.heap.size rfl (.tmp 48) (.tmp 58) 56 112 (.agg #[(.int .i64 0),(.int .i64 0),(.int .i64 0),(.int .i64 0)]) 32 rfl Try.underlying56 ZcB rfl (by decide) (by omega) u37005001 x37005001_1 (⟨0,t37005,(⟨wrap64 (-t37009),wrap64 (a0_2 - t37010)⟩:S110)⟩:S112) [.int .i64 0,.int .i64 t37005,.int .i64 (wrap64 (-t37009)),.int .i64 (wrap64 (a0_2 - t37010))] (fun _=>True) (fun _=>False) rfl rfl ?aP (fun _ hk=>hk.elim) ?aF ?aO ?aB ?aS ?aL ?_;(case aP=>exact Zcd _ _ _ (⟨0,t37005,(⟨wrap64 (-t37009),wrap64 (a0_2 - t37010)⟩:S110)⟩:S112));(case aB=>exact(by repeat(first|(with_reducible first|exact HB.out|apply Zn|apply Zm|apply Zt|refine Zq ?_ GE37001.out|refine Zq ?_ GE37002.out|refine Zq ?_ GE37004.out)|exact HB.out)));(case aF=>exact(fun _ _=>trivial));(case aO=>exact(by(with_reducible repeat(first|apply Kd.R_alloc|apply Kd.R_drewN|apply Kd.R_drew));exact HO_37005001.out));(case aS=>exact(Zx (by repeat(first|(with_reducible first|exact HB.out|apply Zn|apply Zm|apply Zt|refine Zq ?_ GE37001.out|refine Zq ?_ GE37002.out|refine Zq ?_ GE37004.out)|exact HB.out))));(case aL=>have:=LMc18.out;omega);intro v37012 w29 ho hb hg hat;rw[← Ny37011.out] at ho;have HO37013:=Za (ho);replace BK37001:=Za (Zar (g:=gb37001) (o:=.cells #[.slice A0_0 l0_0.length c0_0,.slice A0_1 l0_1.length c0_1,.int .i64 a0_2] 35 (0,0)) (by(with_reducible repeat(first|refine Zp ?_ _|refine Zu ?_|refine Zo ?_ _));exact BK37001.out) hg (Kd.R_ne HO_37005001.out BK37001.out (by decide)));replace BK37002:=Za (Zar (g:=gb37002) (o:=.cells #[.int .i64 0,.slice none 0 0] 58 (0,0)) (by(with_reducible repeat(first|refine Zp ?_ _|refine Zu ?_|refine Zo ?_ _));exact BK37002.out) hg (Kd.R_ne HO_37005001.out BK37002.out (by decide)));replace BK37004:=Za (Zar (g:=gb37004) (o:=.cells #[.int .i64 (l0_0.length:Int),u37005001] 58 (0,0)) (by(with_reducible repeat(first|refine Zp ?_ _|refine Zu ?_|refine Zo ?_ _));exact BK37004.out) hg (Kd.R_ne HO_37005001.out BK37004.out (by decide)));replace HO37008:=Za (Kd.R_over' (by(with_reducible repeat(first|apply Kd.R_alloc|apply Kd.R_drewN|apply Kd.R_drew));exact HO37008.out) (Kd.R_typed (by(with_reducible repeat(first|apply Kd.R_alloc|apply Kd.R_drewN|apply Kd.R_drew));exact HO_37005001.out)) (by decide) hg);replace HB:=Za (hb);clear HO_37005001;clear ho hb hg hat;obtain⟨Ao30,co30,eo30⟩:=Kd.R_slice HO37013.out;subst eo30;have hcz31_0:w29.cell? ⟨gb37004,0,none⟩=some (.int .i64 (l0_0.length:Int)):=(Zs BK37004.out 0).trans rfl;have hcz31_1:w29.cell? ⟨gb37004,1,none⟩=some (u37005001):=(Zs BK37004.out 1).trans rfl;have hfz31_0:=Zr BK37004.out 0;have hfz31_1:=Zr BK37004.out 1))
      go_roundg k1
      case measure=>have:=HK1.out;omega
      case rel=>exact⟨(wrap64 (x32_1+1)),(y37011),(.slice Ao30 y37011.length co30),(by first|rfl|(simp;done)|(simp[*];done)),H',⟨by have:=HK1.out;omega⟩,⟨by(with_reducible repeat(first|apply Kd.R_alloc|apply Kd.R_drewN|apply Kd.R_drew));exact Kd.R_mono (Kd.R_far (p:=⟨gb37004,1,none⟩) (Kd.R_types HO37013.out BK37004.out (by decide)) (fun _ hk=>hk.2) (.slice Ao30 y37011.length co30)) (fun _ hk=>trivial)⟩,⟨by(with_reducible repeat(first|refine Zp ?_ _|refine Zu ?_|refine Zo ?_ _));refine ZD ?_ NB37001_37004.out _;(with_reducible repeat(first|refine Zp ?_ _|refine Zu ?_|refine Zo ?_ _));exact BK37001.out⟩,⟨by(with_reducible repeat(first|refine Zp ?_ _|refine Zu ?_|refine Zo ?_ _));refine ZD ?_ NB37002_37004.out _;(with_reducible repeat(first|refine Zp ?_ _|refine Zu ?_|refine Zo ?_ _));exact BK37002.out⟩,⟨by(with_reducible repeat(first|refine Zp ?_ _|refine Zu ?_|refine Zo ?_ _));refine ZL (cs:=#[.int .i64 (l0_0.length:Int),u37005001]) ?_ 1 _ rfl;(with_reducible repeat(first|refine Zp ?_ _|refine Zu ?_|refine Zo ?_ _));exact BK37004.out⟩,⟨by repeat(first|(with_reducible first|exact HB.out|apply Zn|apply Zm|apply Zt|refine Zq ?_ GE37001.out|refine Zq ?_ GE37002.out|refine Zq ?_ GE37004.out)|exact HB.out)⟩⟩
     ·rw[if_neg c18] at H
      exact absurd H (by simp)
    ·rw[if_neg c15] at H
     have c15b0:decide (x32_1<(l0_0.length:Int))=false:=Zf c15
     clear c15
     have H':=Za H
     clear H
     have hnb32:=NB37001_37002.out
     have hnc32:=NB37002_37001.out
     have hnb33:=NB37001_37004.out
     have hnc33:=NB37004_37001.out
     have hcz34_0:wr.cell? ⟨gb37001,0,none⟩=some (.slice A0_0 l0_0.length c0_0):=(Zs BK37001.out 0).trans rfl
     have hcz34_1:wr.cell? ⟨gb37001,1,none⟩=some (.slice A0_1 l0_1.length c0_1):=(Zs BK37001.out 1).trans rfl
     have hcz34_2:wr.cell? ⟨gb37001,2,none⟩=some (.int .i64 a0_2):=(Zs BK37001.out 2).trans rfl
     have hfz34_0:=Zr BK37001.out 0
     have hfz34_1:=Zr BK37001.out 1
     have hfz34_2:=Zr BK37001.out 2
     go_wp2
     go_loopg [65] k1 (fun kq v65 w'=>∃(x65_2:Int) (x37005001_2:List (S112)) (u37005001:Value),v65=.int .i64 x65_2∧Aside0 (ZF.l1 kq l0_1 (l0_1.length:Int) x65_2 l0_0 l0_1 a0_2 (l0_0.length:Int) x37005001_2=some (r1,r2,r3))∧Aside0 (kq≤k1)∧Aside0 (Kd.R k112 112 w' w.heap.size (fun _=>True) u37005001 x37005001_2)∧Aside0 (w'.heap[gb37001]? = some (.cells #[(.slice A0_0 l0_0.length c0_0),(.slice A0_1 l0_1.length c0_1),.int .i64 a0_2] 35 (0,0)))∧Aside0 (w'.heap[gb37002]? = some (.cells #[.int .i64 0,(.slice none 0 0)] 58 (0,0)))∧Aside0 (w'.heap[gb37004]? = some (.cells #[.int .i64 (l0_0.length:Int),u37005001] 58 (0,0)))∧Aside0 (Below w.heap.size w w'))
     case atStart=>exact⟨(0),(x37005001_1),(u37005001),(by first|rfl|(simp;done)|(simp[*];done)),H',⟨Nat.le_refl _⟩,⟨by(with_reducible repeat(first|apply Kd.R_alloc|apply Kd.R_drewN|apply Kd.R_drew));exact HO_37005001.out⟩,⟨by(with_reducible repeat(first|refine Zp ?_ _|refine Zu ?_|refine Zo ?_ _));exact BK37001.out⟩,⟨by(with_reducible repeat(first|refine Zp ?_ _|refine Zu ?_|refine Zo ?_ _));exact BK37002.out⟩,⟨by(with_reducible repeat(first|refine Zp ?_ _|refine Zu ?_|refine Zo ?_ _));exact BK37004.out⟩,⟨by repeat(first|(with_reducible first|exact HB.out|apply Zn|apply Zm|apply Zt|refine Zq ?_ GE37001.out|refine Zq ?_ GE37002.out|refine Zq ?_ GE37004.out)|exact HB.out)⟩⟩
     case round=>
      clear H'
      try clear c1
      try clear c2
      try clear p2
      try clear c3
      try clear c6
      try clear p6
      try clear c8
      try clear c9
      try clear c11
      try clear c12
      try clear c15
      try clear c15b0
      try clear c18
      try clear c19
      try clear c20
      try clear c26
      try clear c32
      try clear c33
      try clear hcz13_0
      try clear hcz13_1
      try clear hcz14_0
      try clear hcz14_1
      try clear hcz14_2
      try clear hcz21_0
      try clear hcz21_1
      try clear hcz21_2
      try clear hcz23_0
      try clear hcz23_1
      try clear hcz23_2
      try clear hcz27_0
      try clear hcz27_1
      try clear hcz28_0
      try clear hcz28_1
      try clear hcz28_2
      try clear hcz31_0
      try clear hcz31_1
      try clear hcz34_0
      try clear hcz34_1
      try clear hcz34_2
      try clear hcz7_0
      try clear hcz7_1
      try clear hcz7_2
      try clear hcz9_0
      try clear hcz9_1
      try clear hcz9_2
      try clear hfz13_0
      try clear hfz13_1
      try clear hfz14_0
      try clear hfz14_1
      try clear hfz14_2
      try clear hfz21_0
      try clear hfz21_1
      try clear hfz21_2
      try clear hfz23_0
      try clear hfz23_1
      try clear hfz23_2
      try clear hfz27_0
      try clear hfz27_1
      try clear hfz28_0
      try clear hfz28_1
      try clear hfz28_2
      try clear hfz31_0
      try clear hfz31_1
      try clear hfz34_0
      try clear hfz34_1
      try clear hfz34_2
      try clear hfz7_0
      try clear hfz7_1
      try clear hfz7_2
      try clear hfz9_0
      try clear hfz9_1
      try clear hfz9_2
      try clear p2
      obtain⟨x65_2,x37005001_2,u37005001,rfl,HA,HK2,HO_37005001,BK37001,BK37002,BK37004,HB⟩:=hrel
      cases gk with
      | zero=>exact absurd HA.out (by simp[ZF.l1])
      | succ k2=>
       have H:=HA.out
       clear HA
       simp only[ZF.l1] at H
       by_cases c35:x65_2<(l0_1.length:Int)
       ·rw[if_pos c35] at H
        have c35b0:decide (x65_2<(l0_1.length:Int))=true:=Ze c35
        clear c35
        by_cases c36:0≤x65_2
        ·rw[if_pos c36] at H
         have c36b0:decide (0≤x65_2)=true:=Ze c36
         clear c36
         by_cases c37:x65_2<(l0_1.length:Int)
         ·rw[if_pos c37] at H
          have c37b0:decide (x65_2<(l0_1.length:Int))=true:=Ze c37
          clear c37
          obtain⟨bq38,hbq38⟩:∃b_:Bool,b_=((Zv l0_1 x65_2).f4):=⟨_,rfl⟩
          replace H:(if bq38=true then(ZF.l1 k2 l0_1 (l0_1.length:Int) (wrap64 (x65_2+1)) l0_0 l0_1 a0_2 (l0_0.length:Int) x37005001_2) else((ZR.f k2 l0_0 l0_1 a0_2 ((Zv l0_1 x65_2).f0)).bind fun bt37016=>((ZR.f k2 l0_0 l0_1 a0_2 ((Zv l0_1 x65_2).f1)).bind fun bt37020=>((ZX.f k2 l0_0 l0_1 a0_2 bt37016.2 bt37020.2).bind fun bt37024=>((ZX.f k2 l0_0 l0_1 a0_2 bt37020.2 bt37016.2).bind fun bt37026=>(if x37005001_2.length<4398046511104 then(ZF.l1 k2 l0_1 (l0_1.length:Int) (wrap64 (x65_2+1)) l0_0 l0_1 a0_2 (l0_0.length:Int) (x37005001_2 ++ [(⟨bt37016.1,bt37020.1,(⟨wrap64 ((wrap64 (((Zv l0_1 x65_2).f2)+bt37024.2)) - bt37026.1),wrap64 ((wrap64 (((Zv l0_1 x65_2).f3)+bt37024.1)) - bt37026.2)⟩:S110)⟩:S112)])) else(none)))))))=some (r1,r2,r3):=by rw[← hbq38] at H;exact H
          have Nbq38:=Za hbq38;clear hbq38
          by_cases c39:bq38=true
          ·subst c39
           have H1:(ZF.l1 k2 l0_1 (l0_1.length:Int) (wrap64 (x65_2+1)) l0_0 l0_1 a0_2 (l0_0.length:Int) x37005001_2)=some (r1,r2,r3):=by rw[if_pos rfl] at H;exact H
           clear H
           have H:=H1
           clear H1
           have H':=Za H
           clear H
           have p37014:0≤(x65_2:Int):=Zd (by first|(with_reducible assumption)|assumption)
           have q37014:x65_2<(l0_1.length:Int):=Zd (by first|(with_reducible assumption)|assumption)
           obtain⟨ad37014,e37014,hx37014_0,hx37014_1,hx37014_2,hx37014_3,hx37014_4⟩:=ZaH HR0_1.out x65_2 p37014 q37014
           (try rw[← Nbq38.out] at hx37014_4)
           cases e37014
           replace hx37014_0:=(HB.out.cell (Zc w _ hx37014_0)).trans hx37014_0
           replace hx37014_1:=(HB.out.cell (Zc w _ hx37014_1)).trans hx37014_1
           replace hx37014_2:=(HB.out.cell (Zc w _ hx37014_2)).trans hx37014_2
           replace hx37014_3:=(HB.out.cell (Zc w _ hx37014_3)).trans hx37014_3
           replace hx37014_4:=(HB.out.cell (Zc w _ hx37014_4)).trans hx37014_4
           replace p37014:=eq_true p37014
           replace q37014:=eq_true q37014
           go_wp2_with (first|((with_reducible refine ZI (N:=11) rfl ?_);refine ZH ?hg (N:=11) ?hd (cs:=#[.int .i64 0,.int .i64 0,.int .i64 0,.int .i64 0,.bool false]) (t:=90) ?hr ?_;(case hd=>rfl);(case hg=>rfl);(case hr=>first|(go_simp;done)|(go_simp;rfl));intro gb37015 hg w40 hbox hb;have BK37015:=Za (hbox);have GW37015:=Za ((by rw[hg];exact(Zx (by repeat(first|(with_reducible first|exact HB.out|apply Zn|apply Zm|apply Zt|refine Zq ?_ GE37001.out|refine Zq ?_ GE37002.out|refine Zq ?_ GE37004.out)|exact HB.out))):w.heap.size≤gb37015));have GE37015:=Za ((by rw[hg];exact(Zx (by repeat(first|(with_reducible first|exact HB.out|apply Zn|apply Zm|apply Zt|refine Zq ?_ GE37001.out|refine Zq ?_ GE37002.out|refine Zq ?_ GE37004.out)|exact HB.out))):w.heap.size≤gb37015));have NB37001_37015:=Za ((by rw[hg];exact Nat.ne_of_lt (ZO (g:=gb37001) (o:=.cells #[.slice A0_0 l0_0.length c0_0,.slice (some ad37014) l0_1.length c0_1,.int .i64 a0_2] 35 (0,0)) (by(with_reducible repeat(first|refine Zp ?_ _|refine Zu ?_|refine Zo ?_ _));exact BK37001.out)):gb37001≠gb37015));have NB37015_37001:=Za ((by rw[hg];exact Nat.ne_of_gt (ZO (g:=gb37001) (o:=.cells #[.slice A0_0 l0_0.length c0_0,.slice (some ad37014) l0_1.length c0_1,.int .i64 a0_2] 35 (0,0)) (by(with_reducible repeat(first|refine Zp ?_ _|refine Zu ?_|refine Zo ?_ _));exact BK37001.out)):gb37015≠gb37001));have NB37002_37015:=Za ((by rw[hg];exact Nat.ne_of_lt (ZO (g:=gb37002) (o:=.cells #[.int .i64 0,.slice none 0 0] 58 (0,0)) (by(with_reducible repeat(first|refine Zp ?_ _|refine Zu ?_|refine Zo ?_ _));exact BK37002.out)):gb37002≠gb37015));have NB37015_37002:=Za ((by rw[hg];exact Nat.ne_of_gt (ZO (g:=gb37002) (o:=.cells #[.int .i64 0,.slice none 0 0] 58 (0,0)) (by(with_reducible repeat(first|refine Zp ?_ _|refine Zu ?_|refine Zo ?_ _));exact BK37002.out)):gb37015≠gb37002));have NB37004_37015:=Za ((by rw[hg];exact Nat.ne_of_lt (ZO (g:=gb37004) (o:=.cells #[.int .i64 (l0_0.length:Int),u37005001] 58 (0,0)) (by(with_reducible repeat(first|refine Zp ?_ _|refine Zu ?_|refine Zo ?_ _));exact BK37004.out)):gb37004≠gb37015));have NB37015_37004:=Za ((by rw[hg];exact Nat.ne_of_gt (ZO (g:=gb37004) (o:=.cells #[.int .i64 (l0_0.length:Int),u37005001] 58 (0,0)) (by(with_reducible repeat(first|refine Zp ?_ _|refine Zu ?_|refine Zo ?_ _));exact BK37004.out)):gb37015≠gb37004));replace HO_37005001:=Za (Kd.R_below (by(with_reducible repeat(first|apply Kd.R_alloc|apply Kd.R_drewN|apply Kd.R_drew));exact HO_37005001.out) hb);replace BK37001:=Za (Zy (g:=gb37001) (o:=.cells #[.slice A0_0 l0_0.length c0_0,.slice (some ad37014) l0_1.length c0_1,.int .i64 a0_2] 35 (0,0)) (by(with_reducible repeat(first|refine Zp ?_ _|refine Zu ?_|refine Zo ?_ _));exact BK37001.out) hb);replace BK37002:=Za (Zy (g:=gb37002) (o:=.cells #[.int .i64 0,.slice none 0 0] 58 (0,0)) (by(with_reducible repeat(first|refine Zp ?_ _|refine Zu ?_|refine Zo ?_ _));exact BK37002.out) hb);replace BK37004:=Za (Zy (g:=gb37004) (o:=.cells #[.int .i64 (l0_0.length:Int),u37005001] 58 (0,0)) (by(with_reducible repeat(first|refine Zp ?_ _|refine Zu ?_|refine Zo ?_ _));exact BK37004.out) hb);replace HB:=Za (Zw (by repeat(first|(with_reducible first|exact HB.out|apply Zn|apply Zm|apply Zt|refine Zq ?_ GE37001.out|refine Zq ?_ GE37002.out|refine Zq ?_ GE37004.out)|exact HB.out)) hb);clear hb hbox hg;have hnb41:=NB37015_37001.out;have hnc41:=NB37001_37015.out;have hnb42:=NB37015_37002.out;have hnc42:=NB37002_37015.out;have hnb43:=NB37015_37004.out;have hnc43:=NB37004_37015.out;have hcz44_0:w40.cell? ⟨gb37015,0,none⟩=some (.int .i64 0):=(Zs BK37015.out 0).trans rfl;have hcz44_1:w40.cell? ⟨gb37015,1,none⟩=some (.int .i64 0):=(Zs BK37015.out 1).trans rfl;have hcz44_2:w40.cell? ⟨gb37015,2,none⟩=some (.int .i64 0):=(Zs BK37015.out 2).trans rfl;have hcz44_3:w40.cell? ⟨gb37015,3,none⟩=some (.int .i64 0):=(Zs BK37015.out 3).trans rfl;have hcz44_4:w40.cell? ⟨gb37015,4,none⟩=some (.bool false):=(Zs BK37015.out 4).trans rfl;have hfz44_0:=Zr BK37015.out 0;have hfz44_1:=Zr BK37015.out 1;have hfz44_2:=Zr BK37015.out 2;have hfz44_3:=Zr BK37015.out 3;have hfz44_4:=Zr BK37015.out 4))
           go_roundg k2
           case measure=>have:=HK1.out;have:=HK2.out;omega
           case rel=>exact⟨(wrap64 (x65_2+1)),(x37005001_2),(u37005001),(by first|rfl|(simp;done)|(simp[*];done)),H',⟨by have:=HK1.out;have:=HK2.out;omega⟩,⟨by(with_reducible repeat(first|apply Kd.R_alloc|apply Kd.R_drewN|apply Kd.R_drew));exact Kd.R_mono (Kd.R_far (p:=⟨gb37015,4,none⟩) (Kd.R_far (p:=⟨gb37015,3,none⟩) (Kd.R_far (p:=⟨gb37015,2,none⟩) (Kd.R_far (p:=⟨gb37015,1,none⟩) (Kd.R_far (p:=⟨gb37015,0,none⟩) (Kd.R_types HO_37005001.out BK37015.out (by decide)) (fun _ hk=>hk.2) (.int .i64 ((Zv l0_1 x65_2).f0))) (fun _ hk=>hk.2) (.int .i64 ((Zv l0_1 x65_2).f1))) (fun _ hk=>hk.2) (.int .i64 ((Zv l0_1 x65_2).f2))) (fun _ hk=>hk.2) (.int .i64 ((Zv l0_1 x65_2).f3))) (fun _ hk=>hk.2) (.bool true)) (fun _ hk=>trivial)⟩,⟨by(with_reducible repeat(first|refine Zp ?_ _|refine Zu ?_|refine Zo ?_ _));refine ZD ?_ NB37001_37015.out _;(with_reducible repeat(first|refine Zp ?_ _|refine Zu ?_|refine Zo ?_ _));refine ZD ?_ NB37001_37015.out _;(with_reducible repeat(first|refine Zp ?_ _|refine Zu ?_|refine Zo ?_ _));refine ZD ?_ NB37001_37015.out _;(with_reducible repeat(first|refine Zp ?_ _|refine Zu ?_|refine Zo ?_ _));refine ZD ?_ NB37001_37015.out _;(with_reducible repeat(first|refine Zp ?_ _|refine Zu ?_|refine Zo ?_ _));refine ZD ?_ NB37001_37015.out _;(with_reducible repeat(first|refine Zp ?_ _|refine Zu ?_|refine Zo ?_ _));exact BK37001.out⟩,⟨by(with_reducible repeat(first|refine Zp ?_ _|refine Zu ?_|refine Zo ?_ _));refine ZD ?_ NB37002_37015.out _;(with_reducible repeat(first|refine Zp ?_ _|refine Zu ?_|refine Zo ?_ _));refine ZD ?_ NB37002_37015.out _;(with_reducible repeat(first|refine Zp ?_ _|refine Zu ?_|refine Zo ?_ _));refine ZD ?_ NB37002_37015.out _;(with_reducible repeat(first|refine Zp ?_ _|refine Zu ?_|refine Zo ?_ _));refine ZD ?_ NB37002_37015.out _;(with_reducible repeat(first|refine Zp ?_ _|refine Zu ?_|refine Zo ?_ _));refine ZD ?_ NB37002_37015.out _;(with_reducible repeat(first|refine Zp ?_ _|refine Zu ?_|refine Zo ?_ _));exact BK37002.out⟩,⟨by(with_reducible repeat(first|refine Zp ?_ _|refine Zu ?_|refine Zo ?_ _));refine ZD ?_ NB37004_37015.out _;(with_reducible repeat(first|refine Zp ?_ _|refine Zu ?_|refine Zo ?_ _));refine ZD ?_ NB37004_37015.out _;(with_reducible repeat(first|refine Zp ?_ _|refine Zu ?_|refine Zo ?_ _));refine ZD ?_ NB37004_37015.out _;(with_reducible repeat(first|refine Zp ?_ _|refine Zu ?_|refine Zo ?_ _));refine ZD ?_ NB37004_37015.out _;(with_reducible repeat(first|refine Zp ?_ _|refine Zu ?_|refine Zo ?_ _));refine ZD ?_ NB37004_37015.out _;(with_reducible repeat(first|refine Zp ?_ _|refine Zu ?_|refine Zo ?_ _));exact BK37004.out⟩,⟨by repeat(first|(with_reducible first|exact HB.out|apply Zn|apply Zm|apply Zt|refine Zq ?_ GE37001.out|refine Zq ?_ GE37002.out|refine Zq ?_ GE37004.out|refine Zq ?_ GE37015.out)|exact HB.out)⟩⟩
          ·replace c39:=Bool.eq_false_iff.mpr c39
           subst c39
           have H1:((ZR.f k2 l0_0 l0_1 a0_2 ((Zv l0_1 x65_2).f0)).bind fun bt37016=>((ZR.f k2 l0_0 l0_1 a0_2 ((Zv l0_1 x65_2).f1)).bind fun bt37020=>((ZX.f k2 l0_0 l0_1 a0_2 bt37016.2 bt37020.2).bind fun bt37024=>((ZX.f k2 l0_0 l0_1 a0_2 bt37020.2 bt37016.2).bind fun bt37026=>(if x37005001_2.length<4398046511104 then(ZF.l1 k2 l0_1 (l0_1.length:Int) (wrap64 (x65_2+1)) l0_0 l0_1 a0_2 (l0_0.length:Int) (x37005001_2 ++ [(⟨bt37016.1,bt37020.1,(⟨wrap64 ((wrap64 (((Zv l0_1 x65_2).f2)+bt37024.2)) - bt37026.1),wrap64 ((wrap64 (((Zv l0_1 x65_2).f3)+bt37024.1)) - bt37026.2)⟩:S110)⟩:S112)])) else(none))))))=some (r1,r2,r3):=by rw[if_neg (show ¬(false=true) by decide)] at H;exact H
           clear H
           have H:=H1
           clear H1
           replace H:=Zh H
           obtain⟨⟨t37016,t37017⟩,A450,H⟩:=H
           replace H:((ZR.f k2 l0_0 l0_1 a0_2 ((Zv l0_1 x65_2).f1)).bind fun bt37020=>((ZX.f k2 l0_0 l0_1 a0_2 t37017 bt37020.2).bind fun bt37024=>((ZX.f k2 l0_0 l0_1 a0_2 bt37020.2 t37017).bind fun bt37026=>(if x37005001_2.length<4398046511104 then(ZF.l1 k2 l0_1 (l0_1.length:Int) (wrap64 (x65_2+1)) l0_0 l0_1 a0_2 (l0_0.length:Int) (x37005001_2 ++ [(⟨t37016,bt37020.1,(⟨wrap64 ((wrap64 (((Zv l0_1 x65_2).f2)+bt37024.2)) - bt37026.1),wrap64 ((wrap64 (((Zv l0_1 x65_2).f3)+bt37024.1)) - bt37026.2)⟩:S110)⟩:S112)])) else(none)))))=some (r1,r2,r3):=H
           have A45:=Za A450;clear A450
           replace H:=Zh H
           obtain⟨⟨t37020,t37021⟩,A460,H⟩:=H
           replace H:((ZX.f k2 l0_0 l0_1 a0_2 t37017 t37021).bind fun bt37024=>((ZX.f k2 l0_0 l0_1 a0_2 t37021 t37017).bind fun bt37026=>(if x37005001_2.length<4398046511104 then(ZF.l1 k2 l0_1 (l0_1.length:Int) (wrap64 (x65_2+1)) l0_0 l0_1 a0_2 (l0_0.length:Int) (x37005001_2 ++ [(⟨t37016,t37020,(⟨wrap64 ((wrap64 (((Zv l0_1 x65_2).f2)+bt37024.2)) - bt37026.1),wrap64 ((wrap64 (((Zv l0_1 x65_2).f3)+bt37024.1)) - bt37026.2)⟩:S110)⟩:S112)])) else(none))))=some (r1,r2,r3):=H
           have A46:=Za A460;clear A460
           replace H:=Zh H
           obtain⟨⟨t37024,t37025⟩,A470,H⟩:=H
           replace H:((ZX.f k2 l0_0 l0_1 a0_2 t37021 t37017).bind fun bt37026=>(if x37005001_2.length<4398046511104 then(ZF.l1 k2 l0_1 (l0_1.length:Int) (wrap64 (x65_2+1)) l0_0 l0_1 a0_2 (l0_0.length:Int) (x37005001_2 ++ [(⟨t37016,t37020,(⟨wrap64 ((wrap64 (((Zv l0_1 x65_2).f2)+t37025)) - bt37026.1),wrap64 ((wrap64 (((Zv l0_1 x65_2).f3)+t37024)) - bt37026.2)⟩:S110)⟩:S112)])) else(none)))=some (r1,r2,r3):=H
           have A47:=Za A470;clear A470
           replace H:=Zh H
           obtain⟨⟨t37026,t37027⟩,A480,H⟩:=H
           replace H:(if x37005001_2.length<4398046511104 then(ZF.l1 k2 l0_1 (l0_1.length:Int) (wrap64 (x65_2+1)) l0_0 l0_1 a0_2 (l0_0.length:Int) (x37005001_2 ++ [(⟨t37016,t37020,(⟨wrap64 ((wrap64 (((Zv l0_1 x65_2).f2)+t37025)) - t37026),wrap64 ((wrap64 (((Zv l0_1 x65_2).f3)+t37024)) - t37027)⟩:S110)⟩:S112)])) else(none))=some (r1,r2,r3):=H
           have A48:=Za A480;clear A480
           by_cases c49:x37005001_2.length<4398046511104
           ·rw[if_pos c49] at H
            have LMc49:=Za c49;clear c49
            obtain⟨y37028,hy37028⟩:∃y_:List (S112),y_=(x37005001_2 ++ [(⟨t37016,t37020,(⟨wrap64 ((wrap64 (((Zv l0_1 x65_2).f2)+t37025)) - t37026),wrap64 ((wrap64 (((Zv l0_1 x65_2).f3)+t37024)) - t37027)⟩:S110)⟩:S112)]):=⟨_,rfl⟩
            replace H:(ZF.l1 k2 l0_1 (l0_1.length:Int) (wrap64 (x65_2+1)) l0_0 l0_1 a0_2 (l0_0.length:Int) y37028)=some (r1,r2,r3):=by first|(rw[hy37028];with_reducible exact H)|(have H2_:=(Zi _ _).symm.trans H;rw[hy37028];with_reducible exact H2_)|(have H2_:=(Zi _ _).symm.trans H;with_reducible exact H2_)|with_reducible exact H|(rw[hy37028];exact H)|exact H
            have Ny37028:=Za hy37028;clear hy37028
            have H':=Za H
            clear H
            have p37014:0≤(x65_2:Int):=Zd (by first|(with_reducible assumption)|assumption)
            have q37014:x65_2<(l0_1.length:Int):=Zd (by first|(with_reducible assumption)|assumption)
            obtain⟨ad37014,e37014,hx37014_0,hx37014_1,hx37014_2,hx37014_3,hx37014_4⟩:=ZaH HR0_1.out x65_2 p37014 q37014
            (try rw[← Nbq38.out] at hx37014_4)
            cases e37014
            replace hx37014_0:=(HB.out.cell (Zc w _ hx37014_0)).trans hx37014_0
            replace hx37014_1:=(HB.out.cell (Zc w _ hx37014_1)).trans hx37014_1
            replace hx37014_2:=(HB.out.cell (Zc w _ hx37014_2)).trans hx37014_2
            replace hx37014_3:=(HB.out.cell (Zc w _ hx37014_3)).trans hx37014_3
            replace hx37014_4:=(HB.out.cell (Zc w _ hx37014_4)).trans hx37014_4
            replace p37014:=eq_true p37014
            replace q37014:=eq_true q37014
            go_wp2_with (first|((with_reducible refine ZI (N:=11) rfl ?_);refine ZH ?hg (N:=11) ?hd (cs:=#[.int .i64 0,.int .i64 0,.int .i64 0,.int .i64 0,.bool false]) (t:=90) ?hr ?_;(case hd=>rfl);(case hg=>rfl);(case hr=>first|(go_simp;done)|(go_simp;rfl));intro gb37015 hg w50 hbox hb;have BK37015:=Za (hbox);have GW37015:=Za ((by rw[hg];exact(Zx (by repeat(first|(with_reducible first|exact HB.out|apply Zn|apply Zm|apply Zt|refine Zq ?_ GE37001.out|refine Zq ?_ GE37002.out|refine Zq ?_ GE37004.out)|exact HB.out))):w.heap.size≤gb37015));have GE37015:=Za ((by rw[hg];exact(Zx (by repeat(first|(with_reducible first|exact HB.out|apply Zn|apply Zm|apply Zt|refine Zq ?_ GE37001.out|refine Zq ?_ GE37002.out|refine Zq ?_ GE37004.out)|exact HB.out))):w.heap.size≤gb37015));have NB37001_37015:=Za ((by rw[hg];exact Nat.ne_of_lt (ZO (g:=gb37001) (o:=.cells #[.slice A0_0 l0_0.length c0_0,.slice (some ad37014) l0_1.length c0_1,.int .i64 a0_2] 35 (0,0)) (by(with_reducible repeat(first|refine Zp ?_ _|refine Zu ?_|refine Zo ?_ _));exact BK37001.out)):gb37001≠gb37015));have NB37015_37001:=Za ((by rw[hg];exact Nat.ne_of_gt (ZO (g:=gb37001) (o:=.cells #[.slice A0_0 l0_0.length c0_0,.slice (some ad37014) l0_1.length c0_1,.int .i64 a0_2] 35 (0,0)) (by(with_reducible repeat(first|refine Zp ?_ _|refine Zu ?_|refine Zo ?_ _));exact BK37001.out)):gb37015≠gb37001));have NB37002_37015:=Za ((by rw[hg];exact Nat.ne_of_lt (ZO (g:=gb37002) (o:=.cells #[.int .i64 0,.slice none 0 0] 58 (0,0)) (by(with_reducible repeat(first|refine Zp ?_ _|refine Zu ?_|refine Zo ?_ _));exact BK37002.out)):gb37002≠gb37015));have NB37015_37002:=Za ((by rw[hg];exact Nat.ne_of_gt (ZO (g:=gb37002) (o:=.cells #[.int .i64 0,.slice none 0 0] 58 (0,0)) (by(with_reducible repeat(first|refine Zp ?_ _|refine Zu ?_|refine Zo ?_ _));exact BK37002.out)):gb37015≠gb37002));have NB37004_37015:=Za ((by rw[hg];exact Nat.ne_of_lt (ZO (g:=gb37004) (o:=.cells #[.int .i64 (l0_0.length:Int),u37005001] 58 (0,0)) (by(with_reducible repeat(first|refine Zp ?_ _|refine Zu ?_|refine Zo ?_ _));exact BK37004.out)):gb37004≠gb37015));have NB37015_37004:=Za ((by rw[hg];exact Nat.ne_of_gt (ZO (g:=gb37004) (o:=.cells #[.int .i64 (l0_0.length:Int),u37005001] 58 (0,0)) (by(with_reducible repeat(first|refine Zp ?_ _|refine Zu ?_|refine Zo ?_ _));exact BK37004.out)):gb37015≠gb37004));replace HO_37005001:=Za (Kd.R_below (by(with_reducible repeat(first|apply Kd.R_alloc|apply Kd.R_drewN|apply Kd.R_drew));exact HO_37005001.out) hb);replace BK37001:=Za (Zy (g:=gb37001) (o:=.cells #[.slice A0_0 l0_0.length c0_0,.slice (some ad37014) l0_1.length c0_1,.int .i64 a0_2] 35 (0,0)) (by(with_reducible repeat(first|refine Zp ?_ _|refine Zu ?_|refine Zo ?_ _));exact BK37001.out) hb);replace BK37002:=Za (Zy (g:=gb37002) (o:=.cells #[.int .i64 0,.slice none 0 0] 58 (0,0)) (by(with_reducible repeat(first|refine Zp ?_ _|refine Zu ?_|refine Zo ?_ _));exact BK37002.out) hb);replace BK37004:=Za (Zy (g:=gb37004) (o:=.cells #[.int .i64 (l0_0.length:Int),u37005001] 58 (0,0)) (by(with_reducible repeat(first|refine Zp ?_ _|refine Zu ?_|refine Zo ?_ _));exact BK37004.out) hb);replace HB:=Za (Zw (by repeat(first|(with_reducible first|exact HB.out|apply Zn|apply Zm|apply Zt|refine Zq ?_ GE37001.out|refine Zq ?_ GE37002.out|refine Zq ?_ GE37004.out)|exact HB.out)) hb);clear hb hbox hg;have hnb51:=NB37015_37001.out;have hnc51:=NB37001_37015.out;have hnb52:=NB37015_37002.out;have hnc52:=NB37002_37015.out;have hnb53:=NB37015_37004.out;have hnc53:=NB37004_37015.out;have hcz54_0:w50.cell? ⟨gb37015,0,none⟩=some (.int .i64 0):=(Zs BK37015.out 0).trans rfl;have hcz54_1:w50.cell? ⟨gb37015,1,none⟩=some (.int .i64 0):=(Zs BK37015.out 1).trans rfl;have hcz54_2:w50.cell? ⟨gb37015,2,none⟩=some (.int .i64 0):=(Zs BK37015.out 2).trans rfl;have hcz54_3:w50.cell? ⟨gb37015,3,none⟩=some (.int .i64 0):=(Zs BK37015.out 3).trans rfl;have hcz54_4:w50.cell? ⟨gb37015,4,none⟩=some (.bool false):=(Zs BK37015.out 4).trans rfl;have hfz54_0:=Zr BK37015.out 0;have hfz54_1:=Zr BK37015.out 1;have hfz54_2:=Zr BK37015.out 2;have hfz54_3:=Zr BK37015.out 3;have hfz54_4:=Zr BK37015.out 4;have hnb55:=NB37001_37002.out;have hnc55:=NB37002_37001.out;have hnb56:=NB37001_37004.out;have hnc56:=NB37004_37001.out;have hcz57_0:w50.cell? ⟨gb37001,0,none⟩=some (.slice A0_0 l0_0.length c0_0):=(Zs BK37001.out 0).trans rfl;have hcz57_1:w50.cell? ⟨gb37001,1,none⟩=some (.slice (some ad37014) l0_1.length c0_1):=(Zs BK37001.out 1).trans rfl;have hcz57_2:w50.cell? ⟨gb37001,2,none⟩=some (.int .i64 a0_2):=(Zs BK37001.out 2).trans rfl;have hfz57_0:=Zr BK37001.out 0;have hfz57_1:=Zr BK37001.out 1;have hfz57_2:=Zr BK37001.out 2)|((with_reducible refine ZG (f:=88) rfl ?_);refine ZQ (some 75) rfl rfl Try.func88 (by kernel_rfl) rfl #[.agg #[.slice A0_0 l0_0.length c0_0,.slice (some ad37014) l0_1.length c0_1,.int .i64 a0_2],.int .i64 ((Zv l0_1 x65_2).f0)] rfl (by(try simp only[List.map_toArray,List.map_cons,List.map_nil]);first|done|rfl|(simp only[Zk,Zj];rfl)) ?_;(with_reducible refine(ZR.calls k2 _ _ l0_0 _ _ l0_1 a0_2 ((Zv l0_1 x65_2).f0) t37016 t37017 _ ?side1 ?side2 ?side3 ?side4 A45.out).mono ?_);(case side1=>exact Zb HR0_0.out (by repeat(first|(with_reducible first|exact HB.out|apply Zn|apply Zm|apply Zt|refine Zq ?_ GE37001.out|refine Zq ?_ GE37002.out|refine Zq ?_ GE37004.out|refine Zq ?_ GE37015.out)|exact HB.out)));(case side2=>exact HC0_0.out);(case side3=>exact Zb HR0_1.out (by repeat(first|(with_reducible first|exact HB.out|apply Zn|apply Zm|apply Zt|refine Zq ?_ GE37001.out|refine Zq ?_ GE37002.out|refine Zq ?_ GE37004.out|refine Zq ?_ GE37015.out)|exact HB.out)));(case side4=>exact HC0_1.out);rintro e w58 ⟨v37018,rfl,ho0,hb⟩;refine⟨_,rfl,?_⟩;have HO37019:=Za (Kd.R_lower ho0 (Zx (by repeat(first|(with_reducible first|exact HB.out|apply Zn|apply Zm|apply Zt|refine Zq ?_ GE37001.out|refine Zq ?_ GE37002.out|refine Zq ?_ GE37004.out|refine Zq ?_ GE37015.out)|exact HB.out))));replace HO_37005001:=Za (Kd.R_below (by(with_reducible repeat(first|apply Kd.R_alloc|apply Kd.R_drewN|apply Kd.R_drew));exact(Kd.R_mono (Kd.R_far (p:=⟨gb37015,4,none⟩) (Kd.R_far (p:=⟨gb37015,3,none⟩) (Kd.R_far (p:=⟨gb37015,2,none⟩) (Kd.R_far (p:=⟨gb37015,1,none⟩) (Kd.R_far (p:=⟨gb37015,0,none⟩) (Kd.R_types HO_37005001.out BK37015.out (by decide)) (fun _ hk=>hk.2) (.int .i64 ((Zv l0_1 x65_2).f0))) (fun _ hk=>hk.2) (.int .i64 ((Zv l0_1 x65_2).f1))) (fun _ hk=>hk.2) (.int .i64 ((Zv l0_1 x65_2).f2))) (fun _ hk=>hk.2) (.int .i64 ((Zv l0_1 x65_2).f3))) (fun _ hk=>hk.2) (.bool false)) (fun _ h_=>h_.1))) hb);replace BK37001:=Za (Zy (g:=gb37001) (o:=.cells #[.slice A0_0 l0_0.length c0_0,.slice (some ad37014) l0_1.length c0_1,.int .i64 a0_2] 35 (0,0)) (by(with_reducible repeat(first|refine Zp ?_ _|refine Zu ?_|refine Zo ?_ _));refine ZD ?_ NB37001_37015.out _;(with_reducible repeat(first|refine Zp ?_ _|refine Zu ?_|refine Zo ?_ _));refine ZD ?_ NB37001_37015.out _;(with_reducible repeat(first|refine Zp ?_ _|refine Zu ?_|refine Zo ?_ _));refine ZD ?_ NB37001_37015.out _;(with_reducible repeat(first|refine Zp ?_ _|refine Zu ?_|refine Zo ?_ _));refine ZD ?_ NB37001_37015.out _;(with_reducible repeat(first|refine Zp ?_ _|refine Zu ?_|refine Zo ?_ _));refine ZD ?_ NB37001_37015.out _;(with_reducible repeat(first|refine Zp ?_ _|refine Zu ?_|refine Zo ?_ _));exact BK37001.out) hb);replace BK37002:=Za (Zy (g:=gb37002) (o:=.cells #[.int .i64 0,.slice none 0 0] 58 (0,0)) (by(with_reducible repeat(first|refine Zp ?_ _|refine Zu ?_|refine Zo ?_ _));refine ZD ?_ NB37002_37015.out _;(with_reducible repeat(first|refine Zp ?_ _|refine Zu ?_|refine Zo ?_ _));refine ZD ?_ NB37002_37015.out _;(with_reducible repeat(first|refine Zp ?_ _|refine Zu ?_|refine Zo ?_ _));refine ZD ?_ NB37002_37015.out _;(with_reducible repeat(first|refine Zp ?_ _|refine Zu ?_|refine Zo ?_ _));refine ZD ?_ NB37002_37015.out _;(with_reducible repeat(first|refine Zp ?_ _|refine Zu ?_|refine Zo ?_ _));refine ZD ?_ NB37002_37015.out _;(with_reducible repeat(first|refine Zp ?_ _|refine Zu ?_|refine Zo ?_ _));exact BK37002.out) hb);replace BK37004:=Za (Zy (g:=gb37004) (o:=.cells #[.int .i64 (l0_0.length:Int),u37005001] 58 (0,0)) (by(with_reducible repeat(first|refine Zp ?_ _|refine Zu ?_|refine Zo ?_ _));refine ZD ?_ NB37004_37015.out _;(with_reducible repeat(first|refine Zp ?_ _|refine Zu ?_|refine Zo ?_ _));refine ZD ?_ NB37004_37015.out _;(with_reducible repeat(first|refine Zp ?_ _|refine Zu ?_|refine Zo ?_ _));refine ZD ?_ NB37004_37015.out _;(with_reducible repeat(first|refine Zp ?_ _|refine Zu ?_|refine Zo ?_ _));refine ZD ?_ NB37004_37015.out _;(with_reducible repeat(first|refine Zp ?_ _|refine Zu ?_|refine Zo ?_ _));refine ZD ?_ NB37004_37015.out _;(with_reducible repeat(first|refine Zp ?_ _|refine Zu ?_|refine Zo ?_ _));exact BK37004.out) hb);replace BK37015:=Za (Zy (g:=gb37015) (o:=.cells #[.int .i64 ((Zv l0_1 x65_2).f0),.int .i64 ((Zv l0_1 x65_2).f1),.int .i64 ((Zv l0_1 x65_2).f2),.int .i64 ((Zv l0_1 x65_2).f3),.bool false] 90 (0,0)) (by(with_reducible repeat(first|refine Zp ?_ _|refine Zu ?_|refine Zo ?_ _));refine ZL (cs:=#[.int .i64 ((Zv l0_1 x65_2).f0),.int .i64 ((Zv l0_1 x65_2).f1),.int .i64 ((Zv l0_1 x65_2).f2),.int .i64 ((Zv l0_1 x65_2).f3),.bool false]) ?_ 4 _ rfl;(with_reducible repeat(first|refine Zp ?_ _|refine Zu ?_|refine Zo ?_ _));refine ZL (cs:=#[.int .i64 ((Zv l0_1 x65_2).f0),.int .i64 ((Zv l0_1 x65_2).f1),.int .i64 ((Zv l0_1 x65_2).f2),.int .i64 0,.bool false]) ?_ 3 _ rfl;(with_reducible repeat(first|refine Zp ?_ _|refine Zu ?_|refine Zo ?_ _));refine ZL (cs:=#[.int .i64 ((Zv l0_1 x65_2).f0),.int .i64 ((Zv l0_1 x65_2).f1),.int .i64 0,.int .i64 0,.bool false]) ?_ 2 _ rfl;(with_reducible repeat(first|refine Zp ?_ _|refine Zu ?_|refine Zo ?_ _));refine ZL (cs:=#[.int .i64 ((Zv l0_1 x65_2).f0),.int .i64 0,.int .i64 0,.int .i64 0,.bool false]) ?_ 1 _ rfl;(with_reducible repeat(first|refine Zp ?_ _|refine Zu ?_|refine Zo ?_ _));refine ZL (cs:=#[.int .i64 0,.int .i64 0,.int .i64 0,.int .i64 0,.bool false]) ?_ 0 _ rfl;(with_reducible repeat(first|refine Zp ?_ _|refine Zu ?_|refine Zo ?_ _));exact BK37015.out) hb);replace HB:=Za (Zw (by repeat(first|(with_reducible first|exact HB.out|apply Zn|apply Zm|apply Zt|refine Zq ?_ GE37001.out|refine Zq ?_ GE37002.out|refine Zq ?_ GE37004.out|refine Zq ?_ GE37015.out)|exact HB.out)) hb);(try clear hb);(try clear hb2);(try clear hk);(try clear hi);(try clear ho0);have hcz59_0:w58.cell? ⟨gb37001,0,none⟩=some (.slice A0_0 l0_0.length c0_0):=(Zs BK37001.out 0).trans rfl;have hcz59_1:w58.cell? ⟨gb37001,1,none⟩=some (.slice (some ad37014) l0_1.length c0_1):=(Zs BK37001.out 1).trans rfl;have hcz59_2:w58.cell? ⟨gb37001,2,none⟩=some (.int .i64 a0_2):=(Zs BK37001.out 2).trans rfl;have hfz59_0:=Zr BK37001.out 0;have hfz59_1:=Zr BK37001.out 1;have hfz59_2:=Zr BK37001.out 2;have hcz60_0:w58.cell? ⟨gb37015,0,none⟩=some (.int .i64 ((Zv l0_1 x65_2).f0)):=(Zs BK37015.out 0).trans rfl;have hcz60_1:w58.cell? ⟨gb37015,1,none⟩=some (.int .i64 ((Zv l0_1 x65_2).f1)):=(Zs BK37015.out 1).trans rfl;have hcz60_2:w58.cell? ⟨gb37015,2,none⟩=some (.int .i64 ((Zv l0_1 x65_2).f2)):=(Zs BK37015.out 2).trans rfl;have hcz60_3:w58.cell? ⟨gb37015,3,none⟩=some (.int .i64 ((Zv l0_1 x65_2).f3)):=(Zs BK37015.out 3).trans rfl;have hcz60_4:w58.cell? ⟨gb37015,4,none⟩=some (.bool false):=(Zs BK37015.out 4).trans rfl;have hfz60_0:=Zr BK37015.out 0;have hfz60_1:=Zr BK37015.out 1;have hfz60_2:=Zr BK37015.out 2;have hfz60_3:=Zr BK37015.out 3;have hfz60_4:=Zr BK37015.out 4)|((with_reducible refine ZG (f:=88) rfl ?_);refine ZQ (some 82) rfl rfl Try.func88 (by kernel_rfl) rfl #[.agg #[.slice A0_0 l0_0.length c0_0,.slice (some ad37014) l0_1.length c0_1,.int .i64 a0_2],.int .i64 ((Zv l0_1 x65_2).f1)] rfl (by(try simp only[List.map_toArray,List.map_cons,List.map_nil]);first|done|rfl|(simp only[Zk,Zj];rfl)) ?_;(with_reducible refine(ZR.calls k2 _ _ l0_0 _ _ l0_1 a0_2 ((Zv l0_1 x65_2).f1) t37020 t37021 _ ?side1 ?side2 ?side3 ?side4 A46.out).mono ?_);(case side1=>repeat(first|exact(Zb HR0_0.out HB.out)|(with_reducible refine Kd.C_alloc ?_ _)|(with_reducible refine Kd.C_drewN ?_ _)|(with_reducible refine Kd.C_drew ?_)));(case side2=>exact HC0_0.out);(case side3=>repeat(first|exact(Zb HR0_1.out HB.out)|(with_reducible refine Kd.C_alloc ?_ _)|(with_reducible refine Kd.C_drewN ?_ _)|(with_reducible refine Kd.C_drew ?_)));(case side4=>exact HC0_1.out);rintro e w61 ⟨v37022,rfl,ho0,hb⟩;refine⟨_,rfl,?_⟩;have HO37023:=Za (Kd.R_lower (Kd.R_new' ho0 (Kd.R_lt (by(with_reducible repeat(first|apply Kd.R_alloc|apply Kd.R_drewN|apply Kd.R_drew));exact HO37019.out))) (Zx (by repeat(first|(with_reducible first|exact HB.out|apply Zn|apply Zm|apply Zt|refine Zq ?_ GE37001.out|refine Zq ?_ GE37002.out|refine Zq ?_ GE37004.out|refine Zq ?_ GE37015.out)|exact HB.out))));replace HO_37005001:=Za (Kd.R_below (by(with_reducible repeat(first|apply Kd.R_alloc|apply Kd.R_drewN|apply Kd.R_drew));exact HO_37005001.out) hb);replace HO37019:=Za (Kd.R_elder' (by(with_reducible repeat(first|apply Kd.R_alloc|apply Kd.R_drewN|apply Kd.R_drew));exact HO37019.out) (Kd.R_base ho0) hb);replace BK37001:=Za (Zy (g:=gb37001) (o:=.cells #[.slice A0_0 l0_0.length c0_0,.slice (some ad37014) l0_1.length c0_1,.int .i64 a0_2] 35 (0,0)) (by(with_reducible repeat(first|refine Zp ?_ _|refine Zu ?_|refine Zo ?_ _));exact BK37001.out) hb);replace BK37002:=Za (Zy (g:=gb37002) (o:=.cells #[.int .i64 0,.slice none 0 0] 58 (0,0)) (by(with_reducible repeat(first|refine Zp ?_ _|refine Zu ?_|refine Zo ?_ _));exact BK37002.out) hb);replace BK37004:=Za (Zy (g:=gb37004) (o:=.cells #[.int .i64 (l0_0.length:Int),u37005001] 58 (0,0)) (by(with_reducible repeat(first|refine Zp ?_ _|refine Zu ?_|refine Zo ?_ _));exact BK37004.out) hb);replace BK37015:=Za (Zy (g:=gb37015) (o:=.cells #[.int .i64 ((Zv l0_1 x65_2).f0),.int .i64 ((Zv l0_1 x65_2).f1),.int .i64 ((Zv l0_1 x65_2).f2),.int .i64 ((Zv l0_1 x65_2).f3),.bool false] 90 (0,0)) (by(with_reducible repeat(first|refine Zp ?_ _|refine Zu ?_|refine Zo ?_ _));exact BK37015.out) hb);replace HB:=Za (Zw (by repeat(first|(with_reducible first|exact HB.out|apply Zn|apply Zm|apply Zt|refine Zq ?_ GE37001.out|refine Zq ?_ GE37002.out|refine Zq ?_ GE37004.out|refine Zq ?_ GE37015.out)|exact HB.out)) hb);(try clear hb);(try clear hb2);(try clear hk);(try clear hi);(try clear ho0);have hcz62_0:w61.cell? ⟨gb37001,0,none⟩=some (.slice A0_0 l0_0.length c0_0):=(Zs BK37001.out 0).trans rfl;have hcz62_1:w61.cell? ⟨gb37001,1,none⟩=some (.slice (some ad37014) l0_1.length c0_1):=(Zs BK37001.out 1).trans rfl;have hcz62_2:w61.cell? ⟨gb37001,2,none⟩=some (.int .i64 a0_2):=(Zs BK37001.out 2).trans rfl;have hfz62_0:=Zr BK37001.out 0;have hfz62_1:=Zr BK37001.out 1;have hfz62_2:=Zr BK37001.out 2;obtain⟨Ao63,co63,eo63⟩:=Kd.R_slice HO37019.out;subst eo63;obtain⟨Ao64,co64,eo64⟩:=Kd.R_slice HO37023.out;subst eo64)|((with_reducible refine ZG (f:=91) rfl ?_);refine ZQ (some 89) rfl rfl Try.func91 (by kernel_rfl) rfl #[.agg #[.slice A0_0 l0_0.length c0_0,.slice (some ad37014) l0_1.length c0_1,.int .i64 a0_2],.slice Ao63 t37017.length co63,.slice Ao64 t37021.length co64] rfl (by(try simp only[List.map_toArray,List.map_cons,List.map_nil]);first|done|rfl|(simp only[Zk,Zj];rfl)) ?_;(with_reducible refine(ZX.calls k2 _ _ l0_0 _ _ l0_1 a0_2 _ _ t37017 _ _ t37021 t37024 t37025 _ ?side1 ?side2 ?side3 ?side4 ?side5 ?side6 ?side7 ?side8 A47.out).mono ?_);(case side1=>repeat(first|exact(Zb HR0_0.out HB.out)|(with_reducible refine Kd.C_alloc ?_ _)|(with_reducible refine Kd.C_drewN ?_ _)|(with_reducible refine Kd.C_drew ?_)));(case side2=>exact HC0_0.out);(case side3=>repeat(first|exact(Zb HR0_1.out HB.out)|(with_reducible refine Kd.C_alloc ?_ _)|(with_reducible refine Kd.C_drewN ?_ _)|(with_reducible refine Kd.C_drew ?_)));(case side4=>exact HC0_1.out);(case side5=>repeat(first|exact(Kd.R_reads' HO37019.out).2.2|(with_reducible refine Kd.C_alloc ?_ _)|(with_reducible refine Kd.C_drewN ?_ _)|(with_reducible refine Kd.C_drew ?_)));(case side6=>exact(Kd.R_reads' HO37019.out).2.1);(case side7=>repeat(first|exact(Kd.R_reads' HO37023.out).2.2|(with_reducible refine Kd.C_alloc ?_ _)|(with_reducible refine Kd.C_drewN ?_ _)|(with_reducible refine Kd.C_drew ?_)));(case side8=>exact(Kd.R_reads' HO37023.out).2.1);rintro e w65 ⟨rfl,hb⟩;refine⟨_,rfl,?_⟩;replace HO_37005001:=Za (Kd.R_below (by(with_reducible repeat(first|apply Kd.R_alloc|apply Kd.R_drewN|apply Kd.R_drew));exact HO_37005001.out) hb);replace HO37019:=Za (Kd.R_below (by(with_reducible repeat(first|apply Kd.R_alloc|apply Kd.R_drewN|apply Kd.R_drew));exact HO37019.out) hb);replace HO37023:=Za (Kd.R_below (by(with_reducible repeat(first|apply Kd.R_alloc|apply Kd.R_drewN|apply Kd.R_drew));exact HO37023.out) hb);replace BK37001:=Za (Zy (g:=gb37001) (o:=.cells #[.slice A0_0 l0_0.length c0_0,.slice (some ad37014) l0_1.length c0_1,.int .i64 a0_2] 35 (0,0)) (by(with_reducible repeat(first|refine Zp ?_ _|refine Zu ?_|refine Zo ?_ _));exact BK37001.out) hb);replace BK37002:=Za (Zy (g:=gb37002) (o:=.cells #[.int .i64 0,.slice none 0 0] 58 (0,0)) (by(with_reducible repeat(first|refine Zp ?_ _|refine Zu ?_|refine Zo ?_ _));exact BK37002.out) hb);replace BK37004:=Za (Zy (g:=gb37004) (o:=.cells #[.int .i64 (l0_0.length:Int),u37005001] 58 (0,0)) (by(with_reducible repeat(first|refine Zp ?_ _|refine Zu ?_|refine Zo ?_ _));exact BK37004.out) hb);replace BK37015:=Za (Zy (g:=gb37015) (o:=.cells #[.int .i64 ((Zv l0_1 x65_2).f0),.int .i64 ((Zv l0_1 x65_2).f1),.int .i64 ((Zv l0_1 x65_2).f2),.int .i64 ((Zv l0_1 x65_2).f3),.bool false] 90 (0,0)) (by(with_reducible repeat(first|refine Zp ?_ _|refine Zu ?_|refine Zo ?_ _));exact BK37015.out) hb);replace HB:=Za (Zw (by repeat(first|(with_reducible first|exact HB.out|apply Zn|apply Zm|apply Zt|refine Zq ?_ GE37001.out|refine Zq ?_ GE37002.out|refine Zq ?_ GE37004.out|refine Zq ?_ GE37015.out)|exact HB.out)) hb);(try clear hb);(try clear hb2);(try clear hk);(try clear hi);have hcz66_0:w65.cell? ⟨gb37001,0,none⟩=some (.slice A0_0 l0_0.length c0_0):=(Zs BK37001.out 0).trans rfl;have hcz66_1:w65.cell? ⟨gb37001,1,none⟩=some (.slice (some ad37014) l0_1.length c0_1):=(Zs BK37001.out 1).trans rfl;have hcz66_2:w65.cell? ⟨gb37001,2,none⟩=some (.int .i64 a0_2):=(Zs BK37001.out 2).trans rfl;have hfz66_0:=Zr BK37001.out 0;have hfz66_1:=Zr BK37001.out 1;have hfz66_2:=Zr BK37001.out 2)|((with_reducible refine ZG (f:=91) rfl ?_);refine ZQ (some 96) rfl rfl Try.func91 (by kernel_rfl) rfl #[.agg #[.slice A0_0 l0_0.length c0_0,.slice (some ad37014) l0_1.length c0_1,.int .i64 a0_2],.slice Ao64 t37021.length co64,.slice Ao63 t37017.length co63] rfl (by(try simp only[List.map_toArray,List.map_cons,List.map_nil]);first|done|rfl|(simp only[Zk,Zj];rfl)) ?_;(with_reducible refine(ZX.calls k2 _ _ l0_0 _ _ l0_1 a0_2 _ _ t37021 _ _ t37017 t37026 t37027 _ ?side1 ?side2 ?side3 ?side4 ?side5 ?side6 ?side7 ?side8 A48.out).mono ?_);(case side1=>repeat(first|exact(Zb HR0_0.out HB.out)|(with_reducible refine Kd.C_alloc ?_ _)|(with_reducible refine Kd.C_drewN ?_ _)|(with_reducible refine Kd.C_drew ?_)));(case side2=>exact HC0_0.out);(case side3=>repeat(first|exact(Zb HR0_1.out HB.out)|(with_reducible refine Kd.C_alloc ?_ _)|(with_reducible refine Kd.C_drewN ?_ _)|(with_reducible refine Kd.C_drew ?_)));(case side4=>exact HC0_1.out);(case side5=>repeat(first|exact(Kd.R_reads' HO37023.out).2.2|(with_reducible refine Kd.C_alloc ?_ _)|(with_reducible refine Kd.C_drewN ?_ _)|(with_reducible refine Kd.C_drew ?_)));(case side6=>exact(Kd.R_reads' HO37023.out).2.1);(case side7=>repeat(first|exact(Kd.R_reads' HO37019.out).2.2|(with_reducible refine Kd.C_alloc ?_ _)|(with_reducible refine Kd.C_drewN ?_ _)|(with_reducible refine Kd.C_drew ?_)));(case side8=>exact(Kd.R_reads' HO37019.out).2.1);rintro e w67 ⟨rfl,hb⟩;refine⟨_,rfl,?_⟩;replace HO_37005001:=Za (Kd.R_below (by(with_reducible repeat(first|apply Kd.R_alloc|apply Kd.R_drewN|apply Kd.R_drew));exact HO_37005001.out) hb);replace HO37019:=Za (Kd.R_below (by(with_reducible repeat(first|apply Kd.R_alloc|apply Kd.R_drewN|apply Kd.R_drew));exact HO37019.out) hb);replace HO37023:=Za (Kd.R_below (by(with_reducible repeat(first|apply Kd.R_alloc|apply Kd.R_drewN|apply Kd.R_drew));exact HO37023.out) hb);replace BK37001:=Za (Zy (g:=gb37001) (o:=.cells #[.slice A0_0 l0_0.length c0_0,.slice (some ad37014) l0_1.length c0_1,.int .i64 a0_2] 35 (0,0)) (by(with_reducible repeat(first|refine Zp ?_ _|refine Zu ?_|refine Zo ?_ _));exact BK37001.out) hb);replace BK37002:=Za (Zy (g:=gb37002) (o:=.cells #[.int .i64 0,.slice none 0 0] 58 (0,0)) (by(with_reducible repeat(first|refine Zp ?_ _|refine Zu ?_|refine Zo ?_ _));exact BK37002.out) hb);replace BK37004:=Za (Zy (g:=gb37004) (o:=.cells #[.int .i64 (l0_0.length:Int),u37005001] 58 (0,0)) (by(with_reducible repeat(first|refine Zp ?_ _|refine Zu ?_|refine Zo ?_ _));exact BK37004.out) hb);replace BK37015:=Za (Zy (g:=gb37015) (o:=.cells #[.int .i64 ((Zv l0_1 x65_2).f0),.int .i64 ((Zv l0_1 x65_2).f1),.int .i64 ((Zv l0_1 x65_2).f2),.int .i64 ((Zv l0_1 x65_2).f3),.bool false] 90 (0,0)) (by(with_reducible repeat(first|refine Zp ?_ _|refine Zu ?_|refine Zo ?_ _));exact BK37015.out) hb);replace HB:=Za (Zw (by repeat(first|(with_reducible first|exact HB.out|apply Zn|apply Zm|apply Zt|refine Zq ?_ GE37001.out|refine Zq ?_ GE37002.out|refine Zq ?_ GE37004.out|refine Zq ?_ GE37015.out)|exact HB.out)) hb);(try clear hb);(try clear hb2);(try clear hk);(try clear hi);have hnb68:=NB37004_37002.out;have hnc68:=NB37002_37004.out;have hcz69_0:w67.cell? ⟨gb37004,0,none⟩=some (.int .i64 (l0_0.length:Int)):=(Zs BK37004.out 0).trans rfl;have hcz69_1:w67.cell? ⟨gb37004,1,none⟩=some (u37005001):=(Zs BK37004.out 1).trans rfl;have hfz69_0:=Zr BK37004.out 0;have hfz69_1:=Zr BK37004.out 1;have hcz70_0:w67.cell? ⟨gb37015,0,none⟩=some (.int .i64 ((Zv l0_1 x65_2).f0)):=(Zs BK37015.out 0).trans rfl;have hcz70_1:w67.cell? ⟨gb37015,1,none⟩=some (.int .i64 ((Zv l0_1 x65_2).f1)):=(Zs BK37015.out 1).trans rfl;have hcz70_2:w67.cell? ⟨gb37015,2,none⟩=some (.int .i64 ((Zv l0_1 x65_2).f2)):=(Zs BK37015.out 2).trans rfl;have hcz70_3:w67.cell? ⟨gb37015,3,none⟩=some (.int .i64 ((Zv l0_1 x65_2).f3)):=(Zs BK37015.out 3).trans rfl;have hcz70_4:w67.cell? ⟨gb37015,4,none⟩=some (.bool false):=(Zs BK37015.out 4).trans rfl;have hfz70_0:=Zr BK37015.out 0;have hfz70_1:=Zr BK37015.out 1;have hfz70_2:=Zr BK37015.out 2;have hfz70_3:=Zr BK37015.out 3;have hfz70_4:=Zr BK37015.out 4)|((with_reducible refine Zbf (b:=.append) (xs:=#[.tmp 100,.tmp 117]) rfl ?_);at_builtin;refine Kd.R_append k112 (w0:=w) w.heap.size rfl (.tmp 100) (.tmp 117) 56 112 (.agg #[(.int .i64 0),(.int .i64 0),(.int .i64 0),(.int .i64 0)]) 32 rfl Try.underlying56 ZcB rfl (by decide) (by omega) u37005001 x37005001_2 (⟨t37016,t37020,(⟨wrap64 ((wrap64 (((Zv l0_1 x65_2).f2)+t37025)) - t37026),wrap64 ((wrap64 (((Zv l0_1 x65_2).f3)+t37024)) - t37027)⟩:S110)⟩:S112) [.int .i64 t37016,.int .i64 t37020,.int .i64 (wrap64 ((wrap64 (((Zv l0_1 x65_2).f2)+t37025)) - t37026)),.int .i64 (wrap64 ((wrap64 (((Zv l0_1 x65_2).f3)+t37024)) - t37027))] (fun _=>True) (fun _=>False) rfl rfl ?aP (fun _ hk=>hk.elim) ?aF ?aO ?aB ?aS ?aL ?_;(case aP=>exact Zcd _ _ _ (⟨t37016,t37020,(⟨wrap64 ((wrap64 (((Zv l0_1 x65_2).f2)+t37025)) - t37026),wrap64 ((wrap64 (((Zv l0_1 x65_2).f3)+t37024)) - t37027)⟩:S110)⟩:S112));(case aB=>exact(by repeat(first|(with_reducible first|exact HB.out|apply Zn|apply Zm|apply Zt|refine Zq ?_ GE37001.out|refine Zq ?_ GE37002.out|refine Zq ?_ GE37004.out|refine Zq ?_ GE37015.out)|exact HB.out)));(case aF=>exact(fun _ _=>trivial));(case aO=>exact(by(with_reducible repeat(first|apply Kd.R_alloc|apply Kd.R_drewN|apply Kd.R_drew));exact HO_37005001.out));(case aS=>exact(Zx (by repeat(first|(with_reducible first|exact HB.out|apply Zn|apply Zm|apply Zt|refine Zq ?_ GE37001.out|refine Zq ?_ GE37002.out|refine Zq ?_ GE37004.out|refine Zq ?_ GE37015.out)|exact HB.out))));(case aL=>have:=LMc49.out;omega);intro v37029 w71 ho hb hg hat;rw[← Ny37028.out] at ho;have HO37030:=Za (ho);replace BK37001:=Za (Zar (g:=gb37001) (o:=.cells #[.slice A0_0 l0_0.length c0_0,.slice (some ad37014) l0_1.length c0_1,.int .i64 a0_2] 35 (0,0)) (by(with_reducible repeat(first|refine Zp ?_ _|refine Zu ?_|refine Zo ?_ _));exact BK37001.out) hg (Kd.R_ne HO_37005001.out BK37001.out (by decide)));replace BK37002:=Za (Zar (g:=gb37002) (o:=.cells #[.int .i64 0,.slice none 0 0] 58 (0,0)) (by(with_reducible repeat(first|refine Zp ?_ _|refine Zu ?_|refine Zo ?_ _));exact BK37002.out) hg (Kd.R_ne HO_37005001.out BK37002.out (by decide)));replace BK37004:=Za (Zar (g:=gb37004) (o:=.cells #[.int .i64 (l0_0.length:Int),u37005001] 58 (0,0)) (by(with_reducible repeat(first|refine Zp ?_ _|refine Zu ?_|refine Zo ?_ _));exact BK37004.out) hg (Kd.R_ne HO_37005001.out BK37004.out (by decide)));replace BK37015:=Za (Zar (g:=gb37015) (o:=.cells #[.int .i64 ((Zv l0_1 x65_2).f0),.int .i64 ((Zv l0_1 x65_2).f1),.int .i64 ((Zv l0_1 x65_2).f2),.int .i64 ((Zv l0_1 x65_2).f3),.bool false] 90 (0,0)) (by(with_reducible repeat(first|refine Zp ?_ _|refine Zu ?_|refine Zo ?_ _));exact BK37015.out) hg (Kd.R_ne HO_37005001.out BK37015.out (by decide)));replace HO37019:=Za (Kd.R_over' (by(with_reducible repeat(first|apply Kd.R_alloc|apply Kd.R_drewN|apply Kd.R_drew));exact HO37019.out) (Kd.R_typed (by(with_reducible repeat(first|apply Kd.R_alloc|apply Kd.R_drewN|apply Kd.R_drew));exact HO_37005001.out)) (by decide) hg);replace HO37023:=Za (Kd.R_over' (by(with_reducible repeat(first|apply Kd.R_alloc|apply Kd.R_drewN|apply Kd.R_drew));exact HO37023.out) (Kd.R_typed (by(with_reducible repeat(first|apply Kd.R_alloc|apply Kd.R_drewN|apply Kd.R_drew));exact HO_37005001.out)) (by decide) hg);replace HB:=Za (hb);clear HO_37005001;clear ho hb hg hat;obtain⟨Ao72,co72,eo72⟩:=Kd.R_slice HO37030.out;subst eo72;have hcz73_0:w71.cell? ⟨gb37004,0,none⟩=some (.int .i64 (l0_0.length:Int)):=(Zs BK37004.out 0).trans rfl;have hcz73_1:w71.cell? ⟨gb37004,1,none⟩=some (u37005001):=(Zs BK37004.out 1).trans rfl;have hfz73_0:=Zr BK37004.out 0;have hfz73_1:=Zr BK37004.out 1))
            go_roundg k2
            case measure=>have:=HK1.out;have:=HK2.out;omega
            case rel=>exact⟨(wrap64 (x65_2+1)),(y37028),(.slice Ao72 y37028.length co72),(by first|rfl|(simp;done)|(simp[*];done)),H',⟨by have:=HK1.out;have:=HK2.out;omega⟩,⟨by(with_reducible repeat(first|apply Kd.R_alloc|apply Kd.R_drewN|apply Kd.R_drew));exact Kd.R_mono (Kd.R_far (p:=⟨gb37004,1,none⟩) (Kd.R_types HO37030.out BK37004.out (by decide)) (fun _ hk=>hk.2) (.slice Ao72 y37028.length co72)) (fun _ hk=>trivial)⟩,⟨by(with_reducible repeat(first|refine Zp ?_ _|refine Zu ?_|refine Zo ?_ _));refine ZD ?_ NB37001_37004.out _;(with_reducible repeat(first|refine Zp ?_ _|refine Zu ?_|refine Zo ?_ _));exact BK37001.out⟩,⟨by(with_reducible repeat(first|refine Zp ?_ _|refine Zu ?_|refine Zo ?_ _));refine ZD ?_ NB37002_37004.out _;(with_reducible repeat(first|refine Zp ?_ _|refine Zu ?_|refine Zo ?_ _));exact BK37002.out⟩,⟨by(with_reducible repeat(first|refine Zp ?_ _|refine Zu ?_|refine Zo ?_ _));refine ZL (cs:=#[.int .i64 (l0_0.length:Int),u37005001]) ?_ 1 _ rfl;(with_reducible repeat(first|refine Zp ?_ _|refine Zu ?_|refine Zo ?_ _));exact BK37004.out⟩,⟨by repeat(first|(with_reducible first|exact HB.out|apply Zn|apply Zm|apply Zt|refine Zq ?_ GE37001.out|refine Zq ?_ GE37002.out|refine Zq ?_ GE37004.out|refine Zq ?_ GE37015.out)|exact HB.out)⟩⟩
           ·rw[if_neg c49] at H
            exact absurd H (by simp)
         ·rw[if_neg c37] at H
          exact absurd H (by simp)
        ·rw[if_neg c36] at H
         exact absurd H (by simp)
       ·rw[if_neg c35] at H
        have c35b0:decide (x65_2<(l0_1.length:Int))=false:=Zf c35
        clear c35
        have H':=Za H
        clear H
        have hnb74:=NB37001_37002.out
        have hnc74:=NB37002_37001.out
        have hnb75:=NB37001_37004.out
        have hnc75:=NB37004_37001.out
        have hcz76_0:wr.cell? ⟨gb37001,0,none⟩=some (.slice A0_0 l0_0.length c0_0):=(Zs BK37001.out 0).trans rfl
        have hcz76_1:wr.cell? ⟨gb37001,1,none⟩=some (.slice A0_1 l0_1.length c0_1):=(Zs BK37001.out 1).trans rfl
        have hcz76_2:wr.cell? ⟨gb37001,2,none⟩=some (.int .i64 a0_2):=(Zs BK37001.out 2).trans rfl
        have hfz76_0:=Zr BK37001.out 0
        have hfz76_1:=Zr BK37001.out 1
        have hfz76_2:=Zr BK37001.out 2
        go_wp2
        go_loopg [124] k2 (fun kq v124 w'=>∃(x124_3:Int) (x37005001_3:List (S112)) (u37005001:Value),v124=.int .i64 x124_3∧Aside0 (ZF.l2 kq (l0_0.length:Int) x124_3 l0_0 l0_1 a0_2 (l0_0.length:Int) x37005001_3=some (r1,r2,r3))∧Aside0 (kq≤k2)∧Aside0 (Kd.R k112 112 w' w.heap.size (fun _=>True) u37005001 x37005001_3)∧Aside0 (w'.heap[gb37001]? = some (.cells #[(.slice A0_0 l0_0.length c0_0),(.slice A0_1 l0_1.length c0_1),.int .i64 a0_2] 35 (0,0)))∧Aside0 (w'.heap[gb37002]? = some (.cells #[.int .i64 0,(.slice none 0 0)] 58 (0,0)))∧Aside0 (w'.heap[gb37004]? = some (.cells #[.int .i64 (l0_0.length:Int),u37005001] 58 (0,0)))∧Aside0 (Below w.heap.size w w'))
        case atStart=>exact⟨(0),(x37005001_2),(u37005001),(by first|rfl|(simp;done)|(simp[*];done)),H',⟨Nat.le_refl _⟩,⟨by(with_reducible repeat(first|apply Kd.R_alloc|apply Kd.R_drewN|apply Kd.R_drew));exact HO_37005001.out⟩,⟨by(with_reducible repeat(first|refine Zp ?_ _|refine Zu ?_|refine Zo ?_ _));exact BK37001.out⟩,⟨by(with_reducible repeat(first|refine Zp ?_ _|refine Zu ?_|refine Zo ?_ _));exact BK37002.out⟩,⟨by(with_reducible repeat(first|refine Zp ?_ _|refine Zu ?_|refine Zo ?_ _));exact BK37004.out⟩,⟨by repeat(first|(with_reducible first|exact HB.out|apply Zn|apply Zm|apply Zt|refine Zq ?_ GE37001.out|refine Zq ?_ GE37002.out|refine Zq ?_ GE37004.out)|exact HB.out)⟩⟩
        case round=>
         clear H'
         try clear c1
         try clear c2
         try clear p2
         try clear c3
         try clear p3
         try clear q3
         try clear hx3
         try clear c4
         try clear c5
         try clear c6
         try clear p6
         try clear c7
         try clear c8
         try clear c9
         try clear c11
         try clear c12
         try clear c15
         try clear c15b0
         try clear c18
         try clear c19
         try clear c20
         try clear c26
         try clear c32
         try clear c33
         try clear c35
         try clear c35b0
         try clear c36
         try clear c36b0
         try clear c37
         try clear c37b0
         try clear p37
         try clear q37
         try clear hx37
         try clear q38
         try clear c39
         try clear c41
         try clear c42
         try clear c43
         try clear c49
         try clear c51
         try clear c52
         try clear c53
         try clear c55
         try clear c56
         try clear p64
         try clear c68
         try clear c74
         try clear c75
         try clear hcz13_0
         try clear hcz13_1
         try clear hcz14_0
         try clear hcz14_1
         try clear hcz14_2
         try clear hcz21_0
         try clear hcz21_1
         try clear hcz21_2
         try clear hcz23_0
         try clear hcz23_1
         try clear hcz23_2
         try clear hcz27_0
         try clear hcz27_1
         try clear hcz28_0
         try clear hcz28_1
         try clear hcz28_2
         try clear hcz31_0
         try clear hcz31_1
         try clear hcz34_0
         try clear hcz34_1
         try clear hcz34_2
         try clear hcz44_0
         try clear hcz44_1
         try clear hcz44_2
         try clear hcz44_3
         try clear hcz44_4
         try clear hcz54_0
         try clear hcz54_1
         try clear hcz54_2
         try clear hcz54_3
         try clear hcz54_4
         try clear hcz57_0
         try clear hcz57_1
         try clear hcz57_2
         try clear hcz59_0
         try clear hcz59_1
         try clear hcz59_2
         try clear hcz60_0
         try clear hcz60_1
         try clear hcz60_2
         try clear hcz60_3
         try clear hcz60_4
         try clear hcz62_0
         try clear hcz62_1
         try clear hcz62_2
         try clear hcz66_0
         try clear hcz66_1
         try clear hcz66_2
         try clear hcz69_0
         try clear hcz69_1
         try clear hcz70_0
         try clear hcz70_1
         try clear hcz70_2
         try clear hcz70_3
         try clear hcz70_4
         try clear hcz73_0
         try clear hcz73_1
         try clear hcz76_0
         try clear hcz76_1
         try clear hcz76_2
         try clear hcz7_0
         try clear hcz7_1
         try clear hcz7_2
         try clear hcz9_0
         try clear hcz9_1
         try clear hcz9_2
         try clear hfz13_0
         try clear hfz13_1
         try clear hfz14_0
         try clear hfz14_1
         try clear hfz14_2
         try clear hfz21_0
         try clear hfz21_1
         try clear hfz21_2
         try clear hfz23_0
         try clear hfz23_1
         try clear hfz23_2
         try clear hfz27_0
         try clear hfz27_1
         try clear hfz28_0
         try clear hfz28_1
         try clear hfz28_2
         try clear hfz31_0
         try clear hfz31_1
         try clear hfz34_0
         try clear hfz34_1
         try clear hfz34_2
         try clear hfz44_0
         try clear hfz44_1
         try clear hfz44_2
         try clear hfz44_3
         try clear hfz44_4
         try clear hfz54_0
         try clear hfz54_1
         try clear hfz54_2
         try clear hfz54_3
         try clear hfz54_4
         try clear hfz57_0
         try clear hfz57_1
         try clear hfz57_2
         try clear hfz59_0
         try clear hfz59_1
         try clear hfz59_2
         try clear hfz60_0
         try clear hfz60_1
         try clear hfz60_2
         try clear hfz60_3
         try clear hfz60_4
         try clear hfz62_0
         try clear hfz62_1
         try clear hfz62_2
         try clear hfz66_0
         try clear hfz66_1
         try clear hfz66_2
         try clear hfz69_0
         try clear hfz69_1
         try clear hfz70_0
         try clear hfz70_1
         try clear hfz70_2
         try clear hfz70_3
         try clear hfz70_4
         try clear hfz73_0
         try clear hfz73_1
         try clear hfz76_0
         try clear hfz76_1
         try clear hfz76_2
         try clear hfz7_0
         try clear hfz7_1
         try clear hfz7_2
         try clear hfz9_0
         try clear hfz9_1
         try clear hfz9_2
         try clear hx37014_0
         try clear hx37014_1
         try clear hx37014_2
         try clear hx37014_3
         try clear hx37014_4
         try clear p2
         try clear p37014
         try clear p6
         try clear q37014
         obtain⟨x124_3,x37005001_3,u37005001,rfl,HA,HK3,HO_37005001,BK37001,BK37002,BK37004,HB⟩:=hrel
         cases gk with
         | zero=>exact absurd HA.out (by simp[ZF.l2])
         | succ k3=>
          have H:=HA.out
          clear HA
          simp only[ZF.l2] at H
          by_cases c77:x124_3<(l0_0.length:Int)
          ·rw[if_pos c77] at H
           have c77b0:decide (x124_3<(l0_0.length:Int))=true:=Ze c77
           clear c77
           replace H:=Zh H
           obtain⟨t37031,A780,H⟩:=H
           replace H:(if t37031≥0 then(if x37005001_3.length<4398046511104 then(ZF.l2 k3 (l0_0.length:Int) (wrap64 (x124_3+1)) l0_0 l0_1 a0_2 (l0_0.length:Int) (x37005001_3 ++ [(⟨0,x124_3,(⟨0,0⟩:S110)⟩:S112)])) else(none)) else(ZF.l2 k3 (l0_0.length:Int) (wrap64 (x124_3+1)) l0_0 l0_1 a0_2 (l0_0.length:Int) x37005001_3))=some (r1,r2,r3):=H
           have A78:=Za A780;clear A780
           by_cases c79:t37031≥0
           ·rw[if_pos c79] at H
            have c79b0:decide (0≤t37031)=true:=Ze c79
            clear c79
            by_cases c80:x37005001_3.length<4398046511104
            ·rw[if_pos c80] at H
             have LMc80:=Za c80;clear c80
             obtain⟨y37032,hy37032⟩:∃y_:List (S112),y_=(x37005001_3 ++ [(⟨0,x124_3,(⟨0,0⟩:S110)⟩:S112)]):=⟨_,rfl⟩
             replace H:(ZF.l2 k3 (l0_0.length:Int) (wrap64 (x124_3+1)) l0_0 l0_1 a0_2 (l0_0.length:Int) y37032)=some (r1,r2,r3):=by first|(rw[hy37032];with_reducible exact H)|(have H2_:=(Zi _ _).symm.trans H;rw[hy37032];with_reducible exact H2_)|(have H2_:=(Zi _ _).symm.trans H;with_reducible exact H2_)|with_reducible exact H|(rw[hy37032];exact H)|exact H
             have Ny37032:=Za hy37032;clear hy37032
             have H':=Za H
             clear H
             have hnb81:=NB37001_37002.out
             have hnc81:=NB37002_37001.out
             have hnb82:=NB37001_37004.out
             have hnc82:=NB37004_37001.out
             have hcz83_0:wr.cell? ⟨gb37001,0,none⟩=some (.slice A0_0 l0_0.length c0_0):=(Zs BK37001.out 0).trans rfl
             have hcz83_1:wr.cell? ⟨gb37001,1,none⟩=some (.slice A0_1 l0_1.length c0_1):=(Zs BK37001.out 1).trans rfl
             have hcz83_2:wr.cell? ⟨gb37001,2,none⟩=some (.int .i64 a0_2):=(Zs BK37001.out 2).trans rfl
             have hfz83_0:=Zr BK37001.out 0
             have hfz83_1:=Zr BK37001.out 1
             have hfz83_2:=Zr BK37001.out 2
             go_wp2_with (first|((with_reducible refine ZG (f:=93) rfl ?_);refine ZQ (some 129) rfl rfl Try.func93 (by kernel_rfl) rfl #[.agg #[.slice A0_0 l0_0.length c0_0,.slice A0_1 l0_1.length c0_1,.int .i64 a0_2],.int .i64 x124_3] rfl (by(try simp only[List.map_toArray,List.map_cons,List.map_nil]);first|done|rfl|(simp only[Zk,Zj];rfl)) ?_;(with_reducible refine(ZaX.calls _ _ l0_0 _ _ l0_1 a0_2 x124_3 t37031 _ ?side1 ?side2 ?side3 ?side4 A78.out).mono ?_);(case side1=>repeat(first|exact(Zb HR0_0.out HB.out)|(with_reducible refine Kd.C_alloc ?_ _)|(with_reducible refine Kd.C_drewN ?_ _)|(with_reducible refine Kd.C_drew ?_)));(case side2=>exact HC0_0.out);(case side3=>repeat(first|exact(Zb HR0_1.out HB.out)|(with_reducible refine Kd.C_alloc ?_ _)|(with_reducible refine Kd.C_drewN ?_ _)|(with_reducible refine Kd.C_drew ?_)));(case side4=>exact HC0_1.out);rintro e w84 ⟨rfl,hb⟩;refine⟨_,rfl,?_⟩;replace HO_37005001:=Za (Kd.R_below (by(with_reducible repeat(first|apply Kd.R_alloc|apply Kd.R_drewN|apply Kd.R_drew));exact HO_37005001.out) hb);replace BK37001:=Za (Zy (g:=gb37001) (o:=.cells #[.slice A0_0 l0_0.length c0_0,.slice A0_1 l0_1.length c0_1,.int .i64 a0_2] 35 (0,0)) (by(with_reducible repeat(first|refine Zp ?_ _|refine Zu ?_|refine Zo ?_ _));exact BK37001.out) hb);replace BK37002:=Za (Zy (g:=gb37002) (o:=.cells #[.int .i64 0,.slice none 0 0] 58 (0,0)) (by(with_reducible repeat(first|refine Zp ?_ _|refine Zu ?_|refine Zo ?_ _));exact BK37002.out) hb);replace BK37004:=Za (Zy (g:=gb37004) (o:=.cells #[.int .i64 (l0_0.length:Int),u37005001] 58 (0,0)) (by(with_reducible repeat(first|refine Zp ?_ _|refine Zu ?_|refine Zo ?_ _));exact BK37004.out) hb);replace HB:=Za (Zw (by repeat(first|(with_reducible first|exact HB.out|apply Zn|apply Zm|apply Zt|refine Zq ?_ GE37001.out|refine Zq ?_ GE37002.out|refine Zq ?_ GE37004.out)|exact HB.out)) hb);(try clear hb);(try clear hb2);(try clear hk);(try clear hi);have hnb85:=NB37004_37002.out;have hnc85:=NB37002_37004.out;have hcz86_0:w84.cell? ⟨gb37004,0,none⟩=some (.int .i64 (l0_0.length:Int)):=(Zs BK37004.out 0).trans rfl;have hcz86_1:w84.cell? ⟨gb37004,1,none⟩=some (u37005001):=(Zs BK37004.out 1).trans rfl;have hfz86_0:=Zr BK37004.out 0;have hfz86_1:=Zr BK37004.out 1)|((with_reducible refine Zbf (b:=.append) (xs:=#[.tmp 132,.tmp 135]) rfl ?_);at_builtin;refine Kd.R_append k112 (w0:=w) w.heap.size rfl (.tmp 132) (.tmp 135) 56 112 (.agg #[(.int .i64 0),(.int .i64 0),(.int .i64 0),(.int .i64 0)]) 32 rfl Try.underlying56 ZcB rfl (by decide) (by omega) u37005001 x37005001_3 (⟨0,x124_3,(⟨0,0⟩:S110)⟩:S112) [.int .i64 0,.int .i64 x124_3,.int .i64 0,.int .i64 0] (fun _=>True) (fun _=>False) rfl rfl ?aP (fun _ hk=>hk.elim) ?aF ?aO ?aB ?aS ?aL ?_;(case aP=>exact Zcd _ _ _ (⟨0,x124_3,(⟨0,0⟩:S110)⟩:S112));(case aB=>exact(by repeat(first|(with_reducible first|exact HB.out|apply Zn|apply Zm|apply Zt|refine Zq ?_ GE37001.out|refine Zq ?_ GE37002.out|refine Zq ?_ GE37004.out)|exact HB.out)));(case aF=>exact(fun _ _=>trivial));(case aO=>exact(by(with_reducible repeat(first|apply Kd.R_alloc|apply Kd.R_drewN|apply Kd.R_drew));exact HO_37005001.out));(case aS=>exact(Zx (by repeat(first|(with_reducible first|exact HB.out|apply Zn|apply Zm|apply Zt|refine Zq ?_ GE37001.out|refine Zq ?_ GE37002.out|refine Zq ?_ GE37004.out)|exact HB.out))));(case aL=>have:=LMc80.out;omega);intro v37033 w87 ho hb hg hat;rw[← Ny37032.out] at ho;have HO37034:=Za (ho);replace BK37001:=Za (Zar (g:=gb37001) (o:=.cells #[.slice A0_0 l0_0.length c0_0,.slice A0_1 l0_1.length c0_1,.int .i64 a0_2] 35 (0,0)) (by(with_reducible repeat(first|refine Zp ?_ _|refine Zu ?_|refine Zo ?_ _));exact BK37001.out) hg (Kd.R_ne HO_37005001.out BK37001.out (by decide)));replace BK37002:=Za (Zar (g:=gb37002) (o:=.cells #[.int .i64 0,.slice none 0 0] 58 (0,0)) (by(with_reducible repeat(first|refine Zp ?_ _|refine Zu ?_|refine Zo ?_ _));exact BK37002.out) hg (Kd.R_ne HO_37005001.out BK37002.out (by decide)));replace BK37004:=Za (Zar (g:=gb37004) (o:=.cells #[.int .i64 (l0_0.length:Int),u37005001] 58 (0,0)) (by(with_reducible repeat(first|refine Zp ?_ _|refine Zu ?_|refine Zo ?_ _));exact BK37004.out) hg (Kd.R_ne HO_37005001.out BK37004.out (by decide)));replace HB:=Za (hb);clear HO_37005001;clear ho hb hg hat;obtain⟨Ao88,co88,eo88⟩:=Kd.R_slice HO37034.out;subst eo88;have hcz89_0:w87.cell? ⟨gb37004,0,none⟩=some (.int .i64 (l0_0.length:Int)):=(Zs BK37004.out 0).trans rfl;have hcz89_1:w87.cell? ⟨gb37004,1,none⟩=some (u37005001):=(Zs BK37004.out 1).trans rfl;have hfz89_0:=Zr BK37004.out 0;have hfz89_1:=Zr BK37004.out 1))
             go_roundg k3
             case measure=>have:=HK1.out;have:=HK2.out;have:=HK3.out;omega
             case rel=>exact⟨(wrap64 (x124_3+1)),(y37032),(.slice Ao88 y37032.length co88),(by first|rfl|(simp;done)|(simp[*];done)),H',⟨by have:=HK1.out;have:=HK2.out;have:=HK3.out;omega⟩,⟨by(with_reducible repeat(first|apply Kd.R_alloc|apply Kd.R_drewN|apply Kd.R_drew));exact Kd.R_mono (Kd.R_far (p:=⟨gb37004,1,none⟩) (Kd.R_types HO37034.out BK37004.out (by decide)) (fun _ hk=>hk.2) (.slice Ao88 y37032.length co88)) (fun _ hk=>trivial)⟩,⟨by(with_reducible repeat(first|refine Zp ?_ _|refine Zu ?_|refine Zo ?_ _));refine ZD ?_ NB37001_37004.out _;(with_reducible repeat(first|refine Zp ?_ _|refine Zu ?_|refine Zo ?_ _));exact BK37001.out⟩,⟨by(with_reducible repeat(first|refine Zp ?_ _|refine Zu ?_|refine Zo ?_ _));refine ZD ?_ NB37002_37004.out _;(with_reducible repeat(first|refine Zp ?_ _|refine Zu ?_|refine Zo ?_ _));exact BK37002.out⟩,⟨by(with_reducible repeat(first|refine Zp ?_ _|refine Zu ?_|refine Zo ?_ _));refine ZL (cs:=#[.int .i64 (l0_0.length:Int),u37005001]) ?_ 1 _ rfl;(with_reducible repeat(first|refine Zp ?_ _|refine Zu ?_|refine Zo ?_ _));exact BK37004.out⟩,⟨by repeat(first|(with_reducible first|exact HB.out|apply Zn|apply Zm|apply Zt|refine Zq ?_ GE37001.out|refine Zq ?_ GE37002.out|refine Zq ?_ GE37004.out)|exact HB.out)⟩⟩
            ·rw[if_neg c80] at H
             exact absurd H (by simp)
           ·rw[if_neg c79] at H
            have c79b0:decide (0≤t37031)=false:=Zf c79
            clear c79
            have H':=Za H
            clear H
            have hnb90:=NB37001_37002.out
            have hnc90:=NB37002_37001.out
            have hnb91:=NB37001_37004.out
            have hnc91:=NB37004_37001.out
            have hcz92_0:wr.cell? ⟨gb37001,0,none⟩=some (.slice A0_0 l0_0.length c0_0):=(Zs BK37001.out 0).trans rfl
            have hcz92_1:wr.cell? ⟨gb37001,1,none⟩=some (.slice A0_1 l0_1.length c0_1):=(Zs BK37001.out 1).trans rfl
            have hcz92_2:wr.cell? ⟨gb37001,2,none⟩=some (.int .i64 a0_2):=(Zs BK37001.out 2).trans rfl
            have hfz92_0:=Zr BK37001.out 0
            have hfz92_1:=Zr BK37001.out 1
            have hfz92_2:=Zr BK37001.out 2
            go_wp2_with (first|((with_reducible refine ZG (f:=93) rfl ?_);refine ZQ (some 129) rfl rfl Try.func93 (by kernel_rfl) rfl #[.agg #[.slice A0_0 l0_0.length c0_0,.slice A0_1 l0_1.length c0_1,.int .i64 a0_2],.int .i64 x124_3] rfl (by(try simp only[List.map_toArray,List.map_cons,List.map_nil]);first|done|rfl|(simp only[Zk,Zj];rfl)) ?_;(with_reducible refine(ZaX.calls _ _ l0_0 _ _ l0_1 a0_2 x124_3 t37031 _ ?side1 ?side2 ?side3 ?side4 A78.out).mono ?_);(case side1=>repeat(first|exact(Zb HR0_0.out HB.out)|(with_reducible refine Kd.C_alloc ?_ _)|(with_reducible refine Kd.C_drewN ?_ _)|(with_reducible refine Kd.C_drew ?_)));(case side2=>exact HC0_0.out);(case side3=>repeat(first|exact(Zb HR0_1.out HB.out)|(with_reducible refine Kd.C_alloc ?_ _)|(with_reducible refine Kd.C_drewN ?_ _)|(with_reducible refine Kd.C_drew ?_)));(case side4=>exact HC0_1.out);rintro e w93 ⟨rfl,hb⟩;refine⟨_,rfl,?_⟩;replace HO_37005001:=Za (Kd.R_below (by(with_reducible repeat(first|apply Kd.R_alloc|apply Kd.R_drewN|apply Kd.R_drew));exact HO_37005001.out) hb);replace BK37001:=Za (Zy (g:=gb37001) (o:=.cells #[.slice A0_0 l0_0.length c0_0,.slice A0_1 l0_1.length c0_1,.int .i64 a0_2] 35 (0,0)) (by(with_reducible repeat(first|refine Zp ?_ _|refine Zu ?_|refine Zo ?_ _));exact BK37001.out) hb);replace BK37002:=Za (Zy (g:=gb37002) (o:=.cells #[.int .i64 0,.slice none 0 0] 58 (0,0)) (by(with_reducible repeat(first|refine Zp ?_ _|refine Zu ?_|refine Zo ?_ _));exact BK37002.out) hb);replace BK37004:=Za (Zy (g:=gb37004) (o:=.cells #[.int .i64 (l0_0.length:Int),u37005001] 58 (0,0)) (by(with_reducible repeat(first|refine Zp ?_ _|refine Zu ?_|refine Zo ?_ _));exact BK37004.out) hb);replace HB:=Za (Zw (by repeat(first|(with_reducible first|exact HB.out|apply Zn|apply Zm|apply Zt|refine Zq ?_ GE37001.out|refine Zq ?_ GE37002.out|refine Zq ?_ GE37004.out)|exact HB.out)) hb);(try clear hb);(try clear hb2);(try clear hk);(try clear hi)))
            go_roundg k3
            case measure=>have:=HK1.out;have:=HK2.out;have:=HK3.out;omega
            case rel=>exact⟨(wrap64 (x124_3+1)),(x37005001_3),(u37005001),(by first|rfl|(simp;done)|(simp[*];done)),H',⟨by have:=HK1.out;have:=HK2.out;have:=HK3.out;omega⟩,⟨by(with_reducible repeat(first|apply Kd.R_alloc|apply Kd.R_drewN|apply Kd.R_drew));exact HO_37005001.out⟩,⟨by(with_reducible repeat(first|refine Zp ?_ _|refine Zu ?_|refine Zo ?_ _));exact BK37001.out⟩,⟨by(with_reducible repeat(first|refine Zp ?_ _|refine Zu ?_|refine Zo ?_ _));exact BK37002.out⟩,⟨by(with_reducible repeat(first|refine Zp ?_ _|refine Zu ?_|refine Zo ?_ _));exact BK37004.out⟩,⟨by repeat(first|(with_reducible first|exact HB.out|apply Zn|apply Zm|apply Zt|refine Zq ?_ GE37001.out|refine Zq ?_ GE37002.out|refine Zq ?_ GE37004.out)|exact HB.out)⟩⟩
          ·rw[if_neg c77] at H
           have c77b0:decide (x124_3<(l0_0.length:Int))=false:=Zf c77
           clear c77
           replace H:=Zh H
           obtain⟨t37035,A940,H⟩:=H
           replace H:(if t37035=true then(some ((l0_0.length:Int),x37005001_3,true)) else(some (0,([]:List (S112)),false)))=some (r1,r2,r3):=H
           have A94:=Za A940;clear A940
           by_cases c95:t37035=true
           ·subst c95
            have H1:(some ((l0_0.length:Int),x37005001_3,true))=some (r1,r2,r3):=by rw[if_pos rfl] at H;exact H
            clear H
            have H:=H1
            clear H1
            simp only[Option.some.injEq,Prod.mk.injEq] at H
            obtain⟨rfl,rfl,rfl⟩:=H
            have hnb96:=NB37004_37001.out
            have hnc96:=NB37001_37004.out
            have hnb97:=NB37004_37002.out
            have hnc97:=NB37002_37004.out
            have hcz98_0:wr.cell? ⟨gb37004,0,none⟩=some (.int .i64 (l0_0.length:Int)):=(Zs BK37004.out 0).trans rfl
            have hcz98_1:wr.cell? ⟨gb37004,1,none⟩=some (u37005001):=(Zs BK37004.out 1).trans rfl
            have hfz98_0:=Zr BK37004.out 0
            have hfz98_1:=Zr BK37004.out 1
            obtain⟨Ao99,co99,eo99⟩:=Kd.R_slice HO_37005001.out
            subst eo99
            go_wp2_with (first|((with_reducible refine ZG (f:=94) rfl ?_);refine ZQ (some 140) rfl rfl Try.func94 (by kernel_rfl) rfl #[.agg #[.int .i64 (l0_0.length:Int),.slice Ao99 x37005001_3.length co99]] rfl (by(try simp only[List.map_toArray,List.map_cons,List.map_nil]);first|done|rfl|(simp only[Zk,Zj];rfl)) ?_;(with_reducible refine(ZbE.calls (l0_0.length:Int) _ _ x37005001_3 true _ ?side1 ?side2 A94.out).mono ?_);(case side1=>repeat(first|exact(Kd.R_reads' HO_37005001.out).2.2|(with_reducible refine Kd.C_alloc ?_ _)|(with_reducible refine Kd.C_drewN ?_ _)|(with_reducible refine Kd.C_drew ?_)));(case side2=>exact(Kd.R_reads' HO_37005001.out).2.1);rintro e w100 ⟨rfl,hb⟩;refine⟨_,rfl,?_⟩;replace HO_37005001:=Za (Kd.R_below (by(with_reducible repeat(first|apply Kd.R_alloc|apply Kd.R_drewN|apply Kd.R_drew));exact HO_37005001.out) hb);replace BK37001:=Za (Zy (g:=gb37001) (o:=.cells #[.slice A0_0 l0_0.length c0_0,.slice A0_1 l0_1.length c0_1,.int .i64 a0_2] 35 (0,0)) (by(with_reducible repeat(first|refine Zp ?_ _|refine Zu ?_|refine Zo ?_ _));exact BK37001.out) hb);replace BK37002:=Za (Zy (g:=gb37002) (o:=.cells #[.int .i64 0,.slice none 0 0] 58 (0,0)) (by(with_reducible repeat(first|refine Zp ?_ _|refine Zu ?_|refine Zo ?_ _));exact BK37002.out) hb);replace BK37004:=Za (Zy (g:=gb37004) (o:=.cells #[.int .i64 (l0_0.length:Int),.slice Ao99 x37005001_3.length co99] 58 (0,0)) (by(with_reducible repeat(first|refine Zp ?_ _|refine Zu ?_|refine Zo ?_ _));exact BK37004.out) hb);replace HB:=Za (Zw (by repeat(first|(with_reducible first|exact HB.out|apply Zn|apply Zm|apply Zt|refine Zq ?_ GE37001.out|refine Zq ?_ GE37002.out|refine Zq ?_ GE37004.out)|exact HB.out)) hb);(try clear hb);(try clear hb2);(try clear hk);(try clear hi);have hcz101_0:w100.cell? ⟨gb37004,0,none⟩=some (.int .i64 (l0_0.length:Int)):=(Zs BK37004.out 0).trans rfl;have hcz101_1:w100.cell? ⟨gb37004,1,none⟩=some (.slice Ao99 x37005001_3.length co99):=(Zs BK37004.out 1).trans rfl;have hfz101_0:=Zr BK37004.out 0;have hfz101_1:=Zr BK37004.out 1;have hnb102:=NB37002_37001.out;have hnc102:=NB37001_37002.out;have hcz103_0:w100.cell? ⟨gb37002,0,none⟩=some (.int .i64 0):=(Zs BK37002.out 0).trans rfl;have hcz103_1:w100.cell? ⟨gb37002,1,none⟩=some (.slice none 0 0):=(Zs BK37002.out 1).trans rfl;have hfz103_0:=Zr BK37002.out 0;have hfz103_1:=Zr BK37002.out 1))
            refine bodyPost_ret (Zb8 rfl _ _ gb37002 58 #[.int .i64 (l0_0.length:Int),.slice Ao99 x37005001_3.length co99] (0,0) _ rfl (by(with_reducible repeat(first|refine Zp ?_ _|refine Zu ?_|refine Zo ?_ _));refine ZL (cs:=#[.int .i64 (l0_0.length:Int),.slice none 0 0]) ?_ 1 _ rfl;(with_reducible repeat(first|refine Zp ?_ _|refine Zu ?_|refine Zo ?_ _));refine ZL (cs:=#[.int .i64 0,.slice none 0 0]) ?_ 0 _ rfl;(with_reducible repeat(first|refine Zp ?_ _|refine Zu ?_|refine Zo ?_ _));exact BK37002.out) Try.underlying58 rfl (by kernel_rfl)) rfl ?_
            exact⟨_,by first|rfl|(simp[ZB,ZA] <;> rfl)|(simp[*,ZB,ZA] <;> rfl),by(with_reducible repeat(first|apply Kd.R_alloc|apply Kd.R_drewN|apply Kd.R_drew));exact Kd.R_mono (Kd.R_far (p:=⟨gb37002,1,none⟩) (Kd.R_far (p:=⟨gb37002,0,none⟩) (Kd.R_types HO_37005001.out BK37002.out (by decide)) (fun _ hk=>hk.2) (.int .i64 (l0_0.length:Int))) (fun _ hk=>hk.2) (.slice Ao99 x37005001_3.length co99)) (fun _ hk=>trivial),by repeat(first|(with_reducible first|exact HB.out|apply Zn|apply Zm|apply Zt|refine Zq ?_ GE37001.out|refine Zq ?_ GE37002.out|refine Zq ?_ GE37004.out)|exact HB.out)⟩
           ·replace c95:=Bool.eq_false_iff.mpr c95
            subst c95
            have H1:(some (0,([]:List (S112)),false))=some (r1,r2,r3):=by rw[if_neg (show ¬(false=true) by decide)] at H;exact H
            clear H
            have H:=H1
            clear H1
            simp only[Option.some.injEq,Prod.mk.injEq] at H
            obtain⟨rfl,rfl,rfl⟩:=H
            have hnb104:=NB37004_37001.out
            have hnc104:=NB37001_37004.out
            have hnb105:=NB37004_37002.out
            have hnc105:=NB37002_37004.out
            have hcz106_0:wr.cell? ⟨gb37004,0,none⟩=some (.int .i64 (l0_0.length:Int)):=(Zs BK37004.out 0).trans rfl
            have hcz106_1:wr.cell? ⟨gb37004,1,none⟩=some (u37005001):=(Zs BK37004.out 1).trans rfl
            have hfz106_0:=Zr BK37004.out 0
            have hfz106_1:=Zr BK37004.out 1
            obtain⟨Ao107,co107,eo107⟩:=Kd.R_slice HO_37005001.out
            subst eo107
            go_wp2_with (first|((with_reducible refine ZG (f:=94) rfl ?_);refine ZQ (some 140) rfl rfl Try.func94 (by kernel_rfl) rfl #[.agg #[.int .i64 (l0_0.length:Int),.slice Ao107 x37005001_3.length co107]] rfl (by(try simp only[List.map_toArray,List.map_cons,List.map_nil]);first|done|rfl|(simp only[Zk,Zj];rfl)) ?_;(with_reducible refine(ZbE.calls (l0_0.length:Int) _ _ x37005001_3 false _ ?side1 ?side2 A94.out).mono ?_);(case side1=>repeat(first|exact(Kd.R_reads' HO_37005001.out).2.2|(with_reducible refine Kd.C_alloc ?_ _)|(with_reducible refine Kd.C_drewN ?_ _)|(with_reducible refine Kd.C_drew ?_)));(case side2=>exact(Kd.R_reads' HO_37005001.out).2.1);rintro e w108 ⟨rfl,hb⟩;refine⟨_,rfl,?_⟩;replace HO_37005001:=Za (Kd.R_below (by(with_reducible repeat(first|apply Kd.R_alloc|apply Kd.R_drewN|apply Kd.R_drew));exact HO_37005001.out) hb);replace BK37001:=Za (Zy (g:=gb37001) (o:=.cells #[.slice A0_0 l0_0.length c0_0,.slice A0_1 l0_1.length c0_1,.int .i64 a0_2] 35 (0,0)) (by(with_reducible repeat(first|refine Zp ?_ _|refine Zu ?_|refine Zo ?_ _));exact BK37001.out) hb);replace BK37002:=Za (Zy (g:=gb37002) (o:=.cells #[.int .i64 0,.slice none 0 0] 58 (0,0)) (by(with_reducible repeat(first|refine Zp ?_ _|refine Zu ?_|refine Zo ?_ _));exact BK37002.out) hb);replace BK37004:=Za (Zy (g:=gb37004) (o:=.cells #[.int .i64 (l0_0.length:Int),.slice Ao107 x37005001_3.length co107] 58 (0,0)) (by(with_reducible repeat(first|refine Zp ?_ _|refine Zu ?_|refine Zo ?_ _));exact BK37004.out) hb);replace HB:=Za (Zw (by repeat(first|(with_reducible first|exact HB.out|apply Zn|apply Zm|apply Zt|refine Zq ?_ GE37001.out|refine Zq ?_ GE37002.out|refine Zq ?_ GE37004.out)|exact HB.out)) hb);(try clear hb);(try clear hb2);(try clear hk);(try clear hi);have hnb109:=NB37002_37001.out;have hnc109:=NB37001_37002.out;have hcz110_0:w108.cell? ⟨gb37002,0,none⟩=some (.int .i64 0):=(Zs BK37002.out 0).trans rfl;have hcz110_1:w108.cell? ⟨gb37002,1,none⟩=some (.slice none 0 0):=(Zs BK37002.out 1).trans rfl;have hfz110_0:=Zr BK37002.out 0;have hfz110_1:=Zr BK37002.out 1))
            refine bodyPost_ret (Zb8 rfl _ _ gb37002 58 #[.int .i64 0,.slice none 0 0] (0,0) _ rfl (by(with_reducible repeat(first|refine Zp ?_ _|refine Zu ?_|refine Zo ?_ _));refine ZL (cs:=#[.int .i64 0,.slice none 0 0]) ?_ 1 _ rfl;(with_reducible repeat(first|refine Zp ?_ _|refine Zu ?_|refine Zo ?_ _));refine ZL (cs:=#[.int .i64 0,.slice none 0 0]) ?_ 0 _ rfl;(with_reducible repeat(first|refine Zp ?_ _|refine Zu ?_|refine Zo ?_ _));exact BK37002.out) Try.underlying58 rfl (by kernel_rfl)) rfl ?_
            exact⟨_,by first|rfl|(simp[ZB,ZA] <;> rfl)|(simp[*,ZB,ZA] <;> rfl),by first|exact Kd.R_nil _ _ _ _ _|exact Kd.N_nil _ _ _ _ _|exact Kd.V_nil _ _ _ _ _|exact Kd.Q_nil _ _ _ _ _|exact Kd.S_nil _ _ _ _ _,by repeat(first|(with_reducible first|exact HB.out|apply Zn|apply Zm|apply Zt|refine Zq ?_ GE37001.out|refine Zq ?_ GE37002.out|refine Zq ?_ GE37004.out)|exact HB.out)⟩
 ·replace c3:=Bool.eq_false_iff.mpr c3
  subst c3
  have H1:(some (0,([]:List (S112)),false))=some (r1,r2,r3):=by rw[if_neg (show ¬(false=true) by decide)] at H;exact H
  clear H
  have H:=H1
  clear H1
  simp only[Option.some.injEq,Prod.mk.injEq] at H
  obtain⟨rfl,rfl,rfl⟩:=H
  go_enter Try.func37,Try.ntmps37
  go_wp2_with (first|((with_reducible refine ZI (N:=1) rfl ?_);refine ZH ?hg (N:=1) ?hd (cs:=#[.slice A0_0 l0_0.length c0_0,.slice A0_1 l0_1.length c0_1,.int .i64 a0_2]) (t:=35) ?hr ?_;(case hd=>rfl);(case hg=>rfl);(case hr=>first|(go_simp;done)|(go_simp;rfl));intro gb37001 hg w111 hbox hb;have BK37001:=Za (hbox);have GW37001:=Za ((by rw[hg];exact(Zx (by repeat(first|(with_reducible first|exact HB.out|apply Zn|apply Zm|apply Zt)|exact HB.out))):w.heap.size≤gb37001));have GE37001:=Za ((by rw[hg];exact(Zx (by repeat(first|(with_reducible first|exact HB.out|apply Zn|apply Zm|apply Zt)|exact HB.out))):w.heap.size≤gb37001));replace HB:=Za (Zw (by repeat(first|(with_reducible first|exact HB.out|apply Zn|apply Zm|apply Zt)|exact HB.out)) hb);clear hb hbox hg)|((with_reducible refine ZI (N:=2) rfl ?_);refine ZH ?hg (N:=2) ?hd (cs:=#[.int .i64 0,.slice none 0 0]) (t:=58) ?hr ?_;(case hd=>rfl);(case hg=>rfl);(case hr=>first|(go_simp;done)|(go_simp;rfl));intro gb37002 hg w112 hbox hb;have BK37002:=Za (hbox);have GW37002:=Za ((by rw[hg];exact(Zx (by repeat(first|(with_reducible first|exact HB.out|apply Zn|apply Zm|apply Zt|refine Zq ?_ GE37001.out)|exact HB.out))):w.heap.size≤gb37002));have GE37002:=Za ((by rw[hg];exact(Zx (by repeat(first|(with_reducible first|exact HB.out|apply Zn|apply Zm|apply Zt|refine Zq ?_ GE37001.out)|exact HB.out))):w.heap.size≤gb37002));have NB37001_37002:=Za ((by rw[hg];exact Nat.ne_of_lt (ZO (g:=gb37001) (o:=.cells #[.slice A0_0 l0_0.length c0_0,.slice A0_1 l0_1.length c0_1,.int .i64 a0_2] 35 (0,0)) (by(with_reducible repeat(first|refine Zp ?_ _|refine Zu ?_|refine Zo ?_ _));exact BK37001.out)):gb37001≠gb37002));have NB37002_37001:=Za ((by rw[hg];exact Nat.ne_of_gt (ZO (g:=gb37001) (o:=.cells #[.slice A0_0 l0_0.length c0_0,.slice A0_1 l0_1.length c0_1,.int .i64 a0_2] 35 (0,0)) (by(with_reducible repeat(first|refine Zp ?_ _|refine Zu ?_|refine Zo ?_ _));exact BK37001.out)):gb37002≠gb37001));replace BK37001:=Za (Zy (g:=gb37001) (o:=.cells #[.slice A0_0 l0_0.length c0_0,.slice A0_1 l0_1.length c0_1,.int .i64 a0_2] 35 (0,0)) (by(with_reducible repeat(first|refine Zp ?_ _|refine Zu ?_|refine Zo ?_ _));exact BK37001.out) hb);replace HB:=Za (Zw (by repeat(first|(with_reducible first|exact HB.out|apply Zn|apply Zm|apply Zt|refine Zq ?_ GE37001.out)|exact HB.out)) hb);clear hb hbox hg;have hnb113:=NB37001_37002.out;have hnc113:=NB37002_37001.out;have hcz114_0:w112.cell? ⟨gb37001,0,none⟩=some (.slice A0_0 l0_0.length c0_0):=(Zs BK37001.out 0).trans rfl;have hcz114_1:w112.cell? ⟨gb37001,1,none⟩=some (.slice A0_1 l0_1.length c0_1):=(Zs BK37001.out 1).trans rfl;have hcz114_2:w112.cell? ⟨gb37001,2,none⟩=some (.int .i64 a0_2):=(Zs BK37001.out 2).trans rfl;have hfz114_0:=Zr BK37001.out 0;have hfz114_1:=Zr BK37001.out 1;have hfz114_2:=Zr BK37001.out 2)|((with_reducible refine ZG (f:=87) rfl ?_);refine ZQ (some 22) rfl rfl Try.func87 (by kernel_rfl) rfl #[.agg #[.slice A0_0 l0_0.length c0_0,.slice A0_1 l0_1.length c0_1,.int .i64 a0_2]] rfl (by(try simp only[List.map_toArray,List.map_cons,List.map_nil]);first|done|rfl|(simp only[Zk,Zj];rfl)) ?_;(with_reducible refine(Zae.calls k _ _ l0_0 _ _ l0_1 a0_2 false _ ?side1 ?side2 ?side3 ?side4 A2.out).mono ?_);(case side1=>repeat(first|exact(Zb HR0_0.out HB.out)|(with_reducible refine Kd.C_alloc ?_ _)|(with_reducible refine Kd.C_drewN ?_ _)|(with_reducible refine Kd.C_drew ?_)));(case side2=>exact HC0_0.out);(case side3=>repeat(first|exact(Zb HR0_1.out HB.out)|(with_reducible refine Kd.C_alloc ?_ _)|(with_reducible refine Kd.C_drewN ?_ _)|(with_reducible refine Kd.C_drew ?_)));(case side4=>exact HC0_1.out);rintro e w115 ⟨rfl,hb⟩;refine⟨_,rfl,?_⟩;replace BK37001:=Za (Zy (g:=gb37001) (o:=.cells #[.slice A0_0 l0_0.length c0_0,.slice A0_1 l0_1.length c0_1,.int .i64 a0_2] 35 (0,0)) (by(with_reducible repeat(first|refine Zp ?_ _|refine Zu ?_|refine Zo ?_ _));exact BK37001.out) hb);replace BK37002:=Za (Zy (g:=gb37002) (o:=.cells #[.int .i64 0,.slice none 0 0] 58 (0,0)) (by(with_reducible repeat(first|refine Zp ?_ _|refine Zu ?_|refine Zo ?_ _));exact BK37002.out) hb);replace HB:=Za (Zw (by repeat(first|(with_reducible first|exact HB.out|apply Zn|apply Zm|apply Zt|refine Zq ?_ GE37001.out|refine Zq ?_ GE37002.out)|exact HB.out)) hb);(try clear hb);(try clear hb2);(try clear hk);(try clear hi);have hcz116_0:w115.cell? ⟨gb37002,0,none⟩=some (.int .i64 0):=(Zs BK37002.out 0).trans rfl;have hcz116_1:w115.cell? ⟨gb37002,1,none⟩=some (.slice none 0 0):=(Zs BK37002.out 1).trans rfl;have hfz116_0:=Zr BK37002.out 0;have hfz116_1:=Zr BK37002.out 1))
  refine bodyPost_ret (Zb8 rfl _ _ gb37002 58 #[.int .i64 0,.slice none 0 0] (0,0) _ rfl (by(with_reducible repeat(first|refine Zp ?_ _|refine Zu ?_|refine Zo ?_ _));refine ZL (cs:=#[.int .i64 0,.slice none 0 0]) ?_ 1 _ rfl;(with_reducible repeat(first|refine Zp ?_ _|refine Zu ?_|refine Zo ?_ _));refine ZL (cs:=#[.int .i64 0,.slice none 0 0]) ?_ 0 _ rfl;(with_reducible repeat(first|refine Zp ?_ _|refine Zu ?_|refine Zo ?_ _));exact BK37002.out) Try.underlying58 rfl (by kernel_rfl)) rfl ?_
  exact⟨_,by first|rfl|(simp[ZB,ZA] <;> rfl)|(simp[*,ZB,ZA] <;> rfl),by first|exact Kd.R_nil _ _ _ _ _|exact Kd.N_nil _ _ _ _ _|exact Kd.V_nil _ _ _ _ _|exact Kd.Q_nil _ _ _ _ _|exact Kd.S_nil _ _ _ _ _,by repeat(first|(with_reducible first|exact HB.out|apply Zn|apply Zm|apply Zt|refine Zq ?_ GE37001.out|refine Zq ?_ GE37002.out)|exact HB.out)⟩
theorem ZF.c (k:Nat) (A0_0:Option Addr) (c0_0:Nat) (l0_0:List (S116)) (A0_1:Option Addr) (c0_1:Nat) (l0_1:List (S90)) (a0_2:Int) (r1:Int) (r2:List (S112)) (r3:Bool) (w:World) (hr0_0:Kd.C k116 w A0_0 l0_0.length l0_0) (hc0_0:l0_0.length≤c0_0) (hr0_1:Kd.C k90 w A0_1 l0_1.length l0_1) (hc0_1:l0_1.length≤c0_1) (h:ZF.f k l0_0 l0_1 a0_2=some (r1,r2,r3)) :
  Calls Try.prog 37 #[.agg #[.slice A0_0 l0_0.length c0_0,.slice A0_1 l0_1.length c0_1,.int .i64 a0_2]] w fun e w'=>∃A0_ c0_,e=.returned (.tuple #[.agg #[.int .i64 r1,.slice A0_ r2.length c0_],.bool r3])∧Aside0 (r2.length≤c0_∧Kd.C k112 w' A0_ r2.length r2)∧Below w.heap.size w w':=
 (ZF.calls k A0_0 c0_0 l0_0 A0_1 c0_1 l0_1 a0_2 r1 r2 r3 w hr0_0 hc0_0 hr0_1 hc0_1 h).mono fun e w' ⟨v1_,he,q0_,hb⟩=>by
  obtain⟨A0_,c0_,rfl,g0_⟩:=Kd.R_reads q0_
  exact⟨A0_,c0_,he,⟨g0_⟩,hb⟩
def ZT.l0:Nat→Int→Int→Int→Int→List (S116)→List (S90)→Int→Option (Int×Int×Int×Bool)
 | 0,_,_,_,_,_,_,_=>none
 | k+1,x1,x8,x9,x10,x108002000,x108002001,x108002002=>if x10≤(x108002000.length:Int) then((Z0.f k x108002000 x108002001 x108002002 x1).bind fun t108002=>(if t108002<0 then(some (x1,x8,x9,true)) else(if 0≤t108002 then(if t108002<(x108002001.length:Int) then(ZT.l0 k ((Zv x108002001 t108002).f0) (wrap64 (x8+((Zv x108002001 t108002).f2))) (wrap64 (x9+((Zv x108002001 t108002).f3))) (wrap64 (x10+1)) x108002000 x108002001 x108002002) else(none)) else(none)))) else(some ((-1),0,0,false))
def ZT.f (k:Nat) (l0_0:List (S116)) (l0_1:List (S90)) (a0_2:Int) (a1:Int):Option (Int×Int×Int×Bool):=ZT.l0 k a1 0 0 0 l0_0 l0_1 a0_2
set_option maxHeartbeats 8000000 in
set_option maxRecDepth 100000 in
theorem ZT.calls (k:Nat) (A0_0:Option Addr) (c0_0:Nat) (l0_0:List (S116)) (A0_1:Option Addr) (c0_1:Nat) (l0_1:List (S90)) (a0_2:Int) (a1:Int) (r1:Int) (r2:Int) (r3:Int) (r4:Bool) (w:World) (hr0_0:Kd.C k116 w A0_0 l0_0.length l0_0) (hc0_0:l0_0.length≤c0_0) (hr0_1:Kd.C k90 w A0_1 l0_1.length l0_1) (hc0_1:l0_1.length≤c0_1) (h:ZT.f k l0_0 l0_1 a0_2 a1=some (r1,r2,r3,r4)) :
  Calls Try.prog 108 #[.agg #[.slice A0_0 l0_0.length c0_0,.slice A0_1 l0_1.length c0_1,.int .i64 a0_2],.int .i64 a1] w fun e w'=>e=.returned (.tuple #[.int .i64 r1,.int .i64 r2,.int .i64 r3,.bool r4])∧Below w.heap.size w w':=by
 have hu35:=Try.underlying35
 have HR0_0:=Za hr0_0;have HC0_0:=Za hc0_0;clear hr0_0 hc0_0;have HR0_1:=Za hr0_1;have HC0_1:=Za hc0_1;clear hr0_1 hc0_1
 have HB:=Za (Below.refl w.heap.size w)
 have H:(ZT.l0 k a1 0 0 0 l0_0 l0_1 a0_2)=some (r1,r2,r3,r4):=h
 clear h
 have H':=Za H
 clear H
 go_enter Try.func108,Try.ntmps108
 go_wp2_with (first|((with_reducible refine ZI (N:=2) rfl ?_);refine ZH ?hg (N:=2) ?hd (cs:=#[.slice A0_0 l0_0.length c0_0,.slice A0_1 l0_1.length c0_1,.int .i64 a0_2]) (t:=35) ?hr ?_;(case hd=>rfl);(case hg=>rfl);(case hr=>first|(go_simp;done)|(go_simp;rfl));intro gb108001 hg w3 hbox hb;have BK108001:=Za (hbox);have GW108001:=Za ((by rw[hg];exact(Zx (by exact HB.out)):w.heap.size≤gb108001));have GE108001:=Za ((by rw[hg];exact(Zx (by exact HB.out)):w.heap.size≤gb108001));replace HB:=Za (Zw (by exact HB.out) hb);clear hb hbox hg))
 go_loopg [1,8,9,10] k (fun kq v1 v8 v9 v10 w'=>∃(x1_1:Int) (x8_1:Int) (x9_1:Int) (x10_1:Int),v1=.int .i64 x1_1∧v8=.int .i64 x8_1∧v9=.int .i64 x9_1∧v10=.int .i64 x10_1∧Aside0 (ZT.l0 kq x1_1 x8_1 x9_1 x10_1 l0_0 l0_1 a0_2=some (r1,r2,r3,r4))∧Aside0 (kq≤k)∧Aside0 (w'.heap[gb108001]? = some (.cells #[(.slice A0_0 l0_0.length c0_0),(.slice A0_1 l0_1.length c0_1),.int .i64 a0_2] 35 (0,0)))∧Aside0 (Below w.heap.size w w'))
 case atStart=>exact⟨(a1),(0),(0),(0),(by first|rfl|(simp;done)|(simp[*];done)),(by first|rfl|(simp;done)|(simp[*];done)),(by first|rfl|(simp;done)|(simp[*];done)),(by first|rfl|(simp;done)|(simp[*];done)),H',⟨Nat.le_refl _⟩,⟨by(with_reducible repeat(first|refine Zp ?_ _|refine Zu ?_|refine Zo ?_ _));exact BK108001.out⟩,⟨by repeat(first|(with_reducible first|exact HB.out|apply Zn|apply Zm|apply Zt|refine Zq ?_ GE108001.out)|exact HB.out)⟩⟩
 case round=>
  clear H'
  try clear c1
  try clear p2
  obtain⟨x1_1,x8_1,x9_1,x10_1,rfl,rfl,rfl,rfl,HA,HK1,BK108001,HB⟩:=hrel
  cases gk with
  | zero=>exact absurd HA.out (by simp[ZT.l0])
  | succ k1=>
   have H:=HA.out
   clear HA
   simp only[ZT.l0] at H
   by_cases c4:x10_1≤(l0_0.length:Int)
   ·rw[if_pos c4] at H
    have c4b0:decide (x10_1≤(l0_0.length:Int))=true:=Ze c4
    clear c4
    replace H:=Zh H
    obtain⟨t108002,A50,H⟩:=H
    replace H:(if t108002<0 then(some (x1_1,x8_1,x9_1,true)) else(if 0≤t108002 then(if t108002<(l0_1.length:Int) then(ZT.l0 k1 ((Zv l0_1 t108002).f0) (wrap64 (x8_1+((Zv l0_1 t108002).f2))) (wrap64 (x9_1+((Zv l0_1 t108002).f3))) (wrap64 (x10_1+1)) l0_0 l0_1 a0_2) else(none)) else(none)))=some (r1,r2,r3,r4):=H
    have A5:=Za A50;clear A50
    by_cases c6:t108002<0
    ·rw[if_pos c6] at H
     have c6b0:decide (t108002<0)=true:=Ze c6
     clear c6
     simp only[Option.some.injEq,Prod.mk.injEq] at H
     obtain⟨rfl,rfl,rfl,rfl⟩:=H
     have hcz7_0:wr.cell? ⟨gb108001,0,none⟩=some (.slice A0_0 l0_0.length c0_0):=(Zs BK108001.out 0).trans rfl
     have hcz7_1:wr.cell? ⟨gb108001,1,none⟩=some (.slice A0_1 l0_1.length c0_1):=(Zs BK108001.out 1).trans rfl
     have hcz7_2:wr.cell? ⟨gb108001,2,none⟩=some (.int .i64 a0_2):=(Zs BK108001.out 2).trans rfl
     go_wp2_with (first|((with_reducible refine ZG (f:=76) rfl ?_);refine ZQ (some 21) rfl rfl Try.func76 (by kernel_rfl) rfl #[.agg #[.slice A0_0 l0_0.length c0_0,.slice A0_1 l0_1.length c0_1,.int .i64 a0_2],.int .i64 x1_1] rfl (by(try simp only[List.map_toArray,List.map_cons,List.map_nil]);first|done|rfl|(simp only[Zk,Zj];rfl)) ?_;(with_reducible refine(Z0.calls k1 _ _ l0_0 _ _ l0_1 a0_2 x1_1 t108002 _ ?side1 ?side2 ?side3 ?side4 A5.out).mono ?_);(case side1=>exact(Zb HR0_0.out HB.out));(case side2=>exact HC0_0.out);(case side3=>exact(Zb HR0_1.out HB.out));(case side4=>exact HC0_1.out);rintro e w8 ⟨rfl,hb⟩;refine⟨_,rfl,?_⟩;replace BK108001:=Za (Zy BK108001.out hb);replace HB:=Za (Zw (by exact HB.out) hb);(try clear hb);(try clear hb2);(try clear hk);(try clear hi)))
     refine bodyPost_ret (Zdk (rs:=[.tmp 4,.tmp 5,.tmp 6,.tmp 7]) rfl (by simp) (.tmp (.tmp (.tmp (.tmp .nil))))) rfl ?_
     exact⟨by first|rfl|(simp[ZB,ZA] <;> rfl)|(simp[*,ZB,ZA] <;> rfl),by repeat(first|(with_reducible first|exact HB.out|apply Zn|apply Zm|apply Zt|refine Zq ?_ GE108001.out)|exact HB.out)⟩
    ·rw[if_neg c6] at H
     have c6b0:decide (t108002<0)=false:=Zf c6
     clear c6
     by_cases c9:0≤t108002
     ·rw[if_pos c9] at H
      have c9b0:decide (0≤t108002)=true:=Ze c9
      clear c9
      by_cases c10:t108002<(l0_1.length:Int)
      ·rw[if_pos c10] at H
       have c10b0:decide (t108002<(l0_1.length:Int))=true:=Ze c10
       clear c10
       have H':=Za H
       clear H
       have hcz11_0:wr.cell? ⟨gb108001,0,none⟩=some (.slice A0_0 l0_0.length c0_0):=(Zs BK108001.out 0).trans rfl
       have hcz11_1:wr.cell? ⟨gb108001,1,none⟩=some (.slice A0_1 l0_1.length c0_1):=(Zs BK108001.out 1).trans rfl
       have hcz11_2:wr.cell? ⟨gb108001,2,none⟩=some (.int .i64 a0_2):=(Zs BK108001.out 2).trans rfl
       go_wp2_with (first|((with_reducible refine ZG (f:=76) rfl ?_);refine ZQ (some 21) rfl rfl Try.func76 (by kernel_rfl) rfl #[.agg #[.slice A0_0 l0_0.length c0_0,.slice A0_1 l0_1.length c0_1,.int .i64 a0_2],.int .i64 x1_1] rfl (by(try simp only[List.map_toArray,List.map_cons,List.map_nil]);first|done|rfl|(simp only[Zk,Zj];rfl)) ?_;(with_reducible refine(Z0.calls k1 _ _ l0_0 _ _ l0_1 a0_2 x1_1 t108002 _ ?side1 ?side2 ?side3 ?side4 A5.out).mono ?_);(case side1=>exact(Zb HR0_0.out HB.out));(case side2=>exact HC0_0.out);(case side3=>exact(Zb HR0_1.out HB.out));(case side4=>exact HC0_1.out);rintro e w12 ⟨rfl,hb⟩;refine⟨_,rfl,?_⟩;replace BK108001:=Za (Zy BK108001.out hb);replace HB:=Za (Zw (by exact HB.out) hb);(try clear hb);(try clear hb2);(try clear hk);(try clear hi);have hcz13_0:w12.cell? ⟨gb108001,0,none⟩=some (.slice A0_0 l0_0.length c0_0):=(Zs BK108001.out 0).trans rfl;have hcz13_1:w12.cell? ⟨gb108001,1,none⟩=some (.slice A0_1 l0_1.length c0_1):=(Zs BK108001.out 1).trans rfl;have hcz13_2:w12.cell? ⟨gb108001,2,none⟩=some (.int .i64 a0_2):=(Zs BK108001.out 2).trans rfl;have p108003:0≤(t108002:Int):=Zd (by with_reducible assumption);have q108003:t108002<(l0_1.length:Int):=Zd (by with_reducible assumption);obtain⟨ad108003,e108003,hx108003_0,hx108003_1,hx108003_2,hx108003_3,hx108003_4⟩:=ZaH HR0_1.out t108002 p108003 q108003;cases e108003;replace hx108003_0:=(HB.out.cell (Zc w _ hx108003_0)).trans hx108003_0;replace hx108003_1:=(HB.out.cell (Zc w _ hx108003_1)).trans hx108003_1;replace hx108003_2:=(HB.out.cell (Zc w _ hx108003_2)).trans hx108003_2;replace hx108003_3:=(HB.out.cell (Zc w _ hx108003_3)).trans hx108003_3;replace hx108003_4:=(HB.out.cell (Zc w _ hx108003_4)).trans hx108003_4;replace p108003:=eq_true p108003;replace q108003:=eq_true q108003;have p108004:0≤(t108002:Int):=Zd (by with_reducible assumption);have q108004:t108002<(l0_1.length:Int):=Zd (by with_reducible assumption);obtain⟨ad108004,e108004,hx108004_0,hx108004_1,hx108004_2,hx108004_3,hx108004_4⟩:=ZaH HR0_1.out t108002 p108004 q108004;obtain rfl:ad108003=ad108004:=(by injection e108004);replace hx108004_0:=(HB.out.cell (Zc w _ hx108004_0)).trans hx108004_0;replace hx108004_1:=(HB.out.cell (Zc w _ hx108004_1)).trans hx108004_1;replace hx108004_2:=(HB.out.cell (Zc w _ hx108004_2)).trans hx108004_2;replace hx108004_3:=(HB.out.cell (Zc w _ hx108004_3)).trans hx108004_3;replace hx108004_4:=(HB.out.cell (Zc w _ hx108004_4)).trans hx108004_4;replace p108004:=eq_true p108004;replace q108004:=eq_true q108004;have p108005:0≤(t108002:Int):=Zd (by with_reducible assumption);have q108005:t108002<(l0_1.length:Int):=Zd (by with_reducible assumption);obtain⟨ad108005,e108005,hx108005_0,hx108005_1,hx108005_2,hx108005_3,hx108005_4⟩:=ZaH HR0_1.out t108002 p108005 q108005;obtain rfl:ad108003=ad108005:=(by injection e108005);replace hx108005_0:=(HB.out.cell (Zc w _ hx108005_0)).trans hx108005_0;replace hx108005_1:=(HB.out.cell (Zc w _ hx108005_1)).trans hx108005_1;replace hx108005_2:=(HB.out.cell (Zc w _ hx108005_2)).trans hx108005_2;replace hx108005_3:=(HB.out.cell (Zc w _ hx108005_3)).trans hx108005_3;replace hx108005_4:=(HB.out.cell (Zc w _ hx108005_4)).trans hx108005_4;replace p108005:=eq_true p108005;replace q108005:=eq_true q108005))
       go_roundg k1
       case measure=>have:=HK1.out;omega
       case rel=>exact⟨((Zv l0_1 t108002).f0),(wrap64 (x8_1+((Zv l0_1 t108002).f2))),(wrap64 (x9_1+((Zv l0_1 t108002).f3))),(wrap64 (x10_1+1)),(by first|rfl|(simp;done)|(simp[*];done)),(by first|rfl|(simp;done)|(simp[*];done)),(by first|rfl|(simp;done)|(simp[*];done)),(by first|rfl|(simp;done)|(simp[*];done)),H',⟨by have:=HK1.out;omega⟩,⟨by(with_reducible repeat(first|refine Zp ?_ _|refine Zu ?_|refine Zo ?_ _));exact BK108001.out⟩,⟨by repeat(first|(with_reducible first|exact HB.out|apply Zn|apply Zm|apply Zt|refine Zq ?_ GE108001.out)|exact HB.out)⟩⟩
      ·rw[if_neg c10] at H
       exact absurd H (by simp)
     ·rw[if_neg c9] at H
      exact absurd H (by simp)
   ·rw[if_neg c4] at H
    have c4b0:decide (x10_1≤(l0_0.length:Int))=false:=Zf c4
    clear c4
    simp only[Option.some.injEq,Prod.mk.injEq] at H
    obtain⟨rfl,rfl,rfl,rfl⟩:=H
    have hcz14_0:wr.cell? ⟨gb108001,0,none⟩=some (.slice A0_0 l0_0.length c0_0):=(Zs BK108001.out 0).trans rfl
    have hcz14_1:wr.cell? ⟨gb108001,1,none⟩=some (.slice A0_1 l0_1.length c0_1):=(Zs BK108001.out 1).trans rfl
    have hcz14_2:wr.cell? ⟨gb108001,2,none⟩=some (.int .i64 a0_2):=(Zs BK108001.out 2).trans rfl
    go_wp2
    refine bodyPost_ret (Zdk (rs:=[.tmp 4,.tmp 5,.tmp 6,.tmp 7]) rfl (by simp) (.tmp (.tmp (.tmp (.tmp .nil))))) rfl ?_
    exact⟨by first|rfl|(simp[ZB,ZA] <;> rfl)|(simp[*,ZB,ZA] <;> rfl),by repeat(first|(with_reducible first|exact HB.out|apply Zn|apply Zm|apply Zt|refine Zq ?_ GE108001.out)|exact HB.out)⟩
def Zaf.l0:Nat→List (S116)→Int→Int→List (S116)→List (S90)→Int→Option (Bool)
 | 0,_,_,_,_,_,_=>none
 | k+1,x10,x11,x12,x107002000,x107002001,x107002002=>if x12<x11 then(if 0≤x12 then(if x12<(x10.length:Int) then((ZT.f k x107002000 x107002001 x107002002 x12).bind fun bt107004=>(if (((Zz x10 x12).f1).length:Int) > 0 then(some false) else(if bt107004.2.2.2=true then(Zaf.l0 k x10 x11 (wrap64 (x12+1)) x107002000 x107002001 x107002002) else(some false)))) else(none)) else(none)) else(some true)
def Zaf.f (k:Nat) (l0_0:List (S116)) (l0_1:List (S90)) (a0_2:Int):Option (Bool):=Zaf.l0 k l0_0 (l0_0.length:Int) 0 l0_0 l0_1 a0_2
set_option maxHeartbeats 8000000 in
set_option maxRecDepth 100000 in
theorem Zaf.calls (k:Nat) (A0_0:Option Addr) (c0_0:Nat) (l0_0:List (S116)) (A0_1:Option Addr) (c0_1:Nat) (l0_1:List (S90)) (a0_2:Int) (r:Bool) (w:World) (hr0_0:Kd.C k116 w A0_0 l0_0.length l0_0) (hc0_0:l0_0.length≤c0_0) (hr0_1:Kd.C k90 w A0_1 l0_1.length l0_1) (hc0_1:l0_1.length≤c0_1) (h:Zaf.f k l0_0 l0_1 a0_2=some r) :
  Calls Try.prog 107 #[.agg #[.slice A0_0 l0_0.length c0_0,.slice A0_1 l0_1.length c0_1,.int .i64 a0_2]] w fun e w'=>e=.returned (.bool r)∧Below w.heap.size w w':=by
 have hu35:=Try.underlying35
 have hu116:=Try.underlying116
 have HR0_0:=Za hr0_0;have HC0_0:=Za hc0_0;clear hr0_0 hc0_0;have HR0_1:=Za hr0_1;have HC0_1:=Za hc0_1;clear hr0_1 hc0_1
 have HB:=Za (Below.refl w.heap.size w)
 have H:(Zaf.l0 k l0_0 (l0_0.length:Int) 0 l0_0 l0_1 a0_2)=some r:=h
 clear h
 have H':=Za H
 clear H
 go_enter Try.func107,Try.ntmps107
 go_wp2_with (first|((with_reducible refine ZI (N:=1) rfl ?_);refine ZH ?hg (N:=1) ?hd (cs:=#[.slice A0_0 l0_0.length c0_0,.slice A0_1 l0_1.length c0_1,.int .i64 a0_2]) (t:=35) ?hr ?_;(case hd=>rfl);(case hg=>rfl);(case hr=>first|(go_simp;done)|(go_simp;rfl));intro gb107001 hg w2 hbox hb;have BK107001:=Za (hbox);have GW107001:=Za ((by rw[hg];exact(Zx (by exact HB.out)):w.heap.size≤gb107001));have GE107001:=Za ((by rw[hg];exact(Zx (by exact HB.out)):w.heap.size≤gb107001));replace HB:=Za (Zw (by exact HB.out) hb);clear hb hbox hg;have hcz3_0:w2.cell? ⟨gb107001,0,none⟩=some (.slice A0_0 l0_0.length c0_0):=(Zs BK107001.out 0).trans rfl;have hcz3_1:w2.cell? ⟨gb107001,1,none⟩=some (.slice A0_1 l0_1.length c0_1):=(Zs BK107001.out 1).trans rfl;have hcz3_2:w2.cell? ⟨gb107001,2,none⟩=some (.int .i64 a0_2):=(Zs BK107001.out 2).trans rfl;have hfz3_0:=Zr BK107001.out 0;have hfz3_1:=Zr BK107001.out 1;have hfz3_2:=Zr BK107001.out 2))
 go_loopg [12] k (fun kq v12 w'=>∃(x12_1:Int),v12=.int .i64 x12_1∧Aside0 (Zaf.l0 kq l0_0 (l0_0.length:Int) x12_1 l0_0 l0_1 a0_2=some r)∧Aside0 (kq≤k)∧Aside0 (w'.heap[gb107001]? = some (.cells #[(.slice A0_0 l0_0.length c0_0),(.slice A0_1 l0_1.length c0_1),.int .i64 a0_2] 35 (0,0)))∧Aside0 (Below w.heap.size w w'))
 case atStart=>exact⟨(0),(by first|rfl|(simp;done)|(simp[*];done)),H',⟨Nat.le_refl _⟩,⟨by(with_reducible repeat(first|refine Zp ?_ _|refine Zu ?_|refine Zo ?_ _));exact BK107001.out⟩,⟨by repeat(first|(with_reducible first|exact HB.out|apply Zn|apply Zm|apply Zt|refine Zq ?_ GE107001.out)|exact HB.out)⟩⟩
 case round=>
  clear H'
  try clear c1
  try clear p2
  obtain⟨x12_1,rfl,HA,HK1,BK107001,HB⟩:=hrel
  cases gk with
  | zero=>exact absurd HA.out (by simp[Zaf.l0])
  | succ k1=>
   have H:=HA.out
   clear HA
   simp only[Zaf.l0] at H
   by_cases c4:x12_1<(l0_0.length:Int)
   ·rw[if_pos c4] at H
    have c4b0:decide (x12_1<(l0_0.length:Int))=true:=Ze c4
    clear c4
    by_cases c5:0≤x12_1
    ·rw[if_pos c5] at H
     have c5b0:decide (0≤x12_1)=true:=Ze c5
     clear c5
     by_cases c6:x12_1<(l0_0.length:Int)
     ·rw[if_pos c6] at H
      have c6b0:decide (x12_1<(l0_0.length:Int))=true:=Ze c6
      clear c6
      replace H:=Zh H
      obtain⟨⟨t107004,t107005,t107006,t107007⟩,A70,H⟩:=H
      replace H:(if (((Zz l0_0 x12_1).f1).length:Int) > 0 then(some false) else(if t107007=true then(Zaf.l0 k1 l0_0 (l0_0.length:Int) (wrap64 (x12_1+1)) l0_0 l0_1 a0_2) else(some false)))=some r:=H
      have A7:=Za A70;clear A70
      by_cases c8:(((Zz l0_0 x12_1).f1).length:Int) > 0
      ·rw[if_pos c8] at H
       have c8b0:decide (0<(((Zz l0_0 x12_1).f1).length:Int))=true:=Ze c8
       have c8b1:decide (0<((Zz l0_0 x12_1).f1).length)=true:=Ze (by omega)
       clear c8
       obtain rfl:=Zg H
       have p107002:0≤(x12_1:Int):=Zd (by with_reducible assumption)
       have q107002:x12_1<(l0_0.length:Int):=Zd (by with_reducible assumption)
       obtain⟨ad107002,A107002_1,c107002_1,e107002,hx107002_0,hx107002_1,hx107002_2,hl107002_1,hi107002_1⟩:=Zaq HR0_0.out x12_1 p107002 q107002
       cases e107002
       replace hx107002_0:=(HB.out.cell (Zc w _ hx107002_0)).trans hx107002_0
       replace hx107002_1:=(HB.out.cell (Zc w _ hx107002_1)).trans hx107002_1
       replace hx107002_2:=(HB.out.cell (Zc w _ hx107002_2)).trans hx107002_2
       have HR107002_1:=Za hi107002_1;have HC107002_1:=Za hl107002_1;clear hi107002_1 hl107002_1
       replace p107002:=eq_true p107002
       replace q107002:=eq_true q107002
       go_wp2_with (first|((with_reducible refine ZI (N:=4) rfl ?_);refine ZH ?hg (N:=4) ?hd (cs:=#[.string (⟨#[]⟩:ByteArray),.slice none 0 0,.int .i64 0]) (t:=116) ?hr ?_;(case hd=>rfl);(case hg=>rfl);(case hr=>first|(go_simp;done)|(go_simp;rfl));intro gb107003 hg w9 hbox hb;have n0_:=Za (Zy (g:=gb107001) (o:=.cells #[.slice (some ad107002) l0_0.length c0_0,.slice A0_1 l0_1.length c0_1,.int .i64 a0_2] 35 (0,0)) BK107001.out hb);have n1_:=Za (Zw (by exact HB.out) hb);have n2_:=Za (hbox);have n3_:=Za ((by rw[hg];exact(Zx (by exact HB.out)):w.heap.size≤gb107003));have n4_:=n3_;have n5_:=Za ((by rw[hg];exact Nat.ne_of_lt (ZO (g:=gb107001) (o:=.cells #[.slice (some ad107002) l0_0.length c0_0,.slice A0_1 l0_1.length c0_1,.int .i64 a0_2] 35 (0,0)) BK107001.out):gb107001≠gb107003));have n6_:=Za n5_.out.symm;clear BK107001;clear HB;have BK107001:=n0_;have HB:=n1_;have BK107003:=n2_;have GW107003:=n3_;have GE107003:=n4_;have NB107001_107003:=n5_;have NB107003_107001:=n6_;clear n0_ n1_ n2_ n3_ n4_ n5_ n6_;clear hb hbox hg;have hnb10:=NB107003_107001.out;have hnc10:=NB107001_107003.out;have hcz11_0:w9.cell? ⟨gb107003,0,none⟩=some (.string (⟨#[]⟩:ByteArray)):=(Zs BK107003.out 0).trans rfl;have hcz11_1:w9.cell? ⟨gb107003,1,none⟩=some (.slice none 0 0):=(Zs BK107003.out 1).trans rfl;have hcz11_2:w9.cell? ⟨gb107003,2,none⟩=some (.int .i64 0):=(Zs BK107003.out 2).trans rfl;have hfz11_0:=Zr BK107003.out 0;have hfz11_1:=Zr BK107003.out 1;have hfz11_2:=Zr BK107003.out 2;have hcz12_0:w9.cell? ⟨gb107001,0,none⟩=some (.slice (some ad107002) l0_0.length c0_0):=(Zs BK107001.out 0).trans rfl;have hcz12_1:w9.cell? ⟨gb107001,1,none⟩=some (.slice A0_1 l0_1.length c0_1):=(Zs BK107001.out 1).trans rfl;have hcz12_2:w9.cell? ⟨gb107001,2,none⟩=some (.int .i64 a0_2):=(Zs BK107001.out 2).trans rfl;have hfz12_0:=Zr BK107001.out 0;have hfz12_1:=Zr BK107001.out 1;have hfz12_2:=Zr BK107001.out 2)|((with_reducible refine ZG (f:=108) rfl ?_);refine ZQ (some 20) rfl rfl Try.func108 (by kernel_rfl) rfl #[.agg #[.slice (some ad107002) l0_0.length c0_0,.slice A0_1 l0_1.length c0_1,.int .i64 a0_2],.int .i64 x12_1] rfl (by(try simp only[List.map_toArray,List.map_cons,List.map_nil]);first|done|rfl|(simp only[Zk,Zj];rfl)) ?_;(with_reducible refine(ZT.calls k1 _ _ l0_0 _ _ l0_1 a0_2 x12_1 t107004 t107005 t107006 t107007 _ ?side1 ?side2 ?side3 ?side4 A7.out).mono ?_);(case side1=>exact Zb HR0_0.out (by repeat(first|(with_reducible first|exact HB.out|apply Zn|apply Zm|apply Zt|refine Zq ?_ GE107001.out|refine Zq ?_ GE107003.out)|exact HB.out)));(case side2=>exact HC0_0.out);(case side3=>exact Zb HR0_1.out (by repeat(first|(with_reducible first|exact HB.out|apply Zn|apply Zm|apply Zt|refine Zq ?_ GE107001.out|refine Zq ?_ GE107003.out)|exact HB.out)));(case side4=>exact HC0_1.out);rintro e w13 ⟨rfl,hb⟩;refine⟨_,rfl,?_⟩;replace BK107001:=Za (Zy (g:=gb107001) (o:=.cells #[.slice (some ad107002) l0_0.length c0_0,.slice A0_1 l0_1.length c0_1,.int .i64 a0_2] 35 (0,0)) (by(with_reducible repeat(first|refine Zp ?_ _|refine Zu ?_|refine Zo ?_ _));refine ZD ?_ NB107001_107003.out _;(with_reducible repeat(first|refine Zp ?_ _|refine Zu ?_|refine Zo ?_ _));refine ZD ?_ NB107001_107003.out _;(with_reducible repeat(first|refine Zp ?_ _|refine Zu ?_|refine Zo ?_ _));refine ZD ?_ NB107001_107003.out _;(with_reducible repeat(first|refine Zp ?_ _|refine Zu ?_|refine Zo ?_ _));exact BK107001.out) hb);replace BK107003:=Za (Zy (g:=gb107003) (o:=.cells #[.string ((Zz l0_0 x12_1).f0),.slice A107002_1 ((Zz l0_0 x12_1).f1).length c107002_1,.int .i64 ((Zz l0_0 x12_1).f2)] 116 (0,0)) (by(with_reducible repeat(first|refine Zp ?_ _|refine Zu ?_|refine Zo ?_ _));refine ZL (cs:=#[.string ((Zz l0_0 x12_1).f0),.slice A107002_1 ((Zz l0_0 x12_1).f1).length c107002_1,.int .i64 0]) ?_ 2 _ rfl;(with_reducible repeat(first|refine Zp ?_ _|refine Zu ?_|refine Zo ?_ _));refine ZL (cs:=#[.string ((Zz l0_0 x12_1).f0),.slice none 0 0,.int .i64 0]) ?_ 1 _ rfl;(with_reducible repeat(first|refine Zp ?_ _|refine Zu ?_|refine Zo ?_ _));refine ZL (cs:=#[.string (⟨#[]⟩:ByteArray),.slice none 0 0,.int .i64 0]) ?_ 0 _ rfl;(with_reducible repeat(first|refine Zp ?_ _|refine Zu ?_|refine Zo ?_ _));exact BK107003.out) hb);replace HB:=Za (Zw (by repeat(first|(with_reducible first|exact HB.out|apply Zn|apply Zm|apply Zt|refine Zq ?_ GE107001.out|refine Zq ?_ GE107003.out)|exact HB.out)) hb);(try clear hb);(try clear hb2);(try clear hk);(try clear hi);have hcz14_0:w13.cell? ⟨gb107003,0,none⟩=some (.string ((Zz l0_0 x12_1).f0)):=(Zs BK107003.out 0).trans rfl;have hcz14_1:w13.cell? ⟨gb107003,1,none⟩=some (.slice A107002_1 ((Zz l0_0 x12_1).f1).length c107002_1):=(Zs BK107003.out 1).trans rfl;have hcz14_2:w13.cell? ⟨gb107003,2,none⟩=some (.int .i64 ((Zz l0_0 x12_1).f2)):=(Zs BK107003.out 2).trans rfl;have hfz14_0:=Zr BK107003.out 0;have hfz14_1:=Zr BK107003.out 1;have hfz14_2:=Zr BK107003.out 2))
       go_ret
       exact⟨by first|rfl|(simp[ZB,ZA] <;> rfl)|(simp[*,ZB,ZA] <;> rfl),by repeat(first|(with_reducible first|exact HB.out|apply Zn|apply Zm|apply Zt|refine Zq ?_ GE107001.out|refine Zq ?_ GE107003.out)|exact HB.out)⟩
      ·rw[if_neg c8] at H
       have c8b0:decide (0<(((Zz l0_0 x12_1).f1).length:Int))=false:=Zf c8
       have c8b1:decide (0<((Zz l0_0 x12_1).f1).length)=false:=Zf (by omega)
       clear c8
       by_cases c15:t107007=true
       ·subst c15
        have H1:(Zaf.l0 k1 l0_0 (l0_0.length:Int) (wrap64 (x12_1+1)) l0_0 l0_1 a0_2)=some r:=by rw[if_pos rfl] at H;exact H
        clear H
        have H:=H1
        clear H1
        have H':=Za H
        clear H
        have p107002:0≤(x12_1:Int):=Zd (by with_reducible assumption)
        have q107002:x12_1<(l0_0.length:Int):=Zd (by with_reducible assumption)
        obtain⟨ad107002,A107002_1,c107002_1,e107002,hx107002_0,hx107002_1,hx107002_2,hl107002_1,hi107002_1⟩:=Zaq HR0_0.out x12_1 p107002 q107002
        cases e107002
        replace hx107002_0:=(HB.out.cell (Zc w _ hx107002_0)).trans hx107002_0
        replace hx107002_1:=(HB.out.cell (Zc w _ hx107002_1)).trans hx107002_1
        replace hx107002_2:=(HB.out.cell (Zc w _ hx107002_2)).trans hx107002_2
        have HR107002_1:=Za hi107002_1;have HC107002_1:=Za hl107002_1;clear hi107002_1 hl107002_1
        replace p107002:=eq_true p107002
        replace q107002:=eq_true q107002
        go_wp2_with (first|((with_reducible refine ZI (N:=4) rfl ?_);refine ZH ?hg (N:=4) ?hd (cs:=#[.string (⟨#[]⟩:ByteArray),.slice none 0 0,.int .i64 0]) (t:=116) ?hr ?_;(case hd=>rfl);(case hg=>rfl);(case hr=>first|(go_simp;done)|(go_simp;rfl));intro gb107003 hg w16 hbox hb;have n0_:=Za (Zy (g:=gb107001) (o:=.cells #[.slice (some ad107002) l0_0.length c0_0,.slice A0_1 l0_1.length c0_1,.int .i64 a0_2] 35 (0,0)) BK107001.out hb);have n1_:=Za (Zw (by exact HB.out) hb);have n2_:=Za (hbox);have n3_:=Za ((by rw[hg];exact(Zx (by exact HB.out)):w.heap.size≤gb107003));have n4_:=n3_;have n5_:=Za ((by rw[hg];exact Nat.ne_of_lt (ZO (g:=gb107001) (o:=.cells #[.slice (some ad107002) l0_0.length c0_0,.slice A0_1 l0_1.length c0_1,.int .i64 a0_2] 35 (0,0)) BK107001.out):gb107001≠gb107003));have n6_:=Za n5_.out.symm;clear BK107001;clear HB;have BK107001:=n0_;have HB:=n1_;have BK107003:=n2_;have GW107003:=n3_;have GE107003:=n4_;have NB107001_107003:=n5_;have NB107003_107001:=n6_;clear n0_ n1_ n2_ n3_ n4_ n5_ n6_;clear hb hbox hg;have hnb17:=NB107003_107001.out;have hnc17:=NB107001_107003.out;have hcz18_0:w16.cell? ⟨gb107003,0,none⟩=some (.string (⟨#[]⟩:ByteArray)):=(Zs BK107003.out 0).trans rfl;have hcz18_1:w16.cell? ⟨gb107003,1,none⟩=some (.slice none 0 0):=(Zs BK107003.out 1).trans rfl;have hcz18_2:w16.cell? ⟨gb107003,2,none⟩=some (.int .i64 0):=(Zs BK107003.out 2).trans rfl;have hfz18_0:=Zr BK107003.out 0;have hfz18_1:=Zr BK107003.out 1;have hfz18_2:=Zr BK107003.out 2;have hcz19_0:w16.cell? ⟨gb107001,0,none⟩=some (.slice (some ad107002) l0_0.length c0_0):=(Zs BK107001.out 0).trans rfl;have hcz19_1:w16.cell? ⟨gb107001,1,none⟩=some (.slice A0_1 l0_1.length c0_1):=(Zs BK107001.out 1).trans rfl;have hcz19_2:w16.cell? ⟨gb107001,2,none⟩=some (.int .i64 a0_2):=(Zs BK107001.out 2).trans rfl;have hfz19_0:=Zr BK107001.out 0;have hfz19_1:=Zr BK107001.out 1;have hfz19_2:=Zr BK107001.out 2)|((with_reducible refine ZG (f:=108) rfl ?_);refine ZQ (some 20) rfl rfl Try.func108 (by kernel_rfl) rfl #[.agg #[.slice (some ad107002) l0_0.length c0_0,.slice A0_1 l0_1.length c0_1,.int .i64 a0_2],.int .i64 x12_1] rfl (by(try simp only[List.map_toArray,List.map_cons,List.map_nil]);first|done|rfl|(simp only[Zk,Zj];rfl)) ?_;(with_reducible refine(ZT.calls k1 _ _ l0_0 _ _ l0_1 a0_2 x12_1 t107004 t107005 t107006 true _ ?side1 ?side2 ?side3 ?side4 A7.out).mono ?_);(case side1=>exact Zb HR0_0.out (by repeat(first|(with_reducible first|exact HB.out|apply Zn|apply Zm|apply Zt|refine Zq ?_ GE107001.out|refine Zq ?_ GE107003.out)|exact HB.out)));(case side2=>exact HC0_0.out);(case side3=>exact Zb HR0_1.out (by repeat(first|(with_reducible first|exact HB.out|apply Zn|apply Zm|apply Zt|refine Zq ?_ GE107001.out|refine Zq ?_ GE107003.out)|exact HB.out)));(case side4=>exact HC0_1.out);rintro e w20 ⟨rfl,hb⟩;refine⟨_,rfl,?_⟩;replace BK107001:=Za (Zy (g:=gb107001) (o:=.cells #[.slice (some ad107002) l0_0.length c0_0,.slice A0_1 l0_1.length c0_1,.int .i64 a0_2] 35 (0,0)) (by(with_reducible repeat(first|refine Zp ?_ _|refine Zu ?_|refine Zo ?_ _));refine ZD ?_ NB107001_107003.out _;(with_reducible repeat(first|refine Zp ?_ _|refine Zu ?_|refine Zo ?_ _));refine ZD ?_ NB107001_107003.out _;(with_reducible repeat(first|refine Zp ?_ _|refine Zu ?_|refine Zo ?_ _));refine ZD ?_ NB107001_107003.out _;(with_reducible repeat(first|refine Zp ?_ _|refine Zu ?_|refine Zo ?_ _));exact BK107001.out) hb);replace BK107003:=Za (Zy (g:=gb107003) (o:=.cells #[.string ((Zz l0_0 x12_1).f0),.slice A107002_1 ((Zz l0_0 x12_1).f1).length c107002_1,.int .i64 ((Zz l0_0 x12_1).f2)] 116 (0,0)) (by(with_reducible repeat(first|refine Zp ?_ _|refine Zu ?_|refine Zo ?_ _));refine ZL (cs:=#[.string ((Zz l0_0 x12_1).f0),.slice A107002_1 ((Zz l0_0 x12_1).f1).length c107002_1,.int .i64 0]) ?_ 2 _ rfl;(with_reducible repeat(first|refine Zp ?_ _|refine Zu ?_|refine Zo ?_ _));refine ZL (cs:=#[.string ((Zz l0_0 x12_1).f0),.slice none 0 0,.int .i64 0]) ?_ 1 _ rfl;(with_reducible repeat(first|refine Zp ?_ _|refine Zu ?_|refine Zo ?_ _));refine ZL (cs:=#[.string (⟨#[]⟩:ByteArray),.slice none 0 0,.int .i64 0]) ?_ 0 _ rfl;(with_reducible repeat(first|refine Zp ?_ _|refine Zu ?_|refine Zo ?_ _));exact BK107003.out) hb);replace HB:=Za (Zw (by repeat(first|(with_reducible first|exact HB.out|apply Zn|apply Zm|apply Zt|refine Zq ?_ GE107001.out|refine Zq ?_ GE107003.out)|exact HB.out)) hb);(try clear hb);(try clear hb2);(try clear hk);(try clear hi);have hcz21_0:w20.cell? ⟨gb107003,0,none⟩=some (.string ((Zz l0_0 x12_1).f0)):=(Zs BK107003.out 0).trans rfl;have hcz21_1:w20.cell? ⟨gb107003,1,none⟩=some (.slice A107002_1 ((Zz l0_0 x12_1).f1).length c107002_1):=(Zs BK107003.out 1).trans rfl;have hcz21_2:w20.cell? ⟨gb107003,2,none⟩=some (.int .i64 ((Zz l0_0 x12_1).f2)):=(Zs BK107003.out 2).trans rfl;have hfz21_0:=Zr BK107003.out 0;have hfz21_1:=Zr BK107003.out 1;have hfz21_2:=Zr BK107003.out 2))
        go_roundg k1
        case measure=>have:=HK1.out;omega
        case rel=>exact⟨(wrap64 (x12_1+1)),(by first|rfl|(simp;done)|(simp[*];done)),H',⟨by have:=HK1.out;omega⟩,⟨by(with_reducible repeat(first|refine Zp ?_ _|refine Zu ?_|refine Zo ?_ _));exact BK107001.out⟩,⟨by repeat(first|(with_reducible first|exact HB.out|apply Zn|apply Zm|apply Zt|refine Zq ?_ GE107001.out|refine Zq ?_ GE107003.out)|exact HB.out)⟩⟩
       ·replace c15:=Bool.eq_false_iff.mpr c15
        subst c15
        have H1:(some false)=some r:=by rw[if_neg (show ¬(false=true) by decide)] at H;exact H
        clear H
        have H:=H1
        clear H1
        obtain rfl:=Zg H
        have p107002:0≤(x12_1:Int):=Zd (by with_reducible assumption)
        have q107002:x12_1<(l0_0.length:Int):=Zd (by with_reducible assumption)
        obtain⟨ad107002,A107002_1,c107002_1,e107002,hx107002_0,hx107002_1,hx107002_2,hl107002_1,hi107002_1⟩:=Zaq HR0_0.out x12_1 p107002 q107002
        cases e107002
        replace hx107002_0:=(HB.out.cell (Zc w _ hx107002_0)).trans hx107002_0
        replace hx107002_1:=(HB.out.cell (Zc w _ hx107002_1)).trans hx107002_1
        replace hx107002_2:=(HB.out.cell (Zc w _ hx107002_2)).trans hx107002_2
        have HR107002_1:=Za hi107002_1;have HC107002_1:=Za hl107002_1;clear hi107002_1 hl107002_1
        replace p107002:=eq_true p107002
        replace q107002:=eq_true q107002
        go_wp2_with (first|((with_reducible refine ZI (N:=4) rfl ?_);refine ZH ?hg (N:=4) ?hd (cs:=#[.string (⟨#[]⟩:ByteArray),.slice none 0 0,.int .i64 0]) (t:=116) ?hr ?_;(case hd=>rfl);(case hg=>rfl);(case hr=>first|(go_simp;done)|(go_simp;rfl));intro gb107003 hg w22 hbox hb;have n0_:=Za (Zy (g:=gb107001) (o:=.cells #[.slice (some ad107002) l0_0.length c0_0,.slice A0_1 l0_1.length c0_1,.int .i64 a0_2] 35 (0,0)) BK107001.out hb);have n1_:=Za (Zw (by exact HB.out) hb);have n2_:=Za (hbox);have n3_:=Za ((by rw[hg];exact(Zx (by exact HB.out)):w.heap.size≤gb107003));have n4_:=n3_;have n5_:=Za ((by rw[hg];exact Nat.ne_of_lt (ZO (g:=gb107001) (o:=.cells #[.slice (some ad107002) l0_0.length c0_0,.slice A0_1 l0_1.length c0_1,.int .i64 a0_2] 35 (0,0)) BK107001.out):gb107001≠gb107003));have n6_:=Za n5_.out.symm;clear BK107001;clear HB;have BK107001:=n0_;have HB:=n1_;have BK107003:=n2_;have GW107003:=n3_;have GE107003:=n4_;have NB107001_107003:=n5_;have NB107003_107001:=n6_;clear n0_ n1_ n2_ n3_ n4_ n5_ n6_;clear hb hbox hg;have hnb23:=NB107003_107001.out;have hnc23:=NB107001_107003.out;have hcz24_0:w22.cell? ⟨gb107003,0,none⟩=some (.string (⟨#[]⟩:ByteArray)):=(Zs BK107003.out 0).trans rfl;have hcz24_1:w22.cell? ⟨gb107003,1,none⟩=some (.slice none 0 0):=(Zs BK107003.out 1).trans rfl;have hcz24_2:w22.cell? ⟨gb107003,2,none⟩=some (.int .i64 0):=(Zs BK107003.out 2).trans rfl;have hfz24_0:=Zr BK107003.out 0;have hfz24_1:=Zr BK107003.out 1;have hfz24_2:=Zr BK107003.out 2;have hcz25_0:w22.cell? ⟨gb107001,0,none⟩=some (.slice (some ad107002) l0_0.length c0_0):=(Zs BK107001.out 0).trans rfl;have hcz25_1:w22.cell? ⟨gb107001,1,none⟩=some (.slice A0_1 l0_1.length c0_1):=(Zs BK107001.out 1).trans rfl;have hcz25_2:w22.cell? ⟨gb107001,2,none⟩=some (.int .i64 a0_2):=(Zs BK107001.out 2).trans rfl;have hfz25_0:=Zr BK107001.out 0;have hfz25_1:=Zr BK107001.out 1;have hfz25_2:=Zr BK107001.out 2)|((with_reducible refine ZG (f:=108) rfl ?_);refine ZQ (some 20) rfl rfl Try.func108 (by kernel_rfl) rfl #[.agg #[.slice (some ad107002) l0_0.length c0_0,.slice A0_1 l0_1.length c0_1,.int .i64 a0_2],.int .i64 x12_1] rfl (by(try simp only[List.map_toArray,List.map_cons,List.map_nil]);first|done|rfl|(simp only[Zk,Zj];rfl)) ?_;(with_reducible refine(ZT.calls k1 _ _ l0_0 _ _ l0_1 a0_2 x12_1 t107004 t107005 t107006 false _ ?side1 ?side2 ?side3 ?side4 A7.out).mono ?_);(case side1=>exact Zb HR0_0.out (by repeat(first|(with_reducible first|exact HB.out|apply Zn|apply Zm|apply Zt|refine Zq ?_ GE107001.out|refine Zq ?_ GE107003.out)|exact HB.out)));(case side2=>exact HC0_0.out);(case side3=>exact Zb HR0_1.out (by repeat(first|(with_reducible first|exact HB.out|apply Zn|apply Zm|apply Zt|refine Zq ?_ GE107001.out|refine Zq ?_ GE107003.out)|exact HB.out)));(case side4=>exact HC0_1.out);rintro e w26 ⟨rfl,hb⟩;refine⟨_,rfl,?_⟩;replace BK107001:=Za (Zy (g:=gb107001) (o:=.cells #[.slice (some ad107002) l0_0.length c0_0,.slice A0_1 l0_1.length c0_1,.int .i64 a0_2] 35 (0,0)) (by(with_reducible repeat(first|refine Zp ?_ _|refine Zu ?_|refine Zo ?_ _));refine ZD ?_ NB107001_107003.out _;(with_reducible repeat(first|refine Zp ?_ _|refine Zu ?_|refine Zo ?_ _));refine ZD ?_ NB107001_107003.out _;(with_reducible repeat(first|refine Zp ?_ _|refine Zu ?_|refine Zo ?_ _));refine ZD ?_ NB107001_107003.out _;(with_reducible repeat(first|refine Zp ?_ _|refine Zu ?_|refine Zo ?_ _));exact BK107001.out) hb);replace BK107003:=Za (Zy (g:=gb107003) (o:=.cells #[.string ((Zz l0_0 x12_1).f0),.slice A107002_1 ((Zz l0_0 x12_1).f1).length c107002_1,.int .i64 ((Zz l0_0 x12_1).f2)] 116 (0,0)) (by(with_reducible repeat(first|refine Zp ?_ _|refine Zu ?_|refine Zo ?_ _));refine ZL (cs:=#[.string ((Zz l0_0 x12_1).f0),.slice A107002_1 ((Zz l0_0 x12_1).f1).length c107002_1,.int .i64 0]) ?_ 2 _ rfl;(with_reducible repeat(first|refine Zp ?_ _|refine Zu ?_|refine Zo ?_ _));refine ZL (cs:=#[.string ((Zz l0_0 x12_1).f0),.slice none 0 0,.int .i64 0]) ?_ 1 _ rfl;(with_reducible repeat(first|refine Zp ?_ _|refine Zu ?_|refine Zo ?_ _));refine ZL (cs:=#[.string (⟨#[]⟩:ByteArray),.slice none 0 0,.int .i64 0]) ?_ 0 _ rfl;(with_reducible repeat(first|refine Zp ?_ _|refine Zu ?_|refine Zo ?_ _));exact BK107003.out) hb);replace HB:=Za (Zw (by repeat(first|(with_reducible first|exact HB.out|apply Zn|apply Zm|apply Zt|refine Zq ?_ GE107001.out|refine Zq ?_ GE107003.out)|exact HB.out)) hb);(try clear hb);(try clear hb2);(try clear hk);(try clear hi);have hcz27_0:w26.cell? ⟨gb107003,0,none⟩=some (.string ((Zz l0_0 x12_1).f0)):=(Zs BK107003.out 0).trans rfl;have hcz27_1:w26.cell? ⟨gb107003,1,none⟩=some (.slice A107002_1 ((Zz l0_0 x12_1).f1).length c107002_1):=(Zs BK107003.out 1).trans rfl;have hcz27_2:w26.cell? ⟨gb107003,2,none⟩=some (.int .i64 ((Zz l0_0 x12_1).f2)):=(Zs BK107003.out 2).trans rfl;have hfz27_0:=Zr BK107003.out 0;have hfz27_1:=Zr BK107003.out 1;have hfz27_2:=Zr BK107003.out 2))
        go_ret
        exact⟨by first|rfl|(simp[ZB,ZA] <;> rfl)|(simp[*,ZB,ZA] <;> rfl),by repeat(first|(with_reducible first|exact HB.out|apply Zn|apply Zm|apply Zt|refine Zq ?_ GE107001.out|refine Zq ?_ GE107003.out)|exact HB.out)⟩
     ·rw[if_neg c6] at H
      exact absurd H (by simp)
    ·rw[if_neg c5] at H
     exact absurd H (by simp)
   ·rw[if_neg c4] at H
    have c4b0:decide (x12_1<(l0_0.length:Int))=false:=Zf c4
    clear c4
    obtain rfl:=Zg H
    go_wp2
    go_ret
    exact⟨by first|rfl|(simp[ZB,ZA] <;> rfl)|(simp[*,ZB,ZA] <;> rfl),by repeat(first|(with_reducible first|exact HB.out|apply Zn|apply Zm|apply Zt|refine Zq ?_ GE107001.out)|exact HB.out)⟩
def Z3.l0:Nat→Int→List Int→Int→List (S116)→List (S90)→Int→Option (List Int)
 | 0,_,_,_,_,_,_=>none
 | k+1,x1,x5,x6,x109002000,x109002001,x109002002=>if x6≤(x109002000.length:Int) then((Z0.f k x109002000 x109002001 x109002002 x1).bind fun t109005=>(if t109005<0 then(some x5) else(if x5.length<17592186044416 then(if 0≤t109005 then(if t109005<(x109002001.length:Int) then(Z3.l0 k ((Zv x109002001 t109005).f0) (x5 ++ [t109005]) (wrap64 (x6+1)) x109002000 x109002001 x109002002) else(none)) else(none)) else(none)))) else(some x5)
def Z3.f (k:Nat) (l0_0:List (S116)) (l0_1:List (S90)) (a0_2:Int) (a1:Int):Option (List Int):=Z3.l0 k a1 (([]:List Int)) 0 l0_0 l0_1 a0_2
set_option maxHeartbeats 8000000 in
set_option maxRecDepth 100000 in
theorem Z3.calls (k:Nat) (A0_0:Option Addr) (c0_0:Nat) (l0_0:List (S116)) (A0_1:Option Addr) (c0_1:Nat) (l0_1:List (S90)) (a0_2:Int) (a1:Int) (r:List Int) (w:World) (hr0_0:Kd.C k116 w A0_0 l0_0.length l0_0) (hc0_0:l0_0.length≤c0_0) (hr0_1:Kd.C k90 w A0_1 l0_1.length l0_1) (hc0_1:l0_1.length≤c0_1) (h:Z3.f k l0_0 l0_1 a0_2 a1=some r) :
  Calls Try.prog 109 #[.agg #[.slice A0_0 l0_0.length c0_0,.slice A0_1 l0_1.length c0_1,.int .i64 a0_2],.int .i64 a1] w fun e w'=>∃v0_:Value,e=.returned (v0_)∧Kd.R (Kd.int .i64) 3 w' w.heap.size (fun _=>True) v0_ r∧Below w.heap.size w w':=by
 have hu35:=Try.underlying35
 have HR0_0:=Za hr0_0;have HC0_0:=Za hc0_0;clear hr0_0 hc0_0;have HR0_1:=Za hr0_1;have HC0_1:=Za hc0_1;clear hr0_1 hc0_1
 have HB:=Za (Below.refl w.heap.size w)
 have H:(Z3.l0 k a1 (([]:List Int)) 0 l0_0 l0_1 a0_2)=some r:=h
 clear h
 obtain⟨y109002,hy109002⟩:∃y_:List Int,y_=(([]:List Int)):=⟨_,rfl⟩
 replace H:(Z3.l0 k a1 y109002 0 l0_0 l0_1 a0_2)=some r:=by first|(rw[hy109002];with_reducible exact H)|(have H2_:=(Zi _ _).symm.trans H;rw[hy109002];with_reducible exact H2_)|(have H2_:=(Zi _ _).symm.trans H;with_reducible exact H2_)|with_reducible exact H|(rw[hy109002];exact H)|exact H
 have Ny109002:=Za hy109002;clear hy109002
 have H':=Za H
 clear H
 go_enter Try.func109,Try.ntmps109
 go_wp2_with (first|((with_reducible refine ZI (N:=2) rfl ?_);refine ZH ?hg (N:=2) ?hd (cs:=#[.slice A0_0 l0_0.length c0_0,.slice A0_1 l0_1.length c0_1,.int .i64 a0_2]) (t:=35) ?hr ?_;(case hd=>rfl);(case hg=>rfl);(case hr=>first|(go_simp;done)|(go_simp;rfl));intro gb109001 hg w3 hbox hb;have BK109001:=Za (hbox);have GW109001:=Za ((by rw[hg];exact(Zx (by exact HB.out)):w.heap.size≤gb109001));have GE109001:=Za ((by rw[hg];exact(Zx (by exact HB.out)):w.heap.size≤gb109001));replace HB:=Za (Zw (by exact HB.out) hb);clear hb hbox hg)|((with_reducible refine ZI (N:=8) rfl ?_);refine Kd.R_lit (Kd.int .i64) _ 3 ?hg (N:=8) ?hd (xs:=([]:List Int)) (inner:=[]) (ok:=fun _=>True) (okp:=fun _=>True) ?hr ?hp (fun _ hk=>hk) trivial (Below.refl _ _) (Nat.le_refl _) (by simp) ?_;(case hd=>rfl);(case hg=>rfl);(case hr=>first|(go_simp;done)|(go_simp;rfl));(case hp=>exact(Reps.none _ _));intro v109003 w4 ho5 hb hg_ hnew_;clear hg_ hnew_;(first|rw[← Ny109002.out] at ho5|(simp only[Int.reduceToNat] at ho5;rw[← Ny109002.out] at ho5));have HO109004:=Za (Kd.R_lower ho5 (Zx (by exact HB.out)));replace BK109001:=Za (Zy BK109001.out hb);replace HB:=Za (Zw (by exact HB.out) hb);clear hb ho5))
 go_loopg [1,5,6] k (fun kq v1 v5 v6 w'=>∃(x1_1:Int) (x5_1:List Int) (x6_1:Int),v1=.int .i64 x1_1∧v6=.int .i64 x6_1∧Aside0 (Z3.l0 kq x1_1 x5_1 x6_1 l0_0 l0_1 a0_2=some r)∧Aside0 (kq≤k)∧Aside0 (Kd.R (Kd.int .i64) 3 w' w.heap.size (fun _=>True) v5 x5_1)∧Aside0 (w'.heap[gb109001]? = some (.cells #[(.slice A0_0 l0_0.length c0_0),(.slice A0_1 l0_1.length c0_1),.int .i64 a0_2] 35 (0,0)))∧Aside0 (Below w.heap.size w w'))
 case atStart=>exact⟨(a1),(y109002),(0),(by first|rfl|(simp;done)|(simp[*];done)),(by first|rfl|(simp;done)|(simp[*];done)),H',⟨Nat.le_refl _⟩,⟨by(with_reducible repeat(first|apply Kd.R_alloc|apply Kd.R_drewN|apply Kd.R_drew));exact HO109004.out⟩,⟨by(with_reducible repeat(first|refine Zp ?_ _|refine Zu ?_|refine Zo ?_ _));exact BK109001.out⟩,⟨by repeat(first|(with_reducible first|exact HB.out|apply Zn|apply Zm|apply Zt|refine Zq ?_ GE109001.out)|exact HB.out)⟩⟩
 case round=>
  clear H'
  try clear c1
  try clear p2
  obtain⟨x1_1,x5_1,x6_1,rfl,rfl,HA,HK1,HO_5,BK109001,HB⟩:=hrel
  cases gk with
  | zero=>exact absurd HA.out (by simp[Z3.l0])
  | succ k1=>
   have H:=HA.out
   clear HA
   simp only[Z3.l0] at H
   by_cases c6:x6_1≤(l0_0.length:Int)
   ·rw[if_pos c6] at H
    have c6b0:decide (x6_1≤(l0_0.length:Int))=true:=Ze c6
    clear c6
    replace H:=Zh H
    obtain⟨t109005,A70,H⟩:=H
    replace H:(if t109005<0 then(some x5_1) else(if x5_1.length<17592186044416 then(if 0≤t109005 then(if t109005<(l0_1.length:Int) then(Z3.l0 k1 ((Zv l0_1 t109005).f0) (x5_1 ++ [t109005]) (wrap64 (x6_1+1)) l0_0 l0_1 a0_2) else(none)) else(none)) else(none)))=some r:=H
    have A7:=Za A70;clear A70
    by_cases c8:t109005<0
    ·rw[if_pos c8] at H
     have c8b0:decide (t109005<0)=true:=Ze c8
     clear c8
     obtain rfl:=Zg H
     have hcz9_0:wr.cell? ⟨gb109001,0,none⟩=some (.slice A0_0 l0_0.length c0_0):=(Zs BK109001.out 0).trans rfl
     have hcz9_1:wr.cell? ⟨gb109001,1,none⟩=some (.slice A0_1 l0_1.length c0_1):=(Zs BK109001.out 1).trans rfl
     have hcz9_2:wr.cell? ⟨gb109001,2,none⟩=some (.int .i64 a0_2):=(Zs BK109001.out 2).trans rfl
     go_wp2_with (first|((with_reducible refine ZG (f:=76) rfl ?_);refine ZQ (some 18) rfl rfl Try.func76 (by kernel_rfl) rfl #[.agg #[.slice A0_0 l0_0.length c0_0,.slice A0_1 l0_1.length c0_1,.int .i64 a0_2],.int .i64 x1_1] rfl (by(try simp only[List.map_toArray,List.map_cons,List.map_nil]);first|done|rfl|(simp only[Zk,Zj];rfl)) ?_;(with_reducible refine(Z0.calls k1 _ _ l0_0 _ _ l0_1 a0_2 x1_1 t109005 _ ?side1 ?side2 ?side3 ?side4 A7.out).mono ?_);(case side1=>exact(Zb HR0_0.out HB.out));(case side2=>exact HC0_0.out);(case side3=>exact(Zb HR0_1.out HB.out));(case side4=>exact HC0_1.out);rintro e w10 ⟨rfl,hb⟩;refine⟨_,rfl,?_⟩;replace HO_5:=Za (Kd.R_below (by exact HO_5.out) hb);replace BK109001:=Za (Zy BK109001.out hb);replace HB:=Za (Zw (by exact HB.out) hb);(try clear hb);(try clear hb2);(try clear hk);(try clear hi)))
     go_ret
     exact⟨_,by first|rfl|(simp[ZB,ZA] <;> rfl)|(simp[*,ZB,ZA] <;> rfl),by(with_reducible repeat(first|apply Kd.R_alloc|apply Kd.R_drewN|apply Kd.R_drew));exact HO_5.out,by repeat(first|(with_reducible first|exact HB.out|apply Zn|apply Zm|apply Zt|refine Zq ?_ GE109001.out)|exact HB.out)⟩
    ·rw[if_neg c8] at H
     have c8b0:decide (t109005<0)=false:=Zf c8
     clear c8
     by_cases c11:x5_1.length<17592186044416
     ·rw[if_pos c11] at H
      have LMc11:=Za c11;clear c11
      obtain⟨y109006,hy109006⟩:∃y_:List Int,y_=(x5_1 ++ [t109005]):=⟨_,rfl⟩
      replace H:(if 0≤t109005 then(if t109005<(l0_1.length:Int) then(Z3.l0 k1 ((Zv l0_1 t109005).f0) y109006 (wrap64 (x6_1+1)) l0_0 l0_1 a0_2) else(none)) else(none))=some r:=by first|(rw[hy109006];with_reducible exact H)|(have H2_:=(Zi _ _).symm.trans H;rw[hy109006];with_reducible exact H2_)|(have H2_:=(Zi _ _).symm.trans H;with_reducible exact H2_)|with_reducible exact H|(rw[hy109006];exact H)|exact H
      have Ny109006:=Za hy109006;clear hy109006
      by_cases c12:0≤t109005
      ·rw[if_pos c12] at H
       have c12b0:decide (0≤t109005)=true:=Ze c12
       clear c12
       by_cases c13:t109005<(l0_1.length:Int)
       ·rw[if_pos c13] at H
        have c13b0:decide (t109005<(l0_1.length:Int))=true:=Ze c13
        clear c13
        have H':=Za H
        clear H
        have hcz14_0:wr.cell? ⟨gb109001,0,none⟩=some (.slice A0_0 l0_0.length c0_0):=(Zs BK109001.out 0).trans rfl
        have hcz14_1:wr.cell? ⟨gb109001,1,none⟩=some (.slice A0_1 l0_1.length c0_1):=(Zs BK109001.out 1).trans rfl
        have hcz14_2:wr.cell? ⟨gb109001,2,none⟩=some (.int .i64 a0_2):=(Zs BK109001.out 2).trans rfl
        go_wp2_with (first|((with_reducible refine ZG (f:=76) rfl ?_);refine ZQ (some 18) rfl rfl Try.func76 (by kernel_rfl) rfl #[.agg #[.slice A0_0 l0_0.length c0_0,.slice A0_1 l0_1.length c0_1,.int .i64 a0_2],.int .i64 x1_1] rfl (by(try simp only[List.map_toArray,List.map_cons,List.map_nil]);first|done|rfl|(simp only[Zk,Zj];rfl)) ?_;(with_reducible refine(Z0.calls k1 _ _ l0_0 _ _ l0_1 a0_2 x1_1 t109005 _ ?side1 ?side2 ?side3 ?side4 A7.out).mono ?_);(case side1=>exact(Zb HR0_0.out HB.out));(case side2=>exact HC0_0.out);(case side3=>exact(Zb HR0_1.out HB.out));(case side4=>exact HC0_1.out);rintro e w15 ⟨rfl,hb⟩;refine⟨_,rfl,?_⟩;replace HO_5:=Za (Kd.R_below (by exact HO_5.out) hb);replace BK109001:=Za (Zy BK109001.out hb);replace HB:=Za (Zw (by exact HB.out) hb);(try clear hb);(try clear hb2);(try clear hk);(try clear hi))|((with_reducible refine Zbf (b:=.append) (xs:=#[.tmp 22,.tmp 24]) rfl ?_);at_builtin;refine Kd.R_append (Kd.int .i64) (w0:=w) w.heap.size rfl (.tmp 22) (.tmp 24) 26 3 (.int .i64 0) 8 rfl Try.underlying26 info3 rfl (by decide) (by omega) u5 x5_1 t109005 [.int .i64 t109005] (fun _=>True) (fun _=>False) rfl rfl ?aP (fun _ hk=>hk.elim) ?aF ?aO ?aB ?aS ?aL ?_;(case aP=>exact rfl);(case aB=>exact(by exact HB.out));(case aF=>exact(fun _ _=>trivial));(case aO=>exact(by exact HO_5.out));(case aS=>exact(Zx (by exact HB.out)));(case aL=>have:=LMc11.out;omega);intro v109007 w16 ho hb hg hat;rw[← Ny109006.out] at ho;have HO109008:=Za (ho);replace BK109001:=Za (Zar (g:=gb109001) (o:=.cells #[.slice A0_0 l0_0.length c0_0,.slice A0_1 l0_1.length c0_1,.int .i64 a0_2] 35 (0,0)) BK109001.out hg (Kd.R_ne HO_5.out BK109001.out (by decide)));replace HB:=Za (hb);clear HO_5;clear ho hb hg hat;have hcz17_0:w16.cell? ⟨gb109001,0,none⟩=some (.slice A0_0 l0_0.length c0_0):=(Zs BK109001.out 0).trans rfl;have hcz17_1:w16.cell? ⟨gb109001,1,none⟩=some (.slice A0_1 l0_1.length c0_1):=(Zs BK109001.out 1).trans rfl;have hcz17_2:w16.cell? ⟨gb109001,2,none⟩=some (.int .i64 a0_2):=(Zs BK109001.out 2).trans rfl;have p109009:0≤(t109005:Int):=Zd (by with_reducible assumption);have q109009:t109005<(l0_1.length:Int):=Zd (by with_reducible assumption);obtain⟨ad109009,e109009,hx109009_0,hx109009_1,hx109009_2,hx109009_3,hx109009_4⟩:=ZaH HR0_1.out t109005 p109009 q109009;cases e109009;replace hx109009_0:=(HB.out.cell (Zc w _ hx109009_0)).trans hx109009_0;replace hx109009_1:=(HB.out.cell (Zc w _ hx109009_1)).trans hx109009_1;replace hx109009_2:=(HB.out.cell (Zc w _ hx109009_2)).trans hx109009_2;replace hx109009_3:=(HB.out.cell (Zc w _ hx109009_3)).trans hx109009_3;replace hx109009_4:=(HB.out.cell (Zc w _ hx109009_4)).trans hx109009_4;replace p109009:=eq_true p109009;replace q109009:=eq_true q109009))
        go_roundg k1
        case measure=>have:=HK1.out;omega
        case rel=>exact⟨((Zv l0_1 t109005).f0),(y109006),(wrap64 (x6_1+1)),(by first|rfl|(simp;done)|(simp[*];done)),(by first|rfl|(simp;done)|(simp[*];done)),H',⟨by have:=HK1.out;omega⟩,⟨by(with_reducible repeat(first|apply Kd.R_alloc|apply Kd.R_drewN|apply Kd.R_drew));exact HO109008.out⟩,⟨by(with_reducible repeat(first|refine Zp ?_ _|refine Zu ?_|refine Zo ?_ _));exact BK109001.out⟩,⟨by repeat(first|(with_reducible first|exact HB.out|apply Zn|apply Zm|apply Zt|refine Zq ?_ GE109001.out)|exact HB.out)⟩⟩
       ·rw[if_neg c13] at H
        exact absurd H (by simp)
      ·rw[if_neg c12] at H
       exact absurd H (by simp)
     ·rw[if_neg c11] at H
      exact absurd H (by simp)
   ·rw[if_neg c6] at H
    have c6b0:decide (x6_1≤(l0_0.length:Int))=false:=Zf c6
    clear c6
    obtain rfl:=Zg H
    have hcz18_0:wr.cell? ⟨gb109001,0,none⟩=some (.slice A0_0 l0_0.length c0_0):=(Zs BK109001.out 0).trans rfl
    have hcz18_1:wr.cell? ⟨gb109001,1,none⟩=some (.slice A0_1 l0_1.length c0_1):=(Zs BK109001.out 1).trans rfl
    have hcz18_2:wr.cell? ⟨gb109001,2,none⟩=some (.int .i64 a0_2):=(Zs BK109001.out 2).trans rfl
    go_wp2
    go_ret
    exact⟨_,by first|rfl|(simp[ZB,ZA] <;> rfl)|(simp[*,ZB,ZA] <;> rfl),by(with_reducible repeat(first|apply Kd.R_alloc|apply Kd.R_drewN|apply Kd.R_drew));exact HO_5.out,by repeat(first|(with_reducible first|exact HB.out|apply Zn|apply Zm|apply Zt|refine Zq ?_ GE109001.out)|exact HB.out)⟩
end Go.Proofs.Ytodfnelilhjoeaa.Pr
