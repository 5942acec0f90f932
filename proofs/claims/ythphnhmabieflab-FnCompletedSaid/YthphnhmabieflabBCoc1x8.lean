/- The texts of one claim, put together by a program of this session. -/
import Derived.Test.YthphnhmabieflabBCoc1x1
import Derived.Test.YthphnhmabieflabBCoc1x2
import Derived.Test.YthphnhmabieflabBCoc1x3
import Derived.Test.YthphnhmabieflabBCoc1x7
namespace Go.Proofs.Ythphnhmabieflab.Pr
open Go.RowKit Go.Proofs.YthphnhmabieflabW.PrintWords Go.Proofs.YthphnhmabieflabW.PrintLast Go.Proofs.YthphnhmabieflabW.PrintMore
attribute [local go_sem] Zaj Zah Zaq Zap Zab Zaa Zai Zag
set_option linter.unusedVariables false
set_option linter.unusedSimpArgs false
def Za7.f (a0:Int):Option (Int):=some (mx (-1000000) (mn a0 1000000))
set_option maxHeartbeats 8000000 in
set_option maxRecDepth 100000 in
theorem Za7.calls (a0:Int) (r:Int) (w:World) (h:Za7.f a0=some r) :
  Calls Try.prog 83 #[.int .i64 a0] w fun e w'=>e=.returned (.int .i64 r)∧Below w.heap.size w w':=by
 have HB:=Za (Below.refl w.heap.size w)
 have H:(some (mx (-1000000) (mn a0 1000000)))=some r:=h
 clear h
 obtain⟨ji2,hji2⟩:∃j_:Int,(mn a0 1000000)=j_:=⟨_,rfl⟩
 replace H:(some (mx (-1000000) (ji2)))=some r:=by first|(rw[hji2] at H;exact H)|(simp only[hji2] at H ⊢;exact H)
 (try(have hji2h:ji2≤1000000:=by(rw[← hji2];unfold mn;(repeat' split) <;> omega)))
 (try(have hji2g:ji2≤64:=by omega))
 have hji2_:(if 1000000<a0 then 1000000 else a0)=ji2:=hji2
 obtain⟨ji3,hji3⟩:∃j_:Int,(mx (-1000000) (ji2))=j_:=⟨_,rfl⟩
 replace H:(some ji3)=some r:=by first|(rw[hji3] at H;exact H)|(simp only[hji3] at H ⊢;exact H)
 have hji3_:(if (-1000000)<(ji2) then(ji2) else(-1000000))=ji3:=hji3
 obtain rfl:=Zg H
 go_enter Try.func83,Try.ntmps83
 go_wp2
 go_ret
 exact⟨by first|rfl|(simp[ZC,ZB] <;> rfl)|(simp only[← hji2,← hji3];first|rfl|(simp[ZC,ZB] <;> rfl))|(simp[*,ZC,ZB] <;> rfl),by repeat(first|(with_reducible first|exact HB.out|apply Zq|apply Zm|apply Zs)|exact HB.out)⟩
mutual
def ZG.l0:Nat→Int→Int→List (S123)→Int→List Int→Option (Int×List Int×Bool)
 | 0,_,_,_,_,_=>none
 | k+1,x5,x46002000,x46002001,x46005000,x46005001=>if x5<x46002000 then((Zan.f x46002000 x46002001 x5).bind fun bt46005=>(if bt46005.2=true then(ZG.l1 k x5 bt46005.1 (bt46005.1.length:Int) 0 x46002000 x46002001 x46005000 x46005001) else(some (0,([]:List Int),false)))) else(some (x46005000,x46005001,true))
def ZG.l1:Nat→Int→List Int→Int→Int→Int→List (S123)→Int→List Int→Option (Int×List Int×Bool)
 | 0,_,_,_,_,_,_,_,_=>none
 | k+1,x5,x32,x33,x34,x46002000,x46002001,x46005000,x46005001=>if x34<x33 then(if 0≤x34 then(if x34<(x32.length:Int) then((Za7.f (rd x32 x34)).bind fun t46010=>(if x46005001.length<17592186044416 then(ZG.l1 k x5 x32 x33 (wrap64 (x34+1)) x46002000 x46002001 x46005000 (x46005001 ++ [t46010])) else(none))) else(none)) else(none)) else(ZG.l0 k (wrap64 (x5+1)) x46002000 x46002001 x46005000 x46005001)
end
def ZG.f (k:Nat) (a0_0:Int) (l0_1:List (S123)):Option (Int×List Int×Bool):=(ZaT.f a0_0 l0_1).bind fun t46003=>(if t46003=true then(ZG.l0 k 0 a0_0 l0_1 a0_0 ([]:List Int)) else(some (0,([]:List Int),false)))
def ZG.T13:Bool×List (List Nat×List Nat):=(true,[([],[]),([0],[0]),([],[]),([2],[2]),([3],[3]),([1,4,3],[1,4]),([0,1,2,3,4,5],[]),([6,5,5,0,1,2,3,4,5],[5,6])])
def ZG.B13:List Nat:=[0,1,0,4,12,31,63,127]
theorem ZG.tab13:rtab .any (opsOf Try.f46 13)=ZG.T13:=by kernel_rfl
theorem ZG.bits13:Zbi ZG.T13.2 ZG.B13=true:=by kernel_rfl
set_option maxHeartbeats 8000000 in
set_option maxRecDepth 100000 in
theorem ZG.calls (k:Nat) (a0_0:Int) (A0_1:Option Addr) (c0_1:Nat) (l0_1:List (S123)) (r1:Int) (r2:List Int) (r3:Bool) (w:World) (hr0_1:Kd.C k123 w A0_1 l0_1.length l0_1) (hc0_1:l0_1.length≤c0_1) (h:ZG.f k a0_0 l0_1=some (r1,r2,r3)) :
  Calls Try.prog 46 #[.agg #[.int .i64 a0_0,.slice A0_1 l0_1.length c0_1]] w fun e w'=>∃v1_:Value,e=.returned (.tuple #[.agg #[.int .i64 r1,v1_],.bool r3])∧Kd.R (Kd.int .i64) 3 w' w.heap.size (fun _=>True) v1_ r2∧Below w.heap.size w w':=by
 have hu78:=Try.underlying78
 have hu73:=Try.underlying73
 have HR0_1:=Za hr0_1;have HC0_1:=Za hc0_1;clear hr0_1 hc0_1
 have HB:=Za (Below.refl w.heap.size w)
 have H:((ZaT.f a0_0 l0_1).bind fun t46003=>(if t46003=true then(ZG.l0 k 0 a0_0 l0_1 a0_0 ([]:List Int)) else(some (0,([]:List Int),false))))=some (r1,r2,r3):=h
 clear h
 replace H:=Zh H
 obtain⟨t46003,A20,H⟩:=H
 replace H:(if t46003=true then(ZG.l0 k 0 a0_0 l0_1 a0_0 ([]:List Int)) else(some (0,([]:List Int),false)))=some (r1,r2,r3):=H
 have A2:=Za A20;clear A20
 by_cases c3:t46003=true
 ·subst c3
  have H1:(ZG.l0 k 0 a0_0 l0_1 a0_0 ([]:List Int))=some (r1,r2,r3):=by rw[if_pos rfl] at H;exact H
  clear H
  have H:=H1
  clear H1
  have H':=Za H
  clear H
  go_enter Try.func46,Try.ntmps46
  go_wp2_with (first|((with_reducible refine ZM (N:=1) rfl ?_);refine ZK ?hg (N:=1) ?hd (cs:=#[.int .i64 a0_0,.slice A0_1 l0_1.length c0_1]) (t:=78) ?hr ?_;(case hd=>rfl);(case hg=>rfl);(case hr=>first|(go_simp;done)|(go_simp;rfl));intro gb46001 hg w4 hbox hb;have BK46001:=Za (hbox);have GW46001:=Za ((by rw[hg];exact(Zw (by repeat(first|(with_reducible first|exact HB.out|apply Zq|apply Zm|apply Zs)|exact HB.out))):w.heap.size≤gb46001));have GE46001:=Za ((by rw[hg];exact(Zw (by repeat(first|(with_reducible first|exact HB.out|apply Zq|apply Zm|apply Zs)|exact HB.out))):w.heap.size≤gb46001));replace HB:=Za (Zx (by repeat(first|(with_reducible first|exact HB.out|apply Zq|apply Zm|apply Zs)|exact HB.out)) hb);clear hb hbox hg)|((with_reducible refine ZM (N:=2) rfl ?_);refine ZK ?hg (N:=2) ?hd (cs:=#[.int .i64 0,.slice none 0 0]) (t:=73) ?hr ?_;(case hd=>rfl);(case hg=>rfl);(case hr=>first|(go_simp;done)|(go_simp;rfl));intro gb46002 hg w5 hbox hb;have BK46002:=Za (hbox);have GW46002:=Za ((by rw[hg];exact(Zw (by repeat(first|(with_reducible first|exact HB.out|apply Zq|apply Zm|apply Zs|refine Zp ?_ GE46001.out)|exact HB.out))):w.heap.size≤gb46002));have GE46002:=Za ((by rw[hg];exact(Zw (by repeat(first|(with_reducible first|exact HB.out|apply Zq|apply Zm|apply Zs|refine Zp ?_ GE46001.out)|exact HB.out))):w.heap.size≤gb46002));have NB46001_46002:=Za ((by rw[hg];exact Nat.ne_of_lt (ZH (g:=gb46001) (o:=.cells #[.int .i64 a0_0,.slice A0_1 l0_1.length c0_1] 78 (0,0)) (by(with_reducible repeat(first|refine Zo ?_ _|refine Zr ?_|refine Zn ?_ _));exact BK46001.out)):gb46001≠gb46002));have NB46002_46001:=Za ((by rw[hg];exact Nat.ne_of_gt (ZH (g:=gb46001) (o:=.cells #[.int .i64 a0_0,.slice A0_1 l0_1.length c0_1] 78 (0,0)) (by(with_reducible repeat(first|refine Zo ?_ _|refine Zr ?_|refine Zn ?_ _));exact BK46001.out)):gb46002≠gb46001));replace BK46001:=Za (Zy (g:=gb46001) (o:=.cells #[.int .i64 a0_0,.slice A0_1 l0_1.length c0_1] 78 (0,0)) (by(with_reducible repeat(first|refine Zo ?_ _|refine Zr ?_|refine Zn ?_ _));exact BK46001.out) hb);replace HB:=Za (Zx (by repeat(first|(with_reducible first|exact HB.out|apply Zq|apply Zm|apply Zs|refine Zp ?_ GE46001.out)|exact HB.out)) hb);clear hb hbox hg;have hnb6:=NB46001_46002.out;have hnc6:=NB46002_46001.out;have hcz7_0:w5.cell? ⟨gb46001,0,none⟩=some (.int .i64 a0_0):=(Zv BK46001.out 0).trans rfl;have hcz7_1:w5.cell? ⟨gb46001,1,none⟩=some (.slice A0_1 l0_1.length c0_1):=(Zv BK46001.out 1).trans rfl;have hfz7_0:=Zu BK46001.out 0;have hfz7_1:=Zu BK46001.out 1)|((with_reducible refine ZF (f:=81) rfl ?_);refine ZY (some 11) rfl rfl Try.func81 (by kernel_rfl) rfl #[.agg #[.int .i64 a0_0,.slice A0_1 l0_1.length c0_1]] rfl (by(try simp only[List.map_toArray,List.map_cons,List.map_nil]);first|done|rfl|(simp only[Zk,Zj];rfl)) ?_;(with_reducible refine(ZaT.calls a0_0 _ _ l0_1 true _ ?side1 ?side2 A2.out).mono ?_);(case side1=>repeat(first|exact(Zb HR0_1.out HB.out)|(with_reducible refine Kd.C_alloc ?_ _)|(with_reducible refine Kd.C_drewN ?_ _)|(with_reducible refine Kd.C_drew ?_)));(case side2=>exact HC0_1.out);rintro e w8 ⟨rfl,hb⟩;refine⟨_,rfl,?_⟩;replace BK46001:=Za (Zy (g:=gb46001) (o:=.cells #[.int .i64 a0_0,.slice A0_1 l0_1.length c0_1] 78 (0,0)) (by(with_reducible repeat(first|refine Zo ?_ _|refine Zr ?_|refine Zn ?_ _));exact BK46001.out) hb);replace BK46002:=Za (Zy (g:=gb46002) (o:=.cells #[.int .i64 0,.slice none 0 0] 73 (0,0)) (by(with_reducible repeat(first|refine Zo ?_ _|refine Zr ?_|refine Zn ?_ _));exact BK46002.out) hb);replace HB:=Za (Zx (by repeat(first|(with_reducible first|exact HB.out|apply Zq|apply Zm|apply Zs|refine Zp ?_ GE46001.out|refine Zp ?_ GE46002.out)|exact HB.out)) hb);(try clear hb);(try clear hb2);(try clear hk);(try clear hi);have hcz9_0:w8.cell? ⟨gb46001,0,none⟩=some (.int .i64 a0_0):=(Zv BK46001.out 0).trans rfl;have hcz9_1:w8.cell? ⟨gb46001,1,none⟩=some (.slice A0_1 l0_1.length c0_1):=(Zv BK46001.out 1).trans rfl;have hfz9_0:=Zu BK46001.out 0;have hfz9_1:=Zu BK46001.out 1)|((with_reducible refine ZM (N:=4) rfl ?_);refine ZK ?hg (N:=4) ?hd (cs:=#[.int .i64 0,.slice none 0 0]) (t:=73) ?hr ?_;(case hd=>rfl);(case hg=>rfl);(case hr=>first|(go_simp;done)|(go_simp;rfl));intro gb46004 hg w10 hbox hb;have BK46004:=Za (hbox);have GW46004:=Za ((by rw[hg];exact(Zw (by repeat(first|(with_reducible first|exact HB.out|apply Zq|apply Zm|apply Zs|refine Zp ?_ GE46001.out|refine Zp ?_ GE46002.out)|exact HB.out))):w.heap.size≤gb46004));have GE46004:=Za ((by rw[hg];exact(Zw (by repeat(first|(with_reducible first|exact HB.out|apply Zq|apply Zm|apply Zs|refine Zp ?_ GE46001.out|refine Zp ?_ GE46002.out)|exact HB.out))):w.heap.size≤gb46004));have NB46001_46004:=Za ((by rw[hg];exact Nat.ne_of_lt (ZH (g:=gb46001) (o:=.cells #[.int .i64 a0_0,.slice A0_1 l0_1.length c0_1] 78 (0,0)) (by(with_reducible repeat(first|refine Zo ?_ _|refine Zr ?_|refine Zn ?_ _));exact BK46001.out)):gb46001≠gb46004));have NB46004_46001:=Za ((by rw[hg];exact Nat.ne_of_gt (ZH (g:=gb46001) (o:=.cells #[.int .i64 a0_0,.slice A0_1 l0_1.length c0_1] 78 (0,0)) (by(with_reducible repeat(first|refine Zo ?_ _|refine Zr ?_|refine Zn ?_ _));exact BK46001.out)):gb46004≠gb46001));have NB46002_46004:=Za ((by rw[hg];exact Nat.ne_of_lt (ZH (g:=gb46002) (o:=.cells #[.int .i64 0,.slice none 0 0] 73 (0,0)) (by(with_reducible repeat(first|refine Zo ?_ _|refine Zr ?_|refine Zn ?_ _));exact BK46002.out)):gb46002≠gb46004));have NB46004_46002:=Za ((by rw[hg];exact Nat.ne_of_gt (ZH (g:=gb46002) (o:=.cells #[.int .i64 0,.slice none 0 0] 73 (0,0)) (by(with_reducible repeat(first|refine Zo ?_ _|refine Zr ?_|refine Zn ?_ _));exact BK46002.out)):gb46004≠gb46002));replace BK46001:=Za (Zy (g:=gb46001) (o:=.cells #[.int .i64 a0_0,.slice A0_1 l0_1.length c0_1] 78 (0,0)) (by(with_reducible repeat(first|refine Zo ?_ _|refine Zr ?_|refine Zn ?_ _));exact BK46001.out) hb);replace BK46002:=Za (Zy (g:=gb46002) (o:=.cells #[.int .i64 0,.slice none 0 0] 73 (0,0)) (by(with_reducible repeat(first|refine Zo ?_ _|refine Zr ?_|refine Zn ?_ _));exact BK46002.out) hb);replace HB:=Za (Zx (by repeat(first|(with_reducible first|exact HB.out|apply Zq|apply Zm|apply Zs|refine Zp ?_ GE46001.out|refine Zp ?_ GE46002.out)|exact HB.out)) hb);clear hb hbox hg;have hnb11:=NB46004_46001.out;have hnc11:=NB46001_46004.out;have hnb12:=NB46004_46002.out;have hnc12:=NB46002_46004.out;have hcz13_0:w10.cell? ⟨gb46004,0,none⟩=some (.int .i64 0):=(Zv BK46004.out 0).trans rfl;have hcz13_1:w10.cell? ⟨gb46004,1,none⟩=some (.slice none 0 0):=(Zv BK46004.out 1).trans rfl;have hfz13_0:=Zu BK46004.out 0;have hfz13_1:=Zu BK46004.out 1))
  go_loopg [5] k (fun kq v5 w'=>∃(x5_1:Int) (x46003000_1:Int) (x46005001_1:List Int) (u46005001:Value),v5=.int .i64 x5_1∧Aside0 (ZG.l0 kq x5_1 a0_0 l0_1 a0_0 x46005001_1=some (r1,r2,r3))∧Aside0 (kq≤k)∧Aside0 (Kd.R (Kd.int .i64) 3 w' w.heap.size (fun _=>True) u46005001 x46005001_1)∧Aside0 (w'.heap[gb46001]? = some (.cells #[.int .i64 a0_0,(.slice A0_1 l0_1.length c0_1)] 78 (0,0)))∧Aside0 (w'.heap[gb46002]? = some (.cells #[.int .i64 x46003000_1,(.slice none 0 0)] 73 (0,0)))∧Aside0 (w'.heap[gb46004]? = some (.cells #[.int .i64 a0_0,u46005001] 73 (0,0)))∧Aside0 (Below w.heap.size w w'))
  case atStart=>exact⟨(0),(0),(([]:List Int)),(.slice none 0 0),(by first|rfl|(simp;done)|(simp[*];done)),H',⟨Nat.le_refl _⟩,⟨by first|exact Kd.R_nil _ _ _ _ _|exact Kd.N_nil _ _ _ _ _|exact Kd.V_nil _ _ _ _ _|exact Kd.Q_nil _ _ _ _ _|exact Kd.S_nil _ _ _ _ _⟩,⟨by(with_reducible repeat(first|refine Zo ?_ _|refine Zr ?_|refine Zn ?_ _));refine ZD ?_ NB46001_46004.out _;(with_reducible repeat(first|refine Zo ?_ _|refine Zr ?_|refine Zn ?_ _));refine ZD ?_ NB46001_46004.out _;(with_reducible repeat(first|refine Zo ?_ _|refine Zr ?_|refine Zn ?_ _));exact BK46001.out⟩,⟨by(with_reducible repeat(first|refine Zo ?_ _|refine Zr ?_|refine Zn ?_ _));refine ZD ?_ NB46002_46004.out _;(with_reducible repeat(first|refine Zo ?_ _|refine Zr ?_|refine Zn ?_ _));refine ZD ?_ NB46002_46004.out _;(with_reducible repeat(first|refine Zo ?_ _|refine Zr ?_|refine Zn ?_ _));exact BK46002.out⟩,⟨by(with_reducible repeat(first|refine Zo ?_ _|refine Zr ?_|refine Zn ?_ _));refine ZL (cs:=#[.int .i64 a0_0,.slice none 0 0]) ?_ 1 _ rfl;(with_reducible repeat(first|refine Zo ?_ _|refine Zr ?_|refine Zn ?_ _));refine ZL (cs:=#[.int .i64 0,.slice none 0 0]) ?_ 0 _ rfl;(with_reducible repeat(first|refine Zo ?_ _|refine Zr ?_|refine Zn ?_ _));exact BK46004.out⟩,⟨by repeat(first|(with_reducible first|exact HB.out|apply Zq|apply Zm|apply Zs|refine Zp ?_ GE46001.out|refine Zp ?_ GE46002.out|refine Zp ?_ GE46004.out)|exact HB.out)⟩⟩
  case round=>
   clear H'
   try clear c1
   try clear p2
   try clear c3
   try clear c4
   try clear c6
   try clear c8
   try clear c11
   try clear c12
   try clear hcz13_0
   try clear hcz13_1
   try clear hcz7_0
   try clear hcz7_1
   try clear hcz9_0
   try clear hcz9_1
   try clear hfz13_0
   try clear hfz13_1
   try clear hfz7_0
   try clear hfz7_1
   try clear hfz9_0
   try clear hfz9_1
   obtain⟨x5_1,x46003000_1,x46005001_1,u46005001,rfl,HA,HK1,HO_46005001,BK46001,BK46002,BK46004,HB⟩:=hrel
   cases gk with
   | zero=>exact absurd HA.out (by simp[ZG.l0])
   | succ k1=>
    have H:=HA.out
    clear HA
    simp only[ZG.l0] at H
    by_cases c14:x5_1<a0_0
    ·rw[if_pos c14] at H
     have c14b0:decide (x5_1<a0_0)=true:=Ze c14
     clear c14
     replace H:=Zh H
     obtain⟨⟨t46005,t46008⟩,A150,H⟩:=H
     replace H:(if t46008=true then(ZG.l1 k1 x5_1 t46005 (t46005.length:Int) 0 a0_0 l0_1 a0_0 x46005001_1) else(some (0,([]:List Int),false)))=some (r1,r2,r3):=H
     have A15:=Za A150;clear A150
     by_cases c16:t46008=true
     ·subst c16
      have H1:(ZG.l1 k1 x5_1 t46005 (t46005.length:Int) 0 a0_0 l0_1 a0_0 x46005001_1)=some (r1,r2,r3):=by rw[if_pos rfl] at H;exact H
      clear H
      have H:=H1
      clear H1
      have H':=Za H
      clear H
      have hnb17:=NB46001_46002.out
      have hnc17:=NB46002_46001.out
      have hnb18:=NB46001_46004.out
      have hnc18:=NB46004_46001.out
      have hcz19_0:wr.cell? ⟨gb46001,0,none⟩=some (.int .i64 a0_0):=(Zv BK46001.out 0).trans rfl
      have hcz19_1:wr.cell? ⟨gb46001,1,none⟩=some (.slice A0_1 l0_1.length c0_1):=(Zv BK46001.out 1).trans rfl
      have hfz19_0:=Zu BK46001.out 0
      have hfz19_1:=Zu BK46001.out 1
      go_wp2_with (first|((with_reducible refine ZF (f:=82) rfl ?_);refine ZY (some 26) rfl rfl Try.func82 (by kernel_rfl) rfl #[.agg #[.int .i64 a0_0,.slice A0_1 l0_1.length c0_1],.int .i64 x5_1] rfl (by(try simp only[List.map_toArray,List.map_cons,List.map_nil]);first|done|rfl|(simp only[Zk,Zj];rfl)) ?_;(with_reducible refine(Zan.calls a0_0 _ _ l0_1 x5_1 t46005 true _ ?side1 ?side2 A15.out).mono ?_);(case side1=>repeat(first|exact(Zb HR0_1.out HB.out)|(with_reducible refine Kd.C_alloc ?_ _)|(with_reducible refine Kd.C_drewN ?_ _)|(with_reducible refine Kd.C_drew ?_)));(case side2=>exact HC0_1.out);rintro e w20 ⟨v46006,rfl,ho0,hb⟩;refine⟨_,rfl,?_⟩;have HO46007:=Za (Kd.R_lower (Kd.R_new' ho0 (Kd.R_lt (by(with_reducible repeat(first|apply Kd.R_alloc|apply Kd.R_drewN|apply Kd.R_drew));exact HO_46005001.out))) (Zw (by repeat(first|(with_reducible first|exact HB.out|apply Zq|apply Zm|apply Zs|refine Zp ?_ GE46001.out|refine Zp ?_ GE46002.out|refine Zp ?_ GE46004.out)|exact HB.out))));replace HO_46005001:=Za (Kd.R_elder' (by(with_reducible repeat(first|apply Kd.R_alloc|apply Kd.R_drewN|apply Kd.R_drew));exact HO_46005001.out) (Kd.R_base ho0) hb);replace BK46001:=Za (Zy (g:=gb46001) (o:=.cells #[.int .i64 a0_0,.slice A0_1 l0_1.length c0_1] 78 (0,0)) (by(with_reducible repeat(first|refine Zo ?_ _|refine Zr ?_|refine Zn ?_ _));exact BK46001.out) hb);replace BK46002:=Za (Zy (g:=gb46002) (o:=.cells #[.int .i64 x46003000_1,.slice none 0 0] 73 (0,0)) (by(with_reducible repeat(first|refine Zo ?_ _|refine Zr ?_|refine Zn ?_ _));exact BK46002.out) hb);replace BK46004:=Za (Zy (g:=gb46004) (o:=.cells #[.int .i64 a0_0,u46005001] 73 (0,0)) (by(with_reducible repeat(first|refine Zo ?_ _|refine Zr ?_|refine Zn ?_ _));exact BK46004.out) hb);replace HB:=Za (Zx (by repeat(first|(with_reducible first|exact HB.out|apply Zq|apply Zm|apply Zs|refine Zp ?_ GE46001.out|refine Zp ?_ GE46002.out|refine Zp ?_ GE46004.out)|exact HB.out)) hb);(try clear hb);(try clear hb2);(try clear hk);(try clear hi);(try clear ho0);obtain⟨Ao21,co21,eo21⟩:=Kd.R_slice HO46007.out;subst eo21))
      go_loopg [34] k1 (fun kq v34 w'=>∃(x34_2:Int) (x46005001_2:List Int) (u46005001:Value),v34=.int .i64 x34_2∧Aside0 (ZG.l1 kq x5_1 t46005 (t46005.length:Int) x34_2 a0_0 l0_1 a0_0 x46005001_2=some (r1,r2,r3))∧Aside0 (kq≤k1)∧Aside0 (Kd.R (Kd.int .i64) 3 w' w.heap.size (fun k_=>some k_≠(u46005001:Value).ownBlock) (.slice Ao21 t46005.length co21) t46005)∧Aside0 (Kd.R (Kd.int .i64) 3 w' w.heap.size (fun k_=>some k_≠((.slice Ao21 t46005.length co21):Value).ownBlock) u46005001 x46005001_2)∧Aside0 (w'.heap[gb46001]? = some (.cells #[.int .i64 a0_0,(.slice A0_1 l0_1.length c0_1)] 78 (0,0)))∧Aside0 (w'.heap[gb46002]? = some (.cells #[.int .i64 x46003000_1,(.slice none 0 0)] 73 (0,0)))∧Aside0 (w'.heap[gb46004]? = some (.cells #[.int .i64 a0_0,u46005001] 73 (0,0)))∧Aside0 (Below w.heap.size w w'))
      case atStart=>exact⟨(0),(x46005001_1),(u46005001),(by first|rfl|(simp;done)|(simp[*];done)),H',⟨Nat.le_refl _⟩,⟨by(with_reducible repeat(first|apply Kd.R_alloc|apply Kd.R_drewN|apply Kd.R_drew));exact Kd.R_mono HO46007.out (fun _ hk=>hk.2)⟩,⟨by(with_reducible repeat(first|apply Kd.R_alloc|apply Kd.R_drewN|apply Kd.R_drew));exact Kd.R_mono HO_46005001.out (fun _ hk=>hk.2)⟩,⟨by(with_reducible repeat(first|refine Zo ?_ _|refine Zr ?_|refine Zn ?_ _));exact BK46001.out⟩,⟨by(with_reducible repeat(first|refine Zo ?_ _|refine Zr ?_|refine Zn ?_ _));exact BK46002.out⟩,⟨by(with_reducible repeat(first|refine Zo ?_ _|refine Zr ?_|refine Zn ?_ _));exact BK46004.out⟩,⟨by repeat(first|(with_reducible first|exact HB.out|apply Zq|apply Zm|apply Zs|refine Zp ?_ GE46001.out|refine Zp ?_ GE46002.out|refine Zp ?_ GE46004.out)|exact HB.out)⟩⟩
      case round=>
       clear H'
       try clear c1
       try clear p2
       try clear c3
       try clear c4
       try clear c6
       try clear c8
       try clear c11
       try clear c12
       try clear c14
       try clear c14b0
       try clear c16
       try clear c17
       try clear c18
       try clear hcz13_0
       try clear hcz13_1
       try clear hcz19_0
       try clear hcz19_1
       try clear hcz7_0
       try clear hcz7_1
       try clear hcz9_0
       try clear hcz9_1
       try clear hfz13_0
       try clear hfz13_1
       try clear hfz19_0
       try clear hfz19_1
       try clear hfz7_0
       try clear hfz7_1
       try clear hfz9_0
       try clear hfz9_1
       try clear p2
       obtain⟨x34_2,x46005001_2,u46005001,rfl,HA,HK2,HO_32,HO_46005001,BK46001,BK46002,BK46004,HB⟩:=hrel
       cases gk with
       | zero=>exact absurd HA.out (by simp[ZG.l1])
       | succ k2=>
        have H:=HA.out
        clear HA
        simp only[ZG.l1] at H
        by_cases c22:x34_2<(t46005.length:Int)
        ·rw[if_pos c22] at H
         have c22b0:decide (x34_2<(t46005.length:Int))=true:=Ze c22
         clear c22
         by_cases c23:0≤x34_2
         ·rw[if_pos c23] at H
          have c23b0:decide (0≤x34_2)=true:=Ze c23
          clear c23
          by_cases c24:x34_2<(t46005.length:Int)
          ·rw[if_pos c24] at H
           have c24b0:decide (x34_2<(t46005.length:Int))=true:=Ze c24
           clear c24
           replace H:=Zh H
           obtain⟨t46010,A250,H⟩:=H
           replace H:(if x46005001_2.length<17592186044416 then(ZG.l1 k2 x5_1 t46005 (t46005.length:Int) (wrap64 (x34_2+1)) a0_0 l0_1 a0_0 (x46005001_2 ++ [t46010])) else(none))=some (r1,r2,r3):=H
           have A25:=Za A250;clear A250
           by_cases c26:x46005001_2.length<17592186044416
           ·rw[if_pos c26] at H
            have LMc26:=Za c26;clear c26
            obtain⟨y46011,hy46011⟩:∃y_:List Int,y_=(x46005001_2 ++ [t46010]):=⟨_,rfl⟩
            replace H:(ZG.l1 k2 x5_1 t46005 (t46005.length:Int) (wrap64 (x34_2+1)) a0_0 l0_1 a0_0 y46011)=some (r1,r2,r3):=by first|(rw[hy46011];with_reducible exact H)|(have H2_:=(Zi _ _).symm.trans H;rw[hy46011];with_reducible exact H2_)|(have H2_:=(Zi _ _).symm.trans H;with_reducible exact H2_)|with_reducible exact H|(rw[hy46011];exact H)|exact H
            have Ny46011:=Za hy46011;clear hy46011
            have H':=Za H
            clear H
            have p46009:0≤(x34_2:Int):=Zd (by first|(with_reducible assumption)|assumption)
            have q46009:x34_2<(t46005.length:Int):=Zd (by first|(with_reducible assumption)|assumption)
            obtain⟨ad46009,e46009,hx46009_0⟩:=Kd.at_int (Kd.R_reads' HO_32.out).2.2 x34_2 p46009 q46009
            cases e46009
            replace p46009:=eq_true p46009
            replace q46009:=eq_true q46009
            try go_wp2
            replace HO_32:=Za (Kd.R_drew HO_32.out);replace HO_46005001:=Za (Kd.R_drew HO_46005001.out);replace BK46001:=Za (Zr BK46001.out);replace BK46002:=Za (Zr BK46002.out);replace BK46004:=Za (Zr BK46004.out);replace HB:=Za (Zs HB.out)
            refine ZbL (n:=8) (S:=fun w'=>w'.cell? ⟨gb46004,0,none⟩=some (.int .i64 a0_0)∧w'.cell? ⟨gb46004,1,none⟩=some (u46005001)) (ds:=[7]) #[false,false,false,false,false,false,false,false] (by kernel_rfl) rfl rfl ⟨(Zv BK46004.out 0).trans rfl,(Zv BK46004.out 1).trans rfl⟩ (fun hHeld=>?_);refine Zby ZG.tab13 ZG.bits13 (fun HT_ HW_=>?_)
            generalize wr.drew=w27 at HO_32 HO_46005001 BK46001 BK46002 BK46004 HB hHeld ⊢
            refine Z7 (i:=0) (N:=some 38) (v:=?_) (a':=?_) #[true,false,false,false,false,false,false,false] rfl rfl (Z6 HT_.out (by kernel_rfl)) (fun _ _ _ h=>h) (Or.inl ⟨by rfl,?_⟩) ?_ ?_
            rotate_left
            ·intro w'
             go_simp
             with_reducible rfl
            rotate_left
            ·simp only[Act.put,List.setIfInBounds_toArray,List.set_cons_zero,List.set_cons_succ,ZQ,ZR]
             rfl
            refine Z7 (i:=2) (N:=some 40) (v:=?_) (a':=?_) #[true,false,true,false,false,false,false,false] rfl rfl (Z6 HT_.out (by kernel_rfl)) (fun _ _ _ h=>h) (Or.inl ⟨by rfl,?_⟩) ?_ ?_
            rotate_left
            ·intro w'
             go_simp
             with_reducible rfl
            rotate_left
            ·simp only[Act.put,List.setIfInBounds_toArray,List.set_cons_zero,List.set_cons_succ,ZQ,ZR]
             rfl
            refine take_ (i:=1) (N:=some 39) (v:=?_) (a':=?_) #[true,true,true,false,false,false,false,false] rfl rfl (ZaU HT_.out HW_.out (by kernel_rfl)) (fun _ _ _ h=>h) (Or.inl ⟨by rfl,?_⟩) hHeld ?_ ?_
            rotate_left
            ·rintro w' ⟨s0,s1⟩
             go_simp
             with_reducible rfl
            rotate_left
            ·simp only[Act.put,List.setIfInBounds_toArray,List.set_cons_zero,List.set_cons_succ,ZQ,ZR]
             rfl
            refine one_ (i:=3) (N:=some 41) #[true,true,true,true,false,false,false,false] rfl rfl (ZaI HT_.out (by kernel_rfl)) (by decide) (fun K hK=>?_)
            refine Zbh Try.func83 (by kernel_rfl) rfl #[.int .i64 (rd t46005 x34_2)] (by rfl) rfl rfl (by(try simp only[List.map_toArray,List.map_cons,List.map_nil]);first|done|rfl|(simp only[Zk,Zj];rfl)) ?_
            with_reducible refine(Za7.calls (rd t46005 x34_2) t46010 _ A25.out).mono ?_
            rintro e w28 ⟨rfl,hb⟩
            refine⟨_,rfl,?_⟩
            replace HO_32:=Za (Kd.R_below (by(with_reducible repeat(first|apply Kd.R_alloc|apply Kd.R_drewN|apply Kd.R_drew));exact HO_32.out) hb);replace HO_46005001:=Za (Kd.R_below (by(with_reducible repeat(first|apply Kd.R_alloc|apply Kd.R_drewN|apply Kd.R_drew));exact HO_46005001.out) hb);replace BK46001:=Za (Zy (g:=gb46001) (o:=.cells #[.int .i64 a0_0,.slice A0_1 l0_1.length c0_1] 78 (0,0)) (by(with_reducible repeat(first|refine Zo ?_ _|refine Zr ?_|refine Zn ?_ _));exact BK46001.out) hb);replace BK46002:=Za (Zy (g:=gb46002) (o:=.cells #[.int .i64 x46003000_1,.slice none 0 0] 73 (0,0)) (by(with_reducible repeat(first|refine Zo ?_ _|refine Zr ?_|refine Zn ?_ _));exact BK46002.out) hb);replace BK46004:=Za (Zy (g:=gb46004) (o:=.cells #[.int .i64 a0_0,u46005001] 73 (0,0)) (by(with_reducible repeat(first|refine Zo ?_ _|refine Zr ?_|refine Zn ?_ _));exact BK46004.out) hb);replace HB:=Za (Zx (by repeat(first|(with_reducible first|exact HB.out|apply Zq|apply Zm|apply Zs|refine Zp ?_ GE46001.out|refine Zp ?_ GE46002.out|refine Zp ?_ GE46004.out)|exact HB.out)) hb)
            (try clear hb)
            (try clear hb2)
            (try clear hk)
            (try clear hi)
            refine hK.out _ _ ⟨(Zv BK46004.out 0).trans rfl,(Zv BK46004.out 1).trans rfl⟩ (fun hHeld=>?_)
            clear hK K
            refine Zau (a':=?_) ?_ ?_
            rotate_left
            ·show Act.put _ (some 41) _=_
             simp only[Act.put,List.setIfInBounds_toArray,List.set_cons_zero,List.set_cons_succ,ZQ,ZR]
             rfl
            refine one_ (i:=4) (N:=some 42) #[true,true,true,true,true,false,false,false] rfl rfl (ZaI HT_.out (by kernel_rfl)) (by decide) (fun K hK=>?_)
            refine value_ (w1:=?_) (v:=?_) (by rfl) rfl ?_ ?_
            rotate_left 2
            ·go_simp
             constructor
             ·rfl
             ·rfl
            refine hK.out _ _ ⟨(Zv (Zn BK46004.out _) 0).trans rfl,(Zv (Zn BK46004.out _) 1).trans rfl⟩ (fun hHeld=>?_)
            clear hK K
            refine Zau (a':=?_) ?_ ?_
            rotate_left
            ·show Act.put _ (some 42) _=_
             simp only[Act.put,List.setIfInBounds_toArray,List.set_cons_zero,List.set_cons_succ,ZQ,ZR]
             rfl
            refine one_ (i:=5) (N:=some 43) #[true,true,true,true,true,true,false,false] rfl rfl (ZaI HT_.out (by kernel_rfl)) (by decide) (fun K hK=>?_)
            refine Kd.R_append_step (Kd.int .i64) (w0:=w) w.heap.size (by rfl) (.tmp 39) (.tmp 42) 22 3 (.int .i64 0) 8 rfl Try.underlying22 Zbg rfl (by decide) (by omega) u46005001 x46005001_2 t46010 [.int .i64 t46010] (fun k_=>some k_≠(.slice (some ad46009) t46005.length co21:Value).ownBlock) (fun _=>False) rfl rfl ?aP (fun _ hk=>hk.elim) ?aF ?aO ?aB ?aS ?aL ?_
            (case aP=>exact rfl)
            (case aB=>exact(by repeat(first|(with_reducible first|exact HB.out|apply Zq|apply Zm|apply Zs|refine Zp ?_ GE46001.out|refine Zp ?_ GE46002.out|refine Zp ?_ GE46004.out)|exact HB.out)))
            (case aF=>exact(fun k_ hk=>Kd.fresh' (Kd.R_lt (by(with_reducible repeat(first|apply Kd.R_alloc|apply Kd.R_drewN|apply Kd.R_drew));exact HO_32.out)) k_ hk))
            (case aO=>exact(by(with_reducible repeat(first|apply Kd.R_alloc|apply Kd.R_drewN|apply Kd.R_drew));exact HO_46005001.out))
            (case aS=>exact(Zw (by repeat(first|(with_reducible first|exact HB.out|apply Zq|apply Zm|apply Zs|refine Zp ?_ GE46001.out|refine Zp ?_ GE46002.out|refine Zp ?_ GE46004.out)|exact HB.out))))
            (case aL=>have:=LMc26.out;omega)
            intro v46012 w29 ho hb hg hat
            rw[← Ny46011.out] at ho
            have HO46013:=Za (ho);replace HO_32:=Za (Kd.R_after (ok:=(fun _=>True)) (by(with_reducible repeat(first|apply Kd.R_alloc|apply Kd.R_drewN|apply Kd.R_drew));exact Kd.R_mono HO_32.out (fun _ hk=>⟨trivial,hk⟩)) hg hat);replace BK46001:=Za (Z0 (g:=gb46001) (o:=.cells #[.int .i64 a0_0,.slice A0_1 l0_1.length c0_1] 78 (0,0)) (by(with_reducible repeat(first|refine Zo ?_ _|refine Zr ?_|refine Zn ?_ _));exact BK46001.out) hg (Kd.R_ne HO_46005001.out BK46001.out (by decide)));replace BK46002:=Za (Z0 (g:=gb46002) (o:=.cells #[.int .i64 x46003000_1,.slice none 0 0] 73 (0,0)) (by(with_reducible repeat(first|refine Zo ?_ _|refine Zr ?_|refine Zn ?_ _));exact BK46002.out) hg (Kd.R_ne HO_46005001.out BK46002.out (by decide)));replace BK46004:=Za (Z0 (g:=gb46004) (o:=.cells #[.int .i64 a0_0,u46005001] 73 (0,0)) (by(with_reducible repeat(first|refine Zo ?_ _|refine Zr ?_|refine Zn ?_ _));exact BK46004.out) hg (Kd.R_ne HO_46005001.out BK46004.out (by decide)));replace HB:=Za (hb);clear HO_46005001 ho hb hg hat
            obtain⟨Ao30,co30,eo30⟩:=Kd.R_slice HO46013.out
            (first|subst eo30|(injection eo30 with f1_ f2_ f3_;have f4_:=f1_.symm;have f5_:=f3_.symm;clear f1_ f2_ f3_;subst f4_;subst f5_))
            refine hK.out _ _ ⟨(Zv BK46004.out 0).trans rfl,(Zv BK46004.out 1).trans rfl⟩ (fun hHeld=>?_)
            clear hK K
            refine Zau (a':=?_) ?_ ?_
            rotate_left
            ·show Act.put _ (some 43) _=_
             simp only[Act.put,List.setIfInBounds_toArray,List.set_cons_zero,List.set_cons_succ,ZQ,ZR]
             rfl
            refine Z7 (i:=6) (N:=some 44) (v:=?_) (a':=?_) #[true,true,true,true,true,true,true,false] rfl rfl (Z6 HT_.out (by kernel_rfl)) (fun _ _ _ h=>h) (Or.inl ⟨by rfl,?_⟩) ?_ ?_
            rotate_left
            ·intro w'
             go_simp
             with_reducible rfl
            rotate_left
            ·simp only[Act.put,List.setIfInBounds_toArray,List.set_cons_zero,List.set_cons_succ,ZQ,ZR]
             rfl
            refine last_ (i:=7) (N:=none) #[true,true,true,true,true,true,true,true] rfl rfl (ZaI HT_.out (by kernel_rfl)) (by decide) (fun K hK=>?_)
            have hs31:w29.cell? ⟨gb46004,1,none⟩=some (u46005001):=(Zv BK46004.out 1).trans rfl
            have hfs31:=Zu BK46004.out 1
            have hns31_0:=NB46001_46004.out
            have hns31_1:=NB46002_46004.out
            have hms31_0:=NB46004_46001.out
            have hms31_1:=NB46004_46002.out
            refine skip_ (w1:=?_) (by rfl) rfl ?_ ?_
            rotate_left
            ·go_simp
             rfl
            refine hK.out _ _ ?_
            clear hK K
            refine Zb5 (ZbT HT_.out (by kernel_rfl)) ?_
            try go_wp2
            go_roundg k2
            case measure=>have:=HK1.out;have:=HK2.out;omega
            case rel=>exact⟨(wrap64 (x34_2+1)),(y46011),(.slice Ao30 y46011.length co30),(by first|rfl|(simp;done)|(simp[*];done)),H',⟨by have:=HK1.out;have:=HK2.out;omega⟩,⟨by(with_reducible repeat(first|apply Kd.R_alloc|apply Kd.R_drewN|apply Kd.R_drew));exact Kd.R_mono (Kd.R_far (p:=⟨gb46004,1,none⟩) (Kd.R_types HO_32.out BK46004.out (by decide)) (fun _ hk=>hk.2) (.slice Ao30 y46011.length co30)) (fun _ hk=>hk.1.2)⟩,⟨by(with_reducible repeat(first|apply Kd.R_alloc|apply Kd.R_drewN|apply Kd.R_drew));exact Kd.R_mono (Kd.R_far (p:=⟨gb46004,1,none⟩) (Kd.R_types HO46013.out BK46004.out (by decide)) (fun _ hk=>hk.2) (.slice Ao30 y46011.length co30)) (fun _ hk=>hk.1)⟩,⟨by(with_reducible repeat(first|refine Zo ?_ _|refine Zr ?_|refine Zn ?_ _));refine ZD ?_ NB46001_46004.out _;(with_reducible repeat(first|refine Zo ?_ _|refine Zr ?_|refine Zn ?_ _));exact BK46001.out⟩,⟨by(with_reducible repeat(first|refine Zo ?_ _|refine Zr ?_|refine Zn ?_ _));refine ZD ?_ NB46002_46004.out _;(with_reducible repeat(first|refine Zo ?_ _|refine Zr ?_|refine Zn ?_ _));exact BK46002.out⟩,⟨by(with_reducible repeat(first|refine Zo ?_ _|refine Zr ?_|refine Zn ?_ _));refine ZL (cs:=#[.int .i64 a0_0,u46005001]) ?_ 1 _ rfl;(with_reducible repeat(first|refine Zo ?_ _|refine Zr ?_|refine Zn ?_ _));exact BK46004.out⟩,⟨by repeat(first|(with_reducible first|exact HB.out|apply Zq|apply Zm|apply Zs|refine Zp ?_ GE46001.out|refine Zp ?_ GE46002.out|refine Zp ?_ GE46004.out)|exact HB.out)⟩⟩
           ·rw[if_neg c26] at H
            exact absurd H (by simp)
          ·rw[if_neg c24] at H
           exact absurd H (by simp)
         ·rw[if_neg c23] at H
          exact absurd H (by simp)
        ·rw[if_neg c22] at H
         have c22b0:decide (x34_2<(t46005.length:Int))=false:=Zf c22
         clear c22
         have H':=Za H
         clear H
         go_wp2
         go_roundg k2
         case measure=>have:=HK1.out;have:=HK2.out;omega
         case rel=>exact⟨(wrap64 (x5_1+1)),(x46003000_1),(x46005001_2),(u46005001),(by first|rfl|(simp;done)|(simp[*];done)),H',⟨by have:=HK1.out;have:=HK2.out;omega⟩,⟨by(with_reducible repeat(first|apply Kd.R_alloc|apply Kd.R_drewN|apply Kd.R_drew));exact Kd.R_mono HO_46005001.out (fun _ hk=>trivial)⟩,⟨by(with_reducible repeat(first|refine Zo ?_ _|refine Zr ?_|refine Zn ?_ _));exact BK46001.out⟩,⟨by(with_reducible repeat(first|refine Zo ?_ _|refine Zr ?_|refine Zn ?_ _));exact BK46002.out⟩,⟨by(with_reducible repeat(first|refine Zo ?_ _|refine Zr ?_|refine Zn ?_ _));exact BK46004.out⟩,⟨by repeat(first|(with_reducible first|exact HB.out|apply Zq|apply Zm|apply Zs|refine Zp ?_ GE46001.out|refine Zp ?_ GE46002.out|refine Zp ?_ GE46004.out)|exact HB.out)⟩⟩
     ·replace c16:=Bool.eq_false_iff.mpr c16
      subst c16
      have H1:(some (0,([]:List Int),false))=some (r1,r2,r3):=by rw[if_neg (show ¬(false=true) by decide)] at H;exact H
      clear H
      have H:=H1
      clear H1
      simp only[Option.some.injEq,Prod.mk.injEq] at H
      obtain⟨rfl,rfl,rfl⟩:=H
      have hnb32:=NB46001_46002.out
      have hnc32:=NB46002_46001.out
      have hnb33:=NB46001_46004.out
      have hnc33:=NB46004_46001.out
      have hcz34_0:wr.cell? ⟨gb46001,0,none⟩=some (.int .i64 a0_0):=(Zv BK46001.out 0).trans rfl
      have hcz34_1:wr.cell? ⟨gb46001,1,none⟩=some (.slice A0_1 l0_1.length c0_1):=(Zv BK46001.out 1).trans rfl
      have hfz34_0:=Zu BK46001.out 0
      have hfz34_1:=Zu BK46001.out 1
      go_wp2_with (first|((with_reducible refine ZF (f:=82) rfl ?_);refine ZY (some 26) rfl rfl Try.func82 (by kernel_rfl) rfl #[.agg #[.int .i64 a0_0,.slice A0_1 l0_1.length c0_1],.int .i64 x5_1] rfl (by(try simp only[List.map_toArray,List.map_cons,List.map_nil]);first|done|rfl|(simp only[Zk,Zj];rfl)) ?_;(with_reducible refine(Zan.calls a0_0 _ _ l0_1 x5_1 t46005 false _ ?side1 ?side2 A15.out).mono ?_);(case side1=>repeat(first|exact(Zb HR0_1.out HB.out)|(with_reducible refine Kd.C_alloc ?_ _)|(with_reducible refine Kd.C_drewN ?_ _)|(with_reducible refine Kd.C_drew ?_)));(case side2=>exact HC0_1.out);rintro e w35 ⟨v46006,rfl,ho0,hb⟩;refine⟨_,rfl,?_⟩;have HO46007:=Za (Kd.R_lower (Kd.R_new' ho0 (Kd.R_lt (by(with_reducible repeat(first|apply Kd.R_alloc|apply Kd.R_drewN|apply Kd.R_drew));exact HO_46005001.out))) (Zw (by repeat(first|(with_reducible first|exact HB.out|apply Zq|apply Zm|apply Zs|refine Zp ?_ GE46001.out|refine Zp ?_ GE46002.out|refine Zp ?_ GE46004.out)|exact HB.out))));replace HO_46005001:=Za (Kd.R_elder' (by(with_reducible repeat(first|apply Kd.R_alloc|apply Kd.R_drewN|apply Kd.R_drew));exact HO_46005001.out) (Kd.R_base ho0) hb);replace BK46001:=Za (Zy (g:=gb46001) (o:=.cells #[.int .i64 a0_0,.slice A0_1 l0_1.length c0_1] 78 (0,0)) (by(with_reducible repeat(first|refine Zo ?_ _|refine Zr ?_|refine Zn ?_ _));exact BK46001.out) hb);replace BK46002:=Za (Zy (g:=gb46002) (o:=.cells #[.int .i64 x46003000_1,.slice none 0 0] 73 (0,0)) (by(with_reducible repeat(first|refine Zo ?_ _|refine Zr ?_|refine Zn ?_ _));exact BK46002.out) hb);replace BK46004:=Za (Zy (g:=gb46004) (o:=.cells #[.int .i64 a0_0,u46005001] 73 (0,0)) (by(with_reducible repeat(first|refine Zo ?_ _|refine Zr ?_|refine Zn ?_ _));exact BK46004.out) hb);replace HB:=Za (Zx (by repeat(first|(with_reducible first|exact HB.out|apply Zq|apply Zm|apply Zs|refine Zp ?_ GE46001.out|refine Zp ?_ GE46002.out|refine Zp ?_ GE46004.out)|exact HB.out)) hb);(try clear hb);(try clear hb2);(try clear hk);(try clear hi);(try clear ho0);have hnb36:=NB46002_46004.out;have hnc36:=NB46004_46002.out;have hcz37_0:w35.cell? ⟨gb46002,0,none⟩=some (.int .i64 x46003000_1):=(Zv BK46002.out 0).trans rfl;have hcz37_1:w35.cell? ⟨gb46002,1,none⟩=some (.slice none 0 0):=(Zv BK46002.out 1).trans rfl;have hfz37_0:=Zu BK46002.out 0;have hfz37_1:=Zu BK46002.out 1))
      refine bodyPost_ret (Zay rfl _ _ gb46002 73 #[.int .i64 0,.slice none 0 0] (0,0) _ rfl (by(with_reducible repeat(first|refine Zo ?_ _|refine Zr ?_|refine Zn ?_ _));refine ZL (cs:=#[.int .i64 0,.slice none 0 0]) ?_ 1 _ rfl;(with_reducible repeat(first|refine Zo ?_ _|refine Zr ?_|refine Zn ?_ _));refine ZL (cs:=#[.int .i64 x46003000_1,.slice none 0 0]) ?_ 0 _ rfl;(with_reducible repeat(first|refine Zo ?_ _|refine Zr ?_|refine Zn ?_ _));exact BK46002.out) Try.underlying73 rfl (by kernel_rfl)) rfl ?_
      exact⟨_,by first|rfl|(simp[ZC,ZB] <;> rfl)|(simp[*,ZC,ZB] <;> rfl),by first|exact Kd.R_nil _ _ _ _ _|exact Kd.N_nil _ _ _ _ _|exact Kd.V_nil _ _ _ _ _|exact Kd.Q_nil _ _ _ _ _|exact Kd.S_nil _ _ _ _ _,by repeat(first|(with_reducible first|exact HB.out|apply Zq|apply Zm|apply Zs|refine Zp ?_ GE46001.out|refine Zp ?_ GE46002.out|refine Zp ?_ GE46004.out)|exact HB.out)⟩
    ·rw[if_neg c14] at H
     have c14b0:decide (x5_1<a0_0)=false:=Zf c14
     clear c14
     simp only[Option.some.injEq,Prod.mk.injEq] at H
     obtain⟨rfl,rfl,rfl⟩:=H
     have hnb38:=NB46001_46002.out
     have hnc38:=NB46002_46001.out
     have hnb39:=NB46001_46004.out
     have hnc39:=NB46004_46001.out
     have hcz40_0:wr.cell? ⟨gb46001,0,none⟩=some (.int .i64 a0_0):=(Zv BK46001.out 0).trans rfl
     have hcz40_1:wr.cell? ⟨gb46001,1,none⟩=some (.slice A0_1 l0_1.length c0_1):=(Zv BK46001.out 1).trans rfl
     have hfz40_0:=Zu BK46001.out 0
     have hfz40_1:=Zu BK46001.out 1
     have hnb41:=NB46004_46002.out
     have hnc41:=NB46002_46004.out
     have hcz42_0:wr.cell? ⟨gb46004,0,none⟩=some (.int .i64 a0_0):=(Zv BK46004.out 0).trans rfl
     have hcz42_1:wr.cell? ⟨gb46004,1,none⟩=some (u46005001):=(Zv BK46004.out 1).trans rfl
     have hfz42_0:=Zu BK46004.out 0
     have hfz42_1:=Zu BK46004.out 1
     have hcz43_0:wr.cell? ⟨gb46002,0,none⟩=some (.int .i64 x46003000_1):=(Zv BK46002.out 0).trans rfl
     have hcz43_1:wr.cell? ⟨gb46002,1,none⟩=some (.slice none 0 0):=(Zv BK46002.out 1).trans rfl
     have hfz43_0:=Zu BK46002.out 0
     have hfz43_1:=Zu BK46002.out 1
     obtain⟨Ao44,co44,eo44⟩:=Kd.R_slice HO_46005001.out
     subst eo44
     go_wp2
     refine bodyPost_ret (Zay rfl _ _ gb46002 73 #[.int .i64 a0_0,.slice Ao44 x46005001_1.length co44] (0,0) _ rfl (by(with_reducible repeat(first|refine Zo ?_ _|refine Zr ?_|refine Zn ?_ _));refine ZL (cs:=#[.int .i64 a0_0,.slice none 0 0]) ?_ 1 _ rfl;(with_reducible repeat(first|refine Zo ?_ _|refine Zr ?_|refine Zn ?_ _));refine ZL (cs:=#[.int .i64 x46003000_1,.slice none 0 0]) ?_ 0 _ rfl;(with_reducible repeat(first|refine Zo ?_ _|refine Zr ?_|refine Zn ?_ _));exact BK46002.out) Try.underlying73 rfl (by kernel_rfl)) rfl ?_
     exact⟨_,by first|rfl|(simp[ZC,ZB] <;> rfl)|(simp[*,ZC,ZB] <;> rfl),by(with_reducible repeat(first|apply Kd.R_alloc|apply Kd.R_drewN|apply Kd.R_drew));exact Kd.R_mono (Kd.R_far (p:=⟨gb46002,1,none⟩) (Kd.R_far (p:=⟨gb46002,0,none⟩) (Kd.R_types HO_46005001.out BK46002.out (by decide)) (fun _ hk=>hk.2) (.int .i64 a0_0)) (fun _ hk=>hk.2) (.slice Ao44 x46005001_1.length co44)) (fun _ hk=>trivial),by repeat(first|(with_reducible first|exact HB.out|apply Zq|apply Zm|apply Zs|refine Zp ?_ GE46001.out|refine Zp ?_ GE46002.out|refine Zp ?_ GE46004.out)|exact HB.out)⟩
 ·replace c3:=Bool.eq_false_iff.mpr c3
  subst c3
  have H1:(some (0,([]:List Int),false))=some (r1,r2,r3):=by rw[if_neg (show ¬(false=true) by decide)] at H;exact H
  clear H
  have H:=H1
  clear H1
  simp only[Option.some.injEq,Prod.mk.injEq] at H
  obtain⟨rfl,rfl,rfl⟩:=H
  go_enter Try.func46,Try.ntmps46
  go_wp2_with (first|((with_reducible refine ZM (N:=1) rfl ?_);refine ZK ?hg (N:=1) ?hd (cs:=#[.int .i64 a0_0,.slice A0_1 l0_1.length c0_1]) (t:=78) ?hr ?_;(case hd=>rfl);(case hg=>rfl);(case hr=>first|(go_simp;done)|(go_simp;rfl));intro gb46001 hg w45 hbox hb;have BK46001:=Za (hbox);have GW46001:=Za ((by rw[hg];exact(Zw (by repeat(first|(with_reducible first|exact HB.out|apply Zq|apply Zm|apply Zs)|exact HB.out))):w.heap.size≤gb46001));have GE46001:=Za ((by rw[hg];exact(Zw (by repeat(first|(with_reducible first|exact HB.out|apply Zq|apply Zm|apply Zs)|exact HB.out))):w.heap.size≤gb46001));replace HB:=Za (Zx (by repeat(first|(with_reducible first|exact HB.out|apply Zq|apply Zm|apply Zs)|exact HB.out)) hb);clear hb hbox hg)|((with_reducible refine ZM (N:=2) rfl ?_);refine ZK ?hg (N:=2) ?hd (cs:=#[.int .i64 0,.slice none 0 0]) (t:=73) ?hr ?_;(case hd=>rfl);(case hg=>rfl);(case hr=>first|(go_simp;done)|(go_simp;rfl));intro gb46002 hg w46 hbox hb;have BK46002:=Za (hbox);have GW46002:=Za ((by rw[hg];exact(Zw (by repeat(first|(with_reducible first|exact HB.out|apply Zq|apply Zm|apply Zs|refine Zp ?_ GE46001.out)|exact HB.out))):w.heap.size≤gb46002));have GE46002:=Za ((by rw[hg];exact(Zw (by repeat(first|(with_reducible first|exact HB.out|apply Zq|apply Zm|apply Zs|refine Zp ?_ GE46001.out)|exact HB.out))):w.heap.size≤gb46002));have NB46001_46002:=Za ((by rw[hg];exact Nat.ne_of_lt (ZH (g:=gb46001) (o:=.cells #[.int .i64 a0_0,.slice A0_1 l0_1.length c0_1] 78 (0,0)) (by(with_reducible repeat(first|refine Zo ?_ _|refine Zr ?_|refine Zn ?_ _));exact BK46001.out)):gb46001≠gb46002));have NB46002_46001:=Za ((by rw[hg];exact Nat.ne_of_gt (ZH (g:=gb46001) (o:=.cells #[.int .i64 a0_0,.slice A0_1 l0_1.length c0_1] 78 (0,0)) (by(with_reducible repeat(first|refine Zo ?_ _|refine Zr ?_|refine Zn ?_ _));exact BK46001.out)):gb46002≠gb46001));replace BK46001:=Za (Zy (g:=gb46001) (o:=.cells #[.int .i64 a0_0,.slice A0_1 l0_1.length c0_1] 78 (0,0)) (by(with_reducible repeat(first|refine Zo ?_ _|refine Zr ?_|refine Zn ?_ _));exact BK46001.out) hb);replace HB:=Za (Zx (by repeat(first|(with_reducible first|exact HB.out|apply Zq|apply Zm|apply Zs|refine Zp ?_ GE46001.out)|exact HB.out)) hb);clear hb hbox hg;have hnb47:=NB46001_46002.out;have hnc47:=NB46002_46001.out;have hcz48_0:w46.cell? ⟨gb46001,0,none⟩=some (.int .i64 a0_0):=(Zv BK46001.out 0).trans rfl;have hcz48_1:w46.cell? ⟨gb46001,1,none⟩=some (.slice A0_1 l0_1.length c0_1):=(Zv BK46001.out 1).trans rfl;have hfz48_0:=Zu BK46001.out 0;have hfz48_1:=Zu BK46001.out 1)|((with_reducible refine ZF (f:=81) rfl ?_);refine ZY (some 11) rfl rfl Try.func81 (by kernel_rfl) rfl #[.agg #[.int .i64 a0_0,.slice A0_1 l0_1.length c0_1]] rfl (by(try simp only[List.map_toArray,List.map_cons,List.map_nil]);first|done|rfl|(simp only[Zk,Zj];rfl)) ?_;(with_reducible refine(ZaT.calls a0_0 _ _ l0_1 false _ ?side1 ?side2 A2.out).mono ?_);(case side1=>repeat(first|exact(Zb HR0_1.out HB.out)|(with_reducible refine Kd.C_alloc ?_ _)|(with_reducible refine Kd.C_drewN ?_ _)|(with_reducible refine Kd.C_drew ?_)));(case side2=>exact HC0_1.out);rintro e w49 ⟨rfl,hb⟩;refine⟨_,rfl,?_⟩;replace BK46001:=Za (Zy (g:=gb46001) (o:=.cells #[.int .i64 a0_0,.slice A0_1 l0_1.length c0_1] 78 (0,0)) (by(with_reducible repeat(first|refine Zo ?_ _|refine Zr ?_|refine Zn ?_ _));exact BK46001.out) hb);replace BK46002:=Za (Zy (g:=gb46002) (o:=.cells #[.int .i64 0,.slice none 0 0] 73 (0,0)) (by(with_reducible repeat(first|refine Zo ?_ _|refine Zr ?_|refine Zn ?_ _));exact BK46002.out) hb);replace HB:=Za (Zx (by repeat(first|(with_reducible first|exact HB.out|apply Zq|apply Zm|apply Zs|refine Zp ?_ GE46001.out|refine Zp ?_ GE46002.out)|exact HB.out)) hb);(try clear hb);(try clear hb2);(try clear hk);(try clear hi);have hcz50_0:w49.cell? ⟨gb46002,0,none⟩=some (.int .i64 0):=(Zv BK46002.out 0).trans rfl;have hcz50_1:w49.cell? ⟨gb46002,1,none⟩=some (.slice none 0 0):=(Zv BK46002.out 1).trans rfl;have hfz50_0:=Zu BK46002.out 0;have hfz50_1:=Zu BK46002.out 1))
  refine bodyPost_ret (Zay rfl _ _ gb46002 73 #[.int .i64 0,.slice none 0 0] (0,0) _ rfl (by(with_reducible repeat(first|refine Zo ?_ _|refine Zr ?_|refine Zn ?_ _));refine ZL (cs:=#[.int .i64 0,.slice none 0 0]) ?_ 1 _ rfl;(with_reducible repeat(first|refine Zo ?_ _|refine Zr ?_|refine Zn ?_ _));refine ZL (cs:=#[.int .i64 0,.slice none 0 0]) ?_ 0 _ rfl;(with_reducible repeat(first|refine Zo ?_ _|refine Zr ?_|refine Zn ?_ _));exact BK46002.out) Try.underlying73 rfl (by kernel_rfl)) rfl ?_
  exact⟨_,by first|rfl|(simp[ZC,ZB] <;> rfl)|(simp[*,ZC,ZB] <;> rfl),by first|exact Kd.R_nil _ _ _ _ _|exact Kd.N_nil _ _ _ _ _|exact Kd.V_nil _ _ _ _ _|exact Kd.Q_nil _ _ _ _ _|exact Kd.S_nil _ _ _ _ _,by repeat(first|(with_reducible first|exact HB.out|apply Zq|apply Zm|apply Zs|refine Zp ?_ GE46001.out|refine Zp ?_ GE46002.out)|exact HB.out)⟩
mutual
def Z1.j0:Nat→Bool→Int→List Int→Option (Bool)
 | 0,_,_,_=>none
 | k+1,x23,x85002000,x85002001=>if x23=true then(some false) else(Z1.l0 k x85002001 (x85002001.length:Int) 0 x85002000 x85002001)
def Z1.l0:Nat→List Int→Int→Int→Int→List Int→Option (Bool)
 | 0,_,_,_,_,_=>none
 | k+1,x25,x26,x27,x85002000,x85002001=>if x27<x26 then(if 0≤x27 then(if x27<(x25.length:Int) then(if (rd x25 x27)<(-1000000) then(some false) else(if (rd x25 x27) > 1000000 then(some false) else(if x85002000=0 then(none) else(if (wrap64 (Int.tdiv x27 x85002000))=(Int.tmod x27 x85002000) then(if (rd x25 x27)=0 then(Z1.l0 k x25 x26 (wrap64 (x27+1)) x85002000 x85002001) else(some false)) else(Z1.l0 k x25 x26 (wrap64 (x27+1)) x85002000 x85002001))))) else(none)) else(none)) else(some true)
end
def Z1.f (k:Nat) (a0_0:Int) (l0_1:List Int):Option (Bool):=if a0_0<0 then(Z1.j0 k true a0_0 l0_1) else(if a0_0 > 8 then(Z1.j0 k true a0_0 l0_1) else(Z1.j0 k ((l0_1.length:Int) != (wrap64 (a0_0 * a0_0))) a0_0 l0_1))
set_option maxHeartbeats 8000000 in
set_option maxRecDepth 100000 in
theorem Z1.calls (k:Nat) (a0_0:Int) (A0_1:Option Addr) (c0_1:Nat) (l0_1:List Int) (r:Bool) (w:World) (hr0_1:Kd.C (Kd.int .i64) w A0_1 l0_1.length l0_1) (hc0_1:l0_1.length≤c0_1) (h:Z1.f k a0_0 l0_1=some r) :
  Calls Try.prog 85 #[.agg #[.int .i64 a0_0,.slice A0_1 l0_1.length c0_1]] w fun e w'=>e=.returned (.bool r)∧Below w.heap.size w w':=by
 have hu73:=Try.underlying73
 have HR0_1:=Za hr0_1;have HC0_1:=Za hc0_1;clear hr0_1 hc0_1
 have HB:=Za (Below.refl w.heap.size w)
 have H:(if a0_0<0 then(Z1.j0 k true a0_0 l0_1) else(if a0_0 > 8 then(Z1.j0 k true a0_0 l0_1) else(Z1.j0 k ((l0_1.length:Int) != (wrap64 (a0_0 * a0_0))) a0_0 l0_1)))=some r:=h
 clear h;have HC2:=Za H;clear H
 go_enter Try.func85,Try.ntmps85
 go_upto_region 1 with (first|((with_reducible refine ZM (N:=1) rfl ?_);(try(refine Zcu (by rfl) ?_;dsimp only));refine ZK ?hg (N:=1) ?hd (cs:=#[.int .i64 a0_0,.slice A0_1 l0_1.length c0_1]) (t:=73) ?hr ?_;(case hd=>rfl);(case hg=>rfl);(case hr=>first|(go_simp;done)|(go_simp;rfl));intro gb85001 hg w3 hbox hb;have BK85001:=Za (hbox);have GW85001:=Za ((by rw[hg];exact(Zw (by repeat(first|(with_reducible first|exact HB.out|apply Zq|apply Zm|apply Zs)|exact HB.out))):w.heap.size≤gb85001));have GE85001:=Za ((by rw[hg];exact(Zw (by repeat(first|(with_reducible first|exact HB.out|apply Zq|apply Zm|apply Zs)|exact HB.out))):w.heap.size≤gb85001));replace HB:=Za (Zx (by repeat(first|(with_reducible first|exact HB.out|apply Zq|apply Zm|apply Zs)|exact HB.out)) hb);clear hb hbox hg))
 repeat(go_quiet (first|((with_reducible refine ZM (N:=1) rfl ?_);(try(refine Zcu (by rfl) ?_;dsimp only));refine ZK ?hg (N:=1) ?hd (cs:=#[.int .i64 a0_0,.slice A0_1 l0_1.length c0_1]) (t:=73) ?hr ?_;(case hd=>rfl);(case hg=>rfl);(case hr=>first|(go_simp;done)|(go_simp;rfl));intro gb85001 hg w3 hbox hb;have BK85001:=Za (hbox);have GW85001:=Za ((by rw[hg];exact(Zw (by repeat(first|(with_reducible first|exact HB.out|apply Zq|apply Zm|apply Zs)|exact HB.out))):w.heap.size≤gb85001));have GE85001:=Za ((by rw[hg];exact(Zw (by repeat(first|(with_reducible first|exact HB.out|apply Zq|apply Zm|apply Zs)|exact HB.out))):w.heap.size≤gb85001));replace HB:=Za (Zx (by repeat(first|(with_reducible first|exact HB.out|apply Zq|apply Zm|apply Zs)|exact HB.out)) hb);clear hb hbox hg));go_upto_region 1 with (first|((with_reducible refine ZM (N:=1) rfl ?_);(try(refine Zcu (by rfl) ?_;dsimp only));refine ZK ?hg (N:=1) ?hd (cs:=#[.int .i64 a0_0,.slice A0_1 l0_1.length c0_1]) (t:=73) ?hr ?_;(case hd=>rfl);(case hg=>rfl);(case hr=>first|(go_simp;done)|(go_simp;rfl));intro gb85001 hg w3 hbox hb;have BK85001:=Za (hbox);have GW85001:=Za ((by rw[hg];exact(Zw (by repeat(first|(with_reducible first|exact HB.out|apply Zq|apply Zm|apply Zs)|exact HB.out))):w.heap.size≤gb85001));have GE85001:=Za ((by rw[hg];exact(Zw (by repeat(first|(with_reducible first|exact HB.out|apply Zq|apply Zm|apply Zs)|exact HB.out))):w.heap.size≤gb85001));replace HB:=Za (Zx (by repeat(first|(with_reducible first|exact HB.out|apply Zq|apply Zm|apply Zs)|exact HB.out)) hb);clear hb hbox hg)))
 (try simp only[Act.put,List.setIfInBounds_toArray,List.set_cons_zero,List.set_cons_succ])
 go_cut [23] (fun v23 wc=>∃(kq:Nat) (x23_1:Bool),v23=.bool x23_1∧Aside0 (Z1.j0 kq x23_1 a0_0 l0_1=some r)∧Aside0 (kq≤k)∧Aside0 (wc.heap[gb85001]? = some (.cells #[.int .i64 a0_0,(.slice A0_1 l0_1.length c0_1)] 73 (0,0)))∧Aside0 (Below w.heap.size w wc))
 case first=>
  have H:=HC2.out
  clear HC2
  by_cases c4:a0_0<0
  ·rw[if_pos c4] at H
   have c4b0:decide (a0_0<0)=true:=Ze c4
   clear c4
   (first|rw[c4b0]|(simp only[ZQ,ZR];rw[c4b0])|skip)
   have H':=Za H
   clear H
   have hcz5_0:w3.cell? ⟨gb85001,0,none⟩=some (.int .i64 a0_0):=(Zv BK85001.out 0).trans rfl
   have hcz5_1:w3.cell? ⟨gb85001,1,none⟩=some (.slice A0_1 l0_1.length c0_1):=(Zv BK85001.out 1).trans rfl
   have hfz5_0:=Zu BK85001.out 0
   have hfz5_1:=Zu BK85001.out 1
   go_wp2
   repeat(go_quiet (fail);try go_wp2)
   go_meet
   case rel=>exact⟨_,(true),(by first|rfl|(simp;done)|(simp[*];done)),H',⟨by first|omega|exact Nat.le_refl _⟩,⟨by(with_reducible repeat(first|refine Zo ?_ _|refine Zr ?_|refine Zn ?_ _));exact BK85001.out⟩,⟨by repeat(first|(with_reducible first|exact HB.out|apply Zq|apply Zm|apply Zs|refine Zp ?_ GE85001.out)|exact HB.out)⟩⟩
  ·rw[if_neg c4] at H
   have c4b0:decide (a0_0<0)=false:=Zf c4
   clear c4
   (first|rw[c4b0]|(simp only[ZQ,ZR];rw[c4b0])|skip)
   by_cases c6:a0_0 > 8
   ·rw[if_pos c6] at H
    have c6b0:decide (8<a0_0)=true:=Ze c6
    clear c6
    have H':=Za H
    clear H
    have hcz7_0:w3.cell? ⟨gb85001,0,none⟩=some (.int .i64 a0_0):=(Zv BK85001.out 0).trans rfl
    have hcz7_1:w3.cell? ⟨gb85001,1,none⟩=some (.slice A0_1 l0_1.length c0_1):=(Zv BK85001.out 1).trans rfl
    have hfz7_0:=Zu BK85001.out 0
    have hfz7_1:=Zu BK85001.out 1
    go_wp2
    repeat(go_quiet (fail);try go_wp2)
    go_meet
    case rel=>exact⟨_,(true),(by first|rfl|(simp;done)|(simp[*];done)),H',⟨by first|omega|exact Nat.le_refl _⟩,⟨by(with_reducible repeat(first|refine Zo ?_ _|refine Zr ?_|refine Zn ?_ _));exact BK85001.out⟩,⟨by repeat(first|(with_reducible first|exact HB.out|apply Zq|apply Zm|apply Zs|refine Zp ?_ GE85001.out)|exact HB.out)⟩⟩
   ·rw[if_neg c6] at H
    have c6b0:decide (8<a0_0)=false:=Zf c6
    clear c6
    have H':=Za H
    clear H
    have hcz8_0:w3.cell? ⟨gb85001,0,none⟩=some (.int .i64 a0_0):=(Zv BK85001.out 0).trans rfl
    have hcz8_1:w3.cell? ⟨gb85001,1,none⟩=some (.slice A0_1 l0_1.length c0_1):=(Zv BK85001.out 1).trans rfl
    have hfz8_0:=Zu BK85001.out 0
    have hfz8_1:=Zu BK85001.out 1
    go_wp2
    repeat(go_quiet (fail);try go_wp2)
    go_meet
    case rel=>exact⟨_,(((l0_1.length:Int) != (wrap64 (a0_0 * a0_0)))),(by first|rfl|(simp;done)|(simp[*];done)),H',⟨by first|omega|exact Nat.le_refl _⟩,⟨by(with_reducible repeat(first|refine Zo ?_ _|refine Zr ?_|refine Zn ?_ _));exact BK85001.out⟩,⟨by repeat(first|(with_reducible first|exact HB.out|apply Zq|apply Zm|apply Zs|refine Zp ?_ GE85001.out)|exact HB.out)⟩⟩
 case rest=>
  clear HC2
  try clear p2
  try clear c4
  try clear c4b0
  try clear c6
  try clear c6b0
  try clear p6
  try clear c8
  try clear hcz5_0
  try clear hcz5_1
  try clear hcz7_0
  try clear hcz7_1
  try clear hcz8_0
  try clear hcz8_1
  try clear hfz5_0
  try clear hfz5_1
  try clear hfz7_0
  try clear hfz7_1
  try clear hfz8_0
  try clear hfz8_1
  obtain⟨kq,x23_1,rfl,HA,HJ1,BK85001,HB⟩:=hcut
  cases kq with
  | zero=>exact absurd HA.out (by simp[Z1.j0])
  | succ kj1=>
   have H:=HA.out
   clear HA
   simp only[Z1.j0] at H
   by_cases c9:x23_1=true
   ·subst c9
    have H1:(some false)=some r:=by rw[if_pos rfl] at H;exact H
    clear H
    have H:=H1
    clear H1
    obtain rfl:=Zg H
    go_wp2
    repeat(go_quiet (fail);try go_wp2)
    go_ret
    exact⟨by first|rfl|(simp[ZC,ZB] <;> rfl)|(simp[*,ZC,ZB] <;> rfl),by repeat(first|(with_reducible first|exact HB.out|apply Zq|apply Zm|apply Zs|refine Zp ?_ GE85001.out)|exact HB.out)⟩
   ·replace c9:=Bool.eq_false_iff.mpr c9
    subst c9
    have H1:(Z1.l0 kj1 l0_1 (l0_1.length:Int) 0 a0_0 l0_1)=some r:=by rw[if_neg (show ¬(false=true) by decide)] at H;exact H
    clear H
    have H:=H1
    clear H1
    have H':=Za H
    clear H
    have hcz10_0:wc.cell? ⟨gb85001,0,none⟩=some (.int .i64 a0_0):=(Zv BK85001.out 0).trans rfl
    have hcz10_1:wc.cell? ⟨gb85001,1,none⟩=some (.slice A0_1 l0_1.length c0_1):=(Zv BK85001.out 1).trans rfl
    have hfz10_0:=Zu BK85001.out 0
    have hfz10_1:=Zu BK85001.out 1
    go_wp2
    repeat(go_quiet (fail);try go_wp2)
    go_loopg [27] kj1 (fun kq v27 w'=>∃(x27_2:Int),v27=.int .i64 x27_2∧Aside0 (Z1.l0 kq l0_1 (l0_1.length:Int) x27_2 a0_0 l0_1=some r)∧Aside0 (kq≤kj1)∧Aside0 (w'.heap[gb85001]? = some (.cells #[.int .i64 a0_0,(.slice A0_1 l0_1.length c0_1)] 73 (0,0)))∧Aside0 (Below w.heap.size w w'))
    case atStart=>exact⟨(0),(by first|rfl|(simp;done)|(simp[*];done)),H',⟨Nat.le_refl _⟩,⟨by(with_reducible repeat(first|refine Zo ?_ _|refine Zr ?_|refine Zn ?_ _));exact BK85001.out⟩,⟨by repeat(first|(with_reducible first|exact HB.out|apply Zq|apply Zm|apply Zs|refine Zp ?_ GE85001.out)|exact HB.out)⟩⟩
    case round=>
     clear H'
     try clear p2
     try clear c4
     try clear c4b0
     try clear c6
     try clear c6b0
     try clear p6
     try clear c8
     try clear c9
     try clear hcz10_0
     try clear hcz10_1
     try clear hcz5_0
     try clear hcz5_1
     try clear hcz7_0
     try clear hcz7_1
     try clear hcz8_0
     try clear hcz8_1
     try clear hfz10_0
     try clear hfz10_1
     try clear hfz5_0
     try clear hfz5_1
     try clear hfz7_0
     try clear hfz7_1
     try clear hfz8_0
     try clear hfz8_1
     try clear p2
     try clear p6
     obtain⟨x27_2,rfl,HA,HK2,BK85001,HB⟩:=hrel
     cases gk with
     | zero=>exact absurd HA.out (by simp[Z1.l0])
     | succ k2=>
      have H:=HA.out
      clear HA
      simp only[Z1.l0] at H
      by_cases c11:x27_2<(l0_1.length:Int)
      ·rw[if_pos c11] at H
       have c11b0:decide (x27_2<(l0_1.length:Int))=true:=Ze c11
       clear c11
       by_cases c12:0≤x27_2
       ·rw[if_pos c12] at H
        have c12b0:decide (0≤x27_2)=true:=Ze c12
        clear c12
        by_cases c13:x27_2<(l0_1.length:Int)
        ·rw[if_pos c13] at H
         have c13b0:decide (x27_2<(l0_1.length:Int))=true:=Ze c13
         clear c13
         by_cases c14:(rd l0_1 x27_2)<(-1000000)
         ·rw[if_pos c14] at H
          have c14b0:decide ((rd l0_1 x27_2)<(-1000000))=true:=Ze c14
          clear c14
          obtain rfl:=Zg H
          have p85002:0≤(x27_2:Int):=Zd (by first|(with_reducible assumption)|assumption)
          have q85002:x27_2<(l0_1.length:Int):=Zd (by first|(with_reducible assumption)|assumption)
          obtain⟨ad85002,e85002,hx85002_0⟩:=Kd.at_int HR0_1.out x27_2 p85002 q85002
          cases e85002
          replace hx85002_0:=(HB.out.cell (Zc w _ hx85002_0)).trans hx85002_0
          replace p85002:=eq_true p85002
          replace q85002:=eq_true q85002
          go_wp2
          repeat(go_quiet (fail);try go_wp2)
          go_ret
          exact⟨by first|rfl|(simp[ZC,ZB] <;> rfl)|(simp[*,ZC,ZB] <;> rfl),by repeat(first|(with_reducible first|exact HB.out|apply Zq|apply Zm|apply Zs|refine Zp ?_ GE85001.out)|exact HB.out)⟩
         ·rw[if_neg c14] at H
          have c14b0:decide ((rd l0_1 x27_2)<(-1000000))=false:=Zf c14
          clear c14
          by_cases c15:(rd l0_1 x27_2) > 1000000
          ·rw[if_pos c15] at H
           have c15b0:decide (1000000<(rd l0_1 x27_2))=true:=Ze c15
           clear c15
           obtain rfl:=Zg H
           have p85002:0≤(x27_2:Int):=Zd (by first|(with_reducible assumption)|assumption)
           have q85002:x27_2<(l0_1.length:Int):=Zd (by first|(with_reducible assumption)|assumption)
           obtain⟨ad85002,e85002,hx85002_0⟩:=Kd.at_int HR0_1.out x27_2 p85002 q85002
           cases e85002
           replace hx85002_0:=(HB.out.cell (Zc w _ hx85002_0)).trans hx85002_0
           replace p85002:=eq_true p85002
           replace q85002:=eq_true q85002
           go_wp2
           repeat(go_quiet (fail);try go_wp2)
           go_ret
           exact⟨by first|rfl|(simp[ZC,ZB] <;> rfl)|(simp[*,ZC,ZB] <;> rfl),by repeat(first|(with_reducible first|exact HB.out|apply Zq|apply Zm|apply Zs|refine Zp ?_ GE85001.out)|exact HB.out)⟩
          ·rw[if_neg c15] at H
           have c15b0:decide (1000000<(rd l0_1 x27_2))=false:=Zf c15
           clear c15
           by_cases c16:a0_0=0
           ·rw[if_pos c16] at H
            exact absurd H (by simp)
           ·rw[if_neg c16] at H
            have c16b0:(a0_0 == 0)=false:=beq_eq_false_iff_ne.mpr c16
            have c16b1:(a0_0 != 0)=true:=bne_iff_ne.mpr c16
            by_cases c17:(wrap64 (Int.tdiv x27_2 a0_0))=(Int.tmod x27_2 a0_0)
            ·rw[if_pos c17] at H
             have c17b0:((wrap64 (Int.tdiv x27_2 a0_0)) == (Int.tmod x27_2 a0_0))=true:=beq_iff_eq.mpr c17
             have c17b1:((wrap64 (Int.tdiv x27_2 a0_0)) != (Int.tmod x27_2 a0_0))=false:=bne_eq_false_iff_eq.mpr c17
             clear c17
             by_cases c18:(rd l0_1 x27_2)=0
             ·rw[if_pos c18] at H
              have c18b0:((rd l0_1 x27_2) == 0)=true:=beq_iff_eq.mpr c18
              have c18b1:((rd l0_1 x27_2) != 0)=false:=bne_eq_false_iff_eq.mpr c18
              clear c18
              have H':=Za H
              clear H
              have p85002:0≤(x27_2:Int):=Zd (by first|(with_reducible assumption)|assumption)
              have q85002:x27_2<(l0_1.length:Int):=Zd (by first|(with_reducible assumption)|assumption)
              obtain⟨ad85002,e85002,hx85002_0⟩:=Kd.at_int HR0_1.out x27_2 p85002 q85002
              cases e85002
              replace hx85002_0:=(HB.out.cell (Zc w _ hx85002_0)).trans hx85002_0
              replace p85002:=eq_true p85002
              replace q85002:=eq_true q85002
              have hcz19_0:wr.cell? ⟨gb85001,0,none⟩=some (.int .i64 a0_0):=(Zv BK85001.out 0).trans rfl
              have hcz19_1:wr.cell? ⟨gb85001,1,none⟩=some (.slice (some ad85002) l0_1.length c0_1):=(Zv BK85001.out 1).trans rfl
              have hfz19_0:=Zu BK85001.out 0
              have hfz19_1:=Zu BK85001.out 1
              go_wp2
              repeat(go_quiet (fail);try go_wp2)
              go_roundg k2
              case measure=>have:=HJ1.out;have:=HK2.out;omega
              case rel=>exact⟨(wrap64 (x27_2+1)),(by first|rfl|(simp;done)|(simp[*];done)),H',⟨by have:=HJ1.out;have:=HK2.out;omega⟩,⟨by(with_reducible repeat(first|refine Zo ?_ _|refine Zr ?_|refine Zn ?_ _));exact BK85001.out⟩,⟨by repeat(first|(with_reducible first|exact HB.out|apply Zq|apply Zm|apply Zs|refine Zp ?_ GE85001.out)|exact HB.out)⟩⟩
             ·rw[if_neg c18] at H
              have c18b0:((rd l0_1 x27_2) == 0)=false:=beq_eq_false_iff_ne.mpr c18
              have c18b1:((rd l0_1 x27_2) != 0)=true:=bne_iff_ne.mpr c18
              obtain rfl:=Zg H
              have p85002:0≤(x27_2:Int):=Zd (by first|(with_reducible assumption)|assumption)
              have q85002:x27_2<(l0_1.length:Int):=Zd (by first|(with_reducible assumption)|assumption)
              obtain⟨ad85002,e85002,hx85002_0⟩:=Kd.at_int HR0_1.out x27_2 p85002 q85002
              cases e85002
              replace hx85002_0:=(HB.out.cell (Zc w _ hx85002_0)).trans hx85002_0
              replace p85002:=eq_true p85002
              replace q85002:=eq_true q85002
              have hcz20_0:wr.cell? ⟨gb85001,0,none⟩=some (.int .i64 a0_0):=(Zv BK85001.out 0).trans rfl
              have hcz20_1:wr.cell? ⟨gb85001,1,none⟩=some (.slice (some ad85002) l0_1.length c0_1):=(Zv BK85001.out 1).trans rfl
              have hfz20_0:=Zu BK85001.out 0
              have hfz20_1:=Zu BK85001.out 1
              go_wp2
              repeat(go_quiet (fail);try go_wp2)
              go_ret
              exact⟨by first|rfl|(simp[ZC,ZB] <;> rfl)|(simp[*,ZC,ZB] <;> rfl),by repeat(first|(with_reducible first|exact HB.out|apply Zq|apply Zm|apply Zs|refine Zp ?_ GE85001.out)|exact HB.out)⟩
            ·rw[if_neg c17] at H
             have c17b0:((wrap64 (Int.tdiv x27_2 a0_0)) == (Int.tmod x27_2 a0_0))=false:=beq_eq_false_iff_ne.mpr c17
             have c17b1:((wrap64 (Int.tdiv x27_2 a0_0)) != (Int.tmod x27_2 a0_0))=true:=bne_iff_ne.mpr c17
             have H':=Za H
             clear H
             have p85002:0≤(x27_2:Int):=Zd (by first|(with_reducible assumption)|assumption)
             have q85002:x27_2<(l0_1.length:Int):=Zd (by first|(with_reducible assumption)|assumption)
             obtain⟨ad85002,e85002,hx85002_0⟩:=Kd.at_int HR0_1.out x27_2 p85002 q85002
             cases e85002
             replace hx85002_0:=(HB.out.cell (Zc w _ hx85002_0)).trans hx85002_0
             replace p85002:=eq_true p85002
             replace q85002:=eq_true q85002
             have hcz21_0:wr.cell? ⟨gb85001,0,none⟩=some (.int .i64 a0_0):=(Zv BK85001.out 0).trans rfl
             have hcz21_1:wr.cell? ⟨gb85001,1,none⟩=some (.slice (some ad85002) l0_1.length c0_1):=(Zv BK85001.out 1).trans rfl
             have hfz21_0:=Zu BK85001.out 0
             have hfz21_1:=Zu BK85001.out 1
             go_wp2
             repeat(go_quiet (fail);try go_wp2)
             go_roundg k2
             case measure=>have:=HJ1.out;have:=HK2.out;omega
             case rel=>exact⟨(wrap64 (x27_2+1)),(by first|rfl|(simp;done)|(simp[*];done)),H',⟨by have:=HJ1.out;have:=HK2.out;omega⟩,⟨by(with_reducible repeat(first|refine Zo ?_ _|refine Zr ?_|refine Zn ?_ _));exact BK85001.out⟩,⟨by repeat(first|(with_reducible first|exact HB.out|apply Zq|apply Zm|apply Zs|refine Zp ?_ GE85001.out)|exact HB.out)⟩⟩
        ·rw[if_neg c13] at H
         exact absurd H (by simp)
       ·rw[if_neg c12] at H
        exact absurd H (by simp)
      ·rw[if_neg c11] at H
       have c11b0:decide (x27_2<(l0_1.length:Int))=false:=Zf c11
       clear c11
       obtain rfl:=Zg H
       go_wp2
       repeat(go_quiet (fail);try go_wp2)
       go_ret
       exact⟨by first|rfl|(simp[ZC,ZB] <;> rfl)|(simp[*,ZC,ZB] <;> rfl),by repeat(first|(with_reducible first|exact HB.out|apply Zq|apply Zm|apply Zs|refine Zp ?_ GE85001.out)|exact HB.out)⟩
def Za4.f (a0_0:Int) (a0_1:Int) (a1:Bool):Option (Int×Int×Bool):=if a1=true then((Zae.f a0_0 a0_1).bind fun t86003=>(if t86003=true then(some (a0_0,a0_1,true)) else(some (0,0,false)))) else(some (0,0,false))
set_option maxHeartbeats 8000000 in
set_option maxRecDepth 100000 in
theorem Za4.calls (a0_0:Int) (a0_1:Int) (a1:Bool) (r1:Int) (r2:Int) (r3:Bool) (w:World) (h:Za4.f a0_0 a0_1 a1=some (r1,r2,r3)) :
  Calls Try.prog 86 #[.agg #[.int .i64 a0_0,.int .i64 a0_1],.bool a1] w fun e w'=>e=.returned (.tuple #[.agg #[.int .i64 r1,.int .i64 r2],.bool r3])∧Below w.heap.size w w':=by
 have hu35:=Try.underlying35
 have HB:=Za (Below.refl w.heap.size w)
 have H:(if a1=true then((Zae.f a0_0 a0_1).bind fun t86003=>(if t86003=true then(some (a0_0,a0_1,true)) else(some (0,0,false)))) else(some (0,0,false)))=some (r1,r2,r3):=h
 clear h
 by_cases c3:a1=true
 ·subst c3
  have H1:((Zae.f a0_0 a0_1).bind fun t86003=>(if t86003=true then(some (a0_0,a0_1,true)) else(some (0,0,false))))=some (r1,r2,r3):=by rw[if_pos rfl] at H;exact H
  clear H
  have H:=H1
  clear H1
  replace H:=Zh H
  obtain⟨t86003,A40,H⟩:=H
  replace H:(if t86003=true then(some (a0_0,a0_1,true)) else(some (0,0,false)))=some (r1,r2,r3):=H
  have A4:=Za A40;clear A40
  by_cases c5:t86003=true
  ·subst c5
   have H1:(some (a0_0,a0_1,true))=some (r1,r2,r3):=by rw[if_pos rfl] at H;exact H
   clear H
   have H:=H1
   clear H1
   simp only[Option.some.injEq,Prod.mk.injEq] at H
   obtain⟨rfl,rfl,rfl⟩:=H
   go_enter Try.func86,Try.ntmps86
   go_wp2_with (first|((with_reducible refine ZM (N:=2) rfl ?_);refine ZK ?hg (N:=2) ?hd (cs:=#[.int .i64 a0_0,.int .i64 a0_1]) (t:=35) ?hr ?_;(case hd=>rfl);(case hg=>rfl);(case hr=>first|(go_simp;done)|(go_simp;rfl));intro gb86001 hg w6 hbox hb;have BK86001:=Za (hbox);have GW86001:=Za ((by rw[hg];exact(Zw (by repeat(first|(with_reducible first|exact HB.out|apply Zq|apply Zm|apply Zs)|exact HB.out))):w.heap.size≤gb86001));have GE86001:=Za ((by rw[hg];exact(Zw (by repeat(first|(with_reducible first|exact HB.out|apply Zq|apply Zm|apply Zs)|exact HB.out))):w.heap.size≤gb86001));replace HB:=Za (Zx (by repeat(first|(with_reducible first|exact HB.out|apply Zq|apply Zm|apply Zs)|exact HB.out)) hb);clear hb hbox hg)|((with_reducible refine ZM (N:=4) rfl ?_);refine ZK ?hg (N:=4) ?hd (cs:=#[.int .i64 0,.int .i64 0]) (t:=35) ?hr ?_;(case hd=>rfl);(case hg=>rfl);(case hr=>first|(go_simp;done)|(go_simp;rfl));intro gb86002 hg w7 hbox hb;have BK86002:=Za (hbox);have GW86002:=Za ((by rw[hg];exact(Zw (by repeat(first|(with_reducible first|exact HB.out|apply Zq|apply Zm|apply Zs|refine Zp ?_ GE86001.out)|exact HB.out))):w.heap.size≤gb86002));have GE86002:=Za ((by rw[hg];exact(Zw (by repeat(first|(with_reducible first|exact HB.out|apply Zq|apply Zm|apply Zs|refine Zp ?_ GE86001.out)|exact HB.out))):w.heap.size≤gb86002));have NB86001_86002:=Za ((by rw[hg];exact Nat.ne_of_lt (ZH (g:=gb86001) (o:=.cells #[.int .i64 a0_0,.int .i64 a0_1] 35 (0,0)) (by(with_reducible repeat(first|refine Zo ?_ _|refine Zr ?_|refine Zn ?_ _));exact BK86001.out)):gb86001≠gb86002));have NB86002_86001:=Za ((by rw[hg];exact Nat.ne_of_gt (ZH (g:=gb86001) (o:=.cells #[.int .i64 a0_0,.int .i64 a0_1] 35 (0,0)) (by(with_reducible repeat(first|refine Zo ?_ _|refine Zr ?_|refine Zn ?_ _));exact BK86001.out)):gb86002≠gb86001));replace BK86001:=Za (Zy (g:=gb86001) (o:=.cells #[.int .i64 a0_0,.int .i64 a0_1] 35 (0,0)) (by(with_reducible repeat(first|refine Zo ?_ _|refine Zr ?_|refine Zn ?_ _));exact BK86001.out) hb);replace HB:=Za (Zx (by repeat(first|(with_reducible first|exact HB.out|apply Zq|apply Zm|apply Zs|refine Zp ?_ GE86001.out)|exact HB.out)) hb);clear hb hbox hg;have hnb8:=NB86001_86002.out;have hnc8:=NB86002_86001.out;have hcz9_0:w7.cell? ⟨gb86001,0,none⟩=some (.int .i64 a0_0):=(Zv BK86001.out 0).trans rfl;have hcz9_1:w7.cell? ⟨gb86001,1,none⟩=some (.int .i64 a0_1):=(Zv BK86001.out 1).trans rfl;have hfz9_0:=Zu BK86001.out 0;have hfz9_1:=Zu BK86001.out 1)|(go_at_call 53;(with_reducible refine(Zae.calls a0_0 a0_1 true _ A4.out).mono ?_);rintro e w10 ⟨rfl,hb⟩;replace BK86001:=Za (Zy (g:=gb86001) (o:=.cells #[.int .i64 a0_0,.int .i64 a0_1] 35 (0,0)) (by(with_reducible repeat(first|refine Zo ?_ _|refine Zr ?_|refine Zn ?_ _));exact BK86001.out) hb);replace BK86002:=Za (Zy (g:=gb86002) (o:=.cells #[.int .i64 0,.int .i64 0] 35 (0,0)) (by(with_reducible repeat(first|refine Zo ?_ _|refine Zr ?_|refine Zn ?_ _));exact BK86002.out) hb);replace HB:=Za (Zx (by repeat(first|(with_reducible first|exact HB.out|apply Zq|apply Zm|apply Zs|refine Zp ?_ GE86001.out|refine Zp ?_ GE86002.out)|exact HB.out)) hb);(try clear hb);(try clear hb2);(try clear hk);(try clear hi);have hcz11_0:w10.cell? ⟨gb86001,0,none⟩=some (.int .i64 a0_0):=(Zv BK86001.out 0).trans rfl;have hcz11_1:w10.cell? ⟨gb86001,1,none⟩=some (.int .i64 a0_1):=(Zv BK86001.out 1).trans rfl;have hfz11_0:=Zu BK86001.out 0;have hfz11_1:=Zu BK86001.out 1;have hcz12_0:w10.cell? ⟨gb86002,0,none⟩=some (.int .i64 0):=(Zv BK86002.out 0).trans rfl;have hcz12_1:w10.cell? ⟨gb86002,1,none⟩=some (.int .i64 0):=(Zv BK86002.out 1).trans rfl;have hfz12_0:=Zu BK86002.out 0;have hfz12_1:=Zu BK86002.out 1))
   refine bodyPost_ret (Zay rfl _ _ gb86002 35 #[.int .i64 a0_0,.int .i64 a0_1] (0,0) _ rfl (by(with_reducible repeat(first|refine Zo ?_ _|refine Zr ?_|refine Zn ?_ _));refine ZL (cs:=#[.int .i64 a0_0,.int .i64 0]) ?_ 1 _ rfl;(with_reducible repeat(first|refine Zo ?_ _|refine Zr ?_|refine Zn ?_ _));refine ZL (cs:=#[.int .i64 0,.int .i64 0]) ?_ 0 _ rfl;(with_reducible repeat(first|refine Zo ?_ _|refine Zr ?_|refine Zn ?_ _));exact BK86002.out) Try.underlying35 rfl (by kernel_rfl)) rfl ?_
   exact⟨by first|rfl|(simp[ZC,ZB] <;> rfl)|(simp[*,ZC,ZB] <;> rfl),by repeat(first|(with_reducible first|exact HB.out|apply Zq|apply Zm|apply Zs|refine Zp ?_ GE86001.out|refine Zp ?_ GE86002.out)|exact HB.out)⟩
  ·replace c5:=Bool.eq_false_iff.mpr c5
   subst c5
   have H1:(some (0,0,false))=some (r1,r2,r3):=by rw[if_neg (show ¬(false=true) by decide)] at H;exact H
   clear H
   have H:=H1
   clear H1
   simp only[Option.some.injEq,Prod.mk.injEq] at H
   obtain⟨rfl,rfl,rfl⟩:=H
   go_enter Try.func86,Try.ntmps86
   go_wp2_with (first|((with_reducible refine ZM (N:=2) rfl ?_);refine ZK ?hg (N:=2) ?hd (cs:=#[.int .i64 a0_0,.int .i64 a0_1]) (t:=35) ?hr ?_;(case hd=>rfl);(case hg=>rfl);(case hr=>first|(go_simp;done)|(go_simp;rfl));intro gb86001 hg w13 hbox hb;have BK86001:=Za (hbox);have GW86001:=Za ((by rw[hg];exact(Zw (by repeat(first|(with_reducible first|exact HB.out|apply Zq|apply Zm|apply Zs)|exact HB.out))):w.heap.size≤gb86001));have GE86001:=Za ((by rw[hg];exact(Zw (by repeat(first|(with_reducible first|exact HB.out|apply Zq|apply Zm|apply Zs)|exact HB.out))):w.heap.size≤gb86001));replace HB:=Za (Zx (by repeat(first|(with_reducible first|exact HB.out|apply Zq|apply Zm|apply Zs)|exact HB.out)) hb);clear hb hbox hg)|((with_reducible refine ZM (N:=4) rfl ?_);refine ZK ?hg (N:=4) ?hd (cs:=#[.int .i64 0,.int .i64 0]) (t:=35) ?hr ?_;(case hd=>rfl);(case hg=>rfl);(case hr=>first|(go_simp;done)|(go_simp;rfl));intro gb86002 hg w14 hbox hb;have BK86002:=Za (hbox);have GW86002:=Za ((by rw[hg];exact(Zw (by repeat(first|(with_reducible first|exact HB.out|apply Zq|apply Zm|apply Zs|refine Zp ?_ GE86001.out)|exact HB.out))):w.heap.size≤gb86002));have GE86002:=Za ((by rw[hg];exact(Zw (by repeat(first|(with_reducible first|exact HB.out|apply Zq|apply Zm|apply Zs|refine Zp ?_ GE86001.out)|exact HB.out))):w.heap.size≤gb86002));have NB86001_86002:=Za ((by rw[hg];exact Nat.ne_of_lt (ZH (g:=gb86001) (o:=.cells #[.int .i64 a0_0,.int .i64 a0_1] 35 (0,0)) (by(with_reducible repeat(first|refine Zo ?_ _|refine Zr ?_|refine Zn ?_ _));exact BK86001.out)):gb86001≠gb86002));have NB86002_86001:=Za ((by rw[hg];exact Nat.ne_of_gt (ZH (g:=gb86001) (o:=.cells #[.int .i64 a0_0,.int .i64 a0_1] 35 (0,0)) (by(with_reducible repeat(first|refine Zo ?_ _|refine Zr ?_|refine Zn ?_ _));exact BK86001.out)):gb86002≠gb86001));replace BK86001:=Za (Zy (g:=gb86001) (o:=.cells #[.int .i64 a0_0,.int .i64 a0_1] 35 (0,0)) (by(with_reducible repeat(first|refine Zo ?_ _|refine Zr ?_|refine Zn ?_ _));exact BK86001.out) hb);replace HB:=Za (Zx (by repeat(first|(with_reducible first|exact HB.out|apply Zq|apply Zm|apply Zs|refine Zp ?_ GE86001.out)|exact HB.out)) hb);clear hb hbox hg;have hnb15:=NB86001_86002.out;have hnc15:=NB86002_86001.out;have hcz16_0:w14.cell? ⟨gb86001,0,none⟩=some (.int .i64 a0_0):=(Zv BK86001.out 0).trans rfl;have hcz16_1:w14.cell? ⟨gb86001,1,none⟩=some (.int .i64 a0_1):=(Zv BK86001.out 1).trans rfl;have hfz16_0:=Zu BK86001.out 0;have hfz16_1:=Zu BK86001.out 1)|(go_at_call 53;(with_reducible refine(Zae.calls a0_0 a0_1 false _ A4.out).mono ?_);rintro e w17 ⟨rfl,hb⟩;replace BK86001:=Za (Zy (g:=gb86001) (o:=.cells #[.int .i64 a0_0,.int .i64 a0_1] 35 (0,0)) (by(with_reducible repeat(first|refine Zo ?_ _|refine Zr ?_|refine Zn ?_ _));exact BK86001.out) hb);replace BK86002:=Za (Zy (g:=gb86002) (o:=.cells #[.int .i64 0,.int .i64 0] 35 (0,0)) (by(with_reducible repeat(first|refine Zo ?_ _|refine Zr ?_|refine Zn ?_ _));exact BK86002.out) hb);replace HB:=Za (Zx (by repeat(first|(with_reducible first|exact HB.out|apply Zq|apply Zm|apply Zs|refine Zp ?_ GE86001.out|refine Zp ?_ GE86002.out)|exact HB.out)) hb);(try clear hb);(try clear hb2);(try clear hk);(try clear hi);have hcz18_0:w17.cell? ⟨gb86002,0,none⟩=some (.int .i64 0):=(Zv BK86002.out 0).trans rfl;have hcz18_1:w17.cell? ⟨gb86002,1,none⟩=some (.int .i64 0):=(Zv BK86002.out 1).trans rfl;have hfz18_0:=Zu BK86002.out 0;have hfz18_1:=Zu BK86002.out 1))
   refine bodyPost_ret (Zay rfl _ _ gb86002 35 #[.int .i64 0,.int .i64 0] (0,0) _ rfl (by(with_reducible repeat(first|refine Zo ?_ _|refine Zr ?_|refine Zn ?_ _));refine ZL (cs:=#[.int .i64 0,.int .i64 0]) ?_ 1 _ rfl;(with_reducible repeat(first|refine Zo ?_ _|refine Zr ?_|refine Zn ?_ _));refine ZL (cs:=#[.int .i64 0,.int .i64 0]) ?_ 0 _ rfl;(with_reducible repeat(first|refine Zo ?_ _|refine Zr ?_|refine Zn ?_ _));exact BK86002.out) Try.underlying35 rfl (by kernel_rfl)) rfl ?_
   exact⟨by first|rfl|(simp[ZC,ZB] <;> rfl)|(simp[*,ZC,ZB] <;> rfl),by repeat(first|(with_reducible first|exact HB.out|apply Zq|apply Zm|apply Zs|refine Zp ?_ GE86001.out|refine Zp ?_ GE86002.out)|exact HB.out)⟩
 ·replace c3:=Bool.eq_false_iff.mpr c3
  subst c3
  have H1:(some (0,0,false))=some (r1,r2,r3):=by rw[if_neg (show ¬(false=true) by decide)] at H;exact H
  clear H
  have H:=H1
  clear H1
  simp only[Option.some.injEq,Prod.mk.injEq] at H
  obtain⟨rfl,rfl,rfl⟩:=H
  go_enter Try.func86,Try.ntmps86
  go_wp2_with (first|((with_reducible refine ZM (N:=2) rfl ?_);refine ZK ?hg (N:=2) ?hd (cs:=#[.int .i64 a0_0,.int .i64 a0_1]) (t:=35) ?hr ?_;(case hd=>rfl);(case hg=>rfl);(case hr=>first|(go_simp;done)|(go_simp;rfl));intro gb86001 hg w19 hbox hb;have BK86001:=Za (hbox);have GW86001:=Za ((by rw[hg];exact(Zw (by repeat(first|(with_reducible first|exact HB.out|apply Zq|apply Zm|apply Zs)|exact HB.out))):w.heap.size≤gb86001));have GE86001:=Za ((by rw[hg];exact(Zw (by repeat(first|(with_reducible first|exact HB.out|apply Zq|apply Zm|apply Zs)|exact HB.out))):w.heap.size≤gb86001));replace HB:=Za (Zx (by repeat(first|(with_reducible first|exact HB.out|apply Zq|apply Zm|apply Zs)|exact HB.out)) hb);clear hb hbox hg)|((with_reducible refine ZM (N:=4) rfl ?_);refine ZK ?hg (N:=4) ?hd (cs:=#[.int .i64 0,.int .i64 0]) (t:=35) ?hr ?_;(case hd=>rfl);(case hg=>rfl);(case hr=>first|(go_simp;done)|(go_simp;rfl));intro gb86002 hg w20 hbox hb;have BK86002:=Za (hbox);have GW86002:=Za ((by rw[hg];exact(Zw (by repeat(first|(with_reducible first|exact HB.out|apply Zq|apply Zm|apply Zs|refine Zp ?_ GE86001.out)|exact HB.out))):w.heap.size≤gb86002));have GE86002:=Za ((by rw[hg];exact(Zw (by repeat(first|(with_reducible first|exact HB.out|apply Zq|apply Zm|apply Zs|refine Zp ?_ GE86001.out)|exact HB.out))):w.heap.size≤gb86002));have NB86001_86002:=Za ((by rw[hg];exact Nat.ne_of_lt (ZH (g:=gb86001) (o:=.cells #[.int .i64 a0_0,.int .i64 a0_1] 35 (0,0)) (by(with_reducible repeat(first|refine Zo ?_ _|refine Zr ?_|refine Zn ?_ _));exact BK86001.out)):gb86001≠gb86002));have NB86002_86001:=Za ((by rw[hg];exact Nat.ne_of_gt (ZH (g:=gb86001) (o:=.cells #[.int .i64 a0_0,.int .i64 a0_1] 35 (0,0)) (by(with_reducible repeat(first|refine Zo ?_ _|refine Zr ?_|refine Zn ?_ _));exact BK86001.out)):gb86002≠gb86001));replace BK86001:=Za (Zy (g:=gb86001) (o:=.cells #[.int .i64 a0_0,.int .i64 a0_1] 35 (0,0)) (by(with_reducible repeat(first|refine Zo ?_ _|refine Zr ?_|refine Zn ?_ _));exact BK86001.out) hb);replace HB:=Za (Zx (by repeat(first|(with_reducible first|exact HB.out|apply Zq|apply Zm|apply Zs|refine Zp ?_ GE86001.out)|exact HB.out)) hb);clear hb hbox hg;have hnb21:=NB86002_86001.out;have hnc21:=NB86001_86002.out;have hcz22_0:w20.cell? ⟨gb86002,0,none⟩=some (.int .i64 0):=(Zv BK86002.out 0).trans rfl;have hcz22_1:w20.cell? ⟨gb86002,1,none⟩=some (.int .i64 0):=(Zv BK86002.out 1).trans rfl;have hfz22_0:=Zu BK86002.out 0;have hfz22_1:=Zu BK86002.out 1))
  refine bodyPost_ret (Zay rfl _ _ gb86002 35 #[.int .i64 0,.int .i64 0] (0,0) _ rfl (by(with_reducible repeat(first|refine Zo ?_ _|refine Zr ?_|refine Zn ?_ _));refine ZL (cs:=#[.int .i64 0,.int .i64 0]) ?_ 1 _ rfl;(with_reducible repeat(first|refine Zo ?_ _|refine Zr ?_|refine Zn ?_ _));refine ZL (cs:=#[.int .i64 0,.int .i64 0]) ?_ 0 _ rfl;(with_reducible repeat(first|refine Zo ?_ _|refine Zr ?_|refine Zn ?_ _));exact BK86002.out) Try.underlying35 rfl (by kernel_rfl)) rfl ?_
  exact⟨by first|rfl|(simp[ZC,ZB] <;> rfl)|(simp[*,ZC,ZB] <;> rfl),by repeat(first|(with_reducible first|exact HB.out|apply Zq|apply Zm|apply Zs|refine Zp ?_ GE86001.out|refine Zp ?_ GE86002.out)|exact HB.out)⟩
def ZaH.f (a0_0:Int) (l0_1:List Int) (a1:Int) (a2:Int):Option (Int):=if 0≤(wrap64 ((wrap64 (a1 * a0_0))+a2)) then(if (wrap64 ((wrap64 (a1 * a0_0))+a2))<(l0_1.length:Int) then(some (rd l0_1 (wrap64 ((wrap64 (a1 * a0_0))+a2)))) else(none)) else(none)
set_option maxHeartbeats 8000000 in
set_option maxRecDepth 100000 in
theorem ZaH.calls (a0_0:Int) (A0_1:Option Addr) (c0_1:Nat) (l0_1:List Int) (a1:Int) (a2:Int) (r:Int) (w:World) (hr0_1:Kd.C (Kd.int .i64) w A0_1 l0_1.length l0_1) (hc0_1:l0_1.length≤c0_1) (h:ZaH.f a0_0 l0_1 a1 a2=some r) :
  Calls Try.prog 87 #[.agg #[.int .i64 a0_0,.slice A0_1 l0_1.length c0_1],.int .i64 a1,.int .i64 a2] w fun e w'=>e=.returned (.int .i64 r)∧Below w.heap.size w w':=by
 have hu73:=Try.underlying73
 have HR0_1:=Za hr0_1;have HC0_1:=Za hc0_1;clear hr0_1 hc0_1
 have HB:=Za (Below.refl w.heap.size w)
 have H:(if 0≤(wrap64 ((wrap64 (a1 * a0_0))+a2)) then(if (wrap64 ((wrap64 (a1 * a0_0))+a2))<(l0_1.length:Int) then(some (rd l0_1 (wrap64 ((wrap64 (a1 * a0_0))+a2)))) else(none)) else(none))=some r:=h
 clear h
 obtain⟨ji4,hji4⟩:∃j_:Int,(wrap64 ((wrap64 (a1 * a0_0))+a2))=j_:=⟨_,rfl⟩
 replace H:(if 0≤(ji4) then(if (ji4)<(l0_1.length:Int) then(some (rd l0_1 (ji4))) else(none)) else(none))=some r:=by first|(rw[hji4] at H;exact H)|(simp only[hji4] at H ⊢;exact H)
 have hji4w:(IntKind.i64.wrap ((wrap64 (a1 * a0_0))+a2))=ji4:=(ZQ _).trans hji4
 by_cases c5:0≤(ji4)
 ·rw[if_pos c5] at H
  have c5b0:decide (0≤(ji4))=true:=Ze c5
  clear c5
  by_cases c6:(ji4)<(l0_1.length:Int)
  ·rw[if_pos c6] at H
   have c6b0:decide ((ji4)<(l0_1.length:Int))=true:=Ze c6
   clear c6
   obtain rfl:=Zg H
   go_enter Try.func87,Try.ntmps87
   go_wp2_with (first|((with_reducible refine ZM (N:=3) rfl ?_);refine ZK ?hg (N:=3) ?hd (cs:=#[.int .i64 a0_0,.slice A0_1 l0_1.length c0_1]) (t:=73) ?hr ?_;(case hd=>rfl);(case hg=>rfl);(case hr=>first|(go_simp;done)|(go_simp;rfl));intro gb87001 hg w7 hbox hb;have BK87001:=Za (hbox);have GW87001:=Za ((by rw[hg];exact(Zw (by repeat(first|(with_reducible first|exact HB.out|apply Zq|apply Zm|apply Zs)|exact HB.out))):w.heap.size≤gb87001));have GE87001:=Za ((by rw[hg];exact(Zw (by repeat(first|(with_reducible first|exact HB.out|apply Zq|apply Zm|apply Zs)|exact HB.out))):w.heap.size≤gb87001));replace HB:=Za (Zx (by repeat(first|(with_reducible first|exact HB.out|apply Zq|apply Zm|apply Zs)|exact HB.out)) hb);clear hb hbox hg;have hcz8_0:w7.cell? ⟨gb87001,0,none⟩=some (.int .i64 a0_0):=(Zv BK87001.out 0).trans rfl;have hcz8_1:w7.cell? ⟨gb87001,1,none⟩=some (.slice A0_1 l0_1.length c0_1):=(Zv BK87001.out 1).trans rfl;have hfz8_0:=Zu BK87001.out 0;have hfz8_1:=Zu BK87001.out 1;have p87002:0≤((ji4):Int):=Zd (by first|(with_reducible assumption)|assumption);have q87002:(ji4)<(l0_1.length:Int):=Zd (by first|(with_reducible assumption)|assumption);obtain⟨ad87002,e87002,hx87002_0⟩:=Kd.at_int HR0_1.out (ji4) p87002 q87002;cases e87002;replace hx87002_0:=(HB.out.cell (Zc w _ hx87002_0)).trans hx87002_0;replace p87002:=eq_true p87002;replace q87002:=eq_true q87002))
   go_ret
   exact⟨by first|rfl|(simp[ZC,ZB] <;> rfl)|(simp only[← hji4];first|rfl|(simp[ZC,ZB] <;> rfl))|(simp[*,ZC,ZB] <;> rfl),by repeat(first|(with_reducible first|exact HB.out|apply Zq|apply Zm|apply Zs|refine Zp ?_ GE87001.out)|exact HB.out)⟩
  ·rw[if_neg c6] at H
   exact absurd H (by simp)
 ·rw[if_neg c5] at H
  exact absurd H (by simp)
def ZE.j0:Nat→Int→Int→Bool→Int→List Int→Option (Int×Int×Bool)
 | 0,_,_,_,_,_=>none
 | k+1,x1,x2,x24,x48002000,x48002001=>if x24=true then(some (0,0,false)) else((ZaH.f x48002000 x48002001 x2 x1).bind fun t48006=>((ZaH.f x48002000 x48002001 x1 x2).bind fun t48007=>((Za4.f (wrap64 (-t48006)) t48007 true).bind fun bt48008=>(some (bt48008.1,bt48008.2.1,bt48008.2.2)))))
def ZE.f (k:Nat) (a0_0:Int) (l0_1:List Int) (a1:Int) (a2:Int):Option (Int×Int×Bool):=(Z1.f k a0_0 l0_1).bind fun t48003=>(if t48003=true then((Zaw.f a0_0 a1).bind fun t48004=>(if t48004=true then((Zaw.f a0_0 a2).bind fun t48005=>(ZE.j0 k a1 a2 (!t48005) a0_0 l0_1)) else(ZE.j0 k a1 a2 true a0_0 l0_1))) else(ZE.j0 k a1 a2 true a0_0 l0_1))
def ZE.T3:Bool×List (List Nat×List Nat):=(true,[([],[]),([],[]),([],[]),([0,1,2],[0,1,2]),([3],[3]),([],[]),([],[]),([],[]),([5,6,7,3],[5,6,7]),([4,8],[4,8]),([9,8],[9]),([10],[10]),([10],[10]),([11,10,0,1,2,3,4,5,6,7,8,9,10,11,12],[11]),([12,13,0,1,2,3,4,5,6,7,8,9,10,11,12,13],[12])])
def ZE.B3:List Nat:=[0,0,0,7,15,0,0,0,239,511,1023,2047,2047,8191,16383]
theorem ZE.tab3:rtab .any (opsOf Try.f48 3)=ZE.T3:=by kernel_rfl
theorem ZE.bits3:Zbi ZE.T3.2 ZE.B3=true:=by kernel_rfl
set_option maxHeartbeats 8000000 in
set_option maxRecDepth 100000 in
theorem ZE.calls (k:Nat) (a0_0:Int) (A0_1:Option Addr) (c0_1:Nat) (l0_1:List Int) (a1:Int) (a2:Int) (r1:Int) (r2:Int) (r3:Bool) (w:World) (hr0_1:Kd.C (Kd.int .i64) w A0_1 l0_1.length l0_1) (hc0_1:l0_1.length≤c0_1) (h:ZE.f k a0_0 l0_1 a1 a2=some (r1,r2,r3)) :
  Calls Try.prog 48 #[.agg #[.int .i64 a0_0,.slice A0_1 l0_1.length c0_1],.int .i64 a1,.int .i64 a2] w fun e w'=>e=.returned (.tuple #[.agg #[.int .i64 r1,.int .i64 r2],.bool r3])∧Below w.heap.size w w':=by
 have hu73:=Try.underlying73
 have hu35:=Try.underlying35
 have HR0_1:=Za hr0_1;have HC0_1:=Za hc0_1;clear hr0_1 hc0_1
 have HB:=Za (Below.refl w.heap.size w)
 have H:((Z1.f k a0_0 l0_1).bind fun t48003=>(if t48003=true then((Zaw.f a0_0 a1).bind fun t48004=>(if t48004=true then((Zaw.f a0_0 a2).bind fun t48005=>(ZE.j0 k a1 a2 (!t48005) a0_0 l0_1)) else(ZE.j0 k a1 a2 true a0_0 l0_1))) else(ZE.j0 k a1 a2 true a0_0 l0_1)))=some (r1,r2,r3):=h
 clear h;have HC4:=Za H;clear H
 go_enter Try.func48,Try.ntmps48
 go_upto_region 1 with (first|((with_reducible refine ZM (N:=3) rfl ?_);refine ZK ?hg (N:=3) ?hd (cs:=#[.int .i64 a0_0,.slice A0_1 l0_1.length c0_1]) (t:=73) ?hr ?_;(case hd=>rfl);(case hg=>rfl);(case hr=>first|(go_simp;done)|(go_simp;rfl));intro gb48001 hg w5 hbox hb;have BK48001:=Za (hbox);have GW48001:=Za ((by rw[hg];exact(Zw (by repeat(first|(with_reducible first|exact HB.out|apply Zq|apply Zm|apply Zs)|exact HB.out))):w.heap.size≤gb48001));have GE48001:=Za ((by rw[hg];exact(Zw (by repeat(first|(with_reducible first|exact HB.out|apply Zq|apply Zm|apply Zs)|exact HB.out))):w.heap.size≤gb48001));replace HB:=Za (Zx (by repeat(first|(with_reducible first|exact HB.out|apply Zq|apply Zm|apply Zs)|exact HB.out)) hb);clear hb hbox hg)|((with_reducible refine ZM (N:=6) rfl ?_);refine ZK ?hg (N:=6) ?hd (cs:=#[.int .i64 0,.int .i64 0]) (t:=35) ?hr ?_;(case hd=>rfl);(case hg=>rfl);(case hr=>first|(go_simp;done)|(go_simp;rfl));intro gb48002 hg w6 hbox hb;have BK48002:=Za (hbox);have GW48002:=Za ((by rw[hg];exact(Zw (by repeat(first|(with_reducible first|exact HB.out|apply Zq|apply Zm|apply Zs|refine Zp ?_ GE48001.out)|exact HB.out))):w.heap.size≤gb48002));have GE48002:=Za ((by rw[hg];exact(Zw (by repeat(first|(with_reducible first|exact HB.out|apply Zq|apply Zm|apply Zs|refine Zp ?_ GE48001.out)|exact HB.out))):w.heap.size≤gb48002));have NB48001_48002:=Za ((by rw[hg];exact Nat.ne_of_lt (ZH (g:=gb48001) (o:=.cells #[.int .i64 a0_0,.slice A0_1 l0_1.length c0_1] 73 (0,0)) (by(with_reducible repeat(first|refine Zo ?_ _|refine Zr ?_|refine Zn ?_ _));exact BK48001.out)):gb48001≠gb48002));have NB48002_48001:=Za ((by rw[hg];exact Nat.ne_of_gt (ZH (g:=gb48001) (o:=.cells #[.int .i64 a0_0,.slice A0_1 l0_1.length c0_1] 73 (0,0)) (by(with_reducible repeat(first|refine Zo ?_ _|refine Zr ?_|refine Zn ?_ _));exact BK48001.out)):gb48002≠gb48001));replace BK48001:=Za (Zy (g:=gb48001) (o:=.cells #[.int .i64 a0_0,.slice A0_1 l0_1.length c0_1] 73 (0,0)) (by(with_reducible repeat(first|refine Zo ?_ _|refine Zr ?_|refine Zn ?_ _));exact BK48001.out) hb);replace HB:=Za (Zx (by repeat(first|(with_reducible first|exact HB.out|apply Zq|apply Zm|apply Zs|refine Zp ?_ GE48001.out)|exact HB.out)) hb);clear hb hbox hg))
 (try simp only[Act.put,List.setIfInBounds_toArray,List.set_cons_zero,List.set_cons_succ])
 go_cut [24] (fun v24 wc=>∃(kq:Nat) (x24_3:Bool),v24=.bool x24_3∧Aside0 (ZE.j0 kq a1 a2 x24_3 a0_0 l0_1=some (r1,r2,r3))∧Aside0 (kq≤k)∧Aside0 (wc.heap[gb48001]? = some (.cells #[.int .i64 a0_0,(.slice A0_1 l0_1.length c0_1)] 73 (0,0)))∧Aside0 (wc.heap[gb48002]? = some (.cells #[.int .i64 0,.int .i64 0] 35 (0,0)))∧Aside0 (Below w.heap.size w wc))
 case first=>
  have H:=HC4.out
  clear HC4
  replace H:=Zh H
  obtain⟨t48003,A70,H⟩:=H
  replace H:(if t48003=true then((Zaw.f a0_0 a1).bind fun t48004=>(if t48004=true then((Zaw.f a0_0 a2).bind fun t48005=>(ZE.j0 k a1 a2 (!t48005) a0_0 l0_1)) else(ZE.j0 k a1 a2 true a0_0 l0_1))) else(ZE.j0 k a1 a2 true a0_0 l0_1))=some (r1,r2,r3):=H
  have A7:=Za A70;clear A70
  by_cases c8:t48003=true
  ·subst c8
   have H1:((Zaw.f a0_0 a1).bind fun t48004=>(if t48004=true then((Zaw.f a0_0 a2).bind fun t48005=>(ZE.j0 k a1 a2 (!t48005) a0_0 l0_1)) else(ZE.j0 k a1 a2 true a0_0 l0_1)))=some (r1,r2,r3):=by rw[if_pos rfl] at H;exact H
   clear H
   have H:=H1
   clear H1
   replace H:=Zh H
   obtain⟨t48004,A90,H⟩:=H
   replace H:(if t48004=true then((Zaw.f a0_0 a2).bind fun t48005=>(ZE.j0 k a1 a2 (!t48005) a0_0 l0_1)) else(ZE.j0 k a1 a2 true a0_0 l0_1))=some (r1,r2,r3):=H
   have A9:=Za A90;clear A90
   by_cases c10:t48004=true
   ·subst c10
    have H1:((Zaw.f a0_0 a2).bind fun t48005=>(ZE.j0 k a1 a2 (!t48005) a0_0 l0_1))=some (r1,r2,r3):=by rw[if_pos rfl] at H;exact H
    clear H
    have H:=H1
    clear H1
    replace H:=Zh H
    obtain⟨t48005,A110,H⟩:=H
    replace H:(ZE.j0 k a1 a2 (!t48005) a0_0 l0_1)=some (r1,r2,r3):=H
    have A11:=Za A110;clear A110
    have H':=Za H
    clear H
    have hnb12:=NB48001_48002.out
    have hnc12:=NB48002_48001.out
    have hcz13_0:w6.cell? ⟨gb48001,0,none⟩=some (.int .i64 a0_0):=(Zv BK48001.out 0).trans rfl
    have hcz13_1:w6.cell? ⟨gb48001,1,none⟩=some (.slice A0_1 l0_1.length c0_1):=(Zv BK48001.out 1).trans rfl
    have hfz13_0:=Zu BK48001.out 0
    have hfz13_1:=Zu BK48001.out 1
    go_wp2_with (first|((with_reducible refine ZF (f:=85) rfl ?_);refine ZY (some 9) rfl rfl Try.func85 (by kernel_rfl) rfl #[.agg #[.int .i64 a0_0,.slice A0_1 l0_1.length c0_1]] rfl (by(try simp only[List.map_toArray,List.map_cons,List.map_nil]);first|done|rfl|(simp only[Zk,Zj];rfl)) ?_;(with_reducible refine(Z1.calls k a0_0 _ _ l0_1 true _ ?side1 ?side2 A7.out).mono ?_);(case side1=>repeat(first|exact(Zb HR0_1.out HB.out)|(with_reducible refine Kd.C_alloc ?_ _)|(with_reducible refine Kd.C_drewN ?_ _)|(with_reducible refine Kd.C_drew ?_)));(case side2=>exact HC0_1.out);rintro e w14 ⟨rfl,hb⟩;refine⟨_,rfl,?_⟩;replace BK48001:=Za (Zy (g:=gb48001) (o:=.cells #[.int .i64 a0_0,.slice A0_1 l0_1.length c0_1] 73 (0,0)) (by(with_reducible repeat(first|refine Zo ?_ _|refine Zr ?_|refine Zn ?_ _));exact BK48001.out) hb);replace BK48002:=Za (Zy (g:=gb48002) (o:=.cells #[.int .i64 0,.int .i64 0] 35 (0,0)) (by(with_reducible repeat(first|refine Zo ?_ _|refine Zr ?_|refine Zn ?_ _));exact BK48002.out) hb);replace HB:=Za (Zx (by repeat(first|(with_reducible first|exact HB.out|apply Zq|apply Zm|apply Zs|refine Zp ?_ GE48001.out|refine Zp ?_ GE48002.out)|exact HB.out)) hb);(try clear hb);(try clear hb2);(try clear hk);(try clear hi);have hcz15_0:w14.cell? ⟨gb48001,0,none⟩=some (.int .i64 a0_0):=(Zv BK48001.out 0).trans rfl;have hcz15_1:w14.cell? ⟨gb48001,1,none⟩=some (.slice A0_1 l0_1.length c0_1):=(Zv BK48001.out 1).trans rfl;have hfz15_0:=Zu BK48001.out 0;have hfz15_1:=Zu BK48001.out 1)|(go_at_call 52;(with_reducible refine(Zaw.calls a0_0 a1 true _ A9.out).mono ?_);rintro e w' ⟨rfl,⟨nd,rfl⟩⟩)|(go_at_call 52;(with_reducible refine(Zaw.calls a0_0 a2 t48005 _ A11.out).mono ?_);rintro e w' ⟨rfl,⟨nd,rfl⟩⟩))
    go_meet
    case rel=>exact⟨_,(!t48005),(by first|rfl|(simp;done)|(simp[*];done)),H',⟨by first|omega|exact Nat.le_refl _⟩,⟨by(with_reducible repeat(first|refine Zo ?_ _|refine Zr ?_|refine Zn ?_ _));exact BK48001.out⟩,⟨by(with_reducible repeat(first|refine Zo ?_ _|refine Zr ?_|refine Zn ?_ _));exact BK48002.out⟩,⟨by repeat(first|(with_reducible first|exact HB.out|apply Zq|apply Zm|apply Zs|refine Zp ?_ GE48001.out|refine Zp ?_ GE48002.out)|exact HB.out)⟩⟩
   ·replace c10:=Bool.eq_false_iff.mpr c10
    subst c10
    have H1:(ZE.j0 k a1 a2 true a0_0 l0_1)=some (r1,r2,r3):=by rw[if_neg (show ¬(false=true) by decide)] at H;exact H
    clear H
    have H:=H1
    clear H1
    have H':=Za H
    clear H
    have hnb16:=NB48001_48002.out
    have hnc16:=NB48002_48001.out
    have hcz17_0:w6.cell? ⟨gb48001,0,none⟩=some (.int .i64 a0_0):=(Zv BK48001.out 0).trans rfl
    have hcz17_1:w6.cell? ⟨gb48001,1,none⟩=some (.slice A0_1 l0_1.length c0_1):=(Zv BK48001.out 1).trans rfl
    have hfz17_0:=Zu BK48001.out 0
    have hfz17_1:=Zu BK48001.out 1
    go_wp2_with (first|((with_reducible refine ZF (f:=85) rfl ?_);refine ZY (some 9) rfl rfl Try.func85 (by kernel_rfl) rfl #[.agg #[.int .i64 a0_0,.slice A0_1 l0_1.length c0_1]] rfl (by(try simp only[List.map_toArray,List.map_cons,List.map_nil]);first|done|rfl|(simp only[Zk,Zj];rfl)) ?_;(with_reducible refine(Z1.calls k a0_0 _ _ l0_1 true _ ?side1 ?side2 A7.out).mono ?_);(case side1=>repeat(first|exact(Zb HR0_1.out HB.out)|(with_reducible refine Kd.C_alloc ?_ _)|(with_reducible refine Kd.C_drewN ?_ _)|(with_reducible refine Kd.C_drew ?_)));(case side2=>exact HC0_1.out);rintro e w18 ⟨rfl,hb⟩;refine⟨_,rfl,?_⟩;replace BK48001:=Za (Zy (g:=gb48001) (o:=.cells #[.int .i64 a0_0,.slice A0_1 l0_1.length c0_1] 73 (0,0)) (by(with_reducible repeat(first|refine Zo ?_ _|refine Zr ?_|refine Zn ?_ _));exact BK48001.out) hb);replace BK48002:=Za (Zy (g:=gb48002) (o:=.cells #[.int .i64 0,.int .i64 0] 35 (0,0)) (by(with_reducible repeat(first|refine Zo ?_ _|refine Zr ?_|refine Zn ?_ _));exact BK48002.out) hb);replace HB:=Za (Zx (by repeat(first|(with_reducible first|exact HB.out|apply Zq|apply Zm|apply Zs|refine Zp ?_ GE48001.out|refine Zp ?_ GE48002.out)|exact HB.out)) hb);(try clear hb);(try clear hb2);(try clear hk);(try clear hi);have hcz19_0:w18.cell? ⟨gb48001,0,none⟩=some (.int .i64 a0_0):=(Zv BK48001.out 0).trans rfl;have hcz19_1:w18.cell? ⟨gb48001,1,none⟩=some (.slice A0_1 l0_1.length c0_1):=(Zv BK48001.out 1).trans rfl;have hfz19_0:=Zu BK48001.out 0;have hfz19_1:=Zu BK48001.out 1)|(go_at_call 52;(with_reducible refine(Zaw.calls a0_0 a1 false _ A9.out).mono ?_);rintro e w' ⟨rfl,⟨nd,rfl⟩⟩))
    go_meet
    case rel=>exact⟨_,(true),(by first|rfl|(simp;done)|(simp[*];done)),H',⟨by first|omega|exact Nat.le_refl _⟩,⟨by(with_reducible repeat(first|refine Zo ?_ _|refine Zr ?_|refine Zn ?_ _));exact BK48001.out⟩,⟨by(with_reducible repeat(first|refine Zo ?_ _|refine Zr ?_|refine Zn ?_ _));exact BK48002.out⟩,⟨by repeat(first|(with_reducible first|exact HB.out|apply Zq|apply Zm|apply Zs|refine Zp ?_ GE48001.out|refine Zp ?_ GE48002.out)|exact HB.out)⟩⟩
  ·replace c8:=Bool.eq_false_iff.mpr c8
   subst c8
   have H1:(ZE.j0 k a1 a2 true a0_0 l0_1)=some (r1,r2,r3):=by rw[if_neg (show ¬(false=true) by decide)] at H;exact H
   clear H
   have H:=H1
   clear H1
   have H':=Za H
   clear H
   have hnb20:=NB48001_48002.out
   have hnc20:=NB48002_48001.out
   have hcz21_0:w6.cell? ⟨gb48001,0,none⟩=some (.int .i64 a0_0):=(Zv BK48001.out 0).trans rfl
   have hcz21_1:w6.cell? ⟨gb48001,1,none⟩=some (.slice A0_1 l0_1.length c0_1):=(Zv BK48001.out 1).trans rfl
   have hfz21_0:=Zu BK48001.out 0
   have hfz21_1:=Zu BK48001.out 1
   go_wp2_with (first|((with_reducible refine ZF (f:=85) rfl ?_);refine ZY (some 9) rfl rfl Try.func85 (by kernel_rfl) rfl #[.agg #[.int .i64 a0_0,.slice A0_1 l0_1.length c0_1]] rfl (by(try simp only[List.map_toArray,List.map_cons,List.map_nil]);first|done|rfl|(simp only[Zk,Zj];rfl)) ?_;(with_reducible refine(Z1.calls k a0_0 _ _ l0_1 false _ ?side1 ?side2 A7.out).mono ?_);(case side1=>repeat(first|exact(Zb HR0_1.out HB.out)|(with_reducible refine Kd.C_alloc ?_ _)|(with_reducible refine Kd.C_drewN ?_ _)|(with_reducible refine Kd.C_drew ?_)));(case side2=>exact HC0_1.out);rintro e w22 ⟨rfl,hb⟩;refine⟨_,rfl,?_⟩;replace BK48001:=Za (Zy (g:=gb48001) (o:=.cells #[.int .i64 a0_0,.slice A0_1 l0_1.length c0_1] 73 (0,0)) (by(with_reducible repeat(first|refine Zo ?_ _|refine Zr ?_|refine Zn ?_ _));exact BK48001.out) hb);replace BK48002:=Za (Zy (g:=gb48002) (o:=.cells #[.int .i64 0,.int .i64 0] 35 (0,0)) (by(with_reducible repeat(first|refine Zo ?_ _|refine Zr ?_|refine Zn ?_ _));exact BK48002.out) hb);replace HB:=Za (Zx (by repeat(first|(with_reducible first|exact HB.out|apply Zq|apply Zm|apply Zs|refine Zp ?_ GE48001.out|refine Zp ?_ GE48002.out)|exact HB.out)) hb);(try clear hb);(try clear hb2);(try clear hk);(try clear hi)))
   go_meet
   case rel=>exact⟨_,(true),(by first|rfl|(simp;done)|(simp[*];done)),H',⟨by first|omega|exact Nat.le_refl _⟩,⟨by(with_reducible repeat(first|refine Zo ?_ _|refine Zr ?_|refine Zn ?_ _));exact BK48001.out⟩,⟨by(with_reducible repeat(first|refine Zo ?_ _|refine Zr ?_|refine Zn ?_ _));exact BK48002.out⟩,⟨by repeat(first|(with_reducible first|exact HB.out|apply Zq|apply Zm|apply Zs|refine Zp ?_ GE48001.out|refine Zp ?_ GE48002.out)|exact HB.out)⟩⟩
 case rest=>
  clear HC4
  try clear c1
  try clear c2
  try clear p2
  try clear c4
  try clear c8
  try clear c10
  try clear c12
  try clear c16
  try clear c20
  try clear hcz13_0
  try clear hcz13_1
  try clear hcz15_0
  try clear hcz15_1
  try clear hcz17_0
  try clear hcz17_1
  try clear hcz19_0
  try clear hcz19_1
  try clear hcz21_0
  try clear hcz21_1
  try clear hfz13_0
  try clear hfz13_1
  try clear hfz15_0
  try clear hfz15_1
  try clear hfz17_0
  try clear hfz17_1
  try clear hfz19_0
  try clear hfz19_1
  try clear hfz21_0
  try clear hfz21_1
  obtain⟨kq,x24_3,rfl,HA,HJ3,BK48001,BK48002,HB⟩:=hcut
  cases kq with
  | zero=>exact absurd HA.out (by simp[ZE.j0])
  | succ kj3=>
   have H:=HA.out
   clear HA
   simp only[ZE.j0] at H
   by_cases c23:x24_3=true
   ·subst c23
    have H1:(some (0,0,false))=some (r1,r2,r3):=by rw[if_pos rfl] at H;exact H
    clear H
    have H:=H1
    clear H1
    simp only[Option.some.injEq,Prod.mk.injEq] at H
    obtain⟨rfl,rfl,rfl⟩:=H
    have hnb24:=NB48002_48001.out
    have hnc24:=NB48001_48002.out
    have hcz25_0:wc.cell? ⟨gb48002,0,none⟩=some (.int .i64 0):=(Zv BK48002.out 0).trans rfl
    have hcz25_1:wc.cell? ⟨gb48002,1,none⟩=some (.int .i64 0):=(Zv BK48002.out 1).trans rfl
    have hfz25_0:=Zu BK48002.out 0
    have hfz25_1:=Zu BK48002.out 1
    go_wp2
    refine bodyPost_ret (Zay rfl _ _ gb48002 35 #[.int .i64 0,.int .i64 0] (0,0) _ rfl (by(with_reducible repeat(first|refine Zo ?_ _|refine Zr ?_|refine Zn ?_ _));refine ZL (cs:=#[.int .i64 0,.int .i64 0]) ?_ 1 _ rfl;(with_reducible repeat(first|refine Zo ?_ _|refine Zr ?_|refine Zn ?_ _));refine ZL (cs:=#[.int .i64 0,.int .i64 0]) ?_ 0 _ rfl;(with_reducible repeat(first|refine Zo ?_ _|refine Zr ?_|refine Zn ?_ _));exact BK48002.out) Try.underlying35 rfl (by kernel_rfl)) rfl ?_
    exact⟨by first|rfl|(simp[ZC,ZB] <;> rfl)|(simp[*,ZC,ZB] <;> rfl),by repeat(first|(with_reducible first|exact HB.out|apply Zq|apply Zm|apply Zs|refine Zp ?_ GE48001.out|refine Zp ?_ GE48002.out)|exact HB.out)⟩
   ·replace c23:=Bool.eq_false_iff.mpr c23
    subst c23
    have H1:((ZaH.f a0_0 l0_1 a2 a1).bind fun t48006=>((ZaH.f a0_0 l0_1 a1 a2).bind fun t48007=>((Za4.f (wrap64 (-t48006)) t48007 true).bind fun bt48008=>(some (bt48008.1,bt48008.2.1,bt48008.2.2)))))=some (r1,r2,r3):=by rw[if_neg (show ¬(false=true) by decide)] at H;exact H
    clear H
    have H:=H1
    clear H1
    replace H:=Zh H
    obtain⟨t48006,A260,H⟩:=H
    replace H:((ZaH.f a0_0 l0_1 a1 a2).bind fun t48007=>((Za4.f (wrap64 (-t48006)) t48007 true).bind fun bt48008=>(some (bt48008.1,bt48008.2.1,bt48008.2.2))))=some (r1,r2,r3):=H
    have A26:=Za A260;clear A260
    replace H:=Zh H
    obtain⟨t48007,A270,H⟩:=H
    replace H:((Za4.f (wrap64 (-t48006)) t48007 true).bind fun bt48008=>(some (bt48008.1,bt48008.2.1,bt48008.2.2)))=some (r1,r2,r3):=H
    have A27:=Za A270;clear A270
    replace H:=Zh H
    obtain⟨⟨t48008,t48009,t48010⟩,A280,H⟩:=H
    replace H:(some (t48008,t48009,t48010))=some (r1,r2,r3):=H
    have A28:=Za A280;clear A280
    simp only[Option.some.injEq,Prod.mk.injEq] at H
    obtain⟨rfl,rfl,rfl⟩:=H
    try go_wp2
    replace BK48001:=Za (Zr BK48001.out);replace BK48002:=Za (Zr BK48002.out);replace HB:=Za (Zs HB.out)
    refine ZbL (n:=15) (S:=fun w'=>w'.cell? ⟨gb48001,0,none⟩=some (.int .i64 a0_0)∧w'.cell? ⟨gb48001,1,none⟩=some (.slice A0_1 l0_1.length c0_1)) (ds:=[]) #[false,false,false,false,false,false,false,false,false,false,false,false,false,false,false] (by kernel_rfl) rfl rfl ⟨(Zv BK48001.out 0).trans rfl,(Zv BK48001.out 1).trans rfl⟩ (fun hHeld=>?_);refine Zby ZE.tab3 ZE.bits3 (fun HT_ HW_=>?_)
    generalize wc.drew=w29 at BK48001 BK48002 HB hHeld ⊢
    refine Z7 (i:=1) (N:=some 27) (v:=?_) (a':=?_) #[false,true,false,false,false,false,false,false,false,false,false,false,false,false,false] rfl rfl (Z6 HT_.out (by kernel_rfl)) (fun _ _ _ h=>h) (Or.inl ⟨by rfl,?_⟩) ?_ ?_
    rotate_left
    ·intro w'
     go_simp
     with_reducible rfl
    rotate_left
    ·simp only[Act.put,List.setIfInBounds_toArray,List.set_cons_zero,List.set_cons_succ,ZQ,ZR]
     rfl
    refine Z7 (i:=2) (N:=some 28) (v:=?_) (a':=?_) #[false,true,true,false,false,false,false,false,false,false,false,false,false,false,false] rfl rfl (Z6 HT_.out (by kernel_rfl)) (fun _ _ _ h=>h) (Or.inl ⟨by rfl,?_⟩) ?_ ?_
    rotate_left
    ·intro w'
     go_simp
     with_reducible rfl
    rotate_left
    ·simp only[Act.put,List.setIfInBounds_toArray,List.set_cons_zero,List.set_cons_succ,ZQ,ZR]
     rfl
    refine Z7 (i:=6) (N:=some 32) (v:=?_) (a':=?_) #[false,true,true,false,false,false,true,false,false,false,false,false,false,false,false] rfl rfl (Z6 HT_.out (by kernel_rfl)) (fun _ _ _ h=>h) (Or.inl ⟨by rfl,?_⟩) ?_ ?_
    rotate_left
    ·intro w'
     go_simp
     with_reducible rfl
    rotate_left
    ·simp only[Act.put,List.setIfInBounds_toArray,List.set_cons_zero,List.set_cons_succ,ZQ,ZR]
     rfl
    refine Z7 (i:=7) (N:=some 33) (v:=?_) (a':=?_) #[false,true,true,false,false,false,true,true,false,false,false,false,false,false,false] rfl rfl (Z6 HT_.out (by kernel_rfl)) (fun _ _ _ h=>h) (Or.inl ⟨by rfl,?_⟩) ?_ ?_
    rotate_left
    ·intro w'
     go_simp
     with_reducible rfl
    rotate_left
    ·simp only[Act.put,List.setIfInBounds_toArray,List.set_cons_zero,List.set_cons_succ,ZQ,ZR]
     rfl
    refine take_ (i:=0) (N:=some 26) (v:=?_) (a':=?_) #[true,true,true,false,false,false,true,true,false,false,false,false,false,false,false] rfl rfl (ZaU HT_.out HW_.out (by kernel_rfl)) (fun _ _ _ h=>h) (Or.inl ⟨by rfl,?_⟩) hHeld ?_ ?_
    rotate_left
    ·rintro w' ⟨s0,s1⟩
     go_simp
     with_reducible rfl
    rotate_left
    ·simp only[Act.put,List.setIfInBounds_toArray,List.set_cons_zero,List.set_cons_succ,ZQ,ZR]
     rfl
    refine take_ (i:=5) (N:=some 31) (v:=?_) (a':=?_) #[true,true,true,false,false,true,true,true,false,false,false,false,false,false,false] rfl rfl (ZaU HT_.out HW_.out (by kernel_rfl)) (fun _ _ _ h=>h) (Or.inl ⟨by rfl,?_⟩) hHeld ?_ ?_
    rotate_left
    ·rintro w' ⟨s0,s1⟩
     go_simp
     with_reducible rfl
    rotate_left
    ·simp only[Act.put,List.setIfInBounds_toArray,List.set_cons_zero,List.set_cons_succ,ZQ,ZR]
     rfl
    refine one_ (i:=3) (N:=some 29) #[true,true,true,true,false,true,true,true,false,false,false,false,false,false,false] rfl rfl (ZaI HT_.out (by kernel_rfl)) (by decide) (fun K hK=>?_)
    refine Zbh Try.func87 (by kernel_rfl) rfl #[.agg #[.int .i64 a0_0,.slice A0_1 l0_1.length c0_1],.int .i64 a2,.int .i64 a1] (by rfl) rfl rfl (by(try simp only[List.map_toArray,List.map_cons,List.map_nil]);first|done|rfl|(simp only[Zk,Zj];rfl)) ?_
    with_reducible refine(ZaH.calls a0_0 _ _ l0_1 a2 a1 t48006 _ ?side1 ?side2 A26.out).mono ?_
    (case side1=>repeat(first|exact(Zb HR0_1.out HB.out)|(with_reducible refine Kd.C_alloc ?_ _)|(with_reducible refine Kd.C_drewN ?_ _)|(with_reducible refine Kd.C_drew ?_)))
    (case side2=>exact HC0_1.out)
    rintro e w30 ⟨rfl,hb⟩
    refine⟨_,rfl,?_⟩
    replace BK48001:=Za (Zy (g:=gb48001) (o:=.cells #[.int .i64 a0_0,.slice A0_1 l0_1.length c0_1] 73 (0,0)) (by(with_reducible repeat(first|refine Zo ?_ _|refine Zr ?_|refine Zn ?_ _));exact BK48001.out) hb);replace BK48002:=Za (Zy (g:=gb48002) (o:=.cells #[.int .i64 0,.int .i64 0] 35 (0,0)) (by(with_reducible repeat(first|refine Zo ?_ _|refine Zr ?_|refine Zn ?_ _));exact BK48002.out) hb);replace HB:=Za (Zx (by repeat(first|(with_reducible first|exact HB.out|apply Zq|apply Zm|apply Zs|refine Zp ?_ GE48001.out|refine Zp ?_ GE48002.out)|exact HB.out)) hb)
    (try clear hb)
    (try clear hb2)
    (try clear hk)
    (try clear hi)
    refine hK.out _ _ ⟨(Zv BK48001.out 0).trans rfl,(Zv BK48001.out 1).trans rfl⟩ (fun hHeld=>?_)
    clear hK K
    refine Zau (a':=?_) ?_ ?_
    rotate_left
    ·show Act.put _ (some 29) _=_
     simp only[Act.put,List.setIfInBounds_toArray,List.set_cons_zero,List.set_cons_succ,ZQ,ZR]
     rfl
    refine Z7 (i:=4) (N:=some 30) (v:=?_) (a':=?_) #[true,true,true,true,true,true,true,true,false,false,false,false,false,false,false] rfl rfl (Z6 HT_.out (by kernel_rfl)) (fun _ _ _ h=>h) (Or.inl ⟨by rfl,?_⟩) ?_ ?_
    rotate_left
    ·intro w'
     go_simp
     with_reducible rfl
    rotate_left
    ·simp only[Act.put,List.setIfInBounds_toArray,List.set_cons_zero,List.set_cons_succ,ZQ,ZR]
     rfl
    refine one_ (i:=8) (N:=some 34) #[true,true,true,true,true,true,true,true,true,false,false,false,false,false,false] rfl rfl (ZaI HT_.out (by kernel_rfl)) (by decide) (fun K hK=>?_)
    refine Zbh Try.func87 (by kernel_rfl) rfl #[.agg #[.int .i64 a0_0,.slice A0_1 l0_1.length c0_1],.int .i64 a1,.int .i64 a2] (by rfl) rfl rfl (by(try simp only[List.map_toArray,List.map_cons,List.map_nil]);first|done|rfl|(simp only[Zk,Zj];rfl)) ?_
    with_reducible refine(ZaH.calls a0_0 _ _ l0_1 a1 a2 t48007 _ ?side1 ?side2 A27.out).mono ?_
    (case side1=>repeat(first|exact(Zb HR0_1.out HB.out)|(with_reducible refine Kd.C_alloc ?_ _)|(with_reducible refine Kd.C_drewN ?_ _)|(with_reducible refine Kd.C_drew ?_)))
    (case side2=>exact HC0_1.out)
    rintro e w31 ⟨rfl,hb⟩
    refine⟨_,rfl,?_⟩
    replace BK48001:=Za (Zy (g:=gb48001) (o:=.cells #[.int .i64 a0_0,.slice A0_1 l0_1.length c0_1] 73 (0,0)) (by(with_reducible repeat(first|refine Zo ?_ _|refine Zr ?_|refine Zn ?_ _));exact BK48001.out) hb);replace BK48002:=Za (Zy (g:=gb48002) (o:=.cells #[.int .i64 0,.int .i64 0] 35 (0,0)) (by(with_reducible repeat(first|refine Zo ?_ _|refine Zr ?_|refine Zn ?_ _));exact BK48002.out) hb);replace HB:=Za (Zx (by repeat(first|(with_reducible first|exact HB.out|apply Zq|apply Zm|apply Zs|refine Zp ?_ GE48001.out|refine Zp ?_ GE48002.out)|exact HB.out)) hb)
    (try clear hb)
    (try clear hb2)
    (try clear hk)
    (try clear hi)
    refine hK.out _ _ ⟨(Zv BK48001.out 0).trans rfl,(Zv BK48001.out 1).trans rfl⟩ (fun hHeld=>?_)
    clear hK K
    refine Zau (a':=?_) ?_ ?_
    rotate_left
    ·show Act.put _ (some 34) _=_
     simp only[Act.put,List.setIfInBounds_toArray,List.set_cons_zero,List.set_cons_succ,ZQ,ZR]
     rfl
    refine Z7 (i:=9) (N:=some 35) (v:=?_) (a':=?_) #[true,true,true,true,true,true,true,true,true,true,false,false,false,false,false] rfl rfl (Z6 HT_.out (by kernel_rfl)) (fun _ _ _ h=>h) (Or.inl ⟨by rfl,?_⟩) ?_ ?_
    rotate_left
    ·intro w'
     go_simp
     with_reducible rfl
    rotate_left
    ·simp only[Act.put,List.setIfInBounds_toArray,List.set_cons_zero,List.set_cons_succ,ZQ,ZR]
     rfl
    refine one_ (i:=10) (N:=some 36) #[true,true,true,true,true,true,true,true,true,true,true,false,false,false,false] rfl rfl (ZaI HT_.out (by kernel_rfl)) (by decide) (fun K hK=>?_)
    refine Zbh Try.func86 (by kernel_rfl) rfl #[.agg #[.int .i64 (wrap64 (-t48006)),.int .i64 t48007],.bool true] (by rfl) rfl rfl (by(try simp only[List.map_toArray,List.map_cons,List.map_nil]);first|done|rfl|(simp only[Zk,Zj];rfl)) ?_
    with_reducible refine(Za4.calls (wrap64 (-t48006)) t48007 true t48008 t48009 t48010 _ A28.out).mono ?_
    rintro e w32 ⟨rfl,hb⟩
    refine⟨_,rfl,?_⟩
    replace BK48001:=Za (Zy (g:=gb48001) (o:=.cells #[.int .i64 a0_0,.slice A0_1 l0_1.length c0_1] 73 (0,0)) (by(with_reducible repeat(first|refine Zo ?_ _|refine Zr ?_|refine Zn ?_ _));exact BK48001.out) hb);replace BK48002:=Za (Zy (g:=gb48002) (o:=.cells #[.int .i64 0,.int .i64 0] 35 (0,0)) (by(with_reducible repeat(first|refine Zo ?_ _|refine Zr ?_|refine Zn ?_ _));exact BK48002.out) hb);replace HB:=Za (Zx (by repeat(first|(with_reducible first|exact HB.out|apply Zq|apply Zm|apply Zs|refine Zp ?_ GE48001.out|refine Zp ?_ GE48002.out)|exact HB.out)) hb)
    (try clear hb)
    (try clear hb2)
    (try clear hk)
    (try clear hi)
    refine hK.out _ _ ⟨(Zv BK48001.out 0).trans rfl,(Zv BK48001.out 1).trans rfl⟩ (fun hHeld=>?_)
    clear hK K
    refine Zau (a':=?_) ?_ ?_
    rotate_left
    ·show Act.put _ (some 36) _=_
     simp only[Act.put,List.setIfInBounds_toArray,List.set_cons_zero,List.set_cons_succ,ZQ,ZR]
     rfl
    refine Z7 (i:=11) (N:=some 37) (v:=?_) (a':=?_) #[true,true,true,true,true,true,true,true,true,true,true,true,false,false,false] rfl rfl (Z6 HT_.out (by kernel_rfl)) (fun _ _ _ h=>h) (Or.inl ⟨by rfl,?_⟩) ?_ ?_
    rotate_left
    ·intro w'
     go_simp
     with_reducible rfl
    rotate_left
    ·simp only[Act.put,List.setIfInBounds_toArray,List.set_cons_zero,List.set_cons_succ,ZQ,ZR]
     rfl
    refine Z7 (i:=12) (N:=some 38) (v:=?_) (a':=?_) #[true,true,true,true,true,true,true,true,true,true,true,true,true,false,false] rfl rfl (Z6 HT_.out (by kernel_rfl)) (fun _ _ _ h=>h) (Or.inl ⟨by rfl,?_⟩) ?_ ?_
    rotate_left
    ·intro w'
     go_simp
     with_reducible rfl
    rotate_left
    ·simp only[Act.put,List.setIfInBounds_toArray,List.set_cons_zero,List.set_cons_succ,ZQ,ZR]
     rfl
    refine one_ (i:=13) (N:=none) #[true,true,true,true,true,true,true,true,true,true,true,true,true,true,false] rfl rfl (ZaI HT_.out (by kernel_rfl)) (by decide) (fun K hK=>?_)
    have hs33:w32.cell? ⟨gb48002,0,none⟩=some (.int .i64 0):=(Zv BK48002.out 0).trans rfl
    have hfs33:=Zu BK48002.out 0
    have hns33_0:=NB48001_48002.out
    have hms33_0:=NB48002_48001.out
    have hs34:w32.cell? ⟨gb48002,1,none⟩=some (.int .i64 0):=(Zv BK48002.out 1).trans rfl
    have hfs34:=Zu BK48002.out 1
    have hns34_0:=NB48001_48002.out
    have hms34_0:=NB48002_48001.out
    refine skip_ (w1:=?_) (by rfl) rfl ?_ ?_
    rotate_left
    ·go_simp
     rfl
    refine hK.out _ _ ⟨((ZaE (p:=⟨gb48002,_,none⟩) NB48001_48002.out _).trans (((ZaE (p:=⟨gb48002,_,none⟩) NB48001_48002.out _).trans (hHeld.1)))),((ZaE (p:=⟨gb48002,_,none⟩) NB48001_48002.out _).trans (((ZaE (p:=⟨gb48002,_,none⟩) NB48001_48002.out _).trans (hHeld.2))))⟩ (fun hHeld=>?_)
    clear hK K
    refine Z7 (i:=14) (N:=some 7) (v:=?_) (a':=?_) #[true,true,true,true,true,true,true,true,true,true,true,true,true,true,true] rfl rfl (Z6 HT_.out (by kernel_rfl)) (fun _ _ _ h=>h) (Or.inl ⟨by rfl,?_⟩) ?_ ?_
    rotate_left
    ·intro w'
     go_simp
     with_reducible rfl
    rotate_left
    ·simp only[Act.put,List.setIfInBounds_toArray,List.set_cons_zero,List.set_cons_succ,ZQ,ZR]
     rfl
    refine Zb5 (ZbT HT_.out (by kernel_rfl)) ?_
    try go_wp2
    refine bodyPost_ret (Zay rfl _ _ gb48002 35 #[.int .i64 t48008,.int .i64 t48009] (0,0) _ rfl (by(with_reducible repeat(first|refine Zo ?_ _|refine Zr ?_|refine Zn ?_ _));refine ZL (cs:=#[.int .i64 t48008,.int .i64 0]) ?_ 1 _ rfl;(with_reducible repeat(first|refine Zo ?_ _|refine Zr ?_|refine Zn ?_ _));refine ZL (cs:=#[.int .i64 0,.int .i64 0]) ?_ 0 _ rfl;(with_reducible repeat(first|refine Zo ?_ _|refine Zr ?_|refine Zn ?_ _));exact BK48002.out) Try.underlying35 rfl (by kernel_rfl)) rfl ?_
    exact⟨by first|rfl|(simp[ZC,ZB] <;> rfl)|(simp[*,ZC,ZB] <;> rfl),by repeat(first|(with_reducible first|exact HB.out|apply Zq|apply Zm|apply Zs|refine Zp ?_ GE48001.out|refine Zp ?_ GE48002.out)|exact HB.out)⟩
def ZaD.f (k:Nat) (a0_0:Int) (l0_1:List (S84)) (a1:Int):Option (Int×Int×Bool):=(ZaP.f k a0_0 l0_1).bind fun bt15003=>((ZG.f k bt15003.1 bt15003.2).bind fun bt15007=>(if bt15007.2.2=true then((Z8.f a0_0 l0_1).bind fun t15013=>(if t15013=true then((ZE.f k bt15007.1 bt15007.2.1 0 a1).bind fun bt15014=>(some (bt15014.1,bt15014.2.1,bt15014.2.2))) else(some (0,0,false)))) else(some (0,0,false))))
set_option maxHeartbeats 8000000 in
set_option maxRecDepth 100000 in
theorem ZaD.calls (k:Nat) (a0_0:Int) (A0_1:Option Addr) (c0_1:Nat) (l0_1:List (S84)) (a1:Int) (r1:Int) (r2:Int) (r3:Bool) (w:World) (hr0_1:Kd.C k84 w A0_1 l0_1.length l0_1) (hc0_1:l0_1.length≤c0_1) (h:ZaD.f k a0_0 l0_1 a1=some (r1,r2,r3)) :
  Calls Try.prog 15 #[.agg #[.int .i64 a0_0,.slice A0_1 l0_1.length c0_1],.int .i64 a1] w fun e w'=>e=.returned (.tuple #[.agg #[.int .i64 r1,.int .i64 r2],.bool r3])∧Below w.heap.size w w':=by
 have hu31:=Try.underlying31
 have hu35:=Try.underlying35
 have hu73:=Try.underlying73
 have HR0_1:=Za hr0_1;have HC0_1:=Za hc0_1;clear hr0_1 hc0_1
 have HB:=Za (Below.refl w.heap.size w)
 have H:((ZaP.f k a0_0 l0_1).bind fun bt15003=>((ZG.f k bt15003.1 bt15003.2).bind fun bt15007=>(if bt15007.2.2=true then((Z8.f a0_0 l0_1).bind fun t15013=>(if t15013=true then((ZE.f k bt15007.1 bt15007.2.1 0 a1).bind fun bt15014=>(some (bt15014.1,bt15014.2.1,bt15014.2.2))) else(some (0,0,false)))) else(some (0,0,false)))))=some (r1,r2,r3):=h
 clear h
 replace H:=Zh H
 obtain⟨⟨t15003,t15004⟩,A30,H⟩:=H
 replace H:((ZG.f k t15003 t15004).bind fun bt15007=>(if bt15007.2.2=true then((Z8.f a0_0 l0_1).bind fun t15013=>(if t15013=true then((ZE.f k bt15007.1 bt15007.2.1 0 a1).bind fun bt15014=>(some (bt15014.1,bt15014.2.1,bt15014.2.2))) else(some (0,0,false)))) else(some (0,0,false))))=some (r1,r2,r3):=H
 have A3:=Za A30;clear A30
 replace H:=Zh H
 obtain⟨⟨t15007,t15008,t15011⟩,A40,H⟩:=H
 replace H:(if t15011=true then((Z8.f a0_0 l0_1).bind fun t15013=>(if t15013=true then((ZE.f k t15007 t15008 0 a1).bind fun bt15014=>(some (bt15014.1,bt15014.2.1,bt15014.2.2))) else(some (0,0,false)))) else(some (0,0,false)))=some (r1,r2,r3):=H
 have A4:=Za A40;clear A40
 by_cases c5:t15011=true
 ·subst c5
  have H1:((Z8.f a0_0 l0_1).bind fun t15013=>(if t15013=true then((ZE.f k t15007 t15008 0 a1).bind fun bt15014=>(some (bt15014.1,bt15014.2.1,bt15014.2.2))) else(some (0,0,false))))=some (r1,r2,r3):=by rw[if_pos rfl] at H;exact H
  clear H
  have H:=H1
  clear H1
  replace H:=Zh H
  obtain⟨t15013,A60,H⟩:=H
  replace H:(if t15013=true then((ZE.f k t15007 t15008 0 a1).bind fun bt15014=>(some (bt15014.1,bt15014.2.1,bt15014.2.2))) else(some (0,0,false)))=some (r1,r2,r3):=H
  have A6:=Za A60;clear A60
  by_cases c7:t15013=true
  ·subst c7
   have H1:((ZE.f k t15007 t15008 0 a1).bind fun bt15014=>(some (bt15014.1,bt15014.2.1,bt15014.2.2)))=some (r1,r2,r3):=by rw[if_pos rfl] at H;exact H
   clear H
   have H:=H1
   clear H1
   replace H:=Zh H
   obtain⟨⟨t15014,t15015,t15016⟩,A80,H⟩:=H
   replace H:(some (t15014,t15015,t15016))=some (r1,r2,r3):=H
   have A8:=Za A80;clear A80
   simp only[Option.some.injEq,Prod.mk.injEq] at H
   obtain⟨rfl,rfl,rfl⟩:=H
   go_enter Try.func15,Try.ntmps15
   go_wp2_with (first|((with_reducible refine ZM (N:=2) rfl ?_);refine ZK ?hg (N:=2) ?hd (cs:=#[.int .i64 a0_0,.slice A0_1 l0_1.length c0_1]) (t:=31) ?hr ?_;(case hd=>rfl);(case hg=>rfl);(case hr=>first|(go_simp;done)|(go_simp;rfl));intro gb15001 hg w9 hbox hb;have BK15001:=Za (hbox);have GW15001:=Za ((by rw[hg];exact(Zw (by repeat(first|(with_reducible first|exact HB.out|apply Zq|apply Zm|apply Zs)|exact HB.out))):w.heap.size≤gb15001));have GE15001:=Za ((by rw[hg];exact(Zw (by repeat(first|(with_reducible first|exact HB.out|apply Zq|apply Zm|apply Zs)|exact HB.out))):w.heap.size≤gb15001));replace HB:=Za (Zx (by repeat(first|(with_reducible first|exact HB.out|apply Zq|apply Zm|apply Zs)|exact HB.out)) hb);clear hb hbox hg)|((with_reducible refine ZM (N:=4) rfl ?_);refine ZK ?hg (N:=4) ?hd (cs:=#[.int .i64 0,.int .i64 0]) (t:=35) ?hr ?_;(case hd=>rfl);(case hg=>rfl);(case hr=>first|(go_simp;done)|(go_simp;rfl));intro gb15002 hg w10 hbox hb;have BK15002:=Za (hbox);have GW15002:=Za ((by rw[hg];exact(Zw (by repeat(first|(with_reducible first|exact HB.out|apply Zq|apply Zm|apply Zs|refine Zp ?_ GE15001.out)|exact HB.out))):w.heap.size≤gb15002));have GE15002:=Za ((by rw[hg];exact(Zw (by repeat(first|(with_reducible first|exact HB.out|apply Zq|apply Zm|apply Zs|refine Zp ?_ GE15001.out)|exact HB.out))):w.heap.size≤gb15002));have NB15001_15002:=Za ((by rw[hg];exact Nat.ne_of_lt (ZH (g:=gb15001) (o:=.cells #[.int .i64 a0_0,.slice A0_1 l0_1.length c0_1] 31 (0,0)) (by(with_reducible repeat(first|refine Zo ?_ _|refine Zr ?_|refine Zn ?_ _));exact BK15001.out)):gb15001≠gb15002));have NB15002_15001:=Za ((by rw[hg];exact Nat.ne_of_gt (ZH (g:=gb15001) (o:=.cells #[.int .i64 a0_0,.slice A0_1 l0_1.length c0_1] 31 (0,0)) (by(with_reducible repeat(first|refine Zo ?_ _|refine Zr ?_|refine Zn ?_ _));exact BK15001.out)):gb15002≠gb15001));replace BK15001:=Za (Zy (g:=gb15001) (o:=.cells #[.int .i64 a0_0,.slice A0_1 l0_1.length c0_1] 31 (0,0)) (by(with_reducible repeat(first|refine Zo ?_ _|refine Zr ?_|refine Zn ?_ _));exact BK15001.out) hb);replace HB:=Za (Zx (by repeat(first|(with_reducible first|exact HB.out|apply Zq|apply Zm|apply Zs|refine Zp ?_ GE15001.out)|exact HB.out)) hb);clear hb hbox hg;have hnb11:=NB15001_15002.out;have hnc11:=NB15002_15001.out;have hcz12_0:w10.cell? ⟨gb15001,0,none⟩=some (.int .i64 a0_0):=(Zv BK15001.out 0).trans rfl;have hcz12_1:w10.cell? ⟨gb15001,1,none⟩=some (.slice A0_1 l0_1.length c0_1):=(Zv BK15001.out 1).trans rfl;have hfz12_0:=Zu BK15001.out 0;have hfz12_1:=Zu BK15001.out 1)|((with_reducible refine ZF (f:=47) rfl ?_);refine ZY (some 10) rfl rfl Try.func47 (by kernel_rfl) rfl #[.agg #[.int .i64 a0_0,.slice A0_1 l0_1.length c0_1]] rfl (by(try simp only[List.map_toArray,List.map_cons,List.map_nil]);first|done|rfl|(simp only[Zk,Zj];rfl)) ?_;(with_reducible refine(ZaP.calls k a0_0 _ _ l0_1 t15003 t15004 _ ?side1 ?side2 A3.out).mono ?_);(case side1=>repeat(first|exact(Zb HR0_1.out HB.out)|(with_reducible refine Kd.C_alloc ?_ _)|(with_reducible refine Kd.C_drewN ?_ _)|(with_reducible refine Kd.C_drew ?_)));(case side2=>exact HC0_1.out);rintro e w13 ⟨v15005,rfl,ho0,hb⟩;refine⟨_,rfl,?_⟩;have HO15006:=Za (Kd.R_lower ho0 (Zw (by repeat(first|(with_reducible first|exact HB.out|apply Zq|apply Zm|apply Zs|refine Zp ?_ GE15001.out|refine Zp ?_ GE15002.out)|exact HB.out))));replace BK15001:=Za (Zy (g:=gb15001) (o:=.cells #[.int .i64 a0_0,.slice A0_1 l0_1.length c0_1] 31 (0,0)) (by(with_reducible repeat(first|refine Zo ?_ _|refine Zr ?_|refine Zn ?_ _));exact BK15001.out) hb);replace BK15002:=Za (Zy (g:=gb15002) (o:=.cells #[.int .i64 0,.int .i64 0] 35 (0,0)) (by(with_reducible repeat(first|refine Zo ?_ _|refine Zr ?_|refine Zn ?_ _));exact BK15002.out) hb);replace HB:=Za (Zx (by repeat(first|(with_reducible first|exact HB.out|apply Zq|apply Zm|apply Zs|refine Zp ?_ GE15001.out|refine Zp ?_ GE15002.out)|exact HB.out)) hb);(try clear hb);(try clear hb2);(try clear hk);(try clear hi);(try clear ho0);obtain⟨Ao14,co14,eo14⟩:=Kd.R_slice HO15006.out;subst eo14)|((with_reducible refine ZF (f:=46) rfl ?_);refine ZY (some 11) rfl rfl Try.func46 (by kernel_rfl) rfl #[.agg #[.int .i64 t15003,.slice Ao14 t15004.length co14]] rfl (by(try simp only[List.map_toArray,List.map_cons,List.map_nil]);first|done|rfl|(simp only[Zk,Zj];rfl)) ?_;(with_reducible refine(ZG.calls k t15003 _ _ t15004 t15007 t15008 true _ ?side1 ?side2 A4.out).mono ?_);(case side1=>repeat(first|exact(Kd.R_reads' HO15006.out).2.2|(with_reducible refine Kd.C_alloc ?_ _)|(with_reducible refine Kd.C_drewN ?_ _)|(with_reducible refine Kd.C_drew ?_)));(case side2=>exact(Kd.R_reads' HO15006.out).2.1);rintro e w15 ⟨v15009,rfl,ho0,hb⟩;refine⟨_,rfl,?_⟩;have HO15010:=Za (Kd.R_lower ho0 (Zw (by repeat(first|(with_reducible first|exact HB.out|apply Zq|apply Zm|apply Zs|refine Zp ?_ GE15001.out|refine Zp ?_ GE15002.out)|exact HB.out))));replace HO15006:=Za (Kd.R_below (by(with_reducible repeat(first|apply Kd.R_alloc|apply Kd.R_drewN|apply Kd.R_drew));exact HO15006.out) hb);replace BK15001:=Za (Zy (g:=gb15001) (o:=.cells #[.int .i64 a0_0,.slice A0_1 l0_1.length c0_1] 31 (0,0)) (by(with_reducible repeat(first|refine Zo ?_ _|refine Zr ?_|refine Zn ?_ _));exact BK15001.out) hb);replace BK15002:=Za (Zy (g:=gb15002) (o:=.cells #[.int .i64 0,.int .i64 0] 35 (0,0)) (by(with_reducible repeat(first|refine Zo ?_ _|refine Zr ?_|refine Zn ?_ _));exact BK15002.out) hb);replace HB:=Za (Zx (by repeat(first|(with_reducible first|exact HB.out|apply Zq|apply Zm|apply Zs|refine Zp ?_ GE15001.out|refine Zp ?_ GE15002.out)|exact HB.out)) hb);(try clear hb);(try clear hb2);(try clear hk);(try clear hi);(try clear ho0))|((with_reducible refine ZM (N:=6) rfl ?_);refine ZK ?hg (N:=6) ?hd (cs:=#[.int .i64 0,.slice none 0 0]) (t:=73) ?hr ?_;(case hd=>rfl);(case hg=>rfl);(case hr=>first|(go_simp;done)|(go_simp;rfl));intro gb15012 hg w16 hbox hb;have BK15012:=Za (hbox);have GW15012:=Za ((by rw[hg];exact(Zw (by repeat(first|(with_reducible first|exact HB.out|apply Zq|apply Zm|apply Zs|refine Zp ?_ GE15001.out|refine Zp ?_ GE15002.out)|exact HB.out))):w.heap.size≤gb15012));have GE15012:=Za ((by rw[hg];exact(Zw (by repeat(first|(with_reducible first|exact HB.out|apply Zq|apply Zm|apply Zs|refine Zp ?_ GE15001.out|refine Zp ?_ GE15002.out)|exact HB.out))):w.heap.size≤gb15012));have NB15001_15012:=Za ((by rw[hg];exact Nat.ne_of_lt (ZH (g:=gb15001) (o:=.cells #[.int .i64 a0_0,.slice A0_1 l0_1.length c0_1] 31 (0,0)) (by(with_reducible repeat(first|refine Zo ?_ _|refine Zr ?_|refine Zn ?_ _));exact BK15001.out)):gb15001≠gb15012));have NB15012_15001:=Za ((by rw[hg];exact Nat.ne_of_gt (ZH (g:=gb15001) (o:=.cells #[.int .i64 a0_0,.slice A0_1 l0_1.length c0_1] 31 (0,0)) (by(with_reducible repeat(first|refine Zo ?_ _|refine Zr ?_|refine Zn ?_ _));exact BK15001.out)):gb15012≠gb15001));have NB15002_15012:=Za ((by rw[hg];exact Nat.ne_of_lt (ZH (g:=gb15002) (o:=.cells #[.int .i64 0,.int .i64 0] 35 (0,0)) (by(with_reducible repeat(first|refine Zo ?_ _|refine Zr ?_|refine Zn ?_ _));exact BK15002.out)):gb15002≠gb15012));have NB15012_15002:=Za ((by rw[hg];exact Nat.ne_of_gt (ZH (g:=gb15002) (o:=.cells #[.int .i64 0,.int .i64 0] 35 (0,0)) (by(with_reducible repeat(first|refine Zo ?_ _|refine Zr ?_|refine Zn ?_ _));exact BK15002.out)):gb15012≠gb15002));replace HO15006:=Za (Kd.R_below (by(with_reducible repeat(first|apply Kd.R_alloc|apply Kd.R_drewN|apply Kd.R_drew));exact HO15006.out) hb);replace HO15010:=Za (Kd.R_below (by(with_reducible repeat(first|apply Kd.R_alloc|apply Kd.R_drewN|apply Kd.R_drew));exact HO15010.out) hb);replace BK15001:=Za (Zy (g:=gb15001) (o:=.cells #[.int .i64 a0_0,.slice A0_1 l0_1.length c0_1] 31 (0,0)) (by(with_reducible repeat(first|refine Zo ?_ _|refine Zr ?_|refine Zn ?_ _));exact BK15001.out) hb);replace BK15002:=Za (Zy (g:=gb15002) (o:=.cells #[.int .i64 0,.int .i64 0] 35 (0,0)) (by(with_reducible repeat(first|refine Zo ?_ _|refine Zr ?_|refine Zn ?_ _));exact BK15002.out) hb);replace HB:=Za (Zx (by repeat(first|(with_reducible first|exact HB.out|apply Zq|apply Zm|apply Zs|refine Zp ?_ GE15001.out|refine Zp ?_ GE15002.out)|exact HB.out)) hb);clear hb hbox hg;have hnb17:=NB15012_15001.out;have hnc17:=NB15001_15012.out;have hnb18:=NB15012_15002.out;have hnc18:=NB15002_15012.out;have hcz19_0:w16.cell? ⟨gb15012,0,none⟩=some (.int .i64 0):=(Zv BK15012.out 0).trans rfl;have hcz19_1:w16.cell? ⟨gb15012,1,none⟩=some (.slice none 0 0):=(Zv BK15012.out 1).trans rfl;have hfz19_0:=Zu BK15012.out 0;have hfz19_1:=Zu BK15012.out 1;obtain⟨Ao20,co20,eo20⟩:=Kd.R_slice HO15010.out;subst eo20;have hcz21_0:w16.cell? ⟨gb15001,0,none⟩=some (.int .i64 a0_0):=(Zv BK15001.out 0).trans rfl;have hcz21_1:w16.cell? ⟨gb15001,1,none⟩=some (.slice A0_1 l0_1.length c0_1):=(Zv BK15001.out 1).trans rfl;have hfz21_0:=Zu BK15001.out 0;have hfz21_1:=Zu BK15001.out 1)|(go_at_call 17;(with_reducible refine(Z8.calls a0_0 _ _ l0_1 true _ ?side1 ?side2 A6.out).mono ?_);(case side1=>exact Zb HR0_1.out (by repeat(first|(with_reducible first|exact HB.out|apply Zq|apply Zm|apply Zs|refine Zp ?_ GE15001.out|refine Zp ?_ GE15002.out|refine Zp ?_ GE15012.out)|exact HB.out)));(case side2=>exact HC0_1.out);rintro e w22 ⟨rfl,hb⟩;replace HO15006:=Za (Kd.R_below (by(with_reducible repeat(first|apply Kd.R_alloc|apply Kd.R_drewN|apply Kd.R_drew));exact(Kd.R_mono (Kd.R_far (p:=⟨gb15012,1,none⟩) (Kd.R_far (p:=⟨gb15012,0,none⟩) (Kd.R_types HO15006.out BK15012.out (by decide)) (fun _ hk=>hk.2) (.int .i64 t15007)) (fun _ hk=>hk.2) (.slice Ao20 t15008.length co20)) (fun _ h_=>h_.1))) hb);replace HO15010:=Za (Kd.R_below (by(with_reducible repeat(first|apply Kd.R_alloc|apply Kd.R_drewN|apply Kd.R_drew));exact(Kd.R_mono (Kd.R_far (p:=⟨gb15012,1,none⟩) (Kd.R_far (p:=⟨gb15012,0,none⟩) (Kd.R_types HO15010.out BK15012.out (by decide)) (fun _ hk=>hk.2) (.int .i64 t15007)) (fun _ hk=>hk.2) (.slice Ao20 t15008.length co20)) (fun _ h_=>h_.1))) hb);replace BK15001:=Za (Zy (g:=gb15001) (o:=.cells #[.int .i64 a0_0,.slice A0_1 l0_1.length c0_1] 31 (0,0)) (by(with_reducible repeat(first|refine Zo ?_ _|refine Zr ?_|refine Zn ?_ _));refine ZD ?_ NB15001_15012.out _;(with_reducible repeat(first|refine Zo ?_ _|refine Zr ?_|refine Zn ?_ _));refine ZD ?_ NB15001_15012.out _;(with_reducible repeat(first|refine Zo ?_ _|refine Zr ?_|refine Zn ?_ _));exact BK15001.out) hb);replace BK15002:=Za (Zy (g:=gb15002) (o:=.cells #[.int .i64 0,.int .i64 0] 35 (0,0)) (by(with_reducible repeat(first|refine Zo ?_ _|refine Zr ?_|refine Zn ?_ _));refine ZD ?_ NB15002_15012.out _;(with_reducible repeat(first|refine Zo ?_ _|refine Zr ?_|refine Zn ?_ _));refine ZD ?_ NB15002_15012.out _;(with_reducible repeat(first|refine Zo ?_ _|refine Zr ?_|refine Zn ?_ _));exact BK15002.out) hb);replace BK15012:=Za (Zy (g:=gb15012) (o:=.cells #[.int .i64 t15007,.slice Ao20 t15008.length co20] 73 (0,0)) (by(with_reducible repeat(first|refine Zo ?_ _|refine Zr ?_|refine Zn ?_ _));refine ZL (cs:=#[.int .i64 t15007,.slice none 0 0]) ?_ 1 _ rfl;(with_reducible repeat(first|refine Zo ?_ _|refine Zr ?_|refine Zn ?_ _));refine ZL (cs:=#[.int .i64 0,.slice none 0 0]) ?_ 0 _ rfl;(with_reducible repeat(first|refine Zo ?_ _|refine Zr ?_|refine Zn ?_ _));exact BK15012.out) hb);replace HB:=Za (Zx (by repeat(first|(with_reducible first|exact HB.out|apply Zq|apply Zm|apply Zs|refine Zp ?_ GE15001.out|refine Zp ?_ GE15002.out|refine Zp ?_ GE15012.out)|exact HB.out)) hb);(try clear hb);(try clear hb2);(try clear hk);(try clear hi);have hcz23_0:w22.cell? ⟨gb15012,0,none⟩=some (.int .i64 t15007):=(Zv BK15012.out 0).trans rfl;have hcz23_1:w22.cell? ⟨gb15012,1,none⟩=some (.slice Ao20 t15008.length co20):=(Zv BK15012.out 1).trans rfl;have hfz23_0:=Zu BK15012.out 0;have hfz23_1:=Zu BK15012.out 1)|((with_reducible refine ZF (f:=48) rfl ?_);refine ZY (some 24) rfl rfl Try.func48 (by kernel_rfl) rfl #[.agg #[.int .i64 t15007,.slice Ao20 t15008.length co20],.int .i64 0,.int .i64 a1] rfl (by(try simp only[List.map_toArray,List.map_cons,List.map_nil]);first|done|rfl|(simp only[Zk,Zj];rfl)) ?_;(with_reducible refine(ZE.calls k t15007 _ _ t15008 0 a1 t15014 t15015 t15016 _ ?side1 ?side2 A8.out).mono ?_);(case side1=>repeat(first|exact(Kd.R_reads' HO15010.out).2.2|(with_reducible refine Kd.C_alloc ?_ _)|(with_reducible refine Kd.C_drewN ?_ _)|(with_reducible refine Kd.C_drew ?_)));(case side2=>exact(Kd.R_reads' HO15010.out).2.1);rintro e w24 ⟨rfl,hb⟩;refine⟨_,rfl,?_⟩;replace HO15006:=Za (Kd.R_below (by(with_reducible repeat(first|apply Kd.R_alloc|apply Kd.R_drewN|apply Kd.R_drew));exact HO15006.out) hb);replace HO15010:=Za (Kd.R_below (by(with_reducible repeat(first|apply Kd.R_alloc|apply Kd.R_drewN|apply Kd.R_drew));exact HO15010.out) hb);replace BK15001:=Za (Zy (g:=gb15001) (o:=.cells #[.int .i64 a0_0,.slice A0_1 l0_1.length c0_1] 31 (0,0)) (by(with_reducible repeat(first|refine Zo ?_ _|refine Zr ?_|refine Zn ?_ _));exact BK15001.out) hb);replace BK15002:=Za (Zy (g:=gb15002) (o:=.cells #[.int .i64 0,.int .i64 0] 35 (0,0)) (by(with_reducible repeat(first|refine Zo ?_ _|refine Zr ?_|refine Zn ?_ _));exact BK15002.out) hb);replace BK15012:=Za (Zy (g:=gb15012) (o:=.cells #[.int .i64 t15007,.slice Ao20 t15008.length co20] 73 (0,0)) (by(with_reducible repeat(first|refine Zo ?_ _|refine Zr ?_|refine Zn ?_ _));exact BK15012.out) hb);replace HB:=Za (Zx (by repeat(first|(with_reducible first|exact HB.out|apply Zq|apply Zm|apply Zs|refine Zp ?_ GE15001.out|refine Zp ?_ GE15002.out|refine Zp ?_ GE15012.out)|exact HB.out)) hb);(try clear hb);(try clear hb2);(try clear hk);(try clear hi);have hcz25_0:w24.cell? ⟨gb15002,0,none⟩=some (.int .i64 0):=(Zv BK15002.out 0).trans rfl;have hcz25_1:w24.cell? ⟨gb15002,1,none⟩=some (.int .i64 0):=(Zv BK15002.out 1).trans rfl;have hfz25_0:=Zu BK15002.out 0;have hfz25_1:=Zu BK15002.out 1))
   refine bodyPost_ret (Zay rfl _ _ gb15002 35 #[.int .i64 t15014,.int .i64 t15015] (0,0) _ rfl (by(with_reducible repeat(first|refine Zo ?_ _|refine Zr ?_|refine Zn ?_ _));refine ZL (cs:=#[.int .i64 t15014,.int .i64 0]) ?_ 1 _ rfl;(with_reducible repeat(first|refine Zo ?_ _|refine Zr ?_|refine Zn ?_ _));refine ZL (cs:=#[.int .i64 0,.int .i64 0]) ?_ 0 _ rfl;(with_reducible repeat(first|refine Zo ?_ _|refine Zr ?_|refine Zn ?_ _));exact BK15002.out) Try.underlying35 rfl (by kernel_rfl)) rfl ?_
   exact⟨by first|rfl|(simp[ZC,ZB] <;> rfl)|(simp[*,ZC,ZB] <;> rfl),by repeat(first|(with_reducible first|exact HB.out|apply Zq|apply Zm|apply Zs|refine Zp ?_ GE15001.out|refine Zp ?_ GE15002.out|refine Zp ?_ GE15012.out)|exact HB.out)⟩
  ·replace c7:=Bool.eq_false_iff.mpr c7
   subst c7
   have H1:(some (0,0,false))=some (r1,r2,r3):=by rw[if_neg (show ¬(false=true) by decide)] at H;exact H
   clear H
   have H:=H1
   clear H1
   simp only[Option.some.injEq,Prod.mk.injEq] at H
   obtain⟨rfl,rfl,rfl⟩:=H
   go_enter Try.func15,Try.ntmps15
   go_wp2_with (first|((with_reducible refine ZM (N:=2) rfl ?_);refine ZK ?hg (N:=2) ?hd (cs:=#[.int .i64 a0_0,.slice A0_1 l0_1.length c0_1]) (t:=31) ?hr ?_;(case hd=>rfl);(case hg=>rfl);(case hr=>first|(go_simp;done)|(go_simp;rfl));intro gb15001 hg w26 hbox hb;have BK15001:=Za (hbox);have GW15001:=Za ((by rw[hg];exact(Zw (by repeat(first|(with_reducible first|exact HB.out|apply Zq|apply Zm|apply Zs)|exact HB.out))):w.heap.size≤gb15001));have GE15001:=Za ((by rw[hg];exact(Zw (by repeat(first|(with_reducible first|exact HB.out|apply Zq|apply Zm|apply Zs)|exact HB.out))):w.heap.size≤gb15001));replace HB:=Za (Zx (by repeat(first|(with_reducible first|exact HB.out|apply Zq|apply Zm|apply Zs)|exact HB.out)) hb);clear hb hbox hg)|((with_reducible refine ZM (N:=4) rfl ?_);refine ZK ?hg (N:=4) ?hd (cs:=#[.int .i64 0,.int .i64 0]) (t:=35) ?hr ?_;(case hd=>rfl);(case hg=>rfl);(case hr=>first|(go_simp;done)|(go_simp;rfl));intro gb15002 hg w27 hbox hb;have BK15002:=Za (hbox);have GW15002:=Za ((by rw[hg];exact(Zw (by repeat(first|(with_reducible first|exact HB.out|apply Zq|apply Zm|apply Zs|refine Zp ?_ GE15001.out)|exact HB.out))):w.heap.size≤gb15002));have GE15002:=Za ((by rw[hg];exact(Zw (by repeat(first|(with_reducible first|exact HB.out|apply Zq|apply Zm|apply Zs|refine Zp ?_ GE15001.out)|exact HB.out))):w.heap.size≤gb15002));have NB15001_15002:=Za ((by rw[hg];exact Nat.ne_of_lt (ZH (g:=gb15001) (o:=.cells #[.int .i64 a0_0,.slice A0_1 l0_1.length c0_1] 31 (0,0)) (by(with_reducible repeat(first|refine Zo ?_ _|refine Zr ?_|refine Zn ?_ _));exact BK15001.out)):gb15001≠gb15002));have NB15002_15001:=Za ((by rw[hg];exact Nat.ne_of_gt (ZH (g:=gb15001) (o:=.cells #[.int .i64 a0_0,.slice A0_1 l0_1.length c0_1] 31 (0,0)) (by(with_reducible repeat(first|refine Zo ?_ _|refine Zr ?_|refine Zn ?_ _));exact BK15001.out)):gb15002≠gb15001));replace BK15001:=Za (Zy (g:=gb15001) (o:=.cells #[.int .i64 a0_0,.slice A0_1 l0_1.length c0_1] 31 (0,0)) (by(with_reducible repeat(first|refine Zo ?_ _|refine Zr ?_|refine Zn ?_ _));exact BK15001.out) hb);replace HB:=Za (Zx (by repeat(first|(with_reducible first|exact HB.out|apply Zq|apply Zm|apply Zs|refine Zp ?_ GE15001.out)|exact HB.out)) hb);clear hb hbox hg;have hnb28:=NB15001_15002.out;have hnc28:=NB15002_15001.out;have hcz29_0:w27.cell? ⟨gb15001,0,none⟩=some (.int .i64 a0_0):=(Zv BK15001.out 0).trans rfl;have hcz29_1:w27.cell? ⟨gb15001,1,none⟩=some (.slice A0_1 l0_1.length c0_1):=(Zv BK15001.out 1).trans rfl;have hfz29_0:=Zu BK15001.out 0;have hfz29_1:=Zu BK15001.out 1)|((with_reducible refine ZF (f:=47) rfl ?_);refine ZY (some 10) rfl rfl Try.func47 (by kernel_rfl) rfl #[.agg #[.int .i64 a0_0,.slice A0_1 l0_1.length c0_1]] rfl (by(try simp only[List.map_toArray,List.map_cons,List.map_nil]);first|done|rfl|(simp only[Zk,Zj];rfl)) ?_;(with_reducible refine(ZaP.calls k a0_0 _ _ l0_1 t15003 t15004 _ ?side1 ?side2 A3.out).mono ?_);(case side1=>repeat(first|exact(Zb HR0_1.out HB.out)|(with_reducible refine Kd.C_alloc ?_ _)|(with_reducible refine Kd.C_drewN ?_ _)|(with_reducible refine Kd.C_drew ?_)));(case side2=>exact HC0_1.out);rintro e w30 ⟨v15005,rfl,ho0,hb⟩;refine⟨_,rfl,?_⟩;have HO15006:=Za (Kd.R_lower ho0 (Zw (by repeat(first|(with_reducible first|exact HB.out|apply Zq|apply Zm|apply Zs|refine Zp ?_ GE15001.out|refine Zp ?_ GE15002.out)|exact HB.out))));replace BK15001:=Za (Zy (g:=gb15001) (o:=.cells #[.int .i64 a0_0,.slice A0_1 l0_1.length c0_1] 31 (0,0)) (by(with_reducible repeat(first|refine Zo ?_ _|refine Zr ?_|refine Zn ?_ _));exact BK15001.out) hb);replace BK15002:=Za (Zy (g:=gb15002) (o:=.cells #[.int .i64 0,.int .i64 0] 35 (0,0)) (by(with_reducible repeat(first|refine Zo ?_ _|refine Zr ?_|refine Zn ?_ _));exact BK15002.out) hb);replace HB:=Za (Zx (by repeat(first|(with_reducible first|exact HB.out|apply Zq|apply Zm|apply Zs|refine Zp ?_ GE15001.out|refine Zp ?_ GE15002.out)|exact HB.out)) hb);(try clear hb);(try clear hb2);(try clear hk);(try clear hi);(try clear ho0);obtain⟨Ao31,co31,eo31⟩:=Kd.R_slice HO15006.out;subst eo31)|((with_reducible refine ZF (f:=46) rfl ?_);refine ZY (some 11) rfl rfl Try.func46 (by kernel_rfl) rfl #[.agg #[.int .i64 t15003,.slice Ao31 t15004.length co31]] rfl (by(try simp only[List.map_toArray,List.map_cons,List.map_nil]);first|done|rfl|(simp only[Zk,Zj];rfl)) ?_;(with_reducible refine(ZG.calls k t15003 _ _ t15004 t15007 t15008 true _ ?side1 ?side2 A4.out).mono ?_);(case side1=>repeat(first|exact(Kd.R_reads' HO15006.out).2.2|(with_reducible refine Kd.C_alloc ?_ _)|(with_reducible refine Kd.C_drewN ?_ _)|(with_reducible refine Kd.C_drew ?_)));(case side2=>exact(Kd.R_reads' HO15006.out).2.1);rintro e w32 ⟨v15009,rfl,ho0,hb⟩;refine⟨_,rfl,?_⟩;have HO15010:=Za (Kd.R_lower ho0 (Zw (by repeat(first|(with_reducible first|exact HB.out|apply Zq|apply Zm|apply Zs|refine Zp ?_ GE15001.out|refine Zp ?_ GE15002.out)|exact HB.out))));replace HO15006:=Za (Kd.R_below (by(with_reducible repeat(first|apply Kd.R_alloc|apply Kd.R_drewN|apply Kd.R_drew));exact HO15006.out) hb);replace BK15001:=Za (Zy (g:=gb15001) (o:=.cells #[.int .i64 a0_0,.slice A0_1 l0_1.length c0_1] 31 (0,0)) (by(with_reducible repeat(first|refine Zo ?_ _|refine Zr ?_|refine Zn ?_ _));exact BK15001.out) hb);replace BK15002:=Za (Zy (g:=gb15002) (o:=.cells #[.int .i64 0,.int .i64 0] 35 (0,0)) (by(with_reducible repeat(first|refine Zo ?_ _|refine Zr ?_|refine Zn ?_ _));exact BK15002.out) hb);replace HB:=Za (Zx (by repeat(first|(with_reducible first|exact HB.out|apply Zq|apply Zm|apply Zs|refine Zp ?_ GE15001.out|refine Zp ?_ GE15002.out)|exact HB.out)) hb);(try clear hb);(try clear hb2);(try clear hk);(try clear hi);(try clear ho0))|((with_reducible refine ZM (N:=6) rfl ?_);refine ZK ?hg (N:=6) ?hd (cs:=#[.int .i64 0,.slice none 0 0]) (t:=73) ?hr ?_;(case hd=>rfl);(case hg=>rfl);(case hr=>first|(go_simp;done)|(go_simp;rfl));intro gb15012 hg w33 hbox hb;have BK15012:=Za (hbox);have GW15012:=Za ((by rw[hg];exact(Zw (by repeat(first|(with_reducible first|exact HB.out|apply Zq|apply Zm|apply Zs|refine Zp ?_ GE15001.out|refine Zp ?_ GE15002.out)|exact HB.out))):w.heap.size≤gb15012));have GE15012:=Za ((by rw[hg];exact(Zw (by repeat(first|(with_reducible first|exact HB.out|apply Zq|apply Zm|apply Zs|refine Zp ?_ GE15001.out|refine Zp ?_ GE15002.out)|exact HB.out))):w.heap.size≤gb15012));have NB15001_15012:=Za ((by rw[hg];exact Nat.ne_of_lt (ZH (g:=gb15001) (o:=.cells #[.int .i64 a0_0,.slice A0_1 l0_1.length c0_1] 31 (0,0)) (by(with_reducible repeat(first|refine Zo ?_ _|refine Zr ?_|refine Zn ?_ _));exact BK15001.out)):gb15001≠gb15012));have NB15012_15001:=Za ((by rw[hg];exact Nat.ne_of_gt (ZH (g:=gb15001) (o:=.cells #[.int .i64 a0_0,.slice A0_1 l0_1.length c0_1] 31 (0,0)) (by(with_reducible repeat(first|refine Zo ?_ _|refine Zr ?_|refine Zn ?_ _));exact BK15001.out)):gb15012≠gb15001));have NB15002_15012:=Za ((by rw[hg];exact Nat.ne_of_lt (ZH (g:=gb15002) (o:=.cells #[.int .i64 0,.int .i64 0] 35 (0,0)) (by(with_reducible repeat(first|refine Zo ?_ _|refine Zr ?_|refine Zn ?_ _));exact BK15002.out)):gb15002≠gb15012));have NB15012_15002:=Za ((by rw[hg];exact Nat.ne_of_gt (ZH (g:=gb15002) (o:=.cells #[.int .i64 0,.int .i64 0] 35 (0,0)) (by(with_reducible repeat(first|refine Zo ?_ _|refine Zr ?_|refine Zn ?_ _));exact BK15002.out)):gb15012≠gb15002));replace HO15006:=Za (Kd.R_below (by(with_reducible repeat(first|apply Kd.R_alloc|apply Kd.R_drewN|apply Kd.R_drew));exact HO15006.out) hb);replace HO15010:=Za (Kd.R_below (by(with_reducible repeat(first|apply Kd.R_alloc|apply Kd.R_drewN|apply Kd.R_drew));exact HO15010.out) hb);replace BK15001:=Za (Zy (g:=gb15001) (o:=.cells #[.int .i64 a0_0,.slice A0_1 l0_1.length c0_1] 31 (0,0)) (by(with_reducible repeat(first|refine Zo ?_ _|refine Zr ?_|refine Zn ?_ _));exact BK15001.out) hb);replace BK15002:=Za (Zy (g:=gb15002) (o:=.cells #[.int .i64 0,.int .i64 0] 35 (0,0)) (by(with_reducible repeat(first|refine Zo ?_ _|refine Zr ?_|refine Zn ?_ _));exact BK15002.out) hb);replace HB:=Za (Zx (by repeat(first|(with_reducible first|exact HB.out|apply Zq|apply Zm|apply Zs|refine Zp ?_ GE15001.out|refine Zp ?_ GE15002.out)|exact HB.out)) hb);clear hb hbox hg;have hnb34:=NB15012_15001.out;have hnc34:=NB15001_15012.out;have hnb35:=NB15012_15002.out;have hnc35:=NB15002_15012.out;have hcz36_0:w33.cell? ⟨gb15012,0,none⟩=some (.int .i64 0):=(Zv BK15012.out 0).trans rfl;have hcz36_1:w33.cell? ⟨gb15012,1,none⟩=some (.slice none 0 0):=(Zv BK15012.out 1).trans rfl;have hfz36_0:=Zu BK15012.out 0;have hfz36_1:=Zu BK15012.out 1;obtain⟨Ao37,co37,eo37⟩:=Kd.R_slice HO15010.out;subst eo37;have hcz38_0:w33.cell? ⟨gb15001,0,none⟩=some (.int .i64 a0_0):=(Zv BK15001.out 0).trans rfl;have hcz38_1:w33.cell? ⟨gb15001,1,none⟩=some (.slice A0_1 l0_1.length c0_1):=(Zv BK15001.out 1).trans rfl;have hfz38_0:=Zu BK15001.out 0;have hfz38_1:=Zu BK15001.out 1)|(go_at_call 17;(with_reducible refine(Z8.calls a0_0 _ _ l0_1 false _ ?side1 ?side2 A6.out).mono ?_);(case side1=>exact Zb HR0_1.out (by repeat(first|(with_reducible first|exact HB.out|apply Zq|apply Zm|apply Zs|refine Zp ?_ GE15001.out|refine Zp ?_ GE15002.out|refine Zp ?_ GE15012.out)|exact HB.out)));(case side2=>exact HC0_1.out);rintro e w39 ⟨rfl,hb⟩;replace HO15006:=Za (Kd.R_below (by(with_reducible repeat(first|apply Kd.R_alloc|apply Kd.R_drewN|apply Kd.R_drew));exact(Kd.R_mono (Kd.R_far (p:=⟨gb15012,1,none⟩) (Kd.R_far (p:=⟨gb15012,0,none⟩) (Kd.R_types HO15006.out BK15012.out (by decide)) (fun _ hk=>hk.2) (.int .i64 t15007)) (fun _ hk=>hk.2) (.slice Ao37 t15008.length co37)) (fun _ h_=>h_.1))) hb);replace HO15010:=Za (Kd.R_below (by(with_reducible repeat(first|apply Kd.R_alloc|apply Kd.R_drewN|apply Kd.R_drew));exact(Kd.R_mono (Kd.R_far (p:=⟨gb15012,1,none⟩) (Kd.R_far (p:=⟨gb15012,0,none⟩) (Kd.R_types HO15010.out BK15012.out (by decide)) (fun _ hk=>hk.2) (.int .i64 t15007)) (fun _ hk=>hk.2) (.slice Ao37 t15008.length co37)) (fun _ h_=>h_.1))) hb);replace BK15001:=Za (Zy (g:=gb15001) (o:=.cells #[.int .i64 a0_0,.slice A0_1 l0_1.length c0_1] 31 (0,0)) (by(with_reducible repeat(first|refine Zo ?_ _|refine Zr ?_|refine Zn ?_ _));refine ZD ?_ NB15001_15012.out _;(with_reducible repeat(first|refine Zo ?_ _|refine Zr ?_|refine Zn ?_ _));refine ZD ?_ NB15001_15012.out _;(with_reducible repeat(first|refine Zo ?_ _|refine Zr ?_|refine Zn ?_ _));exact BK15001.out) hb);replace BK15002:=Za (Zy (g:=gb15002) (o:=.cells #[.int .i64 0,.int .i64 0] 35 (0,0)) (by(with_reducible repeat(first|refine Zo ?_ _|refine Zr ?_|refine Zn ?_ _));refine ZD ?_ NB15002_15012.out _;(with_reducible repeat(first|refine Zo ?_ _|refine Zr ?_|refine Zn ?_ _));refine ZD ?_ NB15002_15012.out _;(with_reducible repeat(first|refine Zo ?_ _|refine Zr ?_|refine Zn ?_ _));exact BK15002.out) hb);replace BK15012:=Za (Zy (g:=gb15012) (o:=.cells #[.int .i64 t15007,.slice Ao37 t15008.length co37] 73 (0,0)) (by(with_reducible repeat(first|refine Zo ?_ _|refine Zr ?_|refine Zn ?_ _));refine ZL (cs:=#[.int .i64 t15007,.slice none 0 0]) ?_ 1 _ rfl;(with_reducible repeat(first|refine Zo ?_ _|refine Zr ?_|refine Zn ?_ _));refine ZL (cs:=#[.int .i64 0,.slice none 0 0]) ?_ 0 _ rfl;(with_reducible repeat(first|refine Zo ?_ _|refine Zr ?_|refine Zn ?_ _));exact BK15012.out) hb);replace HB:=Za (Zx (by repeat(first|(with_reducible first|exact HB.out|apply Zq|apply Zm|apply Zs|refine Zp ?_ GE15001.out|refine Zp ?_ GE15002.out|refine Zp ?_ GE15012.out)|exact HB.out)) hb);(try clear hb);(try clear hb2);(try clear hk);(try clear hi);have hcz40_0:w39.cell? ⟨gb15002,0,none⟩=some (.int .i64 0):=(Zv BK15002.out 0).trans rfl;have hcz40_1:w39.cell? ⟨gb15002,1,none⟩=some (.int .i64 0):=(Zv BK15002.out 1).trans rfl;have hfz40_0:=Zu BK15002.out 0;have hfz40_1:=Zu BK15002.out 1))
   refine bodyPost_ret (Zay rfl _ _ gb15002 35 #[.int .i64 0,.int .i64 0] (0,0) _ rfl (by(with_reducible repeat(first|refine Zo ?_ _|refine Zr ?_|refine Zn ?_ _));refine ZL (cs:=#[.int .i64 0,.int .i64 0]) ?_ 1 _ rfl;(with_reducible repeat(first|refine Zo ?_ _|refine Zr ?_|refine Zn ?_ _));refine ZL (cs:=#[.int .i64 0,.int .i64 0]) ?_ 0 _ rfl;(with_reducible repeat(first|refine Zo ?_ _|refine Zr ?_|refine Zn ?_ _));exact BK15002.out) Try.underlying35 rfl (by kernel_rfl)) rfl ?_
   exact⟨by first|rfl|(simp[ZC,ZB] <;> rfl)|(simp[*,ZC,ZB] <;> rfl),by repeat(first|(with_reducible first|exact HB.out|apply Zq|apply Zm|apply Zs|refine Zp ?_ GE15001.out|refine Zp ?_ GE15002.out|refine Zp ?_ GE15012.out)|exact HB.out)⟩
 ·replace c5:=Bool.eq_false_iff.mpr c5
  subst c5
  have H1:(some (0,0,false))=some (r1,r2,r3):=by rw[if_neg (show ¬(false=true) by decide)] at H;exact H
  clear H
  have H:=H1
  clear H1
  simp only[Option.some.injEq,Prod.mk.injEq] at H
  obtain⟨rfl,rfl,rfl⟩:=H
  go_enter Try.func15,Try.ntmps15
  go_wp2_with (first|((with_reducible refine ZM (N:=2) rfl ?_);refine ZK ?hg (N:=2) ?hd (cs:=#[.int .i64 a0_0,.slice A0_1 l0_1.length c0_1]) (t:=31) ?hr ?_;(case hd=>rfl);(case hg=>rfl);(case hr=>first|(go_simp;done)|(go_simp;rfl));intro gb15001 hg w41 hbox hb;have BK15001:=Za (hbox);have GW15001:=Za ((by rw[hg];exact(Zw (by repeat(first|(with_reducible first|exact HB.out|apply Zq|apply Zm|apply Zs)|exact HB.out))):w.heap.size≤gb15001));have GE15001:=Za ((by rw[hg];exact(Zw (by repeat(first|(with_reducible first|exact HB.out|apply Zq|apply Zm|apply Zs)|exact HB.out))):w.heap.size≤gb15001));replace HB:=Za (Zx (by repeat(first|(with_reducible first|exact HB.out|apply Zq|apply Zm|apply Zs)|exact HB.out)) hb);clear hb hbox hg)|((with_reducible refine ZM (N:=4) rfl ?_);refine ZK ?hg (N:=4) ?hd (cs:=#[.int .i64 0,.int .i64 0]) (t:=35) ?hr ?_;(case hd=>rfl);(case hg=>rfl);(case hr=>first|(go_simp;done)|(go_simp;rfl));intro gb15002 hg w42 hbox hb;have BK15002:=Za (hbox);have GW15002:=Za ((by rw[hg];exact(Zw (by repeat(first|(with_reducible first|exact HB.out|apply Zq|apply Zm|apply Zs|refine Zp ?_ GE15001.out)|exact HB.out))):w.heap.size≤gb15002));have GE15002:=Za ((by rw[hg];exact(Zw (by repeat(first|(with_reducible first|exact HB.out|apply Zq|apply Zm|apply Zs|refine Zp ?_ GE15001.out)|exact HB.out))):w.heap.size≤gb15002));have NB15001_15002:=Za ((by rw[hg];exact Nat.ne_of_lt (ZH (g:=gb15001) (o:=.cells #[.int .i64 a0_0,.slice A0_1 l0_1.length c0_1] 31 (0,0)) (by(with_reducible repeat(first|refine Zo ?_ _|refine Zr ?_|refine Zn ?_ _));exact BK15001.out)):gb15001≠gb15002));have NB15002_15001:=Za ((by rw[hg];exact Nat.ne_of_gt (ZH (g:=gb15001) (o:=.cells #[.int .i64 a0_0,.slice A0_1 l0_1.length c0_1] 31 (0,0)) (by(with_reducible repeat(first|refine Zo ?_ _|refine Zr ?_|refine Zn ?_ _));exact BK15001.out)):gb15002≠gb15001));replace BK15001:=Za (Zy (g:=gb15001) (o:=.cells #[.int .i64 a0_0,.slice A0_1 l0_1.length c0_1] 31 (0,0)) (by(with_reducible repeat(first|refine Zo ?_ _|refine Zr ?_|refine Zn ?_ _));exact BK15001.out) hb);replace HB:=Za (Zx (by repeat(first|(with_reducible first|exact HB.out|apply Zq|apply Zm|apply Zs|refine Zp ?_ GE15001.out)|exact HB.out)) hb);clear hb hbox hg;have hnb43:=NB15001_15002.out;have hnc43:=NB15002_15001.out;have hcz44_0:w42.cell? ⟨gb15001,0,none⟩=some (.int .i64 a0_0):=(Zv BK15001.out 0).trans rfl;have hcz44_1:w42.cell? ⟨gb15001,1,none⟩=some (.slice A0_1 l0_1.length c0_1):=(Zv BK15001.out 1).trans rfl;have hfz44_0:=Zu BK15001.out 0;have hfz44_1:=Zu BK15001.out 1)|((with_reducible refine ZF (f:=47) rfl ?_);refine ZY (some 10) rfl rfl Try.func47 (by kernel_rfl) rfl #[.agg #[.int .i64 a0_0,.slice A0_1 l0_1.length c0_1]] rfl (by(try simp only[List.map_toArray,List.map_cons,List.map_nil]);first|done|rfl|(simp only[Zk,Zj];rfl)) ?_;(with_reducible refine(ZaP.calls k a0_0 _ _ l0_1 t15003 t15004 _ ?side1 ?side2 A3.out).mono ?_);(case side1=>repeat(first|exact(Zb HR0_1.out HB.out)|(with_reducible refine Kd.C_alloc ?_ _)|(with_reducible refine Kd.C_drewN ?_ _)|(with_reducible refine Kd.C_drew ?_)));(case side2=>exact HC0_1.out);rintro e w45 ⟨v15005,rfl,ho0,hb⟩;refine⟨_,rfl,?_⟩;have HO15006:=Za (Kd.R_lower ho0 (Zw (by repeat(first|(with_reducible first|exact HB.out|apply Zq|apply Zm|apply Zs|refine Zp ?_ GE15001.out|refine Zp ?_ GE15002.out)|exact HB.out))));replace BK15001:=Za (Zy (g:=gb15001) (o:=.cells #[.int .i64 a0_0,.slice A0_1 l0_1.length c0_1] 31 (0,0)) (by(with_reducible repeat(first|refine Zo ?_ _|refine Zr ?_|refine Zn ?_ _));exact BK15001.out) hb);replace BK15002:=Za (Zy (g:=gb15002) (o:=.cells #[.int .i64 0,.int .i64 0] 35 (0,0)) (by(with_reducible repeat(first|refine Zo ?_ _|refine Zr ?_|refine Zn ?_ _));exact BK15002.out) hb);replace HB:=Za (Zx (by repeat(first|(with_reducible first|exact HB.out|apply Zq|apply Zm|apply Zs|refine Zp ?_ GE15001.out|refine Zp ?_ GE15002.out)|exact HB.out)) hb);(try clear hb);(try clear hb2);(try clear hk);(try clear hi);(try clear ho0);obtain⟨Ao46,co46,eo46⟩:=Kd.R_slice HO15006.out;subst eo46)|((with_reducible refine ZF (f:=46) rfl ?_);refine ZY (some 11) rfl rfl Try.func46 (by kernel_rfl) rfl #[.agg #[.int .i64 t15003,.slice Ao46 t15004.length co46]] rfl (by(try simp only[List.map_toArray,List.map_cons,List.map_nil]);first|done|rfl|(simp only[Zk,Zj];rfl)) ?_;(with_reducible refine(ZG.calls k t15003 _ _ t15004 t15007 t15008 false _ ?side1 ?side2 A4.out).mono ?_);(case side1=>repeat(first|exact(Kd.R_reads' HO15006.out).2.2|(with_reducible refine Kd.C_alloc ?_ _)|(with_reducible refine Kd.C_drewN ?_ _)|(with_reducible refine Kd.C_drew ?_)));(case side2=>exact(Kd.R_reads' HO15006.out).2.1);rintro e w47 ⟨v15009,rfl,ho0,hb⟩;refine⟨_,rfl,?_⟩;have HO15010:=Za (Kd.R_lower ho0 (Zw (by repeat(first|(with_reducible first|exact HB.out|apply Zq|apply Zm|apply Zs|refine Zp ?_ GE15001.out|refine Zp ?_ GE15002.out)|exact HB.out))));replace HO15006:=Za (Kd.R_below (by(with_reducible repeat(first|apply Kd.R_alloc|apply Kd.R_drewN|apply Kd.R_drew));exact HO15006.out) hb);replace BK15001:=Za (Zy (g:=gb15001) (o:=.cells #[.int .i64 a0_0,.slice A0_1 l0_1.length c0_1] 31 (0,0)) (by(with_reducible repeat(first|refine Zo ?_ _|refine Zr ?_|refine Zn ?_ _));exact BK15001.out) hb);replace BK15002:=Za (Zy (g:=gb15002) (o:=.cells #[.int .i64 0,.int .i64 0] 35 (0,0)) (by(with_reducible repeat(first|refine Zo ?_ _|refine Zr ?_|refine Zn ?_ _));exact BK15002.out) hb);replace HB:=Za (Zx (by repeat(first|(with_reducible first|exact HB.out|apply Zq|apply Zm|apply Zs|refine Zp ?_ GE15001.out|refine Zp ?_ GE15002.out)|exact HB.out)) hb);(try clear hb);(try clear hb2);(try clear hk);(try clear hi);(try clear ho0))|((with_reducible refine ZM (N:=6) rfl ?_);refine ZK ?hg (N:=6) ?hd (cs:=#[.int .i64 0,.slice none 0 0]) (t:=73) ?hr ?_;(case hd=>rfl);(case hg=>rfl);(case hr=>first|(go_simp;done)|(go_simp;rfl));intro gb15012 hg w48 hbox hb;have BK15012:=Za (hbox);have GW15012:=Za ((by rw[hg];exact(Zw (by repeat(first|(with_reducible first|exact HB.out|apply Zq|apply Zm|apply Zs|refine Zp ?_ GE15001.out|refine Zp ?_ GE15002.out)|exact HB.out))):w.heap.size≤gb15012));have GE15012:=Za ((by rw[hg];exact(Zw (by repeat(first|(with_reducible first|exact HB.out|apply Zq|apply Zm|apply Zs|refine Zp ?_ GE15001.out|refine Zp ?_ GE15002.out)|exact HB.out))):w.heap.size≤gb15012));have NB15001_15012:=Za ((by rw[hg];exact Nat.ne_of_lt (ZH (g:=gb15001) (o:=.cells #[.int .i64 a0_0,.slice A0_1 l0_1.length c0_1] 31 (0,0)) (by(with_reducible repeat(first|refine Zo ?_ _|refine Zr ?_|refine Zn ?_ _));exact BK15001.out)):gb15001≠gb15012));have NB15012_15001:=Za ((by rw[hg];exact Nat.ne_of_gt (ZH (g:=gb15001) (o:=.cells #[.int .i64 a0_0,.slice A0_1 l0_1.length c0_1] 31 (0,0)) (by(with_reducible repeat(first|refine Zo ?_ _|refine Zr ?_|refine Zn ?_ _));exact BK15001.out)):gb15012≠gb15001));have NB15002_15012:=Za ((by rw[hg];exact Nat.ne_of_lt (ZH (g:=gb15002) (o:=.cells #[.int .i64 0,.int .i64 0] 35 (0,0)) (by(with_reducible repeat(first|refine Zo ?_ _|refine Zr ?_|refine Zn ?_ _));exact BK15002.out)):gb15002≠gb15012));have NB15012_15002:=Za ((by rw[hg];exact Nat.ne_of_gt (ZH (g:=gb15002) (o:=.cells #[.int .i64 0,.int .i64 0] 35 (0,0)) (by(with_reducible repeat(first|refine Zo ?_ _|refine Zr ?_|refine Zn ?_ _));exact BK15002.out)):gb15012≠gb15002));replace HO15006:=Za (Kd.R_below (by(with_reducible repeat(first|apply Kd.R_alloc|apply Kd.R_drewN|apply Kd.R_drew));exact HO15006.out) hb);replace HO15010:=Za (Kd.R_below (by(with_reducible repeat(first|apply Kd.R_alloc|apply Kd.R_drewN|apply Kd.R_drew));exact HO15010.out) hb);replace BK15001:=Za (Zy (g:=gb15001) (o:=.cells #[.int .i64 a0_0,.slice A0_1 l0_1.length c0_1] 31 (0,0)) (by(with_reducible repeat(first|refine Zo ?_ _|refine Zr ?_|refine Zn ?_ _));exact BK15001.out) hb);replace BK15002:=Za (Zy (g:=gb15002) (o:=.cells #[.int .i64 0,.int .i64 0] 35 (0,0)) (by(with_reducible repeat(first|refine Zo ?_ _|refine Zr ?_|refine Zn ?_ _));exact BK15002.out) hb);replace HB:=Za (Zx (by repeat(first|(with_reducible first|exact HB.out|apply Zq|apply Zm|apply Zs|refine Zp ?_ GE15001.out|refine Zp ?_ GE15002.out)|exact HB.out)) hb);clear hb hbox hg;have hnb49:=NB15012_15001.out;have hnc49:=NB15001_15012.out;have hnb50:=NB15012_15002.out;have hnc50:=NB15002_15012.out;have hcz51_0:w48.cell? ⟨gb15012,0,none⟩=some (.int .i64 0):=(Zv BK15012.out 0).trans rfl;have hcz51_1:w48.cell? ⟨gb15012,1,none⟩=some (.slice none 0 0):=(Zv BK15012.out 1).trans rfl;have hfz51_0:=Zu BK15012.out 0;have hfz51_1:=Zu BK15012.out 1;obtain⟨Ao52,co52,eo52⟩:=Kd.R_slice HO15010.out;subst eo52;have hcz53_0:w48.cell? ⟨gb15002,0,none⟩=some (.int .i64 0):=(Zv BK15002.out 0).trans rfl;have hcz53_1:w48.cell? ⟨gb15002,1,none⟩=some (.int .i64 0):=(Zv BK15002.out 1).trans rfl;have hfz53_0:=Zu BK15002.out 0;have hfz53_1:=Zu BK15002.out 1))
  refine bodyPost_ret (Zay rfl _ _ gb15002 35 #[.int .i64 0,.int .i64 0] (0,0) _ rfl (by(with_reducible repeat(first|refine Zo ?_ _|refine Zr ?_|refine Zn ?_ _));refine ZL (cs:=#[.int .i64 0,.int .i64 0]) ?_ 1 _ rfl;(with_reducible repeat(first|refine Zo ?_ _|refine Zr ?_|refine Zn ?_ _));refine ZL (cs:=#[.int .i64 0,.int .i64 0]) ?_ 0 _ rfl;(with_reducible repeat(first|refine Zo ?_ _|refine Zr ?_|refine Zn ?_ _));refine ZD ?_ NB15002_15012.out _;(with_reducible repeat(first|refine Zo ?_ _|refine Zr ?_|refine Zn ?_ _));refine ZD ?_ NB15002_15012.out _;(with_reducible repeat(first|refine Zo ?_ _|refine Zr ?_|refine Zn ?_ _));exact BK15002.out) Try.underlying35 rfl (by kernel_rfl)) rfl ?_
  exact⟨by first|rfl|(simp[ZC,ZB] <;> rfl)|(simp[*,ZC,ZB] <;> rfl),by repeat(first|(with_reducible first|exact HB.out|apply Zq|apply Zm|apply Zs|refine Zp ?_ GE15001.out|refine Zp ?_ GE15002.out|refine Zp ?_ GE15012.out)|exact HB.out)⟩
end Go.Proofs.Ythphnhmabieflab.Pr
