/- By a program of this session. -/
import Derived.Test.YtoeimopgoaffcaaGreatDoorBBec1x11
set_option maxHeartbeats 8000000
set_option maxRecDepth 100000
namespace Go.Proofs.YtoeimopgoaffcaaGreatDoor.Pr
open RowKit YtoeimopgoaffcaaGreatDoorW.PrintWords YtoeimopgoaffcaaGreatDoorW.PrintLast YtoeimopgoaffcaaGreatDoorW.PrintMore
attribute [local go_sem] Zau Zas ZaL ZaK Zaf Zae Zat Zar
set_option linter.unusedVariables false
set_option linter.unusedSimpArgs false
def Z3.l0:Nat→List Int→Int→List Int→Int→Int→Option (Int)
 | 0,_,_,_,_,_=>none
 | k+1,x1,x5,x9,x10,x11=>if x11<x10 then(if 0≤x11 then(if x11<(x9.length:Int) then((ZaA.f (rd x9 x11)).bind fun t2=>(if 0≤(wrap64 (t2 - 1)) then(if (wrap64 (t2 - 1))<(x1.length:Int) then(if (rd x9 x11)<0 then(Z3.l0 k x1 (mn x5 (wrap64 (-(rd x1 (wrap64 (t2 - 1)))))) x9 x10 (wrap64 (x11+1))) else(Z3.l0 k x1 (mn x5 (rd x1 (wrap64 (t2 - 1)))) x9 x10 (wrap64 (x11+1)))) else(none)) else(none))) else(none)) else(none)) else(some x5)
def Z3.f (k:Nat) (l0:List Int) (l1:List Int):Option (Int):=Z3.l0 k l1 1 l0 (l0.length:Int) 0
theorem Z3.calls (k:Nat) (A0:Option Addr) (c0:Nat) (l0:List Int) (A1:Option Addr) (c1:Nat) (l1:List Int) (r:Int) (w:World) (hr0:Kd.C (Kd.int .i64) w A0 l0.length l0) (hc0:l0.length≤c0) (hr1:Kd.C (Kd.int .i64) w A1 l1.length l1) (hc1:l1.length≤c1) (h:Z3.f k l0 l1=some r) :
  Calls Tryz.prog 95 #[.slice A0 l0.length c0,.slice A1 l1.length c1] w fun e w'=>e=.returned (.int .i64 r)∧Below w.heap.size w w':=by
 have HR0:=Za hr0;have HC0:=Za hc0;clear hr0 hc0;have HR1:=Za hr1;have HC1:=Za hc1;clear hr1 hc1
 have HB:=Za (Below.refl w.heap.size w)
 have H:(Z3.l0 k l1 1 l0 (l0.length:Int) 0)=some r:=h
 clear h
 have H':=Za H
 clear H
 go_enter Tryz.func95,Tryz.ntmps95
 go_wp2
 go_loopg [5,11] k (fun kq v5 v11 w'=>∃(x5_1:Int) (x11_1:Int),v5=.int .i64 x5_1∧v11=.int .i64 x11_1∧Aside0 (Z3.l0 kq l1 x5_1 l0 (l0.length:Int) x11_1=some r)∧Aside0 (kq≤k)∧Aside0 (Below w.heap.size w w'))
 case atStart=>exact⟨(1),(0),(by first|rfl|(simp;done)|(simp[*];done)),(by first|rfl|(simp;done)|(simp[*];done)),H',⟨Nat.le_refl _⟩,⟨by repeat(first|(with_reducible first|exact HB.out|apply Zo|apply Zm|apply Zp)|exact HB.out)⟩⟩
 case round=>
  clear H'
  try clear c1
  try clear p2
  obtain⟨x5_1,x11_1,rfl,rfl,HA,HK1,HB⟩:=hrel
  cases gk with
  | zero=>exact absurd HA.out (by simp[Z3.l0])
  | succ k1=>
   have H:=HA.out
   clear HA
   simp only[Z3.l0] at H
   by_cases c3:x11_1<(l0.length:Int)
   ·rw[if_pos c3] at H
    have c3b0:decide (x11_1<(l0.length:Int))=true:=Ze c3
    clear c3
    by_cases c4:0≤x11_1
    ·rw[if_pos c4] at H
     have c4b0:decide (0≤x11_1)=true:=Ze c4
     clear c4
     by_cases c5:x11_1<(l0.length:Int)
     ·rw[if_pos c5] at H
      have c5b0:decide (x11_1<(l0.length:Int))=true:=Ze c5
      clear c5
      replace H:=Zh H
      obtain⟨t2,A60,H⟩:=H;have A6:=Za A60;clear A60
      obtain⟨ji7,hji7⟩:∃j_:Int,(wrap64 (t2 - 1))=j_:=⟨_,rfl⟩
      replace H:(if 0≤(ji7) then(if (ji7)<(l1.length:Int) then(if (rd l0 x11_1)<0 then(Z3.l0 k1 l1 (mn x5_1 (wrap64 (-(rd l1 (ji7))))) l0 (l0.length:Int) (wrap64 (x11_1+1))) else(Z3.l0 k1 l1 (mn x5_1 (rd l1 (ji7))) l0 (l0.length:Int) (wrap64 (x11_1+1)))) else(none)) else(none))=some r:=by first|(rw[hji7] at H;exact H)|(simp only[hji7] at H ⊢;exact H)
      (try rw[hji7] at A6)
      have hji7w:(IntKind.i64.wrap (t2 - 1))=ji7:=(i64_w _).trans hji7
      by_cases c8:0≤(ji7)
      ·rw[if_pos c8] at H
       have c8b0:decide (0≤(ji7))=true:=Ze c8
       clear c8
       by_cases c9:(ji7)<(l1.length:Int)
       ·rw[if_pos c9] at H
        have c9b0:decide ((ji7)<(l1.length:Int))=true:=Ze c9
        clear c9
        by_cases c10:(rd l0 x11_1)<0
        ·rw[if_pos c10] at H
         have c10b0:decide ((rd l0 x11_1)<0)=true:=Ze c10
         clear c10
         obtain⟨ji11,hji11⟩:∃j_:Int,(mn x5_1 (wrap64 (-(rd l1 (ji7)))))=j_:=⟨_,rfl⟩
         replace H:(Z3.l0 k1 l1 ji11 l0 (l0.length:Int) (wrap64 (x11_1+1)))=some r:=by first|(rw[hji11] at H;exact H)|(simp only[hji11] at H ⊢;exact H)
         (try rw[hji11] at A6)
         have hji11_:(if (wrap64 (-(rd l1 (ji7))))<x5_1 then(wrap64 (-(rd l1 (ji7)))) else x5_1)=ji11:=hji11
         have H':=Za H
         clear H
         have p1:0≤(x11_1:Int):=Zd (by first|(with_reducible assumption)|assumption)
         have q1:x11_1<(l0.length:Int):=Zd (by first|(with_reducible assumption)|assumption)
         obtain⟨ad1,e1,hx1_0⟩:=Kd.at_int HR0.out x11_1 p1 q1
         cases e1
         replace hx1_0:=(HB.out.cell (Zc w _ hx1_0)).trans hx1_0
         replace p1:=eq_true p1
         replace q1:=eq_true q1
         go_wp2_with (first|((with_reducible refine ZJ (f:=98) rfl ?_);refine ZY (some 17) rfl rfl Tryz.func98 (by kernel_rfl) rfl #[.int .i64 (rd l0 x11_1)] rfl (by(try simp only[List.map_toArray,List.map_cons,List.map_nil]);first|done|rfl|(simp only[Zk,Zj];rfl)) ?_;(with_reducible refine(ZaA.calls (rd l0 x11_1) t2 _ A6.out).mono ?_);rintro e w' ⟨rfl,⟨nd,rfl⟩⟩;refine⟨_,rfl,?_⟩;have p3:0≤((ji7):Int):=Zd (by first|(with_reducible assumption)|assumption);have q3:(ji7)<(l1.length:Int):=Zd (by first|(with_reducible assumption)|assumption);obtain⟨ad3,e3,hx3_0⟩:=Kd.at_int HR1.out (ji7) p3 q3;cases e3;replace hx3_0:=(HB.out.cell (Zc w _ hx3_0)).trans hx3_0;replace p3:=eq_true p3;replace q3:=eq_true q3))
         go_roundg k1
         case measure=>have:=HK1.out;omega
         case rel=>exact⟨(ji11),(wrap64 (x11_1+1)),(by first|rfl|(simp;done)|(simp only[← hji11] <;> (first|rfl|simp))|(simp[*];done)),(by first|rfl|(simp;done)|(simp[*];done)),H',⟨by have:=HK1.out;omega⟩,⟨by repeat(first|(with_reducible first|exact HB.out|apply Zo|apply Zm|apply Zp)|exact HB.out)⟩⟩
        ·rw[if_neg c10] at H
         have c10b0:decide ((rd l0 x11_1)<0)=false:=Zf c10
         clear c10
         obtain⟨ji12,hji12⟩:∃j_:Int,(mn x5_1 (rd l1 (ji7)))=j_:=⟨_,rfl⟩
         replace H:(Z3.l0 k1 l1 ji12 l0 (l0.length:Int) (wrap64 (x11_1+1)))=some r:=by first|(rw[hji12] at H;exact H)|(simp only[hji12] at H ⊢;exact H)
         (try rw[hji12] at A6)
         have hji12_:(if (rd l1 (ji7))<x5_1 then(rd l1 (ji7)) else x5_1)=ji12:=hji12
         have H':=Za H
         clear H
         have p1:0≤(x11_1:Int):=Zd (by first|(with_reducible assumption)|assumption)
         have q1:x11_1<(l0.length:Int):=Zd (by first|(with_reducible assumption)|assumption)
         obtain⟨ad1,e1,hx1_0⟩:=Kd.at_int HR0.out x11_1 p1 q1
         cases e1
         replace hx1_0:=(HB.out.cell (Zc w _ hx1_0)).trans hx1_0
         replace p1:=eq_true p1
         replace q1:=eq_true q1
         go_wp2_with (first|((with_reducible refine ZJ (f:=98) rfl ?_);refine ZY (some 17) rfl rfl Tryz.func98 (by kernel_rfl) rfl #[.int .i64 (rd l0 x11_1)] rfl (by(try simp only[List.map_toArray,List.map_cons,List.map_nil]);first|done|rfl|(simp only[Zk,Zj];rfl)) ?_;(with_reducible refine(ZaA.calls (rd l0 x11_1) t2 _ A6.out).mono ?_);rintro e w' ⟨rfl,⟨nd,rfl⟩⟩;refine⟨_,rfl,?_⟩;have p3:0≤((ji7):Int):=Zd (by first|(with_reducible assumption)|assumption);have q3:(ji7)<(l1.length:Int):=Zd (by first|(with_reducible assumption)|assumption);obtain⟨ad3,e3,hx3_0⟩:=Kd.at_int HR1.out (ji7) p3 q3;cases e3;replace hx3_0:=(HB.out.cell (Zc w _ hx3_0)).trans hx3_0;replace p3:=eq_true p3;replace q3:=eq_true q3))
         go_roundg k1
         case measure=>have:=HK1.out;omega
         case rel=>exact⟨(ji12),(wrap64 (x11_1+1)),(by first|rfl|(simp;done)|(simp only[← hji12] <;> (first|rfl|simp))|(simp[*];done)),(by first|rfl|(simp;done)|(simp[*];done)),H',⟨by have:=HK1.out;omega⟩,⟨by repeat(first|(with_reducible first|exact HB.out|apply Zo|apply Zm|apply Zp)|exact HB.out)⟩⟩
       ·rw[if_neg c9] at H
        exact absurd H (by simp)
      ·rw[if_neg c8] at H
       exact absurd H (by simp)
     ·rw[if_neg c5] at H
      exact absurd H (by simp)
    ·rw[if_neg c4] at H
     exact absurd H (by simp)
   ·rw[if_neg c3] at H
    have c3b0:decide (x11_1<(l0.length:Int))=false:=Zf c3
    clear c3
    obtain rfl:=Zg H
    go_wp2
    go_ret
    exact⟨by first|rfl|(simp[ZB,ZA] <;> rfl)|(simp[*,ZB,ZA] <;> rfl),by repeat(first|(with_reducible first|exact HB.out|apply Zo|apply Zm|apply Zp)|exact HB.out)⟩
def Zag.f (k:Nat) (l0_0:List (S39)) (l0_1:List (S82)) (a0_2:Int) (l1_0:List Int) (l1_1:List Int) (a2:Int):Option (Bool):=(Zbb.f k l0_0 l0_1 a0_2 l1_0 l1_1).bind fun t3=>(if t3=true then((ZU.f a2 0 (wrap64 ((l0_0.length:Int) - 1))).bind fun t4=>(if t4=true then(if 0≤a2 then(if a2<(l0_0.length:Int) then((Z3.f k ((ZI l0_0 a2).f1) l1_1).bind fun t6=>(some (t6 == 1))) else(none)) else(none)) else(some false))) else(some false))
def Zag.T1:Bool×List (List Nat×List Nat):=(true,[([],[]),([],[]),([0,1],[0,1]),([2,2],[2]),([3],[3]),([3],[3]),([5,3],[3,5]),([6,3],[3,6]),([7,3],[3,7]),([4,8,3,3],[3,4,8]),([3,9],[3,9]),([10,9],[10]),([11],[11]),([12,11],[11,12]),([11],[11]),([13,14,11],[11,13,14]),([15,11],[11,15]),([16,11],[11,16]),([11],[11]),([18,11],[11,18]),([17,19,11,11],[11,17,19]),([20,11],[11,20]),([11,21],[11,21]),([22,20,0,1,2,3,4,5,6,7,8,9,10,11,12,13,14,15,16,17,18,19,20,21,22],[22])])
def Zag.B1:List Nat:=[0,0,3,7,15,15,47,111,239,511,1023,2047,4095,8191,4095,32767,65535,131071,4095,266239,1048575,2097151,4194303,8388607]
theorem Zag.tab1:rtab .any (opsOf Tryz.f172 1)=Zag.T1:=by kernel_rfl
theorem Zag.bits1:ZdL Zag.T1.2 Zag.B1=true:=by kernel_rfl
theorem Zag.calls (k:Nat) (A0_0:Option Addr) (c0_0:Nat) (l0_0:List (S39)) (A0_1:Option Addr) (c0_1:Nat) (l0_1:List (S82)) (a0_2:Int) (A1_0:Option Addr) (c1_0:Nat) (l1_0:List Int) (A1_1:Option Addr) (c1_1:Nat) (l1_1:List Int) (a2:Int) (r:Bool) (w:World) (hr0_0:Kd.C k39 w A0_0 l0_0.length l0_0) (hc0_0:l0_0.length≤c0_0) (hr0_1:Kd.C k82 w A0_1 l0_1.length l0_1) (hc0_1:l0_1.length≤c0_1) (hr1_0:Kd.C (Kd.int .i64) w A1_0 l1_0.length l1_0) (hc1_0:l1_0.length≤c1_0) (hr1_1:Kd.C (Kd.int .i64) w A1_1 l1_1.length l1_1) (hc1_1:l1_1.length≤c1_1) (h:Zag.f k l0_0 l0_1 a0_2 l1_0 l1_1 a2=some r) :
  Calls Tryz.prog 172 #[.agg #[.slice A0_0 l0_0.length c0_0,.slice A0_1 l0_1.length c0_1,.int .i64 a0_2],.agg #[.slice A1_0 l1_0.length c1_0,.slice A1_1 l1_1.length c1_1],.int .i64 a2] w fun e w'=>e=.returned (.bool r)∧Below w.heap.size w w':=by
 have hu25:=Tryz.underlying25
 have hu58:=Tryz.underlying58
 have HR0_0:=Za hr0_0;have HC0_0:=Za hc0_0;clear hr0_0 hc0_0;have HR0_1:=Za hr0_1;have HC0_1:=Za hc0_1;clear hr0_1 hc0_1;have HR1_0:=Za hr1_0;have HC1_0:=Za hc1_0;clear hr1_0 hc1_0;have HR1_1:=Za hr1_1;have HC1_1:=Za hc1_1;clear hr1_1 hc1_1
 have HB:=Za (Below.refl w.heap.size w)
 have H:((Zbb.f k l0_0 l0_1 a0_2 l1_0 l1_1).bind fun t3=>(if t3=true then((ZU.f a2 0 (wrap64 ((l0_0.length:Int) - 1))).bind fun t4=>(if t4=true then(if 0≤a2 then(if a2<(l0_0.length:Int) then((Z3.f k ((ZI l0_0 a2).f1) l1_1).bind fun t6=>(some (t6 == 1))) else(none)) else(none)) else(some false))) else(some false)))=some r:=h
 clear h
 replace H:=Zh H
 obtain⟨t3,A40,H⟩:=H;have A4:=Za A40;clear A40
 by_cases c5:t3=true
 ·subst c5
  rw[if_pos rfl] at H
  replace H:=Zh H
  obtain⟨t4,A60,H⟩:=H;have A6:=Za A60;clear A60
  by_cases c7:t4=true
  ·subst c7
   rw[if_pos rfl] at H
   by_cases c8:0≤a2
   ·rw[if_pos c8] at H
    have c8b0:decide (0≤a2)=true:=Ze c8
    clear c8
    by_cases c9:a2<(l0_0.length:Int)
    ·rw[if_pos c9] at H
     have c9b0:decide (a2<(l0_0.length:Int))=true:=Ze c9
     clear c9
     replace H:=Zh H
     obtain⟨t6,A100,H⟩:=H;have A10:=Za A100;clear A100
     obtain rfl:=Zg H
     go_enter Tryz.func172,Tryz.ntmps172
     try go_wp2_with (first|((with_reducible refine ZG (N:=3) rfl ?_);refine ZH ?hg (N:=3) ?hd (cs:=#[.slice A0_0 l0_0.length c0_0,.slice A0_1 l0_1.length c0_1,.int .i64 a0_2]) (t:=25) ?hr ?_;(case hd=>rfl);(case hg=>rfl);(case hr=>first|(go_simp;done)|(go_simp;rfl));intro gb1 hg w11 hbox hb;have BK1:=Za (hbox);have GW1:=Za ((by rw[hg];exact(Zv (by exact HB.out)):w.heap.size≤gb1));have GE1:=Za ((by rw[hg];exact(Zv (by exact HB.out)):w.heap.size≤gb1));replace HB:=Za (Zq (by exact HB.out) hb);clear hb hbox hg)|((with_reducible refine ZG (N:=4) rfl ?_);refine ZH ?hg (N:=4) ?hd (cs:=#[.slice A1_0 l1_0.length c1_0,.slice A1_1 l1_1.length c1_1]) (t:=58) ?hr ?_;(case hd=>rfl);(case hg=>rfl);(case hr=>first|(go_simp;done)|(go_simp;rfl));intro gb2 hg w12 hbox hb;have BK2:=Za (hbox);have GW2:=Za ((by rw[hg];exact(Zv (by exact HB.out)):w.heap.size≤gb2));have GE2:=Za ((by rw[hg];exact(Zv (by exact HB.out)):w.heap.size≤gb2));have NB1_2:=Za ((by rw[hg];exact Nat.ne_of_lt (ZK (g:=gb1) (o:=.cells #[.slice A0_0 l0_0.length c0_0,.slice A0_1 l0_1.length c0_1,.int .i64 a0_2] 25 (0,0)) (by exact BK1.out)):gb1≠gb2));have NB2_1:=Za ((by rw[hg];exact Nat.ne_of_gt (ZK (g:=gb1) (o:=.cells #[.slice A0_0 l0_0.length c0_0,.slice A0_1 l0_1.length c0_1,.int .i64 a0_2] 25 (0,0)) (by exact BK1.out)):gb2≠gb1));replace BK1:=Za (Zw (g:=gb1) (o:=.cells #[.slice A0_0 l0_0.length c0_0,.slice A0_1 l0_1.length c0_1,.int .i64 a0_2] 25 (0,0)) (by exact BK1.out) hb);replace HB:=Za (Zq (by exact HB.out) hb);clear hb hbox hg))
     replace BK1:=Za (ZE BK1.out);replace BK2:=Za (ZE BK2.out);replace HB:=Za (Zp HB.out)
     have p5:0≤(a2:Int):=Zd (by with_reducible assumption)
     have q5:a2<(l0_0.length:Int):=Zd (by with_reducible assumption)
     obtain⟨ad5,A5_1,c5_1,e5,hx5_0,hx5_1,hx5_2,hl5_1,hi5_1⟩:=ZaS HR0_0.out a2 p5 q5
     have hw5_2:=hx5_2
     have hw5_1:=hx5_1
     have hw5_0:=hx5_0
     cases e5
     replace hx5_0:=(HB.out.cell (Zc w _ hx5_0)).trans hx5_0
     replace hx5_1:=(HB.out.cell (Zc w _ hx5_1)).trans hx5_1
     replace hx5_2:=(HB.out.cell (Zc w _ hx5_2)).trans hx5_2
     have HR5_1:=Za hi5_1;have HC5_1:=Za hl5_1;clear hi5_1 hl5_1
     replace p5:=eq_true p5
     replace q5:=eq_true q5
     refine ZbP (n:=24) (S:=fun w'=>w'.cell? ⟨gb1,0,none⟩=some (.slice (some ad5) l0_0.length c0_0)∧w'.cell? ⟨gb1,1,none⟩=some (.slice A0_1 l0_1.length c0_1)∧w'.cell? ⟨gb1,2,none⟩=some (.int .i64 a0_2)∧w'.cell? ⟨gb2,0,none⟩=some (.slice A1_0 l1_0.length c1_0)∧w'.cell? ⟨gb2,1,none⟩=some (.slice A1_1 l1_1.length c1_1)∧w'.cell? (ad5.add ((a2).toNat * 3))=some (.string ((ZI l0_0 a2).f0))∧w'.cell? ⟨(ad5.add ((a2).toNat * 3)).block,(ad5.add ((a2).toNat * 3)).off+1,none⟩=some (.slice A5_1 ((ZI l0_0 a2).f1).length c5_1)∧w'.cell? ⟨(ad5.add ((a2).toNat * 3)).block,(ad5.add ((a2).toNat * 3)).off+2,none⟩=some (.int .i64 ((ZI l0_0 a2).f2))) (ds:=[]) #[false,false,false,false,false,false,false,false,false,false,false,false,false,false,false,false,false,false,false,false,false,false,false,false] (by kernel_rfl) rfl rfl ⟨(Zn BK1.out 0).trans rfl,(Zn BK1.out 1).trans rfl,(Zn BK1.out 2).trans rfl,(Zn BK2.out 0).trans rfl,(Zn BK2.out 1).trans rfl,((HB.out.cell (Zc w _ hw5_0)).trans hw5_0),((HB.out.cell (Zc w _ hw5_1)).trans hw5_1),((HB.out.cell (Zc w _ hw5_2)).trans hw5_2)⟩ (fun hHeld=>?_);refine Zdd Zag.tab1 Zag.bits1 (fun HT_ HW_=>?_)
     generalize w12.drew=w13 at BK1 BK2 HB HR5_1 hx5_0 hx5_1 hx5_2 hHeld ⊢
     refine tk (N:=some 7) 0 hHeld ?_
     refine tk (N:=some 8) 1 hHeld ?_
     refine onl (N:=some 9) 2 (fun K hK=>?_)
     refine Zbi Tryz.func94 (by kernel_rfl) rfl #[.agg #[.slice (some ad5) l0_0.length c0_0,.slice A0_1 l0_1.length c0_1,.int .i64 a0_2],.agg #[.slice A1_0 l1_0.length c1_0,.slice A1_1 l1_1.length c1_1]] (by rfl) rfl rfl (by(try simp only[List.map_toArray,List.map_cons,List.map_nil]);first|done|rfl|(simp only[Zk,Zj];rfl)) ?_
     with_reducible refine(Zbb.calls k _ _ l0_0 _ _ l0_1 a0_2 _ _ l1_0 _ _ l1_1 true _ ?side1 ?side2 ?side3 ?side4 ?side5 ?side6 ?side7 ?side8 A4.out).mono ?_
     (case side1=>exact(Zb HR0_0.out HB.out))
     (case side2=>exact HC0_0.out)
     (case side3=>exact(Zb HR0_1.out HB.out))
     (case side4=>exact HC0_1.out)
     (case side5=>exact(Zb HR1_0.out HB.out))
     (case side6=>exact HC1_0.out)
     (case side7=>exact(Zb HR1_1.out HB.out))
     (case side8=>exact HC1_1.out)
     rintro e w14 ⟨rfl,hb⟩
     refine⟨_,rfl,?_⟩
     replace BK1:=Za (Zw (g:=gb1) (o:=.cells #[.slice (some ad5) l0_0.length c0_0,.slice A0_1 l0_1.length c0_1,.int .i64 a0_2] 25 (0,0)) (by exact BK1.out) hb);replace BK2:=Za (Zw (g:=gb2) (o:=.cells #[.slice A1_0 l1_0.length c1_0,.slice A1_1 l1_1.length c1_1] 58 (0,0)) (by exact BK2.out) hb);replace HB:=Za (Zq (by exact HB.out) hb)
     (try clear hb)
     (try clear hb2)
     (try clear hk)
     (try clear hi)
     refine hK.out _ _ ⟨(Zn BK1.out 0).trans rfl,(Zn BK1.out 1).trans rfl,(Zn BK1.out 2).trans rfl,(Zn BK2.out 0).trans rfl,(Zn BK2.out 1).trans rfl,((HB.out.cell (Zc w _ hw5_0)).trans hw5_0),((HB.out.cell (Zc w _ hw5_1)).trans hw5_1),((HB.out.cell (Zc w _ hw5_2)).trans hw5_2)⟩ (fun hHeld=>?_)
     clear hK K
     refine nrm (some 9) ?_
     refine pu (N:=some 10) 3 ?_
     refine pu (N:=some 11) 4 ?_
     refine pu (N:=some 12) 5 ?_
     refine tk (N:=some 13) 6 hHeld ?_
     refine pu (N:=some 14) 7 ?_
     refine pu (N:=some 15) 8 ?_
     refine onl (N:=some 16) 9 (fun K hK=>?_)
     refine Zbi Tryz.func127 (by kernel_rfl) rfl #[.int .i64 a2,.int .i64 0,.int .i64 (wrap64 ((l0_0.length:Int) - 1))] (by rfl) rfl rfl (by(try simp only[List.map_toArray,List.map_cons,List.map_nil]);first|done|rfl|(simp only[Zk,Zj];rfl)) ?_
     with_reducible refine(ZU.calls a2 0 (wrap64 ((l0_0.length:Int) - 1)) true _ A6.out).mono ?_
     rintro e w' ⟨rfl,⟨nd,rfl⟩⟩
     refine⟨_,rfl,?_⟩
     refine hK.out _ _ ⟨(Zn BK1.out 0).trans rfl,(Zn BK1.out 1).trans rfl,(Zn BK1.out 2).trans rfl,(Zn BK2.out 0).trans rfl,(Zn BK2.out 1).trans rfl,((HB.out.cell (Zc w _ hw5_0)).trans hw5_0),((HB.out.cell (Zc w _ hw5_1)).trans hw5_1),((HB.out.cell (Zc w _ hw5_2)).trans hw5_2)⟩ (fun hHeld=>?_)
     clear hK K
     refine nrm (some 16) ?_
     refine pu (N:=some 17) 10 ?_
     refine pu (N:=some 18) 11 ?_
     refine pu (N:=some 19) 12 ?_
     refine pu (N:=some 21) 14 ?_
     refine pu (N:=some 25) 18 ?_
     refine tk (N:=some 20) 13 hHeld ?_
     refine pu (N:=some 22) 15 ?_
     refine pu (N:=some 23) 16 ?_
     refine tk (N:=some 24) 17 hHeld ?_
     refine tk (N:=some 26) 19 hHeld ?_
     refine onl (N:=some 27) 20 (fun K hK=>?_)
     refine Zbi Tryz.func95 (by kernel_rfl) rfl #[.slice A5_1 ((ZI l0_0 a2).f1).length c5_1,.slice A1_1 l1_1.length c1_1] (by rfl) rfl rfl (by(try simp only[List.map_toArray,List.map_cons,List.map_nil]);first|done|rfl|(simp only[Zk,Zj];rfl)) ?_
     with_reducible refine(Z3.calls k _ _ ((ZI l0_0 a2).f1) _ _ l1_1 t6 _ ?side1 ?side2 ?side3 ?side4 A10.out).mono ?_
     (case side1=>exact(Zb HR5_1.out (by repeat(first|(with_reducible first|exact HB.out|apply Zo|apply Zm|apply Zp|refine Zs ?_ GE1.out|refine Zs ?_ GE2.out)|exact HB.out))))
     (case side2=>exact HC5_1.out)
     (case side3=>exact(Zb HR1_1.out (by repeat(first|(with_reducible first|exact HB.out|apply Zo|apply Zm|apply Zp|refine Zs ?_ GE1.out|refine Zs ?_ GE2.out)|exact HB.out))))
     (case side4=>exact HC1_1.out)
     rintro e w15 ⟨rfl,hb⟩
     refine⟨_,rfl,?_⟩
     replace BK1:=Za (Zw (g:=gb1) (o:=.cells #[.slice (some ad5) l0_0.length c0_0,.slice A0_1 l0_1.length c0_1,.int .i64 a0_2] 25 (0,0)) (by exact BK1.out) hb);replace BK2:=Za (Zw (g:=gb2) (o:=.cells #[.slice A1_0 l1_0.length c1_0,.slice A1_1 l1_1.length c1_1] 58 (0,0)) (by exact BK2.out) hb);replace HB:=Za (Zq (by repeat(first|(with_reducible first|exact HB.out|apply Zo|apply Zm|apply Zp|refine Zs ?_ GE1.out|refine Zs ?_ GE2.out)|exact HB.out)) hb)
     (try clear hb)
     (try clear hb2)
     (try clear hk)
     (try clear hi)
     refine hK.out _ _ ⟨(Zn BK1.out 0).trans rfl,(Zn BK1.out 1).trans rfl,(Zn BK1.out 2).trans rfl,(Zn BK2.out 0).trans rfl,(Zn BK2.out 1).trans rfl,((HB.out.cell (Zc w _ hw5_0)).trans hw5_0),((HB.out.cell (Zc w _ hw5_1)).trans hw5_1),((HB.out.cell (Zc w _ hw5_2)).trans hw5_2)⟩ (fun hHeld=>?_)
     clear hK K
     refine nrm (some 27) ?_
     refine pu (N:=some 28) 21 ?_
     refine pu (N:=some 29) 22 ?_
     refine pu (N:=some 6) 23 ?_
     refine Zcm (ZdQ HT_.out (by kernel_rfl)) ?_
     try go_wp2
     go_ret
     exact⟨by first|rfl|(simp[ZB,ZA] <;> rfl)|(simp[*,ZB,ZA] <;> rfl),by repeat(first|(with_reducible first|exact HB.out|apply Zo|apply Zm|apply Zp|refine Zs ?_ GE1.out|refine Zs ?_ GE2.out)|exact HB.out)⟩
    ·rw[if_neg c9] at H
     exact absurd H (by simp)
   ·rw[if_neg c8] at H
    exact absurd H (by simp)
  ·replace c7:=Bool.eq_false_iff.mpr c7
   subst c7
   have H1:(some false)=some r:=by rw[if_neg (show ¬(false=true) by decide)] at H;exact H
   clear H
   have H:=H1
   clear H1
   obtain rfl:=Zg H
   go_enter Tryz.func172,Tryz.ntmps172
   try go_wp2_with (first|((with_reducible refine ZG (N:=3) rfl ?_);refine ZH ?hg (N:=3) ?hd (cs:=#[.slice A0_0 l0_0.length c0_0,.slice A0_1 l0_1.length c0_1,.int .i64 a0_2]) (t:=25) ?hr ?_;(case hd=>rfl);(case hg=>rfl);(case hr=>first|(go_simp;done)|(go_simp;rfl));intro gb1 hg w16 hbox hb;have BK1:=Za (hbox);have GW1:=Za ((by rw[hg];exact(Zv (by exact HB.out)):w.heap.size≤gb1));have GE1:=Za ((by rw[hg];exact(Zv (by exact HB.out)):w.heap.size≤gb1));replace HB:=Za (Zq (by exact HB.out) hb);clear hb hbox hg)|((with_reducible refine ZG (N:=4) rfl ?_);refine ZH ?hg (N:=4) ?hd (cs:=#[.slice A1_0 l1_0.length c1_0,.slice A1_1 l1_1.length c1_1]) (t:=58) ?hr ?_;(case hd=>rfl);(case hg=>rfl);(case hr=>first|(go_simp;done)|(go_simp;rfl));intro gb2 hg w17 hbox hb;have BK2:=Za (hbox);have GW2:=Za ((by rw[hg];exact(Zv (by exact HB.out)):w.heap.size≤gb2));have GE2:=Za ((by rw[hg];exact(Zv (by exact HB.out)):w.heap.size≤gb2));have NB1_2:=Za ((by rw[hg];exact Nat.ne_of_lt (ZK (g:=gb1) (o:=.cells #[.slice A0_0 l0_0.length c0_0,.slice A0_1 l0_1.length c0_1,.int .i64 a0_2] 25 (0,0)) (by exact BK1.out)):gb1≠gb2));have NB2_1:=Za ((by rw[hg];exact Nat.ne_of_gt (ZK (g:=gb1) (o:=.cells #[.slice A0_0 l0_0.length c0_0,.slice A0_1 l0_1.length c0_1,.int .i64 a0_2] 25 (0,0)) (by exact BK1.out)):gb2≠gb1));replace BK1:=Za (Zw (g:=gb1) (o:=.cells #[.slice A0_0 l0_0.length c0_0,.slice A0_1 l0_1.length c0_1,.int .i64 a0_2] 25 (0,0)) (by exact BK1.out) hb);replace HB:=Za (Zq (by exact HB.out) hb);clear hb hbox hg))
   replace BK1:=Za (ZE BK1.out);replace BK2:=Za (ZE BK2.out);replace HB:=Za (Zp HB.out)
   refine ZbP (n:=24) (S:=fun w'=>w'.cell? ⟨gb1,0,none⟩=some (.slice A0_0 l0_0.length c0_0)∧w'.cell? ⟨gb1,1,none⟩=some (.slice A0_1 l0_1.length c0_1)∧w'.cell? ⟨gb1,2,none⟩=some (.int .i64 a0_2)∧w'.cell? ⟨gb2,0,none⟩=some (.slice A1_0 l1_0.length c1_0)∧w'.cell? ⟨gb2,1,none⟩=some (.slice A1_1 l1_1.length c1_1)) (ds:=[]) #[false,false,false,false,false,false,false,false,false,false,false,false,false,false,false,false,false,false,false,false,false,false,false,false] (by kernel_rfl) rfl rfl ⟨(Zn BK1.out 0).trans rfl,(Zn BK1.out 1).trans rfl,(Zn BK1.out 2).trans rfl,(Zn BK2.out 0).trans rfl,(Zn BK2.out 1).trans rfl⟩ (fun hHeld=>?_);refine Zdd Zag.tab1 Zag.bits1 (fun HT_ HW_=>?_)
   generalize w17.drew=w18 at BK1 BK2 HB hHeld ⊢
   refine tk (N:=some 7) 0 hHeld ?_
   refine tk (N:=some 8) 1 hHeld ?_
   refine onl (N:=some 9) 2 (fun K hK=>?_)
   refine Zbi Tryz.func94 (by kernel_rfl) rfl #[.agg #[.slice A0_0 l0_0.length c0_0,.slice A0_1 l0_1.length c0_1,.int .i64 a0_2],.agg #[.slice A1_0 l1_0.length c1_0,.slice A1_1 l1_1.length c1_1]] (by rfl) rfl rfl (by(try simp only[List.map_toArray,List.map_cons,List.map_nil]);first|done|rfl|(simp only[Zk,Zj];rfl)) ?_
   with_reducible refine(Zbb.calls k _ _ l0_0 _ _ l0_1 a0_2 _ _ l1_0 _ _ l1_1 true _ ?side1 ?side2 ?side3 ?side4 ?side5 ?side6 ?side7 ?side8 A4.out).mono ?_
   (case side1=>exact(Zb HR0_0.out HB.out))
   (case side2=>exact HC0_0.out)
   (case side3=>exact(Zb HR0_1.out HB.out))
   (case side4=>exact HC0_1.out)
   (case side5=>exact(Zb HR1_0.out HB.out))
   (case side6=>exact HC1_0.out)
   (case side7=>exact(Zb HR1_1.out HB.out))
   (case side8=>exact HC1_1.out)
   rintro e w19 ⟨rfl,hb⟩
   refine⟨_,rfl,?_⟩
   replace BK1:=Za (Zw (g:=gb1) (o:=.cells #[.slice A0_0 l0_0.length c0_0,.slice A0_1 l0_1.length c0_1,.int .i64 a0_2] 25 (0,0)) (by exact BK1.out) hb);replace BK2:=Za (Zw (g:=gb2) (o:=.cells #[.slice A1_0 l1_0.length c1_0,.slice A1_1 l1_1.length c1_1] 58 (0,0)) (by exact BK2.out) hb);replace HB:=Za (Zq (by exact HB.out) hb)
   (try clear hb)
   (try clear hb2)
   (try clear hk)
   (try clear hi)
   refine hK.out _ _ ⟨(Zn BK1.out 0).trans rfl,(Zn BK1.out 1).trans rfl,(Zn BK1.out 2).trans rfl,(Zn BK2.out 0).trans rfl,(Zn BK2.out 1).trans rfl⟩ (fun hHeld=>?_)
   clear hK K
   refine nrm (some 9) ?_
   refine pu (N:=some 10) 3 ?_
   refine pu (N:=some 11) 4 ?_
   refine pu (N:=some 12) 5 ?_
   refine tk (N:=some 13) 6 hHeld ?_
   refine pu (N:=some 14) 7 ?_
   refine pu (N:=some 15) 8 ?_
   refine onl (N:=some 16) 9 (fun K hK=>?_)
   refine Zbi Tryz.func127 (by kernel_rfl) rfl #[.int .i64 a2,.int .i64 0,.int .i64 (wrap64 ((l0_0.length:Int) - 1))] (by rfl) rfl rfl (by(try simp only[List.map_toArray,List.map_cons,List.map_nil]);first|done|rfl|(simp only[Zk,Zj];rfl)) ?_
   with_reducible refine(ZU.calls a2 0 (wrap64 ((l0_0.length:Int) - 1)) false _ A6.out).mono ?_
   rintro e w' ⟨rfl,⟨nd,rfl⟩⟩
   refine⟨_,rfl,?_⟩
   refine hK.out _ _ ⟨(Zn BK1.out 0).trans rfl,(Zn BK1.out 1).trans rfl,(Zn BK1.out 2).trans rfl,(Zn BK2.out 0).trans rfl,(Zn BK2.out 1).trans rfl⟩ (fun hHeld=>?_)
   clear hK K
   refine nrm (some 16) ?_
   refine pu (N:=some 17) 10 ?_
   refine pu (N:=some 18) 11 ?_
   refine und (N:=some 19) 12 ?_
   refine und (N:=some 20) 13 ?_
   refine und (N:=some 21) 14 ?_
   refine und (N:=some 22) 15 ?_
   refine und (N:=some 23) 16 ?_
   refine und (N:=some 24) 17 ?_
   refine und (N:=some 25) 18 ?_
   refine und (N:=some 26) 19 ?_
   refine und (N:=some 27) 20 ?_
   refine und (N:=some 28) 21 ?_
   refine pu (N:=some 29) 22 ?_
   refine pu (N:=some 6) 23 ?_
   refine Zcm (ZdQ HT_.out (by kernel_rfl)) ?_
   try go_wp2
   go_ret
   exact⟨by first|rfl|(simp[ZB,ZA] <;> rfl)|(simp[*,ZB,ZA] <;> rfl),by repeat(first|(with_reducible first|exact HB.out|apply Zo|apply Zm|apply Zp|refine Zs ?_ GE1.out|refine Zs ?_ GE2.out)|exact HB.out)⟩
 ·replace c5:=Bool.eq_false_iff.mpr c5
  subst c5
  have H1:(some false)=some r:=by rw[if_neg (show ¬(false=true) by decide)] at H;exact H
  clear H
  have H:=H1
  clear H1
  obtain rfl:=Zg H
  go_enter Tryz.func172,Tryz.ntmps172
  try go_wp2_with (first|((with_reducible refine ZG (N:=3) rfl ?_);refine ZH ?hg (N:=3) ?hd (cs:=#[.slice A0_0 l0_0.length c0_0,.slice A0_1 l0_1.length c0_1,.int .i64 a0_2]) (t:=25) ?hr ?_;(case hd=>rfl);(case hg=>rfl);(case hr=>first|(go_simp;done)|(go_simp;rfl));intro gb1 hg w20 hbox hb;have BK1:=Za (hbox);have GW1:=Za ((by rw[hg];exact(Zv (by exact HB.out)):w.heap.size≤gb1));have GE1:=Za ((by rw[hg];exact(Zv (by exact HB.out)):w.heap.size≤gb1));replace HB:=Za (Zq (by exact HB.out) hb);clear hb hbox hg)|((with_reducible refine ZG (N:=4) rfl ?_);refine ZH ?hg (N:=4) ?hd (cs:=#[.slice A1_0 l1_0.length c1_0,.slice A1_1 l1_1.length c1_1]) (t:=58) ?hr ?_;(case hd=>rfl);(case hg=>rfl);(case hr=>first|(go_simp;done)|(go_simp;rfl));intro gb2 hg w21 hbox hb;have BK2:=Za (hbox);have GW2:=Za ((by rw[hg];exact(Zv (by exact HB.out)):w.heap.size≤gb2));have GE2:=Za ((by rw[hg];exact(Zv (by exact HB.out)):w.heap.size≤gb2));have NB1_2:=Za ((by rw[hg];exact Nat.ne_of_lt (ZK (g:=gb1) (o:=.cells #[.slice A0_0 l0_0.length c0_0,.slice A0_1 l0_1.length c0_1,.int .i64 a0_2] 25 (0,0)) (by exact BK1.out)):gb1≠gb2));have NB2_1:=Za ((by rw[hg];exact Nat.ne_of_gt (ZK (g:=gb1) (o:=.cells #[.slice A0_0 l0_0.length c0_0,.slice A0_1 l0_1.length c0_1,.int .i64 a0_2] 25 (0,0)) (by exact BK1.out)):gb2≠gb1));replace BK1:=Za (Zw (g:=gb1) (o:=.cells #[.slice A0_0 l0_0.length c0_0,.slice A0_1 l0_1.length c0_1,.int .i64 a0_2] 25 (0,0)) (by exact BK1.out) hb);replace HB:=Za (Zq (by exact HB.out) hb);clear hb hbox hg))
  replace BK1:=Za (ZE BK1.out);replace BK2:=Za (ZE BK2.out);replace HB:=Za (Zp HB.out)
  refine ZbP (n:=24) (S:=fun w'=>w'.cell? ⟨gb1,0,none⟩=some (.slice A0_0 l0_0.length c0_0)∧w'.cell? ⟨gb1,1,none⟩=some (.slice A0_1 l0_1.length c0_1)∧w'.cell? ⟨gb1,2,none⟩=some (.int .i64 a0_2)∧w'.cell? ⟨gb2,0,none⟩=some (.slice A1_0 l1_0.length c1_0)∧w'.cell? ⟨gb2,1,none⟩=some (.slice A1_1 l1_1.length c1_1)) (ds:=[]) #[false,false,false,false,false,false,false,false,false,false,false,false,false,false,false,false,false,false,false,false,false,false,false,false] (by kernel_rfl) rfl rfl ⟨(Zn BK1.out 0).trans rfl,(Zn BK1.out 1).trans rfl,(Zn BK1.out 2).trans rfl,(Zn BK2.out 0).trans rfl,(Zn BK2.out 1).trans rfl⟩ (fun hHeld=>?_);refine Zdd Zag.tab1 Zag.bits1 (fun HT_ HW_=>?_)
  generalize w21.drew=w22 at BK1 BK2 HB hHeld ⊢
  refine tk (N:=some 7) 0 hHeld ?_
  refine tk (N:=some 8) 1 hHeld ?_
  refine onl (N:=some 9) 2 (fun K hK=>?_)
  refine Zbi Tryz.func94 (by kernel_rfl) rfl #[.agg #[.slice A0_0 l0_0.length c0_0,.slice A0_1 l0_1.length c0_1,.int .i64 a0_2],.agg #[.slice A1_0 l1_0.length c1_0,.slice A1_1 l1_1.length c1_1]] (by rfl) rfl rfl (by(try simp only[List.map_toArray,List.map_cons,List.map_nil]);first|done|rfl|(simp only[Zk,Zj];rfl)) ?_
  with_reducible refine(Zbb.calls k _ _ l0_0 _ _ l0_1 a0_2 _ _ l1_0 _ _ l1_1 false _ ?side1 ?side2 ?side3 ?side4 ?side5 ?side6 ?side7 ?side8 A4.out).mono ?_
  (case side1=>exact(Zb HR0_0.out HB.out))
  (case side2=>exact HC0_0.out)
  (case side3=>exact(Zb HR0_1.out HB.out))
  (case side4=>exact HC0_1.out)
  (case side5=>exact(Zb HR1_0.out HB.out))
  (case side6=>exact HC1_0.out)
  (case side7=>exact(Zb HR1_1.out HB.out))
  (case side8=>exact HC1_1.out)
  rintro e w23 ⟨rfl,hb⟩
  refine⟨_,rfl,?_⟩
  replace BK1:=Za (Zw (g:=gb1) (o:=.cells #[.slice A0_0 l0_0.length c0_0,.slice A0_1 l0_1.length c0_1,.int .i64 a0_2] 25 (0,0)) (by exact BK1.out) hb);replace BK2:=Za (Zw (g:=gb2) (o:=.cells #[.slice A1_0 l1_0.length c1_0,.slice A1_1 l1_1.length c1_1] 58 (0,0)) (by exact BK2.out) hb);replace HB:=Za (Zq (by exact HB.out) hb)
  (try clear hb)
  (try clear hb2)
  (try clear hk)
  (try clear hi)
  refine hK.out _ _ ⟨(Zn BK1.out 0).trans rfl,(Zn BK1.out 1).trans rfl,(Zn BK1.out 2).trans rfl,(Zn BK2.out 0).trans rfl,(Zn BK2.out 1).trans rfl⟩ (fun hHeld=>?_)
  clear hK K
  refine nrm (some 9) ?_
  refine pu (N:=some 10) 3 ?_
  refine und (N:=some 11) 4 ?_
  refine und (N:=some 12) 5 ?_
  refine und (N:=some 13) 6 ?_
  refine und (N:=some 14) 7 ?_
  refine und (N:=some 15) 8 ?_
  refine und (N:=some 16) 9 ?_
  refine pu (N:=some 17) 10 ?_
  refine pu (N:=some 18) 11 ?_
  refine und (N:=some 19) 12 ?_
  refine und (N:=some 20) 13 ?_
  refine und (N:=some 21) 14 ?_
  refine und (N:=some 22) 15 ?_
  refine und (N:=some 23) 16 ?_
  refine und (N:=some 24) 17 ?_
  refine und (N:=some 25) 18 ?_
  refine und (N:=some 26) 19 ?_
  refine und (N:=some 27) 20 ?_
  refine und (N:=some 28) 21 ?_
  refine pu (N:=some 29) 22 ?_
  refine pu (N:=some 6) 23 ?_
  refine Zcm (ZdQ HT_.out (by kernel_rfl)) ?_
  try go_wp2
  go_ret
  exact⟨by first|rfl|(simp[ZB,ZA] <;> rfl)|(simp[*,ZB,ZA] <;> rfl),by repeat(first|(with_reducible first|exact HB.out|apply Zo|apply Zm|apply Zp|refine Zs ?_ GE1.out|refine Zs ?_ GE2.out)|exact HB.out)⟩
end Go.Proofs.YtoeimopgoaffcaaGreatDoor.Pr
