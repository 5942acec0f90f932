/- By a program of this session. -/
import Derived.ProofKit
import Derived.Test.YtoeimopgoaffcaaGreatDoorBBec1x1
set_option maxHeartbeats 8000000
set_option maxRecDepth 100000
namespace Go.Proofs.YtoeimopgoaffcaaGreatDoor.Pr
open RowKit YtoeimopgoaffcaaGreatDoorW.PrintWords YtoeimopgoaffcaaGreatDoorW.PrintLast YtoeimopgoaffcaaGreatDoorW.PrintMore
attribute [local go_sem] Zau Zas ZaL ZaK Zaf Zae Zat Zar
set_option linter.unusedVariables false
set_option linter.unusedSimpArgs false
def Zdm.f (a0_0:Int) (a0_1:Int) (a0_2:Int) (a0_3:Int) (a0_4:Bool):Option (Int×Int×Int×Int×Bool):=some (a0_0,a0_1,a0_2,a0_3,a0_4)
theorem Zdm.calls (a0_0:Int) (a0_1:Int) (a0_2:Int) (a0_3:Int) (a0_4:Bool) (r1:Int) (r2:Int) (r3:Int) (r4:Int) (r5:Bool) (w:World) (h:Zdm.f a0_0 a0_1 a0_2 a0_3 a0_4=some (r1,r2,r3,r4,r5)) :
  Calls Tryz.prog 159 #[.agg #[.int .i64 a0_0,.int .i64 a0_1,.int .i64 a0_2,.int .i64 a0_3,.bool a0_4]] w fun e w'=>e=.returned (.agg #[.int .i64 r1,.int .i64 r2,.int .i64 r3,.int .i64 r4,.bool r5])∧Below w.heap.size w w':=by
 have hu147:=Tryz.underlying147
 have hu82:=Tryz.underlying82
 have HB:=Za (Below.refl w.heap.size w)
 have H:(some (a0_0,a0_1,a0_2,a0_3,a0_4))=some (r1,r2,r3,r4,r5):=h
 clear h
 simp only[Option.some.injEq,Prod.mk.injEq] at H
 obtain⟨rfl,rfl,rfl,rfl,rfl⟩:=H
 go_enter Tryz.func159,Tryz.ntmps159
 go_wp2_with (first|((with_reducible refine ZG (N:=1) rfl ?_);refine ZH ?hg (N:=1) ?hd (cs:=#[.int .i64 a0_0,.int .i64 a0_1,.int .i64 a0_2,.int .i64 a0_3,.bool a0_4]) (t:=147) ?hr ?_;(case hd=>rfl);(case hg=>rfl);(case hr=>first|(go_simp;done)|(go_simp;rfl));intro gb1 hg w2 hbox hb;have BK1:=Za (hbox);have GW1:=Za ((by rw[hg];exact(Zv (by repeat(first|(with_reducible first|exact HB.out|apply Zo|apply Zm|apply Zp)|exact HB.out))):w.heap.size≤gb1));have GE1:=Za ((by rw[hg];exact(Zv (by repeat(first|(with_reducible first|exact HB.out|apply Zo|apply Zm|apply Zp)|exact HB.out))):w.heap.size≤gb1));replace HB:=Za (Zq (by repeat(first|(with_reducible first|exact HB.out|apply Zo|apply Zm|apply Zp)|exact HB.out)) hb);clear hb hbox hg)|((with_reducible refine ZG (N:=2) rfl ?_);refine ZH ?hg (N:=2) ?hd (cs:=#[.int .i64 0,.int .i64 0,.int .i64 0,.int .i64 0,.bool false]) (t:=82) ?hr ?_;(case hd=>rfl);(case hg=>rfl);(case hr=>first|(go_simp;done)|(go_simp;rfl));intro gb2 hg w3 hbox hb;have BK2:=Za (hbox);have GW2:=Za ((by rw[hg];exact(Zv (by repeat(first|(with_reducible first|exact HB.out|apply Zo|apply Zm|apply Zp|refine Zs ?_ GE1.out)|exact HB.out))):w.heap.size≤gb2));have GE2:=Za ((by rw[hg];exact(Zv (by repeat(first|(with_reducible first|exact HB.out|apply Zo|apply Zm|apply Zp|refine Zs ?_ GE1.out)|exact HB.out))):w.heap.size≤gb2));have NB1_2:=Za ((by rw[hg];exact Nat.ne_of_lt (ZK (g:=gb1) (o:=.cells #[.int .i64 a0_0,.int .i64 a0_1,.int .i64 a0_2,.int .i64 a0_3,.bool a0_4] 147 (0,0)) (by(with_reducible repeat(first|refine ZD ?_ _|refine ZE ?_|refine ZC ?_ _));exact BK1.out)):gb1≠gb2));have NB2_1:=Za ((by rw[hg];exact Nat.ne_of_gt (ZK (g:=gb1) (o:=.cells #[.int .i64 a0_0,.int .i64 a0_1,.int .i64 a0_2,.int .i64 a0_3,.bool a0_4] 147 (0,0)) (by(with_reducible repeat(first|refine ZD ?_ _|refine ZE ?_|refine ZC ?_ _));exact BK1.out)):gb2≠gb1));replace BK1:=Za (Zw (g:=gb1) (o:=.cells #[.int .i64 a0_0,.int .i64 a0_1,.int .i64 a0_2,.int .i64 a0_3,.bool a0_4] 147 (0,0)) (by(with_reducible repeat(first|refine ZD ?_ _|refine ZE ?_|refine ZC ?_ _));exact BK1.out) hb);replace HB:=Za (Zq (by repeat(first|(with_reducible first|exact HB.out|apply Zo|apply Zm|apply Zp|refine Zs ?_ GE1.out)|exact HB.out)) hb);clear hb hbox hg)|((with_reducible refine ZG (N:=3) rfl ?_);refine ZH ?hg (N:=3) ?hd (cs:=#[.int .i64 0,.int .i64 0,.int .i64 0,.int .i64 0,.bool false]) (t:=82) ?hr ?_;(case hd=>rfl);(case hg=>rfl);(case hr=>first|(go_simp;done)|(go_simp;rfl));intro gb3 hg w4 hbox hb;have BK3:=Za (hbox);have GW3:=Za ((by rw[hg];exact(Zv (by repeat(first|(with_reducible first|exact HB.out|apply Zo|apply Zm|apply Zp|refine Zs ?_ GE1.out|refine Zs ?_ GE2.out)|exact HB.out))):w.heap.size≤gb3));have GE3:=Za ((by rw[hg];exact(Zv (by repeat(first|(with_reducible first|exact HB.out|apply Zo|apply Zm|apply Zp|refine Zs ?_ GE1.out|refine Zs ?_ GE2.out)|exact HB.out))):w.heap.size≤gb3));have NB1_3:=Za ((by rw[hg];exact Nat.ne_of_lt (ZK (g:=gb1) (o:=.cells #[.int .i64 a0_0,.int .i64 a0_1,.int .i64 a0_2,.int .i64 a0_3,.bool a0_4] 147 (0,0)) (by(with_reducible repeat(first|refine ZD ?_ _|refine ZE ?_|refine ZC ?_ _));exact BK1.out)):gb1≠gb3));have NB3_1:=Za ((by rw[hg];exact Nat.ne_of_gt (ZK (g:=gb1) (o:=.cells #[.int .i64 a0_0,.int .i64 a0_1,.int .i64 a0_2,.int .i64 a0_3,.bool a0_4] 147 (0,0)) (by(with_reducible repeat(first|refine ZD ?_ _|refine ZE ?_|refine ZC ?_ _));exact BK1.out)):gb3≠gb1));have NB2_3:=Za ((by rw[hg];exact Nat.ne_of_lt (ZK (g:=gb2) (o:=.cells #[.int .i64 0,.int .i64 0,.int .i64 0,.int .i64 0,.bool false] 82 (0,0)) (by(with_reducible repeat(first|refine ZD ?_ _|refine ZE ?_|refine ZC ?_ _));exact BK2.out)):gb2≠gb3));have NB3_2:=Za ((by rw[hg];exact Nat.ne_of_gt (ZK (g:=gb2) (o:=.cells #[.int .i64 0,.int .i64 0,.int .i64 0,.int .i64 0,.bool false] 82 (0,0)) (by(with_reducible repeat(first|refine ZD ?_ _|refine ZE ?_|refine ZC ?_ _));exact BK2.out)):gb3≠gb2));replace BK1:=Za (Zw (g:=gb1) (o:=.cells #[.int .i64 a0_0,.int .i64 a0_1,.int .i64 a0_2,.int .i64 a0_3,.bool a0_4] 147 (0,0)) (by(with_reducible repeat(first|refine ZD ?_ _|refine ZE ?_|refine ZC ?_ _));exact BK1.out) hb);replace BK2:=Za (Zw (g:=gb2) (o:=.cells #[.int .i64 0,.int .i64 0,.int .i64 0,.int .i64 0,.bool false] 82 (0,0)) (by(with_reducible repeat(first|refine ZD ?_ _|refine ZE ?_|refine ZC ?_ _));exact BK2.out) hb);replace HB:=Za (Zq (by repeat(first|(with_reducible first|exact HB.out|apply Zo|apply Zm|apply Zp|refine Zs ?_ GE1.out|refine Zs ?_ GE2.out)|exact HB.out)) hb);clear hb hbox hg;have hnb5:=NB1_2.out;have hnc5:=NB2_1.out;have hnb6:=NB1_3.out;have hnc6:=NB3_1.out;have hcz7_0:w4.cell? ⟨gb1,0,none⟩=some (.int .i64 a0_0):=(Zn BK1.out 0).trans rfl;have hcz7_1:w4.cell? ⟨gb1,1,none⟩=some (.int .i64 a0_1):=(Zn BK1.out 1).trans rfl;have hcz7_2:w4.cell? ⟨gb1,2,none⟩=some (.int .i64 a0_2):=(Zn BK1.out 2).trans rfl;have hcz7_3:w4.cell? ⟨gb1,3,none⟩=some (.int .i64 a0_3):=(Zn BK1.out 3).trans rfl;have hcz7_4:w4.cell? ⟨gb1,4,none⟩=some (.bool a0_4):=(Zn BK1.out 4).trans rfl;have hfz7_0:=Zt BK1.out 0;have hfz7_1:=Zt BK1.out 1;have hfz7_2:=Zt BK1.out 2;have hfz7_3:=Zt BK1.out 3;have hfz7_4:=Zt BK1.out 4;have hnb8:=NB3_2.out;have hnc8:=NB2_3.out;have hcz9_0:w4.cell? ⟨gb3,0,none⟩=some (.int .i64 0):=(Zn BK3.out 0).trans rfl;have hcz9_1:w4.cell? ⟨gb3,1,none⟩=some (.int .i64 0):=(Zn BK3.out 1).trans rfl;have hcz9_2:w4.cell? ⟨gb3,2,none⟩=some (.int .i64 0):=(Zn BK3.out 2).trans rfl;have hcz9_3:w4.cell? ⟨gb3,3,none⟩=some (.int .i64 0):=(Zn BK3.out 3).trans rfl;have hcz9_4:w4.cell? ⟨gb3,4,none⟩=some (.bool false):=(Zn BK3.out 4).trans rfl;have hfz9_0:=Zt BK3.out 0;have hfz9_1:=Zt BK3.out 1;have hfz9_2:=Zt BK3.out 2;have hfz9_3:=Zt BK3.out 3;have hfz9_4:=Zt BK3.out 4;have hcz10_0:w4.cell? ⟨gb2,0,none⟩=some (.int .i64 0):=(Zn BK2.out 0).trans rfl;have hcz10_1:w4.cell? ⟨gb2,1,none⟩=some (.int .i64 0):=(Zn BK2.out 1).trans rfl;have hcz10_2:w4.cell? ⟨gb2,2,none⟩=some (.int .i64 0):=(Zn BK2.out 2).trans rfl;have hcz10_3:w4.cell? ⟨gb2,3,none⟩=some (.int .i64 0):=(Zn BK2.out 3).trans rfl;have hcz10_4:w4.cell? ⟨gb2,4,none⟩=some (.bool false):=(Zn BK2.out 4).trans rfl;have hfz10_0:=Zt BK2.out 0;have hfz10_1:=Zt BK2.out 1;have hfz10_2:=Zt BK2.out 2;have hfz10_3:=Zt BK2.out 3;have hfz10_4:=Zt BK2.out 4))
 refine bodyPost_ret (results_cell_row rfl _ _ gb2 82 #[.int .i64 a0_0,.int .i64 a0_1,.int .i64 a0_2,.int .i64 a0_3,.bool a0_4] (0,0) _ rfl (by(with_reducible repeat(first|refine ZD ?_ _|refine ZE ?_|refine ZC ?_ _));refine ZW (cs:=#[.int .i64 a0_0,.int .i64 a0_1,.int .i64 a0_2,.int .i64 a0_3,.bool false]) ?_ 4 _ rfl;(with_reducible repeat(first|refine ZD ?_ _|refine ZE ?_|refine ZC ?_ _));refine ZW (cs:=#[.int .i64 a0_0,.int .i64 a0_1,.int .i64 a0_2,.int .i64 0,.bool false]) ?_ 3 _ rfl;(with_reducible repeat(first|refine ZD ?_ _|refine ZE ?_|refine ZC ?_ _));refine ZW (cs:=#[.int .i64 a0_0,.int .i64 a0_1,.int .i64 0,.int .i64 0,.bool false]) ?_ 2 _ rfl;(with_reducible repeat(first|refine ZD ?_ _|refine ZE ?_|refine ZC ?_ _));refine ZW (cs:=#[.int .i64 a0_0,.int .i64 0,.int .i64 0,.int .i64 0,.bool false]) ?_ 1 _ rfl;(with_reducible repeat(first|refine ZD ?_ _|refine ZE ?_|refine ZC ?_ _));refine ZW (cs:=#[.int .i64 0,.int .i64 0,.int .i64 0,.int .i64 0,.bool false]) ?_ 0 _ rfl;(with_reducible repeat(first|refine ZD ?_ _|refine ZE ?_|refine ZC ?_ _));refine ZP ?_ NB2_3.out _;(with_reducible repeat(first|refine ZD ?_ _|refine ZE ?_|refine ZC ?_ _));refine ZP ?_ NB2_3.out _;(with_reducible repeat(first|refine ZD ?_ _|refine ZE ?_|refine ZC ?_ _));refine ZP ?_ NB2_3.out _;(with_reducible repeat(first|refine ZD ?_ _|refine ZE ?_|refine ZC ?_ _));refine ZP ?_ NB2_3.out _;(with_reducible repeat(first|refine ZD ?_ _|refine ZE ?_|refine ZC ?_ _));refine ZP ?_ NB2_3.out _;(with_reducible repeat(first|refine ZD ?_ _|refine ZE ?_|refine ZC ?_ _));exact BK2.out) Tryz.underlying82 rfl (by kernel_rfl)) rfl ?_
 exact⟨by first|rfl|(simp[ZB,ZA] <;> rfl)|(simp[*,ZB,ZA] <;> rfl),by repeat(first|(with_reducible first|exact HB.out|apply Zo|apply Zm|apply Zp|refine Zs ?_ GE1.out|refine Zs ?_ GE2.out|refine Zs ?_ GE3.out)|exact HB.out)⟩
def ZaQ.l0:Nat→List (S147)→List (S82)→Int→Option ((List (S82)))
 | 0,_,_,_=>none
 | k+1,x0,x3,x4=>if x4<(x0.length:Int) then(if 0≤x4 then((Zdm.f ((Zbe x0 x4).f0) ((Zbe x0 x4).f1) ((Zbe x0 x4).f2) ((Zbe x0 x4).f3) ((Zbe x0 x4).f4)).bind fun bt5=>(if x4<(x3.length:Int) then(ZaQ.l0 k x0 (x3.set (x4:Int).toNat (⟨bt5.1,bt5.2.1,bt5.2.2.1,bt5.2.2.2.1,bt5.2.2.2.2⟩:S82)) (wrap64 (x4+1))) else(none))) else(none)) else(some x3)
def ZaQ.f (k:Nat) (l0:List (S147)):Option ((List (S82))):=if 0≤(l0.length:Int) then(if ((l0.length:Int):Int).toNat≤7036874417766 then(ZaQ.l0 k l0 (List.replicate ((l0.length:Int):Int).toNat z82) 0) else(none)) else(none)
theorem ZaQ.calls (k:Nat) (A0:Option Addr) (c0:Nat) (l0:List (S147)) (r:List (S82)) (w:World) (hr0:Kd.C k147 w A0 l0.length l0) (hc0:l0.length≤c0) (h:ZaQ.f k l0=some r) :
  Calls Tryz.prog 101 #[.slice A0 l0.length c0] w fun e w'=>∃v0_:Value,e=.returned (v0_)∧Kd.R k82 82 w' w.heap.size (fun _=>True) v0_ r∧Below w.heap.size w w':=by
 have hu147:=Tryz.underlying147
 have hu82:=Tryz.underlying82
 have HR0:=Za hr0;have HC0:=Za hc0;clear hr0 hc0
 have HB:=Za (Below.refl w.heap.size w)
 have H:(if 0≤(l0.length:Int) then(if ((l0.length:Int):Int).toNat≤7036874417766 then(ZaQ.l0 k l0 (List.replicate ((l0.length:Int):Int).toNat z82) 0) else(none)) else(none))=some r:=h
 clear h
 by_cases c2:0≤(l0.length:Int)
 ·rw[if_pos c2] at H
  have c2b0:=eq_true c2
  have c2b1:decide (0≤(l0.length:Int))=true:=Ze c2
  clear c2
  by_cases c3:((l0.length:Int):Int).toNat≤7036874417766
  ·rw[if_pos c3] at H
   have c3b0:=eq_true c3
   have c3b1:decide (((l0.length:Int):Int).toNat≤7036874417766)=true:=Ze c3
   clear c3
   obtain⟨y1,hy1⟩:∃y_:List (S82),y_=(List.replicate ((l0.length:Int):Int).toNat z82):=⟨_,rfl⟩
   replace H:(ZaQ.l0 k l0 y1 0)=some r:=by first|(rw[hy1];with_reducible exact H)|(have H2_:=(Zi _ _).symm.trans H;rw[hy1];with_reducible exact H2_)|(have H2_:=(Zi _ _).symm.trans H;with_reducible exact H2_)|with_reducible exact H|(rw[hy1];exact H)|exact H
   have Ny1:=Za hy1;clear hy1
   have H':=Za H
   clear H
   go_enter Tryz.func101,Tryz.ntmps101
   go_wp2_with (first|((with_reducible refine ZG (N:=7) rfl ?_);refine Kd.R_make k82 _ 82 rfl (N:=7) rfl 23 _ _ rfl (l0.length:Int) rfl rfl Tryz.underlying23 (.agg #[(.int .i64 0),(.int .i64 0),(.int .i64 0),(.int .i64 0),(.bool false)]) 40 info82 rfl (by decide) (by omega) z82 (ok:=fun _=>True) (okp:=fun _=>True) (Zdr _ _ _ z82 ) (fun _ hk=>hk) trivial (Zd (by with_reducible assumption)) (Nat.le_trans (Nat.mul_le_mul_right _ (Zd (by with_reducible assumption):(l0.length:Int).toNat≤7036874417766)) (by omega)) (Below.refl _ _) (Nat.le_refl _) ?_;intro v2 w4 ho5 hb hg_ hnew_;clear hg_ hnew_;(first|rw[← Ny1.out] at ho5|(simp only[Int.reduceToNat] at ho5;rw[← Ny1.out] at ho5));have HO3:=Za (Kd.R_lower ho5 (Zv (by exact HB.out)));replace HB:=Za (Zq (by exact HB.out) hb);clear hb ho5))
   go_loopg [4] k (fun kq v4 w'=>∃(x3_1:List (S82)) (x4_1:Int),v4=.int .i64 x4_1∧Aside0 (ZaQ.l0 kq l0 x3_1 x4_1=some r)∧Aside0 (kq≤k)∧Aside0 (Kd.R k82 82 w' w.heap.size (fun _=>True) v2 x3_1)∧Aside0 (Below w.heap.size w w'))
   case atStart=>exact⟨(y1),(0),(by first|rfl|(simp;done)|(simp[*];done)),H',⟨Nat.le_refl _⟩,⟨by(with_reducible repeat(first|apply Kd.R_alloc|apply Kd.R_drewN|apply Kd.R_drew));exact HO3.out⟩,⟨by repeat(first|(with_reducible first|exact HB.out|apply Zo|apply Zm|apply Zp)|exact HB.out)⟩⟩
   case round=>
    clear H'
    try clear c1
    try clear c2
    try clear c2b0
    try clear c2b1
    try clear p2
    try clear c3
    try clear c3b0
    try clear c3b1
    obtain⟨x3_1,x4_1,rfl,HA,HK1,HO_3,HB⟩:=hrel
    cases gk with
    | zero=>exact absurd HA.out (by simp[ZaQ.l0])
    | succ k1=>
     have H:=HA.out
     clear HA
     simp only[ZaQ.l0] at H
     by_cases c6:x4_1<(l0.length:Int)
     ·rw[if_pos c6] at H
      have c6b0:decide (x4_1<(l0.length:Int))=true:=Ze c6
      clear c6
      by_cases c7:0≤x4_1
      ·rw[if_pos c7] at H
       have c7b0:decide (0≤x4_1)=true:=Ze c7
       clear c7
       replace H:=Zh H
       obtain⟨⟨t5,t6,t7,t8,t9⟩,A80,H⟩:=H;have A8:=Za A80;clear A80
       by_cases c9:x4_1<(x3_1.length:Int)
       ·rw[if_pos c9] at H
        have c9b0:decide (x4_1<(x3_1.length:Int))=true:=Ze c9
        clear c9
        obtain⟨y10,hy10⟩:∃y_:List (S82),y_=(x3_1.set (x4_1:Int).toNat (⟨t5,t6,t7,t8,t9⟩:S82)):=⟨_,rfl⟩
        replace H:(ZaQ.l0 k1 l0 y10 (wrap64 (x4_1+1)))=some r:=by first|(rw[hy10];with_reducible exact H)|(have H2_:=(Zi _ _).symm.trans H;rw[hy10];with_reducible exact H2_)|(have H2_:=(Zi _ _).symm.trans H;with_reducible exact H2_)|with_reducible exact H|(rw[hy10];exact H)|exact H
        have Ny10:=Za hy10;clear hy10
        have H':=Za H
        clear H
        have p4:0≤(x4_1:Int):=Zd (by with_reducible assumption)
        have q4:x4_1<(l0.length:Int):=Zd (by with_reducible assumption)
        obtain⟨ad4,e4,hx4_0,hx4_1,hx4_2,hx4_3,hx4_4⟩:=at_T147 HR0.out x4_1 p4 q4
        cases e4
        replace hx4_0:=(HB.out.cell (Zc w _ hx4_0)).trans hx4_0
        replace hx4_1:=(HB.out.cell (Zc w _ hx4_1)).trans hx4_1
        replace hx4_2:=(HB.out.cell (Zc w _ hx4_2)).trans hx4_2
        replace hx4_3:=(HB.out.cell (Zc w _ hx4_3)).trans hx4_3
        replace hx4_4:=(HB.out.cell (Zc w _ hx4_4)).trans hx4_4
        replace p4:=eq_true p4
        replace q4:=eq_true q4
        go_wp2_with (first|((with_reducible refine ZJ (f:=159) rfl ?_);refine ZY (some 20) rfl rfl Tryz.func159 (by kernel_rfl) rfl #[.agg #[.int .i64 ((Zbe l0 x4_1).f0),.int .i64 ((Zbe l0 x4_1).f1),.int .i64 ((Zbe l0 x4_1).f2),.int .i64 ((Zbe l0 x4_1).f3),.bool ((Zbe l0 x4_1).f4)]] rfl (by(try simp only[List.map_toArray,List.map_cons,List.map_nil]);first|done|rfl|(simp only[Zk,Zj];rfl)) ?_;(with_reducible refine(Zdm.calls ((Zbe l0 x4_1).f0) ((Zbe l0 x4_1).f1) ((Zbe l0 x4_1).f2) ((Zbe l0 x4_1).f3) ((Zbe l0 x4_1).f4) t5 t6 t7 t8 t9 _ A8.out).mono ?_);rintro e w11 ⟨rfl,hb⟩;refine⟨_,rfl,?_⟩;replace HO_3:=Za (Kd.R_below (by exact HO_3.out) hb);replace HB:=Za (Zq (by exact HB.out) hb);(try clear hb);(try clear hb2);(try clear hk);(try clear hi);have p10:0≤(x4_1:Int):=Zd (by with_reducible assumption);have q10:(x4_1:Int)<((x3_1.length:Int):Int):=Zd (by with_reducible assumption);obtain⟨go10,co10,eo10,gb10,gl10,cl10,HG10⟩:=Kd.R_form HO_3.out (by omega);(first|cases eo10|(injection eo10 with ea_ en_ ec_;(first|subst ea_|(injection ea_ with ea_;subst ea_));subst ec_;clear en_));have GB10:=Za gb10;have GG10:=Za HG10;clear gb10 gl10 HG10;obtain⟨ce10,hcl10,hM10,hcc10,hfr10⟩:=Kd.R_elem HO_3.out z82 (x4_1:Int) p10 q10;obtain rfl:=ZbM hM10;have hx10_0:w11.cell? ⟨go10,(x4_1:Int).toNat * 5,none⟩=some (.int .i64 ((Zu x3_1 x4_1).f0)):=hcc10 0 _ rfl;have hx10_1:w11.cell? ⟨go10,(x4_1:Int).toNat * 5+1,none⟩=some (.int .i64 ((Zu x3_1 x4_1).f1)):=hcc10 1 _ rfl;have hx10_2:w11.cell? ⟨go10,(x4_1:Int).toNat * 5+2,none⟩=some (.int .i64 ((Zu x3_1 x4_1).f2)):=hcc10 2 _ rfl;have hx10_3:w11.cell? ⟨go10,(x4_1:Int).toNat * 5+3,none⟩=some (.int .i64 ((Zu x3_1 x4_1).f3)):=hcc10 3 _ rfl;have hx10_4:w11.cell? ⟨go10,(x4_1:Int).toNat * 5+4,none⟩=some (.bool ((Zu x3_1 x4_1).f4)):=hcc10 4 _ rfl;have hf10_0:w11.frozen? ⟨go10,(x4_1:Int).toNat * 5,none⟩=false:=hfr10 0;have hf10_1:w11.frozen? ⟨go10,(x4_1:Int).toNat * 5+1,none⟩=false:=hfr10 1;have hf10_2:w11.frozen? ⟨go10,(x4_1:Int).toNat * 5+2,none⟩=false:=hfr10 2;have hf10_3:w11.frozen? ⟨go10,(x4_1:Int).toNat * 5+3,none⟩=false:=hfr10 3;have hf10_4:w11.frozen? ⟨go10,(x4_1:Int).toNat * 5+4,none⟩=false:=hfr10 4;clear hcl10 hcc10 hfr10 hM10;replace p10:=eq_true p10;replace q10:=eq_true q10;have HX12:=Za (show Kd.R k82 82 w11 w.heap.size (fun _=>True) (.slice (some ⟨go10,0,none⟩) x3_1.length co10) x3_1 from(by exact HO_3.out));obtain⟨ce12,hcl12,hM12,hcc12,hfr12⟩:=Kd.R_elem HX12.out z82 (x4_1:Int) (Zd (by with_reducible assumption)) (by have h_:(x4_1:Int)<((x3_1.length:Int):Int):=Zd (by with_reducible assumption);first|exact h_|(have e_:=(Kd.R_reads' HO_3.out).1;omega)|simpa using h_);obtain rfl:=ZbM hM12;have HP12:=Kd.R_seg HX12.out (x4_1:Int) (Zd (by with_reducible assumption)) (by have h_:(x4_1:Int)<((x3_1.length:Int):Int):=Zd (by with_reducible assumption);first|exact h_|(have e_:=(Kd.R_reads' HO_3.out).1;omega)|simpa using h_) (seg:=[.int .i64 t5,.int .i64 t6,.int .i64 t7,.int .i64 t8,.bool t9]) (j:=0) hcl12 hcc12 (show 5≤5 from by decide) (x':=(⟨t5,t6,t7,t8,t9⟩:S82)) (Zdr _ _ _ (⟨t5,t6,t7,t8,t9⟩:S82) ) (fun _ hk=>hk);have hx12_0:=hcc12 0 _ rfl;(try simp only[show(k82).sz=5 from rfl,Nat.mul_one,Nat.add_zero] at hx12_0);have hf12_0:=hfr12 0;(try simp only[show(k82).sz=5 from rfl,Nat.mul_one,Nat.add_zero] at hf12_0);have hx12_1:=hcc12 1 _ rfl;(try simp only[show(k82).sz=5 from rfl,Nat.mul_one,Nat.add_zero] at hx12_1);have hf12_1:=hfr12 1;(try simp only[show(k82).sz=5 from rfl,Nat.mul_one,Nat.add_zero] at hf12_1);have hx12_2:=hcc12 2 _ rfl;(try simp only[show(k82).sz=5 from rfl,Nat.mul_one,Nat.add_zero] at hx12_2);have hf12_2:=hfr12 2;(try simp only[show(k82).sz=5 from rfl,Nat.mul_one,Nat.add_zero] at hf12_2);have hx12_3:=hcc12 3 _ rfl;(try simp only[show(k82).sz=5 from rfl,Nat.mul_one,Nat.add_zero] at hx12_3);have hf12_3:=hfr12 3;(try simp only[show(k82).sz=5 from rfl,Nat.mul_one,Nat.add_zero] at hf12_3);have hx12_4:=hcc12 4 _ rfl;(try simp only[show(k82).sz=5 from rfl,Nat.mul_one,Nat.add_zero] at hx12_4);have hf12_4:=hfr12 4;(try simp only[show(k82).sz=5 from rfl,Nat.mul_one,Nat.add_zero] at hf12_4);clear hcl12 hcc12 hfr12 hM12)|((with_reducible refine ZbY (t:=82) (p:=21) rfl ?_);refine ZbD (t:=82) (p:=21) (v:=?vo_w13) (w1:=(((((w11.setCell ⟨go10,(x4_1:Int).toNat * 5,none⟩ (.int .i64 t5)).setCell ⟨go10,(x4_1:Int).toNat * 5+1,none⟩ (.int .i64 t6)).setCell ⟨go10,(x4_1:Int).toNat * 5+2,none⟩ (.int .i64 t7)).setCell ⟨go10,(x4_1:Int).toNat * 5+3,none⟩ (.int .i64 t8)).setCell ⟨go10,(x4_1:Int).toNat * 5+4,none⟩ (.bool t9))) ?hg ?ho ?hn ?hr ?_;(case ho=>rfl);(case hg=>rfl);(case hn=>rfl);(case hr=>first|(go_simp;done)|(go_simp;rfl));intro w13 hw;have hg:w11.grownBy w13 (some go10):=(by rw[hw];exact HP12.2);have hp_:Kd.R k82 82 w13 w.heap.size (fun _=>True) (.slice (some ⟨go10,0,none⟩) x3_1.length co10) y10:=(by rw[hw,Ny10.out];exact HP12.1);clear HP12;replace HO_3:=Za (hp_);replace HB:=Za ((by rw[hw];exact Zs (Zs (Zs (Zs (Zs (HB.out) GB10.out) GB10.out) GB10.out) GB10.out) GB10.out:Below w.heap.size w w13));clear hg hw hp_))
        go_roundg k1
        case measure=>have:=HK1.out;omega
        case rel=>exact⟨(y10),(wrap64 (x4_1+1)),(by first|rfl|(simp;done)|(simp[*];done)),H',⟨by have:=HK1.out;omega⟩,⟨by(with_reducible repeat(first|apply Kd.R_alloc|apply Kd.R_drewN|apply Kd.R_drew));exact HO_3.out⟩,⟨by repeat(first|(with_reducible first|exact HB.out|apply Zo|apply Zm|apply Zp)|exact HB.out)⟩⟩
       ·rw[if_neg c9] at H
        exact absurd H (by simp)
      ·rw[if_neg c7] at H
       exact absurd H (by simp)
     ·rw[if_neg c6] at H
      have c6b0:decide (x4_1<(l0.length:Int))=false:=Zf c6
      clear c6
      obtain rfl:=Zg H
      go_wp2
      go_ret
      exact⟨_,by first|rfl|(simp[ZB,ZA] <;> rfl)|(simp[*,ZB,ZA] <;> rfl),by(with_reducible repeat(first|apply Kd.R_alloc|apply Kd.R_drewN|apply Kd.R_drew));exact HO_3.out,by repeat(first|(with_reducible first|exact HB.out|apply Zo|apply Zm|apply Zp)|exact HB.out)⟩
  ·rw[if_neg c3] at H
   exact absurd H (by simp)
 ·rw[if_neg c2] at H
  exact absurd H (by simp)
def Za8.f (k:Nat) (l0_0:List (S143)) (l0_1:List (S147)) (a0_2:Int):Option ((List (S39))×(List (S82))×Int):=(ZaE.f k l0_0).bind fun t4=>((ZaQ.f k l0_1).bind fun t7=>(some (t4,t7,a0_2)))
theorem Za8.calls (k:Nat) (A0_0:Option Addr) (c0_0:Nat) (l0_0:List (S143)) (A0_1:Option Addr) (c0_1:Nat) (l0_1:List (S147)) (a0_2:Int) (r1:List (S39)) (r2:List (S82)) (r3:Int) (w:World) (hr0_0:Kd.C k143 w A0_0 l0_0.length l0_0) (hc0_0:l0_0.length≤c0_0) (hr0_1:Kd.C k147 w A0_1 l0_1.length l0_1) (hc0_1:l0_1.length≤c0_1) (h:Za8.f k l0_0 l0_1 a0_2=some (r1,r2,r3)) :
  Calls Tryz.prog 30 #[.agg #[.slice A0_0 l0_0.length c0_0,.slice A0_1 l0_1.length c0_1,.int .i64 a0_2]] w fun e w'=>∃v0_ v1_:Value,e=.returned (.agg #[v0_,v1_,.int .i64 r3])∧Kd.S k39 39 w' w.heap.size (fun _=>True) v0_ r1∧Kd.R k82 82 w' w.heap.size (fun _=>True) v1_ r2∧Below w.heap.size w w':=by
 have hu47:=Tryz.underlying47
 have hu25:=Tryz.underlying25
 have HR0_0:=Za hr0_0;have HC0_0:=Za hc0_0;clear hr0_0 hc0_0;have HR0_1:=Za hr0_1;have HC0_1:=Za hc0_1;clear hr0_1 hc0_1
 have HB:=Za (Below.refl w.heap.size w)
 have H:((ZaE.f k l0_0).bind fun t4=>((ZaQ.f k l0_1).bind fun t7=>(some (t4,t7,a0_2))))=some (r1,r2,r3):=h
 clear h
 replace H:=Zh H
 obtain⟨t4,A20,H⟩:=H;have A2:=Za A20;clear A20
 replace H:=Zh H
 obtain⟨t7,A30,H⟩:=H;have A3:=Za A30;clear A30
 simp only[Option.some.injEq,Prod.mk.injEq] at H
 obtain⟨rfl,rfl,rfl⟩:=H
 go_enter Tryz.func30,Tryz.ntmps30
 go_wp2_with (first|((with_reducible refine ZG (N:=1) rfl ?_);refine ZH ?hg (N:=1) ?hd (cs:=#[.slice A0_0 l0_0.length c0_0,.slice A0_1 l0_1.length c0_1,.int .i64 a0_2]) (t:=47) ?hr ?_;(case hd=>rfl);(case hg=>rfl);(case hr=>first|(go_simp;done)|(go_simp;rfl));intro gb1 hg w4 hbox hb;have BK1:=Za (hbox);have GW1:=Za ((by rw[hg];exact(Zv (by exact HB.out)):w.heap.size≤gb1));have GE1:=Za ((by rw[hg];exact(Zv (by exact HB.out)):w.heap.size≤gb1));replace HB:=Za (Zq (by exact HB.out) hb);clear hb hbox hg)|((with_reducible refine ZG (N:=2) rfl ?_);refine ZH ?hg (N:=2) ?hd (cs:=#[.slice none 0 0,.slice none 0 0,.int .i64 0]) (t:=25) ?hr ?_;(case hd=>rfl);(case hg=>rfl);(case hr=>first|(go_simp;done)|(go_simp;rfl));intro gb2 hg w5 hbox hb;have BK2:=Za (hbox);have GW2:=Za ((by rw[hg];exact(Zv (by exact HB.out)):w.heap.size≤gb2));have GE2:=Za ((by rw[hg];exact(Zv (by exact HB.out)):w.heap.size≤gb2));have NB1_2:=Za ((by rw[hg];exact Nat.ne_of_lt (ZK (g:=gb1) (o:=.cells #[.slice A0_0 l0_0.length c0_0,.slice A0_1 l0_1.length c0_1,.int .i64 a0_2] 47 (0,0)) (by exact BK1.out)):gb1≠gb2));have NB2_1:=Za ((by rw[hg];exact Nat.ne_of_gt (ZK (g:=gb1) (o:=.cells #[.slice A0_0 l0_0.length c0_0,.slice A0_1 l0_1.length c0_1,.int .i64 a0_2] 47 (0,0)) (by exact BK1.out)):gb2≠gb1));replace BK1:=Za (Zw (g:=gb1) (o:=.cells #[.slice A0_0 l0_0.length c0_0,.slice A0_1 l0_1.length c0_1,.int .i64 a0_2] 47 (0,0)) (by exact BK1.out) hb);replace HB:=Za (Zq (by exact HB.out) hb);clear hb hbox hg)|((with_reducible refine ZG (N:=3) rfl ?_);refine ZH ?hg (N:=3) ?hd (cs:=#[.slice none 0 0,.slice none 0 0,.int .i64 0]) (t:=25) ?hr ?_;(case hd=>rfl);(case hg=>rfl);(case hr=>first|(go_simp;done)|(go_simp;rfl));intro gb3 hg w6 hbox hb;have BK3:=Za (hbox);have GW3:=Za ((by rw[hg];exact(Zv (by exact HB.out)):w.heap.size≤gb3));have GE3:=Za ((by rw[hg];exact(Zv (by exact HB.out)):w.heap.size≤gb3));have NB1_3:=Za ((by rw[hg];exact Nat.ne_of_lt (ZK (g:=gb1) (o:=.cells #[.slice A0_0 l0_0.length c0_0,.slice A0_1 l0_1.length c0_1,.int .i64 a0_2] 47 (0,0)) (by exact BK1.out)):gb1≠gb3));have NB3_1:=Za ((by rw[hg];exact Nat.ne_of_gt (ZK (g:=gb1) (o:=.cells #[.slice A0_0 l0_0.length c0_0,.slice A0_1 l0_1.length c0_1,.int .i64 a0_2] 47 (0,0)) (by exact BK1.out)):gb3≠gb1));have NB2_3:=Za ((by rw[hg];exact Nat.ne_of_lt (ZK (g:=gb2) (o:=.cells #[.slice none 0 0,.slice none 0 0,.int .i64 0] 25 (0,0)) (by exact BK2.out)):gb2≠gb3));have NB3_2:=Za ((by rw[hg];exact Nat.ne_of_gt (ZK (g:=gb2) (o:=.cells #[.slice none 0 0,.slice none 0 0,.int .i64 0] 25 (0,0)) (by exact BK2.out)):gb3≠gb2));replace BK1:=Za (Zw (g:=gb1) (o:=.cells #[.slice A0_0 l0_0.length c0_0,.slice A0_1 l0_1.length c0_1,.int .i64 a0_2] 47 (0,0)) (by exact BK1.out) hb);replace BK2:=Za (Zw (g:=gb2) (o:=.cells #[.slice none 0 0,.slice none 0 0,.int .i64 0] 25 (0,0)) (by exact BK2.out) hb);replace HB:=Za (Zq (by exact HB.out) hb);clear hb hbox hg;have hnb7:=NB1_2.out;have hnc7:=NB2_1.out;have hnb8:=NB1_3.out;have hnc8:=NB3_1.out;have hcz9_0:w6.cell? ⟨gb1,0,none⟩=some (.slice A0_0 l0_0.length c0_0):=(Zn BK1.out 0).trans rfl;have hcz9_1:w6.cell? ⟨gb1,1,none⟩=some (.slice A0_1 l0_1.length c0_1):=(Zn BK1.out 1).trans rfl;have hcz9_2:w6.cell? ⟨gb1,2,none⟩=some (.int .i64 a0_2):=(Zn BK1.out 2).trans rfl;have hfz9_0:=Zt BK1.out 0;have hfz9_1:=Zt BK1.out 1;have hfz9_2:=Zt BK1.out 2)|((with_reducible refine ZJ (f:=100) rfl ?_);refine ZY (some 6) rfl rfl Tryz.func100 (by kernel_rfl) rfl #[.slice A0_0 l0_0.length c0_0] rfl (by(try simp only[List.map_toArray,List.map_cons,List.map_nil]);first|done|rfl|(simp only[Zk,Zj];rfl)) ?_;(with_reducible refine(ZaE.calls k _ _ l0_0 t4 _ ?side1 ?side2 A2.out).mono ?_);(case side1=>exact(Zb HR0_0.out HB.out));(case side2=>exact HC0_0.out);rintro e w10 ⟨v5,rfl,ho0,hb⟩;refine⟨_,rfl,?_⟩;have HO6:=Za (Kd.S_lower ho0 (Zv (by exact HB.out)));replace BK1:=Za (Zw (g:=gb1) (o:=.cells #[.slice A0_0 l0_0.length c0_0,.slice A0_1 l0_1.length c0_1,.int .i64 a0_2] 47 (0,0)) (by exact BK1.out) hb);replace BK2:=Za (Zw (g:=gb2) (o:=.cells #[.slice none 0 0,.slice none 0 0,.int .i64 0] 25 (0,0)) (by exact BK2.out) hb);replace BK3:=Za (Zw (g:=gb3) (o:=.cells #[.slice none 0 0,.slice none 0 0,.int .i64 0] 25 (0,0)) (by exact BK3.out) hb);replace HB:=Za (Zq (by exact HB.out) hb);obtain⟨Ao11,co11,eo11⟩:=Kd.S_slice HO6.out;subst eo11;have hnb12:=NB3_2.out;have hnc12:=NB2_3.out;have hcz13_0:w10.cell? ⟨gb3,0,none⟩=some (.slice none 0 0):=(Zn BK3.out 0).trans rfl;have hcz13_1:w10.cell? ⟨gb3,1,none⟩=some (.slice none 0 0):=(Zn BK3.out 1).trans rfl;have hcz13_2:w10.cell? ⟨gb3,2,none⟩=some (.int .i64 0):=(Zn BK3.out 2).trans rfl;have hfz13_0:=Zt BK3.out 0;have hfz13_1:=Zt BK3.out 1;have hfz13_2:=Zt BK3.out 2;have hcz14_0:w10.cell? ⟨gb1,0,none⟩=some (.slice A0_0 l0_0.length c0_0):=(Zn BK1.out 0).trans rfl;have hcz14_1:w10.cell? ⟨gb1,1,none⟩=some (.slice A0_1 l0_1.length c0_1):=(Zn BK1.out 1).trans rfl;have hcz14_2:w10.cell? ⟨gb1,2,none⟩=some (.int .i64 a0_2):=(Zn BK1.out 2).trans rfl;have hfz14_0:=Zt BK1.out 0;have hfz14_1:=Zt BK1.out 1;have hfz14_2:=Zt BK1.out 2)|((with_reducible refine ZJ (f:=101) rfl ?_);refine ZY (some 10) rfl rfl Tryz.func101 (by kernel_rfl) rfl #[.slice A0_1 l0_1.length c0_1] rfl (by(try simp only[List.map_toArray,List.map_cons,List.map_nil]);first|done|rfl|(simp only[Zk,Zj];rfl)) ?_;(with_reducible refine(ZaQ.calls k _ _ l0_1 t7 _ ?side1 ?side2 A3.out).mono ?_);(case side1=>exact Zb HR0_1.out (by repeat(first|(with_reducible first|exact HB.out|apply Zo|apply Zm|apply Zp|refine Zs ?_ GE1.out|refine Zs ?_ GE2.out|refine Zs ?_ GE3.out)|exact HB.out)));(case side2=>exact HC0_1.out);rintro e w15 ⟨v8,rfl,ho0,hb⟩;refine⟨_,rfl,?_⟩;have HO9:=Za (Kd.R_lower ho0 (Zv (by repeat(first|(with_reducible first|exact HB.out|apply Zo|apply Zm|apply Zp|refine Zs ?_ GE1.out|refine Zs ?_ GE2.out|refine Zs ?_ GE3.out)|exact HB.out))));replace HO6:=Za (Kd.S_below (by(with_reducible repeat(first|apply Kd.S_alloc|apply Kd.S_drewN|apply Kd.S_drew));exact(Kd.S_mono (Kd.S_far (p:=⟨gb3,0,none⟩) (Kd.S_types HO6.out BK3.out (by decide)) (fun _ hk=>hk.2) (.slice Ao11 t4.length co11)) (fun _ h_=>h_.1))) hb);replace BK1:=Za (Zw (g:=gb1) (o:=.cells #[.slice A0_0 l0_0.length c0_0,.slice A0_1 l0_1.length c0_1,.int .i64 a0_2] 47 (0,0)) (by(with_reducible repeat(first|refine ZD ?_ _|refine ZE ?_|refine ZC ?_ _));refine ZP ?_ NB1_3.out _;(with_reducible repeat(first|refine ZD ?_ _|refine ZE ?_|refine ZC ?_ _));exact BK1.out) hb);replace BK2:=Za (Zw (g:=gb2) (o:=.cells #[.slice none 0 0,.slice none 0 0,.int .i64 0] 25 (0,0)) (by(with_reducible repeat(first|refine ZD ?_ _|refine ZE ?_|refine ZC ?_ _));refine ZP ?_ NB2_3.out _;(with_reducible repeat(first|refine ZD ?_ _|refine ZE ?_|refine ZC ?_ _));exact BK2.out) hb);replace BK3:=Za (Zw (g:=gb3) (o:=.cells #[.slice Ao11 t4.length co11,.slice none 0 0,.int .i64 0] 25 (0,0)) (by(with_reducible repeat(first|refine ZD ?_ _|refine ZE ?_|refine ZC ?_ _));refine ZW (cs:=#[.slice none 0 0,.slice none 0 0,.int .i64 0]) ?_ 0 _ rfl;(with_reducible repeat(first|refine ZD ?_ _|refine ZE ?_|refine ZC ?_ _));exact BK3.out) hb);replace HB:=Za (Zq (by repeat(first|(with_reducible first|exact HB.out|apply Zo|apply Zm|apply Zp|refine Zs ?_ GE1.out|refine Zs ?_ GE2.out|refine Zs ?_ GE3.out)|exact HB.out)) hb);obtain⟨Ao16,co16,eo16⟩:=Kd.R_slice HO9.out;subst eo16;have hcz17_0:w15.cell? ⟨gb3,0,none⟩=some (.slice Ao11 t4.length co11):=(Zn BK3.out 0).trans rfl;have hcz17_1:w15.cell? ⟨gb3,1,none⟩=some (.slice none 0 0):=(Zn BK3.out 1).trans rfl;have hcz17_2:w15.cell? ⟨gb3,2,none⟩=some (.int .i64 0):=(Zn BK3.out 2).trans rfl;have hfz17_0:=Zt BK3.out 0;have hfz17_1:=Zt BK3.out 1;have hfz17_2:=Zt BK3.out 2;have hcz18_0:w15.cell? ⟨gb1,0,none⟩=some (.slice A0_0 l0_0.length c0_0):=(Zn BK1.out 0).trans rfl;have hcz18_1:w15.cell? ⟨gb1,1,none⟩=some (.slice A0_1 l0_1.length c0_1):=(Zn BK1.out 1).trans rfl;have hcz18_2:w15.cell? ⟨gb1,2,none⟩=some (.int .i64 a0_2):=(Zn BK1.out 2).trans rfl;have hfz18_0:=Zt BK1.out 0;have hfz18_1:=Zt BK1.out 1;have hfz18_2:=Zt BK1.out 2;have hcz19_0:w15.cell? ⟨gb2,0,none⟩=some (.slice none 0 0):=(Zn BK2.out 0).trans rfl;have hcz19_1:w15.cell? ⟨gb2,1,none⟩=some (.slice none 0 0):=(Zn BK2.out 1).trans rfl;have hcz19_2:w15.cell? ⟨gb2,2,none⟩=some (.int .i64 0):=(Zn BK2.out 2).trans rfl;have hfz19_0:=Zt BK2.out 0;have hfz19_1:=Zt BK2.out 1;have hfz19_2:=Zt BK2.out 2))
 refine bodyPost_ret (results_cell_row rfl _ _ gb2 25 #[.slice Ao11 t4.length co11,.slice Ao16 t7.length co16,.int .i64 a0_2] (0,0) _ rfl (by(with_reducible repeat(first|refine ZD ?_ _|refine ZE ?_|refine ZC ?_ _));refine ZW (cs:=#[.slice Ao11 t4.length co11,.slice Ao16 t7.length co16,.int .i64 0]) ?_ 2 _ rfl;(with_reducible repeat(first|refine ZD ?_ _|refine ZE ?_|refine ZC ?_ _));refine ZW (cs:=#[.slice Ao11 t4.length co11,.slice none 0 0,.int .i64 0]) ?_ 1 _ rfl;(with_reducible repeat(first|refine ZD ?_ _|refine ZE ?_|refine ZC ?_ _));refine ZW (cs:=#[.slice none 0 0,.slice none 0 0,.int .i64 0]) ?_ 0 _ rfl;(with_reducible repeat(first|refine ZD ?_ _|refine ZE ?_|refine ZC ?_ _));refine ZP ?_ NB2_3.out _;(with_reducible repeat(first|refine ZD ?_ _|refine ZE ?_|refine ZC ?_ _));refine ZP ?_ NB2_3.out _;(with_reducible repeat(first|refine ZD ?_ _|refine ZE ?_|refine ZC ?_ _));exact BK2.out) Tryz.underlying25 rfl (by kernel_rfl)) rfl ?_
 exact⟨_,_,by first|rfl|(simp[ZB,ZA] <;> rfl)|(simp[*,ZB,ZA] <;> rfl),by(with_reducible repeat(first|apply Kd.S_alloc|apply Kd.S_drewN|apply Kd.S_drew));exact Kd.S_mono (Kd.S_far (p:=⟨gb2,2,none⟩) (Kd.S_far (p:=⟨gb2,1,none⟩) (Kd.S_far (p:=⟨gb2,0,none⟩) (Kd.S_far (p:=⟨gb3,2,none⟩) (Kd.S_far (p:=⟨gb3,1,none⟩) (Kd.S_types (Kd.S_types HO6.out BK3.out (by decide)) BK2.out (by decide)) (fun _ hk=>hk.1.2) (.slice Ao16 t7.length co16)) (fun _ hk=>hk.1.2) (.int .i64 a0_2)) (fun _ hk=>hk.2) (.slice Ao11 t4.length co11)) (fun _ hk=>hk.2) (.slice Ao16 t7.length co16)) (fun _ hk=>hk.2) (.int .i64 a0_2)) (fun _ hk=>trivial),by(with_reducible repeat(first|apply Kd.R_alloc|apply Kd.R_drewN|apply Kd.R_drew));exact Kd.R_mono (Kd.R_far (p:=⟨gb2,2,none⟩) (Kd.R_far (p:=⟨gb2,1,none⟩) (Kd.R_far (p:=⟨gb2,0,none⟩) (Kd.R_far (p:=⟨gb3,2,none⟩) (Kd.R_far (p:=⟨gb3,1,none⟩) (Kd.R_types (Kd.R_types HO9.out BK3.out (by decide)) BK2.out (by decide)) (fun _ hk=>hk.1.2) (.slice Ao16 t7.length co16)) (fun _ hk=>hk.1.2) (.int .i64 a0_2)) (fun _ hk=>hk.2) (.slice Ao11 t4.length co11)) (fun _ hk=>hk.2) (.slice Ao16 t7.length co16)) (fun _ hk=>hk.2) (.int .i64 a0_2)) (fun _ hk=>trivial),by repeat(first|(with_reducible first|exact HB.out|apply Zo|apply Zm|apply Zp|refine Zs ?_ GE1.out|refine Zs ?_ GE2.out|refine Zs ?_ GE3.out)|exact HB.out)⟩
theorem Za8.c (k:Nat) (A0_0:Option Addr) (c0_0:Nat) (l0_0:List (S143)) (A0_1:Option Addr) (c0_1:Nat) (l0_1:List (S147)) (a0_2:Int) (r1:List (S39)) (r2:List (S82)) (r3:Int) (w:World) (hr0_0:Kd.C k143 w A0_0 l0_0.length l0_0) (hc0_0:l0_0.length≤c0_0) (hr0_1:Kd.C k147 w A0_1 l0_1.length l0_1) (hc0_1:l0_1.length≤c0_1) (h:Za8.f k l0_0 l0_1 a0_2=some (r1,r2,r3)) :
  Calls Tryz.prog 30 #[.agg #[.slice A0_0 l0_0.length c0_0,.slice A0_1 l0_1.length c0_1,.int .i64 a0_2]] w fun e w'=>∃A0_ c0_ A1_ c1_,e=.returned (.agg #[.slice A0_ r1.length c0_,.slice A1_ r2.length c1_,.int .i64 r3])∧Aside0 (r1.length≤c0_∧Kd.C k39 w' A0_ r1.length r1)∧Aside0 (r2.length≤c1_∧Kd.C k82 w' A1_ r2.length r2)∧Below w.heap.size w w':=
 (Za8.calls k A0_0 c0_0 l0_0 A0_1 c0_1 l0_1 a0_2 r1 r2 r3 w hr0_0 hc0_0 hr0_1 hc0_1 h).mono fun e w' ⟨v0_,v1_,he,q0_,q1_,hb⟩=>by
  obtain⟨A0_,c0_,rfl,g0_⟩:=Kd.S_reads q0_
  obtain⟨A1_,c1_,rfl,g1_⟩:=Kd.R_reads q1_
  exact⟨A0_,c0_,A1_,c1_,he,⟨g0_⟩,⟨g1_⟩,hb⟩
def ZaV.f (k:Nat) (l0_0:List Int) (l0_1:List Int):Option (List Int×List Int):=(Zaj.f k l0_0).bind fun t4=>((Zaj.f k l0_1).bind fun t7=>(some (t4,t7)))
theorem ZaV.calls (k:Nat) (A0_0:Option Addr) (c0_0:Nat) (l0_0:List Int) (A0_1:Option Addr) (c0_1:Nat) (l0_1:List Int) (r1:List Int) (r2:List Int) (w:World) (hr0_0:Kd.C (Kd.int .i64) w A0_0 l0_0.length l0_0) (hc0_0:l0_0.length≤c0_0) (hr0_1:Kd.C (Kd.int .i64) w A0_1 l0_1.length l0_1) (hc0_1:l0_1.length≤c0_1) (h:ZaV.f k l0_0 l0_1=some (r1,r2)) :
  Calls Tryz.prog 31 #[.agg #[.slice A0_0 l0_0.length c0_0,.slice A0_1 l0_1.length c0_1]] w fun e w'=>∃v0_ v1_:Value,e=.returned (.agg #[v0_,v1_])∧Kd.R (Kd.int .i64) 3 w' w.heap.size (fun k_=>some k_≠(v1_:Value).ownBlock) v0_ r1∧Kd.R (Kd.int .i64) 3 w' w.heap.size (fun k_=>some k_≠(v0_:Value).ownBlock) v1_ r2∧Below w.heap.size w w':=by
 have hu49:=Tryz.underlying49
 have hu58:=Tryz.underlying58
 have HR0_0:=Za hr0_0;have HC0_0:=Za hc0_0;clear hr0_0 hc0_0;have HR0_1:=Za hr0_1;have HC0_1:=Za hc0_1;clear hr0_1 hc0_1
 have HB:=Za (Below.refl w.heap.size w)
 have H:((Zaj.f k l0_0).bind fun t4=>((Zaj.f k l0_1).bind fun t7=>(some (t4,t7))))=some (r1,r2):=h
 clear h
 replace H:=Zh H
 obtain⟨t4,A20,H⟩:=H;have A2:=Za A20;clear A20
 replace H:=Zh H
 obtain⟨t7,A30,H⟩:=H;have A3:=Za A30;clear A30
 simp only[Option.some.injEq,Prod.mk.injEq] at H
 obtain⟨rfl,rfl⟩:=H
 go_enter Tryz.func31,Tryz.ntmps31
 go_wp2_with (first|((with_reducible refine ZG (N:=1) rfl ?_);refine ZH ?hg (N:=1) ?hd (cs:=#[.slice A0_0 l0_0.length c0_0,.slice A0_1 l0_1.length c0_1]) (t:=49) ?hr ?_;(case hd=>rfl);(case hg=>rfl);(case hr=>first|(go_simp;done)|(go_simp;rfl));intro gb1 hg w4 hbox hb;have BK1:=Za (hbox);have GW1:=Za ((by rw[hg];exact(Zv (by exact HB.out)):w.heap.size≤gb1));have GE1:=Za ((by rw[hg];exact(Zv (by exact HB.out)):w.heap.size≤gb1));replace HB:=Za (Zq (by exact HB.out) hb);clear hb hbox hg)|((with_reducible refine ZG (N:=2) rfl ?_);refine ZH ?hg (N:=2) ?hd (cs:=#[.slice none 0 0,.slice none 0 0]) (t:=58) ?hr ?_;(case hd=>rfl);(case hg=>rfl);(case hr=>first|(go_simp;done)|(go_simp;rfl));intro gb2 hg w5 hbox hb;have BK2:=Za (hbox);have GW2:=Za ((by rw[hg];exact(Zv (by exact HB.out)):w.heap.size≤gb2));have GE2:=Za ((by rw[hg];exact(Zv (by exact HB.out)):w.heap.size≤gb2));have NB1_2:=Za ((by rw[hg];exact Nat.ne_of_lt (ZK (g:=gb1) (o:=.cells #[.slice A0_0 l0_0.length c0_0,.slice A0_1 l0_1.length c0_1] 49 (0,0)) (by exact BK1.out)):gb1≠gb2));have NB2_1:=Za ((by rw[hg];exact Nat.ne_of_gt (ZK (g:=gb1) (o:=.cells #[.slice A0_0 l0_0.length c0_0,.slice A0_1 l0_1.length c0_1] 49 (0,0)) (by exact BK1.out)):gb2≠gb1));replace BK1:=Za (Zw (g:=gb1) (o:=.cells #[.slice A0_0 l0_0.length c0_0,.slice A0_1 l0_1.length c0_1] 49 (0,0)) (by exact BK1.out) hb);replace HB:=Za (Zq (by exact HB.out) hb);clear hb hbox hg)|((with_reducible refine ZG (N:=3) rfl ?_);refine ZH ?hg (N:=3) ?hd (cs:=#[.slice none 0 0,.slice none 0 0]) (t:=58) ?hr ?_;(case hd=>rfl);(case hg=>rfl);(case hr=>first|(go_simp;done)|(go_simp;rfl));intro gb3 hg w6 hbox hb;have BK3:=Za (hbox);have GW3:=Za ((by rw[hg];exact(Zv (by exact HB.out)):w.heap.size≤gb3));have GE3:=Za ((by rw[hg];exact(Zv (by exact HB.out)):w.heap.size≤gb3));have NB1_3:=Za ((by rw[hg];exact Nat.ne_of_lt (ZK (g:=gb1) (o:=.cells #[.slice A0_0 l0_0.length c0_0,.slice A0_1 l0_1.length c0_1] 49 (0,0)) (by exact BK1.out)):gb1≠gb3));have NB3_1:=Za ((by rw[hg];exact Nat.ne_of_gt (ZK (g:=gb1) (o:=.cells #[.slice A0_0 l0_0.length c0_0,.slice A0_1 l0_1.length c0_1] 49 (0,0)) (by exact BK1.out)):gb3≠gb1));have NB2_3:=Za ((by rw[hg];exact Nat.ne_of_lt (ZK (g:=gb2) (o:=.cells #[.slice none 0 0,.slice none 0 0] 58 (0,0)) (by exact BK2.out)):gb2≠gb3));have NB3_2:=Za ((by rw[hg];exact Nat.ne_of_gt (ZK (g:=gb2) (o:=.cells #[.slice none 0 0,.slice none 0 0] 58 (0,0)) (by exact BK2.out)):gb3≠gb2));replace BK1:=Za (Zw (g:=gb1) (o:=.cells #[.slice A0_0 l0_0.length c0_0,.slice A0_1 l0_1.length c0_1] 49 (0,0)) (by exact BK1.out) hb);replace BK2:=Za (Zw (g:=gb2) (o:=.cells #[.slice none 0 0,.slice none 0 0] 58 (0,0)) (by exact BK2.out) hb);replace HB:=Za (Zq (by exact HB.out) hb);clear hb hbox hg;have hnb7:=NB1_2.out;have hnc7:=NB2_1.out;have hnb8:=NB1_3.out;have hnc8:=NB3_1.out;have hcz9_0:w6.cell? ⟨gb1,0,none⟩=some (.slice A0_0 l0_0.length c0_0):=(Zn BK1.out 0).trans rfl;have hcz9_1:w6.cell? ⟨gb1,1,none⟩=some (.slice A0_1 l0_1.length c0_1):=(Zn BK1.out 1).trans rfl;have hfz9_0:=Zt BK1.out 0;have hfz9_1:=Zt BK1.out 1)|((with_reducible refine ZJ (f:=102) rfl ?_);refine ZY (some 6) rfl rfl Tryz.func102 (by kernel_rfl) rfl #[.slice A0_0 l0_0.length c0_0] rfl (by(try simp only[List.map_toArray,List.map_cons,List.map_nil]);first|done|rfl|(simp only[Zk,Zj];rfl)) ?_;(with_reducible refine(Zaj.calls k _ _ l0_0 t4 _ ?side1 ?side2 A2.out).mono ?_);(case side1=>exact(Zb HR0_0.out HB.out));(case side2=>exact HC0_0.out);rintro e w10 ⟨v5,rfl,ho0,hb⟩;refine⟨_,rfl,?_⟩;have HO6:=Za (Kd.R_lower ho0 (Zv (by exact HB.out)));replace BK1:=Za (Zw (g:=gb1) (o:=.cells #[.slice A0_0 l0_0.length c0_0,.slice A0_1 l0_1.length c0_1] 49 (0,0)) (by exact BK1.out) hb);replace BK2:=Za (Zw (g:=gb2) (o:=.cells #[.slice none 0 0,.slice none 0 0] 58 (0,0)) (by exact BK2.out) hb);replace BK3:=Za (Zw (g:=gb3) (o:=.cells #[.slice none 0 0,.slice none 0 0] 58 (0,0)) (by exact BK3.out) hb);replace HB:=Za (Zq (by exact HB.out) hb);obtain⟨Ao11,co11,eo11⟩:=Kd.R_slice HO6.out;subst eo11;have hnb12:=NB3_2.out;have hnc12:=NB2_3.out;have hcz13_0:w10.cell? ⟨gb3,0,none⟩=some (.slice none 0 0):=(Zn BK3.out 0).trans rfl;have hcz13_1:w10.cell? ⟨gb3,1,none⟩=some (.slice none 0 0):=(Zn BK3.out 1).trans rfl;have hfz13_0:=Zt BK3.out 0;have hfz13_1:=Zt BK3.out 1;have hcz14_0:w10.cell? ⟨gb1,0,none⟩=some (.slice A0_0 l0_0.length c0_0):=(Zn BK1.out 0).trans rfl;have hcz14_1:w10.cell? ⟨gb1,1,none⟩=some (.slice A0_1 l0_1.length c0_1):=(Zn BK1.out 1).trans rfl;have hfz14_0:=Zt BK1.out 0;have hfz14_1:=Zt BK1.out 1)|((with_reducible refine ZJ (f:=102) rfl ?_);refine ZY (some 10) rfl rfl Tryz.func102 (by kernel_rfl) rfl #[.slice A0_1 l0_1.length c0_1] rfl (by(try simp only[List.map_toArray,List.map_cons,List.map_nil]);first|done|rfl|(simp only[Zk,Zj];rfl)) ?_;(with_reducible refine(Zaj.calls k _ _ l0_1 t7 _ ?side1 ?side2 A3.out).mono ?_);(case side1=>exact Zb HR0_1.out (by repeat(first|(with_reducible first|exact HB.out|apply Zo|apply Zm|apply Zp|refine Zs ?_ GE1.out|refine Zs ?_ GE2.out|refine Zs ?_ GE3.out)|exact HB.out)));(case side2=>exact HC0_1.out);rintro e w15 ⟨v8,rfl,ho0,hb⟩;refine⟨_,rfl,?_⟩;have HO9:=Za (Kd.R_lower (Kd.R_new' ho0 (Kd.R_lt (by(with_reducible repeat(first|apply Kd.R_alloc|apply Kd.R_drewN|apply Kd.R_drew));exact(Kd.R_mono (Kd.R_far (p:=⟨gb3,0,none⟩) (Kd.R_types HO6.out BK3.out (by decide)) (fun _ hk=>hk.2) (.slice Ao11 t4.length co11)) (fun _ h_=>h_.1))))) (Zv (by repeat(first|(with_reducible first|exact HB.out|apply Zo|apply Zm|apply Zp|refine Zs ?_ GE1.out|refine Zs ?_ GE2.out|refine Zs ?_ GE3.out)|exact HB.out))));replace HO6:=Za (Kd.R_elder' (by(with_reducible repeat(first|apply Kd.R_alloc|apply Kd.R_drewN|apply Kd.R_drew));exact(Kd.R_mono (Kd.R_far (p:=⟨gb3,0,none⟩) (Kd.R_types HO6.out BK3.out (by decide)) (fun _ hk=>hk.2) (.slice Ao11 t4.length co11)) (fun _ h_=>h_.1))) (Kd.R_base ho0) hb);replace BK1:=Za (Zw (g:=gb1) (o:=.cells #[.slice A0_0 l0_0.length c0_0,.slice A0_1 l0_1.length c0_1] 49 (0,0)) (by(with_reducible repeat(first|refine ZD ?_ _|refine ZE ?_|refine ZC ?_ _));refine ZP ?_ NB1_3.out _;(with_reducible repeat(first|refine ZD ?_ _|refine ZE ?_|refine ZC ?_ _));exact BK1.out) hb);replace BK2:=Za (Zw (g:=gb2) (o:=.cells #[.slice none 0 0,.slice none 0 0] 58 (0,0)) (by(with_reducible repeat(first|refine ZD ?_ _|refine ZE ?_|refine ZC ?_ _));refine ZP ?_ NB2_3.out _;(with_reducible repeat(first|refine ZD ?_ _|refine ZE ?_|refine ZC ?_ _));exact BK2.out) hb);replace BK3:=Za (Zw (g:=gb3) (o:=.cells #[.slice Ao11 t4.length co11,.slice none 0 0] 58 (0,0)) (by(with_reducible repeat(first|refine ZD ?_ _|refine ZE ?_|refine ZC ?_ _));refine ZW (cs:=#[.slice none 0 0,.slice none 0 0]) ?_ 0 _ rfl;(with_reducible repeat(first|refine ZD ?_ _|refine ZE ?_|refine ZC ?_ _));exact BK3.out) hb);replace HB:=Za (Zq (by repeat(first|(with_reducible first|exact HB.out|apply Zo|apply Zm|apply Zp|refine Zs ?_ GE1.out|refine Zs ?_ GE2.out|refine Zs ?_ GE3.out)|exact HB.out)) hb);obtain⟨Ao16,co16,eo16⟩:=Kd.R_slice HO9.out;subst eo16;have hcz17_0:w15.cell? ⟨gb3,0,none⟩=some (.slice Ao11 t4.length co11):=(Zn BK3.out 0).trans rfl;have hcz17_1:w15.cell? ⟨gb3,1,none⟩=some (.slice none 0 0):=(Zn BK3.out 1).trans rfl;have hfz17_0:=Zt BK3.out 0;have hfz17_1:=Zt BK3.out 1;have hcz18_0:w15.cell? ⟨gb2,0,none⟩=some (.slice none 0 0):=(Zn BK2.out 0).trans rfl;have hcz18_1:w15.cell? ⟨gb2,1,none⟩=some (.slice none 0 0):=(Zn BK2.out 1).trans rfl;have hfz18_0:=Zt BK2.out 0;have hfz18_1:=Zt BK2.out 1))
 refine bodyPost_ret (results_cell_row rfl _ _ gb2 58 #[.slice Ao11 t4.length co11,.slice Ao16 t7.length co16] (0,0) _ rfl (by(with_reducible repeat(first|refine ZD ?_ _|refine ZE ?_|refine ZC ?_ _));refine ZW (cs:=#[.slice Ao11 t4.length co11,.slice none 0 0]) ?_ 1 _ rfl;(with_reducible repeat(first|refine ZD ?_ _|refine ZE ?_|refine ZC ?_ _));refine ZW (cs:=#[.slice none 0 0,.slice none 0 0]) ?_ 0 _ rfl;(with_reducible repeat(first|refine ZD ?_ _|refine ZE ?_|refine ZC ?_ _));refine ZP ?_ NB2_3.out _;(with_reducible repeat(first|refine ZD ?_ _|refine ZE ?_|refine ZC ?_ _));exact BK2.out) Tryz.underlying58 rfl (by kernel_rfl)) rfl ?_
 exact⟨_,_,by first|rfl|(simp[ZB,ZA] <;> rfl)|(simp[*,ZB,ZA] <;> rfl),by(with_reducible repeat(first|apply Kd.R_alloc|apply Kd.R_drewN|apply Kd.R_drew));exact Kd.R_mono (Kd.R_far (p:=⟨gb2,1,none⟩) (Kd.R_far (p:=⟨gb2,0,none⟩) (Kd.R_far (p:=⟨gb3,1,none⟩) (Kd.R_types (Kd.R_types HO6.out BK3.out (by decide)) BK2.out (by decide)) (fun _ hk=>hk.1.2) (.slice Ao16 t7.length co16)) (fun _ hk=>hk.2) (.slice Ao11 t4.length co11)) (fun _ hk=>hk.2) (.slice Ao16 t7.length co16)) (fun _ hk=>hk.1.1.2),by(with_reducible repeat(first|apply Kd.R_alloc|apply Kd.R_drewN|apply Kd.R_drew));exact Kd.R_mono (Kd.R_far (p:=⟨gb2,1,none⟩) (Kd.R_far (p:=⟨gb2,0,none⟩) (Kd.R_far (p:=⟨gb3,1,none⟩) (Kd.R_types (Kd.R_types HO9.out BK3.out (by decide)) BK2.out (by decide)) (fun _ hk=>hk.1.2) (.slice Ao16 t7.length co16)) (fun _ hk=>hk.2) (.slice Ao11 t4.length co11)) (fun _ hk=>hk.2) (.slice Ao16 t7.length co16)) (fun _ hk=>hk.1.1.2),by repeat(first|(with_reducible first|exact HB.out|apply Zo|apply Zm|apply Zp|refine Zs ?_ GE1.out|refine Zs ?_ GE2.out|refine Zs ?_ GE3.out)|exact HB.out)⟩
theorem ZaV.c (k:Nat) (A0_0:Option Addr) (c0_0:Nat) (l0_0:List Int) (A0_1:Option Addr) (c0_1:Nat) (l0_1:List Int) (r1:List Int) (r2:List Int) (w:World) (hr0_0:Kd.C (Kd.int .i64) w A0_0 l0_0.length l0_0) (hc0_0:l0_0.length≤c0_0) (hr0_1:Kd.C (Kd.int .i64) w A0_1 l0_1.length l0_1) (hc0_1:l0_1.length≤c0_1) (h:ZaV.f k l0_0 l0_1=some (r1,r2)) :
  Calls Tryz.prog 31 #[.agg #[.slice A0_0 l0_0.length c0_0,.slice A0_1 l0_1.length c0_1]] w fun e w'=>∃A0_ c0_ A1_ c1_,e=.returned (.agg #[.slice A0_ r1.length c0_,.slice A1_ r2.length c1_])∧Aside0 (r1.length≤c0_∧Kd.C (Kd.int .i64) w' A0_ r1.length r1)∧Aside0 (r2.length≤c1_∧Kd.C (Kd.int .i64) w' A1_ r2.length r2)∧Below w.heap.size w w':=
 (ZaV.calls k A0_0 c0_0 l0_0 A0_1 c0_1 l0_1 r1 r2 w hr0_0 hc0_0 hr0_1 hc0_1 h).mono fun e w' ⟨v0_,v1_,he,q0_,q1_,hb⟩=>by
  obtain⟨A0_,c0_,rfl,g0_⟩:=Kd.R_reads q0_
  obtain⟨A1_,c1_,rfl,g1_⟩:=Kd.R_reads q1_
  exact⟨A0_,c0_,A1_,c1_,he,⟨g0_⟩,⟨g1_⟩,hb⟩
open Ni
def gath {α:Type} (d:α) (S:List α) (I:List Int):Option (List α):=if I.length≤1048576∧(I.all fun x=>decide (0≤x) && decide (x<S.length))=true then some (I.map fun x=>S.getD x.toNat d) else none
theorem Zee {α:Type} {d:α} {S:List α} {I:List Int} {r:List α} (h:gath d S I=some r):I.length≤1048576∧(∀x∈I,0≤x∧x<S.length)∧(I.drop 0).map (fun x=>S.getD x.toNat d)=r:=by
 unfold gath at h
 split at h
 ·rename_i hc
  refine⟨hc.1,fun x hx=>?_,Zg h⟩
  have:=List.all_eq_true.1 hc.2 x hx
  simpa using this
 ·cases h
theorem Ze7 {α:Type} (d:α) {S:List α} {I:List Int} (h1:I.length≤1048576) (h2:∀x∈I,0≤x∧x<S.length):gath d S I=some (I.map fun x=>S.getD x.toNat d):=by
 unfold gath
 rw[if_pos ⟨h1,List.all_eq_true.2 fun x hx=>by simpa using h2 x hx⟩]
structure Gat {α:Type} (kd:Kd α) (e:Nat) (w W:World) (uS uI uO:Value) (S:List α) (I:List Int) (O:List α):Prop where
 rs:kd.R e W w.heap.size (fun k=>some k≠uO.ownBlock) uS S
 ri:Kd.R (Kd.int .i64) 3 W w.heap.size (fun k=>some k≠uO.ownBlock) uI I
 ro:kd.R e W w.heap.size (fun k=>some k≠uS.ownBlock∧some k≠uI.ownBlock) uO O
 hb:Below w.heap.size w W
section
variable {α:Type} {kd:Kd α} {e:Nat} {w W w1:World} {uS uI uO v1:Value} {S:List α} {I:List Int} {O O1:List α}
theorem Gat.nil {b b':Nat} (hs:kd.R e W b (fun _=>True) uS S) (hi:Kd.R (Kd.int .i64) 3 W b' (fun _=>True) uI I) (h1:w.heap.size≤b) (h2:w.heap.size≤b') (hb:Below w.heap.size w W):Gat kd e w W uS uI (.slice none 0 0) S I []:=
 ⟨Kd.R_mono (Kd.R_lower hs h1) (fun _ _=>by simp[Value.ownBlock]),Kd.R_mono (Kd.R_lower hi h2) (fun _ _=>by simp[Value.ownBlock]),Kd.R_nil _ _ _ _ _,hb⟩
theorem Gat.lit {m n:Nat} (hE:kd.E=[]) (hs:kd.R e W w.heap.size (fun _=>True) uS S) (hi:Kd.R (Kd.int .i64) 3 W n (fun _=>True) uI I) (ho:kd.R e W m (fun _=>True) uO O) (hs2:∀k,uS.ownBlock=some k→k<m) (ho2:∀k,uO.ownBlock=some k→k<n) (hm:w.heap.size≤m) (hn:w.heap.size≤n) (hb:Below w.heap.size w W):Gat kd e w W uS uI uO S I O:=by
 have bo:∀k,uO.ownBlock=some k→m≤k:=(Kd.R_bound ho).1 |> fun h k hk=>(h k hk).2.1
 have bi:∀k,uI.ownBlock=some k→n≤k:=(Kd.R_bound hi).1 |> fun h k hk=>(h k hk).2.1
 exact⟨Kd.R_reok hE hs (fun k hk q=>by have:=hs2 k hk;have:=bo k q.symm;omega),Kd.R_reok rfl (Kd.R_lower hi hn) (fun k hk q=>by have:=bi k hk;have:=ho2 k q.symm;omega),Kd.R_reok hE (Kd.R_lower ho hm) (fun k hk=>⟨fun q=>by have:=bo k hk;have:=hs2 k q.symm;omega,fun q=>by have:=ho2 k hk;have:=bi k q.symm;omega⟩),hb⟩
theorem Gat.grow (h:Gat kd e w W uS uI uO S I O) (ho:kd.R e w1 w.heap.size (fun k=>some k≠uS.ownBlock∧some k≠uI.ownBlock) v1 O1) (hb:Below w.heap.size w w1) (hg:W.grownBy w1 uO.ownBlock) (hat:v1.ownBlock=uO.ownBlock∨∃b,v1.ownBlock=some b∧W.heap.size≤b):Gat kd e w w1 uS uI v1 S I O1:=
 ⟨Kd.R_mono (Kd.R_after (ok:=fun _=>True) (Kd.R_mono h.rs (fun _ hk=>⟨trivial,hk⟩)) hg hat) (fun _ hk=>hk.2),Kd.R_mono (Kd.R_after (ok:=fun _=>True) (Kd.R_mono h.ri (fun _ hk=>⟨trivial,hk⟩)) hg hat) (fun _ hk=>hk.2),ho,hb⟩
end
def run {α:Type} (step:Nat→α→Option α):Nat→Nat→α→Option α
 | 0,_,a=>some a
 | d+1,i,a=>(step i a).bind (run step d (i+1))
theorem Zby {α β:Type} {step:Nat→α→Option α} {n i:Nat} {a:α} {F:α→Option β} {r:β} (hi:i<n) (h:(run step (n - i) i a).bind F=some r):∃a',step i a=some a'∧(run step (n - (i+1)) (i+1) a').bind F=some r:=by
 rw[show n - i=(n - (i+1))+1 by omega,run,Option.bind_assoc] at h
 exact Option.bind_eq_some_iff.1 h
theorem ZbT {α β:Type} {step:Nat→α→Option α} {n:Nat} {a:α} {F:α→Option β} {r:β} (h:(run step (n - n) n a).bind F=some r):F a=some r:=by
 rw[Nat.sub_self] at h
 exact h
mutual
def ZQ.l0:Nat→Int→ByteArray→Option (ByteArray)
 | 0,_,_=>none
 | k+1,x0,x3=>if x0 > 9 then((some (([(wrap64 (48+(Int.tmod x0 10))) % 256]:List Int):List Int)).bind fun y8=>(if (strOfNums y8).size+x3.size≤9223372036854775807 then(ZQ.l0 k (wrap64 (Int.tdiv x0 10)) ((strOfNums y8) ++ x3)) else(none))) else((some (([(wrap64 (48+x0)) % 256]:List Int):List Int)).bind fun y11=>(if (strOfNums y11).size+x3.size≤9223372036854775807 then(some ((strOfNums y11) ++ x3)) else(none)))
def ZQ.f:Nat→Int→Option (ByteArray)
 | 0,_=>none
 | k+1,a0=>if a0<0 then(if (wrap64 (Int.tdiv a0 10))=0 then((some (([(wrap64 (48 - a0)) % 256]:List Int):List Int)).bind fun y1=>(if 1+(strOfNums y1).size≤9223372036854775807 then(some ((⟨#[45]⟩:ByteArray) ++ (strOfNums y1))) else(none))) else((ZQ.f k (wrap64 (Int.tdiv a0 10))).bind fun t4=>((some (([(wrap64 (48 - (Int.tmod a0 10))) % 256]:List Int):List Int)).bind fun y5=>(if t4.size+(strOfNums y5).size≤9223372036854775807 then(some (t4 ++ (strOfNums y5))) else(none))))) else(ZQ.l0 k a0 (⟨#[]⟩:ByteArray))
end
def ZQ.T4:Bool×List (List Nat×List Nat):=(true,[([],[]),([0],[0]),([1],[1]),([],[]),([3],[3]),([4],[4]),([5],[5]),([6],[6]),([7],[7]),([2,8],[2,8]),([9,2,0,1,2,3,4,5,6,7,8,9],[9])])
def ZQ.B4:List Nat:=[0,1,3,0,8,24,56,120,248,511,1023]
theorem ZQ.tab4:rtab .any (opsOf Tryz.f123 4)=ZQ.T4:=by kernel_rfl
theorem ZQ.bits4:ZdL ZQ.T4.2 ZQ.B4=true:=by kernel_rfl
theorem ZQ.calls (k:Nat):∀(a0:Int) (r:ByteArray) (w:World) (h:ZQ.f k a0=some r),
  Calls Tryz.prog 123 #[.int .i64 a0] w fun e w'=>e=.returned (.string r)∧Below w.heap.size w w':=by
 induction k using Nat.strongRecOn with
 | _ k ih=>
 intro a0 r w h
 cases k with
 | zero=>exact absurd h (by simp[ZQ.f])
 | succ k=>
 simp only[ZQ.f] at h
 have HB:=Za (Below.refl w.heap.size w)
 have H:(if a0<0 then(if (wrap64 (Int.tdiv a0 10))=0 then((some (([(wrap64 (48 - a0)) % 256]:List Int):List Int)).bind fun y1=>(if 1+(strOfNums y1).size≤9223372036854775807 then(some ((⟨#[45]⟩:ByteArray) ++ (strOfNums y1))) else(none))) else((ZQ.f k (wrap64 (Int.tdiv a0 10))).bind fun t4=>((some (([(wrap64 (48 - (Int.tmod a0 10))) % 256]:List Int):List Int)).bind fun y5=>(if t4.size+(strOfNums y5).size≤9223372036854775807 then(some (t4 ++ (strOfNums y5))) else(none))))) else(ZQ.l0 k a0 (⟨#[]⟩:ByteArray)))=some r:=h
 clear h
 by_cases c2:a0<0
 ·rw[if_pos c2] at H
  have c2b0:decide (a0<0)=true:=Ze c2
  clear c2
  by_cases c3:(wrap64 (Int.tdiv a0 10))=0
  ·rw[if_pos c3] at H
   have c3b0:((wrap64 (Int.tdiv a0 10)) == 0)=true:=beq_iff_eq.mpr c3
   clear c3
   obtain⟨y1,hy1⟩:∃y_:List Int,y_=(([(wrap64 (48 - a0)) % 256]:List Int)):=⟨_,rfl⟩
   replace H:(if 1+(strOfNums y1).size≤9223372036854775807 then(some ((⟨#[45]⟩:ByteArray) ++ (strOfNums y1))) else(none))=some r:=by first|(rw[hy1];with_reducible exact H)|(have H2_:=(Zi _ _).symm.trans H;rw[hy1];with_reducible exact H2_)|(have H2_:=(Zi _ _).symm.trans H;with_reducible exact H2_)|with_reducible exact H|(rw[hy1];exact H)|exact H
   have Ny1:=Za hy1;clear hy1
   by_cases c4:1+(strOfNums y1).size≤9223372036854775807
   ·rw[if_pos c4] at H
    have c4b0:=eq_true c4
    try have c4b2:(9223372036854775807<1+(strOfNums y1).size)=False:=eq_false (Nat.not_lt.2 c4)
    obtain rfl:=Zg H
    go_enter Tryz.func123,Tryz.ntmps123
    go_wp2_with (first|((with_reducible refine ZG (N:=12) rfl ?_);refine Kd.R_lit (Kd.int .u8) _ 5 ?hg (N:=12) ?hd (xs:=([(wrap64 (48 - a0)) % 256]:List Int)) (inner:=[.int .u8 ((wrap64 (48 - a0)) % 256)]) (ok:=fun _=>True) (okp:=fun _=>True) ?hr ?hp (fun _ hk=>hk) trivial (Below.refl _ _) (Nat.le_refl _) (by simp) ?_;(case hd=>rfl);(case hg=>rfl);(case hr=>first|(go_simp;done)|(go_simp;rfl));(case hp=>exact(Reps.one (show Kd.M (Kd.int .u8) _ _ _ ((wrap64 (48 - a0)) % 256) [.int .u8 ((wrap64 (48 - a0)) % 256)] from rfl) (Reps.none _ _)));intro v2 w5 ho6 hb hg_ hnew_;clear hg_ hnew_;(first|rw[← Ny1.out] at ho6|(simp only[Int.reduceToNat] at ho6;rw[← Ny1.out] at ho6));have HO3:=Za (Kd.R_lower ho6 (Zv (by exact HB.out)));replace HB:=Za (Zq (by exact HB.out) hb);clear hb ho6;have hcv7:=ZcJ (P:=Tryz.prog) Tryz.underlying31 Tryz.underlying5 Tryz.underlying9 (Kd.own_of_R HO3.out)))
    go_ret
    exact⟨by first|rfl|(simp[ZB,ZA] <;> rfl)|(simp[*,ZB,ZA] <;> rfl),by repeat(first|(with_reducible first|exact HB.out|apply Zo|apply Zm|apply Zp)|exact HB.out)⟩
   ·rw[if_neg c4] at H
    exact absurd H (by simp)
  ·rw[if_neg c3] at H
   have c3b0:((wrap64 (Int.tdiv a0 10)) == 0)=false:=beq_eq_false_iff_ne.mpr c3
   replace H:=Zh H
   obtain⟨t4,A80,H⟩:=H;have A8:=Za A80;clear A80
   obtain⟨y5,hy5⟩:∃y_:List Int,y_=(([(wrap64 (48 - (Int.tmod a0 10))) % 256]:List Int)):=⟨_,rfl⟩
   replace H:(if t4.size+(strOfNums y5).size≤9223372036854775807 then(some (t4 ++ (strOfNums y5))) else(none))=some r:=by first|(rw[hy5];with_reducible exact H)|(have H2_:=(Zi _ _).symm.trans H;rw[hy5];with_reducible exact H2_)|(have H2_:=(Zi _ _).symm.trans H;with_reducible exact H2_)|with_reducible exact H|(rw[hy5];exact H)|exact H
   have Ny5:=Za hy5;clear hy5
   by_cases c9:t4.size+(strOfNums y5).size≤9223372036854775807
   ·rw[if_pos c9] at H
    have c9b0:=eq_true c9
    try have c9b2:(9223372036854775807<t4.size+(strOfNums y5).size)=False:=eq_false (Nat.not_lt.2 c9)
    obtain rfl:=Zg H
    go_enter Tryz.func123,Tryz.ntmps123
    try go_wp2
    replace HB:=Za (Zp HB.out)
    refine ZbP (n:=11) (S:=fun w'=>True) (ds:=[]) #[false,false,false,false,false,false,false,false,false,false,false] (by kernel_rfl) rfl rfl trivial (fun hHeld=>?_);refine Zdd ZQ.tab4 ZQ.bits4 (fun HT_ HW_=>?_)
    generalize w.drew=w10 at HB hHeld ⊢
    refine pu (N:=some 15) 0 ?_
    refine pu (N:=some 16) 1 ?_
    refine pu (N:=some 18) 3 ?_
    refine pu (N:=some 19) 4 ?_
    refine pu (N:=some 20) 5 ?_
    refine pu (N:=some 21) 6 ?_
    refine join_ (σ:=Value) 2 #[true,true,true,true,true,true,true,true,true,false,false] (fun s_=>[(17,.string t4),(22,s_),(23,.string (strOfNums y5))]) (fun s_ w'=>(Kd.R (Kd.int .u8) 5 w' w.heap.size (fun _=>True) s_ y5)∧(Below w.heap.size w w')) ?_ ?_
    rotate_left
    ·intro hCont
     refine two_ (i:=2) (j:=7) (Ni:=some 17) (Nj:=some 22) #[true,true,true,true,true,true,true,false,false,false,false] #[true,true,false,true,true,true,true,true,false,false,false] rfl rfl rfl rfl (two_of HT_.out (by kernel_rfl)) (by decide) (by decide) (fun K hK=>?_) (fun K hK=>?_)
     ·skip
      refine Zbi Tryz.func123 (by kernel_rfl) rfl #[.int .i64 (wrap64 (Int.tdiv a0 10))] (by rfl) rfl rfl (by(try simp only[List.map_toArray,List.map_cons,List.map_nil]);first|done|rfl|(simp only[Zk,Zj];rfl)) ?_
      with_reducible refine(ih k (by omega) (wrap64 (Int.tdiv a0 10)) t4 _ A8.out).mono ?_
      rintro e w11 ⟨rfl,hb⟩
      refine⟨_,rfl,?_⟩
      replace HB:=Za (Zq (by exact HB.out) hb)
      (try clear hb)
      (try clear hb2)
      (try clear hk)
      (try clear hi)
      refine hK.out _ _ trivial (fun hHeld=>?_)
      clear hK K
      refine nrm (some 17) ?_
      refine onl (N:=some 22) 7 (fun K hK=>?_)
      refine Kd.R_lit_step (Kd.int .u8) _ 5 ?hg (N:=22) ?hd (xs:=([(wrap64 (48 - (Int.tmod a0 10))) % 256]:List Int)) (inner:=[.int .u8 ((wrap64 (48 - (Int.tmod a0 10))) % 256)]) (ok:=fun _=>True) (okp:=fun _=>True) ?hr ?hp (fun _ hk=>hk) trivial (Below.refl _ _) (Nat.le_refl _) (by simp) ?_;(case hd=>rfl);(case hg=>rfl);(case hr=>first|(go_simp;done)|(go_simp;rfl));(case hp=>exact(Reps.one (show Kd.M (Kd.int .u8) _ _ _ ((wrap64 (48 - (Int.tmod a0 10))) % 256) [.int .u8 ((wrap64 (48 - (Int.tmod a0 10))) % 256)] from rfl) (Reps.none _ _)))
      intro v6 w12 ho13 hb hg_ hnew_
      clear hg_ hnew_
      (first|rw[← Ny5.out] at ho13|(simp only[Int.reduceToNat] at ho13;rw[← Ny5.out] at ho13))
      have HO7:=Za (Kd.R_lower ho13 (Zv (by exact HB.out)));replace HB:=Za (Zq (by exact HB.out) hb)
      clear hb ho13
      refine hK.out _ _ trivial (fun hHeld=>?_)
      clear hK K
      refine nrm (some 22) ?_
      refine onl (N:=some 23) 8 (fun K hK=>?_)
      have hcv14:=ZcJ (P:=Tryz.prog) Tryz.underlying31 Tryz.underlying5 Tryz.underlying9 (Kd.own_of_R HO7.out)
      refine value_ (w1:=?_) (v:=?_) (by rfl) rfl ?_ ?_
      rotate_left 2
      ·go_simp
       constructor
       ·rfl
       ·rfl
      clear hcv14
      refine hK.out _ _ trivial (fun hHeld=>?_)
      clear hK K
      refine nrm (some 23) ?_
      exact ZdK (by simp only[ZcU,Act.put,List.setIfInBounds_toArray,List.set_cons_zero,List.set_cons_succ]) (hCont (v6) _ ⟨(by exact HO7.out),(by exact HB.out)⟩)
     ·skip
      refine Kd.R_lit_step (Kd.int .u8) _ 5 ?hg (N:=22) ?hd (xs:=([(wrap64 (48 - (Int.tmod a0 10))) % 256]:List Int)) (inner:=[.int .u8 ((wrap64 (48 - (Int.tmod a0 10))) % 256)]) (ok:=fun _=>True) (okp:=fun _=>True) ?hr ?hp (fun _ hk=>hk) trivial (Below.refl _ _) (Nat.le_refl _) (by simp) ?_;(case hd=>rfl);(case hg=>rfl);(case hr=>first|(go_simp;done)|(go_simp;rfl));(case hp=>exact(Reps.one (show Kd.M (Kd.int .u8) _ _ _ ((wrap64 (48 - (Int.tmod a0 10))) % 256) [.int .u8 ((wrap64 (48 - (Int.tmod a0 10))) % 256)] from rfl) (Reps.none _ _)))
      intro v6 w11 ho12 hb hg_ hnew_
      clear hg_ hnew_
      (first|rw[← Ny5.out] at ho12|(simp only[Int.reduceToNat] at ho12;rw[← Ny5.out] at ho12))
      have HO7:=Za (Kd.R_lower ho12 (Zv (by exact HB.out)));replace HB:=Za (Zq (by exact HB.out) hb)
      clear hb ho12
      refine hK.out _ _ trivial (fun hHeld=>?_)
      clear hK K
      refine nrm (some 22) ?_
      refine two_ (i:=2) (j:=8) (Ni:=some 17) (Nj:=some 23) #[true,true,true,true,true,true,true,true,false,false,false] #[true,true,false,true,true,true,true,true,true,false,false] rfl rfl rfl rfl (two_of HT_.out (by kernel_rfl)) (by decide) (by decide) (fun K hK=>?_) (fun K hK=>?_)
      ·skip
       refine Zbi Tryz.func123 (by kernel_rfl) rfl #[.int .i64 (wrap64 (Int.tdiv a0 10))] (by rfl) rfl rfl (by(try simp only[List.map_toArray,List.map_cons,List.map_nil]);first|done|rfl|(simp only[Zk,Zj];rfl)) ?_
       with_reducible refine(ih k (by omega) (wrap64 (Int.tdiv a0 10)) t4 _ A8.out).mono ?_
       rintro e w13 ⟨rfl,hb⟩
       refine⟨_,rfl,?_⟩
       replace HO7:=Za (Kd.R_below (by exact HO7.out) hb);replace HB:=Za (Zq (by exact HB.out) hb)
       (try clear hb)
       (try clear hb2)
       (try clear hk)
       (try clear hi)
       refine hK.out _ _ trivial (fun hHeld=>?_)
       clear hK K
       refine nrm (some 17) ?_
       refine onl (N:=some 23) 8 (fun K hK=>?_)
       have hcv14:=ZcJ (P:=Tryz.prog) Tryz.underlying31 Tryz.underlying5 Tryz.underlying9 (Kd.own_of_R HO7.out)
       refine value_ (w1:=?_) (v:=?_) (by rfl) rfl ?_ ?_
       rotate_left 2
       ·go_simp
        constructor
        ·rfl
        ·rfl
       clear hcv14
       refine hK.out _ _ trivial (fun hHeld=>?_)
       clear hK K
       refine nrm (some 23) ?_
       exact ZdK (by simp only[ZcU,Act.put,List.setIfInBounds_toArray,List.set_cons_zero,List.set_cons_succ]) (hCont (v6) _ ⟨(by exact HO7.out),(by exact HB.out)⟩)
      ·skip
       have hcv13:=ZcJ (P:=Tryz.prog) Tryz.underlying31 Tryz.underlying5 Tryz.underlying9 (Kd.own_of_R HO7.out)
       refine value_ (w1:=?_) (v:=?_) (by rfl) rfl ?_ ?_
       rotate_left 2
       ·go_simp
        constructor
        ·rfl
        ·rfl
       clear hcv13
       refine hK.out _ _ trivial (fun hHeld=>?_)
       clear hK K
       refine nrm (some 23) ?_
       refine onl (N:=some 17) 2 (fun K hK=>?_)
       refine Zbi Tryz.func123 (by kernel_rfl) rfl #[.int .i64 (wrap64 (Int.tdiv a0 10))] (by rfl) rfl rfl (by(try simp only[List.map_toArray,List.map_cons,List.map_nil]);first|done|rfl|(simp only[Zk,Zj];rfl)) ?_
       with_reducible refine(ih k (by omega) (wrap64 (Int.tdiv a0 10)) t4 _ A8.out).mono ?_
       rintro e w14 ⟨rfl,hb⟩
       refine⟨_,rfl,?_⟩
       replace HO7:=Za (Kd.R_below (by exact HO7.out) hb);replace HB:=Za (Zq (by exact HB.out) hb)
       (try clear hb)
       (try clear hb2)
       (try clear hk)
       (try clear hi)
       refine hK.out _ _ trivial (fun hHeld=>?_)
       clear hK K
       refine nrm (some 17) ?_
       exact ZdK (by simp only[ZcU,Act.put,List.setIfInBounds_toArray,List.set_cons_zero,List.set_cons_succ]) (hCont (v6) _ ⟨(by exact HO7.out),(by exact HB.out)⟩)
    rintro v6 w15 ⟨h0_,h1_⟩
    have HO7:Aside0 (Kd.R (Kd.int .u8) 5 w15 w.heap.size (fun _=>True) v6 y5):=⟨h0_⟩;replace HB:Aside0 (Below w.heap.size w w15):=⟨h1_⟩;clear h0_ h1_
    have hHeld:=trivial
    refine ZdK (a':=?_) ?_ ?_
    rotate_left
    ·simp only[ZcU,Act.put,List.setIfInBounds_toArray,List.set_cons_zero,List.set_cons_succ]
     rfl
    refine pu (N:=some 24) 9 ?_
    refine pu (N:=some 2) 10 ?_
    refine Zcm (ZdQ HT_.out (by kernel_rfl)) ?_
    try go_wp2
    go_ret
    exact⟨by first|rfl|(simp[ZB,ZA] <;> rfl)|(simp[*,ZB,ZA] <;> rfl),by repeat(first|(with_reducible first|exact HB.out|apply Zo|apply Zm|apply Zp)|exact HB.out)⟩
   ·rw[if_neg c9] at H
    exact absurd H (by simp)
 ·rw[if_neg c2] at H
  have c2b0:decide (a0<0)=false:=Zf c2
  clear c2
  have H':=Za H
  clear H
  go_enter Tryz.func123,Tryz.ntmps123
  go_wp2
  go_loopg [0,3] k (fun kq v0 v3 w'=>∃(x0_1:Int) (x3_1:ByteArray),v0=.int .i64 x0_1∧v3=.string x3_1∧Aside0 (ZQ.l0 kq x0_1 x3_1=some r)∧Aside0 (kq≤k)∧Aside0 (Below w.heap.size w w'))
  case atStart=>exact⟨(a0),((⟨#[]⟩:ByteArray)),(by first|rfl|(simp;done)|(simp[*];done)),(by first|rfl|(simp;done)|(simp[*];done)),H',⟨Nat.le_refl _⟩,⟨by repeat(first|(with_reducible first|exact HB.out|apply Zo|apply Zm|apply Zp)|exact HB.out)⟩⟩
  case round=>
   clear H'
   try clear c1
   try clear hcv1
   try clear c2
   try clear c2b0
   try clear p2
   try clear c3
   try clear c3b0
   try clear c3b1
   try clear c4
   try clear c4b0
   try clear c4b1
   try clear c4b2
   try clear p6
   try clear hcv7
   try clear c9
   try clear c9b0
   try clear c9b1
   try clear c9b2
   try clear c12
   try clear hcv13
   try clear hcv14
   obtain⟨x0_1,x3_1,rfl,rfl,HA,HK1,HB⟩:=hrel
   cases gk with
   | zero=>exact absurd HA.out (by simp[ZQ.l0])
   | succ k1=>
    have H:=HA.out
    clear HA
    simp only[ZQ.l0] at H
    by_cases c16:x0_1 > 9
    ·rw[if_pos c16] at H
     have c16b0:decide (9<x0_1)=true:=Ze c16
     clear c16
     obtain⟨y8,hy8⟩:∃y_:List Int,y_=(([(wrap64 (48+(Int.tmod x0_1 10))) % 256]:List Int)):=⟨_,rfl⟩
     replace H:(if (strOfNums y8).size+x3_1.size≤9223372036854775807 then(ZQ.l0 k1 (wrap64 (Int.tdiv x0_1 10)) ((strOfNums y8) ++ x3_1)) else(none))=some r:=by first|(rw[hy8];with_reducible exact H)|(have H2_:=(Zi _ _).symm.trans H;rw[hy8];with_reducible exact H2_)|(have H2_:=(Zi _ _).symm.trans H;with_reducible exact H2_)|with_reducible exact H|(rw[hy8];exact H)|exact H
     have Ny8:=Za hy8;clear hy8
     by_cases c17:(strOfNums y8).size+x3_1.size≤9223372036854775807
     ·rw[if_pos c17] at H
      have c17b0:=eq_true c17
      try have c17b2:(9223372036854775807<(strOfNums y8).size+x3_1.size)=False:=eq_false (Nat.not_lt.2 c17)
      have H':=Za H
      clear H
      go_wp2_with (first|((with_reducible refine ZG (N:=31) rfl ?_);refine Kd.R_lit (Kd.int .u8) _ 5 ?hg (N:=31) ?hd (xs:=([(wrap64 (48+(Int.tmod x0_1 10))) % 256]:List Int)) (inner:=[.int .u8 ((wrap64 (48+(Int.tmod x0_1 10))) % 256)]) (ok:=fun _=>True) (okp:=fun _=>True) ?hr ?hp (fun _ hk=>hk) trivial (Below.refl _ _) (Nat.le_refl _) (by simp) ?_;(case hd=>rfl);(case hg=>rfl);(case hr=>first|(go_simp;done)|(go_simp;rfl));(case hp=>exact(Reps.one (show Kd.M (Kd.int .u8) _ _ _ ((wrap64 (48+(Int.tmod x0_1 10))) % 256) [.int .u8 ((wrap64 (48+(Int.tmod x0_1 10))) % 256)] from rfl) (Reps.none _ _)));intro v9 w18 ho19 hb hg_ hnew_;clear hg_ hnew_;(first|rw[← Ny8.out] at ho19|(simp only[Int.reduceToNat] at ho19;rw[← Ny8.out] at ho19));have HO10:=Za (Kd.R_lower ho19 (Zv (by exact HB.out)));replace HB:=Za (Zq (by exact HB.out) hb);clear hb ho19;have hcv20:=ZcJ (P:=Tryz.prog) Tryz.underlying31 Tryz.underlying5 Tryz.underlying9 (Kd.own_of_R HO10.out)))
      go_roundg k1
      case measure=>have:=HK1.out;omega
      case rel=>exact⟨(wrap64 (Int.tdiv x0_1 10)),((strOfNums y8) ++ x3_1),(by first|rfl|(simp;done)|(simp[*];done)),(by first|rfl|(simp;done)|(simp[*];done)),H',⟨by have:=HK1.out;omega⟩,⟨by repeat(first|(with_reducible first|exact HB.out|apply Zo|apply Zm|apply Zp)|exact HB.out)⟩⟩
     ·rw[if_neg c17] at H
      exact absurd H (by simp)
    ·rw[if_neg c16] at H
     have c16b0:decide (9<x0_1)=false:=Zf c16
     clear c16
     obtain⟨y11,hy11⟩:∃y_:List Int,y_=(([(wrap64 (48+x0_1)) % 256]:List Int)):=⟨_,rfl⟩
     replace H:(if (strOfNums y11).size+x3_1.size≤9223372036854775807 then(some ((strOfNums y11) ++ x3_1)) else(none))=some r:=by first|(rw[hy11];with_reducible exact H)|(have H2_:=(Zi _ _).symm.trans H;rw[hy11];with_reducible exact H2_)|(have H2_:=(Zi _ _).symm.trans H;with_reducible exact H2_)|with_reducible exact H|(rw[hy11];exact H)|exact H
     have Ny11:=Za hy11;clear hy11
     by_cases c21:(strOfNums y11).size+x3_1.size≤9223372036854775807
     ·rw[if_pos c21] at H
      have c21b0:=eq_true c21
      try have c21b2:(9223372036854775807<(strOfNums y11).size+x3_1.size)=False:=eq_false (Nat.not_lt.2 c21)
      obtain rfl:=Zg H
      go_wp2_with (first|((with_reducible refine ZG (N:=40) rfl ?_);refine Kd.R_lit (Kd.int .u8) _ 5 ?hg (N:=40) ?hd (xs:=([(wrap64 (48+x0_1)) % 256]:List Int)) (inner:=[.int .u8 ((wrap64 (48+x0_1)) % 256)]) (ok:=fun _=>True) (okp:=fun _=>True) ?hr ?hp (fun _ hk=>hk) trivial (Below.refl _ _) (Nat.le_refl _) (by simp) ?_;(case hd=>rfl);(case hg=>rfl);(case hr=>first|(go_simp;done)|(go_simp;rfl));(case hp=>exact(Reps.one (show Kd.M (Kd.int .u8) _ _ _ ((wrap64 (48+x0_1)) % 256) [.int .u8 ((wrap64 (48+x0_1)) % 256)] from rfl) (Reps.none _ _)));intro v12 w22 ho23 hb hg_ hnew_;clear hg_ hnew_;(first|rw[← Ny11.out] at ho23|(simp only[Int.reduceToNat] at ho23;rw[← Ny11.out] at ho23));have HO13:=Za (Kd.R_lower ho23 (Zv (by exact HB.out)));replace HB:=Za (Zq (by exact HB.out) hb);clear hb ho23;have hcv24:=ZcJ (P:=Tryz.prog) Tryz.underlying31 Tryz.underlying5 Tryz.underlying9 (Kd.own_of_R HO13.out)))
      go_ret
      exact⟨by first|rfl|(simp[ZB,ZA] <;> rfl)|(simp[*,ZB,ZA] <;> rfl),by repeat(first|(with_reducible first|exact HB.out|apply Zo|apply Zm|apply Zp)|exact HB.out)⟩
     ·rw[if_neg c21] at H
      exact absurd H (by simp)
def Zcc.f (k:Nat) (l0_0:List (S39)) (l0_1:List (S82)) (a0_2:Int) (a1_0:Int) (a1_1:Int) (a1_2:Int) (a1_3:Int) (a1_4:Bool):Option (ByteArray):=if 0≤a1_0∧a1_0<l0_0.length∧0≤a1_1∧a1_1<l0_0.length then(ZQ.f k a1_2).bind fun s=>(ZQ.f k a1_3).bind fun t=>if (ZI l0_0 a1_0).f0.size+(ZI l0_0 a1_1).f0.size+s.size+t.size≤1000000 then some ((if a1_4=true then(⟨#[102,114,101,101,32]⟩:ByteArray) else(⟨#[116,105,101,32]⟩:ByteArray)) ++ (ZI l0_0 a1_0).f0 ++ (⟨#[32]⟩:ByteArray) ++ (ZI l0_0 a1_1).f0 ++ (⟨#[32]⟩:ByteArray) ++ s ++ (⟨#[32]⟩:ByteArray) ++ t) else none else none
theorem Zcc.calls (k:Nat) (A0_0:Option Addr) (c0_0:Nat) (l0_0:List (S39)) (A0_1:Option Addr) (c0_1:Nat) (l0_1:List (S82)) (a0_2:Int) (a1_0:Int) (a1_1:Int) (a1_2:Int) (a1_3:Int) (a1_4:Bool) (r:ByteArray) (w:World) (hr0_0:Kd.C k39 w A0_0 l0_0.length l0_0) (hc0_0:l0_0.length≤c0_0) (hr0_1:Kd.C k82 w A0_1 l0_1.length l0_1) (hc0_1:l0_1.length≤c0_1) (h:Zcc.f k l0_0 l0_1 a0_2 a1_0 a1_1 a1_2 a1_3 a1_4=some r) :
  Calls Tryz.prog 130 #[.agg #[.slice A0_0 l0_0.length c0_0,.slice A0_1 l0_1.length c0_1,.int .i64 a0_2],.agg #[.int .i64 a1_0,.int .i64 a1_1,.int .i64 a1_2,.int .i64 a1_3,.bool a1_4]] w fun e w'=>e=.returned (.string r)∧Below w.heap.size w w':=by
 unfold Zcc.f at h
 split at h
 case isFalse=>exact absurd h (by simp)
 rename_i hc
 obtain⟨h0,h1,h2,h3⟩:=hc
 obtain⟨s1,hs1,h⟩:=Option.bind_eq_some_iff.1 h
 obtain⟨s2,hs2,h⟩:=Option.bind_eq_some_iff.1 h
 split at h
 case isFalse=>exact absurd h (by simp)
 rename_i hz
 obtain rfl:=Zg h
 obtain⟨ad0,Af,cf,e2,hf0,hf1,hf2,lf,gf⟩:=ZaS hr0_0 a1_0 h0 h1
 cases e2
 obtain⟨ad1,At,ct,e3,ht0,ht1,ht2,lt_,gt⟩:=ZaS hr0_0 a1_1 h2 h3
 cases e3
 generalize (ZI l0_0 a1_0).f0=nf at *
 generalize (ZI l0_0 a1_1).f0=nt at *
 have HS1:=Za hs1;have HS2:=Za hs2
 have HX:=Za (And.intro hf0 ht0)
 have z:∀n:Nat,n≤9223372036854775807→(9223372036854775807<n)=False:=fun n h=>eq_false (Nat.not_lt.2 h)
 have q50:=z (5+nf.size) (by omega)
 have q51:=z ((5+nf.size)+1) (by omega)
 have q52:=z (((5+nf.size)+1)+nt.size) (by omega)
 have q53:=z ((((5+nf.size)+1)+nt.size)+1) (by omega)
 have q54:=z (((((5+nf.size)+1)+nt.size)+1)+s1.size) (by omega)
 have q55:=z ((((((5+nf.size)+1)+nt.size)+1)+s1.size)+1) (by omega)
 have q56:=z (((((((5+nf.size)+1)+nt.size)+1)+s1.size)+1)+s2.size) (by omega)
 have q40:=z (4+nf.size) (by omega)
 have q41:=z ((4+nf.size)+1) (by omega)
 have q42:=z (((4+nf.size)+1)+nt.size) (by omega)
 have q43:=z ((((4+nf.size)+1)+nt.size)+1) (by omega)
 have q44:=z (((((4+nf.size)+1)+nt.size)+1)+s1.size) (by omega)
 have q45:=z ((((((4+nf.size)+1)+nt.size)+1)+s1.size)+1) (by omega)
 have q46:=z (((((((4+nf.size)+1)+nt.size)+1)+s1.size)+1)+s2.size) (by omega)
 have p2:=eq_true h0
 have p3:=eq_true h1
 have p4:=eq_true h2
 have p5:=eq_true h3
 have hu:=Tryz.underlying25
 have hu2:=Tryz.underlying82
 have hu3:=Tryz.underlying39
 have HB0:=Za (Below.refl w.heap.size w)
 clear hr0_0 hc0_0 hr0_1 hc0_1 hs1 hs2 h h0 h1 h2 h3 hf0 hf1 hf2 lf gf ht0 ht1 ht2 lt_ gt z hz
 cases a1_4
 all_goals
  go_enter Tryz.func130,Tryz.ntmps130
  go_wp2_with (first|((with_reducible refine ZG (N:=2) rfl ?_);refine ZH ?hg (N:=2) ?hd (cs:=#[.slice (some ad0) l0_0.length c0_0,.slice A0_1 l0_1.length c0_1,.int .i64 a0_2]) (t:=25) ?hr ?_;(case hd=>rfl);(case hg=>rfl);(case hr=>first|(go_simp;done)|(go_simp;rfl));intro g1 hg w1 hbox hb;have HB1:=Za (Zq HB0.out hb);have X1:=Za hbox;clear hg hb hbox)|((with_reducible refine ZG (N:=3) rfl ?_);refine ZH ?hg (N:=3) ?hd (cs:=#[.int .i64 a1_0,.int .i64 a1_1,.int .i64 a1_2,.int .i64 a1_3,.bool true]) (t:=82) ?hr ?_;(case hd=>rfl);(case hg=>rfl);(case hr=>first|(go_simp;done)|(go_simp;rfl));intro g2 hg w2 hbox hb;have X0:=X1;clear X1;have X1:=Za (Zw X0.out hb);clear X0;have HB2:=Za (Zq HB1.out hb);have X2:=Za hbox;have k4:w2.cell? ⟨g2,4,none⟩=some (.bool true):=(Zn X2.out 4).trans rfl;clear hg hb hbox)|((with_reducible refine ZG (N:=3) rfl ?_);refine ZH ?hg (N:=3) ?hd (cs:=#[.int .i64 a1_0,.int .i64 a1_1,.int .i64 a1_2,.int .i64 a1_3,.bool false]) (t:=82) ?hr ?_;(case hd=>rfl);(case hg=>rfl);(case hr=>first|(go_simp;done)|(go_simp;rfl));intro g2 hg w2 hbox hb;have X0:=X1;clear X1;have X1:=Za (Zw X0.out hb);clear X0;have HB2:=Za (Zq HB1.out hb);have X2:=Za hbox;have k4:w2.cell? ⟨g2,4,none⟩=some (.bool false):=(Zn X2.out 4).trans rfl;clear hg hb hbox))
  clear k4
  have HK:=Za fun (W:World) (hb:Below w2.heap.size w2 W)=>And.intro (Zx hb ((Zn X1.out 0).trans rfl)) (And.intro (Zx hb ((Zn X2.out 0).trans rfl)) (And.intro (Zx hb ((Zn X2.out 1).trans rfl)) (And.intro (Zx hb ((Zn X2.out 2).trans rfl)) (And.intro (Zx hb ((Zn X2.out 3).trans rfl)) (And.intro (Zx (HB2.out.trans (hb.mono HB2.out.size)) HX.out.1) (Zx (HB2.out.trans (hb.mono HB2.out.size)) HX.out.2))))))
  have HD:=Za (Zp (Below.refl w2.heap.size w2))
  refine ZbP (n:=29) (S:=fun w'=>w'.cell? ⟨g1,0,none⟩=some (.slice (some ad0) l0_0.length c0_0)∧w'.cell? ⟨g2,0,none⟩=some (.int .i64 a1_0)∧w'.cell? ⟨g2,1,none⟩=some (.int .i64 a1_1)∧w'.cell? ⟨g2,2,none⟩=some (.int .i64 a1_2)∧w'.cell? ⟨g2,3,none⟩=some (.int .i64 a1_3)∧w'.cell? (ad0.add (a1_0.toNat * 3))=some (.string nf)∧w'.cell? (ad0.add (a1_1.toNat * 3))=some (.string nt)) (ds:=[]) #[false,false,false,false,false,false,false,false,false,false,false,false,false,false,false,false,false,false,false,false,false,false,false,false,false,false,false,false,false] (by kernel_rfl) rfl rfl ⟨(HK.out _ HD.out).1,(HK.out _ HD.out).2.1,(HK.out _ HD.out).2.2.1,(HK.out _ HD.out).2.2.2.1,(HK.out _ HD.out).2.2.2.2.1,(HK.out _ HD.out).2.2.2.2.2.1,(HK.out _ HD.out).2.2.2.2.2.2⟩ (fun hHeld=>?_)
  generalize w2.drew=W3 at HD hHeld ⊢
  refine pu (N:=some 8) 0 ?_
  refine pu (N:=some 9) 1 ?_
  refine pu (N:=some 11) 3 ?_
  refine pu (N:=some 18) 10 ?_
  refine pu (N:=some 20) 12 ?_
  refine pu (N:=some 27) 19 ?_
  refine pu (N:=some 32) 24 ?_
  refine tk (N:=some 10) 2 hHeld ?_
  refine tk (N:=some 12) 4 hHeld ?_
  refine pu (N:=some 13) 5 ?_
  refine pu (N:=some 14) 6 ?_
  refine tk (N:=some 15) 7 hHeld ?_
  refine pu (N:=some 16) 8 ?_
  refine pu (N:=some 17) 9 ?_
  refine tk (N:=some 19) 11 hHeld ?_
  refine tk (N:=some 21) 13 hHeld ?_
  refine pu (N:=some 22) 14 ?_
  refine pu (N:=some 23) 15 ?_
  refine tk (N:=some 24) 16 hHeld ?_
  refine pu (N:=some 25) 17 ?_
  refine pu (N:=some 26) 18 ?_
  refine tk (N:=some 28) 20 hHeld ?_
  refine tk (N:=some 33) 25 hHeld ?_
  refine onl (N:=some 29) 21 (fun K hK=>?_)
  refine Zbi Tryz.func123 (by kernel_rfl) rfl #[.int .i64 a1_2] (by rfl) rfl rfl (by(try simp only[List.map_toArray,List.map_cons,List.map_nil]);first|done|rfl) ?_
  refine(ZQ.calls k a1_2 s1 _ HS1.out).mono ?_
  rintro e w4 ⟨rfl,hb⟩
  refine⟨_,rfl,?_⟩
  have HD4:=Za (Zq HD.out hb)
  clear hb
  refine hK.out _ _ ⟨(HK.out _ HD4.out).1,(HK.out _ HD4.out).2.1,(HK.out _ HD4.out).2.2.1,(HK.out _ HD4.out).2.2.2.1,(HK.out _ HD4.out).2.2.2.2.1,(HK.out _ HD4.out).2.2.2.2.2.1,(HK.out _ HD4.out).2.2.2.2.2.2⟩ (fun hHeld=>?_)
  clear hK K
  refine nrm (some 29) ?_
  refine pu (N:=some 30) 22 ?_
  refine pu (N:=some 31) 23 ?_
  refine onl (N:=some 34) 26 (fun K hK=>?_)
  refine Zbi Tryz.func123 (by kernel_rfl) rfl #[.int .i64 a1_3] (by rfl) rfl rfl (by(try simp only[List.map_toArray,List.map_cons,List.map_nil]);first|done|rfl) ?_
  refine(ZQ.calls k a1_3 s2 _ HS2.out).mono ?_
  rintro e w4 ⟨rfl,hb⟩
  refine⟨_,rfl,?_⟩
  have HD5:=Za (Zq HD4.out hb)
  clear hb
  refine hK.out _ _ ⟨(HK.out _ HD5.out).1,(HK.out _ HD5.out).2.1,(HK.out _ HD5.out).2.2.1,(HK.out _ HD5.out).2.2.2.1,(HK.out _ HD5.out).2.2.2.2.1,(HK.out _ HD5.out).2.2.2.2.2.1,(HK.out _ HD5.out).2.2.2.2.2.2⟩ (fun hHeld=>?_)
  clear hK K
  refine nrm (some 34) ?_
  refine pu (N:=some 35) 27 ?_
  refine pu (N:=some 4) 28 ?_
  refine Zcm (by kernel_rfl) ?_
  go_wp2
  go_ret
  exact⟨rfl,HB2.out.trans (HD5.out.mono HB2.out.size)⟩
def ZU.f (a0:Int) (a1:Int) (a2:Int):Option (Bool):=if a0≥a1 then(some (decide (a0≤a2))) else(some false)
theorem ZU.calls (a0:Int) (a1:Int) (a2:Int) (r:Bool) (w:World) (h:ZU.f a0 a1 a2=some r) :
  Calls Tryz.prog 127 #[.int .i64 a0,.int .i64 a1,.int .i64 a2] w fun e w'=>e=.returned (.bool r)∧ZF w w':=by
 have H:(if a0≥a1 then(some (decide (a0≤a2))) else(some false))=some r:=h
 clear h
 by_cases c4:a0≥a1
 ·rw[if_pos c4] at H
  have c4b0:decide (a1≤a0)=true:=Ze c4
  clear c4
  obtain rfl:=Zg H
  go_enter Tryz.func127,Tryz.ntmps127
  go_wp2
  go_ret
  exact⟨by first|rfl|(simp;done)|(simp[*];done),by repeat(first|exact ZF.refl _|apply ZF.step)⟩
 ·rw[if_neg c4] at H
  have c4b0:decide (a1≤a0)=false:=Zf c4
  clear c4
  obtain rfl:=Zg H
  go_enter Tryz.func127,Tryz.ntmps127
  go_wp2
  go_ret
  exact⟨by first|rfl|(simp;done)|(simp[*];done),by repeat(first|exact ZF.refl _|apply ZF.step)⟩
def Zaz.l0:Nat→Int→List (S82)→Int→Int→Option (Int)
 | 0,_,_,_,_=>none
 | k+1,x1,x8,x9,x10=>if x10<x9 then(if 0≤x10 then(if x10<(x8.length:Int) then(if (Zu x8 x10).f4=true then(if ((Zu x8 x10).f1)=x1 then(some x10) else(Zaz.l0 k x1 x8 x9 (wrap64 (x10+1)))) else(Zaz.l0 k x1 x8 x9 (wrap64 (x10+1)))) else(none)) else(none)) else(some (-1))
def Zaz.f (k:Nat) (l0_0:List (S39)) (l0_1:List (S82)) (a0_2:Int) (a1:Int):Option (Int):=Zaz.l0 k a1 l0_1 (l0_1.length:Int) 0
theorem Zaz.calls (k:Nat) (A0_0:Option Addr) (c0_0:Nat) (l0_0:List (S39)) (A0_1:Option Addr) (c0_1:Nat) (l0_1:List (S82)) (a0_2:Int) (a1:Int) (r:Int) (w:World) (hr0_0:Kd.C k39 w A0_0 l0_0.length l0_0) (hc0_0:l0_0.length≤c0_0) (hr0_1:Kd.C k82 w A0_1 l0_1.length l0_1) (hc0_1:l0_1.length≤c0_1) (h:Zaz.f k l0_0 l0_1 a0_2 a1=some r) :
  Calls Tryz.prog 180 #[.agg #[.slice A0_0 l0_0.length c0_0,.slice A0_1 l0_1.length c0_1,.int .i64 a0_2],.int .i64 a1] w fun e w'=>e=.returned (.int .i64 r)∧Below w.heap.size w w':=by
 have hu25:=Tryz.underlying25
 have hu82:=Tryz.underlying82
 have HR0_0:=Za hr0_0;have HC0_0:=Za hc0_0;clear hr0_0 hc0_0;have HR0_1:=Za hr0_1;have HC0_1:=Za hc0_1;clear hr0_1 hc0_1
 have HB:=Za (Below.refl w.heap.size w)
 have H:(Zaz.l0 k a1 l0_1 (l0_1.length:Int) 0)=some r:=h
 clear h
 have H':=Za H
 clear H
 go_enter Tryz.func180,Tryz.ntmps180
 go_wp2_with (first|((with_reducible refine ZG (N:=2) rfl ?_);refine ZH ?hg (N:=2) ?hd (cs:=#[.slice A0_0 l0_0.length c0_0,.slice A0_1 l0_1.length c0_1,.int .i64 a0_2]) (t:=25) ?hr ?_;(case hd=>rfl);(case hg=>rfl);(case hr=>first|(go_simp;done)|(go_simp;rfl));intro gb1 hg w3 hbox hb;have BK1:=Za (hbox);have GW1:=Za ((by rw[hg];exact(Zv (by exact HB.out)):w.heap.size≤gb1));have GE1:=Za ((by rw[hg];exact(Zv (by exact HB.out)):w.heap.size≤gb1));replace HB:=Za (Zq (by exact HB.out) hb);clear hb hbox hg;have hcz4_0:w3.cell? ⟨gb1,0,none⟩=some (.slice A0_0 l0_0.length c0_0):=(Zn BK1.out 0).trans rfl;have hcz4_1:w3.cell? ⟨gb1,1,none⟩=some (.slice A0_1 l0_1.length c0_1):=(Zn BK1.out 1).trans rfl;have hcz4_2:w3.cell? ⟨gb1,2,none⟩=some (.int .i64 a0_2):=(Zn BK1.out 2).trans rfl;have hfz4_0:=Zt BK1.out 0;have hfz4_1:=Zt BK1.out 1;have hfz4_2:=Zt BK1.out 2))
 go_loopg [10] k (fun kq v10 w'=>∃(x10_1:Int),v10=.int .i64 x10_1∧Aside0 (Zaz.l0 kq a1 l0_1 (l0_1.length:Int) x10_1=some r)∧Aside0 (kq≤k)∧Aside0 (w'.heap[gb1]? = some (.cells #[(.slice A0_0 l0_0.length c0_0),(.slice A0_1 l0_1.length c0_1),.int .i64 a0_2] 25 (0,0)))∧Aside0 (Below w.heap.size w w'))
 case atStart=>exact⟨(0),(by first|rfl|(simp;done)|(simp[*];done)),H',⟨Nat.le_refl _⟩,⟨by(with_reducible repeat(first|refine ZD ?_ _|refine ZE ?_|refine ZC ?_ _));exact BK1.out⟩,⟨by repeat(first|(with_reducible first|exact HB.out|apply Zo|apply Zm|apply Zp|refine Zs ?_ GE1.out)|exact HB.out)⟩⟩
 case round=>
  clear H'
  try clear c1
  try clear p2
  try clear hcz4_0
  try clear hcz4_1
  try clear hcz4_2
  try clear hfz4_0
  try clear hfz4_1
  try clear hfz4_2
  obtain⟨x10_1,rfl,HA,HK1,BK1,HB⟩:=hrel
  cases gk with
  | zero=>exact absurd HA.out (by simp[Zaz.l0])
  | succ k1=>
   have H:=HA.out
   clear HA
   simp only[Zaz.l0] at H
   by_cases c5:x10_1<(l0_1.length:Int)
   ·rw[if_pos c5] at H
    have c5b0:decide (x10_1<(l0_1.length:Int))=true:=Ze c5
    clear c5
    by_cases c6:0≤x10_1
    ·rw[if_pos c6] at H
     have c6b0:decide (0≤x10_1)=true:=Ze c6
     clear c6
     by_cases c7:x10_1<(l0_1.length:Int)
     ·rw[if_pos c7] at H
      have c7b0:decide (x10_1<(l0_1.length:Int))=true:=Ze c7
      clear c7
      obtain⟨bq8,hbq8⟩:∃b_:Bool,b_=((Zu l0_1 x10_1).f4):=⟨_,rfl⟩
      replace H:(if bq8=true then(if ((Zu l0_1 x10_1).f1)=a1 then(some x10_1) else(Zaz.l0 k1 a1 l0_1 (l0_1.length:Int) (wrap64 (x10_1+1)))) else(Zaz.l0 k1 a1 l0_1 (l0_1.length:Int) (wrap64 (x10_1+1))))=some r:=by rw[← hbq8] at H;exact H
      have Nbq8:=Za hbq8;clear hbq8
      by_cases c9:bq8=true
      ·subst c9
       rw[if_pos rfl] at H
       by_cases c10:((Zu l0_1 x10_1).f1)=a1
       ·rw[if_pos c10] at H
        have c10b0:(((Zu l0_1 x10_1).f1) == a1)=true:=beq_iff_eq.mpr c10
        clear c10
        obtain rfl:=Zg H
        have p180002:0≤(x10_1:Int):=Zd (by with_reducible assumption)
        have q2:x10_1<(l0_1.length:Int):=Zd (by with_reducible assumption)
        obtain⟨ad2,e2,hx2_0,hx2_1,hx2_2,hx2_3,hx2_4⟩:=ZbS HR0_1.out x10_1 p180002 q2
        (try rw[← Nbq8.out] at hx2_4)
        cases e2
        replace hx2_0:=(HB.out.cell (Zc w _ hx2_0)).trans hx2_0
        replace hx2_1:=(HB.out.cell (Zc w _ hx2_1)).trans hx2_1
        replace hx2_2:=(HB.out.cell (Zc w _ hx2_2)).trans hx2_2
        replace hx2_3:=(HB.out.cell (Zc w _ hx2_3)).trans hx2_3
        replace hx2_4:=(HB.out.cell (Zc w _ hx2_4)).trans hx2_4
        replace p180002:=eq_true p180002
        replace q2:=eq_true q2
        go_wp2_with (first|((with_reducible refine ZG (N:=6) rfl ?_);refine ZH ?hg (N:=6) ?hd (cs:=#[.int .i64 0,.int .i64 0,.int .i64 0,.int .i64 0,.bool false]) (t:=82) ?hr ?_;(case hd=>rfl);(case hg=>rfl);(case hr=>first|(go_simp;done)|(go_simp;rfl));intro gb3 hg w11 hbox hb;have BK3:=Za (hbox);have GW3:=Za ((by rw[hg];exact(Zv (by exact HB.out)):w.heap.size≤gb3));have GE3:=Za ((by rw[hg];exact(Zv (by exact HB.out)):w.heap.size≤gb3));have NB1_3:=Za ((by rw[hg];exact Nat.ne_of_lt (ZK (g:=gb1) (o:=.cells #[.slice A0_0 l0_0.length c0_0,.slice (some ad2) l0_1.length c0_1,.int .i64 a0_2] 25 (0,0)) (by exact BK1.out)):gb1≠gb3));have NB3_1:=Za ((by rw[hg];exact Nat.ne_of_gt (ZK (g:=gb1) (o:=.cells #[.slice A0_0 l0_0.length c0_0,.slice (some ad2) l0_1.length c0_1,.int .i64 a0_2] 25 (0,0)) (by exact BK1.out)):gb3≠gb1));replace BK1:=Za (Zw (g:=gb1) (o:=.cells #[.slice A0_0 l0_0.length c0_0,.slice (some ad2) l0_1.length c0_1,.int .i64 a0_2] 25 (0,0)) (by exact BK1.out) hb);replace HB:=Za (Zq (by exact HB.out) hb);clear hb hbox hg;have hcz13_0:w11.cell? ⟨gb3,0,none⟩=some (.int .i64 0):=(Zn BK3.out 0).trans rfl;have hcz13_1:w11.cell? ⟨gb3,1,none⟩=some (.int .i64 0):=(Zn BK3.out 1).trans rfl;have hcz13_2:w11.cell? ⟨gb3,2,none⟩=some (.int .i64 0):=(Zn BK3.out 2).trans rfl;have hcz13_3:w11.cell? ⟨gb3,3,none⟩=some (.int .i64 0):=(Zn BK3.out 3).trans rfl;have hcz13_4:w11.cell? ⟨gb3,4,none⟩=some (.bool false):=(Zn BK3.out 4).trans rfl;have hfz13_0:=Zt BK3.out 0;have hfz13_1:=Zt BK3.out 1;have hfz13_2:=Zt BK3.out 2;have hfz13_3:=Zt BK3.out 3;have hfz13_4:=Zt BK3.out 4))
        go_ret
        exact⟨by first|rfl|(simp[ZB,ZA] <;> rfl)|(simp[*,ZB,ZA] <;> rfl),by repeat(first|(with_reducible first|exact HB.out|apply Zo|apply Zm|apply Zp|refine Zs ?_ GE1.out|refine Zs ?_ GE3.out)|exact HB.out)⟩
       ·rw[if_neg c10] at H
        have c10b0:(((Zu l0_1 x10_1).f1) == a1)=false:=beq_eq_false_iff_ne.mpr c10
        have H':=Za H
        clear H
        have p180002:0≤(x10_1:Int):=Zd (by with_reducible assumption)
        have q2:x10_1<(l0_1.length:Int):=Zd (by with_reducible assumption)
        obtain⟨ad2,e2,hx2_0,hx2_1,hx2_2,hx2_3,hx2_4⟩:=ZbS HR0_1.out x10_1 p180002 q2
        (try rw[← Nbq8.out] at hx2_4)
        cases e2
        replace hx2_0:=(HB.out.cell (Zc w _ hx2_0)).trans hx2_0
        replace hx2_1:=(HB.out.cell (Zc w _ hx2_1)).trans hx2_1
        replace hx2_2:=(HB.out.cell (Zc w _ hx2_2)).trans hx2_2
        replace hx2_3:=(HB.out.cell (Zc w _ hx2_3)).trans hx2_3
        replace hx2_4:=(HB.out.cell (Zc w _ hx2_4)).trans hx2_4
        replace p180002:=eq_true p180002
        replace q2:=eq_true q2
        go_wp2_with (first|((with_reducible refine ZG (N:=6) rfl ?_);refine ZH ?hg (N:=6) ?hd (cs:=#[.int .i64 0,.int .i64 0,.int .i64 0,.int .i64 0,.bool false]) (t:=82) ?hr ?_;(case hd=>rfl);(case hg=>rfl);(case hr=>first|(go_simp;done)|(go_simp;rfl));intro gb3 hg w14 hbox hb;have BK3:=Za (hbox);have GW3:=Za ((by rw[hg];exact(Zv (by exact HB.out)):w.heap.size≤gb3));have GE3:=Za ((by rw[hg];exact(Zv (by exact HB.out)):w.heap.size≤gb3));have NB1_3:=Za ((by rw[hg];exact Nat.ne_of_lt (ZK (g:=gb1) (o:=.cells #[.slice A0_0 l0_0.length c0_0,.slice (some ad2) l0_1.length c0_1,.int .i64 a0_2] 25 (0,0)) (by exact BK1.out)):gb1≠gb3));have NB3_1:=Za ((by rw[hg];exact Nat.ne_of_gt (ZK (g:=gb1) (o:=.cells #[.slice A0_0 l0_0.length c0_0,.slice (some ad2) l0_1.length c0_1,.int .i64 a0_2] 25 (0,0)) (by exact BK1.out)):gb3≠gb1));replace BK1:=Za (Zw (g:=gb1) (o:=.cells #[.slice A0_0 l0_0.length c0_0,.slice (some ad2) l0_1.length c0_1,.int .i64 a0_2] 25 (0,0)) (by exact BK1.out) hb);replace HB:=Za (Zq (by exact HB.out) hb);clear hb hbox hg;have hcz16_0:w14.cell? ⟨gb3,0,none⟩=some (.int .i64 0):=(Zn BK3.out 0).trans rfl;have hcz16_1:w14.cell? ⟨gb3,1,none⟩=some (.int .i64 0):=(Zn BK3.out 1).trans rfl;have hcz16_2:w14.cell? ⟨gb3,2,none⟩=some (.int .i64 0):=(Zn BK3.out 2).trans rfl;have hcz16_3:w14.cell? ⟨gb3,3,none⟩=some (.int .i64 0):=(Zn BK3.out 3).trans rfl;have hcz16_4:w14.cell? ⟨gb3,4,none⟩=some (.bool false):=(Zn BK3.out 4).trans rfl;have hfz16_0:=Zt BK3.out 0;have hfz16_1:=Zt BK3.out 1;have hfz16_2:=Zt BK3.out 2;have hfz16_3:=Zt BK3.out 3;have hfz16_4:=Zt BK3.out 4))
        go_roundg k1
        case measure=>have:=HK1.out;omega
        case rel=>exact⟨(wrap64 (x10_1+1)),(by first|rfl|(simp;done)|(simp[*];done)),H',⟨by have:=HK1.out;omega⟩,⟨by(with_reducible repeat(first|refine ZD ?_ _|refine ZE ?_|refine ZC ?_ _));refine ZP ?_ NB1_3.out _;(with_reducible repeat(first|refine ZD ?_ _|refine ZE ?_|refine ZC ?_ _));refine ZP ?_ NB1_3.out _;(with_reducible repeat(first|refine ZD ?_ _|refine ZE ?_|refine ZC ?_ _));refine ZP ?_ NB1_3.out _;(with_reducible repeat(first|refine ZD ?_ _|refine ZE ?_|refine ZC ?_ _));refine ZP ?_ NB1_3.out _;(with_reducible repeat(first|refine ZD ?_ _|refine ZE ?_|refine ZC ?_ _));refine ZP ?_ NB1_3.out _;(with_reducible repeat(first|refine ZD ?_ _|refine ZE ?_|refine ZC ?_ _));exact BK1.out⟩,⟨by repeat(first|(with_reducible first|exact HB.out|apply Zo|apply Zm|apply Zp|refine Zs ?_ GE1.out|refine Zs ?_ GE3.out)|exact HB.out)⟩⟩
      ·replace c9:=Bool.eq_false_iff.mpr c9
       subst c9
       have H1:(Zaz.l0 k1 a1 l0_1 (l0_1.length:Int) (wrap64 (x10_1+1)))=some r:=by rw[if_neg (show ¬(false=true) by decide)] at H;exact H
       clear H
       have H:=H1
       clear H1
       have H':=Za H
       clear H
       have p180002:0≤(x10_1:Int):=Zd (by with_reducible assumption)
       have q2:x10_1<(l0_1.length:Int):=Zd (by with_reducible assumption)
       obtain⟨ad2,e2,hx2_0,hx2_1,hx2_2,hx2_3,hx2_4⟩:=ZbS HR0_1.out x10_1 p180002 q2
       (try rw[← Nbq8.out] at hx2_4)
       cases e2
       replace hx2_0:=(HB.out.cell (Zc w _ hx2_0)).trans hx2_0
       replace hx2_1:=(HB.out.cell (Zc w _ hx2_1)).trans hx2_1
       replace hx2_2:=(HB.out.cell (Zc w _ hx2_2)).trans hx2_2
       replace hx2_3:=(HB.out.cell (Zc w _ hx2_3)).trans hx2_3
       replace hx2_4:=(HB.out.cell (Zc w _ hx2_4)).trans hx2_4
       replace p180002:=eq_true p180002
       replace q2:=eq_true q2
       go_wp2_with (first|((with_reducible refine ZG (N:=6) rfl ?_);refine ZH ?hg (N:=6) ?hd (cs:=#[.int .i64 0,.int .i64 0,.int .i64 0,.int .i64 0,.bool false]) (t:=82) ?hr ?_;(case hd=>rfl);(case hg=>rfl);(case hr=>first|(go_simp;done)|(go_simp;rfl));intro gb3 hg w17 hbox hb;have BK3:=Za (hbox);have GW3:=Za ((by rw[hg];exact(Zv (by exact HB.out)):w.heap.size≤gb3));have GE3:=Za ((by rw[hg];exact(Zv (by exact HB.out)):w.heap.size≤gb3));have NB1_3:=Za ((by rw[hg];exact Nat.ne_of_lt (ZK (g:=gb1) (o:=.cells #[.slice A0_0 l0_0.length c0_0,.slice (some ad2) l0_1.length c0_1,.int .i64 a0_2] 25 (0,0)) (by exact BK1.out)):gb1≠gb3));have NB3_1:=Za ((by rw[hg];exact Nat.ne_of_gt (ZK (g:=gb1) (o:=.cells #[.slice A0_0 l0_0.length c0_0,.slice (some ad2) l0_1.length c0_1,.int .i64 a0_2] 25 (0,0)) (by exact BK1.out)):gb3≠gb1));replace BK1:=Za (Zw (g:=gb1) (o:=.cells #[.slice A0_0 l0_0.length c0_0,.slice (some ad2) l0_1.length c0_1,.int .i64 a0_2] 25 (0,0)) (by exact BK1.out) hb);replace HB:=Za (Zq (by exact HB.out) hb);clear hb hbox hg;have hcz19_0:w17.cell? ⟨gb3,0,none⟩=some (.int .i64 0):=(Zn BK3.out 0).trans rfl;have hcz19_1:w17.cell? ⟨gb3,1,none⟩=some (.int .i64 0):=(Zn BK3.out 1).trans rfl;have hcz19_2:w17.cell? ⟨gb3,2,none⟩=some (.int .i64 0):=(Zn BK3.out 2).trans rfl;have hcz19_3:w17.cell? ⟨gb3,3,none⟩=some (.int .i64 0):=(Zn BK3.out 3).trans rfl;have hcz19_4:w17.cell? ⟨gb3,4,none⟩=some (.bool false):=(Zn BK3.out 4).trans rfl;have hfz19_0:=Zt BK3.out 0;have hfz19_1:=Zt BK3.out 1;have hfz19_2:=Zt BK3.out 2;have hfz19_3:=Zt BK3.out 3;have hfz19_4:=Zt BK3.out 4))
       go_roundg k1
       case measure=>have:=HK1.out;omega
       case rel=>exact⟨(wrap64 (x10_1+1)),(by first|rfl|(simp;done)|(simp[*];done)),H',⟨by have:=HK1.out;omega⟩,⟨by(with_reducible repeat(first|refine ZD ?_ _|refine ZE ?_|refine ZC ?_ _));refine ZP ?_ NB1_3.out _;(with_reducible repeat(first|refine ZD ?_ _|refine ZE ?_|refine ZC ?_ _));refine ZP ?_ NB1_3.out _;(with_reducible repeat(first|refine ZD ?_ _|refine ZE ?_|refine ZC ?_ _));refine ZP ?_ NB1_3.out _;(with_reducible repeat(first|refine ZD ?_ _|refine ZE ?_|refine ZC ?_ _));refine ZP ?_ NB1_3.out _;(with_reducible repeat(first|refine ZD ?_ _|refine ZE ?_|refine ZC ?_ _));refine ZP ?_ NB1_3.out _;(with_reducible repeat(first|refine ZD ?_ _|refine ZE ?_|refine ZC ?_ _));exact BK1.out⟩,⟨by repeat(first|(with_reducible first|exact HB.out|apply Zo|apply Zm|apply Zp|refine Zs ?_ GE1.out|refine Zs ?_ GE3.out)|exact HB.out)⟩⟩
     ·rw[if_neg c7] at H
      exact absurd H (by simp)
    ·rw[if_neg c6] at H
     exact absurd H (by simp)
   ·rw[if_neg c5] at H
    have c5b0:decide (x10_1<(l0_1.length:Int))=false:=Zf c5
    clear c5
    obtain rfl:=Zg H
    go_wp2
    go_ret
    exact⟨by first|rfl|(simp[ZB,ZA] <;> rfl)|(simp[*,ZB,ZA] <;> rfl),by repeat(first|(with_reducible first|exact HB.out|apply Zo|apply Zm|apply Zp|refine Zs ?_ GE1.out)|exact HB.out)⟩
def Z1.l0:Nat→Int→List (S39)→Int→Int→Option (Int)
 | 0,_,_,_,_=>none
 | k+1,x1,x8,x9,x10=>if x10<x9 then(if 0≤x10 then(if x10<(x8.length:Int) then(if ((ZI x8 x10).f2)=x1 then(some x10) else(Z1.l0 k x1 x8 x9 (wrap64 (x10+1)))) else(none)) else(none)) else(some (-1))
def Z1.f (k:Nat) (l0_0:List (S39)) (l0_1:List (S82)) (a0_2:Int) (a1:Int):Option (Int):=Z1.l0 k a1 l0_0 (l0_0.length:Int) 0
theorem Z1.calls (k:Nat) (A0_0:Option Addr) (c0_0:Nat) (l0_0:List (S39)) (A0_1:Option Addr) (c0_1:Nat) (l0_1:List (S82)) (a0_2:Int) (a1:Int) (r:Int) (w:World) (hr0_0:Kd.C k39 w A0_0 l0_0.length l0_0) (hc0_0:l0_0.length≤c0_0) (hr0_1:Kd.C k82 w A0_1 l0_1.length l0_1) (hc0_1:l0_1.length≤c0_1) (h:Z1.f k l0_0 l0_1 a0_2 a1=some r) :
  Calls Tryz.prog 97 #[.agg #[.slice A0_0 l0_0.length c0_0,.slice A0_1 l0_1.length c0_1,.int .i64 a0_2],.int .i64 a1] w fun e w'=>e=.returned (.int .i64 r)∧Below w.heap.size w w':=by
 have hu25:=Tryz.underlying25
 have hu39:=Tryz.underlying39
 have HR0_0:=Za hr0_0;have HC0_0:=Za hc0_0;clear hr0_0 hc0_0;have HR0_1:=Za hr0_1;have HC0_1:=Za hc0_1;clear hr0_1 hc0_1
 have HB:=Za (Below.refl w.heap.size w)
 have H:(Z1.l0 k a1 l0_0 (l0_0.length:Int) 0)=some r:=h
 clear h
 have H':=Za H
 clear H
 go_enter Tryz.func97,Tryz.ntmps97
 go_wp2_with (first|((with_reducible refine ZG (N:=2) rfl ?_);refine ZH ?hg (N:=2) ?hd (cs:=#[.slice A0_0 l0_0.length c0_0,.slice A0_1 l0_1.length c0_1,.int .i64 a0_2]) (t:=25) ?hr ?_;(case hd=>rfl);(case hg=>rfl);(case hr=>first|(go_simp;done)|(go_simp;rfl));intro gb1 hg w3 hbox hb;have BK1:=Za (hbox);have GW1:=Za ((by rw[hg];exact(Zv (by exact HB.out)):w.heap.size≤gb1));have GE1:=Za ((by rw[hg];exact(Zv (by exact HB.out)):w.heap.size≤gb1));replace HB:=Za (Zq (by exact HB.out) hb);clear hb hbox hg;have hcz4_0:w3.cell? ⟨gb1,0,none⟩=some (.slice A0_0 l0_0.length c0_0):=(Zn BK1.out 0).trans rfl;have hcz4_1:w3.cell? ⟨gb1,1,none⟩=some (.slice A0_1 l0_1.length c0_1):=(Zn BK1.out 1).trans rfl;have hcz4_2:w3.cell? ⟨gb1,2,none⟩=some (.int .i64 a0_2):=(Zn BK1.out 2).trans rfl;have hfz4_0:=Zt BK1.out 0;have hfz4_1:=Zt BK1.out 1;have hfz4_2:=Zt BK1.out 2))
 go_loopg [10] k (fun kq v10 w'=>∃(x10_1:Int),v10=.int .i64 x10_1∧Aside0 (Z1.l0 kq a1 l0_0 (l0_0.length:Int) x10_1=some r)∧Aside0 (kq≤k)∧Aside0 (w'.heap[gb1]? = some (.cells #[(.slice A0_0 l0_0.length c0_0),(.slice A0_1 l0_1.length c0_1),.int .i64 a0_2] 25 (0,0)))∧Aside0 (Below w.heap.size w w'))
 case atStart=>exact⟨(0),(by first|rfl|(simp;done)|(simp[*];done)),H',⟨Nat.le_refl _⟩,⟨by(with_reducible repeat(first|refine ZD ?_ _|refine ZE ?_|refine ZC ?_ _));exact BK1.out⟩,⟨by repeat(first|(with_reducible first|exact HB.out|apply Zo|apply Zm|apply Zp|refine Zs ?_ GE1.out)|exact HB.out)⟩⟩
 case round=>
  clear H'
  try clear p2
  try clear hcz4_0
  try clear hcz4_1
  try clear hcz4_2
  try clear hfz4_0
  try clear hfz4_1
  try clear hfz4_2
  obtain⟨x10_1,rfl,HA,HK1,BK1,HB⟩:=hrel
  cases gk with
  | zero=>exact absurd HA.out (by simp[Z1.l0])
  | succ k1=>
   have H:=HA.out
   clear HA
   simp only[Z1.l0] at H
   by_cases c5:x10_1<(l0_0.length:Int)
   ·rw[if_pos c5] at H
    have c5b0:decide (x10_1<(l0_0.length:Int))=true:=Ze c5
    clear c5
    by_cases c6:0≤x10_1
    ·rw[if_pos c6] at H
     have c6b0:decide (0≤x10_1)=true:=Ze c6
     clear c6
     by_cases c7:x10_1<(l0_0.length:Int)
     ·rw[if_pos c7] at H
      have c7b0:decide (x10_1<(l0_0.length:Int))=true:=Ze c7
      clear c7
      by_cases c8:((ZI l0_0 x10_1).f2)=a1
      ·rw[if_pos c8] at H
       have c8b0:(((ZI l0_0 x10_1).f2) == a1)=true:=beq_iff_eq.mpr c8
       clear c8
       obtain rfl:=Zg H
       have p97002:0≤(x10_1:Int):=Zd (by with_reducible assumption)
       have q2:x10_1<(l0_0.length:Int):=Zd (by with_reducible assumption)
       obtain⟨ad2,A2_1,c2_1,e2,hx2_0,hx2_1,hx2_2,hl2_1,hi2_1⟩:=ZaS HR0_0.out x10_1 p97002 q2
       cases e2
       replace hx2_0:=(HB.out.cell (Zc w _ hx2_0)).trans hx2_0
       replace hx2_1:=(HB.out.cell (Zc w _ hx2_1)).trans hx2_1
       replace hx2_2:=(HB.out.cell (Zc w _ hx2_2)).trans hx2_2
       have HR2_1:=Za hi2_1;have HC2_1:=Za hl2_1;clear hi2_1 hl2_1
       replace p97002:=eq_true p97002
       replace q2:=eq_true q2
       go_wp2_with (first|((with_reducible refine ZG (N:=6) rfl ?_);refine ZH ?hg (N:=6) ?hd (cs:=#[.string (⟨#[]⟩:ByteArray),.slice none 0 0,.int .i64 0]) (t:=39) ?hr ?_;(case hd=>rfl);(case hg=>rfl);(case hr=>first|(go_simp;done)|(go_simp;rfl));intro gb3 hg w9 hbox hb;have BK3:=Za (hbox);have GW3:=Za ((by rw[hg];exact(Zv (by exact HB.out)):w.heap.size≤gb3));have GE3:=Za ((by rw[hg];exact(Zv (by exact HB.out)):w.heap.size≤gb3));have NB1_3:=Za ((by rw[hg];exact Nat.ne_of_lt (ZK (g:=gb1) (o:=.cells #[.slice (some ad2) l0_0.length c0_0,.slice A0_1 l0_1.length c0_1,.int .i64 a0_2] 25 (0,0)) (by exact BK1.out)):gb1≠gb3));have NB3_1:=Za ((by rw[hg];exact Nat.ne_of_gt (ZK (g:=gb1) (o:=.cells #[.slice (some ad2) l0_0.length c0_0,.slice A0_1 l0_1.length c0_1,.int .i64 a0_2] 25 (0,0)) (by exact BK1.out)):gb3≠gb1));replace BK1:=Za (Zw (g:=gb1) (o:=.cells #[.slice (some ad2) l0_0.length c0_0,.slice A0_1 l0_1.length c0_1,.int .i64 a0_2] 25 (0,0)) (by exact BK1.out) hb);replace HB:=Za (Zq (by exact HB.out) hb);clear hb hbox hg;have hcz11_0:w9.cell? ⟨gb3,0,none⟩=some (.string (⟨#[]⟩:ByteArray)):=(Zn BK3.out 0).trans rfl;have hcz11_1:w9.cell? ⟨gb3,1,none⟩=some (.slice none 0 0):=(Zn BK3.out 1).trans rfl;have hcz11_2:w9.cell? ⟨gb3,2,none⟩=some (.int .i64 0):=(Zn BK3.out 2).trans rfl;have hfz11_0:=Zt BK3.out 0;have hfz11_1:=Zt BK3.out 1;have hfz11_2:=Zt BK3.out 2))
       go_ret
       exact⟨by first|rfl|(simp[ZB,ZA] <;> rfl)|(simp[*,ZB,ZA] <;> rfl),by repeat(first|(with_reducible first|exact HB.out|apply Zo|apply Zm|apply Zp|refine Zs ?_ GE1.out|refine Zs ?_ GE3.out)|exact HB.out)⟩
      ·rw[if_neg c8] at H
       have c8b0:(((ZI l0_0 x10_1).f2) == a1)=false:=beq_eq_false_iff_ne.mpr c8
       have H':=Za H
       clear H
       have p97002:0≤(x10_1:Int):=Zd (by with_reducible assumption)
       have q2:x10_1<(l0_0.length:Int):=Zd (by with_reducible assumption)
       obtain⟨ad2,A2_1,c2_1,e2,hx2_0,hx2_1,hx2_2,hl2_1,hi2_1⟩:=ZaS HR0_0.out x10_1 p97002 q2
       cases e2
       replace hx2_0:=(HB.out.cell (Zc w _ hx2_0)).trans hx2_0
       replace hx2_1:=(HB.out.cell (Zc w _ hx2_1)).trans hx2_1
       replace hx2_2:=(HB.out.cell (Zc w _ hx2_2)).trans hx2_2
       have HR2_1:=Za hi2_1;have HC2_1:=Za hl2_1;clear hi2_1 hl2_1
       replace p97002:=eq_true p97002
       replace q2:=eq_true q2
       go_wp2_with (first|((with_reducible refine ZG (N:=6) rfl ?_);refine ZH ?hg (N:=6) ?hd (cs:=#[.string (⟨#[]⟩:ByteArray),.slice none 0 0,.int .i64 0]) (t:=39) ?hr ?_;(case hd=>rfl);(case hg=>rfl);(case hr=>first|(go_simp;done)|(go_simp;rfl));intro gb3 hg w12 hbox hb;have BK3:=Za (hbox);have GW3:=Za ((by rw[hg];exact(Zv (by exact HB.out)):w.heap.size≤gb3));have GE3:=Za ((by rw[hg];exact(Zv (by exact HB.out)):w.heap.size≤gb3));have NB1_3:=Za ((by rw[hg];exact Nat.ne_of_lt (ZK (g:=gb1) (o:=.cells #[.slice (some ad2) l0_0.length c0_0,.slice A0_1 l0_1.length c0_1,.int .i64 a0_2] 25 (0,0)) (by exact BK1.out)):gb1≠gb3));have NB3_1:=Za ((by rw[hg];exact Nat.ne_of_gt (ZK (g:=gb1) (o:=.cells #[.slice (some ad2) l0_0.length c0_0,.slice A0_1 l0_1.length c0_1,.int .i64 a0_2] 25 (0,0)) (by exact BK1.out)):gb3≠gb1));replace BK1:=Za (Zw (g:=gb1) (o:=.cells #[.slice (some ad2) l0_0.length c0_0,.slice A0_1 l0_1.length c0_1,.int .i64 a0_2] 25 (0,0)) (by exact BK1.out) hb);replace HB:=Za (Zq (by exact HB.out) hb);clear hb hbox hg;have hcz14_0:w12.cell? ⟨gb3,0,none⟩=some (.string (⟨#[]⟩:ByteArray)):=(Zn BK3.out 0).trans rfl;have hcz14_1:w12.cell? ⟨gb3,1,none⟩=some (.slice none 0 0):=(Zn BK3.out 1).trans rfl;have hcz14_2:w12.cell? ⟨gb3,2,none⟩=some (.int .i64 0):=(Zn BK3.out 2).trans rfl;have hfz14_0:=Zt BK3.out 0;have hfz14_1:=Zt BK3.out 1;have hfz14_2:=Zt BK3.out 2))
       go_roundg k1
       case measure=>have:=HK1.out;omega
       case rel=>exact⟨(wrap64 (x10_1+1)),(by first|rfl|(simp;done)|(simp[*];done)),H',⟨by have:=HK1.out;omega⟩,⟨by(with_reducible repeat(first|refine ZD ?_ _|refine ZE ?_|refine ZC ?_ _));refine ZP ?_ NB1_3.out _;(with_reducible repeat(first|refine ZD ?_ _|refine ZE ?_|refine ZC ?_ _));refine ZP ?_ NB1_3.out _;(with_reducible repeat(first|refine ZD ?_ _|refine ZE ?_|refine ZC ?_ _));refine ZP ?_ NB1_3.out _;(with_reducible repeat(first|refine ZD ?_ _|refine ZE ?_|refine ZC ?_ _));exact BK1.out⟩,⟨by repeat(first|(with_reducible first|exact HB.out|apply Zo|apply Zm|apply Zp|refine Zs ?_ GE1.out|refine Zs ?_ GE3.out)|exact HB.out)⟩⟩
     ·rw[if_neg c7] at H
      exact absurd H (by simp)
    ·rw[if_neg c6] at H
     exact absurd H (by simp)
   ·rw[if_neg c5] at H
    have c5b0:decide (x10_1<(l0_0.length:Int))=false:=Zf c5
    clear c5
    obtain rfl:=Zg H
    go_wp2
    go_ret
    exact⟨by first|rfl|(simp[ZB,ZA] <;> rfl)|(simp[*,ZB,ZA] <;> rfl),by repeat(first|(with_reducible first|exact HB.out|apply Zo|apply Zm|apply Zp|refine Zs ?_ GE1.out)|exact HB.out)⟩
def Zdb (ts:List PTie) (node:Int):Int:=Za9 (fun t=>t.f4 && decide (t.f1=node)) ts
def Zci (ns:List ZM) (p:Int):Int:=Za9 (fun n=>decide (n.f2=p)) ns
def inB (a b c:Int):Bool:=decide (b≤a) && decide (a≤c)
theorem l01In_f (a b c:Int):ZU.f a b c=some (inB a b c):=by
 unfold ZU.f inB
 by_cases h:a≥b
 ·rw[if_pos h,Ze (show b≤a from h),Bool.true_and]
 ·rw[if_neg h,Zf (show ¬b≤a from h),Bool.false_and]
theorem l08Free_f (ns:List ZM) (ts:List PTie) (z:Int) (node:Int) (hl:ts.length≤9223372036854775807) (k:Nat) (hk:2 ^ 64≤k):Zaz.f k ns ts z node=some (Zdb ts node):=by
 have key:=Za2 ts.length (fun k i=>(∀j y,j<i→ts[j]? = some y→(y.f4 && decide (y.f1=node))=false)→Zaz.l0 k node ts ts.length (i:Int)=some (Zdb ts node)) 0
  (fun k _ hb=>by
   simp only[Zaz.l0]
   rw[if_neg (by omega),Zdb,ZbX _ _ hb])
  (fun k i _ hi ih hb=>by
   simp only[Zaz.l0]
   have next:((ts.getD i z82).f4 && decide ((ts.getD i z82).f1=node))=false→Zaz.l0 k node ts ts.length ((i+1:Nat):Int)=some (Zdb ts node):=fun h=>ih (by
    intro j y hj hy
    by_cases e:j=i
    ·subst e
     rw[getD_some hi z82] at hy
     cases hy
     exact h
    ·exact hb j y (by omega) hy)
   rw[if_pos (by omega),if_pos (by omega),if_pos (by omega),Zem,ZL hi (by omega)]
   by_cases h:(ts.getD i z82).f4=true
   ·rw[if_pos h]
    by_cases h2:(ts.getD i z82).f1=node
    ·rw[if_pos h2,Zdb,Zb1 _ ts i _ (getD_some hi z82) (by rw[h,Ze h2];rfl) hb]
    ·rw[if_neg h2,next (by rw[Zf h2,Bool.and_false])]
   ·rw[if_neg h,next (by rw[Bool.eq_false_iff.2 h,Bool.false_and])]) 0 k (Nat.zero_le _) (by omega)
 unfold Zaz.f
 exact key (fun j y hj=>absurd hj (by omega))
theorem ZcW (ns:List ZM) (ts:List PTie) (z:Int) (p:Int) (hl:ns.length≤9223372036854775807) (k:Nat) (hk:2 ^ 64≤k):Z1.f k ns ts z p=some (Zci ns p):=by
 have key:=Za2 ns.length (fun k i=>(∀j y,j<i→ns[j]? = some y→decide (y.f2=p)=false)→Z1.l0 k p ns ns.length (i:Int)=some (Zci ns p)) 0
  (fun k _ hb=>by
   simp only[Z1.l0]
   rw[if_neg (by omega),Zci,ZbX _ _ hb])
  (fun k i _ hi ih hb=>by
   simp only[Z1.l0]
   rw[if_pos (by omega),if_pos (by omega),if_pos (by omega),Zcn,ZL hi (by omega)]
   by_cases h:(ns.getD i z39).f2=p
   ·rw[if_pos h,Zci,Zb1 _ ns i _ (getD_some hi z39) (Ze h) hb]
   ·rw[if_neg h,ih]
    intro j y hj hy
    by_cases e:j=i
    ·subst e
     rw[getD_some hi z39] at hy
     cases hy
     exact Zf h
    ·exact hb j y (by omega) hy) 0 k (Nat.zero_le _) (by omega)
 unfold Z1.f
 exact key (fun j y hj=>absurd hj (by omega))
def fitN (ns:List ZM):Bool:=ns.all fun n=>decide (n.f0.size≤9223372036854775807) && decide (n.f1.length≤9223372036854775807)
theorem fitN_iff {ns:List ZM} (h:fitN ns=true):∀n∈ns,n.f0.size≤9223372036854775807∧n.f1.length≤9223372036854775807:=fun n hn=>by
 have:=List.all_eq_true.1 h n hn
 simpa using this
theorem showCell0 (w:World) (x y z:Value) (t:TypeId):(w.alloc (.cells #[x,y,z] t)).cell? ⟨w.heap.size,0,none⟩=some x:=by go_simp
theorem showCell1 (w:World) (x y z:Value) (t:TypeId):(w.alloc (.cells #[x,y,z] t)).cell? ⟨w.heap.size,1,none⟩=some y:=by go_simp
theorem showCell2 (w:World) (x y z:Value) (t:TypeId):(w.alloc (.cells #[x,y,z] t)).cell? ⟨w.heap.size,2,none⟩=some z:=by go_simp
theorem Zbu (a b c:Int) (w:World):Calls Tryz.prog 127 #[.int .i64 a,.int .i64 b,.int .i64 c] w fun e w'=>e=.returned (.bool (inB a b c))∧∃n,w'=w.drewN n:=
 (ZU.calls a b c _ w (l01In_f a b c)).mono fun _ _ ⟨he,hd⟩=>⟨he,hd.out⟩
theorem quietX {P:Program} {f:FuncId} {args:Array Value} {W:World} {a x:Nat} {v:Value} (h:Calls P f args (W.drewN (a+x)) fun e w'=>e=.returned v∧∃m,w'=(W.drewN (a+x)).drewN m):Calls P f args (W.drewN (a+x)) fun e w''=>e=.returned v∧∃n,w''=W.drewN (a+n):=
 h.mono fun _ _ ⟨he,m,hm⟩=>⟨he,x+m,by rw[hm,World.drewN_drewN,Nat.add_assoc]⟩
theorem quiet0 {P:Program} {f:FuncId} {args:Array Value} {W:World} {x:Nat} {v:Value} (h:Calls P f args (W.drewN x) fun e w'=>e=.returned v∧∃m,w'=(W.drewN x).drewN m):Calls P f args (W.drewN x) fun e w''=>e=.returned v∧∃n,w''=W.drewN n:=
 h.mono fun _ _ ⟨he,m,hm⟩=>⟨he,x+m,by rw[hm,World.drewN_drewN]⟩
def ZaD.l0:Nat→ByteArray→Int→Option (Bool)
 | 0,_,_=>none
 | k+1,x0,x3=>if x3<(x0.size:Int) then(if 0≤x3 then(if (bt x0 x3)≥97 then(if ((bt x0 x3)≤122) then(ZaD.l0 k x0 (wrap64 (x3+1))) else(if x3=0 then(some false) else(if (bt x0 x3)<48 then(some false) else(if (bt x0 x3) > 57 then(some false) else(ZaD.l0 k x0 (wrap64 (x3+1))))))) else(if x3=0 then(some false) else(if (bt x0 x3)<48 then(some false) else(if (bt x0 x3) > 57 then(some false) else(ZaD.l0 k x0 (wrap64 (x3+1))))))) else(none)) else((ZU.f (x0.size:Int) 1 8).bind fun t1=>(some t1))
def ZaD.f (k:Nat) (a0:ByteArray):Option (Bool):=ZaD.l0 k a0 0
theorem ZaD.calls (k:Nat) (a0:ByteArray) (r:Bool) (w:World) (h:ZaD.f k a0=some r) :
  Calls Tryz.prog 206 #[.string a0] w fun e w'=>e=.returned (.bool r)∧ZF w w':=by
 have H:(ZaD.l0 k a0 0)=some r:=h
 clear h
 have H':=Za H
 clear H
 go_enter Tryz.func206,Tryz.ntmps206
 go_wp2
 go_loopg [3] k (fun kq v3 w'=>∃(x3_1:Int),v3=.int .i64 x3_1∧Aside0 (ZaD.l0 kq a0 x3_1=some r)∧Aside0 (kq≤k)∧ZF w w')
 case atStart=>exact⟨(0),(by first|rfl|(simp;done)|(simp[*];done)),H',⟨Nat.le_refl _⟩,by repeat(first|exact ZF.refl _|apply ZF.step)⟩
 case round=>
  clear H'
  obtain⟨x3_1,rfl,HA,HK1,⟨m1,rfl⟩⟩:=hrel
  cases gk with
  | zero=>exact absurd HA.out (by simp[ZaD.l0])
  | succ k1=>
   have H:=HA.out
   clear HA
   simp only[ZaD.l0] at H
   by_cases c2:x3_1<(a0.size:Int)
   ·rw[if_pos c2] at H
    have c2b0:decide (x3_1<(a0.size:Int))=true:=Ze c2
    clear c2
    by_cases c3:0≤x3_1
    ·rw[if_pos c3] at H
     have c3b0:decide (0≤x3_1)=true:=Ze c3
     clear c3
     by_cases c5:(bt a0 x3_1)≥97
     ·rw[if_pos c5] at H
      have c5b0:decide (97≤(bt a0 x3_1))=true:=Ze c5
      clear c5
      by_cases c7:((bt a0 x3_1)≤122)
      ·rw[if_pos c7] at H
       have c7b0:decide ((bt a0 x3_1)≤122)=true:=Ze c7
       clear c7
       have H':=Za H
       clear H
       have p4:0≤(x3_1:Int):=Zd (by with_reducible assumption)
       have q4:x3_1<(a0.size:Int):=Zd (by with_reducible assumption)
       have hx4:=Zah a0 x3_1
       replace p4:=eq_true p4
       replace q4:=eq_true q4
       have p6:0≤(x3_1:Int):=Zd (by with_reducible assumption)
       have q6:x3_1<(a0.size:Int):=Zd (by with_reducible assumption)
       have hx6:=Zah a0 x3_1
       replace p6:=eq_true p6
       replace q6:=eq_true q6
       go_wp2
       go_roundg k1
       case measure=>have:=HK1.out;omega
       case rel=>exact⟨(wrap64 (x3_1+1)),(by first|rfl|(simp;done)|(simp[*];done)),H',⟨by have:=HK1.out;omega⟩,by repeat(first|exact ZF.refl _|apply ZF.step)⟩
      ·rw[if_neg c7] at H
       have c7b0:decide ((bt a0 x3_1)≤122)=false:=Zf c7
       clear c7
       by_cases c8:x3_1=0
       ·rw[if_pos c8] at H
        have c8b0:(x3_1 == 0)=true:=beq_iff_eq.mpr c8
        clear c8
        obtain rfl:=Zg H
        have p4:0≤(x3_1:Int):=Zd (by with_reducible assumption)
        have q4:x3_1<(a0.size:Int):=Zd (by with_reducible assumption)
        have hx4:=Zah a0 x3_1
        replace p4:=eq_true p4
        replace q4:=eq_true q4
        have p6:0≤(x3_1:Int):=Zd (by with_reducible assumption)
        have q6:x3_1<(a0.size:Int):=Zd (by with_reducible assumption)
        have hx6:=Zah a0 x3_1
        replace p6:=eq_true p6
        replace q6:=eq_true q6
        go_wp2
        go_ret
        exact⟨by first|rfl|(simp;done)|(simp[*];done),by repeat(first|exact ZF.refl _|apply ZF.step)⟩
       ·rw[if_neg c8] at H
        have c8b0:(x3_1 == 0)=false:=beq_eq_false_iff_ne.mpr c8
        by_cases c10:(bt a0 x3_1)<48
        ·rw[if_pos c10] at H
         have c10b0:decide ((bt a0 x3_1)<48)=true:=Ze c10
         clear c10
         obtain rfl:=Zg H
         have p4:0≤(x3_1:Int):=Zd (by with_reducible assumption)
         have q4:x3_1<(a0.size:Int):=Zd (by with_reducible assumption)
         have hx4:=Zah a0 x3_1
         replace p4:=eq_true p4
         replace q4:=eq_true q4
         have p6:0≤(x3_1:Int):=Zd (by with_reducible assumption)
         have q6:x3_1<(a0.size:Int):=Zd (by with_reducible assumption)
         have hx6:=Zah a0 x3_1
         replace p6:=eq_true p6
         replace q6:=eq_true q6
         have p9:0≤(x3_1:Int):=Zd (by with_reducible assumption)
         have q9:x3_1<(a0.size:Int):=Zd (by with_reducible assumption)
         have hx9:=Zah a0 x3_1
         replace p9:=eq_true p9
         replace q9:=eq_true q9
         go_wp2
         go_ret
         exact⟨by first|rfl|(simp;done)|(simp[*];done),by repeat(first|exact ZF.refl _|apply ZF.step)⟩
        ·rw[if_neg c10] at H
         have c10b0:decide ((bt a0 x3_1)<48)=false:=Zf c10
         clear c10
         by_cases c12:(bt a0 x3_1) > 57
         ·rw[if_pos c12] at H
          have c12b0:decide (57<(bt a0 x3_1))=true:=Ze c12
          clear c12
          obtain rfl:=Zg H
          have p4:0≤(x3_1:Int):=Zd (by with_reducible assumption)
          have q4:x3_1<(a0.size:Int):=Zd (by with_reducible assumption)
          have hx4:=Zah a0 x3_1
          replace p4:=eq_true p4
          replace q4:=eq_true q4
          have p6:0≤(x3_1:Int):=Zd (by with_reducible assumption)
          have q6:x3_1<(a0.size:Int):=Zd (by with_reducible assumption)
          have hx6:=Zah a0 x3_1
          replace p6:=eq_true p6
          replace q6:=eq_true q6
          have p9:0≤(x3_1:Int):=Zd (by with_reducible assumption)
          have q9:x3_1<(a0.size:Int):=Zd (by with_reducible assumption)
          have hx9:=Zah a0 x3_1
          replace p9:=eq_true p9
          replace q9:=eq_true q9
          have p11:0≤(x3_1:Int):=Zd (by with_reducible assumption)
          have q11:x3_1<(a0.size:Int):=Zd (by with_reducible assumption)
          have hx11:=Zah a0 x3_1
          replace p11:=eq_true p11
          replace q11:=eq_true q11
          go_wp2
          go_ret
          exact⟨by first|rfl|(simp;done)|(simp[*];done),by repeat(first|exact ZF.refl _|apply ZF.step)⟩
         ·rw[if_neg c12] at H
          have c12b0:decide (57<(bt a0 x3_1))=false:=Zf c12
          clear c12
          have H':=Za H
          clear H
          have p4:0≤(x3_1:Int):=Zd (by with_reducible assumption)
          have q4:x3_1<(a0.size:Int):=Zd (by with_reducible assumption)
          have hx4:=Zah a0 x3_1
          replace p4:=eq_true p4
          replace q4:=eq_true q4
          have p6:0≤(x3_1:Int):=Zd (by with_reducible assumption)
          have q6:x3_1<(a0.size:Int):=Zd (by with_reducible assumption)
          have hx6:=Zah a0 x3_1
          replace p6:=eq_true p6
          replace q6:=eq_true q6
          have p9:0≤(x3_1:Int):=Zd (by with_reducible assumption)
          have q9:x3_1<(a0.size:Int):=Zd (by with_reducible assumption)
          have hx9:=Zah a0 x3_1
          replace p9:=eq_true p9
          replace q9:=eq_true q9
          have p11:0≤(x3_1:Int):=Zd (by with_reducible assumption)
          have q11:x3_1<(a0.size:Int):=Zd (by with_reducible assumption)
          have hx11:=Zah a0 x3_1
          replace p11:=eq_true p11
          replace q11:=eq_true q11
          go_wp2
          go_roundg k1
          case measure=>have:=HK1.out;omega
          case rel=>exact⟨(wrap64 (x3_1+1)),(by first|rfl|(simp;done)|(simp[*];done)),H',⟨by have:=HK1.out;omega⟩,by repeat(first|exact ZF.refl _|apply ZF.step)⟩
     ·rw[if_neg c5] at H
      have c5b0:decide (97≤(bt a0 x3_1))=false:=Zf c5
      clear c5
      by_cases c13:x3_1=0
      ·rw[if_pos c13] at H
       have c13b0:(x3_1 == 0)=true:=beq_iff_eq.mpr c13
       clear c13
       obtain rfl:=Zg H
       have p4:0≤(x3_1:Int):=Zd (by with_reducible assumption)
       have q4:x3_1<(a0.size:Int):=Zd (by with_reducible assumption)
       have hx4:=Zah a0 x3_1
       replace p4:=eq_true p4
       replace q4:=eq_true q4
       go_wp2
       go_ret
       exact⟨by first|rfl|(simp;done)|(simp[*];done),by repeat(first|exact ZF.refl _|apply ZF.step)⟩
      ·rw[if_neg c13] at H
       have c13b0:(x3_1 == 0)=false:=beq_eq_false_iff_ne.mpr c13
       by_cases c15:(bt a0 x3_1)<48
       ·rw[if_pos c15] at H
        have c15b0:decide ((bt a0 x3_1)<48)=true:=Ze c15
        clear c15
        obtain rfl:=Zg H
        have p4:0≤(x3_1:Int):=Zd (by with_reducible assumption)
        have q4:x3_1<(a0.size:Int):=Zd (by with_reducible assumption)
        have hx4:=Zah a0 x3_1
        replace p4:=eq_true p4
        replace q4:=eq_true q4
        have p14:0≤(x3_1:Int):=Zd (by with_reducible assumption)
        have q14:x3_1<(a0.size:Int):=Zd (by with_reducible assumption)
        have hx14:=Zah a0 x3_1
        replace p14:=eq_true p14
        replace q14:=eq_true q14
        go_wp2
        go_ret
        exact⟨by first|rfl|(simp;done)|(simp[*];done),by repeat(first|exact ZF.refl _|apply ZF.step)⟩
       ·rw[if_neg c15] at H
        have c15b0:decide ((bt a0 x3_1)<48)=false:=Zf c15
        clear c15
        by_cases c17:(bt a0 x3_1) > 57
        ·rw[if_pos c17] at H
         have c17b0:decide (57<(bt a0 x3_1))=true:=Ze c17
         clear c17
         obtain rfl:=Zg H
         have p4:0≤(x3_1:Int):=Zd (by with_reducible assumption)
         have q4:x3_1<(a0.size:Int):=Zd (by with_reducible assumption)
         have hx4:=Zah a0 x3_1
         replace p4:=eq_true p4
         replace q4:=eq_true q4
         have p14:0≤(x3_1:Int):=Zd (by with_reducible assumption)
         have q14:x3_1<(a0.size:Int):=Zd (by with_reducible assumption)
         have hx14:=Zah a0 x3_1
         replace p14:=eq_true p14
         replace q14:=eq_true q14
         have p16:0≤(x3_1:Int):=Zd (by with_reducible assumption)
         have q16:x3_1<(a0.size:Int):=Zd (by with_reducible assumption)
         have hx16:=Zah a0 x3_1
         replace p16:=eq_true p16
         replace q16:=eq_true q16
         go_wp2
         go_ret
         exact⟨by first|rfl|(simp;done)|(simp[*];done),by repeat(first|exact ZF.refl _|apply ZF.step)⟩
        ·rw[if_neg c17] at H
         have c17b0:decide (57<(bt a0 x3_1))=false:=Zf c17
         clear c17
         have H':=Za H
         clear H
         have p4:0≤(x3_1:Int):=Zd (by with_reducible assumption)
         have q4:x3_1<(a0.size:Int):=Zd (by with_reducible assumption)
         have hx4:=Zah a0 x3_1
         replace p4:=eq_true p4
         replace q4:=eq_true q4
         have p14:0≤(x3_1:Int):=Zd (by with_reducible assumption)
         have q14:x3_1<(a0.size:Int):=Zd (by with_reducible assumption)
         have hx14:=Zah a0 x3_1
         replace p14:=eq_true p14
         replace q14:=eq_true q14
         have p16:0≤(x3_1:Int):=Zd (by with_reducible assumption)
         have q16:x3_1<(a0.size:Int):=Zd (by with_reducible assumption)
         have hx16:=Zah a0 x3_1
         replace p16:=eq_true p16
         replace q16:=eq_true q16
         go_wp2
         go_roundg k1
         case measure=>have:=HK1.out;omega
         case rel=>exact⟨(wrap64 (x3_1+1)),(by first|rfl|(simp;done)|(simp[*];done)),H',⟨by have:=HK1.out;omega⟩,by repeat(first|exact ZF.refl _|apply ZF.step)⟩
    ·rw[if_neg c3] at H
     exact absurd H (by simp)
   ·rw[if_neg c2] at H
    have c2b0:decide (x3_1<(a0.size:Int))=false:=Zf c2
    clear c2
    replace H:=Zh H
    obtain⟨t1,A180,H⟩:=H;have A18:=Za A180;clear A180
    obtain rfl:=Zg H
    go_wp2_with (first|((with_reducible refine ZJ (f:=127) rfl ?_);refine ZY (some 41) rfl rfl Tryz.func127 (by kernel_rfl) rfl #[.int .i64 (a0.size:Int),.int .i64 1,.int .i64 8] rfl (by(try simp only[List.map_toArray,List.map_cons,List.map_nil]);first|done|rfl|(simp only[Zk,Zj];rfl)) ?_;(with_reducible refine(ZU.calls (a0.size:Int) 1 8 t1 _ A18.out).mono ?_);rintro e w' ⟨rfl,⟨nd,rfl⟩⟩;refine⟨_,rfl,?_⟩))
    go_ret
    exact⟨by first|rfl|(simp;done)|(simp[*];done),by repeat(first|exact ZF.refl _|apply ZF.step)⟩
def Zav.l0:Nat→ByteArray→Int→Option (Bool)
 | 0,_,_=>none
 | k+1,x0,x3=>if x3<(x0.size:Int) then(if 0≤x3 then(if (bt x0 x3)≥97 then(if (bt x0 x3)≥48 then(if ((bt x0 x3)≤122) then(Zav.l0 k x0 (wrap64 (x3+1))) else(if ((bt x0 x3)≤57) then(if x3=0 then(some false) else(Zav.l0 k x0 (wrap64 (x3+1)))) else(some false))) else(if ((bt x0 x3)≤122) then(Zav.l0 k x0 (wrap64 (x3+1))) else(some false))) else(if (bt x0 x3)≥48 then(if ((bt x0 x3)≤57) then(if x3=0 then(some false) else(Zav.l0 k x0 (wrap64 (x3+1)))) else(some false)) else(some false))) else(none)) else(if (x0.size:Int)≥1 then(some (decide ((x0.size:Int)≤8))) else(some false))
def Zav.f (k:Nat) (a0:ByteArray):Option (Bool):=Zav.l0 k a0 0
theorem Zav.calls (k:Nat) (a0:ByteArray) (r:Bool) (w:World) (h:Zav.f k a0=some r) :
  Calls Tryz.prog 86 #[.string a0] w fun e w'=>e=.returned (.bool r)∧ZF w w':=by
 have H:(Zav.l0 k a0 0)=some r:=h
 clear h
 have H':=Za H
 clear H
 go_enter Tryz.func86,Tryz.ntmps86
 go_wp2
 repeat(go_quiet (fail);try go_wp2)
 go_loopg [3] k (fun kq v3 w'=>∃(x3_1:Int),v3=.int .i64 x3_1∧Aside0 (Zav.l0 kq a0 x3_1=some r)∧Aside0 (kq≤k)∧ZF w w')
 case atStart=>exact⟨(0),(by first|rfl|(simp;done)|(simp[*];done)),H',⟨Nat.le_refl _⟩,by repeat(first|exact ZF.refl _|apply ZF.step)⟩
 case round=>
  clear H'
  obtain⟨x3_1,rfl,HA,HK1,⟨m1,rfl⟩⟩:=hrel
  cases gk with
  | zero=>exact absurd HA.out (by simp[Zav.l0])
  | succ k1=>
   have H:=HA.out
   clear HA
   simp only[Zav.l0] at H
   by_cases c2:x3_1<(a0.size:Int)
   ·rw[if_pos c2] at H
    have c2b0:decide (x3_1<(a0.size:Int))=true:=Ze c2
    clear c2
    by_cases c3:0≤x3_1
    ·rw[if_pos c3] at H
     have c3b0:decide (0≤x3_1)=true:=Ze c3
     clear c3
     by_cases c5:(bt a0 x3_1)≥97
     ·rw[if_pos c5] at H
      have c5b0:decide (97≤(bt a0 x3_1))=true:=Ze c5
      clear c5
      by_cases c8:(bt a0 x3_1)≥48
      ·rw[if_pos c8] at H
       have c8b0:decide (48≤(bt a0 x3_1))=true:=Ze c8
       clear c8
       by_cases c10:((bt a0 x3_1)≤122)
       ·rw[if_pos c10] at H
        have c10b0:decide ((bt a0 x3_1)≤122)=true:=Ze c10
        clear c10
        have H':=Za H
        clear H
        have p4:0≤(x3_1:Int):=Zd (by with_reducible assumption)
        have q4:x3_1<(a0.size:Int):=Zd (by with_reducible assumption)
        have hx4:=Zah a0 x3_1
        replace p4:=eq_true p4
        replace q4:=eq_true q4
        have p6:0≤(x3_1:Int):=Zd (by with_reducible assumption)
        have q6:x3_1<(a0.size:Int):=Zd (by with_reducible assumption)
        have hx6:=Zah a0 x3_1
        replace p6:=eq_true p6
        replace q6:=eq_true q6
        have p7:0≤(x3_1:Int):=Zd (by with_reducible assumption)
        have q7:x3_1<(a0.size:Int):=Zd (by with_reducible assumption)
        have hx7:=Zah a0 x3_1
        replace p7:=eq_true p7
        replace q7:=eq_true q7
        have p9:0≤(x3_1:Int):=Zd (by with_reducible assumption)
        have q9:x3_1<(a0.size:Int):=Zd (by with_reducible assumption)
        have hx9:=Zah a0 x3_1
        replace p9:=eq_true p9
        replace q9:=eq_true q9
        go_wp2
        repeat(go_quiet (fail);try go_wp2)
        go_roundg k1
        case measure=>have:=HK1.out;omega
        case rel=>exact⟨(wrap64 (x3_1+1)),(by first|rfl|(simp;done)|(simp[*];done)),H',⟨by have:=HK1.out;omega⟩,by repeat(first|exact ZF.refl _|apply ZF.step)⟩
       ·rw[if_neg c10] at H
        have c10b0:decide ((bt a0 x3_1)≤122)=false:=Zf c10
        clear c10
        by_cases c11:((bt a0 x3_1)≤57)
        ·rw[if_pos c11] at H
         have c11b0:decide ((bt a0 x3_1)≤57)=true:=Ze c11
         clear c11
         by_cases c12:x3_1=0
         ·rw[if_pos c12] at H
          have c12b0:(x3_1 == 0)=true:=beq_iff_eq.mpr c12
          clear c12
          obtain rfl:=Zg H
          have p4:0≤(x3_1:Int):=Zd (by with_reducible assumption)
          have q4:x3_1<(a0.size:Int):=Zd (by with_reducible assumption)
          have hx4:=Zah a0 x3_1
          replace p4:=eq_true p4
          replace q4:=eq_true q4
          have p6:0≤(x3_1:Int):=Zd (by with_reducible assumption)
          have q6:x3_1<(a0.size:Int):=Zd (by with_reducible assumption)
          have hx6:=Zah a0 x3_1
          replace p6:=eq_true p6
          replace q6:=eq_true q6
          have p7:0≤(x3_1:Int):=Zd (by with_reducible assumption)
          have q7:x3_1<(a0.size:Int):=Zd (by with_reducible assumption)
          have hx7:=Zah a0 x3_1
          replace p7:=eq_true p7
          replace q7:=eq_true q7
          have p9:0≤(x3_1:Int):=Zd (by with_reducible assumption)
          have q9:x3_1<(a0.size:Int):=Zd (by with_reducible assumption)
          have hx9:=Zah a0 x3_1
          replace p9:=eq_true p9
          replace q9:=eq_true q9
          go_wp2
          repeat(go_quiet (fail);try go_wp2)
          go_ret
          exact⟨by first|rfl|(simp;done)|(simp[*];done),by repeat(first|exact ZF.refl _|apply ZF.step)⟩
         ·rw[if_neg c12] at H
          have c12b0:(x3_1 == 0)=false:=beq_eq_false_iff_ne.mpr c12
          have H':=Za H
          clear H
          have p4:0≤(x3_1:Int):=Zd (by with_reducible assumption)
          have q4:x3_1<(a0.size:Int):=Zd (by with_reducible assumption)
          have hx4:=Zah a0 x3_1
          replace p4:=eq_true p4
          replace q4:=eq_true q4
          have p6:0≤(x3_1:Int):=Zd (by with_reducible assumption)
          have q6:x3_1<(a0.size:Int):=Zd (by with_reducible assumption)
          have hx6:=Zah a0 x3_1
          replace p6:=eq_true p6
          replace q6:=eq_true q6
          have p7:0≤(x3_1:Int):=Zd (by with_reducible assumption)
          have q7:x3_1<(a0.size:Int):=Zd (by with_reducible assumption)
          have hx7:=Zah a0 x3_1
          replace p7:=eq_true p7
          replace q7:=eq_true q7
          have p9:0≤(x3_1:Int):=Zd (by with_reducible assumption)
          have q9:x3_1<(a0.size:Int):=Zd (by with_reducible assumption)
          have hx9:=Zah a0 x3_1
          replace p9:=eq_true p9
          replace q9:=eq_true q9
          go_wp2
          repeat(go_quiet (fail);try go_wp2)
          go_roundg k1
          case measure=>have:=HK1.out;omega
          case rel=>exact⟨(wrap64 (x3_1+1)),(by first|rfl|(simp;done)|(simp[*];done)),H',⟨by have:=HK1.out;omega⟩,by repeat(first|exact ZF.refl _|apply ZF.step)⟩
        ·rw[if_neg c11] at H
         have c11b0:decide ((bt a0 x3_1)≤57)=false:=Zf c11
         clear c11
         obtain rfl:=Zg H
         have p4:0≤(x3_1:Int):=Zd (by with_reducible assumption)
         have q4:x3_1<(a0.size:Int):=Zd (by with_reducible assumption)
         have hx4:=Zah a0 x3_1
         replace p4:=eq_true p4
         replace q4:=eq_true q4
         have p6:0≤(x3_1:Int):=Zd (by with_reducible assumption)
         have q6:x3_1<(a0.size:Int):=Zd (by with_reducible assumption)
         have hx6:=Zah a0 x3_1
         replace p6:=eq_true p6
         replace q6:=eq_true q6
         have p7:0≤(x3_1:Int):=Zd (by with_reducible assumption)
         have q7:x3_1<(a0.size:Int):=Zd (by with_reducible assumption)
         have hx7:=Zah a0 x3_1
         replace p7:=eq_true p7
         replace q7:=eq_true q7
         have p9:0≤(x3_1:Int):=Zd (by with_reducible assumption)
         have q9:x3_1<(a0.size:Int):=Zd (by with_reducible assumption)
         have hx9:=Zah a0 x3_1
         replace p9:=eq_true p9
         replace q9:=eq_true q9
         go_wp2
         repeat(go_quiet (fail);try go_wp2)
         go_ret
         exact⟨by first|rfl|(simp;done)|(simp[*];done),by repeat(first|exact ZF.refl _|apply ZF.step)⟩
      ·rw[if_neg c8] at H
       have c8b0:decide (48≤(bt a0 x3_1))=false:=Zf c8
       clear c8
       by_cases c13:((bt a0 x3_1)≤122)
       ·rw[if_pos c13] at H
        have c13b0:decide ((bt a0 x3_1)≤122)=true:=Ze c13
        clear c13
        have H':=Za H
        clear H
        have p4:0≤(x3_1:Int):=Zd (by with_reducible assumption)
        have q4:x3_1<(a0.size:Int):=Zd (by with_reducible assumption)
        have hx4:=Zah a0 x3_1
        replace p4:=eq_true p4
        replace q4:=eq_true q4
        have p6:0≤(x3_1:Int):=Zd (by with_reducible assumption)
        have q6:x3_1<(a0.size:Int):=Zd (by with_reducible assumption)
        have hx6:=Zah a0 x3_1
        replace p6:=eq_true p6
        replace q6:=eq_true q6
        have p7:0≤(x3_1:Int):=Zd (by with_reducible assumption)
        have q7:x3_1<(a0.size:Int):=Zd (by with_reducible assumption)
        have hx7:=Zah a0 x3_1
        replace p7:=eq_true p7
        replace q7:=eq_true q7
        go_wp2
        repeat(go_quiet (fail);try go_wp2)
        go_roundg k1
        case measure=>have:=HK1.out;omega
        case rel=>exact⟨(wrap64 (x3_1+1)),(by first|rfl|(simp;done)|(simp[*];done)),H',⟨by have:=HK1.out;omega⟩,by repeat(first|exact ZF.refl _|apply ZF.step)⟩
       ·rw[if_neg c13] at H
        have c13b0:decide ((bt a0 x3_1)≤122)=false:=Zf c13
        clear c13
        obtain rfl:=Zg H
        have p4:0≤(x3_1:Int):=Zd (by with_reducible assumption)
        have q4:x3_1<(a0.size:Int):=Zd (by with_reducible assumption)
        have hx4:=Zah a0 x3_1
        replace p4:=eq_true p4
        replace q4:=eq_true q4
        have p6:0≤(x3_1:Int):=Zd (by with_reducible assumption)
        have q6:x3_1<(a0.size:Int):=Zd (by with_reducible assumption)
        have hx6:=Zah a0 x3_1
        replace p6:=eq_true p6
        replace q6:=eq_true q6
        have p7:0≤(x3_1:Int):=Zd (by with_reducible assumption)
        have q7:x3_1<(a0.size:Int):=Zd (by with_reducible assumption)
        have hx7:=Zah a0 x3_1
        replace p7:=eq_true p7
        replace q7:=eq_true q7
        go_wp2
        repeat(go_quiet (fail);try go_wp2)
        go_ret
        exact⟨by first|rfl|(simp;done)|(simp[*];done),by repeat(first|exact ZF.refl _|apply ZF.step)⟩
     ·rw[if_neg c5] at H
      have c5b0:decide (97≤(bt a0 x3_1))=false:=Zf c5
      clear c5
      by_cases c15:(bt a0 x3_1)≥48
      ·rw[if_pos c15] at H
       have c15b0:decide (48≤(bt a0 x3_1))=true:=Ze c15
       clear c15
       by_cases c17:((bt a0 x3_1)≤57)
       ·rw[if_pos c17] at H
        have c17b0:decide ((bt a0 x3_1)≤57)=true:=Ze c17
        clear c17
        by_cases c18:x3_1=0
        ·rw[if_pos c18] at H
         have c18b0:(x3_1 == 0)=true:=beq_iff_eq.mpr c18
         clear c18
         obtain rfl:=Zg H
         have p4:0≤(x3_1:Int):=Zd (by with_reducible assumption)
         have q4:x3_1<(a0.size:Int):=Zd (by with_reducible assumption)
         have hx4:=Zah a0 x3_1
         replace p4:=eq_true p4
         replace q4:=eq_true q4
         have p14:0≤(x3_1:Int):=Zd (by with_reducible assumption)
         have q14:x3_1<(a0.size:Int):=Zd (by with_reducible assumption)
         have hx14:=Zah a0 x3_1
         replace p14:=eq_true p14
         replace q14:=eq_true q14
         have p16:0≤(x3_1:Int):=Zd (by with_reducible assumption)
         have q16:x3_1<(a0.size:Int):=Zd (by with_reducible assumption)
         have hx16:=Zah a0 x3_1
         replace p16:=eq_true p16
         replace q16:=eq_true q16
         go_wp2
         repeat(go_quiet (fail);try go_wp2)
         go_ret
         exact⟨by first|rfl|(simp;done)|(simp[*];done),by repeat(first|exact ZF.refl _|apply ZF.step)⟩
        ·rw[if_neg c18] at H
         have c18b0:(x3_1 == 0)=false:=beq_eq_false_iff_ne.mpr c18
         have H':=Za H
         clear H
         have p4:0≤(x3_1:Int):=Zd (by with_reducible assumption)
         have q4:x3_1<(a0.size:Int):=Zd (by with_reducible assumption)
         have hx4:=Zah a0 x3_1
         replace p4:=eq_true p4
         replace q4:=eq_true q4
         have p14:0≤(x3_1:Int):=Zd (by with_reducible assumption)
         have q14:x3_1<(a0.size:Int):=Zd (by with_reducible assumption)
         have hx14:=Zah a0 x3_1
         replace p14:=eq_true p14
         replace q14:=eq_true q14
         have p16:0≤(x3_1:Int):=Zd (by with_reducible assumption)
         have q16:x3_1<(a0.size:Int):=Zd (by with_reducible assumption)
         have hx16:=Zah a0 x3_1
         replace p16:=eq_true p16
         replace q16:=eq_true q16
         go_wp2
         repeat(go_quiet (fail);try go_wp2)
         go_roundg k1
         case measure=>have:=HK1.out;omega
         case rel=>exact⟨(wrap64 (x3_1+1)),(by first|rfl|(simp;done)|(simp[*];done)),H',⟨by have:=HK1.out;omega⟩,by repeat(first|exact ZF.refl _|apply ZF.step)⟩
       ·rw[if_neg c17] at H
        have c17b0:decide ((bt a0 x3_1)≤57)=false:=Zf c17
        clear c17
        obtain rfl:=Zg H
        have p4:0≤(x3_1:Int):=Zd (by with_reducible assumption)
        have q4:x3_1<(a0.size:Int):=Zd (by with_reducible assumption)
        have hx4:=Zah a0 x3_1
        replace p4:=eq_true p4
        replace q4:=eq_true q4
        have p14:0≤(x3_1:Int):=Zd (by with_reducible assumption)
        have q14:x3_1<(a0.size:Int):=Zd (by with_reducible assumption)
        have hx14:=Zah a0 x3_1
        replace p14:=eq_true p14
        replace q14:=eq_true q14
        have p16:0≤(x3_1:Int):=Zd (by with_reducible assumption)
        have q16:x3_1<(a0.size:Int):=Zd (by with_reducible assumption)
        have hx16:=Zah a0 x3_1
        replace p16:=eq_true p16
        replace q16:=eq_true q16
        go_wp2
        repeat(go_quiet (fail);try go_wp2)
        go_ret
        exact⟨by first|rfl|(simp;done)|(simp[*];done),by repeat(first|exact ZF.refl _|apply ZF.step)⟩
      ·rw[if_neg c15] at H
       have c15b0:decide (48≤(bt a0 x3_1))=false:=Zf c15
       clear c15
       obtain rfl:=Zg H
       have p4:0≤(x3_1:Int):=Zd (by with_reducible assumption)
       have q4:x3_1<(a0.size:Int):=Zd (by with_reducible assumption)
       have hx4:=Zah a0 x3_1
       replace p4:=eq_true p4
       replace q4:=eq_true q4
       have p14:0≤(x3_1:Int):=Zd (by with_reducible assumption)
       have q14:x3_1<(a0.size:Int):=Zd (by with_reducible assumption)
       have hx14:=Zah a0 x3_1
       replace p14:=eq_true p14
       replace q14:=eq_true q14
       go_wp2
       repeat(go_quiet (fail);try go_wp2)
       go_ret
       exact⟨by first|rfl|(simp;done)|(simp[*];done),by repeat(first|exact ZF.refl _|apply ZF.step)⟩
    ·rw[if_neg c3] at H
     exact absurd H (by simp)
   ·rw[if_neg c2] at H
    have c2b0:decide (x3_1<(a0.size:Int))=false:=Zf c2
    clear c2
    by_cases c19:(a0.size:Int)≥1
    ·rw[if_pos c19] at H
     have c19b0:decide (1≤(a0.size:Int))=true:=Ze c19
     clear c19
     obtain rfl:=Zg H
     go_wp2
     repeat(go_quiet (fail);try go_wp2)
     go_ret
     exact⟨by first|rfl|(simp;done)|(simp[*];done),by repeat(first|exact ZF.refl _|apply ZF.step)⟩
    ·rw[if_neg c19] at H
     have c19b0:decide (1≤(a0.size:Int))=false:=Zf c19
     clear c19
     obtain rfl:=Zg H
     go_wp2
     repeat(go_quiet (fail);try go_wp2)
     go_ret
     exact⟨by first|rfl|(simp;done)|(simp[*];done),by repeat(first|exact ZF.refl _|apply ZF.step)⟩
def chB (s:ByteArray) (i:Nat):Bool:=(decide (97≤bt s i) && decide (bt s i≤122)) || (decide (0<i) && decide (48≤bt s i) && decide (bt s i≤57))
def chsB (s:ByteArray) (i:Nat):Nat→Bool
 | 0=>true
 | d+1=>chB s i && chsB s (i+1) d
def nameB (s:ByteArray):Bool:=chsB s 0 s.size && (decide (1≤s.size) && decide (s.size≤8))
theorem ZgF (s:ByteArray) (hs:s.size≤9223372036854775807) (k:Nat) (hk:2 ^ 64≤k):ZaD.f k s=some (nameB s):=by
 have key:=Za2 s.size (fun k i=>ZaD.l0 k s (i:Int)=some (chsB s i (s.size - i) && (decide (1≤s.size) && decide (s.size≤8)))) 0
  (fun k _=>by
   simp only[ZaD.l0]
   rw[if_neg (by omega),Nat.sub_self]
   unfold ZU.f chsB
   by_cases h1:1≤s.size
   ·rw[if_pos (by omega),Ze h1]
    simp only[Zi,Bool.true_and]
    congr 1
    rw[Bool.eq_iff_iff];simp;omega
   ·rw[if_neg (by omega),Zf h1];rfl)
  (fun k i _ hi ih=>by
   simp only[ZaD.l0]
   rw[if_pos (by omega),if_pos (by omega),ZL hi (by omega),ih,show chsB s i (s.size - i)=(chB s i && chsB s (i+1) (s.size - (i+1))) by rw[show s.size - i=(s.size - (i+1))+1 by omega];rfl]
   have hF:chB s i=false→(chB s i && chsB s (i+1) (s.size - (i+1)) && (decide (1≤s.size) && decide (s.size≤8)))=false:=fun h=>by rw[h];rfl
   have hT:chB s i=true→(chB s i && chsB s (i+1) (s.size - (i+1)) && (decide (1≤s.size) && decide (s.size≤8)))=(chsB s (i+1) (s.size - (i+1)) && (decide (1≤s.size) && decide (s.size≤8))):=fun h=>by rw[h,Bool.true_and]
   generalize hc:bt s (i:Int)=c at *
   have hch:chB s i=((decide (97≤c) && decide (c≤122)) || (decide (0<i) && decide (48≤c) && decide (c≤57))):=by unfold chB;rw[hc]
   by_cases a1:c≥97
   ·rw[if_pos a1]
    by_cases a2:c≤122
    ·rw[if_pos a2,hT (by rw[hch];simp;omega)]
    ·rw[if_neg a2,hF (by rw[hch];simp;omega)]
     split
     ·rfl
     ·split
      ·rfl
      ·rw[if_pos (by omega)]
   ·rw[if_neg a1]
    by_cases b0:(i:Int)=0
    ·rw[if_pos b0,hF (by rw[hch];simp;omega)]
    ·rw[if_neg b0]
     by_cases b1:c<48
     ·rw[if_pos b1,hF (by rw[hch];simp;omega)]
     ·rw[if_neg b1]
      by_cases b2:c > 57
      ·rw[if_pos b2,hF (by rw[hch];simp;omega)]
      ·rw[if_neg b2,hT (by rw[hch];simp;omega)]) 0 k (Nat.zero_le _) (by omega)
 unfold ZaD.f nameB
 simpa using key
theorem ZgQ (s:ByteArray) (hs:s.size≤9223372036854775807) (k:Nat) (hk:2 ^ 64≤k):Zav.f k s=some (nameB s):=by
 have key:=Za2 s.size (fun k i=>Zav.l0 k s (i:Int)=some (chsB s i (s.size - i) && (decide (1≤s.size) && decide (s.size≤8)))) 0
  (fun k _=>by
   simp only[Zav.l0]
   rw[if_neg (by omega),Nat.sub_self]
   unfold chsB
   by_cases h1:1≤s.size
   ·rw[if_pos (by omega),Ze h1]
    simp only[Bool.true_and]
    congr 1
    rw[Bool.eq_iff_iff];simp;omega
   ·rw[if_neg (by omega),Zf h1];rfl)
  (fun k i _ hi ih=>by
   simp only[Zav.l0]
   rw[if_pos (by omega),if_pos (by omega),ZL hi (by omega),ih,show chsB s i (s.size - i)=(chB s i && chsB s (i+1) (s.size - (i+1))) by rw[show s.size - i=(s.size - (i+1))+1 by omega];rfl]
   have hF:chB s i=false→(chB s i && chsB s (i+1) (s.size - (i+1)) && (decide (1≤s.size) && decide (s.size≤8)))=false:=fun h=>by rw[h];rfl
   have hT:chB s i=true→(chB s i && chsB s (i+1) (s.size - (i+1)) && (decide (1≤s.size) && decide (s.size≤8)))=(chsB s (i+1) (s.size - (i+1)) && (decide (1≤s.size) && decide (s.size≤8))):=fun h=>by rw[h,Bool.true_and]
   generalize hc:bt s (i:Int)=c at *
   have hch:chB s i=((decide (97≤c) && decide (c≤122)) || (decide (0<i) && decide (48≤c) && decide (c≤57))):=by unfold chB;rw[hc]
   by_cases a1:c≥97
   ·rw[if_pos a1,if_pos (by omega)]
    by_cases a2:c≤122
    ·rw[if_pos a2,hT (by rw[hch];simp;omega)]
    ·rw[if_neg a2,if_neg (by omega),hF (by rw[hch];simp;omega)]
   ·rw[if_neg a1]
    by_cases b1:c≥48
    ·rw[if_pos b1]
     by_cases b2:c≤57
     ·rw[if_pos b2]
      by_cases b0:(i:Int)=0
      ·rw[if_pos b0,hF (by rw[hch];simp;omega)]
      ·rw[if_neg b0,hT (by rw[hch];simp;omega)]
     ·rw[if_neg b2,hF (by rw[hch];simp;omega)]
    ·rw[if_neg b1,hF (by rw[hch];simp;omega)]) 0 k (Nat.zero_le _) (by omega)
 unfold Zav.f nameB
 simpa using key
def ZaA.f (a0:Int):Option (Int):=if a0<0 then(some (wrap64 (-a0))) else(some a0)
theorem ZaA.calls (a0:Int) (r:Int) (w:World) (h:ZaA.f a0=some r) :
  Calls Tryz.prog 98 #[.int .i64 a0] w fun e w'=>e=.returned (.int .i64 r)∧ZF w w':=by
 have H:(if a0<0 then(some (wrap64 (-a0))) else(some a0))=some r:=h
 clear h
 by_cases c2:a0<0
 ·rw[if_pos c2] at H
  have c2b0:decide (a0<0)=true:=Ze c2
  clear c2
  obtain rfl:=Zg H
  go_enter Tryz.func98,Tryz.ntmps98
  go_wp2
  go_ret
  exact⟨by first|rfl|(simp;done)|(simp[*];done),by repeat(first|exact ZF.refl _|apply ZF.step)⟩
 ·rw[if_neg c2] at H
  have c2b0:decide (a0<0)=false:=Zf c2
  clear c2
  obtain rfl:=Zg H
  go_enter Tryz.func98,Tryz.ntmps98
  go_wp2
  go_ret
  exact⟨by first|rfl|(simp;done)|(simp[*];done),by repeat(first|exact ZF.refl _|apply ZF.step)⟩
end Go.Proofs.YtoeimopgoaffcaaGreatDoor.Pr
