/- By a program of this session. -/
import Derived.Test.YtoeimopgoaffcaaGreatDoorBBec1x1
namespace Go.Proofs.YtoeimopgoaffcaaGreatDoor.Pr
open RowKit YtoeimopgoaffcaaGreatDoorW.PrintWords YtoeimopgoaffcaaGreatDoorW.PrintLast YtoeimopgoaffcaaGreatDoorW.PrintMore
attribute [local go_sem] Zau Zas ZaL ZaK Zaf Zae Zat Zar
set_option linter.unusedVariables false
set_option linter.unusedSimpArgs false
def Zab.l0:Nat→List Int→List (S82)→Int→Int→Option (List Int)
 | 0,_,_,_,_=>none
 | k+1,x3,x8,x9,x10=>if x10<x9 then(if 0≤x10 then(if x10<(x8.length:Int) then(if (Zu x8 x10).f4=true then(if x3.length<17592186044416 then(Zab.l0 k (x3 ++ [x10]) x8 x9 (wrap64 (x10+1))) else(none)) else(Zab.l0 k x3 x8 x9 (wrap64 (x10+1)))) else(none)) else(none)) else(some x3)
def Zab.f (k:Nat) (l0_0:List (S39)) (l0_1:List (S82)) (a0_2:Int):Option (List Int):=Zab.l0 k (([]:List Int)) l0_1 (l0_1.length:Int) 0
set_option maxHeartbeats 8000000 in
set_option maxRecDepth 100000 in
theorem Zab.calls (k:Nat) (A0_0:Option Addr) (c0_0:Nat) (l0_0:List (S39)) (A0_1:Option Addr) (c0_1:Nat) (l0_1:List (S82)) (a0_2:Int) (r:List Int) (w:World) (hr0_0:Kd.C k39 w A0_0 l0_0.length l0_0) (hc0_0:l0_0.length≤c0_0) (hr0_1:Kd.C k82 w A0_1 l0_1.length l0_1) (hc0_1:l0_1.length≤c0_1) (h:Zab.f k l0_0 l0_1 a0_2=some r) :
  Calls Tryz.prog 156 #[.agg #[.slice A0_0 l0_0.length c0_0,.slice A0_1 l0_1.length c0_1,.int .i64 a0_2]] w fun e w'=>∃v0_:Value,e=.returned (v0_)∧Kd.R (Kd.int .i64) 3 w' w.heap.size (fun _=>True) v0_ r∧Below w.heap.size w w':=by
 have hu25:=Tryz.underlying25
 have hu82:=Tryz.underlying82
 have HR0_0:=Za hr0_0;have HC0_0:=Za hc0_0;clear hr0_0 hc0_0;have HR0_1:=Za hr0_1;have HC0_1:=Za hc0_1;clear hr0_1 hc0_1
 have HB:=Za (Below.refl w.heap.size w)
 have H:(Zab.l0 k (([]:List Int)) l0_1 (l0_1.length:Int) 0)=some r:=h
 clear h
 obtain⟨y2,hy2⟩:∃y_:List Int,y_=(([]:List Int)):=⟨_,rfl⟩
 replace H:(Zab.l0 k y2 l0_1 (l0_1.length:Int) 0)=some r:=by first|(rw[hy2];with_reducible exact H)|(have H2_:=(Zi _ _).symm.trans H;rw[hy2];with_reducible exact H2_)|(have H2_:=(Zi _ _).symm.trans H;with_reducible exact H2_)|with_reducible exact H|(rw[hy2];exact H)|exact H
 have Ny2:=Za hy2;clear hy2
 have H':=Za H
 clear H
 go_enter Tryz.func156,Tryz.ntmps156
 go_wp2_with (first|((with_reducible refine ZG (N:=1) rfl ?_);refine ZH ?hg (N:=1) ?hd (cs:=#[.slice A0_0 l0_0.length c0_0,.slice A0_1 l0_1.length c0_1,.int .i64 a0_2]) (t:=25) ?hr ?_;(case hd=>rfl);(case hg=>rfl);(case hr=>first|(go_simp;done)|(go_simp;rfl));intro gb1 hg w2 hbox hb;have BK1:=Za (hbox);have GW1:=Za ((by rw[hg];exact(Zv (by repeat(first|(with_reducible first|exact HB.out|apply Zo|apply Zm|apply Zp)|exact HB.out))):w.heap.size≤gb1));have GE1:=Za ((by rw[hg];exact(Zv (by repeat(first|(with_reducible first|exact HB.out|apply Zo|apply Zm|apply Zp)|exact HB.out))):w.heap.size≤gb1));replace HB:=Za (Zq (by repeat(first|(with_reducible first|exact HB.out|apply Zo|apply Zm|apply Zp)|exact HB.out)) hb);clear hb hbox hg)|((with_reducible refine ZG (N:=6) rfl ?_);refine Kd.R_lit (Kd.int .i64) _ 3 ?hg (N:=6) ?hd (xs:=([]:List Int)) (inner:=[]) (ok:=fun _=>True) (okp:=fun _=>True) ?hr ?hp (fun _ hk=>hk) trivial (Below.refl _ _) (Nat.le_refl _) (by simp) ?_;(case hd=>rfl);(case hg=>rfl);(case hr=>first|(go_simp;done)|(go_simp;rfl));(case hp=>exact(Reps.none _ _));intro v156003 w3 ho4 hb hg_ hnew_;clear hg_ hnew_;(first|rw[← Ny2.out] at ho4|(simp only[Int.reduceToNat] at ho4;rw[← Ny2.out] at ho4));have HO4:=Za (Kd.R_lower ho4 (Zv (by repeat(first|(with_reducible first|exact HB.out|apply Zo|apply Zm|apply Zp|refine Zs ?_ GE1.out)|exact HB.out))));replace BK1:=Za (Zw (g:=gb1) (o:=.cells #[.slice A0_0 l0_0.length c0_0,.slice A0_1 l0_1.length c0_1,.int .i64 a0_2] 25 (0,0)) (by(with_reducible repeat(first|refine ZD ?_ _|refine ZE ?_|refine ZC ?_ _));exact BK1.out) hb);replace HB:=Za (Zq (by repeat(first|(with_reducible first|exact HB.out|apply Zo|apply Zm|apply Zp|refine Zs ?_ GE1.out)|exact HB.out)) hb);clear hb ho4;have hcz5_0:w3.cell? ⟨gb1,0,none⟩=some (.slice A0_0 l0_0.length c0_0):=(Zn BK1.out 0).trans rfl;have hcz5_1:w3.cell? ⟨gb1,1,none⟩=some (.slice A0_1 l0_1.length c0_1):=(Zn BK1.out 1).trans rfl;have hcz5_2:w3.cell? ⟨gb1,2,none⟩=some (.int .i64 a0_2):=(Zn BK1.out 2).trans rfl;have hfz5_0:=Zt BK1.out 0;have hfz5_1:=Zt BK1.out 1;have hfz5_2:=Zt BK1.out 2))
 go_loopg [3,10] k (fun kq v3 v10 w'=>∃(x3_1:List Int) (x10_1:Int),v10=.int .i64 x10_1∧Aside0 (Zab.l0 kq x3_1 l0_1 (l0_1.length:Int) x10_1=some r)∧Aside0 (kq≤k)∧Aside0 (Kd.R (Kd.int .i64) 3 w' w.heap.size (fun _=>True) v3 x3_1)∧Aside0 (w'.heap[gb1]? = some (.cells #[(.slice A0_0 l0_0.length c0_0),(.slice A0_1 l0_1.length c0_1),.int .i64 a0_2] 25 (0,0)))∧Aside0 (Below w.heap.size w w'))
 case atStart=>exact⟨(y2),(0),(by first|rfl|(simp;done)|(simp[*];done)),H',⟨Nat.le_refl _⟩,⟨by(with_reducible repeat(first|apply Kd.R_alloc|apply Kd.R_drewN|apply Kd.R_drew));exact HO4.out⟩,⟨by(with_reducible repeat(first|refine ZD ?_ _|refine ZE ?_|refine ZC ?_ _));exact BK1.out⟩,⟨by repeat(first|(with_reducible first|exact HB.out|apply Zo|apply Zm|apply Zp|refine Zs ?_ GE1.out)|exact HB.out)⟩⟩
 case round=>
  clear H'
  try clear c1
  try clear p2
  try clear hcz5_0
  try clear hcz5_1
  try clear hcz5_2
  try clear hfz5_0
  try clear hfz5_1
  try clear hfz5_2
  obtain⟨x3_1,x10_1,rfl,HA,HK1,HO_3,BK1,HB⟩:=hrel
  cases gk with
  | zero=>exact absurd HA.out (by simp[Zab.l0])
  | succ k1=>
   have H:=HA.out
   clear HA
   simp only[Zab.l0] at H
   by_cases c6:x10_1<(l0_1.length:Int)
   ·rw[if_pos c6] at H
    have c6b0:decide (x10_1<(l0_1.length:Int))=true:=Ze c6
    clear c6
    by_cases c7:0≤x10_1
    ·rw[if_pos c7] at H
     have c7b0:decide (0≤x10_1)=true:=Ze c7
     clear c7
     by_cases c8:x10_1<(l0_1.length:Int)
     ·rw[if_pos c8] at H
      have c8b0:decide (x10_1<(l0_1.length:Int))=true:=Ze c8
      clear c8
      obtain⟨bq9,hbq9⟩:∃b_:Bool,b_=((Zu l0_1 x10_1).f4):=⟨_,rfl⟩
      replace H:(if bq9=true then(if x3_1.length<17592186044416 then(Zab.l0 k1 (x3_1 ++ [x10_1]) l0_1 (l0_1.length:Int) (wrap64 (x10_1+1))) else(none)) else(Zab.l0 k1 x3_1 l0_1 (l0_1.length:Int) (wrap64 (x10_1+1))))=some r:=by rw[← hbq9] at H;exact H
      have Nbq9:=Za hbq9;clear hbq9
      by_cases c10:bq9=true
      ·subst c10
       rw[if_pos rfl] at H
       by_cases c11:x3_1.length<17592186044416
       ·rw[if_pos c11] at H
        have LMc11:=Za c11;clear c11
        obtain⟨y7,hy7⟩:∃y_:List Int,y_=(x3_1 ++ [x10_1]):=⟨_,rfl⟩
        replace H:(Zab.l0 k1 y7 l0_1 (l0_1.length:Int) (wrap64 (x10_1+1)))=some r:=by first|(rw[hy7];with_reducible exact H)|(have H2_:=(Zi _ _).symm.trans H;rw[hy7];with_reducible exact H2_)|(have H2_:=(Zi _ _).symm.trans H;with_reducible exact H2_)|with_reducible exact H|(rw[hy7];exact H)|exact H
        have Ny7:=Za hy7;clear hy7
        have H':=Za H
        clear H
        have p5:0≤(x10_1:Int):=Zd (by first|(with_reducible assumption)|assumption)
        have q5:x10_1<(l0_1.length:Int):=Zd (by first|(with_reducible assumption)|assumption)
        obtain⟨ad5,e5,hx5_0,hx5_1,hx5_2,hx5_3,hx5_4⟩:=ZbS HR0_1.out x10_1 p5 q5
        (try rw[← Nbq9.out] at hx5_4)
        cases e5
        replace hx5_0:=(HB.out.cell (Zc w _ hx5_0)).trans hx5_0
        replace hx5_1:=(HB.out.cell (Zc w _ hx5_1)).trans hx5_1
        replace hx5_2:=(HB.out.cell (Zc w _ hx5_2)).trans hx5_2
        replace hx5_3:=(HB.out.cell (Zc w _ hx5_3)).trans hx5_3
        replace hx5_4:=(HB.out.cell (Zc w _ hx5_4)).trans hx5_4
        replace p5:=eq_true p5
        replace q5:=eq_true q5
        go_wp2_with (first|((with_reducible refine ZG (N:=5) rfl ?_);refine ZH ?hg (N:=5) ?hd (cs:=#[.int .i64 0,.int .i64 0,.int .i64 0,.int .i64 0,.bool false]) (t:=82) ?hr ?_;(case hd=>rfl);(case hg=>rfl);(case hr=>first|(go_simp;done)|(go_simp;rfl));intro gb6 hg w12 hbox hb;have BK6:=Za (hbox);have GW6:=Za ((by rw[hg];exact(Zv (by repeat(first|(with_reducible first|exact HB.out|apply Zo|apply Zm|apply Zp|refine Zs ?_ GE1.out)|exact HB.out))):w.heap.size≤gb6));have GE6:=Za ((by rw[hg];exact(Zv (by repeat(first|(with_reducible first|exact HB.out|apply Zo|apply Zm|apply Zp|refine Zs ?_ GE1.out)|exact HB.out))):w.heap.size≤gb6));have NB1_6:=Za ((by rw[hg];exact Nat.ne_of_lt (ZK (g:=gb1) (o:=.cells #[.slice A0_0 l0_0.length c0_0,.slice (some ad5) l0_1.length c0_1,.int .i64 a0_2] 25 (0,0)) (by(with_reducible repeat(first|refine ZD ?_ _|refine ZE ?_|refine ZC ?_ _));exact BK1.out)):gb1≠gb6));have NB6_1:=Za ((by rw[hg];exact Nat.ne_of_gt (ZK (g:=gb1) (o:=.cells #[.slice A0_0 l0_0.length c0_0,.slice (some ad5) l0_1.length c0_1,.int .i64 a0_2] 25 (0,0)) (by(with_reducible repeat(first|refine ZD ?_ _|refine ZE ?_|refine ZC ?_ _));exact BK1.out)):gb6≠gb1));replace HO_3:=Za (Kd.R_below (by(with_reducible repeat(first|apply Kd.R_alloc|apply Kd.R_drewN|apply Kd.R_drew));exact HO_3.out) hb);replace BK1:=Za (Zw (g:=gb1) (o:=.cells #[.slice A0_0 l0_0.length c0_0,.slice (some ad5) l0_1.length c0_1,.int .i64 a0_2] 25 (0,0)) (by(with_reducible repeat(first|refine ZD ?_ _|refine ZE ?_|refine ZC ?_ _));exact BK1.out) hb);replace HB:=Za (Zq (by repeat(first|(with_reducible first|exact HB.out|apply Zo|apply Zm|apply Zp|refine Zs ?_ GE1.out)|exact HB.out)) hb);clear hb hbox hg;have hnb13:=NB6_1.out;have hnc13:=NB1_6.out;have hcz14_0:w12.cell? ⟨gb6,0,none⟩=some (.int .i64 0):=(Zn BK6.out 0).trans rfl;have hcz14_1:w12.cell? ⟨gb6,1,none⟩=some (.int .i64 0):=(Zn BK6.out 1).trans rfl;have hcz14_2:w12.cell? ⟨gb6,2,none⟩=some (.int .i64 0):=(Zn BK6.out 2).trans rfl;have hcz14_3:w12.cell? ⟨gb6,3,none⟩=some (.int .i64 0):=(Zn BK6.out 3).trans rfl;have hcz14_4:w12.cell? ⟨gb6,4,none⟩=some (.bool false):=(Zn BK6.out 4).trans rfl;have hfz14_0:=Zt BK6.out 0;have hfz14_1:=Zt BK6.out 1;have hfz14_2:=Zt BK6.out 2;have hfz14_3:=Zt BK6.out 3;have hfz14_4:=Zt BK6.out 4)|((with_reducible refine ZT (b:=.append) (xs:=#[.tmp 17,.tmp 19]) rfl ?_);at_builtin;refine Kd.R_append (Kd.int .i64) (w0:=w) w.heap.size rfl (.tmp 17) (.tmp 19) 37 3 (.int .i64 0) 8 rfl Tryz.underlying37 ZbI rfl (by decide) (by omega) u3 x3_1 x10_1 [.int .i64 x10_1] (fun _=>True) (fun _=>False) rfl (by first|(go_simp;done)|(go_simp;rfl)) ?aP (fun _ hk=>hk.elim) ?aF ?aO ?aB ?aS ?aL ?_;(case aP=>exact rfl);(case aB=>exact(by repeat(first|(with_reducible first|exact HB.out|apply Zo|apply Zm|apply Zp|refine Zs ?_ GE1.out|refine Zs ?_ GE6.out)|exact HB.out)));(case aF=>exact(fun _ _=>trivial));(case aO=>exact(by(with_reducible repeat(first|apply Kd.R_alloc|apply Kd.R_drewN|apply Kd.R_drew));exact Kd.R_mono (Kd.R_far (p:=⟨gb6,4,none⟩) (Kd.R_far (p:=⟨gb6,3,none⟩) (Kd.R_far (p:=⟨gb6,2,none⟩) (Kd.R_far (p:=⟨gb6,1,none⟩) (Kd.R_far (p:=⟨gb6,0,none⟩) (Kd.R_types HO_3.out BK6.out (by decide)) (fun _ hk=>hk.2) (.int .i64 ((Zu l0_1 x10_1).f0))) (fun _ hk=>hk.2) (.int .i64 ((Zu l0_1 x10_1).f1))) (fun _ hk=>hk.2) (.int .i64 ((Zu l0_1 x10_1).f2))) (fun _ hk=>hk.2) (.int .i64 ((Zu l0_1 x10_1).f3))) (fun _ hk=>hk.2) (.bool true)) (fun _ hk=>trivial)));(case aS=>exact(Zv (by repeat(first|(with_reducible first|exact HB.out|apply Zo|apply Zm|apply Zp|refine Zs ?_ GE1.out|refine Zs ?_ GE6.out)|exact HB.out))));(case aL=>have:=LMc11.out;omega);intro v8 w15 ho hb hg hat;rw[← Ny7.out] at ho;have HO9:=Za (ho);replace BK1:=Za (Zak (g:=gb1) (o:=.cells #[.slice A0_0 l0_0.length c0_0,.slice (some ad5) l0_1.length c0_1,.int .i64 a0_2] 25 (0,0)) (by(with_reducible repeat(first|refine ZD ?_ _|refine ZE ?_|refine ZC ?_ _));refine ZP ?_ NB1_6.out _;(with_reducible repeat(first|refine ZD ?_ _|refine ZE ?_|refine ZC ?_ _));refine ZP ?_ NB1_6.out _;(with_reducible repeat(first|refine ZD ?_ _|refine ZE ?_|refine ZC ?_ _));refine ZP ?_ NB1_6.out _;(with_reducible repeat(first|refine ZD ?_ _|refine ZE ?_|refine ZC ?_ _));refine ZP ?_ NB1_6.out _;(with_reducible repeat(first|refine ZD ?_ _|refine ZE ?_|refine ZC ?_ _));refine ZP ?_ NB1_6.out _;(with_reducible repeat(first|refine ZD ?_ _|refine ZE ?_|refine ZC ?_ _));exact BK1.out) hg (Kd.R_ne HO_3.out BK1.out (by decide)));replace BK6:=Za (Zak (g:=gb6) (o:=.cells #[.int .i64 ((Zu l0_1 x10_1).f0),.int .i64 ((Zu l0_1 x10_1).f1),.int .i64 ((Zu l0_1 x10_1).f2),.int .i64 ((Zu l0_1 x10_1).f3),.bool true] 82 (0,0)) (by(with_reducible repeat(first|refine ZD ?_ _|refine ZE ?_|refine ZC ?_ _));refine ZW (cs:=#[.int .i64 ((Zu l0_1 x10_1).f0),.int .i64 ((Zu l0_1 x10_1).f1),.int .i64 ((Zu l0_1 x10_1).f2),.int .i64 ((Zu l0_1 x10_1).f3),.bool false]) ?_ 4 _ rfl;(with_reducible repeat(first|refine ZD ?_ _|refine ZE ?_|refine ZC ?_ _));refine ZW (cs:=#[.int .i64 ((Zu l0_1 x10_1).f0),.int .i64 ((Zu l0_1 x10_1).f1),.int .i64 ((Zu l0_1 x10_1).f2),.int .i64 0,.bool false]) ?_ 3 _ rfl;(with_reducible repeat(first|refine ZD ?_ _|refine ZE ?_|refine ZC ?_ _));refine ZW (cs:=#[.int .i64 ((Zu l0_1 x10_1).f0),.int .i64 ((Zu l0_1 x10_1).f1),.int .i64 0,.int .i64 0,.bool false]) ?_ 2 _ rfl;(with_reducible repeat(first|refine ZD ?_ _|refine ZE ?_|refine ZC ?_ _));refine ZW (cs:=#[.int .i64 ((Zu l0_1 x10_1).f0),.int .i64 0,.int .i64 0,.int .i64 0,.bool false]) ?_ 1 _ rfl;(with_reducible repeat(first|refine ZD ?_ _|refine ZE ?_|refine ZC ?_ _));refine ZW (cs:=#[.int .i64 0,.int .i64 0,.int .i64 0,.int .i64 0,.bool false]) ?_ 0 _ rfl;(with_reducible repeat(first|refine ZD ?_ _|refine ZE ?_|refine ZC ?_ _));exact BK6.out) hg (Kd.R_ne HO_3.out BK6.out (by decide)));replace HB:=Za (hb);clear HO_3;clear ho hb hg hat))
        go_roundg k1
        case measure=>have:=HK1.out;omega
        case rel=>exact⟨(y7),(wrap64 (x10_1+1)),(by first|rfl|(simp;done)|(simp[*];done)),H',⟨by have:=HK1.out;omega⟩,⟨by(with_reducible repeat(first|apply Kd.R_alloc|apply Kd.R_drewN|apply Kd.R_drew));exact HO9.out⟩,⟨by(with_reducible repeat(first|refine ZD ?_ _|refine ZE ?_|refine ZC ?_ _));exact BK1.out⟩,⟨by repeat(first|(with_reducible first|exact HB.out|apply Zo|apply Zm|apply Zp|refine Zs ?_ GE1.out|refine Zs ?_ GE6.out)|exact HB.out)⟩⟩
       ·rw[if_neg c11] at H
        exact absurd H (by simp)
      ·replace c10:=Bool.eq_false_iff.mpr c10
       subst c10
       have H1:(Zab.l0 k1 x3_1 l0_1 (l0_1.length:Int) (wrap64 (x10_1+1)))=some r:=by rw[if_neg (show ¬(false=true) by decide)] at H;exact H
       clear H
       have H:=H1
       clear H1
       have H':=Za H
       clear H
       have p5:0≤(x10_1:Int):=Zd (by first|(with_reducible assumption)|assumption)
       have q5:x10_1<(l0_1.length:Int):=Zd (by first|(with_reducible assumption)|assumption)
       obtain⟨ad5,e5,hx5_0,hx5_1,hx5_2,hx5_3,hx5_4⟩:=ZbS HR0_1.out x10_1 p5 q5
       (try rw[← Nbq9.out] at hx5_4)
       cases e5
       replace hx5_0:=(HB.out.cell (Zc w _ hx5_0)).trans hx5_0
       replace hx5_1:=(HB.out.cell (Zc w _ hx5_1)).trans hx5_1
       replace hx5_2:=(HB.out.cell (Zc w _ hx5_2)).trans hx5_2
       replace hx5_3:=(HB.out.cell (Zc w _ hx5_3)).trans hx5_3
       replace hx5_4:=(HB.out.cell (Zc w _ hx5_4)).trans hx5_4
       replace p5:=eq_true p5
       replace q5:=eq_true q5
       go_wp2_with (first|((with_reducible refine ZG (N:=5) rfl ?_);refine ZH ?hg (N:=5) ?hd (cs:=#[.int .i64 0,.int .i64 0,.int .i64 0,.int .i64 0,.bool false]) (t:=82) ?hr ?_;(case hd=>rfl);(case hg=>rfl);(case hr=>first|(go_simp;done)|(go_simp;rfl));intro gb6 hg w16 hbox hb;have BK6:=Za (hbox);have GW6:=Za ((by rw[hg];exact(Zv (by repeat(first|(with_reducible first|exact HB.out|apply Zo|apply Zm|apply Zp|refine Zs ?_ GE1.out)|exact HB.out))):w.heap.size≤gb6));have GE6:=Za ((by rw[hg];exact(Zv (by repeat(first|(with_reducible first|exact HB.out|apply Zo|apply Zm|apply Zp|refine Zs ?_ GE1.out)|exact HB.out))):w.heap.size≤gb6));have NB1_6:=Za ((by rw[hg];exact Nat.ne_of_lt (ZK (g:=gb1) (o:=.cells #[.slice A0_0 l0_0.length c0_0,.slice (some ad5) l0_1.length c0_1,.int .i64 a0_2] 25 (0,0)) (by(with_reducible repeat(first|refine ZD ?_ _|refine ZE ?_|refine ZC ?_ _));exact BK1.out)):gb1≠gb6));have NB6_1:=Za ((by rw[hg];exact Nat.ne_of_gt (ZK (g:=gb1) (o:=.cells #[.slice A0_0 l0_0.length c0_0,.slice (some ad5) l0_1.length c0_1,.int .i64 a0_2] 25 (0,0)) (by(with_reducible repeat(first|refine ZD ?_ _|refine ZE ?_|refine ZC ?_ _));exact BK1.out)):gb6≠gb1));replace HO_3:=Za (Kd.R_below (by(with_reducible repeat(first|apply Kd.R_alloc|apply Kd.R_drewN|apply Kd.R_drew));exact HO_3.out) hb);replace BK1:=Za (Zw (g:=gb1) (o:=.cells #[.slice A0_0 l0_0.length c0_0,.slice (some ad5) l0_1.length c0_1,.int .i64 a0_2] 25 (0,0)) (by(with_reducible repeat(first|refine ZD ?_ _|refine ZE ?_|refine ZC ?_ _));exact BK1.out) hb);replace HB:=Za (Zq (by repeat(first|(with_reducible first|exact HB.out|apply Zo|apply Zm|apply Zp|refine Zs ?_ GE1.out)|exact HB.out)) hb);clear hb hbox hg;have hnb17:=NB6_1.out;have hnc17:=NB1_6.out;have hcz18_0:w16.cell? ⟨gb6,0,none⟩=some (.int .i64 0):=(Zn BK6.out 0).trans rfl;have hcz18_1:w16.cell? ⟨gb6,1,none⟩=some (.int .i64 0):=(Zn BK6.out 1).trans rfl;have hcz18_2:w16.cell? ⟨gb6,2,none⟩=some (.int .i64 0):=(Zn BK6.out 2).trans rfl;have hcz18_3:w16.cell? ⟨gb6,3,none⟩=some (.int .i64 0):=(Zn BK6.out 3).trans rfl;have hcz18_4:w16.cell? ⟨gb6,4,none⟩=some (.bool false):=(Zn BK6.out 4).trans rfl;have hfz18_0:=Zt BK6.out 0;have hfz18_1:=Zt BK6.out 1;have hfz18_2:=Zt BK6.out 2;have hfz18_3:=Zt BK6.out 3;have hfz18_4:=Zt BK6.out 4))
       go_roundg k1
       case measure=>have:=HK1.out;omega
       case rel=>exact⟨(x3_1),(wrap64 (x10_1+1)),(by first|rfl|(simp;done)|(simp[*];done)),H',⟨by have:=HK1.out;omega⟩,⟨by(with_reducible repeat(first|apply Kd.R_alloc|apply Kd.R_drewN|apply Kd.R_drew));exact Kd.R_mono (Kd.R_far (p:=⟨gb6,4,none⟩) (Kd.R_far (p:=⟨gb6,3,none⟩) (Kd.R_far (p:=⟨gb6,2,none⟩) (Kd.R_far (p:=⟨gb6,1,none⟩) (Kd.R_far (p:=⟨gb6,0,none⟩) (Kd.R_types HO_3.out BK6.out (by decide)) (fun _ hk=>hk.2) (.int .i64 ((Zu l0_1 x10_1).f0))) (fun _ hk=>hk.2) (.int .i64 ((Zu l0_1 x10_1).f1))) (fun _ hk=>hk.2) (.int .i64 ((Zu l0_1 x10_1).f2))) (fun _ hk=>hk.2) (.int .i64 ((Zu l0_1 x10_1).f3))) (fun _ hk=>hk.2) (.bool false)) (fun _ hk=>trivial)⟩,⟨by(with_reducible repeat(first|refine ZD ?_ _|refine ZE ?_|refine ZC ?_ _));refine ZP ?_ NB1_6.out _;(with_reducible repeat(first|refine ZD ?_ _|refine ZE ?_|refine ZC ?_ _));refine ZP ?_ NB1_6.out _;(with_reducible repeat(first|refine ZD ?_ _|refine ZE ?_|refine ZC ?_ _));refine ZP ?_ NB1_6.out _;(with_reducible repeat(first|refine ZD ?_ _|refine ZE ?_|refine ZC ?_ _));refine ZP ?_ NB1_6.out _;(with_reducible repeat(first|refine ZD ?_ _|refine ZE ?_|refine ZC ?_ _));refine ZP ?_ NB1_6.out _;(with_reducible repeat(first|refine ZD ?_ _|refine ZE ?_|refine ZC ?_ _));exact BK1.out⟩,⟨by repeat(first|(with_reducible first|exact HB.out|apply Zo|apply Zm|apply Zp|refine Zs ?_ GE1.out|refine Zs ?_ GE6.out)|exact HB.out)⟩⟩
     ·rw[if_neg c8] at H
      exact absurd H (by simp)
    ·rw[if_neg c7] at H
     exact absurd H (by simp)
   ·rw[if_neg c6] at H
    have c6b0:decide (x10_1<(l0_1.length:Int))=false:=Zf c6
    clear c6
    obtain rfl:=Zg H
    go_wp2
    go_ret
    exact⟨_,by first|rfl|(simp[ZB,ZA] <;> rfl)|(simp[*,ZB,ZA] <;> rfl),by(with_reducible repeat(first|apply Kd.R_alloc|apply Kd.R_drewN|apply Kd.R_drew));exact HO_3.out,by repeat(first|(with_reducible first|exact HB.out|apply Zo|apply Zm|apply Zp|refine Zs ?_ GE1.out)|exact HB.out)⟩
end Go.Proofs.YtoeimopgoaffcaaGreatDoor.Pr
