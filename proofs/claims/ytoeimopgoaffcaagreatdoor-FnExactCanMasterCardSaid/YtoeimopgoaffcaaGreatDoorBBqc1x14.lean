/- The texts of one claim, put together by a program of this session. -/
import Derived.Test.YtoeimopgoaffcaaGreatDoorBBqc1x1
namespace Go.Proofs.YtoeimopgoaffcaaGreatDoor.Pr
open Go.RowKit Go.Proofs.YtoeimopgoaffcaaGreatDoorW.PrintWords Go.Proofs.YtoeimopgoaffcaaGreatDoorW.PrintLast Go.Proofs.YtoeimopgoaffcaaGreatDoorW.PrintMore
attribute [local go_sem] ZW ZU ZZ ZY ZP ZO ZV ZT
set_option linter.unusedVariables false
set_option linter.unusedSimpArgs false
def Zai.l0:Nat→List Int→List (S82)→Int→Int→Option (List Int)
 | 0,_,_,_,_=>none
 | k+1,x3,x8,x9,x10=>if x10<x9 then(if 0≤x10 then(if x10<(x8.length:Int) then(if (ZD x8 x10).f4=true then(if x3.length<17592186044416 then(Zai.l0 k (x3 ++ [x10]) x8 x9 (wrap64 (x10+1))) else(none)) else(Zai.l0 k x3 x8 x9 (wrap64 (x10+1)))) else(none)) else(none)) else(some x3)
def Zai.f (k:Nat) (l0_0:List (S39)) (l0_1:List (S82)) (a0_2:Int):Option (List Int):=Zai.l0 k (([]:List Int)) l0_1 (l0_1.length:Int) 0
set_option maxHeartbeats 8000000 in
set_option maxRecDepth 100000 in
theorem Zai.calls (k:Nat) (A0_0:Option Addr) (c0_0:Nat) (l0_0:List (S39)) (A0_1:Option Addr) (c0_1:Nat) (l0_1:List (S82)) (a0_2:Int) (r:List Int) (w:World) (hr0_0:Kd.C k39 w A0_0 l0_0.length l0_0) (hc0_0:l0_0.length≤c0_0) (hr0_1:Kd.C k82 w A0_1 l0_1.length l0_1) (hc0_1:l0_1.length≤c0_1) (h:Zai.f k l0_0 l0_1 a0_2=some r) :
  Calls Tryz.prog 156 #[.agg #[.slice A0_0 l0_0.length c0_0,.slice A0_1 l0_1.length c0_1,.int .i64 a0_2]] w fun e w'=>∃v0_:Value,e=.returned (v0_)∧Kd.R (Kd.int .i64) 3 w' w.heap.size (fun _=>True) v0_ r∧Below w.heap.size w w':=by
 have hu25:=Tryz.underlying25
 have hu82:=Tryz.underlying82
 have HR0_0:=Za hr0_0;have HC0_0:=Za hc0_0;clear hr0_0 hc0_0;have HR0_1:=Za hr0_1;have HC0_1:=Za hc0_1;clear hr0_1 hc0_1
 have HB:=Za (Below.refl w.heap.size w)
 have H:(Zai.l0 k (([]:List Int)) l0_1 (l0_1.length:Int) 0)=some r:=h
 clear h
 obtain⟨y156002,hy156002⟩:∃y_:List Int,y_=(([]:List Int)):=⟨_,rfl⟩
 replace H:(Zai.l0 k y156002 l0_1 (l0_1.length:Int) 0)=some r:=by first|(rw[hy156002];with_reducible exact H)|(have H2_:=(Zi _ _).symm.trans H;rw[hy156002];with_reducible exact H2_)|(have H2_:=(Zi _ _).symm.trans H;with_reducible exact H2_)|with_reducible exact H|(rw[hy156002];exact H)|exact H
 have Ny156002:=Za hy156002;clear hy156002
 have H':=Za H
 clear H
 go_enter Tryz.func156,Tryz.ntmps156
 go_wp2_with (first|((with_reducible refine ZF (N:=1) rfl ?_);refine ZG ?hg (N:=1) ?hd (cs:=#[.slice A0_0 l0_0.length c0_0,.slice A0_1 l0_1.length c0_1,.int .i64 a0_2]) (t:=25) ?hr ?_;(case hd=>rfl);(case hg=>rfl);(case hr=>first|(go_simp;done)|(go_simp;rfl));intro gb156001 hg w2 hbox hb;have BK156001:=Za (hbox);have GW156001:=Za ((by rw[hg];exact(Zx (by repeat(first|(with_reducible first|exact HB.out|apply Zn|apply Zm|apply Zo)|exact HB.out))):w.heap.size≤gb156001));have GE156001:=Za ((by rw[hg];exact(Zx (by repeat(first|(with_reducible first|exact HB.out|apply Zn|apply Zm|apply Zo)|exact HB.out))):w.heap.size≤gb156001));replace HB:=Za (Zw (by repeat(first|(with_reducible first|exact HB.out|apply Zn|apply Zm|apply Zo)|exact HB.out)) hb);clear hb hbox hg)|((with_reducible refine ZF (N:=6) rfl ?_);refine Kd.R_lit (Kd.int .i64) _ 3 ?hg (N:=6) ?hd (xs:=([]:List Int)) (inner:=[]) (ok:=fun _=>True) (okp:=fun _=>True) ?hr ?hp (fun _ hk=>hk) trivial (Below.refl _ _) (Nat.le_refl _) (by simp) ?_;(case hd=>rfl);(case hg=>rfl);(case hr=>first|(go_simp;done)|(go_simp;rfl));(case hp=>exact(Reps.none _ _));intro v156003 w3 ho4 hb hg_ hnew_;clear hg_ hnew_;(first|rw[← Ny156002.out] at ho4|(simp only[Int.reduceToNat] at ho4;rw[← Ny156002.out] at ho4));have HO156004:=Za (Kd.R_lower ho4 (Zx (by repeat(first|(with_reducible first|exact HB.out|apply Zn|apply Zm|apply Zo|refine Zq ?_ GE156001.out)|exact HB.out))));replace BK156001:=Za (ZA (g:=gb156001) (o:=.cells #[.slice A0_0 l0_0.length c0_0,.slice A0_1 l0_1.length c0_1,.int .i64 a0_2] 25 (0,0)) (by(with_reducible repeat(first|refine Zs ?_ _|refine Zu ?_|refine Zr ?_ _));exact BK156001.out) hb);replace HB:=Za (Zw (by repeat(first|(with_reducible first|exact HB.out|apply Zn|apply Zm|apply Zo|refine Zq ?_ GE156001.out)|exact HB.out)) hb);clear hb ho4;have hcz5_0:w3.cell? ⟨gb156001,0,none⟩=some (.slice A0_0 l0_0.length c0_0):=(Zp BK156001.out 0).trans rfl;have hcz5_1:w3.cell? ⟨gb156001,1,none⟩=some (.slice A0_1 l0_1.length c0_1):=(Zp BK156001.out 1).trans rfl;have hcz5_2:w3.cell? ⟨gb156001,2,none⟩=some (.int .i64 a0_2):=(Zp BK156001.out 2).trans rfl;have hfz5_0:=Zv BK156001.out 0;have hfz5_1:=Zv BK156001.out 1;have hfz5_2:=Zv BK156001.out 2))
 go_loopg [3,10] k (fun kq v3 v10 w'=>∃(x3_1:List Int) (x10_1:Int),v10=.int .i64 x10_1∧Aside0 (Zai.l0 kq x3_1 l0_1 (l0_1.length:Int) x10_1=some r)∧Aside0 (kq≤k)∧Aside0 (Kd.R (Kd.int .i64) 3 w' w.heap.size (fun _=>True) v3 x3_1)∧Aside0 (w'.heap[gb156001]? = some (.cells #[(.slice A0_0 l0_0.length c0_0),(.slice A0_1 l0_1.length c0_1),.int .i64 a0_2] 25 (0,0)))∧Aside0 (Below w.heap.size w w'))
 case atStart=>exact⟨(y156002),(0),(by first|rfl|(simp;done)|(simp[*];done)),H',⟨Nat.le_refl _⟩,⟨by(with_reducible repeat(first|apply Kd.R_alloc|apply Kd.R_drewN|apply Kd.R_drew));exact HO156004.out⟩,⟨by(with_reducible repeat(first|refine Zs ?_ _|refine Zu ?_|refine Zr ?_ _));exact BK156001.out⟩,⟨by repeat(first|(with_reducible first|exact HB.out|apply Zn|apply Zm|apply Zo|refine Zq ?_ GE156001.out)|exact HB.out)⟩⟩
 case round=>
  clear H'
  try clear c1
  try clear p2
  try clear hcz5_0
  try clear hcz5_1
  try clear hcz5_2
  try clear hfz5_0
  try clear hfz5_1
  try clear hfz5_2
  obtain⟨x3_1,x10_1,rfl,HA,HK1,HO_3,BK156001,HB⟩:=hrel
  cases gk with
  | zero=>exact absurd HA.out (by simp[Zai.l0])
  | succ k1=>
   have H:=HA.out
   clear HA
   simp only[Zai.l0] at H
   by_cases c6:x10_1<(l0_1.length:Int)
   ·rw[if_pos c6] at H
    have c6b0:decide (x10_1<(l0_1.length:Int))=true:=Ze c6
    clear c6
    by_cases c7:0≤x10_1
    ·rw[if_pos c7] at H
     have c7b0:decide (0≤x10_1)=true:=Ze c7
     clear c7
     by_cases c8:x10_1<(l0_1.length:Int)
     ·rw[if_pos c8] at H
      have c8b0:decide (x10_1<(l0_1.length:Int))=true:=Ze c8
      clear c8
      obtain⟨bq9,hbq9⟩:∃b_:Bool,b_=((ZD l0_1 x10_1).f4):=⟨_,rfl⟩
      replace H:(if bq9=true then(if x3_1.length<17592186044416 then(Zai.l0 k1 (x3_1 ++ [x10_1]) l0_1 (l0_1.length:Int) (wrap64 (x10_1+1))) else(none)) else(Zai.l0 k1 x3_1 l0_1 (l0_1.length:Int) (wrap64 (x10_1+1))))=some r:=by rw[← hbq9] at H;exact H
      have Nbq9:=Za hbq9;clear hbq9
      by_cases c10:bq9=true
      ·subst c10
       rw[if_pos rfl] at H
       by_cases c11:x3_1.length<17592186044416
       ·rw[if_pos c11] at H
        have LMc11:=Za c11;clear c11
        obtain⟨y156007,hy156007⟩:∃y_:List Int,y_=(x3_1 ++ [x10_1]):=⟨_,rfl⟩
        replace H:(Zai.l0 k1 y156007 l0_1 (l0_1.length:Int) (wrap64 (x10_1+1)))=some r:=by first|(rw[hy156007];with_reducible exact H)|(have H2_:=(Zi _ _).symm.trans H;rw[hy156007];with_reducible exact H2_)|(have H2_:=(Zi _ _).symm.trans H;with_reducible exact H2_)|with_reducible exact H|(rw[hy156007];exact H)|exact H
        have Ny156007:=Za hy156007;clear hy156007
        have H':=Za H
        clear H
        have p156005:0≤(x10_1:Int):=Zd (by first|(with_reducible assumption)|assumption)
        have q156005:x10_1<(l0_1.length:Int):=Zd (by first|(with_reducible assumption)|assumption)
        obtain⟨ad156005,e156005,hx156005_0,hx156005_1,hx156005_2,hx156005_3,hx156005_4⟩:=ZbN HR0_1.out x10_1 p156005 q156005
        (try rw[← Nbq9.out] at hx156005_4)
        cases e156005
        replace hx156005_0:=(HB.out.cell (Zc w _ hx156005_0)).trans hx156005_0
        replace hx156005_1:=(HB.out.cell (Zc w _ hx156005_1)).trans hx156005_1
        replace hx156005_2:=(HB.out.cell (Zc w _ hx156005_2)).trans hx156005_2
        replace hx156005_3:=(HB.out.cell (Zc w _ hx156005_3)).trans hx156005_3
        replace hx156005_4:=(HB.out.cell (Zc w _ hx156005_4)).trans hx156005_4
        replace p156005:=eq_true p156005
        replace q156005:=eq_true q156005
        go_wp2_with (first|((with_reducible refine ZF (N:=5) rfl ?_);refine ZG ?hg (N:=5) ?hd (cs:=#[.int .i64 0,.int .i64 0,.int .i64 0,.int .i64 0,.bool false]) (t:=82) ?hr ?_;(case hd=>rfl);(case hg=>rfl);(case hr=>first|(go_simp;done)|(go_simp;rfl));intro gb156006 hg w12 hbox hb;have BK156006:=Za (hbox);have GW156006:=Za ((by rw[hg];exact(Zx (by repeat(first|(with_reducible first|exact HB.out|apply Zn|apply Zm|apply Zo|refine Zq ?_ GE156001.out)|exact HB.out))):w.heap.size≤gb156006));have GE156006:=Za ((by rw[hg];exact(Zx (by repeat(first|(with_reducible first|exact HB.out|apply Zn|apply Zm|apply Zo|refine Zq ?_ GE156001.out)|exact HB.out))):w.heap.size≤gb156006));have NB156001_156006:=Za ((by rw[hg];exact Nat.ne_of_lt (ZK (g:=gb156001) (o:=.cells #[.slice A0_0 l0_0.length c0_0,.slice (some ad156005) l0_1.length c0_1,.int .i64 a0_2] 25 (0,0)) (by(with_reducible repeat(first|refine Zs ?_ _|refine Zu ?_|refine Zr ?_ _));exact BK156001.out)):gb156001≠gb156006));have NB156006_156001:=Za ((by rw[hg];exact Nat.ne_of_gt (ZK (g:=gb156001) (o:=.cells #[.slice A0_0 l0_0.length c0_0,.slice (some ad156005) l0_1.length c0_1,.int .i64 a0_2] 25 (0,0)) (by(with_reducible repeat(first|refine Zs ?_ _|refine Zu ?_|refine Zr ?_ _));exact BK156001.out)):gb156006≠gb156001));replace HO_3:=Za (Kd.R_below (by(with_reducible repeat(first|apply Kd.R_alloc|apply Kd.R_drewN|apply Kd.R_drew));exact HO_3.out) hb);replace BK156001:=Za (ZA (g:=gb156001) (o:=.cells #[.slice A0_0 l0_0.length c0_0,.slice (some ad156005) l0_1.length c0_1,.int .i64 a0_2] 25 (0,0)) (by(with_reducible repeat(first|refine Zs ?_ _|refine Zu ?_|refine Zr ?_ _));exact BK156001.out) hb);replace HB:=Za (Zw (by repeat(first|(with_reducible first|exact HB.out|apply Zn|apply Zm|apply Zo|refine Zq ?_ GE156001.out)|exact HB.out)) hb);clear hb hbox hg;have hnb13:=NB156006_156001.out;have hnc13:=NB156001_156006.out;have hcz14_0:w12.cell? ⟨gb156006,0,none⟩=some (.int .i64 0):=(Zp BK156006.out 0).trans rfl;have hcz14_1:w12.cell? ⟨gb156006,1,none⟩=some (.int .i64 0):=(Zp BK156006.out 1).trans rfl;have hcz14_2:w12.cell? ⟨gb156006,2,none⟩=some (.int .i64 0):=(Zp BK156006.out 2).trans rfl;have hcz14_3:w12.cell? ⟨gb156006,3,none⟩=some (.int .i64 0):=(Zp BK156006.out 3).trans rfl;have hcz14_4:w12.cell? ⟨gb156006,4,none⟩=some (.bool false):=(Zp BK156006.out 4).trans rfl;have hfz14_0:=Zv BK156006.out 0;have hfz14_1:=Zv BK156006.out 1;have hfz14_2:=Zv BK156006.out 2;have hfz14_3:=Zv BK156006.out 3;have hfz14_4:=Zv BK156006.out 4)|((with_reducible refine Z9 (b:=.append) (xs:=#[.tmp 17,.tmp 19]) rfl ?_);at_builtin;refine Kd.R_append (Kd.int .i64) (w0:=w) w.heap.size rfl (.tmp 17) (.tmp 19) 37 3 (.int .i64 0) 8 rfl Tryz.underlying37 ZbH rfl (by decide) (by omega) u3 x3_1 x10_1 [.int .i64 x10_1] (fun _=>True) (fun _=>False) rfl (by first|(go_simp;done)|(go_simp;rfl)) ?aP (fun _ hk=>hk.elim) ?aF ?aO ?aB ?aS ?aL ?_;(case aP=>exact rfl);(case aB=>exact(by repeat(first|(with_reducible first|exact HB.out|apply Zn|apply Zm|apply Zo|refine Zq ?_ GE156001.out|refine Zq ?_ GE156006.out)|exact HB.out)));(case aF=>exact(fun _ _=>trivial));(case aO=>exact(by(with_reducible repeat(first|apply Kd.R_alloc|apply Kd.R_drewN|apply Kd.R_drew));exact Kd.R_mono (Kd.R_far (p:=⟨gb156006,4,none⟩) (Kd.R_far (p:=⟨gb156006,3,none⟩) (Kd.R_far (p:=⟨gb156006,2,none⟩) (Kd.R_far (p:=⟨gb156006,1,none⟩) (Kd.R_far (p:=⟨gb156006,0,none⟩) (Kd.R_types HO_3.out BK156006.out (by decide)) (fun _ hk=>hk.2) (.int .i64 ((ZD l0_1 x10_1).f0))) (fun _ hk=>hk.2) (.int .i64 ((ZD l0_1 x10_1).f1))) (fun _ hk=>hk.2) (.int .i64 ((ZD l0_1 x10_1).f2))) (fun _ hk=>hk.2) (.int .i64 ((ZD l0_1 x10_1).f3))) (fun _ hk=>hk.2) (.bool true)) (fun _ hk=>trivial)));(case aS=>exact(Zx (by repeat(first|(with_reducible first|exact HB.out|apply Zn|apply Zm|apply Zo|refine Zq ?_ GE156001.out|refine Zq ?_ GE156006.out)|exact HB.out))));(case aL=>have:=LMc11.out;omega);intro v156008 w15 ho hb hg hat;rw[← Ny156007.out] at ho;have HO156009:=Za (ho);replace BK156001:=Za (ZaE (g:=gb156001) (o:=.cells #[.slice A0_0 l0_0.length c0_0,.slice (some ad156005) l0_1.length c0_1,.int .i64 a0_2] 25 (0,0)) (by(with_reducible repeat(first|refine Zs ?_ _|refine Zu ?_|refine Zr ?_ _));refine ZS ?_ NB156001_156006.out _;(with_reducible repeat(first|refine Zs ?_ _|refine Zu ?_|refine Zr ?_ _));refine ZS ?_ NB156001_156006.out _;(with_reducible repeat(first|refine Zs ?_ _|refine Zu ?_|refine Zr ?_ _));refine ZS ?_ NB156001_156006.out _;(with_reducible repeat(first|refine Zs ?_ _|refine Zu ?_|refine Zr ?_ _));refine ZS ?_ NB156001_156006.out _;(with_reducible repeat(first|refine Zs ?_ _|refine Zu ?_|refine Zr ?_ _));refine ZS ?_ NB156001_156006.out _;(with_reducible repeat(first|refine Zs ?_ _|refine Zu ?_|refine Zr ?_ _));exact BK156001.out) hg (Kd.R_ne HO_3.out BK156001.out (by decide)));replace BK156006:=Za (ZaE (g:=gb156006) (o:=.cells #[.int .i64 ((ZD l0_1 x10_1).f0),.int .i64 ((ZD l0_1 x10_1).f1),.int .i64 ((ZD l0_1 x10_1).f2),.int .i64 ((ZD l0_1 x10_1).f3),.bool true] 82 (0,0)) (by(with_reducible repeat(first|refine Zs ?_ _|refine Zu ?_|refine Zr ?_ _));refine Z1 (cs:=#[.int .i64 ((ZD l0_1 x10_1).f0),.int .i64 ((ZD l0_1 x10_1).f1),.int .i64 ((ZD l0_1 x10_1).f2),.int .i64 ((ZD l0_1 x10_1).f3),.bool false]) ?_ 4 _ rfl;(with_reducible repeat(first|refine Zs ?_ _|refine Zu ?_|refine Zr ?_ _));refine Z1 (cs:=#[.int .i64 ((ZD l0_1 x10_1).f0),.int .i64 ((ZD l0_1 x10_1).f1),.int .i64 ((ZD l0_1 x10_1).f2),.int .i64 0,.bool false]) ?_ 3 _ rfl;(with_reducible repeat(first|refine Zs ?_ _|refine Zu ?_|refine Zr ?_ _));refine Z1 (cs:=#[.int .i64 ((ZD l0_1 x10_1).f0),.int .i64 ((ZD l0_1 x10_1).f1),.int .i64 0,.int .i64 0,.bool false]) ?_ 2 _ rfl;(with_reducible repeat(first|refine Zs ?_ _|refine Zu ?_|refine Zr ?_ _));refine Z1 (cs:=#[.int .i64 ((ZD l0_1 x10_1).f0),.int .i64 0,.int .i64 0,.int .i64 0,.bool false]) ?_ 1 _ rfl;(with_reducible repeat(first|refine Zs ?_ _|refine Zu ?_|refine Zr ?_ _));refine Z1 (cs:=#[.int .i64 0,.int .i64 0,.int .i64 0,.int .i64 0,.bool false]) ?_ 0 _ rfl;(with_reducible repeat(first|refine Zs ?_ _|refine Zu ?_|refine Zr ?_ _));exact BK156006.out) hg (Kd.R_ne HO_3.out BK156006.out (by decide)));replace HB:=Za (hb);clear HO_3;clear ho hb hg hat))
        go_roundg k1
        case measure=>have:=HK1.out;omega
        case rel=>exact⟨(y156007),(wrap64 (x10_1+1)),(by first|rfl|(simp;done)|(simp[*];done)),H',⟨by have:=HK1.out;omega⟩,⟨by(with_reducible repeat(first|apply Kd.R_alloc|apply Kd.R_drewN|apply Kd.R_drew));exact HO156009.out⟩,⟨by(with_reducible repeat(first|refine Zs ?_ _|refine Zu ?_|refine Zr ?_ _));exact BK156001.out⟩,⟨by repeat(first|(with_reducible first|exact HB.out|apply Zn|apply Zm|apply Zo|refine Zq ?_ GE156001.out|refine Zq ?_ GE156006.out)|exact HB.out)⟩⟩
       ·rw[if_neg c11] at H
        exact absurd H (by simp)
      ·replace c10:=Bool.eq_false_iff.mpr c10
       subst c10
       have H1:(Zai.l0 k1 x3_1 l0_1 (l0_1.length:Int) (wrap64 (x10_1+1)))=some r:=by rw[if_neg (show ¬(false=true) by decide)] at H;exact H
       clear H
       have H:=H1
       clear H1
       have H':=Za H
       clear H
       have p156005:0≤(x10_1:Int):=Zd (by first|(with_reducible assumption)|assumption)
       have q156005:x10_1<(l0_1.length:Int):=Zd (by first|(with_reducible assumption)|assumption)
       obtain⟨ad156005,e156005,hx156005_0,hx156005_1,hx156005_2,hx156005_3,hx156005_4⟩:=ZbN HR0_1.out x10_1 p156005 q156005
       (try rw[← Nbq9.out] at hx156005_4)
       cases e156005
       replace hx156005_0:=(HB.out.cell (Zc w _ hx156005_0)).trans hx156005_0
       replace hx156005_1:=(HB.out.cell (Zc w _ hx156005_1)).trans hx156005_1
       replace hx156005_2:=(HB.out.cell (Zc w _ hx156005_2)).trans hx156005_2
       replace hx156005_3:=(HB.out.cell (Zc w _ hx156005_3)).trans hx156005_3
       replace hx156005_4:=(HB.out.cell (Zc w _ hx156005_4)).trans hx156005_4
       replace p156005:=eq_true p156005
       replace q156005:=eq_true q156005
       go_wp2_with (first|((with_reducible refine ZF (N:=5) rfl ?_);refine ZG ?hg (N:=5) ?hd (cs:=#[.int .i64 0,.int .i64 0,.int .i64 0,.int .i64 0,.bool false]) (t:=82) ?hr ?_;(case hd=>rfl);(case hg=>rfl);(case hr=>first|(go_simp;done)|(go_simp;rfl));intro gb156006 hg w16 hbox hb;have BK156006:=Za (hbox);have GW156006:=Za ((by rw[hg];exact(Zx (by repeat(first|(with_reducible first|exact HB.out|apply Zn|apply Zm|apply Zo|refine Zq ?_ GE156001.out)|exact HB.out))):w.heap.size≤gb156006));have GE156006:=Za ((by rw[hg];exact(Zx (by repeat(first|(with_reducible first|exact HB.out|apply Zn|apply Zm|apply Zo|refine Zq ?_ GE156001.out)|exact HB.out))):w.heap.size≤gb156006));have NB156001_156006:=Za ((by rw[hg];exact Nat.ne_of_lt (ZK (g:=gb156001) (o:=.cells #[.slice A0_0 l0_0.length c0_0,.slice (some ad156005) l0_1.length c0_1,.int .i64 a0_2] 25 (0,0)) (by(with_reducible repeat(first|refine Zs ?_ _|refine Zu ?_|refine Zr ?_ _));exact BK156001.out)):gb156001≠gb156006));have NB156006_156001:=Za ((by rw[hg];exact Nat.ne_of_gt (ZK (g:=gb156001) (o:=.cells #[.slice A0_0 l0_0.length c0_0,.slice (some ad156005) l0_1.length c0_1,.int .i64 a0_2] 25 (0,0)) (by(with_reducible repeat(first|refine Zs ?_ _|refine Zu ?_|refine Zr ?_ _));exact BK156001.out)):gb156006≠gb156001));replace HO_3:=Za (Kd.R_below (by(with_reducible repeat(first|apply Kd.R_alloc|apply Kd.R_drewN|apply Kd.R_drew));exact HO_3.out) hb);replace BK156001:=Za (ZA (g:=gb156001) (o:=.cells #[.slice A0_0 l0_0.length c0_0,.slice (some ad156005) l0_1.length c0_1,.int .i64 a0_2] 25 (0,0)) (by(with_reducible repeat(first|refine Zs ?_ _|refine Zu ?_|refine Zr ?_ _));exact BK156001.out) hb);replace HB:=Za (Zw (by repeat(first|(with_reducible first|exact HB.out|apply Zn|apply Zm|apply Zo|refine Zq ?_ GE156001.out)|exact HB.out)) hb);clear hb hbox hg;have hnb17:=NB156006_156001.out;have hnc17:=NB156001_156006.out;have hcz18_0:w16.cell? ⟨gb156006,0,none⟩=some (.int .i64 0):=(Zp BK156006.out 0).trans rfl;have hcz18_1:w16.cell? ⟨gb156006,1,none⟩=some (.int .i64 0):=(Zp BK156006.out 1).trans rfl;have hcz18_2:w16.cell? ⟨gb156006,2,none⟩=some (.int .i64 0):=(Zp BK156006.out 2).trans rfl;have hcz18_3:w16.cell? ⟨gb156006,3,none⟩=some (.int .i64 0):=(Zp BK156006.out 3).trans rfl;have hcz18_4:w16.cell? ⟨gb156006,4,none⟩=some (.bool false):=(Zp BK156006.out 4).trans rfl;have hfz18_0:=Zv BK156006.out 0;have hfz18_1:=Zv BK156006.out 1;have hfz18_2:=Zv BK156006.out 2;have hfz18_3:=Zv BK156006.out 3;have hfz18_4:=Zv BK156006.out 4))
       go_roundg k1
       case measure=>have:=HK1.out;omega
       case rel=>exact⟨(x3_1),(wrap64 (x10_1+1)),(by first|rfl|(simp;done)|(simp[*];done)),H',⟨by have:=HK1.out;omega⟩,⟨by(with_reducible repeat(first|apply Kd.R_alloc|apply Kd.R_drewN|apply Kd.R_drew));exact Kd.R_mono (Kd.R_far (p:=⟨gb156006,4,none⟩) (Kd.R_far (p:=⟨gb156006,3,none⟩) (Kd.R_far (p:=⟨gb156006,2,none⟩) (Kd.R_far (p:=⟨gb156006,1,none⟩) (Kd.R_far (p:=⟨gb156006,0,none⟩) (Kd.R_types HO_3.out BK156006.out (by decide)) (fun _ hk=>hk.2) (.int .i64 ((ZD l0_1 x10_1).f0))) (fun _ hk=>hk.2) (.int .i64 ((ZD l0_1 x10_1).f1))) (fun _ hk=>hk.2) (.int .i64 ((ZD l0_1 x10_1).f2))) (fun _ hk=>hk.2) (.int .i64 ((ZD l0_1 x10_1).f3))) (fun _ hk=>hk.2) (.bool false)) (fun _ hk=>trivial)⟩,⟨by(with_reducible repeat(first|refine Zs ?_ _|refine Zu ?_|refine Zr ?_ _));refine ZS ?_ NB156001_156006.out _;(with_reducible repeat(first|refine Zs ?_ _|refine Zu ?_|refine Zr ?_ _));refine ZS ?_ NB156001_156006.out _;(with_reducible repeat(first|refine Zs ?_ _|refine Zu ?_|refine Zr ?_ _));refine ZS ?_ NB156001_156006.out _;(with_reducible repeat(first|refine Zs ?_ _|refine Zu ?_|refine Zr ?_ _));refine ZS ?_ NB156001_156006.out _;(with_reducible repeat(first|refine Zs ?_ _|refine Zu ?_|refine Zr ?_ _));refine ZS ?_ NB156001_156006.out _;(with_reducible repeat(first|refine Zs ?_ _|refine Zu ?_|refine Zr ?_ _));exact BK156001.out⟩,⟨by repeat(first|(with_reducible first|exact HB.out|apply Zn|apply Zm|apply Zo|refine Zq ?_ GE156001.out|refine Zq ?_ GE156006.out)|exact HB.out)⟩⟩
     ·rw[if_neg c8] at H
      exact absurd H (by simp)
    ·rw[if_neg c7] at H
     exact absurd H (by simp)
   ·rw[if_neg c6] at H
    have c6b0:decide (x10_1<(l0_1.length:Int))=false:=Zf c6
    clear c6
    obtain rfl:=Zg H
    go_wp2
    go_ret
    exact⟨_,by first|rfl|(simp[ZC,ZB] <;> rfl)|(simp[*,ZC,ZB] <;> rfl),by(with_reducible repeat(first|apply Kd.R_alloc|apply Kd.R_drewN|apply Kd.R_drew));exact HO_3.out,by repeat(first|(with_reducible first|exact HB.out|apply Zn|apply Zm|apply Zo|refine Zq ?_ GE156001.out)|exact HB.out)⟩
end Go.Proofs.YtoeimopgoaffcaaGreatDoor.Pr
