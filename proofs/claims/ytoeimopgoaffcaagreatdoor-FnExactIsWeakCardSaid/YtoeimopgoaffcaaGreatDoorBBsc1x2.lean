/- The texts of one claim, put together by a program of this session. -/
import Derived.Deep.LoopGhost
import Derived.Test.YtoeimopgoaffcaaGreatDoorBBsc1x1
namespace Go.Proofs.YtoeimopgoaffcaaGreatDoor.Pr
open Go.RowKit Go.Proofs.YtoeimopgoaffcaaGreatDoorW.PrintWords Go.Proofs.YtoeimopgoaffcaaGreatDoorW.PrintLast Go.Proofs.YtoeimopgoaffcaaGreatDoorW.PrintMore
attribute [local go_sem] ZU ZS ZW ZV ZO ZN ZT ZR
set_option linter.unusedVariables false
set_option linter.unusedSimpArgs false
def Zab.l0:Nat→List Int→List (S82)→Int→Int→Option (List Int)
 | 0,_,_,_,_=>none
 | k+1,x3,x8,x9,x10=>if x10<x9 then(if 0≤x10 then(if x10<(x8.length:Int) then(if (ZD x8 x10).f4=true then(if x3.length<17592186044416 then(Zab.l0 k (x3 ++ [x10]) x8 x9 (wrap64 (x10+1))) else(none)) else(Zab.l0 k x3 x8 x9 (wrap64 (x10+1)))) else(none)) else(none)) else(some x3)
def Zab.f (k:Nat) (l0_0:List (S39)) (l0_1:List (S82)) (a0_2:Int):Option (List Int):=Zab.l0 k (([]:List Int)) l0_1 (l0_1.length:Int) 0
set_option maxHeartbeats 8000000 in
set_option maxRecDepth 100000 in
theorem Zab.calls (k:Nat) (A0_0:Option Addr) (c0_0:Nat) (l0_0:List (S39)) (A0_1:Option Addr) (c0_1:Nat) (l0_1:List (S82)) (a0_2:Int) (r:List Int) (w:World) (hr0_0:Kd.C k39 w A0_0 l0_0.length l0_0) (hc0_0:l0_0.length≤c0_0) (hr0_1:Kd.C k82 w A0_1 l0_1.length l0_1) (hc0_1:l0_1.length≤c0_1) (h:Zab.f k l0_0 l0_1 a0_2=some r) :
  Calls Tryz.prog 156 #[.agg #[.slice A0_0 l0_0.length c0_0,.slice A0_1 l0_1.length c0_1,.int .i64 a0_2]] w fun e w'=>∃v0_:Value,e=.returned (v0_)∧Kd.R (Kd.int .i64) 3 w' w.heap.size (fun _=>True) v0_ r∧Below w.heap.size w w':=by
 have hu25:=Tryz.underlying25
 have hu82:=Tryz.underlying82
 have HR0_0:=Za hr0_0;have HC0_0:=Za hc0_0;clear hr0_0 hc0_0;have HR0_1:=Za hr0_1;have HC0_1:=Za hc0_1;clear hr0_1 hc0_1
 have HB:=Za (Below.refl w.heap.size w)
 have H:(Zab.l0 k (([]:List Int)) l0_1 (l0_1.length:Int) 0)=some r:=h
 clear h
 obtain⟨y156002,hy156002⟩:∃y_:List Int,y_=(([]:List Int)):=⟨_,rfl⟩
 replace H:(Zab.l0 k y156002 l0_1 (l0_1.length:Int) 0)=some r:=by first|(rw[hy156002];with_reducible exact H)|(have H2_:=(Zi _ _).symm.trans H;rw[hy156002];with_reducible exact H2_)|(have H2_:=(Zi _ _).symm.trans H;with_reducible exact H2_)|with_reducible exact H|(rw[hy156002];exact H)|exact H
 have Ny156002:=Za hy156002;clear hy156002
 have H':=Za H
 clear H
 go_enter Tryz.func156,Tryz.ntmps156
 go_wp2_with (first|((with_reducible refine ZF (N:=1) rfl ?_);refine ZG ?hg (N:=1) ?hd (cs:=#[.slice A0_0 l0_0.length c0_0,.slice A0_1 l0_1.length c0_1,.int .i64 a0_2]) (t:=25) ?hr ?_;(case hd=>rfl);(case hg=>rfl);(case hr=>first|(go_simp;done)|(go_simp;rfl));intro gb156001 hg w2 hbox hb;have BK156001:=Za (hbox);have GW156001:=Za ((by rw[hg];exact(Zy (by repeat(first|(with_reducible first|exact HB.out|apply Zn|apply Zm|apply Zo)|exact HB.out))):w.heap.size≤gb156001));have GE156001:=Za ((by rw[hg];exact(Zy (by repeat(first|(with_reducible first|exact HB.out|apply Zn|apply Zm|apply Zo)|exact HB.out))):w.heap.size≤gb156001));replace HB:=Za (Zw (by repeat(first|(with_reducible first|exact HB.out|apply Zn|apply Zm|apply Zo)|exact HB.out)) hb);clear hb hbox hg)|((with_reducible refine ZF (N:=6) rfl ?_);refine Kd.R_lit (Kd.int .i64) _ 3 ?hg (N:=6) ?hd (xs:=([]:List Int)) (inner:=[]) (ok:=fun _=>True) (okp:=fun _=>True) ?hr ?hp (fun _ hk=>hk) trivial (Below.refl _ _) (Nat.le_refl _) (by simp) ?_;(case hd=>rfl);(case hg=>rfl);(case hr=>first|(go_simp;done)|(go_simp;rfl));(case hp=>exact(Reps.none _ _));intro v156003 w3 ho4 hb hg_ hnew_;clear hg_ hnew_;(first|rw[← Ny156002.out] at ho4|(simp only[Int.reduceToNat] at ho4;rw[← Ny156002.out] at ho4));have HO156004:=Za (Kd.R_lower ho4 (Zy (by repeat(first|(with_reducible first|exact HB.out|apply Zn|apply Zm|apply Zo|refine Zq ?_ GE156001.out)|exact HB.out))));replace BK156001:=Za (ZA (g:=gb156001) (o:=.cells #[.slice A0_0 l0_0.length c0_0,.slice A0_1 l0_1.length c0_1,.int .i64 a0_2] 25 (0,0)) (by(with_reducible repeat(first|refine Zt ?_ _|refine Zv ?_|refine Zs ?_ _));exact BK156001.out) hb);replace HB:=Za (Zw (by repeat(first|(with_reducible first|exact HB.out|apply Zn|apply Zm|apply Zo|refine Zq ?_ GE156001.out)|exact HB.out)) hb);clear hb ho4;have hcz5_0:w3.cell? ⟨gb156001,0,none⟩=some (.slice A0_0 l0_0.length c0_0):=(Zp BK156001.out 0).trans rfl;have hcz5_1:w3.cell? ⟨gb156001,1,none⟩=some (.slice A0_1 l0_1.length c0_1):=(Zp BK156001.out 1).trans rfl;have hcz5_2:w3.cell? ⟨gb156001,2,none⟩=some (.int .i64 a0_2):=(Zp BK156001.out 2).trans rfl;have hfz5_0:=Zr BK156001.out 0;have hfz5_1:=Zr BK156001.out 1;have hfz5_2:=Zr BK156001.out 2))
 go_loopg [3,10] k (fun kq v3 v10 w'=>∃(x3_1:List Int) (x10_1:Int),v10=.int .i64 x10_1∧Aside0 (Zab.l0 kq x3_1 l0_1 (l0_1.length:Int) x10_1=some r)∧Aside0 (kq≤k)∧Aside0 (Kd.R (Kd.int .i64) 3 w' w.heap.size (fun _=>True) v3 x3_1)∧Aside0 (w'.heap[gb156001]? = some (.cells #[(.slice A0_0 l0_0.length c0_0),(.slice A0_1 l0_1.length c0_1),.int .i64 a0_2] 25 (0,0)))∧Aside0 (Below w.heap.size w w'))
 case atStart=>exact⟨(y156002),(0),(by first|rfl|(simp;done)|(simp[*];done)),H',⟨Nat.le_refl _⟩,⟨by(with_reducible repeat(first|apply Kd.R_alloc|apply Kd.R_drewN|apply Kd.R_drew));exact HO156004.out⟩,⟨by(with_reducible repeat(first|refine Zt ?_ _|refine Zv ?_|refine Zs ?_ _));exact BK156001.out⟩,⟨by repeat(first|(with_reducible first|exact HB.out|apply Zn|apply Zm|apply Zo|refine Zq ?_ GE156001.out)|exact HB.out)⟩⟩
 case round=>
  clear H'
  try clear c1
  try clear p2
  try clear hcz5_0
  try clear hcz5_1
  try clear hcz5_2
  try clear hfz5_0
  try clear hfz5_1
  try clear hfz5_2
  obtain⟨x3_1,x10_1,rfl,HA,HK1,HO_3,BK156001,HB⟩:=hrel
  cases gk with
  | zero=>exact absurd HA.out (by simp[Zab.l0])
  | succ k1=>
   have H:=HA.out
   clear HA
   simp only[Zab.l0] at H
   by_cases c6:x10_1<(l0_1.length:Int)
   ·rw[if_pos c6] at H
    have c6b0:decide (x10_1<(l0_1.length:Int))=true:=Ze c6
    clear c6
    by_cases c7:0≤x10_1
    ·rw[if_pos c7] at H
     have c7b0:decide (0≤x10_1)=true:=Ze c7
     clear c7
     by_cases c8:x10_1<(l0_1.length:Int)
     ·rw[if_pos c8] at H
      have c8b0:decide (x10_1<(l0_1.length:Int))=true:=Ze c8
      clear c8
      obtain⟨bq9,hbq9⟩:∃b_:Bool,b_=((ZD l0_1 x10_1).f4):=⟨_,rfl⟩
      replace H:(if bq9=true then(if x3_1.length<17592186044416 then(Zab.l0 k1 (x3_1 ++ [x10_1]) l0_1 (l0_1.length:Int) (wrap64 (x10_1+1))) else(none)) else(Zab.l0 k1 x3_1 l0_1 (l0_1.length:Int) (wrap64 (x10_1+1))))=some r:=by rw[← hbq9] at H;exact H
      have Nbq9:=Za hbq9;clear hbq9
      by_cases c10:bq9=true
      ·subst c10
       rw[if_pos rfl] at H
       by_cases c11:x3_1.length<17592186044416
       ·rw[if_pos c11] at H
        have LMc11:=Za c11;clear c11
        obtain⟨y156007,hy156007⟩:∃y_:List Int,y_=(x3_1 ++ [x10_1]):=⟨_,rfl⟩
        replace H:(Zab.l0 k1 y156007 l0_1 (l0_1.length:Int) (wrap64 (x10_1+1)))=some r:=by first|(rw[hy156007];with_reducible exact H)|(have H2_:=(Zi _ _).symm.trans H;rw[hy156007];with_reducible exact H2_)|(have H2_:=(Zi _ _).symm.trans H;with_reducible exact H2_)|with_reducible exact H|(rw[hy156007];exact H)|exact H
        have Ny156007:=Za hy156007;clear hy156007
        have H':=Za H
        clear H
        have p156005:0≤(x10_1:Int):=Zd (by first|(with_reducible assumption)|assumption)
        have q156005:x10_1<(l0_1.length:Int):=Zd (by first|(with_reducible assumption)|assumption)
        obtain⟨ad156005,e156005,hx156005_0,hx156005_1,hx156005_2,hx156005_3,hx156005_4⟩:=Zbp HR0_1.out x10_1 p156005 q156005
        (try rw[← Nbq9.out] at hx156005_4)
        cases e156005
        replace hx156005_0:=(HB.out.cell (Zc w _ hx156005_0)).trans hx156005_0
        replace hx156005_1:=(HB.out.cell (Zc w _ hx156005_1)).trans hx156005_1
        replace hx156005_2:=(HB.out.cell (Zc w _ hx156005_2)).trans hx156005_2
        replace hx156005_3:=(HB.out.cell (Zc w _ hx156005_3)).trans hx156005_3
        replace hx156005_4:=(HB.out.cell (Zc w _ hx156005_4)).trans hx156005_4
        replace p156005:=eq_true p156005
        replace q156005:=eq_true q156005
        go_wp2_with (first|((with_reducible refine ZF (N:=5) rfl ?_);refine ZG ?hg (N:=5) ?hd (cs:=#[.int .i64 0,.int .i64 0,.int .i64 0,.int .i64 0,.bool false]) (t:=82) ?hr ?_;(case hd=>rfl);(case hg=>rfl);(case hr=>first|(go_simp;done)|(go_simp;rfl));intro gb156006 hg w12 hbox hb;have BK156006:=Za (hbox);have GW156006:=Za ((by rw[hg];exact(Zy (by repeat(first|(with_reducible first|exact HB.out|apply Zn|apply Zm|apply Zo|refine Zq ?_ GE156001.out)|exact HB.out))):w.heap.size≤gb156006));have GE156006:=Za ((by rw[hg];exact(Zy (by repeat(first|(with_reducible first|exact HB.out|apply Zn|apply Zm|apply Zo|refine Zq ?_ GE156001.out)|exact HB.out))):w.heap.size≤gb156006));have NB156001_156006:=Za ((by rw[hg];exact Nat.ne_of_lt (ZM (g:=gb156001) (o:=.cells #[.slice A0_0 l0_0.length c0_0,.slice (some ad156005) l0_1.length c0_1,.int .i64 a0_2] 25 (0,0)) (by(with_reducible repeat(first|refine Zt ?_ _|refine Zv ?_|refine Zs ?_ _));exact BK156001.out)):gb156001≠gb156006));have NB156006_156001:=Za ((by rw[hg];exact Nat.ne_of_gt (ZM (g:=gb156001) (o:=.cells #[.slice A0_0 l0_0.length c0_0,.slice (some ad156005) l0_1.length c0_1,.int .i64 a0_2] 25 (0,0)) (by(with_reducible repeat(first|refine Zt ?_ _|refine Zv ?_|refine Zs ?_ _));exact BK156001.out)):gb156006≠gb156001));replace HO_3:=Za (Kd.R_below (by(with_reducible repeat(first|apply Kd.R_alloc|apply Kd.R_drewN|apply Kd.R_drew));exact HO_3.out) hb);replace BK156001:=Za (ZA (g:=gb156001) (o:=.cells #[.slice A0_0 l0_0.length c0_0,.slice (some ad156005) l0_1.length c0_1,.int .i64 a0_2] 25 (0,0)) (by(with_reducible repeat(first|refine Zt ?_ _|refine Zv ?_|refine Zs ?_ _));exact BK156001.out) hb);replace HB:=Za (Zw (by repeat(first|(with_reducible first|exact HB.out|apply Zn|apply Zm|apply Zo|refine Zq ?_ GE156001.out)|exact HB.out)) hb);clear hb hbox hg;have hnb13:=NB156006_156001.out;have hnc13:=NB156001_156006.out;have hcz14_0:w12.cell? ⟨gb156006,0,none⟩=some (.int .i64 0):=(Zp BK156006.out 0).trans rfl;have hcz14_1:w12.cell? ⟨gb156006,1,none⟩=some (.int .i64 0):=(Zp BK156006.out 1).trans rfl;have hcz14_2:w12.cell? ⟨gb156006,2,none⟩=some (.int .i64 0):=(Zp BK156006.out 2).trans rfl;have hcz14_3:w12.cell? ⟨gb156006,3,none⟩=some (.int .i64 0):=(Zp BK156006.out 3).trans rfl;have hcz14_4:w12.cell? ⟨gb156006,4,none⟩=some (.bool false):=(Zp BK156006.out 4).trans rfl;have hfz14_0:=Zr BK156006.out 0;have hfz14_1:=Zr BK156006.out 1;have hfz14_2:=Zr BK156006.out 2;have hfz14_3:=Zr BK156006.out 3;have hfz14_4:=Zr BK156006.out 4)|((with_reducible refine Z4 (b:=.append) (xs:=#[.tmp 17,.tmp 19]) rfl ?_);at_builtin;refine Kd.R_append (Kd.int .i64) (w0:=w) w.heap.size rfl (.tmp 17) (.tmp 19) 37 3 (.int .i64 0) 8 rfl Tryz.underlying37 Zbi rfl (by decide) (by omega) u3 x3_1 x10_1 [.int .i64 x10_1] (fun _=>True) (fun _=>False) rfl (by first|(go_simp;done)|(go_simp;rfl)) ?aP (fun _ hk=>hk.elim) ?aF ?aO ?aB ?aS ?aL ?_;(case aP=>exact rfl);(case aB=>exact(by repeat(first|(with_reducible first|exact HB.out|apply Zn|apply Zm|apply Zo|refine Zq ?_ GE156001.out|refine Zq ?_ GE156006.out)|exact HB.out)));(case aF=>exact(fun _ _=>trivial));(case aO=>exact(by(with_reducible repeat(first|apply Kd.R_alloc|apply Kd.R_drewN|apply Kd.R_drew));exact Kd.R_mono (Kd.R_far (p:=⟨gb156006,4,none⟩) (Kd.R_far (p:=⟨gb156006,3,none⟩) (Kd.R_far (p:=⟨gb156006,2,none⟩) (Kd.R_far (p:=⟨gb156006,1,none⟩) (Kd.R_far (p:=⟨gb156006,0,none⟩) (Kd.R_types HO_3.out BK156006.out (by decide)) (fun _ hk=>hk.2) (.int .i64 ((ZD l0_1 x10_1).f0))) (fun _ hk=>hk.2) (.int .i64 ((ZD l0_1 x10_1).f1))) (fun _ hk=>hk.2) (.int .i64 ((ZD l0_1 x10_1).f2))) (fun _ hk=>hk.2) (.int .i64 ((ZD l0_1 x10_1).f3))) (fun _ hk=>hk.2) (.bool true)) (fun _ hk=>trivial)));(case aS=>exact(Zy (by repeat(first|(with_reducible first|exact HB.out|apply Zn|apply Zm|apply Zo|refine Zq ?_ GE156001.out|refine Zq ?_ GE156006.out)|exact HB.out))));(case aL=>have:=LMc11.out;omega);intro v156008 w15 ho hb hg hat;rw[← Ny156007.out] at ho;have HO156009:=Za (ho);replace BK156001:=Za (Zas (g:=gb156001) (o:=.cells #[.slice A0_0 l0_0.length c0_0,.slice (some ad156005) l0_1.length c0_1,.int .i64 a0_2] 25 (0,0)) (by(with_reducible repeat(first|refine Zt ?_ _|refine Zv ?_|refine Zs ?_ _));refine ZQ ?_ NB156001_156006.out _;(with_reducible repeat(first|refine Zt ?_ _|refine Zv ?_|refine Zs ?_ _));refine ZQ ?_ NB156001_156006.out _;(with_reducible repeat(first|refine Zt ?_ _|refine Zv ?_|refine Zs ?_ _));refine ZQ ?_ NB156001_156006.out _;(with_reducible repeat(first|refine Zt ?_ _|refine Zv ?_|refine Zs ?_ _));refine ZQ ?_ NB156001_156006.out _;(with_reducible repeat(first|refine Zt ?_ _|refine Zv ?_|refine Zs ?_ _));refine ZQ ?_ NB156001_156006.out _;(with_reducible repeat(first|refine Zt ?_ _|refine Zv ?_|refine Zs ?_ _));exact BK156001.out) hg (Kd.R_ne HO_3.out BK156001.out (by decide)));replace BK156006:=Za (Zas (g:=gb156006) (o:=.cells #[.int .i64 ((ZD l0_1 x10_1).f0),.int .i64 ((ZD l0_1 x10_1).f1),.int .i64 ((ZD l0_1 x10_1).f2),.int .i64 ((ZD l0_1 x10_1).f3),.bool true] 82 (0,0)) (by(with_reducible repeat(first|refine Zt ?_ _|refine Zv ?_|refine Zs ?_ _));refine ZZ (cs:=#[.int .i64 ((ZD l0_1 x10_1).f0),.int .i64 ((ZD l0_1 x10_1).f1),.int .i64 ((ZD l0_1 x10_1).f2),.int .i64 ((ZD l0_1 x10_1).f3),.bool false]) ?_ 4 _ rfl;(with_reducible repeat(first|refine Zt ?_ _|refine Zv ?_|refine Zs ?_ _));refine ZZ (cs:=#[.int .i64 ((ZD l0_1 x10_1).f0),.int .i64 ((ZD l0_1 x10_1).f1),.int .i64 ((ZD l0_1 x10_1).f2),.int .i64 0,.bool false]) ?_ 3 _ rfl;(with_reducible repeat(first|refine Zt ?_ _|refine Zv ?_|refine Zs ?_ _));refine ZZ (cs:=#[.int .i64 ((ZD l0_1 x10_1).f0),.int .i64 ((ZD l0_1 x10_1).f1),.int .i64 0,.int .i64 0,.bool false]) ?_ 2 _ rfl;(with_reducible repeat(first|refine Zt ?_ _|refine Zv ?_|refine Zs ?_ _));refine ZZ (cs:=#[.int .i64 ((ZD l0_1 x10_1).f0),.int .i64 0,.int .i64 0,.int .i64 0,.bool false]) ?_ 1 _ rfl;(with_reducible repeat(first|refine Zt ?_ _|refine Zv ?_|refine Zs ?_ _));refine ZZ (cs:=#[.int .i64 0,.int .i64 0,.int .i64 0,.int .i64 0,.bool false]) ?_ 0 _ rfl;(with_reducible repeat(first|refine Zt ?_ _|refine Zv ?_|refine Zs ?_ _));exact BK156006.out) hg (Kd.R_ne HO_3.out BK156006.out (by decide)));replace HB:=Za (hb);clear HO_3;clear ho hb hg hat))
        go_roundg k1
        case measure=>have:=HK1.out;omega
        case rel=>exact⟨(y156007),(wrap64 (x10_1+1)),(by first|rfl|(simp;done)|(simp[*];done)),H',⟨by have:=HK1.out;omega⟩,⟨by(with_reducible repeat(first|apply Kd.R_alloc|apply Kd.R_drewN|apply Kd.R_drew));exact HO156009.out⟩,⟨by(with_reducible repeat(first|refine Zt ?_ _|refine Zv ?_|refine Zs ?_ _));exact BK156001.out⟩,⟨by repeat(first|(with_reducible first|exact HB.out|apply Zn|apply Zm|apply Zo|refine Zq ?_ GE156001.out|refine Zq ?_ GE156006.out)|exact HB.out)⟩⟩
       ·rw[if_neg c11] at H
        exact absurd H (by simp)
      ·replace c10:=Bool.eq_false_iff.mpr c10
       subst c10
       have H1:(Zab.l0 k1 x3_1 l0_1 (l0_1.length:Int) (wrap64 (x10_1+1)))=some r:=by rw[if_neg (show ¬(false=true) by decide)] at H;exact H
       clear H
       have H:=H1
       clear H1
       have H':=Za H
       clear H
       have p156005:0≤(x10_1:Int):=Zd (by first|(with_reducible assumption)|assumption)
       have q156005:x10_1<(l0_1.length:Int):=Zd (by first|(with_reducible assumption)|assumption)
       obtain⟨ad156005,e156005,hx156005_0,hx156005_1,hx156005_2,hx156005_3,hx156005_4⟩:=Zbp HR0_1.out x10_1 p156005 q156005
       (try rw[← Nbq9.out] at hx156005_4)
       cases e156005
       replace hx156005_0:=(HB.out.cell (Zc w _ hx156005_0)).trans hx156005_0
       replace hx156005_1:=(HB.out.cell (Zc w _ hx156005_1)).trans hx156005_1
       replace hx156005_2:=(HB.out.cell (Zc w _ hx156005_2)).trans hx156005_2
       replace hx156005_3:=(HB.out.cell (Zc w _ hx156005_3)).trans hx156005_3
       replace hx156005_4:=(HB.out.cell (Zc w _ hx156005_4)).trans hx156005_4
       replace p156005:=eq_true p156005
       replace q156005:=eq_true q156005
       go_wp2_with (first|((with_reducible refine ZF (N:=5) rfl ?_);refine ZG ?hg (N:=5) ?hd (cs:=#[.int .i64 0,.int .i64 0,.int .i64 0,.int .i64 0,.bool false]) (t:=82) ?hr ?_;(case hd=>rfl);(case hg=>rfl);(case hr=>first|(go_simp;done)|(go_simp;rfl));intro gb156006 hg w16 hbox hb;have BK156006:=Za (hbox);have GW156006:=Za ((by rw[hg];exact(Zy (by repeat(first|(with_reducible first|exact HB.out|apply Zn|apply Zm|apply Zo|refine Zq ?_ GE156001.out)|exact HB.out))):w.heap.size≤gb156006));have GE156006:=Za ((by rw[hg];exact(Zy (by repeat(first|(with_reducible first|exact HB.out|apply Zn|apply Zm|apply Zo|refine Zq ?_ GE156001.out)|exact HB.out))):w.heap.size≤gb156006));have NB156001_156006:=Za ((by rw[hg];exact Nat.ne_of_lt (ZM (g:=gb156001) (o:=.cells #[.slice A0_0 l0_0.length c0_0,.slice (some ad156005) l0_1.length c0_1,.int .i64 a0_2] 25 (0,0)) (by(with_reducible repeat(first|refine Zt ?_ _|refine Zv ?_|refine Zs ?_ _));exact BK156001.out)):gb156001≠gb156006));have NB156006_156001:=Za ((by rw[hg];exact Nat.ne_of_gt (ZM (g:=gb156001) (o:=.cells #[.slice A0_0 l0_0.length c0_0,.slice (some ad156005) l0_1.length c0_1,.int .i64 a0_2] 25 (0,0)) (by(with_reducible repeat(first|refine Zt ?_ _|refine Zv ?_|refine Zs ?_ _));exact BK156001.out)):gb156006≠gb156001));replace HO_3:=Za (Kd.R_below (by(with_reducible repeat(first|apply Kd.R_alloc|apply Kd.R_drewN|apply Kd.R_drew));exact HO_3.out) hb);replace BK156001:=Za (ZA (g:=gb156001) (o:=.cells #[.slice A0_0 l0_0.length c0_0,.slice (some ad156005) l0_1.length c0_1,.int .i64 a0_2] 25 (0,0)) (by(with_reducible repeat(first|refine Zt ?_ _|refine Zv ?_|refine Zs ?_ _));exact BK156001.out) hb);replace HB:=Za (Zw (by repeat(first|(with_reducible first|exact HB.out|apply Zn|apply Zm|apply Zo|refine Zq ?_ GE156001.out)|exact HB.out)) hb);clear hb hbox hg;have hnb17:=NB156006_156001.out;have hnc17:=NB156001_156006.out;have hcz18_0:w16.cell? ⟨gb156006,0,none⟩=some (.int .i64 0):=(Zp BK156006.out 0).trans rfl;have hcz18_1:w16.cell? ⟨gb156006,1,none⟩=some (.int .i64 0):=(Zp BK156006.out 1).trans rfl;have hcz18_2:w16.cell? ⟨gb156006,2,none⟩=some (.int .i64 0):=(Zp BK156006.out 2).trans rfl;have hcz18_3:w16.cell? ⟨gb156006,3,none⟩=some (.int .i64 0):=(Zp BK156006.out 3).trans rfl;have hcz18_4:w16.cell? ⟨gb156006,4,none⟩=some (.bool false):=(Zp BK156006.out 4).trans rfl;have hfz18_0:=Zr BK156006.out 0;have hfz18_1:=Zr BK156006.out 1;have hfz18_2:=Zr BK156006.out 2;have hfz18_3:=Zr BK156006.out 3;have hfz18_4:=Zr BK156006.out 4))
       go_roundg k1
       case measure=>have:=HK1.out;omega
       case rel=>exact⟨(x3_1),(wrap64 (x10_1+1)),(by first|rfl|(simp;done)|(simp[*];done)),H',⟨by have:=HK1.out;omega⟩,⟨by(with_reducible repeat(first|apply Kd.R_alloc|apply Kd.R_drewN|apply Kd.R_drew));exact Kd.R_mono (Kd.R_far (p:=⟨gb156006,4,none⟩) (Kd.R_far (p:=⟨gb156006,3,none⟩) (Kd.R_far (p:=⟨gb156006,2,none⟩) (Kd.R_far (p:=⟨gb156006,1,none⟩) (Kd.R_far (p:=⟨gb156006,0,none⟩) (Kd.R_types HO_3.out BK156006.out (by decide)) (fun _ hk=>hk.2) (.int .i64 ((ZD l0_1 x10_1).f0))) (fun _ hk=>hk.2) (.int .i64 ((ZD l0_1 x10_1).f1))) (fun _ hk=>hk.2) (.int .i64 ((ZD l0_1 x10_1).f2))) (fun _ hk=>hk.2) (.int .i64 ((ZD l0_1 x10_1).f3))) (fun _ hk=>hk.2) (.bool false)) (fun _ hk=>trivial)⟩,⟨by(with_reducible repeat(first|refine Zt ?_ _|refine Zv ?_|refine Zs ?_ _));refine ZQ ?_ NB156001_156006.out _;(with_reducible repeat(first|refine Zt ?_ _|refine Zv ?_|refine Zs ?_ _));refine ZQ ?_ NB156001_156006.out _;(with_reducible repeat(first|refine Zt ?_ _|refine Zv ?_|refine Zs ?_ _));refine ZQ ?_ NB156001_156006.out _;(with_reducible repeat(first|refine Zt ?_ _|refine Zv ?_|refine Zs ?_ _));refine ZQ ?_ NB156001_156006.out _;(with_reducible repeat(first|refine Zt ?_ _|refine Zv ?_|refine Zs ?_ _));refine ZQ ?_ NB156001_156006.out _;(with_reducible repeat(first|refine Zt ?_ _|refine Zv ?_|refine Zs ?_ _));exact BK156001.out⟩,⟨by repeat(first|(with_reducible first|exact HB.out|apply Zn|apply Zm|apply Zo|refine Zq ?_ GE156001.out|refine Zq ?_ GE156006.out)|exact HB.out)⟩⟩
     ·rw[if_neg c8] at H
      exact absurd H (by simp)
    ·rw[if_neg c7] at H
     exact absurd H (by simp)
   ·rw[if_neg c6] at H
    have c6b0:decide (x10_1<(l0_1.length:Int))=false:=Zf c6
    clear c6
    obtain rfl:=Zg H
    go_wp2
    go_ret
    exact⟨_,by first|rfl|(simp[ZC,ZB] <;> rfl)|(simp[*,ZC,ZB] <;> rfl),by(with_reducible repeat(first|apply Kd.R_alloc|apply Kd.R_drewN|apply Kd.R_drew));exact HO_3.out,by repeat(first|(with_reducible first|exact HB.out|apply Zn|apply Zm|apply Zo|refine Zq ?_ GE156001.out)|exact HB.out)⟩
end Go.Proofs.YtoeimopgoaffcaaGreatDoor.Pr
namespace Go.Proofs.YtoeimopgoaffcaaGreatDoor.Pr
open Go.RowKit Go.Proofs.YtoeimopgoaffcaaGreatDoorW.PrintWords Go.Proofs.YtoeimopgoaffcaaGreatDoor.Ni
abbrev LNode:=S143
abbrev ZI:=S39
abbrev LTie:=S147
abbrev PTie:=S82
def cvN (x:LNode):ZI:=⟨x.f0,x.f1,x.f2⟩
def cvT (x:LTie):PTie:=⟨x.f0,x.f1,x.f2,x.f3,x.f4⟩
theorem Zcq (l:List ZI) (i:Nat):ZH l (i:Int)=l.getD i z39:=by unfold ZH;rw[Int.toNat_natCast]
theorem ZdJ (l:List PTie) (i:Nat):ZD l (i:Int)=l.getD i z82:=by unfold ZD;rw[Int.toNat_natCast]
theorem rdLN_nat (l:List LNode) (i:Nat):ZaC l (i:Int)=l.getD i z143:=by unfold ZaC;rw[Int.toNat_natCast]
theorem rdLT_nat (l:List LTie) (i:Nat):Za4 l (i:Int)=l.getD i z147:=by unfold Za4;rw[Int.toNat_natCast]
theorem zN:cvN z143=z39:=rfl
theorem zT:cvT z147=z82:=rfl
theorem getD_map {α β:Type} (f:α→β) (l:List α) (i:Nat) (a:α) (b:β) (h:f a=b):(l.map f).getD i b=f (l.getD i a):=by
 subst h
 rw[List.getD_eq_getElem?_getD,List.getD_eq_getElem?_getD,List.getElem?_map]
 cases l[i]? <;> rfl
def Zd4 (ns:List LNode) (ts:List LTie):Prop:=ns.length≤1048576∧ts.length≤1048576∧∀n∈ns,n.f0.size≤1048576∧n.f1.length≤1048576
def Zba (ns:List ZI) (ts:List PTie):Prop:=ns.length≤1048576∧ts.length≤1048576∧∀n∈ns,n.f0.size≤1048576∧n.f1.length≤1048576
theorem Zd4.cv {ns:List LNode} {ts:List LTie} (h:Zd4 ns ts):Zba (ns.map cvN) (ts.map cvT):=by
 refine⟨by simpa using h.1,by simpa using h.2.1,fun n hn=>?_⟩
 obtain⟨m,hm,rfl⟩:=List.mem_map.1 hn
 exact h.2.2 m hm
end Go.Proofs.YtoeimopgoaffcaaGreatDoor.Pr
namespace Go.Proofs.YtoeimopgoaffcaaGreatDoor.Pr
open Go.RowKit Go.Proofs.YtoeimopgoaffcaaGreatDoorW.PrintWords Go.Proofs.YtoeimopgoaffcaaGreatDoorW.PrintLast Go.Proofs.YtoeimopgoaffcaaGreatDoorW.PrintMore
attribute [local go_sem] ZU ZS ZW ZV ZO ZN ZT ZR
set_option linter.unusedVariables false
set_option linter.unusedSimpArgs false
def ZaF.l0:Nat→ByteArray→List (S39)→Int→Int→Option (Int)
 | 0,_,_,_,_=>none
 | k+1,x1,x8,x9,x10=>if x10<x9 then(if 0≤x10 then(if x10<(x8.length:Int) then(if ((ZH x8 x10).f0).toList=x1.toList then(some x10) else(ZaF.l0 k x1 x8 x9 (wrap64 (x10+1)))) else(none)) else(none)) else(some (-1))
def ZaF.f (k:Nat) (l0_0:List (S39)) (l0_1:List (S82)) (a0_2:Int) (a1:ByteArray):Option (Int):=ZaF.l0 k a1 l0_0 (l0_0.length:Int) 0
set_option maxHeartbeats 8000000 in
set_option maxRecDepth 100000 in
theorem ZaF.calls (k:Nat) (A0_0:Option Addr) (c0_0:Nat) (l0_0:List (S39)) (A0_1:Option Addr) (c0_1:Nat) (l0_1:List (S82)) (a0_2:Int) (a1:ByteArray) (r:Int) (w:World) (hr0_0:Kd.C k39 w A0_0 l0_0.length l0_0) (hc0_0:l0_0.length≤c0_0) (hr0_1:Kd.C k82 w A0_1 l0_1.length l0_1) (hc0_1:l0_1.length≤c0_1) (h:ZaF.f k l0_0 l0_1 a0_2 a1=some r) :
  Calls Tryz.prog 125 #[.agg #[.slice A0_0 l0_0.length c0_0,.slice A0_1 l0_1.length c0_1,.int .i64 a0_2],.string a1] w fun e w'=>e=.returned (.int .i64 r)∧Below w.heap.size w w':=by
 have hu25:=Tryz.underlying25
 have hu39:=Tryz.underlying39
 have HR0_0:=Za hr0_0;have HC0_0:=Za hc0_0;clear hr0_0 hc0_0;have HR0_1:=Za hr0_1;have HC0_1:=Za hc0_1;clear hr0_1 hc0_1
 have HB:=Za (Below.refl w.heap.size w)
 have H:(ZaF.l0 k a1 l0_0 (l0_0.length:Int) 0)=some r:=h
 clear h
 have H':=Za H
 clear H
 go_enter Tryz.func125,Tryz.ntmps125
 go_wp2_with (first|((with_reducible refine ZF (N:=2) rfl ?_);refine ZG ?hg (N:=2) ?hd (cs:=#[.slice A0_0 l0_0.length c0_0,.slice A0_1 l0_1.length c0_1,.int .i64 a0_2]) (t:=25) ?hr ?_;(case hd=>rfl);(case hg=>rfl);(case hr=>first|(go_simp;done)|(go_simp;rfl));intro gb125001 hg w3 hbox hb;have BK125001:=Za (hbox);have GW125001:=Za ((by rw[hg];exact(Zy (by repeat(first|(with_reducible first|exact HB.out|apply Zn|apply Zm|apply Zo)|exact HB.out))):w.heap.size≤gb125001));have GE125001:=Za ((by rw[hg];exact(Zy (by repeat(first|(with_reducible first|exact HB.out|apply Zn|apply Zm|apply Zo)|exact HB.out))):w.heap.size≤gb125001));replace HB:=Za (Zw (by repeat(first|(with_reducible first|exact HB.out|apply Zn|apply Zm|apply Zo)|exact HB.out)) hb);clear hb hbox hg;have hcz4_0:w3.cell? ⟨gb125001,0,none⟩=some (.slice A0_0 l0_0.length c0_0):=(Zp BK125001.out 0).trans rfl;have hcz4_1:w3.cell? ⟨gb125001,1,none⟩=some (.slice A0_1 l0_1.length c0_1):=(Zp BK125001.out 1).trans rfl;have hcz4_2:w3.cell? ⟨gb125001,2,none⟩=some (.int .i64 a0_2):=(Zp BK125001.out 2).trans rfl;have hfz4_0:=Zr BK125001.out 0;have hfz4_1:=Zr BK125001.out 1;have hfz4_2:=Zr BK125001.out 2))
 go_loopg [10] k (fun kq v10 w'=>∃(x10_1:Int),v10=.int .i64 x10_1∧Aside0 (ZaF.l0 kq a1 l0_0 (l0_0.length:Int) x10_1=some r)∧Aside0 (kq≤k)∧Aside0 (w'.heap[gb125001]? = some (.cells #[(.slice A0_0 l0_0.length c0_0),(.slice A0_1 l0_1.length c0_1),.int .i64 a0_2] 25 (0,0)))∧Aside0 (Below w.heap.size w w'))
 case atStart=>exact⟨(0),(by first|rfl|(simp;done)|(simp[*];done)),H',⟨Nat.le_refl _⟩,⟨by(with_reducible repeat(first|refine Zt ?_ _|refine Zv ?_|refine Zs ?_ _));exact BK125001.out⟩,⟨by repeat(first|(with_reducible first|exact HB.out|apply Zn|apply Zm|apply Zo|refine Zq ?_ GE125001.out)|exact HB.out)⟩⟩
 case round=>
  clear H'
  try clear c1
  try clear p2
  try clear hcz4_0
  try clear hcz4_1
  try clear hcz4_2
  try clear hfz4_0
  try clear hfz4_1
  try clear hfz4_2
  obtain⟨x10_1,rfl,HA,HK1,BK125001,HB⟩:=hrel
  cases gk with
  | zero=>exact absurd HA.out (by simp[ZaF.l0])
  | succ k1=>
   have H:=HA.out
   clear HA
   simp only[ZaF.l0] at H
   by_cases c5:x10_1<(l0_0.length:Int)
   ·rw[if_pos c5] at H
    have c5b0:decide (x10_1<(l0_0.length:Int))=true:=Ze c5
    clear c5
    by_cases c6:0≤x10_1
    ·rw[if_pos c6] at H
     have c6b0:decide (0≤x10_1)=true:=Ze c6
     clear c6
     by_cases c7:x10_1<(l0_0.length:Int)
     ·rw[if_pos c7] at H
      have c7b0:decide (x10_1<(l0_0.length:Int))=true:=Ze c7
      clear c7
      by_cases c8:((ZH l0_0 x10_1).f0).toList=a1.toList
      ·rw[if_pos c8] at H
       have c8b0:(((ZH l0_0 x10_1).f0).toList == a1.toList)=true:=beq_iff_eq.mpr c8
       clear c8
       obtain rfl:=Zg H
       have p125002:0≤(x10_1:Int):=Zd (by first|(with_reducible assumption)|assumption)
       have q125002:x10_1<(l0_0.length:Int):=Zd (by first|(with_reducible assumption)|assumption)
       obtain⟨ad125002,A125002_1,c125002_1,e125002,hx125002_0,hx125002_1,hx125002_2,hl125002_1,hi125002_1⟩:=Za0 HR0_0.out x10_1 p125002 q125002
       cases e125002
       replace hx125002_0:=(HB.out.cell (Zc w _ hx125002_0)).trans hx125002_0
       replace hx125002_1:=(HB.out.cell (Zc w _ hx125002_1)).trans hx125002_1
       replace hx125002_2:=(HB.out.cell (Zc w _ hx125002_2)).trans hx125002_2
       have HR125002_1:=Za hi125002_1;have HC125002_1:=Za hl125002_1;clear hi125002_1 hl125002_1
       replace p125002:=eq_true p125002
       replace q125002:=eq_true q125002
       go_wp2_with (first|((with_reducible refine ZF (N:=6) rfl ?_);refine ZG ?hg (N:=6) ?hd (cs:=#[.string (⟨#[]⟩:ByteArray),.slice none 0 0,.int .i64 0]) (t:=39) ?hr ?_;(case hd=>rfl);(case hg=>rfl);(case hr=>first|(go_simp;done)|(go_simp;rfl));intro gb125003 hg w9 hbox hb;have BK125003:=Za (hbox);have GW125003:=Za ((by rw[hg];exact(Zy (by repeat(first|(with_reducible first|exact HB.out|apply Zn|apply Zm|apply Zo|refine Zq ?_ GE125001.out)|exact HB.out))):w.heap.size≤gb125003));have GE125003:=Za ((by rw[hg];exact(Zy (by repeat(first|(with_reducible first|exact HB.out|apply Zn|apply Zm|apply Zo|refine Zq ?_ GE125001.out)|exact HB.out))):w.heap.size≤gb125003));have NB125001_125003:=Za ((by rw[hg];exact Nat.ne_of_lt (ZM (g:=gb125001) (o:=.cells #[.slice (some ad125002) l0_0.length c0_0,.slice A0_1 l0_1.length c0_1,.int .i64 a0_2] 25 (0,0)) (by(with_reducible repeat(first|refine Zt ?_ _|refine Zv ?_|refine Zs ?_ _));exact BK125001.out)):gb125001≠gb125003));have NB125003_125001:=Za ((by rw[hg];exact Nat.ne_of_gt (ZM (g:=gb125001) (o:=.cells #[.slice (some ad125002) l0_0.length c0_0,.slice A0_1 l0_1.length c0_1,.int .i64 a0_2] 25 (0,0)) (by(with_reducible repeat(first|refine Zt ?_ _|refine Zv ?_|refine Zs ?_ _));exact BK125001.out)):gb125003≠gb125001));replace BK125001:=Za (ZA (g:=gb125001) (o:=.cells #[.slice (some ad125002) l0_0.length c0_0,.slice A0_1 l0_1.length c0_1,.int .i64 a0_2] 25 (0,0)) (by(with_reducible repeat(first|refine Zt ?_ _|refine Zv ?_|refine Zs ?_ _));exact BK125001.out) hb);replace HB:=Za (Zw (by repeat(first|(with_reducible first|exact HB.out|apply Zn|apply Zm|apply Zo|refine Zq ?_ GE125001.out)|exact HB.out)) hb);clear hb hbox hg;have hcz11_0:w9.cell? ⟨gb125003,0,none⟩=some (.string (⟨#[]⟩:ByteArray)):=(Zp BK125003.out 0).trans rfl;have hcz11_1:w9.cell? ⟨gb125003,1,none⟩=some (.slice none 0 0):=(Zp BK125003.out 1).trans rfl;have hcz11_2:w9.cell? ⟨gb125003,2,none⟩=some (.int .i64 0):=(Zp BK125003.out 2).trans rfl;have hfz11_0:=Zr BK125003.out 0;have hfz11_1:=Zr BK125003.out 1;have hfz11_2:=Zr BK125003.out 2))
       go_ret
       exact⟨by first|rfl|(simp[ZC,ZB] <;> rfl)|(simp[*,ZC,ZB] <;> rfl),by repeat(first|(with_reducible first|exact HB.out|apply Zn|apply Zm|apply Zo|refine Zq ?_ GE125001.out|refine Zq ?_ GE125003.out)|exact HB.out)⟩
      ·rw[if_neg c8] at H
       have c8b0:(((ZH l0_0 x10_1).f0).toList == a1.toList)=false:=beq_eq_false_iff_ne.mpr c8
       have H':=Za H
       clear H
       have p125002:0≤(x10_1:Int):=Zd (by first|(with_reducible assumption)|assumption)
       have q125002:x10_1<(l0_0.length:Int):=Zd (by first|(with_reducible assumption)|assumption)
       obtain⟨ad125002,A125002_1,c125002_1,e125002,hx125002_0,hx125002_1,hx125002_2,hl125002_1,hi125002_1⟩:=Za0 HR0_0.out x10_1 p125002 q125002
       cases e125002
       replace hx125002_0:=(HB.out.cell (Zc w _ hx125002_0)).trans hx125002_0
       replace hx125002_1:=(HB.out.cell (Zc w _ hx125002_1)).trans hx125002_1
       replace hx125002_2:=(HB.out.cell (Zc w _ hx125002_2)).trans hx125002_2
       have HR125002_1:=Za hi125002_1;have HC125002_1:=Za hl125002_1;clear hi125002_1 hl125002_1
       replace p125002:=eq_true p125002
       replace q125002:=eq_true q125002
       go_wp2_with (first|((with_reducible refine ZF (N:=6) rfl ?_);refine ZG ?hg (N:=6) ?hd (cs:=#[.string (⟨#[]⟩:ByteArray),.slice none 0 0,.int .i64 0]) (t:=39) ?hr ?_;(case hd=>rfl);(case hg=>rfl);(case hr=>first|(go_simp;done)|(go_simp;rfl));intro gb125003 hg w12 hbox hb;have BK125003:=Za (hbox);have GW125003:=Za ((by rw[hg];exact(Zy (by repeat(first|(with_reducible first|exact HB.out|apply Zn|apply Zm|apply Zo|refine Zq ?_ GE125001.out)|exact HB.out))):w.heap.size≤gb125003));have GE125003:=Za ((by rw[hg];exact(Zy (by repeat(first|(with_reducible first|exact HB.out|apply Zn|apply Zm|apply Zo|refine Zq ?_ GE125001.out)|exact HB.out))):w.heap.size≤gb125003));have NB125001_125003:=Za ((by rw[hg];exact Nat.ne_of_lt (ZM (g:=gb125001) (o:=.cells #[.slice (some ad125002) l0_0.length c0_0,.slice A0_1 l0_1.length c0_1,.int .i64 a0_2] 25 (0,0)) (by(with_reducible repeat(first|refine Zt ?_ _|refine Zv ?_|refine Zs ?_ _));exact BK125001.out)):gb125001≠gb125003));have NB125003_125001:=Za ((by rw[hg];exact Nat.ne_of_gt (ZM (g:=gb125001) (o:=.cells #[.slice (some ad125002) l0_0.length c0_0,.slice A0_1 l0_1.length c0_1,.int .i64 a0_2] 25 (0,0)) (by(with_reducible repeat(first|refine Zt ?_ _|refine Zv ?_|refine Zs ?_ _));exact BK125001.out)):gb125003≠gb125001));replace BK125001:=Za (ZA (g:=gb125001) (o:=.cells #[.slice (some ad125002) l0_0.length c0_0,.slice A0_1 l0_1.length c0_1,.int .i64 a0_2] 25 (0,0)) (by(with_reducible repeat(first|refine Zt ?_ _|refine Zv ?_|refine Zs ?_ _));exact BK125001.out) hb);replace HB:=Za (Zw (by repeat(first|(with_reducible first|exact HB.out|apply Zn|apply Zm|apply Zo|refine Zq ?_ GE125001.out)|exact HB.out)) hb);clear hb hbox hg;have hcz14_0:w12.cell? ⟨gb125003,0,none⟩=some (.string (⟨#[]⟩:ByteArray)):=(Zp BK125003.out 0).trans rfl;have hcz14_1:w12.cell? ⟨gb125003,1,none⟩=some (.slice none 0 0):=(Zp BK125003.out 1).trans rfl;have hcz14_2:w12.cell? ⟨gb125003,2,none⟩=some (.int .i64 0):=(Zp BK125003.out 2).trans rfl;have hfz14_0:=Zr BK125003.out 0;have hfz14_1:=Zr BK125003.out 1;have hfz14_2:=Zr BK125003.out 2))
       go_roundg k1
       case measure=>have:=HK1.out;omega
       case rel=>exact⟨(wrap64 (x10_1+1)),(by first|rfl|(simp;done)|(simp[*];done)),H',⟨by have:=HK1.out;omega⟩,⟨by(with_reducible repeat(first|refine Zt ?_ _|refine Zv ?_|refine Zs ?_ _));refine ZQ ?_ NB125001_125003.out _;(with_reducible repeat(first|refine Zt ?_ _|refine Zv ?_|refine Zs ?_ _));refine ZQ ?_ NB125001_125003.out _;(with_reducible repeat(first|refine Zt ?_ _|refine Zv ?_|refine Zs ?_ _));refine ZQ ?_ NB125001_125003.out _;(with_reducible repeat(first|refine Zt ?_ _|refine Zv ?_|refine Zs ?_ _));exact BK125001.out⟩,⟨by repeat(first|(with_reducible first|exact HB.out|apply Zn|apply Zm|apply Zo|refine Zq ?_ GE125001.out|refine Zq ?_ GE125003.out)|exact HB.out)⟩⟩
     ·rw[if_neg c7] at H
      exact absurd H (by simp)
    ·rw[if_neg c6] at H
     exact absurd H (by simp)
   ·rw[if_neg c5] at H
    have c5b0:decide (x10_1<(l0_0.length:Int))=false:=Zf c5
    clear c5
    obtain rfl:=Zg H
    go_wp2
    go_ret
    exact⟨by first|rfl|(simp[ZC,ZB] <;> rfl)|(simp[*,ZC,ZB] <;> rfl),by repeat(first|(with_reducible first|exact HB.out|apply Zn|apply Zm|apply Zo|refine Zq ?_ GE125001.out)|exact HB.out)⟩
end Go.Proofs.YtoeimopgoaffcaaGreatDoor.Pr
namespace Go.Proofs.YtoeimopgoaffcaaGreatDoor.Pr
open Go.RowKit Go.Proofs.YtoeimopgoaffcaaGreatDoorW.PrintWords Go.Proofs.YtoeimopgoaffcaaGreatDoor.Ni
def ZdV (ns:List ZI) (s:ByteArray):Int:=ZaY (fun n=>decide (n.f0.toList=s.toList)) ns
theorem Zfa (ns:List ZI) (ts:List PTie) (z:Int) (s:ByteArray) (hl:ns.length≤9223372036854775807) (k:Nat) (hk:2 ^ 64≤k):ZaF.f k ns ts z s=some (ZdV ns s):=by
 have key:=Za9 ns.length (fun k i=>(∀j y,j<i→ns[j]? = some y→decide (y.f0.toList=s.toList)=false)→ZaF.l0 k s ns ns.length (i:Int)=some (ZdV ns s)) 0
  (fun k _ hb=>by
   simp only[ZaF.l0]
   rw[if_neg (by omega),ZdV,Zbx _ _ hb])
  (fun k i _ hi ih hb=>by
   simp only[ZaF.l0]
   rw[if_pos (by omega),if_pos (by omega),if_pos (by omega),Zcq,ZL hi (by omega)]
   by_cases h:(ns.getD i z39).f0.toList=s.toList
   ·rw[if_pos h,ZdV,ZbR _ ns i _ (getD_some hi z39) (Ze h) hb]
   ·rw[if_neg h,ih]
    intro j y hj hy
    by_cases e:j=i
    ·subst e
     rw[getD_some hi z39] at hy
     cases hy
     exact Zf h
    ·exact hb j y (by omega) hy) 0 k (Nat.zero_le _) (by omega)
 unfold ZaF.f
 exact key (fun j y hj=>absurd hj (by omega))
end Go.Proofs.YtoeimopgoaffcaaGreatDoor.Pr
namespace Go.Proofs.YtoeimopgoaffcaaGreatDoor.Pr
open Go.RowKit Go.Proofs.YtoeimopgoaffcaaGreatDoorW.PrintWords Go.Proofs.YtoeimopgoaffcaaGreatDoorW.PrintLast Go.Proofs.YtoeimopgoaffcaaGreatDoorW.PrintMore
attribute [local go_sem] ZU ZS ZW ZV ZO ZN ZT ZR
set_option linter.unusedVariables false
set_option linter.unusedSimpArgs false
def Z2.f (a0:Int) (a1:Int) (a2:Int):Option (Bool):=if a0≥a1 then(some (decide (a0≤a2))) else(some false)
set_option maxHeartbeats 8000000 in
set_option maxRecDepth 100000 in
theorem Z2.calls (a0:Int) (a1:Int) (a2:Int) (r:Bool) (w:World) (h:Z2.f a0 a1 a2=some r) :
  Calls Tryz.prog 127 #[.int .i64 a0,.int .i64 a1,.int .i64 a2] w fun e w'=>e=.returned (.bool r)∧ZE w w':=by
 have H:(if a0≥a1 then(some (decide (a0≤a2))) else(some false))=some r:=h
 clear h
 by_cases c4:a0≥a1
 ·rw[if_pos c4] at H
  have c4b0:decide (a1≤a0)=true:=Ze c4
  clear c4
  obtain rfl:=Zg H
  go_enter Tryz.func127,Tryz.ntmps127
  go_wp2
  go_ret
  exact⟨by first|rfl|(simp;done)|(simp[*];done),by repeat(first|exact ZE.refl _|apply ZE.step)⟩
 ·rw[if_neg c4] at H
  have c4b0:decide (a1≤a0)=false:=Zf c4
  clear c4
  obtain rfl:=Zg H
  go_enter Tryz.func127,Tryz.ntmps127
  go_wp2
  go_ret
  exact⟨by first|rfl|(simp;done)|(simp[*];done),by repeat(first|exact ZE.refl _|apply ZE.step)⟩
def Zau.l0:Nat→ByteArray→Int→Option (Bool)
 | 0,_,_=>none
 | k+1,x0,x3=>if x3<(x0.size:Int) then(if 0≤x3 then(if (bt x0 x3)≥97 then(if ((bt x0 x3)≤122) then(Zau.l0 k x0 (wrap64 (x3+1))) else(if x3=0 then(some false) else(if (bt x0 x3)<48 then(some false) else(if (bt x0 x3) > 57 then(some false) else(Zau.l0 k x0 (wrap64 (x3+1))))))) else(if x3=0 then(some false) else(if (bt x0 x3)<48 then(some false) else(if (bt x0 x3) > 57 then(some false) else(Zau.l0 k x0 (wrap64 (x3+1))))))) else(none)) else((Z2.f (x0.size:Int) 1 8).bind fun t206001=>(some t206001))
def Zau.f (k:Nat) (a0:ByteArray):Option (Bool):=Zau.l0 k a0 0
set_option maxHeartbeats 8000000 in
set_option maxRecDepth 100000 in
theorem Zau.calls (k:Nat) (a0:ByteArray) (r:Bool) (w:World) (h:Zau.f k a0=some r) :
  Calls Tryz.prog 206 #[.string a0] w fun e w'=>e=.returned (.bool r)∧ZE w w':=by
 have H:(Zau.l0 k a0 0)=some r:=h
 clear h
 have H':=Za H
 clear H
 go_enter Tryz.func206,Tryz.ntmps206
 go_wp2
 go_loopg [3] k (fun kq v3 w'=>∃(x3_1:Int),v3=.int .i64 x3_1∧Aside0 (Zau.l0 kq a0 x3_1=some r)∧Aside0 (kq≤k)∧ZE w w')
 case atStart=>exact⟨(0),(by first|rfl|(simp;done)|(simp[*];done)),H',⟨Nat.le_refl _⟩,by repeat(first|exact ZE.refl _|apply ZE.step)⟩
 case round=>
  clear H'
  obtain⟨x3_1,rfl,HA,HK1,⟨m1,rfl⟩⟩:=hrel
  cases gk with
  | zero=>exact absurd HA.out (by simp[Zau.l0])
  | succ k1=>
   have H:=HA.out
   clear HA
   simp only[Zau.l0] at H
   by_cases c2:x3_1<(a0.size:Int)
   ·rw[if_pos c2] at H
    have c2b0:decide (x3_1<(a0.size:Int))=true:=Ze c2
    clear c2
    by_cases c3:0≤x3_1
    ·rw[if_pos c3] at H
     have c3b0:decide (0≤x3_1)=true:=Ze c3
     clear c3
     by_cases c5:(bt a0 x3_1)≥97
     ·rw[if_pos c5] at H
      have c5b0:decide (97≤(bt a0 x3_1))=true:=Ze c5
      clear c5
      by_cases c7:((bt a0 x3_1)≤122)
      ·rw[if_pos c7] at H
       have c7b0:decide ((bt a0 x3_1)≤122)=true:=Ze c7
       clear c7
       have H':=Za H
       clear H
       have p4:0≤(x3_1:Int):=Zd (by first|(with_reducible assumption)|assumption)
       have q4:x3_1<(a0.size:Int):=Zd (by first|(with_reducible assumption)|assumption)
       have hx4:=Zak a0 x3_1
       replace p4:=eq_true p4
       replace q4:=eq_true q4
       have p6:0≤(x3_1:Int):=Zd (by first|(with_reducible assumption)|assumption)
       have q6:x3_1<(a0.size:Int):=Zd (by first|(with_reducible assumption)|assumption)
       have hx6:=Zak a0 x3_1
       replace p6:=eq_true p6
       replace q6:=eq_true q6
       go_wp2
       go_roundg k1
       case measure=>have:=HK1.out;omega
       case rel=>exact⟨(wrap64 (x3_1+1)),(by first|rfl|(simp;done)|(simp[*];done)),H',⟨by have:=HK1.out;omega⟩,by repeat(first|exact ZE.refl _|apply ZE.step)⟩
      ·rw[if_neg c7] at H
       have c7b0:decide ((bt a0 x3_1)≤122)=false:=Zf c7
       clear c7
       by_cases c8:x3_1=0
       ·rw[if_pos c8] at H
        have c8b0:(x3_1 == 0)=true:=beq_iff_eq.mpr c8
        clear c8
        obtain rfl:=Zg H
        have p4:0≤(x3_1:Int):=Zd (by first|(with_reducible assumption)|assumption)
        have q4:x3_1<(a0.size:Int):=Zd (by first|(with_reducible assumption)|assumption)
        have hx4:=Zak a0 x3_1
        replace p4:=eq_true p4
        replace q4:=eq_true q4
        have p6:0≤(x3_1:Int):=Zd (by first|(with_reducible assumption)|assumption)
        have q6:x3_1<(a0.size:Int):=Zd (by first|(with_reducible assumption)|assumption)
        have hx6:=Zak a0 x3_1
        replace p6:=eq_true p6
        replace q6:=eq_true q6
        go_wp2
        go_ret
        exact⟨by first|rfl|(simp;done)|(simp[*];done),by repeat(first|exact ZE.refl _|apply ZE.step)⟩
       ·rw[if_neg c8] at H
        have c8b0:(x3_1 == 0)=false:=beq_eq_false_iff_ne.mpr c8
        by_cases c10:(bt a0 x3_1)<48
        ·rw[if_pos c10] at H
         have c10b0:decide ((bt a0 x3_1)<48)=true:=Ze c10
         clear c10
         obtain rfl:=Zg H
         have p4:0≤(x3_1:Int):=Zd (by first|(with_reducible assumption)|assumption)
         have q4:x3_1<(a0.size:Int):=Zd (by first|(with_reducible assumption)|assumption)
         have hx4:=Zak a0 x3_1
         replace p4:=eq_true p4
         replace q4:=eq_true q4
         have p6:0≤(x3_1:Int):=Zd (by first|(with_reducible assumption)|assumption)
         have q6:x3_1<(a0.size:Int):=Zd (by first|(with_reducible assumption)|assumption)
         have hx6:=Zak a0 x3_1
         replace p6:=eq_true p6
         replace q6:=eq_true q6
         have p9:0≤(x3_1:Int):=Zd (by first|(with_reducible assumption)|assumption)
         have q9:x3_1<(a0.size:Int):=Zd (by first|(with_reducible assumption)|assumption)
         have hx9:=Zak a0 x3_1
         replace p9:=eq_true p9
         replace q9:=eq_true q9
         go_wp2
         go_ret
         exact⟨by first|rfl|(simp;done)|(simp[*];done),by repeat(first|exact ZE.refl _|apply ZE.step)⟩
        ·rw[if_neg c10] at H
         have c10b0:decide ((bt a0 x3_1)<48)=false:=Zf c10
         clear c10
         by_cases c12:(bt a0 x3_1) > 57
         ·rw[if_pos c12] at H
          have c12b0:decide (57<(bt a0 x3_1))=true:=Ze c12
          clear c12
          obtain rfl:=Zg H
          have p4:0≤(x3_1:Int):=Zd (by first|(with_reducible assumption)|assumption)
          have q4:x3_1<(a0.size:Int):=Zd (by first|(with_reducible assumption)|assumption)
          have hx4:=Zak a0 x3_1
          replace p4:=eq_true p4
          replace q4:=eq_true q4
          have p6:0≤(x3_1:Int):=Zd (by first|(with_reducible assumption)|assumption)
          have q6:x3_1<(a0.size:Int):=Zd (by first|(with_reducible assumption)|assumption)
          have hx6:=Zak a0 x3_1
          replace p6:=eq_true p6
          replace q6:=eq_true q6
          have p9:0≤(x3_1:Int):=Zd (by first|(with_reducible assumption)|assumption)
          have q9:x3_1<(a0.size:Int):=Zd (by first|(with_reducible assumption)|assumption)
          have hx9:=Zak a0 x3_1
          replace p9:=eq_true p9
          replace q9:=eq_true q9
          have p11:0≤(x3_1:Int):=Zd (by first|(with_reducible assumption)|assumption)
          have q11:x3_1<(a0.size:Int):=Zd (by first|(with_reducible assumption)|assumption)
          have hx11:=Zak a0 x3_1
          replace p11:=eq_true p11
          replace q11:=eq_true q11
          go_wp2
          go_ret
          exact⟨by first|rfl|(simp;done)|(simp[*];done),by repeat(first|exact ZE.refl _|apply ZE.step)⟩
         ·rw[if_neg c12] at H
          have c12b0:decide (57<(bt a0 x3_1))=false:=Zf c12
          clear c12
          have H':=Za H
          clear H
          have p4:0≤(x3_1:Int):=Zd (by first|(with_reducible assumption)|assumption)
          have q4:x3_1<(a0.size:Int):=Zd (by first|(with_reducible assumption)|assumption)
          have hx4:=Zak a0 x3_1
          replace p4:=eq_true p4
          replace q4:=eq_true q4
          have p6:0≤(x3_1:Int):=Zd (by first|(with_reducible assumption)|assumption)
          have q6:x3_1<(a0.size:Int):=Zd (by first|(with_reducible assumption)|assumption)
          have hx6:=Zak a0 x3_1
          replace p6:=eq_true p6
          replace q6:=eq_true q6
          have p9:0≤(x3_1:Int):=Zd (by first|(with_reducible assumption)|assumption)
          have q9:x3_1<(a0.size:Int):=Zd (by first|(with_reducible assumption)|assumption)
          have hx9:=Zak a0 x3_1
          replace p9:=eq_true p9
          replace q9:=eq_true q9
          have p11:0≤(x3_1:Int):=Zd (by first|(with_reducible assumption)|assumption)
          have q11:x3_1<(a0.size:Int):=Zd (by first|(with_reducible assumption)|assumption)
          have hx11:=Zak a0 x3_1
          replace p11:=eq_true p11
          replace q11:=eq_true q11
          go_wp2
          go_roundg k1
          case measure=>have:=HK1.out;omega
          case rel=>exact⟨(wrap64 (x3_1+1)),(by first|rfl|(simp;done)|(simp[*];done)),H',⟨by have:=HK1.out;omega⟩,by repeat(first|exact ZE.refl _|apply ZE.step)⟩
     ·rw[if_neg c5] at H
      have c5b0:decide (97≤(bt a0 x3_1))=false:=Zf c5
      clear c5
      by_cases c13:x3_1=0
      ·rw[if_pos c13] at H
       have c13b0:(x3_1 == 0)=true:=beq_iff_eq.mpr c13
       clear c13
       obtain rfl:=Zg H
       have p4:0≤(x3_1:Int):=Zd (by first|(with_reducible assumption)|assumption)
       have q4:x3_1<(a0.size:Int):=Zd (by first|(with_reducible assumption)|assumption)
       have hx4:=Zak a0 x3_1
       replace p4:=eq_true p4
       replace q4:=eq_true q4
       go_wp2
       go_ret
       exact⟨by first|rfl|(simp;done)|(simp[*];done),by repeat(first|exact ZE.refl _|apply ZE.step)⟩
      ·rw[if_neg c13] at H
       have c13b0:(x3_1 == 0)=false:=beq_eq_false_iff_ne.mpr c13
       by_cases c15:(bt a0 x3_1)<48
       ·rw[if_pos c15] at H
        have c15b0:decide ((bt a0 x3_1)<48)=true:=Ze c15
        clear c15
        obtain rfl:=Zg H
        have p4:0≤(x3_1:Int):=Zd (by first|(with_reducible assumption)|assumption)
        have q4:x3_1<(a0.size:Int):=Zd (by first|(with_reducible assumption)|assumption)
        have hx4:=Zak a0 x3_1
        replace p4:=eq_true p4
        replace q4:=eq_true q4
        have p14:0≤(x3_1:Int):=Zd (by first|(with_reducible assumption)|assumption)
        have q14:x3_1<(a0.size:Int):=Zd (by first|(with_reducible assumption)|assumption)
        have hx14:=Zak a0 x3_1
        replace p14:=eq_true p14
        replace q14:=eq_true q14
        go_wp2
        go_ret
        exact⟨by first|rfl|(simp;done)|(simp[*];done),by repeat(first|exact ZE.refl _|apply ZE.step)⟩
       ·rw[if_neg c15] at H
        have c15b0:decide ((bt a0 x3_1)<48)=false:=Zf c15
        clear c15
        by_cases c17:(bt a0 x3_1) > 57
        ·rw[if_pos c17] at H
         have c17b0:decide (57<(bt a0 x3_1))=true:=Ze c17
         clear c17
         obtain rfl:=Zg H
         have p4:0≤(x3_1:Int):=Zd (by first|(with_reducible assumption)|assumption)
         have q4:x3_1<(a0.size:Int):=Zd (by first|(with_reducible assumption)|assumption)
         have hx4:=Zak a0 x3_1
         replace p4:=eq_true p4
         replace q4:=eq_true q4
         have p14:0≤(x3_1:Int):=Zd (by first|(with_reducible assumption)|assumption)
         have q14:x3_1<(a0.size:Int):=Zd (by first|(with_reducible assumption)|assumption)
         have hx14:=Zak a0 x3_1
         replace p14:=eq_true p14
         replace q14:=eq_true q14
         have p16:0≤(x3_1:Int):=Zd (by first|(with_reducible assumption)|assumption)
         have q16:x3_1<(a0.size:Int):=Zd (by first|(with_reducible assumption)|assumption)
         have hx16:=Zak a0 x3_1
         replace p16:=eq_true p16
         replace q16:=eq_true q16
         go_wp2
         go_ret
         exact⟨by first|rfl|(simp;done)|(simp[*];done),by repeat(first|exact ZE.refl _|apply ZE.step)⟩
        ·rw[if_neg c17] at H
         have c17b0:decide (57<(bt a0 x3_1))=false:=Zf c17
         clear c17
         have H':=Za H
         clear H
         have p4:0≤(x3_1:Int):=Zd (by first|(with_reducible assumption)|assumption)
         have q4:x3_1<(a0.size:Int):=Zd (by first|(with_reducible assumption)|assumption)
         have hx4:=Zak a0 x3_1
         replace p4:=eq_true p4
         replace q4:=eq_true q4
         have p14:0≤(x3_1:Int):=Zd (by first|(with_reducible assumption)|assumption)
         have q14:x3_1<(a0.size:Int):=Zd (by first|(with_reducible assumption)|assumption)
         have hx14:=Zak a0 x3_1
         replace p14:=eq_true p14
         replace q14:=eq_true q14
         have p16:0≤(x3_1:Int):=Zd (by first|(with_reducible assumption)|assumption)
         have q16:x3_1<(a0.size:Int):=Zd (by first|(with_reducible assumption)|assumption)
         have hx16:=Zak a0 x3_1
         replace p16:=eq_true p16
         replace q16:=eq_true q16
         go_wp2
         go_roundg k1
         case measure=>have:=HK1.out;omega
         case rel=>exact⟨(wrap64 (x3_1+1)),(by first|rfl|(simp;done)|(simp[*];done)),H',⟨by have:=HK1.out;omega⟩,by repeat(first|exact ZE.refl _|apply ZE.step)⟩
    ·rw[if_neg c3] at H
     exact absurd H (by simp)
   ·rw[if_neg c2] at H
    have c2b0:decide (x3_1<(a0.size:Int))=false:=Zf c2
    clear c2
    replace H:=Zh H
    obtain⟨t206001,A180,H⟩:=H;have A18:=Za A180;clear A180
    obtain rfl:=Zg H
    go_wp2_with (first|((with_reducible refine ZJ (f:=127) rfl ?_);refine Zaa (some 41) rfl rfl Tryz.func127 (by kernel_rfl) rfl #[.int .i64 (a0.size:Int),.int .i64 1,.int .i64 8] rfl (by(try simp only[List.map_toArray,List.map_cons,List.map_nil]);first|done|rfl|(simp only[Zk,Zj];rfl)) ?_;(with_reducible refine(Z2.calls (a0.size:Int) 1 8 t206001 _ A18.out).mono ?_);rintro e w' ⟨rfl,⟨nd,rfl⟩⟩;refine⟨_,rfl,?_⟩))
    go_ret
    exact⟨by first|rfl|(simp;done)|(simp[*];done),by repeat(first|exact ZE.refl _|apply ZE.step)⟩
def Zam.l0:Nat→ByteArray→Int→Option (Bool)
 | 0,_,_=>none
 | k+1,x0,x3=>if x3<(x0.size:Int) then(if 0≤x3 then(if (bt x0 x3)≥97 then(if (bt x0 x3)≥48 then(if ((bt x0 x3)≤122) then(Zam.l0 k x0 (wrap64 (x3+1))) else(if ((bt x0 x3)≤57) then(if x3=0 then(some false) else(Zam.l0 k x0 (wrap64 (x3+1)))) else(some false))) else(if ((bt x0 x3)≤122) then(Zam.l0 k x0 (wrap64 (x3+1))) else(some false))) else(if (bt x0 x3)≥48 then(if ((bt x0 x3)≤57) then(if x3=0 then(some false) else(Zam.l0 k x0 (wrap64 (x3+1)))) else(some false)) else(some false))) else(none)) else(if (x0.size:Int)≥1 then(some (decide ((x0.size:Int)≤8))) else(some false))
def Zam.f (k:Nat) (a0:ByteArray):Option (Bool):=Zam.l0 k a0 0
set_option maxHeartbeats 8000000 in
set_option maxRecDepth 100000 in
theorem Zam.calls (k:Nat) (a0:ByteArray) (r:Bool) (w:World) (h:Zam.f k a0=some r) :
  Calls Tryz.prog 86 #[.string a0] w fun e w'=>e=.returned (.bool r)∧ZE w w':=by
 have H:(Zam.l0 k a0 0)=some r:=h
 clear h
 have H':=Za H
 clear H
 go_enter Tryz.func86,Tryz.ntmps86
 go_wp2
 repeat(go_quiet (fail);try go_wp2)
 go_loopg [3] k (fun kq v3 w'=>∃(x3_1:Int),v3=.int .i64 x3_1∧Aside0 (Zam.l0 kq a0 x3_1=some r)∧Aside0 (kq≤k)∧ZE w w')
 case atStart=>exact⟨(0),(by first|rfl|(simp;done)|(simp[*];done)),H',⟨Nat.le_refl _⟩,by repeat(first|exact ZE.refl _|apply ZE.step)⟩
 case round=>
  clear H'
  obtain⟨x3_1,rfl,HA,HK1,⟨m1,rfl⟩⟩:=hrel
  cases gk with
  | zero=>exact absurd HA.out (by simp[Zam.l0])
  | succ k1=>
   have H:=HA.out
   clear HA
   simp only[Zam.l0] at H
   by_cases c2:x3_1<(a0.size:Int)
   ·rw[if_pos c2] at H
    have c2b0:decide (x3_1<(a0.size:Int))=true:=Ze c2
    clear c2
    by_cases c3:0≤x3_1
    ·rw[if_pos c3] at H
     have c3b0:decide (0≤x3_1)=true:=Ze c3
     clear c3
     by_cases c5:(bt a0 x3_1)≥97
     ·rw[if_pos c5] at H
      have c5b0:decide (97≤(bt a0 x3_1))=true:=Ze c5
      clear c5
      by_cases c8:(bt a0 x3_1)≥48
      ·rw[if_pos c8] at H
       have c8b0:decide (48≤(bt a0 x3_1))=true:=Ze c8
       clear c8
       by_cases c10:((bt a0 x3_1)≤122)
       ·rw[if_pos c10] at H
        have c10b0:decide ((bt a0 x3_1)≤122)=true:=Ze c10
        clear c10
        have H':=Za H
        clear H
        have p4:0≤(x3_1:Int):=Zd (by first|(with_reducible assumption)|assumption)
        have q4:x3_1<(a0.size:Int):=Zd (by first|(with_reducible assumption)|assumption)
        have hx4:=Zak a0 x3_1
        replace p4:=eq_true p4
        replace q4:=eq_true q4
        have p6:0≤(x3_1:Int):=Zd (by first|(with_reducible assumption)|assumption)
        have q6:x3_1<(a0.size:Int):=Zd (by first|(with_reducible assumption)|assumption)
        have hx6:=Zak a0 x3_1
        replace p6:=eq_true p6
        replace q6:=eq_true q6
        have p7:0≤(x3_1:Int):=Zd (by first|(with_reducible assumption)|assumption)
        have q7:x3_1<(a0.size:Int):=Zd (by first|(with_reducible assumption)|assumption)
        have hx7:=Zak a0 x3_1
        replace p7:=eq_true p7
        replace q7:=eq_true q7
        have p9:0≤(x3_1:Int):=Zd (by first|(with_reducible assumption)|assumption)
        have q9:x3_1<(a0.size:Int):=Zd (by first|(with_reducible assumption)|assumption)
        have hx9:=Zak a0 x3_1
        replace p9:=eq_true p9
        replace q9:=eq_true q9
        go_wp2
        repeat(go_quiet (fail);try go_wp2)
        go_roundg k1
        case measure=>have:=HK1.out;omega
        case rel=>exact⟨(wrap64 (x3_1+1)),(by first|rfl|(simp;done)|(simp[*];done)),H',⟨by have:=HK1.out;omega⟩,by repeat(first|exact ZE.refl _|apply ZE.step)⟩
       ·rw[if_neg c10] at H
        have c10b0:decide ((bt a0 x3_1)≤122)=false:=Zf c10
        clear c10
        by_cases c11:((bt a0 x3_1)≤57)
        ·rw[if_pos c11] at H
         have c11b0:decide ((bt a0 x3_1)≤57)=true:=Ze c11
         clear c11
         by_cases c12:x3_1=0
         ·rw[if_pos c12] at H
          have c12b0:(x3_1 == 0)=true:=beq_iff_eq.mpr c12
          clear c12
          obtain rfl:=Zg H
          have p4:0≤(x3_1:Int):=Zd (by first|(with_reducible assumption)|assumption)
          have q4:x3_1<(a0.size:Int):=Zd (by first|(with_reducible assumption)|assumption)
          have hx4:=Zak a0 x3_1
          replace p4:=eq_true p4
          replace q4:=eq_true q4
          have p6:0≤(x3_1:Int):=Zd (by first|(with_reducible assumption)|assumption)
          have q6:x3_1<(a0.size:Int):=Zd (by first|(with_reducible assumption)|assumption)
          have hx6:=Zak a0 x3_1
          replace p6:=eq_true p6
          replace q6:=eq_true q6
          have p7:0≤(x3_1:Int):=Zd (by first|(with_reducible assumption)|assumption)
          have q7:x3_1<(a0.size:Int):=Zd (by first|(with_reducible assumption)|assumption)
          have hx7:=Zak a0 x3_1
          replace p7:=eq_true p7
          replace q7:=eq_true q7
          have p9:0≤(x3_1:Int):=Zd (by first|(with_reducible assumption)|assumption)
          have q9:x3_1<(a0.size:Int):=Zd (by first|(with_reducible assumption)|assumption)
          have hx9:=Zak a0 x3_1
          replace p9:=eq_true p9
          replace q9:=eq_true q9
          go_wp2
          repeat(go_quiet (fail);try go_wp2)
          go_ret
          exact⟨by first|rfl|(simp;done)|(simp[*];done),by repeat(first|exact ZE.refl _|apply ZE.step)⟩
         ·rw[if_neg c12] at H
          have c12b0:(x3_1 == 0)=false:=beq_eq_false_iff_ne.mpr c12
          have H':=Za H
          clear H
          have p4:0≤(x3_1:Int):=Zd (by first|(with_reducible assumption)|assumption)
          have q4:x3_1<(a0.size:Int):=Zd (by first|(with_reducible assumption)|assumption)
          have hx4:=Zak a0 x3_1
          replace p4:=eq_true p4
          replace q4:=eq_true q4
          have p6:0≤(x3_1:Int):=Zd (by first|(with_reducible assumption)|assumption)
          have q6:x3_1<(a0.size:Int):=Zd (by first|(with_reducible assumption)|assumption)
          have hx6:=Zak a0 x3_1
          replace p6:=eq_true p6
          replace q6:=eq_true q6
          have p7:0≤(x3_1:Int):=Zd (by first|(with_reducible assumption)|assumption)
          have q7:x3_1<(a0.size:Int):=Zd (by first|(with_reducible assumption)|assumption)
          have hx7:=Zak a0 x3_1
          replace p7:=eq_true p7
          replace q7:=eq_true q7
          have p9:0≤(x3_1:Int):=Zd (by first|(with_reducible assumption)|assumption)
          have q9:x3_1<(a0.size:Int):=Zd (by first|(with_reducible assumption)|assumption)
          have hx9:=Zak a0 x3_1
          replace p9:=eq_true p9
          replace q9:=eq_true q9
          go_wp2
          repeat(go_quiet (fail);try go_wp2)
          go_roundg k1
          case measure=>have:=HK1.out;omega
          case rel=>exact⟨(wrap64 (x3_1+1)),(by first|rfl|(simp;done)|(simp[*];done)),H',⟨by have:=HK1.out;omega⟩,by repeat(first|exact ZE.refl _|apply ZE.step)⟩
        ·rw[if_neg c11] at H
         have c11b0:decide ((bt a0 x3_1)≤57)=false:=Zf c11
         clear c11
         obtain rfl:=Zg H
         have p4:0≤(x3_1:Int):=Zd (by first|(with_reducible assumption)|assumption)
         have q4:x3_1<(a0.size:Int):=Zd (by first|(with_reducible assumption)|assumption)
         have hx4:=Zak a0 x3_1
         replace p4:=eq_true p4
         replace q4:=eq_true q4
         have p6:0≤(x3_1:Int):=Zd (by first|(with_reducible assumption)|assumption)
         have q6:x3_1<(a0.size:Int):=Zd (by first|(with_reducible assumption)|assumption)
         have hx6:=Zak a0 x3_1
         replace p6:=eq_true p6
         replace q6:=eq_true q6
         have p7:0≤(x3_1:Int):=Zd (by first|(with_reducible assumption)|assumption)
         have q7:x3_1<(a0.size:Int):=Zd (by first|(with_reducible assumption)|assumption)
         have hx7:=Zak a0 x3_1
         replace p7:=eq_true p7
         replace q7:=eq_true q7
         have p9:0≤(x3_1:Int):=Zd (by first|(with_reducible assumption)|assumption)
         have q9:x3_1<(a0.size:Int):=Zd (by first|(with_reducible assumption)|assumption)
         have hx9:=Zak a0 x3_1
         replace p9:=eq_true p9
         replace q9:=eq_true q9
         go_wp2
         repeat(go_quiet (fail);try go_wp2)
         go_ret
         exact⟨by first|rfl|(simp;done)|(simp[*];done),by repeat(first|exact ZE.refl _|apply ZE.step)⟩
      ·rw[if_neg c8] at H
       have c8b0:decide (48≤(bt a0 x3_1))=false:=Zf c8
       clear c8
       by_cases c13:((bt a0 x3_1)≤122)
       ·rw[if_pos c13] at H
        have c13b0:decide ((bt a0 x3_1)≤122)=true:=Ze c13
        clear c13
        have H':=Za H
        clear H
        have p4:0≤(x3_1:Int):=Zd (by first|(with_reducible assumption)|assumption)
        have q4:x3_1<(a0.size:Int):=Zd (by first|(with_reducible assumption)|assumption)
        have hx4:=Zak a0 x3_1
        replace p4:=eq_true p4
        replace q4:=eq_true q4
        have p6:0≤(x3_1:Int):=Zd (by first|(with_reducible assumption)|assumption)
        have q6:x3_1<(a0.size:Int):=Zd (by first|(with_reducible assumption)|assumption)
        have hx6:=Zak a0 x3_1
        replace p6:=eq_true p6
        replace q6:=eq_true q6
        have p7:0≤(x3_1:Int):=Zd (by first|(with_reducible assumption)|assumption)
        have q7:x3_1<(a0.size:Int):=Zd (by first|(with_reducible assumption)|assumption)
        have hx7:=Zak a0 x3_1
        replace p7:=eq_true p7
        replace q7:=eq_true q7
        go_wp2
        repeat(go_quiet (fail);try go_wp2)
        go_roundg k1
        case measure=>have:=HK1.out;omega
        case rel=>exact⟨(wrap64 (x3_1+1)),(by first|rfl|(simp;done)|(simp[*];done)),H',⟨by have:=HK1.out;omega⟩,by repeat(first|exact ZE.refl _|apply ZE.step)⟩
       ·rw[if_neg c13] at H
        have c13b0:decide ((bt a0 x3_1)≤122)=false:=Zf c13
        clear c13
        obtain rfl:=Zg H
        have p4:0≤(x3_1:Int):=Zd (by first|(with_reducible assumption)|assumption)
        have q4:x3_1<(a0.size:Int):=Zd (by first|(with_reducible assumption)|assumption)
        have hx4:=Zak a0 x3_1
        replace p4:=eq_true p4
        replace q4:=eq_true q4
        have p6:0≤(x3_1:Int):=Zd (by first|(with_reducible assumption)|assumption)
        have q6:x3_1<(a0.size:Int):=Zd (by first|(with_reducible assumption)|assumption)
        have hx6:=Zak a0 x3_1
        replace p6:=eq_true p6
        replace q6:=eq_true q6
        have p7:0≤(x3_1:Int):=Zd (by first|(with_reducible assumption)|assumption)
        have q7:x3_1<(a0.size:Int):=Zd (by first|(with_reducible assumption)|assumption)
        have hx7:=Zak a0 x3_1
        replace p7:=eq_true p7
        replace q7:=eq_true q7
        go_wp2
        repeat(go_quiet (fail);try go_wp2)
        go_ret
        exact⟨by first|rfl|(simp;done)|(simp[*];done),by repeat(first|exact ZE.refl _|apply ZE.step)⟩
     ·rw[if_neg c5] at H
      have c5b0:decide (97≤(bt a0 x3_1))=false:=Zf c5
      clear c5
      by_cases c15:(bt a0 x3_1)≥48
      ·rw[if_pos c15] at H
       have c15b0:decide (48≤(bt a0 x3_1))=true:=Ze c15
       clear c15
       by_cases c17:((bt a0 x3_1)≤57)
       ·rw[if_pos c17] at H
        have c17b0:decide ((bt a0 x3_1)≤57)=true:=Ze c17
        clear c17
        by_cases c18:x3_1=0
        ·rw[if_pos c18] at H
         have c18b0:(x3_1 == 0)=true:=beq_iff_eq.mpr c18
         clear c18
         obtain rfl:=Zg H
         have p4:0≤(x3_1:Int):=Zd (by first|(with_reducible assumption)|assumption)
         have q4:x3_1<(a0.size:Int):=Zd (by first|(with_reducible assumption)|assumption)
         have hx4:=Zak a0 x3_1
         replace p4:=eq_true p4
         replace q4:=eq_true q4
         have p14:0≤(x3_1:Int):=Zd (by first|(with_reducible assumption)|assumption)
         have q14:x3_1<(a0.size:Int):=Zd (by first|(with_reducible assumption)|assumption)
         have hx14:=Zak a0 x3_1
         replace p14:=eq_true p14
         replace q14:=eq_true q14
         have p16:0≤(x3_1:Int):=Zd (by first|(with_reducible assumption)|assumption)
         have q16:x3_1<(a0.size:Int):=Zd (by first|(with_reducible assumption)|assumption)
         have hx16:=Zak a0 x3_1
         replace p16:=eq_true p16
         replace q16:=eq_true q16
         go_wp2
         repeat(go_quiet (fail);try go_wp2)
         go_ret
         exact⟨by first|rfl|(simp;done)|(simp[*];done),by repeat(first|exact ZE.refl _|apply ZE.step)⟩
        ·rw[if_neg c18] at H
         have c18b0:(x3_1 == 0)=false:=beq_eq_false_iff_ne.mpr c18
         have H':=Za H
         clear H
         have p4:0≤(x3_1:Int):=Zd (by first|(with_reducible assumption)|assumption)
         have q4:x3_1<(a0.size:Int):=Zd (by first|(with_reducible assumption)|assumption)
         have hx4:=Zak a0 x3_1
         replace p4:=eq_true p4
         replace q4:=eq_true q4
         have p14:0≤(x3_1:Int):=Zd (by first|(with_reducible assumption)|assumption)
         have q14:x3_1<(a0.size:Int):=Zd (by first|(with_reducible assumption)|assumption)
         have hx14:=Zak a0 x3_1
         replace p14:=eq_true p14
         replace q14:=eq_true q14
         have p16:0≤(x3_1:Int):=Zd (by first|(with_reducible assumption)|assumption)
         have q16:x3_1<(a0.size:Int):=Zd (by first|(with_reducible assumption)|assumption)
         have hx16:=Zak a0 x3_1
         replace p16:=eq_true p16
         replace q16:=eq_true q16
         go_wp2
         repeat(go_quiet (fail);try go_wp2)
         go_roundg k1
         case measure=>have:=HK1.out;omega
         case rel=>exact⟨(wrap64 (x3_1+1)),(by first|rfl|(simp;done)|(simp[*];done)),H',⟨by have:=HK1.out;omega⟩,by repeat(first|exact ZE.refl _|apply ZE.step)⟩
       ·rw[if_neg c17] at H
        have c17b0:decide ((bt a0 x3_1)≤57)=false:=Zf c17
        clear c17
        obtain rfl:=Zg H
        have p4:0≤(x3_1:Int):=Zd (by first|(with_reducible assumption)|assumption)
        have q4:x3_1<(a0.size:Int):=Zd (by first|(with_reducible assumption)|assumption)
        have hx4:=Zak a0 x3_1
        replace p4:=eq_true p4
        replace q4:=eq_true q4
        have p14:0≤(x3_1:Int):=Zd (by first|(with_reducible assumption)|assumption)
        have q14:x3_1<(a0.size:Int):=Zd (by first|(with_reducible assumption)|assumption)
        have hx14:=Zak a0 x3_1
        replace p14:=eq_true p14
        replace q14:=eq_true q14
        have p16:0≤(x3_1:Int):=Zd (by first|(with_reducible assumption)|assumption)
        have q16:x3_1<(a0.size:Int):=Zd (by first|(with_reducible assumption)|assumption)
        have hx16:=Zak a0 x3_1
        replace p16:=eq_true p16
        replace q16:=eq_true q16
        go_wp2
        repeat(go_quiet (fail);try go_wp2)
        go_ret
        exact⟨by first|rfl|(simp;done)|(simp[*];done),by repeat(first|exact ZE.refl _|apply ZE.step)⟩
      ·rw[if_neg c15] at H
       have c15b0:decide (48≤(bt a0 x3_1))=false:=Zf c15
       clear c15
       obtain rfl:=Zg H
       have p4:0≤(x3_1:Int):=Zd (by first|(with_reducible assumption)|assumption)
       have q4:x3_1<(a0.size:Int):=Zd (by first|(with_reducible assumption)|assumption)
       have hx4:=Zak a0 x3_1
       replace p4:=eq_true p4
       replace q4:=eq_true q4
       have p14:0≤(x3_1:Int):=Zd (by first|(with_reducible assumption)|assumption)
       have q14:x3_1<(a0.size:Int):=Zd (by first|(with_reducible assumption)|assumption)
       have hx14:=Zak a0 x3_1
       replace p14:=eq_true p14
       replace q14:=eq_true q14
       go_wp2
       repeat(go_quiet (fail);try go_wp2)
       go_ret
       exact⟨by first|rfl|(simp;done)|(simp[*];done),by repeat(first|exact ZE.refl _|apply ZE.step)⟩
    ·rw[if_neg c3] at H
     exact absurd H (by simp)
   ·rw[if_neg c2] at H
    have c2b0:decide (x3_1<(a0.size:Int))=false:=Zf c2
    clear c2
    by_cases c19:(a0.size:Int)≥1
    ·rw[if_pos c19] at H
     have c19b0:decide (1≤(a0.size:Int))=true:=Ze c19
     clear c19
     obtain rfl:=Zg H
     go_wp2
     repeat(go_quiet (fail);try go_wp2)
     go_ret
     exact⟨by first|rfl|(simp;done)|(simp[*];done),by repeat(first|exact ZE.refl _|apply ZE.step)⟩
    ·rw[if_neg c19] at H
     have c19b0:decide (1≤(a0.size:Int))=false:=Zf c19
     clear c19
     obtain rfl:=Zg H
     go_wp2
     repeat(go_quiet (fail);try go_wp2)
     go_ret
     exact⟨by first|rfl|(simp;done)|(simp[*];done),by repeat(first|exact ZE.refl _|apply ZE.step)⟩
end Go.Proofs.YtoeimopgoaffcaaGreatDoor.Pr
namespace Go.Proofs.YtoeimopgoaffcaaGreatDoor.Pr
open Go.RowKit Go.Proofs.YtoeimopgoaffcaaGreatDoorW.PrintWords Go.Proofs.YtoeimopgoaffcaaGreatDoor.Ni
def chB (s:ByteArray) (i:Nat):Bool:=(decide (97≤bt s i) && decide (bt s i≤122)) || (decide (0<i) && decide (48≤bt s i) && decide (bt s i≤57))
def chsB (s:ByteArray) (i:Nat):Nat→Bool
 | 0=>true
 | d+1=>chB s i && chsB s (i+1) d
def nameB (s:ByteArray):Bool:=chsB s 0 s.size && (decide (1≤s.size) && decide (s.size≤8))
theorem Zgm (s:ByteArray) (hs:s.size≤9223372036854775807) (k:Nat) (hk:2 ^ 64≤k):Zau.f k s=some (nameB s):=by
 have key:=Za9 s.size (fun k i=>Zau.l0 k s (i:Int)=some (chsB s i (s.size - i) && (decide (1≤s.size) && decide (s.size≤8)))) 0
  (fun k _=>by
   simp only[Zau.l0]
   rw[if_neg (by omega),Nat.sub_self]
   unfold Z2.f chsB
   by_cases h1:1≤s.size
   ·rw[if_pos (by omega),Ze h1]
    simp only[Zi,Bool.true_and]
    congr 1
    rw[Bool.eq_iff_iff];simp;omega
   ·rw[if_neg (by omega),Zf h1];rfl)
  (fun k i _ hi ih=>by
   simp only[Zau.l0]
   rw[if_pos (by omega),if_pos (by omega),ZL hi (by omega),ih,show chsB s i (s.size - i)=(chB s i && chsB s (i+1) (s.size - (i+1))) by rw[show s.size - i=(s.size - (i+1))+1 by omega];rfl]
   have hF:chB s i=false→(chB s i && chsB s (i+1) (s.size - (i+1)) && (decide (1≤s.size) && decide (s.size≤8)))=false:=fun h=>by rw[h];rfl
   have hT:chB s i=true→(chB s i && chsB s (i+1) (s.size - (i+1)) && (decide (1≤s.size) && decide (s.size≤8)))=(chsB s (i+1) (s.size - (i+1)) && (decide (1≤s.size) && decide (s.size≤8))):=fun h=>by rw[h,Bool.true_and]
   generalize hc:bt s (i:Int)=c at *
   have hch:chB s i=((decide (97≤c) && decide (c≤122)) || (decide (0<i) && decide (48≤c) && decide (c≤57))):=by unfold chB;rw[hc]
   by_cases a1:c≥97
   ·rw[if_pos a1]
    by_cases a2:c≤122
    ·rw[if_pos a2,hT (by rw[hch];simp;omega)]
    ·rw[if_neg a2,hF (by rw[hch];simp;omega)]
     split
     ·rfl
     ·split
      ·rfl
      ·rw[if_pos (by omega)]
   ·rw[if_neg a1]
    by_cases b0:(i:Int)=0
    ·rw[if_pos b0,hF (by rw[hch];simp;omega)]
    ·rw[if_neg b0]
     by_cases b1:c<48
     ·rw[if_pos b1,hF (by rw[hch];simp;omega)]
     ·rw[if_neg b1]
      by_cases b2:c > 57
      ·rw[if_pos b2,hF (by rw[hch];simp;omega)]
      ·rw[if_neg b2,hT (by rw[hch];simp;omega)]) 0 k (Nat.zero_le _) (by omega)
 unfold Zau.f nameB
 simpa using key
theorem Zgs (s:ByteArray) (hs:s.size≤9223372036854775807) (k:Nat) (hk:2 ^ 64≤k):Zam.f k s=some (nameB s):=by
 have key:=Za9 s.size (fun k i=>Zam.l0 k s (i:Int)=some (chsB s i (s.size - i) && (decide (1≤s.size) && decide (s.size≤8)))) 0
  (fun k _=>by
   simp only[Zam.l0]
   rw[if_neg (by omega),Nat.sub_self]
   unfold chsB
   by_cases h1:1≤s.size
   ·rw[if_pos (by omega),Ze h1]
    simp only[Bool.true_and]
    congr 1
    rw[Bool.eq_iff_iff];simp;omega
   ·rw[if_neg (by omega),Zf h1];rfl)
  (fun k i _ hi ih=>by
   simp only[Zam.l0]
   rw[if_pos (by omega),if_pos (by omega),ZL hi (by omega),ih,show chsB s i (s.size - i)=(chB s i && chsB s (i+1) (s.size - (i+1))) by rw[show s.size - i=(s.size - (i+1))+1 by omega];rfl]
   have hF:chB s i=false→(chB s i && chsB s (i+1) (s.size - (i+1)) && (decide (1≤s.size) && decide (s.size≤8)))=false:=fun h=>by rw[h];rfl
   have hT:chB s i=true→(chB s i && chsB s (i+1) (s.size - (i+1)) && (decide (1≤s.size) && decide (s.size≤8)))=(chsB s (i+1) (s.size - (i+1)) && (decide (1≤s.size) && decide (s.size≤8))):=fun h=>by rw[h,Bool.true_and]
   generalize hc:bt s (i:Int)=c at *
   have hch:chB s i=((decide (97≤c) && decide (c≤122)) || (decide (0<i) && decide (48≤c) && decide (c≤57))):=by unfold chB;rw[hc]
   by_cases a1:c≥97
   ·rw[if_pos a1,if_pos (by omega)]
    by_cases a2:c≤122
    ·rw[if_pos a2,hT (by rw[hch];simp;omega)]
    ·rw[if_neg a2,if_neg (by omega),hF (by rw[hch];simp;omega)]
   ·rw[if_neg a1]
    by_cases b1:c≥48
    ·rw[if_pos b1]
     by_cases b2:c≤57
     ·rw[if_pos b2]
      by_cases b0:(i:Int)=0
      ·rw[if_pos b0,hF (by rw[hch];simp;omega)]
      ·rw[if_neg b0,hT (by rw[hch];simp;omega)]
     ·rw[if_neg b2,hF (by rw[hch];simp;omega)]
    ·rw[if_neg b1,hF (by rw[hch];simp;omega)]) 0 k (Nat.zero_le _) (by omega)
 unfold Zam.f nameB
 simpa using key
end Go.Proofs.YtoeimopgoaffcaaGreatDoor.Pr
namespace Go.Proofs.YtoeimopgoaffcaaGreatDoor.Pr
open Go.RowKit Go.Proofs.YtoeimopgoaffcaaGreatDoorW.PrintWords Go.Proofs.YtoeimopgoaffcaaGreatDoorW.PrintLast Go.Proofs.YtoeimopgoaffcaaGreatDoorW.PrintMore
attribute [local go_sem] ZU ZS ZW ZV ZO ZN ZT ZR
set_option linter.unusedVariables false
set_option linter.unusedSimpArgs false
def ZaE.f (a0:Int):Option (Int):=if a0<0 then(some (wrap64 (-a0))) else(some a0)
set_option maxHeartbeats 8000000 in
set_option maxRecDepth 100000 in
theorem ZaE.calls (a0:Int) (r:Int) (w:World) (h:ZaE.f a0=some r) :
  Calls Tryz.prog 98 #[.int .i64 a0] w fun e w'=>e=.returned (.int .i64 r)∧ZE w w':=by
 have H:(if a0<0 then(some (wrap64 (-a0))) else(some a0))=some r:=h
 clear h
 by_cases c2:a0<0
 ·rw[if_pos c2] at H
  have c2b0:decide (a0<0)=true:=Ze c2
  clear c2
  obtain rfl:=Zg H
  go_enter Tryz.func98,Tryz.ntmps98
  go_wp2
  go_ret
  exact⟨by first|rfl|(simp;done)|(simp[*];done),by repeat(first|exact ZE.refl _|apply ZE.step)⟩
 ·rw[if_neg c2] at H
  have c2b0:decide (a0<0)=false:=Zf c2
  clear c2
  obtain rfl:=Zg H
  go_enter Tryz.func98,Tryz.ntmps98
  go_wp2
  go_ret
  exact⟨by first|rfl|(simp;done)|(simp[*];done),by repeat(first|exact ZE.refl _|apply ZE.step)⟩
def Zae.l0:Nat→List Int→List Int→Int→Int→Option (Bool)
 | 0,_,_,_,_=>none
 | k+1,x0,x5,x6,x7=>if x7<x6 then(if 0≤x7 then(if x7<(x5.length:Int) then(if (rd x5 x7)=0 then(some false) else((Z2.f (rd x5 x7) (-3) 3).bind fun t175002=>(if t175002=true then(if x7 > 0 then(if 0≤(wrap64 (x7 - 1)) then(if (wrap64 (x7 - 1))<(x0.length:Int) then((ZaE.f (rd x0 (wrap64 (x7 - 1)))).bind fun t175004=>((ZaE.f (rd x5 x7)).bind fun t175005=>(if t175004≥t175005 then(some false) else(Zae.l0 k x0 x5 x6 (wrap64 (x7+1)))))) else(none)) else(none)) else(Zae.l0 k x0 x5 x6 (wrap64 (x7+1)))) else(some false)))) else(none)) else(none)) else(some true)
def Zae.f (k:Nat) (l0:List Int):Option (Bool):=Zae.l0 k l0 l0 (l0.length:Int) 0
set_option maxHeartbeats 8000000 in
set_option maxRecDepth 100000 in
theorem Zae.calls (k:Nat) (A0:Option Addr) (c0:Nat) (l0:List Int) (r:Bool) (w:World) (hr0:Kd.C (Kd.int .i64) w A0 l0.length l0) (hc0:l0.length≤c0) (h:Zae.f k l0=some r) :
  Calls Tryz.prog 175 #[.slice A0 l0.length c0] w fun e w'=>e=.returned (.bool r)∧ZE w w':=by
 have HR0:=Za hr0;have HC0:=Za hc0;clear hr0 hc0
 have H:(Zae.l0 k l0 l0 (l0.length:Int) 0)=some r:=h
 clear h
 have H':=Za H
 clear H
 go_enter Tryz.func175,Tryz.ntmps175
 go_wp2
 go_loopg [7] k (fun kq v7 w'=>∃(x7_1:Int),v7=.int .i64 x7_1∧Aside0 (Zae.l0 kq l0 l0 (l0.length:Int) x7_1=some r)∧Aside0 (kq≤k)∧ZE w w')
 case atStart=>exact⟨(0),(by first|rfl|(simp;done)|(simp[*];done)),H',⟨Nat.le_refl _⟩,by repeat(first|exact ZE.refl _|apply ZE.step)⟩
 case round=>
  clear H'
  try clear c1
  obtain⟨x7_1,rfl,HA,HK1,⟨m1,rfl⟩⟩:=hrel
  cases gk with
  | zero=>exact absurd HA.out (by simp[Zae.l0])
  | succ k1=>
   have H:=HA.out
   clear HA
   simp only[Zae.l0] at H
   by_cases c2:x7_1<(l0.length:Int)
   ·rw[if_pos c2] at H
    have c2b0:decide (x7_1<(l0.length:Int))=true:=Ze c2
    clear c2
    by_cases c3:0≤x7_1
    ·rw[if_pos c3] at H
     have c3b0:decide (0≤x7_1)=true:=Ze c3
     clear c3
     by_cases c4:x7_1<(l0.length:Int)
     ·rw[if_pos c4] at H
      have c4b0:decide (x7_1<(l0.length:Int))=true:=Ze c4
      clear c4
      by_cases c5:(rd l0 x7_1)=0
      ·rw[if_pos c5] at H
       have c5b0:((rd l0 x7_1) == 0)=true:=beq_iff_eq.mpr c5
       clear c5
       obtain rfl:=Zg H
       have p175001:0≤(x7_1:Int):=Zd (by first|(with_reducible assumption)|assumption)
       have q175001:x7_1<(l0.length:Int):=Zd (by first|(with_reducible assumption)|assumption)
       obtain⟨ad175001,e175001,hx175001_0⟩:=Kd.at_int HR0.out x7_1 p175001 q175001
       cases e175001
       replace p175001:=eq_true p175001
       replace q175001:=eq_true q175001
       go_wp2
       go_ret
       exact⟨by first|rfl|(simp;done)|(simp[*];done),by repeat(first|exact ZE.refl _|apply ZE.step)⟩
      ·rw[if_neg c5] at H
       have c5b0:((rd l0 x7_1) == 0)=false:=beq_eq_false_iff_ne.mpr c5
       replace H:=Zh H
       obtain⟨t175002,A60,H⟩:=H;have A6:=Za A60;clear A60
       by_cases c7:t175002=true
       ·subst c7
        rw[if_pos rfl] at H
        by_cases c8:x7_1 > 0
        ·rw[if_pos c8] at H
         have c8b0:decide (0<x7_1)=true:=Ze c8
         clear c8
         obtain⟨ji9,hji9⟩:∃j_:Int,(wrap64 (x7_1 - 1))=j_:=⟨_,rfl⟩
         replace H:(if 0≤(ji9) then(if (ji9)<(l0.length:Int) then((ZaE.f (rd l0 (ji9))).bind fun t175004=>((ZaE.f (rd l0 x7_1)).bind fun t175005=>(if t175004≥t175005 then(some false) else(Zae.l0 k1 l0 l0 (l0.length:Int) (wrap64 (x7_1+1)))))) else(none)) else(none))=some r:=by first|(rw[hji9] at H;exact H)|(simp only[hji9] at H ⊢;exact H)
         (try rw[hji9] at A6)
         have hji9w:(IntKind.i64.wrap (x7_1 - 1))=ji9:=(i64_w _).trans hji9
         by_cases c10:0≤(ji9)
         ·rw[if_pos c10] at H
          have c10b0:decide (0≤(ji9))=true:=Ze c10
          clear c10
          by_cases c11:(ji9)<(l0.length:Int)
          ·rw[if_pos c11] at H
           have c11b0:decide ((ji9)<(l0.length:Int))=true:=Ze c11
           clear c11
           replace H:=Zh H
           obtain⟨t175004,A120,H⟩:=H;have A12:=Za A120;clear A120
           replace H:=Zh H
           obtain⟨t175005,A130,H⟩:=H;have A13:=Za A130;clear A130
           by_cases c14:t175004≥t175005
           ·rw[if_pos c14] at H
            have c14b0:decide (t175005≤t175004)=true:=Ze c14
            clear c14
            obtain rfl:=Zg H
            have p175001:0≤(x7_1:Int):=Zd (by first|(with_reducible assumption)|assumption)
            have q175001:x7_1<(l0.length:Int):=Zd (by first|(with_reducible assumption)|assumption)
            obtain⟨ad175001,e175001,hx175001_0⟩:=Kd.at_int HR0.out x7_1 p175001 q175001
            cases e175001
            replace p175001:=eq_true p175001
            replace q175001:=eq_true q175001
            go_wp2_with (first|(go_at_call 127;(with_reducible refine(Z2.calls (rd l0 x7_1) (-3) 3 true _ A6.out).mono ?_);rintro e w' ⟨rfl,⟨nd,rfl⟩⟩;have p175003:0≤((ji9):Int):=Zd (by first|(with_reducible assumption)|assumption);have q175003:(ji9)<(l0.length:Int):=Zd (by first|(with_reducible assumption)|assumption);obtain⟨ad175003,e175003,hx175003_0⟩:=Kd.at_int HR0.out (ji9) p175003 q175003;obtain rfl:ad175001=ad175003:=(by injection e175003);replace p175003:=eq_true p175003;replace q175003:=eq_true q175003)|(go_at_call 98;(with_reducible refine(ZaE.calls (rd l0 (ji9)) t175004 _ A12.out).mono ?_);rintro e w' ⟨rfl,⟨nd,rfl⟩⟩)|(go_at_call 98;(with_reducible refine(ZaE.calls (rd l0 x7_1) t175005 _ A13.out).mono ?_);rintro e w' ⟨rfl,⟨nd,rfl⟩⟩))
            go_ret
            exact⟨by first|rfl|(simp;done)|(simp only[← hji9] <;> (first|rfl|simp))|(simp[*];done),by repeat(first|exact ZE.refl _|apply ZE.step)⟩
           ·rw[if_neg c14] at H
            have c14b0:decide (t175005≤t175004)=false:=Zf c14
            clear c14
            have H':=Za H
            clear H
            have p175001:0≤(x7_1:Int):=Zd (by first|(with_reducible assumption)|assumption)
            have q175001:x7_1<(l0.length:Int):=Zd (by first|(with_reducible assumption)|assumption)
            obtain⟨ad175001,e175001,hx175001_0⟩:=Kd.at_int HR0.out x7_1 p175001 q175001
            cases e175001
            replace p175001:=eq_true p175001
            replace q175001:=eq_true q175001
            go_wp2_with (first|(go_at_call 127;(with_reducible refine(Z2.calls (rd l0 x7_1) (-3) 3 true _ A6.out).mono ?_);rintro e w' ⟨rfl,⟨nd,rfl⟩⟩;have p175003:0≤((ji9):Int):=Zd (by first|(with_reducible assumption)|assumption);have q175003:(ji9)<(l0.length:Int):=Zd (by first|(with_reducible assumption)|assumption);obtain⟨ad175003,e175003,hx175003_0⟩:=Kd.at_int HR0.out (ji9) p175003 q175003;obtain rfl:ad175001=ad175003:=(by injection e175003);replace p175003:=eq_true p175003;replace q175003:=eq_true q175003)|(go_at_call 98;(with_reducible refine(ZaE.calls (rd l0 (ji9)) t175004 _ A12.out).mono ?_);rintro e w' ⟨rfl,⟨nd,rfl⟩⟩)|(go_at_call 98;(with_reducible refine(ZaE.calls (rd l0 x7_1) t175005 _ A13.out).mono ?_);rintro e w' ⟨rfl,⟨nd,rfl⟩⟩))
            go_roundg k1
            case measure=>have:=HK1.out;omega
            case rel=>exact⟨(wrap64 (x7_1+1)),(by first|rfl|(simp;done)|(simp[*];done)),H',⟨by have:=HK1.out;omega⟩,by repeat(first|exact ZE.refl _|apply ZE.step)⟩
          ·rw[if_neg c11] at H
           exact absurd H (by simp)
         ·rw[if_neg c10] at H
          exact absurd H (by simp)
        ·rw[if_neg c8] at H
         have c8b0:decide (0<x7_1)=false:=Zf c8
         clear c8
         have H':=Za H
         clear H
         have p175001:0≤(x7_1:Int):=Zd (by first|(with_reducible assumption)|assumption)
         have q175001:x7_1<(l0.length:Int):=Zd (by first|(with_reducible assumption)|assumption)
         obtain⟨ad175001,e175001,hx175001_0⟩:=Kd.at_int HR0.out x7_1 p175001 q175001
         cases e175001
         replace p175001:=eq_true p175001
         replace q175001:=eq_true q175001
         go_wp2_with (first|(go_at_call 127;(with_reducible refine(Z2.calls (rd l0 x7_1) (-3) 3 true _ A6.out).mono ?_);rintro e w' ⟨rfl,⟨nd,rfl⟩⟩))
         go_roundg k1
         case measure=>have:=HK1.out;omega
         case rel=>exact⟨(wrap64 (x7_1+1)),(by first|rfl|(simp;done)|(simp[*];done)),H',⟨by have:=HK1.out;omega⟩,by repeat(first|exact ZE.refl _|apply ZE.step)⟩
       ·replace c7:=Bool.eq_false_iff.mpr c7
        subst c7
        have H1:(some false)=some r:=by rw[if_neg (show ¬(false=true) by decide)] at H;exact H
        clear H
        have H:=H1
        clear H1
        obtain rfl:=Zg H
        have p175001:0≤(x7_1:Int):=Zd (by first|(with_reducible assumption)|assumption)
        have q175001:x7_1<(l0.length:Int):=Zd (by first|(with_reducible assumption)|assumption)
        obtain⟨ad175001,e175001,hx175001_0⟩:=Kd.at_int HR0.out x7_1 p175001 q175001
        cases e175001
        replace p175001:=eq_true p175001
        replace q175001:=eq_true q175001
        go_wp2_with (first|(go_at_call 127;(with_reducible refine(Z2.calls (rd l0 x7_1) (-3) 3 false _ A6.out).mono ?_);rintro e w' ⟨rfl,⟨nd,rfl⟩⟩))
        go_ret
        exact⟨by first|rfl|(simp;done)|(simp[*];done),by repeat(first|exact ZE.refl _|apply ZE.step)⟩
     ·rw[if_neg c4] at H
      exact absurd H (by simp)
    ·rw[if_neg c3] at H
     exact absurd H (by simp)
   ·rw[if_neg c2] at H
    have c2b0:decide (x7_1<(l0.length:Int))=false:=Zf c2
    clear c2
    obtain rfl:=Zg H
    go_wp2
    go_ret
    exact⟨by first|rfl|(simp;done)|(simp[*];done),by repeat(first|exact ZE.refl _|apply ZE.step)⟩
def ZaD.f (a0:Int):Option (Int):=some (mx a0 (wrap64 (-a0)))
set_option maxHeartbeats 8000000 in
set_option maxRecDepth 100000 in
theorem ZaD.calls (a0:Int) (r:Int) (w:World) (h:ZaD.f a0=some r) :
  Calls Tryz.prog 144 #[.int .i64 a0] w fun e w'=>e=.returned (.int .i64 r)∧Below w.heap.size w w':=by
 have HB:=Za (Below.refl w.heap.size w)
 have H:(some (mx a0 (wrap64 (-a0))))=some r:=h
 clear h
 obtain⟨ji2,hji2⟩:∃j_:Int,(mx a0 (wrap64 (-a0)))=j_:=⟨_,rfl⟩
 replace H:(some ji2)=some r:=by first|(rw[hji2] at H;exact H)|(simp only[hji2] at H ⊢;exact H)
 have hji2_:(if a0<(wrap64 (-a0)) then(wrap64 (-a0)) else a0)=ji2:=hji2
 obtain rfl:=Zg H
 go_enter Tryz.func144,Tryz.ntmps144
 go_wp2
 go_ret
 exact⟨by first|rfl|(simp[ZC,ZB] <;> rfl)|(simp only[← hji2];first|rfl|(simp[ZC,ZB] <;> rfl))|(simp[*,ZC,ZB] <;> rfl),by repeat(first|(with_reducible first|exact HB.out|apply Zn|apply Zm|apply Zo)|exact HB.out)⟩
def Zad.l0:Nat→List Int→List Int→Int→Int→Option (Bool)
 | 0,_,_,_,_=>none
 | k+1,x0,x5,x6,x7=>if x7<x6 then(if 0≤x7 then(if x7<(x5.length:Int) then(if (rd x5 x7)=0 then(some false) else(if (rd x5 x7)<(-3) then(some false) else(if (rd x5 x7) > 3 then(some false) else(if x7 > 0 then(if 0≤(wrap64 (x7 - 1)) then(if (wrap64 (x7 - 1))<(x0.length:Int) then((ZaD.f (rd x0 (wrap64 (x7 - 1)))).bind fun t87003=>((ZaD.f (rd x5 x7)).bind fun t87004=>(if t87003≥t87004 then(some false) else(Zad.l0 k x0 x5 x6 (wrap64 (x7+1)))))) else(none)) else(none)) else(Zad.l0 k x0 x5 x6 (wrap64 (x7+1))))))) else(none)) else(none)) else(some true)
def Zad.f (k:Nat) (l0:List Int):Option (Bool):=Zad.l0 k l0 l0 (l0.length:Int) 0
set_option maxHeartbeats 8000000 in
set_option maxRecDepth 100000 in
theorem Zad.calls (k:Nat) (A0:Option Addr) (c0:Nat) (l0:List Int) (r:Bool) (w:World) (hr0:Kd.C (Kd.int .i64) w A0 l0.length l0) (hc0:l0.length≤c0) (h:Zad.f k l0=some r) :
  Calls Tryz.prog 87 #[.slice A0 l0.length c0] w fun e w'=>e=.returned (.bool r)∧Below w.heap.size w w':=by
 have HR0:=Za hr0;have HC0:=Za hc0;clear hr0 hc0
 have HB:=Za (Below.refl w.heap.size w)
 have H:(Zad.l0 k l0 l0 (l0.length:Int) 0)=some r:=h
 clear h
 have H':=Za H
 clear H
 go_enter Tryz.func87,Tryz.ntmps87
 go_wp2
 go_loopg [7] k (fun kq v7 w'=>∃(x7_1:Int),v7=.int .i64 x7_1∧Aside0 (Zad.l0 kq l0 l0 (l0.length:Int) x7_1=some r)∧Aside0 (kq≤k)∧Aside0 (Below w.heap.size w w'))
 case atStart=>exact⟨(0),(by first|rfl|(simp;done)|(simp[*];done)),H',⟨Nat.le_refl _⟩,⟨by repeat(first|(with_reducible first|exact HB.out|apply Zn|apply Zm|apply Zo)|exact HB.out)⟩⟩
 case round=>
  clear H'
  obtain⟨x7_1,rfl,HA,HK1,HB⟩:=hrel
  cases gk with
  | zero=>exact absurd HA.out (by simp[Zad.l0])
  | succ k1=>
   have H:=HA.out
   clear HA
   simp only[Zad.l0] at H
   by_cases c2:x7_1<(l0.length:Int)
   ·rw[if_pos c2] at H
    have c2b0:decide (x7_1<(l0.length:Int))=true:=Ze c2
    clear c2
    by_cases c3:0≤x7_1
    ·rw[if_pos c3] at H
     have c3b0:decide (0≤x7_1)=true:=Ze c3
     clear c3
     by_cases c4:x7_1<(l0.length:Int)
     ·rw[if_pos c4] at H
      have c4b0:decide (x7_1<(l0.length:Int))=true:=Ze c4
      clear c4
      by_cases c5:(rd l0 x7_1)=0
      ·rw[if_pos c5] at H
       have c5b0:((rd l0 x7_1) == 0)=true:=beq_iff_eq.mpr c5
       clear c5
       obtain rfl:=Zg H
       have p87001:0≤(x7_1:Int):=Zd (by first|(with_reducible assumption)|assumption)
       have q87001:x7_1<(l0.length:Int):=Zd (by first|(with_reducible assumption)|assumption)
       obtain⟨ad87001,e87001,hx87001_0⟩:=Kd.at_int HR0.out x7_1 p87001 q87001
       cases e87001
       replace hx87001_0:=(HB.out.cell (Zc w _ hx87001_0)).trans hx87001_0
       replace p87001:=eq_true p87001
       replace q87001:=eq_true q87001
       go_wp2
       go_ret
       exact⟨by first|rfl|(simp[ZC,ZB] <;> rfl)|(simp[*,ZC,ZB] <;> rfl),by repeat(first|(with_reducible first|exact HB.out|apply Zn|apply Zm|apply Zo)|exact HB.out)⟩
      ·rw[if_neg c5] at H
       have c5b0:((rd l0 x7_1) == 0)=false:=beq_eq_false_iff_ne.mpr c5
       by_cases c6:(rd l0 x7_1)<(-3)
       ·rw[if_pos c6] at H
        have c6b0:decide ((rd l0 x7_1)<(-3))=true:=Ze c6
        clear c6
        obtain rfl:=Zg H
        have p87001:0≤(x7_1:Int):=Zd (by first|(with_reducible assumption)|assumption)
        have q87001:x7_1<(l0.length:Int):=Zd (by first|(with_reducible assumption)|assumption)
        obtain⟨ad87001,e87001,hx87001_0⟩:=Kd.at_int HR0.out x7_1 p87001 q87001
        cases e87001
        replace hx87001_0:=(HB.out.cell (Zc w _ hx87001_0)).trans hx87001_0
        replace p87001:=eq_true p87001
        replace q87001:=eq_true q87001
        go_wp2
        go_ret
        exact⟨by first|rfl|(simp[ZC,ZB] <;> rfl)|(simp[*,ZC,ZB] <;> rfl),by repeat(first|(with_reducible first|exact HB.out|apply Zn|apply Zm|apply Zo)|exact HB.out)⟩
       ·rw[if_neg c6] at H
        have c6b0:decide ((rd l0 x7_1)<(-3))=false:=Zf c6
        clear c6
        by_cases c7:(rd l0 x7_1) > 3
        ·rw[if_pos c7] at H
         have c7b0:decide (3<(rd l0 x7_1))=true:=Ze c7
         clear c7
         obtain rfl:=Zg H
         have p87001:0≤(x7_1:Int):=Zd (by first|(with_reducible assumption)|assumption)
         have q87001:x7_1<(l0.length:Int):=Zd (by first|(with_reducible assumption)|assumption)
         obtain⟨ad87001,e87001,hx87001_0⟩:=Kd.at_int HR0.out x7_1 p87001 q87001
         cases e87001
         replace hx87001_0:=(HB.out.cell (Zc w _ hx87001_0)).trans hx87001_0
         replace p87001:=eq_true p87001
         replace q87001:=eq_true q87001
         go_wp2
         go_ret
         exact⟨by first|rfl|(simp[ZC,ZB] <;> rfl)|(simp[*,ZC,ZB] <;> rfl),by repeat(first|(with_reducible first|exact HB.out|apply Zn|apply Zm|apply Zo)|exact HB.out)⟩
        ·rw[if_neg c7] at H
         have c7b0:decide (3<(rd l0 x7_1))=false:=Zf c7
         clear c7
         by_cases c8:x7_1 > 0
         ·rw[if_pos c8] at H
          have c8b0:decide (0<x7_1)=true:=Ze c8
          clear c8
          obtain⟨ji9,hji9⟩:∃j_:Int,(wrap64 (x7_1 - 1))=j_:=⟨_,rfl⟩
          replace H:(if 0≤(ji9) then(if (ji9)<(l0.length:Int) then((ZaD.f (rd l0 (ji9))).bind fun t87003=>((ZaD.f (rd l0 x7_1)).bind fun t87004=>(if t87003≥t87004 then(some false) else(Zad.l0 k1 l0 l0 (l0.length:Int) (wrap64 (x7_1+1)))))) else(none)) else(none))=some r:=by first|(rw[hji9] at H;exact H)|(simp only[hji9] at H ⊢;exact H)
          have hji9w:(IntKind.i64.wrap (x7_1 - 1))=ji9:=(i64_w _).trans hji9
          by_cases c10:0≤(ji9)
          ·rw[if_pos c10] at H
           have c10b0:decide (0≤(ji9))=true:=Ze c10
           clear c10
           by_cases c11:(ji9)<(l0.length:Int)
           ·rw[if_pos c11] at H
            have c11b0:decide ((ji9)<(l0.length:Int))=true:=Ze c11
            clear c11
            replace H:=Zh H
            obtain⟨t87003,A120,H⟩:=H;have A12:=Za A120;clear A120
            replace H:=Zh H
            obtain⟨t87004,A130,H⟩:=H;have A13:=Za A130;clear A130
            by_cases c14:t87003≥t87004
            ·rw[if_pos c14] at H
             have c14b0:decide (t87004≤t87003)=true:=Ze c14
             clear c14
             obtain rfl:=Zg H
             have p87001:0≤(x7_1:Int):=Zd (by first|(with_reducible assumption)|assumption)
             have q87001:x7_1<(l0.length:Int):=Zd (by first|(with_reducible assumption)|assumption)
             obtain⟨ad87001,e87001,hx87001_0⟩:=Kd.at_int HR0.out x7_1 p87001 q87001
             cases e87001
             replace hx87001_0:=(HB.out.cell (Zc w _ hx87001_0)).trans hx87001_0
             replace p87001:=eq_true p87001
             replace q87001:=eq_true q87001
             have p87002:0≤((ji9):Int):=Zd (by first|(with_reducible assumption)|assumption)
             have q87002:(ji9)<(l0.length:Int):=Zd (by first|(with_reducible assumption)|assumption)
             obtain⟨ad87002,e87002,hx87002_0⟩:=Kd.at_int HR0.out (ji9) p87002 q87002
             obtain rfl:ad87001=ad87002:=(by injection e87002)
             replace hx87002_0:=(HB.out.cell (Zc w _ hx87002_0)).trans hx87002_0
             replace p87002:=eq_true p87002
             replace q87002:=eq_true q87002
             go_wp2_with (first|(go_at_call 144;(with_reducible refine(ZaD.calls (rd l0 (ji9)) t87003 _ A12.out).mono ?_);rintro e w15 ⟨rfl,hb⟩;replace HB:=Za (Zw (by repeat(first|(with_reducible first|exact HB.out|apply Zn|apply Zm|apply Zo)|exact HB.out)) hb);(try clear hi))|(go_at_call 144;(with_reducible refine(ZaD.calls (rd l0 x7_1) t87004 _ A13.out).mono ?_);rintro e w16 ⟨rfl,hb⟩;replace HB:=Za (Zw (by repeat(first|(with_reducible first|exact HB.out|apply Zn|apply Zm|apply Zo)|exact HB.out)) hb);(try clear hi)))
             go_ret
             exact⟨by first|rfl|(simp[ZC,ZB] <;> rfl)|(simp only[← hji9];first|rfl|(simp[ZC,ZB] <;> rfl))|(simp[*,ZC,ZB] <;> rfl),by repeat(first|(with_reducible first|exact HB.out|apply Zn|apply Zm|apply Zo)|exact HB.out)⟩
            ·rw[if_neg c14] at H
             have c14b0:decide (t87004≤t87003)=false:=Zf c14
             clear c14
             have H':=Za H
             clear H
             have p87001:0≤(x7_1:Int):=Zd (by first|(with_reducible assumption)|assumption)
             have q87001:x7_1<(l0.length:Int):=Zd (by first|(with_reducible assumption)|assumption)
             obtain⟨ad87001,e87001,hx87001_0⟩:=Kd.at_int HR0.out x7_1 p87001 q87001
             cases e87001
             replace hx87001_0:=(HB.out.cell (Zc w _ hx87001_0)).trans hx87001_0
             replace p87001:=eq_true p87001
             replace q87001:=eq_true q87001
             have p87002:0≤((ji9):Int):=Zd (by first|(with_reducible assumption)|assumption)
             have q87002:(ji9)<(l0.length:Int):=Zd (by first|(with_reducible assumption)|assumption)
             obtain⟨ad87002,e87002,hx87002_0⟩:=Kd.at_int HR0.out (ji9) p87002 q87002
             obtain rfl:ad87001=ad87002:=(by injection e87002)
             replace hx87002_0:=(HB.out.cell (Zc w _ hx87002_0)).trans hx87002_0
             replace p87002:=eq_true p87002
             replace q87002:=eq_true q87002
             go_wp2_with (first|(go_at_call 144;(with_reducible refine(ZaD.calls (rd l0 (ji9)) t87003 _ A12.out).mono ?_);rintro e w17 ⟨rfl,hb⟩;replace HB:=Za (Zw (by repeat(first|(with_reducible first|exact HB.out|apply Zn|apply Zm|apply Zo)|exact HB.out)) hb);(try clear hi))|(go_at_call 144;(with_reducible refine(ZaD.calls (rd l0 x7_1) t87004 _ A13.out).mono ?_);rintro e w18 ⟨rfl,hb⟩;replace HB:=Za (Zw (by repeat(first|(with_reducible first|exact HB.out|apply Zn|apply Zm|apply Zo)|exact HB.out)) hb);(try clear hi)))
             go_roundg k1
             case measure=>have:=HK1.out;omega
             case rel=>exact⟨(wrap64 (x7_1+1)),(by first|rfl|(simp;done)|(simp[*];done)),H',⟨by have:=HK1.out;omega⟩,⟨by repeat(first|(with_reducible first|exact HB.out|apply Zn|apply Zm|apply Zo)|exact HB.out)⟩⟩
           ·rw[if_neg c11] at H
            exact absurd H (by simp)
          ·rw[if_neg c10] at H
           exact absurd H (by simp)
         ·rw[if_neg c8] at H
          have c8b0:decide (0<x7_1)=false:=Zf c8
          clear c8
          have H':=Za H
          clear H
          have p87001:0≤(x7_1:Int):=Zd (by first|(with_reducible assumption)|assumption)
          have q87001:x7_1<(l0.length:Int):=Zd (by first|(with_reducible assumption)|assumption)
          obtain⟨ad87001,e87001,hx87001_0⟩:=Kd.at_int HR0.out x7_1 p87001 q87001
          cases e87001
          replace hx87001_0:=(HB.out.cell (Zc w _ hx87001_0)).trans hx87001_0
          replace p87001:=eq_true p87001
          replace q87001:=eq_true q87001
          go_wp2
          go_roundg k1
          case measure=>have:=HK1.out;omega
          case rel=>exact⟨(wrap64 (x7_1+1)),(by first|rfl|(simp;done)|(simp[*];done)),H',⟨by have:=HK1.out;omega⟩,⟨by repeat(first|(with_reducible first|exact HB.out|apply Zn|apply Zm|apply Zo)|exact HB.out)⟩⟩
     ·rw[if_neg c4] at H
      exact absurd H (by simp)
    ·rw[if_neg c3] at H
     exact absurd H (by simp)
   ·rw[if_neg c2] at H
    have c2b0:decide (x7_1<(l0.length:Int))=false:=Zf c2
    clear c2
    obtain rfl:=Zg H
    go_wp2
    go_ret
    exact⟨by first|rfl|(simp[ZC,ZB] <;> rfl)|(simp[*,ZC,ZB] <;> rfl),by repeat(first|(with_reducible first|exact HB.out|apply Zn|apply Zm|apply Zo)|exact HB.out)⟩
end Go.Proofs.YtoeimopgoaffcaaGreatDoor.Pr
namespace Go.Proofs.YtoeimopgoaffcaaGreatDoor.Pr
open Go.RowKit Go.Proofs.YtoeimopgoaffcaaGreatDoorW.PrintWords Go.Proofs.YtoeimopgoaffcaaGreatDoorW.PrintMore Go.Proofs.YtoeimopgoaffcaaGreatDoor.Ni
theorem Zdr {x:Int} (h:Zbf x=true):ZaE.f x=some (prp x):=by
 have:=(ZbQ x).1 h
 unfold ZaE.f prp
 split
 ·rw[Za8 (by omega) (by omega)]
 ·rfl
theorem ZdU {x:Int} (h:Zbf x=true):ZaD.f x=some (prp x):=by
 have:=(ZbQ x).1 h
 unfold ZaD.f prp mx
 rw[Za8 (by omega) (by omega)]
 congr 1
 split <;> split <;> omega
theorem Zda (l:List Int) (hl:l.length≤9223372036854775807) (k:Nat) (hk:2 ^ 64≤k):Zae.f k l=some (labB l):=by
 have key:=Za9 l.length (fun k i=>(0<i→Zbf (l.getD (i - 1) 0)=true)→Zae.l0 k l l l.length (i:Int)=some (ZbS (if i=0 then 0 else prp (l.getD (i - 1) 0)) (l.drop i))) 0
  (fun k _ _=>by simp[Zae.l0,ZbS])
  (fun k i _ hi ih hb=>by
   simp only[Zae.l0]
   rw[if_pos (by omega),if_pos (by omega),if_pos (by omega),ZaI,ZL hi (by omega),Zah hi 0]
   unfold ZbS
   have ih':=fun h=>ih (fun _=>h)
   simp only[Nat.add_sub_cancel,Nat.add_eq_zero_iff,Nat.one_ne_zero,and_false,if_false] at ih'
   by_cases h0:l.getD i 0=0
   ·rw[if_pos h0,h0];simp[Zbf]
   rw[if_neg h0]
   unfold Z2.f
   by_cases h1:l.getD i 0≥-3
   ·rw[if_pos h1,Zi]
    by_cases h2:l.getD i 0≤3
    ·have hok:Zbf (l.getD i 0)=true:=(ZbQ _).2 ⟨h0,h1,h2⟩
     have hp:=Zdb hok
     rw[if_pos (by simpa using h2)]
     by_cases hi0:i=0
     ·subst hi0
      rw[if_neg (by omega),ih' hok,hok]
      simp only[Bool.true_and,if_true]
      rw[Ze (show(0:Int)<prp (l.getD 0 0) by omega)]
      rfl
     ·rw[if_pos (by omega),wrap_pred (by omega) (by omega),if_pos (by omega),if_pos (by omega),ZaI,Zdr (hb (by omega)),Zi,Zdr hok,Zi,if_neg hi0,hok]
      by_cases hlt:prp (l.getD (i - 1) 0)<prp (l.getD i 0)
      ·rw[if_neg (by omega),ih' hok,Ze hlt];rfl
      ·rw[if_pos (by omega),Zf hlt];rfl
    ·rw[if_neg (by simpa using h2)]
     rw[show Zbf (l.getD i 0)=false from Bool.eq_false_iff.2 fun h=>by have:=(ZbQ _).1 h;omega];rfl
   ·rw[if_neg h1,Zi,if_neg (by decide)]
    rw[show Zbf (l.getD i 0)=false from Bool.eq_false_iff.2 fun h=>by have:=(ZbQ _).1 h;omega];rfl) 0 k (Nat.zero_le _) (by omega)
 unfold Zae.f labB
 have:=key (fun h=>absurd h (by omega))
 simpa using this
theorem ZcQ (l:List Int) (hl:l.length≤9223372036854775807) (k:Nat) (hk:2 ^ 64≤k):Zad.f k l=some (labB l):=by
 have key:=Za9 l.length (fun k i=>(0<i→Zbf (l.getD (i - 1) 0)=true)→Zad.l0 k l l l.length (i:Int)=some (ZbS (if i=0 then 0 else prp (l.getD (i - 1) 0)) (l.drop i))) 0
  (fun k _ _=>by simp[Zad.l0,ZbS])
  (fun k i _ hi ih hb=>by
   simp only[Zad.l0]
   rw[if_pos (by omega),if_pos (by omega),if_pos (by omega),ZaI,ZL hi (by omega),Zah hi 0]
   unfold ZbS
   have ih':=fun h=>ih (fun _=>h)
   simp only[Nat.add_sub_cancel,Nat.add_eq_zero_iff,Nat.one_ne_zero,and_false,if_false] at ih'
   by_cases h0:l.getD i 0=0
   ·rw[if_pos h0,h0];simp[Zbf]
   rw[if_neg h0]
   by_cases h1:l.getD i 0≥-3
   ·rw[if_neg (by omega)]
    by_cases h2:l.getD i 0≤3
    ·have hok:Zbf (l.getD i 0)=true:=(ZbQ _).2 ⟨h0,h1,h2⟩
     have hp:=Zdb hok
     rw[if_neg (by omega)]
     by_cases hi0:i=0
     ·subst hi0
      rw[if_neg (by omega),ih' hok,hok]
      simp only[Bool.true_and,if_true]
      rw[Ze (show(0:Int)<prp (l.getD 0 0) by omega)]
      rfl
     ·rw[if_pos (by omega),wrap_pred (by omega) (by omega),if_pos (by omega),if_pos (by omega),ZaI,ZdU (hb (by omega)),Zi,ZdU hok,Zi,if_neg hi0,hok]
      by_cases hlt:prp (l.getD (i - 1) 0)<prp (l.getD i 0)
      ·rw[if_neg (by omega),ih' hok,Ze hlt];rfl
      ·rw[if_pos (by omega),Zf hlt];rfl
    ·rw[if_pos (by omega)]
     rw[show Zbf (l.getD i 0)=false from Bool.eq_false_iff.2 fun h=>by have:=(ZbQ _).1 h;omega];rfl
   ·rw[if_pos (by omega)]
    rw[show Zbf (l.getD i 0)=false from Bool.eq_false_iff.2 fun h=>by have:=(ZbQ _).1 h;omega];rfl) 0 k (Nat.zero_le _) (by omega)
 unfold Zad.f labB
 have:=key (fun h=>absurd h (by omega))
 simpa using this
end Go.Proofs.YtoeimopgoaffcaaGreatDoor.Pr
namespace Go.Proofs.YtoeimopgoaffcaaGreatDoor.Pr
open Go.RowKit Go.Proofs.YtoeimopgoaffcaaGreatDoorW.PrintWords Go.Proofs.YtoeimopgoaffcaaGreatDoorW.PrintLast Go.Proofs.YtoeimopgoaffcaaGreatDoorW.PrintMore
attribute [local go_sem] ZU ZS ZW ZV ZO ZN ZT ZR
set_option linter.unusedVariables false
set_option linter.unusedSimpArgs false
def ZcT.f (k:Nat) (a0_0:ByteArray) (l0_1:List Int) (a0_2:Int):Option (Bool):=(Zau.f k a0_0).bind fun t176002=>(if t176002=true then((Zae.f k l0_1).bind fun t176003=>(if t176003=true then((Z2.f a0_2 0 3).bind fun t176004=>(some t176004)) else(some false))) else(some false))
set_option maxHeartbeats 8000000 in
set_option maxRecDepth 100000 in
theorem ZcT.calls (k:Nat) (a0_0:ByteArray) (A0_1:Option Addr) (c0_1:Nat) (l0_1:List Int) (a0_2:Int) (r:Bool) (w:World) (hr0_1:Kd.C (Kd.int .i64) w A0_1 l0_1.length l0_1) (hc0_1:l0_1.length≤c0_1) (h:ZcT.f k a0_0 l0_1 a0_2=some r) :
  Calls Tryz.prog 176 #[.agg #[.string a0_0,.slice A0_1 l0_1.length c0_1,.int .i64 a0_2]] w fun e w'=>e=.returned (.bool r)∧Below w.heap.size w w':=by
 have hu39:=Tryz.underlying39
 have HR0_1:=Za hr0_1;have HC0_1:=Za hc0_1;clear hr0_1 hc0_1
 have HB:=Za (Below.refl w.heap.size w)
 have H:((Zau.f k a0_0).bind fun t176002=>(if t176002=true then((Zae.f k l0_1).bind fun t176003=>(if t176003=true then((Z2.f a0_2 0 3).bind fun t176004=>(some t176004)) else(some false))) else(some false)))=some r:=h
 clear h
 replace H:=Zh H
 obtain⟨t176002,A20,H⟩:=H;have A2:=Za A20;clear A20
 by_cases c3:t176002=true
 ·subst c3
  rw[if_pos rfl] at H
  replace H:=Zh H
  obtain⟨t176003,A40,H⟩:=H;have A4:=Za A40;clear A40
  by_cases c5:t176003=true
  ·subst c5
   rw[if_pos rfl] at H
   replace H:=Zh H
   obtain⟨t176004,A60,H⟩:=H;have A6:=Za A60;clear A60
   obtain rfl:=Zg H
   go_enter Tryz.func176,Tryz.ntmps176
   go_wp2_with (first|((with_reducible refine ZF (N:=1) rfl ?_);refine ZG ?hg (N:=1) ?hd (cs:=#[.string a0_0,.slice A0_1 l0_1.length c0_1,.int .i64 a0_2]) (t:=39) ?hr ?_;(case hd=>rfl);(case hg=>rfl);(case hr=>first|(go_simp;done)|(go_simp;rfl));intro gb176001 hg w7 hbox hb;have BK176001:=Za (hbox);have GW176001:=Za ((by rw[hg];exact(Zy (by repeat(first|(with_reducible first|exact HB.out|apply Zn|apply Zm|apply Zo)|exact HB.out))):w.heap.size≤gb176001));have GE176001:=Za ((by rw[hg];exact(Zy (by repeat(first|(with_reducible first|exact HB.out|apply Zn|apply Zm|apply Zo)|exact HB.out))):w.heap.size≤gb176001));replace HB:=Za (Zw (by repeat(first|(with_reducible first|exact HB.out|apply Zn|apply Zm|apply Zo)|exact HB.out)) hb);clear hb hbox hg;have hcz8_0:w7.cell? ⟨gb176001,0,none⟩=some (.string a0_0):=(Zp BK176001.out 0).trans rfl;have hcz8_1:w7.cell? ⟨gb176001,1,none⟩=some (.slice A0_1 l0_1.length c0_1):=(Zp BK176001.out 1).trans rfl;have hcz8_2:w7.cell? ⟨gb176001,2,none⟩=some (.int .i64 a0_2):=(Zp BK176001.out 2).trans rfl)|((with_reducible refine ZJ (f:=206) rfl ?_);refine Zaa (some 5) rfl rfl Tryz.func206 (by kernel_rfl) rfl #[.string a0_0] rfl (by(try simp only[List.map_toArray,List.map_cons,List.map_nil]);first|done|rfl|(simp only[Zk,Zj];rfl)) ?_;(with_reducible refine(Zau.calls k a0_0 true _ A2.out).mono ?_);rintro e w' ⟨rfl,⟨nd,rfl⟩⟩;refine⟨_,rfl,?_⟩)|(go_at_call 175;(with_reducible refine(Zae.calls k _ _ l0_1 true _ ?side1 ?side2 A4.out).mono ?_);(case side1=>repeat(first|exact(Zb HR0_1.out (by repeat(first|(with_reducible first|exact HB.out|apply Zn|apply Zm|apply Zo|refine Zq ?_ GE176001.out)|exact HB.out)))|(with_reducible refine Kd.C_alloc ?_ _)|(with_reducible refine Kd.C_drewN ?_ _)|(with_reducible refine Kd.C_drew ?_)));(case side2=>exact HC0_1.out);rintro e w' ⟨rfl,⟨nd,rfl⟩⟩)|(go_at_call 127;(with_reducible refine(Z2.calls a0_2 0 3 t176004 _ A6.out).mono ?_);rintro e w' ⟨rfl,⟨nd,rfl⟩⟩))
   go_ret
   exact⟨by first|rfl|(simp[ZC,ZB] <;> rfl)|(simp[*,ZC,ZB] <;> rfl),by repeat(first|(with_reducible first|exact HB.out|apply Zn|apply Zm|apply Zo|refine Zq ?_ GE176001.out)|exact HB.out)⟩
  ·replace c5:=Bool.eq_false_iff.mpr c5
   subst c5
   have H1:(some false)=some r:=by rw[if_neg (show ¬(false=true) by decide)] at H;exact H
   clear H
   have H:=H1
   clear H1
   obtain rfl:=Zg H
   go_enter Tryz.func176,Tryz.ntmps176
   go_wp2_with (first|((with_reducible refine ZF (N:=1) rfl ?_);refine ZG ?hg (N:=1) ?hd (cs:=#[.string a0_0,.slice A0_1 l0_1.length c0_1,.int .i64 a0_2]) (t:=39) ?hr ?_;(case hd=>rfl);(case hg=>rfl);(case hr=>first|(go_simp;done)|(go_simp;rfl));intro gb176001 hg w9 hbox hb;have BK176001:=Za (hbox);have GW176001:=Za ((by rw[hg];exact(Zy (by repeat(first|(with_reducible first|exact HB.out|apply Zn|apply Zm|apply Zo)|exact HB.out))):w.heap.size≤gb176001));have GE176001:=Za ((by rw[hg];exact(Zy (by repeat(first|(with_reducible first|exact HB.out|apply Zn|apply Zm|apply Zo)|exact HB.out))):w.heap.size≤gb176001));replace HB:=Za (Zw (by repeat(first|(with_reducible first|exact HB.out|apply Zn|apply Zm|apply Zo)|exact HB.out)) hb);clear hb hbox hg;have hcz10_0:w9.cell? ⟨gb176001,0,none⟩=some (.string a0_0):=(Zp BK176001.out 0).trans rfl;have hcz10_1:w9.cell? ⟨gb176001,1,none⟩=some (.slice A0_1 l0_1.length c0_1):=(Zp BK176001.out 1).trans rfl;have hcz10_2:w9.cell? ⟨gb176001,2,none⟩=some (.int .i64 a0_2):=(Zp BK176001.out 2).trans rfl)|((with_reducible refine ZJ (f:=206) rfl ?_);refine Zaa (some 5) rfl rfl Tryz.func206 (by kernel_rfl) rfl #[.string a0_0] rfl (by(try simp only[List.map_toArray,List.map_cons,List.map_nil]);first|done|rfl|(simp only[Zk,Zj];rfl)) ?_;(with_reducible refine(Zau.calls k a0_0 true _ A2.out).mono ?_);rintro e w' ⟨rfl,⟨nd,rfl⟩⟩;refine⟨_,rfl,?_⟩)|(go_at_call 175;(with_reducible refine(Zae.calls k _ _ l0_1 false _ ?side1 ?side2 A4.out).mono ?_);(case side1=>repeat(first|exact(Zb HR0_1.out (by repeat(first|(with_reducible first|exact HB.out|apply Zn|apply Zm|apply Zo|refine Zq ?_ GE176001.out)|exact HB.out)))|(with_reducible refine Kd.C_alloc ?_ _)|(with_reducible refine Kd.C_drewN ?_ _)|(with_reducible refine Kd.C_drew ?_)));(case side2=>exact HC0_1.out);rintro e w' ⟨rfl,⟨nd,rfl⟩⟩))
   go_ret
   exact⟨by first|rfl|(simp[ZC,ZB] <;> rfl)|(simp[*,ZC,ZB] <;> rfl),by repeat(first|(with_reducible first|exact HB.out|apply Zn|apply Zm|apply Zo|refine Zq ?_ GE176001.out)|exact HB.out)⟩
 ·replace c3:=Bool.eq_false_iff.mpr c3
  subst c3
  have H1:(some false)=some r:=by rw[if_neg (show ¬(false=true) by decide)] at H;exact H
  clear H
  have H:=H1
  clear H1
  obtain rfl:=Zg H
  go_enter Tryz.func176,Tryz.ntmps176
  go_wp2_with (first|((with_reducible refine ZF (N:=1) rfl ?_);refine ZG ?hg (N:=1) ?hd (cs:=#[.string a0_0,.slice A0_1 l0_1.length c0_1,.int .i64 a0_2]) (t:=39) ?hr ?_;(case hd=>rfl);(case hg=>rfl);(case hr=>first|(go_simp;done)|(go_simp;rfl));intro gb176001 hg w11 hbox hb;have BK176001:=Za (hbox);have GW176001:=Za ((by rw[hg];exact(Zy (by repeat(first|(with_reducible first|exact HB.out|apply Zn|apply Zm|apply Zo)|exact HB.out))):w.heap.size≤gb176001));have GE176001:=Za ((by rw[hg];exact(Zy (by repeat(first|(with_reducible first|exact HB.out|apply Zn|apply Zm|apply Zo)|exact HB.out))):w.heap.size≤gb176001));replace HB:=Za (Zw (by repeat(first|(with_reducible first|exact HB.out|apply Zn|apply Zm|apply Zo)|exact HB.out)) hb);clear hb hbox hg;have hcz12_0:w11.cell? ⟨gb176001,0,none⟩=some (.string a0_0):=(Zp BK176001.out 0).trans rfl;have hcz12_1:w11.cell? ⟨gb176001,1,none⟩=some (.slice A0_1 l0_1.length c0_1):=(Zp BK176001.out 1).trans rfl;have hcz12_2:w11.cell? ⟨gb176001,2,none⟩=some (.int .i64 a0_2):=(Zp BK176001.out 2).trans rfl)|((with_reducible refine ZJ (f:=206) rfl ?_);refine Zaa (some 5) rfl rfl Tryz.func206 (by kernel_rfl) rfl #[.string a0_0] rfl (by(try simp only[List.map_toArray,List.map_cons,List.map_nil]);first|done|rfl|(simp only[Zk,Zj];rfl)) ?_;(with_reducible refine(Zau.calls k a0_0 false _ A2.out).mono ?_);rintro e w' ⟨rfl,⟨nd,rfl⟩⟩;refine⟨_,rfl,?_⟩))
  go_ret
  exact⟨by first|rfl|(simp[ZC,ZB] <;> rfl)|(simp[*,ZC,ZB] <;> rfl),by repeat(first|(with_reducible first|exact HB.out|apply Zn|apply Zm|apply Zo|refine Zq ?_ GE176001.out)|exact HB.out)⟩
def ZcV.f (k:Nat) (a0_0:ByteArray) (l0_1:List Int) (a0_2:Int):Option (Bool):=(Zam.f k a0_0).bind fun t23002=>(if t23002=true then((Zad.f k l0_1).bind fun t23003=>(if t23003=true then(if a0_2≥0 then(some (decide (a0_2≤3))) else(some false)) else(some false))) else(some false))
set_option maxHeartbeats 8000000 in
set_option maxRecDepth 100000 in
theorem ZcV.calls (k:Nat) (a0_0:ByteArray) (A0_1:Option Addr) (c0_1:Nat) (l0_1:List Int) (a0_2:Int) (r:Bool) (w:World) (hr0_1:Kd.C (Kd.int .i64) w A0_1 l0_1.length l0_1) (hc0_1:l0_1.length≤c0_1) (h:ZcV.f k a0_0 l0_1 a0_2=some r) :
  Calls Tryz.prog 23 #[.agg #[.string a0_0,.slice A0_1 l0_1.length c0_1,.int .i64 a0_2]] w fun e w'=>e=.returned (.bool r)∧Below w.heap.size w w':=by
 have hu39:=Tryz.underlying39
 have HR0_1:=Za hr0_1;have HC0_1:=Za hc0_1;clear hr0_1 hc0_1
 have HB:=Za (Below.refl w.heap.size w)
 have H:((Zam.f k a0_0).bind fun t23002=>(if t23002=true then((Zad.f k l0_1).bind fun t23003=>(if t23003=true then(if a0_2≥0 then(some (decide (a0_2≤3))) else(some false)) else(some false))) else(some false)))=some r:=h
 clear h
 replace H:=Zh H
 obtain⟨t23002,A20,H⟩:=H;have A2:=Za A20;clear A20
 by_cases c3:t23002=true
 ·subst c3
  rw[if_pos rfl] at H
  replace H:=Zh H
  obtain⟨t23003,A40,H⟩:=H;have A4:=Za A40;clear A40
  by_cases c5:t23003=true
  ·subst c5
   rw[if_pos rfl] at H
   by_cases c6:a0_2≥0
   ·rw[if_pos c6] at H
    have c6b0:decide (0≤a0_2)=true:=Ze c6
    clear c6
    obtain rfl:=Zg H
    go_enter Tryz.func23,Tryz.ntmps23
    go_wp2_with (first|((with_reducible refine ZF (N:=1) rfl ?_);refine ZG ?hg (N:=1) ?hd (cs:=#[.string a0_0,.slice A0_1 l0_1.length c0_1,.int .i64 a0_2]) (t:=39) ?hr ?_;(case hd=>rfl);(case hg=>rfl);(case hr=>first|(go_simp;done)|(go_simp;rfl));intro gb23001 hg w7 hbox hb;have BK23001:=Za (hbox);have GW23001:=Za ((by rw[hg];exact(Zy (by repeat(first|(with_reducible first|exact HB.out|apply Zn|apply Zm|apply Zo)|exact HB.out))):w.heap.size≤gb23001));have GE23001:=Za ((by rw[hg];exact(Zy (by repeat(first|(with_reducible first|exact HB.out|apply Zn|apply Zm|apply Zo)|exact HB.out))):w.heap.size≤gb23001));replace HB:=Za (Zw (by repeat(first|(with_reducible first|exact HB.out|apply Zn|apply Zm|apply Zo)|exact HB.out)) hb);clear hb hbox hg;have hcz8_0:w7.cell? ⟨gb23001,0,none⟩=some (.string a0_0):=(Zp BK23001.out 0).trans rfl;have hcz8_1:w7.cell? ⟨gb23001,1,none⟩=some (.slice A0_1 l0_1.length c0_1):=(Zp BK23001.out 1).trans rfl;have hcz8_2:w7.cell? ⟨gb23001,2,none⟩=some (.int .i64 a0_2):=(Zp BK23001.out 2).trans rfl)|((with_reducible refine ZJ (f:=86) rfl ?_);refine Zaa (some 5) rfl rfl Tryz.func86 (by kernel_rfl) rfl #[.string a0_0] rfl (by(try simp only[List.map_toArray,List.map_cons,List.map_nil]);first|done|rfl|(simp only[Zk,Zj];rfl)) ?_;(with_reducible refine(Zam.calls k a0_0 true _ A2.out).mono ?_);rintro e w' ⟨rfl,⟨nd,rfl⟩⟩;refine⟨_,rfl,?_⟩)|(go_at_call 87;(with_reducible refine(Zad.calls k _ _ l0_1 true _ ?side1 ?side2 A4.out).mono ?_);(case side1=>repeat(first|exact(Zb HR0_1.out (by repeat(first|(with_reducible first|exact HB.out|apply Zn|apply Zm|apply Zo|refine Zq ?_ GE23001.out)|exact HB.out)))|(with_reducible refine Kd.C_alloc ?_ _)|(with_reducible refine Kd.C_drewN ?_ _)|(with_reducible refine Kd.C_drew ?_)));(case side2=>exact HC0_1.out);rintro e w9 ⟨rfl,hb⟩;replace BK23001:=Za (ZA (g:=gb23001) (o:=.cells #[.string a0_0,.slice A0_1 l0_1.length c0_1,.int .i64 a0_2] 39 (0,0)) (by(with_reducible repeat(first|refine Zt ?_ _|refine Zv ?_|refine Zs ?_ _));exact BK23001.out) hb);replace HB:=Za (Zw (by repeat(first|(with_reducible first|exact HB.out|apply Zn|apply Zm|apply Zo|refine Zq ?_ GE23001.out)|exact HB.out)) hb);have hcz10_0:w9.cell? ⟨gb23001,0,none⟩=some (.string a0_0):=(Zp BK23001.out 0).trans rfl;have hcz10_1:w9.cell? ⟨gb23001,1,none⟩=some (.slice A0_1 l0_1.length c0_1):=(Zp BK23001.out 1).trans rfl;have hcz10_2:w9.cell? ⟨gb23001,2,none⟩=some (.int .i64 a0_2):=(Zp BK23001.out 2).trans rfl))
    go_ret
    exact⟨by first|rfl|(simp[ZC,ZB] <;> rfl)|(simp[*,ZC,ZB] <;> rfl),by repeat(first|(with_reducible first|exact HB.out|apply Zn|apply Zm|apply Zo|refine Zq ?_ GE23001.out)|exact HB.out)⟩
   ·rw[if_neg c6] at H
    have c6b0:decide (0≤a0_2)=false:=Zf c6
    clear c6
    obtain rfl:=Zg H
    go_enter Tryz.func23,Tryz.ntmps23
    go_wp2_with (first|((with_reducible refine ZF (N:=1) rfl ?_);refine ZG ?hg (N:=1) ?hd (cs:=#[.string a0_0,.slice A0_1 l0_1.length c0_1,.int .i64 a0_2]) (t:=39) ?hr ?_;(case hd=>rfl);(case hg=>rfl);(case hr=>first|(go_simp;done)|(go_simp;rfl));intro gb23001 hg w11 hbox hb;have BK23001:=Za (hbox);have GW23001:=Za ((by rw[hg];exact(Zy (by repeat(first|(with_reducible first|exact HB.out|apply Zn|apply Zm|apply Zo)|exact HB.out))):w.heap.size≤gb23001));have GE23001:=Za ((by rw[hg];exact(Zy (by repeat(first|(with_reducible first|exact HB.out|apply Zn|apply Zm|apply Zo)|exact HB.out))):w.heap.size≤gb23001));replace HB:=Za (Zw (by repeat(first|(with_reducible first|exact HB.out|apply Zn|apply Zm|apply Zo)|exact HB.out)) hb);clear hb hbox hg;have hcz12_0:w11.cell? ⟨gb23001,0,none⟩=some (.string a0_0):=(Zp BK23001.out 0).trans rfl;have hcz12_1:w11.cell? ⟨gb23001,1,none⟩=some (.slice A0_1 l0_1.length c0_1):=(Zp BK23001.out 1).trans rfl;have hcz12_2:w11.cell? ⟨gb23001,2,none⟩=some (.int .i64 a0_2):=(Zp BK23001.out 2).trans rfl)|((with_reducible refine ZJ (f:=86) rfl ?_);refine Zaa (some 5) rfl rfl Tryz.func86 (by kernel_rfl) rfl #[.string a0_0] rfl (by(try simp only[List.map_toArray,List.map_cons,List.map_nil]);first|done|rfl|(simp only[Zk,Zj];rfl)) ?_;(with_reducible refine(Zam.calls k a0_0 true _ A2.out).mono ?_);rintro e w' ⟨rfl,⟨nd,rfl⟩⟩;refine⟨_,rfl,?_⟩)|(go_at_call 87;(with_reducible refine(Zad.calls k _ _ l0_1 true _ ?side1 ?side2 A4.out).mono ?_);(case side1=>repeat(first|exact(Zb HR0_1.out (by repeat(first|(with_reducible first|exact HB.out|apply Zn|apply Zm|apply Zo|refine Zq ?_ GE23001.out)|exact HB.out)))|(with_reducible refine Kd.C_alloc ?_ _)|(with_reducible refine Kd.C_drewN ?_ _)|(with_reducible refine Kd.C_drew ?_)));(case side2=>exact HC0_1.out);rintro e w13 ⟨rfl,hb⟩;replace BK23001:=Za (ZA (g:=gb23001) (o:=.cells #[.string a0_0,.slice A0_1 l0_1.length c0_1,.int .i64 a0_2] 39 (0,0)) (by(with_reducible repeat(first|refine Zt ?_ _|refine Zv ?_|refine Zs ?_ _));exact BK23001.out) hb);replace HB:=Za (Zw (by repeat(first|(with_reducible first|exact HB.out|apply Zn|apply Zm|apply Zo|refine Zq ?_ GE23001.out)|exact HB.out)) hb);have hcz14_0:w13.cell? ⟨gb23001,0,none⟩=some (.string a0_0):=(Zp BK23001.out 0).trans rfl;have hcz14_1:w13.cell? ⟨gb23001,1,none⟩=some (.slice A0_1 l0_1.length c0_1):=(Zp BK23001.out 1).trans rfl;have hcz14_2:w13.cell? ⟨gb23001,2,none⟩=some (.int .i64 a0_2):=(Zp BK23001.out 2).trans rfl))
    go_ret
    exact⟨by first|rfl|(simp[ZC,ZB] <;> rfl)|(simp[*,ZC,ZB] <;> rfl),by repeat(first|(with_reducible first|exact HB.out|apply Zn|apply Zm|apply Zo|refine Zq ?_ GE23001.out)|exact HB.out)⟩
  ·replace c5:=Bool.eq_false_iff.mpr c5
   subst c5
   have H1:(some false)=some r:=by rw[if_neg (show ¬(false=true) by decide)] at H;exact H
   clear H
   have H:=H1
   clear H1
   obtain rfl:=Zg H
   go_enter Tryz.func23,Tryz.ntmps23
   go_wp2_with (first|((with_reducible refine ZF (N:=1) rfl ?_);refine ZG ?hg (N:=1) ?hd (cs:=#[.string a0_0,.slice A0_1 l0_1.length c0_1,.int .i64 a0_2]) (t:=39) ?hr ?_;(case hd=>rfl);(case hg=>rfl);(case hr=>first|(go_simp;done)|(go_simp;rfl));intro gb23001 hg w15 hbox hb;have BK23001:=Za (hbox);have GW23001:=Za ((by rw[hg];exact(Zy (by repeat(first|(with_reducible first|exact HB.out|apply Zn|apply Zm|apply Zo)|exact HB.out))):w.heap.size≤gb23001));have GE23001:=Za ((by rw[hg];exact(Zy (by repeat(first|(with_reducible first|exact HB.out|apply Zn|apply Zm|apply Zo)|exact HB.out))):w.heap.size≤gb23001));replace HB:=Za (Zw (by repeat(first|(with_reducible first|exact HB.out|apply Zn|apply Zm|apply Zo)|exact HB.out)) hb);clear hb hbox hg;have hcz16_0:w15.cell? ⟨gb23001,0,none⟩=some (.string a0_0):=(Zp BK23001.out 0).trans rfl;have hcz16_1:w15.cell? ⟨gb23001,1,none⟩=some (.slice A0_1 l0_1.length c0_1):=(Zp BK23001.out 1).trans rfl;have hcz16_2:w15.cell? ⟨gb23001,2,none⟩=some (.int .i64 a0_2):=(Zp BK23001.out 2).trans rfl)|((with_reducible refine ZJ (f:=86) rfl ?_);refine Zaa (some 5) rfl rfl Tryz.func86 (by kernel_rfl) rfl #[.string a0_0] rfl (by(try simp only[List.map_toArray,List.map_cons,List.map_nil]);first|done|rfl|(simp only[Zk,Zj];rfl)) ?_;(with_reducible refine(Zam.calls k a0_0 true _ A2.out).mono ?_);rintro e w' ⟨rfl,⟨nd,rfl⟩⟩;refine⟨_,rfl,?_⟩)|(go_at_call 87;(with_reducible refine(Zad.calls k _ _ l0_1 false _ ?side1 ?side2 A4.out).mono ?_);(case side1=>repeat(first|exact(Zb HR0_1.out (by repeat(first|(with_reducible first|exact HB.out|apply Zn|apply Zm|apply Zo|refine Zq ?_ GE23001.out)|exact HB.out)))|(with_reducible refine Kd.C_alloc ?_ _)|(with_reducible refine Kd.C_drewN ?_ _)|(with_reducible refine Kd.C_drew ?_)));(case side2=>exact HC0_1.out);rintro e w17 ⟨rfl,hb⟩;replace BK23001:=Za (ZA (g:=gb23001) (o:=.cells #[.string a0_0,.slice A0_1 l0_1.length c0_1,.int .i64 a0_2] 39 (0,0)) (by(with_reducible repeat(first|refine Zt ?_ _|refine Zv ?_|refine Zs ?_ _));exact BK23001.out) hb);replace HB:=Za (Zw (by repeat(first|(with_reducible first|exact HB.out|apply Zn|apply Zm|apply Zo|refine Zq ?_ GE23001.out)|exact HB.out)) hb);(try clear hi)))
   go_ret
   exact⟨by first|rfl|(simp[ZC,ZB] <;> rfl)|(simp[*,ZC,ZB] <;> rfl),by repeat(first|(with_reducible first|exact HB.out|apply Zn|apply Zm|apply Zo|refine Zq ?_ GE23001.out)|exact HB.out)⟩
 ·replace c3:=Bool.eq_false_iff.mpr c3
  subst c3
  have H1:(some false)=some r:=by rw[if_neg (show ¬(false=true) by decide)] at H;exact H
  clear H
  have H:=H1
  clear H1
  obtain rfl:=Zg H
  go_enter Tryz.func23,Tryz.ntmps23
  go_wp2_with (first|((with_reducible refine ZF (N:=1) rfl ?_);refine ZG ?hg (N:=1) ?hd (cs:=#[.string a0_0,.slice A0_1 l0_1.length c0_1,.int .i64 a0_2]) (t:=39) ?hr ?_;(case hd=>rfl);(case hg=>rfl);(case hr=>first|(go_simp;done)|(go_simp;rfl));intro gb23001 hg w18 hbox hb;have BK23001:=Za (hbox);have GW23001:=Za ((by rw[hg];exact(Zy (by repeat(first|(with_reducible first|exact HB.out|apply Zn|apply Zm|apply Zo)|exact HB.out))):w.heap.size≤gb23001));have GE23001:=Za ((by rw[hg];exact(Zy (by repeat(first|(with_reducible first|exact HB.out|apply Zn|apply Zm|apply Zo)|exact HB.out))):w.heap.size≤gb23001));replace HB:=Za (Zw (by repeat(first|(with_reducible first|exact HB.out|apply Zn|apply Zm|apply Zo)|exact HB.out)) hb);clear hb hbox hg;have hcz19_0:w18.cell? ⟨gb23001,0,none⟩=some (.string a0_0):=(Zp BK23001.out 0).trans rfl;have hcz19_1:w18.cell? ⟨gb23001,1,none⟩=some (.slice A0_1 l0_1.length c0_1):=(Zp BK23001.out 1).trans rfl;have hcz19_2:w18.cell? ⟨gb23001,2,none⟩=some (.int .i64 a0_2):=(Zp BK23001.out 2).trans rfl)|((with_reducible refine ZJ (f:=86) rfl ?_);refine Zaa (some 5) rfl rfl Tryz.func86 (by kernel_rfl) rfl #[.string a0_0] rfl (by(try simp only[List.map_toArray,List.map_cons,List.map_nil]);first|done|rfl|(simp only[Zk,Zj];rfl)) ?_;(with_reducible refine(Zam.calls k a0_0 false _ A2.out).mono ?_);rintro e w' ⟨rfl,⟨nd,rfl⟩⟩;refine⟨_,rfl,?_⟩))
  go_ret
  exact⟨by first|rfl|(simp[ZC,ZB] <;> rfl)|(simp[*,ZC,ZB] <;> rfl),by repeat(first|(with_reducible first|exact HB.out|apply Zn|apply Zm|apply Zo|refine Zq ?_ GE23001.out)|exact HB.out)⟩
end Go.Proofs.YtoeimopgoaffcaaGreatDoor.Pr
namespace Go.Proofs.YtoeimopgoaffcaaGreatDoor.Pr
open Go.RowKit Go.Proofs.YtoeimopgoaffcaaGreatDoorW.PrintWords Go.Proofs.YtoeimopgoaffcaaGreatDoor.Ni
def ZcG (s:ByteArray) (l:List Int) (n:Int):Bool:=nameB s && labB l && (decide (0≤n) && decide (n≤3))
theorem Zgl (s:ByteArray) (l:List Int) (n:Int) (hs:s.size≤9223372036854775807) (hl:l.length≤9223372036854775807) (k:Nat) (hk:2 ^ 64≤k):ZcT.f k s l n=some (ZcG s l n):=by
 unfold ZcT.f ZcG Z2.f
 rw[Zgm s hs k hk,Zi,Zda l hl k hk]
 cases nameB s
 ·rfl
 ·rw[if_pos rfl,Zi]
  cases labB l
  ·rfl
  ·rw[if_pos rfl]
   by_cases h:n≥0
   ·rw[if_pos h,Ze (show(0:Int)≤n from h)];rfl
   ·rw[if_neg h,Zf (show ¬(0:Int)≤n from h)];rfl
theorem Zgp (s:ByteArray) (l:List Int) (n:Int) (hs:s.size≤9223372036854775807) (hl:l.length≤9223372036854775807) (k:Nat) (hk:2 ^ 64≤k):ZcV.f k s l n=some (ZcG s l n):=by
 unfold ZcV.f ZcG
 rw[Zgs s hs k hk,Zi,ZcQ l hl k hk]
 cases nameB s
 ·rfl
 ·rw[if_pos rfl,Zi]
  cases labB l
  ·rfl
  ·rw[if_pos rfl]
   by_cases h:n≥0
   ·rw[if_pos h,Ze (show(0:Int)≤n from h)];rfl
   ·rw[if_neg h,Zf (show ¬(0:Int)≤n from h)];rfl
end Go.Proofs.YtoeimopgoaffcaaGreatDoor.Pr
namespace Go.Proofs.YtoeimopgoaffcaaGreatDoor.Pr
open Go.RowKit Go.Proofs.YtoeimopgoaffcaaGreatDoorW.PrintWords Go.Proofs.YtoeimopgoaffcaaGreatDoorW.PrintLast Go.Proofs.YtoeimopgoaffcaaGreatDoorW.PrintMore
attribute [local go_sem] ZU ZS ZW ZV ZO ZN ZT ZR
set_option linter.unusedVariables false
set_option linter.unusedSimpArgs false
open Go.Proofs.YtoeimopgoaffcaaGreatDoor.Ni
def Zc4 (n m:S39):Bool:=!(decide (m.f0.toList=n.f0.toList)) && (decide (n.f2=0) || !(decide (m.f2=n.f2)))
def ZcI (ns:List S39) (i:Nat):Bool:=ZcG (ns.getD i z39).f0 (ns.getD i z39).f1 (ns.getD i z39).f2 && (ns.take i).all (Zc4 (ns.getD i z39))
def Zbr (ns:List S39) (i:Nat):Nat→Bool
 | 0=>true
 | d+1=>ZcI ns i && Zbr ns (i+1) d
def Z1 (ns:List S39):Bool:=decide (1≤ns.length) && decide (ns.length≤7) && decide ((ns.getD 0 z39).f1.length=0) && decide ((ns.getD 0 z39).f2=0) && Zbr ns 0 ns.length
theorem ZfM {ns:List S39} {i:Nat} (h:i<ns.length):Zbr ns i (ns.length - i)=(ZcI ns i && Zbr ns (i+1) (ns.length - (i+1))):=by
 rw[show ns.length - i=(ns.length - (i+1))+1 by omega];rfl
theorem take_step {ns:List S39} {i j:Nat} (hj:j<i) (hi:i≤ns.length) (p:S39→Bool):((ns.take i).drop j).all p=(p (ns.getD j z39) && ((ns.take i).drop (j+1)).all p):=by
 rw[Zah (show j<(ns.take i).length by rw[Zj];omega) z39,List.all_cons]
 congr 2
 rw[List.getD_eq_getElem?_getD,List.getD_eq_getElem?_getD,List.getElem?_take_of_lt hj]
def Zca.f (l0_0:List (S39)) (l0_1:List (S82)) (a0_2:Int):Option Bool:=if l0_0.all (fun n=>decide (n.f0.size≤9223372036854775807) && decide (n.f1.length≤9223372036854775807))=true then some (Z1 l0_0) else none
set_option maxHeartbeats 8000000 in
set_option maxRecDepth 100000 in
theorem Zca.calls (A0_0:Option Addr) (c0_0:Nat) (l0_0:List (S39)) (A0_1:Option Addr) (c0_1:Nat) (l0_1:List (S82)) (a0_2:Int) (r:Bool) (w:World) (hr0_0:Kd.C k39 w A0_0 l0_0.length l0_0) (hc0_0:l0_0.length≤c0_0) (hr0_1:Kd.C k82 w A0_1 l0_1.length l0_1) (hc0_1:l0_1.length≤c0_1) (h:Zca.f l0_0 l0_1 a0_2=some r) :
  Calls Tryz.prog 77 #[.agg #[.slice A0_0 l0_0.length c0_0,.slice A0_1 l0_1.length c0_1,.int .i64 a0_2]] w fun e w'=>e=.returned (.bool r)∧Below w.heap.size w w':=by
 unfold Zca.f at h
 by_cases hall:l0_0.all (fun n=>decide (n.f0.size≤9223372036854775807) && decide (n.f1.length≤9223372036854775807))=true
 case neg=>rw[if_neg hall] at h;exact absurd h (by simp)
 rw[if_pos hall] at h
 obtain rfl:=Zg h
 have HFIT:=Za (show ∀x∈l0_0,x.f0.size≤9223372036854775807∧x.f1.length≤9223372036854775807 from fun x hx=>by
  have:=List.all_eq_true.1 hall x hx
  simpa using this)
 have HR0:=Za hr0_0;have HC0:=Za hc0_0
 have HN0:=Za (show l0_0.length≤9223372036854775807 from hr0_0.2.1)
 have hu:=Tryz.underlying25
 have hu2:=Tryz.underlying39
 clear hr0_0 hc0_0 hr0_1 hc0_1 h hall
 have HB0:=Za (Zn (Below.refl w.heap.size w) (.cells #[.slice A0_0 l0_0.length c0_0,.slice A0_1 l0_1.length c0_1,.int .i64 a0_2] 25))
 cases b1:decide ((l0_0.length:Int)<1) with
 | true=>
  have HE:=Za (show Z1 l0_0=false by
   unfold Z1
   rw[Zf (show ¬1≤l0_0.length by have:=Zd b1;omega)];rfl)
  go_enter Tryz.func77,Tryz.ntmps77
  go_wp2
  go_ret
  exact⟨by rw[HE.out];rfl,HB0.out⟩
 | false=>
 cases b2:decide ((7:Int)<(l0_0.length:Int)) with
 | true=>
  have HE:=Za (show Z1 l0_0=false by
   unfold Z1
   rw[Zf (show ¬l0_0.length≤7 by have:=Zd b2;omega)];simp)
  go_enter Tryz.func77,Tryz.ntmps77
  go_wp2
  go_ret
  exact⟨by rw[HE.out];rfl,HB0.out⟩
 | false=>
 have h0z:(0:Int)<(l0_0.length:Int):=by have:=of_decide_eq_false b1;omega
 obtain⟨ad,A1,c1,e1,hx0,hx1,hx2,l1,g1⟩:=Za0 HR0.out 0 (Int.le_refl 0) h0z
 cases e1
 have hrd:(ZH l0_0 0)=l0_0.getD 0 z39:=rfl
 simp only[Int.toNat_zero,Nat.zero_mul,Addr.add_zero',hrd] at hx0 hx1 hx2
 have HE0:=Za (show Z1 l0_0=(decide ((l0_0.getD 0 z39).f1.length=0) && decide ((l0_0.getD 0 z39).f2=0) && Zbr l0_0 0 l0_0.length) by
  unfold Z1
  rw[Ze (show 1≤l0_0.length by omega),Ze (show l0_0.length≤7 by have:=of_decide_eq_false b2;omega)];rfl)
 have h0n:0<l0_0.length:=by omega
 have hlta:=Zc w _ hx2
 revert hx1 hx2 HE0
 generalize (l0_0.getD 0 z39).f1.length=m1
 generalize (l0_0.getD 0 z39).f2=m2
 intro hx1 hx2 HE0
 clear hx0 l1 g1 hrd
 cases m1 with
 | succ m1=>
  have HE:=Za (show Z1 l0_0=false by
   rw[HE0.out,Zf (show ¬m1+1=0 by omega)];rfl)
  clear HE0
  go_enter Tryz.func77,Tryz.ntmps77
  go_wp2
  go_ret
  exact⟨by rw[HE.out];rfl,HB0.out⟩
 | zero=>
 rw[Ze rfl,Bool.true_and] at HE0
 cases b4:(m2 != 0) with
 | true=>
  have HE:=Za (show Z1 l0_0=false by
   rw[HE0.out,Zf (bne_iff_ne.1 b4)];rfl)
  clear HE0
  go_enter Tryz.func77,Tryz.ntmps77
  go_wp2
  go_ret
  exact⟨by rw[HE.out];rfl,HB0.out⟩
 | false=>
 rw[Ze (bne_eq_false_iff_eq.1 b4),Bool.true_and] at HE0
 go_enter Tryz.func77,Tryz.ntmps77
 go_wp2
 clear b1 b2 b4 hx1 hx2 h0n h0z hlta
 go_loopg [37] l0_0.length (fun gg s37 wr=>∃kk:Nat,s37=.int .i64 (kk:Int)∧Aside0 (kk≤l0_0.length)∧Aside0 (l0_0.length - kk≤gg)∧Aside0 (Below w.heap.size w wr)∧Aside0 (wr.cell? ⟨w.heap.size,0,none⟩=some (.slice (some ad) l0_0.length c0_0))∧Aside0 (Z1 l0_0=Zbr l0_0 kk (l0_0.length - kk)))
 case atStart=>exact⟨0,rfl,⟨Nat.zero_le _⟩,⟨by omega⟩,HB0,⟨by go_simp⟩,HE0⟩
 case round=>
 clear HE0
 obtain⟨kk,rfl,HK,HG,HBr,HX,HE⟩:=hrel
 have k0:=HX.out
 have hk0:=Zc wr _ k0
 by_cases hlt:kk<l0_0.length
 ·have hltz:(kk:Int)<(l0_0.length:Int):=by omega
  have hkc:kk≤c0_0:=by have:=HC0.out;omega
  obtain⟨ad',A1,c1,e1,hx0,hx1,hx2,l1,g1⟩:=Za0 (Zb HR0.out HBr.out) (kk:Int) (by omega) hltz
  cases e1
  have hrd:(ZH l0_0 (kk:Int))=l0_0.getD kk z39:=by unfold ZH;rw[Int.toNat_natCast]
  have hfit:=HFIT.out _ (ZaJ hlt z39)
  rw[hrd] at hx0 hx1 hx2 l1 g1
  rw[Int.toNat_natCast] at hx0 hx1 hx2
  have HD:=HE.out
  rw[ZfM hlt,ZcI] at HD
  clear hrd HE
  generalize l0_0.getD kk z39=nd at hx0 hx1 hx2 l1 g1 HD hfit
  obtain⟨nm,lb,wt⟩:=nd
  dsimp only at hx0 hx1 hx2 l1 g1 HD hfit
  have HNO:=Za fun (W:World) (hb:Below wr.heap.size wr W)=>ZcV.calls (2 ^ 64) nm A1 c1 lb wt (ZcG nm lb wt) W (Zb g1 hb) l1 (Zgp nm lb wt hfit.1 hfit.2 _ (Nat.le_refl _))
  have hlta:=Zc wr _ hx0
  have HB1:=Za (Zn (Below.refl wr.heap.size wr) (.cells #[.string nm,.slice A1 lb.length c1,.int .i64 wt] 39))
  clear g1 l1 hfit
  generalize ZcG nm lb wt=q at HNO HD
  cases q with
  | false=>
   go_wp2_with (go_at_call 23;refine(HNO.out _ HB1.out).mono ?_;rintro e w3 ⟨rfl,hb⟩;have HB3:=Za (HB1.out.trans (hb.mono HB1.out.size));clear hb)
   go_ret
   exact⟨by rw[HD];rfl,HBr.out.trans (HB3.out.mono HBr.out.size)⟩
  | true=>
  rw[Bool.true_and] at HD
  have HDA:=Za HD
  have K1:=Za (show(wr.alloc (.cells #[.string nm,.slice A1 lb.length c1,.int .i64 wt] 39)).cell? ⟨wr.heap.size,0,none⟩=some (.string nm)∧(wr.alloc (.cells #[.string nm,.slice A1 lb.length c1,.int .i64 wt] 39)).cell? ⟨wr.heap.size,2,none⟩=some (.int .i64 wt)∧(wr.alloc (.cells #[.string nm,.slice A1 lb.length c1,.int .i64 wt] 39)).cell? ⟨w.heap.size,0,none⟩=some (.slice (some ad) l0_0.length c0_0) from⟨by go_simp,by go_simp,by go_simp⟩)
  clear HD
  go_wp2_with (go_at_call 23;refine(HNO.out _ HB1.out).mono ?_;rintro e w3 ⟨rfl,hb⟩;have HB3:=Za (HB1.out.trans (hb.mono HB1.out.size));have n0:=Zx hb K1.out.1;have n2:=Zx hb K1.out.2.1;have n3:=Zx hb K1.out.2.2;have hn0:=Zc w3 _ n0;clear hb)
  have KN:=Za (And.intro n0 (And.intro n2 n3))
  have HBw:=Za (HBr.out.trans (HB3.out.mono HBr.out.size))
  clear n0 n2 n3 hx0 hx1 hx2 k0 HNO K1 HB1 HX hn0 hk0 hlta
  obtain⟨wo,hwo⟩:∃wo,wo=wr:=⟨_,rfl⟩
  subst hwo
  have HGo:=HG
  clear HG
  go_loopg [50] kk (fun gg s50 wr=>∃jj:Nat,s50=.int .i64 (jj:Int)∧Aside0 (jj≤kk)∧Aside0 (kk - jj≤gg)∧Aside0 (Below w3.heap.size w3 wr)∧Aside0 (Z1 l0_0=(((l0_0.take kk).drop jj).all (Zc4 ⟨nm,lb,wt⟩) && Zbr l0_0 (kk+1) (l0_0.length - (kk+1)))))
  case atStart=>exact⟨0,rfl,⟨Nat.zero_le _⟩,⟨by omega⟩,⟨Below.refl _ _⟩,HDA⟩
  case round=>
  clear HDA
  obtain⟨jj,rfl,HJ,HG,HBs,HE⟩:=hrel
  have n0:=Zx HBs.out KN.out.1
  have n2:=Zx HBs.out KN.out.2.1
  have n3:=Zx HBs.out KN.out.2.2
  have HBx:=Za (HBw.out.trans (HBs.out.mono HBw.out.size))
  by_cases hjt:jj<kk
  ·have hjz:(jj:Int)<(kk:Int):=by omega
   have hjl:(jj:Int)<(l0_0.length:Int):=by omega
   obtain⟨ad',A2,c2,e1,hx0,hx1,hx2,l2,g2⟩:=Za0 (Zb HR0.out HBx.out) (jj:Int) (by omega) hjl
   cases e1
   have hrd:(ZH l0_0 (jj:Int))=l0_0.getD jj z39:=by unfold ZH;rw[Int.toNat_natCast]
   rw[hrd] at hx0 hx1 hx2
   rw[Int.toNat_natCast] at hx0 hx1 hx2
   have HD:=HE.out
   rw[take_step hjt (by omega)] at HD
   clear hrd HE l2 g2
   generalize l0_0.getD jj z39=ne at hx0 hx1 hx2 HD
   obtain⟨nm2,lb2,wt2⟩:=ne
   dsimp only at hx0 hx1 hx2
   have hlta:=Zc wr _ hx0
   have hltb:=Zc wr _ n0
   have HDB:=Za HD;clear HD
   have HBy:=Za (Zn (Below.refl wr.heap.size wr) (.cells #[.string nm2,.slice A2 lb2.length c2,.int .i64 wt2] 39))
   have bad:Zc4 ⟨nm,lb,wt⟩ ⟨nm2,lb2,wt2⟩=false→Aside0 (Z1 l0_0=false):=fun hh=>⟨by rw[HDB.out,hh];rfl⟩
   have good:Zc4 ⟨nm,lb,wt⟩ ⟨nm2,lb2,wt2⟩=true→Aside0 (Z1 l0_0=(((l0_0.take kk).drop (jj+1)).all (Zc4 ⟨nm,lb,wt⟩) && Zbr l0_0 (kk+1) (l0_0.length - (kk+1)))):=fun hh=>⟨by rw[HDB.out,hh,Bool.true_and]⟩
   clear HDB
   cases b1:(nm2.toList == nm.toList) with
   | true=>
    have HF:=bad (by simp only[Zc4,Ze (beq_iff_eq.1 b1)];rfl)
    clear bad good
    go_wp2
    go_ret
    exact⟨by rw[HF.out];rfl,HBx.out.trans (HBy.out.mono HBx.out.size)⟩
   | false=>
   have d1:=Zf (beq_eq_false_iff_ne.1 b1)
   cases b2:(wt != 0) with
   | false=>
    have HF:=good (by simp only[Zc4,d1,Ze (bne_eq_false_iff_eq.1 b2)];rfl)
    clear bad good d1
    go_wp2
    go_roundg (kk - (jj+1))
    case measure=>have:=HG.out;omega
    case rel=>exact⟨jj+1,by rw[ZL hjt (by have:=HN0.out;omega)],⟨by omega⟩,⟨by omega⟩,⟨HBs.out.trans (HBy.out.mono HBs.out.size)⟩,HF⟩
   | true=>
   cases b3:(wt2 == wt) with
   | true=>
    have HF:=bad (by simp only[Zc4,d1,Zf (bne_iff_ne.1 b2),Ze (beq_iff_eq.1 b3)];rfl)
    clear bad good d1
    go_wp2
    go_ret
    exact⟨by rw[HF.out];rfl,HBx.out.trans (HBy.out.mono HBx.out.size)⟩
   | false=>
    have HF:=good (by simp only[Zc4,d1,Zf (bne_iff_ne.1 b2),Zf (beq_eq_false_iff_ne.1 b3)];rfl)
    clear bad good d1
    go_wp2
    go_roundg (kk - (jj+1))
    case measure=>have:=HG.out;omega
    case rel=>exact⟨jj+1,by rw[ZL hjt (by have:=HN0.out;omega)],⟨by omega⟩,⟨by omega⟩,⟨HBs.out.trans (HBy.out.mono HBs.out.size)⟩,HF⟩
  ·obtain rfl:jj=kk:=by have:=HJ.out;omega
   have HF:=Za (show Z1 l0_0=Zbr l0_0 (jj+1) (l0_0.length - (jj+1)) by
    rw[HE.out,List.drop_of_length_le (by rw[Zj];omega)];rfl)
   clear HE hjt
   go_wp2
   go_roundg (l0_0.length - (jj+1))
   case measure=>have:=HGo.out;omega
   case rel=>exact⟨jj+1,by rw[ZL hlt HN0.out],⟨by omega⟩,⟨by omega⟩,HBx,⟨n3⟩,HF⟩
 ·obtain rfl:kk=l0_0.length:=by have:=HK.out;omega
  have HF:=Za (show Z1 l0_0=true by rw[HE.out,Nat.sub_self];rfl)
  clear HE hlt
  go_wp2
  go_ret
  exact⟨by rw[HF.out];rfl,HBr.out⟩
end Go.Proofs.YtoeimopgoaffcaaGreatDoor.Pr
namespace Go.Proofs.YtoeimopgoaffcaaGreatDoor.Pr
open Go.RowKit Go.Proofs.YtoeimopgoaffcaaGreatDoorW.PrintWords Go.Proofs.YtoeimopgoaffcaaGreatDoor.Ni
theorem areNodes_f (ns:List ZI) (ts:List PTie) (z:Int) (hb:∀n∈ns,n.f0.size≤9223372036854775807∧n.f1.length≤9223372036854775807):Zca.f ns ts z=some (Z1 ns):=by
 unfold Zca.f
 rw[if_pos (List.all_eq_true.2 fun x hx=>by have:=hb x hx;simpa using this)]
theorem Zd7:∀(l:List Int) (p:Int),ZbS p l=true→∀x∈l,Zbf x=true
 | [],_,_,x,hx=>by simp at hx
 | y :: l,p,h,x,hx=>by
  unfold ZbS at h
  simp only[Bool.and_eq_true] at h
  rcases List.mem_cons.1 hx with rfl|hx
  ·exact h.1.1
  ·exact Zd7 l _ h.2 x hx
theorem ZeG {ns:List ZI}:∀(d i:Nat),Zbr ns i d=true→∀j,i≤j→j<i+d→ZcI ns j=true
 | 0,i,_,j,h1,h2=>by omega
 | d+1,i,h,j,h1,h2=>by
  rw[Zbr,Bool.and_eq_true] at h
  by_cases e:j=i
  ·rw[e];exact h.1
  ·exact ZeG d (i+1) h.2 j (by omega) (by omega)
theorem Zc8 {ns:List ZI} (h:Z1 ns=true):∀j,j<ns.length→ZcI ns j=true:=by
 unfold Z1 at h
 rw[Bool.and_eq_true] at h
 exact fun j hj=>ZeG _ _ h.2 j (Nat.zero_le _) (by omega)
theorem Zdz {ns:List ZI} (h:Z1 ns=true):∀n∈ns,∀x∈n.f1,Zbf x=true:=by
 intro n hn x hx
 obtain⟨j,hj,rfl⟩:=List.mem_iff_getElem.1 hn
 have:=Zc8 h j hj
 unfold ZcI ZcG labB at this
 rw[show ns.getD j z39=ns[j] by rw[List.getD_eq_getElem?_getD,Zl hj];rfl] at this
 simp only[Bool.and_eq_true] at this
 exact Zd7 _ _ this.1.1.2 x hx
end Go.Proofs.YtoeimopgoaffcaaGreatDoor.Pr
namespace Go.Proofs.YtoeimopgoaffcaaGreatDoor.Pr
open Go.RowKit Go.Proofs.YtoeimopgoaffcaaGreatDoorW.PrintWords Go.Proofs.YtoeimopgoaffcaaGreatDoorW.PrintLast Go.Proofs.YtoeimopgoaffcaaGreatDoorW.PrintMore
attribute [local go_sem] ZU ZS ZW ZV ZO ZN ZT ZR
set_option linter.unusedVariables false
set_option linter.unusedSimpArgs false
def ZaB.l0:Nat→Int→List Int→Int→Int→Option (Bool)
 | 0,_,_,_,_=>none
 | k+1,x1,x7,x8,x9=>if x9<x8 then(if 0≤x9 then(if x9<(x7.length:Int) then(if (rd x7 x9)=x1 then(some true) else(ZaB.l0 k x1 x7 x8 (wrap64 (x9+1)))) else(none)) else(none)) else(some false)
def ZaB.f (k:Nat) (l0:List Int) (a1:Int):Option (Bool):=ZaB.l0 k a1 l0 (l0.length:Int) 0
set_option maxHeartbeats 8000000 in
set_option maxRecDepth 100000 in
theorem ZaB.calls (k:Nat) (A0:Option Addr) (c0:Nat) (l0:List Int) (a1:Int) (r:Bool) (w:World) (hr0:Kd.C (Kd.int .i64) w A0 l0.length l0) (hc0:l0.length≤c0) (h:ZaB.f k l0 a1=some r) :
  Calls Tryz.prog 177 #[.slice A0 l0.length c0,.int .i64 a1] w fun e w'=>e=.returned (.bool r)∧ZE w w':=by
 have HR0:=Za hr0;have HC0:=Za hc0;clear hr0 hc0
 have H:(ZaB.l0 k a1 l0 (l0.length:Int) 0)=some r:=h
 clear h
 have H':=Za H
 clear H
 go_enter Tryz.func177,Tryz.ntmps177
 go_wp2
 go_loopg [9] k (fun kq v9 w'=>∃(x9_1:Int),v9=.int .i64 x9_1∧Aside0 (ZaB.l0 kq a1 l0 (l0.length:Int) x9_1=some r)∧Aside0 (kq≤k)∧ZE w w')
 case atStart=>exact⟨(0),(by first|rfl|(simp;done)|(simp[*];done)),H',⟨Nat.le_refl _⟩,by repeat(first|exact ZE.refl _|apply ZE.step)⟩
 case round=>
  clear H'
  try clear c1
  try clear p2
  obtain⟨x9_1,rfl,HA,HK1,⟨m1,rfl⟩⟩:=hrel
  cases gk with
  | zero=>exact absurd HA.out (by simp[ZaB.l0])
  | succ k1=>
   have H:=HA.out
   clear HA
   simp only[ZaB.l0] at H
   by_cases c3:x9_1<(l0.length:Int)
   ·rw[if_pos c3] at H
    have c3b0:decide (x9_1<(l0.length:Int))=true:=Ze c3
    clear c3
    by_cases c4:0≤x9_1
    ·rw[if_pos c4] at H
     have c4b0:decide (0≤x9_1)=true:=Ze c4
     clear c4
     by_cases c5:x9_1<(l0.length:Int)
     ·rw[if_pos c5] at H
      have c5b0:decide (x9_1<(l0.length:Int))=true:=Ze c5
      clear c5
      by_cases c6:(rd l0 x9_1)=a1
      ·rw[if_pos c6] at H
       have c6b0:((rd l0 x9_1) == a1)=true:=beq_iff_eq.mpr c6
       have c6b1:((rd l0 x9_1) != a1)=false:=bne_eq_false_iff_eq.mpr c6
       clear c6
       obtain rfl:=Zg H
       have p177001:0≤(x9_1:Int):=Zd (by first|(with_reducible assumption)|assumption)
       have q177001:x9_1<(l0.length:Int):=Zd (by first|(with_reducible assumption)|assumption)
       obtain⟨ad177001,e177001,hx177001_0⟩:=Kd.at_int HR0.out x9_1 p177001 q177001
       cases e177001
       replace p177001:=eq_true p177001
       replace q177001:=eq_true q177001
       go_wp2
       go_ret
       exact⟨by first|rfl|(simp;done)|(simp[*];done),by repeat(first|exact ZE.refl _|apply ZE.step)⟩
      ·rw[if_neg c6] at H
       have c6b0:((rd l0 x9_1) == a1)=false:=beq_eq_false_iff_ne.mpr c6
       have c6b1:((rd l0 x9_1) != a1)=true:=bne_iff_ne.mpr c6
       have H':=Za H
       clear H
       have p177001:0≤(x9_1:Int):=Zd (by first|(with_reducible assumption)|assumption)
       have q177001:x9_1<(l0.length:Int):=Zd (by first|(with_reducible assumption)|assumption)
       obtain⟨ad177001,e177001,hx177001_0⟩:=Kd.at_int HR0.out x9_1 p177001 q177001
       cases e177001
       replace p177001:=eq_true p177001
       replace q177001:=eq_true q177001
       go_wp2
       go_roundg k1
       case measure=>have:=HK1.out;omega
       case rel=>exact⟨(wrap64 (x9_1+1)),(by first|rfl|(simp;done)|(simp[*];done)),H',⟨by have:=HK1.out;omega⟩,by repeat(first|exact ZE.refl _|apply ZE.step)⟩
     ·rw[if_neg c5] at H
      exact absurd H (by simp)
    ·rw[if_neg c4] at H
     exact absurd H (by simp)
   ·rw[if_neg c3] at H
    have c3b0:decide (x9_1<(l0.length:Int))=false:=Zf c3
    clear c3
    obtain rfl:=Zg H
    go_wp2
    go_ret
    exact⟨by first|rfl|(simp;done)|(simp[*];done),by repeat(first|exact ZE.refl _|apply ZE.step)⟩
mutual
def ZY.j0:Nat→List Int→List Int→Bool→Option (Bool)
 | 0,_,_,_=>none
 | k+1,x0,x1,x14=>if x14=true then(some false) else(ZY.l0 k x0 x1 (x1.length:Int) 0)
def ZY.l0:Nat→List Int→List Int→Int→Int→Option (Bool)
 | 0,_,_,_,_=>none
 | k+1,x0,x15,x16,x17=>if x17<x16 then(if 0≤x17 then(if x17<(x15.length:Int) then((ZaB.f k x0 (rd x15 x17)).bind fun t178004=>(if t178004=true then(ZY.l0 k x0 x15 x16 (wrap64 (x17+1))) else(some false))) else(none)) else(none)) else(some true)
end
def ZY.f (k:Nat) (l0:List Int) (l1:List Int):Option (Bool):=(Zae.f k l0).bind fun t178001=>(if t178001=true then((Zae.f k l1).bind fun t178002=>(ZY.j0 k l0 l1 (!t178002))) else(ZY.j0 k l0 l1 true))
set_option maxHeartbeats 8000000 in
set_option maxRecDepth 100000 in
theorem ZY.calls (k:Nat) (A0:Option Addr) (c0:Nat) (l0:List Int) (A1:Option Addr) (c1:Nat) (l1:List Int) (r:Bool) (w:World) (hr0:Kd.C (Kd.int .i64) w A0 l0.length l0) (hc0:l0.length≤c0) (hr1:Kd.C (Kd.int .i64) w A1 l1.length l1) (hc1:l1.length≤c1) (h:ZY.f k l0 l1=some r) :
  Calls Tryz.prog 178 #[.slice A0 l0.length c0,.slice A1 l1.length c1] w fun e w'=>e=.returned (.bool r)∧ZE w w':=by
 have HR0:=Za hr0;have HC0:=Za hc0;clear hr0 hc0;have HR1:=Za hr1;have HC1:=Za hc1;clear hr1 hc1
 have H:((Zae.f k l0).bind fun t178001=>(if t178001=true then((Zae.f k l1).bind fun t178002=>(ZY.j0 k l0 l1 (!t178002))) else(ZY.j0 k l0 l1 true)))=some r:=h
 clear h;have HC3:=Za H;clear H
 go_enter Tryz.func178,Tryz.ntmps178
 go_upto_region 1 with (fail)
 go_cut [14] (fun v14 wc=>∃(kq:Nat) (x14_2:Bool),v14=.bool x14_2∧Aside0 (ZY.j0 kq l0 l1 x14_2=some r)∧Aside0 (kq≤k)∧ZE w wc)
 case first=>
  have H:=HC3.out
  clear HC3
  replace H:=Zh H
  obtain⟨t178001,A40,H⟩:=H;have A4:=Za A40;clear A40
  by_cases c5:t178001=true
  ·subst c5
   rw[if_pos rfl] at H
   replace H:=Zh H
   obtain⟨t178002,A60,H⟩:=H;have A6:=Za A60;clear A60
   have H':=Za H
   clear H
   go_wp2_with (first|((with_reducible refine ZJ (f:=175) rfl ?_);refine Zaa (some 8) rfl rfl Tryz.func175 (by kernel_rfl) rfl #[.slice A0 l0.length c0] rfl (by(try simp only[List.map_toArray,List.map_cons,List.map_nil]);first|done|rfl|(simp only[Zk,Zj];rfl)) ?_;(with_reducible refine(Zae.calls k _ _ l0 true _ ?side1 ?side2 A4.out).mono ?_);(case side1=>repeat(first|exact HR0.out|(with_reducible refine Kd.C_alloc ?_ _)|(with_reducible refine Kd.C_drewN ?_ _)|(with_reducible refine Kd.C_drew ?_)));(case side2=>exact HC0.out);rintro e w' ⟨rfl,⟨nd,rfl⟩⟩;refine⟨_,rfl,?_⟩)|(go_at_call 175;(with_reducible refine(Zae.calls k _ _ l1 t178002 _ ?side1 ?side2 A6.out).mono ?_);(case side1=>repeat(first|exact HR1.out|(with_reducible refine Kd.C_alloc ?_ _)|(with_reducible refine Kd.C_drewN ?_ _)|(with_reducible refine Kd.C_drew ?_)));(case side2=>exact HC1.out);rintro e w' ⟨rfl,⟨nd,rfl⟩⟩))
   go_meet
   case rel=>exact⟨_,(!t178002),(by first|rfl|(simp;done)|(simp[*];done)),H',⟨by first|omega|exact Nat.le_refl _⟩,by repeat(first|exact ZE.refl _|apply ZE.step)⟩
  ·replace c5:=Bool.eq_false_iff.mpr c5
   subst c5
   have H1:(ZY.j0 k l0 l1 true)=some r:=by rw[if_neg (show ¬(false=true) by decide)] at H;exact H
   clear H
   have H:=H1
   clear H1
   have H':=Za H
   clear H
   go_wp2_with (first|((with_reducible refine ZJ (f:=175) rfl ?_);refine Zaa (some 8) rfl rfl Tryz.func175 (by kernel_rfl) rfl #[.slice A0 l0.length c0] rfl (by(try simp only[List.map_toArray,List.map_cons,List.map_nil]);first|done|rfl|(simp only[Zk,Zj];rfl)) ?_;(with_reducible refine(Zae.calls k _ _ l0 false _ ?side1 ?side2 A4.out).mono ?_);(case side1=>repeat(first|exact HR0.out|(with_reducible refine Kd.C_alloc ?_ _)|(with_reducible refine Kd.C_drewN ?_ _)|(with_reducible refine Kd.C_drew ?_)));(case side2=>exact HC0.out);rintro e w' ⟨rfl,⟨nd,rfl⟩⟩;refine⟨_,rfl,?_⟩))
   go_meet
   case rel=>exact⟨_,(true),(by first|rfl|(simp;done)|(simp[*];done)),H',⟨by first|omega|exact Nat.le_refl _⟩,by repeat(first|exact ZE.refl _|apply ZE.step)⟩
 case rest=>
  clear HC3
  try clear c1
  try clear p2
  try clear c5
  obtain⟨kq,x14_2,rfl,HA,HJ2,⟨mc2,rfl⟩⟩:=hcut
  cases kq with
  | zero=>exact absurd HA.out (by simp[ZY.j0])
  | succ kj2=>
   have H:=HA.out
   clear HA
   simp only[ZY.j0] at H
   by_cases c7:x14_2=true
   ·subst c7
    rw[if_pos rfl] at H
    obtain rfl:=Zg H
    go_wp2
    go_ret
    exact⟨by first|rfl|(simp;done)|(simp[*];done),by repeat(first|exact ZE.refl _|apply ZE.step)⟩
   ·replace c7:=Bool.eq_false_iff.mpr c7
    subst c7
    have H1:(ZY.l0 kj2 l0 l1 (l1.length:Int) 0)=some r:=by rw[if_neg (show ¬(false=true) by decide)] at H;exact H
    clear H
    have H:=H1
    clear H1
    have H':=Za H
    clear H
    go_wp2
    go_loopg [17] kj2 (fun kq v17 w'=>∃(x17_2:Int),v17=.int .i64 x17_2∧Aside0 (ZY.l0 kq l0 l1 (l1.length:Int) x17_2=some r)∧Aside0 (kq≤kj2)∧ZE w w')
    case atStart=>exact⟨(0),(by first|rfl|(simp;done)|(simp[*];done)),H',⟨Nat.le_refl _⟩,by repeat(first|exact ZE.refl _|apply ZE.step)⟩
    case round=>
     clear H'
     try clear c1
     try clear c2
     try clear p2
     try clear c5
     try clear c7
     try clear p2
     obtain⟨x17_2,rfl,HA,HK2,⟨m2,rfl⟩⟩:=hrel
     cases gk with
     | zero=>exact absurd HA.out (by simp[ZY.l0])
     | succ k2=>
      have H:=HA.out
      clear HA
      simp only[ZY.l0] at H
      by_cases c8:x17_2<(l1.length:Int)
      ·rw[if_pos c8] at H
       have c8b0:decide (x17_2<(l1.length:Int))=true:=Ze c8
       clear c8
       by_cases c9:0≤x17_2
       ·rw[if_pos c9] at H
        have c9b0:decide (0≤x17_2)=true:=Ze c9
        clear c9
        by_cases c10:x17_2<(l1.length:Int)
        ·rw[if_pos c10] at H
         have c10b0:decide (x17_2<(l1.length:Int))=true:=Ze c10
         clear c10
         replace H:=Zh H
         obtain⟨t178004,A110,H⟩:=H;have A11:=Za A110;clear A110
         by_cases c12:t178004=true
         ·subst c12
          rw[if_pos rfl] at H
          have H':=Za H
          clear H
          have p178003:0≤(x17_2:Int):=Zd (by first|(with_reducible assumption)|assumption)
          have q178003:x17_2<(l1.length:Int):=Zd (by first|(with_reducible assumption)|assumption)
          obtain⟨ad178003,e178003,hx178003_0⟩:=Kd.at_int HR1.out x17_2 p178003 q178003
          cases e178003
          replace p178003:=eq_true p178003
          replace q178003:=eq_true q178003
          go_wp2_with (first|((with_reducible refine ZJ (f:=177) rfl ?_);refine Zaa (some 23) rfl rfl Tryz.func177 (by kernel_rfl) rfl #[.slice A0 l0.length c0,.int .i64 (rd l1 x17_2)] rfl (by(try simp only[List.map_toArray,List.map_cons,List.map_nil]);first|done|rfl|(simp only[Zk,Zj];rfl)) ?_;(with_reducible refine(ZaB.calls k2 _ _ l0 (rd l1 x17_2) true _ ?side1 ?side2 A11.out).mono ?_);(case side1=>repeat(first|exact HR0.out|(with_reducible refine Kd.C_alloc ?_ _)|(with_reducible refine Kd.C_drewN ?_ _)|(with_reducible refine Kd.C_drew ?_)));(case side2=>exact HC0.out);rintro e w' ⟨rfl,⟨nd,rfl⟩⟩;refine⟨_,rfl,?_⟩))
          go_roundg k2
          case measure=>have:=HJ2.out;have:=HK2.out;omega
          case rel=>exact⟨(wrap64 (x17_2+1)),(by first|rfl|(simp;done)|(simp[*];done)),H',⟨by have:=HJ2.out;have:=HK2.out;omega⟩,by repeat(first|exact ZE.refl _|apply ZE.step)⟩
         ·replace c12:=Bool.eq_false_iff.mpr c12
          subst c12
          have H1:(some false)=some r:=by rw[if_neg (show ¬(false=true) by decide)] at H;exact H
          clear H
          have H:=H1
          clear H1
          obtain rfl:=Zg H
          have p178003:0≤(x17_2:Int):=Zd (by first|(with_reducible assumption)|assumption)
          have q178003:x17_2<(l1.length:Int):=Zd (by first|(with_reducible assumption)|assumption)
          obtain⟨ad178003,e178003,hx178003_0⟩:=Kd.at_int HR1.out x17_2 p178003 q178003
          cases e178003
          replace p178003:=eq_true p178003
          replace q178003:=eq_true q178003
          go_wp2_with (first|((with_reducible refine ZJ (f:=177) rfl ?_);refine Zaa (some 23) rfl rfl Tryz.func177 (by kernel_rfl) rfl #[.slice A0 l0.length c0,.int .i64 (rd l1 x17_2)] rfl (by(try simp only[List.map_toArray,List.map_cons,List.map_nil]);first|done|rfl|(simp only[Zk,Zj];rfl)) ?_;(with_reducible refine(ZaB.calls k2 _ _ l0 (rd l1 x17_2) false _ ?side1 ?side2 A11.out).mono ?_);(case side1=>repeat(first|exact HR0.out|(with_reducible refine Kd.C_alloc ?_ _)|(with_reducible refine Kd.C_drewN ?_ _)|(with_reducible refine Kd.C_drew ?_)));(case side2=>exact HC0.out);rintro e w' ⟨rfl,⟨nd,rfl⟩⟩;refine⟨_,rfl,?_⟩))
          go_ret
          exact⟨by first|rfl|(simp;done)|(simp[*];done),by repeat(first|exact ZE.refl _|apply ZE.step)⟩
        ·rw[if_neg c10] at H
         exact absurd H (by simp)
       ·rw[if_neg c9] at H
        exact absurd H (by simp)
      ·rw[if_neg c8] at H
       have c8b0:decide (x17_2<(l1.length:Int))=false:=Zf c8
       clear c8
       obtain rfl:=Zg H
       go_wp2
       go_ret
       exact⟨by first|rfl|(simp;done)|(simp[*];done),by repeat(first|exact ZE.refl _|apply ZE.step)⟩
end Go.Proofs.YtoeimopgoaffcaaGreatDoor.Pr
