/- The texts of one claim, put together by a program of this session. -/
import Derived.Test.YtodfnelilhjoeaaBSnc1x1
namespace Go.Proofs.Ytodfnelilhjoeaa.Pr
open Go.RowKit Go.Proofs.YtodfnelilhjoeaaW.PrintWords Go.Proofs.YtodfnelilhjoeaaW.PrintLast Go.Proofs.YtodfnelilhjoeaaW.PrintMore
attribute [local go_sem] Zac Zaa Zam Zal Z5 Z4 Zab Z9
set_option linter.unusedVariables false
set_option linter.unusedSimpArgs false
def Zcg.f (a0_0:Int) (a0_1:Int) (a0_2:Int) (a0_3:Int) (a0_4:Bool):Option (Int×Int×Int×Int×Bool):=some (a0_0,a0_1,a0_2,a0_3,a0_4)
set_option maxHeartbeats 8000000 in
set_option maxRecDepth 100000 in
theorem Zcg.calls (a0_0:Int) (a0_1:Int) (a0_2:Int) (a0_3:Int) (a0_4:Bool) (r1:Int) (r2:Int) (r3:Int) (r4:Int) (r5:Bool) (w:World) (h:Zcg.f a0_0 a0_1 a0_2 a0_3 a0_4=some (r1,r2,r3,r4,r5)) :
  Calls Try.prog 120 #[.agg #[.int .i64 a0_0,.int .i64 a0_1,.int .i64 a0_2,.int .i64 a0_3,.bool a0_4]] w fun e w'=>e=.returned (.agg #[.int .i64 r1,.int .i64 r2,.int .i64 r3,.int .i64 r4,.bool r5])∧Below w.heap.size w w':=by
 have hu130:=Try.underlying130
 have hu90:=Try.underlying90
 have HB:=Za (Below.refl w.heap.size w)
 have H:(some (a0_0,a0_1,a0_2,a0_3,a0_4))=some (r1,r2,r3,r4,r5):=h
 clear h
 simp only[Option.some.injEq,Prod.mk.injEq] at H
 obtain⟨rfl,rfl,rfl,rfl,rfl⟩:=H
 go_enter Try.func120,Try.ntmps120
 go_wp2_with (first|((with_reducible refine ZI (N:=1) rfl ?_);refine ZH ?hg (N:=1) ?hd (cs:=#[.int .i64 a0_0,.int .i64 a0_1,.int .i64 a0_2,.int .i64 a0_3,.bool a0_4]) (t:=130) ?hr ?_;(case hd=>rfl);(case hg=>rfl);(case hr=>first|(go_simp;done)|(go_simp;rfl));intro gb120001 hg w2 hbox hb;have BK120001:=Za (hbox);have GW120001:=Za ((by rw[hg];exact(Zx (by repeat(first|(with_reducible first|exact HB.out|apply Zn|apply Zm|apply Zt)|exact HB.out))):w.heap.size≤gb120001));have GE120001:=Za ((by rw[hg];exact(Zx (by repeat(first|(with_reducible first|exact HB.out|apply Zn|apply Zm|apply Zt)|exact HB.out))):w.heap.size≤gb120001));replace HB:=Za (Zw (by repeat(first|(with_reducible first|exact HB.out|apply Zn|apply Zm|apply Zt)|exact HB.out)) hb);clear hb hbox hg)|((with_reducible refine ZI (N:=2) rfl ?_);refine ZH ?hg (N:=2) ?hd (cs:=#[.int .i64 0,.int .i64 0,.int .i64 0,.int .i64 0,.bool false]) (t:=90) ?hr ?_;(case hd=>rfl);(case hg=>rfl);(case hr=>first|(go_simp;done)|(go_simp;rfl));intro gb120002 hg w3 hbox hb;have BK120002:=Za (hbox);have GW120002:=Za ((by rw[hg];exact(Zx (by repeat(first|(with_reducible first|exact HB.out|apply Zn|apply Zm|apply Zt|refine Zq ?_ GE120001.out)|exact HB.out))):w.heap.size≤gb120002));have GE120002:=Za ((by rw[hg];exact(Zx (by repeat(first|(with_reducible first|exact HB.out|apply Zn|apply Zm|apply Zt|refine Zq ?_ GE120001.out)|exact HB.out))):w.heap.size≤gb120002));have NB120001_120002:=Za ((by rw[hg];exact Nat.ne_of_lt (ZO (g:=gb120001) (o:=.cells #[.int .i64 a0_0,.int .i64 a0_1,.int .i64 a0_2,.int .i64 a0_3,.bool a0_4] 130 (0,0)) (by(with_reducible repeat(first|refine Zp ?_ _|refine Zu ?_|refine Zo ?_ _));exact BK120001.out)):gb120001≠gb120002));have NB120002_120001:=Za ((by rw[hg];exact Nat.ne_of_gt (ZO (g:=gb120001) (o:=.cells #[.int .i64 a0_0,.int .i64 a0_1,.int .i64 a0_2,.int .i64 a0_3,.bool a0_4] 130 (0,0)) (by(with_reducible repeat(first|refine Zp ?_ _|refine Zu ?_|refine Zo ?_ _));exact BK120001.out)):gb120002≠gb120001));replace BK120001:=Za (Zy (g:=gb120001) (o:=.cells #[.int .i64 a0_0,.int .i64 a0_1,.int .i64 a0_2,.int .i64 a0_3,.bool a0_4] 130 (0,0)) (by(with_reducible repeat(first|refine Zp ?_ _|refine Zu ?_|refine Zo ?_ _));exact BK120001.out) hb);replace HB:=Za (Zw (by repeat(first|(with_reducible first|exact HB.out|apply Zn|apply Zm|apply Zt|refine Zq ?_ GE120001.out)|exact HB.out)) hb);clear hb hbox hg)|((with_reducible refine ZI (N:=3) rfl ?_);refine ZH ?hg (N:=3) ?hd (cs:=#[.int .i64 0,.int .i64 0,.int .i64 0,.int .i64 0,.bool false]) (t:=90) ?hr ?_;(case hd=>rfl);(case hg=>rfl);(case hr=>first|(go_simp;done)|(go_simp;rfl));intro gb120003 hg w4 hbox hb;have BK120003:=Za (hbox);have GW120003:=Za ((by rw[hg];exact(Zx (by repeat(first|(with_reducible first|exact HB.out|apply Zn|apply Zm|apply Zt|refine Zq ?_ GE120001.out|refine Zq ?_ GE120002.out)|exact HB.out))):w.heap.size≤gb120003));have GE120003:=Za ((by rw[hg];exact(Zx (by repeat(first|(with_reducible first|exact HB.out|apply Zn|apply Zm|apply Zt|refine Zq ?_ GE120001.out|refine Zq ?_ GE120002.out)|exact HB.out))):w.heap.size≤gb120003));have NB120001_120003:=Za ((by rw[hg];exact Nat.ne_of_lt (ZO (g:=gb120001) (o:=.cells #[.int .i64 a0_0,.int .i64 a0_1,.int .i64 a0_2,.int .i64 a0_3,.bool a0_4] 130 (0,0)) (by(with_reducible repeat(first|refine Zp ?_ _|refine Zu ?_|refine Zo ?_ _));exact BK120001.out)):gb120001≠gb120003));have NB120003_120001:=Za ((by rw[hg];exact Nat.ne_of_gt (ZO (g:=gb120001) (o:=.cells #[.int .i64 a0_0,.int .i64 a0_1,.int .i64 a0_2,.int .i64 a0_3,.bool a0_4] 130 (0,0)) (by(with_reducible repeat(first|refine Zp ?_ _|refine Zu ?_|refine Zo ?_ _));exact BK120001.out)):gb120003≠gb120001));have NB120002_120003:=Za ((by rw[hg];exact Nat.ne_of_lt (ZO (g:=gb120002) (o:=.cells #[.int .i64 0,.int .i64 0,.int .i64 0,.int .i64 0,.bool false] 90 (0,0)) (by(with_reducible repeat(first|refine Zp ?_ _|refine Zu ?_|refine Zo ?_ _));exact BK120002.out)):gb120002≠gb120003));have NB120003_120002:=Za ((by rw[hg];exact Nat.ne_of_gt (ZO (g:=gb120002) (o:=.cells #[.int .i64 0,.int .i64 0,.int .i64 0,.int .i64 0,.bool false] 90 (0,0)) (by(with_reducible repeat(first|refine Zp ?_ _|refine Zu ?_|refine Zo ?_ _));exact BK120002.out)):gb120003≠gb120002));replace BK120001:=Za (Zy (g:=gb120001) (o:=.cells #[.int .i64 a0_0,.int .i64 a0_1,.int .i64 a0_2,.int .i64 a0_3,.bool a0_4] 130 (0,0)) (by(with_reducible repeat(first|refine Zp ?_ _|refine Zu ?_|refine Zo ?_ _));exact BK120001.out) hb);replace BK120002:=Za (Zy (g:=gb120002) (o:=.cells #[.int .i64 0,.int .i64 0,.int .i64 0,.int .i64 0,.bool false] 90 (0,0)) (by(with_reducible repeat(first|refine Zp ?_ _|refine Zu ?_|refine Zo ?_ _));exact BK120002.out) hb);replace HB:=Za (Zw (by repeat(first|(with_reducible first|exact HB.out|apply Zn|apply Zm|apply Zt|refine Zq ?_ GE120001.out|refine Zq ?_ GE120002.out)|exact HB.out)) hb);clear hb hbox hg;have hnb5:=NB120001_120002.out;have hnc5:=NB120002_120001.out;have hnb6:=NB120001_120003.out;have hnc6:=NB120003_120001.out;have hcz7_0:w4.cell? ⟨gb120001,0,none⟩=some (.int .i64 a0_0):=(Zs BK120001.out 0).trans rfl;have hcz7_1:w4.cell? ⟨gb120001,1,none⟩=some (.int .i64 a0_1):=(Zs BK120001.out 1).trans rfl;have hcz7_2:w4.cell? ⟨gb120001,2,none⟩=some (.int .i64 a0_2):=(Zs BK120001.out 2).trans rfl;have hcz7_3:w4.cell? ⟨gb120001,3,none⟩=some (.int .i64 a0_3):=(Zs BK120001.out 3).trans rfl;have hcz7_4:w4.cell? ⟨gb120001,4,none⟩=some (.bool a0_4):=(Zs BK120001.out 4).trans rfl;have hfz7_0:=Zr BK120001.out 0;have hfz7_1:=Zr BK120001.out 1;have hfz7_2:=Zr BK120001.out 2;have hfz7_3:=Zr BK120001.out 3;have hfz7_4:=Zr BK120001.out 4;have hnb8:=NB120003_120002.out;have hnc8:=NB120002_120003.out;have hcz9_0:w4.cell? ⟨gb120003,0,none⟩=some (.int .i64 0):=(Zs BK120003.out 0).trans rfl;have hcz9_1:w4.cell? ⟨gb120003,1,none⟩=some (.int .i64 0):=(Zs BK120003.out 1).trans rfl;have hcz9_2:w4.cell? ⟨gb120003,2,none⟩=some (.int .i64 0):=(Zs BK120003.out 2).trans rfl;have hcz9_3:w4.cell? ⟨gb120003,3,none⟩=some (.int .i64 0):=(Zs BK120003.out 3).trans rfl;have hcz9_4:w4.cell? ⟨gb120003,4,none⟩=some (.bool false):=(Zs BK120003.out 4).trans rfl;have hfz9_0:=Zr BK120003.out 0;have hfz9_1:=Zr BK120003.out 1;have hfz9_2:=Zr BK120003.out 2;have hfz9_3:=Zr BK120003.out 3;have hfz9_4:=Zr BK120003.out 4;have hcz10_0:w4.cell? ⟨gb120002,0,none⟩=some (.int .i64 0):=(Zs BK120002.out 0).trans rfl;have hcz10_1:w4.cell? ⟨gb120002,1,none⟩=some (.int .i64 0):=(Zs BK120002.out 1).trans rfl;have hcz10_2:w4.cell? ⟨gb120002,2,none⟩=some (.int .i64 0):=(Zs BK120002.out 2).trans rfl;have hcz10_3:w4.cell? ⟨gb120002,3,none⟩=some (.int .i64 0):=(Zs BK120002.out 3).trans rfl;have hcz10_4:w4.cell? ⟨gb120002,4,none⟩=some (.bool false):=(Zs BK120002.out 4).trans rfl;have hfz10_0:=Zr BK120002.out 0;have hfz10_1:=Zr BK120002.out 1;have hfz10_2:=Zr BK120002.out 2;have hfz10_3:=Zr BK120002.out 3;have hfz10_4:=Zr BK120002.out 4))
 refine bodyPost_ret (results_cell_row rfl _ _ gb120002 90 #[.int .i64 a0_0,.int .i64 a0_1,.int .i64 a0_2,.int .i64 a0_3,.bool a0_4] (0,0) _ rfl (by(with_reducible repeat(first|refine Zp ?_ _|refine Zu ?_|refine Zo ?_ _));refine ZL (cs:=#[.int .i64 a0_0,.int .i64 a0_1,.int .i64 a0_2,.int .i64 a0_3,.bool false]) ?_ 4 _ rfl;(with_reducible repeat(first|refine Zp ?_ _|refine Zu ?_|refine Zo ?_ _));refine ZL (cs:=#[.int .i64 a0_0,.int .i64 a0_1,.int .i64 a0_2,.int .i64 0,.bool false]) ?_ 3 _ rfl;(with_reducible repeat(first|refine Zp ?_ _|refine Zu ?_|refine Zo ?_ _));refine ZL (cs:=#[.int .i64 a0_0,.int .i64 a0_1,.int .i64 0,.int .i64 0,.bool false]) ?_ 2 _ rfl;(with_reducible repeat(first|refine Zp ?_ _|refine Zu ?_|refine Zo ?_ _));refine ZL (cs:=#[.int .i64 a0_0,.int .i64 0,.int .i64 0,.int .i64 0,.bool false]) ?_ 1 _ rfl;(with_reducible repeat(first|refine Zp ?_ _|refine Zu ?_|refine Zo ?_ _));refine ZL (cs:=#[.int .i64 0,.int .i64 0,.int .i64 0,.int .i64 0,.bool false]) ?_ 0 _ rfl;(with_reducible repeat(first|refine Zp ?_ _|refine Zu ?_|refine Zo ?_ _));refine ZD ?_ NB120002_120003.out _;(with_reducible repeat(first|refine Zp ?_ _|refine Zu ?_|refine Zo ?_ _));refine ZD ?_ NB120002_120003.out _;(with_reducible repeat(first|refine Zp ?_ _|refine Zu ?_|refine Zo ?_ _));refine ZD ?_ NB120002_120003.out _;(with_reducible repeat(first|refine Zp ?_ _|refine Zu ?_|refine Zo ?_ _));refine ZD ?_ NB120002_120003.out _;(with_reducible repeat(first|refine Zp ?_ _|refine Zu ?_|refine Zo ?_ _));refine ZD ?_ NB120002_120003.out _;(with_reducible repeat(first|refine Zp ?_ _|refine Zu ?_|refine Zo ?_ _));exact BK120002.out) Try.underlying90 rfl (by kernel_rfl)) rfl ?_
 exact⟨by first|rfl|(simp[ZB,ZA] <;> rfl)|(simp[*,ZB,ZA] <;> rfl),by repeat(first|(with_reducible first|exact HB.out|apply Zn|apply Zm|apply Zt|refine Zq ?_ GE120001.out|refine Zq ?_ GE120002.out|refine Zq ?_ GE120003.out)|exact HB.out)⟩
def Zat.l0:Nat→List (S130)→List (S90)→Int→Option ((List (S90)))
 | 0,_,_,_=>none
 | k+1,x0,x3,x4=>if x4<(x0.length:Int) then(if 0≤x4 then((Zcg.f ((ZaV x0 x4).f0) ((ZaV x0 x4).f1) ((ZaV x0 x4).f2) ((ZaV x0 x4).f3) ((ZaV x0 x4).f4)).bind fun bt71005=>(if x4<(x3.length:Int) then(Zat.l0 k x0 (x3.set (x4:Int).toNat (⟨bt71005.1,bt71005.2.1,bt71005.2.2.1,bt71005.2.2.2.1,bt71005.2.2.2.2⟩:S90)) (wrap64 (x4+1))) else(none))) else(none)) else(some x3)
def Zat.f (k:Nat) (l0:List (S130)):Option ((List (S90))):=if 0≤(l0.length:Int) then(if ((l0.length:Int):Int).toNat≤7036874417766 then(Zat.l0 k l0 (List.replicate ((l0.length:Int):Int).toNat z90) 0) else(none)) else(none)
set_option maxHeartbeats 8000000 in
set_option maxRecDepth 100000 in
theorem Zat.calls (k:Nat) (A0:Option Addr) (c0:Nat) (l0:List (S130)) (r:List (S90)) (w:World) (hr0:Kd.C k130 w A0 l0.length l0) (hc0:l0.length≤c0) (h:Zat.f k l0=some r) :
  Calls Try.prog 71 #[.slice A0 l0.length c0] w fun e w'=>∃v0_:Value,e=.returned (v0_)∧Kd.R k90 90 w' w.heap.size (fun _=>True) v0_ r∧Below w.heap.size w w':=by
 have hu130:=Try.underlying130
 have hu90:=Try.underlying90
 have HR0:=Za hr0;have HC0:=Za hc0;clear hr0 hc0
 have HB:=Za (Below.refl w.heap.size w)
 have H:(if 0≤(l0.length:Int) then(if ((l0.length:Int):Int).toNat≤7036874417766 then(Zat.l0 k l0 (List.replicate ((l0.length:Int):Int).toNat z90) 0) else(none)) else(none))=some r:=h
 clear h
 by_cases c2:0≤(l0.length:Int)
 ·rw[if_pos c2] at H
  have c2b0:=eq_true c2
  have c2b1:decide (0≤(l0.length:Int))=true:=Ze c2
  clear c2
  by_cases c3:((l0.length:Int):Int).toNat≤7036874417766
  ·rw[if_pos c3] at H
   have c3b0:=eq_true c3
   have c3b1:decide (((l0.length:Int):Int).toNat≤7036874417766)=true:=Ze c3
   clear c3
   obtain⟨y71001,hy71001⟩:∃y_:List (S90),y_=(List.replicate ((l0.length:Int):Int).toNat z90):=⟨_,rfl⟩
   replace H:(Zat.l0 k l0 y71001 0)=some r:=by first|(rw[hy71001];with_reducible exact H)|(have H2_:=(Zi _ _).symm.trans H;rw[hy71001];with_reducible exact H2_)|(have H2_:=(Zi _ _).symm.trans H;with_reducible exact H2_)|with_reducible exact H|(rw[hy71001];exact H)|exact H
   have Ny71001:=Za hy71001;clear hy71001
   have H':=Za H
   clear H
   go_enter Try.func71,Try.ntmps71
   go_wp2_with (first|((with_reducible refine ZI (N:=7) rfl ?_);refine Kd.R_make k90 _ 90 rfl (N:=7) rfl 33 _ _ rfl (l0.length:Int) rfl rfl Try.underlying33 (.agg #[(.int .i64 0),(.int .i64 0),(.int .i64 0),(.int .i64 0),(.bool false)]) 40 info90 rfl (by decide) (by omega) z90 (ok:=fun _=>True) (okp:=fun _=>True) (Zcj _ _ _ z90 ) (fun _ hk=>hk) trivial (Zd (by first|(with_reducible assumption)|assumption)) (Nat.le_trans (Nat.mul_le_mul_right _ (Zd (by first|(with_reducible assumption)|assumption):(l0.length:Int).toNat≤7036874417766)) (by omega)) (Below.refl _ _) (Nat.le_refl _) ?_;intro v71002 w4 ho5 hb hg_ hnew_;clear hg_ hnew_;(first|rw[← Ny71001.out] at ho5|(simp only[Int.reduceToNat] at ho5;rw[← Ny71001.out] at ho5));have HO71003:=Za (Kd.R_lower ho5 (Zx (by repeat(first|(with_reducible first|exact HB.out|apply Zn|apply Zm|apply Zt)|exact HB.out))));replace HB:=Za (Zw (by repeat(first|(with_reducible first|exact HB.out|apply Zn|apply Zm|apply Zt)|exact HB.out)) hb);clear hb ho5))
   go_loopg [4] k (fun kq v4 w'=>∃(x3_1:List (S90)) (x4_1:Int),v4=.int .i64 x4_1∧Aside0 (Zat.l0 kq l0 x3_1 x4_1=some r)∧Aside0 (kq≤k)∧Aside0 (Kd.R k90 90 w' w.heap.size (fun _=>True) v71002 x3_1)∧Aside0 (Below w.heap.size w w'))
   case atStart=>exact⟨(y71001),(0),(by first|rfl|(simp;done)|(simp[*];done)),H',⟨Nat.le_refl _⟩,⟨by(with_reducible repeat(first|apply Kd.R_alloc|apply Kd.R_drewN|apply Kd.R_drew));exact HO71003.out⟩,⟨by repeat(first|(with_reducible first|exact HB.out|apply Zn|apply Zm|apply Zt)|exact HB.out)⟩⟩
   case round=>
    clear H'
    try clear c2
    try clear c2b0
    try clear c2b1
    try clear p2
    try clear c3
    try clear c3b0
    try clear c3b1
    obtain⟨x3_1,x4_1,rfl,HA,HK1,HO_3,HB⟩:=hrel
    cases gk with
    | zero=>exact absurd HA.out (by simp[Zat.l0])
    | succ k1=>
     have H:=HA.out
     clear HA
     simp only[Zat.l0] at H
     by_cases c6:x4_1<(l0.length:Int)
     ·rw[if_pos c6] at H
      have c6b0:decide (x4_1<(l0.length:Int))=true:=Ze c6
      clear c6
      by_cases c7:0≤x4_1
      ·rw[if_pos c7] at H
       have c7b0:decide (0≤x4_1)=true:=Ze c7
       clear c7
       replace H:=Zh H
       obtain⟨⟨t71005,t71006,t71007,t71008,t71009⟩,A80,H⟩:=H
       replace H:(if x4_1<(x3_1.length:Int) then(Zat.l0 k1 l0 (x3_1.set (x4_1:Int).toNat (⟨t71005,t71006,t71007,t71008,t71009⟩:S90)) (wrap64 (x4_1+1))) else(none))=some r:=H
       have A8:=Za A80;clear A80
       by_cases c9:x4_1<(x3_1.length:Int)
       ·rw[if_pos c9] at H
        have c9b0:decide (x4_1<(x3_1.length:Int))=true:=Ze c9
        clear c9
        obtain⟨y71010,hy71010⟩:∃y_:List (S90),y_=(x3_1.set (x4_1:Int).toNat (⟨t71005,t71006,t71007,t71008,t71009⟩:S90)):=⟨_,rfl⟩
        replace H:(Zat.l0 k1 l0 y71010 (wrap64 (x4_1+1)))=some r:=by first|(rw[hy71010];with_reducible exact H)|(have H2_:=(Zi _ _).symm.trans H;rw[hy71010];with_reducible exact H2_)|(have H2_:=(Zi _ _).symm.trans H;with_reducible exact H2_)|with_reducible exact H|(rw[hy71010];exact H)|exact H
        have Ny71010:=Za hy71010;clear hy71010
        have H':=Za H
        clear H
        have p71004:0≤(x4_1:Int):=Zd (by first|(with_reducible assumption)|assumption)
        have q71004:x4_1<(l0.length:Int):=Zd (by first|(with_reducible assumption)|assumption)
        obtain⟨ad71004,e71004,hx71004_0,hx71004_1,hx71004_2,hx71004_3,hx71004_4⟩:=at_T130 HR0.out x4_1 p71004 q71004
        cases e71004
        replace hx71004_0:=(HB.out.cell (Zc w _ hx71004_0)).trans hx71004_0
        replace hx71004_1:=(HB.out.cell (Zc w _ hx71004_1)).trans hx71004_1
        replace hx71004_2:=(HB.out.cell (Zc w _ hx71004_2)).trans hx71004_2
        replace hx71004_3:=(HB.out.cell (Zc w _ hx71004_3)).trans hx71004_3
        replace hx71004_4:=(HB.out.cell (Zc w _ hx71004_4)).trans hx71004_4
        replace p71004:=eq_true p71004
        replace q71004:=eq_true q71004
        go_wp2_with (first|((with_reducible refine ZG (f:=120) rfl ?_);refine ZQ (some 20) rfl rfl Try.func120 (by kernel_rfl) rfl #[.agg #[.int .i64 ((ZaV l0 x4_1).f0),.int .i64 ((ZaV l0 x4_1).f1),.int .i64 ((ZaV l0 x4_1).f2),.int .i64 ((ZaV l0 x4_1).f3),.bool ((ZaV l0 x4_1).f4)]] rfl (by(try simp only[List.map_toArray,List.map_cons,List.map_nil]);first|done|rfl|(simp only[Zk,Zj];rfl)) ?_;(with_reducible refine(Zcg.calls ((ZaV l0 x4_1).f0) ((ZaV l0 x4_1).f1) ((ZaV l0 x4_1).f2) ((ZaV l0 x4_1).f3) ((ZaV l0 x4_1).f4) t71005 t71006 t71007 t71008 t71009 _ A8.out).mono ?_);rintro e w11 ⟨rfl,hb⟩;refine⟨_,rfl,?_⟩;replace HO_3:=Za (Kd.R_below (by(with_reducible repeat(first|apply Kd.R_alloc|apply Kd.R_drewN|apply Kd.R_drew));exact HO_3.out) hb);replace HB:=Za (Zw (by repeat(first|(with_reducible first|exact HB.out|apply Zn|apply Zm|apply Zt)|exact HB.out)) hb);(try clear hb);(try clear hb2);(try clear hk);(try clear hi);have p10:0≤(x4_1:Int):=Zd (by first|(with_reducible assumption)|assumption);have q10:(x4_1:Int)<((x3_1.length:Int):Int):=Zd (by first|(with_reducible assumption)|assumption);obtain⟨go10,co10,eo10,gb10,gl10,cl10,HG10⟩:=Kd.R_form HO_3.out (by omega);(first|cases eo10|(injection eo10 with ea_ en_ ec_;(first|subst ea_|(injection ea_ with ea_;subst ea_));subst ec_;clear en_));have GB10:=Za gb10;have GG10:=Za HG10;clear gb10 gl10 HG10;obtain⟨ce10,hcl10,hM10,hcc10,hfr10⟩:=Kd.R_elem HO_3.out z90 (x4_1:Int) p10 q10;obtain rfl:=Zbi hM10;have hx10_0:w11.cell? ⟨go10,(x4_1:Int).toNat * 5,none⟩=some (.int .i64 ((Zv x3_1 x4_1).f0)):=hcc10 0 _ rfl;have hx10_1:w11.cell? ⟨go10,(x4_1:Int).toNat * 5+1,none⟩=some (.int .i64 ((Zv x3_1 x4_1).f1)):=hcc10 1 _ rfl;have hx10_2:w11.cell? ⟨go10,(x4_1:Int).toNat * 5+2,none⟩=some (.int .i64 ((Zv x3_1 x4_1).f2)):=hcc10 2 _ rfl;have hx10_3:w11.cell? ⟨go10,(x4_1:Int).toNat * 5+3,none⟩=some (.int .i64 ((Zv x3_1 x4_1).f3)):=hcc10 3 _ rfl;have hx10_4:w11.cell? ⟨go10,(x4_1:Int).toNat * 5+4,none⟩=some (.bool ((Zv x3_1 x4_1).f4)):=hcc10 4 _ rfl;have hf10_0:w11.frozen? ⟨go10,(x4_1:Int).toNat * 5,none⟩=false:=hfr10 0;have hf10_1:w11.frozen? ⟨go10,(x4_1:Int).toNat * 5+1,none⟩=false:=hfr10 1;have hf10_2:w11.frozen? ⟨go10,(x4_1:Int).toNat * 5+2,none⟩=false:=hfr10 2;have hf10_3:w11.frozen? ⟨go10,(x4_1:Int).toNat * 5+3,none⟩=false:=hfr10 3;have hf10_4:w11.frozen? ⟨go10,(x4_1:Int).toNat * 5+4,none⟩=false:=hfr10 4;clear hcl10 hcc10 hfr10 hM10;replace p10:=eq_true p10;replace q10:=eq_true q10;have HX12:=Za (show Kd.R k90 90 w11 w.heap.size (fun _=>True) (.slice (some ⟨go10,0,none⟩) x3_1.length co10) x3_1 from(by(with_reducible repeat(first|apply Kd.R_alloc|apply Kd.R_drewN|apply Kd.R_drew));exact HO_3.out));obtain⟨ce12,hcl12,hM12,hcc12,hfr12⟩:=Kd.R_elem HX12.out z90 (x4_1:Int) (Zd (by first|(with_reducible assumption)|assumption)) (by have h_:(x4_1:Int)<((x3_1.length:Int):Int):=Zd (by first|(with_reducible assumption)|assumption);first|exact h_|(have e_:=(Kd.R_reads' HO_3.out).1;omega)|simpa using h_);obtain rfl:=Zbi hM12;have HP12:=Kd.R_seg HX12.out (x4_1:Int) (Zd (by first|(with_reducible assumption)|assumption)) (by have h_:(x4_1:Int)<((x3_1.length:Int):Int):=Zd (by first|(with_reducible assumption)|assumption);first|exact h_|(have e_:=(Kd.R_reads' HO_3.out).1;omega)|simpa using h_) (seg:=[.int .i64 t71005,.int .i64 t71006,.int .i64 t71007,.int .i64 t71008,.bool t71009]) (j:=0) hcl12 hcc12 (show 5≤5 from by decide) (x':=(⟨t71005,t71006,t71007,t71008,t71009⟩:S90)) (Zcj _ _ _ (⟨t71005,t71006,t71007,t71008,t71009⟩:S90) ) (fun _ hk=>hk);have hx12_0:=hcc12 0 _ rfl;(try simp only[show(k90).sz=5 from rfl,Nat.mul_one,Nat.add_zero] at hx12_0);have hf12_0:=hfr12 0;(try simp only[show(k90).sz=5 from rfl,Nat.mul_one,Nat.add_zero] at hf12_0);have hx12_1:=hcc12 1 _ rfl;(try simp only[show(k90).sz=5 from rfl,Nat.mul_one,Nat.add_zero] at hx12_1);have hf12_1:=hfr12 1;(try simp only[show(k90).sz=5 from rfl,Nat.mul_one,Nat.add_zero] at hf12_1);have hx12_2:=hcc12 2 _ rfl;(try simp only[show(k90).sz=5 from rfl,Nat.mul_one,Nat.add_zero] at hx12_2);have hf12_2:=hfr12 2;(try simp only[show(k90).sz=5 from rfl,Nat.mul_one,Nat.add_zero] at hf12_2);have hx12_3:=hcc12 3 _ rfl;(try simp only[show(k90).sz=5 from rfl,Nat.mul_one,Nat.add_zero] at hx12_3);have hf12_3:=hfr12 3;(try simp only[show(k90).sz=5 from rfl,Nat.mul_one,Nat.add_zero] at hf12_3);have hx12_4:=hcc12 4 _ rfl;(try simp only[show(k90).sz=5 from rfl,Nat.mul_one,Nat.add_zero] at hx12_4);have hf12_4:=hfr12 4;(try simp only[show(k90).sz=5 from rfl,Nat.mul_one,Nat.add_zero] at hf12_4);clear hcl12 hcc12 hfr12 hM12)|((with_reducible refine Zbv (t:=90) (p:=21) rfl ?_);refine Zbl (t:=90) (p:=21) (v:=?vo_w13) (w1:=(((((w11.setCell ⟨go10,(x4_1:Int).toNat * 5,none⟩ (.int .i64 t71005)).setCell ⟨go10,(x4_1:Int).toNat * 5+1,none⟩ (.int .i64 t71006)).setCell ⟨go10,(x4_1:Int).toNat * 5+2,none⟩ (.int .i64 t71007)).setCell ⟨go10,(x4_1:Int).toNat * 5+3,none⟩ (.int .i64 t71008)).setCell ⟨go10,(x4_1:Int).toNat * 5+4,none⟩ (.bool t71009))) ?hg ?ho ?hn ?hr ?_;(case ho=>rfl);(case hg=>rfl);(case hn=>rfl);(case hr=>first|(go_simp;done)|(go_simp;rfl));intro w13 hw;have hg:w11.grownBy w13 (some go10):=(by rw[hw];exact HP12.2);have hp_:Kd.R k90 90 w13 w.heap.size (fun _=>True) (.slice (some ⟨go10,0,none⟩) x3_1.length co10) y71010:=(by rw[hw,Ny71010.out];exact HP12.1);clear HP12;replace HO_3:=Za (hp_);replace HB:=Za ((by rw[hw];exact Zq (Zq (Zq (Zq (Zq (HB.out) GB10.out) GB10.out) GB10.out) GB10.out) GB10.out:Below w.heap.size w w13));clear hg hw hp_))
        go_roundg k1
        case measure=>have:=HK1.out;omega
        case rel=>exact⟨(y71010),(wrap64 (x4_1+1)),(by first|rfl|(simp;done)|(simp[*];done)),H',⟨by have:=HK1.out;omega⟩,⟨by(with_reducible repeat(first|apply Kd.R_alloc|apply Kd.R_drewN|apply Kd.R_drew));exact HO_3.out⟩,⟨by repeat(first|(with_reducible first|exact HB.out|apply Zn|apply Zm|apply Zt)|exact HB.out)⟩⟩
       ·rw[if_neg c9] at H
        exact absurd H (by simp)
      ·rw[if_neg c7] at H
       exact absurd H (by simp)
     ·rw[if_neg c6] at H
      have c6b0:decide (x4_1<(l0.length:Int))=false:=Zf c6
      clear c6
      obtain rfl:=Zg H
      go_wp2
      go_ret
      exact⟨_,by first|rfl|(simp[ZB,ZA] <;> rfl)|(simp[*,ZB,ZA] <;> rfl),by(with_reducible repeat(first|apply Kd.R_alloc|apply Kd.R_drewN|apply Kd.R_drew));exact HO_3.out,by repeat(first|(with_reducible first|exact HB.out|apply Zn|apply Zm|apply Zt)|exact HB.out)⟩
  ·rw[if_neg c3] at H
   exact absurd H (by simp)
 ·rw[if_neg c2] at H
  exact absurd H (by simp)
def ZaQ.f (k:Nat) (l0_0:List (S127)) (l0_1:List (S130)) (a0_2:Int):Option ((List (S116))×(List (S90))×Int):=(Zao.f k l0_0).bind fun t18004=>((Zat.f k l0_1).bind fun t18007=>(some (t18004,t18007,a0_2)))
set_option maxHeartbeats 8000000 in
set_option maxRecDepth 100000 in
theorem ZaQ.calls (k:Nat) (A0_0:Option Addr) (c0_0:Nat) (l0_0:List (S127)) (A0_1:Option Addr) (c0_1:Nat) (l0_1:List (S130)) (a0_2:Int) (r1:List (S116)) (r2:List (S90)) (r3:Int) (w:World) (hr0_0:Kd.C k127 w A0_0 l0_0.length l0_0) (hc0_0:l0_0.length≤c0_0) (hr0_1:Kd.C k130 w A0_1 l0_1.length l0_1) (hc0_1:l0_1.length≤c0_1) (h:ZaQ.f k l0_0 l0_1 a0_2=some (r1,r2,r3)) :
  Calls Try.prog 18 #[.agg #[.slice A0_0 l0_0.length c0_0,.slice A0_1 l0_1.length c0_1,.int .i64 a0_2]] w fun e w'=>∃v0_ v1_:Value,e=.returned (.agg #[v0_,v1_,.int .i64 r3])∧Kd.S k116 116 w' w.heap.size (fun _=>True) v0_ r1∧Kd.R k90 90 w' w.heap.size (fun _=>True) v1_ r2∧Below w.heap.size w w':=by
 have hu25:=Try.underlying25
 have hu35:=Try.underlying35
 have HR0_0:=Za hr0_0;have HC0_0:=Za hc0_0;clear hr0_0 hc0_0;have HR0_1:=Za hr0_1;have HC0_1:=Za hc0_1;clear hr0_1 hc0_1
 have HB:=Za (Below.refl w.heap.size w)
 have H:((Zao.f k l0_0).bind fun t18004=>((Zat.f k l0_1).bind fun t18007=>(some (t18004,t18007,a0_2))))=some (r1,r2,r3):=h
 clear h
 replace H:=Zh H
 obtain⟨t18004,A20,H⟩:=H
 replace H:((Zat.f k l0_1).bind fun t18007=>(some (t18004,t18007,a0_2)))=some (r1,r2,r3):=H
 have A2:=Za A20;clear A20
 replace H:=Zh H
 obtain⟨t18007,A30,H⟩:=H
 replace H:(some (t18004,t18007,a0_2))=some (r1,r2,r3):=H
 have A3:=Za A30;clear A30
 simp only[Option.some.injEq,Prod.mk.injEq] at H
 obtain⟨rfl,rfl,rfl⟩:=H
 go_enter Try.func18,Try.ntmps18
 go_wp2_with (first|((with_reducible refine ZI (N:=1) rfl ?_);refine ZH ?hg (N:=1) ?hd (cs:=#[.slice A0_0 l0_0.length c0_0,.slice A0_1 l0_1.length c0_1,.int .i64 a0_2]) (t:=25) ?hr ?_;(case hd=>rfl);(case hg=>rfl);(case hr=>first|(go_simp;done)|(go_simp;rfl));intro gb18001 hg w4 hbox hb;have BK18001:=Za (hbox);have GW18001:=Za ((by rw[hg];exact(Zx (by repeat(first|(with_reducible first|exact HB.out|apply Zn|apply Zm|apply Zt)|exact HB.out))):w.heap.size≤gb18001));have GE18001:=Za ((by rw[hg];exact(Zx (by repeat(first|(with_reducible first|exact HB.out|apply Zn|apply Zm|apply Zt)|exact HB.out))):w.heap.size≤gb18001));replace HB:=Za (Zw (by repeat(first|(with_reducible first|exact HB.out|apply Zn|apply Zm|apply Zt)|exact HB.out)) hb);clear hb hbox hg)|((with_reducible refine ZI (N:=2) rfl ?_);refine ZH ?hg (N:=2) ?hd (cs:=#[.slice none 0 0,.slice none 0 0,.int .i64 0]) (t:=35) ?hr ?_;(case hd=>rfl);(case hg=>rfl);(case hr=>first|(go_simp;done)|(go_simp;rfl));intro gb18002 hg w5 hbox hb;have n0_:=Za (Zy (g:=gb18001) (o:=.cells #[.slice A0_0 l0_0.length c0_0,.slice A0_1 l0_1.length c0_1,.int .i64 a0_2] 25 (0,0)) BK18001.out hb);have n1_:=Za (Zw (by repeat(first|(with_reducible first|exact HB.out|apply Zn|apply Zm|apply Zt|refine Zq ?_ GE18001.out)|exact HB.out)) hb);have n2_:=Za (hbox);have n3_:=Za ((by rw[hg];exact(Zx (by repeat(first|(with_reducible first|exact HB.out|apply Zn|apply Zm|apply Zt|refine Zq ?_ GE18001.out)|exact HB.out))):w.heap.size≤gb18002));have n4_:=n3_;have n5_:=Za ((by rw[hg];exact Nat.ne_of_lt (ZO BK18001.out):gb18001≠gb18002));have n6_:=Za n5_.out.symm;clear BK18001;clear HB;have BK18001:=n0_;have HB:=n1_;have BK18002:=n2_;have GW18002:=n3_;have GE18002:=n4_;have NB18001_18002:=n5_;have NB18002_18001:=n6_;clear n0_ n1_ n2_ n3_ n4_ n5_ n6_;clear hb hbox hg)|((with_reducible refine ZI (N:=3) rfl ?_);refine ZH ?hg (N:=3) ?hd (cs:=#[.slice none 0 0,.slice none 0 0,.int .i64 0]) (t:=35) ?hr ?_;(case hd=>rfl);(case hg=>rfl);(case hr=>first|(go_simp;done)|(go_simp;rfl));intro gb18003 hg w6 hbox hb;have n0_:=Za (Zy (g:=gb18001) (o:=.cells #[.slice A0_0 l0_0.length c0_0,.slice A0_1 l0_1.length c0_1,.int .i64 a0_2] 25 (0,0)) BK18001.out hb);have n1_:=Za (Zy (g:=gb18002) (o:=.cells #[.slice none 0 0,.slice none 0 0,.int .i64 0] 35 (0,0)) BK18002.out hb);have n2_:=Za (Zw (by repeat(first|(with_reducible first|exact HB.out|apply Zn|apply Zm|apply Zt|refine Zq ?_ GE18001.out|refine Zq ?_ GE18002.out)|exact HB.out)) hb);have n3_:=Za (hbox);have n4_:=Za ((by rw[hg];exact(Zx (by repeat(first|(with_reducible first|exact HB.out|apply Zn|apply Zm|apply Zt|refine Zq ?_ GE18001.out|refine Zq ?_ GE18002.out)|exact HB.out))):w.heap.size≤gb18003));have n5_:=n4_;have n6_:=Za ((by rw[hg];exact Nat.ne_of_lt (ZO BK18001.out):gb18001≠gb18003));have n7_:=Za n6_.out.symm;have n8_:=Za ((by rw[hg];exact Nat.ne_of_lt (ZO BK18002.out):gb18002≠gb18003));have n9_:=Za n8_.out.symm;clear BK18001;clear BK18002;clear HB;have BK18001:=n0_;have BK18002:=n1_;have HB:=n2_;have BK18003:=n3_;have GW18003:=n4_;have GE18003:=n5_;have NB18001_18003:=n6_;have NB18003_18001:=n7_;have NB18002_18003:=n8_;have NB18003_18002:=n9_;clear n0_ n1_ n2_ n3_ n4_ n5_ n6_ n7_ n8_ n9_;clear hb hbox hg;have hnb7:=NB18001_18002.out;have hnc7:=NB18002_18001.out;have hnb8:=NB18001_18003.out;have hnc8:=NB18003_18001.out;have hcz9_0:w6.cell? ⟨gb18001,0,none⟩=some (.slice A0_0 l0_0.length c0_0):=(Zs BK18001.out 0).trans rfl;have hcz9_1:w6.cell? ⟨gb18001,1,none⟩=some (.slice A0_1 l0_1.length c0_1):=(Zs BK18001.out 1).trans rfl;have hcz9_2:w6.cell? ⟨gb18001,2,none⟩=some (.int .i64 a0_2):=(Zs BK18001.out 2).trans rfl;have hfz9_0:=Zr BK18001.out 0;have hfz9_1:=Zr BK18001.out 1;have hfz9_2:=Zr BK18001.out 2)|((with_reducible refine ZG (f:=70) rfl ?_);refine ZQ (some 6) rfl rfl Try.func70 (by kernel_rfl) rfl #[.slice A0_0 l0_0.length c0_0] rfl (by(try simp only[List.map_toArray,List.map_cons,List.map_nil]);first|done|rfl|(simp only[Zk,Zj];rfl)) ?_;(with_reducible refine(Zao.calls k _ _ l0_0 t18004 _ ?side1 ?side2 A2.out).mono ?_);(case side1=>repeat(first|exact(Zb HR0_0.out HB.out)|(with_reducible refine Kd.C_alloc ?_ _)|(with_reducible refine Kd.C_drewN ?_ _)|(with_reducible refine Kd.C_drew ?_)));(case side2=>exact HC0_0.out);rintro e w10 ⟨v18005,rfl,ho0,hb⟩;refine⟨_,rfl,?_⟩;have HO18006:=Za (Kd.S_lower ho0 (Zx (by repeat(first|(with_reducible first|exact HB.out|apply Zn|apply Zm|apply Zt|refine Zq ?_ GE18001.out|refine Zq ?_ GE18002.out|refine Zq ?_ GE18003.out)|exact HB.out))));replace BK18001:=Za (Zy (g:=gb18001) (o:=.cells #[.slice A0_0 l0_0.length c0_0,.slice A0_1 l0_1.length c0_1,.int .i64 a0_2] 25 (0,0)) BK18001.out hb);replace BK18002:=Za (Zy (g:=gb18002) (o:=.cells #[.slice none 0 0,.slice none 0 0,.int .i64 0] 35 (0,0)) BK18002.out hb);replace BK18003:=Za (Zy (g:=gb18003) (o:=.cells #[.slice none 0 0,.slice none 0 0,.int .i64 0] 35 (0,0)) BK18003.out hb);replace HB:=Za (Zw (by repeat(first|(with_reducible first|exact HB.out|apply Zn|apply Zm|apply Zt|refine Zq ?_ GE18001.out|refine Zq ?_ GE18002.out|refine Zq ?_ GE18003.out)|exact HB.out)) hb);(try clear hb);(try clear hb2);(try clear hk);(try clear hi);(try clear ho0);obtain⟨Ao11,co11,eo11⟩:=Kd.S_slice HO18006.out;subst eo11;have hnb12:=NB18003_18002.out;have hnc12:=NB18002_18003.out;have hcz13_0:w10.cell? ⟨gb18003,0,none⟩=some (.slice none 0 0):=(Zs BK18003.out 0).trans rfl;have hcz13_1:w10.cell? ⟨gb18003,1,none⟩=some (.slice none 0 0):=(Zs BK18003.out 1).trans rfl;have hcz13_2:w10.cell? ⟨gb18003,2,none⟩=some (.int .i64 0):=(Zs BK18003.out 2).trans rfl;have hfz13_0:=Zr BK18003.out 0;have hfz13_1:=Zr BK18003.out 1;have hfz13_2:=Zr BK18003.out 2;have hcz14_0:w10.cell? ⟨gb18001,0,none⟩=some (.slice A0_0 l0_0.length c0_0):=(Zs BK18001.out 0).trans rfl;have hcz14_1:w10.cell? ⟨gb18001,1,none⟩=some (.slice A0_1 l0_1.length c0_1):=(Zs BK18001.out 1).trans rfl;have hcz14_2:w10.cell? ⟨gb18001,2,none⟩=some (.int .i64 a0_2):=(Zs BK18001.out 2).trans rfl;have hfz14_0:=Zr BK18001.out 0;have hfz14_1:=Zr BK18001.out 1;have hfz14_2:=Zr BK18001.out 2)|((with_reducible refine ZG (f:=71) rfl ?_);refine ZQ (some 10) rfl rfl Try.func71 (by kernel_rfl) rfl #[.slice A0_1 l0_1.length c0_1] rfl (by(try simp only[List.map_toArray,List.map_cons,List.map_nil]);first|done|rfl|(simp only[Zk,Zj];rfl)) ?_;(with_reducible refine(Zat.calls k _ _ l0_1 t18007 _ ?side1 ?side2 A3.out).mono ?_);(case side1=>exact Zb HR0_1.out (by repeat(first|(with_reducible first|exact HB.out|apply Zn|apply Zm|apply Zt|refine Zq ?_ GE18001.out|refine Zq ?_ GE18002.out|refine Zq ?_ GE18003.out)|exact HB.out)));(case side2=>exact HC0_1.out);rintro e w15 ⟨v18008,rfl,ho0,hb⟩;refine⟨_,rfl,?_⟩;have HO18009:=Za (Kd.R_lower ho0 (Zx (by repeat(first|(with_reducible first|exact HB.out|apply Zn|apply Zm|apply Zt|refine Zq ?_ GE18001.out|refine Zq ?_ GE18002.out|refine Zq ?_ GE18003.out)|exact HB.out))));replace HO18006:=Za (Kd.S_below (by(with_reducible repeat(first|apply Kd.S_alloc|apply Kd.S_drewN|apply Kd.S_drew));exact(Kd.S_mono (Kd.S_far (p:=⟨gb18003,0,none⟩) (Kd.S_types HO18006.out BK18003.out (by decide)) (fun _ hk=>hk.2) (.slice Ao11 t18004.length co11)) (fun _ h_=>h_.1))) hb);replace BK18001:=Za (Zy (g:=gb18001) (o:=.cells #[.slice A0_0 l0_0.length c0_0,.slice A0_1 l0_1.length c0_1,.int .i64 a0_2] 25 (0,0)) (by(with_reducible repeat(first|refine Zp ?_ _|refine Zu ?_|refine Zo ?_ _));refine ZD ?_ NB18001_18003.out _;(with_reducible repeat(first|refine Zp ?_ _|refine Zu ?_|refine Zo ?_ _));exact BK18001.out) hb);replace BK18002:=Za (Zy (g:=gb18002) (o:=.cells #[.slice none 0 0,.slice none 0 0,.int .i64 0] 35 (0,0)) (by(with_reducible repeat(first|refine Zp ?_ _|refine Zu ?_|refine Zo ?_ _));refine ZD ?_ NB18002_18003.out _;(with_reducible repeat(first|refine Zp ?_ _|refine Zu ?_|refine Zo ?_ _));exact BK18002.out) hb);replace BK18003:=Za (Zy (g:=gb18003) (o:=.cells #[.slice Ao11 t18004.length co11,.slice none 0 0,.int .i64 0] 35 (0,0)) (by(with_reducible repeat(first|refine Zp ?_ _|refine Zu ?_|refine Zo ?_ _));refine ZL (cs:=#[.slice none 0 0,.slice none 0 0,.int .i64 0]) ?_ 0 _ rfl;(with_reducible repeat(first|refine Zp ?_ _|refine Zu ?_|refine Zo ?_ _));exact BK18003.out) hb);replace HB:=Za (Zw (by repeat(first|(with_reducible first|exact HB.out|apply Zn|apply Zm|apply Zt|refine Zq ?_ GE18001.out|refine Zq ?_ GE18002.out|refine Zq ?_ GE18003.out)|exact HB.out)) hb);(try clear hb);(try clear hb2);(try clear hk);(try clear hi);(try clear ho0);obtain⟨Ao16,co16,eo16⟩:=Kd.R_slice HO18009.out;subst eo16;have hcz17_0:w15.cell? ⟨gb18003,0,none⟩=some (.slice Ao11 t18004.length co11):=(Zs BK18003.out 0).trans rfl;have hcz17_1:w15.cell? ⟨gb18003,1,none⟩=some (.slice none 0 0):=(Zs BK18003.out 1).trans rfl;have hcz17_2:w15.cell? ⟨gb18003,2,none⟩=some (.int .i64 0):=(Zs BK18003.out 2).trans rfl;have hfz17_0:=Zr BK18003.out 0;have hfz17_1:=Zr BK18003.out 1;have hfz17_2:=Zr BK18003.out 2;have hcz18_0:w15.cell? ⟨gb18001,0,none⟩=some (.slice A0_0 l0_0.length c0_0):=(Zs BK18001.out 0).trans rfl;have hcz18_1:w15.cell? ⟨gb18001,1,none⟩=some (.slice A0_1 l0_1.length c0_1):=(Zs BK18001.out 1).trans rfl;have hcz18_2:w15.cell? ⟨gb18001,2,none⟩=some (.int .i64 a0_2):=(Zs BK18001.out 2).trans rfl;have hfz18_0:=Zr BK18001.out 0;have hfz18_1:=Zr BK18001.out 1;have hfz18_2:=Zr BK18001.out 2;have hcz19_0:w15.cell? ⟨gb18002,0,none⟩=some (.slice none 0 0):=(Zs BK18002.out 0).trans rfl;have hcz19_1:w15.cell? ⟨gb18002,1,none⟩=some (.slice none 0 0):=(Zs BK18002.out 1).trans rfl;have hcz19_2:w15.cell? ⟨gb18002,2,none⟩=some (.int .i64 0):=(Zs BK18002.out 2).trans rfl;have hfz19_0:=Zr BK18002.out 0;have hfz19_1:=Zr BK18002.out 1;have hfz19_2:=Zr BK18002.out 2))
 refine bodyPost_ret (results_cell_row rfl _ _ gb18002 35 #[.slice Ao11 t18004.length co11,.slice Ao16 t18007.length co16,.int .i64 a0_2] (0,0) _ rfl (by(with_reducible repeat(first|refine Zp ?_ _|refine Zu ?_|refine Zo ?_ _));refine ZL (cs:=#[.slice Ao11 t18004.length co11,.slice Ao16 t18007.length co16,.int .i64 0]) ?_ 2 _ rfl;(with_reducible repeat(first|refine Zp ?_ _|refine Zu ?_|refine Zo ?_ _));refine ZL (cs:=#[.slice Ao11 t18004.length co11,.slice none 0 0,.int .i64 0]) ?_ 1 _ rfl;(with_reducible repeat(first|refine Zp ?_ _|refine Zu ?_|refine Zo ?_ _));refine ZL (cs:=#[.slice none 0 0,.slice none 0 0,.int .i64 0]) ?_ 0 _ rfl;(with_reducible repeat(first|refine Zp ?_ _|refine Zu ?_|refine Zo ?_ _));refine ZD ?_ NB18002_18003.out _;(with_reducible repeat(first|refine Zp ?_ _|refine Zu ?_|refine Zo ?_ _));refine ZD ?_ NB18002_18003.out _;(with_reducible repeat(first|refine Zp ?_ _|refine Zu ?_|refine Zo ?_ _));exact BK18002.out) Try.underlying35 rfl (by kernel_rfl)) rfl ?_
 exact⟨_,_,by first|rfl|(simp[ZB,ZA] <;> rfl)|(simp[*,ZB,ZA] <;> rfl),by(with_reducible repeat(first|apply Kd.S_alloc|apply Kd.S_drewN|apply Kd.S_drew));exact Kd.S_mono (Kd.S_far (p:=⟨gb18002,2,none⟩) (Kd.S_far (p:=⟨gb18002,1,none⟩) (Kd.S_far (p:=⟨gb18002,0,none⟩) (Kd.S_far (p:=⟨gb18003,2,none⟩) (Kd.S_far (p:=⟨gb18003,1,none⟩) (Kd.S_types (Kd.S_types HO18006.out BK18003.out (by decide)) BK18002.out (by decide)) (fun _ hk=>hk.1.2) (.slice Ao16 t18007.length co16)) (fun _ hk=>hk.1.2) (.int .i64 a0_2)) (fun _ hk=>hk.2) (.slice Ao11 t18004.length co11)) (fun _ hk=>hk.2) (.slice Ao16 t18007.length co16)) (fun _ hk=>hk.2) (.int .i64 a0_2)) (fun _ hk=>trivial),by(with_reducible repeat(first|apply Kd.R_alloc|apply Kd.R_drewN|apply Kd.R_drew));exact Kd.R_mono (Kd.R_far (p:=⟨gb18002,2,none⟩) (Kd.R_far (p:=⟨gb18002,1,none⟩) (Kd.R_far (p:=⟨gb18002,0,none⟩) (Kd.R_far (p:=⟨gb18003,2,none⟩) (Kd.R_far (p:=⟨gb18003,1,none⟩) (Kd.R_types (Kd.R_types HO18009.out BK18003.out (by decide)) BK18002.out (by decide)) (fun _ hk=>hk.1.2) (.slice Ao16 t18007.length co16)) (fun _ hk=>hk.1.2) (.int .i64 a0_2)) (fun _ hk=>hk.2) (.slice Ao11 t18004.length co11)) (fun _ hk=>hk.2) (.slice Ao16 t18007.length co16)) (fun _ hk=>hk.2) (.int .i64 a0_2)) (fun _ hk=>trivial),by repeat(first|(with_reducible first|exact HB.out|apply Zn|apply Zm|apply Zt|refine Zq ?_ GE18001.out|refine Zq ?_ GE18002.out|refine Zq ?_ GE18003.out)|exact HB.out)⟩
theorem ZaQ.c (k:Nat) (A0_0:Option Addr) (c0_0:Nat) (l0_0:List (S127)) (A0_1:Option Addr) (c0_1:Nat) (l0_1:List (S130)) (a0_2:Int) (r1:List (S116)) (r2:List (S90)) (r3:Int) (w:World) (hr0_0:Kd.C k127 w A0_0 l0_0.length l0_0) (hc0_0:l0_0.length≤c0_0) (hr0_1:Kd.C k130 w A0_1 l0_1.length l0_1) (hc0_1:l0_1.length≤c0_1) (h:ZaQ.f k l0_0 l0_1 a0_2=some (r1,r2,r3)) :
  Calls Try.prog 18 #[.agg #[.slice A0_0 l0_0.length c0_0,.slice A0_1 l0_1.length c0_1,.int .i64 a0_2]] w fun e w'=>∃A0_ c0_ A1_ c1_,e=.returned (.agg #[.slice A0_ r1.length c0_,.slice A1_ r2.length c1_,.int .i64 r3])∧Aside0 (r1.length≤c0_∧Kd.C k116 w' A0_ r1.length r1)∧Aside0 (r2.length≤c1_∧Kd.C k90 w' A1_ r2.length r2)∧Below w.heap.size w w':=
 (ZaQ.calls k A0_0 c0_0 l0_0 A0_1 c0_1 l0_1 a0_2 r1 r2 r3 w hr0_0 hc0_0 hr0_1 hc0_1 h).mono fun e w' ⟨v0_,v1_,he,q0_,q1_,hb⟩=>by
  obtain⟨A0_,c0_,rfl,g0_⟩:=Kd.S_reads q0_
  obtain⟨A1_,c1_,rfl,g1_⟩:=Kd.R_reads q1_
  exact⟨A0_,c0_,A1_,c1_,he,⟨g0_⟩,⟨g1_⟩,hb⟩
def ZW.f (a0:Int) (a1:Int) (a2:Int):Option (Bool):=if a0≥a1 then(some (decide (a0≤a2))) else(some false)
set_option maxHeartbeats 8000000 in
set_option maxRecDepth 100000 in
theorem ZW.calls (a0:Int) (a1:Int) (a2:Int) (r:Bool) (w:World) (h:ZW.f a0 a1 a2=some r) :
  Calls Try.prog 68 #[.int .i64 a0,.int .i64 a1,.int .i64 a2] w fun e w'=>e=.returned (.bool r)∧ZE w w':=by
 have H:(if a0≥a1 then(some (decide (a0≤a2))) else(some false))=some r:=h
 clear h
 by_cases c4:a0≥a1
 ·rw[if_pos c4] at H
  have c4b0:decide (a1≤a0)=true:=Ze c4
  clear c4
  obtain rfl:=Zg H
  go_enter Try.func68,Try.ntmps68
  go_wp2
  go_ret
  exact⟨by first|rfl|(simp;done)|(simp[*];done),by repeat(first|exact ZE.refl _|apply ZE.step)⟩
 ·rw[if_neg c4] at H
  have c4b0:decide (a1≤a0)=false:=Zf c4
  clear c4
  obtain rfl:=Zg H
  go_enter Try.func68,Try.ntmps68
  go_wp2
  go_ret
  exact⟨by first|rfl|(simp;done)|(simp[*];done),by repeat(first|exact ZE.refl _|apply ZE.step)⟩
def Zas.l0:Nat→ByteArray→Int→Option (Bool)
 | 0,_,_=>none
 | k+1,x0,x3=>if x3<(x0.size:Int) then(if 0≤x3 then(if (bt x0 x3)≥97 then(if ((bt x0 x3)≤122) then(Zas.l0 k x0 (wrap64 (x3+1))) else(if x3=0 then(some false) else(if (bt x0 x3)<48 then(some false) else(if (bt x0 x3) > 57 then(some false) else(Zas.l0 k x0 (wrap64 (x3+1))))))) else(if x3=0 then(some false) else(if (bt x0 x3)<48 then(some false) else(if (bt x0 x3) > 57 then(some false) else(Zas.l0 k x0 (wrap64 (x3+1))))))) else(none)) else((ZW.f (x0.size:Int) 1 8).bind fun t173001=>(some t173001))
def Zas.f (k:Nat) (a0:ByteArray):Option (Bool):=Zas.l0 k a0 0
set_option maxHeartbeats 8000000 in
set_option maxRecDepth 100000 in
theorem Zas.calls (k:Nat) (a0:ByteArray) (r:Bool) (w:World) (h:Zas.f k a0=some r) :
  Calls Try.prog 173 #[.string a0] w fun e w'=>e=.returned (.bool r)∧ZE w w':=by
 have H:(Zas.l0 k a0 0)=some r:=h
 clear h
 have H':=Za H
 clear H
 go_enter Try.func173,Try.ntmps173
 go_wp2
 go_loopg [3] k (fun kq v3 w'=>∃(x3_1:Int),v3=.int .i64 x3_1∧Aside0 (Zas.l0 kq a0 x3_1=some r)∧Aside0 (kq≤k)∧ZE w w')
 case atStart=>exact⟨(0),(by first|rfl|(simp;done)|(simp[*];done)),H',⟨Nat.le_refl _⟩,by repeat(first|exact ZE.refl _|apply ZE.step)⟩
 case round=>
  clear H'
  try clear c1
  obtain⟨x3_1,rfl,HA,HK1,⟨m1,rfl⟩⟩:=hrel
  cases gk with
  | zero=>exact absurd HA.out (by simp[Zas.l0])
  | succ k1=>
   have H:=HA.out
   clear HA
   simp only[Zas.l0] at H
   by_cases c2:x3_1<(a0.size:Int)
   ·rw[if_pos c2] at H
    have c2b0:decide (x3_1<(a0.size:Int))=true:=Ze c2
    clear c2
    by_cases c3:0≤x3_1
    ·rw[if_pos c3] at H
     have c3b0:decide (0≤x3_1)=true:=Ze c3
     clear c3
     by_cases c5:(bt a0 x3_1)≥97
     ·rw[if_pos c5] at H
      have c5b0:decide (97≤(bt a0 x3_1))=true:=Ze c5
      clear c5
      by_cases c7:((bt a0 x3_1)≤122)
      ·rw[if_pos c7] at H
       have c7b0:decide ((bt a0 x3_1)≤122)=true:=Ze c7
       clear c7
       have H':=Za H
       clear H
       have p4:0≤(x3_1:Int):=Zd (by with_reducible assumption)
       have q4:x3_1<(a0.size:Int):=Zd (by with_reducible assumption)
       have hx4:=Zad a0 x3_1
       replace p4:=eq_true p4
       replace q4:=eq_true q4
       have p6:0≤(x3_1:Int):=Zd (by with_reducible assumption)
       have q6:x3_1<(a0.size:Int):=Zd (by with_reducible assumption)
       have hx6:=Zad a0 x3_1
       replace p6:=eq_true p6
       replace q6:=eq_true q6
       go_wp2
       go_roundg k1
       case measure=>have:=HK1.out;omega
       case rel=>exact⟨(wrap64 (x3_1+1)),(by first|rfl|(simp;done)|(simp[*];done)),H',⟨by have:=HK1.out;omega⟩,by repeat(first|exact ZE.refl _|apply ZE.step)⟩
      ·rw[if_neg c7] at H
       have c7b0:decide ((bt a0 x3_1)≤122)=false:=Zf c7
       clear c7
       by_cases c8:x3_1=0
       ·rw[if_pos c8] at H
        have c8b0:(x3_1 == 0)=true:=beq_iff_eq.mpr c8
        have c8b1:(x3_1 != 0)=false:=bne_eq_false_iff_eq.mpr c8
        clear c8
        obtain rfl:=Zg H
        have p4:0≤(x3_1:Int):=Zd (by with_reducible assumption)
        have q4:x3_1<(a0.size:Int):=Zd (by with_reducible assumption)
        have hx4:=Zad a0 x3_1
        replace p4:=eq_true p4
        replace q4:=eq_true q4
        have p6:0≤(x3_1:Int):=Zd (by with_reducible assumption)
        have q6:x3_1<(a0.size:Int):=Zd (by with_reducible assumption)
        have hx6:=Zad a0 x3_1
        replace p6:=eq_true p6
        replace q6:=eq_true q6
        go_wp2
        go_ret
        exact⟨by first|rfl|(simp;done)|(simp[*];done),by repeat(first|exact ZE.refl _|apply ZE.step)⟩
       ·rw[if_neg c8] at H
        have c8b0:(x3_1 == 0)=false:=beq_eq_false_iff_ne.mpr c8
        have c8b1:(x3_1 != 0)=true:=bne_iff_ne.mpr c8
        by_cases c10:(bt a0 x3_1)<48
        ·rw[if_pos c10] at H
         have c10b0:decide ((bt a0 x3_1)<48)=true:=Ze c10
         clear c10
         obtain rfl:=Zg H
         have p4:0≤(x3_1:Int):=Zd (by with_reducible assumption)
         have q4:x3_1<(a0.size:Int):=Zd (by with_reducible assumption)
         have hx4:=Zad a0 x3_1
         replace p4:=eq_true p4
         replace q4:=eq_true q4
         have p6:0≤(x3_1:Int):=Zd (by with_reducible assumption)
         have q6:x3_1<(a0.size:Int):=Zd (by with_reducible assumption)
         have hx6:=Zad a0 x3_1
         replace p6:=eq_true p6
         replace q6:=eq_true q6
         have p9:0≤(x3_1:Int):=Zd (by with_reducible assumption)
         have q9:x3_1<(a0.size:Int):=Zd (by with_reducible assumption)
         have hx9:=Zad a0 x3_1
         replace p9:=eq_true p9
         replace q9:=eq_true q9
         go_wp2
         go_ret
         exact⟨by first|rfl|(simp;done)|(simp[*];done),by repeat(first|exact ZE.refl _|apply ZE.step)⟩
        ·rw[if_neg c10] at H
         have c10b0:decide ((bt a0 x3_1)<48)=false:=Zf c10
         clear c10
         by_cases c12:(bt a0 x3_1) > 57
         ·rw[if_pos c12] at H
          have c12b0:decide (57<(bt a0 x3_1))=true:=Ze c12
          clear c12
          obtain rfl:=Zg H
          have p4:0≤(x3_1:Int):=Zd (by with_reducible assumption)
          have q4:x3_1<(a0.size:Int):=Zd (by with_reducible assumption)
          have hx4:=Zad a0 x3_1
          replace p4:=eq_true p4
          replace q4:=eq_true q4
          have p6:0≤(x3_1:Int):=Zd (by with_reducible assumption)
          have q6:x3_1<(a0.size:Int):=Zd (by with_reducible assumption)
          have hx6:=Zad a0 x3_1
          replace p6:=eq_true p6
          replace q6:=eq_true q6
          have p9:0≤(x3_1:Int):=Zd (by with_reducible assumption)
          have q9:x3_1<(a0.size:Int):=Zd (by with_reducible assumption)
          have hx9:=Zad a0 x3_1
          replace p9:=eq_true p9
          replace q9:=eq_true q9
          have p11:0≤(x3_1:Int):=Zd (by with_reducible assumption)
          have q11:x3_1<(a0.size:Int):=Zd (by with_reducible assumption)
          have hx11:=Zad a0 x3_1
          replace p11:=eq_true p11
          replace q11:=eq_true q11
          go_wp2
          go_ret
          exact⟨by first|rfl|(simp;done)|(simp[*];done),by repeat(first|exact ZE.refl _|apply ZE.step)⟩
         ·rw[if_neg c12] at H
          have c12b0:decide (57<(bt a0 x3_1))=false:=Zf c12
          clear c12
          have H':=Za H
          clear H
          have p4:0≤(x3_1:Int):=Zd (by with_reducible assumption)
          have q4:x3_1<(a0.size:Int):=Zd (by with_reducible assumption)
          have hx4:=Zad a0 x3_1
          replace p4:=eq_true p4
          replace q4:=eq_true q4
          have p6:0≤(x3_1:Int):=Zd (by with_reducible assumption)
          have q6:x3_1<(a0.size:Int):=Zd (by with_reducible assumption)
          have hx6:=Zad a0 x3_1
          replace p6:=eq_true p6
          replace q6:=eq_true q6
          have p9:0≤(x3_1:Int):=Zd (by with_reducible assumption)
          have q9:x3_1<(a0.size:Int):=Zd (by with_reducible assumption)
          have hx9:=Zad a0 x3_1
          replace p9:=eq_true p9
          replace q9:=eq_true q9
          have p11:0≤(x3_1:Int):=Zd (by with_reducible assumption)
          have q11:x3_1<(a0.size:Int):=Zd (by with_reducible assumption)
          have hx11:=Zad a0 x3_1
          replace p11:=eq_true p11
          replace q11:=eq_true q11
          go_wp2
          go_roundg k1
          case measure=>have:=HK1.out;omega
          case rel=>exact⟨(wrap64 (x3_1+1)),(by first|rfl|(simp;done)|(simp[*];done)),H',⟨by have:=HK1.out;omega⟩,by repeat(first|exact ZE.refl _|apply ZE.step)⟩
     ·rw[if_neg c5] at H
      have c5b0:decide (97≤(bt a0 x3_1))=false:=Zf c5
      clear c5
      by_cases c13:x3_1=0
      ·rw[if_pos c13] at H
       have c13b0:(x3_1 == 0)=true:=beq_iff_eq.mpr c13
       have c13b1:(x3_1 != 0)=false:=bne_eq_false_iff_eq.mpr c13
       clear c13
       obtain rfl:=Zg H
       have p4:0≤(x3_1:Int):=Zd (by with_reducible assumption)
       have q4:x3_1<(a0.size:Int):=Zd (by with_reducible assumption)
       have hx4:=Zad a0 x3_1
       replace p4:=eq_true p4
       replace q4:=eq_true q4
       go_wp2
       go_ret
       exact⟨by first|rfl|(simp;done)|(simp[*];done),by repeat(first|exact ZE.refl _|apply ZE.step)⟩
      ·rw[if_neg c13] at H
       have c13b0:(x3_1 == 0)=false:=beq_eq_false_iff_ne.mpr c13
       have c13b1:(x3_1 != 0)=true:=bne_iff_ne.mpr c13
       by_cases c15:(bt a0 x3_1)<48
       ·rw[if_pos c15] at H
        have c15b0:decide ((bt a0 x3_1)<48)=true:=Ze c15
        clear c15
        obtain rfl:=Zg H
        have p4:0≤(x3_1:Int):=Zd (by with_reducible assumption)
        have q4:x3_1<(a0.size:Int):=Zd (by with_reducible assumption)
        have hx4:=Zad a0 x3_1
        replace p4:=eq_true p4
        replace q4:=eq_true q4
        have p14:0≤(x3_1:Int):=Zd (by with_reducible assumption)
        have q14:x3_1<(a0.size:Int):=Zd (by with_reducible assumption)
        have hx14:=Zad a0 x3_1
        replace p14:=eq_true p14
        replace q14:=eq_true q14
        go_wp2
        go_ret
        exact⟨by first|rfl|(simp;done)|(simp[*];done),by repeat(first|exact ZE.refl _|apply ZE.step)⟩
       ·rw[if_neg c15] at H
        have c15b0:decide ((bt a0 x3_1)<48)=false:=Zf c15
        clear c15
        by_cases c17:(bt a0 x3_1) > 57
        ·rw[if_pos c17] at H
         have c17b0:decide (57<(bt a0 x3_1))=true:=Ze c17
         clear c17
         obtain rfl:=Zg H
         have p4:0≤(x3_1:Int):=Zd (by with_reducible assumption)
         have q4:x3_1<(a0.size:Int):=Zd (by with_reducible assumption)
         have hx4:=Zad a0 x3_1
         replace p4:=eq_true p4
         replace q4:=eq_true q4
         have p14:0≤(x3_1:Int):=Zd (by with_reducible assumption)
         have q14:x3_1<(a0.size:Int):=Zd (by with_reducible assumption)
         have hx14:=Zad a0 x3_1
         replace p14:=eq_true p14
         replace q14:=eq_true q14
         have p16:0≤(x3_1:Int):=Zd (by with_reducible assumption)
         have q16:x3_1<(a0.size:Int):=Zd (by with_reducible assumption)
         have hx16:=Zad a0 x3_1
         replace p16:=eq_true p16
         replace q16:=eq_true q16
         go_wp2
         go_ret
         exact⟨by first|rfl|(simp;done)|(simp[*];done),by repeat(first|exact ZE.refl _|apply ZE.step)⟩
        ·rw[if_neg c17] at H
         have c17b0:decide (57<(bt a0 x3_1))=false:=Zf c17
         clear c17
         have H':=Za H
         clear H
         have p4:0≤(x3_1:Int):=Zd (by with_reducible assumption)
         have q4:x3_1<(a0.size:Int):=Zd (by with_reducible assumption)
         have hx4:=Zad a0 x3_1
         replace p4:=eq_true p4
         replace q4:=eq_true q4
         have p14:0≤(x3_1:Int):=Zd (by with_reducible assumption)
         have q14:x3_1<(a0.size:Int):=Zd (by with_reducible assumption)
         have hx14:=Zad a0 x3_1
         replace p14:=eq_true p14
         replace q14:=eq_true q14
         have p16:0≤(x3_1:Int):=Zd (by with_reducible assumption)
         have q16:x3_1<(a0.size:Int):=Zd (by with_reducible assumption)
         have hx16:=Zad a0 x3_1
         replace p16:=eq_true p16
         replace q16:=eq_true q16
         go_wp2
         go_roundg k1
         case measure=>have:=HK1.out;omega
         case rel=>exact⟨(wrap64 (x3_1+1)),(by first|rfl|(simp;done)|(simp[*];done)),H',⟨by have:=HK1.out;omega⟩,by repeat(first|exact ZE.refl _|apply ZE.step)⟩
    ·rw[if_neg c3] at H
     exact absurd H (by simp)
   ·rw[if_neg c2] at H
    have c2b0:decide (x3_1<(a0.size:Int))=false:=Zf c2
    clear c2
    replace H:=Zh H
    obtain⟨t173001,A180,H⟩:=H
    replace H:(some t173001)=some r:=H
    have A18:=Za A180;clear A180
    obtain rfl:=Zg H
    go_wp2_with (first|((with_reducible refine ZG (f:=68) rfl ?_);refine ZQ (some 41) rfl rfl Try.func68 (by kernel_rfl) rfl #[.int .i64 (a0.size:Int),.int .i64 1,.int .i64 8] rfl (by(try simp only[List.map_toArray,List.map_cons,List.map_nil]);first|done|rfl|(simp only[Zk,Zj];rfl)) ?_;(with_reducible refine(ZW.calls (a0.size:Int) 1 8 t173001 _ A18.out).mono ?_);rintro e w' ⟨rfl,⟨nd,rfl⟩⟩;refine⟨_,rfl,?_⟩))
    go_ret
    exact⟨by first|rfl|(simp;done)|(simp[*];done),by repeat(first|exact ZE.refl _|apply ZE.step)⟩
def Zak.l0:Nat→ByteArray→Int→Option (Bool)
 | 0,_,_=>none
 | k+1,x0,x3=>if x3<(x0.size:Int) then(if 0≤x3 then(if (bt x0 x3)≥97 then(if (bt x0 x3)≥48 then(if ((bt x0 x3)≤122) then(Zak.l0 k x0 (wrap64 (x3+1))) else(if ((bt x0 x3)≤57) then(if x3=0 then(some false) else(Zak.l0 k x0 (wrap64 (x3+1)))) else(some false))) else(if ((bt x0 x3)≤122) then(Zak.l0 k x0 (wrap64 (x3+1))) else(some false))) else(if (bt x0 x3)≥48 then(if ((bt x0 x3)≤57) then(if x3=0 then(some false) else(Zak.l0 k x0 (wrap64 (x3+1)))) else(some false)) else(some false))) else(none)) else(if (x0.size:Int)≥1 then(some (decide ((x0.size:Int)≤8))) else(some false))
def Zak.f (k:Nat) (a0:ByteArray):Option (Bool):=Zak.l0 k a0 0
set_option maxHeartbeats 8000000 in
set_option maxRecDepth 100000 in
theorem Zak.calls (k:Nat) (a0:ByteArray) (r:Bool) (w:World) (h:Zak.f k a0=some r) :
  Calls Try.prog 175 #[.string a0] w fun e w'=>e=.returned (.bool r)∧ZE w w':=by
 have H:(Zak.l0 k a0 0)=some r:=h
 clear h
 have H':=Za H
 clear H
 go_enter Try.func175,Try.ntmps175
 go_wp2
 repeat(go_quiet (fail);try go_wp2)
 go_loopg [3] k (fun kq v3 w'=>∃(x3_1:Int),v3=.int .i64 x3_1∧Aside0 (Zak.l0 kq a0 x3_1=some r)∧Aside0 (kq≤k)∧ZE w w')
 case atStart=>exact⟨(0),(by first|rfl|(simp;done)|(simp[*];done)),H',⟨Nat.le_refl _⟩,by repeat(first|exact ZE.refl _|apply ZE.step)⟩
 case round=>
  clear H'
  try clear c1
  obtain⟨x3_1,rfl,HA,HK1,⟨m1,rfl⟩⟩:=hrel
  cases gk with
  | zero=>exact absurd HA.out (by simp[Zak.l0])
  | succ k1=>
   have H:=HA.out
   clear HA
   simp only[Zak.l0] at H
   by_cases c2:x3_1<(a0.size:Int)
   ·rw[if_pos c2] at H
    have c2b0:decide (x3_1<(a0.size:Int))=true:=Ze c2
    clear c2
    by_cases c3:0≤x3_1
    ·rw[if_pos c3] at H
     have c3b0:decide (0≤x3_1)=true:=Ze c3
     clear c3
     by_cases c5:(bt a0 x3_1)≥97
     ·rw[if_pos c5] at H
      have c5b0:decide (97≤(bt a0 x3_1))=true:=Ze c5
      clear c5
      by_cases c8:(bt a0 x3_1)≥48
      ·rw[if_pos c8] at H
       have c8b0:decide (48≤(bt a0 x3_1))=true:=Ze c8
       clear c8
       by_cases c10:((bt a0 x3_1)≤122)
       ·rw[if_pos c10] at H
        have c10b0:decide ((bt a0 x3_1)≤122)=true:=Ze c10
        clear c10
        have H':=Za H
        clear H
        have p4:0≤(x3_1:Int):=Zd (by with_reducible assumption)
        have q4:x3_1<(a0.size:Int):=Zd (by with_reducible assumption)
        have hx4:=Zad a0 x3_1
        replace p4:=eq_true p4
        replace q4:=eq_true q4
        have p6:0≤(x3_1:Int):=Zd (by with_reducible assumption)
        have q6:x3_1<(a0.size:Int):=Zd (by with_reducible assumption)
        have hx6:=Zad a0 x3_1
        replace p6:=eq_true p6
        replace q6:=eq_true q6
        have p7:0≤(x3_1:Int):=Zd (by with_reducible assumption)
        have q7:x3_1<(a0.size:Int):=Zd (by with_reducible assumption)
        have hx7:=Zad a0 x3_1
        replace p7:=eq_true p7
        replace q7:=eq_true q7
        have p9:0≤(x3_1:Int):=Zd (by with_reducible assumption)
        have q9:x3_1<(a0.size:Int):=Zd (by with_reducible assumption)
        have hx9:=Zad a0 x3_1
        replace p9:=eq_true p9
        replace q9:=eq_true q9
        go_wp2
        repeat(go_quiet (fail);try go_wp2)
        go_roundg k1
        case measure=>have:=HK1.out;omega
        case rel=>exact⟨(wrap64 (x3_1+1)),(by first|rfl|(simp;done)|(simp[*];done)),H',⟨by have:=HK1.out;omega⟩,by repeat(first|exact ZE.refl _|apply ZE.step)⟩
       ·rw[if_neg c10] at H
        have c10b0:decide ((bt a0 x3_1)≤122)=false:=Zf c10
        clear c10
        by_cases c11:((bt a0 x3_1)≤57)
        ·rw[if_pos c11] at H
         have c11b0:decide ((bt a0 x3_1)≤57)=true:=Ze c11
         clear c11
         by_cases c12:x3_1=0
         ·rw[if_pos c12] at H
          have c12b0:(x3_1 == 0)=true:=beq_iff_eq.mpr c12
          have c12b1:(x3_1 != 0)=false:=bne_eq_false_iff_eq.mpr c12
          clear c12
          obtain rfl:=Zg H
          have p4:0≤(x3_1:Int):=Zd (by with_reducible assumption)
          have q4:x3_1<(a0.size:Int):=Zd (by with_reducible assumption)
          have hx4:=Zad a0 x3_1
          replace p4:=eq_true p4
          replace q4:=eq_true q4
          have p6:0≤(x3_1:Int):=Zd (by with_reducible assumption)
          have q6:x3_1<(a0.size:Int):=Zd (by with_reducible assumption)
          have hx6:=Zad a0 x3_1
          replace p6:=eq_true p6
          replace q6:=eq_true q6
          have p7:0≤(x3_1:Int):=Zd (by with_reducible assumption)
          have q7:x3_1<(a0.size:Int):=Zd (by with_reducible assumption)
          have hx7:=Zad a0 x3_1
          replace p7:=eq_true p7
          replace q7:=eq_true q7
          have p9:0≤(x3_1:Int):=Zd (by with_reducible assumption)
          have q9:x3_1<(a0.size:Int):=Zd (by with_reducible assumption)
          have hx9:=Zad a0 x3_1
          replace p9:=eq_true p9
          replace q9:=eq_true q9
          go_wp2
          repeat(go_quiet (fail);try go_wp2)
          go_ret
          exact⟨by first|rfl|(simp;done)|(simp[*];done),by repeat(first|exact ZE.refl _|apply ZE.step)⟩
         ·rw[if_neg c12] at H
          have c12b0:(x3_1 == 0)=false:=beq_eq_false_iff_ne.mpr c12
          have c12b1:(x3_1 != 0)=true:=bne_iff_ne.mpr c12
          have H':=Za H
          clear H
          have p4:0≤(x3_1:Int):=Zd (by with_reducible assumption)
          have q4:x3_1<(a0.size:Int):=Zd (by with_reducible assumption)
          have hx4:=Zad a0 x3_1
          replace p4:=eq_true p4
          replace q4:=eq_true q4
          have p6:0≤(x3_1:Int):=Zd (by with_reducible assumption)
          have q6:x3_1<(a0.size:Int):=Zd (by with_reducible assumption)
          have hx6:=Zad a0 x3_1
          replace p6:=eq_true p6
          replace q6:=eq_true q6
          have p7:0≤(x3_1:Int):=Zd (by with_reducible assumption)
          have q7:x3_1<(a0.size:Int):=Zd (by with_reducible assumption)
          have hx7:=Zad a0 x3_1
          replace p7:=eq_true p7
          replace q7:=eq_true q7
          have p9:0≤(x3_1:Int):=Zd (by with_reducible assumption)
          have q9:x3_1<(a0.size:Int):=Zd (by with_reducible assumption)
          have hx9:=Zad a0 x3_1
          replace p9:=eq_true p9
          replace q9:=eq_true q9
          go_wp2
          repeat(go_quiet (fail);try go_wp2)
          go_roundg k1
          case measure=>have:=HK1.out;omega
          case rel=>exact⟨(wrap64 (x3_1+1)),(by first|rfl|(simp;done)|(simp[*];done)),H',⟨by have:=HK1.out;omega⟩,by repeat(first|exact ZE.refl _|apply ZE.step)⟩
        ·rw[if_neg c11] at H
         have c11b0:decide ((bt a0 x3_1)≤57)=false:=Zf c11
         clear c11
         obtain rfl:=Zg H
         have p4:0≤(x3_1:Int):=Zd (by with_reducible assumption)
         have q4:x3_1<(a0.size:Int):=Zd (by with_reducible assumption)
         have hx4:=Zad a0 x3_1
         replace p4:=eq_true p4
         replace q4:=eq_true q4
         have p6:0≤(x3_1:Int):=Zd (by with_reducible assumption)
         have q6:x3_1<(a0.size:Int):=Zd (by with_reducible assumption)
         have hx6:=Zad a0 x3_1
         replace p6:=eq_true p6
         replace q6:=eq_true q6
         have p7:0≤(x3_1:Int):=Zd (by with_reducible assumption)
         have q7:x3_1<(a0.size:Int):=Zd (by with_reducible assumption)
         have hx7:=Zad a0 x3_1
         replace p7:=eq_true p7
         replace q7:=eq_true q7
         have p9:0≤(x3_1:Int):=Zd (by with_reducible assumption)
         have q9:x3_1<(a0.size:Int):=Zd (by with_reducible assumption)
         have hx9:=Zad a0 x3_1
         replace p9:=eq_true p9
         replace q9:=eq_true q9
         go_wp2
         repeat(go_quiet (fail);try go_wp2)
         go_ret
         exact⟨by first|rfl|(simp;done)|(simp[*];done),by repeat(first|exact ZE.refl _|apply ZE.step)⟩
      ·rw[if_neg c8] at H
       have c8b0:decide (48≤(bt a0 x3_1))=false:=Zf c8
       clear c8
       by_cases c13:((bt a0 x3_1)≤122)
       ·rw[if_pos c13] at H
        have c13b0:decide ((bt a0 x3_1)≤122)=true:=Ze c13
        clear c13
        have H':=Za H
        clear H
        have p4:0≤(x3_1:Int):=Zd (by with_reducible assumption)
        have q4:x3_1<(a0.size:Int):=Zd (by with_reducible assumption)
        have hx4:=Zad a0 x3_1
        replace p4:=eq_true p4
        replace q4:=eq_true q4
        have p6:0≤(x3_1:Int):=Zd (by with_reducible assumption)
        have q6:x3_1<(a0.size:Int):=Zd (by with_reducible assumption)
        have hx6:=Zad a0 x3_1
        replace p6:=eq_true p6
        replace q6:=eq_true q6
        have p7:0≤(x3_1:Int):=Zd (by with_reducible assumption)
        have q7:x3_1<(a0.size:Int):=Zd (by with_reducible assumption)
        have hx7:=Zad a0 x3_1
        replace p7:=eq_true p7
        replace q7:=eq_true q7
        go_wp2
        repeat(go_quiet (fail);try go_wp2)
        go_roundg k1
        case measure=>have:=HK1.out;omega
        case rel=>exact⟨(wrap64 (x3_1+1)),(by first|rfl|(simp;done)|(simp[*];done)),H',⟨by have:=HK1.out;omega⟩,by repeat(first|exact ZE.refl _|apply ZE.step)⟩
       ·rw[if_neg c13] at H
        have c13b0:decide ((bt a0 x3_1)≤122)=false:=Zf c13
        clear c13
        obtain rfl:=Zg H
        have p4:0≤(x3_1:Int):=Zd (by with_reducible assumption)
        have q4:x3_1<(a0.size:Int):=Zd (by with_reducible assumption)
        have hx4:=Zad a0 x3_1
        replace p4:=eq_true p4
        replace q4:=eq_true q4
        have p6:0≤(x3_1:Int):=Zd (by with_reducible assumption)
        have q6:x3_1<(a0.size:Int):=Zd (by with_reducible assumption)
        have hx6:=Zad a0 x3_1
        replace p6:=eq_true p6
        replace q6:=eq_true q6
        have p7:0≤(x3_1:Int):=Zd (by with_reducible assumption)
        have q7:x3_1<(a0.size:Int):=Zd (by with_reducible assumption)
        have hx7:=Zad a0 x3_1
        replace p7:=eq_true p7
        replace q7:=eq_true q7
        go_wp2
        repeat(go_quiet (fail);try go_wp2)
        go_ret
        exact⟨by first|rfl|(simp;done)|(simp[*];done),by repeat(first|exact ZE.refl _|apply ZE.step)⟩
     ·rw[if_neg c5] at H
      have c5b0:decide (97≤(bt a0 x3_1))=false:=Zf c5
      clear c5
      by_cases c15:(bt a0 x3_1)≥48
      ·rw[if_pos c15] at H
       have c15b0:decide (48≤(bt a0 x3_1))=true:=Ze c15
       clear c15
       by_cases c17:((bt a0 x3_1)≤57)
       ·rw[if_pos c17] at H
        have c17b0:decide ((bt a0 x3_1)≤57)=true:=Ze c17
        clear c17
        by_cases c18:x3_1=0
        ·rw[if_pos c18] at H
         have c18b0:(x3_1 == 0)=true:=beq_iff_eq.mpr c18
         have c18b1:(x3_1 != 0)=false:=bne_eq_false_iff_eq.mpr c18
         clear c18
         obtain rfl:=Zg H
         have p4:0≤(x3_1:Int):=Zd (by with_reducible assumption)
         have q4:x3_1<(a0.size:Int):=Zd (by with_reducible assumption)
         have hx4:=Zad a0 x3_1
         replace p4:=eq_true p4
         replace q4:=eq_true q4
         have p14:0≤(x3_1:Int):=Zd (by with_reducible assumption)
         have q14:x3_1<(a0.size:Int):=Zd (by with_reducible assumption)
         have hx14:=Zad a0 x3_1
         replace p14:=eq_true p14
         replace q14:=eq_true q14
         have p16:0≤(x3_1:Int):=Zd (by with_reducible assumption)
         have q16:x3_1<(a0.size:Int):=Zd (by with_reducible assumption)
         have hx16:=Zad a0 x3_1
         replace p16:=eq_true p16
         replace q16:=eq_true q16
         go_wp2
         repeat(go_quiet (fail);try go_wp2)
         go_ret
         exact⟨by first|rfl|(simp;done)|(simp[*];done),by repeat(first|exact ZE.refl _|apply ZE.step)⟩
        ·rw[if_neg c18] at H
         have c18b0:(x3_1 == 0)=false:=beq_eq_false_iff_ne.mpr c18
         have c18b1:(x3_1 != 0)=true:=bne_iff_ne.mpr c18
         have H':=Za H
         clear H
         have p4:0≤(x3_1:Int):=Zd (by with_reducible assumption)
         have q4:x3_1<(a0.size:Int):=Zd (by with_reducible assumption)
         have hx4:=Zad a0 x3_1
         replace p4:=eq_true p4
         replace q4:=eq_true q4
         have p14:0≤(x3_1:Int):=Zd (by with_reducible assumption)
         have q14:x3_1<(a0.size:Int):=Zd (by with_reducible assumption)
         have hx14:=Zad a0 x3_1
         replace p14:=eq_true p14
         replace q14:=eq_true q14
         have p16:0≤(x3_1:Int):=Zd (by with_reducible assumption)
         have q16:x3_1<(a0.size:Int):=Zd (by with_reducible assumption)
         have hx16:=Zad a0 x3_1
         replace p16:=eq_true p16
         replace q16:=eq_true q16
         go_wp2
         repeat(go_quiet (fail);try go_wp2)
         go_roundg k1
         case measure=>have:=HK1.out;omega
         case rel=>exact⟨(wrap64 (x3_1+1)),(by first|rfl|(simp;done)|(simp[*];done)),H',⟨by have:=HK1.out;omega⟩,by repeat(first|exact ZE.refl _|apply ZE.step)⟩
       ·rw[if_neg c17] at H
        have c17b0:decide ((bt a0 x3_1)≤57)=false:=Zf c17
        clear c17
        obtain rfl:=Zg H
        have p4:0≤(x3_1:Int):=Zd (by with_reducible assumption)
        have q4:x3_1<(a0.size:Int):=Zd (by with_reducible assumption)
        have hx4:=Zad a0 x3_1
        replace p4:=eq_true p4
        replace q4:=eq_true q4
        have p14:0≤(x3_1:Int):=Zd (by with_reducible assumption)
        have q14:x3_1<(a0.size:Int):=Zd (by with_reducible assumption)
        have hx14:=Zad a0 x3_1
        replace p14:=eq_true p14
        replace q14:=eq_true q14
        have p16:0≤(x3_1:Int):=Zd (by with_reducible assumption)
        have q16:x3_1<(a0.size:Int):=Zd (by with_reducible assumption)
        have hx16:=Zad a0 x3_1
        replace p16:=eq_true p16
        replace q16:=eq_true q16
        go_wp2
        repeat(go_quiet (fail);try go_wp2)
        go_ret
        exact⟨by first|rfl|(simp;done)|(simp[*];done),by repeat(first|exact ZE.refl _|apply ZE.step)⟩
      ·rw[if_neg c15] at H
       have c15b0:decide (48≤(bt a0 x3_1))=false:=Zf c15
       clear c15
       obtain rfl:=Zg H
       have p4:0≤(x3_1:Int):=Zd (by with_reducible assumption)
       have q4:x3_1<(a0.size:Int):=Zd (by with_reducible assumption)
       have hx4:=Zad a0 x3_1
       replace p4:=eq_true p4
       replace q4:=eq_true q4
       have p14:0≤(x3_1:Int):=Zd (by with_reducible assumption)
       have q14:x3_1<(a0.size:Int):=Zd (by with_reducible assumption)
       have hx14:=Zad a0 x3_1
       replace p14:=eq_true p14
       replace q14:=eq_true q14
       go_wp2
       repeat(go_quiet (fail);try go_wp2)
       go_ret
       exact⟨by first|rfl|(simp;done)|(simp[*];done),by repeat(first|exact ZE.refl _|apply ZE.step)⟩
    ·rw[if_neg c3] at H
     exact absurd H (by simp)
   ·rw[if_neg c2] at H
    have c2b0:decide (x3_1<(a0.size:Int))=false:=Zf c2
    clear c2
    by_cases c19:(a0.size:Int)≥1
    ·rw[if_pos c19] at H
     have c19b0:decide (1≤(a0.size:Int))=true:=Ze c19
     have c19b1:decide (1≤a0.size)=true:=Ze (by omega)
     clear c19
     obtain rfl:=Zg H
     go_wp2
     repeat(go_quiet (fail);try go_wp2)
     go_ret
     exact⟨by first|rfl|(simp;done)|(simp[*];done),by repeat(first|exact ZE.refl _|apply ZE.step)⟩
    ·rw[if_neg c19] at H
     have c19b0:decide (1≤(a0.size:Int))=false:=Zf c19
     have c19b1:decide (1≤a0.size)=false:=Zf (by omega)
     clear c19
     obtain rfl:=Zg H
     go_wp2
     repeat(go_quiet (fail);try go_wp2)
     go_ret
     exact⟨by first|rfl|(simp;done)|(simp[*];done),by repeat(first|exact ZE.refl _|apply ZE.step)⟩
end Go.Proofs.Ytodfnelilhjoeaa.Pr
namespace Go.Proofs.Ytodfnelilhjoeaa.Pr
open Go.RowKit Go.Proofs.YtodfnelilhjoeaaW.PrintWords Go.Proofs.Ytodfnelilhjoeaa.Ni
def chB (s:ByteArray) (i:Nat):Bool:=(decide (97≤bt s i) && decide (bt s i≤122)) || (decide (0<i) && decide (48≤bt s i) && decide (bt s i≤57))
def chsB (s:ByteArray) (i:Nat):Nat→Bool
 | 0=>true
 | d+1=>chB s i && chsB s (i+1) d
def nameB (s:ByteArray):Bool:=chsB s 0 s.size && (decide (1≤s.size) && decide (s.size≤8))
theorem Zet (s:ByteArray) (hs:s.size≤9223372036854775807) (k:Nat) (hk:2 ^ 64≤k):Zas.f k s=some (nameB s):=by
 have key:=ZaC s.size (fun k i=>Zas.l0 k s (i:Int)=some (chsB s i (s.size - i) && (decide (1≤s.size) && decide (s.size≤8)))) 0
  (fun k _=>by
   simp only[Zas.l0]
   rw[if_neg (by omega),Nat.sub_self]
   unfold ZW.f chsB
   by_cases h1:1≤s.size
   ·rw[if_pos (by omega),Ze h1]
    simp only[Zi,Bool.true_and]
    congr 1
    rw[Bool.eq_iff_iff];simp;omega
   ·rw[if_neg (by omega),Zf h1];rfl)
  (fun k i _ hi ih=>by
   simp only[Zas.l0]
   rw[if_pos (by omega),if_pos (by omega),Z6 hi (by omega),ih,show chsB s i (s.size - i)=(chB s i && chsB s (i+1) (s.size - (i+1))) by rw[show s.size - i=(s.size - (i+1))+1 by omega];rfl]
   have hF:chB s i=false→(chB s i && chsB s (i+1) (s.size - (i+1)) && (decide (1≤s.size) && decide (s.size≤8)))=false:=fun h=>by rw[h];rfl
   have hT:chB s i=true→(chB s i && chsB s (i+1) (s.size - (i+1)) && (decide (1≤s.size) && decide (s.size≤8)))=(chsB s (i+1) (s.size - (i+1)) && (decide (1≤s.size) && decide (s.size≤8))):=fun h=>by rw[h,Bool.true_and]
   generalize hc:bt s (i:Int)=c at *
   have hch:chB s i=((decide (97≤c) && decide (c≤122)) || (decide (0<i) && decide (48≤c) && decide (c≤57))):=by unfold chB;rw[hc]
   by_cases a1:c≥97
   ·rw[if_pos a1]
    by_cases a2:c≤122
    ·rw[if_pos a2,hT (by rw[hch];simp;omega)]
    ·rw[if_neg a2,hF (by rw[hch];simp;omega)]
     split
     ·rfl
     ·split
      ·rfl
      ·rw[if_pos (by omega)]
   ·rw[if_neg a1]
    by_cases b0:(i:Int)=0
    ·rw[if_pos b0,hF (by rw[hch];simp;omega)]
    ·rw[if_neg b0]
     by_cases b1:c<48
     ·rw[if_pos b1,hF (by rw[hch];simp;omega)]
     ·rw[if_neg b1]
      by_cases b2:c > 57
      ·rw[if_pos b2,hF (by rw[hch];simp;omega)]
      ·rw[if_neg b2,hT (by rw[hch];simp;omega)]) 0 k (Nat.zero_le _) (by omega)
 unfold Zas.f nameB
 simpa using key
theorem ZeA (s:ByteArray) (hs:s.size≤9223372036854775807) (k:Nat) (hk:2 ^ 64≤k):Zak.f k s=some (nameB s):=by
 have key:=ZaC s.size (fun k i=>Zak.l0 k s (i:Int)=some (chsB s i (s.size - i) && (decide (1≤s.size) && decide (s.size≤8)))) 0
  (fun k _=>by
   simp only[Zak.l0]
   rw[if_neg (by omega),Nat.sub_self]
   unfold chsB
   by_cases h1:1≤s.size
   ·rw[if_pos (by omega),Ze h1]
    simp only[Bool.true_and]
    congr 1
    rw[Bool.eq_iff_iff];simp;omega
   ·rw[if_neg (by omega),Zf h1];rfl)
  (fun k i _ hi ih=>by
   simp only[Zak.l0]
   rw[if_pos (by omega),if_pos (by omega),Z6 hi (by omega),ih,show chsB s i (s.size - i)=(chB s i && chsB s (i+1) (s.size - (i+1))) by rw[show s.size - i=(s.size - (i+1))+1 by omega];rfl]
   have hF:chB s i=false→(chB s i && chsB s (i+1) (s.size - (i+1)) && (decide (1≤s.size) && decide (s.size≤8)))=false:=fun h=>by rw[h];rfl
   have hT:chB s i=true→(chB s i && chsB s (i+1) (s.size - (i+1)) && (decide (1≤s.size) && decide (s.size≤8)))=(chsB s (i+1) (s.size - (i+1)) && (decide (1≤s.size) && decide (s.size≤8))):=fun h=>by rw[h,Bool.true_and]
   generalize hc:bt s (i:Int)=c at *
   have hch:chB s i=((decide (97≤c) && decide (c≤122)) || (decide (0<i) && decide (48≤c) && decide (c≤57))):=by unfold chB;rw[hc]
   by_cases a1:c≥97
   ·rw[if_pos a1,if_pos (by omega)]
    by_cases a2:c≤122
    ·rw[if_pos a2,hT (by rw[hch];simp;omega)]
    ·rw[if_neg a2,if_neg (by omega),hF (by rw[hch];simp;omega)]
   ·rw[if_neg a1]
    by_cases b1:c≥48
    ·rw[if_pos b1]
     by_cases b2:c≤57
     ·rw[if_pos b2]
      by_cases b0:(i:Int)=0
      ·rw[if_pos b0,hF (by rw[hch];simp;omega)]
      ·rw[if_neg b0,hT (by rw[hch];simp;omega)]
     ·rw[if_neg b2,hF (by rw[hch];simp;omega)]
    ·rw[if_neg b1,hF (by rw[hch];simp;omega)]) 0 k (Nat.zero_le _) (by omega)
 unfold Zak.f nameB
 simpa using key
end Go.Proofs.Ytodfnelilhjoeaa.Pr
namespace Go.Proofs.Ytodfnelilhjoeaa.Pr
open Go.RowKit Go.Proofs.YtodfnelilhjoeaaW.PrintWords Go.Proofs.YtodfnelilhjoeaaW.PrintLast Go.Proofs.YtodfnelilhjoeaaW.PrintMore
attribute [local go_sem] Zac Zaa Zam Zal Z5 Z4 Zab Z9
set_option linter.unusedVariables false
set_option linter.unusedSimpArgs false
def Zaw.f (a0:Int):Option (Int):=if a0<0 then(some (wrap64 (-a0))) else(some a0)
set_option maxHeartbeats 8000000 in
set_option maxRecDepth 100000 in
theorem Zaw.calls (a0:Int) (r:Int) (w:World) (h:Zaw.f a0=some r) :
  Calls Try.prog 141 #[.int .i64 a0] w fun e w'=>e=.returned (.int .i64 r)∧ZE w w':=by
 have H:(if a0<0 then(some (wrap64 (-a0))) else(some a0))=some r:=h
 clear h
 by_cases c2:a0<0
 ·rw[if_pos c2] at H
  have c2b0:decide (a0<0)=true:=Ze c2
  clear c2
  obtain rfl:=Zg H
  go_enter Try.func141,Try.ntmps141
  go_wp2
  go_ret
  exact⟨by first|rfl|(simp;done)|(simp[*];done),by repeat(first|exact ZE.refl _|apply ZE.step)⟩
 ·rw[if_neg c2] at H
  have c2b0:decide (a0<0)=false:=Zf c2
  clear c2
  obtain rfl:=Zg H
  go_enter Try.func141,Try.ntmps141
  go_wp2
  go_ret
  exact⟨by first|rfl|(simp;done)|(simp[*];done),by repeat(first|exact ZE.refl _|apply ZE.step)⟩
def ZU.l0:Nat→List Int→List Int→Int→Int→Option (Bool)
 | 0,_,_,_,_=>none
 | k+1,x0,x5,x6,x7=>if x7<x6 then(if 0≤x7 then(if x7<(x5.length:Int) then(if (rd x5 x7)=0 then(some false) else((ZW.f (rd x5 x7) (-3) 3).bind fun t174002=>(if t174002=true then(if x7 > 0 then(if 0≤(wrap64 (x7 - 1)) then(if (wrap64 (x7 - 1))<(x0.length:Int) then((Zaw.f (rd x0 (wrap64 (x7 - 1)))).bind fun t174004=>((Zaw.f (rd x5 x7)).bind fun t174005=>(if t174004≥t174005 then(some false) else(ZU.l0 k x0 x5 x6 (wrap64 (x7+1)))))) else(none)) else(none)) else(ZU.l0 k x0 x5 x6 (wrap64 (x7+1)))) else(some false)))) else(none)) else(none)) else(some true)
def ZU.f (k:Nat) (l0:List Int):Option (Bool):=ZU.l0 k l0 l0 (l0.length:Int) 0
set_option maxHeartbeats 8000000 in
set_option maxRecDepth 100000 in
theorem ZU.calls (k:Nat) (A0:Option Addr) (c0:Nat) (l0:List Int) (r:Bool) (w:World) (hr0:Kd.C (Kd.int .i64) w A0 l0.length l0) (hc0:l0.length≤c0) (h:ZU.f k l0=some r) :
  Calls Try.prog 174 #[.slice A0 l0.length c0] w fun e w'=>e=.returned (.bool r)∧ZE w w':=by
 have HR0:=Za hr0;have HC0:=Za hc0;clear hr0 hc0
 have H:(ZU.l0 k l0 l0 (l0.length:Int) 0)=some r:=h
 clear h
 have H':=Za H
 clear H
 go_enter Try.func174,Try.ntmps174
 go_wp2
 go_loopg [7] k (fun kq v7 w'=>∃(x7_1:Int),v7=.int .i64 x7_1∧Aside0 (ZU.l0 kq l0 l0 (l0.length:Int) x7_1=some r)∧Aside0 (kq≤k)∧ZE w w')
 case atStart=>exact⟨(0),(by first|rfl|(simp;done)|(simp[*];done)),H',⟨Nat.le_refl _⟩,by repeat(first|exact ZE.refl _|apply ZE.step)⟩
 case round=>
  clear H'
  try clear c1
  obtain⟨x7_1,rfl,HA,HK1,⟨m1,rfl⟩⟩:=hrel
  cases gk with
  | zero=>exact absurd HA.out (by simp[ZU.l0])
  | succ k1=>
   have H:=HA.out
   clear HA
   simp only[ZU.l0] at H
   by_cases c2:x7_1<(l0.length:Int)
   ·rw[if_pos c2] at H
    have c2b0:decide (x7_1<(l0.length:Int))=true:=Ze c2
    clear c2
    by_cases c3:0≤x7_1
    ·rw[if_pos c3] at H
     have c3b0:decide (0≤x7_1)=true:=Ze c3
     clear c3
     by_cases c4:x7_1<(l0.length:Int)
     ·rw[if_pos c4] at H
      have c4b0:decide (x7_1<(l0.length:Int))=true:=Ze c4
      clear c4
      by_cases c5:(rd l0 x7_1)=0
      ·rw[if_pos c5] at H
       have c5b0:((rd l0 x7_1) == 0)=true:=beq_iff_eq.mpr c5
       have c5b1:((rd l0 x7_1) != 0)=false:=bne_eq_false_iff_eq.mpr c5
       clear c5
       obtain rfl:=Zg H
       have p174001:0≤(x7_1:Int):=Zd (by with_reducible assumption)
       have q174001:x7_1<(l0.length:Int):=Zd (by with_reducible assumption)
       obtain⟨ad174001,e174001,hx174001_0⟩:=Kd.at_int HR0.out x7_1 p174001 q174001
       cases e174001
       replace p174001:=eq_true p174001
       replace q174001:=eq_true q174001
       go_wp2
       go_ret
       exact⟨by first|rfl|(simp;done)|(simp[*];done),by repeat(first|exact ZE.refl _|apply ZE.step)⟩
      ·rw[if_neg c5] at H
       have c5b0:((rd l0 x7_1) == 0)=false:=beq_eq_false_iff_ne.mpr c5
       have c5b1:((rd l0 x7_1) != 0)=true:=bne_iff_ne.mpr c5
       replace H:=Zh H
       obtain⟨t174002,A60,H⟩:=H
       replace H:(if t174002=true then(if x7_1 > 0 then(if 0≤(wrap64 (x7_1 - 1)) then(if (wrap64 (x7_1 - 1))<(l0.length:Int) then((Zaw.f (rd l0 (wrap64 (x7_1 - 1)))).bind fun t174004=>((Zaw.f (rd l0 x7_1)).bind fun t174005=>(if t174004≥t174005 then(some false) else(ZU.l0 k1 l0 l0 (l0.length:Int) (wrap64 (x7_1+1)))))) else(none)) else(none)) else(ZU.l0 k1 l0 l0 (l0.length:Int) (wrap64 (x7_1+1)))) else(some false))=some r:=H
       have A6:=Za A60;clear A60
       by_cases c7:t174002=true
       ·subst c7
        have H1:(if x7_1 > 0 then(if 0≤(wrap64 (x7_1 - 1)) then(if (wrap64 (x7_1 - 1))<(l0.length:Int) then((Zaw.f (rd l0 (wrap64 (x7_1 - 1)))).bind fun t174004=>((Zaw.f (rd l0 x7_1)).bind fun t174005=>(if t174004≥t174005 then(some false) else(ZU.l0 k1 l0 l0 (l0.length:Int) (wrap64 (x7_1+1)))))) else(none)) else(none)) else(ZU.l0 k1 l0 l0 (l0.length:Int) (wrap64 (x7_1+1))))=some r:=by rw[if_pos rfl] at H;exact H
        clear H
        have H:=H1
        clear H1
        by_cases c8:x7_1 > 0
        ·rw[if_pos c8] at H
         have c8b0:decide (0<x7_1)=true:=Ze c8
         clear c8
         obtain⟨ji9,hji9⟩:∃j_:Int,(wrap64 (x7_1 - 1))=j_:=⟨_,rfl⟩
         replace H:(if 0≤(ji9) then(if (ji9)<(l0.length:Int) then((Zaw.f (rd l0 (ji9))).bind fun t174004=>((Zaw.f (rd l0 x7_1)).bind fun t174005=>(if t174004≥t174005 then(some false) else(ZU.l0 k1 l0 l0 (l0.length:Int) (wrap64 (x7_1+1)))))) else(none)) else(none))=some r:=by first|(rw[hji9] at H;exact H)|(simp only[hji9] at H ⊢;exact H)
         (try rw[hji9] at A6)
         have hji9w:(IntKind.i64.wrap (x7_1 - 1))=ji9:=(ZaN _).trans hji9
         by_cases c10:0≤(ji9)
         ·rw[if_pos c10] at H
          have c10b0:decide (0≤(ji9))=true:=Ze c10
          clear c10
          by_cases c11:(ji9)<(l0.length:Int)
          ·rw[if_pos c11] at H
           have c11b0:decide ((ji9)<(l0.length:Int))=true:=Ze c11
           clear c11
           replace H:=Zh H
           obtain⟨t174004,A120,H⟩:=H
           replace H:((Zaw.f (rd l0 x7_1)).bind fun t174005=>(if t174004≥t174005 then(some false) else(ZU.l0 k1 l0 l0 (l0.length:Int) (wrap64 (x7_1+1)))))=some r:=H
           have A12:=Za A120;clear A120
           replace H:=Zh H
           obtain⟨t174005,A130,H⟩:=H
           replace H:(if t174004≥t174005 then(some false) else(ZU.l0 k1 l0 l0 (l0.length:Int) (wrap64 (x7_1+1))))=some r:=H
           have A13:=Za A130;clear A130
           by_cases c14:t174004≥t174005
           ·rw[if_pos c14] at H
            have c14b0:decide (t174005≤t174004)=true:=Ze c14
            clear c14
            obtain rfl:=Zg H
            have p174001:0≤(x7_1:Int):=Zd (by with_reducible assumption)
            have q174001:x7_1<(l0.length:Int):=Zd (by with_reducible assumption)
            obtain⟨ad174001,e174001,hx174001_0⟩:=Kd.at_int HR0.out x7_1 p174001 q174001
            cases e174001
            replace p174001:=eq_true p174001
            replace q174001:=eq_true q174001
            go_wp2_with (first|(go_at_call 68;(with_reducible refine(ZW.calls (rd l0 x7_1) (-3) 3 true _ A6.out).mono ?_);rintro e w' ⟨rfl,⟨nd,rfl⟩⟩;have p174003:0≤((ji9):Int):=Zd (by with_reducible assumption);have q174003:(ji9)<(l0.length:Int):=Zd (by with_reducible assumption);obtain⟨ad174003,e174003,hx174003_0⟩:=Kd.at_int HR0.out (ji9) p174003 q174003;obtain rfl:ad174001=ad174003:=(by injection e174003);replace p174003:=eq_true p174003;replace q174003:=eq_true q174003)|(go_at_call 141;(with_reducible refine(Zaw.calls (rd l0 (ji9)) t174004 _ A12.out).mono ?_);rintro e w' ⟨rfl,⟨nd,rfl⟩⟩)|(go_at_call 141;(with_reducible refine(Zaw.calls (rd l0 x7_1) t174005 _ A13.out).mono ?_);rintro e w' ⟨rfl,⟨nd,rfl⟩⟩))
            go_ret
            exact⟨by first|rfl|(simp;done)|(simp only[← hji9] <;> (first|rfl|simp))|(simp[*];done),by repeat(first|exact ZE.refl _|apply ZE.step)⟩
           ·rw[if_neg c14] at H
            have c14b0:decide (t174005≤t174004)=false:=Zf c14
            clear c14
            have H':=Za H
            clear H
            have p174001:0≤(x7_1:Int):=Zd (by with_reducible assumption)
            have q174001:x7_1<(l0.length:Int):=Zd (by with_reducible assumption)
            obtain⟨ad174001,e174001,hx174001_0⟩:=Kd.at_int HR0.out x7_1 p174001 q174001
            cases e174001
            replace p174001:=eq_true p174001
            replace q174001:=eq_true q174001
            go_wp2_with (first|(go_at_call 68;(with_reducible refine(ZW.calls (rd l0 x7_1) (-3) 3 true _ A6.out).mono ?_);rintro e w' ⟨rfl,⟨nd,rfl⟩⟩;have p174003:0≤((ji9):Int):=Zd (by with_reducible assumption);have q174003:(ji9)<(l0.length:Int):=Zd (by with_reducible assumption);obtain⟨ad174003,e174003,hx174003_0⟩:=Kd.at_int HR0.out (ji9) p174003 q174003;obtain rfl:ad174001=ad174003:=(by injection e174003);replace p174003:=eq_true p174003;replace q174003:=eq_true q174003)|(go_at_call 141;(with_reducible refine(Zaw.calls (rd l0 (ji9)) t174004 _ A12.out).mono ?_);rintro e w' ⟨rfl,⟨nd,rfl⟩⟩)|(go_at_call 141;(with_reducible refine(Zaw.calls (rd l0 x7_1) t174005 _ A13.out).mono ?_);rintro e w' ⟨rfl,⟨nd,rfl⟩⟩))
            go_roundg k1
            case measure=>have:=HK1.out;omega
            case rel=>exact⟨(wrap64 (x7_1+1)),(by first|rfl|(simp;done)|(simp[*];done)),H',⟨by have:=HK1.out;omega⟩,by repeat(first|exact ZE.refl _|apply ZE.step)⟩
          ·rw[if_neg c11] at H
           exact absurd H (by simp)
         ·rw[if_neg c10] at H
          exact absurd H (by simp)
        ·rw[if_neg c8] at H
         have c8b0:decide (0<x7_1)=false:=Zf c8
         clear c8
         have H':=Za H
         clear H
         have p174001:0≤(x7_1:Int):=Zd (by with_reducible assumption)
         have q174001:x7_1<(l0.length:Int):=Zd (by with_reducible assumption)
         obtain⟨ad174001,e174001,hx174001_0⟩:=Kd.at_int HR0.out x7_1 p174001 q174001
         cases e174001
         replace p174001:=eq_true p174001
         replace q174001:=eq_true q174001
         go_wp2_with (first|(go_at_call 68;(with_reducible refine(ZW.calls (rd l0 x7_1) (-3) 3 true _ A6.out).mono ?_);rintro e w' ⟨rfl,⟨nd,rfl⟩⟩))
         go_roundg k1
         case measure=>have:=HK1.out;omega
         case rel=>exact⟨(wrap64 (x7_1+1)),(by first|rfl|(simp;done)|(simp[*];done)),H',⟨by have:=HK1.out;omega⟩,by repeat(first|exact ZE.refl _|apply ZE.step)⟩
       ·replace c7:=Bool.eq_false_iff.mpr c7
        subst c7
        have H1:(some false)=some r:=by rw[if_neg (show ¬(false=true) by decide)] at H;exact H
        clear H
        have H:=H1
        clear H1
        obtain rfl:=Zg H
        have p174001:0≤(x7_1:Int):=Zd (by with_reducible assumption)
        have q174001:x7_1<(l0.length:Int):=Zd (by with_reducible assumption)
        obtain⟨ad174001,e174001,hx174001_0⟩:=Kd.at_int HR0.out x7_1 p174001 q174001
        cases e174001
        replace p174001:=eq_true p174001
        replace q174001:=eq_true q174001
        go_wp2_with (first|(go_at_call 68;(with_reducible refine(ZW.calls (rd l0 x7_1) (-3) 3 false _ A6.out).mono ?_);rintro e w' ⟨rfl,⟨nd,rfl⟩⟩))
        go_ret
        exact⟨by first|rfl|(simp;done)|(simp[*];done),by repeat(first|exact ZE.refl _|apply ZE.step)⟩
     ·rw[if_neg c4] at H
      exact absurd H (by simp)
    ·rw[if_neg c3] at H
     exact absurd H (by simp)
   ·rw[if_neg c2] at H
    have c2b0:decide (x7_1<(l0.length:Int))=false:=Zf c2
    clear c2
    obtain rfl:=Zg H
    go_wp2
    go_ret
    exact⟨by first|rfl|(simp;done)|(simp[*];done),by repeat(first|exact ZE.refl _|apply ZE.step)⟩
def ZaA.f (a0:Int):Option (Int):=some (mx a0 (wrap64 (-a0)))
set_option maxHeartbeats 8000000 in
set_option maxRecDepth 100000 in
theorem ZaA.calls (a0:Int) (r:Int) (w:World) (h:ZaA.f a0=some r) :
  Calls Try.prog 162 #[.int .i64 a0] w fun e w'=>e=.returned (.int .i64 r)∧Below w.heap.size w w':=by
 have HB:=Za (Below.refl w.heap.size w)
 have H:(some (mx a0 (wrap64 (-a0))))=some r:=h
 clear h
 obtain⟨ji2,hji2⟩:∃j_:Int,(mx a0 (wrap64 (-a0)))=j_:=⟨_,rfl⟩
 replace H:(some ji2)=some r:=by first|(rw[hji2] at H;exact H)|(simp only[hji2] at H ⊢;exact H)
 have hji2_:(if a0<(wrap64 (-a0)) then(wrap64 (-a0)) else a0)=ji2:=hji2
 obtain rfl:=Zg H
 go_enter Try.func162,Try.ntmps162
 go_wp2
 go_ret
 exact⟨by first|rfl|(simp[ZB,ZA] <;> rfl)|(simp only[← hji2];first|rfl|(simp[ZB,ZA] <;> rfl))|(simp[*,ZB,ZA] <;> rfl),by repeat(first|(with_reducible first|exact HB.out|apply Zn|apply Zm|apply Zt)|exact HB.out)⟩
def Z1.l0:Nat→List Int→List Int→Int→Int→Option (Bool)
 | 0,_,_,_,_=>none
 | k+1,x0,x5,x6,x7=>if x7<x6 then(if 0≤x7 then(if x7<(x5.length:Int) then(if (rd x5 x7)=0 then(some false) else(if (rd x5 x7)<(-3) then(some false) else(if (rd x5 x7) > 3 then(some false) else(if x7 > 0 then(if 0≤(wrap64 (x7 - 1)) then(if (wrap64 (x7 - 1))<(x0.length:Int) then((ZaA.f (rd x0 (wrap64 (x7 - 1)))).bind fun t168003=>((ZaA.f (rd x5 x7)).bind fun t168004=>(if t168003≥t168004 then(some false) else(Z1.l0 k x0 x5 x6 (wrap64 (x7+1)))))) else(none)) else(none)) else(Z1.l0 k x0 x5 x6 (wrap64 (x7+1))))))) else(none)) else(none)) else(some true)
def Z1.f (k:Nat) (l0:List Int):Option (Bool):=Z1.l0 k l0 l0 (l0.length:Int) 0
set_option maxHeartbeats 8000000 in
set_option maxRecDepth 100000 in
theorem Z1.calls (k:Nat) (A0:Option Addr) (c0:Nat) (l0:List Int) (r:Bool) (w:World) (hr0:Kd.C (Kd.int .i64) w A0 l0.length l0) (hc0:l0.length≤c0) (h:Z1.f k l0=some r) :
  Calls Try.prog 168 #[.slice A0 l0.length c0] w fun e w'=>e=.returned (.bool r)∧Below w.heap.size w w':=by
 have HR0:=Za hr0;have HC0:=Za hc0;clear hr0 hc0
 have HB:=Za (Below.refl w.heap.size w)
 have H:(Z1.l0 k l0 l0 (l0.length:Int) 0)=some r:=h
 clear h
 have H':=Za H
 clear H
 go_enter Try.func168,Try.ntmps168
 go_wp2
 go_loopg [7] k (fun kq v7 w'=>∃(x7_1:Int),v7=.int .i64 x7_1∧Aside0 (Z1.l0 kq l0 l0 (l0.length:Int) x7_1=some r)∧Aside0 (kq≤k)∧Aside0 (Below w.heap.size w w'))
 case atStart=>exact⟨(0),(by first|rfl|(simp;done)|(simp[*];done)),H',⟨Nat.le_refl _⟩,⟨by repeat(first|(with_reducible first|exact HB.out|apply Zn|apply Zm|apply Zt)|exact HB.out)⟩⟩
 case round=>
  clear H'
  try clear c1
  obtain⟨x7_1,rfl,HA,HK1,HB⟩:=hrel
  cases gk with
  | zero=>exact absurd HA.out (by simp[Z1.l0])
  | succ k1=>
   have H:=HA.out
   clear HA
   simp only[Z1.l0] at H
   by_cases c2:x7_1<(l0.length:Int)
   ·rw[if_pos c2] at H
    have c2b0:decide (x7_1<(l0.length:Int))=true:=Ze c2
    clear c2
    by_cases c3:0≤x7_1
    ·rw[if_pos c3] at H
     have c3b0:decide (0≤x7_1)=true:=Ze c3
     clear c3
     by_cases c4:x7_1<(l0.length:Int)
     ·rw[if_pos c4] at H
      have c4b0:decide (x7_1<(l0.length:Int))=true:=Ze c4
      clear c4
      by_cases c5:(rd l0 x7_1)=0
      ·rw[if_pos c5] at H
       have c5b0:((rd l0 x7_1) == 0)=true:=beq_iff_eq.mpr c5
       have c5b1:((rd l0 x7_1) != 0)=false:=bne_eq_false_iff_eq.mpr c5
       clear c5
       obtain rfl:=Zg H
       have p168001:0≤(x7_1:Int):=Zd (by with_reducible assumption)
       have q168001:x7_1<(l0.length:Int):=Zd (by with_reducible assumption)
       obtain⟨ad168001,e168001,hx168001_0⟩:=Kd.at_int HR0.out x7_1 p168001 q168001
       cases e168001
       replace hx168001_0:=(HB.out.cell (Zc w _ hx168001_0)).trans hx168001_0
       replace p168001:=eq_true p168001
       replace q168001:=eq_true q168001
       go_wp2
       go_ret
       exact⟨by first|rfl|(simp[ZB,ZA] <;> rfl)|(simp[*,ZB,ZA] <;> rfl),by repeat(first|(with_reducible first|exact HB.out|apply Zn|apply Zm|apply Zt)|exact HB.out)⟩
      ·rw[if_neg c5] at H
       have c5b0:((rd l0 x7_1) == 0)=false:=beq_eq_false_iff_ne.mpr c5
       have c5b1:((rd l0 x7_1) != 0)=true:=bne_iff_ne.mpr c5
       by_cases c6:(rd l0 x7_1)<(-3)
       ·rw[if_pos c6] at H
        have c6b0:decide ((rd l0 x7_1)<(-3))=true:=Ze c6
        clear c6
        obtain rfl:=Zg H
        have p168001:0≤(x7_1:Int):=Zd (by with_reducible assumption)
        have q168001:x7_1<(l0.length:Int):=Zd (by with_reducible assumption)
        obtain⟨ad168001,e168001,hx168001_0⟩:=Kd.at_int HR0.out x7_1 p168001 q168001
        cases e168001
        replace hx168001_0:=(HB.out.cell (Zc w _ hx168001_0)).trans hx168001_0
        replace p168001:=eq_true p168001
        replace q168001:=eq_true q168001
        go_wp2
        go_ret
        exact⟨by first|rfl|(simp[ZB,ZA] <;> rfl)|(simp[*,ZB,ZA] <;> rfl),by repeat(first|(with_reducible first|exact HB.out|apply Zn|apply Zm|apply Zt)|exact HB.out)⟩
       ·rw[if_neg c6] at H
        have c6b0:decide ((rd l0 x7_1)<(-3))=false:=Zf c6
        clear c6
        by_cases c7:(rd l0 x7_1) > 3
        ·rw[if_pos c7] at H
         have c7b0:decide (3<(rd l0 x7_1))=true:=Ze c7
         clear c7
         obtain rfl:=Zg H
         have p168001:0≤(x7_1:Int):=Zd (by with_reducible assumption)
         have q168001:x7_1<(l0.length:Int):=Zd (by with_reducible assumption)
         obtain⟨ad168001,e168001,hx168001_0⟩:=Kd.at_int HR0.out x7_1 p168001 q168001
         cases e168001
         replace hx168001_0:=(HB.out.cell (Zc w _ hx168001_0)).trans hx168001_0
         replace p168001:=eq_true p168001
         replace q168001:=eq_true q168001
         go_wp2
         go_ret
         exact⟨by first|rfl|(simp[ZB,ZA] <;> rfl)|(simp[*,ZB,ZA] <;> rfl),by repeat(first|(with_reducible first|exact HB.out|apply Zn|apply Zm|apply Zt)|exact HB.out)⟩
        ·rw[if_neg c7] at H
         have c7b0:decide (3<(rd l0 x7_1))=false:=Zf c7
         clear c7
         by_cases c8:x7_1 > 0
         ·rw[if_pos c8] at H
          have c8b0:decide (0<x7_1)=true:=Ze c8
          clear c8
          obtain⟨ji9,hji9⟩:∃j_:Int,(wrap64 (x7_1 - 1))=j_:=⟨_,rfl⟩
          replace H:(if 0≤(ji9) then(if (ji9)<(l0.length:Int) then((ZaA.f (rd l0 (ji9))).bind fun t168003=>((ZaA.f (rd l0 x7_1)).bind fun t168004=>(if t168003≥t168004 then(some false) else(Z1.l0 k1 l0 l0 (l0.length:Int) (wrap64 (x7_1+1)))))) else(none)) else(none))=some r:=by first|(rw[hji9] at H;exact H)|(simp only[hji9] at H ⊢;exact H)
          have hji9w:(IntKind.i64.wrap (x7_1 - 1))=ji9:=(ZaN _).trans hji9
          by_cases c10:0≤(ji9)
          ·rw[if_pos c10] at H
           have c10b0:decide (0≤(ji9))=true:=Ze c10
           clear c10
           by_cases c11:(ji9)<(l0.length:Int)
           ·rw[if_pos c11] at H
            have c11b0:decide ((ji9)<(l0.length:Int))=true:=Ze c11
            clear c11
            replace H:=Zh H
            obtain⟨t168003,A120,H⟩:=H
            replace H:((ZaA.f (rd l0 x7_1)).bind fun t168004=>(if t168003≥t168004 then(some false) else(Z1.l0 k1 l0 l0 (l0.length:Int) (wrap64 (x7_1+1)))))=some r:=H
            have A12:=Za A120;clear A120
            replace H:=Zh H
            obtain⟨t168004,A130,H⟩:=H
            replace H:(if t168003≥t168004 then(some false) else(Z1.l0 k1 l0 l0 (l0.length:Int) (wrap64 (x7_1+1))))=some r:=H
            have A13:=Za A130;clear A130
            by_cases c14:t168003≥t168004
            ·rw[if_pos c14] at H
             have c14b0:decide (t168004≤t168003)=true:=Ze c14
             clear c14
             obtain rfl:=Zg H
             have p168001:0≤(x7_1:Int):=Zd (by with_reducible assumption)
             have q168001:x7_1<(l0.length:Int):=Zd (by with_reducible assumption)
             obtain⟨ad168001,e168001,hx168001_0⟩:=Kd.at_int HR0.out x7_1 p168001 q168001
             cases e168001
             replace hx168001_0:=(HB.out.cell (Zc w _ hx168001_0)).trans hx168001_0
             replace p168001:=eq_true p168001
             replace q168001:=eq_true q168001
             have p168002:0≤((ji9):Int):=Zd (by with_reducible assumption)
             have q168002:(ji9)<(l0.length:Int):=Zd (by with_reducible assumption)
             obtain⟨ad168002,e168002,hx168002_0⟩:=Kd.at_int HR0.out (ji9) p168002 q168002
             obtain rfl:ad168001=ad168002:=(by injection e168002)
             replace hx168002_0:=(HB.out.cell (Zc w _ hx168002_0)).trans hx168002_0
             replace p168002:=eq_true p168002
             replace q168002:=eq_true q168002
             go_wp2_with (first|(go_at_call 162;(with_reducible refine(ZaA.calls (rd l0 (ji9)) t168003 _ A12.out).mono ?_);rintro e w15 ⟨rfl,hb⟩;replace HB:=Za (Zw (by exact HB.out) hb);(try clear hb);(try clear hb2);(try clear hk);(try clear hi))|(go_at_call 162;(with_reducible refine(ZaA.calls (rd l0 x7_1) t168004 _ A13.out).mono ?_);rintro e w16 ⟨rfl,hb⟩;replace HB:=Za (Zw (by exact HB.out) hb);(try clear hb);(try clear hb2);(try clear hk);(try clear hi)))
             go_ret
             exact⟨by first|rfl|(simp[ZB,ZA] <;> rfl)|(simp only[← hji9];first|rfl|(simp[ZB,ZA] <;> rfl))|(simp[*,ZB,ZA] <;> rfl),by repeat(first|(with_reducible first|exact HB.out|apply Zn|apply Zm|apply Zt)|exact HB.out)⟩
            ·rw[if_neg c14] at H
             have c14b0:decide (t168004≤t168003)=false:=Zf c14
             clear c14
             have H':=Za H
             clear H
             have p168001:0≤(x7_1:Int):=Zd (by with_reducible assumption)
             have q168001:x7_1<(l0.length:Int):=Zd (by with_reducible assumption)
             obtain⟨ad168001,e168001,hx168001_0⟩:=Kd.at_int HR0.out x7_1 p168001 q168001
             cases e168001
             replace hx168001_0:=(HB.out.cell (Zc w _ hx168001_0)).trans hx168001_0
             replace p168001:=eq_true p168001
             replace q168001:=eq_true q168001
             have p168002:0≤((ji9):Int):=Zd (by with_reducible assumption)
             have q168002:(ji9)<(l0.length:Int):=Zd (by with_reducible assumption)
             obtain⟨ad168002,e168002,hx168002_0⟩:=Kd.at_int HR0.out (ji9) p168002 q168002
             obtain rfl:ad168001=ad168002:=(by injection e168002)
             replace hx168002_0:=(HB.out.cell (Zc w _ hx168002_0)).trans hx168002_0
             replace p168002:=eq_true p168002
             replace q168002:=eq_true q168002
             go_wp2_with (first|(go_at_call 162;(with_reducible refine(ZaA.calls (rd l0 (ji9)) t168003 _ A12.out).mono ?_);rintro e w17 ⟨rfl,hb⟩;replace HB:=Za (Zw (by exact HB.out) hb);(try clear hb);(try clear hb2);(try clear hk);(try clear hi))|(go_at_call 162;(with_reducible refine(ZaA.calls (rd l0 x7_1) t168004 _ A13.out).mono ?_);rintro e w18 ⟨rfl,hb⟩;replace HB:=Za (Zw (by exact HB.out) hb);(try clear hb);(try clear hb2);(try clear hk);(try clear hi)))
             go_roundg k1
             case measure=>have:=HK1.out;omega
             case rel=>exact⟨(wrap64 (x7_1+1)),(by first|rfl|(simp;done)|(simp[*];done)),H',⟨by have:=HK1.out;omega⟩,⟨by repeat(first|(with_reducible first|exact HB.out|apply Zn|apply Zm|apply Zt)|exact HB.out)⟩⟩
           ·rw[if_neg c11] at H
            exact absurd H (by simp)
          ·rw[if_neg c10] at H
           exact absurd H (by simp)
         ·rw[if_neg c8] at H
          have c8b0:decide (0<x7_1)=false:=Zf c8
          clear c8
          have H':=Za H
          clear H
          have p168001:0≤(x7_1:Int):=Zd (by with_reducible assumption)
          have q168001:x7_1<(l0.length:Int):=Zd (by with_reducible assumption)
          obtain⟨ad168001,e168001,hx168001_0⟩:=Kd.at_int HR0.out x7_1 p168001 q168001
          cases e168001
          replace hx168001_0:=(HB.out.cell (Zc w _ hx168001_0)).trans hx168001_0
          replace p168001:=eq_true p168001
          replace q168001:=eq_true q168001
          go_wp2
          go_roundg k1
          case measure=>have:=HK1.out;omega
          case rel=>exact⟨(wrap64 (x7_1+1)),(by first|rfl|(simp;done)|(simp[*];done)),H',⟨by have:=HK1.out;omega⟩,⟨by repeat(first|(with_reducible first|exact HB.out|apply Zn|apply Zm|apply Zt)|exact HB.out)⟩⟩
     ·rw[if_neg c4] at H
      exact absurd H (by simp)
    ·rw[if_neg c3] at H
     exact absurd H (by simp)
   ·rw[if_neg c2] at H
    have c2b0:decide (x7_1<(l0.length:Int))=false:=Zf c2
    clear c2
    obtain rfl:=Zg H
    go_wp2
    go_ret
    exact⟨by first|rfl|(simp[ZB,ZA] <;> rfl)|(simp[*,ZB,ZA] <;> rfl),by repeat(first|(with_reducible first|exact HB.out|apply Zn|apply Zm|apply Zt)|exact HB.out)⟩
end Go.Proofs.Ytodfnelilhjoeaa.Pr
namespace Go.Proofs.Ytodfnelilhjoeaa.Pr
open Go.RowKit Go.Proofs.YtodfnelilhjoeaaW.PrintWords Go.Proofs.YtodfnelilhjoeaaW.PrintMore Go.Proofs.Ytodfnelilhjoeaa.Ni
theorem Zdo {x:Int} (h:Zbc x=true):Zaw.f x=some (prp x):=by
 have:=(Zbo x).1 h
 unfold Zaw.f prp
 split
 ·rw[ZaJ (by omega) (by omega)]
 ·rfl
theorem ZdH {x:Int} (h:Zbc x=true):ZaA.f x=some (prp x):=by
 have:=(Zbo x).1 h
 unfold ZaA.f prp mx
 rw[ZaJ (by omega) (by omega)]
 congr 1
 split <;> split <;> omega
theorem Zch (l:List Int) (hl:l.length≤9223372036854775807) (k:Nat) (hk:2 ^ 64≤k):ZU.f k l=some (labB l):=by
 have key:=ZaC l.length (fun k i=>(0<i→Zbc (l.getD (i - 1) 0)=true)→ZU.l0 k l l l.length (i:Int)=some (Zb2 (if i=0 then 0 else prp (l.getD (i - 1) 0)) (l.drop i))) 0
  (fun k _ _=>by simp[ZU.l0,Zb2])
  (fun k i _ hi ih hb=>by
   simp only[ZU.l0]
   rw[if_pos (by omega),if_pos (by omega),if_pos (by omega),Zbk,Z6 hi (by omega),ZaE hi 0]
   unfold Zb2
   have ih':=fun h=>ih (fun _=>h)
   simp only[Nat.add_sub_cancel,Nat.add_eq_zero_iff,Nat.one_ne_zero,and_false,if_false] at ih'
   by_cases h0:l.getD i 0=0
   ·rw[if_pos h0,h0];simp[Zbc]
   rw[if_neg h0]
   unfold ZW.f
   by_cases h1:l.getD i 0≥-3
   ·rw[if_pos h1,Zi]
    by_cases h2:l.getD i 0≤3
    ·have hok:Zbc (l.getD i 0)=true:=(Zbo _).2 ⟨h0,h1,h2⟩
     have hp:=prp_pos hok
     rw[if_pos (by simpa using h2)]
     by_cases hi0:i=0
     ·subst hi0
      rw[if_neg (by omega),ih' hok,hok]
      simp only[Bool.true_and,if_true]
      rw[Ze (show(0:Int)<prp (l.getD 0 0) by omega)]
      rfl
     ·rw[if_pos (by omega),wrap_pred (by omega) (by omega),if_pos (by omega),if_pos (by omega),Zbk,Zdo (hb (by omega)),Zi,Zdo hok,Zi,if_neg hi0,hok]
      by_cases hlt:prp (l.getD (i - 1) 0)<prp (l.getD i 0)
      ·rw[if_neg (by omega),ih' hok,Ze hlt];rfl
      ·rw[if_pos (by omega),Zf hlt];rfl
    ·rw[if_neg (by simpa using h2)]
     rw[show Zbc (l.getD i 0)=false from Bool.eq_false_iff.2 fun h=>by have:=(Zbo _).1 h;omega];rfl
   ·rw[if_neg h1,Zi,if_neg (by decide)]
    rw[show Zbc (l.getD i 0)=false from Bool.eq_false_iff.2 fun h=>by have:=(Zbo _).1 h;omega];rfl) 0 k (Nat.zero_le _) (by omega)
 unfold ZU.f labB
 have:=key (fun h=>absurd h (by omega))
 simpa using this
theorem Zck (l:List Int) (hl:l.length≤9223372036854775807) (k:Nat) (hk:2 ^ 64≤k):Z1.f k l=some (labB l):=by
 have key:=ZaC l.length (fun k i=>(0<i→Zbc (l.getD (i - 1) 0)=true)→Z1.l0 k l l l.length (i:Int)=some (Zb2 (if i=0 then 0 else prp (l.getD (i - 1) 0)) (l.drop i))) 0
  (fun k _ _=>by simp[Z1.l0,Zb2])
  (fun k i _ hi ih hb=>by
   simp only[Z1.l0]
   rw[if_pos (by omega),if_pos (by omega),if_pos (by omega),Zbk,Z6 hi (by omega),ZaE hi 0]
   unfold Zb2
   have ih':=fun h=>ih (fun _=>h)
   simp only[Nat.add_sub_cancel,Nat.add_eq_zero_iff,Nat.one_ne_zero,and_false,if_false] at ih'
   by_cases h0:l.getD i 0=0
   ·rw[if_pos h0,h0];simp[Zbc]
   rw[if_neg h0]
   by_cases h1:l.getD i 0≥-3
   ·rw[if_neg (by omega)]
    by_cases h2:l.getD i 0≤3
    ·have hok:Zbc (l.getD i 0)=true:=(Zbo _).2 ⟨h0,h1,h2⟩
     have hp:=prp_pos hok
     rw[if_neg (by omega)]
     by_cases hi0:i=0
     ·subst hi0
      rw[if_neg (by omega),ih' hok,hok]
      simp only[Bool.true_and,if_true]
      rw[Ze (show(0:Int)<prp (l.getD 0 0) by omega)]
      rfl
     ·rw[if_pos (by omega),wrap_pred (by omega) (by omega),if_pos (by omega),if_pos (by omega),Zbk,ZdH (hb (by omega)),Zi,ZdH hok,Zi,if_neg hi0,hok]
      by_cases hlt:prp (l.getD (i - 1) 0)<prp (l.getD i 0)
      ·rw[if_neg (by omega),ih' hok,Ze hlt];rfl
      ·rw[if_pos (by omega),Zf hlt];rfl
    ·rw[if_pos (by omega)]
     rw[show Zbc (l.getD i 0)=false from Bool.eq_false_iff.2 fun h=>by have:=(Zbo _).1 h;omega];rfl
   ·rw[if_pos (by omega)]
    rw[show Zbc (l.getD i 0)=false from Bool.eq_false_iff.2 fun h=>by have:=(Zbo _).1 h;omega];rfl) 0 k (Nat.zero_le _) (by omega)
 unfold Z1.f labB
 have:=key (fun h=>absurd h (by omega))
 simpa using this
end Go.Proofs.Ytodfnelilhjoeaa.Pr
namespace Go.Proofs.Ytodfnelilhjoeaa.Pr
open Go.RowKit Go.Proofs.YtodfnelilhjoeaaW.PrintWords Go.Proofs.YtodfnelilhjoeaaW.PrintLast Go.Proofs.YtodfnelilhjoeaaW.PrintMore
attribute [local go_sem] Zac Zaa Zam Zal Z5 Z4 Zab Z9
set_option linter.unusedVariables false
set_option linter.unusedSimpArgs false
def Zca.f (k:Nat) (a0_0:ByteArray) (l0_1:List Int) (a0_2:Int):Option (Bool):=(Zas.f k a0_0).bind fun t153002=>(if t153002=true then((ZU.f k l0_1).bind fun t153003=>(if t153003=true then((ZW.f a0_2 0 3).bind fun t153004=>(some t153004)) else(some false))) else(some false))
set_option maxHeartbeats 8000000 in
set_option maxRecDepth 100000 in
theorem Zca.calls (k:Nat) (a0_0:ByteArray) (A0_1:Option Addr) (c0_1:Nat) (l0_1:List Int) (a0_2:Int) (r:Bool) (w:World) (hr0_1:Kd.C (Kd.int .i64) w A0_1 l0_1.length l0_1) (hc0_1:l0_1.length≤c0_1) (h:Zca.f k a0_0 l0_1 a0_2=some r) :
  Calls Try.prog 153 #[.agg #[.string a0_0,.slice A0_1 l0_1.length c0_1,.int .i64 a0_2]] w fun e w'=>e=.returned (.bool r)∧Below w.heap.size w w':=by
 have hu116:=Try.underlying116
 have HR0_1:=Za hr0_1;have HC0_1:=Za hc0_1;clear hr0_1 hc0_1
 have HB:=Za (Below.refl w.heap.size w)
 have H:((Zas.f k a0_0).bind fun t153002=>(if t153002=true then((ZU.f k l0_1).bind fun t153003=>(if t153003=true then((ZW.f a0_2 0 3).bind fun t153004=>(some t153004)) else(some false))) else(some false)))=some r:=h
 clear h
 replace H:=Zh H
 obtain⟨t153002,A20,H⟩:=H
 replace H:(if t153002=true then((ZU.f k l0_1).bind fun t153003=>(if t153003=true then((ZW.f a0_2 0 3).bind fun t153004=>(some t153004)) else(some false))) else(some false))=some r:=H
 have A2:=Za A20;clear A20
 by_cases c3:t153002=true
 ·subst c3
  have H1:((ZU.f k l0_1).bind fun t153003=>(if t153003=true then((ZW.f a0_2 0 3).bind fun t153004=>(some t153004)) else(some false)))=some r:=by rw[if_pos rfl] at H;exact H
  clear H
  have H:=H1
  clear H1
  replace H:=Zh H
  obtain⟨t153003,A40,H⟩:=H
  replace H:(if t153003=true then((ZW.f a0_2 0 3).bind fun t153004=>(some t153004)) else(some false))=some r:=H
  have A4:=Za A40;clear A40
  by_cases c5:t153003=true
  ·subst c5
   have H1:((ZW.f a0_2 0 3).bind fun t153004=>(some t153004))=some r:=by rw[if_pos rfl] at H;exact H
   clear H
   have H:=H1
   clear H1
   replace H:=Zh H
   obtain⟨t153004,A60,H⟩:=H
   replace H:(some t153004)=some r:=H
   have A6:=Za A60;clear A60
   obtain rfl:=Zg H
   go_enter Try.func153,Try.ntmps153
   go_wp2_with (first|((with_reducible refine ZI (N:=1) rfl ?_);refine ZH ?hg (N:=1) ?hd (cs:=#[.string a0_0,.slice A0_1 l0_1.length c0_1,.int .i64 a0_2]) (t:=116) ?hr ?_;(case hd=>rfl);(case hg=>rfl);(case hr=>first|(go_simp;done)|(go_simp;rfl));intro gb153001 hg w7 hbox hb;have BK153001:=Za (hbox);have GW153001:=Za ((by rw[hg];exact(Zx (by repeat(first|(with_reducible first|exact HB.out|apply Zn|apply Zm|apply Zt)|exact HB.out))):w.heap.size≤gb153001));have GE153001:=Za ((by rw[hg];exact(Zx (by repeat(first|(with_reducible first|exact HB.out|apply Zn|apply Zm|apply Zt)|exact HB.out))):w.heap.size≤gb153001));replace HB:=Za (Zw (by repeat(first|(with_reducible first|exact HB.out|apply Zn|apply Zm|apply Zt)|exact HB.out)) hb);clear hb hbox hg;have hcz8_0:w7.cell? ⟨gb153001,0,none⟩=some (.string a0_0):=(Zs BK153001.out 0).trans rfl;have hcz8_1:w7.cell? ⟨gb153001,1,none⟩=some (.slice A0_1 l0_1.length c0_1):=(Zs BK153001.out 1).trans rfl;have hcz8_2:w7.cell? ⟨gb153001,2,none⟩=some (.int .i64 a0_2):=(Zs BK153001.out 2).trans rfl;have hfz8_0:=Zr BK153001.out 0;have hfz8_1:=Zr BK153001.out 1;have hfz8_2:=Zr BK153001.out 2)|((with_reducible refine ZG (f:=173) rfl ?_);refine ZQ (some 5) rfl rfl Try.func173 (by kernel_rfl) rfl #[.string a0_0] rfl (by(try simp only[List.map_toArray,List.map_cons,List.map_nil]);first|done|rfl|(simp only[Zk,Zj];rfl)) ?_;(with_reducible refine(Zas.calls k a0_0 true _ A2.out).mono ?_);rintro e w' ⟨rfl,⟨nd,rfl⟩⟩;refine⟨_,rfl,?_⟩)|(go_at_call 174;(with_reducible refine(ZU.calls k _ _ l0_1 true _ ?side1 ?side2 A4.out).mono ?_);(case side1=>repeat(first|exact(Zb HR0_1.out (by repeat(first|(with_reducible first|exact HB.out|apply Zn|apply Zm|apply Zt|refine Zq ?_ GE153001.out)|exact HB.out)))|(with_reducible refine Kd.C_alloc ?_ _)|(with_reducible refine Kd.C_drewN ?_ _)|(with_reducible refine Kd.C_drew ?_)));(case side2=>exact HC0_1.out);rintro e w' ⟨rfl,⟨nd,rfl⟩⟩)|(go_at_call 68;(with_reducible refine(ZW.calls a0_2 0 3 t153004 _ A6.out).mono ?_);rintro e w' ⟨rfl,⟨nd,rfl⟩⟩))
   go_ret
   exact⟨by first|rfl|(simp[ZB,ZA] <;> rfl)|(simp[*,ZB,ZA] <;> rfl),by repeat(first|(with_reducible first|exact HB.out|apply Zn|apply Zm|apply Zt|refine Zq ?_ GE153001.out)|exact HB.out)⟩
  ·replace c5:=Bool.eq_false_iff.mpr c5
   subst c5
   have H1:(some false)=some r:=by rw[if_neg (show ¬(false=true) by decide)] at H;exact H
   clear H
   have H:=H1
   clear H1
   obtain rfl:=Zg H
   go_enter Try.func153,Try.ntmps153
   go_wp2_with (first|((with_reducible refine ZI (N:=1) rfl ?_);refine ZH ?hg (N:=1) ?hd (cs:=#[.string a0_0,.slice A0_1 l0_1.length c0_1,.int .i64 a0_2]) (t:=116) ?hr ?_;(case hd=>rfl);(case hg=>rfl);(case hr=>first|(go_simp;done)|(go_simp;rfl));intro gb153001 hg w9 hbox hb;have BK153001:=Za (hbox);have GW153001:=Za ((by rw[hg];exact(Zx (by repeat(first|(with_reducible first|exact HB.out|apply Zn|apply Zm|apply Zt)|exact HB.out))):w.heap.size≤gb153001));have GE153001:=Za ((by rw[hg];exact(Zx (by repeat(first|(with_reducible first|exact HB.out|apply Zn|apply Zm|apply Zt)|exact HB.out))):w.heap.size≤gb153001));replace HB:=Za (Zw (by repeat(first|(with_reducible first|exact HB.out|apply Zn|apply Zm|apply Zt)|exact HB.out)) hb);clear hb hbox hg;have hcz10_0:w9.cell? ⟨gb153001,0,none⟩=some (.string a0_0):=(Zs BK153001.out 0).trans rfl;have hcz10_1:w9.cell? ⟨gb153001,1,none⟩=some (.slice A0_1 l0_1.length c0_1):=(Zs BK153001.out 1).trans rfl;have hcz10_2:w9.cell? ⟨gb153001,2,none⟩=some (.int .i64 a0_2):=(Zs BK153001.out 2).trans rfl;have hfz10_0:=Zr BK153001.out 0;have hfz10_1:=Zr BK153001.out 1;have hfz10_2:=Zr BK153001.out 2)|((with_reducible refine ZG (f:=173) rfl ?_);refine ZQ (some 5) rfl rfl Try.func173 (by kernel_rfl) rfl #[.string a0_0] rfl (by(try simp only[List.map_toArray,List.map_cons,List.map_nil]);first|done|rfl|(simp only[Zk,Zj];rfl)) ?_;(with_reducible refine(Zas.calls k a0_0 true _ A2.out).mono ?_);rintro e w' ⟨rfl,⟨nd,rfl⟩⟩;refine⟨_,rfl,?_⟩)|(go_at_call 174;(with_reducible refine(ZU.calls k _ _ l0_1 false _ ?side1 ?side2 A4.out).mono ?_);(case side1=>repeat(first|exact(Zb HR0_1.out (by repeat(first|(with_reducible first|exact HB.out|apply Zn|apply Zm|apply Zt|refine Zq ?_ GE153001.out)|exact HB.out)))|(with_reducible refine Kd.C_alloc ?_ _)|(with_reducible refine Kd.C_drewN ?_ _)|(with_reducible refine Kd.C_drew ?_)));(case side2=>exact HC0_1.out);rintro e w' ⟨rfl,⟨nd,rfl⟩⟩))
   go_ret
   exact⟨by first|rfl|(simp[ZB,ZA] <;> rfl)|(simp[*,ZB,ZA] <;> rfl),by repeat(first|(with_reducible first|exact HB.out|apply Zn|apply Zm|apply Zt|refine Zq ?_ GE153001.out)|exact HB.out)⟩
 ·replace c3:=Bool.eq_false_iff.mpr c3
  subst c3
  have H1:(some false)=some r:=by rw[if_neg (show ¬(false=true) by decide)] at H;exact H
  clear H
  have H:=H1
  clear H1
  obtain rfl:=Zg H
  go_enter Try.func153,Try.ntmps153
  go_wp2_with (first|((with_reducible refine ZI (N:=1) rfl ?_);refine ZH ?hg (N:=1) ?hd (cs:=#[.string a0_0,.slice A0_1 l0_1.length c0_1,.int .i64 a0_2]) (t:=116) ?hr ?_;(case hd=>rfl);(case hg=>rfl);(case hr=>first|(go_simp;done)|(go_simp;rfl));intro gb153001 hg w11 hbox hb;have BK153001:=Za (hbox);have GW153001:=Za ((by rw[hg];exact(Zx (by repeat(first|(with_reducible first|exact HB.out|apply Zn|apply Zm|apply Zt)|exact HB.out))):w.heap.size≤gb153001));have GE153001:=Za ((by rw[hg];exact(Zx (by repeat(first|(with_reducible first|exact HB.out|apply Zn|apply Zm|apply Zt)|exact HB.out))):w.heap.size≤gb153001));replace HB:=Za (Zw (by repeat(first|(with_reducible first|exact HB.out|apply Zn|apply Zm|apply Zt)|exact HB.out)) hb);clear hb hbox hg;have hcz12_0:w11.cell? ⟨gb153001,0,none⟩=some (.string a0_0):=(Zs BK153001.out 0).trans rfl;have hcz12_1:w11.cell? ⟨gb153001,1,none⟩=some (.slice A0_1 l0_1.length c0_1):=(Zs BK153001.out 1).trans rfl;have hcz12_2:w11.cell? ⟨gb153001,2,none⟩=some (.int .i64 a0_2):=(Zs BK153001.out 2).trans rfl;have hfz12_0:=Zr BK153001.out 0;have hfz12_1:=Zr BK153001.out 1;have hfz12_2:=Zr BK153001.out 2)|((with_reducible refine ZG (f:=173) rfl ?_);refine ZQ (some 5) rfl rfl Try.func173 (by kernel_rfl) rfl #[.string a0_0] rfl (by(try simp only[List.map_toArray,List.map_cons,List.map_nil]);first|done|rfl|(simp only[Zk,Zj];rfl)) ?_;(with_reducible refine(Zas.calls k a0_0 false _ A2.out).mono ?_);rintro e w' ⟨rfl,⟨nd,rfl⟩⟩;refine⟨_,rfl,?_⟩))
  go_ret
  exact⟨by first|rfl|(simp[ZB,ZA] <;> rfl)|(simp[*,ZB,ZA] <;> rfl),by repeat(first|(with_reducible first|exact HB.out|apply Zn|apply Zm|apply Zt|refine Zq ?_ GE153001.out)|exact HB.out)⟩
def ZbO.f (k:Nat) (a0_0:ByteArray) (l0_1:List Int) (a0_2:Int):Option (Bool):=(Zak.f k a0_0).bind fun t157002=>(if t157002=true then((Z1.f k l0_1).bind fun t157003=>(if t157003=true then(if a0_2≥0 then(some (decide (a0_2≤3))) else(some false)) else(some false))) else(some false))
set_option maxHeartbeats 8000000 in
set_option maxRecDepth 100000 in
theorem ZbO.calls (k:Nat) (a0_0:ByteArray) (A0_1:Option Addr) (c0_1:Nat) (l0_1:List Int) (a0_2:Int) (r:Bool) (w:World) (hr0_1:Kd.C (Kd.int .i64) w A0_1 l0_1.length l0_1) (hc0_1:l0_1.length≤c0_1) (h:ZbO.f k a0_0 l0_1 a0_2=some r) :
  Calls Try.prog 157 #[.agg #[.string a0_0,.slice A0_1 l0_1.length c0_1,.int .i64 a0_2]] w fun e w'=>e=.returned (.bool r)∧Below w.heap.size w w':=by
 have hu116:=Try.underlying116
 have HR0_1:=Za hr0_1;have HC0_1:=Za hc0_1;clear hr0_1 hc0_1
 have HB:=Za (Below.refl w.heap.size w)
 have H:((Zak.f k a0_0).bind fun t157002=>(if t157002=true then((Z1.f k l0_1).bind fun t157003=>(if t157003=true then(if a0_2≥0 then(some (decide (a0_2≤3))) else(some false)) else(some false))) else(some false)))=some r:=h
 clear h
 replace H:=Zh H
 obtain⟨t157002,A20,H⟩:=H
 replace H:(if t157002=true then((Z1.f k l0_1).bind fun t157003=>(if t157003=true then(if a0_2≥0 then(some (decide (a0_2≤3))) else(some false)) else(some false))) else(some false))=some r:=H
 have A2:=Za A20;clear A20
 by_cases c3:t157002=true
 ·subst c3
  have H1:((Z1.f k l0_1).bind fun t157003=>(if t157003=true then(if a0_2≥0 then(some (decide (a0_2≤3))) else(some false)) else(some false)))=some r:=by rw[if_pos rfl] at H;exact H
  clear H
  have H:=H1
  clear H1
  replace H:=Zh H
  obtain⟨t157003,A40,H⟩:=H
  replace H:(if t157003=true then(if a0_2≥0 then(some (decide (a0_2≤3))) else(some false)) else(some false))=some r:=H
  have A4:=Za A40;clear A40
  by_cases c5:t157003=true
  ·subst c5
   have H1:(if a0_2≥0 then(some (decide (a0_2≤3))) else(some false))=some r:=by rw[if_pos rfl] at H;exact H
   clear H
   have H:=H1
   clear H1
   by_cases c6:a0_2≥0
   ·rw[if_pos c6] at H
    have c6b0:decide (0≤a0_2)=true:=Ze c6
    clear c6
    obtain rfl:=Zg H
    go_enter Try.func157,Try.ntmps157
    go_wp2_with (first|((with_reducible refine ZI (N:=1) rfl ?_);refine ZH ?hg (N:=1) ?hd (cs:=#[.string a0_0,.slice A0_1 l0_1.length c0_1,.int .i64 a0_2]) (t:=116) ?hr ?_;(case hd=>rfl);(case hg=>rfl);(case hr=>first|(go_simp;done)|(go_simp;rfl));intro gb157001 hg w7 hbox hb;have BK157001:=Za (hbox);have GW157001:=Za ((by rw[hg];exact(Zx (by exact HB.out)):w.heap.size≤gb157001));have GE157001:=Za ((by rw[hg];exact(Zx (by exact HB.out)):w.heap.size≤gb157001));replace HB:=Za (Zw (by exact HB.out) hb);clear hb hbox hg;have hcz8_0:w7.cell? ⟨gb157001,0,none⟩=some (.string a0_0):=(Zs BK157001.out 0).trans rfl;have hcz8_1:w7.cell? ⟨gb157001,1,none⟩=some (.slice A0_1 l0_1.length c0_1):=(Zs BK157001.out 1).trans rfl;have hcz8_2:w7.cell? ⟨gb157001,2,none⟩=some (.int .i64 a0_2):=(Zs BK157001.out 2).trans rfl)|((with_reducible refine ZG (f:=175) rfl ?_);refine ZQ (some 5) rfl rfl Try.func175 (by kernel_rfl) rfl #[.string a0_0] rfl (by(try simp only[List.map_toArray,List.map_cons,List.map_nil]);first|done|rfl|(simp only[Zk,Zj];rfl)) ?_;(with_reducible refine(Zak.calls k a0_0 true _ A2.out).mono ?_);rintro e w' ⟨rfl,⟨nd,rfl⟩⟩;refine⟨_,rfl,?_⟩)|(go_at_call 168;(with_reducible refine(Z1.calls k _ _ l0_1 true _ ?side1 ?side2 A4.out).mono ?_);(case side1=>exact(Zb HR0_1.out (by repeat(first|(with_reducible first|exact HB.out|apply Zn|apply Zm|apply Zt|refine Zq ?_ GE157001.out)|exact HB.out))));(case side2=>exact HC0_1.out);rintro e w9 ⟨rfl,hb⟩;replace BK157001:=Za (Zy (by exact BK157001.out) hb);replace HB:=Za (Zw (by repeat(first|(with_reducible first|exact HB.out|apply Zn|apply Zm|apply Zt|refine Zq ?_ GE157001.out)|exact HB.out)) hb);(try clear hb);(try clear hb2);(try clear hk);(try clear hi);have hcz10_0:w9.cell? ⟨gb157001,0,none⟩=some (.string a0_0):=(Zs BK157001.out 0).trans rfl;have hcz10_1:w9.cell? ⟨gb157001,1,none⟩=some (.slice A0_1 l0_1.length c0_1):=(Zs BK157001.out 1).trans rfl;have hcz10_2:w9.cell? ⟨gb157001,2,none⟩=some (.int .i64 a0_2):=(Zs BK157001.out 2).trans rfl))
    go_ret
    exact⟨by first|rfl|(simp[ZB,ZA] <;> rfl)|(simp[*,ZB,ZA] <;> rfl),by repeat(first|(with_reducible first|exact HB.out|apply Zn|apply Zm|apply Zt|refine Zq ?_ GE157001.out)|exact HB.out)⟩
   ·rw[if_neg c6] at H
    have c6b0:decide (0≤a0_2)=false:=Zf c6
    clear c6
    obtain rfl:=Zg H
    go_enter Try.func157,Try.ntmps157
    go_wp2_with (first|((with_reducible refine ZI (N:=1) rfl ?_);refine ZH ?hg (N:=1) ?hd (cs:=#[.string a0_0,.slice A0_1 l0_1.length c0_1,.int .i64 a0_2]) (t:=116) ?hr ?_;(case hd=>rfl);(case hg=>rfl);(case hr=>first|(go_simp;done)|(go_simp;rfl));intro gb157001 hg w11 hbox hb;have BK157001:=Za (hbox);have GW157001:=Za ((by rw[hg];exact(Zx (by exact HB.out)):w.heap.size≤gb157001));have GE157001:=Za ((by rw[hg];exact(Zx (by exact HB.out)):w.heap.size≤gb157001));replace HB:=Za (Zw (by exact HB.out) hb);clear hb hbox hg;have hcz12_0:w11.cell? ⟨gb157001,0,none⟩=some (.string a0_0):=(Zs BK157001.out 0).trans rfl;have hcz12_1:w11.cell? ⟨gb157001,1,none⟩=some (.slice A0_1 l0_1.length c0_1):=(Zs BK157001.out 1).trans rfl;have hcz12_2:w11.cell? ⟨gb157001,2,none⟩=some (.int .i64 a0_2):=(Zs BK157001.out 2).trans rfl)|((with_reducible refine ZG (f:=175) rfl ?_);refine ZQ (some 5) rfl rfl Try.func175 (by kernel_rfl) rfl #[.string a0_0] rfl (by(try simp only[List.map_toArray,List.map_cons,List.map_nil]);first|done|rfl|(simp only[Zk,Zj];rfl)) ?_;(with_reducible refine(Zak.calls k a0_0 true _ A2.out).mono ?_);rintro e w' ⟨rfl,⟨nd,rfl⟩⟩;refine⟨_,rfl,?_⟩)|(go_at_call 168;(with_reducible refine(Z1.calls k _ _ l0_1 true _ ?side1 ?side2 A4.out).mono ?_);(case side1=>exact(Zb HR0_1.out (by repeat(first|(with_reducible first|exact HB.out|apply Zn|apply Zm|apply Zt|refine Zq ?_ GE157001.out)|exact HB.out))));(case side2=>exact HC0_1.out);rintro e w13 ⟨rfl,hb⟩;replace BK157001:=Za (Zy (by exact BK157001.out) hb);replace HB:=Za (Zw (by repeat(first|(with_reducible first|exact HB.out|apply Zn|apply Zm|apply Zt|refine Zq ?_ GE157001.out)|exact HB.out)) hb);(try clear hb);(try clear hb2);(try clear hk);(try clear hi);have hcz14_0:w13.cell? ⟨gb157001,0,none⟩=some (.string a0_0):=(Zs BK157001.out 0).trans rfl;have hcz14_1:w13.cell? ⟨gb157001,1,none⟩=some (.slice A0_1 l0_1.length c0_1):=(Zs BK157001.out 1).trans rfl;have hcz14_2:w13.cell? ⟨gb157001,2,none⟩=some (.int .i64 a0_2):=(Zs BK157001.out 2).trans rfl))
    go_ret
    exact⟨by first|rfl|(simp[ZB,ZA] <;> rfl)|(simp[*,ZB,ZA] <;> rfl),by repeat(first|(with_reducible first|exact HB.out|apply Zn|apply Zm|apply Zt|refine Zq ?_ GE157001.out)|exact HB.out)⟩
  ·replace c5:=Bool.eq_false_iff.mpr c5
   subst c5
   have H1:(some false)=some r:=by rw[if_neg (show ¬(false=true) by decide)] at H;exact H
   clear H
   have H:=H1
   clear H1
   obtain rfl:=Zg H
   go_enter Try.func157,Try.ntmps157
   go_wp2_with (first|((with_reducible refine ZI (N:=1) rfl ?_);refine ZH ?hg (N:=1) ?hd (cs:=#[.string a0_0,.slice A0_1 l0_1.length c0_1,.int .i64 a0_2]) (t:=116) ?hr ?_;(case hd=>rfl);(case hg=>rfl);(case hr=>first|(go_simp;done)|(go_simp;rfl));intro gb157001 hg w15 hbox hb;have BK157001:=Za (hbox);have GW157001:=Za ((by rw[hg];exact(Zx (by exact HB.out)):w.heap.size≤gb157001));have GE157001:=Za ((by rw[hg];exact(Zx (by exact HB.out)):w.heap.size≤gb157001));replace HB:=Za (Zw (by exact HB.out) hb);clear hb hbox hg;have hcz16_0:w15.cell? ⟨gb157001,0,none⟩=some (.string a0_0):=(Zs BK157001.out 0).trans rfl;have hcz16_1:w15.cell? ⟨gb157001,1,none⟩=some (.slice A0_1 l0_1.length c0_1):=(Zs BK157001.out 1).trans rfl;have hcz16_2:w15.cell? ⟨gb157001,2,none⟩=some (.int .i64 a0_2):=(Zs BK157001.out 2).trans rfl)|((with_reducible refine ZG (f:=175) rfl ?_);refine ZQ (some 5) rfl rfl Try.func175 (by kernel_rfl) rfl #[.string a0_0] rfl (by(try simp only[List.map_toArray,List.map_cons,List.map_nil]);first|done|rfl|(simp only[Zk,Zj];rfl)) ?_;(with_reducible refine(Zak.calls k a0_0 true _ A2.out).mono ?_);rintro e w' ⟨rfl,⟨nd,rfl⟩⟩;refine⟨_,rfl,?_⟩)|(go_at_call 168;(with_reducible refine(Z1.calls k _ _ l0_1 false _ ?side1 ?side2 A4.out).mono ?_);(case side1=>exact(Zb HR0_1.out (by repeat(first|(with_reducible first|exact HB.out|apply Zn|apply Zm|apply Zt|refine Zq ?_ GE157001.out)|exact HB.out))));(case side2=>exact HC0_1.out);rintro e w17 ⟨rfl,hb⟩;replace BK157001:=Za (Zy (by exact BK157001.out) hb);replace HB:=Za (Zw (by repeat(first|(with_reducible first|exact HB.out|apply Zn|apply Zm|apply Zt|refine Zq ?_ GE157001.out)|exact HB.out)) hb);(try clear hb);(try clear hb2);(try clear hk);(try clear hi)))
   go_ret
   exact⟨by first|rfl|(simp[ZB,ZA] <;> rfl)|(simp[*,ZB,ZA] <;> rfl),by repeat(first|(with_reducible first|exact HB.out|apply Zn|apply Zm|apply Zt|refine Zq ?_ GE157001.out)|exact HB.out)⟩
 ·replace c3:=Bool.eq_false_iff.mpr c3
  subst c3
  have H1:(some false)=some r:=by rw[if_neg (show ¬(false=true) by decide)] at H;exact H
  clear H
  have H:=H1
  clear H1
  obtain rfl:=Zg H
  go_enter Try.func157,Try.ntmps157
  go_wp2_with (first|((with_reducible refine ZI (N:=1) rfl ?_);refine ZH ?hg (N:=1) ?hd (cs:=#[.string a0_0,.slice A0_1 l0_1.length c0_1,.int .i64 a0_2]) (t:=116) ?hr ?_;(case hd=>rfl);(case hg=>rfl);(case hr=>first|(go_simp;done)|(go_simp;rfl));intro gb157001 hg w18 hbox hb;have BK157001:=Za (hbox);have GW157001:=Za ((by rw[hg];exact(Zx (by exact HB.out)):w.heap.size≤gb157001));have GE157001:=Za ((by rw[hg];exact(Zx (by exact HB.out)):w.heap.size≤gb157001));replace HB:=Za (Zw (by exact HB.out) hb);clear hb hbox hg;have hcz19_0:w18.cell? ⟨gb157001,0,none⟩=some (.string a0_0):=(Zs BK157001.out 0).trans rfl;have hcz19_1:w18.cell? ⟨gb157001,1,none⟩=some (.slice A0_1 l0_1.length c0_1):=(Zs BK157001.out 1).trans rfl;have hcz19_2:w18.cell? ⟨gb157001,2,none⟩=some (.int .i64 a0_2):=(Zs BK157001.out 2).trans rfl)|((with_reducible refine ZG (f:=175) rfl ?_);refine ZQ (some 5) rfl rfl Try.func175 (by kernel_rfl) rfl #[.string a0_0] rfl (by(try simp only[List.map_toArray,List.map_cons,List.map_nil]);first|done|rfl|(simp only[Zk,Zj];rfl)) ?_;(with_reducible refine(Zak.calls k a0_0 false _ A2.out).mono ?_);rintro e w' ⟨rfl,⟨nd,rfl⟩⟩;refine⟨_,rfl,?_⟩))
  go_ret
  exact⟨by first|rfl|(simp[ZB,ZA] <;> rfl)|(simp[*,ZB,ZA] <;> rfl),by repeat(first|(with_reducible first|exact HB.out|apply Zn|apply Zm|apply Zt|refine Zq ?_ GE157001.out)|exact HB.out)⟩
end Go.Proofs.Ytodfnelilhjoeaa.Pr
namespace Go.Proofs.Ytodfnelilhjoeaa.Pr
open Go.RowKit Go.Proofs.YtodfnelilhjoeaaW.PrintWords Go.Proofs.Ytodfnelilhjoeaa.Ni
def Zcf (s:ByteArray) (l:List Int) (n:Int):Bool:=nameB s && labB l && (decide (0≤n) && decide (n≤3))
theorem Zes (s:ByteArray) (l:List Int) (n:Int) (hs:s.size≤9223372036854775807) (hl:l.length≤9223372036854775807) (k:Nat) (hk:2 ^ 64≤k):Zca.f k s l n=some (Zcf s l n):=by
 unfold Zca.f Zcf ZW.f
 rw[Zet s hs k hk,Zi,Zch l hl k hk]
 cases nameB s
 ·rfl
 ·rw[if_pos rfl,Zi]
  cases labB l
  ·rfl
  ·rw[if_pos rfl]
   by_cases h:n≥0
   ·rw[if_pos h,Ze (show(0:Int)≤n from h)];rfl
   ·rw[if_neg h,Zf (show ¬(0:Int)≤n from h)];rfl
theorem Zex (s:ByteArray) (l:List Int) (n:Int) (hs:s.size≤9223372036854775807) (hl:l.length≤9223372036854775807) (k:Nat) (hk:2 ^ 64≤k):ZbO.f k s l n=some (Zcf s l n):=by
 unfold ZbO.f Zcf
 rw[ZeA s hs k hk,Zi,Zck l hl k hk]
 cases nameB s
 ·rfl
 ·rw[if_pos rfl,Zi]
  cases labB l
  ·rfl
  ·rw[if_pos rfl]
   by_cases h:n≥0
   ·rw[if_pos h,Ze (show(0:Int)≤n from h)];rfl
   ·rw[if_neg h,Zf (show ¬(0:Int)≤n from h)];rfl
end Go.Proofs.Ytodfnelilhjoeaa.Pr
