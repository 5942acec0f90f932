/- The texts of one claim, put together by a program of this session. -/
import Derived.Deep.LoopGhost
import Derived.Test.YtpoffpdaadhkgaaBCec1x1
import Derived.Test.YtpoffpdaadhkgaaBCec1x2
import Derived.Test.YtpoffpdaadhkgaaBCec1x6
namespace Go.Proofs.Ytpoffpdaadhkgaa.Pr
open Go.RowKit Go.Proofs.YtpoffpdaadhkgaaW.PrintWords Go.Proofs.YtpoffpdaadhkgaaW.PrintLast Go.Proofs.YtpoffpdaadhkgaaW.PrintMore
attribute [local go_sem] Z7 Z5 Zaf Zae ZY ZX Z6 Z4
set_option linter.unusedVariables false
set_option linter.unusedSimpArgs false
def Zad.f (a0_0:Int) (l0_1:List (S101)):Option (Int×(List (S101))):=(some (([]:List (S101)):List (S101))).bind fun y128003=>(if y128003.length+l0_1.length<4398046511104 then(some (a0_0,(y128003 ++ l0_1))) else(none))
def Zad.T1:Bool×List (List Nat×List Nat):=(true,[([],[]),([0],[0]),([],[]),([],[]),([3],[3]),([2,4],[2,4]),([1,5],[1,5]),([6,5,0,1,2,3,4,5,6],[6])])
def Zad.B1:List Nat:=[0,1,0,0,8,28,63,127]
theorem Zad.tab1:rtab .any (opsOf Try.f128 1)=Zad.T1:=by kernel_rfl
theorem Zad.bits1:Zbp Zad.T1.2 Zad.B1=true:=by kernel_rfl
set_option maxHeartbeats 8000000 in
set_option maxRecDepth 100000 in
theorem Zad.calls (a0_0:Int) (A0_1:Option Addr) (c0_1:Nat) (l0_1:List (S101)) (r1:Int) (r2:List (S101)) (w:World) (hr0_1:Kd.C k101 w A0_1 l0_1.length l0_1) (hc0_1:l0_1.length≤c0_1) (h:Zad.f a0_0 l0_1=some (r1,r2)) :
  Calls Try.prog 128 #[.agg #[.int .i64 a0_0,.slice A0_1 l0_1.length c0_1]] w fun e w'=>∃v1_:Value,e=.returned (.agg #[.int .i64 r1,v1_])∧Kd.R k101 101 w' w.heap.size (fun _=>True) v1_ r2∧Below w.heap.size w w':=by
 have hu25:=Try.underlying25
 have HR0_1:=Za hr0_1;have HC0_1:=Za hc0_1;clear hr0_1 hc0_1
 have HB:=Za (Below.refl w.heap.size w)
 have H:((some (([]:List (S101)):List (S101))).bind fun y128003=>(if y128003.length+l0_1.length<4398046511104 then(some (a0_0,(y128003 ++ l0_1))) else(none)))=some (r1,r2):=h
 clear h
 obtain⟨y128003,hy128003⟩:∃y_:List (S101),y_=(([]:List (S101))):=⟨_,rfl⟩
 replace H:(if y128003.length+l0_1.length<4398046511104 then(some (a0_0,(y128003 ++ l0_1))) else(none))=some (r1,r2):=by first|(rw[hy128003];with_reducible exact H)|(have H2_:=(Zi _ _).symm.trans H;rw[hy128003];with_reducible exact H2_)|(have H2_:=(Zi _ _).symm.trans H;with_reducible exact H2_)|with_reducible exact H|(rw[hy128003];exact H)|exact H
 have Ny128003:=Za hy128003;clear hy128003
 by_cases c2:y128003.length+l0_1.length<4398046511104
 ·rw[if_pos c2] at H
  have LMc2:=Za c2;clear c2
  obtain⟨y128006,hy128006⟩:∃y_:List (S101),y_=(y128003 ++ l0_1):=⟨_,rfl⟩
  replace H:(some (a0_0,y128006))=some (r1,r2):=by first|(rw[hy128006];with_reducible exact H)|(have H2_:=(Zi _ _).symm.trans H;rw[hy128006];with_reducible exact H2_)|(have H2_:=(Zi _ _).symm.trans H;with_reducible exact H2_)|with_reducible exact H|(rw[hy128006];exact H)|exact H
  have Ny128006:=Za hy128006;clear hy128006
  simp only[Option.some.injEq,Prod.mk.injEq] at H
  obtain⟨rfl,rfl⟩:=H
  go_enter Try.func128,Try.ntmps128
  try go_wp2_with (first|((with_reducible refine ZD (N:=1) rfl ?_);refine ZE ?hg (N:=1) ?hd (cs:=#[.int .i64 a0_0,.slice A0_1 l0_1.length c0_1]) (t:=25) ?hr ?_;(case hd=>rfl);(case hg=>rfl);(case hr=>first|(go_simp;done)|(go_simp;rfl));intro gb128001 hg w3 hbox hb;have n0_:=Za (Zx (by repeat(first|(with_reducible first|exact HB.out|apply Zp|apply Zm|apply Zr)|exact HB.out)) hb);have n1_:=Za (hbox);have n2_:=Za ((by rw[hg];exact(Zw (by repeat(first|(with_reducible first|exact HB.out|apply Zp|apply Zm|apply Zr)|exact HB.out))):w.heap.size≤gb128001));have n3_:=Za ((by rw[hg];exact(Zw (by repeat(first|(with_reducible first|exact HB.out|apply Zp|apply Zm|apply Zr)|exact HB.out))):w.heap.size≤gb128001));clear HB;have HB:=n0_;have BK128001:=n1_;have GW128001:=n2_;have GE128001:=n3_;clear n0_ n1_ n2_ n3_;clear hb hbox hg)|((with_reducible refine ZD (N:=2) rfl ?_);refine ZE ?hg (N:=2) ?hd (cs:=#[.int .i64 0,.slice none 0 0]) (t:=25) ?hr ?_;(case hd=>rfl);(case hg=>rfl);(case hr=>first|(go_simp;done)|(go_simp;rfl));intro gb128002 hg w4 hbox hb;have n0_:=Za (Zy (g:=gb128001) (o:=.cells #[.int .i64 a0_0,.slice A0_1 l0_1.length c0_1] 25 (0,0)) (by(with_reducible repeat(first|refine Zn ?_ _|refine Zs ?_|refine Zo ?_ _));exact BK128001.out) hb);have n1_:=Za (Zx (by repeat(first|(with_reducible first|exact HB.out|apply Zp|apply Zm|apply Zr|refine Zq ?_ GE128001.out)|exact HB.out)) hb);have n2_:=Za (hbox);have n3_:=Za ((by rw[hg];exact(Zw (by repeat(first|(with_reducible first|exact HB.out|apply Zp|apply Zm|apply Zr|refine Zq ?_ GE128001.out)|exact HB.out))):w.heap.size≤gb128002));have n4_:=Za ((by rw[hg];exact(Zw (by repeat(first|(with_reducible first|exact HB.out|apply Zp|apply Zm|apply Zr|refine Zq ?_ GE128001.out)|exact HB.out))):w.heap.size≤gb128002));have n5_:=Za ((by rw[hg];exact Nat.ne_of_lt (ZC (g:=gb128001) (o:=.cells #[.int .i64 a0_0,.slice A0_1 l0_1.length c0_1] 25 (0,0)) (by(with_reducible repeat(first|refine Zn ?_ _|refine Zs ?_|refine Zo ?_ _));exact BK128001.out)):gb128001≠gb128002));have n6_:=Za ((by rw[hg];exact Nat.ne_of_gt (ZC (g:=gb128001) (o:=.cells #[.int .i64 a0_0,.slice A0_1 l0_1.length c0_1] 25 (0,0)) (by(with_reducible repeat(first|refine Zn ?_ _|refine Zs ?_|refine Zo ?_ _));exact BK128001.out)):gb128002≠gb128001));clear BK128001;clear HB;have BK128001:=n0_;have HB:=n1_;have BK128002:=n2_;have GW128002:=n3_;have GE128002:=n4_;have NB128001_128002:=n5_;have NB128002_128001:=n6_;clear n0_ n1_ n2_ n3_ n4_ n5_ n6_;clear hb hbox hg))
  have n0_:=Za (Zs BK128001.out)
  have n1_:=Za (Zs BK128002.out)
  have n2_:=Za (Zr HB.out)
  clear BK128001 BK128002 HB;have BK128001:=n0_;have BK128002:=n1_;have HB:=n2_;clear n0_ n1_ n2_
  refine start_ (n:=8) (S:=fun w'=>w'.cell? ⟨gb128001,0,none⟩=some (.int .i64 a0_0)∧w'.cell? ⟨gb128001,1,none⟩=some (.slice A0_1 l0_1.length c0_1)) (ds:=[]) #[false,false,false,false,false,false,false,false] (by kernel_rfl) rfl rfl ⟨(Zv BK128001.out 0).trans rfl,(Zv BK128001.out 1).trans rfl⟩ (fun hHeld=>?_);refine Zcc Zad.tab1 Zad.bits1 (fun HT_ HW_=>?_)
  generalize w4.drew=w5 at BK128001 BK128002 HB hHeld ⊢
  refine ZaA (i:=0) (N:=some 3) (v:=?_) (a':=?_) #[true,false,false,false,false,false,false,false] rfl rfl (ZaC HT_.out (by kernel_rfl)) (fun _ _ _ h=>h) (Or.inl ⟨by rfl,?_⟩) ?_ ?_
  rotate_left
  ·intro w'
   go_simp
   with_reducible rfl
  rotate_left
  ·simp only[Act.put,List.setIfInBounds_toArray,List.set_cons_zero,List.set_cons_succ,Z8,Z9]
   rfl
  refine ZaA (i:=3) (N:=some 6) (v:=?_) (a':=?_) #[true,false,false,true,false,false,false,false] rfl rfl (ZaC HT_.out (by kernel_rfl)) (fun _ _ _ h=>h) (Or.inl ⟨by rfl,?_⟩) ?_ ?_
  rotate_left
  ·intro w'
   go_simp
   with_reducible rfl
  rotate_left
  ·simp only[Act.put,List.setIfInBounds_toArray,List.set_cons_zero,List.set_cons_succ,Z8,Z9]
   rfl
  refine take_ (i:=1) (N:=some 4) (v:=?_) (a':=?_) #[true,true,false,true,false,false,false,false] rfl rfl (Zbq HT_.out HW_.out (by kernel_rfl)) (fun _ _ _ h=>h) (Or.inl ⟨by rfl,?_⟩) hHeld ?_ ?_
  rotate_left
  ·rintro w' ⟨s0,s1⟩
   go_simp
   with_reducible rfl
  rotate_left
  ·simp only[Act.put,List.setIfInBounds_toArray,List.set_cons_zero,List.set_cons_succ,Z8,Z9]
   rfl
  refine take_ (i:=4) (N:=some 7) (v:=?_) (a':=?_) #[true,true,false,true,true,false,false,false] rfl rfl (Zbq HT_.out HW_.out (by kernel_rfl)) (fun _ _ _ h=>h) (Or.inl ⟨by rfl,?_⟩) hHeld ?_ ?_
  rotate_left
  ·rintro w' ⟨s0,s1⟩
   go_simp
   with_reducible rfl
  rotate_left
  ·simp only[Act.put,List.setIfInBounds_toArray,List.set_cons_zero,List.set_cons_succ,Z8,Z9]
   rfl
  refine one_ (i:=2) (N:=some 5) #[true,true,true,true,true,false,false,false] rfl rfl (Zby HT_.out (by kernel_rfl)) (by decide) (fun K hK=>?_)
  refine Kd.R_lit_step k101 _ 101 ?hg (N:=5) ?hd (xs:=([]:List (S101))) (inner:=[]) (ok:=fun _=>True) (okp:=fun _=>True) ?hr ?hp (fun _ hk=>hk) trivial (Below.refl _ _) (Nat.le_refl _) (by simp) ?_;(case hd=>rfl);(case hg=>rfl);(case hr=>first|(go_simp;done)|(go_simp;rfl));(case hp=>exact(Reps.none _ _))
  intro v128004 w6 ho7 hb hg_ hnew_
  clear hg_ hnew_
  (first|rw[← Ny128003.out] at ho7|(simp only[Int.reduceToNat] at ho7;rw[← Ny128003.out] at ho7))
  have n0_:=Za (Kd.R_lower ho7 (Zw (by repeat(first|(with_reducible first|exact HB.out|apply Zp|apply Zm|apply Zr|refine Zq ?_ GE128001.out|refine Zq ?_ GE128002.out)|exact HB.out))))
  have n1_:=Za (Zy (g:=gb128001) (o:=.cells #[.int .i64 a0_0,.slice A0_1 l0_1.length c0_1] 25 (0,0)) (by(with_reducible repeat(first|refine Zn ?_ _|refine Zs ?_|refine Zo ?_ _));exact BK128001.out) hb)
  have n2_:=Za (Zy (g:=gb128002) (o:=.cells #[.int .i64 0,.slice none 0 0] 25 (0,0)) (by(with_reducible repeat(first|refine Zn ?_ _|refine Zs ?_|refine Zo ?_ _));exact BK128002.out) hb)
  have n3_:=Za (Zx (by repeat(first|(with_reducible first|exact HB.out|apply Zp|apply Zm|apply Zr|refine Zq ?_ GE128001.out|refine Zq ?_ GE128002.out)|exact HB.out)) hb)
  clear BK128001 BK128002 HB;have HO128005:=n0_;have BK128001:=n1_;have BK128002:=n2_;have HB:=n3_;clear n0_ n1_ n2_ n3_ hb ho7
  refine hK.out _ _ ⟨(Zv BK128001.out 0).trans rfl,(Zv BK128001.out 1).trans rfl⟩ (fun hHeld=>?_)
  clear hK K
  refine ZaG (a':=?_) ?_ ?_
  rotate_left
  ·show Act.put _ (some 5) _=_
   simp only[Act.put,List.setIfInBounds_toArray,List.set_cons_zero,List.set_cons_succ,Z8,Z9]
   rfl
  refine one_ (i:=5) (N:=some 8) #[true,true,true,true,true,true,false,false] rfl rfl (Zby HT_.out (by kernel_rfl)) (by decide) (fun K hK=>?_)
  refine Kd.R_append_rows_step k101 (w0:=w) w.heap.size (by rfl) (.tmp 5) (.tmp 7) 23 101 (.agg #[(.int .i64 0),(.int .i64 0),(.int .i64 0),(.int .i64 0)]) 32 rfl Try.underlying23 ZbX rfl (by decide) (by omega) v128004 y128003 l0_1 _ _ _ (fun _=>True) (fun _=>False) rfl rfl ?aO ?aR (fun _ _ h=>h) (fun _ h=>h.elim) ?aF ?aB ?aS ?aL ?_
  (case aR=>repeat(first|exact(Zb HR0_1.out HB.out)|(with_reducible refine Kd.C_alloc ?_ _)|(with_reducible refine Kd.C_drewN ?_ _)|(with_reducible refine Kd.C_drew ?_)))
  (case aB=>exact(by repeat(first|(with_reducible first|exact HB.out|apply Zp|apply Zm|apply Zr|refine Zq ?_ GE128001.out|refine Zq ?_ GE128002.out)|exact HB.out)))
  (case aF=>exact(fun _ _=>trivial))
  (case aO=>exact(by(with_reducible repeat(first|apply Kd.R_alloc|apply Kd.R_drewN|apply Kd.R_drew));exact HO128005.out))
  (case aS=>exact(Zw (by repeat(first|(with_reducible first|exact HB.out|apply Zp|apply Zm|apply Zr|refine Zq ?_ GE128001.out|refine Zq ?_ GE128002.out)|exact HB.out))))
  (case aL=>have:=LMc2.out;omega)
  intro v128007 w8 ho hb hg hat
  rw[← Ny128006.out] at ho
  have n0_:=Za (ZK (g:=gb128001) (o:=.cells #[.int .i64 a0_0,.slice A0_1 l0_1.length c0_1] 25 (0,0)) (by(with_reducible repeat(first|refine Zn ?_ _|refine Zs ?_|refine Zo ?_ _));exact BK128001.out) hg (Kd.R_ne HO128005.out BK128001.out (by decide)))
  have n1_:=Za (ZK (g:=gb128002) (o:=.cells #[.int .i64 0,.slice none 0 0] 25 (0,0)) (by(with_reducible repeat(first|refine Zn ?_ _|refine Zs ?_|refine Zo ?_ _));exact BK128002.out) hg (Kd.R_ne HO128005.out BK128002.out (by decide)))
  have n2_:=Za (hb)
  have n3_:=Za (ho)
  clear BK128001 BK128002 HB HO128005;have BK128001:=n0_;have BK128002:=n1_;have HB:=n2_;have HO128008:=n3_;clear n0_ n1_ n2_ n3_ ho hb hg hat
  obtain⟨Ao9,co9,eo9⟩:=Kd.R_slice HO128008.out
  (first|subst eo9|(injection eo9 with f1_ f2_ f3_;have f4_:=f1_.symm;have f5_:=f3_.symm;clear f1_ f2_ f3_;subst f4_;subst f5_))
  refine hK.out _ _ ⟨(Zv BK128001.out 0).trans rfl,(Zv BK128001.out 1).trans rfl⟩ (fun hHeld=>?_)
  clear hK K
  refine ZaG (a':=?_) ?_ ?_
  rotate_left
  ·show Act.put _ (some 8) _=_
   simp only[Act.put,List.setIfInBounds_toArray,List.set_cons_zero,List.set_cons_succ,Z8,Z9]
   rfl
  refine ZaA (i:=6) (N:=some 9) (v:=?_) (a':=?_) #[true,true,true,true,true,true,true,false] rfl rfl (ZaC HT_.out (by kernel_rfl)) (fun _ _ _ h=>h) (Or.inl ⟨by rfl,?_⟩) ?_ ?_
  rotate_left
  ·intro w'
   go_simp
   with_reducible rfl
  rotate_left
  ·simp only[Act.put,List.setIfInBounds_toArray,List.set_cons_zero,List.set_cons_succ,Z8,Z9]
   rfl
  refine one_ (i:=7) (N:=none) #[true,true,true,true,true,true,true,true] rfl rfl (Zby HT_.out (by kernel_rfl)) (by decide) (fun K hK=>?_)
  have hs10:w8.cell? ⟨gb128002,0,none⟩=some (.int .i64 0):=(Zv BK128002.out 0).trans rfl
  have hfs10:=Zu BK128002.out 0
  have hns10_0:=NB128001_128002.out
  have hms10_0:=NB128002_128001.out
  have hs11:w8.cell? ⟨gb128002,1,none⟩=some (.slice none 0 0):=(Zv BK128002.out 1).trans rfl
  have hfs11:=Zu BK128002.out 1
  have hns11_0:=NB128001_128002.out
  have hms11_0:=NB128002_128001.out
  refine skip_ (w1:=?_) (by rfl) rfl ?_ ?_
  rotate_left
  ·go_simp
   rfl
  refine hK.out _ _ ⟨((ZaO (p:=⟨gb128002,_,none⟩) NB128001_128002.out _).trans (((ZaO (p:=⟨gb128002,_,none⟩) NB128001_128002.out _).trans (hHeld.1)))),((ZaO (p:=⟨gb128002,_,none⟩) NB128001_128002.out _).trans (((ZaO (p:=⟨gb128002,_,none⟩) NB128001_128002.out _).trans (hHeld.2))))⟩ (fun hHeld=>?_)
  clear hK K
  refine done_ (done_of HT_.out (by kernel_rfl)) ?_
  try go_wp2
  refine bodyPost_ret (results_cell_row rfl _ _ gb128002 25 #[.int .i64 a0_0,.slice Ao9 y128006.length co9] (0,0) _ rfl (by(with_reducible repeat(first|refine Zn ?_ _|refine Zs ?_|refine Zo ?_ _));refine ZH (cs:=#[.int .i64 a0_0,.slice none 0 0]) ?_ 1 _ rfl;(with_reducible repeat(first|refine Zn ?_ _|refine Zs ?_|refine Zo ?_ _));refine ZH (cs:=#[.int .i64 0,.slice none 0 0]) ?_ 0 _ rfl;(with_reducible repeat(first|refine Zn ?_ _|refine Zs ?_|refine Zo ?_ _));exact BK128002.out) Try.underlying25 rfl (by kernel_rfl)) rfl ?_
  exact⟨_,by first|rfl|(simp[ZA,Zz] <;> rfl)|(simp[*,ZA,Zz] <;> rfl),by(with_reducible repeat(first|apply Kd.R_alloc|apply Kd.R_drewN|apply Kd.R_drew));exact Kd.R_mono (Kd.R_far (p:=⟨gb128002,1,none⟩) (Kd.R_far (p:=⟨gb128002,0,none⟩) (Kd.R_types HO128008.out BK128002.out (by decide)) (fun _ hk=>hk.2) (.int .i64 a0_0)) (fun _ hk=>hk.2) (.slice Ao9 y128006.length co9)) (fun _ hk=>trivial),by repeat(first|(with_reducible first|exact HB.out|apply Zp|apply Zm|apply Zr|refine Zq ?_ GE128001.out|refine Zq ?_ GE128002.out)|exact HB.out)⟩
 ·rw[if_neg c2] at H
  exact absurd H (by simp)
def ZU.l0:Nat→List Int→Int→Int→Int→List (S101)→Option (Int×(List (S101))×Bool)
 | 0,_,_,_,_,_=>none
 | k+1,x16,x17,x18,x82009000,x82009001=>if x18<x17 then(if 0≤x18 then(if x18<(x16.length:Int) then(if x18 > 0 then(if (rd x16 x18)=(-1) then(ZU.l0 k x16 x17 (wrap64 (x18+1)) x82009000 x82009001) else(if x82009001.length<4398046511104 then(ZU.l0 k x16 x17 (wrap64 (x18+1)) x82009000 (x82009001 ++ [(⟨0,x18,(⟨rd x16 x18,rd x16 x18⟩:S29)⟩:S101)])) else(none))) else(ZU.l0 k x16 x17 (wrap64 (x18+1)) x82009000 x82009001)) else(none)) else(none)) else((ZF.f k x82009000 x82009001).bind fun t82013=>(if t82013=true then(some (x82009000,x82009001,true)) else(some (0,([]:List (S101)),false))))
def ZU.f (k:Nat) (a0_0:Int) (l0_1:List (S101)) (l1:List Int):Option (Int×(List (S101))×Bool):=(ZJ.f k a0_0 l0_1 l1).bind fun t82003=>(if t82003=true then((Zad.f a0_0 l0_1).bind fun bt82004=>(ZU.l0 k l1 (l1.length:Int) 0 bt82004.1 bt82004.2)) else(some (0,([]:List (S101)),false)))
set_option maxHeartbeats 8000000 in
set_option maxRecDepth 100000 in
theorem ZU.calls (k:Nat) (a0_0:Int) (A0_1:Option Addr) (c0_1:Nat) (l0_1:List (S101)) (A1:Option Addr) (c1:Nat) (l1:List Int) (r1:Int) (r2:List (S101)) (r3:Bool) (w:World) (hr0_1:Kd.C k101 w A0_1 l0_1.length l0_1) (hc0_1:l0_1.length≤c0_1) (hr1:Kd.C (Kd.int .i64) w A1 l1.length l1) (hc1:l1.length≤c1) (h:ZU.f k a0_0 l0_1 l1=some (r1,r2,r3)) :
  Calls Try.prog 82 #[.agg #[.int .i64 a0_0,.slice A0_1 l0_1.length c0_1],.slice A1 l1.length c1] w fun e w'=>∃v1_:Value,e=.returned (.tuple #[.agg #[.int .i64 r1,v1_],.bool r3])∧Kd.R k101 101 w' w.heap.size (fun _=>True) v1_ r2∧Below w.heap.size w w':=by
 have hu25:=Try.underlying25
 have hu29:=Try.underlying29
 have hu101:=Try.underlying101
 have HR0_1:=Za hr0_1;have HC0_1:=Za hc0_1;clear hr0_1 hc0_1;have HR1:=Za hr1;have HC1:=Za hc1;clear hr1 hc1
 have HB:=Za (Below.refl w.heap.size w)
 have H:((ZJ.f k a0_0 l0_1 l1).bind fun t82003=>(if t82003=true then((Zad.f a0_0 l0_1).bind fun bt82004=>(ZU.l0 k l1 (l1.length:Int) 0 bt82004.1 bt82004.2)) else(some (0,([]:List (S101)),false))))=some (r1,r2,r3):=h
 clear h
 replace H:=Zh H
 obtain⟨t82003,A30,H⟩:=H
 replace H:(if t82003=true then((Zad.f a0_0 l0_1).bind fun bt82004=>(ZU.l0 k l1 (l1.length:Int) 0 bt82004.1 bt82004.2)) else(some (0,([]:List (S101)),false)))=some (r1,r2,r3):=H
 have A3:=Za A30;clear A30
 by_cases c4:t82003=true
 ·subst c4
  have H1:((Zad.f a0_0 l0_1).bind fun bt82004=>(ZU.l0 k l1 (l1.length:Int) 0 bt82004.1 bt82004.2))=some (r1,r2,r3):=by rw[if_pos rfl] at H;exact H
  clear H
  have H:=H1
  clear H1
  replace H:=Zh H
  obtain⟨⟨t82004,t82005⟩,A50,H⟩:=H
  replace H:(ZU.l0 k l1 (l1.length:Int) 0 t82004 t82005)=some (r1,r2,r3):=H
  have A5:=Za A50;clear A50
  have H':=Za H
  clear H
  go_enter Try.func82,Try.ntmps82
  go_wp2_with (first|((with_reducible refine ZD (N:=2) rfl ?_);refine ZE ?hg (N:=2) ?hd (cs:=#[.int .i64 a0_0,.slice A0_1 l0_1.length c0_1]) (t:=25) ?hr ?_;(case hd=>rfl);(case hg=>rfl);(case hr=>first|(go_simp;done)|(go_simp;rfl));intro gb82001 hg w6 hbox hb;have n0_:=Za (Zx (by repeat(first|(with_reducible first|exact HB.out|apply Zp|apply Zm|apply Zr)|exact HB.out)) hb);have n1_:=Za (hbox);have n2_:=Za ((by rw[hg];exact(Zw (by repeat(first|(with_reducible first|exact HB.out|apply Zp|apply Zm|apply Zr)|exact HB.out))):w.heap.size≤gb82001));have n3_:=Za ((by rw[hg];exact(Zw (by repeat(first|(with_reducible first|exact HB.out|apply Zp|apply Zm|apply Zr)|exact HB.out))):w.heap.size≤gb82001));clear HB;have HB:=n0_;have BK82001:=n1_;have GW82001:=n2_;have GE82001:=n3_;clear n0_ n1_ n2_ n3_;clear hb hbox hg)|((with_reducible refine ZD (N:=4) rfl ?_);refine ZE ?hg (N:=4) ?hd (cs:=#[.int .i64 0,.slice none 0 0]) (t:=25) ?hr ?_;(case hd=>rfl);(case hg=>rfl);(case hr=>first|(go_simp;done)|(go_simp;rfl));intro gb82002 hg w7 hbox hb;have n0_:=Za (Zy (g:=gb82001) (o:=.cells #[.int .i64 a0_0,.slice A0_1 l0_1.length c0_1] 25 (0,0)) (by(with_reducible repeat(first|refine Zn ?_ _|refine Zs ?_|refine Zo ?_ _));exact BK82001.out) hb);have n1_:=Za (Zx (by repeat(first|(with_reducible first|exact HB.out|apply Zp|apply Zm|apply Zr|refine Zq ?_ GE82001.out)|exact HB.out)) hb);have n2_:=Za (hbox);have n3_:=Za ((by rw[hg];exact(Zw (by repeat(first|(with_reducible first|exact HB.out|apply Zp|apply Zm|apply Zr|refine Zq ?_ GE82001.out)|exact HB.out))):w.heap.size≤gb82002));have n4_:=Za ((by rw[hg];exact(Zw (by repeat(first|(with_reducible first|exact HB.out|apply Zp|apply Zm|apply Zr|refine Zq ?_ GE82001.out)|exact HB.out))):w.heap.size≤gb82002));have n5_:=Za ((by rw[hg];exact Nat.ne_of_lt (ZC (g:=gb82001) (o:=.cells #[.int .i64 a0_0,.slice A0_1 l0_1.length c0_1] 25 (0,0)) (by(with_reducible repeat(first|refine Zn ?_ _|refine Zs ?_|refine Zo ?_ _));exact BK82001.out)):gb82001≠gb82002));have n6_:=Za ((by rw[hg];exact Nat.ne_of_gt (ZC (g:=gb82001) (o:=.cells #[.int .i64 a0_0,.slice A0_1 l0_1.length c0_1] 25 (0,0)) (by(with_reducible repeat(first|refine Zn ?_ _|refine Zs ?_|refine Zo ?_ _));exact BK82001.out)):gb82002≠gb82001));clear BK82001;clear HB;have BK82001:=n0_;have HB:=n1_;have BK82002:=n2_;have GW82002:=n3_;have GE82002:=n4_;have NB82001_82002:=n5_;have NB82002_82001:=n6_;clear n0_ n1_ n2_ n3_ n4_ n5_ n6_;clear hb hbox hg;have hnb8:=NB82001_82002.out;have hnc8:=NB82002_82001.out;have hcz9_0:w7.cell? ⟨gb82001,0,none⟩=some (.int .i64 a0_0):=(Zv BK82001.out 0).trans rfl;have hcz9_1:w7.cell? ⟨gb82001,1,none⟩=some (.slice A0_1 l0_1.length c0_1):=(Zv BK82001.out 1).trans rfl;have hfz9_0:=Zu BK82001.out 0;have hfz9_1:=Zu BK82001.out 1)|((with_reducible refine ZL (f:=127) rfl ?_);refine ZZ (some 11) rfl rfl Try.func127 (by kernel_rfl) rfl #[.agg #[.int .i64 a0_0,.slice A0_1 l0_1.length c0_1],.slice A1 l1.length c1] rfl (by(try simp only[List.map_toArray,List.map_cons,List.map_nil]);first|done|rfl|(simp only[Zk,Zj];rfl)) ?_;(with_reducible refine(ZJ.calls k a0_0 _ _ l0_1 _ _ l1 true _ ?side1 ?side2 ?side3 ?side4 A3.out).mono ?_);(case side1=>repeat(first|exact(Zb HR0_1.out HB.out)|(with_reducible refine Kd.C_alloc ?_ _)|(with_reducible refine Kd.C_drewN ?_ _)|(with_reducible refine Kd.C_drew ?_)));(case side2=>exact HC0_1.out);(case side3=>repeat(first|exact(Zb HR1.out HB.out)|(with_reducible refine Kd.C_alloc ?_ _)|(with_reducible refine Kd.C_drewN ?_ _)|(with_reducible refine Kd.C_drew ?_)));(case side4=>exact HC1.out);rintro e w10 ⟨rfl,hb⟩;refine⟨_,rfl,?_⟩;have n0_:=Za (Zy (g:=gb82001) (o:=.cells #[.int .i64 a0_0,.slice A0_1 l0_1.length c0_1] 25 (0,0)) (by(with_reducible repeat(first|refine Zn ?_ _|refine Zs ?_|refine Zo ?_ _));exact BK82001.out) hb);have n1_:=Za (Zy (g:=gb82002) (o:=.cells #[.int .i64 0,.slice none 0 0] 25 (0,0)) (by(with_reducible repeat(first|refine Zn ?_ _|refine Zs ?_|refine Zo ?_ _));exact BK82002.out) hb);have n2_:=Za (Zx (by repeat(first|(with_reducible first|exact HB.out|apply Zp|apply Zm|apply Zr|refine Zq ?_ GE82001.out|refine Zq ?_ GE82002.out)|exact HB.out)) hb);clear BK82001;clear BK82002;clear HB;have BK82001:=n0_;have BK82002:=n1_;have HB:=n2_;clear n0_ n1_ n2_;(try clear hb);(try clear hb2);(try clear hk);(try clear hi);have hcz11_0:w10.cell? ⟨gb82001,0,none⟩=some (.int .i64 a0_0):=(Zv BK82001.out 0).trans rfl;have hcz11_1:w10.cell? ⟨gb82001,1,none⟩=some (.slice A0_1 l0_1.length c0_1):=(Zv BK82001.out 1).trans rfl;have hfz11_0:=Zu BK82001.out 0;have hfz11_1:=Zu BK82001.out 1)|((with_reducible refine ZL (f:=128) rfl ?_);refine ZZ (some 15) rfl rfl Try.func128 (by kernel_rfl) rfl #[.agg #[.int .i64 a0_0,.slice A0_1 l0_1.length c0_1]] rfl (by(try simp only[List.map_toArray,List.map_cons,List.map_nil]);first|done|rfl|(simp only[Zk,Zj];rfl)) ?_;(with_reducible refine(Zad.calls a0_0 _ _ l0_1 t82004 t82005 _ ?side1 ?side2 A5.out).mono ?_);(case side1=>repeat(first|exact(Zb HR0_1.out HB.out)|(with_reducible refine Kd.C_alloc ?_ _)|(with_reducible refine Kd.C_drewN ?_ _)|(with_reducible refine Kd.C_drew ?_)));(case side2=>exact HC0_1.out);rintro e w12 ⟨v82006,rfl,ho0,hb⟩;refine⟨_,rfl,?_⟩;have n0_:=Za (Kd.R_lower ho0 (Zw (by repeat(first|(with_reducible first|exact HB.out|apply Zp|apply Zm|apply Zr|refine Zq ?_ GE82001.out|refine Zq ?_ GE82002.out)|exact HB.out))));have n1_:=Za (Zy (g:=gb82001) (o:=.cells #[.int .i64 a0_0,.slice A0_1 l0_1.length c0_1] 25 (0,0)) (by(with_reducible repeat(first|refine Zn ?_ _|refine Zs ?_|refine Zo ?_ _));exact BK82001.out) hb);have n2_:=Za (Zy (g:=gb82002) (o:=.cells #[.int .i64 0,.slice none 0 0] 25 (0,0)) (by(with_reducible repeat(first|refine Zn ?_ _|refine Zs ?_|refine Zo ?_ _));exact BK82002.out) hb);have n3_:=Za (Zx (by repeat(first|(with_reducible first|exact HB.out|apply Zp|apply Zm|apply Zr|refine Zq ?_ GE82001.out|refine Zq ?_ GE82002.out)|exact HB.out)) hb);clear BK82001;clear BK82002;clear HB;have HO82007:=n0_;have BK82001:=n1_;have BK82002:=n2_;have HB:=n3_;clear n0_ n1_ n2_ n3_;(try clear hb);(try clear hb2);(try clear hk);(try clear hi);(try clear ho0))|((with_reducible refine ZD (N:=6) rfl ?_);refine ZE ?hg (N:=6) ?hd (cs:=#[.int .i64 0,.slice none 0 0]) (t:=25) ?hr ?_;(case hd=>rfl);(case hg=>rfl);(case hr=>first|(go_simp;done)|(go_simp;rfl));intro gb82008 hg w13 hbox hb;have n0_:=Za (Kd.R_below (by(with_reducible repeat(first|apply Kd.R_alloc|apply Kd.R_drewN|apply Kd.R_drew));exact HO82007.out) hb);have n1_:=Za (Zy (g:=gb82001) (o:=.cells #[.int .i64 a0_0,.slice A0_1 l0_1.length c0_1] 25 (0,0)) (by(with_reducible repeat(first|refine Zn ?_ _|refine Zs ?_|refine Zo ?_ _));exact BK82001.out) hb);have n2_:=Za (Zy (g:=gb82002) (o:=.cells #[.int .i64 0,.slice none 0 0] 25 (0,0)) (by(with_reducible repeat(first|refine Zn ?_ _|refine Zs ?_|refine Zo ?_ _));exact BK82002.out) hb);have n3_:=Za (Zx (by repeat(first|(with_reducible first|exact HB.out|apply Zp|apply Zm|apply Zr|refine Zq ?_ GE82001.out|refine Zq ?_ GE82002.out)|exact HB.out)) hb);have n4_:=Za (hbox);have n5_:=Za ((by rw[hg];exact(Zw (by repeat(first|(with_reducible first|exact HB.out|apply Zp|apply Zm|apply Zr|refine Zq ?_ GE82001.out|refine Zq ?_ GE82002.out)|exact HB.out))):w.heap.size≤gb82008));have n6_:=Za ((by rw[hg];exact(Zw (by repeat(first|(with_reducible first|exact HB.out|apply Zp|apply Zm|apply Zr|refine Zq ?_ GE82001.out|refine Zq ?_ GE82002.out)|exact HB.out))):w.heap.size≤gb82008));have n7_:=Za ((by rw[hg];exact Nat.ne_of_lt (ZC (g:=gb82001) (o:=.cells #[.int .i64 a0_0,.slice A0_1 l0_1.length c0_1] 25 (0,0)) (by(with_reducible repeat(first|refine Zn ?_ _|refine Zs ?_|refine Zo ?_ _));exact BK82001.out)):gb82001≠gb82008));have n8_:=Za ((by rw[hg];exact Nat.ne_of_gt (ZC (g:=gb82001) (o:=.cells #[.int .i64 a0_0,.slice A0_1 l0_1.length c0_1] 25 (0,0)) (by(with_reducible repeat(first|refine Zn ?_ _|refine Zs ?_|refine Zo ?_ _));exact BK82001.out)):gb82008≠gb82001));have n9_:=Za ((by rw[hg];exact Nat.ne_of_lt (ZC (g:=gb82002) (o:=.cells #[.int .i64 0,.slice none 0 0] 25 (0,0)) (by(with_reducible repeat(first|refine Zn ?_ _|refine Zs ?_|refine Zo ?_ _));exact BK82002.out)):gb82002≠gb82008));have n10_:=Za ((by rw[hg];exact Nat.ne_of_gt (ZC (g:=gb82002) (o:=.cells #[.int .i64 0,.slice none 0 0] 25 (0,0)) (by(with_reducible repeat(first|refine Zn ?_ _|refine Zs ?_|refine Zo ?_ _));exact BK82002.out)):gb82008≠gb82002));clear HO82007;clear BK82001;clear BK82002;clear HB;have HO82007:=n0_;have BK82001:=n1_;have BK82002:=n2_;have HB:=n3_;have BK82008:=n4_;have GW82008:=n5_;have GE82008:=n6_;have NB82001_82008:=n7_;have NB82008_82001:=n8_;have NB82002_82008:=n9_;have NB82008_82002:=n10_;clear n0_ n1_ n2_ n3_ n4_ n5_ n6_ n7_ n8_ n9_ n10_;clear hb hbox hg;have hnb14:=NB82008_82001.out;have hnc14:=NB82001_82008.out;have hnb15:=NB82008_82002.out;have hnc15:=NB82002_82008.out;have hcz16_0:w13.cell? ⟨gb82008,0,none⟩=some (.int .i64 0):=(Zv BK82008.out 0).trans rfl;have hcz16_1:w13.cell? ⟨gb82008,1,none⟩=some (.slice none 0 0):=(Zv BK82008.out 1).trans rfl;have hfz16_0:=Zu BK82008.out 0;have hfz16_1:=Zu BK82008.out 1;obtain⟨Ao17,co17,eo17⟩:=Kd.R_slice HO82007.out;subst eo17))
  go_loopg [18] k (fun kq v18 w'=>∃(x18_1:Int) (x82009001_1:List (S101)) (u82009001:Value),v18=.int .i64 x18_1∧Aside0 (ZU.l0 kq l1 (l1.length:Int) x18_1 t82004 x82009001_1=some (r1,r2,r3))∧Aside0 (kq≤k)∧Aside0 (Kd.R k101 101 w' w.heap.size (fun _=>True) u82009001 x82009001_1)∧Aside0 (w'.heap[gb82001]? = some (.cells #[.int .i64 a0_0,(.slice A0_1 l0_1.length c0_1)] 25 (0,0)))∧Aside0 (w'.heap[gb82002]? = some (.cells #[.int .i64 0,(.slice none 0 0)] 25 (0,0)))∧Aside0 (w'.heap[gb82008]? = some (.cells #[.int .i64 t82004,u82009001] 25 (0,0)))∧Aside0 (Below w.heap.size w w'))
  case atStart=>exact⟨(0),(t82005),(.slice Ao17 t82005.length co17),(by first|rfl|(simp;done)|(simp[*];done)),H',⟨Nat.le_refl _⟩,⟨by(with_reducible repeat(first|apply Kd.R_alloc|apply Kd.R_drewN|apply Kd.R_drew));exact Kd.R_mono (Kd.R_far (p:=⟨gb82008,1,none⟩) (Kd.R_far (p:=⟨gb82008,0,none⟩) (Kd.R_types HO82007.out BK82008.out (by decide)) (fun _ hk=>hk.2) (.int .i64 t82004)) (fun _ hk=>hk.2) (.slice Ao17 t82005.length co17)) (fun _ hk=>trivial)⟩,⟨by(with_reducible repeat(first|refine Zn ?_ _|refine Zs ?_|refine Zo ?_ _));refine ZB ?_ NB82001_82008.out _;(with_reducible repeat(first|refine Zn ?_ _|refine Zs ?_|refine Zo ?_ _));refine ZB ?_ NB82001_82008.out _;(with_reducible repeat(first|refine Zn ?_ _|refine Zs ?_|refine Zo ?_ _));exact BK82001.out⟩,⟨by(with_reducible repeat(first|refine Zn ?_ _|refine Zs ?_|refine Zo ?_ _));refine ZB ?_ NB82002_82008.out _;(with_reducible repeat(first|refine Zn ?_ _|refine Zs ?_|refine Zo ?_ _));refine ZB ?_ NB82002_82008.out _;(with_reducible repeat(first|refine Zn ?_ _|refine Zs ?_|refine Zo ?_ _));exact BK82002.out⟩,⟨by(with_reducible repeat(first|refine Zn ?_ _|refine Zs ?_|refine Zo ?_ _));refine ZH (cs:=#[.int .i64 t82004,.slice none 0 0]) ?_ 1 _ rfl;(with_reducible repeat(first|refine Zn ?_ _|refine Zs ?_|refine Zo ?_ _));refine ZH (cs:=#[.int .i64 0,.slice none 0 0]) ?_ 0 _ rfl;(with_reducible repeat(first|refine Zn ?_ _|refine Zs ?_|refine Zo ?_ _));exact BK82008.out⟩,⟨by repeat(first|(with_reducible first|exact HB.out|apply Zp|apply Zm|apply Zr|refine Zq ?_ GE82001.out|refine Zq ?_ GE82002.out|refine Zq ?_ GE82008.out)|exact HB.out)⟩⟩
  case round=>
   clear H'
   try clear c1
   try clear p2
   try clear c4
   try clear c8
   try clear c12
   try clear c14
   try clear c15
   try clear hcz11_0
   try clear hcz11_1
   try clear hcz16_0
   try clear hcz16_1
   try clear hcz9_0
   try clear hcz9_1
   try clear hfz11_0
   try clear hfz11_1
   try clear hfz16_0
   try clear hfz16_1
   try clear hfz9_0
   try clear hfz9_1
   obtain⟨x18_1,x82009001_1,u82009001,rfl,HA,HK1,HO_82009001,BK82001,BK82002,BK82008,HB⟩:=hrel
   cases gk with
   | zero=>exact absurd HA.out (by simp[ZU.l0])
   | succ k1=>
    have H:=HA.out
    clear HA
    simp only[ZU.l0] at H
    by_cases c18:x18_1<(l1.length:Int)
    ·rw[if_pos c18] at H
     have c18b0:decide (x18_1<(l1.length:Int))=true:=Ze c18
     clear c18
     by_cases c19:0≤x18_1
     ·rw[if_pos c19] at H
      have c19b0:decide (0≤x18_1)=true:=Ze c19
      clear c19
      by_cases c20:x18_1<(l1.length:Int)
      ·rw[if_pos c20] at H
       have c20b0:decide (x18_1<(l1.length:Int))=true:=Ze c20
       clear c20
       by_cases c21:x18_1 > 0
       ·rw[if_pos c21] at H
        have c21b0:decide (0<x18_1)=true:=Ze c21
        clear c21
        by_cases c22:(rd l1 x18_1)=(-1)
        ·rw[if_pos c22] at H
         have c22b0:((rd l1 x18_1) == (-1))=true:=beq_iff_eq.mpr c22
         have c22b1:((rd l1 x18_1) != (-1))=false:=bne_eq_false_iff_eq.mpr c22
         clear c22
         have H':=Za H
         clear H
         have p82009:0≤(x18_1:Int):=Zd (by first|(with_reducible assumption)|assumption)
         have q82009:x18_1<(l1.length:Int):=Zd (by first|(with_reducible assumption)|assumption)
         obtain⟨ad82009,e82009,hx82009_0⟩:=Kd.at_int HR1.out x18_1 p82009 q82009
         cases e82009
         replace hx82009_0:=(HB.out.cell (Zc w _ hx82009_0)).trans hx82009_0
         replace p82009:=eq_true p82009
         replace q82009:=eq_true q82009
         go_wp2
         go_roundg k1
         case measure=>have:=HK1.out;omega
         case rel=>exact⟨(wrap64 (x18_1+1)),(x82009001_1),(u82009001),(by first|rfl|(simp;done)|(simp[*];done)),H',⟨by have:=HK1.out;omega⟩,⟨by(with_reducible repeat(first|apply Kd.R_alloc|apply Kd.R_drewN|apply Kd.R_drew));exact HO_82009001.out⟩,⟨by(with_reducible repeat(first|refine Zn ?_ _|refine Zs ?_|refine Zo ?_ _));exact BK82001.out⟩,⟨by(with_reducible repeat(first|refine Zn ?_ _|refine Zs ?_|refine Zo ?_ _));exact BK82002.out⟩,⟨by(with_reducible repeat(first|refine Zn ?_ _|refine Zs ?_|refine Zo ?_ _));exact BK82008.out⟩,⟨by repeat(first|(with_reducible first|exact HB.out|apply Zp|apply Zm|apply Zr|refine Zq ?_ GE82001.out|refine Zq ?_ GE82002.out|refine Zq ?_ GE82008.out)|exact HB.out)⟩⟩
        ·rw[if_neg c22] at H
         have c22b0:((rd l1 x18_1) == (-1))=false:=beq_eq_false_iff_ne.mpr c22
         have c22b1:((rd l1 x18_1) != (-1))=true:=bne_iff_ne.mpr c22
         by_cases c23:x82009001_1.length<4398046511104
         ·rw[if_pos c23] at H
          have LMc23:=Za c23;clear c23
          obtain⟨y82010,hy82010⟩:∃y_:List (S101),y_=(x82009001_1 ++ [(⟨0,x18_1,(⟨rd l1 x18_1,rd l1 x18_1⟩:S29)⟩:S101)]):=⟨_,rfl⟩
          replace H:(ZU.l0 k1 l1 (l1.length:Int) (wrap64 (x18_1+1)) t82004 y82010)=some (r1,r2,r3):=by first|(rw[hy82010];with_reducible exact H)|(have H2_:=(Zi _ _).symm.trans H;rw[hy82010];with_reducible exact H2_)|(have H2_:=(Zi _ _).symm.trans H;with_reducible exact H2_)|with_reducible exact H|(rw[hy82010];exact H)|exact H
          have Ny82010:=Za hy82010;clear hy82010
          have H':=Za H
          clear H
          have p82009:0≤(x18_1:Int):=Zd (by first|(with_reducible assumption)|assumption)
          have q82009:x18_1<(l1.length:Int):=Zd (by first|(with_reducible assumption)|assumption)
          obtain⟨ad82009,e82009,hx82009_0⟩:=Kd.at_int HR1.out x18_1 p82009 q82009
          cases e82009
          replace hx82009_0:=(HB.out.cell (Zc w _ hx82009_0)).trans hx82009_0
          replace p82009:=eq_true p82009
          replace q82009:=eq_true q82009
          have hnb24:=NB82008_82001.out
          have hnc24:=NB82001_82008.out
          have hnb25:=NB82008_82002.out
          have hnc25:=NB82002_82008.out
          have hcz26_0:wr.cell? ⟨gb82008,0,none⟩=some (.int .i64 t82004):=(Zv BK82008.out 0).trans rfl
          have hcz26_1:wr.cell? ⟨gb82008,1,none⟩=some (u82009001):=(Zv BK82008.out 1).trans rfl
          have hfz26_0:=Zu BK82008.out 0
          have hfz26_1:=Zu BK82008.out 1
          go_wp2_with (first|((with_reducible refine Z1 (b:=.append) (xs:=#[.tmp 30,.tmp 36]) rfl ?_);at_builtin;refine Kd.R_append k101 (w0:=w) w.heap.size rfl (.tmp 30) (.tmp 36) 23 101 (.agg #[(.int .i64 0),(.int .i64 0),(.int .i64 0),(.int .i64 0)]) 32 rfl Try.underlying23 ZbX rfl (by decide) (by omega) u82009001 x82009001_1 (⟨0,x18_1,(⟨rd l1 x18_1,rd l1 x18_1⟩:S29)⟩:S101) [.int .i64 0,.int .i64 x18_1,.int .i64 (rd l1 x18_1),.int .i64 (rd l1 x18_1)] (fun _=>True) (fun _=>False) rfl rfl ?aP (fun _ hk=>hk.elim) ?aF ?aO ?aB ?aS ?aL ?_;(case aP=>exact Zb4 _ _ _ (⟨0,x18_1,(⟨rd l1 x18_1,rd l1 x18_1⟩:S29)⟩:S101));(case aB=>exact(by repeat(first|(with_reducible first|exact HB.out|apply Zp|apply Zm|apply Zr|refine Zq ?_ GE82001.out|refine Zq ?_ GE82002.out|refine Zq ?_ GE82008.out)|exact HB.out)));(case aF=>exact(fun _ _=>trivial));(case aO=>exact(by(with_reducible repeat(first|apply Kd.R_alloc|apply Kd.R_drewN|apply Kd.R_drew));exact HO_82009001.out));(case aS=>exact(Zw (by repeat(first|(with_reducible first|exact HB.out|apply Zp|apply Zm|apply Zr|refine Zq ?_ GE82001.out|refine Zq ?_ GE82002.out|refine Zq ?_ GE82008.out)|exact HB.out))));(case aL=>have:=LMc23.out;omega);intro v82011 w27 ho hb hg hat;rw[← Ny82010.out] at ho;have n0_:=Za (ZK (g:=gb82001) (o:=.cells #[.int .i64 a0_0,.slice A0_1 l0_1.length c0_1] 25 (0,0)) (by(with_reducible repeat(first|refine Zn ?_ _|refine Zs ?_|refine Zo ?_ _));exact BK82001.out) hg (Kd.R_ne HO_82009001.out BK82001.out (by decide)));have n1_:=Za (ZK (g:=gb82002) (o:=.cells #[.int .i64 0,.slice none 0 0] 25 (0,0)) (by(with_reducible repeat(first|refine Zn ?_ _|refine Zs ?_|refine Zo ?_ _));exact BK82002.out) hg (Kd.R_ne HO_82009001.out BK82002.out (by decide)));have n2_:=Za (ZK (g:=gb82008) (o:=.cells #[.int .i64 t82004,u82009001] 25 (0,0)) (by(with_reducible repeat(first|refine Zn ?_ _|refine Zs ?_|refine Zo ?_ _));exact BK82008.out) hg (Kd.R_ne HO_82009001.out BK82008.out (by decide)));have n3_:=Za (hb);have n4_:=Za (ho);clear BK82001;clear BK82002;clear BK82008;clear HB;clear HO_82009001;have BK82001:=n0_;have BK82002:=n1_;have BK82008:=n2_;have HB:=n3_;have HO82012:=n4_;clear n0_ n1_ n2_ n3_ n4_;clear ho hb hg hat;obtain⟨Ao28,co28,eo28⟩:=Kd.R_slice HO82012.out;subst eo28;have hcz29_0:w27.cell? ⟨gb82008,0,none⟩=some (.int .i64 t82004):=(Zv BK82008.out 0).trans rfl;have hcz29_1:w27.cell? ⟨gb82008,1,none⟩=some (u82009001):=(Zv BK82008.out 1).trans rfl;have hfz29_0:=Zu BK82008.out 0;have hfz29_1:=Zu BK82008.out 1))
          go_roundg k1
          case measure=>have:=HK1.out;omega
          case rel=>exact⟨(wrap64 (x18_1+1)),(y82010),(.slice Ao28 y82010.length co28),(by first|rfl|(simp;done)|(simp[*];done)),H',⟨by have:=HK1.out;omega⟩,⟨by(with_reducible repeat(first|apply Kd.R_alloc|apply Kd.R_drewN|apply Kd.R_drew));exact Kd.R_mono (Kd.R_far (p:=⟨gb82008,1,none⟩) (Kd.R_types HO82012.out BK82008.out (by decide)) (fun _ hk=>hk.2) (.slice Ao28 y82010.length co28)) (fun _ hk=>trivial)⟩,⟨by(with_reducible repeat(first|refine Zn ?_ _|refine Zs ?_|refine Zo ?_ _));refine ZB ?_ NB82001_82008.out _;(with_reducible repeat(first|refine Zn ?_ _|refine Zs ?_|refine Zo ?_ _));exact BK82001.out⟩,⟨by(with_reducible repeat(first|refine Zn ?_ _|refine Zs ?_|refine Zo ?_ _));refine ZB ?_ NB82002_82008.out _;(with_reducible repeat(first|refine Zn ?_ _|refine Zs ?_|refine Zo ?_ _));exact BK82002.out⟩,⟨by(with_reducible repeat(first|refine Zn ?_ _|refine Zs ?_|refine Zo ?_ _));refine ZH (cs:=#[.int .i64 t82004,u82009001]) ?_ 1 _ rfl;(with_reducible repeat(first|refine Zn ?_ _|refine Zs ?_|refine Zo ?_ _));exact BK82008.out⟩,⟨by repeat(first|(with_reducible first|exact HB.out|apply Zp|apply Zm|apply Zr|refine Zq ?_ GE82001.out|refine Zq ?_ GE82002.out|refine Zq ?_ GE82008.out)|exact HB.out)⟩⟩
         ·rw[if_neg c23] at H
          exact absurd H (by simp)
       ·rw[if_neg c21] at H
        have c21b0:decide (0<x18_1)=false:=Zf c21
        clear c21
        have H':=Za H
        clear H
        have p82009:0≤(x18_1:Int):=Zd (by first|(with_reducible assumption)|assumption)
        have q82009:x18_1<(l1.length:Int):=Zd (by first|(with_reducible assumption)|assumption)
        obtain⟨ad82009,e82009,hx82009_0⟩:=Kd.at_int HR1.out x18_1 p82009 q82009
        cases e82009
        replace hx82009_0:=(HB.out.cell (Zc w _ hx82009_0)).trans hx82009_0
        replace p82009:=eq_true p82009
        replace q82009:=eq_true q82009
        go_wp2
        go_roundg k1
        case measure=>have:=HK1.out;omega
        case rel=>exact⟨(wrap64 (x18_1+1)),(x82009001_1),(u82009001),(by first|rfl|(simp;done)|(simp[*];done)),H',⟨by have:=HK1.out;omega⟩,⟨by(with_reducible repeat(first|apply Kd.R_alloc|apply Kd.R_drewN|apply Kd.R_drew));exact HO_82009001.out⟩,⟨by(with_reducible repeat(first|refine Zn ?_ _|refine Zs ?_|refine Zo ?_ _));exact BK82001.out⟩,⟨by(with_reducible repeat(first|refine Zn ?_ _|refine Zs ?_|refine Zo ?_ _));exact BK82002.out⟩,⟨by(with_reducible repeat(first|refine Zn ?_ _|refine Zs ?_|refine Zo ?_ _));exact BK82008.out⟩,⟨by repeat(first|(with_reducible first|exact HB.out|apply Zp|apply Zm|apply Zr|refine Zq ?_ GE82001.out|refine Zq ?_ GE82002.out|refine Zq ?_ GE82008.out)|exact HB.out)⟩⟩
      ·rw[if_neg c20] at H
       exact absurd H (by simp)
     ·rw[if_neg c19] at H
      exact absurd H (by simp)
    ·rw[if_neg c18] at H
     have c18b0:decide (x18_1<(l1.length:Int))=false:=Zf c18
     clear c18
     replace H:=Zh H
     obtain⟨t82013,A300,H⟩:=H
     replace H:(if t82013=true then(some (t82004,x82009001_1,true)) else(some (0,([]:List (S101)),false)))=some (r1,r2,r3):=H
     have A30:=Za A300;clear A300
     by_cases c31:t82013=true
     ·subst c31
      have H1:(some (t82004,x82009001_1,true))=some (r1,r2,r3):=by rw[if_pos rfl] at H;exact H
      clear H
      have H:=H1
      clear H1
      simp only[Option.some.injEq,Prod.mk.injEq] at H
      obtain⟨rfl,rfl,rfl⟩:=H
      have hnb32:=NB82008_82001.out
      have hnc32:=NB82001_82008.out
      have hnb33:=NB82008_82002.out
      have hnc33:=NB82002_82008.out
      have hcz34_0:wr.cell? ⟨gb82008,0,none⟩=some (.int .i64 t82004):=(Zv BK82008.out 0).trans rfl
      have hcz34_1:wr.cell? ⟨gb82008,1,none⟩=some (u82009001):=(Zv BK82008.out 1).trans rfl
      have hfz34_0:=Zu BK82008.out 0
      have hfz34_1:=Zu BK82008.out 1
      obtain⟨Ao35,co35,eo35⟩:=Kd.R_slice HO_82009001.out
      subst eo35
      go_wp2_with (first|((with_reducible refine ZL (f:=129) rfl ?_);refine ZZ (some 41) rfl rfl Try.func129 (by kernel_rfl) rfl #[.agg #[.int .i64 t82004,.slice Ao35 x82009001_1.length co35]] rfl (by(try simp only[List.map_toArray,List.map_cons,List.map_nil]);first|done|rfl|(simp only[Zk,Zj];rfl)) ?_;(with_reducible refine(ZF.calls k1 t82004 _ _ x82009001_1 true _ ?side1 ?side2 A30.out).mono ?_);(case side1=>repeat(first|exact(Kd.R_reads' HO_82009001.out).2.2|(with_reducible refine Kd.C_alloc ?_ _)|(with_reducible refine Kd.C_drewN ?_ _)|(with_reducible refine Kd.C_drew ?_)));(case side2=>exact(Kd.R_reads' HO_82009001.out).2.1);rintro e w36 ⟨rfl,hb⟩;refine⟨_,rfl,?_⟩;have n0_:=Za (Kd.R_below (by(with_reducible repeat(first|apply Kd.R_alloc|apply Kd.R_drewN|apply Kd.R_drew));exact HO_82009001.out) hb);have n1_:=Za (Zy (g:=gb82001) (o:=.cells #[.int .i64 a0_0,.slice A0_1 l0_1.length c0_1] 25 (0,0)) (by(with_reducible repeat(first|refine Zn ?_ _|refine Zs ?_|refine Zo ?_ _));exact BK82001.out) hb);have n2_:=Za (Zy (g:=gb82002) (o:=.cells #[.int .i64 0,.slice none 0 0] 25 (0,0)) (by(with_reducible repeat(first|refine Zn ?_ _|refine Zs ?_|refine Zo ?_ _));exact BK82002.out) hb);have n3_:=Za (Zy (g:=gb82008) (o:=.cells #[.int .i64 t82004,.slice Ao35 x82009001_1.length co35] 25 (0,0)) (by(with_reducible repeat(first|refine Zn ?_ _|refine Zs ?_|refine Zo ?_ _));exact BK82008.out) hb);have n4_:=Za (Zx (by repeat(first|(with_reducible first|exact HB.out|apply Zp|apply Zm|apply Zr|refine Zq ?_ GE82001.out|refine Zq ?_ GE82002.out|refine Zq ?_ GE82008.out)|exact HB.out)) hb);clear HO_82009001;clear BK82001;clear BK82002;clear BK82008;clear HB;have HO_82009001:=n0_;have BK82001:=n1_;have BK82002:=n2_;have BK82008:=n3_;have HB:=n4_;clear n0_ n1_ n2_ n3_ n4_;(try clear hb);(try clear hb2);(try clear hk);(try clear hi);have hcz37_0:w36.cell? ⟨gb82008,0,none⟩=some (.int .i64 t82004):=(Zv BK82008.out 0).trans rfl;have hcz37_1:w36.cell? ⟨gb82008,1,none⟩=some (.slice Ao35 x82009001_1.length co35):=(Zv BK82008.out 1).trans rfl;have hfz37_0:=Zu BK82008.out 0;have hfz37_1:=Zu BK82008.out 1;have hnb38:=NB82002_82001.out;have hnc38:=NB82001_82002.out;have hcz39_0:w36.cell? ⟨gb82002,0,none⟩=some (.int .i64 0):=(Zv BK82002.out 0).trans rfl;have hcz39_1:w36.cell? ⟨gb82002,1,none⟩=some (.slice none 0 0):=(Zv BK82002.out 1).trans rfl;have hfz39_0:=Zu BK82002.out 0;have hfz39_1:=Zu BK82002.out 1))
      refine bodyPost_ret (Za4 rfl _ _ gb82002 25 #[.int .i64 t82004,.slice Ao35 x82009001_1.length co35] (0,0) _ rfl (by(with_reducible repeat(first|refine Zn ?_ _|refine Zs ?_|refine Zo ?_ _));refine ZH (cs:=#[.int .i64 t82004,.slice none 0 0]) ?_ 1 _ rfl;(with_reducible repeat(first|refine Zn ?_ _|refine Zs ?_|refine Zo ?_ _));refine ZH (cs:=#[.int .i64 0,.slice none 0 0]) ?_ 0 _ rfl;(with_reducible repeat(first|refine Zn ?_ _|refine Zs ?_|refine Zo ?_ _));exact BK82002.out) Try.underlying25 rfl (by kernel_rfl)) rfl ?_
      exact⟨_,by first|rfl|(simp[ZA,Zz] <;> rfl)|(simp[*,ZA,Zz] <;> rfl),by(with_reducible repeat(first|apply Kd.R_alloc|apply Kd.R_drewN|apply Kd.R_drew));exact Kd.R_mono (Kd.R_far (p:=⟨gb82002,1,none⟩) (Kd.R_far (p:=⟨gb82002,0,none⟩) (Kd.R_types HO_82009001.out BK82002.out (by decide)) (fun _ hk=>hk.2) (.int .i64 t82004)) (fun _ hk=>hk.2) (.slice Ao35 x82009001_1.length co35)) (fun _ hk=>trivial),by repeat(first|(with_reducible first|exact HB.out|apply Zp|apply Zm|apply Zr|refine Zq ?_ GE82001.out|refine Zq ?_ GE82002.out|refine Zq ?_ GE82008.out)|exact HB.out)⟩
     ·replace c31:=Bool.eq_false_iff.mpr c31
      subst c31
      have H1:(some (0,([]:List (S101)),false))=some (r1,r2,r3):=by rw[if_neg (show ¬(false=true) by decide)] at H;exact H
      clear H
      have H:=H1
      clear H1
      simp only[Option.some.injEq,Prod.mk.injEq] at H
      obtain⟨rfl,rfl,rfl⟩:=H
      have hnb40:=NB82008_82001.out
      have hnc40:=NB82001_82008.out
      have hnb41:=NB82008_82002.out
      have hnc41:=NB82002_82008.out
      have hcz42_0:wr.cell? ⟨gb82008,0,none⟩=some (.int .i64 t82004):=(Zv BK82008.out 0).trans rfl
      have hcz42_1:wr.cell? ⟨gb82008,1,none⟩=some (u82009001):=(Zv BK82008.out 1).trans rfl
      have hfz42_0:=Zu BK82008.out 0
      have hfz42_1:=Zu BK82008.out 1
      obtain⟨Ao43,co43,eo43⟩:=Kd.R_slice HO_82009001.out
      subst eo43
      go_wp2_with (first|((with_reducible refine ZL (f:=129) rfl ?_);refine ZZ (some 41) rfl rfl Try.func129 (by kernel_rfl) rfl #[.agg #[.int .i64 t82004,.slice Ao43 x82009001_1.length co43]] rfl (by(try simp only[List.map_toArray,List.map_cons,List.map_nil]);first|done|rfl|(simp only[Zk,Zj];rfl)) ?_;(with_reducible refine(ZF.calls k1 t82004 _ _ x82009001_1 false _ ?side1 ?side2 A30.out).mono ?_);(case side1=>repeat(first|exact(Kd.R_reads' HO_82009001.out).2.2|(with_reducible refine Kd.C_alloc ?_ _)|(with_reducible refine Kd.C_drewN ?_ _)|(with_reducible refine Kd.C_drew ?_)));(case side2=>exact(Kd.R_reads' HO_82009001.out).2.1);rintro e w44 ⟨rfl,hb⟩;refine⟨_,rfl,?_⟩;have n0_:=Za (Kd.R_below (by(with_reducible repeat(first|apply Kd.R_alloc|apply Kd.R_drewN|apply Kd.R_drew));exact HO_82009001.out) hb);have n1_:=Za (Zy (g:=gb82001) (o:=.cells #[.int .i64 a0_0,.slice A0_1 l0_1.length c0_1] 25 (0,0)) (by(with_reducible repeat(first|refine Zn ?_ _|refine Zs ?_|refine Zo ?_ _));exact BK82001.out) hb);have n2_:=Za (Zy (g:=gb82002) (o:=.cells #[.int .i64 0,.slice none 0 0] 25 (0,0)) (by(with_reducible repeat(first|refine Zn ?_ _|refine Zs ?_|refine Zo ?_ _));exact BK82002.out) hb);have n3_:=Za (Zy (g:=gb82008) (o:=.cells #[.int .i64 t82004,.slice Ao43 x82009001_1.length co43] 25 (0,0)) (by(with_reducible repeat(first|refine Zn ?_ _|refine Zs ?_|refine Zo ?_ _));exact BK82008.out) hb);have n4_:=Za (Zx (by repeat(first|(with_reducible first|exact HB.out|apply Zp|apply Zm|apply Zr|refine Zq ?_ GE82001.out|refine Zq ?_ GE82002.out|refine Zq ?_ GE82008.out)|exact HB.out)) hb);clear HO_82009001;clear BK82001;clear BK82002;clear BK82008;clear HB;have HO_82009001:=n0_;have BK82001:=n1_;have BK82002:=n2_;have BK82008:=n3_;have HB:=n4_;clear n0_ n1_ n2_ n3_ n4_;(try clear hb);(try clear hb2);(try clear hk);(try clear hi);have hnb45:=NB82002_82001.out;have hnc45:=NB82001_82002.out;have hcz46_0:w44.cell? ⟨gb82002,0,none⟩=some (.int .i64 0):=(Zv BK82002.out 0).trans rfl;have hcz46_1:w44.cell? ⟨gb82002,1,none⟩=some (.slice none 0 0):=(Zv BK82002.out 1).trans rfl;have hfz46_0:=Zu BK82002.out 0;have hfz46_1:=Zu BK82002.out 1))
      refine bodyPost_ret (Za4 rfl _ _ gb82002 25 #[.int .i64 0,.slice none 0 0] (0,0) _ rfl (by(with_reducible repeat(first|refine Zn ?_ _|refine Zs ?_|refine Zo ?_ _));refine ZH (cs:=#[.int .i64 0,.slice none 0 0]) ?_ 1 _ rfl;(with_reducible repeat(first|refine Zn ?_ _|refine Zs ?_|refine Zo ?_ _));refine ZH (cs:=#[.int .i64 0,.slice none 0 0]) ?_ 0 _ rfl;(with_reducible repeat(first|refine Zn ?_ _|refine Zs ?_|refine Zo ?_ _));exact BK82002.out) Try.underlying25 rfl (by kernel_rfl)) rfl ?_
      exact⟨_,by first|rfl|(simp[ZA,Zz] <;> rfl)|(simp[*,ZA,Zz] <;> rfl),by first|exact Kd.R_nil _ _ _ _ _|exact Kd.N_nil _ _ _ _ _|exact Kd.V_nil _ _ _ _ _|exact Kd.Q_nil _ _ _ _ _|exact Kd.S_nil _ _ _ _ _,by repeat(first|(with_reducible first|exact HB.out|apply Zp|apply Zm|apply Zr|refine Zq ?_ GE82001.out|refine Zq ?_ GE82002.out|refine Zq ?_ GE82008.out)|exact HB.out)⟩
 ·replace c4:=Bool.eq_false_iff.mpr c4
  subst c4
  have H1:(some (0,([]:List (S101)),false))=some (r1,r2,r3):=by rw[if_neg (show ¬(false=true) by decide)] at H;exact H
  clear H
  have H:=H1
  clear H1
  simp only[Option.some.injEq,Prod.mk.injEq] at H
  obtain⟨rfl,rfl,rfl⟩:=H
  go_enter Try.func82,Try.ntmps82
  go_wp2_with (first|((with_reducible refine ZD (N:=2) rfl ?_);refine ZE ?hg (N:=2) ?hd (cs:=#[.int .i64 a0_0,.slice A0_1 l0_1.length c0_1]) (t:=25) ?hr ?_;(case hd=>rfl);(case hg=>rfl);(case hr=>first|(go_simp;done)|(go_simp;rfl));intro gb82001 hg w47 hbox hb;have n0_:=Za (Zx (by repeat(first|(with_reducible first|exact HB.out|apply Zp|apply Zm|apply Zr)|exact HB.out)) hb);have n1_:=Za (hbox);have n2_:=Za ((by rw[hg];exact(Zw (by repeat(first|(with_reducible first|exact HB.out|apply Zp|apply Zm|apply Zr)|exact HB.out))):w.heap.size≤gb82001));have n3_:=Za ((by rw[hg];exact(Zw (by repeat(first|(with_reducible first|exact HB.out|apply Zp|apply Zm|apply Zr)|exact HB.out))):w.heap.size≤gb82001));clear HB;have HB:=n0_;have BK82001:=n1_;have GW82001:=n2_;have GE82001:=n3_;clear n0_ n1_ n2_ n3_;clear hb hbox hg)|((with_reducible refine ZD (N:=4) rfl ?_);refine ZE ?hg (N:=4) ?hd (cs:=#[.int .i64 0,.slice none 0 0]) (t:=25) ?hr ?_;(case hd=>rfl);(case hg=>rfl);(case hr=>first|(go_simp;done)|(go_simp;rfl));intro gb82002 hg w48 hbox hb;have n0_:=Za (Zy (g:=gb82001) (o:=.cells #[.int .i64 a0_0,.slice A0_1 l0_1.length c0_1] 25 (0,0)) (by(with_reducible repeat(first|refine Zn ?_ _|refine Zs ?_|refine Zo ?_ _));exact BK82001.out) hb);have n1_:=Za (Zx (by repeat(first|(with_reducible first|exact HB.out|apply Zp|apply Zm|apply Zr|refine Zq ?_ GE82001.out)|exact HB.out)) hb);have n2_:=Za (hbox);have n3_:=Za ((by rw[hg];exact(Zw (by repeat(first|(with_reducible first|exact HB.out|apply Zp|apply Zm|apply Zr|refine Zq ?_ GE82001.out)|exact HB.out))):w.heap.size≤gb82002));have n4_:=Za ((by rw[hg];exact(Zw (by repeat(first|(with_reducible first|exact HB.out|apply Zp|apply Zm|apply Zr|refine Zq ?_ GE82001.out)|exact HB.out))):w.heap.size≤gb82002));have n5_:=Za ((by rw[hg];exact Nat.ne_of_lt (ZC (g:=gb82001) (o:=.cells #[.int .i64 a0_0,.slice A0_1 l0_1.length c0_1] 25 (0,0)) (by(with_reducible repeat(first|refine Zn ?_ _|refine Zs ?_|refine Zo ?_ _));exact BK82001.out)):gb82001≠gb82002));have n6_:=Za ((by rw[hg];exact Nat.ne_of_gt (ZC (g:=gb82001) (o:=.cells #[.int .i64 a0_0,.slice A0_1 l0_1.length c0_1] 25 (0,0)) (by(with_reducible repeat(first|refine Zn ?_ _|refine Zs ?_|refine Zo ?_ _));exact BK82001.out)):gb82002≠gb82001));clear BK82001;clear HB;have BK82001:=n0_;have HB:=n1_;have BK82002:=n2_;have GW82002:=n3_;have GE82002:=n4_;have NB82001_82002:=n5_;have NB82002_82001:=n6_;clear n0_ n1_ n2_ n3_ n4_ n5_ n6_;clear hb hbox hg;have hnb49:=NB82001_82002.out;have hnc49:=NB82002_82001.out;have hcz50_0:w48.cell? ⟨gb82001,0,none⟩=some (.int .i64 a0_0):=(Zv BK82001.out 0).trans rfl;have hcz50_1:w48.cell? ⟨gb82001,1,none⟩=some (.slice A0_1 l0_1.length c0_1):=(Zv BK82001.out 1).trans rfl;have hfz50_0:=Zu BK82001.out 0;have hfz50_1:=Zu BK82001.out 1)|((with_reducible refine ZL (f:=127) rfl ?_);refine ZZ (some 11) rfl rfl Try.func127 (by kernel_rfl) rfl #[.agg #[.int .i64 a0_0,.slice A0_1 l0_1.length c0_1],.slice A1 l1.length c1] rfl (by(try simp only[List.map_toArray,List.map_cons,List.map_nil]);first|done|rfl|(simp only[Zk,Zj];rfl)) ?_;(with_reducible refine(ZJ.calls k a0_0 _ _ l0_1 _ _ l1 false _ ?side1 ?side2 ?side3 ?side4 A3.out).mono ?_);(case side1=>repeat(first|exact(Zb HR0_1.out HB.out)|(with_reducible refine Kd.C_alloc ?_ _)|(with_reducible refine Kd.C_drewN ?_ _)|(with_reducible refine Kd.C_drew ?_)));(case side2=>exact HC0_1.out);(case side3=>repeat(first|exact(Zb HR1.out HB.out)|(with_reducible refine Kd.C_alloc ?_ _)|(with_reducible refine Kd.C_drewN ?_ _)|(with_reducible refine Kd.C_drew ?_)));(case side4=>exact HC1.out);rintro e w51 ⟨rfl,hb⟩;refine⟨_,rfl,?_⟩;have n0_:=Za (Zy (g:=gb82001) (o:=.cells #[.int .i64 a0_0,.slice A0_1 l0_1.length c0_1] 25 (0,0)) (by(with_reducible repeat(first|refine Zn ?_ _|refine Zs ?_|refine Zo ?_ _));exact BK82001.out) hb);have n1_:=Za (Zy (g:=gb82002) (o:=.cells #[.int .i64 0,.slice none 0 0] 25 (0,0)) (by(with_reducible repeat(first|refine Zn ?_ _|refine Zs ?_|refine Zo ?_ _));exact BK82002.out) hb);have n2_:=Za (Zx (by repeat(first|(with_reducible first|exact HB.out|apply Zp|apply Zm|apply Zr|refine Zq ?_ GE82001.out|refine Zq ?_ GE82002.out)|exact HB.out)) hb);clear BK82001;clear BK82002;clear HB;have BK82001:=n0_;have BK82002:=n1_;have HB:=n2_;clear n0_ n1_ n2_;(try clear hb);(try clear hb2);(try clear hk);(try clear hi);have hcz52_0:w51.cell? ⟨gb82002,0,none⟩=some (.int .i64 0):=(Zv BK82002.out 0).trans rfl;have hcz52_1:w51.cell? ⟨gb82002,1,none⟩=some (.slice none 0 0):=(Zv BK82002.out 1).trans rfl;have hfz52_0:=Zu BK82002.out 0;have hfz52_1:=Zu BK82002.out 1))
  refine bodyPost_ret (Za4 rfl _ _ gb82002 25 #[.int .i64 0,.slice none 0 0] (0,0) _ rfl (by(with_reducible repeat(first|refine Zn ?_ _|refine Zs ?_|refine Zo ?_ _));refine ZH (cs:=#[.int .i64 0,.slice none 0 0]) ?_ 1 _ rfl;(with_reducible repeat(first|refine Zn ?_ _|refine Zs ?_|refine Zo ?_ _));refine ZH (cs:=#[.int .i64 0,.slice none 0 0]) ?_ 0 _ rfl;(with_reducible repeat(first|refine Zn ?_ _|refine Zs ?_|refine Zo ?_ _));exact BK82002.out) Try.underlying25 rfl (by kernel_rfl)) rfl ?_
  exact⟨_,by first|rfl|(simp[ZA,Zz] <;> rfl)|(simp[*,ZA,Zz] <;> rfl),by first|exact Kd.R_nil _ _ _ _ _|exact Kd.N_nil _ _ _ _ _|exact Kd.V_nil _ _ _ _ _|exact Kd.Q_nil _ _ _ _ _|exact Kd.S_nil _ _ _ _ _,by repeat(first|(with_reducible first|exact HB.out|apply Zp|apply Zm|apply Zr|refine Zq ?_ GE82001.out|refine Zq ?_ GE82002.out)|exact HB.out)⟩
end Go.Proofs.Ytpoffpdaadhkgaa.Pr
namespace Go.Proofs.Ytpoffpdaadhkgaa.Pr
open Go.RowKit Go.Proofs.YtpoffpdaadhkgaaW.PrintWords Go.Proofs.Ytpoffpdaadhkgaa.Ni
abbrev SSt:=List Int×List Int×List Bool×Int
def Za1 (s:SSt) (i:Nat) (e:ZV):SSt:=
 if rb s.2.2.1 e.f0=true∧(rb s.2.2.1 e.f1=false∨wrap64 (rd s.1 e.f0+e.f2)<rd s.1 e.f1) then(s.1.set e.f1.toNat (wrap64 (rd s.1 e.f0+e.f2)),s.2.1.set e.f1.toNat (i:Int),s.2.2.1.set e.f1.toNat true,(i:Int)) else s
def srnd:List ZV→Nat→SSt→SSt
 | [],_,s=>s
 | e :: t,i,s=>srnd t (i+1) (Za1 s i e)
theorem rb_all {N:Nat} {x:Int} (h0:0≤x) (h:x<N):rb (List.replicate N true) x=true:=by
 unfold rb
 rw[List.getD_eq_getElem?_getD,List.getElem?_replicate,if_pos (by omega)];rfl
theorem srelax_all {N i:Nat} {d l:List Int} {ch:Int} {e:ZV} (h:0≤e.f0∧e.f0<N∧0≤e.f1∧e.f1<N):Za1 (d,l,List.replicate N true,ch) i e=((Zbe (d,l,ch) i e).1,(Zbe (d,l,ch) i e).2.1,List.replicate N true,(Zbe (d,l,ch) i e).2.2):=by
 unfold Za1 Zbe
 dsimp only
 rw[rb_all h.1 h.2.1,rb_all h.2.2.1 h.2.2.2]
 by_cases c:wrap64 (rd d e.f0+e.f2)<rd d e.f1
 ·rw[if_pos ⟨rfl,.inr c⟩,if_pos c]
  simp
 ·rw[if_neg (by simp[c]),if_neg c]
theorem srnd_all {N:Nat}:∀(E:List ZV) (i:Nat) (d l:List Int) (ch:Int),ZaK E N→srnd E i (d,l,List.replicate N true,ch)=((rnd E i (d,l,ch)).1,(rnd E i (d,l,ch)).2.1,List.replicate N true,(rnd E i (d,l,ch)).2.2)
 | [],_,_,_,_,_=>rfl
 | e :: t,i,d,l,ch,h=>by
  show srnd t (i+1) (Za1 _ i e)=_
  rw[srelax_all (h e (by simp))]
  rw[srnd_all t (i+1) _ _ _ (fun x hx=>h x (by simp[hx]))]
  rfl
def sknow (s:SSt):KSt:=(s.1,s.2.2.1,decide (0≤s.2.2.2))
theorem srelax_k (s:SSt) (i:Nat) (e:ZV):sknow (Za1 s i e)=ZbW (sknow s) e:=by
 obtain⟨d,l,kn,ch⟩:=s
 unfold Za1 ZbW sknow
 dsimp only
 split
 ·simp
 ·rfl
theorem srnd_k:∀(E:List ZV) (i:Nat) (s:SSt),sknow (srnd E i s)=krnd E (sknow s)
 | [],_,_=>rfl
 | e :: t,i,s=>by
  show sknow (srnd t (i+1) (Za1 s i e))=krnd t (ZbW (sknow s) e)
  rw[srnd_k t,srelax_k]
theorem srelax_len {s:SSt} {i n:Nat} {e:ZV} (h:s.1.length=n∧s.2.1.length=n∧s.2.2.1.length=n):(Za1 s i e).1.length=n∧(Za1 s i e).2.1.length=n∧(Za1 s i e).2.2.1.length=n:=by
 unfold Za1
 split
 ·simpa using h
 ·exact h
def isf (E:List ZV):Nat→KSt→Option KSt
 | 0,_=>none
 | m+1,s=>let u:=krnd E (s.1,s.2.1,false);if u.2.2=false then some u else isf E m u
def finB (s:KSt):List Int:=(List.range s.1.length).map fun i=>if s.2.1.getD i false=true then min (s.1.getD i 0) 1000000 else 1000000
theorem finB_len (s:KSt):(finB s).length=s.1.length:=by simp[finB]
theorem isf_more {E:List ZV}:∀{m:Nat} {s u:KSt},isf E m s=some u→isf E (m+1) s=some u
 | 0,_,_,h=>by cases h
 | m+1,s,u,h=>by
  rw[isf] at h ⊢
  try dsimp only at h ⊢
  split at h
  ·rename_i h1;rw[if_pos h1];exact h
  ·rename_i h1;rw[if_neg h1];exact isf_more h
theorem isf_of {E:List ZV}:∀(m:Nat) (s:KSt),(Zbk E (m+1) s).2.2=false→∃u,isf E (m+1) s=some u
 | 0,s,h=>by
  rw[isf]
  try dsimp only
  have h':(krnd E (s.1,s.2.1,false)).2.2=false:=h
  rw[if_pos h']
  exact⟨_,rfl⟩
 | m+1,s,h=>by
  rw[isf]
  try dsimp only
  split
  ·exact⟨_,rfl⟩
  ·exact isf_of m _ h
theorem fill_set {f d:List Int} {j:Nat} (hl:f.length=d.length) (hj:j<d.length):(f.take j ++ d.drop j).set j (f.getD j 0)=f.take (j+1) ++ d.drop (j+1):=by
 rw[ZaD hj 0]
 have:(f.take j).length=j:=by rw[Zj];omega
 have h2:=set_mid (f.take j) (d.getD j 0) (f.getD j 0) (d.drop (j+1))
 rw[this] at h2
 rw[h2,List.take_succ_eq_append_getElem (by omega),List.append_assoc,List.getD_eq_getElem?_getD,Zl (by omega)];rfl
theorem fill_at {f d:List Int} {j:Nat} (hl:f.length=d.length) (hj:j<d.length):(f.take j ++ d.drop j).getD j 0=d.getD j 0:=by
 have:(f.take j).length=j:=by rw[Zj];omega
 rw[List.getD_eq_getElem?_getD,List.getElem?_append_right (by omega),this,Nat.sub_self,List.getElem?_drop,Nat.add_zero,← List.getD_eq_getElem?_getD]
theorem fill_keep {f d:List Int} {j:Nat} (hl:f.length=d.length) (hj:j<d.length) (h:d.getD j 0=f.getD j 0):f.take j ++ d.drop j=f.take (j+1) ++ d.drop (j+1):=by
 rw[← fill_set hl hj,← h]
 have e:=fill_at hl hj
 have:j<(f.take j ++ d.drop j).length:=by simp;omega
 rw[← e,List.getD_eq_getElem?_getD,Zl this]
 simp
theorem finB_at {s:KSt} {j:Nat} (hj:j<s.1.length):(finB s).getD j 0=if s.2.1.getD j false=true then min (s.1.getD j 0) 1000000 else 1000000:=by
 unfold finB
 rw[List.getD_eq_getElem?_getD,List.getElem?_map,List.getElem?_range hj];rfl
theorem isf_c (E:List ZV) (m:Nat) (d:List Int) (kn:List Bool) (c c':Bool):isf E m (d,kn,c)=isf E m (d,kn,c'):=by
 cases m <;> rfl
def sfB (n:Int) (E:List ZV) (a:Int) (m:Nat):List Int×Bool:=match isf E m (kst0 n.toNat a.toNat) with|some u=>(finB u,true)|none=>([],false)
def inR (a b c:Int):Bool:=decide (b≤a) && decide (a≤c)
theorem inR_f (a b c:Int):ZM.f a b c=some (inR a b c):=by
 unfold ZM.f inR
 by_cases h:a≥b
 ·rw[if_pos h,Ze (show b≤a from h),Bool.true_and]
 ·rw[if_neg h,Zf (show ¬b≤a from h),Bool.false_and]
theorem inR_q (a b c:Int) (w:World):Calls Try.prog 87 #[.int .i64 a,.int .i64 b,.int .i64 c] w fun e w'=>e=.returned (.bool (inR a b c))∧∃n,w'=w.drewN n:=
 (ZM.calls a b c _ w (inR_f a b c)).mono fun _ _ ⟨he,hd⟩=>⟨he,hd.out⟩
end Go.Proofs.Ytpoffpdaadhkgaa.Pr
namespace Go.Proofs.Ytpoffpdaadhkgaa.Pr
open Go.RowKit Go.Proofs.YtpoffpdaadhkgaaW.PrintWords Go.Proofs.YtpoffpdaadhkgaaW.PrintLast Go.Proofs.YtpoffpdaadhkgaaW.PrintMore
attribute [local go_sem] Z7 Z5 Zaf Zae ZY ZX Z6 Z4
set_option linter.unusedVariables false
set_option linter.unusedSimpArgs false
mutual
def ZP.j0:Nat→Bool→Int→List (S148)→Option (Bool)
 | 0,_,_,_=>none
 | k+1,x14,x166002000,x166002001=>if x14=true then(some false) else(ZP.l0 k x166002001 (x166002001.length:Int) 0 x166002000 x166002001)
def ZP.l0:Nat→List (S148)→Int→Int→Int→List (S148)→Option (Bool)
 | 0,_,_,_,_,_=>none
 | k+1,x16,x17,x18,x166002000,x166002001=>if x18<x17 then(if 0≤x18 then(if x18<(x16.length:Int) then((ZM.f ((ZW x16 x18).f0) 0 (wrap64 (x166002000 - 1))).bind fun t166005=>(if t166005=true then((ZM.f ((ZW x16 x18).f1) 0 (wrap64 (x166002000 - 1))).bind fun t166006=>(if t166006=true then((ZM.f ((ZW x16 x18).f2) (-999999) 999999).bind fun t166007=>(if t166007=true then(ZP.l0 k x16 x17 (wrap64 (x18+1)) x166002000 x166002001) else(some false))) else(some false))) else(some false))) else(none)) else(none)) else(some true)
end
def ZP.f (k:Nat) (a0_0:Int) (l0_1:List (S148)):Option (Bool):=(ZM.f a0_0 0 8).bind fun t166002=>(if t166002=true then(ZP.j0 k (decide ((l0_1.length:Int) > 80)) a0_0 l0_1) else(ZP.j0 k true a0_0 l0_1))
set_option maxHeartbeats 8000000 in
set_option maxRecDepth 100000 in
theorem ZP.calls (k:Nat) (a0_0:Int) (A0_1:Option Addr) (c0_1:Nat) (l0_1:List (S148)) (r:Bool) (w:World) (hr0_1:Kd.C k148 w A0_1 l0_1.length l0_1) (hc0_1:l0_1.length≤c0_1) (h:ZP.f k a0_0 l0_1=some r) :
  Calls Try.prog 166 #[.agg #[.int .i64 a0_0,.slice A0_1 l0_1.length c0_1]] w fun e w'=>e=.returned (.bool r)∧Below w.heap.size w w':=by
 have hu95:=Try.underlying95
 have hu148:=Try.underlying148
 have HR0_1:=Za hr0_1;have HC0_1:=Za hc0_1;clear hr0_1 hc0_1
 have HB:=Za (Below.refl w.heap.size w)
 have H:((ZM.f a0_0 0 8).bind fun t166002=>(if t166002=true then(ZP.j0 k (decide ((l0_1.length:Int) > 80)) a0_0 l0_1) else(ZP.j0 k true a0_0 l0_1)))=some r:=h
 clear h;have HC2:=Za H;clear H
 go_enter Try.func166,Try.ntmps166
 go_upto_region 1 with (first|((with_reducible refine ZD (N:=1) rfl ?_);(try(refine Zaw (by rfl) ?_;dsimp only));refine ZE ?hg (N:=1) ?hd (cs:=#[.int .i64 a0_0,.slice A0_1 l0_1.length c0_1]) (t:=95) ?hr ?_;(case hd=>rfl);(case hg=>rfl);(case hr=>first|(go_simp;done)|(go_simp;rfl));intro gb166001 hg w3 hbox hb;have n0_:=Za (Zx (by repeat(first|(with_reducible first|exact HB.out|apply Zp|apply Zm|apply Zr)|exact HB.out)) hb);have n1_:=Za (hbox);have n2_:=Za ((by rw[hg];exact(Zw (by repeat(first|(with_reducible first|exact HB.out|apply Zp|apply Zm|apply Zr)|exact HB.out))):w.heap.size≤gb166001));have n3_:=Za ((by rw[hg];exact(Zw (by repeat(first|(with_reducible first|exact HB.out|apply Zp|apply Zm|apply Zr)|exact HB.out))):w.heap.size≤gb166001));clear HB;have HB:=n0_;have BK166001:=n1_;have GW166001:=n2_;have GE166001:=n3_;clear n0_ n1_ n2_ n3_;clear hb hbox hg))
 (try simp only[Act.put,List.setIfInBounds_toArray,List.set_cons_zero,List.set_cons_succ])
 go_cut [14] (fun v14 wc=>∃(kq:Nat) (x14_1:Bool),v14=.bool x14_1∧Aside0 (ZP.j0 kq x14_1 a0_0 l0_1=some r)∧Aside0 (kq≤k)∧Aside0 (wc.heap[gb166001]? = some (.cells #[.int .i64 a0_0,(.slice A0_1 l0_1.length c0_1)] 95 (0,0)))∧Aside0 (Below w.heap.size w wc))
 case first=>
  have H:=HC2.out
  clear HC2
  replace H:=Zh H
  obtain⟨t166002,A40,H⟩:=H
  replace H:(if t166002=true then(ZP.j0 k (decide ((l0_1.length:Int) > 80)) a0_0 l0_1) else(ZP.j0 k true a0_0 l0_1))=some r:=H
  have A4:=Za A40;clear A40
  by_cases c5:t166002=true
  ·subst c5
   have H1:(ZP.j0 k (decide ((l0_1.length:Int) > 80)) a0_0 l0_1)=some r:=by rw[if_pos rfl] at H;exact H
   clear H
   have H:=H1
   clear H1
   have H':=Za H
   clear H
   have hcz6_0:w3.cell? ⟨gb166001,0,none⟩=some (.int .i64 a0_0):=(Zv BK166001.out 0).trans rfl
   have hcz6_1:w3.cell? ⟨gb166001,1,none⟩=some (.slice A0_1 l0_1.length c0_1):=(Zv BK166001.out 1).trans rfl
   have hfz6_0:=Zu BK166001.out 0
   have hfz6_1:=Zu BK166001.out 1
   go_wp2_with (first|((with_reducible refine ZL (f:=87) rfl ?_);refine ZZ (some 7) rfl rfl Try.func87 (by kernel_rfl) rfl #[.int .i64 a0_0,.int .i64 0,.int .i64 8] rfl (by(try simp only[List.map_toArray,List.map_cons,List.map_nil]);first|done|rfl|(simp only[Zk,Zj];rfl)) ?_;(with_reducible refine(ZM.calls a0_0 0 8 true _ A4.out).mono ?_);rintro e w' ⟨rfl,⟨nd,rfl⟩⟩;refine⟨_,rfl,?_⟩))
   go_meet
   case rel=>exact⟨_,(decide ((l0_1.length:Int) > 80)),(by first|rfl|(simp;done)|(simp[*];done)),H',⟨by first|omega|exact Nat.le_refl _⟩,⟨by(with_reducible repeat(first|refine Zn ?_ _|refine Zs ?_|refine Zo ?_ _));exact BK166001.out⟩,⟨by repeat(first|(with_reducible first|exact HB.out|apply Zp|apply Zm|apply Zr|refine Zq ?_ GE166001.out)|exact HB.out)⟩⟩
  ·replace c5:=Bool.eq_false_iff.mpr c5
   subst c5
   have H1:(ZP.j0 k true a0_0 l0_1)=some r:=by rw[if_neg (show ¬(false=true) by decide)] at H;exact H
   clear H
   have H:=H1
   clear H1
   have H':=Za H
   clear H
   have hcz7_0:w3.cell? ⟨gb166001,0,none⟩=some (.int .i64 a0_0):=(Zv BK166001.out 0).trans rfl
   have hcz7_1:w3.cell? ⟨gb166001,1,none⟩=some (.slice A0_1 l0_1.length c0_1):=(Zv BK166001.out 1).trans rfl
   have hfz7_0:=Zu BK166001.out 0
   have hfz7_1:=Zu BK166001.out 1
   go_wp2_with (first|((with_reducible refine ZL (f:=87) rfl ?_);refine ZZ (some 7) rfl rfl Try.func87 (by kernel_rfl) rfl #[.int .i64 a0_0,.int .i64 0,.int .i64 8] rfl (by(try simp only[List.map_toArray,List.map_cons,List.map_nil]);first|done|rfl|(simp only[Zk,Zj];rfl)) ?_;(with_reducible refine(ZM.calls a0_0 0 8 false _ A4.out).mono ?_);rintro e w' ⟨rfl,⟨nd,rfl⟩⟩;refine⟨_,rfl,?_⟩))
   go_meet
   case rel=>exact⟨_,(true),(by first|rfl|(simp;done)|(simp[*];done)),H',⟨by first|omega|exact Nat.le_refl _⟩,⟨by(with_reducible repeat(first|refine Zn ?_ _|refine Zs ?_|refine Zo ?_ _));exact BK166001.out⟩,⟨by repeat(first|(with_reducible first|exact HB.out|apply Zp|apply Zm|apply Zr|refine Zq ?_ GE166001.out)|exact HB.out)⟩⟩
 case rest=>
  clear HC2
  try clear c1
  try clear p2
  try clear c5
  try clear hcz6_0
  try clear hcz6_1
  try clear hcz7_0
  try clear hcz7_1
  try clear hfz6_0
  try clear hfz6_1
  try clear hfz7_0
  try clear hfz7_1
  obtain⟨kq,x14_1,rfl,HA,HJ1,BK166001,HB⟩:=hcut
  cases kq with
  | zero=>exact absurd HA.out (by simp[ZP.j0])
  | succ kj1=>
   have H:=HA.out
   clear HA
   simp only[ZP.j0] at H
   by_cases c8:x14_1=true
   ·subst c8
    have H1:(some false)=some r:=by rw[if_pos rfl] at H;exact H
    clear H
    have H:=H1
    clear H1
    obtain rfl:=Zg H
    go_wp2
    go_ret
    exact⟨by first|rfl|(simp[ZA,Zz] <;> rfl)|(simp[*,ZA,Zz] <;> rfl),by repeat(first|(with_reducible first|exact HB.out|apply Zp|apply Zm|apply Zr|refine Zq ?_ GE166001.out)|exact HB.out)⟩
   ·replace c8:=Bool.eq_false_iff.mpr c8
    subst c8
    have H1:(ZP.l0 kj1 l0_1 (l0_1.length:Int) 0 a0_0 l0_1)=some r:=by rw[if_neg (show ¬(false=true) by decide)] at H;exact H
    clear H
    have H:=H1
    clear H1
    have H':=Za H
    clear H
    have hcz9_0:wc.cell? ⟨gb166001,0,none⟩=some (.int .i64 a0_0):=(Zv BK166001.out 0).trans rfl
    have hcz9_1:wc.cell? ⟨gb166001,1,none⟩=some (.slice A0_1 l0_1.length c0_1):=(Zv BK166001.out 1).trans rfl
    have hfz9_0:=Zu BK166001.out 0
    have hfz9_1:=Zu BK166001.out 1
    go_wp2
    go_loopg [18] kj1 (fun kq v18 w'=>∃(x18_2:Int),v18=.int .i64 x18_2∧Aside0 (ZP.l0 kq l0_1 (l0_1.length:Int) x18_2 a0_0 l0_1=some r)∧Aside0 (kq≤kj1)∧Aside0 (w'.heap[gb166001]? = some (.cells #[.int .i64 a0_0,(.slice A0_1 l0_1.length c0_1)] 95 (0,0)))∧Aside0 (Below w.heap.size w w'))
    case atStart=>exact⟨(0),(by first|rfl|(simp;done)|(simp[*];done)),H',⟨Nat.le_refl _⟩,⟨by(with_reducible repeat(first|refine Zn ?_ _|refine Zs ?_|refine Zo ?_ _));exact BK166001.out⟩,⟨by repeat(first|(with_reducible first|exact HB.out|apply Zp|apply Zm|apply Zr|refine Zq ?_ GE166001.out)|exact HB.out)⟩⟩
    case round=>
     clear H'
     try clear c1
     try clear p2
     try clear c5
     try clear c8
     try clear hcz6_0
     try clear hcz6_1
     try clear hcz7_0
     try clear hcz7_1
     try clear hcz9_0
     try clear hcz9_1
     try clear hfz6_0
     try clear hfz6_1
     try clear hfz7_0
     try clear hfz7_1
     try clear hfz9_0
     try clear hfz9_1
     try clear p2
     obtain⟨x18_2,rfl,HA,HK2,BK166001,HB⟩:=hrel
     cases gk with
     | zero=>exact absurd HA.out (by simp[ZP.l0])
     | succ k2=>
      have H:=HA.out
      clear HA
      simp only[ZP.l0] at H
      by_cases c10:x18_2<(l0_1.length:Int)
      ·rw[if_pos c10] at H
       have c10b0:decide (x18_2<(l0_1.length:Int))=true:=Ze c10
       clear c10
       by_cases c11:0≤x18_2
       ·rw[if_pos c11] at H
        have c11b0:decide (0≤x18_2)=true:=Ze c11
        clear c11
        by_cases c12:x18_2<(l0_1.length:Int)
        ·rw[if_pos c12] at H
         have c12b0:decide (x18_2<(l0_1.length:Int))=true:=Ze c12
         clear c12
         replace H:=Zh H
         obtain⟨t166005,A130,H⟩:=H
         replace H:(if t166005=true then((ZM.f ((ZW l0_1 x18_2).f1) 0 (wrap64 (a0_0 - 1))).bind fun t166006=>(if t166006=true then((ZM.f ((ZW l0_1 x18_2).f2) (-999999) 999999).bind fun t166007=>(if t166007=true then(ZP.l0 k2 l0_1 (l0_1.length:Int) (wrap64 (x18_2+1)) a0_0 l0_1) else(some false))) else(some false))) else(some false))=some r:=H
         have A13:=Za A130;clear A130
         by_cases c14:t166005=true
         ·subst c14
          have H1:((ZM.f ((ZW l0_1 x18_2).f1) 0 (wrap64 (a0_0 - 1))).bind fun t166006=>(if t166006=true then((ZM.f ((ZW l0_1 x18_2).f2) (-999999) 999999).bind fun t166007=>(if t166007=true then(ZP.l0 k2 l0_1 (l0_1.length:Int) (wrap64 (x18_2+1)) a0_0 l0_1) else(some false))) else(some false)))=some r:=by rw[if_pos rfl] at H;exact H
          clear H
          have H:=H1
          clear H1
          replace H:=Zh H
          obtain⟨t166006,A150,H⟩:=H
          replace H:(if t166006=true then((ZM.f ((ZW l0_1 x18_2).f2) (-999999) 999999).bind fun t166007=>(if t166007=true then(ZP.l0 k2 l0_1 (l0_1.length:Int) (wrap64 (x18_2+1)) a0_0 l0_1) else(some false))) else(some false))=some r:=H
          have A15:=Za A150;clear A150
          by_cases c16:t166006=true
          ·subst c16
           have H1:((ZM.f ((ZW l0_1 x18_2).f2) (-999999) 999999).bind fun t166007=>(if t166007=true then(ZP.l0 k2 l0_1 (l0_1.length:Int) (wrap64 (x18_2+1)) a0_0 l0_1) else(some false)))=some r:=by rw[if_pos rfl] at H;exact H
           clear H
           have H:=H1
           clear H1
           replace H:=Zh H
           obtain⟨t166007,A170,H⟩:=H
           replace H:(if t166007=true then(ZP.l0 k2 l0_1 (l0_1.length:Int) (wrap64 (x18_2+1)) a0_0 l0_1) else(some false))=some r:=H
           have A17:=Za A170;clear A170
           by_cases c18:t166007=true
           ·subst c18
            have H1:(ZP.l0 k2 l0_1 (l0_1.length:Int) (wrap64 (x18_2+1)) a0_0 l0_1)=some r:=by rw[if_pos rfl] at H;exact H
            clear H
            have H:=H1
            clear H1
            have H':=Za H
            clear H
            have p166003:0≤(x18_2:Int):=Zd (by first|(with_reducible assumption)|assumption)
            have q166003:x18_2<(l0_1.length:Int):=Zd (by first|(with_reducible assumption)|assumption)
            obtain⟨ad166003,e166003,hx166003_0,hx166003_1,hx166003_2⟩:=ZaU HR0_1.out x18_2 p166003 q166003
            cases e166003
            replace hx166003_0:=(HB.out.cell (Zc w _ hx166003_0)).trans hx166003_0
            replace hx166003_1:=(HB.out.cell (Zc w _ hx166003_1)).trans hx166003_1
            replace hx166003_2:=(HB.out.cell (Zc w _ hx166003_2)).trans hx166003_2
            replace p166003:=eq_true p166003
            replace q166003:=eq_true q166003
            go_wp2_with (first|((with_reducible refine ZD (N:=4) rfl ?_);(try(refine Zaw (by rfl) ?_;dsimp only));refine ZE ?hg (N:=4) ?hd (cs:=#[.int .i64 0,.int .i64 0,.int .i64 0]) (t:=148) ?hr ?_;(case hd=>rfl);(case hg=>rfl);(case hr=>first|(go_simp;done)|(go_simp;rfl));intro gb166004 hg w19 hbox hb;have n0_:=Za (Zy (g:=gb166001) (o:=.cells #[.int .i64 a0_0,.slice (some ad166003) l0_1.length c0_1] 95 (0,0)) (by(with_reducible repeat(first|refine Zn ?_ _|refine Zs ?_|refine Zo ?_ _));exact BK166001.out) hb);have n1_:=Za (Zx (by repeat(first|(with_reducible first|exact HB.out|apply Zp|apply Zm|apply Zr|refine Zq ?_ GE166001.out)|exact HB.out)) hb);have n2_:=Za (hbox);have n3_:=Za ((by rw[hg];exact(Zw (by repeat(first|(with_reducible first|exact HB.out|apply Zp|apply Zm|apply Zr|refine Zq ?_ GE166001.out)|exact HB.out))):w.heap.size≤gb166004));have n4_:=Za ((by rw[hg];exact(Zw (by repeat(first|(with_reducible first|exact HB.out|apply Zp|apply Zm|apply Zr|refine Zq ?_ GE166001.out)|exact HB.out))):w.heap.size≤gb166004));have n5_:=Za ((by rw[hg];exact Nat.ne_of_lt (ZC (g:=gb166001) (o:=.cells #[.int .i64 a0_0,.slice (some ad166003) l0_1.length c0_1] 95 (0,0)) (by(with_reducible repeat(first|refine Zn ?_ _|refine Zs ?_|refine Zo ?_ _));exact BK166001.out)):gb166001≠gb166004));have n6_:=Za ((by rw[hg];exact Nat.ne_of_gt (ZC (g:=gb166001) (o:=.cells #[.int .i64 a0_0,.slice (some ad166003) l0_1.length c0_1] 95 (0,0)) (by(with_reducible repeat(first|refine Zn ?_ _|refine Zs ?_|refine Zo ?_ _));exact BK166001.out)):gb166004≠gb166001));clear BK166001;clear HB;have BK166001:=n0_;have HB:=n1_;have BK166004:=n2_;have GW166004:=n3_;have GE166004:=n4_;have NB166001_166004:=n5_;have NB166004_166001:=n6_;clear n0_ n1_ n2_ n3_ n4_ n5_ n6_;clear hb hbox hg;have hnb20:=NB166004_166001.out;have hnc20:=NB166001_166004.out;have hcz21_0:w19.cell? ⟨gb166004,0,none⟩=some (.int .i64 0):=(Zv BK166004.out 0).trans rfl;have hcz21_1:w19.cell? ⟨gb166004,1,none⟩=some (.int .i64 0):=(Zv BK166004.out 1).trans rfl;have hcz21_2:w19.cell? ⟨gb166004,2,none⟩=some (.int .i64 0):=(Zv BK166004.out 2).trans rfl;have hfz21_0:=Zu BK166004.out 0;have hfz21_1:=Zu BK166004.out 1;have hfz21_2:=Zu BK166004.out 2;have hcz22_0:w19.cell? ⟨gb166001,0,none⟩=some (.int .i64 a0_0):=(Zv BK166001.out 0).trans rfl;have hcz22_1:w19.cell? ⟨gb166001,1,none⟩=some (.slice (some ad166003) l0_1.length c0_1):=(Zv BK166001.out 1).trans rfl;have hfz22_0:=Zu BK166001.out 0;have hfz22_1:=Zu BK166001.out 1)|((with_reducible refine ZL (f:=87) rfl ?_);refine ZZ (some 27) rfl rfl Try.func87 (by kernel_rfl) rfl #[.int .i64 ((ZW l0_1 x18_2).f0),.int .i64 0,.int .i64 (wrap64 (a0_0 - 1))] rfl (by(try simp only[List.map_toArray,List.map_cons,List.map_nil]);first|done|rfl|(simp only[Zk,Zj];rfl)) ?_;(with_reducible refine(ZM.calls ((ZW l0_1 x18_2).f0) 0 (wrap64 (a0_0 - 1)) true _ A13.out).mono ?_);rintro e w' ⟨rfl,⟨nd,rfl⟩⟩;refine⟨_,rfl,?_⟩)|(go_at_call 87;(with_reducible refine(ZM.calls ((ZW l0_1 x18_2).f1) 0 (wrap64 (a0_0 - 1)) true _ A15.out).mono ?_);rintro e w' ⟨rfl,⟨nd,rfl⟩⟩)|(go_at_call 87;(with_reducible refine(ZM.calls ((ZW l0_1 x18_2).f2) (-999999) 999999 true _ A17.out).mono ?_);rintro e w' ⟨rfl,⟨nd,rfl⟩⟩))
            go_roundg k2
            case measure=>have:=HJ1.out;have:=HK2.out;omega
            case rel=>exact⟨(wrap64 (x18_2+1)),(by first|rfl|(simp;done)|(simp[*];done)),H',⟨by have:=HJ1.out;have:=HK2.out;omega⟩,⟨by(with_reducible repeat(first|refine Zn ?_ _|refine Zs ?_|refine Zo ?_ _));refine ZB ?_ NB166001_166004.out _;(with_reducible repeat(first|refine Zn ?_ _|refine Zs ?_|refine Zo ?_ _));refine ZB ?_ NB166001_166004.out _;(with_reducible repeat(first|refine Zn ?_ _|refine Zs ?_|refine Zo ?_ _));refine ZB ?_ NB166001_166004.out _;(with_reducible repeat(first|refine Zn ?_ _|refine Zs ?_|refine Zo ?_ _));exact BK166001.out⟩,⟨by repeat(first|(with_reducible first|exact HB.out|apply Zp|apply Zm|apply Zr|refine Zq ?_ GE166001.out|refine Zq ?_ GE166004.out)|exact HB.out)⟩⟩
           ·replace c18:=Bool.eq_false_iff.mpr c18
            subst c18
            have H1:(some false)=some r:=by rw[if_neg (show ¬(false=true) by decide)] at H;exact H
            clear H
            have H:=H1
            clear H1
            obtain rfl:=Zg H
            have p166003:0≤(x18_2:Int):=Zd (by first|(with_reducible assumption)|assumption)
            have q166003:x18_2<(l0_1.length:Int):=Zd (by first|(with_reducible assumption)|assumption)
            obtain⟨ad166003,e166003,hx166003_0,hx166003_1,hx166003_2⟩:=ZaU HR0_1.out x18_2 p166003 q166003
            cases e166003
            replace hx166003_0:=(HB.out.cell (Zc w _ hx166003_0)).trans hx166003_0
            replace hx166003_1:=(HB.out.cell (Zc w _ hx166003_1)).trans hx166003_1
            replace hx166003_2:=(HB.out.cell (Zc w _ hx166003_2)).trans hx166003_2
            replace p166003:=eq_true p166003
            replace q166003:=eq_true q166003
            go_wp2_with (first|((with_reducible refine ZD (N:=4) rfl ?_);(try(refine Zaw (by rfl) ?_;dsimp only));refine ZE ?hg (N:=4) ?hd (cs:=#[.int .i64 0,.int .i64 0,.int .i64 0]) (t:=148) ?hr ?_;(case hd=>rfl);(case hg=>rfl);(case hr=>first|(go_simp;done)|(go_simp;rfl));intro gb166004 hg w23 hbox hb;have n0_:=Za (Zy (g:=gb166001) (o:=.cells #[.int .i64 a0_0,.slice (some ad166003) l0_1.length c0_1] 95 (0,0)) (by(with_reducible repeat(first|refine Zn ?_ _|refine Zs ?_|refine Zo ?_ _));exact BK166001.out) hb);have n1_:=Za (Zx (by repeat(first|(with_reducible first|exact HB.out|apply Zp|apply Zm|apply Zr|refine Zq ?_ GE166001.out)|exact HB.out)) hb);have n2_:=Za (hbox);have n3_:=Za ((by rw[hg];exact(Zw (by repeat(first|(with_reducible first|exact HB.out|apply Zp|apply Zm|apply Zr|refine Zq ?_ GE166001.out)|exact HB.out))):w.heap.size≤gb166004));have n4_:=Za ((by rw[hg];exact(Zw (by repeat(first|(with_reducible first|exact HB.out|apply Zp|apply Zm|apply Zr|refine Zq ?_ GE166001.out)|exact HB.out))):w.heap.size≤gb166004));have n5_:=Za ((by rw[hg];exact Nat.ne_of_lt (ZC (g:=gb166001) (o:=.cells #[.int .i64 a0_0,.slice (some ad166003) l0_1.length c0_1] 95 (0,0)) (by(with_reducible repeat(first|refine Zn ?_ _|refine Zs ?_|refine Zo ?_ _));exact BK166001.out)):gb166001≠gb166004));have n6_:=Za ((by rw[hg];exact Nat.ne_of_gt (ZC (g:=gb166001) (o:=.cells #[.int .i64 a0_0,.slice (some ad166003) l0_1.length c0_1] 95 (0,0)) (by(with_reducible repeat(first|refine Zn ?_ _|refine Zs ?_|refine Zo ?_ _));exact BK166001.out)):gb166004≠gb166001));clear BK166001;clear HB;have BK166001:=n0_;have HB:=n1_;have BK166004:=n2_;have GW166004:=n3_;have GE166004:=n4_;have NB166001_166004:=n5_;have NB166004_166001:=n6_;clear n0_ n1_ n2_ n3_ n4_ n5_ n6_;clear hb hbox hg;have hnb24:=NB166004_166001.out;have hnc24:=NB166001_166004.out;have hcz25_0:w23.cell? ⟨gb166004,0,none⟩=some (.int .i64 0):=(Zv BK166004.out 0).trans rfl;have hcz25_1:w23.cell? ⟨gb166004,1,none⟩=some (.int .i64 0):=(Zv BK166004.out 1).trans rfl;have hcz25_2:w23.cell? ⟨gb166004,2,none⟩=some (.int .i64 0):=(Zv BK166004.out 2).trans rfl;have hfz25_0:=Zu BK166004.out 0;have hfz25_1:=Zu BK166004.out 1;have hfz25_2:=Zu BK166004.out 2;have hcz26_0:w23.cell? ⟨gb166001,0,none⟩=some (.int .i64 a0_0):=(Zv BK166001.out 0).trans rfl;have hcz26_1:w23.cell? ⟨gb166001,1,none⟩=some (.slice (some ad166003) l0_1.length c0_1):=(Zv BK166001.out 1).trans rfl;have hfz26_0:=Zu BK166001.out 0;have hfz26_1:=Zu BK166001.out 1)|((with_reducible refine ZL (f:=87) rfl ?_);refine ZZ (some 27) rfl rfl Try.func87 (by kernel_rfl) rfl #[.int .i64 ((ZW l0_1 x18_2).f0),.int .i64 0,.int .i64 (wrap64 (a0_0 - 1))] rfl (by(try simp only[List.map_toArray,List.map_cons,List.map_nil]);first|done|rfl|(simp only[Zk,Zj];rfl)) ?_;(with_reducible refine(ZM.calls ((ZW l0_1 x18_2).f0) 0 (wrap64 (a0_0 - 1)) true _ A13.out).mono ?_);rintro e w' ⟨rfl,⟨nd,rfl⟩⟩;refine⟨_,rfl,?_⟩)|(go_at_call 87;(with_reducible refine(ZM.calls ((ZW l0_1 x18_2).f1) 0 (wrap64 (a0_0 - 1)) true _ A15.out).mono ?_);rintro e w' ⟨rfl,⟨nd,rfl⟩⟩)|(go_at_call 87;(with_reducible refine(ZM.calls ((ZW l0_1 x18_2).f2) (-999999) 999999 false _ A17.out).mono ?_);rintro e w' ⟨rfl,⟨nd,rfl⟩⟩))
            go_ret
            exact⟨by first|rfl|(simp[ZA,Zz] <;> rfl)|(simp[*,ZA,Zz] <;> rfl),by repeat(first|(with_reducible first|exact HB.out|apply Zp|apply Zm|apply Zr|refine Zq ?_ GE166001.out|refine Zq ?_ GE166004.out)|exact HB.out)⟩
          ·replace c16:=Bool.eq_false_iff.mpr c16
           subst c16
           have H1:(some false)=some r:=by rw[if_neg (show ¬(false=true) by decide)] at H;exact H
           clear H
           have H:=H1
           clear H1
           obtain rfl:=Zg H
           have p166003:0≤(x18_2:Int):=Zd (by first|(with_reducible assumption)|assumption)
           have q166003:x18_2<(l0_1.length:Int):=Zd (by first|(with_reducible assumption)|assumption)
           obtain⟨ad166003,e166003,hx166003_0,hx166003_1,hx166003_2⟩:=ZaU HR0_1.out x18_2 p166003 q166003
           cases e166003
           replace hx166003_0:=(HB.out.cell (Zc w _ hx166003_0)).trans hx166003_0
           replace hx166003_1:=(HB.out.cell (Zc w _ hx166003_1)).trans hx166003_1
           replace hx166003_2:=(HB.out.cell (Zc w _ hx166003_2)).trans hx166003_2
           replace p166003:=eq_true p166003
           replace q166003:=eq_true q166003
           go_wp2_with (first|((with_reducible refine ZD (N:=4) rfl ?_);(try(refine Zaw (by rfl) ?_;dsimp only));refine ZE ?hg (N:=4) ?hd (cs:=#[.int .i64 0,.int .i64 0,.int .i64 0]) (t:=148) ?hr ?_;(case hd=>rfl);(case hg=>rfl);(case hr=>first|(go_simp;done)|(go_simp;rfl));intro gb166004 hg w27 hbox hb;have n0_:=Za (Zy (g:=gb166001) (o:=.cells #[.int .i64 a0_0,.slice (some ad166003) l0_1.length c0_1] 95 (0,0)) (by(with_reducible repeat(first|refine Zn ?_ _|refine Zs ?_|refine Zo ?_ _));exact BK166001.out) hb);have n1_:=Za (Zx (by repeat(first|(with_reducible first|exact HB.out|apply Zp|apply Zm|apply Zr|refine Zq ?_ GE166001.out)|exact HB.out)) hb);have n2_:=Za (hbox);have n3_:=Za ((by rw[hg];exact(Zw (by repeat(first|(with_reducible first|exact HB.out|apply Zp|apply Zm|apply Zr|refine Zq ?_ GE166001.out)|exact HB.out))):w.heap.size≤gb166004));have n4_:=Za ((by rw[hg];exact(Zw (by repeat(first|(with_reducible first|exact HB.out|apply Zp|apply Zm|apply Zr|refine Zq ?_ GE166001.out)|exact HB.out))):w.heap.size≤gb166004));have n5_:=Za ((by rw[hg];exact Nat.ne_of_lt (ZC (g:=gb166001) (o:=.cells #[.int .i64 a0_0,.slice (some ad166003) l0_1.length c0_1] 95 (0,0)) (by(with_reducible repeat(first|refine Zn ?_ _|refine Zs ?_|refine Zo ?_ _));exact BK166001.out)):gb166001≠gb166004));have n6_:=Za ((by rw[hg];exact Nat.ne_of_gt (ZC (g:=gb166001) (o:=.cells #[.int .i64 a0_0,.slice (some ad166003) l0_1.length c0_1] 95 (0,0)) (by(with_reducible repeat(first|refine Zn ?_ _|refine Zs ?_|refine Zo ?_ _));exact BK166001.out)):gb166004≠gb166001));clear BK166001;clear HB;have BK166001:=n0_;have HB:=n1_;have BK166004:=n2_;have GW166004:=n3_;have GE166004:=n4_;have NB166001_166004:=n5_;have NB166004_166001:=n6_;clear n0_ n1_ n2_ n3_ n4_ n5_ n6_;clear hb hbox hg;have hnb28:=NB166004_166001.out;have hnc28:=NB166001_166004.out;have hcz29_0:w27.cell? ⟨gb166004,0,none⟩=some (.int .i64 0):=(Zv BK166004.out 0).trans rfl;have hcz29_1:w27.cell? ⟨gb166004,1,none⟩=some (.int .i64 0):=(Zv BK166004.out 1).trans rfl;have hcz29_2:w27.cell? ⟨gb166004,2,none⟩=some (.int .i64 0):=(Zv BK166004.out 2).trans rfl;have hfz29_0:=Zu BK166004.out 0;have hfz29_1:=Zu BK166004.out 1;have hfz29_2:=Zu BK166004.out 2;have hcz30_0:w27.cell? ⟨gb166001,0,none⟩=some (.int .i64 a0_0):=(Zv BK166001.out 0).trans rfl;have hcz30_1:w27.cell? ⟨gb166001,1,none⟩=some (.slice (some ad166003) l0_1.length c0_1):=(Zv BK166001.out 1).trans rfl;have hfz30_0:=Zu BK166001.out 0;have hfz30_1:=Zu BK166001.out 1)|((with_reducible refine ZL (f:=87) rfl ?_);refine ZZ (some 27) rfl rfl Try.func87 (by kernel_rfl) rfl #[.int .i64 ((ZW l0_1 x18_2).f0),.int .i64 0,.int .i64 (wrap64 (a0_0 - 1))] rfl (by(try simp only[List.map_toArray,List.map_cons,List.map_nil]);first|done|rfl|(simp only[Zk,Zj];rfl)) ?_;(with_reducible refine(ZM.calls ((ZW l0_1 x18_2).f0) 0 (wrap64 (a0_0 - 1)) true _ A13.out).mono ?_);rintro e w' ⟨rfl,⟨nd,rfl⟩⟩;refine⟨_,rfl,?_⟩)|(go_at_call 87;(with_reducible refine(ZM.calls ((ZW l0_1 x18_2).f1) 0 (wrap64 (a0_0 - 1)) false _ A15.out).mono ?_);rintro e w' ⟨rfl,⟨nd,rfl⟩⟩))
           go_ret
           exact⟨by first|rfl|(simp[ZA,Zz] <;> rfl)|(simp[*,ZA,Zz] <;> rfl),by repeat(first|(with_reducible first|exact HB.out|apply Zp|apply Zm|apply Zr|refine Zq ?_ GE166001.out|refine Zq ?_ GE166004.out)|exact HB.out)⟩
         ·replace c14:=Bool.eq_false_iff.mpr c14
          subst c14
          have H1:(some false)=some r:=by rw[if_neg (show ¬(false=true) by decide)] at H;exact H
          clear H
          have H:=H1
          clear H1
          obtain rfl:=Zg H
          have p166003:0≤(x18_2:Int):=Zd (by first|(with_reducible assumption)|assumption)
          have q166003:x18_2<(l0_1.length:Int):=Zd (by first|(with_reducible assumption)|assumption)
          obtain⟨ad166003,e166003,hx166003_0,hx166003_1,hx166003_2⟩:=ZaU HR0_1.out x18_2 p166003 q166003
          cases e166003
          replace hx166003_0:=(HB.out.cell (Zc w _ hx166003_0)).trans hx166003_0
          replace hx166003_1:=(HB.out.cell (Zc w _ hx166003_1)).trans hx166003_1
          replace hx166003_2:=(HB.out.cell (Zc w _ hx166003_2)).trans hx166003_2
          replace p166003:=eq_true p166003
          replace q166003:=eq_true q166003
          go_wp2_with (first|((with_reducible refine ZD (N:=4) rfl ?_);(try(refine Zaw (by rfl) ?_;dsimp only));refine ZE ?hg (N:=4) ?hd (cs:=#[.int .i64 0,.int .i64 0,.int .i64 0]) (t:=148) ?hr ?_;(case hd=>rfl);(case hg=>rfl);(case hr=>first|(go_simp;done)|(go_simp;rfl));intro gb166004 hg w31 hbox hb;have n0_:=Za (Zy (g:=gb166001) (o:=.cells #[.int .i64 a0_0,.slice (some ad166003) l0_1.length c0_1] 95 (0,0)) (by(with_reducible repeat(first|refine Zn ?_ _|refine Zs ?_|refine Zo ?_ _));exact BK166001.out) hb);have n1_:=Za (Zx (by repeat(first|(with_reducible first|exact HB.out|apply Zp|apply Zm|apply Zr|refine Zq ?_ GE166001.out)|exact HB.out)) hb);have n2_:=Za (hbox);have n3_:=Za ((by rw[hg];exact(Zw (by repeat(first|(with_reducible first|exact HB.out|apply Zp|apply Zm|apply Zr|refine Zq ?_ GE166001.out)|exact HB.out))):w.heap.size≤gb166004));have n4_:=Za ((by rw[hg];exact(Zw (by repeat(first|(with_reducible first|exact HB.out|apply Zp|apply Zm|apply Zr|refine Zq ?_ GE166001.out)|exact HB.out))):w.heap.size≤gb166004));have n5_:=Za ((by rw[hg];exact Nat.ne_of_lt (ZC (g:=gb166001) (o:=.cells #[.int .i64 a0_0,.slice (some ad166003) l0_1.length c0_1] 95 (0,0)) (by(with_reducible repeat(first|refine Zn ?_ _|refine Zs ?_|refine Zo ?_ _));exact BK166001.out)):gb166001≠gb166004));have n6_:=Za ((by rw[hg];exact Nat.ne_of_gt (ZC (g:=gb166001) (o:=.cells #[.int .i64 a0_0,.slice (some ad166003) l0_1.length c0_1] 95 (0,0)) (by(with_reducible repeat(first|refine Zn ?_ _|refine Zs ?_|refine Zo ?_ _));exact BK166001.out)):gb166004≠gb166001));clear BK166001;clear HB;have BK166001:=n0_;have HB:=n1_;have BK166004:=n2_;have GW166004:=n3_;have GE166004:=n4_;have NB166001_166004:=n5_;have NB166004_166001:=n6_;clear n0_ n1_ n2_ n3_ n4_ n5_ n6_;clear hb hbox hg;have hnb32:=NB166004_166001.out;have hnc32:=NB166001_166004.out;have hcz33_0:w31.cell? ⟨gb166004,0,none⟩=some (.int .i64 0):=(Zv BK166004.out 0).trans rfl;have hcz33_1:w31.cell? ⟨gb166004,1,none⟩=some (.int .i64 0):=(Zv BK166004.out 1).trans rfl;have hcz33_2:w31.cell? ⟨gb166004,2,none⟩=some (.int .i64 0):=(Zv BK166004.out 2).trans rfl;have hfz33_0:=Zu BK166004.out 0;have hfz33_1:=Zu BK166004.out 1;have hfz33_2:=Zu BK166004.out 2;have hcz34_0:w31.cell? ⟨gb166001,0,none⟩=some (.int .i64 a0_0):=(Zv BK166001.out 0).trans rfl;have hcz34_1:w31.cell? ⟨gb166001,1,none⟩=some (.slice (some ad166003) l0_1.length c0_1):=(Zv BK166001.out 1).trans rfl;have hfz34_0:=Zu BK166001.out 0;have hfz34_1:=Zu BK166001.out 1)|((with_reducible refine ZL (f:=87) rfl ?_);refine ZZ (some 27) rfl rfl Try.func87 (by kernel_rfl) rfl #[.int .i64 ((ZW l0_1 x18_2).f0),.int .i64 0,.int .i64 (wrap64 (a0_0 - 1))] rfl (by(try simp only[List.map_toArray,List.map_cons,List.map_nil]);first|done|rfl|(simp only[Zk,Zj];rfl)) ?_;(with_reducible refine(ZM.calls ((ZW l0_1 x18_2).f0) 0 (wrap64 (a0_0 - 1)) false _ A13.out).mono ?_);rintro e w' ⟨rfl,⟨nd,rfl⟩⟩;refine⟨_,rfl,?_⟩))
          go_ret
          exact⟨by first|rfl|(simp[ZA,Zz] <;> rfl)|(simp[*,ZA,Zz] <;> rfl),by repeat(first|(with_reducible first|exact HB.out|apply Zp|apply Zm|apply Zr|refine Zq ?_ GE166001.out|refine Zq ?_ GE166004.out)|exact HB.out)⟩
        ·rw[if_neg c12] at H
         exact absurd H (by simp)
       ·rw[if_neg c11] at H
        exact absurd H (by simp)
      ·rw[if_neg c10] at H
       have c10b0:decide (x18_2<(l0_1.length:Int))=false:=Zf c10
       clear c10
       obtain rfl:=Zg H
       go_wp2
       go_ret
       exact⟨by first|rfl|(simp[ZA,Zz] <;> rfl)|(simp[*,ZA,Zz] <;> rfl),by repeat(first|(with_reducible first|exact HB.out|apply Zp|apply Zm|apply Zr|refine Zq ?_ GE166001.out)|exact HB.out)⟩
end Go.Proofs.Ytpoffpdaadhkgaa.Pr
namespace Go.Proofs.Ytpoffpdaadhkgaa.Pr
open Go.RowKit Go.Proofs.YtpoffpdaadhkgaaW.PrintWords Go.Proofs.Ytpoffpdaadhkgaa.Ni
theorem sedge_ok {n:Int} (h0:0≤n) (h8:n≤8) (y:S148):(inR y.f0 0 (wrap64 (n - 1)) && (inR y.f1 0 (wrap64 (n - 1)) && inR y.f2 (-999999) 999999))=ZaL n y:=by
 rw[ZbQ (by omega) (by omega)]
 unfold inR ZaL inN wgtB
 rw[Bool.eq_iff_iff]
 simp only[Bool.and_eq_true,decide_eq_true_eq]
 omega
theorem sgraph_l (n:Int) (E:List S148) (h0:0≤n) (h8:n≤8) (hl:E.length≤80) (k:Nat) (hk:2 ^ 64≤k):ZP.l0 k E (E.length:Int) 0 n E=some (!(E.any fun x=>!ZaL n x)):=by
 have key:=Za8 E.length (fun k i=>ZP.l0 k E (E.length:Int) (i:Int) n E=some (!((E.drop i).any fun x=>!ZaL n x))) 0
  (fun k _=>by
   simp only[ZP.l0]
   rw[if_neg (by omega),List.drop_length];rfl)
  (fun k i _ hi ih=>by
   simp only[ZP.l0]
   rw[if_pos (by omega),if_pos (by omega),if_pos (by omega),ZaV hi (by omega),ih,ZaD hi z148,List.any_cons,show ZW E (i:Int)=E.getD i z148 by unfold ZW;rw[Int.toNat_natCast]]
   generalize E.getD i z148=y
   rw[← sedge_ok h0 h8 y]
   simp only[inR_f,Zi]
   cases inR y.f0 0 (wrap64 (n - 1)) <;> cases inR y.f1 0 (wrap64 (n - 1)) <;> cases inR y.f2 (-999999) 999999 <;> rfl) 0 k (Nat.zero_le _) (by omega)
 simpa using key
theorem ZcP (n:Int) (E:List S148) (k:Nat) (hk:2 ^ 66≤k):ZP.f k n E=some (ZaE n E):=by
 obtain⟨k,rfl⟩:∃m,k=m+1:=⟨k - 1,by omega⟩
 unfold ZP.f ZaE
 simp only[inR_f,Zi,ZP.j0]
 by_cases h:0≤n∧n≤8
 ·rw[show inR n 0 8=true by unfold inR;simp[h.1,h.2],if_pos rfl,Zf (show ¬n<0 by omega),Zf (show ¬8<n by omega)]
  by_cases h2:(E.length:Int) > 80
  ·rw[Ze h2,if_pos rfl,Ze (show 80<E.length by omega)];rfl
  ·rw[Zf h2,if_neg (by simp),Zf (show ¬80<E.length by omega),sgraph_l n E h.1 h.2 (by omega) k (by omega)]
   simp
 ·rw[show inR n 0 8=false by unfold inR;rw[Bool.eq_false_iff];simp only[ne_eq,Bool.and_eq_true,decide_eq_true_eq];exact h,if_neg (by simp),if_pos trivial]
  by_cases h3:n<0
  ·rw[Ze h3];rfl
  ·rw[Zf h3,Ze (show 8<n by omega)];rfl
end Go.Proofs.Ytpoffpdaadhkgaa.Pr
namespace Go.Proofs.Ytpoffpdaadhkgaa.Pr
open Go.RowKit Go.Proofs.YtpoffpdaadhkgaaW.PrintWords Go.Proofs.YtpoffpdaadhkgaaW.PrintLast Go.Proofs.YtpoffpdaadhkgaaW.PrintMore
attribute [local go_sem] Z7 Z5 Zaf Zae ZY ZX Z6 Z4
set_option linter.unusedVariables false
set_option linter.unusedSimpArgs false
open Go.Proofs.Ytpoffpdaadhkgaa.Ni
theorem ZaM.two {d l:List Int} {kn:List Bool} {E:List ZV} {j:Nat} {ch:Int} (hj:j<E.length):srnd (E.drop j) j (d,l,kn,ch)=srnd (E.drop (j+1)) (j+1) (Za1 (d,l,kn,ch) j (E.getD j zE)):=by
 rw[ZaD hj zE];rfl
structure ZaM.St (w W:World) (B b gd gl gn n cd cl ck:Nat) (d l:List Int) (kn:List Bool):Prop where
 d:IR W B gd n cd d
 l:IR W B gl n cl l
 k:BR W B gn n ck kn
 b:Below b w W
set_option maxHeartbeats 8000000 in
set_option maxRecDepth 100000 in
theorem ZaM.own (a0_0:Int) (A0_1:Option Addr) (c0_1:Nat) (l0_1:List S148) (w0 w:World) (hr0_1:Kd.C k148 w0 A0_1 l0_1.length l0_1) (hB0:Below w0.heap.size w0 w) (B b gd gl gn n cd cl ck:Nat) (d l:List Int) (kn:List Bool) (hE:ZaK l0_1 n) (h80:l0_1.length≤80) (hn8:n≤8) (S:ZaM.St w w B b gd gl gn n cd cl ck d l kn) (hb:w0.heap.size≤b∧b≤w.heap.size∧b≤gd∧b≤gl∧b≤gn) (hdl:gd≠gl) (hdk:gd≠gn) (hlk:gl≠gn) :
  Calls Try.prog 167 #[.agg #[.int .i64 a0_0,.slice A0_1 l0_1.length c0_1],.slice (some ⟨gd,0,none⟩) n cd,.slice (some ⟨gl,0,none⟩) n cl,.slice (some ⟨gn,0,none⟩) n ck] w fun e w'=>e=.returned (.int .i64 (srnd l0_1 0 (d,l,kn,-1)).2.2.2)∧ZaM.St w w' B b gd gl gn n cd cl ck (srnd l0_1 0 (d,l,kn,-1)).1 (srnd l0_1 0 (d,l,kn,-1)).2.1 (srnd l0_1 0 (d,l,kn,-1)).2.2.1:=by
 have hu:=Try.underlying95
 have hu2:=Try.underlying148
 have HRE:=Za hr0_1;have HED:=Za hE
 have hL:l0_1.length≤9223372036854775807:=by omega
 have HS:=Za S;have HB:=Za hb;have HB0:=Za hB0
 have hdl2:=hdl.symm
 have hdk2:=hdk.symm
 have hlk2:=hlk.symm
 obtain⟨hb0,hb1,hb2,hb3,hb4⟩:=hb
 clear hr0_1 hE S hB0
 obtain⟨X,hX⟩:∃X,X=srnd l0_1 0 (d,l,kn,-1):=⟨_,rfl⟩
 rw[← hX]
 have HX:=Za hX;clear hX
 go_enter Try.func167,Try.ntmps167
 go_wp2
 go_loopg [9,15] l0_1.length (fun gg s9 s15 wr=>∃(j:Nat) (d' l':List Int) (kn':List Bool) (ch':Int),s9=.int .i64 ch'∧s15=.int .i64 (j:Int)∧Aside0 (j≤l0_1.length)∧Aside0 (l0_1.length - j≤gg)∧Aside0 (srnd (l0_1.drop j) j (d',l',kn',ch')=X)∧Aside0 (ZaM.St w wr B b gd gl gn n cd cl ck d' l' kn'))
 case atStart=>
  have hA:=Zp (Below.refl w.heap.size w) (.cells #[.int .i64 a0_0,.slice A0_1 l0_1.length c0_1] 95)
  exact⟨0,d,l,kn,-1,rfl,rfl,⟨Nat.zero_le _⟩,⟨by omega⟩,⟨HX.out.symm⟩,⟨⟨HS.out.d.low hA,HS.out.l.low hA,HS.out.k.low hA,hA.mono hb1⟩⟩⟩
 case round=>
  obtain⟨j,d',l',kn',ch',rfl,rfl,HJ,HG2,HRN,HI2⟩:=hrel
  by_cases hjn:j<l0_1.length
  ·have hjz:(j:Int)<(l0_1.length:Int):=by omega
   have HB2:=Za (HB0.out.trans (HI2.out.b.mono HB.out.1))
   obtain⟨ad,e1,m0,m1,m2⟩:=ZaU HRE.out (j:Int) (by omega) hjz
   cases e1
   rw[Int.toNat_natCast] at m0 m1 m2
   have hy:=HED.out _ (Zbs hjn zE)
   have HT:=Za (ZaM.two (d:=d') (l:=l') (kn:=kn') (ch:=ch') hjn)
   rw[show ZW l0_1 (j:Int)=l0_1.getD j zE by unfold ZW;rw[Int.toNat_natCast]] at m0 m1 m2
   generalize l0_1.getD j zE=y at m0 m1 m2 hy HT
   obtain⟨f0,f1,f2⟩:=y
   obtain⟨y0,y1,y2,y3⟩:=hy
   dsimp only at m0 m1 m2 y0 y1 y2 y3
   replace m0:=ZO HB2.out m0
   replace m1:=ZO HB2.out m1
   replace m2:=ZO HB2.out m2
   have hlta:=Zc wr _ m0
   obtain⟨xu,_⟩:=HI2.out.d.cell y0 y1
   obtain⟨xv,zv⟩:=HI2.out.d.cell y2 y3
   obtain⟨xl,zl⟩:=HI2.out.l.cell y2 y3
   obtain⟨xp,_⟩:=HI2.out.k.cell y0 y1
   obtain⟨xq,zq⟩:=HI2.out.k.cell y2 y3
   have hgd:=HI2.out.d.lt
   have hgl:=HI2.out.l.lt
   have hgk:=HI2.out.k.lt
   have HW:=Za fun (nq:Nat)=>Zm (Zp (Below.refl wr.heap.size wr) (.cells #[.int .i64 f0,.int .i64 f1,.int .i64 f2] 148)) nq
   have HBX:=Za fun (nq:Nat)=>(show(((wr.alloc (.cells #[.int .i64 f0,.int .i64 f1,.int .i64 f2] 148)).drewN nq).cell? ⟨wr.heap.size,0,none⟩=some (.int .i64 f0)∧((wr.alloc (.cells #[.int .i64 f0,.int .i64 f1,.int .i64 f2] 148)).drewN nq).cell? ⟨wr.heap.size,1,none⟩=some (.int .i64 f1)∧((wr.alloc (.cells #[.int .i64 f0,.int .i64 f1,.int .i64 f2] 148)).drewN nq).cell? ⟨wr.heap.size,2,none⟩=some (.int .i64 f2)) from⟨by go_simp,by go_simp,by go_simp⟩)
   have HPQ:=Za (show Za1 (d',l',kn',ch') j ⟨f0,f1,f2⟩=if kn'.getD f0.toNat false=true∧(kn'.getD f1.toNat false=false∨wrap64 (rd d' f0+f2)<rd d' f1) then(d'.set f1.toNat (wrap64 (rd d' f0+f2)),l'.set f1.toNat (j:Int),kn'.set f1.toNat true,(j:Int)) else(d',l',kn',ch') from rfl)
   generalize kn'.getD f0.toNat false=p at xp HPQ
   generalize kn'.getD f1.toNat false=q at xq HPQ
   rcases(show(Aside0 (p=true∧(q=false∨wrap64 (rd d' f0+f2)<rd d' f1))∧((p=true∧q=false)∨(p=true∧q=true∧wrap64 (rd d' f0+f2)<rd d' f1)))∨(Aside0 (¬(p=true∧(q=false∨wrap64 (rd d' f0+f2)<rd d' f1)))∧((p=false)∨(p=true∧q=true∧¬wrap64 (rd d' f0+f2)<rd d' f1))) by
    cases p
    ·right;exact⟨⟨by simp⟩,.inl rfl⟩
    ·cases q
     ·left;exact⟨⟨by simp⟩,.inl ⟨rfl,rfl⟩⟩
     ·by_cases h:wrap64 (rd d' f0+f2)<rd d' f1
      ·left;exact⟨⟨by simp[h]⟩,.inr ⟨rfl,rfl,h⟩⟩
      ·right;exact⟨⟨by simp[h]⟩,.inr ⟨rfl,rfl,h⟩⟩) with ⟨hyes,hway⟩|⟨hno,hway⟩
   ·rcases hway with ⟨rfl,rfl⟩|⟨rfl,rfl,hlt⟩
    all_goals
     have HS2:=Za (HPQ.out.trans (if_pos hyes.out))
     clear hyes HPQ
     go_wp2
     go_quiet (fail)
     go_wp2
     have hW:=HW.out nq
     have hx:=HBX.out nq
     generalize (wr.alloc (.cells #[.int .i64 f0,.int .i64 f1,.int .i64 f2] 148)).drewN nq=W at hW hx ⊢
     obtain⟨x0,x1,x2⟩:=hx
     have HWI:=Za (And.intro (HI2.out.d.low hW) (And.intro (HI2.out.l.low hW) (HI2.out.k.low hW)))
     clear xu xv zv xl zl xp xq zq m0 m1 m2 HW HBX
     obtain⟨xu,_⟩:=HWI.out.1.cell y0 y1
     obtain⟨xv,zv⟩:=HWI.out.1.cell y2 y3
     obtain⟨xl,zl⟩:=HWI.out.2.1.cell y2 y3
     obtain⟨xq,zq⟩:=HWI.out.2.2.cell y2 y3
     have HWB:=Za (HI2.out.b.trans (hW.mono (Nat.le_trans hb1 HI2.out.b.size)))
     have hsz:=hW.size
     clear hW
     go_region
     go_wp2
     go_roundg (l0_1.length - (j+1))
     case measure=>have:=HG2.out;omega
     case rel=>
      exact⟨j+1,d'.set f1.toNat (wrap64 (rd d' f0+f2)),l'.set f1.toNat (j:Int),kn'.set f1.toNat true,(j:Int),rfl,by go_num,⟨by omega⟩,⟨by omega⟩,⟨by rw[← HRN.out,HT.out,HS2.out]⟩,
       ⟨Kd.R_drew (((HWI.out.1.put f1 _).far hdk _).far hdl _),Kd.R_drew (((HWI.out.2.1.far hdl2 _).far hlk _).put f1 _),Kd.R_drew (((HWI.out.2.2.far hdk2 _).put f1 _).far hlk2 _),(((HWB.out.setCell (p:=⟨gd,f1.toNat,none⟩) hb2 _).setCell (p:=⟨gn,f1.toNat,none⟩) hb4 _).setCell (p:=⟨gl,f1.toNat,none⟩) hb3 _).drew⟩⟩
   ·rcases hway with rfl|⟨rfl,rfl,hlt⟩
    all_goals
     have HS2:=Za (HPQ.out.trans (if_neg hno.out))
     clear hno HPQ
     go_wp2
     go_quiet (fail)
     go_wp2
     have hW:=HW.out nq
     generalize (wr.alloc (.cells #[.int .i64 f0,.int .i64 f1,.int .i64 f2] 148)).drewN nq=W at hW ⊢
     go_roundg (l0_1.length - (j+1))
     case measure=>have:=HG2.out;omega
     case rel=>
      exact⟨j+1,d',l',kn',ch',rfl,by go_num,⟨by omega⟩,⟨by omega⟩,⟨by rw[← HRN.out,HT.out,HS2.out]⟩,⟨HI2.out.d.low hW,HI2.out.l.low hW,HI2.out.k.low hW,HI2.out.b.trans (hW.mono (Nat.le_trans hb1 HI2.out.b.size))⟩⟩
  ·have hjz:¬(j:Int)<(l0_1.length:Int):=by omega
   obtain rfl:j=l0_1.length:=by have:=HJ.out;omega
   have HX2:=Za (show(d',l',kn',ch')=X by have:=HRN.out;rw[List.drop_length] at this;exact this)
   go_wp2
   go_ret
   exact⟨by rw[← HX2.out];rfl,by rw[← HX2.out];exact HI2.out⟩
end Go.Proofs.Ytpoffpdaadhkgaa.Pr
