/- The texts of one claim, put together by a program of this session. -/
import Derived.Test.YthphnhmabieflabBWic1x1
import Derived.Test.YthphnhmabieflabBWic1x2
import Derived.Test.YthphnhmabieflabBWic1x5
import Derived.Test.YthphnhmabieflabBWic1x8
import Derived.Test.YthphnhmabieflabBWic1x9
namespace Go.Proofs.Ythphnhmabieflab.Pr
open Go.RowKit Go.Proofs.YthphnhmabieflabW.PrintWords Go.Proofs.YthphnhmabieflabW.PrintLast Go.Proofs.YthphnhmabieflabW.PrintMore
attribute [local go_sem] Zap Zan Zax Zaw Zai Zah Zao Zam
set_option linter.unusedVariables false
set_option linter.unusedSimpArgs false
mutual
def laws_FnWindows.l0:Nat→Int→Int→Int→List (S84)→Int→Int→Option (Bool)
 | 0,_,_,_,_,_,_=>none
 | k+1,x4,x7,x4006000,x4006001,x4011000,x4011001=>if x7<30 then(laws_FnWindows.l1 k x4 x7 (([]:List Int)) 0 x4006000 x4006001 x4011000 x4011001) else(some true)
def laws_FnWindows.l1:Nat→Int→Int→List Int→Int→Int→List (S84)→Int→Int→Option (Bool)
 | 0,_,_,_,_,_,_,_,_=>none
 | k+1,x4,x7,x8,x9,x4006000,x4006001,x4011000,x4011001=>if x9<x4006000 then(if x8.length<17592186044416 then(laws_FnWindows.l1 k x4 x7 (x8 ++ [(-1)]) (wrap64 (x9+1)) x4006000 x4006001 x4011000 x4011001) else(none)) else(if 0<(x8.length:Int) then(if 0≤x4 then(if x4<(x8.length:Int) then((some ((x8.set (0:Int).toNat 0).set (x4:Int).toNat x7:List Int)).bind fun y4020=>((ZT.f k x4006000 x4006001 y4020).bind fun bt4021=>(if bt4021.2.2=true then((ZaF.f k x4006000 x4006001 y4020).bind fun t4027=>((Z8.f x4011000 x4011001 x7).bind fun t4028=>(if (t4027 != t4028)=true then(some false) else((ZX.f k bt4021.1 bt4021.2.1).bind fun t4029=>((Z8.f x4011000 x4011001 x7).bind fun t4030=>(if (t4029 != t4030)=true then(some false) else((Z4.f k y4020).bind fun t4031=>(if t4031=(wrap64 (x4006000 - 2)) then(laws_FnWindows.l0 k x4 (wrap64 (x7+1)) x4006000 x4006001 x4011000 x4011001) else(some false))))))))) else(some false)))) else(none)) else(none)) else(none))
end
def laws_FnWindows.f (k:Nat) (l0:List Int):Option (Bool):=if (l0.length:Int) > 1048576 then(some true) else((ZaM.f k l0).bind fun bt4001=>((ZaP.f k l0 40).bind fun t4006=>(if (wrap64 (bt4001.1 - 1))=0 then(none) else((Zaz.f k bt4001.1 bt4001.2 (wrap64 (1+(Int.tmod t4006 (wrap64 (bt4001.1 - 1)))))).bind fun bt4007=>(if bt4007.2.2=true then(laws_FnWindows.l0 k (wrap64 (1+(Int.tmod t4006 (wrap64 (bt4001.1 - 1))))) 0 bt4001.1 bt4001.2 bt4007.1 bt4007.2.1) else((ZX.f k bt4001.1 bt4001.2).bind fun t4011=>(if t4011=true then(some false) else((Z0.f bt4001.1 bt4001.2).bind fun t4012=>(some t4012)))))))))
def laws_FnWindows.T4:Bool×List (List Nat×List Nat):=(true,[([],[]),([0],[0]),([],[]),([2],[2]),([3],[3]),([1,4],[1,4]),([5],[5]),([6,1,0,1,2,3,4,5,6],[6])])
def laws_FnWindows.B4:List Nat:=[0,1,0,4,12,31,63,127]
theorem laws_FnWindows.tab4:rtab .any (opsOf Try.f4 4)=laws_FnWindows.T4:=by kernel_rfl
theorem laws_FnWindows.bits4:Za5 laws_FnWindows.T4.2 laws_FnWindows.B4=true:=by kernel_rfl
def laws_FnWindows.T19:Bool×List (List Nat×List Nat):=(true,[([],[]),([0],[0]),([1],[1]),([2],[2]),([2],[2]),([3,4,2,2],[2,3,4]),([2],[2]),([2],[2]),([6,7,5,2],[2,6,7]),([5,8,2],[2,5,8]),([2,9],[2,9]),([10,8],[10]),([11],[11]),([12,11,11],[11,12]),([11],[11]),([11],[11]),([14,15,13,11],[11,14,15]),([13,16,11],[11,13,16]),([11,17],[11,17]),([18,16],[18]),([19],[19]),([20,19,19],[19,20]),([19],[19]),([22,19],[19,22]),([23,19],[19,23]),([21,24,19],[19,21,24]),([19,25],[19,25])])
def laws_FnWindows.B19:List Nat:=[0,1,3,7,7,31,7,7,255,511,1023,2047,4095,8191,4095,4095,65535,131071,262143,524287,1048575,2097151,1048575,5242879,13631487,33554431,67108863]
theorem laws_FnWindows.tab19:rtab .any (opsOf Try.f4 19)=laws_FnWindows.T19:=by kernel_rfl
theorem laws_FnWindows.bits19:Za5 laws_FnWindows.T19.2 laws_FnWindows.B19=true:=by kernel_rfl
set_option maxHeartbeats 8000000 in
set_option maxRecDepth 100000 in
theorem laws_FnWindows.calls (k:Nat) (A0:Option Addr) (c0:Nat) (l0:List Int) (w:World) (hr0:Kd.C (Kd.int .u8) w A0 l0.length l0) (hc0:l0.length≤c0) (h:laws_FnWindows.f k l0=some true) :
  Calls Try.prog 4 #[.slice A0 l0.length c0] w fun e w'=>e=.returned (.bool true)∧Below w.heap.size w w':=by
 have hu31:=Try.underlying31
 have hu35:=Try.underlying35
 have HR0:=Za hr0;have HC0:=Za hc0;clear hr0 hc0
 have HB:=Za (Below.refl w.heap.size w)
 have H:(if (l0.length:Int) > 1048576 then(some true) else((ZaM.f k l0).bind fun bt4001=>((ZaP.f k l0 40).bind fun t4006=>(if (wrap64 (bt4001.1 - 1))=0 then(none) else((Zaz.f k bt4001.1 bt4001.2 (wrap64 (1+(Int.tmod t4006 (wrap64 (bt4001.1 - 1)))))).bind fun bt4007=>(if bt4007.2.2=true then(laws_FnWindows.l0 k (wrap64 (1+(Int.tmod t4006 (wrap64 (bt4001.1 - 1))))) 0 bt4001.1 bt4001.2 bt4007.1 bt4007.2.1) else((ZX.f k bt4001.1 bt4001.2).bind fun t4011=>(if t4011=true then(some false) else((Z0.f bt4001.1 bt4001.2).bind fun t4012=>(some t4012))))))))))=some true:=h
 clear h
 by_cases c2:(l0.length:Int) > 1048576
 ·rw[if_pos c2] at H
  have c2b0:decide (1048576<(l0.length:Int))=true:=Zd c2
  have c2b1:decide (1048576<l0.length)=true:=Zd (by omega)
  clear c2 H
  go_enter Try.func4,Try.ntmps4
  go_wp2
  go_ret
  exact⟨by first|rfl|(simp[ZB,ZA] <;> rfl)|(simp[*,ZB,ZA] <;> rfl),by repeat(first|(with_reducible first|exact HB.out|apply Zq|apply Zl|apply Zr)|exact HB.out)⟩
 ·rw[if_neg c2] at H
  have c2b0:decide (1048576<(l0.length:Int))=false:=Ze c2
  have c2b1:decide (1048576<l0.length)=false:=Ze (by omega)
  clear c2
  replace H:=Zg H
  obtain⟨⟨t4001,t4002⟩,A30,H⟩:=H
  replace H:((ZaP.f k l0 40).bind fun t4006=>(if (wrap64 (t4001 - 1))=0 then(none) else((Zaz.f k t4001 t4002 (wrap64 (1+(Int.tmod t4006 (wrap64 (t4001 - 1)))))).bind fun bt4007=>(if bt4007.2.2=true then(laws_FnWindows.l0 k (wrap64 (1+(Int.tmod t4006 (wrap64 (t4001 - 1))))) 0 t4001 t4002 bt4007.1 bt4007.2.1) else((ZX.f k t4001 t4002).bind fun t4011=>(if t4011=true then(some false) else((Z0.f t4001 t4002).bind fun t4012=>(some t4012))))))))=some true:=H
  have A3:=Za A30;clear A30
  replace H:=Zg H
  obtain⟨t4006,A40,H⟩:=H
  replace H:(if (wrap64 (t4001 - 1))=0 then(none) else((Zaz.f k t4001 t4002 (wrap64 (1+(Int.tmod t4006 (wrap64 (t4001 - 1)))))).bind fun bt4007=>(if bt4007.2.2=true then(laws_FnWindows.l0 k (wrap64 (1+(Int.tmod t4006 (wrap64 (t4001 - 1))))) 0 t4001 t4002 bt4007.1 bt4007.2.1) else((ZX.f k t4001 t4002).bind fun t4011=>(if t4011=true then(some false) else((Z0.f t4001 t4002).bind fun t4012=>(some t4012)))))))=some true:=H
  have A4:=Za A40;clear A40
  by_cases c5:(wrap64 (t4001 - 1))=0
  ·rw[if_pos c5] at H
   exact absurd H (by simp)
  ·rw[if_neg c5] at H
   have c5b0:((wrap64 (t4001 - 1)) == 0)=false:=beq_eq_false_iff_ne.mpr c5
   have c5b1:((wrap64 (t4001 - 1)) != 0)=true:=bne_iff_ne.mpr c5
   replace H:=Zg H
   obtain⟨⟨t4007,t4008,t4009⟩,A60,H⟩:=H
   replace H:(if t4009=true then(laws_FnWindows.l0 k (wrap64 (1+(Int.tmod t4006 (wrap64 (t4001 - 1))))) 0 t4001 t4002 t4007 t4008) else((ZX.f k t4001 t4002).bind fun t4011=>(if t4011=true then(some false) else((Z0.f t4001 t4002).bind fun t4012=>(some t4012)))))=some true:=H
   have A6:=Za A60;clear A60
   by_cases c7:t4009=true
   ·subst c7
    have H1:(laws_FnWindows.l0 k (wrap64 (1+(Int.tmod t4006 (wrap64 (t4001 - 1))))) 0 t4001 t4002 t4007 t4008)=some true:=by rw[if_pos rfl] at H;first|done|exact H
    clear H
    have H:=H1
    clear H1
    have H':=Za H
    clear H
    go_enter Try.func4,Try.ntmps4
    try go_wp2_with (first|((with_reducible refine ZO (f:=13) rfl ?_);refine Z6 (some 16) rfl rfl Try.func13 (by kernel_rfl) rfl #[.slice A0 l0.length c0] rfl (by(try simp only[List.map_toArray,List.map_cons,List.map_nil]);first|done|rfl|(simp only[Zj,Zi];rfl)) ?_;(with_reducible refine(ZaM.calls k _ _ l0 t4001 t4002 _ ?side1 ?side2 A3.out).mono ?_);(case side1=>repeat(first|exact HR0.out|(with_reducible refine Kd.C_alloc ?_ _)|(with_reducible refine Kd.C_drewN ?_ _)|(with_reducible refine Kd.C_drew ?_)));(case side2=>exact HC0.out);rintro e w8 ⟨v4003,rfl,ho0,hb⟩;refine⟨_,rfl,?_⟩;have HO4004:=Za (Kd.R_lower ho0 (Zv (by repeat(first|(with_reducible first|exact HB.out|apply Zq|apply Zl|apply Zr)|exact HB.out))));replace HB:=Za (Zw (by repeat(first|(with_reducible first|exact HB.out|apply Zq|apply Zl|apply Zr)|exact HB.out)) hb);(try clear hb);(try clear hb2);(try clear hk);(try clear hi);(try clear ho0))|((with_reducible refine ZP (N:=3) rfl ?_);refine ZM ?hg (N:=3) ?hd (cs:=#[.int .i64 0,.slice none 0 0]) (t:=31) ?hr ?_;(case hd=>rfl);(case hg=>rfl);(case hr=>first|(go_simp;done)|(go_simp;rfl));intro gb4005 hg w9 hbox hb;have BK4005:=Za (hbox);have GW4005:=Za ((by rw[hg];exact(Zv (by repeat(first|(with_reducible first|exact HB.out|apply Zq|apply Zl|apply Zr)|exact HB.out))):w.heap.size≤gb4005));have GE4005:=Za ((by rw[hg];exact(Zv (by repeat(first|(with_reducible first|exact HB.out|apply Zq|apply Zl|apply Zr)|exact HB.out))):w.heap.size≤gb4005));replace HO4004:=Za (Kd.R_below (by(with_reducible repeat(first|apply Kd.R_alloc|apply Kd.R_drewN|apply Kd.R_drew));exact HO4004.out) hb);replace HB:=Za (Zw (by repeat(first|(with_reducible first|exact HB.out|apply Zq|apply Zl|apply Zr)|exact HB.out)) hb);clear hb hbox hg;have hcz10_0:w9.cell? ⟨gb4005,0,none⟩=some (.int .i64 0):=(Zt BK4005.out 0).trans rfl;have hcz10_1:w9.cell? ⟨gb4005,1,none⟩=some (.slice none 0 0):=(Zt BK4005.out 1).trans rfl;have hfz10_0:=Zu BK4005.out 0;have hfz10_1:=Zu BK4005.out 1;obtain⟨Ao11,co11,eo11⟩:=Kd.R_slice HO4004.out;subst eo11))
    have n0_:Aside0 (Kd.R k84 84 ((w9.setCell ⟨gb4005,0,none⟩ (.int .i64 t4001)).setCell ⟨gb4005,1,none⟩ (.slice Ao11 t4002.length co11)) w.heap.size (fun _=>True) (.slice Ao11 t4002.length co11) t4002):=⟨by(with_reducible repeat(first|apply Kd.R_alloc|apply Kd.R_drewN|apply Kd.R_drew));exact Kd.R_mono (Kd.R_far (p:=⟨gb4005,1,none⟩) (Kd.R_far (p:=⟨gb4005,0,none⟩) (Kd.R_types HO4004.out BK4005.out (by decide)) (fun _ hk=>hk.2) (.int .i64 t4001)) (fun _ hk=>hk.2) (.slice Ao11 t4002.length co11)) (fun _ hk=>trivial)⟩
    have n1_:Aside0 (((w9.setCell ⟨gb4005,0,none⟩ (.int .i64 t4001)).setCell ⟨gb4005,1,none⟩ (.slice Ao11 t4002.length co11)).heap[gb4005]? = some (.cells #[.int .i64 t4001,.slice Ao11 t4002.length co11] 31 (0,0))):=⟨by(with_reducible repeat(first|refine Zn ?_ _|refine Zp ?_|refine Zm ?_ _));refine ZJ (cs:=#[.int .i64 t4001,.slice none 0 0]) ?_ 1 _ rfl;(with_reducible repeat(first|refine Zn ?_ _|refine Zp ?_|refine Zm ?_ _));refine ZJ (cs:=#[.int .i64 0,.slice none 0 0]) ?_ 0 _ rfl;(with_reducible repeat(first|refine Zn ?_ _|refine Zp ?_|refine Zm ?_ _));exact BK4005.out⟩
    have n2_:Aside0 (Below w.heap.size w ((w9.setCell ⟨gb4005,0,none⟩ (.int .i64 t4001)).setCell ⟨gb4005,1,none⟩ (.slice Ao11 t4002.length co11))):=⟨by repeat(first|(with_reducible first|exact HB.out|apply Zq|apply Zl|apply Zr|refine Zo ?_ GE4005.out)|exact HB.out)⟩
    (try clear HO4004)
    (try clear BK4005)
    (try clear HB)
    generalize ((w9.setCell ⟨gb4005,0,none⟩ (.int .i64 t4001)).setCell ⟨gb4005,1,none⟩ (.slice Ao11 t4002.length co11))=w12 at n0_ n1_ n2_ ⊢
    have HO4004:=n0_;have BK4005:=n1_;have HB:=n2_;clear n0_ n1_ n2_
    replace HO4004:=Za (Kd.R_drew HO4004.out);replace BK4005:=Za (Zp BK4005.out);replace HB:=Za (Zr HB.out)
    refine Zbl (n:=8) (S:=fun w'=>w'.cell? ⟨gb4005,0,none⟩=some (.int .i64 t4001)∧w'.cell? ⟨gb4005,1,none⟩=some (.slice Ao11 t4002.length co11)) (ds:=[]) #[false,false,false,false,false,false,false,false] (by kernel_rfl) rfl rfl ⟨(Zt BK4005.out 0).trans rfl,(Zt BK4005.out 1).trans rfl⟩ (fun hHeld=>?_);refine Za7 laws_FnWindows.tab4 laws_FnWindows.bits4 (fun HT_ HW_=>?_)
    generalize w12.drew=w13 at HO4004 BK4005 HB hHeld ⊢
    refine Z1 (i:=0) (N:=some 17) (v:=?_) (a':=?_) #[true,false,false,false,false,false,false,false] rfl rfl (ZW HT_.out (by kernel_rfl)) (fun _ _ _ h=>h) (Or.inl ⟨by rfl,?_⟩) ?_ ?_
    rotate_left
    ·intro w'
     go_simp
     with_reducible rfl
    rotate_left
    ·simp only[Act.put,List.setIfInBounds_toArray,List.set_cons_zero,List.set_cons_succ,ZH,ZI]
     rfl
    refine Z1 (i:=2) (N:=some 19) (v:=?_) (a':=?_) #[true,false,true,false,false,false,false,false] rfl rfl (ZW HT_.out (by kernel_rfl)) (fun _ _ _ h=>h) (Or.inl ⟨by rfl,?_⟩) ?_ ?_
    rotate_left
    ·intro w'
     go_simp
     with_reducible rfl
    rotate_left
    ·simp only[Act.put,List.setIfInBounds_toArray,List.set_cons_zero,List.set_cons_succ,ZH,ZI]
     rfl
    refine take_ (i:=3) (N:=some 20) (v:=?_) (a':=?_) #[true,false,true,true,false,false,false,false] rfl rfl (ZaG HT_.out HW_.out (by kernel_rfl)) (fun _ _ _ h=>h) (Or.inl ⟨by rfl,?_⟩) hHeld ?_ ?_
    rotate_left
    ·rintro w' ⟨s0,s1⟩
     go_simp
     with_reducible rfl
    rotate_left
    ·simp only[Act.put,List.setIfInBounds_toArray,List.set_cons_zero,List.set_cons_succ,ZH,ZI]
     rfl
    refine Z1 (i:=4) (N:=some 21) (v:=?_) (a':=?_) #[true,false,true,true,true,false,false,false] rfl rfl (ZW HT_.out (by kernel_rfl)) (fun _ _ _ h=>h) (Or.inl ⟨by rfl,?_⟩) ?_ ?_
    rotate_left
    ·intro w'
     go_simp
     with_reducible rfl
    rotate_left
    ·simp only[Act.put,List.setIfInBounds_toArray,List.set_cons_zero,List.set_cons_succ,ZH,ZI]
     rfl
    refine one_ (i:=1) (N:=some 18) #[true,true,true,true,true,false,false,false] rfl rfl (Zas HT_.out (by kernel_rfl)) (by decide) (fun K hK=>?_)
    refine ZaT Try.func14 (by kernel_rfl) rfl #[.slice A0 l0.length c0,.int .i64 40] (by rfl) rfl rfl (by(try simp only[List.map_toArray,List.map_cons,List.map_nil]);first|done|rfl|(simp only[Zj,Zi];rfl)) ?_
    with_reducible refine(ZaP.calls k _ _ l0 40 t4006 _ ?side1 ?side2 A4.out).mono ?_
    (case side1=>repeat(first|exact(Kd.C_below HR0.out HB.out)|(with_reducible refine Kd.C_alloc ?_ _)|(with_reducible refine Kd.C_drewN ?_ _)|(with_reducible refine Kd.C_drew ?_)))
    (case side2=>exact HC0.out)
    rintro e w14 ⟨rfl,hb⟩
    refine⟨_,rfl,?_⟩
    replace HO4004:=Za (Kd.R_below (by(with_reducible repeat(first|apply Kd.R_alloc|apply Kd.R_drewN|apply Kd.R_drew));exact HO4004.out) hb);replace BK4005:=Za (Zx (g:=gb4005) (o:=.cells #[.int .i64 t4001,.slice Ao11 t4002.length co11] 31 (0,0)) (by(with_reducible repeat(first|refine Zn ?_ _|refine Zp ?_|refine Zm ?_ _));exact BK4005.out) hb);replace HB:=Za (Zw (by repeat(first|(with_reducible first|exact HB.out|apply Zq|apply Zl|apply Zr|refine Zo ?_ GE4005.out)|exact HB.out)) hb)
    (try clear hb)
    (try clear hb2)
    (try clear hk)
    (try clear hi)
    refine hK.out _ _ ⟨(Zt BK4005.out 0).trans rfl,(Zt BK4005.out 1).trans rfl⟩ (fun hHeld=>?_)
    clear hK K
    refine Zae (a':=?_) ?_ ?_
    rotate_left
    ·show Act.put _ (some 18) _=_
     simp only[Act.put,List.setIfInBounds_toArray,List.set_cons_zero,List.set_cons_succ,ZH,ZI]
     rfl
    refine Z1 (i:=5) (N:=some 22) (v:=?_) (a':=?_) #[true,true,true,true,true,true,false,false] rfl rfl (ZW HT_.out (by kernel_rfl)) (fun _ _ _ h=>h) (Or.inl ⟨by rfl,?_⟩) ?_ ?_
    rotate_left
    ·intro w'
     go_simp
     with_reducible rfl
    rotate_left
    ·simp only[Act.put,List.setIfInBounds_toArray,List.set_cons_zero,List.set_cons_succ,ZH,ZI]
     rfl
    refine Z1 (i:=6) (N:=some 23) (v:=?_) (a':=?_) #[true,true,true,true,true,true,true,false] rfl rfl (ZW HT_.out (by kernel_rfl)) (fun _ _ _ h=>h) (Or.inl ⟨by rfl,?_⟩) ?_ ?_
    rotate_left
    ·intro w'
     go_simp
     with_reducible rfl
    rotate_left
    ·simp only[Act.put,List.setIfInBounds_toArray,List.set_cons_zero,List.set_cons_succ,ZH,ZI]
     rfl
    refine Z1 (i:=7) (N:=some 4) (v:=?_) (a':=?_) #[true,true,true,true,true,true,true,true] rfl rfl (ZW HT_.out (by kernel_rfl)) (fun _ _ _ h=>h) (Or.inl ⟨by rfl,?_⟩) ?_ ?_
    rotate_left
    ·intro w'
     go_simp
     with_reducible rfl
    rotate_left
    ·simp only[Act.put,List.setIfInBounds_toArray,List.set_cons_zero,List.set_cons_succ,ZH,ZI]
     rfl
    refine ZbC (Zbr HT_.out (by kernel_rfl)) ?_
    have hcz15_0:w14.cell? ⟨gb4005,0,none⟩=some (.int .i64 t4001):=(Zt BK4005.out 0).trans rfl
    have hcz15_1:w14.cell? ⟨gb4005,1,none⟩=some (.slice Ao11 t4002.length co11):=(Zt BK4005.out 1).trans rfl
    have hfz15_0:=Zu BK4005.out 0
    have hfz15_1:=Zu BK4005.out 1
    try go_wp2_with (first|((with_reducible refine ZO (f:=15) rfl ?_);refine Z6 (some 27) rfl rfl Try.func15 (by kernel_rfl) rfl #[.agg #[.int .i64 t4001,.slice Ao11 t4002.length co11],.int .i64 (wrap64 (1+(Int.tmod t4006 (wrap64 (t4001 - 1)))))] rfl (by(try simp only[List.map_toArray,List.map_cons,List.map_nil]);first|done|rfl|(simp only[Zj,Zi];rfl)) ?_;(with_reducible refine(Zaz.calls k t4001 _ _ t4002 (wrap64 (1+(Int.tmod t4006 (wrap64 (t4001 - 1))))) t4007 t4008 true _ ?side1 ?side2 A6.out).mono ?_);(case side1=>repeat(first|exact(Kd.R_reads' HO4004.out).2.2|(with_reducible refine Kd.C_alloc ?_ _)|(with_reducible refine Kd.C_drewN ?_ _)|(with_reducible refine Kd.C_drew ?_)));(case side2=>exact(Kd.R_reads' HO4004.out).2.1);rintro e w16 ⟨rfl,hb⟩;refine⟨_,rfl,?_⟩;replace HO4004:=Za (Kd.R_below (by(with_reducible repeat(first|apply Kd.R_alloc|apply Kd.R_drewN|apply Kd.R_drew));exact HO4004.out) hb);replace BK4005:=Za (Zx (g:=gb4005) (o:=.cells #[.int .i64 t4001,.slice Ao11 t4002.length co11] 31 (0,0)) (by(with_reducible repeat(first|refine Zn ?_ _|refine Zp ?_|refine Zm ?_ _));exact BK4005.out) hb);replace HB:=Za (Zw (by repeat(first|(with_reducible first|exact HB.out|apply Zq|apply Zl|apply Zr|refine Zo ?_ GE4005.out)|exact HB.out)) hb);(try clear hb);(try clear hb2);(try clear hk);(try clear hi))|((with_reducible refine ZP (N:=5) rfl ?_);refine ZM ?hg (N:=5) ?hd (cs:=#[.int .i64 0,.int .i64 0]) (t:=35) ?hr ?_;(case hd=>rfl);(case hg=>rfl);(case hr=>first|(go_simp;done)|(go_simp;rfl));intro gb4010 hg w17 hbox hb;have BK4010:=Za (hbox);have GW4010:=Za ((by rw[hg];exact(Zv (by repeat(first|(with_reducible first|exact HB.out|apply Zq|apply Zl|apply Zr|refine Zo ?_ GE4005.out)|exact HB.out))):w.heap.size≤gb4010));have GE4010:=Za ((by rw[hg];exact(Zv (by repeat(first|(with_reducible first|exact HB.out|apply Zq|apply Zl|apply Zr|refine Zo ?_ GE4005.out)|exact HB.out))):w.heap.size≤gb4010));have NB4005_4010:=Za ((by rw[hg];exact Nat.ne_of_lt (ZL (g:=gb4005) (o:=.cells #[.int .i64 t4001,.slice Ao11 t4002.length co11] 31 (0,0)) (by(with_reducible repeat(first|refine Zn ?_ _|refine Zp ?_|refine Zm ?_ _));exact BK4005.out)):gb4005≠gb4010));have NB4010_4005:=Za ((by rw[hg];exact Nat.ne_of_gt (ZL (g:=gb4005) (o:=.cells #[.int .i64 t4001,.slice Ao11 t4002.length co11] 31 (0,0)) (by(with_reducible repeat(first|refine Zn ?_ _|refine Zp ?_|refine Zm ?_ _));exact BK4005.out)):gb4010≠gb4005));replace HO4004:=Za (Kd.R_below (by(with_reducible repeat(first|apply Kd.R_alloc|apply Kd.R_drewN|apply Kd.R_drew));exact HO4004.out) hb);replace BK4005:=Za (Zx (g:=gb4005) (o:=.cells #[.int .i64 t4001,.slice Ao11 t4002.length co11] 31 (0,0)) (by(with_reducible repeat(first|refine Zn ?_ _|refine Zp ?_|refine Zm ?_ _));exact BK4005.out) hb);replace HB:=Za (Zw (by repeat(first|(with_reducible first|exact HB.out|apply Zq|apply Zl|apply Zr|refine Zo ?_ GE4005.out)|exact HB.out)) hb);clear hb hbox hg;have hnb18:=NB4010_4005.out;have hnc18:=NB4005_4010.out;have hcz19_0:w17.cell? ⟨gb4010,0,none⟩=some (.int .i64 0):=(Zt BK4010.out 0).trans rfl;have hcz19_1:w17.cell? ⟨gb4010,1,none⟩=some (.int .i64 0):=(Zt BK4010.out 1).trans rfl;have hfz19_0:=Zu BK4010.out 0;have hfz19_1:=Zu BK4010.out 1))
    go_loopg [7] k (fun kq v7 w'=>∃(x7_1:Int),v7=.int .i64 x7_1∧Aside0 (laws_FnWindows.l0 kq (wrap64 (1+(Int.tmod t4006 (wrap64 (t4001 - 1))))) x7_1 t4001 t4002 t4007 t4008=some true)∧Aside0 (kq≤k)∧Aside0 (Kd.R k84 84 w' w.heap.size (fun _=>True) (.slice Ao11 t4002.length co11) t4002)∧Aside0 (w'.heap[gb4005]? = some (.cells #[.int .i64 t4001,(.slice Ao11 t4002.length co11)] 31 (0,0)))∧Aside0 (w'.heap[gb4010]? = some (.cells #[.int .i64 t4007,.int .i64 t4008] 35 (0,0)))∧Aside0 (Below w.heap.size w w'))
    case atStart=>exact⟨(0),(by first|rfl|(simp;done)|(simp[*];done)),H',⟨Nat.le_refl _⟩,⟨by(with_reducible repeat(first|apply Kd.R_alloc|apply Kd.R_drewN|apply Kd.R_drew));exact Kd.R_mono (Kd.R_far (p:=⟨gb4010,1,none⟩) (Kd.R_far (p:=⟨gb4010,0,none⟩) (Kd.R_types HO4004.out BK4010.out (by decide)) (fun _ hk=>hk.2) (.int .i64 t4007)) (fun _ hk=>hk.2) (.int .i64 t4008)) (fun _ hk=>trivial)⟩,⟨by(with_reducible repeat(first|refine Zn ?_ _|refine Zp ?_|refine Zm ?_ _));refine ZE ?_ NB4005_4010.out _;(with_reducible repeat(first|refine Zn ?_ _|refine Zp ?_|refine Zm ?_ _));refine ZE ?_ NB4005_4010.out _;(with_reducible repeat(first|refine Zn ?_ _|refine Zp ?_|refine Zm ?_ _));exact BK4005.out⟩,⟨by(with_reducible repeat(first|refine Zn ?_ _|refine Zp ?_|refine Zm ?_ _));refine ZJ (cs:=#[.int .i64 t4007,.int .i64 0]) ?_ 1 _ rfl;(with_reducible repeat(first|refine Zn ?_ _|refine Zp ?_|refine Zm ?_ _));refine ZJ (cs:=#[.int .i64 0,.int .i64 0]) ?_ 0 _ rfl;(with_reducible repeat(first|refine Zn ?_ _|refine Zp ?_|refine Zm ?_ _));exact BK4010.out⟩,⟨by repeat(first|(with_reducible first|exact HB.out|apply Zq|apply Zl|apply Zr|refine Zo ?_ GE4005.out|refine Zo ?_ GE4010.out)|exact HB.out)⟩⟩
    case round=>
     clear H'
     try clear c1
     try clear c2
     try clear c2b0
     try clear c2b1
     try clear p2
     try clear c4
     try clear c5
     try clear c5b0
     try clear c5b1
     try clear p6
     try clear c7
     try clear c13
     try clear c14
     try clear c15
     try clear c18
     try clear hcz10_0
     try clear hcz10_1
     try clear hcz15_0
     try clear hcz15_1
     try clear hcz19_0
     try clear hcz19_1
     try clear hfz10_0
     try clear hfz10_1
     try clear hfz15_0
     try clear hfz15_1
     try clear hfz19_0
     try clear hfz19_1
     obtain⟨x7_1,rfl,HA,HK1,HO_4006001,BK4005,BK4010,HB⟩:=hrel
     cases gk with
     | zero=>exact absurd HA.out (by simp[laws_FnWindows.l0])
     | succ k1=>
      have H:=HA.out
      clear HA
      simp only[laws_FnWindows.l0] at H
      by_cases c20:x7_1<30
      ·rw[if_pos c20] at H
       have c20b0:decide (x7_1<30)=true:=Zd c20
       clear c20
       obtain⟨y4013,hy4013⟩:∃y_:List Int,y_=(([]:List Int)):=⟨_,rfl⟩
       replace H:(laws_FnWindows.l1 k1 (wrap64 (1+(Int.tmod t4006 (wrap64 (t4001 - 1))))) x7_1 y4013 0 t4001 t4002 t4007 t4008)=some true:=by first|(rw[hy4013];with_reducible exact H)|(have H2_:=(Zh _ _).symm.trans H;rw[hy4013];with_reducible exact H2_)|(have H2_:=(Zh _ _).symm.trans H;with_reducible exact H2_)|with_reducible exact H|(rw[hy4013];exact H)|exact H
       have Ny4013:=Za hy4013;clear hy4013
       have H':=Za H
       clear H
       go_wp2_with (first|((with_reducible refine ZP (N:=43) rfl ?_);refine Kd.R_lit (Kd.int .i64) _ 3 ?hg (N:=43) ?hd (xs:=([]:List Int)) (inner:=[]) (ok:=fun _=>True) (okp:=fun _=>True) ?hr ?hp (fun _ hk=>hk) trivial (Below.refl _ _) (Nat.le_refl _) (by simp) ?_;(case hd=>rfl);(case hg=>rfl);(case hr=>first|(go_simp;done)|(go_simp;rfl));(case hp=>exact(Reps.none _ _));intro v4014 w21 ho22 hb hg_ hnew_;clear hg_ hnew_;(first|rw[← Ny4013.out] at ho22|(simp only[Int.reduceToNat] at ho22;rw[← Ny4013.out] at ho22));have HO4015:=Za (Kd.R_lower ho22 (Zv (by repeat(first|(with_reducible first|exact HB.out|apply Zq|apply Zl|apply Zr|refine Zo ?_ GE4005.out|refine Zo ?_ GE4010.out)|exact HB.out))));replace HO_4006001:=Za (Kd.R_below (by(with_reducible repeat(first|apply Kd.R_alloc|apply Kd.R_drewN|apply Kd.R_drew));exact HO_4006001.out) hb);replace BK4005:=Za (Zx (g:=gb4005) (o:=.cells #[.int .i64 t4001,.slice Ao11 t4002.length co11] 31 (0,0)) (by(with_reducible repeat(first|refine Zn ?_ _|refine Zp ?_|refine Zm ?_ _));exact BK4005.out) hb);replace BK4010:=Za (Zx (g:=gb4010) (o:=.cells #[.int .i64 t4007,.int .i64 t4008] 35 (0,0)) (by(with_reducible repeat(first|refine Zn ?_ _|refine Zp ?_|refine Zm ?_ _));exact BK4010.out) hb);replace HB:=Za (Zw (by repeat(first|(with_reducible first|exact HB.out|apply Zq|apply Zl|apply Zr|refine Zo ?_ GE4005.out|refine Zo ?_ GE4010.out)|exact HB.out)) hb);clear hb ho22))
       go_loopg [8,9] k1 (fun kq v8 v9 w'=>∃(x8_2:List Int) (x9_2:Int),v9=.int .i64 x9_2∧Aside0 (laws_FnWindows.l1 kq (wrap64 (1+(Int.tmod t4006 (wrap64 (t4001 - 1))))) x7_1 x8_2 x9_2 t4001 t4002 t4007 t4008=some true)∧Aside0 (kq≤k1)∧Aside0 (Kd.R (Kd.int .i64) 3 w' w.heap.size (fun _=>True) v8 x8_2)∧Aside0 (Kd.R k84 84 w' w.heap.size (fun _=>True) (.slice Ao11 t4002.length co11) t4002)∧Aside0 (w'.heap[gb4005]? = some (.cells #[.int .i64 t4001,(.slice Ao11 t4002.length co11)] 31 (0,0)))∧Aside0 (w'.heap[gb4010]? = some (.cells #[.int .i64 t4007,.int .i64 t4008] 35 (0,0)))∧Aside0 (Below w.heap.size w w'))
       case atStart=>exact⟨(y4013),(0),(by first|rfl|(simp;done)|(simp[*];done)),H',⟨Nat.le_refl _⟩,⟨by(with_reducible repeat(first|apply Kd.R_alloc|apply Kd.R_drewN|apply Kd.R_drew));exact HO4015.out⟩,⟨by(with_reducible repeat(first|apply Kd.R_alloc|apply Kd.R_drewN|apply Kd.R_drew));exact HO_4006001.out⟩,⟨by(with_reducible repeat(first|refine Zn ?_ _|refine Zp ?_|refine Zm ?_ _));exact BK4005.out⟩,⟨by(with_reducible repeat(first|refine Zn ?_ _|refine Zp ?_|refine Zm ?_ _));exact BK4010.out⟩,⟨by repeat(first|(with_reducible first|exact HB.out|apply Zq|apply Zl|apply Zr|refine Zo ?_ GE4005.out|refine Zo ?_ GE4010.out)|exact HB.out)⟩⟩
       case round=>
        clear H'
        try clear c1
        try clear c2
        try clear c2b0
        try clear c2b1
        try clear p2
        try clear c4
        try clear c5
        try clear c5b0
        try clear c5b1
        try clear p6
        try clear c7
        try clear c13
        try clear c14
        try clear c15
        try clear c18
        try clear c20
        try clear c20b0
        try clear hcz10_0
        try clear hcz10_1
        try clear hcz15_0
        try clear hcz15_1
        try clear hcz19_0
        try clear hcz19_1
        try clear hfz10_0
        try clear hfz10_1
        try clear hfz15_0
        try clear hfz15_1
        try clear hfz19_0
        try clear hfz19_1
        try clear p2
        try clear p6
        obtain⟨x8_2,x9_2,rfl,HA,HK2,HO_8,HO_4006001,BK4005,BK4010,HB⟩:=hrel
        cases gk with
        | zero=>exact absurd HA.out (by simp[laws_FnWindows.l1])
        | succ k2=>
         have H:=HA.out
         clear HA
         simp only[laws_FnWindows.l1] at H
         by_cases c23:x9_2<t4001
         ·rw[if_pos c23] at H
          have c23b0:decide (x9_2<t4001)=true:=Zd c23
          clear c23
          by_cases c24:x8_2.length<17592186044416
          ·rw[if_pos c24] at H
           have LMc24:=Za c24;clear c24
           obtain⟨y4016,hy4016⟩:∃y_:List Int,y_=(x8_2 ++ [(-1)]):=⟨_,rfl⟩
           replace H:(laws_FnWindows.l1 k2 (wrap64 (1+(Int.tmod t4006 (wrap64 (t4001 - 1))))) x7_1 y4016 (wrap64 (x9_2+1)) t4001 t4002 t4007 t4008)=some true:=by first|(rw[hy4016];with_reducible exact H)|(have H2_:=(Zh _ _).symm.trans H;rw[hy4016];with_reducible exact H2_)|(have H2_:=(Zh _ _).symm.trans H;with_reducible exact H2_)|with_reducible exact H|(rw[hy4016];exact H)|exact H
           have Ny4016:=Za hy4016;clear hy4016
           have H':=Za H
           clear H
           have hnb25:=NB4005_4010.out
           have hnc25:=NB4010_4005.out
           have hcz26_0:wr.cell? ⟨gb4005,0,none⟩=some (.int .i64 t4001):=(Zt BK4005.out 0).trans rfl
           have hcz26_1:wr.cell? ⟨gb4005,1,none⟩=some (.slice Ao11 t4002.length co11):=(Zt BK4005.out 1).trans rfl
           have hfz26_0:=Zu BK4005.out 0
           have hfz26_1:=Zu BK4005.out 1
           go_wp2_with (first|((with_reducible refine ZaD (b:=.append) (xs:=#[.tmp 50,.tmp 51]) rfl ?_);at_builtin;refine Kd.R_append (Kd.int .i64) (w0:=w) w.heap.size rfl (.tmp 50) (.tmp 51) 22 3 (.int .i64 0) 8 rfl Try.underlying22 Zbd rfl (by decide) (by omega) u8 x8_2 (-1) [.int .i64 (-1)] (fun _=>True) (fun _=>False) rfl rfl ?aP (fun _ hk=>hk.elim) ?aF ?aO ?aB ?aS ?aL ?_;(case aP=>exact rfl);(case aB=>exact(by repeat(first|(with_reducible first|exact HB.out|apply Zq|apply Zl|apply Zr|refine Zo ?_ GE4005.out|refine Zo ?_ GE4010.out)|exact HB.out)));(case aF=>exact(fun _ _=>trivial));(case aO=>exact(by(with_reducible repeat(first|apply Kd.R_alloc|apply Kd.R_drewN|apply Kd.R_drew));exact HO_8.out));(case aS=>exact(Zv (by repeat(first|(with_reducible first|exact HB.out|apply Zq|apply Zl|apply Zr|refine Zo ?_ GE4005.out|refine Zo ?_ GE4010.out)|exact HB.out))));(case aL=>have:=LMc24.out;omega);intro v4017 w27 ho hb hg hat;rw[← Ny4016.out] at ho;have HO4018:=Za (ho);replace HO_4006001:=Za (Kd.R_over' (by(with_reducible repeat(first|apply Kd.R_alloc|apply Kd.R_drewN|apply Kd.R_drew));exact HO_4006001.out) (Kd.R_typed (by(with_reducible repeat(first|apply Kd.R_alloc|apply Kd.R_drewN|apply Kd.R_drew));exact HO_8.out)) (by decide) hg);replace BK4005:=Za (ZZ (g:=gb4005) (o:=.cells #[.int .i64 t4001,.slice Ao11 t4002.length co11] 31 (0,0)) (by(with_reducible repeat(first|refine Zn ?_ _|refine Zp ?_|refine Zm ?_ _));exact BK4005.out) hg (Kd.R_ne HO_8.out BK4005.out (by decide)));replace BK4010:=Za (ZZ (g:=gb4010) (o:=.cells #[.int .i64 t4007,.int .i64 t4008] 35 (0,0)) (by(with_reducible repeat(first|refine Zn ?_ _|refine Zp ?_|refine Zm ?_ _));exact BK4010.out) hg (Kd.R_ne HO_8.out BK4010.out (by decide)));replace HB:=Za (hb);clear HO_8;clear ho hb hg hat))
           go_roundg k2
           case measure=>have:=HK1.out;have:=HK2.out;omega
           case rel=>exact⟨(y4016),(wrap64 (x9_2+1)),(by first|rfl|(simp;done)|(simp[*];done)),H',⟨by have:=HK1.out;have:=HK2.out;omega⟩,⟨by(with_reducible repeat(first|apply Kd.R_alloc|apply Kd.R_drewN|apply Kd.R_drew));exact HO4018.out⟩,⟨by(with_reducible repeat(first|apply Kd.R_alloc|apply Kd.R_drewN|apply Kd.R_drew));exact HO_4006001.out⟩,⟨by(with_reducible repeat(first|refine Zn ?_ _|refine Zp ?_|refine Zm ?_ _));exact BK4005.out⟩,⟨by(with_reducible repeat(first|refine Zn ?_ _|refine Zp ?_|refine Zm ?_ _));exact BK4010.out⟩,⟨by repeat(first|(with_reducible first|exact HB.out|apply Zq|apply Zl|apply Zr|refine Zo ?_ GE4005.out|refine Zo ?_ GE4010.out)|exact HB.out)⟩⟩
          ·rw[if_neg c24] at H
           exact absurd H (by simp)
         ·rw[if_neg c23] at H
          have c23b0:decide (x9_2<t4001)=false:=Ze c23
          clear c23
          by_cases c28:0<(x8_2.length:Int)
          ·rw[if_pos c28] at H
           have c28b0:decide (0<(x8_2.length:Int))=true:=Zd c28
           have c28b1:decide (0<x8_2.length)=true:=Zd (by omega)
           clear c28
           obtain⟨y4019,hy4019⟩:∃y_:List Int,y_=(x8_2.set (0:Int).toNat 0):=⟨_,rfl⟩
           replace H:(if 0≤(wrap64 (1+(Int.tmod t4006 (wrap64 (t4001 - 1))))) then(if (wrap64 (1+(Int.tmod t4006 (wrap64 (t4001 - 1)))))<(x8_2.length:Int) then((some (y4019.set ((wrap64 (1+(Int.tmod t4006 (wrap64 (t4001 - 1))))):Int).toNat x7_1:List Int)).bind fun y4020=>((ZT.f k2 t4001 t4002 y4020).bind fun bt4021=>(if bt4021.2.2=true then((ZaF.f k2 t4001 t4002 y4020).bind fun t4027=>((Z8.f t4007 t4008 x7_1).bind fun t4028=>(if (t4027 != t4028)=true then(some false) else((ZX.f k2 bt4021.1 bt4021.2.1).bind fun t4029=>((Z8.f t4007 t4008 x7_1).bind fun t4030=>(if (t4029 != t4030)=true then(some false) else((Z4.f k2 y4020).bind fun t4031=>(if t4031=(wrap64 (t4001 - 2)) then(laws_FnWindows.l0 k2 (wrap64 (1+(Int.tmod t4006 (wrap64 (t4001 - 1))))) (wrap64 (x7_1+1)) t4001 t4002 t4007 t4008) else(some false))))))))) else(some false)))) else(none)) else(none))=some true:=by first|(rw[hy4019];with_reducible exact H)|(have H2_:=(Zh _ _).symm.trans H;rw[hy4019];with_reducible exact H2_)|(have H2_:=(Zh _ _).symm.trans H;with_reducible exact H2_)|with_reducible exact H|(rw[hy4019];exact H)|exact H
           have Ny4019:=Za hy4019;clear hy4019
           obtain⟨ji30,hji30⟩:∃j_:Int,(wrap64 (1+(Int.tmod t4006 (wrap64 (t4001 - 1)))))=j_:=⟨_,rfl⟩
           replace H:(if 0≤(ji30) then(if (ji30)<(x8_2.length:Int) then((some (y4019.set ((ji30):Int).toNat x7_1:List Int)).bind fun y4020=>((ZT.f k2 t4001 t4002 y4020).bind fun bt4021=>(if bt4021.2.2=true then((ZaF.f k2 t4001 t4002 y4020).bind fun t4027=>((Z8.f t4007 t4008 x7_1).bind fun t4028=>(if (t4027 != t4028)=true then(some false) else((ZX.f k2 bt4021.1 bt4021.2.1).bind fun t4029=>((Z8.f t4007 t4008 x7_1).bind fun t4030=>(if (t4029 != t4030)=true then(some false) else((Z4.f k2 y4020).bind fun t4031=>(if t4031=(wrap64 (t4001 - 2)) then(laws_FnWindows.l0 k2 (ji30) (wrap64 (x7_1+1)) t4001 t4002 t4007 t4008) else(some false))))))))) else(some false)))) else(none)) else(none))=some true:=by first|(rw[hji30] at H;exact H)|(simp only[hji30] at H ⊢;exact H)
           have hji30w:(IntKind.i64.wrap (1+(Int.tmod t4006 (wrap64 (t4001 - 1)))))=ji30:=(ZH _).trans hji30
           by_cases c31:0≤(ji30)
           ·rw[if_pos c31] at H
            have c31b0:decide (0≤(ji30))=true:=Zd c31
            clear c31
            by_cases c32:(ji30)<(x8_2.length:Int)
            ·rw[if_pos c32] at H
             have c32b0:decide ((ji30)<(x8_2.length:Int))=true:=Zd c32
             clear c32
             obtain⟨y4020,hy4020⟩:∃y_:List Int,y_=(y4019.set ((ji30):Int).toNat x7_1):=⟨_,rfl⟩
             replace H:((ZT.f k2 t4001 t4002 y4020).bind fun bt4021=>(if bt4021.2.2=true then((ZaF.f k2 t4001 t4002 y4020).bind fun t4027=>((Z8.f t4007 t4008 x7_1).bind fun t4028=>(if (t4027 != t4028)=true then(some false) else((ZX.f k2 bt4021.1 bt4021.2.1).bind fun t4029=>((Z8.f t4007 t4008 x7_1).bind fun t4030=>(if (t4029 != t4030)=true then(some false) else((Z4.f k2 y4020).bind fun t4031=>(if t4031=(wrap64 (t4001 - 2)) then(laws_FnWindows.l0 k2 (ji30) (wrap64 (x7_1+1)) t4001 t4002 t4007 t4008) else(some false))))))))) else(some false)))=some true:=by first|(rw[hy4020];with_reducible exact H)|(have H2_:=(Zh _ _).symm.trans H;rw[hy4020];with_reducible exact H2_)|(have H2_:=(Zh _ _).symm.trans H;with_reducible exact H2_)|with_reducible exact H|(rw[hy4020];exact H)|exact H
             have Ny4020:=Za hy4020;clear hy4020
             replace H:=Zg H
             obtain⟨⟨t4021,t4022,t4025⟩,A340,H⟩:=H
             replace H:(if t4025=true then((ZaF.f k2 t4001 t4002 y4020).bind fun t4027=>((Z8.f t4007 t4008 x7_1).bind fun t4028=>(if (t4027 != t4028)=true then(some false) else((ZX.f k2 t4021 t4022).bind fun t4029=>((Z8.f t4007 t4008 x7_1).bind fun t4030=>(if (t4029 != t4030)=true then(some false) else((Z4.f k2 y4020).bind fun t4031=>(if t4031=(wrap64 (t4001 - 2)) then(laws_FnWindows.l0 k2 (ji30) (wrap64 (x7_1+1)) t4001 t4002 t4007 t4008) else(some false))))))))) else(some false))=some true:=H
             have A34:=Za A340;clear A340
             by_cases c35:t4025=true
             ·subst c35
              have H1:((ZaF.f k2 t4001 t4002 y4020).bind fun t4027=>((Z8.f t4007 t4008 x7_1).bind fun t4028=>(if (t4027 != t4028)=true then(some false) else((ZX.f k2 t4021 t4022).bind fun t4029=>((Z8.f t4007 t4008 x7_1).bind fun t4030=>(if (t4029 != t4030)=true then(some false) else((Z4.f k2 y4020).bind fun t4031=>(if t4031=(wrap64 (t4001 - 2)) then(laws_FnWindows.l0 k2 (ji30) (wrap64 (x7_1+1)) t4001 t4002 t4007 t4008) else(some false)))))))))=some true:=by rw[if_pos rfl] at H;first|done|exact H
              clear H
              have H:=H1
              clear H1
              replace H:=Zg H
              obtain⟨t4027,A360,H⟩:=H
              replace H:((Z8.f t4007 t4008 x7_1).bind fun t4028=>(if (t4027 != t4028)=true then(some false) else((ZX.f k2 t4021 t4022).bind fun t4029=>((Z8.f t4007 t4008 x7_1).bind fun t4030=>(if (t4029 != t4030)=true then(some false) else((Z4.f k2 y4020).bind fun t4031=>(if t4031=(wrap64 (t4001 - 2)) then(laws_FnWindows.l0 k2 (ji30) (wrap64 (x7_1+1)) t4001 t4002 t4007 t4008) else(some false))))))))=some true:=H
              have A36:=Za A360;clear A360
              replace H:=Zg H
              obtain⟨t4028,A370,H⟩:=H
              replace H:(if (t4027 != t4028)=true then(some false) else((ZX.f k2 t4021 t4022).bind fun t4029=>((Z8.f t4007 t4008 x7_1).bind fun t4030=>(if (t4029 != t4030)=true then(some false) else((Z4.f k2 y4020).bind fun t4031=>(if t4031=(wrap64 (t4001 - 2)) then(laws_FnWindows.l0 k2 (ji30) (wrap64 (x7_1+1)) t4001 t4002 t4007 t4008) else(some false)))))))=some true:=H
              have A37:=Za A370;clear A370
              by_cases c38:(t4027 != t4028)=true
              ·rw[if_pos c38] at H
               have c38b0:(t4027 != t4028)=true:=c38
               (try(have c38b1:decide (t4027=t4028)=false:=by simpa using c38))
               (try(have c38b2:(t4027 == t4028)=false:=by simpa using c38))
               (try(have c38b3:¬(t4027=t4028):=by simpa using c38))
               clear c38
               exact absurd H (by simp)
              ·rw[if_neg c38] at H
               have c38b0:(t4027 != t4028)=false:=by simpa using c38
               (try(have c38b1:decide (t4027=t4028)=true:=by simpa using c38))
               (try(have c38b2:(t4027 == t4028)=true:=by simpa using c38))
               clear c38
               replace H:=Zg H
               obtain⟨t4029,A390,H⟩:=H
               replace H:((Z8.f t4007 t4008 x7_1).bind fun t4030=>(if (t4029 != t4030)=true then(some false) else((Z4.f k2 y4020).bind fun t4031=>(if t4031=(wrap64 (t4001 - 2)) then(laws_FnWindows.l0 k2 (ji30) (wrap64 (x7_1+1)) t4001 t4002 t4007 t4008) else(some false)))))=some true:=H
               have A39:=Za A390;clear A390
               replace H:=Zg H
               obtain⟨t4030,A400,H⟩:=H
               replace H:(if (t4029 != t4030)=true then(some false) else((Z4.f k2 y4020).bind fun t4031=>(if t4031=(wrap64 (t4001 - 2)) then(laws_FnWindows.l0 k2 (ji30) (wrap64 (x7_1+1)) t4001 t4002 t4007 t4008) else(some false))))=some true:=H
               have A40:=Za A400;clear A400
               by_cases c41:(t4029 != t4030)=true
               ·rw[if_pos c41] at H
                have c41b0:(t4029 != t4030)=true:=c41
                (try(have c41b1:decide (t4029=t4030)=false:=by simpa using c41))
                (try(have c41b2:(t4029 == t4030)=false:=by simpa using c41))
                (try(have c41b3:¬(t4029=t4030):=by simpa using c41))
                clear c41
                exact absurd H (by simp)
               ·rw[if_neg c41] at H
                have c41b0:(t4029 != t4030)=false:=by simpa using c41
                (try(have c41b1:decide (t4029=t4030)=true:=by simpa using c41))
                (try(have c41b2:(t4029 == t4030)=true:=by simpa using c41))
                clear c41
                replace H:=Zg H
                obtain⟨t4031,A420,H⟩:=H
                replace H:(if t4031=(wrap64 (t4001 - 2)) then(laws_FnWindows.l0 k2 (ji30) (wrap64 (x7_1+1)) t4001 t4002 t4007 t4008) else(some false))=some true:=H
                have A42:=Za A420;clear A420
                by_cases c43:t4031=(wrap64 (t4001 - 2))
                ·rw[if_pos c43] at H
                 have c43b0:(t4031 == (wrap64 (t4001 - 2)))=true:=beq_iff_eq.mpr c43
                 have c43b1:(t4031 != (wrap64 (t4001 - 2)))=false:=bne_eq_false_iff_eq.mpr c43
                 clear c43
                 have H':=Za H
                 clear H
                 have hnb44:=NB4005_4010.out
                 have hnc44:=NB4010_4005.out
                 have hcz45_0:wr.cell? ⟨gb4005,0,none⟩=some (.int .i64 t4001):=(Zt BK4005.out 0).trans rfl
                 have hcz45_1:wr.cell? ⟨gb4005,1,none⟩=some (.slice Ao11 t4002.length co11):=(Zt BK4005.out 1).trans rfl
                 have hfz45_0:=Zu BK4005.out 0
                 have hfz45_1:=Zu BK4005.out 1
                 have p29:0≤(0:Int):=(by omega)
                 have q29:(0:Int)<((x8_2.length:Int):Int):=Zc (by first|(with_reducible assumption)|assumption)
                 have qi29:(0<x8_2.length)=True:=eq_true (by omega)
                 obtain⟨go29,co29,eo29,gb29,gl29,cl29,HG29⟩:=Kd.R_form HO_8.out (by omega)
                 (first|cases eo29|(injection eo29 with ea_ en_ ec_;(first|subst ea_|(injection ea_ with ea_;subst ea_));subst ec_;clear en_))
                 have GB29:=Za gb29;have GG29:=Za HG29;clear gb29 gl29 HG29
                 obtain⟨hx29_0,hf29_0⟩:=Kd.R_celln 0 HO_8.out (0:Int) p29 q29
                 (try rw[show((0:Int)).toNat=0 from rfl] at hx29_0)
                 (try simp only[Nat.reduceMul,Nat.zero_mul,Nat.zero_add,Nat.reduceAdd] at hx29_0)
                 (try rw[show((0:Int)).toNat=0 from rfl] at hf29_0)
                 (try simp only[Nat.reduceMul,Nat.zero_mul,Nat.zero_add,Nat.reduceAdd] at hf29_0)
                 replace p29:=eq_true p29
                 replace q29:=eq_true q29
                 have HP46:=Kd.R_putg HO_8.out (0:Int) 0
                 try go_wp2_with (first|((with_reducible refine Zc2 (t:=3) (p:=54) rfl ?_);refine ZcH (t:=3) (p:=54) (v:=?vo_w47) (w1:=(wr.setCell ⟨go29,(0:Int).toNat,none⟩ (.int .i64 0))) ?hg ?ho ?hn ?hr ?_;(case ho=>rfl);(case hg=>rfl);(case hn=>rfl);(case hr=>first|(go_simp;done)|(go_simp;rfl));intro w47 hw;have hg:wr.grownBy w47 (some go29):=(by rw[hw];exact HP46.2);have hp_:Kd.R (Kd.int .i64) 3 w47 w.heap.size (fun _=>True) (.slice (some ⟨go29,0,none⟩) x8_2.length co29) y4019:=(by rw[hw,Ny4019.out];exact HP46.1);clear HP46;replace HO_4006001:=Za (Kd.R_over' (v:=(.slice (some ⟨go29,0,none⟩) x8_2.length co29)) (by(with_reducible repeat(first|apply Kd.R_alloc|apply Kd.R_drewN|apply Kd.R_drew));exact HO_4006001.out) (Kd.R_typed HO_8.out) (by decide) hg);replace BK4005:=Za (ZZ (g:=gb4005) (o:=.cells #[.int .i64 t4001,.slice Ao11 t4002.length co11] 31 (0,0)) (by(with_reducible repeat(first|refine Zn ?_ _|refine Zp ?_|refine Zm ?_ _));exact BK4005.out) hg (Kd.R_ne HO_8.out BK4005.out (by decide)));replace BK4010:=Za (ZZ (g:=gb4010) (o:=.cells #[.int .i64 t4007,.int .i64 t4008] 35 (0,0)) (by(with_reducible repeat(first|refine Zn ?_ _|refine Zp ?_|refine Zm ?_ _));exact BK4010.out) hg (Kd.R_ne HO_8.out BK4010.out (by decide)));replace HO_8:=Za (hp_);replace HB:=Za ((by rw[hw];exact Zo (HB.out) GB29.out:Below w.heap.size w w47));clear hg hw hp_;have p33:0≤((ji30):Int):=Zc (by first|(with_reducible assumption)|assumption);have q33:((ji30):Int)<((x8_2.length:Int):Int):=Zc (by first|(with_reducible assumption)|assumption);obtain⟨hx33_0,hf33_0⟩:=Kd.R_celln 0 HO_8.out ((ji30):Int) p33 q33;replace p33:=eq_true p33;replace q33:=eq_true q33;obtain⟨hy48_,hz48_⟩:=Kd.R_celln 0 HO_8.out ((ji30):Int) (Zc (by first|(with_reducible assumption)|assumption)) (Zc (by first|(with_reducible assumption)|assumption));have HP48:=Kd.R_putg HO_8.out ((ji30):Int) x7_1)|((with_reducible refine Zc2 (t:=3) (p:=58) rfl ?_);refine ZcH (t:=3) (p:=58) (v:=?vo_w49) (w1:=(w47.setCell ⟨go29,((ji30):Int).toNat,none⟩ (.int .i64 x7_1))) ?hg ?ho ?hn ?hr ?_;(case ho=>rfl);(case hg=>rfl);(case hn=>rfl);(case hr=>first|(go_simp;done)|(go_simp;rfl));intro w49 hw;have hg:w47.grownBy w49 (some go29):=(by rw[hw];exact HP48.2);have hp_:Kd.R (Kd.int .i64) 3 w49 w.heap.size (fun _=>True) (.slice (some ⟨go29,0,none⟩) x8_2.length co29) y4020:=(by rw[hw,Ny4020.out];exact HP48.1);clear HP48;replace HO_4006001:=Za (Kd.R_over' (v:=(.slice (some ⟨go29,0,none⟩) x8_2.length co29)) (by(with_reducible repeat(first|apply Kd.R_alloc|apply Kd.R_drewN|apply Kd.R_drew));exact HO_4006001.out) (Kd.R_typed HO_8.out) (by decide) hg);replace BK4005:=Za (ZZ (g:=gb4005) (o:=.cells #[.int .i64 t4001,.slice Ao11 t4002.length co11] 31 (0,0)) (by(with_reducible repeat(first|refine Zn ?_ _|refine Zp ?_|refine Zm ?_ _));exact BK4005.out) hg (Kd.R_ne HO_8.out BK4005.out (by decide)));replace BK4010:=Za (ZZ (g:=gb4010) (o:=.cells #[.int .i64 t4007,.int .i64 t4008] 35 (0,0)) (by(with_reducible repeat(first|refine Zn ?_ _|refine Zp ?_|refine Zm ?_ _));exact BK4010.out) hg (Kd.R_ne HO_8.out BK4010.out (by decide)));replace HO_8:=Za (hp_);replace HB:=Za ((by rw[hw];exact Zo (HB.out) GB29.out:Below w.heap.size w w49));clear hg hw hp_;have hcz50_0:w49.cell? ⟨gb4005,0,none⟩=some (.int .i64 t4001):=(Zt BK4005.out 0).trans rfl;have hcz50_1:w49.cell? ⟨gb4005,1,none⟩=some (.slice Ao11 t4002.length co11):=(Zt BK4005.out 1).trans rfl;have hfz50_0:=Zu BK4005.out 0;have hfz50_1:=Zu BK4005.out 1)|((with_reducible refine ZO (f:=18) rfl ?_);refine Z6 (some 62) rfl rfl Try.func18 (by kernel_rfl) rfl #[.agg #[.int .i64 t4001,.slice Ao11 t4002.length co11],.slice (some ⟨go29,0,none⟩) y4020.length co29] rfl (by(try simp only[List.map_toArray,List.map_cons,List.map_nil]);first|done|(rw[show y4020.length=x8_2.length from(Kd.R_reads' HO_8.out).1.symm] <;> rfl)|rfl|(simp only[Zj,Zi];rfl)) ?_;(with_reducible refine(ZT.calls k2 t4001 _ _ t4002 _ _ y4020 t4021 t4022 true _ ?side1 ?side2 ?side3 ?side4 A34.out).mono ?_);(case side1=>repeat(first|exact(Kd.R_reads' HO_4006001.out).2.2|(with_reducible refine Kd.C_alloc ?_ _)|(with_reducible refine Kd.C_drewN ?_ _)|(with_reducible refine Kd.C_drew ?_)));(case side2=>exact(Kd.R_reads' HO_4006001.out).2.1);(case side3=>repeat(first|exact(Kd.R_reads' HO_8.out).2.2|(with_reducible refine Kd.C_alloc ?_ _)|(with_reducible refine Kd.C_drewN ?_ _)|(with_reducible refine Kd.C_drew ?_)));(case side4=>rw[show y4020.length=x8_2.length from(Kd.R_reads' HO_8.out).1.symm];exact(Kd.R_reads' HO_8.out).2.1);rintro e w51 ⟨v4023,rfl,ho0,hb⟩;refine⟨_,rfl,?_⟩;have HO4024:=Za (Kd.R_lower (Kd.R_new' ho0 (Kd.R_lt (by(with_reducible repeat(first|apply Kd.R_alloc|apply Kd.R_drewN|apply Kd.R_drew));exact HO_4006001.out))) (Zv (by repeat(first|(with_reducible first|exact HB.out|apply Zq|apply Zl|apply Zr|refine Zo ?_ GE4005.out|refine Zo ?_ GE4010.out)|exact HB.out))));replace HO_8:=Za (Kd.R_below (by(with_reducible repeat(first|apply Kd.R_alloc|apply Kd.R_drewN|apply Kd.R_drew));exact HO_8.out) hb);replace HO_4006001:=Za (Kd.R_elder' (by(with_reducible repeat(first|apply Kd.R_alloc|apply Kd.R_drewN|apply Kd.R_drew));exact HO_4006001.out) (Kd.R_base ho0) hb);replace BK4005:=Za (Zx (g:=gb4005) (o:=.cells #[.int .i64 t4001,.slice Ao11 t4002.length co11] 31 (0,0)) (by(with_reducible repeat(first|refine Zn ?_ _|refine Zp ?_|refine Zm ?_ _));exact BK4005.out) hb);replace BK4010:=Za (Zx (g:=gb4010) (o:=.cells #[.int .i64 t4007,.int .i64 t4008] 35 (0,0)) (by(with_reducible repeat(first|refine Zn ?_ _|refine Zp ?_|refine Zm ?_ _));exact BK4010.out) hb);replace HB:=Za (Zw (by repeat(first|(with_reducible first|exact HB.out|apply Zq|apply Zl|apply Zr|refine Zo ?_ GE4005.out|refine Zo ?_ GE4010.out)|exact HB.out)) hb);(try clear hb);(try clear hb2);(try clear hk);(try clear hi);(try clear ho0))|((with_reducible refine ZP (N:=10) rfl ?_);refine ZM ?hg (N:=10) ?hd (cs:=#[.int .i64 0,.slice none 0 0]) (t:=31) ?hr ?_;(case hd=>rfl);(case hg=>rfl);(case hr=>first|(go_simp;done)|(go_simp;rfl));intro gb4026 hg w52 hbox hb;have BK4026:=Za (hbox);have GW4026:=Za ((by rw[hg];exact(Zv (by repeat(first|(with_reducible first|exact HB.out|apply Zq|apply Zl|apply Zr|refine Zo ?_ GE4005.out|refine Zo ?_ GE4010.out)|exact HB.out))):w.heap.size≤gb4026));have GE4026:=Za ((by rw[hg];exact(Zv (by repeat(first|(with_reducible first|exact HB.out|apply Zq|apply Zl|apply Zr|refine Zo ?_ GE4005.out|refine Zo ?_ GE4010.out)|exact HB.out))):w.heap.size≤gb4026));have NB4005_4026:=Za ((by rw[hg];exact Nat.ne_of_lt (ZL (g:=gb4005) (o:=.cells #[.int .i64 t4001,.slice Ao11 t4002.length co11] 31 (0,0)) (by(with_reducible repeat(first|refine Zn ?_ _|refine Zp ?_|refine Zm ?_ _));exact BK4005.out)):gb4005≠gb4026));have NB4026_4005:=Za ((by rw[hg];exact Nat.ne_of_gt (ZL (g:=gb4005) (o:=.cells #[.int .i64 t4001,.slice Ao11 t4002.length co11] 31 (0,0)) (by(with_reducible repeat(first|refine Zn ?_ _|refine Zp ?_|refine Zm ?_ _));exact BK4005.out)):gb4026≠gb4005));have NB4010_4026:=Za ((by rw[hg];exact Nat.ne_of_lt (ZL (g:=gb4010) (o:=.cells #[.int .i64 t4007,.int .i64 t4008] 35 (0,0)) (by(with_reducible repeat(first|refine Zn ?_ _|refine Zp ?_|refine Zm ?_ _));exact BK4010.out)):gb4010≠gb4026));have NB4026_4010:=Za ((by rw[hg];exact Nat.ne_of_gt (ZL (g:=gb4010) (o:=.cells #[.int .i64 t4007,.int .i64 t4008] 35 (0,0)) (by(with_reducible repeat(first|refine Zn ?_ _|refine Zp ?_|refine Zm ?_ _));exact BK4010.out)):gb4026≠gb4010));replace HO_8:=Za (Kd.R_below (by(with_reducible repeat(first|apply Kd.R_alloc|apply Kd.R_drewN|apply Kd.R_drew));exact HO_8.out) hb);replace HO_4006001:=Za (Kd.R_below (by(with_reducible repeat(first|apply Kd.R_alloc|apply Kd.R_drewN|apply Kd.R_drew));exact HO_4006001.out) hb);replace HO4024:=Za (Kd.R_below (by(with_reducible repeat(first|apply Kd.R_alloc|apply Kd.R_drewN|apply Kd.R_drew));exact HO4024.out) hb);replace BK4005:=Za (Zx (g:=gb4005) (o:=.cells #[.int .i64 t4001,.slice Ao11 t4002.length co11] 31 (0,0)) (by(with_reducible repeat(first|refine Zn ?_ _|refine Zp ?_|refine Zm ?_ _));exact BK4005.out) hb);replace BK4010:=Za (Zx (g:=gb4010) (o:=.cells #[.int .i64 t4007,.int .i64 t4008] 35 (0,0)) (by(with_reducible repeat(first|refine Zn ?_ _|refine Zp ?_|refine Zm ?_ _));exact BK4010.out) hb);replace HB:=Za (Zw (by repeat(first|(with_reducible first|exact HB.out|apply Zq|apply Zl|apply Zr|refine Zo ?_ GE4005.out|refine Zo ?_ GE4010.out)|exact HB.out)) hb);clear hb hbox hg;have hnb53:=NB4026_4005.out;have hnc53:=NB4005_4026.out;have hnb54:=NB4026_4010.out;have hnc54:=NB4010_4026.out;have hcz55_0:w52.cell? ⟨gb4026,0,none⟩=some (.int .i64 0):=(Zt BK4026.out 0).trans rfl;have hcz55_1:w52.cell? ⟨gb4026,1,none⟩=some (.slice none 0 0):=(Zt BK4026.out 1).trans rfl;have hfz55_0:=Zu BK4026.out 0;have hfz55_1:=Zu BK4026.out 1;obtain⟨Ao56,co56,eo56⟩:=Kd.R_slice HO4024.out;subst eo56))
                 have n0_:Aside0 (Kd.R (Kd.int .i64) 3 ((w52.setCell ⟨gb4026,0,none⟩ (.int .i64 t4021)).setCell ⟨gb4026,1,none⟩ (.slice Ao56 t4022.length co56)) w.heap.size (fun _=>True) (.slice (some ⟨go29,0,none⟩) x8_2.length co29) y4020):=⟨by(with_reducible repeat(first|apply Kd.R_alloc|apply Kd.R_drewN|apply Kd.R_drew));exact Kd.R_mono (Kd.R_far (p:=⟨gb4026,1,none⟩) (Kd.R_far (p:=⟨gb4026,0,none⟩) (Kd.R_types HO_8.out BK4026.out (by decide)) (fun _ hk=>hk.2) (.int .i64 t4021)) (fun _ hk=>hk.2) (.slice Ao56 t4022.length co56)) (fun _ hk=>trivial)⟩
                 have n1_:Aside0 (Kd.R k84 84 ((w52.setCell ⟨gb4026,0,none⟩ (.int .i64 t4021)).setCell ⟨gb4026,1,none⟩ (.slice Ao56 t4022.length co56)) w.heap.size (fun k_=>some k_≠(.slice Ao56 t4022.length co56:Value).ownBlock) (.slice Ao11 t4002.length co11) t4002):=⟨by(with_reducible repeat(first|apply Kd.R_alloc|apply Kd.R_drewN|apply Kd.R_drew));exact Kd.R_mono (Kd.R_far (p:=⟨gb4026,1,none⟩) (Kd.R_far (p:=⟨gb4026,0,none⟩) (Kd.R_types HO_4006001.out BK4026.out (by decide)) (fun _ hk=>hk.2) (.int .i64 t4021)) (fun _ hk=>hk.2) (.slice Ao56 t4022.length co56)) (fun _ hk=>hk.1.2)⟩
                 have n2_:Aside0 (Kd.R k84 84 ((w52.setCell ⟨gb4026,0,none⟩ (.int .i64 t4021)).setCell ⟨gb4026,1,none⟩ (.slice Ao56 t4022.length co56)) w.heap.size (fun k_=>some k_≠(.slice Ao11 t4002.length co11:Value).ownBlock) (.slice Ao56 t4022.length co56) t4022):=⟨by(with_reducible repeat(first|apply Kd.R_alloc|apply Kd.R_drewN|apply Kd.R_drew));exact Kd.R_mono (Kd.R_far (p:=⟨gb4026,1,none⟩) (Kd.R_far (p:=⟨gb4026,0,none⟩) (Kd.R_types HO4024.out BK4026.out (by decide)) (fun _ hk=>hk.2) (.int .i64 t4021)) (fun _ hk=>hk.2) (.slice Ao56 t4022.length co56)) (fun _ hk=>hk.1.2)⟩
                 have n3_:Aside0 (((w52.setCell ⟨gb4026,0,none⟩ (.int .i64 t4021)).setCell ⟨gb4026,1,none⟩ (.slice Ao56 t4022.length co56)).heap[gb4005]? = some (.cells #[.int .i64 t4001,.slice Ao11 t4002.length co11] 31 (0,0))):=⟨by(with_reducible repeat(first|refine Zn ?_ _|refine Zp ?_|refine Zm ?_ _));refine ZE ?_ NB4005_4026.out _;(with_reducible repeat(first|refine Zn ?_ _|refine Zp ?_|refine Zm ?_ _));refine ZE ?_ NB4005_4026.out _;(with_reducible repeat(first|refine Zn ?_ _|refine Zp ?_|refine Zm ?_ _));exact BK4005.out⟩
                 have n4_:Aside0 (((w52.setCell ⟨gb4026,0,none⟩ (.int .i64 t4021)).setCell ⟨gb4026,1,none⟩ (.slice Ao56 t4022.length co56)).heap[gb4010]? = some (.cells #[.int .i64 t4007,.int .i64 t4008] 35 (0,0))):=⟨by(with_reducible repeat(first|refine Zn ?_ _|refine Zp ?_|refine Zm ?_ _));refine ZE ?_ NB4010_4026.out _;(with_reducible repeat(first|refine Zn ?_ _|refine Zp ?_|refine Zm ?_ _));refine ZE ?_ NB4010_4026.out _;(with_reducible repeat(first|refine Zn ?_ _|refine Zp ?_|refine Zm ?_ _));exact BK4010.out⟩
                 have n5_:Aside0 (((w52.setCell ⟨gb4026,0,none⟩ (.int .i64 t4021)).setCell ⟨gb4026,1,none⟩ (.slice Ao56 t4022.length co56)).heap[gb4026]? = some (.cells #[.int .i64 t4021,.slice Ao56 t4022.length co56] 31 (0,0))):=⟨by(with_reducible repeat(first|refine Zn ?_ _|refine Zp ?_|refine Zm ?_ _));refine ZJ (cs:=#[.int .i64 t4021,.slice none 0 0]) ?_ 1 _ rfl;(with_reducible repeat(first|refine Zn ?_ _|refine Zp ?_|refine Zm ?_ _));refine ZJ (cs:=#[.int .i64 0,.slice none 0 0]) ?_ 0 _ rfl;(with_reducible repeat(first|refine Zn ?_ _|refine Zp ?_|refine Zm ?_ _));exact BK4026.out⟩
                 have n6_:Aside0 (Below w.heap.size w ((w52.setCell ⟨gb4026,0,none⟩ (.int .i64 t4021)).setCell ⟨gb4026,1,none⟩ (.slice Ao56 t4022.length co56))):=⟨by repeat(first|(with_reducible first|exact HB.out|apply Zq|apply Zl|apply Zr|refine Zo ?_ GE4005.out|refine Zo ?_ GE4010.out|refine Zo ?_ GE4026.out)|exact HB.out)⟩
                 (try clear HO_8)
                 (try clear HO_4006001)
                 (try clear HO4024)
                 (try clear BK4005)
                 (try clear BK4010)
                 (try clear BK4026)
                 (try clear HB)
                 generalize ((w52.setCell ⟨gb4026,0,none⟩ (.int .i64 t4021)).setCell ⟨gb4026,1,none⟩ (.slice Ao56 t4022.length co56))=w57 at n0_ n1_ n2_ n3_ n4_ n5_ n6_ ⊢
                 have HO_8:=n0_;have HO_4006001:=n1_;have HO4024:=n2_;have BK4005:=n3_;have BK4010:=n4_;have BK4026:=n5_;have HB:=n6_;clear n0_ n1_ n2_ n3_ n4_ n5_ n6_
                 replace HO_8:=Za (Kd.R_drew HO_8.out);replace HO_4006001:=Za (Kd.R_drew HO_4006001.out);replace HO4024:=Za (Kd.R_drew HO4024.out);replace BK4005:=Za (Zp BK4005.out);replace BK4010:=Za (Zp BK4010.out);replace BK4026:=Za (Zp BK4026.out);replace HB:=Za (Zr HB.out)
                 refine Zbl (n:=27) (S:=fun w'=>w'.cell? ⟨gb4005,0,none⟩=some (.int .i64 t4001)∧w'.cell? ⟨gb4005,1,none⟩=some (.slice Ao11 t4002.length co11)∧w'.cell? ⟨gb4010,0,none⟩=some (.int .i64 t4007)∧w'.cell? ⟨gb4010,1,none⟩=some (.int .i64 t4008)∧w'.cell? ⟨gb4026,0,none⟩=some (.int .i64 t4021)∧w'.cell? ⟨gb4026,1,none⟩=some (.slice Ao56 t4022.length co56)) (ds:=[]) #[false,false,false,false,false,false,false,false,false,false,false,false,false,false,false,false,false,false,false,false,false,false,false,false,false,false,false] (by kernel_rfl) rfl rfl ⟨(Zt BK4005.out 0).trans rfl,(Zt BK4005.out 1).trans rfl,(Zt BK4010.out 0).trans rfl,(Zt BK4010.out 1).trans rfl,(Zt BK4026.out 0).trans rfl,(Zt BK4026.out 1).trans rfl⟩ (fun hHeld=>?_);refine Za7 laws_FnWindows.tab19 laws_FnWindows.bits19 (fun HT_ HW_=>?_)
                 generalize w57.drew=w58 at HO_8 HO_4006001 HO4024 BK4005 BK4010 BK4026 HB hHeld ⊢
                 refine Z1 (i:=0) (N:=some 65) (v:=?_) (a':=?_) #[true,false,false,false,false,false,false,false,false,false,false,false,false,false,false,false,false,false,false,false,false,false,false,false,false,false,false] rfl rfl (ZW HT_.out (by kernel_rfl)) (fun _ _ _ h=>h) (Or.inl ⟨by rfl,?_⟩) ?_ ?_
                 rotate_left
                 ·intro w'
                  go_simp
                  with_reducible rfl
                 rotate_left
                 ·simp only[Act.put,List.setIfInBounds_toArray,List.set_cons_zero,List.set_cons_succ,ZH,ZI]
                  rfl
                 refine Z1 (i:=1) (N:=some 66) (v:=?_) (a':=?_) #[true,true,false,false,false,false,false,false,false,false,false,false,false,false,false,false,false,false,false,false,false,false,false,false,false,false,false] rfl rfl (ZW HT_.out (by kernel_rfl)) (fun _ _ _ h=>h) (Or.inl ⟨by rfl,?_⟩) ?_ ?_
                 rotate_left
                 ·intro w'
                  go_simp
                  with_reducible rfl
                 rotate_left
                 ·simp only[Act.put,List.setIfInBounds_toArray,List.set_cons_zero,List.set_cons_succ,ZH,ZI]
                  rfl
                 refine Z1 (i:=2) (N:=some 67) (v:=?_) (a':=?_) #[true,true,true,false,false,false,false,false,false,false,false,false,false,false,false,false,false,false,false,false,false,false,false,false,false,false,false] rfl rfl (ZW HT_.out (by kernel_rfl)) (fun _ _ _ h=>h) (Or.inl ⟨by rfl,?_⟩) ?_ ?_
                 rotate_left
                 ·intro w'
                  go_simp
                  with_reducible rfl
                 rotate_left
                 ·simp only[Act.put,List.setIfInBounds_toArray,List.set_cons_zero,List.set_cons_succ,ZH,ZI]
                  rfl
                 refine Z1 (i:=4) (N:=some 69) (v:=?_) (a':=?_) #[true,true,true,false,true,false,false,false,false,false,false,false,false,false,false,false,false,false,false,false,false,false,false,false,false,false,false] rfl rfl (ZW HT_.out (by kernel_rfl)) (fun _ _ _ h=>h) (Or.inl ⟨by rfl,?_⟩) ?_ ?_
                 rotate_left
                 ·intro w'
                  go_simp
                  with_reducible rfl
                 rotate_left
                 ·simp only[Act.put,List.setIfInBounds_toArray,List.set_cons_zero,List.set_cons_succ,ZH,ZI]
                  rfl
                 refine Z1 (i:=7) (N:=some 72) (v:=?_) (a':=?_) #[true,true,true,false,true,false,false,true,false,false,false,false,false,false,false,false,false,false,false,false,false,false,false,false,false,false,false] rfl rfl (ZW HT_.out (by kernel_rfl)) (fun _ _ _ h=>h) (Or.inl ⟨by rfl,?_⟩) ?_ ?_
                 rotate_left
                 ·intro w'
                  go_simp
                  with_reducible rfl
                 rotate_left
                 ·simp only[Act.put,List.setIfInBounds_toArray,List.set_cons_zero,List.set_cons_succ,ZH,ZI]
                  rfl
                 refine take_ (i:=3) (N:=some 68) (v:=?_) (a':=?_) #[true,true,true,true,true,false,false,true,false,false,false,false,false,false,false,false,false,false,false,false,false,false,false,false,false,false,false] rfl rfl (ZaG HT_.out HW_.out (by kernel_rfl)) (fun _ _ _ h=>h) (Or.inl ⟨by rfl,?_⟩) hHeld ?_ ?_
                 rotate_left
                 ·rintro w' ⟨s0,s1,s2,s3,s4,s5⟩
                  go_simp
                  with_reducible rfl
                 rotate_left
                 ·simp only[Act.put,List.setIfInBounds_toArray,List.set_cons_zero,List.set_cons_succ,ZH,ZI]
                  rfl
                 refine take_ (i:=6) (N:=some 71) (v:=?_) (a':=?_) #[true,true,true,true,true,false,true,true,false,false,false,false,false,false,false,false,false,false,false,false,false,false,false,false,false,false,false] rfl rfl (ZaG HT_.out HW_.out (by kernel_rfl)) (fun _ _ _ h=>h) (Or.inl ⟨by rfl,?_⟩) hHeld ?_ ?_
                 rotate_left
                 ·rintro w' ⟨s0,s1,s2,s3,s4,s5⟩
                  go_simp
                  with_reducible rfl
                 rotate_left
                 ·simp only[Act.put,List.setIfInBounds_toArray,List.set_cons_zero,List.set_cons_succ,ZH,ZI]
                  rfl
                 refine one_ (i:=5) (N:=some 70) #[true,true,true,true,true,true,true,true,false,false,false,false,false,false,false,false,false,false,false,false,false,false,false,false,false,false,false] rfl rfl (Zas HT_.out (by kernel_rfl)) (by decide) (fun K hK=>?_)
                 refine ZaT Try.func19 (by kernel_rfl) rfl #[.agg #[.int .i64 t4001,.slice Ao11 t4002.length co11],.slice (some ⟨go29,0,none⟩) y4020.length co29] (by rfl) rfl rfl (by(try simp only[List.map_toArray,List.map_cons,List.map_nil]);first|done|(rw[show y4020.length=x8_2.length from(Kd.R_reads' HO_8.out).1.symm] <;> rfl)|rfl|(simp only[Zj,Zi];rfl)) ?_
                 with_reducible refine(ZaF.calls k2 t4001 _ _ t4002 _ _ y4020 t4027 _ ?side1 ?side2 ?side3 ?side4 A36.out).mono ?_
                 (case side1=>repeat(first|exact(Kd.R_reads' HO_4006001.out).2.2|(with_reducible refine Kd.C_alloc ?_ _)|(with_reducible refine Kd.C_drewN ?_ _)|(with_reducible refine Kd.C_drew ?_)))
                 (case side2=>exact(Kd.R_reads' HO_4006001.out).2.1)
                 (case side3=>repeat(first|exact(Kd.R_reads' HO_8.out).2.2|(with_reducible refine Kd.C_alloc ?_ _)|(with_reducible refine Kd.C_drewN ?_ _)|(with_reducible refine Kd.C_drew ?_)))
                 (case side4=>rw[show y4020.length=x8_2.length from(Kd.R_reads' HO_8.out).1.symm];exact(Kd.R_reads' HO_8.out).2.1)
                 rintro e w59 ⟨rfl,hb⟩
                 refine⟨_,rfl,?_⟩
                 replace HO_8:=Za (Kd.R_below (by(with_reducible repeat(first|apply Kd.R_alloc|apply Kd.R_drewN|apply Kd.R_drew));exact HO_8.out) hb);replace HO_4006001:=Za (Kd.R_below (by(with_reducible repeat(first|apply Kd.R_alloc|apply Kd.R_drewN|apply Kd.R_drew));exact HO_4006001.out) hb);replace HO4024:=Za (Kd.R_below (by(with_reducible repeat(first|apply Kd.R_alloc|apply Kd.R_drewN|apply Kd.R_drew));exact HO4024.out) hb);replace BK4005:=Za (Zx (g:=gb4005) (o:=.cells #[.int .i64 t4001,.slice Ao11 t4002.length co11] 31 (0,0)) (by(with_reducible repeat(first|refine Zn ?_ _|refine Zp ?_|refine Zm ?_ _));exact BK4005.out) hb);replace BK4010:=Za (Zx (g:=gb4010) (o:=.cells #[.int .i64 t4007,.int .i64 t4008] 35 (0,0)) (by(with_reducible repeat(first|refine Zn ?_ _|refine Zp ?_|refine Zm ?_ _));exact BK4010.out) hb);replace BK4026:=Za (Zx (g:=gb4026) (o:=.cells #[.int .i64 t4021,.slice Ao56 t4022.length co56] 31 (0,0)) (by(with_reducible repeat(first|refine Zn ?_ _|refine Zp ?_|refine Zm ?_ _));exact BK4026.out) hb);replace HB:=Za (Zw (by repeat(first|(with_reducible first|exact HB.out|apply Zq|apply Zl|apply Zr|refine Zo ?_ GE4005.out|refine Zo ?_ GE4010.out|refine Zo ?_ GE4026.out)|exact HB.out)) hb)
                 (try clear hb)
                 (try clear hb2)
                 (try clear hk)
                 (try clear hi)
                 refine hK.out _ _ ⟨(Zt BK4005.out 0).trans rfl,(Zt BK4005.out 1).trans rfl,(Zt BK4010.out 0).trans rfl,(Zt BK4010.out 1).trans rfl,(Zt BK4026.out 0).trans rfl,(Zt BK4026.out 1).trans rfl⟩ (fun hHeld=>?_)
                 clear hK K
                 refine Zae (a':=?_) ?_ ?_
                 rotate_left
                 ·show Act.put _ (some 70) _=_
                  simp only[Act.put,List.setIfInBounds_toArray,List.set_cons_zero,List.set_cons_succ,ZH,ZI]
                  rfl
                 refine one_ (i:=8) (N:=some 73) #[true,true,true,true,true,true,true,true,true,false,false,false,false,false,false,false,false,false,false,false,false,false,false,false,false,false,false] rfl rfl (Zas HT_.out (by kernel_rfl)) (by decide) (fun K hK=>?_)
                 refine ZaT Try.func20 (by kernel_rfl) rfl #[.agg #[.int .i64 t4007,.int .i64 t4008],.int .i64 x7_1] (by rfl) rfl rfl (by(try simp only[List.map_toArray,List.map_cons,List.map_nil]);first|done|rfl|(simp only[Zj,Zi];rfl)) ?_
                 with_reducible refine(Z8.calls t4007 t4008 x7_1 t4028 _ A37.out).mono ?_
                 rintro e w60 ⟨rfl,hb⟩
                 refine⟨_,rfl,?_⟩
                 replace HO_8:=Za (Kd.R_below (by(with_reducible repeat(first|apply Kd.R_alloc|apply Kd.R_drewN|apply Kd.R_drew));exact HO_8.out) hb);replace HO_4006001:=Za (Kd.R_below (by(with_reducible repeat(first|apply Kd.R_alloc|apply Kd.R_drewN|apply Kd.R_drew));exact HO_4006001.out) hb);replace HO4024:=Za (Kd.R_below (by(with_reducible repeat(first|apply Kd.R_alloc|apply Kd.R_drewN|apply Kd.R_drew));exact HO4024.out) hb);replace BK4005:=Za (Zx (g:=gb4005) (o:=.cells #[.int .i64 t4001,.slice Ao11 t4002.length co11] 31 (0,0)) (by(with_reducible repeat(first|refine Zn ?_ _|refine Zp ?_|refine Zm ?_ _));exact BK4005.out) hb);replace BK4010:=Za (Zx (g:=gb4010) (o:=.cells #[.int .i64 t4007,.int .i64 t4008] 35 (0,0)) (by(with_reducible repeat(first|refine Zn ?_ _|refine Zp ?_|refine Zm ?_ _));exact BK4010.out) hb);replace BK4026:=Za (Zx (g:=gb4026) (o:=.cells #[.int .i64 t4021,.slice Ao56 t4022.length co56] 31 (0,0)) (by(with_reducible repeat(first|refine Zn ?_ _|refine Zp ?_|refine Zm ?_ _));exact BK4026.out) hb);replace HB:=Za (Zw (by repeat(first|(with_reducible first|exact HB.out|apply Zq|apply Zl|apply Zr|refine Zo ?_ GE4005.out|refine Zo ?_ GE4010.out|refine Zo ?_ GE4026.out)|exact HB.out)) hb)
                 (try clear hb)
                 (try clear hb2)
                 (try clear hk)
                 (try clear hi)
                 refine hK.out _ _ ⟨(Zt BK4005.out 0).trans rfl,(Zt BK4005.out 1).trans rfl,(Zt BK4010.out 0).trans rfl,(Zt BK4010.out 1).trans rfl,(Zt BK4026.out 0).trans rfl,(Zt BK4026.out 1).trans rfl⟩ (fun hHeld=>?_)
                 clear hK K
                 refine Zae (a':=?_) ?_ ?_
                 rotate_left
                 ·show Act.put _ (some 73) _=_
                  simp only[Act.put,List.setIfInBounds_toArray,List.set_cons_zero,List.set_cons_succ,ZH,ZI]
                  rfl
                 refine Z1 (i:=9) (N:=some 74) (v:=?_) (a':=?_) #[true,true,true,true,true,true,true,true,true,true,false,false,false,false,false,false,false,false,false,false,false,false,false,false,false,false,false] rfl rfl (ZW HT_.out (by kernel_rfl)) (fun _ _ _ h=>h) (Or.inl ⟨by rfl,?_⟩) ?_ ?_
                 rotate_left
                 ·intro w'
                  go_simp
                  with_reducible rfl
                 rotate_left
                 ·simp only[Act.put,List.setIfInBounds_toArray,List.set_cons_zero,List.set_cons_succ,ZH,ZI]
                  rfl
                 refine Z1 (i:=10) (N:=some 75) (v:=?_) (a':=?_) #[true,true,true,true,true,true,true,true,true,true,true,false,false,false,false,false,false,false,false,false,false,false,false,false,false,false,false] rfl rfl (ZW HT_.out (by kernel_rfl)) (fun _ _ _ h=>h) (Or.inl ⟨by rfl,?_⟩) ?_ ?_
                 rotate_left
                 ·intro w'
                  go_simp
                  with_reducible rfl
                 rotate_left
                 ·simp only[Act.put,List.setIfInBounds_toArray,List.set_cons_zero,List.set_cons_succ,ZH,ZI]
                  rfl
                 refine Z1 (i:=11) (N:=some 76) (v:=?_) (a':=?_) #[true,true,true,true,true,true,true,true,true,true,true,true,false,false,false,false,false,false,false,false,false,false,false,false,false,false,false] rfl rfl (ZW HT_.out (by kernel_rfl)) (fun _ _ _ h=>h) (Or.inl ⟨by rfl,?_⟩) ?_ ?_
                 rotate_left
                 ·intro w'
                  go_simp
                  with_reducible rfl
                 rotate_left
                 ·simp only[Act.put,List.setIfInBounds_toArray,List.set_cons_zero,List.set_cons_succ,ZH,ZI]
                  rfl
                 refine Z1 (i:=15) (N:=some 80) (v:=?_) (a':=?_) #[true,true,true,true,true,true,true,true,true,true,true,true,false,false,false,true,false,false,false,false,false,false,false,false,false,false,false] rfl rfl (ZW HT_.out (by kernel_rfl)) (fun _ _ _ h=>h) (Or.inl ⟨by rfl,?_⟩) ?_ ?_
                 rotate_left
                 ·intro w'
                  go_simp
                  with_reducible rfl
                 rotate_left
                 ·simp only[Act.put,List.setIfInBounds_toArray,List.set_cons_zero,List.set_cons_succ,ZH,ZI]
                  rfl
                 refine take_ (i:=12) (N:=some 77) (v:=?_) (a':=?_) #[true,true,true,true,true,true,true,true,true,true,true,true,true,false,false,true,false,false,false,false,false,false,false,false,false,false,false] rfl rfl (ZaG HT_.out HW_.out (by kernel_rfl)) (fun _ _ _ h=>h) (Or.inl ⟨by rfl,?_⟩) hHeld ?_ ?_
                 rotate_left
                 ·rintro w' ⟨s0,s1,s2,s3,s4,s5⟩
                  go_simp
                  with_reducible rfl
                 rotate_left
                 ·simp only[Act.put,List.setIfInBounds_toArray,List.set_cons_zero,List.set_cons_succ,ZH,ZI]
                  rfl
                 refine take_ (i:=14) (N:=some 79) (v:=?_) (a':=?_) #[true,true,true,true,true,true,true,true,true,true,true,true,true,false,true,true,false,false,false,false,false,false,false,false,false,false,false] rfl rfl (ZaG HT_.out HW_.out (by kernel_rfl)) (fun _ _ _ h=>h) (Or.inl ⟨by rfl,?_⟩) hHeld ?_ ?_
                 rotate_left
                 ·rintro w' ⟨s0,s1,s2,s3,s4,s5⟩
                  go_simp
                  with_reducible rfl
                 rotate_left
                 ·simp only[Act.put,List.setIfInBounds_toArray,List.set_cons_zero,List.set_cons_succ,ZH,ZI]
                  rfl
                 refine one_ (i:=13) (N:=some 78) #[true,true,true,true,true,true,true,true,true,true,true,true,true,true,true,true,false,false,false,false,false,false,false,false,false,false,false] rfl rfl (Zas HT_.out (by kernel_rfl)) (by decide) (fun K hK=>?_)
                 refine ZaT Try.func16 (by kernel_rfl) rfl #[.agg #[.int .i64 t4021,.slice Ao56 t4022.length co56]] (by rfl) rfl rfl (by(try simp only[List.map_toArray,List.map_cons,List.map_nil]);first|done|rfl|(simp only[Zj,Zi];rfl)) ?_
                 with_reducible refine(ZX.calls k2 t4021 _ _ t4022 t4029 _ ?side1 ?side2 A39.out).mono ?_
                 (case side1=>repeat(first|exact(Kd.R_reads' HO4024.out).2.2|(with_reducible refine Kd.C_alloc ?_ _)|(with_reducible refine Kd.C_drewN ?_ _)|(with_reducible refine Kd.C_drew ?_)))
                 (case side2=>exact(Kd.R_reads' HO4024.out).2.1)
                 rintro e w61 ⟨rfl,hb⟩
                 refine⟨_,rfl,?_⟩
                 replace HO_8:=Za (Kd.R_below (by(with_reducible repeat(first|apply Kd.R_alloc|apply Kd.R_drewN|apply Kd.R_drew));exact HO_8.out) hb);replace HO_4006001:=Za (Kd.R_below (by(with_reducible repeat(first|apply Kd.R_alloc|apply Kd.R_drewN|apply Kd.R_drew));exact HO_4006001.out) hb);replace HO4024:=Za (Kd.R_below (by(with_reducible repeat(first|apply Kd.R_alloc|apply Kd.R_drewN|apply Kd.R_drew));exact HO4024.out) hb);replace BK4005:=Za (Zx (g:=gb4005) (o:=.cells #[.int .i64 t4001,.slice Ao11 t4002.length co11] 31 (0,0)) (by(with_reducible repeat(first|refine Zn ?_ _|refine Zp ?_|refine Zm ?_ _));exact BK4005.out) hb);replace BK4010:=Za (Zx (g:=gb4010) (o:=.cells #[.int .i64 t4007,.int .i64 t4008] 35 (0,0)) (by(with_reducible repeat(first|refine Zn ?_ _|refine Zp ?_|refine Zm ?_ _));exact BK4010.out) hb);replace BK4026:=Za (Zx (g:=gb4026) (o:=.cells #[.int .i64 t4021,.slice Ao56 t4022.length co56] 31 (0,0)) (by(with_reducible repeat(first|refine Zn ?_ _|refine Zp ?_|refine Zm ?_ _));exact BK4026.out) hb);replace HB:=Za (Zw (by repeat(first|(with_reducible first|exact HB.out|apply Zq|apply Zl|apply Zr|refine Zo ?_ GE4005.out|refine Zo ?_ GE4010.out|refine Zo ?_ GE4026.out)|exact HB.out)) hb)
                 (try clear hb)
                 (try clear hb2)
                 (try clear hk)
                 (try clear hi)
                 refine hK.out _ _ ⟨(Zt BK4005.out 0).trans rfl,(Zt BK4005.out 1).trans rfl,(Zt BK4010.out 0).trans rfl,(Zt BK4010.out 1).trans rfl,(Zt BK4026.out 0).trans rfl,(Zt BK4026.out 1).trans rfl⟩ (fun hHeld=>?_)
                 clear hK K
                 refine Zae (a':=?_) ?_ ?_
                 rotate_left
                 ·show Act.put _ (some 78) _=_
                  simp only[Act.put,List.setIfInBounds_toArray,List.set_cons_zero,List.set_cons_succ,ZH,ZI]
                  rfl
                 refine one_ (i:=16) (N:=some 81) #[true,true,true,true,true,true,true,true,true,true,true,true,true,true,true,true,true,false,false,false,false,false,false,false,false,false,false] rfl rfl (Zas HT_.out (by kernel_rfl)) (by decide) (fun K hK=>?_)
                 refine ZaT Try.func20 (by kernel_rfl) rfl #[.agg #[.int .i64 t4007,.int .i64 t4008],.int .i64 x7_1] (by rfl) rfl rfl (by(try simp only[List.map_toArray,List.map_cons,List.map_nil]);first|done|rfl|(simp only[Zj,Zi];rfl)) ?_
                 with_reducible refine(Z8.calls t4007 t4008 x7_1 t4030 _ A40.out).mono ?_
                 rintro e w62 ⟨rfl,hb⟩
                 refine⟨_,rfl,?_⟩
                 replace HO_8:=Za (Kd.R_below (by(with_reducible repeat(first|apply Kd.R_alloc|apply Kd.R_drewN|apply Kd.R_drew));exact HO_8.out) hb);replace HO_4006001:=Za (Kd.R_below (by(with_reducible repeat(first|apply Kd.R_alloc|apply Kd.R_drewN|apply Kd.R_drew));exact HO_4006001.out) hb);replace HO4024:=Za (Kd.R_below (by(with_reducible repeat(first|apply Kd.R_alloc|apply Kd.R_drewN|apply Kd.R_drew));exact HO4024.out) hb);replace BK4005:=Za (Zx (g:=gb4005) (o:=.cells #[.int .i64 t4001,.slice Ao11 t4002.length co11] 31 (0,0)) (by(with_reducible repeat(first|refine Zn ?_ _|refine Zp ?_|refine Zm ?_ _));exact BK4005.out) hb);replace BK4010:=Za (Zx (g:=gb4010) (o:=.cells #[.int .i64 t4007,.int .i64 t4008] 35 (0,0)) (by(with_reducible repeat(first|refine Zn ?_ _|refine Zp ?_|refine Zm ?_ _));exact BK4010.out) hb);replace BK4026:=Za (Zx (g:=gb4026) (o:=.cells #[.int .i64 t4021,.slice Ao56 t4022.length co56] 31 (0,0)) (by(with_reducible repeat(first|refine Zn ?_ _|refine Zp ?_|refine Zm ?_ _));exact BK4026.out) hb);replace HB:=Za (Zw (by repeat(first|(with_reducible first|exact HB.out|apply Zq|apply Zl|apply Zr|refine Zo ?_ GE4005.out|refine Zo ?_ GE4010.out|refine Zo ?_ GE4026.out)|exact HB.out)) hb)
                 (try clear hb)
                 (try clear hb2)
                 (try clear hk)
                 (try clear hi)
                 refine hK.out _ _ ⟨(Zt BK4005.out 0).trans rfl,(Zt BK4005.out 1).trans rfl,(Zt BK4010.out 0).trans rfl,(Zt BK4010.out 1).trans rfl,(Zt BK4026.out 0).trans rfl,(Zt BK4026.out 1).trans rfl⟩ (fun hHeld=>?_)
                 clear hK K
                 refine Zae (a':=?_) ?_ ?_
                 rotate_left
                 ·show Act.put _ (some 81) _=_
                  simp only[Act.put,List.setIfInBounds_toArray,List.set_cons_zero,List.set_cons_succ,ZH,ZI]
                  rfl
                 refine Z1 (i:=17) (N:=some 82) (v:=?_) (a':=?_) #[true,true,true,true,true,true,true,true,true,true,true,true,true,true,true,true,true,true,false,false,false,false,false,false,false,false,false] rfl rfl (ZW HT_.out (by kernel_rfl)) (fun _ _ _ h=>h) (Or.inl ⟨by rfl,?_⟩) ?_ ?_
                 rotate_left
                 ·intro w'
                  go_simp
                  with_reducible rfl
                 rotate_left
                 ·simp only[Act.put,List.setIfInBounds_toArray,List.set_cons_zero,List.set_cons_succ,ZH,ZI]
                  rfl
                 refine Z1 (i:=18) (N:=some 83) (v:=?_) (a':=?_) #[true,true,true,true,true,true,true,true,true,true,true,true,true,true,true,true,true,true,true,false,false,false,false,false,false,false,false] rfl rfl (ZW HT_.out (by kernel_rfl)) (fun _ _ _ h=>h) (Or.inl ⟨by rfl,?_⟩) ?_ ?_
                 rotate_left
                 ·intro w'
                  go_simp
                  with_reducible rfl
                 rotate_left
                 ·simp only[Act.put,List.setIfInBounds_toArray,List.set_cons_zero,List.set_cons_succ,ZH,ZI]
                  rfl
                 refine Z1 (i:=19) (N:=some 84) (v:=?_) (a':=?_) #[true,true,true,true,true,true,true,true,true,true,true,true,true,true,true,true,true,true,true,true,false,false,false,false,false,false,false] rfl rfl (ZW HT_.out (by kernel_rfl)) (fun _ _ _ h=>h) (Or.inl ⟨by rfl,?_⟩) ?_ ?_
                 rotate_left
                 ·intro w'
                  go_simp
                  with_reducible rfl
                 rotate_left
                 ·simp only[Act.put,List.setIfInBounds_toArray,List.set_cons_zero,List.set_cons_succ,ZH,ZI]
                  rfl
                 refine Z1 (i:=20) (N:=some 85) (v:=?_) (a':=?_) #[true,true,true,true,true,true,true,true,true,true,true,true,true,true,true,true,true,true,true,true,true,false,false,false,false,false,false] rfl rfl (ZW HT_.out (by kernel_rfl)) (fun _ _ _ h=>h) (Or.inl ⟨by rfl,?_⟩) ?_ ?_
                 rotate_left
                 ·intro w'
                  go_simp
                  with_reducible rfl
                 rotate_left
                 ·simp only[Act.put,List.setIfInBounds_toArray,List.set_cons_zero,List.set_cons_succ,ZH,ZI]
                  rfl
                 refine Z1 (i:=22) (N:=some 87) (v:=?_) (a':=?_) #[true,true,true,true,true,true,true,true,true,true,true,true,true,true,true,true,true,true,true,true,true,false,true,false,false,false,false] rfl rfl (ZW HT_.out (by kernel_rfl)) (fun _ _ _ h=>h) (Or.inl ⟨by rfl,?_⟩) ?_ ?_
                 rotate_left
                 ·intro w'
                  go_simp
                  with_reducible rfl
                 rotate_left
                 ·simp only[Act.put,List.setIfInBounds_toArray,List.set_cons_zero,List.set_cons_succ,ZH,ZI]
                  rfl
                 refine take_ (i:=23) (N:=some 88) (v:=?_) (a':=?_) #[true,true,true,true,true,true,true,true,true,true,true,true,true,true,true,true,true,true,true,true,true,false,true,true,false,false,false] rfl rfl (ZaG HT_.out HW_.out (by kernel_rfl)) (fun _ _ _ h=>h) (Or.inl ⟨by rfl,?_⟩) hHeld ?_ ?_
                 rotate_left
                 ·rintro w' ⟨s0,s1,s2,s3,s4,s5⟩
                  go_simp
                  with_reducible rfl
                 rotate_left
                 ·simp only[Act.put,List.setIfInBounds_toArray,List.set_cons_zero,List.set_cons_succ,ZH,ZI]
                  rfl
                 refine Z1 (i:=24) (N:=some 89) (v:=?_) (a':=?_) #[true,true,true,true,true,true,true,true,true,true,true,true,true,true,true,true,true,true,true,true,true,false,true,true,true,false,false] rfl rfl (ZW HT_.out (by kernel_rfl)) (fun _ _ _ h=>h) (Or.inl ⟨by rfl,?_⟩) ?_ ?_
                 rotate_left
                 ·intro w'
                  go_simp
                  with_reducible rfl
                 rotate_left
                 ·simp only[Act.put,List.setIfInBounds_toArray,List.set_cons_zero,List.set_cons_succ,ZH,ZI]
                  rfl
                 refine one_ (i:=21) (N:=some 86) #[true,true,true,true,true,true,true,true,true,true,true,true,true,true,true,true,true,true,true,true,true,true,true,true,true,false,false] rfl rfl (Zas HT_.out (by kernel_rfl)) (by decide) (fun K hK=>?_)
                 refine ZaT Try.func21 (by kernel_rfl) rfl #[.slice (some ⟨go29,0,none⟩) y4020.length co29] (by rfl) rfl rfl (by(try simp only[List.map_toArray,List.map_cons,List.map_nil]);first|done|(rw[show y4020.length=x8_2.length from(Kd.R_reads' HO_8.out).1.symm] <;> rfl)|rfl|(simp only[Zj,Zi];rfl)) ?_
                 with_reducible refine(Z4.calls k2 _ _ y4020 t4031 _ ?side1 ?side2 A42.out).mono ?_
                 (case side1=>repeat(first|exact(Kd.R_reads' HO_8.out).2.2|(with_reducible refine Kd.C_alloc ?_ _)|(with_reducible refine Kd.C_drewN ?_ _)|(with_reducible refine Kd.C_drew ?_)))
                 (case side2=>rw[show y4020.length=x8_2.length from(Kd.R_reads' HO_8.out).1.symm];exact(Kd.R_reads' HO_8.out).2.1)
                 rintro e w' ⟨rfl,⟨nd,rfl⟩⟩
                 refine⟨_,rfl,?_⟩
                 refine hK.out _ _ ⟨(Zt BK4005.out 0).trans rfl,(Zt BK4005.out 1).trans rfl,(Zt BK4010.out 0).trans rfl,(Zt BK4010.out 1).trans rfl,(Zt BK4026.out 0).trans rfl,(Zt BK4026.out 1).trans rfl⟩ (fun hHeld=>?_)
                 clear hK K
                 refine Zae (a':=?_) ?_ ?_
                 rotate_left
                 ·show Act.put _ (some 86) _=_
                  simp only[Act.put,List.setIfInBounds_toArray,List.set_cons_zero,List.set_cons_succ,ZH,ZI]
                  rfl
                 refine Z1 (i:=25) (N:=some 90) (v:=?_) (a':=?_) #[true,true,true,true,true,true,true,true,true,true,true,true,true,true,true,true,true,true,true,true,true,true,true,true,true,true,false] rfl rfl (ZW HT_.out (by kernel_rfl)) (fun _ _ _ h=>h) (Or.inl ⟨by rfl,?_⟩) ?_ ?_
                 rotate_left
                 ·intro w'
                  go_simp
                  with_reducible rfl
                 rotate_left
                 ·simp only[Act.put,List.setIfInBounds_toArray,List.set_cons_zero,List.set_cons_succ,ZH,ZI]
                  rfl
                 refine Z1 (i:=26) (N:=some 91) (v:=?_) (a':=?_) #[true,true,true,true,true,true,true,true,true,true,true,true,true,true,true,true,true,true,true,true,true,true,true,true,true,true,true] rfl rfl (ZW HT_.out (by kernel_rfl)) (fun _ _ _ h=>h) (Or.inl ⟨by rfl,?_⟩) ?_ ?_
                 rotate_left
                 ·intro w'
                  go_simp
                  with_reducible rfl
                 rotate_left
                 ·simp only[Act.put,List.setIfInBounds_toArray,List.set_cons_zero,List.set_cons_succ,ZH,ZI]
                  rfl
                 refine ZbC (Zbr HT_.out (by kernel_rfl)) ?_
                 try go_wp2
                 (try subst hji30)
                 go_roundg k2
                 case measure=>have:=HK1.out;have:=HK2.out;omega
                 case rel=>exact⟨(wrap64 (x7_1+1)),(by first|rfl|(simp;done)|(simp[*];done)),H',⟨by have:=HK1.out;have:=HK2.out;omega⟩,⟨by(with_reducible repeat(first|apply Kd.R_alloc|apply Kd.R_drewN|apply Kd.R_drew));exact Kd.R_mono HO_4006001.out (fun _ hk=>trivial)⟩,⟨by(with_reducible repeat(first|refine Zn ?_ _|refine Zp ?_|refine Zm ?_ _));exact BK4005.out⟩,⟨by(with_reducible repeat(first|refine Zn ?_ _|refine Zp ?_|refine Zm ?_ _));exact BK4010.out⟩,⟨by repeat(first|(with_reducible first|exact HB.out|apply Zq|apply Zl|apply Zr|refine Zo ?_ GE4005.out|refine Zo ?_ GE4010.out|refine Zo ?_ GE4026.out)|exact HB.out)⟩⟩
                ·rw[if_neg c43] at H
                 have c43b0:(t4031 == (wrap64 (t4001 - 2)))=false:=beq_eq_false_iff_ne.mpr c43
                 have c43b1:(t4031 != (wrap64 (t4001 - 2)))=true:=bne_iff_ne.mpr c43
                 exact absurd H (by simp)
             ·replace c35:=Bool.eq_false_iff.mpr c35
              subst c35
              have H1:(some false)=some true:=by rw[if_neg (show ¬(false=true) by decide)] at H;first|done|exact H
              clear H
              have H:=H1
              clear H1
              exact absurd H (by simp)
            ·rw[if_neg c32] at H
             exact absurd H (by simp)
           ·rw[if_neg c31] at H
            exact absurd H (by simp)
          ·rw[if_neg c28] at H
           exact absurd H (by simp)
      ·rw[if_neg c20] at H
       have c20b0:decide (x7_1<30)=false:=Ze c20
       clear c20 H
       go_wp2
       go_ret
       exact⟨by first|rfl|(simp[ZB,ZA] <;> rfl)|(simp[*,ZB,ZA] <;> rfl),by repeat(first|(with_reducible first|exact HB.out|apply Zq|apply Zl|apply Zr|refine Zo ?_ GE4005.out|refine Zo ?_ GE4010.out)|exact HB.out)⟩
   ·replace c7:=Bool.eq_false_iff.mpr c7
    subst c7
    have H1:((ZX.f k t4001 t4002).bind fun t4011=>(if t4011=true then(some false) else((Z0.f t4001 t4002).bind fun t4012=>(some t4012))))=some true:=by rw[if_neg (show ¬(false=true) by decide)] at H;first|done|exact H
    clear H
    have H:=H1
    clear H1
    replace H:=Zg H
    obtain⟨t4011,A630,H⟩:=H
    replace H:(if t4011=true then(some false) else((Z0.f t4001 t4002).bind fun t4012=>(some t4012)))=some true:=H
    have A63:=Za A630;clear A630
    by_cases c64:t4011=true
    ·subst c64
     exact absurd H (by simp)
    ·replace c64:=Bool.eq_false_iff.mpr c64
     subst c64
     have H1:((Z0.f t4001 t4002).bind fun t4012=>(some t4012))=some true:=by rw[if_neg (show ¬(false=true) by decide)] at H;first|done|exact H
     clear H
     have H:=H1
     clear H1
     replace H:=Zg H
     obtain⟨t4012,A650,H⟩:=H
     replace H:(some t4012)=some true:=H
     have A65:=Za A650;clear A650
     obtain rfl:=Zf H
     go_enter Try.func4,Try.ntmps4
     try go_wp2_with (first|((with_reducible refine ZO (f:=13) rfl ?_);refine Z6 (some 16) rfl rfl Try.func13 (by kernel_rfl) rfl #[.slice A0 l0.length c0] rfl (by(try simp only[List.map_toArray,List.map_cons,List.map_nil]);first|done|rfl|(simp only[Zj,Zi];rfl)) ?_;(with_reducible refine(ZaM.calls k _ _ l0 t4001 t4002 _ ?side1 ?side2 A3.out).mono ?_);(case side1=>repeat(first|exact HR0.out|(with_reducible refine Kd.C_alloc ?_ _)|(with_reducible refine Kd.C_drewN ?_ _)|(with_reducible refine Kd.C_drew ?_)));(case side2=>exact HC0.out);rintro e w66 ⟨v4003,rfl,ho0,hb⟩;refine⟨_,rfl,?_⟩;have HO4004:=Za (Kd.R_lower ho0 (Zv (by repeat(first|(with_reducible first|exact HB.out|apply Zq|apply Zl|apply Zr)|exact HB.out))));replace HB:=Za (Zw (by repeat(first|(with_reducible first|exact HB.out|apply Zq|apply Zl|apply Zr)|exact HB.out)) hb);(try clear hb);(try clear hb2);(try clear hk);(try clear hi);(try clear ho0))|((with_reducible refine ZP (N:=3) rfl ?_);refine ZM ?hg (N:=3) ?hd (cs:=#[.int .i64 0,.slice none 0 0]) (t:=31) ?hr ?_;(case hd=>rfl);(case hg=>rfl);(case hr=>first|(go_simp;done)|(go_simp;rfl));intro gb4005 hg w67 hbox hb;have BK4005:=Za (hbox);have GW4005:=Za ((by rw[hg];exact(Zv (by repeat(first|(with_reducible first|exact HB.out|apply Zq|apply Zl|apply Zr)|exact HB.out))):w.heap.size≤gb4005));have GE4005:=Za ((by rw[hg];exact(Zv (by repeat(first|(with_reducible first|exact HB.out|apply Zq|apply Zl|apply Zr)|exact HB.out))):w.heap.size≤gb4005));replace HO4004:=Za (Kd.R_below (by(with_reducible repeat(first|apply Kd.R_alloc|apply Kd.R_drewN|apply Kd.R_drew));exact HO4004.out) hb);replace HB:=Za (Zw (by repeat(first|(with_reducible first|exact HB.out|apply Zq|apply Zl|apply Zr)|exact HB.out)) hb);clear hb hbox hg;have hcz68_0:w67.cell? ⟨gb4005,0,none⟩=some (.int .i64 0):=(Zt BK4005.out 0).trans rfl;have hcz68_1:w67.cell? ⟨gb4005,1,none⟩=some (.slice none 0 0):=(Zt BK4005.out 1).trans rfl;have hfz68_0:=Zu BK4005.out 0;have hfz68_1:=Zu BK4005.out 1;obtain⟨Ao69,co69,eo69⟩:=Kd.R_slice HO4004.out;subst eo69))
     have n0_:Aside0 (Kd.R k84 84 ((w67.setCell ⟨gb4005,0,none⟩ (.int .i64 t4001)).setCell ⟨gb4005,1,none⟩ (.slice Ao69 t4002.length co69)) w.heap.size (fun _=>True) (.slice Ao69 t4002.length co69) t4002):=⟨by(with_reducible repeat(first|apply Kd.R_alloc|apply Kd.R_drewN|apply Kd.R_drew));exact Kd.R_mono (Kd.R_far (p:=⟨gb4005,1,none⟩) (Kd.R_far (p:=⟨gb4005,0,none⟩) (Kd.R_types HO4004.out BK4005.out (by decide)) (fun _ hk=>hk.2) (.int .i64 t4001)) (fun _ hk=>hk.2) (.slice Ao69 t4002.length co69)) (fun _ hk=>trivial)⟩
     have n1_:Aside0 (((w67.setCell ⟨gb4005,0,none⟩ (.int .i64 t4001)).setCell ⟨gb4005,1,none⟩ (.slice Ao69 t4002.length co69)).heap[gb4005]? = some (.cells #[.int .i64 t4001,.slice Ao69 t4002.length co69] 31 (0,0))):=⟨by(with_reducible repeat(first|refine Zn ?_ _|refine Zp ?_|refine Zm ?_ _));refine ZJ (cs:=#[.int .i64 t4001,.slice none 0 0]) ?_ 1 _ rfl;(with_reducible repeat(first|refine Zn ?_ _|refine Zp ?_|refine Zm ?_ _));refine ZJ (cs:=#[.int .i64 0,.slice none 0 0]) ?_ 0 _ rfl;(with_reducible repeat(first|refine Zn ?_ _|refine Zp ?_|refine Zm ?_ _));exact BK4005.out⟩
     have n2_:Aside0 (Below w.heap.size w ((w67.setCell ⟨gb4005,0,none⟩ (.int .i64 t4001)).setCell ⟨gb4005,1,none⟩ (.slice Ao69 t4002.length co69))):=⟨by repeat(first|(with_reducible first|exact HB.out|apply Zq|apply Zl|apply Zr|refine Zo ?_ GE4005.out)|exact HB.out)⟩
     (try clear HO4004)
     (try clear BK4005)
     (try clear HB)
     generalize ((w67.setCell ⟨gb4005,0,none⟩ (.int .i64 t4001)).setCell ⟨gb4005,1,none⟩ (.slice Ao69 t4002.length co69))=w70 at n0_ n1_ n2_ ⊢
     have HO4004:=n0_;have BK4005:=n1_;have HB:=n2_;clear n0_ n1_ n2_
     replace HO4004:=Za (Kd.R_drew HO4004.out);replace BK4005:=Za (Zp BK4005.out);replace HB:=Za (Zr HB.out)
     refine Zbl (n:=8) (S:=fun w'=>w'.cell? ⟨gb4005,0,none⟩=some (.int .i64 t4001)∧w'.cell? ⟨gb4005,1,none⟩=some (.slice Ao69 t4002.length co69)) (ds:=[]) #[false,false,false,false,false,false,false,false] (by kernel_rfl) rfl rfl ⟨(Zt BK4005.out 0).trans rfl,(Zt BK4005.out 1).trans rfl⟩ (fun hHeld=>?_);refine Za7 laws_FnWindows.tab4 laws_FnWindows.bits4 (fun HT_ HW_=>?_)
     generalize w70.drew=w71 at HO4004 BK4005 HB hHeld ⊢
     refine Z1 (i:=0) (N:=some 17) (v:=?_) (a':=?_) #[true,false,false,false,false,false,false,false] rfl rfl (ZW HT_.out (by kernel_rfl)) (fun _ _ _ h=>h) (Or.inl ⟨by rfl,?_⟩) ?_ ?_
     rotate_left
     ·intro w'
      go_simp
      with_reducible rfl
     rotate_left
     ·simp only[Act.put,List.setIfInBounds_toArray,List.set_cons_zero,List.set_cons_succ,ZH,ZI]
      rfl
     refine Z1 (i:=2) (N:=some 19) (v:=?_) (a':=?_) #[true,false,true,false,false,false,false,false] rfl rfl (ZW HT_.out (by kernel_rfl)) (fun _ _ _ h=>h) (Or.inl ⟨by rfl,?_⟩) ?_ ?_
     rotate_left
     ·intro w'
      go_simp
      with_reducible rfl
     rotate_left
     ·simp only[Act.put,List.setIfInBounds_toArray,List.set_cons_zero,List.set_cons_succ,ZH,ZI]
      rfl
     refine take_ (i:=3) (N:=some 20) (v:=?_) (a':=?_) #[true,false,true,true,false,false,false,false] rfl rfl (ZaG HT_.out HW_.out (by kernel_rfl)) (fun _ _ _ h=>h) (Or.inl ⟨by rfl,?_⟩) hHeld ?_ ?_
     rotate_left
     ·rintro w' ⟨s0,s1⟩
      go_simp
      with_reducible rfl
     rotate_left
     ·simp only[Act.put,List.setIfInBounds_toArray,List.set_cons_zero,List.set_cons_succ,ZH,ZI]
      rfl
     refine Z1 (i:=4) (N:=some 21) (v:=?_) (a':=?_) #[true,false,true,true,true,false,false,false] rfl rfl (ZW HT_.out (by kernel_rfl)) (fun _ _ _ h=>h) (Or.inl ⟨by rfl,?_⟩) ?_ ?_
     rotate_left
     ·intro w'
      go_simp
      with_reducible rfl
     rotate_left
     ·simp only[Act.put,List.setIfInBounds_toArray,List.set_cons_zero,List.set_cons_succ,ZH,ZI]
      rfl
     refine one_ (i:=1) (N:=some 18) #[true,true,true,true,true,false,false,false] rfl rfl (Zas HT_.out (by kernel_rfl)) (by decide) (fun K hK=>?_)
     refine ZaT Try.func14 (by kernel_rfl) rfl #[.slice A0 l0.length c0,.int .i64 40] (by rfl) rfl rfl (by(try simp only[List.map_toArray,List.map_cons,List.map_nil]);first|done|rfl|(simp only[Zj,Zi];rfl)) ?_
     with_reducible refine(ZaP.calls k _ _ l0 40 t4006 _ ?side1 ?side2 A4.out).mono ?_
     (case side1=>repeat(first|exact(Kd.C_below HR0.out HB.out)|(with_reducible refine Kd.C_alloc ?_ _)|(with_reducible refine Kd.C_drewN ?_ _)|(with_reducible refine Kd.C_drew ?_)))
     (case side2=>exact HC0.out)
     rintro e w72 ⟨rfl,hb⟩
     refine⟨_,rfl,?_⟩
     replace HO4004:=Za (Kd.R_below (by(with_reducible repeat(first|apply Kd.R_alloc|apply Kd.R_drewN|apply Kd.R_drew));exact HO4004.out) hb);replace BK4005:=Za (Zx (g:=gb4005) (o:=.cells #[.int .i64 t4001,.slice Ao69 t4002.length co69] 31 (0,0)) (by(with_reducible repeat(first|refine Zn ?_ _|refine Zp ?_|refine Zm ?_ _));exact BK4005.out) hb);replace HB:=Za (Zw (by repeat(first|(with_reducible first|exact HB.out|apply Zq|apply Zl|apply Zr|refine Zo ?_ GE4005.out)|exact HB.out)) hb)
     (try clear hb)
     (try clear hb2)
     (try clear hk)
     (try clear hi)
     refine hK.out _ _ ⟨(Zt BK4005.out 0).trans rfl,(Zt BK4005.out 1).trans rfl⟩ (fun hHeld=>?_)
     clear hK K
     refine Zae (a':=?_) ?_ ?_
     rotate_left
     ·show Act.put _ (some 18) _=_
      simp only[Act.put,List.setIfInBounds_toArray,List.set_cons_zero,List.set_cons_succ,ZH,ZI]
      rfl
     refine Z1 (i:=5) (N:=some 22) (v:=?_) (a':=?_) #[true,true,true,true,true,true,false,false] rfl rfl (ZW HT_.out (by kernel_rfl)) (fun _ _ _ h=>h) (Or.inl ⟨by rfl,?_⟩) ?_ ?_
     rotate_left
     ·intro w'
      go_simp
      with_reducible rfl
     rotate_left
     ·simp only[Act.put,List.setIfInBounds_toArray,List.set_cons_zero,List.set_cons_succ,ZH,ZI]
      rfl
     refine Z1 (i:=6) (N:=some 23) (v:=?_) (a':=?_) #[true,true,true,true,true,true,true,false] rfl rfl (ZW HT_.out (by kernel_rfl)) (fun _ _ _ h=>h) (Or.inl ⟨by rfl,?_⟩) ?_ ?_
     rotate_left
     ·intro w'
      go_simp
      with_reducible rfl
     rotate_left
     ·simp only[Act.put,List.setIfInBounds_toArray,List.set_cons_zero,List.set_cons_succ,ZH,ZI]
      rfl
     refine Z1 (i:=7) (N:=some 4) (v:=?_) (a':=?_) #[true,true,true,true,true,true,true,true] rfl rfl (ZW HT_.out (by kernel_rfl)) (fun _ _ _ h=>h) (Or.inl ⟨by rfl,?_⟩) ?_ ?_
     rotate_left
     ·intro w'
      go_simp
      with_reducible rfl
     rotate_left
     ·simp only[Act.put,List.setIfInBounds_toArray,List.set_cons_zero,List.set_cons_succ,ZH,ZI]
      rfl
     refine ZbC (Zbr HT_.out (by kernel_rfl)) ?_
     have hcz73_0:w72.cell? ⟨gb4005,0,none⟩=some (.int .i64 t4001):=(Zt BK4005.out 0).trans rfl
     have hcz73_1:w72.cell? ⟨gb4005,1,none⟩=some (.slice Ao69 t4002.length co69):=(Zt BK4005.out 1).trans rfl
     have hfz73_0:=Zu BK4005.out 0
     have hfz73_1:=Zu BK4005.out 1
     try go_wp2_with (first|((with_reducible refine ZO (f:=15) rfl ?_);refine Z6 (some 27) rfl rfl Try.func15 (by kernel_rfl) rfl #[.agg #[.int .i64 t4001,.slice Ao69 t4002.length co69],.int .i64 (wrap64 (1+(Int.tmod t4006 (wrap64 (t4001 - 1)))))] rfl (by(try simp only[List.map_toArray,List.map_cons,List.map_nil]);first|done|rfl|(simp only[Zj,Zi];rfl)) ?_;(with_reducible refine(Zaz.calls k t4001 _ _ t4002 (wrap64 (1+(Int.tmod t4006 (wrap64 (t4001 - 1))))) t4007 t4008 false _ ?side1 ?side2 A6.out).mono ?_);(case side1=>repeat(first|exact(Kd.R_reads' HO4004.out).2.2|(with_reducible refine Kd.C_alloc ?_ _)|(with_reducible refine Kd.C_drewN ?_ _)|(with_reducible refine Kd.C_drew ?_)));(case side2=>exact(Kd.R_reads' HO4004.out).2.1);rintro e w74 ⟨rfl,hb⟩;refine⟨_,rfl,?_⟩;replace HO4004:=Za (Kd.R_below (by(with_reducible repeat(first|apply Kd.R_alloc|apply Kd.R_drewN|apply Kd.R_drew));exact HO4004.out) hb);replace BK4005:=Za (Zx (g:=gb4005) (o:=.cells #[.int .i64 t4001,.slice Ao69 t4002.length co69] 31 (0,0)) (by(with_reducible repeat(first|refine Zn ?_ _|refine Zp ?_|refine Zm ?_ _));exact BK4005.out) hb);replace HB:=Za (Zw (by repeat(first|(with_reducible first|exact HB.out|apply Zq|apply Zl|apply Zr|refine Zo ?_ GE4005.out)|exact HB.out)) hb);(try clear hb);(try clear hb2);(try clear hk);(try clear hi))|((with_reducible refine ZP (N:=5) rfl ?_);refine ZM ?hg (N:=5) ?hd (cs:=#[.int .i64 0,.int .i64 0]) (t:=35) ?hr ?_;(case hd=>rfl);(case hg=>rfl);(case hr=>first|(go_simp;done)|(go_simp;rfl));intro gb4010 hg w75 hbox hb;have BK4010:=Za (hbox);have GW4010:=Za ((by rw[hg];exact(Zv (by repeat(first|(with_reducible first|exact HB.out|apply Zq|apply Zl|apply Zr|refine Zo ?_ GE4005.out)|exact HB.out))):w.heap.size≤gb4010));have GE4010:=Za ((by rw[hg];exact(Zv (by repeat(first|(with_reducible first|exact HB.out|apply Zq|apply Zl|apply Zr|refine Zo ?_ GE4005.out)|exact HB.out))):w.heap.size≤gb4010));have NB4005_4010:=Za ((by rw[hg];exact Nat.ne_of_lt (ZL (g:=gb4005) (o:=.cells #[.int .i64 t4001,.slice Ao69 t4002.length co69] 31 (0,0)) (by(with_reducible repeat(first|refine Zn ?_ _|refine Zp ?_|refine Zm ?_ _));exact BK4005.out)):gb4005≠gb4010));have NB4010_4005:=Za ((by rw[hg];exact Nat.ne_of_gt (ZL (g:=gb4005) (o:=.cells #[.int .i64 t4001,.slice Ao69 t4002.length co69] 31 (0,0)) (by(with_reducible repeat(first|refine Zn ?_ _|refine Zp ?_|refine Zm ?_ _));exact BK4005.out)):gb4010≠gb4005));replace HO4004:=Za (Kd.R_below (by(with_reducible repeat(first|apply Kd.R_alloc|apply Kd.R_drewN|apply Kd.R_drew));exact HO4004.out) hb);replace BK4005:=Za (Zx (g:=gb4005) (o:=.cells #[.int .i64 t4001,.slice Ao69 t4002.length co69] 31 (0,0)) (by(with_reducible repeat(first|refine Zn ?_ _|refine Zp ?_|refine Zm ?_ _));exact BK4005.out) hb);replace HB:=Za (Zw (by repeat(first|(with_reducible first|exact HB.out|apply Zq|apply Zl|apply Zr|refine Zo ?_ GE4005.out)|exact HB.out)) hb);clear hb hbox hg;have hnb76:=NB4010_4005.out;have hnc76:=NB4005_4010.out;have hcz77_0:w75.cell? ⟨gb4010,0,none⟩=some (.int .i64 0):=(Zt BK4010.out 0).trans rfl;have hcz77_1:w75.cell? ⟨gb4010,1,none⟩=some (.int .i64 0):=(Zt BK4010.out 1).trans rfl;have hfz77_0:=Zu BK4010.out 0;have hfz77_1:=Zu BK4010.out 1;have hcz78_0:w75.cell? ⟨gb4005,0,none⟩=some (.int .i64 t4001):=(Zt BK4005.out 0).trans rfl;have hcz78_1:w75.cell? ⟨gb4005,1,none⟩=some (.slice Ao69 t4002.length co69):=(Zt BK4005.out 1).trans rfl;have hfz78_0:=Zu BK4005.out 0;have hfz78_1:=Zu BK4005.out 1)|((with_reducible refine ZO (f:=16) rfl ?_);refine Z6 (some 33) rfl rfl Try.func16 (by kernel_rfl) rfl #[.agg #[.int .i64 t4001,.slice Ao69 t4002.length co69]] rfl (by(try simp only[List.map_toArray,List.map_cons,List.map_nil]);first|done|rfl|(simp only[Zj,Zi];rfl)) ?_;(with_reducible refine(ZX.calls k t4001 _ _ t4002 false _ ?side1 ?side2 A63.out).mono ?_);(case side1=>refine(Kd.R_reads' (e:=84) (base:=w.heap.size) (ok:=fun k_=>True) (n:=t4002.length) (c:=co69) ?_).2.2;exact(by(with_reducible repeat(first|apply Kd.R_alloc|apply Kd.R_drewN|apply Kd.R_drew));exact(Kd.R_mono (Kd.R_far (p:=⟨gb4010,1,none⟩) (Kd.R_far (p:=⟨gb4010,0,none⟩) (Kd.R_types HO4004.out BK4010.out (by decide)) (fun _ hk=>hk.2) (.int .i64 t4007)) (fun _ hk=>hk.2) (.int .i64 t4008)) (fun _ h_=>h_.1))));(case side2=>exact(Kd.R_reads' HO4004.out).2.1);rintro e w79 ⟨rfl,hb⟩;refine⟨_,rfl,?_⟩;replace HO4004:=Za (Kd.R_below (by(with_reducible repeat(first|apply Kd.R_alloc|apply Kd.R_drewN|apply Kd.R_drew));exact(Kd.R_mono (Kd.R_far (p:=⟨gb4010,1,none⟩) (Kd.R_far (p:=⟨gb4010,0,none⟩) (Kd.R_types HO4004.out BK4010.out (by decide)) (fun _ hk=>hk.2) (.int .i64 t4007)) (fun _ hk=>hk.2) (.int .i64 t4008)) (fun _ h_=>h_.1))) hb);replace BK4005:=Za (Zx (g:=gb4005) (o:=.cells #[.int .i64 t4001,.slice Ao69 t4002.length co69] 31 (0,0)) (by(with_reducible repeat(first|refine Zn ?_ _|refine Zp ?_|refine Zm ?_ _));refine ZE ?_ NB4005_4010.out _;(with_reducible repeat(first|refine Zn ?_ _|refine Zp ?_|refine Zm ?_ _));refine ZE ?_ NB4005_4010.out _;(with_reducible repeat(first|refine Zn ?_ _|refine Zp ?_|refine Zm ?_ _));exact BK4005.out) hb);replace BK4010:=Za (Zx (g:=gb4010) (o:=.cells #[.int .i64 t4007,.int .i64 t4008] 35 (0,0)) (by(with_reducible repeat(first|refine Zn ?_ _|refine Zp ?_|refine Zm ?_ _));refine ZJ (cs:=#[.int .i64 t4007,.int .i64 0]) ?_ 1 _ rfl;(with_reducible repeat(first|refine Zn ?_ _|refine Zp ?_|refine Zm ?_ _));refine ZJ (cs:=#[.int .i64 0,.int .i64 0]) ?_ 0 _ rfl;(with_reducible repeat(first|refine Zn ?_ _|refine Zp ?_|refine Zm ?_ _));exact BK4010.out) hb);replace HB:=Za (Zw (by repeat(first|(with_reducible first|exact HB.out|apply Zq|apply Zl|apply Zr|refine Zo ?_ GE4005.out|refine Zo ?_ GE4010.out)|exact HB.out)) hb);(try clear hb);(try clear hb2);(try clear hk);(try clear hi);have hcz80_0:w79.cell? ⟨gb4005,0,none⟩=some (.int .i64 t4001):=(Zt BK4005.out 0).trans rfl;have hcz80_1:w79.cell? ⟨gb4005,1,none⟩=some (.slice Ao69 t4002.length co69):=(Zt BK4005.out 1).trans rfl;have hfz80_0:=Zu BK4005.out 0;have hfz80_1:=Zu BK4005.out 1)|(go_at_call 17;(with_reducible refine(Z0.calls t4001 _ _ t4002 true _ ?side1 ?side2 A65.out).mono ?_);(case side1=>repeat(first|exact(Kd.R_reads' HO4004.out).2.2|(with_reducible refine Kd.C_alloc ?_ _)|(with_reducible refine Kd.C_drewN ?_ _)|(with_reducible refine Kd.C_drew ?_)));(case side2=>exact(Kd.R_reads' HO4004.out).2.1);rintro e w81 ⟨rfl,hb⟩;replace HO4004:=Za (Kd.R_below (by(with_reducible repeat(first|apply Kd.R_alloc|apply Kd.R_drewN|apply Kd.R_drew));exact HO4004.out) hb);replace BK4005:=Za (Zx (g:=gb4005) (o:=.cells #[.int .i64 t4001,.slice Ao69 t4002.length co69] 31 (0,0)) (by(with_reducible repeat(first|refine Zn ?_ _|refine Zp ?_|refine Zm ?_ _));exact BK4005.out) hb);replace BK4010:=Za (Zx (g:=gb4010) (o:=.cells #[.int .i64 t4007,.int .i64 t4008] 35 (0,0)) (by(with_reducible repeat(first|refine Zn ?_ _|refine Zp ?_|refine Zm ?_ _));exact BK4010.out) hb);replace HB:=Za (Zw (by repeat(first|(with_reducible first|exact HB.out|apply Zq|apply Zl|apply Zr|refine Zo ?_ GE4005.out|refine Zo ?_ GE4010.out)|exact HB.out)) hb);(try clear hb);(try clear hb2);(try clear hk);(try clear hi)))
     go_ret
     exact⟨by first|rfl|(simp[ZB,ZA] <;> rfl)|(simp[*,ZB,ZA] <;> rfl),by repeat(first|(with_reducible first|exact HB.out|apply Zq|apply Zl|apply Zr|refine Zo ?_ GE4005.out|refine Zo ?_ GE4010.out)|exact HB.out)⟩
def laws_FnWindows.Pure:Prop:=∀(y0:List Int),(fun l_:List Int=>l_.length≤maxLen∧∀x_∈l_,(fun n_:Int=>(Lit.int .u8 n_).wf=true) x_) y0→∃k,laws_FnWindows.f k y0=some true
end Go.Proofs.Ythphnhmabieflab.Pr
set_option linter.unusedSimpArgs false
namespace Go.Proofs.Ythphnhmabieflab.Pure
open Go.RowKit Go.Proofs.Ythphnhmabieflab.Pr Go.Proofs.Ythphnhmabieflab.Ni Go.Proofs.YthphnhmabieflabW.PrintWords Go.Proofs.YthphnhmabieflabW.PrintMore
theorem contains_f {lo hi:Int} (h:Zbq lo hi=true) (x:Int):Z8.f lo hi x=some (decide ((lo=-1000000∨lo≤x)∧(hi=1000000∨x≤hi))):=by
 unfold Z8.f
 rw[ivOk_f,h,Zh,if_pos rfl]
 by_cases c1:lo=-1000000
 ·rw[if_pos c1]
  by_cases c2:hi=1000000
  ·rw[if_pos c2,Zd (by omega)]
  ·rw[if_neg c2];congr 1;rw[Bool.eq_iff_iff,decide_eq_true_eq,decide_eq_true_eq];omega
 ·rw[if_neg c1]
  by_cases c3:x≥lo
  ·rw[if_pos c3]
   by_cases c2:hi=1000000
   ·rw[if_pos c2,Zd (by omega)]
   ·rw[if_neg c2];congr 1;rw[Bool.eq_iff_iff,decide_eq_true_eq,decide_eq_true_eq];omega
  ·rw[if_neg c3,Ze (by omega)]
def Za0:List Int→Int
 | []=>0
 | x :: t=>(if x=-1 then 1 else 0)+Za0 t
theorem opens_app:∀(s t:List Int),Za0 (s ++ t)=Za0 s+Za0 t
 | [],t=>by simp[Za0]
 | x :: s,t=>by rw[List.cons_append,Za0,Za0,opens_app s t];omega
theorem opens_rep:∀m:Nat,Za0 (List.replicate m (-1))=m
 | 0=>rfl
 | m+1=>by rw[List.replicate_succ,Za0,if_pos rfl,opens_rep m];omega
theorem Zcr:∀(t:List Int) (i:Nat) (x:Int),i<t.length→t.getD i 0=-1→x≠-1→Za0 (t.set i x)=Za0 t - 1
 | y :: t,0,x,_,hy,hx=>by
  have:y=-1:=hy
  subst this
  rw[List.set_cons_zero,Za0,Za0,if_neg hx,if_pos rfl];omega
 | y :: t,i+1,x,hi,hy,hx=>by
  rw[List.set_cons_succ,Za0,Za0,Zcr t i x (by simpa using hi) (by simpa using hy) hx];omega
theorem count_l (t:List Int) (hl:t.length≤1048576) (k:Nat) (hk:2 ^ 64≤k):Z4.f k t=some (Za0 t):=by
 have key:=Zb8 t.length (fun k i=>∀c:Int,0≤c→c≤i→Z4.l0 k c t (t.length:Int) (i:Int)=some (c+Za0 (t.drop i))) 0
  (fun k _ c _ _=>by
   simp only[Z4.l0]
   rw[if_neg (by omega),List.drop_length,Za0];congr 1;omega)
  (fun k i _ hi ih c h0 h1=>by
   simp only[Z4.l0]
   rw[if_pos (by omega),if_pos (by omega),if_pos (by omega),Za2 hi (by omega),Zbe,Za9 hi 0,Za0]
   by_cases h:t.getD i 0=-1
   ·rw[if_pos h,if_pos h,Zaf (i:=c+1) (by omega) (by omega),ih (c+1) (by omega) (by omega)];congr 1;omega
   ·rw[if_neg h,if_neg h,ih c h0 (by omega)];congr 1;omega) 0 k (Nat.zero_le _) (by omega)
 have:=key 0 (by omega) (by omega)
 unfold Z4.f
 simpa using this
theorem win_l0 {n e:Nat} {L:List Zaq} {lo hi:Int} (h2:2≤n) (h5:n≤5) (l7:L.length≤7) (hs:Zad (n:Int) L=true) (hw:Za8 L) (he1:1≤e) (he:e<n) (hiv:Zbq lo hi=true)
  (hwin:∀x:Int,((lo=-1000000∨lo≤x)∧(hi=1000000∨x≤hi))↔∃q,Feas (Zaa L) q∧q e=q 0+x) :
  ∀(d:Nat) (x:Nat) (k:Nat),x+d=30→2 ^ 69+d * 100≤k→laws_FnWindows.l0 k (e:Int) (x:Int) (n:Int) L lo hi=some true:=by
 intro d
 induction d with
 | zero=>
  intro x k hx hk
  obtain⟨m,rfl⟩:∃m,k=m+1:=⟨k - 1,by omega⟩
  simp only[laws_FnWindows.l0]
  rw[if_neg (by omega)]
 | succ d ih=>
  intro x k hx hk
  obtain⟨m,rfl⟩:∃m,k=m+1:=⟨k - 1,by omega⟩
  simp only[laws_FnWindows.l0]
  rw[if_pos (by omega)]
  have key:∀(c:Nat) (i:Nat) (K:Nat),i+c=n→2 ^ 69+d * 100+c+1≤K→laws_FnWindows.l1 K (e:Int) (x:Int) (List.replicate i (-1)) (i:Int) (n:Int) L lo hi=some true:=by
   intro c
   induction c with
   | succ c ihc=>
    intro i K hin hK
    obtain⟨K,rfl⟩:∃m,K=m+1:=⟨K - 1,by omega⟩
    simp only[laws_FnWindows.l1]
    rw[if_pos (by omega),if_pos (by simp;omega),Za2 (n:=n) (by omega) (by omega),show(List.replicate i (-1:Int)) ++ [(-1)]=List.replicate (i+1) (-1) by rw[List.replicate_succ']]
    exact ihc (i+1) K (by omega) (by omega)
   | zero=>
    intro i K hin hK
    obtain⟨K,rfl⟩:∃m,K=m+1:=⟨K - 1,by omega⟩
    obtain rfl:i=n:=by omega
    simp only[laws_FnWindows.l1]
    rw[if_neg (by omega),if_pos (by simp;omega),if_pos (by omega),if_pos (by simp;omega),Zh]
    obtain⟨t,ht⟩:∃t,t=((List.replicate i (-1:Int)).set (0:Int).toNat 0).set (e:Int).toNat (x:Int):=⟨_,rfl⟩
    rw[← ht]
    rw[Int.toNat_zero,Int.toNat_natCast] at ht
    have htl:t.length=i:=by rw[ht];simp
    have ht0:t.getD 0 0=0:=by rw[ht,Pr.getD_set_ne (by omega),Pr.getD_set_eq (by simp;omega)]
    have hte:t.getD e 0=x:=by rw[ht,Pr.getD_set_eq (by simp;omega)]
    have htj:∀j,j<i→j≠0→j≠e→t.getD j 0=-1:=fun j hj h0 h1=>by
     rw[ht,Pr.getD_set_ne (by omega),Pr.getD_set_ne (by omega),List.getD_eq_getElem?_getD,List.getElem?_replicate,if_pos hj];rfl
    have htm:∀y∈t,-1≤y∧y≤1000:=fun y hy=>by
     obtain⟨j,hj,rfl⟩:=List.mem_iff_getElem.1 hy
     have e1:t[j]=t.getD j 0:=by rw[List.getD_eq_getElem?_getD,Zk hj];rfl
     rw[e1]
     by_cases h0:j=0
     ·subst h0;rw[ht0];omega
     ·by_cases h1:j=e
      ·subst h1;rw[hte];omega
      ·rw[htj j (by omega) h0 h1];omega
    have hfx:=fix_ok hs (show L.length≤32 by omega) htl ht0 (fun y hy=>by have:=htm y hy;omega)
    have hsf:Zad (i:Int) (L ++ fixL 0 t)=true:=by
     have:=hfx
     unfold fixB at this
     split at this
     ·split at this
      ·assumption
      ·exact absurd (congrArg (fun r:Int×List Zaq×Bool=>r.2.2) this) (by simp)
     ·exact absurd (congrArg (fun r:Int×List Zaq×Bool=>r.2.2) this) (by simp)
    have hwf:Za8 (L ++ fixL 0 t):=fun y hy=>(List.mem_append.1 hy).elim (hw y) (Zc4 t 0 htm y)
    have hco:ZbK (i:Int) (L ++ fixL 0 t)=decide ((lo=-1000000∨lo≤(x:Int))∧(hi=1000000∨(x:Int)≤hi)):=by
     rw[Bool.eq_iff_iff,decide_eq_true_eq,ZcR hsf hwf,hwin (x:Int)]
     constructor
     ·rintro⟨q,hq⟩
      rw[ZbP,Feas.app,ZcO t 0 (fun y hy=>by have:=htm y hy;omega)] at hq
      have:=hq.2 e (by omega) (by omega) (by rw[hte];omega)
      rw[hte,Nat.zero_add] at this
      exact⟨q,hq.1,this⟩
     ·rintro⟨q,hq,hqe⟩
      refine⟨q,?_⟩
      rw[ZbP,Feas.app,ZcO t 0 (fun y hy=>by have:=htm y hy;omega)]
      refine⟨hq,fun j hj hp hne=>?_⟩
      rw[Nat.zero_add] at hp ⊢
      by_cases h1:j=e
      ·subst h1;rw[hte];exact hqe
      ·exact absurd (htj j (by omega) (by omega) h1) hne
    rw[Zb2 (i:Int) L t (by omega) (by omega) K (by omega),hfx,Zh]
    simp only[if_true]
    unfold ZaF.f
    rw[Zb2 (i:Int) L t (by omega) (by omega) K (by omega),hfx,Zh]
    simp only[if_true]
    rw[ZbE _ _ K (by omega),hco,Zh,Zh,contains_f hiv,Zh]
    simp only[bne_self_eq_false,Bool.false_eq_true,if_false,Zh]
    have hcnt:Za0 t=(i:Int) - 2:=by
     rw[ht,Zcr _ e x (by simp;omega) (by rw[Pr.getD_set_ne (by omega),List.getD_eq_getElem?_getD,List.getElem?_replicate,if_pos he];rfl) (by omega),Zcr _ 0 0 (by simp;omega) (by rw[List.getD_eq_getElem?_getD,List.getElem?_replicate,if_pos (by omega)];rfl) (by omega),opens_rep];omega
    rw[count_l t (by omega) K (by omega),Zh,hcnt,Zaf (i:=(i:Int) - 2) (by omega) (by omega),if_pos rfl,Za2 (n:=30) (by omega) (by omega)]
    exact ih (x+1) K (by omega) (by omega)
  have:=key n 0 m (by omega) (by omega)
  simpa using this
theorem FnWindows:laws_FnWindows.Pure:=by
 rintro b ⟨_,_⟩
 refine⟨2 ^ 70,?_⟩
 unfold laws_FnWindows.f
 by_cases h:(b.length:Int) > 1048576
 ·rw[if_pos h]
 rw[if_neg h]
 have hb:b.length≤1048576:=by omega
 obtain⟨n,L,e1,n2,n5,l7,hs,hw,_⟩:=simple_f hb (2 ^ 70) (by omega)
 obtain⟨x,e2,x0,x1⟩:=num_f hb 40 (by omega) (2 ^ 70) (by omega)
 rw[e1,Zh]
 simp only
 rw[e2,Zh]
 have wn:wrap64 ((n:Int) - 1)=(n:Int) - 1:=Zaf (by omega) (by omega)
 have t0:=Int.tmod_nonneg ((n:Int) - 1) x0
 have t1:Int.tmod x ((n:Int) - 1)<(n:Int) - 1:=by rw[Int.tmod_eq_emod_of_nonneg x0];exact Int.emod_lt_of_pos _ (by omega)
 obtain⟨e,he⟩:∃e:Nat,(e:Int)=1+Int.tmod x ((n:Int) - 1):=⟨(1+Int.tmod x ((n:Int) - 1)).toNat,by omega⟩
 rw[wn,if_neg (by omega),Zaf (by omega) (by omega),← he]
 cases hc:ZbK (n:Int) L with
 | false=>
  rw[winBad hs hw hc _ _ (by omega),Zh]
  simp only[Bool.false_eq_true,if_false]
  rw[ZbE _ _ _ (by omega),hc,Zh,if_neg (by simp)]
  simp only[Z0.f,Zh,hs]
 | true=>
  obtain⟨lo,hi,hwo,hiv,hwin⟩:=winOf (e:=e) hc hw (by omega) (2 ^ 70) (by omega)
  rw[hwo,Zh]
  simp only[if_true]
  have:=win_l0 n2 n5 l7 hs hw (by omega) (by omega) hiv hwin 30 0 (2 ^ 70) (by omega) (by omega)
  simpa using this
end Go.Proofs.Ythphnhmabieflab.Pure
