/- The texts of one claim, put together by a program of this session. -/
import Derived.Deep.RegionHeld3
import Derived.Test.YtoeimopgoaffcaaGreatDoorBBpc1x1
import Derived.Test.YtoeimopgoaffcaaGreatDoorBBpc1x17
import Derived.Test.YtoeimopgoaffcaaGreatDoorBBpc1x2
import Derived.Test.YtoeimopgoaffcaaGreatDoorBBpc1x9
namespace Go.Proofs.YtoeimopgoaffcaaGreatDoor.Pr
open Go.RowKit Go.Proofs.YtoeimopgoaffcaaGreatDoorW.PrintWords Go.Proofs.YtoeimopgoaffcaaGreatDoorW.PrintLast Go.Proofs.YtoeimopgoaffcaaGreatDoorW.PrintMore
attribute [local go_sem] Z2 Z0 Zac Zab ZU ZT Z1 ZZ
set_option linter.unusedVariables false
set_option linter.unusedSimpArgs false
open Go.Proofs.YtoeimopgoaffcaaGreatDoor.Ni
def laws_FnExactProjectShow.f (k:Nat) (l0_0:List (S143)) (l0_1:List (S147)) (a0_2:Int) (l1_0:List Int) (l1_1:List Int):Option (Bool):=((ZbN.f k l0_0 l0_1 a0_2 1048576).bind fun u0_0=>(if u0_0<0 then some true else((ZbK.f l1_0 l1_1 u0_0).bind fun u1_0=>(if u1_0<0 then some true else((ZaO.f k l0_0 l0_1 a0_2).bind fun b2=>(if Zdr b2.1 b2.2.1=true then((Zas.f k l1_0 l1_1).bind fun b3=>(if b3.1.length≤1048576 then(if b3.2.length≤1048576 then((Zr.f k b2.1 b2.2.1 b2.2.2 b3.1 b3.2).bind fun b4=>((ZaA.f k b2.1 b2.2.1 b2.2.2 b3.1 b3.2).bind fun b5=>(if b5.2.2=b4.2.2 then(if b5.1=b4.1 then(if b5.2.1=b4.2.1 then(if b5.2.1.length≤1048576 then(some true) else some false) else some false) else some false) else some false))) else some false) else some false)) else some false))))))
set_option maxHeartbeats 8000000 in
set_option maxRecDepth 100000 in
theorem laws_FnExactProjectShow.calls (k:Nat) (A0_0:Option Addr) (c0_0:Nat) (l0_0:List (S143)) (A0_1:Option Addr) (c0_1:Nat) (l0_1:List (S147)) (a0_2:Int) (A1_0:Option Addr) (c1_0:Nat) (l1_0:List Int) (A1_1:Option Addr) (c1_1:Nat) (l1_1:List Int) (w:World) (hr0_0:Kd.C k143 w A0_0 l0_0.length l0_0) (hc0_0:l0_0.length≤c0_0) (hr0_1:Kd.C k147 w A0_1 l0_1.length l0_1) (hc0_1:l0_1.length≤c0_1) (hr1_0:Kd.C (Kd.int .i64) w A1_0 l1_0.length l1_0) (hc1_0:l1_0.length≤c1_0) (hr1_1:Kd.C (Kd.int .i64) w A1_1 l1_1.length l1_1) (hc1_1:l1_1.length≤c1_1) (ht:TW w) (h:laws_FnExactProjectShow.f k l0_0 l0_1 a0_2 l1_0 l1_1=some true) :
  Calls Tryz.prog 5 #[.agg #[.slice A0_0 l0_0.length c0_0,.slice A0_1 l0_1.length c0_1,.int .i64 a0_2],.agg #[.slice A1_0 l1_0.length c1_0,.slice A1_1 l1_1.length c1_1]] w fun e w'=>e=.returned (.bool true)∧Below w.heap.size w w':=by
 unfold laws_FnExactProjectShow.f at h
 have HTW:=Za ht;clear ht
 have hv54:=Tryz.underlying54
 have hv25:=Tryz.underlying25
 have hv58:=Tryz.underlying58
 replace h:=Option.bind_eq_some_iff.1 h
 obtain⟨u0_0,HF0,h⟩:=h
 (try dsimp only at h)
 replace HF0:=Za HF0
 by_cases hcn0:u0_0<0
 case pos=>
  have hq0:decide (u0_0<0)=true:=Ze hcn0
  clear h hcn0
  have hu47:=Tryz.underlying47
  have hu49:=Tryz.underlying49
  have HB0:=Za (Zn (Zn (Below.refl w.heap.size w) (.cells #[.slice A0_0 l0_0.length c0_0,.slice A0_1 l0_1.length c0_1,.int .i64 a0_2] 47)) (.cells #[.slice A1_0 l1_0.length c1_0,.slice A1_1 l1_1.length c1_1] 49))
  have Q0_0:=Za (And.intro hc0_0 (Zb hr0_0 HB0.out))
  have Q0_1:=Za (And.intro hc0_1 (Zb hr0_1 HB0.out))
  have Q1_0:=Za (And.intro hc1_0 (Zb hr1_0 HB0.out))
  have Q1_1:=Za (And.intro hc1_1 (Zb hr1_1 HB0.out))
  clear hr0_0 hc0_0 hr0_1 hc0_1 hr1_0 hc1_0 hr1_1 hc1_1
  go_enter Tryz.func5,Tryz.ntmps5
  go_wp2_with fail
  refine(ZbN.calls k A0_0 c0_0 l0_0 A0_1 c0_1 l0_1 a0_2 1048576 _ _ Q0_0.out.2 Q0_0.out.1 Q0_1.out.2 Q0_1.out.1 HF0.out).mono ?_
  rintro e w1 ⟨rfl,hb⟩
  have HB1:=Za (HB0.out.trans (hb.mono HB0.out.size))
  have z0:w.heap.size<w1.heap.size:=Nat.lt_of_lt_of_le (by simp <;> omega) hb.size
  have s0_0:w1.cell? ⟨w.heap.size,0,none⟩=some (.slice A0_0 l0_0.length c0_0):=ZE hb (by go_simp)
  have s0_1:w1.cell? ⟨w.heap.size,1,none⟩=some (.slice A0_1 l0_1.length c0_1):=ZE hb (by go_simp)
  have s0_2:w1.cell? ⟨w.heap.size,2,none⟩=some (.int .i64 a0_2):=ZE hb (by go_simp)
  have z1:w.heap.size+1<w1.heap.size:=Nat.lt_of_lt_of_le (by simp <;> omega) hb.size
  have s1_0:w1.cell? ⟨w.heap.size+1,0,none⟩=some (.slice A1_0 l1_0.length c1_0):=ZE hb (by go_simp)
  have s1_1:w1.cell? ⟨w.heap.size+1,1,none⟩=some (.slice A1_1 l1_1.length c1_1):=ZE hb (by go_simp)
  replace Q0_0:=Za (And.intro Q0_0.out.1 (Zb Q0_0.out.2 hb))
  replace Q0_1:=Za (And.intro Q0_1.out.1 (Zb Q0_1.out.2 hb))
  replace Q1_0:=Za (And.intro Q1_0.out.1 (Zb Q1_0.out.2 hb))
  replace Q1_1:=Za (And.intro Q1_1.out.1 (Zb Q1_1.out.2 hb))
  have HK1:=Za fun (W:World) (hA:Below w1.heap.size w1 W)=>And.intro (HB1.out.trans (hA.mono HB1.out.size)) (And.intro (Nat.lt_of_lt_of_le z0 hA.size) (And.intro (ZE hA s0_0) (And.intro (ZE hA s0_1) (And.intro (ZE hA s0_2) (And.intro (Nat.lt_of_lt_of_le z1 hA.size) (And.intro (ZE hA s1_0) (And.intro (ZE hA s1_1) (And.intro (Za (And.intro Q0_0.out.1 (Zb Q0_0.out.2 hA))) (And.intro (Za (And.intro Q0_1.out.1 (Zb Q0_1.out.2 hA))) (And.intro (Za (And.intro Q1_0.out.1 (Zb Q1_0.out.2 hA))) ((Za (And.intro Q1_1.out.1 (Zb Q1_1.out.2 hA))))))))))))))
  clear z0 s0_0 s0_1 s0_2 z1 s1_0 s1_1 Q0_0 Q0_1 Q1_0 Q1_1 hb
  obtain⟨hB,z0,s0_0,s0_1,s0_2,z1,s1_0,s1_1,Q0_0,Q0_1,Q1_0,Q1_1⟩:=HK1.out _ (Below.refl _ _)
  go_wp2
  go_ret
  exact⟨rfl,(HK1.out _ (Below.refl _ _)).1⟩
 rw[if_neg hcn0] at h
 have hq0:decide (u0_0<0)=false:=Zf hcn0
 clear hcn0
 replace h:=Option.bind_eq_some_iff.1 h
 obtain⟨u1_0,HF1,h⟩:=h
 (try dsimp only at h)
 replace HF1:=Za HF1
 by_cases hcn1:u1_0<0
 case pos=>
  have hq1:decide (u1_0<0)=true:=Ze hcn1
  clear h hcn1
  have hu47:=Tryz.underlying47
  have hu49:=Tryz.underlying49
  have HB0:=Za (Zn (Zn (Below.refl w.heap.size w) (.cells #[.slice A0_0 l0_0.length c0_0,.slice A0_1 l0_1.length c0_1,.int .i64 a0_2] 47)) (.cells #[.slice A1_0 l1_0.length c1_0,.slice A1_1 l1_1.length c1_1] 49))
  have Q0_0:=Za (And.intro hc0_0 (Zb hr0_0 HB0.out))
  have Q0_1:=Za (And.intro hc0_1 (Zb hr0_1 HB0.out))
  have Q1_0:=Za (And.intro hc1_0 (Zb hr1_0 HB0.out))
  have Q1_1:=Za (And.intro hc1_1 (Zb hr1_1 HB0.out))
  clear hr0_0 hc0_0 hr0_1 hc0_1 hr1_0 hc1_0 hr1_1 hc1_1
  go_enter Tryz.func5,Tryz.ntmps5
  go_wp2_with fail
  refine(ZbN.calls k A0_0 c0_0 l0_0 A0_1 c0_1 l0_1 a0_2 1048576 _ _ Q0_0.out.2 Q0_0.out.1 Q0_1.out.2 Q0_1.out.1 HF0.out).mono ?_
  rintro e w1 ⟨rfl,hb⟩
  have HB1:=Za (HB0.out.trans (hb.mono HB0.out.size))
  have z0:w.heap.size<w1.heap.size:=Nat.lt_of_lt_of_le (by simp <;> omega) hb.size
  have s0_0:w1.cell? ⟨w.heap.size,0,none⟩=some (.slice A0_0 l0_0.length c0_0):=ZE hb (by go_simp)
  have s0_1:w1.cell? ⟨w.heap.size,1,none⟩=some (.slice A0_1 l0_1.length c0_1):=ZE hb (by go_simp)
  have s0_2:w1.cell? ⟨w.heap.size,2,none⟩=some (.int .i64 a0_2):=ZE hb (by go_simp)
  have z1:w.heap.size+1<w1.heap.size:=Nat.lt_of_lt_of_le (by simp <;> omega) hb.size
  have s1_0:w1.cell? ⟨w.heap.size+1,0,none⟩=some (.slice A1_0 l1_0.length c1_0):=ZE hb (by go_simp)
  have s1_1:w1.cell? ⟨w.heap.size+1,1,none⟩=some (.slice A1_1 l1_1.length c1_1):=ZE hb (by go_simp)
  replace Q0_0:=Za (And.intro Q0_0.out.1 (Zb Q0_0.out.2 hb))
  replace Q0_1:=Za (And.intro Q0_1.out.1 (Zb Q0_1.out.2 hb))
  replace Q1_0:=Za (And.intro Q1_0.out.1 (Zb Q1_0.out.2 hb))
  replace Q1_1:=Za (And.intro Q1_1.out.1 (Zb Q1_1.out.2 hb))
  have HK1:=Za fun (W:World) (hA:Below w1.heap.size w1 W)=>And.intro (HB1.out.trans (hA.mono HB1.out.size)) (And.intro (Nat.lt_of_lt_of_le z0 hA.size) (And.intro (ZE hA s0_0) (And.intro (ZE hA s0_1) (And.intro (ZE hA s0_2) (And.intro (Nat.lt_of_lt_of_le z1 hA.size) (And.intro (ZE hA s1_0) (And.intro (ZE hA s1_1) (And.intro (Za (And.intro Q0_0.out.1 (Zb Q0_0.out.2 hA))) (And.intro (Za (And.intro Q0_1.out.1 (Zb Q0_1.out.2 hA))) (And.intro (Za (And.intro Q1_0.out.1 (Zb Q1_0.out.2 hA))) ((Za (And.intro Q1_1.out.1 (Zb Q1_1.out.2 hA))))))))))))))
  clear z0 s0_0 s0_1 s0_2 z1 s1_0 s1_1 Q0_0 Q0_1 Q1_0 Q1_1 hb
  obtain⟨hB,z0,s0_0,s0_1,s0_2,z1,s1_0,s1_1,Q0_0,Q0_1,Q1_0,Q1_1⟩:=HK1.out _ (Below.refl _ _)
  go_wp2_with fail
  refine(ZbK.calls A1_0 c1_0 l1_0 A1_1 c1_1 l1_1 u0_0 _ _ Q1_0.out.2 Q1_0.out.1 Q1_1.out.2 Q1_1.out.1 HF1.out).mono ?_
  rintro e w2 ⟨rfl,hb⟩
  have B2:=Za hb;clear hB z0 s0_0 s0_1 s0_2 z1 s1_0 s1_1 Q0_0 Q0_1 Q1_0 Q1_1 hb
  have HK2:=Za fun (W:World) (hA:Below w2.heap.size w2 W)=>HK1.out W (B2.out.trans (hA.mono B2.out.size))
  obtain⟨hB,z0,s0_0,s0_1,s0_2,z1,s1_0,s1_1,Q0_0,Q0_1,Q1_0,Q1_1⟩:=HK2.out _ (Below.refl _ _)
  go_wp2
  go_ret
  exact⟨rfl,(HK2.out _ (Below.refl _ _)).1⟩
 rw[if_neg hcn1] at h
 have hq1:decide (u1_0<0)=false:=Zf hcn1
 clear hcn1
 replace h:=Option.bind_eq_some_iff.1 h
 obtain⟨⟨u2_0_0,u2_0_1,u2_0_2⟩,HF2,h⟩:=h
 (try dsimp only at h)
 replace HF2:=Za HF2
 by_cases ht103:Zdr u2_0_0 u2_0_1=true
 case neg=>rw[if_neg ht103] at h;exact absurd h (by simp)
 rw[if_pos ht103] at h
 have SM_u2_0_0:=Za (smallB_iff ht103)
 clear ht103
 replace h:=Option.bind_eq_some_iff.1 h
 obtain⟨⟨u3_0_0,u3_0_1⟩,HF3,h⟩:=h
 (try dsimp only at h)
 replace HF3:=Za HF3
 by_cases ht112:u3_0_0.length≤1048576
 case neg=>rw[if_neg ht112] at h;exact absurd h (by simp)
 rw[if_pos ht112] at h
 have SM_u3_0_0:=Za (ht112)
 clear ht112
 by_cases ht117:u3_0_1.length≤1048576
 case neg=>rw[if_neg ht117] at h;exact absurd h (by simp)
 rw[if_pos ht117] at h
 have SM_u3_0_1:=Za (ht117)
 clear ht117
 replace h:=Option.bind_eq_some_iff.1 h
 obtain⟨⟨u4_0_0,u4_0_1,u4_1⟩,HF4,h⟩:=h
 (try dsimp only at h)
 replace HF4:=Za HF4
 replace h:=Option.bind_eq_some_iff.1 h
 obtain⟨⟨u5_0_0,u5_0_1,u5_1⟩,HF5,h⟩:=h
 (try dsimp only at h)
 replace HF5:=Za HF5
 by_cases ht130:u5_1=u4_1
 case neg=>rw[if_neg ht130] at h;exact absurd h (by simp)
 rw[if_pos ht130] at h
 subst ht130
 by_cases ht134:u5_0_0=u4_0_0
 case neg=>rw[if_neg ht134] at h;exact absurd h (by simp)
 rw[if_pos ht134] at h
 subst ht134
 by_cases ht138:u5_0_1=u4_0_1
 case neg=>rw[if_neg ht138] at h;exact absurd h (by simp)
 rw[if_pos ht138] at h
 subst ht138
 by_cases ht142:u5_0_1.length≤1048576
 case neg=>rw[if_neg ht142] at h;exact absurd h (by simp)
 rw[if_pos ht142] at h
 have SM_u5_0_1:=Za (ht142)
 clear ht142 h
 have hu47:=Tryz.underlying47
 have hu49:=Tryz.underlying49
 have HB0:=Za (Zn (Zn (Below.refl w.heap.size w) (.cells #[.slice A0_0 l0_0.length c0_0,.slice A0_1 l0_1.length c0_1,.int .i64 a0_2] 47)) (.cells #[.slice A1_0 l1_0.length c1_0,.slice A1_1 l1_1.length c1_1] 49))
 have Q0_0:=Za (And.intro hc0_0 (Zb hr0_0 HB0.out))
 have Q0_1:=Za (And.intro hc0_1 (Zb hr0_1 HB0.out))
 have Q1_0:=Za (And.intro hc1_0 (Zb hr1_0 HB0.out))
 have Q1_1:=Za (And.intro hc1_1 (Zb hr1_1 HB0.out))
 clear hr0_0 hc0_0 hr0_1 hc0_1 hr1_0 hc1_0 hr1_1 hc1_1
 go_enter Tryz.func5,Tryz.ntmps5
 go_wp2_with fail
 refine(ZbN.calls k A0_0 c0_0 l0_0 A0_1 c0_1 l0_1 a0_2 1048576 _ _ Q0_0.out.2 Q0_0.out.1 Q0_1.out.2 Q0_1.out.1 HF0.out).mono ?_
 rintro e w1 ⟨rfl,hb⟩
 have HB1:=Za (HB0.out.trans (hb.mono HB0.out.size))
 have z0:w.heap.size<w1.heap.size:=Nat.lt_of_lt_of_le (by simp <;> omega) hb.size
 have s0_0:w1.cell? ⟨w.heap.size,0,none⟩=some (.slice A0_0 l0_0.length c0_0):=ZE hb (by go_simp)
 have s0_1:w1.cell? ⟨w.heap.size,1,none⟩=some (.slice A0_1 l0_1.length c0_1):=ZE hb (by go_simp)
 have s0_2:w1.cell? ⟨w.heap.size,2,none⟩=some (.int .i64 a0_2):=ZE hb (by go_simp)
 have z1:w.heap.size+1<w1.heap.size:=Nat.lt_of_lt_of_le (by simp <;> omega) hb.size
 have s1_0:w1.cell? ⟨w.heap.size+1,0,none⟩=some (.slice A1_0 l1_0.length c1_0):=ZE hb (by go_simp)
 have s1_1:w1.cell? ⟨w.heap.size+1,1,none⟩=some (.slice A1_1 l1_1.length c1_1):=ZE hb (by go_simp)
 replace Q0_0:=Za (And.intro Q0_0.out.1 (Zb Q0_0.out.2 hb))
 replace Q0_1:=Za (And.intro Q0_1.out.1 (Zb Q0_1.out.2 hb))
 replace Q1_0:=Za (And.intro Q1_0.out.1 (Zb Q1_0.out.2 hb))
 replace Q1_1:=Za (And.intro Q1_1.out.1 (Zb Q1_1.out.2 hb))
 have HK1:=Za fun (W:World) (hA:Below w1.heap.size w1 W)=>And.intro (HB1.out.trans (hA.mono HB1.out.size)) (And.intro (Nat.lt_of_lt_of_le z0 hA.size) (And.intro (ZE hA s0_0) (And.intro (ZE hA s0_1) (And.intro (ZE hA s0_2) (And.intro (Nat.lt_of_lt_of_le z1 hA.size) (And.intro (ZE hA s1_0) (And.intro (ZE hA s1_1) (And.intro (Za (And.intro Q0_0.out.1 (Zb Q0_0.out.2 hA))) (And.intro (Za (And.intro Q0_1.out.1 (Zb Q0_1.out.2 hA))) (And.intro (Za (And.intro Q1_0.out.1 (Zb Q1_0.out.2 hA))) ((Za (And.intro Q1_1.out.1 (Zb Q1_1.out.2 hA))))))))))))))
 clear z0 s0_0 s0_1 s0_2 z1 s1_0 s1_1 Q0_0 Q0_1 Q1_0 Q1_1 hb
 obtain⟨hB,z0,s0_0,s0_1,s0_2,z1,s1_0,s1_1,Q0_0,Q0_1,Q1_0,Q1_1⟩:=HK1.out _ (Below.refl _ _)
 go_wp2_with fail
 refine(ZbK.calls A1_0 c1_0 l1_0 A1_1 c1_1 l1_1 u0_0 _ _ Q1_0.out.2 Q1_0.out.1 Q1_1.out.2 Q1_1.out.1 HF1.out).mono ?_
 rintro e w2 ⟨rfl,hb⟩
 have B2:=Za hb;clear hB z0 s0_0 s0_1 s0_2 z1 s1_0 s1_1 Q0_0 Q0_1 Q1_0 Q1_1 hb
 have HK2:=Za fun (W:World) (hA:Below w2.heap.size w2 W)=>HK1.out W (B2.out.trans (hA.mono B2.out.size))
 obtain⟨hB,z0,s0_0,s0_1,s0_2,z1,s1_0,s1_1,Q0_0,Q0_1,Q1_0,Q1_1⟩:=HK2.out _ (Below.refl _ _)
 go_wp2_with fail
 have HKEY:=Za fun (W:World) (hA:Below w2.heap.size w2 W)=>(show Below w2.heap.size w2 W∧W.cell? ⟨w.heap.size,0,none⟩=some (.slice A0_0 l0_0.length c0_0)∧W.cell? ⟨w.heap.size,1,none⟩=some (.slice A0_1 l0_1.length c0_1)∧W.cell? ⟨w.heap.size,2,none⟩=some (.int .i64 a0_2)∧W.cell? ⟨w.heap.size+1,0,none⟩=some (.slice A1_0 l1_0.length c1_0)∧W.cell? ⟨w.heap.size+1,1,none⟩=some (.slice A1_1 l1_1.length c1_1) from(fun HQ_=>⟨hA,HQ_.2.2.1,HQ_.2.2.2.1,HQ_.2.2.2.2.1,HQ_.2.2.2.2.2.2.1,HQ_.2.2.2.2.2.2.2.1⟩) (HK2.out W hA))
 have HBJ0:=Za (Zo (Below.refl w2.heap.size w2))
 refine Zb0 (n:=11) (S:=fun w'=>w'.cell? ⟨w.heap.size,0,none⟩=some (.slice A0_0 l0_0.length c0_0)∧w'.cell? ⟨w.heap.size,1,none⟩=some (.slice A0_1 l0_1.length c0_1)∧w'.cell? ⟨w.heap.size,2,none⟩=some (.int .i64 a0_2)∧w'.cell? ⟨w.heap.size+1,0,none⟩=some (.slice A1_0 l1_0.length c1_0)∧w'.cell? ⟨w.heap.size+1,1,none⟩=some (.slice A1_1 l1_1.length c1_1)) (ds:=[]) #[false,false,false,false,false,false,false,false,false,false,false] (by kernel_rfl) rfl rfl ⟨(HKEY.out _ HBJ0.out).2.1,(HKEY.out _ HBJ0.out).2.2.1,(HKEY.out _ HBJ0.out).2.2.2.1,(HKEY.out _ HBJ0.out).2.2.2.2.1,(HKEY.out _ HBJ0.out).2.2.2.2.2⟩ (fun hHeld=>?_)
 generalize w2.drew=qJ0 at HBJ0 hHeld ⊢
 refine take_ (i:=0) (N:=some 28) (v:=?_) (a':=?_) #[true,false,false,false,false,false,false,false,false,false,false] rfl rfl (by kernel_rfl) (fun _ _ _ h=>h) (Or.inl ⟨by rfl,?_⟩) hHeld ?_ ?_
 rotate_left
 ·rintro w' ⟨s0,s1,s2,s3,s4⟩
  go_simp
  with_reducible rfl
 rotate_left
 ·simp only[Act.put,List.setIfInBounds_toArray,List.set_cons_zero,List.set_cons_succ,ZH,ZJ]
  rfl
 refine take_ (i:=2) (N:=some 30) (v:=?_) (a':=?_) #[true,false,true,false,false,false,false,false,false,false,false] rfl rfl (by kernel_rfl) (fun _ _ _ h=>h) (Or.inl ⟨by rfl,?_⟩) hHeld ?_ ?_
 rotate_left
 ·rintro w' ⟨s0,s1,s2,s3,s4⟩
  go_simp
  with_reducible rfl
 rotate_left
 ·simp only[Act.put,List.setIfInBounds_toArray,List.set_cons_zero,List.set_cons_succ,ZH,ZJ]
  rfl
 refine join_ (σ:=Value×Value×Value×Nat) 2 #[true,true,true,true,true,true,true,true,true,false,false] (fun s_=>[(29,s_.1),(31,s_.2.1),(32,.tuple #[.agg #[.int .i64 u5_0_0,s_.2.2.1],.bool u5_1]),(27,.tuple #[.agg #[.int .i64 u5_0_0,s_.2.2.1],.bool u5_1]),(33,.agg #[.int .i64 u5_0_0,s_.2.2.1]),(34,.bool u5_1),(6,.pointer (some ⟨s_.2.2.2,0,none⟩))]) (fun s_ w'=>Aside0 (Below w2.heap.size w2 w')∧Aside0 (w'.heap[s_.2.2.2]? = some (Obj.cells #[.int .i64 0,.slice none 0 0] 54 (0,0)))∧Aside0 (w2.heap.size≤s_.2.2.2)∧Aside0 (Kd.R k112 112 w' w2.heap.size (fun k_=>k_≠s_.2.2.2) s_.2.2.1 u5_0_1)) ?_ ?_
 rotate_left
 ·intro hCont
  refine two_ (i:=1) (j:=8) (Ni:=some 29) (Nj:=some 6) #[true,true,true,false,false,false,false,false,false,false,false] #[true,false,true,false,false,false,false,false,true,false,false] rfl rfl rfl rfl (by kernel_rfl) (by decide) (by decide) (fun K hK=>?_) (fun K hK=>?_)
  ·skip
   refine ZaV Tryz.func30 (by kernel_rfl) rfl #[.agg #[.slice A0_0 l0_0.length c0_0,.slice A0_1 l0_1.length c0_1,.int .i64 a0_2]] (by rfl) rfl rfl (by(try simp only[List.map_toArray,List.map_cons,List.map_nil]);first|done|rfl) ?_
   refine(ZaO.c k A0_0 c0_0 l0_0 A0_1 c0_1 l0_1 a0_2 _ _ _ _ (HK2.out _ HBJ0.out).2.2.2.2.2.2.2.2.1.out.2 (HK2.out _ HBJ0.out).2.2.2.2.2.2.2.2.1.out.1 (HK2.out _ HBJ0.out).2.2.2.2.2.2.2.2.2.1.out.2 (HK2.out _ HBJ0.out).2.2.2.2.2.2.2.2.2.1.out.1  HF2.out).mono ?_
   rintro e qJ1 ⟨X8j1_0,x8j1_0,X8j1_1,x8j1_1,rfl,g8j1_0,g8j1_1,hb⟩
   refine⟨_,rfl,?_⟩
   have HBJ1:=Za (Zt HBJ0.out hb)
   clear hb
   refine hK.out _ _ ⟨(HKEY.out _ HBJ1.out).2.1,(HKEY.out _ HBJ1.out).2.2.1,(HKEY.out _ HBJ1.out).2.2.2.1,(HKEY.out _ HBJ1.out).2.2.2.2.1,(HKEY.out _ HBJ1.out).2.2.2.2.2⟩ (fun hHeld=>?_)
   clear hK K
   refine Zaj (a':=?_) ?_ ?_
   rotate_left
   ·show Act.put _ (some 29) _=_
    simp only[Act.put,List.setIfInBounds_toArray,List.set_cons_zero,List.set_cons_succ,ZH,ZJ]
    rfl
   refine two_ (i:=3) (j:=8) (Ni:=some 31) (Nj:=some 6) #[true,true,true,true,false,false,false,false,false,false,false] #[true,true,true,false,false,false,false,false,true,false,false] rfl rfl rfl rfl (by kernel_rfl) (by decide) (by decide) (fun K hK=>?_) (fun K hK=>?_)
   ·skip
    refine ZaV Tryz.func31 (by kernel_rfl) rfl #[.agg #[.slice A1_0 l1_0.length c1_0,.slice A1_1 l1_1.length c1_1]] (by rfl) rfl rfl (by(try simp only[List.map_toArray,List.map_cons,List.map_nil]);first|done|rfl) ?_
    refine(Zas.c k A1_0 c1_0 l1_0 A1_1 c1_1 l1_1 _ _ _ (HK2.out _ HBJ1.out).2.2.2.2.2.2.2.2.2.2.1.out.2 (HK2.out _ HBJ1.out).2.2.2.2.2.2.2.2.2.2.1.out.1 (HK2.out _ HBJ1.out).2.2.2.2.2.2.2.2.2.2.2.out.2 (HK2.out _ HBJ1.out).2.2.2.2.2.2.2.2.2.2.2.out.1  HF3.out).mono ?_
    rintro e qJ2 ⟨X8j3_0,x8j3_0,X8j3_1,x8j3_1,rfl,g8j3_0,g8j3_1,hb⟩
    refine⟨_,rfl,?_⟩
    have HBJ2:=Za (Zt HBJ1.out hb)
    replace g8j1_0:=Za (And.intro g8j1_0.out.1 (Zb g8j1_0.out.2 hb))
    replace g8j1_1:=Za (And.intro g8j1_1.out.1 (Zb g8j1_1.out.2 hb))
    clear hb
    refine hK.out _ _ ⟨(HKEY.out _ HBJ2.out).2.1,(HKEY.out _ HBJ2.out).2.2.1,(HKEY.out _ HBJ2.out).2.2.2.1,(HKEY.out _ HBJ2.out).2.2.2.2.1,(HKEY.out _ HBJ2.out).2.2.2.2.2⟩ (fun hHeld=>?_)
    clear hK K
    refine Zaj (a':=?_) ?_ ?_
    rotate_left
    ·show Act.put _ (some 31) _=_
     simp only[Act.put,List.setIfInBounds_toArray,List.set_cons_zero,List.set_cons_succ,ZH,ZJ]
     rfl
    refine two_ (i:=4) (j:=8) (Ni:=some 32) (Nj:=some 6) #[true,true,true,true,true,false,false,false,false,false,false] #[true,true,true,true,false,false,false,false,true,false,false] rfl rfl rfl rfl (by kernel_rfl) (by decide) (by decide) (fun K hK=>?_) (fun K hK=>?_)
    ·skip
     refine ZaV Tryz.func29 (by kernel_rfl) rfl #[.agg #[.slice X8j1_0 u2_0_0.length x8j1_0,.slice X8j1_1 u2_0_1.length x8j1_1,.int .i64 u2_0_2],.agg #[.slice X8j3_0 u3_0_0.length x8j3_0,.slice X8j3_1 u3_0_1.length x8j3_1]] (by rfl) rfl rfl (by(try simp only[List.map_toArray,List.map_cons,List.map_nil]);first|done|rfl) ?_
     refine(Zr.calls k X8j1_0 x8j1_0 u2_0_0 X8j1_1 x8j1_1 u2_0_1 u2_0_2 X8j3_0 x8j3_0 u3_0_0 X8j3_1 x8j3_1 u3_0_1 _ _ _ _ g8j1_0.out.2 g8j1_0.out.1 g8j1_1.out.2 g8j1_1.out.1 g8j3_0.out.2 g8j3_0.out.1 g8j3_1.out.2 g8j3_1.out.1  HF4.out).mono ?_
     rintro e qJ3 ⟨vJ,rfl,hoJ,hb⟩
     refine⟨_,rfl,?_⟩
     have HBJ3:=Za (Zt HBJ2.out hb)
     replace g8j1_0:=Za (And.intro g8j1_0.out.1 (Zb g8j1_0.out.2 hb))
     replace g8j1_1:=Za (And.intro g8j1_1.out.1 (Zb g8j1_1.out.2 hb))
     replace g8j3_0:=Za (And.intro g8j3_0.out.1 (Zb g8j3_0.out.2 hb))
     replace g8j3_1:=Za (And.intro g8j3_1.out.1 (Zb g8j3_1.out.2 hb))
     have HOJ:=Za (Kd.R_lower hoJ HBJ2.out.size)
     clear hb hoJ
     refine hK.out _ _ ⟨(HKEY.out _ HBJ3.out).2.1,(HKEY.out _ HBJ3.out).2.2.1,(HKEY.out _ HBJ3.out).2.2.2.1,(HKEY.out _ HBJ3.out).2.2.2.2.1,(HKEY.out _ HBJ3.out).2.2.2.2.2⟩ (fun hHeld=>?_)
     clear hK K
     refine Zaj (a':=?_) ?_ ?_
     rotate_left
     ·show Act.put _ (some 32) _=_
      simp only[Act.put,List.setIfInBounds_toArray,List.set_cons_zero,List.set_cons_succ,ZH,ZJ]
      rfl
     refine ZX (i:=5) (N:=some 27) (v:=?_) (a':=?_) #[true,true,true,true,true,true,false,false,false,false,false] rfl rfl (by kernel_rfl) (fun _ _ _ h=>h) (Or.inl ⟨by rfl,?_⟩) ?_ ?_
     rotate_left
     ·intro w'
      go_simp
      with_reducible rfl
     rotate_left
     ·simp only[Act.put,List.setIfInBounds_toArray,List.set_cons_zero,List.set_cons_succ,ZH,ZJ]
      rfl
     refine ZX (i:=6) (N:=some 33) (v:=?_) (a':=?_) #[true,true,true,true,true,true,true,false,false,false,false] rfl rfl (by kernel_rfl) (fun _ _ _ h=>h) (Or.inl ⟨by rfl,?_⟩) ?_ ?_
     rotate_left
     ·intro w'
      go_simp
      with_reducible rfl
     rotate_left
     ·simp only[Act.put,List.setIfInBounds_toArray,List.set_cons_zero,List.set_cons_succ,ZH,ZJ]
      rfl
     refine ZX (i:=7) (N:=some 34) (v:=?_) (a':=?_) #[true,true,true,true,true,true,true,true,false,false,false] rfl rfl (by kernel_rfl) (fun _ _ _ h=>h) (Or.inl ⟨by rfl,?_⟩) ?_ ?_
     rotate_left
     ·intro w'
      go_simp
      with_reducible rfl
     rotate_left
     ·simp only[Act.put,List.setIfInBounds_toArray,List.set_cons_zero,List.set_cons_succ,ZH,ZJ]
      rfl
     refine one_ (i:=8) (N:=some 6) #[true,true,true,true,true,true,true,true,true,false,false] rfl rfl (by kernel_rfl) (by decide) (fun K hK=>?_)
     refine Zcr (by rfl) (N:=6) rfl (cs:=#[.int .i64 0,.slice none 0 0]) (t:=54) ?hr ?_
     (case hr=>first|(go_simp;done)|(go_simp;rfl))
     intro gbJ hgJ qJ4 hboxJ hb
     have HBJ4:=Za (Zt HBJ3.out hb)
     have BKJ:=Za hboxJ
     have HGJ:=Za (show w2.heap.size≤gbJ by rw[hgJ];exact HBJ3.out.size)
     replace g8j1_0:=Za (And.intro g8j1_0.out.1 (Zb g8j1_0.out.2 hb))
     replace g8j1_1:=Za (And.intro g8j1_1.out.1 (Zb g8j1_1.out.2 hb))
     replace g8j3_0:=Za (And.intro g8j3_0.out.1 (Zb g8j3_0.out.2 hb))
     replace g8j3_1:=Za (And.intro g8j3_1.out.1 (Zb g8j3_1.out.2 hb))
     replace HOJ:=Za (Kd.R_below (Kd.R_mono (Kd.R_elderB HOJ.out gbJ (Nat.le_of_eq hgJ.symm)) (fun _ hk=>hk.2)) hb)
     clear hb hboxJ hgJ
     refine hK.out _ _ ⟨(HKEY.out _ HBJ4.out).2.1,(HKEY.out _ HBJ4.out).2.2.1,(HKEY.out _ HBJ4.out).2.2.2.1,(HKEY.out _ HBJ4.out).2.2.2.2.1,(HKEY.out _ HBJ4.out).2.2.2.2.2⟩ (fun hHeld=>?_)
     clear hK K
     refine Zaj (a':=?_) ?_ ?_
     rotate_left
     ·show Act.put _ (some 6) _=_
      simp only[Act.put,List.setIfInBounds_toArray,List.set_cons_zero,List.set_cons_succ,ZH,ZJ]
      rfl
     exact Zaj (by simp only[Zce,Act.put,List.setIfInBounds_toArray,List.set_cons_zero,List.set_cons_succ]) (hCont (.agg #[.slice X8j1_0 u2_0_0.length x8j1_0,.slice X8j1_1 u2_0_1.length x8j1_1,.int .i64 u2_0_2],.agg #[.slice X8j3_0 u3_0_0.length x8j3_0,.slice X8j3_1 u3_0_1.length x8j3_1],vJ,gbJ) _ ⟨HBJ4,BKJ,HGJ,HOJ⟩)
    ·skip
     refine Zcr (by rfl) (N:=6) rfl (cs:=#[.int .i64 0,.slice none 0 0]) (t:=54) ?hr ?_
     (case hr=>first|(go_simp;done)|(go_simp;rfl))
     intro gbJ hgJ qJ5 hboxJ hb
     have HBJ3:=Za (Zt HBJ2.out hb)
     have BKJ:=Za hboxJ
     have HGJ:=Za (show w2.heap.size≤gbJ by rw[hgJ];exact HBJ2.out.size)
     replace g8j1_0:=Za (And.intro g8j1_0.out.1 (Zb g8j1_0.out.2 hb))
     replace g8j1_1:=Za (And.intro g8j1_1.out.1 (Zb g8j1_1.out.2 hb))
     replace g8j3_0:=Za (And.intro g8j3_0.out.1 (Zb g8j3_0.out.2 hb))
     replace g8j3_1:=Za (And.intro g8j3_1.out.1 (Zb g8j3_1.out.2 hb))
     clear hb hboxJ hgJ
     refine hK.out _ _ ⟨(HKEY.out _ HBJ3.out).2.1,(HKEY.out _ HBJ3.out).2.2.1,(HKEY.out _ HBJ3.out).2.2.2.1,(HKEY.out _ HBJ3.out).2.2.2.2.1,(HKEY.out _ HBJ3.out).2.2.2.2.2⟩ (fun hHeld=>?_)
     clear hK K
     refine Zaj (a':=?_) ?_ ?_
     rotate_left
     ·show Act.put _ (some 6) _=_
      simp only[Act.put,List.setIfInBounds_toArray,List.set_cons_zero,List.set_cons_succ,ZH,ZJ]
      rfl
     refine one_ (i:=4) (N:=some 32) #[true,true,true,true,true,false,false,false,true,false,false] rfl rfl (by kernel_rfl) (by decide) (fun K hK=>?_)
     refine ZaV Tryz.func29 (by kernel_rfl) rfl #[.agg #[.slice X8j1_0 u2_0_0.length x8j1_0,.slice X8j1_1 u2_0_1.length x8j1_1,.int .i64 u2_0_2],.agg #[.slice X8j3_0 u3_0_0.length x8j3_0,.slice X8j3_1 u3_0_1.length x8j3_1]] (by rfl) rfl rfl (by(try simp only[List.map_toArray,List.map_cons,List.map_nil]);first|done|rfl) ?_
     refine(Zr.calls k X8j1_0 x8j1_0 u2_0_0 X8j1_1 x8j1_1 u2_0_1 u2_0_2 X8j3_0 x8j3_0 u3_0_0 X8j3_1 x8j3_1 u3_0_1 _ _ _ _ g8j1_0.out.2 g8j1_0.out.1 g8j1_1.out.2 g8j1_1.out.1 g8j3_0.out.2 g8j3_0.out.1 g8j3_1.out.2 g8j3_1.out.1  HF4.out).mono ?_
     rintro e qJ6 ⟨vJ,rfl,hoJ,hb⟩
     refine⟨_,rfl,?_⟩
     have HBJ4:=Za (Zt HBJ3.out hb)
     replace g8j1_0:=Za (And.intro g8j1_0.out.1 (Zb g8j1_0.out.2 hb))
     replace g8j1_1:=Za (And.intro g8j1_1.out.1 (Zb g8j1_1.out.2 hb))
     replace g8j3_0:=Za (And.intro g8j3_0.out.1 (Zb g8j3_0.out.2 hb))
     replace g8j3_1:=Za (And.intro g8j3_1.out.1 (Zb g8j3_1.out.2 hb))
     have HOJ:=Za (Kd.R_lower (Kd.R_mono (Kd.R_newB hoJ BKJ.out) (fun _ hk=>hk.2)) HBJ3.out.size)
     replace BKJ:=Za (Zx BKJ.out hb)
     clear hb hoJ
     refine hK.out _ _ ⟨(HKEY.out _ HBJ4.out).2.1,(HKEY.out _ HBJ4.out).2.2.1,(HKEY.out _ HBJ4.out).2.2.2.1,(HKEY.out _ HBJ4.out).2.2.2.2.1,(HKEY.out _ HBJ4.out).2.2.2.2.2⟩ (fun hHeld=>?_)
     clear hK K
     refine Zaj (a':=?_) ?_ ?_
     rotate_left
     ·show Act.put _ (some 32) _=_
      simp only[Act.put,List.setIfInBounds_toArray,List.set_cons_zero,List.set_cons_succ,ZH,ZJ]
      rfl
     refine ZX (i:=5) (N:=some 27) (v:=?_) (a':=?_) #[true,true,true,true,true,true,false,false,true,false,false] rfl rfl (by kernel_rfl) (fun _ _ _ h=>h) (Or.inl ⟨by rfl,?_⟩) ?_ ?_
     rotate_left
     ·intro w'
      go_simp
      with_reducible rfl
     rotate_left
     ·simp only[Act.put,List.setIfInBounds_toArray,List.set_cons_zero,List.set_cons_succ,ZH,ZJ]
      rfl
     refine ZX (i:=6) (N:=some 33) (v:=?_) (a':=?_) #[true,true,true,true,true,true,true,false,true,false,false] rfl rfl (by kernel_rfl) (fun _ _ _ h=>h) (Or.inl ⟨by rfl,?_⟩) ?_ ?_
     rotate_left
     ·intro w'
      go_simp
      with_reducible rfl
     rotate_left
     ·simp only[Act.put,List.setIfInBounds_toArray,List.set_cons_zero,List.set_cons_succ,ZH,ZJ]
      rfl
     refine ZX (i:=7) (N:=some 34) (v:=?_) (a':=?_) #[true,true,true,true,true,true,true,true,true,false,false] rfl rfl (by kernel_rfl) (fun _ _ _ h=>h) (Or.inl ⟨by rfl,?_⟩) ?_ ?_
     rotate_left
     ·intro w'
      go_simp
      with_reducible rfl
     rotate_left
     ·simp only[Act.put,List.setIfInBounds_toArray,List.set_cons_zero,List.set_cons_succ,ZH,ZJ]
      rfl
     exact Zaj (by simp only[Zce,Act.put,List.setIfInBounds_toArray,List.set_cons_zero,List.set_cons_succ]) (hCont (.agg #[.slice X8j1_0 u2_0_0.length x8j1_0,.slice X8j1_1 u2_0_1.length x8j1_1,.int .i64 u2_0_2],.agg #[.slice X8j3_0 u3_0_0.length x8j3_0,.slice X8j3_1 u3_0_1.length x8j3_1],vJ,gbJ) _ ⟨HBJ4,BKJ,HGJ,HOJ⟩)
   ·skip
    refine Zcr (by rfl) (N:=6) rfl (cs:=#[.int .i64 0,.slice none 0 0]) (t:=54) ?hr ?_
    (case hr=>first|(go_simp;done)|(go_simp;rfl))
    intro gbJ hgJ qJ7 hboxJ hb
    have HBJ2:=Za (Zt HBJ1.out hb)
    have BKJ:=Za hboxJ
    have HGJ:=Za (show w2.heap.size≤gbJ by rw[hgJ];exact HBJ1.out.size)
    replace g8j1_0:=Za (And.intro g8j1_0.out.1 (Zb g8j1_0.out.2 hb))
    replace g8j1_1:=Za (And.intro g8j1_1.out.1 (Zb g8j1_1.out.2 hb))
    clear hb hboxJ hgJ
    refine hK.out _ _ ⟨(HKEY.out _ HBJ2.out).2.1,(HKEY.out _ HBJ2.out).2.2.1,(HKEY.out _ HBJ2.out).2.2.2.1,(HKEY.out _ HBJ2.out).2.2.2.2.1,(HKEY.out _ HBJ2.out).2.2.2.2.2⟩ (fun hHeld=>?_)
    clear hK K
    refine Zaj (a':=?_) ?_ ?_
    rotate_left
    ·show Act.put _ (some 6) _=_
     simp only[Act.put,List.setIfInBounds_toArray,List.set_cons_zero,List.set_cons_succ,ZH,ZJ]
     rfl
    refine one_ (i:=3) (N:=some 31) #[true,true,true,true,false,false,false,false,true,false,false] rfl rfl (by kernel_rfl) (by decide) (fun K hK=>?_)
    refine ZaV Tryz.func31 (by kernel_rfl) rfl #[.agg #[.slice A1_0 l1_0.length c1_0,.slice A1_1 l1_1.length c1_1]] (by rfl) rfl rfl (by(try simp only[List.map_toArray,List.map_cons,List.map_nil]);first|done|rfl) ?_
    refine(Zas.c k A1_0 c1_0 l1_0 A1_1 c1_1 l1_1 _ _ _ (HK2.out _ HBJ2.out).2.2.2.2.2.2.2.2.2.2.1.out.2 (HK2.out _ HBJ2.out).2.2.2.2.2.2.2.2.2.2.1.out.1 (HK2.out _ HBJ2.out).2.2.2.2.2.2.2.2.2.2.2.out.2 (HK2.out _ HBJ2.out).2.2.2.2.2.2.2.2.2.2.2.out.1  HF3.out).mono ?_
    rintro e qJ8 ⟨X8j3_0,x8j3_0,X8j3_1,x8j3_1,rfl,g8j3_0,g8j3_1,hb⟩
    refine⟨_,rfl,?_⟩
    have HBJ3:=Za (Zt HBJ2.out hb)
    replace g8j1_0:=Za (And.intro g8j1_0.out.1 (Zb g8j1_0.out.2 hb))
    replace g8j1_1:=Za (And.intro g8j1_1.out.1 (Zb g8j1_1.out.2 hb))
    replace BKJ:=Za (Zx BKJ.out hb)
    clear hb
    refine hK.out _ _ ⟨(HKEY.out _ HBJ3.out).2.1,(HKEY.out _ HBJ3.out).2.2.1,(HKEY.out _ HBJ3.out).2.2.2.1,(HKEY.out _ HBJ3.out).2.2.2.2.1,(HKEY.out _ HBJ3.out).2.2.2.2.2⟩ (fun hHeld=>?_)
    clear hK K
    refine Zaj (a':=?_) ?_ ?_
    rotate_left
    ·show Act.put _ (some 31) _=_
     simp only[Act.put,List.setIfInBounds_toArray,List.set_cons_zero,List.set_cons_succ,ZH,ZJ]
     rfl
    refine one_ (i:=4) (N:=some 32) #[true,true,true,true,true,false,false,false,true,false,false] rfl rfl (by kernel_rfl) (by decide) (fun K hK=>?_)
    refine ZaV Tryz.func29 (by kernel_rfl) rfl #[.agg #[.slice X8j1_0 u2_0_0.length x8j1_0,.slice X8j1_1 u2_0_1.length x8j1_1,.int .i64 u2_0_2],.agg #[.slice X8j3_0 u3_0_0.length x8j3_0,.slice X8j3_1 u3_0_1.length x8j3_1]] (by rfl) rfl rfl (by(try simp only[List.map_toArray,List.map_cons,List.map_nil]);first|done|rfl) ?_
    refine(Zr.calls k X8j1_0 x8j1_0 u2_0_0 X8j1_1 x8j1_1 u2_0_1 u2_0_2 X8j3_0 x8j3_0 u3_0_0 X8j3_1 x8j3_1 u3_0_1 _ _ _ _ g8j1_0.out.2 g8j1_0.out.1 g8j1_1.out.2 g8j1_1.out.1 g8j3_0.out.2 g8j3_0.out.1 g8j3_1.out.2 g8j3_1.out.1  HF4.out).mono ?_
    rintro e qJ9 ⟨vJ,rfl,hoJ,hb⟩
    refine⟨_,rfl,?_⟩
    have HBJ4:=Za (Zt HBJ3.out hb)
    replace g8j1_0:=Za (And.intro g8j1_0.out.1 (Zb g8j1_0.out.2 hb))
    replace g8j1_1:=Za (And.intro g8j1_1.out.1 (Zb g8j1_1.out.2 hb))
    replace g8j3_0:=Za (And.intro g8j3_0.out.1 (Zb g8j3_0.out.2 hb))
    replace g8j3_1:=Za (And.intro g8j3_1.out.1 (Zb g8j3_1.out.2 hb))
    have HOJ:=Za (Kd.R_lower (Kd.R_mono (Kd.R_newB hoJ BKJ.out) (fun _ hk=>hk.2)) HBJ3.out.size)
    replace BKJ:=Za (Zx BKJ.out hb)
    clear hb hoJ
    refine hK.out _ _ ⟨(HKEY.out _ HBJ4.out).2.1,(HKEY.out _ HBJ4.out).2.2.1,(HKEY.out _ HBJ4.out).2.2.2.1,(HKEY.out _ HBJ4.out).2.2.2.2.1,(HKEY.out _ HBJ4.out).2.2.2.2.2⟩ (fun hHeld=>?_)
    clear hK K
    refine Zaj (a':=?_) ?_ ?_
    rotate_left
    ·show Act.put _ (some 32) _=_
     simp only[Act.put,List.setIfInBounds_toArray,List.set_cons_zero,List.set_cons_succ,ZH,ZJ]
     rfl
    refine ZX (i:=5) (N:=some 27) (v:=?_) (a':=?_) #[true,true,true,true,true,true,false,false,true,false,false] rfl rfl (by kernel_rfl) (fun _ _ _ h=>h) (Or.inl ⟨by rfl,?_⟩) ?_ ?_
    rotate_left
    ·intro w'
     go_simp
     with_reducible rfl
    rotate_left
    ·simp only[Act.put,List.setIfInBounds_toArray,List.set_cons_zero,List.set_cons_succ,ZH,ZJ]
     rfl
    refine ZX (i:=6) (N:=some 33) (v:=?_) (a':=?_) #[true,true,true,true,true,true,true,false,true,false,false] rfl rfl (by kernel_rfl) (fun _ _ _ h=>h) (Or.inl ⟨by rfl,?_⟩) ?_ ?_
    rotate_left
    ·intro w'
     go_simp
     with_reducible rfl
    rotate_left
    ·simp only[Act.put,List.setIfInBounds_toArray,List.set_cons_zero,List.set_cons_succ,ZH,ZJ]
     rfl
    refine ZX (i:=7) (N:=some 34) (v:=?_) (a':=?_) #[true,true,true,true,true,true,true,true,true,false,false] rfl rfl (by kernel_rfl) (fun _ _ _ h=>h) (Or.inl ⟨by rfl,?_⟩) ?_ ?_
    rotate_left
    ·intro w'
     go_simp
     with_reducible rfl
    rotate_left
    ·simp only[Act.put,List.setIfInBounds_toArray,List.set_cons_zero,List.set_cons_succ,ZH,ZJ]
     rfl
    exact Zaj (by simp only[Zce,Act.put,List.setIfInBounds_toArray,List.set_cons_zero,List.set_cons_succ]) (hCont (.agg #[.slice X8j1_0 u2_0_0.length x8j1_0,.slice X8j1_1 u2_0_1.length x8j1_1,.int .i64 u2_0_2],.agg #[.slice X8j3_0 u3_0_0.length x8j3_0,.slice X8j3_1 u3_0_1.length x8j3_1],vJ,gbJ) _ ⟨HBJ4,BKJ,HGJ,HOJ⟩)
  ·skip
   refine Zcr (by rfl) (N:=6) rfl (cs:=#[.int .i64 0,.slice none 0 0]) (t:=54) ?hr ?_
   (case hr=>first|(go_simp;done)|(go_simp;rfl))
   intro gbJ hgJ qJ10 hboxJ hb
   have HBJ1:=Za (Zt HBJ0.out hb)
   have BKJ:=Za hboxJ
   have HGJ:=Za (show w2.heap.size≤gbJ by rw[hgJ];exact HBJ0.out.size)
   clear hb hboxJ hgJ
   refine hK.out _ _ ⟨(HKEY.out _ HBJ1.out).2.1,(HKEY.out _ HBJ1.out).2.2.1,(HKEY.out _ HBJ1.out).2.2.2.1,(HKEY.out _ HBJ1.out).2.2.2.2.1,(HKEY.out _ HBJ1.out).2.2.2.2.2⟩ (fun hHeld=>?_)
   clear hK K
   refine Zaj (a':=?_) ?_ ?_
   rotate_left
   ·show Act.put _ (some 6) _=_
    simp only[Act.put,List.setIfInBounds_toArray,List.set_cons_zero,List.set_cons_succ,ZH,ZJ]
    rfl
   refine one_ (i:=1) (N:=some 29) #[true,true,true,false,false,false,false,false,true,false,false] rfl rfl (by kernel_rfl) (by decide) (fun K hK=>?_)
   refine ZaV Tryz.func30 (by kernel_rfl) rfl #[.agg #[.slice A0_0 l0_0.length c0_0,.slice A0_1 l0_1.length c0_1,.int .i64 a0_2]] (by rfl) rfl rfl (by(try simp only[List.map_toArray,List.map_cons,List.map_nil]);first|done|rfl) ?_
   refine(ZaO.c k A0_0 c0_0 l0_0 A0_1 c0_1 l0_1 a0_2 _ _ _ _ (HK2.out _ HBJ1.out).2.2.2.2.2.2.2.2.1.out.2 (HK2.out _ HBJ1.out).2.2.2.2.2.2.2.2.1.out.1 (HK2.out _ HBJ1.out).2.2.2.2.2.2.2.2.2.1.out.2 (HK2.out _ HBJ1.out).2.2.2.2.2.2.2.2.2.1.out.1  HF2.out).mono ?_
   rintro e qJ11 ⟨X8j1_0,x8j1_0,X8j1_1,x8j1_1,rfl,g8j1_0,g8j1_1,hb⟩
   refine⟨_,rfl,?_⟩
   have HBJ2:=Za (Zt HBJ1.out hb)
   replace BKJ:=Za (Zx BKJ.out hb)
   clear hb
   refine hK.out _ _ ⟨(HKEY.out _ HBJ2.out).2.1,(HKEY.out _ HBJ2.out).2.2.1,(HKEY.out _ HBJ2.out).2.2.2.1,(HKEY.out _ HBJ2.out).2.2.2.2.1,(HKEY.out _ HBJ2.out).2.2.2.2.2⟩ (fun hHeld=>?_)
   clear hK K
   refine Zaj (a':=?_) ?_ ?_
   rotate_left
   ·show Act.put _ (some 29) _=_
    simp only[Act.put,List.setIfInBounds_toArray,List.set_cons_zero,List.set_cons_succ,ZH,ZJ]
    rfl
   refine one_ (i:=3) (N:=some 31) #[true,true,true,true,false,false,false,false,true,false,false] rfl rfl (by kernel_rfl) (by decide) (fun K hK=>?_)
   refine ZaV Tryz.func31 (by kernel_rfl) rfl #[.agg #[.slice A1_0 l1_0.length c1_0,.slice A1_1 l1_1.length c1_1]] (by rfl) rfl rfl (by(try simp only[List.map_toArray,List.map_cons,List.map_nil]);first|done|rfl) ?_
   refine(Zas.c k A1_0 c1_0 l1_0 A1_1 c1_1 l1_1 _ _ _ (HK2.out _ HBJ2.out).2.2.2.2.2.2.2.2.2.2.1.out.2 (HK2.out _ HBJ2.out).2.2.2.2.2.2.2.2.2.2.1.out.1 (HK2.out _ HBJ2.out).2.2.2.2.2.2.2.2.2.2.2.out.2 (HK2.out _ HBJ2.out).2.2.2.2.2.2.2.2.2.2.2.out.1  HF3.out).mono ?_
   rintro e qJ12 ⟨X8j3_0,x8j3_0,X8j3_1,x8j3_1,rfl,g8j3_0,g8j3_1,hb⟩
   refine⟨_,rfl,?_⟩
   have HBJ3:=Za (Zt HBJ2.out hb)
   replace g8j1_0:=Za (And.intro g8j1_0.out.1 (Zb g8j1_0.out.2 hb))
   replace g8j1_1:=Za (And.intro g8j1_1.out.1 (Zb g8j1_1.out.2 hb))
   replace BKJ:=Za (Zx BKJ.out hb)
   clear hb
   refine hK.out _ _ ⟨(HKEY.out _ HBJ3.out).2.1,(HKEY.out _ HBJ3.out).2.2.1,(HKEY.out _ HBJ3.out).2.2.2.1,(HKEY.out _ HBJ3.out).2.2.2.2.1,(HKEY.out _ HBJ3.out).2.2.2.2.2⟩ (fun hHeld=>?_)
   clear hK K
   refine Zaj (a':=?_) ?_ ?_
   rotate_left
   ·show Act.put _ (some 31) _=_
    simp only[Act.put,List.setIfInBounds_toArray,List.set_cons_zero,List.set_cons_succ,ZH,ZJ]
    rfl
   refine one_ (i:=4) (N:=some 32) #[true,true,true,true,true,false,false,false,true,false,false] rfl rfl (by kernel_rfl) (by decide) (fun K hK=>?_)
   refine ZaV Tryz.func29 (by kernel_rfl) rfl #[.agg #[.slice X8j1_0 u2_0_0.length x8j1_0,.slice X8j1_1 u2_0_1.length x8j1_1,.int .i64 u2_0_2],.agg #[.slice X8j3_0 u3_0_0.length x8j3_0,.slice X8j3_1 u3_0_1.length x8j3_1]] (by rfl) rfl rfl (by(try simp only[List.map_toArray,List.map_cons,List.map_nil]);first|done|rfl) ?_
   refine(Zr.calls k X8j1_0 x8j1_0 u2_0_0 X8j1_1 x8j1_1 u2_0_1 u2_0_2 X8j3_0 x8j3_0 u3_0_0 X8j3_1 x8j3_1 u3_0_1 _ _ _ _ g8j1_0.out.2 g8j1_0.out.1 g8j1_1.out.2 g8j1_1.out.1 g8j3_0.out.2 g8j3_0.out.1 g8j3_1.out.2 g8j3_1.out.1  HF4.out).mono ?_
   rintro e qJ13 ⟨vJ,rfl,hoJ,hb⟩
   refine⟨_,rfl,?_⟩
   have HBJ4:=Za (Zt HBJ3.out hb)
   replace g8j1_0:=Za (And.intro g8j1_0.out.1 (Zb g8j1_0.out.2 hb))
   replace g8j1_1:=Za (And.intro g8j1_1.out.1 (Zb g8j1_1.out.2 hb))
   replace g8j3_0:=Za (And.intro g8j3_0.out.1 (Zb g8j3_0.out.2 hb))
   replace g8j3_1:=Za (And.intro g8j3_1.out.1 (Zb g8j3_1.out.2 hb))
   have HOJ:=Za (Kd.R_lower (Kd.R_mono (Kd.R_newB hoJ BKJ.out) (fun _ hk=>hk.2)) HBJ3.out.size)
   replace BKJ:=Za (Zx BKJ.out hb)
   clear hb hoJ
   refine hK.out _ _ ⟨(HKEY.out _ HBJ4.out).2.1,(HKEY.out _ HBJ4.out).2.2.1,(HKEY.out _ HBJ4.out).2.2.2.1,(HKEY.out _ HBJ4.out).2.2.2.2.1,(HKEY.out _ HBJ4.out).2.2.2.2.2⟩ (fun hHeld=>?_)
   clear hK K
   refine Zaj (a':=?_) ?_ ?_
   rotate_left
   ·show Act.put _ (some 32) _=_
    simp only[Act.put,List.setIfInBounds_toArray,List.set_cons_zero,List.set_cons_succ,ZH,ZJ]
    rfl
   refine ZX (i:=5) (N:=some 27) (v:=?_) (a':=?_) #[true,true,true,true,true,true,false,false,true,false,false] rfl rfl (by kernel_rfl) (fun _ _ _ h=>h) (Or.inl ⟨by rfl,?_⟩) ?_ ?_
   rotate_left
   ·intro w'
    go_simp
    with_reducible rfl
   rotate_left
   ·simp only[Act.put,List.setIfInBounds_toArray,List.set_cons_zero,List.set_cons_succ,ZH,ZJ]
    rfl
   refine ZX (i:=6) (N:=some 33) (v:=?_) (a':=?_) #[true,true,true,true,true,true,true,false,true,false,false] rfl rfl (by kernel_rfl) (fun _ _ _ h=>h) (Or.inl ⟨by rfl,?_⟩) ?_ ?_
   rotate_left
   ·intro w'
    go_simp
    with_reducible rfl
   rotate_left
   ·simp only[Act.put,List.setIfInBounds_toArray,List.set_cons_zero,List.set_cons_succ,ZH,ZJ]
    rfl
   refine ZX (i:=7) (N:=some 34) (v:=?_) (a':=?_) #[true,true,true,true,true,true,true,true,true,false,false] rfl rfl (by kernel_rfl) (fun _ _ _ h=>h) (Or.inl ⟨by rfl,?_⟩) ?_ ?_
   rotate_left
   ·intro w'
    go_simp
    with_reducible rfl
   rotate_left
   ·simp only[Act.put,List.setIfInBounds_toArray,List.set_cons_zero,List.set_cons_succ,ZH,ZJ]
    rfl
   exact Zaj (by simp only[Zce,Act.put,List.setIfInBounds_toArray,List.set_cons_zero,List.set_cons_succ]) (hCont (.agg #[.slice X8j1_0 u2_0_0.length x8j1_0,.slice X8j1_1 u2_0_1.length x8j1_1,.int .i64 u2_0_2],.agg #[.slice X8j3_0 u3_0_0.length x8j3_0,.slice X8j3_1 u3_0_1.length x8j3_1],vJ,gbJ) _ ⟨HBJ4,BKJ,HGJ,HOJ⟩)
 rintro⟨sJ29,sJ31,vJ,gbJ⟩ qJ ⟨HBJ,BKJ,HGJ,HOJ⟩
 dsimp only at BKJ HGJ HOJ
 obtain⟨X8j4_0,x8j4_0,eJ⟩:=Kd.R_slice HOJ.out
 subst eJ
 have hHeld:qJ.cell? ⟨w.heap.size,0,none⟩=some (.slice A0_0 l0_0.length c0_0)∧qJ.cell? ⟨w.heap.size,1,none⟩=some (.slice A0_1 l0_1.length c0_1)∧qJ.cell? ⟨w.heap.size,2,none⟩=some (.int .i64 a0_2)∧qJ.cell? ⟨w.heap.size+1,0,none⟩=some (.slice A1_0 l1_0.length c1_0)∧qJ.cell? ⟨w.heap.size+1,1,none⟩=some (.slice A1_1 l1_1.length c1_1):=⟨(HKEY.out _ HBJ.out).2.1,(HKEY.out _ HBJ.out).2.2.1,(HKEY.out _ HBJ.out).2.2.2.1,(HKEY.out _ HBJ.out).2.2.2.2.1,(HKEY.out _ HBJ.out).2.2.2.2.2⟩
 have kzJ0:qJ.cell? ⟨gbJ,0,none⟩=some (.int .i64 0):=(Zp BKJ.out 0).trans rfl
 have kzJ1:qJ.cell? ⟨gbJ,1,none⟩=some (.slice none 0 0):=(Zp BKJ.out 1).trans rfl
 have fzJ0:=Zs BKJ.out 0
 have fzJ1:=Zs BKJ.out 1
 refine Zaj (a':=?_) ?_ ?_
 rotate_left
 ·simp only[Zce,Act.put,List.setIfInBounds_toArray,List.set_cons_zero,List.set_cons_succ]
  rfl
 refine one_ (i:=9) (N:=none) #[true,true,true,true,true,true,true,true,true,true,false] rfl rfl (by kernel_rfl) (by decide) (fun K hK=>?_)
 refine skip_ (w1:=?_) (by rfl) rfl ?_ ?_
 rotate_left
 ·go_simp
  rfl
 refine hK.out _ _ ⟨(HKEY.out _ (Zq (j:=1) (v:=.slice X8j4_0 u5_0_1.length x8j4_0) (Zq (j:=0) (v:=.int .i64 u5_0_0) HBJ.out HGJ.out) HGJ.out)).2.1,(HKEY.out _ (Zq (j:=1) (v:=.slice X8j4_0 u5_0_1.length x8j4_0) (Zq (j:=0) (v:=.int .i64 u5_0_0) HBJ.out HGJ.out) HGJ.out)).2.2.1,(HKEY.out _ (Zq (j:=1) (v:=.slice X8j4_0 u5_0_1.length x8j4_0) (Zq (j:=0) (v:=.int .i64 u5_0_0) HBJ.out HGJ.out) HGJ.out)).2.2.2.1,(HKEY.out _ (Zq (j:=1) (v:=.slice X8j4_0 u5_0_1.length x8j4_0) (Zq (j:=0) (v:=.int .i64 u5_0_0) HBJ.out HGJ.out) HGJ.out)).2.2.2.2.1,(HKEY.out _ (Zq (j:=1) (v:=.slice X8j4_0 u5_0_1.length x8j4_0) (Zq (j:=0) (v:=.int .i64 u5_0_0) HBJ.out HGJ.out) HGJ.out)).2.2.2.2.2⟩ (fun hHeld=>?_)
 clear hK K
 refine ZX (i:=10) (N:=some 7) (v:=?_) (a':=?_) #[true,true,true,true,true,true,true,true,true,true,true] rfl rfl (by kernel_rfl) (fun _ _ _ h=>h) (Or.inl ⟨by rfl,?_⟩) ?_ ?_
 rotate_left
 ·intro w'
  go_simp
  with_reducible rfl
 rotate_left
 ·simp only[Act.put,List.setIfInBounds_toArray,List.set_cons_zero,List.set_cons_succ,ZH,ZJ]
  rfl
 refine Zcp (by kernel_rfl) ?_
 have B3:=Za (Zq (j:=1) (v:=.slice X8j4_0 u5_0_1.length x8j4_0) (Zq (j:=0) (v:=.int .i64 u5_0_0) HBJ.out HGJ.out) HGJ.out)
 have RJ:=(Kd.R_far (p:=⟨gbJ,1,none⟩) (Kd.R_far (p:=⟨gbJ,0,none⟩) HOJ.out (fun _ hk=>hk) (.int .i64 u5_0_0)) (fun _ hk=>hk) (.slice X8j4_0 u5_0_1.length x8j4_0))
 have BJ:=(ZP (cs:=#[.int .i64 u5_0_0,.slice none 0 0]) (ZP (cs:=#[.int .i64 0,.slice none 0 0]) BKJ.out 0 (.int .i64 u5_0_0) rfl) 1 (.slice X8j4_0 u5_0_1.length x8j4_0) rfl)
 have z2:=ZW BJ
 have s2_0:((qJ.setCell ⟨gbJ,0,none⟩ (.int .i64 u5_0_0)).setCell ⟨gbJ,1,none⟩ (.slice X8j4_0 u5_0_1.length x8j4_0)).cell? ⟨gbJ,0,none⟩=some (.int .i64 u5_0_0):=(Zp BJ 0).trans rfl
 have s2_1:((qJ.setCell ⟨gbJ,0,none⟩ (.int .i64 u5_0_0)).setCell ⟨gbJ,1,none⟩ (.slice X8j4_0 u5_0_1.length x8j4_0)).cell? ⟨gbJ,1,none⟩=some (.slice X8j4_0 u5_0_1.length x8j4_0):=(Zp BJ 1).trans rfl
 have g8j4_0:=Za (And.intro (Kd.R_reads' RJ).2.1 (Kd.R_reads' RJ).2.2)
 clear RJ BJ HKEY BKJ HOJ HBJ hHeld kzJ0 fzJ0 kzJ1 fzJ1 HBJ0
 generalize ((qJ.setCell ⟨gbJ,0,none⟩ (.int .i64 u5_0_0)).setCell ⟨gbJ,1,none⟩ (.slice X8j4_0 u5_0_1.length x8j4_0))=w3 at B3 z2 s2_0 s2_1 g8j4_0 ⊢
 clear hB z0 s0_0 s0_1 s0_2 z1 s1_0 s1_1 Q0_0 Q0_1 Q1_0 Q1_1
 have HK3:=Za fun (W:World) (hA:Below w3.heap.size w3 W)=>And.intro (HK2.out W (B3.out.trans (hA.mono B3.out.size))) (And.intro (Nat.lt_of_lt_of_le z2 hA.size) (And.intro (ZE hA s2_0) (And.intro (ZE hA s2_1) ((Za (And.intro g8j4_0.out.1 (Zb g8j4_0.out.2 hA)))))))
 clear z2 s2_0 s2_1 g8j4_0
 obtain⟨⟨hB,z0,s0_0,s0_1,s0_2,z1,s1_0,s1_1,Q0_0,Q0_1,Q1_0,Q1_1⟩,z2,s2_0,s2_1,g8j4_0⟩:=HK3.out _ (Below.refl _ _)
 go_wp2_with fail
 refine(ZaO.o k A0_0 c0_0 l0_0 A0_1 c0_1 l0_1 a0_2 _ _ _ _ Q0_0.out.2 Q0_0.out.1 Q0_1.out.2 Q0_1.out.1 HF2.out).mono ?_
 rintro e w4 ⟨X4_0,x4_0,X4_1,x4_1,rfl,g4_0,g4_1,ow4,hb⟩
 have B4:=Za hb
 replace ow4:=Za (And.intro (Kd.S_lower (Kd.S_mono ow4.out.1 (fun k hk=>And.intro hk.1 (And.intro (Nat.le_trans (Nat.le_refl _) hk.2.1) hk.2.2))) (Nat.le_refl _)) (Kd.R_lower (Kd.R_mono ow4.out.2 (fun k hk=>And.intro hk.1 (And.intro (Nat.le_trans (Nat.le_refl _) hk.2.1) hk.2.2))) (Nat.le_refl _)))
 have sz4:=Nat.le_refl w4.heap.size
 have bE:=B4.out
 clear hB z0 s0_0 s0_1 s0_2 z1 s1_0 s1_1 Q0_0 Q0_1 Q1_0 Q1_1 z2 s2_0 s2_1 g8j4_0 hb
 have HK4:=Za fun (W:World) (hA:Below w4.heap.size w4 W)=>And.intro (HK3.out W (B4.out.trans (hA.mono B4.out.size))) (And.intro (Za (And.intro (Kd.S_below ow4.out.1 hA) (Kd.R_below ow4.out.2 hA))) (And.intro (Nat.le_trans sz4 hA.size) (And.intro (bE.trans (hA.mono bE.size)) (And.intro (Za (And.intro g4_0.out.1 (Zb g4_0.out.2 hA))) ((Za (And.intro g4_1.out.1 (Zb g4_1.out.2 hA))))))))
 clear ow4 sz4 bE g4_0 g4_1
 obtain⟨⟨⟨hB,z0,s0_0,s0_1,s0_2,z1,s1_0,s1_1,Q0_0,Q0_1,Q1_0,Q1_1⟩,z2,s2_0,s2_1,g8j4_0⟩,ow4,sz4,bE,g4_0,g4_1⟩:=HK4.out _ (Below.refl _ _)
 go_wp2_with fail
 refine(Zas.o k A1_0 c1_0 l1_0 A1_1 c1_1 l1_1 _ _ _ (Zb Q1_0.out.2 (Zn (Below.refl _ _) _)) Q1_0.out.1 (Zb Q1_1.out.2 (Zn (Below.refl _ _) _)) Q1_1.out.1 HF3.out).mono ?_
 rintro e w5 ⟨X5_0,x5_0,X5_1,x5_1,rfl,g5_0,g5_1,ow5,hb⟩
 have B5:=Za (Zt (Zn (Below.refl w4.heap.size w4) _) hb)
 replace ow5:=Za (And.intro (Kd.R_lower (Kd.R_mono ow5.out.1 (fun k hk=>And.intro hk.1 (And.intro (Nat.le_trans (Zn (Below.refl w4.heap.size w4) _).size hk.2.1) hk.2.2))) (Nat.le_trans bE.size (Zn (Below.refl w4.heap.size w4) _).size)) (Kd.R_lower (Kd.R_mono ow5.out.2 (fun k hk=>And.intro hk.1 (And.intro (Nat.le_trans (Zn (Below.refl w4.heap.size w4) _).size hk.2.1) hk.2.2))) (Nat.le_trans bE.size (Zn (Below.refl w4.heap.size w4) _).size)))
 have sz5:=Nat.le_refl w5.heap.size
 have z3:w4.heap.size<w5.heap.size:=Nat.lt_of_lt_of_le (by simp <;> omega) hb.size
 have s3_0:w5.cell? ⟨w4.heap.size,0,none⟩=some (.slice X4_0 u2_0_0.length x4_0):=ZE hb (by go_simp)
 have s3_1:w5.cell? ⟨w4.heap.size,1,none⟩=some (.slice X4_1 u2_0_1.length x4_1):=ZE hb (by go_simp)
 have s3_2:w5.cell? ⟨w4.heap.size,2,none⟩=some (.int .i64 u2_0_2):=ZE hb (by go_simp)
 clear hB z0 s0_0 s0_1 s0_2 z1 s1_0 s1_1 Q0_0 Q0_1 Q1_0 Q1_1 z2 s2_0 s2_1 g8j4_0 ow4 sz4 bE g4_0 g4_1 hb
 have HK5:=Za fun (W:World) (hA:Below w5.heap.size w5 W)=>And.intro (HK4.out W (B5.out.trans (hA.mono B5.out.size))) (And.intro (Za (And.intro (Kd.R_below ow5.out.1 hA) (Kd.R_below ow5.out.2 hA))) (And.intro (Nat.le_trans sz5 hA.size) (And.intro (Nat.lt_of_lt_of_le z3 hA.size) (And.intro (ZE hA s3_0) (And.intro (ZE hA s3_1) (And.intro (ZE hA s3_2) (And.intro (Za (And.intro g5_0.out.1 (Zb g5_0.out.2 hA))) ((Za (And.intro g5_1.out.1 (Zb g5_1.out.2 hA)))))))))))
 clear ow5 sz5 z3 s3_0 s3_1 s3_2 g5_0 g5_1
 obtain⟨⟨⟨⟨hB,z0,s0_0,s0_1,s0_2,z1,s1_0,s1_1,Q0_0,Q0_1,Q1_0,Q1_1⟩,z2,s2_0,s2_1,g8j4_0⟩,ow4,sz4,bE,g4_0,g4_1⟩,ow5,sz5,z3,s3_0,s3_1,s3_2,g5_0,g5_1⟩:=HK5.out _ (Below.refl _ _)
 have le4_5:=sz4
 go_wp2_with fail
 refine(ZaA.o k X4_0 x4_0 u2_0_0 X4_1 x4_1 u2_0_1 u2_0_2 X5_0 x5_0 u3_0_0 X5_1 x5_1 u3_0_1 _ _ _ _ (Zb g4_0.out.2 (Zn (Below.refl _ _) _)) g4_0.out.1 (Zb g4_1.out.2 (Zn (Below.refl _ _) _)) g4_1.out.1 (Zb g5_0.out.2 (Zn (Below.refl _ _) _)) g5_0.out.1 (Zb g5_1.out.2 (Zn (Below.refl _ _) _)) g5_1.out.1 (TW.below HTW.out (Zn hB _)) HF5.out).mono ?_
 rintro e w6 ⟨X6_0,x6_0,rfl,g6_0,ow6,hb⟩
 have B6:=Za (Zt (Zn (Below.refl w5.heap.size w5) _) hb)
 replace ow6:=Za (Kd.R_lower (Kd.R_mono ow6.out (fun k hk=>And.intro hk.1 (And.intro (Nat.le_trans (Zn (Below.refl w5.heap.size w5) _).size hk.2.1) hk.2.2))) (Nat.le_trans bE.size (Zn (Below.refl w5.heap.size w5) _).size))
 have sz6:=Nat.le_refl w6.heap.size
 have z4:w5.heap.size<w6.heap.size:=Nat.lt_of_lt_of_le (by simp <;> omega) hb.size
 have s4_0:w6.cell? ⟨w5.heap.size,0,none⟩=some (.slice X5_0 u3_0_0.length x5_0):=ZE hb (by go_simp)
 have s4_1:w6.cell? ⟨w5.heap.size,1,none⟩=some (.slice X5_1 u3_0_1.length x5_1):=ZE hb (by go_simp)
 clear hB z0 s0_0 s0_1 s0_2 z1 s1_0 s1_1 Q0_0 Q0_1 Q1_0 Q1_1 z2 s2_0 s2_1 g8j4_0 ow4 sz4 bE g4_0 g4_1 ow5 sz5 z3 s3_0 s3_1 s3_2 g5_0 g5_1 hb
 have HK6:=Za fun (W:World) (hA:Below w6.heap.size w6 W)=>And.intro (HK5.out W (B6.out.trans (hA.mono B6.out.size))) (And.intro (Za (Kd.R_below ow6.out hA)) (And.intro (Nat.le_trans sz6 hA.size) (And.intro (Nat.lt_of_lt_of_le z4 hA.size) (And.intro (ZE hA s4_0) (And.intro (ZE hA s4_1) ((Za (And.intro g6_0.out.1 (Zb g6_0.out.2 hA)))))))))
 clear ow6 sz6 z4 s4_0 s4_1 g6_0
 obtain⟨⟨⟨⟨⟨hB,z0,s0_0,s0_1,s0_2,z1,s1_0,s1_1,Q0_0,Q0_1,Q1_0,Q1_1⟩,z2,s2_0,s2_1,g8j4_0⟩,ow4,sz4,bE,g4_0,g4_1⟩,ow5,sz5,z3,s3_0,s3_1,s3_2,g5_0,g5_1⟩,ow6,sz6,z4,s4_0,s4_1,g6_0⟩:=HK6.out _ (Below.refl _ _)
 have le4_6:=sz4
 have le5_6:=sz5
 go_wp2_with fail
 refine(ZcW.same u5_0_0 X6_0 x6_0 X8j4_0 x8j4_0 u5_0_1 _ (Zb g6_0.out.2 (Zn (Below.refl _ _) _)) g6_0.out.1 (Zb g8j4_0.out.2 (Zn (Below.refl _ _) _)) g8j4_0.out.1).mono ?_
 rintro e w7 ⟨rfl,hb⟩
 have B7:=Za (Zt (Zn (Below.refl w6.heap.size w6) _) hb)
 have z5:w6.heap.size<w7.heap.size:=Nat.lt_of_lt_of_le (by simp <;> omega) hb.size
 have s5_0:w7.cell? ⟨w6.heap.size,0,none⟩=some (.int .i64 u5_0_0):=ZE hb (by go_simp)
 have s5_1:w7.cell? ⟨w6.heap.size,1,none⟩=some (.slice X6_0 u5_0_1.length x6_0):=ZE hb (by go_simp)
 clear hB z0 s0_0 s0_1 s0_2 z1 s1_0 s1_1 Q0_0 Q0_1 Q1_0 Q1_1 z2 s2_0 s2_1 g8j4_0 ow4 sz4 bE g4_0 g4_1 ow5 sz5 z3 s3_0 s3_1 s3_2 g5_0 g5_1 ow6 sz6 z4 s4_0 s4_1 g6_0 hb
 have HK7:=Za fun (W:World) (hA:Below w7.heap.size w7 W)=>And.intro (HK6.out W (B7.out.trans (hA.mono B7.out.size))) (And.intro (Nat.lt_of_lt_of_le z5 hA.size) (And.intro (ZE hA s5_0) ((ZE hA s5_1))))
 clear z5 s5_0 s5_1
 obtain⟨⟨⟨⟨⟨⟨hB,z0,s0_0,s0_1,s0_2,z1,s1_0,s1_1,Q0_0,Q0_1,Q1_0,Q1_1⟩,z2,s2_0,s2_1,g8j4_0⟩,ow4,sz4,bE,g4_0,g4_1⟩,ow5,sz5,z3,s3_0,s3_1,s3_2,g5_0,g5_1⟩,ow6,sz6,z4,s4_0,s4_1,g6_0⟩,z5,s5_0,s5_1⟩:=HK7.out _ (Below.refl _ _)
 have le4_7:=sz4
 have le5_7:=sz5
 have le6_7:=sz6
 go_wp2_with fail
 go_region_held3 (fun w'=>Below w7.heap.size w7 w'∧w'.cell? ⟨w4.heap.size,0,none⟩=some (.slice X4_0 u2_0_0.length x4_0)∧w'.cell? ⟨w4.heap.size,1,none⟩=some (.slice X4_1 u2_0_1.length x4_1)∧w'.cell? ⟨w4.heap.size,2,none⟩=some (.int .i64 u2_0_2)∧w'.cell? ⟨w.heap.size,0,none⟩=some (.slice A0_0 l0_0.length c0_0)∧w'.cell? ⟨w.heap.size,1,none⟩=some (.slice A0_1 l0_1.length c0_1)∧w'.cell? ⟨w.heap.size,2,none⟩=some (.int .i64 a0_2))
  (first|(refine⟨by repeat(first|(with_reducible first|exact Below.refl _ _|apply Zn|apply Zm|apply Zo|exact(‹Below w7.heap.size w7 _∧_› : Below w7.heap.size w7 _∧_).1)|exact Below.refl _ _),?_⟩;go_simp;done)|(have HQ_:=HK7.out _ (Zt (‹Below w7.heap.size w7 _∧_› : Below w7.heap.size w7 _∧_).1 hb);exact⟨Zt (‹Below w7.heap.size w7 _∧_› : Below w7.heap.size w7 _∧_).1 hb,HQ_.1.1.2.2.2.2.1,HQ_.1.1.2.2.2.2.2.1,HQ_.1.1.2.2.2.2.2.2.1,HQ_.1.1.1.1.1.2.2.1,HQ_.1.1.1.1.1.2.2.2.1,HQ_.1.1.1.1.1.2.2.2.2.1⟩))
  (first|(go_at_call 30;(refine(ZaO.c k A0_0 c0_0 l0_0 A0_1 c0_1 l0_1 a0_2 _ _ _ _ ?s8_0 ?s8_1 ?s8_2 ?s8_3 HF2.out).mono ?_);(case s8_0=>exact(HK7.out _ (‹Below w7.heap.size w7 _∧_› : Below w7.heap.size w7 _∧_).1).1.1.1.1.1.2.2.2.2.2.2.2.2.1.out.2);(case s8_1=>exact(HK7.out _ (‹Below w7.heap.size w7 _∧_› : Below w7.heap.size w7 _∧_).1).1.1.1.1.1.2.2.2.2.2.2.2.2.1.out.1);(case s8_2=>exact(HK7.out _ (‹Below w7.heap.size w7 _∧_› : Below w7.heap.size w7 _∧_).1).1.1.1.1.1.2.2.2.2.2.2.2.2.2.1.out.2);(case s8_3=>exact(HK7.out _ (‹Below w7.heap.size w7 _∧_› : Below w7.heap.size w7 _∧_).1).1.1.1.1.1.2.2.2.2.2.2.2.2.2.1.out.1);rintro e w8 ⟨X8_0,x8_0,X8_1,x8_1,rfl,g8_0,g8_1,hb⟩)|(go_at_call 13;(refine(laws_eqShow.same X4_0 x4_0 X8_0 x8_0 u2_0_0 X4_1 x4_1 X8_1 x8_1 u2_0_1 u2_0_2 _ ?s9_0 ?s9_1 ?s9_2 ?s9_3 ?s9_4 ?s9_5 ?s9_6 ?s9_7).mono ?_);(case s9_0=>exact(HK7.out _ (‹Below w7.heap.size w7 _∧_› : Below w7.heap.size w7 _∧_).1).1.1.1.2.2.2.2.1.out.2);(case s9_1=>exact(HK7.out _ (‹Below w7.heap.size w7 _∧_› : Below w7.heap.size w7 _∧_).1).1.1.1.2.2.2.2.1.out.1);(case s9_2=>exact g8_0.out.2);(case s9_3=>exact g8_0.out.1);(case s9_4=>exact(HK7.out _ (‹Below w7.heap.size w7 _∧_› : Below w7.heap.size w7 _∧_).1).1.1.1.2.2.2.2.2.out.2);(case s9_5=>exact(HK7.out _ (‹Below w7.heap.size w7 _∧_› : Below w7.heap.size w7 _∧_).1).1.1.1.2.2.2.2.2.out.1);(case s9_6=>exact g8_1.out.2);(case s9_7=>exact g8_1.out.1);rintro e w9 ⟨rfl,hb⟩;replace g8_0:=Za (And.intro g8_0.out.1 (Zb g8_0.out.2 hb));replace g8_1:=Za (And.intro g8_1.out.1 (Zb g8_1.out.2 hb))))
 have B9:=Za (‹Below w7.heap.size w7 w9∧_› : Below w7.heap.size w7 w9∧_).1
 clear hB z0 s0_0 s0_1 s0_2 z1 s1_0 s1_1 Q0_0 Q0_1 Q1_0 Q1_1 z2 s2_0 s2_1 g8j4_0 ow4 sz4 bE g4_0 g4_1 ow5 sz5 z3 s3_0 s3_1 s3_2 g5_0 g5_1 ow6 sz6 z4 s4_0 s4_1 g6_0 z5 s5_0 s5_1
 have HK9:=Za fun (W:World) (hA:Below w9.heap.size w9 W)=>HK7.out W (B9.out.trans (hA.mono B9.out.size))
 obtain⟨⟨⟨⟨⟨⟨hB,z0,s0_0,s0_1,s0_2,z1,s1_0,s1_1,Q0_0,Q0_1,Q1_0,Q1_1⟩,z2,s2_0,s2_1,g8j4_0⟩,ow4,sz4,bE,g4_0,g4_1⟩,ow5,sz5,z3,s3_0,s3_1,s3_2,g5_0,g5_1⟩,ow6,sz6,z4,s4_0,s4_1,g6_0⟩,z5,s5_0,s5_1⟩:=HK9.out _ (Below.refl _ _)
 have le4_9:=sz4
 have le5_9:=sz5
 have le6_9:=sz6
 go_wp2_with fail
 go_region_held3 (fun w'=>Below w9.heap.size w9 w'∧w'.cell? ⟨w5.heap.size,0,none⟩=some (.slice X5_0 u3_0_0.length x5_0)∧w'.cell? ⟨w5.heap.size,1,none⟩=some (.slice X5_1 u3_0_1.length x5_1)∧w'.cell? ⟨w.heap.size+1,0,none⟩=some (.slice A1_0 l1_0.length c1_0)∧w'.cell? ⟨w.heap.size+1,1,none⟩=some (.slice A1_1 l1_1.length c1_1))
  (first|(refine⟨by repeat(first|(with_reducible first|exact Below.refl _ _|apply Zn|apply Zm|apply Zo|exact(‹Below w9.heap.size w9 _∧_› : Below w9.heap.size w9 _∧_).1)|exact Below.refl _ _),?_⟩;go_simp;done)|(have HQ_:=HK9.out _ (Zt (‹Below w9.heap.size w9 _∧_› : Below w9.heap.size w9 _∧_).1 hb);exact⟨Zt (‹Below w9.heap.size w9 _∧_› : Below w9.heap.size w9 _∧_).1 hb,HQ_.1.2.2.2.2.1,HQ_.1.2.2.2.2.2.1,HQ_.1.1.1.1.1.2.2.2.2.2.2.1,HQ_.1.1.1.1.1.2.2.2.2.2.2.2.1⟩))
  (first|(go_at_call 31;(refine(Zas.c k A1_0 c1_0 l1_0 A1_1 c1_1 l1_1 _ _ _ ?s10_0 ?s10_1 ?s10_2 ?s10_3 HF3.out).mono ?_);(case s10_0=>exact(HK9.out _ (‹Below w9.heap.size w9 _∧_› : Below w9.heap.size w9 _∧_).1).1.1.1.1.1.2.2.2.2.2.2.2.2.2.2.1.out.2);(case s10_1=>exact(HK9.out _ (‹Below w9.heap.size w9 _∧_› : Below w9.heap.size w9 _∧_).1).1.1.1.1.1.2.2.2.2.2.2.2.2.2.2.1.out.1);(case s10_2=>exact(HK9.out _ (‹Below w9.heap.size w9 _∧_› : Below w9.heap.size w9 _∧_).1).1.1.1.1.1.2.2.2.2.2.2.2.2.2.2.2.out.2);(case s10_3=>exact(HK9.out _ (‹Below w9.heap.size w9 _∧_› : Below w9.heap.size w9 _∧_).1).1.1.1.1.1.2.2.2.2.2.2.2.2.2.2.2.out.1);rintro e w10 ⟨X10_0,x10_0,X10_1,x10_1,rfl,g10_0,g10_1,hb⟩)|(go_at_call 34;(refine(Zfv.same X5_0 x5_0 X10_0 x10_0 u3_0_0 X5_1 x5_1 X10_1 x10_1 u3_0_1 _ ?s11_0 ?s11_1 ?s11_2 ?s11_3 ?s11_4 ?s11_5 ?s11_6 ?s11_7).mono ?_);(case s11_0=>exact(HK9.out _ (‹Below w9.heap.size w9 _∧_› : Below w9.heap.size w9 _∧_).1).1.1.2.2.2.2.2.2.2.1.out.2);(case s11_1=>exact(HK9.out _ (‹Below w9.heap.size w9 _∧_› : Below w9.heap.size w9 _∧_).1).1.1.2.2.2.2.2.2.2.1.out.1);(case s11_2=>exact g10_0.out.2);(case s11_3=>exact g10_0.out.1);(case s11_4=>exact(HK9.out _ (‹Below w9.heap.size w9 _∧_› : Below w9.heap.size w9 _∧_).1).1.1.2.2.2.2.2.2.2.2.out.2);(case s11_5=>exact(HK9.out _ (‹Below w9.heap.size w9 _∧_› : Below w9.heap.size w9 _∧_).1).1.1.2.2.2.2.2.2.2.2.out.1);(case s11_6=>exact g10_1.out.2);(case s11_7=>exact g10_1.out.1);rintro e w11 ⟨rfl,hb⟩;replace g10_0:=Za (And.intro g10_0.out.1 (Zb g10_0.out.2 hb));replace g10_1:=Za (And.intro g10_1.out.1 (Zb g10_1.out.2 hb))))
 have B11:=Za (‹Below w9.heap.size w9 w11∧_› : Below w9.heap.size w9 w11∧_).1
 clear hB z0 s0_0 s0_1 s0_2 z1 s1_0 s1_1 Q0_0 Q0_1 Q1_0 Q1_1 z2 s2_0 s2_1 g8j4_0 ow4 sz4 bE g4_0 g4_1 ow5 sz5 z3 s3_0 s3_1 s3_2 g5_0 g5_1 ow6 sz6 z4 s4_0 s4_1 g6_0 z5 s5_0 s5_1
 have HK11:=Za fun (W:World) (hA:Below w11.heap.size w11 W)=>HK9.out W (B11.out.trans (hA.mono B11.out.size))
 obtain⟨⟨⟨⟨⟨⟨hB,z0,s0_0,s0_1,s0_2,z1,s1_0,s1_1,Q0_0,Q0_1,Q1_0,Q1_1⟩,z2,s2_0,s2_1,g8j4_0⟩,ow4,sz4,bE,g4_0,g4_1⟩,ow5,sz5,z3,s3_0,s3_1,s3_2,g5_0,g5_1⟩,ow6,sz6,z4,s4_0,s4_1,g6_0⟩,z5,s5_0,s5_1⟩:=HK11.out _ (Below.refl _ _)
 have le4_11:=sz4
 have le5_11:=sz5
 have le6_11:=sz6
 go_wp2_with fail
 refine(markShow_k w3 _ _ _ _ _ _ _ bE (Kd.S_mono ow4.out.1 (fun k hk=>hk.2.2)) (Kd.R_mono ow4.out.2 (fun k hk=>hk.2.2)) SM_u2_0_0.out.1 SM_u2_0_0.out.2.1 SM_u2_0_0.out.2.2 _ (by omega) (by omega)).mono ?_
 rintro e w12 ⟨kx12,rfl,HR12,hb,hk⟩
 have hqkx12:=(Zf (by have:=HR12.out;omega):decide (kx12<0)=false)
 have B12:=Za hb
 replace sz4:=Nat.le_trans sz4 hk.1
 replace bE:=hb
 replace ow5:=Za (And.intro (Kd.R_kept ow5.out.1 hk (fun k h2 h3=>absurd (Nat.lt_of_lt_of_le h3 (Nat.le_trans (Nat.le_refl _) h2.2.1)) (Nat.lt_irrefl _))) (Kd.R_kept ow5.out.2 hk (fun k h2 h3=>absurd (Nat.lt_of_lt_of_le h3 (Nat.le_trans (Nat.le_refl _) h2.2.1)) (Nat.lt_irrefl _))))
 replace sz5:=Nat.le_trans sz5 hk.1
 replace z3:=Nat.lt_of_lt_of_le z3 hk.1
 replace s3_0:=Zbi s3_0 hk (fun h3=>absurd (Nat.lt_of_lt_of_le h3 (Nat.le_refl _)) (Nat.lt_irrefl _))
 replace s3_1:=Zbi s3_1 hk (fun h3=>absurd (Nat.lt_of_lt_of_le h3 (Nat.le_refl _)) (Nat.lt_irrefl _))
 replace s3_2:=Zbi s3_2 hk (fun h3=>absurd (Nat.lt_of_lt_of_le h3 (Nat.le_refl _)) (Nat.lt_irrefl _))
 replace g5_0:=Za (And.intro g5_0.out.1 (Kd.R_reads' ow5.out.1).2.2)
 replace g5_1:=Za (And.intro g5_1.out.1 (Kd.R_reads' ow5.out.2).2.2)
 replace ow6:=Za (Kd.R_kept ow6.out hk (fun k h2 h3=>absurd (Nat.lt_of_lt_of_le h3 (Nat.le_trans le4_5 h2.2.1)) (Nat.lt_irrefl _)))
 replace sz6:=Nat.le_trans sz6 hk.1
 replace z4:=Nat.lt_of_lt_of_le z4 hk.1
 replace s4_0:=Zbi s4_0 hk (fun h3=>absurd (Nat.lt_of_lt_of_le h3 le4_5) (Nat.lt_irrefl _))
 replace s4_1:=Zbi s4_1 hk (fun h3=>absurd (Nat.lt_of_lt_of_le h3 le4_5) (Nat.lt_irrefl _))
 replace g6_0:=Za (And.intro g6_0.out.1 (Kd.R_reads' ow6.out).2.2)
 replace z5:=Nat.lt_of_lt_of_le z5 hk.1
 replace s5_0:=Zbi s5_0 hk (fun h3=>absurd (Nat.lt_of_lt_of_le h3 le4_6) (Nat.lt_irrefl _))
 replace s5_1:=Zbi s5_1 hk (fun h3=>absurd (Nat.lt_of_lt_of_le h3 le4_6) (Nat.lt_irrefl _))
 clear hB z0 s0_0 s0_1 s0_2 z1 s1_0 s1_1 Q0_0 Q0_1 Q1_0 Q1_1 z2 s2_0 s2_1 g8j4_0 ow4 g4_0 g4_1 hk
 have HK12:=Za fun (W:World) (hA:Below w12.heap.size w12 W)=>And.intro (HK3.out W (B12.out.trans (hA.mono B12.out.size))) (And.intro (Nat.le_trans sz4 hA.size) (And.intro (bE.trans (hA.mono bE.size)) (And.intro (Za (And.intro (Kd.R_below ow5.out.1 hA) (Kd.R_below ow5.out.2 hA))) (And.intro (Nat.le_trans sz5 hA.size) (And.intro (Nat.lt_of_lt_of_le z3 hA.size) (And.intro (ZE hA s3_0) (And.intro (ZE hA s3_1) (And.intro (ZE hA s3_2) (And.intro (Za (And.intro g5_0.out.1 (Zb g5_0.out.2 hA))) (And.intro (Za (And.intro g5_1.out.1 (Zb g5_1.out.2 hA))) (And.intro (Za (Kd.R_below ow6.out hA)) (And.intro (Nat.le_trans sz6 hA.size) (And.intro (Nat.lt_of_lt_of_le z4 hA.size) (And.intro (ZE hA s4_0) (And.intro (ZE hA s4_1) (And.intro (Za (And.intro g6_0.out.1 (Zb g6_0.out.2 hA))) (And.intro (Nat.lt_of_lt_of_le z5 hA.size) (And.intro (ZE hA s5_0) ((ZE hA s5_1))))))))))))))))))))
 clear sz4 bE ow5 sz5 z3 s3_0 s3_1 s3_2 g5_0 g5_1 ow6 sz6 z4 s4_0 s4_1 g6_0 z5 s5_0 s5_1
 obtain⟨⟨⟨hB,z0,s0_0,s0_1,s0_2,z1,s1_0,s1_1,Q0_0,Q0_1,Q1_0,Q1_1⟩,z2,s2_0,s2_1,g8j4_0⟩,sz4,bE,ow5,sz5,z3,s3_0,s3_1,s3_2,g5_0,g5_1,ow6,sz6,z4,s4_0,s4_1,g6_0,z5,s5_0,s5_1⟩:=HK12.out _ (Below.refl _ _)
 have le4_12:=sz4
 have le5_12:=sz5
 have le6_12:=sz6
 go_wp2_with fail
 refine(markChoice_k w3 _ _ _ _ _ _ bE (Kd.R_mono ow5.out.1 (fun k hk=>And.intro hk.1 hk.2.2)) (Kd.R_mono ow5.out.2 (fun k hk=>And.intro hk.1 hk.2.2)) SM_u3_0_0.out SM_u3_0_1.out _ (by have:=HR12.out;have:=SM_u3_0_0.out;have:=SM_u3_0_1.out;omega) (by have:=HR12.out;have:=SM_u3_0_0.out;have:=SM_u3_0_1.out;omega)).mono ?_
 rintro e w13 ⟨rfl,hm0,hm1,hb,hk⟩
 have hqw13:=(Zf (by have:=HR12.out;have:=SM_u3_0_0.out;have:=SM_u3_0_1.out;omega):decide (((kx12+(u3_0_0.length:Int))+(u3_0_1.length:Int))<0)=false)
 have B13:=Za hb
 replace sz4:=Nat.le_trans sz4 hk.1
 replace bE:=hb
 replace sz5:=Nat.le_trans sz5 hk.1
 replace ow6:=Za (Kd.R_kept ow6.out hk (fun k h2 h3=>absurd (Nat.lt_of_lt_of_le h3 (Nat.le_trans (Nat.le_refl _) h2.2.1)) (Nat.lt_irrefl _)))
 replace sz6:=Nat.le_trans sz6 hk.1
 replace z4:=Nat.lt_of_lt_of_le z4 hk.1
 replace s4_0:=Zbi s4_0 hk (fun h3=>absurd (Nat.lt_of_lt_of_le h3 (Nat.le_refl _)) (Nat.lt_irrefl _))
 replace s4_1:=Zbi s4_1 hk (fun h3=>absurd (Nat.lt_of_lt_of_le h3 (Nat.le_refl _)) (Nat.lt_irrefl _))
 replace g6_0:=Za (And.intro g6_0.out.1 (Kd.R_reads' ow6.out).2.2)
 replace z5:=Nat.lt_of_lt_of_le z5 hk.1
 replace s5_0:=Zbi s5_0 hk (fun h3=>absurd (Nat.lt_of_lt_of_le h3 le5_6) (Nat.lt_irrefl _))
 replace s5_1:=Zbi s5_1 hk (fun h3=>absurd (Nat.lt_of_lt_of_le h3 le5_6) (Nat.lt_irrefl _))
 clear hB z0 s0_0 s0_1 s0_2 z1 s1_0 s1_1 Q0_0 Q0_1 Q1_0 Q1_1 z2 s2_0 s2_1 g8j4_0 ow5 z3 s3_0 s3_1 s3_2 g5_0 g5_1 hk
 have HK13:=Za fun (W:World) (hA:Below w13.heap.size w13 W)=>And.intro (HK3.out W (B13.out.trans (hA.mono B13.out.size))) (And.intro (Nat.le_trans sz4 hA.size) (And.intro (bE.trans (hA.mono bE.size)) (And.intro (Nat.le_trans sz5 hA.size) (And.intro (Za (Kd.R_below ow6.out hA)) (And.intro (Nat.le_trans sz6 hA.size) (And.intro (Nat.lt_of_lt_of_le z4 hA.size) (And.intro (ZE hA s4_0) (And.intro (ZE hA s4_1) (And.intro (Za (And.intro g6_0.out.1 (Zb g6_0.out.2 hA))) (And.intro (Nat.lt_of_lt_of_le z5 hA.size) (And.intro (ZE hA s5_0) ((ZE hA s5_1)))))))))))))
 clear sz4 bE sz5 ow6 sz6 z4 s4_0 s4_1 g6_0 z5 s5_0 s5_1 hm0 hm1
 obtain⟨⟨⟨hB,z0,s0_0,s0_1,s0_2,z1,s1_0,s1_1,Q0_0,Q0_1,Q1_0,Q1_1⟩,z2,s2_0,s2_1,g8j4_0⟩,sz4,bE,sz5,ow6,sz6,z4,s4_0,s4_1,g6_0,z5,s5_0,s5_1⟩:=HK13.out _ (Below.refl _ _)
 have le4_13:=sz4
 have le5_13:=sz5
 have le6_13:=sz6
 go_wp2_with fail
 refine(ZcW.same u5_0_0 X6_0 x6_0 X8j4_0 x8j4_0 u5_0_1 _ g6_0.out.2 g6_0.out.1 g8j4_0.out.2 g8j4_0.out.1).mono ?_
 rintro e w14 ⟨rfl,hb⟩
 have B14:=Za hb;clear hB z0 s0_0 s0_1 s0_2 z1 s1_0 s1_1 Q0_0 Q0_1 Q1_0 Q1_1 z2 s2_0 s2_1 g8j4_0 sz4 bE sz5 ow6 sz6 z4 s4_0 s4_1 g6_0 z5 s5_0 s5_1 hb
 have HK14:=Za fun (W:World) (hA:Below w14.heap.size w14 W)=>HK13.out W (B14.out.trans (hA.mono B14.out.size))
 obtain⟨⟨⟨hB,z0,s0_0,s0_1,s0_2,z1,s1_0,s1_1,Q0_0,Q0_1,Q1_0,Q1_1⟩,z2,s2_0,s2_1,g8j4_0⟩,sz4,bE,sz5,ow6,sz6,z4,s4_0,s4_1,g6_0,z5,s5_0,s5_1⟩:=HK14.out _ (Below.refl _ _)
 have le4_14:=sz4
 have le5_14:=sz5
 have le6_14:=sz6
 go_wp2_with fail
 refine(markSimple_k w3 _ _ _ _ _ bE (Kd.R_mono ow6.out (fun k hk=>hk.2.2)) SM_u5_0_1.out _ (by have:=HR12.out;have:=SM_u3_0_0.out;have:=SM_u3_0_1.out;have:=SM_u5_0_1.out;omega) (by have:=HR12.out;have:=SM_u3_0_0.out;have:=SM_u3_0_1.out;have:=SM_u5_0_1.out;omega)).mono ?_
 rintro e w15 ⟨rfl,hm0,hb,hk⟩
 have hqw15:=(Zf (by have:=HR12.out;have:=SM_u3_0_0.out;have:=SM_u3_0_1.out;have:=SM_u5_0_1.out;omega):decide ((1+4 * (u5_0_1.length:Int))<0)=false)
 have B15:=Za hb
 replace sz4:=Nat.le_trans sz4 hk.1
 replace bE:=hb
 replace sz5:=Nat.le_trans sz5 hk.1
 replace ow6:=Za hm0
 replace sz6:=Nat.le_trans sz6 hk.1
 replace g6_0:=Za (Zfu hm0)
 replace z5:=Nat.lt_of_lt_of_le z5 hk.1
 replace s5_0:=Zbi s5_0 hk (fun h3=>absurd (Nat.lt_of_lt_of_le h3 (Nat.le_refl _)) (Nat.lt_irrefl _))
 replace s5_1:=Zbi s5_1 hk (fun h3=>absurd (Nat.lt_of_lt_of_le h3 (Nat.le_refl _)) (Nat.lt_irrefl _))
 clear hB z0 s0_0 s0_1 s0_2 z1 s1_0 s1_1 Q0_0 Q0_1 Q1_0 Q1_1 z2 s2_0 s2_1 g8j4_0 z4 s4_0 s4_1 hk
 have HK15:=Za fun (W:World) (hA:Below w15.heap.size w15 W)=>And.intro (HK3.out W (B15.out.trans (hA.mono B15.out.size))) (And.intro (Nat.le_trans sz4 hA.size) (And.intro (bE.trans (hA.mono bE.size)) (And.intro (Nat.le_trans sz5 hA.size) (And.intro (Za (Kd.R_below ow6.out hA)) (And.intro (Nat.le_trans sz6 hA.size) (And.intro (Za (And.intro g6_0.out.1 (Zb g6_0.out.2 hA))) (And.intro (Nat.lt_of_lt_of_le z5 hA.size) (And.intro (ZE hA s5_0) ((ZE hA s5_1))))))))))
 clear sz4 bE sz5 ow6 sz6 g6_0 z5 s5_0 s5_1 hm0
 obtain⟨⟨⟨hB,z0,s0_0,s0_1,s0_2,z1,s1_0,s1_1,Q0_0,Q0_1,Q1_0,Q1_1⟩,z2,s2_0,s2_1,g8j4_0⟩,sz4,bE,sz5,ow6,sz6,g6_0,z5,s5_0,s5_1⟩:=HK15.out _ (Below.refl _ _)
 have le4_15:=sz4
 have le5_15:=sz5
 have le6_15:=sz6
 go_wp2_with fail
 refine(ZdZ _ _ _ _ _ _ g6_0.out.2 g6_0.out.1 SM_u5_0_1.out (by have:=SM_u5_0_1.out;omega) (by have:=SM_u5_0_1.out;omega)).mono ?_
 rintro e w16 ⟨rfl,hb⟩
 have B16:=Za hb;clear hB z0 s0_0 s0_1 s0_2 z1 s1_0 s1_1 Q0_0 Q0_1 Q1_0 Q1_1 z2 s2_0 s2_1 g8j4_0 sz4 bE sz5 ow6 sz6 g6_0 z5 s5_0 s5_1 hb
 have HK16:=Za fun (W:World) (hA:Below w16.heap.size w16 W)=>HK15.out W (B16.out.trans (hA.mono B16.out.size))
 obtain⟨⟨⟨hB,z0,s0_0,s0_1,s0_2,z1,s1_0,s1_1,Q0_0,Q0_1,Q1_0,Q1_1⟩,z2,s2_0,s2_1,g8j4_0⟩,sz4,bE,sz5,ow6,sz6,g6_0,z5,s5_0,s5_1⟩:=HK16.out _ (Below.refl _ _)
 have le4_16:=sz4
 have le5_16:=sz5
 have le6_16:=sz6
 go_wp2_with fail
 have HKEY:=Za fun (W:World) (hA:Below w16.heap.size w16 W)=>(show Below w16.heap.size w16 W∧W.cell? ⟨w.heap.size,0,none⟩=some (.slice A0_0 l0_0.length c0_0)∧W.cell? ⟨w.heap.size,1,none⟩=some (.slice A0_1 l0_1.length c0_1)∧W.cell? ⟨w.heap.size,2,none⟩=some (.int .i64 a0_2)∧W.cell? ⟨w.heap.size+1,0,none⟩=some (.slice A1_0 l1_0.length c1_0)∧W.cell? ⟨w.heap.size+1,1,none⟩=some (.slice A1_1 l1_1.length c1_1) from(fun HQ_=>⟨hA,HQ_.1.1.2.2.1,HQ_.1.1.2.2.2.1,HQ_.1.1.2.2.2.2.1,HQ_.1.1.2.2.2.2.2.2.1,HQ_.1.1.2.2.2.2.2.2.2.1⟩) (HK16.out W hA))
 have HBJ0:=Za (Zo (Below.refl w16.heap.size w16))
 refine Zb0 (n:=11) (S:=fun w'=>w'.cell? ⟨w.heap.size,0,none⟩=some (.slice A0_0 l0_0.length c0_0)∧w'.cell? ⟨w.heap.size,1,none⟩=some (.slice A0_1 l0_1.length c0_1)∧w'.cell? ⟨w.heap.size,2,none⟩=some (.int .i64 a0_2)∧w'.cell? ⟨w.heap.size+1,0,none⟩=some (.slice A1_0 l1_0.length c1_0)∧w'.cell? ⟨w.heap.size+1,1,none⟩=some (.slice A1_1 l1_1.length c1_1)) (ds:=[]) #[false,false,false,false,false,false,false,false,false,false,false] (by kernel_rfl) rfl rfl ⟨(HKEY.out _ HBJ0.out).2.1,(HKEY.out _ HBJ0.out).2.2.1,(HKEY.out _ HBJ0.out).2.2.2.1,(HKEY.out _ HBJ0.out).2.2.2.2.1,(HKEY.out _ HBJ0.out).2.2.2.2.2⟩ (fun hHeld=>?_)
 generalize w16.drew=qJ0 at HBJ0 hHeld ⊢
 refine take_ (i:=0) (N:=some 95) (v:=?_) (a':=?_) #[true,false,false,false,false,false,false,false,false,false,false] rfl rfl (by kernel_rfl) (fun _ _ _ h=>h) (Or.inl ⟨by rfl,?_⟩) hHeld ?_ ?_
 rotate_left
 ·rintro w' ⟨s0,s1,s2,s3,s4⟩
  go_simp
  with_reducible rfl
 rotate_left
 ·simp only[Act.put,List.setIfInBounds_toArray,List.set_cons_zero,List.set_cons_succ,ZH,ZJ]
  rfl
 refine take_ (i:=2) (N:=some 97) (v:=?_) (a':=?_) #[true,false,true,false,false,false,false,false,false,false,false] rfl rfl (by kernel_rfl) (fun _ _ _ h=>h) (Or.inl ⟨by rfl,?_⟩) hHeld ?_ ?_
 rotate_left
 ·rintro w' ⟨s0,s1,s2,s3,s4⟩
  go_simp
  with_reducible rfl
 rotate_left
 ·simp only[Act.put,List.setIfInBounds_toArray,List.set_cons_zero,List.set_cons_succ,ZH,ZJ]
  rfl
 refine join_ (σ:=Value×Value×Value×Nat) 2 #[true,true,true,true,true,true,true,true,true,false,false] (fun s_=>[(96,s_.1),(98,s_.2.1),(99,.tuple #[.agg #[.int .i64 u5_0_0,s_.2.2.1],.bool u5_1]),(94,.tuple #[.agg #[.int .i64 u5_0_0,s_.2.2.1],.bool u5_1]),(100,.agg #[.int .i64 u5_0_0,s_.2.2.1]),(101,.bool u5_1),(15,.pointer (some ⟨s_.2.2.2,0,none⟩))]) (fun s_ w'=>Aside0 (Below w16.heap.size w16 w')∧Aside0 (w'.heap[s_.2.2.2]? = some (Obj.cells #[.int .i64 0,.slice none 0 0] 54 (0,0)))∧Aside0 (w16.heap.size≤s_.2.2.2)∧Aside0 (Kd.R k112 112 w' w16.heap.size (fun k_=>k_≠s_.2.2.2) s_.2.2.1 u5_0_1)) ?_ ?_
 rotate_left
 ·intro hCont
  refine two_ (i:=1) (j:=8) (Ni:=some 96) (Nj:=some 15) #[true,true,true,false,false,false,false,false,false,false,false] #[true,false,true,false,false,false,false,false,true,false,false] rfl rfl rfl rfl (by kernel_rfl) (by decide) (by decide) (fun K hK=>?_) (fun K hK=>?_)
  ·skip
   refine ZaV Tryz.func30 (by kernel_rfl) rfl #[.agg #[.slice A0_0 l0_0.length c0_0,.slice A0_1 l0_1.length c0_1,.int .i64 a0_2]] (by rfl) rfl rfl (by(try simp only[List.map_toArray,List.map_cons,List.map_nil]);first|done|rfl) ?_
   refine(ZaO.c k A0_0 c0_0 l0_0 A0_1 c0_1 l0_1 a0_2 _ _ _ _ (HK16.out _ HBJ0.out).1.1.2.2.2.2.2.2.2.2.1.out.2 (HK16.out _ HBJ0.out).1.1.2.2.2.2.2.2.2.2.1.out.1 (HK16.out _ HBJ0.out).1.1.2.2.2.2.2.2.2.2.2.1.out.2 (HK16.out _ HBJ0.out).1.1.2.2.2.2.2.2.2.2.2.1.out.1  HF2.out).mono ?_
   rintro e qJ1 ⟨X31j1_0,x31j1_0,X31j1_1,x31j1_1,rfl,g31j1_0,g31j1_1,hb⟩
   refine⟨_,rfl,?_⟩
   have HBJ1:=Za (Zt HBJ0.out hb)
   clear hb
   refine hK.out _ _ ⟨(HKEY.out _ HBJ1.out).2.1,(HKEY.out _ HBJ1.out).2.2.1,(HKEY.out _ HBJ1.out).2.2.2.1,(HKEY.out _ HBJ1.out).2.2.2.2.1,(HKEY.out _ HBJ1.out).2.2.2.2.2⟩ (fun hHeld=>?_)
   clear hK K
   refine Zaj (a':=?_) ?_ ?_
   rotate_left
   ·show Act.put _ (some 96) _=_
    simp only[Act.put,List.setIfInBounds_toArray,List.set_cons_zero,List.set_cons_succ,ZH,ZJ]
    rfl
   refine two_ (i:=3) (j:=8) (Ni:=some 98) (Nj:=some 15) #[true,true,true,true,false,false,false,false,false,false,false] #[true,true,true,false,false,false,false,false,true,false,false] rfl rfl rfl rfl (by kernel_rfl) (by decide) (by decide) (fun K hK=>?_) (fun K hK=>?_)
   ·skip
    refine ZaV Tryz.func31 (by kernel_rfl) rfl #[.agg #[.slice A1_0 l1_0.length c1_0,.slice A1_1 l1_1.length c1_1]] (by rfl) rfl rfl (by(try simp only[List.map_toArray,List.map_cons,List.map_nil]);first|done|rfl) ?_
    refine(Zas.c k A1_0 c1_0 l1_0 A1_1 c1_1 l1_1 _ _ _ (HK16.out _ HBJ1.out).1.1.2.2.2.2.2.2.2.2.2.2.1.out.2 (HK16.out _ HBJ1.out).1.1.2.2.2.2.2.2.2.2.2.2.1.out.1 (HK16.out _ HBJ1.out).1.1.2.2.2.2.2.2.2.2.2.2.2.out.2 (HK16.out _ HBJ1.out).1.1.2.2.2.2.2.2.2.2.2.2.2.out.1  HF3.out).mono ?_
    rintro e qJ2 ⟨X31j3_0,x31j3_0,X31j3_1,x31j3_1,rfl,g31j3_0,g31j3_1,hb⟩
    refine⟨_,rfl,?_⟩
    have HBJ2:=Za (Zt HBJ1.out hb)
    replace g31j1_0:=Za (And.intro g31j1_0.out.1 (Zb g31j1_0.out.2 hb))
    replace g31j1_1:=Za (And.intro g31j1_1.out.1 (Zb g31j1_1.out.2 hb))
    clear hb
    refine hK.out _ _ ⟨(HKEY.out _ HBJ2.out).2.1,(HKEY.out _ HBJ2.out).2.2.1,(HKEY.out _ HBJ2.out).2.2.2.1,(HKEY.out _ HBJ2.out).2.2.2.2.1,(HKEY.out _ HBJ2.out).2.2.2.2.2⟩ (fun hHeld=>?_)
    clear hK K
    refine Zaj (a':=?_) ?_ ?_
    rotate_left
    ·show Act.put _ (some 98) _=_
     simp only[Act.put,List.setIfInBounds_toArray,List.set_cons_zero,List.set_cons_succ,ZH,ZJ]
     rfl
    refine two_ (i:=4) (j:=8) (Ni:=some 99) (Nj:=some 15) #[true,true,true,true,true,false,false,false,false,false,false] #[true,true,true,true,false,false,false,false,true,false,false] rfl rfl rfl rfl (by kernel_rfl) (by decide) (by decide) (fun K hK=>?_) (fun K hK=>?_)
    ·skip
     refine ZaV Tryz.func32 (by kernel_rfl) rfl #[.agg #[.slice X31j1_0 u2_0_0.length x31j1_0,.slice X31j1_1 u2_0_1.length x31j1_1,.int .i64 u2_0_2],.agg #[.slice X31j3_0 u3_0_0.length x31j3_0,.slice X31j3_1 u3_0_1.length x31j3_1]] (by rfl) rfl rfl (by(try simp only[List.map_toArray,List.map_cons,List.map_nil]);first|done|rfl) ?_
     refine(ZaA.calls k X31j1_0 x31j1_0 u2_0_0 X31j1_1 x31j1_1 u2_0_1 u2_0_2 X31j3_0 x31j3_0 u3_0_0 X31j3_1 x31j3_1 u3_0_1 _ _ _ _ g31j1_0.out.2 g31j1_0.out.1 g31j1_1.out.2 g31j1_1.out.1 g31j3_0.out.2 g31j3_0.out.1 g31j3_1.out.2 g31j3_1.out.1 (TW.below HTW.out ((HK16.out _ HBJ2.out).1.1.1)) HF5.out).mono ?_
     rintro e qJ3 ⟨vJ,rfl,hoJ,hb⟩
     refine⟨_,rfl,?_⟩
     have HBJ3:=Za (Zt HBJ2.out hb)
     replace g31j1_0:=Za (And.intro g31j1_0.out.1 (Zb g31j1_0.out.2 hb))
     replace g31j1_1:=Za (And.intro g31j1_1.out.1 (Zb g31j1_1.out.2 hb))
     replace g31j3_0:=Za (And.intro g31j3_0.out.1 (Zb g31j3_0.out.2 hb))
     replace g31j3_1:=Za (And.intro g31j3_1.out.1 (Zb g31j3_1.out.2 hb))
     have HOJ:=Za (Kd.R_lower hoJ HBJ2.out.size)
     clear hb hoJ
     refine hK.out _ _ ⟨(HKEY.out _ HBJ3.out).2.1,(HKEY.out _ HBJ3.out).2.2.1,(HKEY.out _ HBJ3.out).2.2.2.1,(HKEY.out _ HBJ3.out).2.2.2.2.1,(HKEY.out _ HBJ3.out).2.2.2.2.2⟩ (fun hHeld=>?_)
     clear hK K
     refine Zaj (a':=?_) ?_ ?_
     rotate_left
     ·show Act.put _ (some 99) _=_
      simp only[Act.put,List.setIfInBounds_toArray,List.set_cons_zero,List.set_cons_succ,ZH,ZJ]
      rfl
     refine ZX (i:=5) (N:=some 94) (v:=?_) (a':=?_) #[true,true,true,true,true,true,false,false,false,false,false] rfl rfl (by kernel_rfl) (fun _ _ _ h=>h) (Or.inl ⟨by rfl,?_⟩) ?_ ?_
     rotate_left
     ·intro w'
      go_simp
      with_reducible rfl
     rotate_left
     ·simp only[Act.put,List.setIfInBounds_toArray,List.set_cons_zero,List.set_cons_succ,ZH,ZJ]
      rfl
     refine ZX (i:=6) (N:=some 100) (v:=?_) (a':=?_) #[true,true,true,true,true,true,true,false,false,false,false] rfl rfl (by kernel_rfl) (fun _ _ _ h=>h) (Or.inl ⟨by rfl,?_⟩) ?_ ?_
     rotate_left
     ·intro w'
      go_simp
      with_reducible rfl
     rotate_left
     ·simp only[Act.put,List.setIfInBounds_toArray,List.set_cons_zero,List.set_cons_succ,ZH,ZJ]
      rfl
     refine ZX (i:=7) (N:=some 101) (v:=?_) (a':=?_) #[true,true,true,true,true,true,true,true,false,false,false] rfl rfl (by kernel_rfl) (fun _ _ _ h=>h) (Or.inl ⟨by rfl,?_⟩) ?_ ?_
     rotate_left
     ·intro w'
      go_simp
      with_reducible rfl
     rotate_left
     ·simp only[Act.put,List.setIfInBounds_toArray,List.set_cons_zero,List.set_cons_succ,ZH,ZJ]
      rfl
     refine one_ (i:=8) (N:=some 15) #[true,true,true,true,true,true,true,true,true,false,false] rfl rfl (by kernel_rfl) (by decide) (fun K hK=>?_)
     refine Zcr (by rfl) (N:=15) rfl (cs:=#[.int .i64 0,.slice none 0 0]) (t:=54) ?hr ?_
     (case hr=>first|(go_simp;done)|(go_simp;rfl))
     intro gbJ hgJ qJ4 hboxJ hb
     have HBJ4:=Za (Zt HBJ3.out hb)
     have BKJ:=Za hboxJ
     have HGJ:=Za (show w16.heap.size≤gbJ by rw[hgJ];exact HBJ3.out.size)
     replace g31j1_0:=Za (And.intro g31j1_0.out.1 (Zb g31j1_0.out.2 hb))
     replace g31j1_1:=Za (And.intro g31j1_1.out.1 (Zb g31j1_1.out.2 hb))
     replace g31j3_0:=Za (And.intro g31j3_0.out.1 (Zb g31j3_0.out.2 hb))
     replace g31j3_1:=Za (And.intro g31j3_1.out.1 (Zb g31j3_1.out.2 hb))
     replace HOJ:=Za (Kd.R_below (Kd.R_mono (Kd.R_elderB HOJ.out gbJ (Nat.le_of_eq hgJ.symm)) (fun _ hk=>hk.2)) hb)
     clear hb hboxJ hgJ
     refine hK.out _ _ ⟨(HKEY.out _ HBJ4.out).2.1,(HKEY.out _ HBJ4.out).2.2.1,(HKEY.out _ HBJ4.out).2.2.2.1,(HKEY.out _ HBJ4.out).2.2.2.2.1,(HKEY.out _ HBJ4.out).2.2.2.2.2⟩ (fun hHeld=>?_)
     clear hK K
     refine Zaj (a':=?_) ?_ ?_
     rotate_left
     ·show Act.put _ (some 15) _=_
      simp only[Act.put,List.setIfInBounds_toArray,List.set_cons_zero,List.set_cons_succ,ZH,ZJ]
      rfl
     exact Zaj (by simp only[Zce,Act.put,List.setIfInBounds_toArray,List.set_cons_zero,List.set_cons_succ]) (hCont (.agg #[.slice X31j1_0 u2_0_0.length x31j1_0,.slice X31j1_1 u2_0_1.length x31j1_1,.int .i64 u2_0_2],.agg #[.slice X31j3_0 u3_0_0.length x31j3_0,.slice X31j3_1 u3_0_1.length x31j3_1],vJ,gbJ) _ ⟨HBJ4,BKJ,HGJ,HOJ⟩)
    ·skip
     refine Zcr (by rfl) (N:=15) rfl (cs:=#[.int .i64 0,.slice none 0 0]) (t:=54) ?hr ?_
     (case hr=>first|(go_simp;done)|(go_simp;rfl))
     intro gbJ hgJ qJ5 hboxJ hb
     have HBJ3:=Za (Zt HBJ2.out hb)
     have BKJ:=Za hboxJ
     have HGJ:=Za (show w16.heap.size≤gbJ by rw[hgJ];exact HBJ2.out.size)
     replace g31j1_0:=Za (And.intro g31j1_0.out.1 (Zb g31j1_0.out.2 hb))
     replace g31j1_1:=Za (And.intro g31j1_1.out.1 (Zb g31j1_1.out.2 hb))
     replace g31j3_0:=Za (And.intro g31j3_0.out.1 (Zb g31j3_0.out.2 hb))
     replace g31j3_1:=Za (And.intro g31j3_1.out.1 (Zb g31j3_1.out.2 hb))
     clear hb hboxJ hgJ
     refine hK.out _ _ ⟨(HKEY.out _ HBJ3.out).2.1,(HKEY.out _ HBJ3.out).2.2.1,(HKEY.out _ HBJ3.out).2.2.2.1,(HKEY.out _ HBJ3.out).2.2.2.2.1,(HKEY.out _ HBJ3.out).2.2.2.2.2⟩ (fun hHeld=>?_)
     clear hK K
     refine Zaj (a':=?_) ?_ ?_
     rotate_left
     ·show Act.put _ (some 15) _=_
      simp only[Act.put,List.setIfInBounds_toArray,List.set_cons_zero,List.set_cons_succ,ZH,ZJ]
      rfl
     refine one_ (i:=4) (N:=some 99) #[true,true,true,true,true,false,false,false,true,false,false] rfl rfl (by kernel_rfl) (by decide) (fun K hK=>?_)
     refine ZaV Tryz.func32 (by kernel_rfl) rfl #[.agg #[.slice X31j1_0 u2_0_0.length x31j1_0,.slice X31j1_1 u2_0_1.length x31j1_1,.int .i64 u2_0_2],.agg #[.slice X31j3_0 u3_0_0.length x31j3_0,.slice X31j3_1 u3_0_1.length x31j3_1]] (by rfl) rfl rfl (by(try simp only[List.map_toArray,List.map_cons,List.map_nil]);first|done|rfl) ?_
     refine(ZaA.calls k X31j1_0 x31j1_0 u2_0_0 X31j1_1 x31j1_1 u2_0_1 u2_0_2 X31j3_0 x31j3_0 u3_0_0 X31j3_1 x31j3_1 u3_0_1 _ _ _ _ g31j1_0.out.2 g31j1_0.out.1 g31j1_1.out.2 g31j1_1.out.1 g31j3_0.out.2 g31j3_0.out.1 g31j3_1.out.2 g31j3_1.out.1 (TW.below HTW.out ((HK16.out _ HBJ3.out).1.1.1)) HF5.out).mono ?_
     rintro e qJ6 ⟨vJ,rfl,hoJ,hb⟩
     refine⟨_,rfl,?_⟩
     have HBJ4:=Za (Zt HBJ3.out hb)
     replace g31j1_0:=Za (And.intro g31j1_0.out.1 (Zb g31j1_0.out.2 hb))
     replace g31j1_1:=Za (And.intro g31j1_1.out.1 (Zb g31j1_1.out.2 hb))
     replace g31j3_0:=Za (And.intro g31j3_0.out.1 (Zb g31j3_0.out.2 hb))
     replace g31j3_1:=Za (And.intro g31j3_1.out.1 (Zb g31j3_1.out.2 hb))
     have HOJ:=Za (Kd.R_lower (Kd.R_mono (Kd.R_newB hoJ BKJ.out) (fun _ hk=>hk.2)) HBJ3.out.size)
     replace BKJ:=Za (Zx BKJ.out hb)
     clear hb hoJ
     refine hK.out _ _ ⟨(HKEY.out _ HBJ4.out).2.1,(HKEY.out _ HBJ4.out).2.2.1,(HKEY.out _ HBJ4.out).2.2.2.1,(HKEY.out _ HBJ4.out).2.2.2.2.1,(HKEY.out _ HBJ4.out).2.2.2.2.2⟩ (fun hHeld=>?_)
     clear hK K
     refine Zaj (a':=?_) ?_ ?_
     rotate_left
     ·show Act.put _ (some 99) _=_
      simp only[Act.put,List.setIfInBounds_toArray,List.set_cons_zero,List.set_cons_succ,ZH,ZJ]
      rfl
     refine ZX (i:=5) (N:=some 94) (v:=?_) (a':=?_) #[true,true,true,true,true,true,false,false,true,false,false] rfl rfl (by kernel_rfl) (fun _ _ _ h=>h) (Or.inl ⟨by rfl,?_⟩) ?_ ?_
     rotate_left
     ·intro w'
      go_simp
      with_reducible rfl
     rotate_left
     ·simp only[Act.put,List.setIfInBounds_toArray,List.set_cons_zero,List.set_cons_succ,ZH,ZJ]
      rfl
     refine ZX (i:=6) (N:=some 100) (v:=?_) (a':=?_) #[true,true,true,true,true,true,true,false,true,false,false] rfl rfl (by kernel_rfl) (fun _ _ _ h=>h) (Or.inl ⟨by rfl,?_⟩) ?_ ?_
     rotate_left
     ·intro w'
      go_simp
      with_reducible rfl
     rotate_left
     ·simp only[Act.put,List.setIfInBounds_toArray,List.set_cons_zero,List.set_cons_succ,ZH,ZJ]
      rfl
     refine ZX (i:=7) (N:=some 101) (v:=?_) (a':=?_) #[true,true,true,true,true,true,true,true,true,false,false] rfl rfl (by kernel_rfl) (fun _ _ _ h=>h) (Or.inl ⟨by rfl,?_⟩) ?_ ?_
     rotate_left
     ·intro w'
      go_simp
      with_reducible rfl
     rotate_left
     ·simp only[Act.put,List.setIfInBounds_toArray,List.set_cons_zero,List.set_cons_succ,ZH,ZJ]
      rfl
     exact Zaj (by simp only[Zce,Act.put,List.setIfInBounds_toArray,List.set_cons_zero,List.set_cons_succ]) (hCont (.agg #[.slice X31j1_0 u2_0_0.length x31j1_0,.slice X31j1_1 u2_0_1.length x31j1_1,.int .i64 u2_0_2],.agg #[.slice X31j3_0 u3_0_0.length x31j3_0,.slice X31j3_1 u3_0_1.length x31j3_1],vJ,gbJ) _ ⟨HBJ4,BKJ,HGJ,HOJ⟩)
   ·skip
    refine Zcr (by rfl) (N:=15) rfl (cs:=#[.int .i64 0,.slice none 0 0]) (t:=54) ?hr ?_
    (case hr=>first|(go_simp;done)|(go_simp;rfl))
    intro gbJ hgJ qJ7 hboxJ hb
    have HBJ2:=Za (Zt HBJ1.out hb)
    have BKJ:=Za hboxJ
    have HGJ:=Za (show w16.heap.size≤gbJ by rw[hgJ];exact HBJ1.out.size)
    replace g31j1_0:=Za (And.intro g31j1_0.out.1 (Zb g31j1_0.out.2 hb))
    replace g31j1_1:=Za (And.intro g31j1_1.out.1 (Zb g31j1_1.out.2 hb))
    clear hb hboxJ hgJ
    refine hK.out _ _ ⟨(HKEY.out _ HBJ2.out).2.1,(HKEY.out _ HBJ2.out).2.2.1,(HKEY.out _ HBJ2.out).2.2.2.1,(HKEY.out _ HBJ2.out).2.2.2.2.1,(HKEY.out _ HBJ2.out).2.2.2.2.2⟩ (fun hHeld=>?_)
    clear hK K
    refine Zaj (a':=?_) ?_ ?_
    rotate_left
    ·show Act.put _ (some 15) _=_
     simp only[Act.put,List.setIfInBounds_toArray,List.set_cons_zero,List.set_cons_succ,ZH,ZJ]
     rfl
    refine one_ (i:=3) (N:=some 98) #[true,true,true,true,false,false,false,false,true,false,false] rfl rfl (by kernel_rfl) (by decide) (fun K hK=>?_)
    refine ZaV Tryz.func31 (by kernel_rfl) rfl #[.agg #[.slice A1_0 l1_0.length c1_0,.slice A1_1 l1_1.length c1_1]] (by rfl) rfl rfl (by(try simp only[List.map_toArray,List.map_cons,List.map_nil]);first|done|rfl) ?_
    refine(Zas.c k A1_0 c1_0 l1_0 A1_1 c1_1 l1_1 _ _ _ (HK16.out _ HBJ2.out).1.1.2.2.2.2.2.2.2.2.2.2.1.out.2 (HK16.out _ HBJ2.out).1.1.2.2.2.2.2.2.2.2.2.2.1.out.1 (HK16.out _ HBJ2.out).1.1.2.2.2.2.2.2.2.2.2.2.2.out.2 (HK16.out _ HBJ2.out).1.1.2.2.2.2.2.2.2.2.2.2.2.out.1  HF3.out).mono ?_
    rintro e qJ8 ⟨X31j3_0,x31j3_0,X31j3_1,x31j3_1,rfl,g31j3_0,g31j3_1,hb⟩
    refine⟨_,rfl,?_⟩
    have HBJ3:=Za (Zt HBJ2.out hb)
    replace g31j1_0:=Za (And.intro g31j1_0.out.1 (Zb g31j1_0.out.2 hb))
    replace g31j1_1:=Za (And.intro g31j1_1.out.1 (Zb g31j1_1.out.2 hb))
    replace BKJ:=Za (Zx BKJ.out hb)
    clear hb
    refine hK.out _ _ ⟨(HKEY.out _ HBJ3.out).2.1,(HKEY.out _ HBJ3.out).2.2.1,(HKEY.out _ HBJ3.out).2.2.2.1,(HKEY.out _ HBJ3.out).2.2.2.2.1,(HKEY.out _ HBJ3.out).2.2.2.2.2⟩ (fun hHeld=>?_)
    clear hK K
    refine Zaj (a':=?_) ?_ ?_
    rotate_left
    ·show Act.put _ (some 98) _=_
     simp only[Act.put,List.setIfInBounds_toArray,List.set_cons_zero,List.set_cons_succ,ZH,ZJ]
     rfl
    refine one_ (i:=4) (N:=some 99) #[true,true,true,true,true,false,false,false,true,false,false] rfl rfl (by kernel_rfl) (by decide) (fun K hK=>?_)
    refine ZaV Tryz.func32 (by kernel_rfl) rfl #[.agg #[.slice X31j1_0 u2_0_0.length x31j1_0,.slice X31j1_1 u2_0_1.length x31j1_1,.int .i64 u2_0_2],.agg #[.slice X31j3_0 u3_0_0.length x31j3_0,.slice X31j3_1 u3_0_1.length x31j3_1]] (by rfl) rfl rfl (by(try simp only[List.map_toArray,List.map_cons,List.map_nil]);first|done|rfl) ?_
    refine(ZaA.calls k X31j1_0 x31j1_0 u2_0_0 X31j1_1 x31j1_1 u2_0_1 u2_0_2 X31j3_0 x31j3_0 u3_0_0 X31j3_1 x31j3_1 u3_0_1 _ _ _ _ g31j1_0.out.2 g31j1_0.out.1 g31j1_1.out.2 g31j1_1.out.1 g31j3_0.out.2 g31j3_0.out.1 g31j3_1.out.2 g31j3_1.out.1 (TW.below HTW.out ((HK16.out _ HBJ3.out).1.1.1)) HF5.out).mono ?_
    rintro e qJ9 ⟨vJ,rfl,hoJ,hb⟩
    refine⟨_,rfl,?_⟩
    have HBJ4:=Za (Zt HBJ3.out hb)
    replace g31j1_0:=Za (And.intro g31j1_0.out.1 (Zb g31j1_0.out.2 hb))
    replace g31j1_1:=Za (And.intro g31j1_1.out.1 (Zb g31j1_1.out.2 hb))
    replace g31j3_0:=Za (And.intro g31j3_0.out.1 (Zb g31j3_0.out.2 hb))
    replace g31j3_1:=Za (And.intro g31j3_1.out.1 (Zb g31j3_1.out.2 hb))
    have HOJ:=Za (Kd.R_lower (Kd.R_mono (Kd.R_newB hoJ BKJ.out) (fun _ hk=>hk.2)) HBJ3.out.size)
    replace BKJ:=Za (Zx BKJ.out hb)
    clear hb hoJ
    refine hK.out _ _ ⟨(HKEY.out _ HBJ4.out).2.1,(HKEY.out _ HBJ4.out).2.2.1,(HKEY.out _ HBJ4.out).2.2.2.1,(HKEY.out _ HBJ4.out).2.2.2.2.1,(HKEY.out _ HBJ4.out).2.2.2.2.2⟩ (fun hHeld=>?_)
    clear hK K
    refine Zaj (a':=?_) ?_ ?_
    rotate_left
    ·show Act.put _ (some 99) _=_
     simp only[Act.put,List.setIfInBounds_toArray,List.set_cons_zero,List.set_cons_succ,ZH,ZJ]
     rfl
    refine ZX (i:=5) (N:=some 94) (v:=?_) (a':=?_) #[true,true,true,true,true,true,false,false,true,false,false] rfl rfl (by kernel_rfl) (fun _ _ _ h=>h) (Or.inl ⟨by rfl,?_⟩) ?_ ?_
    rotate_left
    ·intro w'
     go_simp
     with_reducible rfl
    rotate_left
    ·simp only[Act.put,List.setIfInBounds_toArray,List.set_cons_zero,List.set_cons_succ,ZH,ZJ]
     rfl
    refine ZX (i:=6) (N:=some 100) (v:=?_) (a':=?_) #[true,true,true,true,true,true,true,false,true,false,false] rfl rfl (by kernel_rfl) (fun _ _ _ h=>h) (Or.inl ⟨by rfl,?_⟩) ?_ ?_
    rotate_left
    ·intro w'
     go_simp
     with_reducible rfl
    rotate_left
    ·simp only[Act.put,List.setIfInBounds_toArray,List.set_cons_zero,List.set_cons_succ,ZH,ZJ]
     rfl
    refine ZX (i:=7) (N:=some 101) (v:=?_) (a':=?_) #[true,true,true,true,true,true,true,true,true,false,false] rfl rfl (by kernel_rfl) (fun _ _ _ h=>h) (Or.inl ⟨by rfl,?_⟩) ?_ ?_
    rotate_left
    ·intro w'
     go_simp
     with_reducible rfl
    rotate_left
    ·simp only[Act.put,List.setIfInBounds_toArray,List.set_cons_zero,List.set_cons_succ,ZH,ZJ]
     rfl
    exact Zaj (by simp only[Zce,Act.put,List.setIfInBounds_toArray,List.set_cons_zero,List.set_cons_succ]) (hCont (.agg #[.slice X31j1_0 u2_0_0.length x31j1_0,.slice X31j1_1 u2_0_1.length x31j1_1,.int .i64 u2_0_2],.agg #[.slice X31j3_0 u3_0_0.length x31j3_0,.slice X31j3_1 u3_0_1.length x31j3_1],vJ,gbJ) _ ⟨HBJ4,BKJ,HGJ,HOJ⟩)
  ·skip
   refine Zcr (by rfl) (N:=15) rfl (cs:=#[.int .i64 0,.slice none 0 0]) (t:=54) ?hr ?_
   (case hr=>first|(go_simp;done)|(go_simp;rfl))
   intro gbJ hgJ qJ10 hboxJ hb
   have HBJ1:=Za (Zt HBJ0.out hb)
   have BKJ:=Za hboxJ
   have HGJ:=Za (show w16.heap.size≤gbJ by rw[hgJ];exact HBJ0.out.size)
   clear hb hboxJ hgJ
   refine hK.out _ _ ⟨(HKEY.out _ HBJ1.out).2.1,(HKEY.out _ HBJ1.out).2.2.1,(HKEY.out _ HBJ1.out).2.2.2.1,(HKEY.out _ HBJ1.out).2.2.2.2.1,(HKEY.out _ HBJ1.out).2.2.2.2.2⟩ (fun hHeld=>?_)
   clear hK K
   refine Zaj (a':=?_) ?_ ?_
   rotate_left
   ·show Act.put _ (some 15) _=_
    simp only[Act.put,List.setIfInBounds_toArray,List.set_cons_zero,List.set_cons_succ,ZH,ZJ]
    rfl
   refine one_ (i:=1) (N:=some 96) #[true,true,true,false,false,false,false,false,true,false,false] rfl rfl (by kernel_rfl) (by decide) (fun K hK=>?_)
   refine ZaV Tryz.func30 (by kernel_rfl) rfl #[.agg #[.slice A0_0 l0_0.length c0_0,.slice A0_1 l0_1.length c0_1,.int .i64 a0_2]] (by rfl) rfl rfl (by(try simp only[List.map_toArray,List.map_cons,List.map_nil]);first|done|rfl) ?_
   refine(ZaO.c k A0_0 c0_0 l0_0 A0_1 c0_1 l0_1 a0_2 _ _ _ _ (HK16.out _ HBJ1.out).1.1.2.2.2.2.2.2.2.2.1.out.2 (HK16.out _ HBJ1.out).1.1.2.2.2.2.2.2.2.2.1.out.1 (HK16.out _ HBJ1.out).1.1.2.2.2.2.2.2.2.2.2.1.out.2 (HK16.out _ HBJ1.out).1.1.2.2.2.2.2.2.2.2.2.1.out.1  HF2.out).mono ?_
   rintro e qJ11 ⟨X31j1_0,x31j1_0,X31j1_1,x31j1_1,rfl,g31j1_0,g31j1_1,hb⟩
   refine⟨_,rfl,?_⟩
   have HBJ2:=Za (Zt HBJ1.out hb)
   replace BKJ:=Za (Zx BKJ.out hb)
   clear hb
   refine hK.out _ _ ⟨(HKEY.out _ HBJ2.out).2.1,(HKEY.out _ HBJ2.out).2.2.1,(HKEY.out _ HBJ2.out).2.2.2.1,(HKEY.out _ HBJ2.out).2.2.2.2.1,(HKEY.out _ HBJ2.out).2.2.2.2.2⟩ (fun hHeld=>?_)
   clear hK K
   refine Zaj (a':=?_) ?_ ?_
   rotate_left
   ·show Act.put _ (some 96) _=_
    simp only[Act.put,List.setIfInBounds_toArray,List.set_cons_zero,List.set_cons_succ,ZH,ZJ]
    rfl
   refine one_ (i:=3) (N:=some 98) #[true,true,true,true,false,false,false,false,true,false,false] rfl rfl (by kernel_rfl) (by decide) (fun K hK=>?_)
   refine ZaV Tryz.func31 (by kernel_rfl) rfl #[.agg #[.slice A1_0 l1_0.length c1_0,.slice A1_1 l1_1.length c1_1]] (by rfl) rfl rfl (by(try simp only[List.map_toArray,List.map_cons,List.map_nil]);first|done|rfl) ?_
   refine(Zas.c k A1_0 c1_0 l1_0 A1_1 c1_1 l1_1 _ _ _ (HK16.out _ HBJ2.out).1.1.2.2.2.2.2.2.2.2.2.2.1.out.2 (HK16.out _ HBJ2.out).1.1.2.2.2.2.2.2.2.2.2.2.1.out.1 (HK16.out _ HBJ2.out).1.1.2.2.2.2.2.2.2.2.2.2.2.out.2 (HK16.out _ HBJ2.out).1.1.2.2.2.2.2.2.2.2.2.2.2.out.1  HF3.out).mono ?_
   rintro e qJ12 ⟨X31j3_0,x31j3_0,X31j3_1,x31j3_1,rfl,g31j3_0,g31j3_1,hb⟩
   refine⟨_,rfl,?_⟩
   have HBJ3:=Za (Zt HBJ2.out hb)
   replace g31j1_0:=Za (And.intro g31j1_0.out.1 (Zb g31j1_0.out.2 hb))
   replace g31j1_1:=Za (And.intro g31j1_1.out.1 (Zb g31j1_1.out.2 hb))
   replace BKJ:=Za (Zx BKJ.out hb)
   clear hb
   refine hK.out _ _ ⟨(HKEY.out _ HBJ3.out).2.1,(HKEY.out _ HBJ3.out).2.2.1,(HKEY.out _ HBJ3.out).2.2.2.1,(HKEY.out _ HBJ3.out).2.2.2.2.1,(HKEY.out _ HBJ3.out).2.2.2.2.2⟩ (fun hHeld=>?_)
   clear hK K
   refine Zaj (a':=?_) ?_ ?_
   rotate_left
   ·show Act.put _ (some 98) _=_
    simp only[Act.put,List.setIfInBounds_toArray,List.set_cons_zero,List.set_cons_succ,ZH,ZJ]
    rfl
   refine one_ (i:=4) (N:=some 99) #[true,true,true,true,true,false,false,false,true,false,false] rfl rfl (by kernel_rfl) (by decide) (fun K hK=>?_)
   refine ZaV Tryz.func32 (by kernel_rfl) rfl #[.agg #[.slice X31j1_0 u2_0_0.length x31j1_0,.slice X31j1_1 u2_0_1.length x31j1_1,.int .i64 u2_0_2],.agg #[.slice X31j3_0 u3_0_0.length x31j3_0,.slice X31j3_1 u3_0_1.length x31j3_1]] (by rfl) rfl rfl (by(try simp only[List.map_toArray,List.map_cons,List.map_nil]);first|done|rfl) ?_
   refine(ZaA.calls k X31j1_0 x31j1_0 u2_0_0 X31j1_1 x31j1_1 u2_0_1 u2_0_2 X31j3_0 x31j3_0 u3_0_0 X31j3_1 x31j3_1 u3_0_1 _ _ _ _ g31j1_0.out.2 g31j1_0.out.1 g31j1_1.out.2 g31j1_1.out.1 g31j3_0.out.2 g31j3_0.out.1 g31j3_1.out.2 g31j3_1.out.1 (TW.below HTW.out ((HK16.out _ HBJ3.out).1.1.1)) HF5.out).mono ?_
   rintro e qJ13 ⟨vJ,rfl,hoJ,hb⟩
   refine⟨_,rfl,?_⟩
   have HBJ4:=Za (Zt HBJ3.out hb)
   replace g31j1_0:=Za (And.intro g31j1_0.out.1 (Zb g31j1_0.out.2 hb))
   replace g31j1_1:=Za (And.intro g31j1_1.out.1 (Zb g31j1_1.out.2 hb))
   replace g31j3_0:=Za (And.intro g31j3_0.out.1 (Zb g31j3_0.out.2 hb))
   replace g31j3_1:=Za (And.intro g31j3_1.out.1 (Zb g31j3_1.out.2 hb))
   have HOJ:=Za (Kd.R_lower (Kd.R_mono (Kd.R_newB hoJ BKJ.out) (fun _ hk=>hk.2)) HBJ3.out.size)
   replace BKJ:=Za (Zx BKJ.out hb)
   clear hb hoJ
   refine hK.out _ _ ⟨(HKEY.out _ HBJ4.out).2.1,(HKEY.out _ HBJ4.out).2.2.1,(HKEY.out _ HBJ4.out).2.2.2.1,(HKEY.out _ HBJ4.out).2.2.2.2.1,(HKEY.out _ HBJ4.out).2.2.2.2.2⟩ (fun hHeld=>?_)
   clear hK K
   refine Zaj (a':=?_) ?_ ?_
   rotate_left
   ·show Act.put _ (some 99) _=_
    simp only[Act.put,List.setIfInBounds_toArray,List.set_cons_zero,List.set_cons_succ,ZH,ZJ]
    rfl
   refine ZX (i:=5) (N:=some 94) (v:=?_) (a':=?_) #[true,true,true,true,true,true,false,false,true,false,false] rfl rfl (by kernel_rfl) (fun _ _ _ h=>h) (Or.inl ⟨by rfl,?_⟩) ?_ ?_
   rotate_left
   ·intro w'
    go_simp
    with_reducible rfl
   rotate_left
   ·simp only[Act.put,List.setIfInBounds_toArray,List.set_cons_zero,List.set_cons_succ,ZH,ZJ]
    rfl
   refine ZX (i:=6) (N:=some 100) (v:=?_) (a':=?_) #[true,true,true,true,true,true,true,false,true,false,false] rfl rfl (by kernel_rfl) (fun _ _ _ h=>h) (Or.inl ⟨by rfl,?_⟩) ?_ ?_
   rotate_left
   ·intro w'
    go_simp
    with_reducible rfl
   rotate_left
   ·simp only[Act.put,List.setIfInBounds_toArray,List.set_cons_zero,List.set_cons_succ,ZH,ZJ]
    rfl
   refine ZX (i:=7) (N:=some 101) (v:=?_) (a':=?_) #[true,true,true,true,true,true,true,true,true,false,false] rfl rfl (by kernel_rfl) (fun _ _ _ h=>h) (Or.inl ⟨by rfl,?_⟩) ?_ ?_
   rotate_left
   ·intro w'
    go_simp
    with_reducible rfl
   rotate_left
   ·simp only[Act.put,List.setIfInBounds_toArray,List.set_cons_zero,List.set_cons_succ,ZH,ZJ]
    rfl
   exact Zaj (by simp only[Zce,Act.put,List.setIfInBounds_toArray,List.set_cons_zero,List.set_cons_succ]) (hCont (.agg #[.slice X31j1_0 u2_0_0.length x31j1_0,.slice X31j1_1 u2_0_1.length x31j1_1,.int .i64 u2_0_2],.agg #[.slice X31j3_0 u3_0_0.length x31j3_0,.slice X31j3_1 u3_0_1.length x31j3_1],vJ,gbJ) _ ⟨HBJ4,BKJ,HGJ,HOJ⟩)
 rintro⟨sJ96,sJ98,vJ,gbJ⟩ qJ ⟨HBJ,BKJ,HGJ,HOJ⟩
 dsimp only at BKJ HGJ HOJ
 obtain⟨X31j4_0,x31j4_0,eJ⟩:=Kd.R_slice HOJ.out
 subst eJ
 have hHeld:qJ.cell? ⟨w.heap.size,0,none⟩=some (.slice A0_0 l0_0.length c0_0)∧qJ.cell? ⟨w.heap.size,1,none⟩=some (.slice A0_1 l0_1.length c0_1)∧qJ.cell? ⟨w.heap.size,2,none⟩=some (.int .i64 a0_2)∧qJ.cell? ⟨w.heap.size+1,0,none⟩=some (.slice A1_0 l1_0.length c1_0)∧qJ.cell? ⟨w.heap.size+1,1,none⟩=some (.slice A1_1 l1_1.length c1_1):=⟨(HKEY.out _ HBJ.out).2.1,(HKEY.out _ HBJ.out).2.2.1,(HKEY.out _ HBJ.out).2.2.2.1,(HKEY.out _ HBJ.out).2.2.2.2.1,(HKEY.out _ HBJ.out).2.2.2.2.2⟩
 have kzJ0:qJ.cell? ⟨gbJ,0,none⟩=some (.int .i64 0):=(Zp BKJ.out 0).trans rfl
 have kzJ1:qJ.cell? ⟨gbJ,1,none⟩=some (.slice none 0 0):=(Zp BKJ.out 1).trans rfl
 have fzJ0:=Zs BKJ.out 0
 have fzJ1:=Zs BKJ.out 1
 refine Zaj (a':=?_) ?_ ?_
 rotate_left
 ·simp only[Zce,Act.put,List.setIfInBounds_toArray,List.set_cons_zero,List.set_cons_succ]
  rfl
 refine one_ (i:=9) (N:=none) #[true,true,true,true,true,true,true,true,true,true,false] rfl rfl (by kernel_rfl) (by decide) (fun K hK=>?_)
 refine skip_ (w1:=?_) (by rfl) rfl ?_ ?_
 rotate_left
 ·go_simp
  rfl
 refine hK.out _ _ ⟨(HKEY.out _ (Zq (j:=1) (v:=.slice X31j4_0 u5_0_1.length x31j4_0) (Zq (j:=0) (v:=.int .i64 u5_0_0) HBJ.out HGJ.out) HGJ.out)).2.1,(HKEY.out _ (Zq (j:=1) (v:=.slice X31j4_0 u5_0_1.length x31j4_0) (Zq (j:=0) (v:=.int .i64 u5_0_0) HBJ.out HGJ.out) HGJ.out)).2.2.1,(HKEY.out _ (Zq (j:=1) (v:=.slice X31j4_0 u5_0_1.length x31j4_0) (Zq (j:=0) (v:=.int .i64 u5_0_0) HBJ.out HGJ.out) HGJ.out)).2.2.2.1,(HKEY.out _ (Zq (j:=1) (v:=.slice X31j4_0 u5_0_1.length x31j4_0) (Zq (j:=0) (v:=.int .i64 u5_0_0) HBJ.out HGJ.out) HGJ.out)).2.2.2.2.1,(HKEY.out _ (Zq (j:=1) (v:=.slice X31j4_0 u5_0_1.length x31j4_0) (Zq (j:=0) (v:=.int .i64 u5_0_0) HBJ.out HGJ.out) HGJ.out)).2.2.2.2.2⟩ (fun hHeld=>?_)
 clear hK K
 refine ZX (i:=10) (N:=some 16) (v:=?_) (a':=?_) #[true,true,true,true,true,true,true,true,true,true,true] rfl rfl (by kernel_rfl) (fun _ _ _ h=>h) (Or.inl ⟨by rfl,?_⟩) ?_ ?_
 rotate_left
 ·intro w'
  go_simp
  with_reducible rfl
 rotate_left
 ·simp only[Act.put,List.setIfInBounds_toArray,List.set_cons_zero,List.set_cons_succ,ZH,ZJ]
  rfl
 refine Zcp (by kernel_rfl) ?_
 have B17:=Za (Zq (j:=1) (v:=.slice X31j4_0 u5_0_1.length x31j4_0) (Zq (j:=0) (v:=.int .i64 u5_0_0) HBJ.out HGJ.out) HGJ.out)
 have RJ:=(Kd.R_far (p:=⟨gbJ,1,none⟩) (Kd.R_far (p:=⟨gbJ,0,none⟩) HOJ.out (fun _ hk=>hk) (.int .i64 u5_0_0)) (fun _ hk=>hk) (.slice X31j4_0 u5_0_1.length x31j4_0))
 have BJ:=(ZP (cs:=#[.int .i64 u5_0_0,.slice none 0 0]) (ZP (cs:=#[.int .i64 0,.slice none 0 0]) BKJ.out 0 (.int .i64 u5_0_0) rfl) 1 (.slice X31j4_0 u5_0_1.length x31j4_0) rfl)
 have z6:=ZW BJ
 have s6_0:((qJ.setCell ⟨gbJ,0,none⟩ (.int .i64 u5_0_0)).setCell ⟨gbJ,1,none⟩ (.slice X31j4_0 u5_0_1.length x31j4_0)).cell? ⟨gbJ,0,none⟩=some (.int .i64 u5_0_0):=(Zp BJ 0).trans rfl
 have s6_1:((qJ.setCell ⟨gbJ,0,none⟩ (.int .i64 u5_0_0)).setCell ⟨gbJ,1,none⟩ (.slice X31j4_0 u5_0_1.length x31j4_0)).cell? ⟨gbJ,1,none⟩=some (.slice X31j4_0 u5_0_1.length x31j4_0):=(Zp BJ 1).trans rfl
 have g31j4_0:=Za (And.intro (Kd.R_reads' RJ).2.1 (Kd.R_reads' RJ).2.2)
 clear RJ BJ HKEY BKJ HOJ HBJ hHeld kzJ0 fzJ0 kzJ1 fzJ1 HBJ0
 generalize ((qJ.setCell ⟨gbJ,0,none⟩ (.int .i64 u5_0_0)).setCell ⟨gbJ,1,none⟩ (.slice X31j4_0 u5_0_1.length x31j4_0))=w17 at B17 z6 s6_0 s6_1 g31j4_0 ⊢
 clear hB z0 s0_0 s0_1 s0_2 z1 s1_0 s1_1 Q0_0 Q0_1 Q1_0 Q1_1 z2 s2_0 s2_1 g8j4_0 sz4 bE sz5 ow6 sz6 g6_0 z5 s5_0 s5_1
 have HK17:=Za fun (W:World) (hA:Below w17.heap.size w17 W)=>And.intro (HK16.out W (B17.out.trans (hA.mono B17.out.size))) (And.intro (Nat.lt_of_lt_of_le z6 hA.size) (And.intro (ZE hA s6_0) (And.intro (ZE hA s6_1) ((Za (And.intro g31j4_0.out.1 (Zb g31j4_0.out.2 hA)))))))
 clear z6 s6_0 s6_1 g31j4_0
 obtain⟨⟨⟨⟨hB,z0,s0_0,s0_1,s0_2,z1,s1_0,s1_1,Q0_0,Q0_1,Q1_0,Q1_1⟩,z2,s2_0,s2_1,g8j4_0⟩,sz4,bE,sz5,ow6,sz6,g6_0,z5,s5_0,s5_1⟩,z6,s6_0,s6_1,g31j4_0⟩:=HK17.out _ (Below.refl _ _)
 have le4_17:=sz4
 have le5_17:=sz5
 have le6_17:=sz6
 go_wp2_with fail
 refine(ZcW.same u5_0_0 X31j4_0 x31j4_0 X8j4_0 x8j4_0 u5_0_1 _ g31j4_0.out.2 g31j4_0.out.1 g8j4_0.out.2 g8j4_0.out.1).mono ?_
 rintro e w18 ⟨rfl,hb⟩
 have B18:=Za hb;clear hB z0 s0_0 s0_1 s0_2 z1 s1_0 s1_1 Q0_0 Q0_1 Q1_0 Q1_1 z2 s2_0 s2_1 g8j4_0 sz4 bE sz5 ow6 sz6 g6_0 z5 s5_0 s5_1 z6 s6_0 s6_1 g31j4_0 hb
 have HK18:=Za fun (W:World) (hA:Below w18.heap.size w18 W)=>HK17.out W (B18.out.trans (hA.mono B18.out.size))
 obtain⟨⟨⟨⟨hB,z0,s0_0,s0_1,s0_2,z1,s1_0,s1_1,Q0_0,Q0_1,Q1_0,Q1_1⟩,z2,s2_0,s2_1,g8j4_0⟩,sz4,bE,sz5,ow6,sz6,g6_0,z5,s5_0,s5_1⟩,z6,s6_0,s6_1,g31j4_0⟩:=HK18.out _ (Below.refl _ _)
 have le4_18:=sz4
 have le5_18:=sz5
 have le6_18:=sz6
 go_wp2_with fail
 refine(ZdZ _ _ _ _ _ _ g6_0.out.2 g6_0.out.1 SM_u5_0_1.out (by have:=SM_u5_0_1.out;omega) (by have:=SM_u5_0_1.out;omega)).mono ?_
 rintro e w19 ⟨rfl,hb⟩
 have B19:=Za hb;clear hB z0 s0_0 s0_1 s0_2 z1 s1_0 s1_1 Q0_0 Q0_1 Q1_0 Q1_1 z2 s2_0 s2_1 g8j4_0 sz4 bE sz5 ow6 sz6 g6_0 z5 s5_0 s5_1 z6 s6_0 s6_1 g31j4_0 hb
 have HK19:=Za fun (W:World) (hA:Below w19.heap.size w19 W)=>HK18.out W (B19.out.trans (hA.mono B19.out.size))
 obtain⟨⟨⟨⟨hB,z0,s0_0,s0_1,s0_2,z1,s1_0,s1_1,Q0_0,Q0_1,Q1_0,Q1_1⟩,z2,s2_0,s2_1,g8j4_0⟩,sz4,bE,sz5,ow6,sz6,g6_0,z5,s5_0,s5_1⟩,z6,s6_0,s6_1,g31j4_0⟩:=HK19.out _ (Below.refl _ _)
 have le4_19:=sz4
 have le5_19:=sz5
 have le6_19:=sz6
 go_wp2
 go_ret
 exact⟨rfl,(HK19.out _ (Below.refl _ _)).1.1.1.1⟩
end Go.Proofs.YtoeimopgoaffcaaGreatDoor.Pr
namespace Go.Proofs.YtoeimopgoaffcaaGreatDoor.Pr
open Go.RowKit Go.Proofs.YtoeimopgoaffcaaGreatDoorW.PrintWords Go.Proofs.YtoeimopgoaffcaaGreatDoorW.PrintLast Go.Proofs.YtoeimopgoaffcaaGreatDoorW.PrintMore
attribute [local go_sem] Z2 Z0 Zac Zab ZU ZT Z1 ZZ
set_option linter.unusedVariables false
set_option linter.unusedSimpArgs false
def laws_FnExactProjectShow.Pure:Prop:=∀(y0:S47) (y1:S49),okS47 y0→okS49 y1→∃k,laws_FnExactProjectShow.f k y0.f0 y0.f1 y0.f2 y1.f0 y1.f1=some true
end Go.Proofs.YtoeimopgoaffcaaGreatDoor.Pr
set_option linter.unusedSimpArgs false
namespace Go.Proofs.YtoeimopgoaffcaaGreatDoor.Pure
open Go.RowKit Go.Proofs.YtoeimopgoaffcaaGreatDoor.Pr Go.Proofs.YtoeimopgoaffcaaGreatDoor.Ni Go.Proofs.YtoeimopgoaffcaaGreatDoorW.PrintWords Go.Proofs.YtoeimopgoaffcaaGreatDoorW.PrintMore
theorem FnExactProjectShow:laws_FnExactProjectShow.Pure:=by
 rintro⟨ns,ts,z⟩ ⟨ln,vs⟩ ⟨⟨hn,hb⟩,⟨ht,_⟩,_⟩ ⟨⟨hln,_⟩,⟨hvs,_⟩⟩
 simp only[maxLen] at hn ht hln hvs
 refine⟨2 ^ 70,?_⟩
 unfold laws_FnExactProjectShow.f
 obtain⟨r,hr,h⟩:=szShow_f ns ts z hn (fun n hn=>by have:=hb n hn;exact⟨by simpa [maxLen] using this.1,by simpa [maxLen] using this.2.1.1⟩) ht (2 ^ 70) (by omega) 1048576 (by omega) (by omega)
 rw[hr,Zi]
 rcases h with h|⟨h0,h1,h⟩
 ·rw[if_pos h]
 rw[if_neg (by omega)]
 have hc:=h.cv
 obtain⟨r2,hr2,h2⟩:=szChoice_f ln vs (by omega) (by omega) r (by omega) (by omega)
 rw[hr2,Zi]
 rcases h2 with h2|⟨_,_,h6,h7⟩
 ·rw[if_pos h2]
 rw[if_neg (by omega)]
 have hsm:=smallB_of hc
 have hl:=projB_len (ns.map cvN) (ts.map cvT) z ln vs
 simp only[toShow_f ns ts z h (2 ^ 70) (by omega),toChoice_f ln vs (by omega) (by omega) (2 ^ 70) (by omega),ZdR (ts:=ts.map cvT) (z:=z) (ln:=ln) (vs:=vs) hc h7 (2 ^ 70) (by omega),ZdY (ts:=ts.map cvT) (z:=z) (ln:=ln) (vs:=vs) hc h7 (2 ^ 70) (by omega),hsm,h6,h7,hl,Zi,if_true]
end Go.Proofs.YtoeimopgoaffcaaGreatDoor.Pure
