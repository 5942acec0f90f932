/- The texts of one claim, put together by a program of this session. -/
import Derived.Deep.RegionHeld3
import Derived.Test.YthphnhmabieflaaDoorBFtc1x1
import Derived.Test.YthphnhmabieflaaDoorBFtc1x10
import Derived.Test.YthphnhmabieflaaDoorBFtc2x1
namespace Go.Proofs.YthphnhmabieflaaDoor.Pr
open Go.RowKit Go.Proofs.YthphnhmabieflaaDoorW.PrintWords Go.Proofs.YthphnhmabieflaaDoorW.PrintLast Go.Proofs.YthphnhmabieflaaDoorW.PrintMore
attribute [local go_sem] Zah Zaf Zas Zar Z8 Z7 Zag Zae
set_option linter.unusedVariables false
set_option linter.unusedSimpArgs false
open Go.Proofs.YthphnhmabieflaaDoor.Ni
def laws_FnExactFormatTimes.f (k:Nat) (l0_0:List (S89)) (l0_1:List (S93)) (a0_2:Int) (l1:List Int):Option (Bool):=(if (l1.length:Int) > 1048576 then some true else((ZaV.f k l0_0 l0_1 a0_2 1048576).bind fun u0_0=>(if u0_0<0 then some true else((ZaF.f k l0_0 l0_1 a0_2).bind fun b1=>((Zab.f k l1).bind fun u2_0=>((ZL.f k b1.1 b1.2.1 b1.2.2 u2_0).bind fun u3_0=>((ZM.f k b1.1 b1.2.1 b1.2.2 u2_0).bind fun u4_0=>(if u4_0=u3_0 then(some true) else some false))))))))
set_option maxHeartbeats 8000000 in
set_option maxRecDepth 100000 in
theorem laws_FnExactFormatTimes.calls (k:Nat) (A0_0:Option Addr) (c0_0:Nat) (l0_0:List (S89)) (A0_1:Option Addr) (c0_1:Nat) (l0_1:List (S93)) (a0_2:Int) (A1:Option Addr) (c1:Nat) (l1:List Int) (w:World) (hr0_0:Kd.C k89 w A0_0 l0_0.length l0_0) (hc0_0:l0_0.length≤c0_0) (hr0_1:Kd.C k93 w A0_1 l0_1.length l0_1) (hc0_1:l0_1.length≤c0_1) (hr1:Kd.C (Kd.int .i64) w A1 l1.length l1) (hc1:l1.length≤c1) (ht:TW w) (h:laws_FnExactFormatTimes.f k l0_0 l0_1 a0_2 l1=some true) :
  Calls Tryd.prog 5 #[.agg #[.slice A0_0 l0_0.length c0_0,.slice A0_1 l0_1.length c0_1,.int .i64 a0_2],.slice A1 l1.length c1] w fun e w'=>e=.returned (.bool true)∧Below w.heap.size w w':=by
 unfold laws_FnExactFormatTimes.f at h
 have HTW:=Za ht;clear ht
 have hv36:=Tryd.underlying36
 by_cases hpre0:(l1.length:Int) > 1048576
 case pos=>
  have hpq0:decide (1048576<l1.length)=true:=Ze (by omega)
  have hpr0:decide ((l1.length:Int) > 1048576)=true:=Ze hpre0
  clear h hpre0
  have hu30:=Tryd.underlying30
  have HB0:=Za (Zn (Below.refl w.heap.size w) (.cells #[.slice A0_0 l0_0.length c0_0,.slice A0_1 l0_1.length c0_1,.int .i64 a0_2] 30))
  clear hr0_0 hc0_0 hr0_1 hc0_1 hr1 hc1
  go_enter Tryd.func5,Tryd.ntmps5
  go_wp2
  go_ret
  exact⟨rfl,HB0.out⟩
 rw[if_neg hpre0] at h
 have hpq0:decide (1048576<l1.length)=false:=Zf (by omega)
 have hpr0:decide ((l1.length:Int) > 1048576)=false:=Zf hpre0
 clear hpre0
 replace h:=Option.bind_eq_some_iff.1 h
 obtain⟨u0_0,HF0,h⟩:=h
 (try dsimp only at h)
 replace HF0:=Za HF0
 by_cases hcn0:u0_0<0
 case pos=>
  have hq0:decide (u0_0<0)=true:=Ze hcn0
  clear h hcn0
  have hu30:=Tryd.underlying30
  have HB0:=Za (Zn (Below.refl w.heap.size w) (.cells #[.slice A0_0 l0_0.length c0_0,.slice A0_1 l0_1.length c0_1,.int .i64 a0_2] 30))
  have Q0_0:=Za (And.intro hc0_0 (Zb hr0_0 HB0.out))
  have Q0_1:=Za (And.intro hc0_1 (Zb hr0_1 HB0.out))
  have Q1:=Za (And.intro hc1 (Zb hr1 HB0.out))
  clear hr0_0 hc0_0 hr0_1 hc0_1 hr1 hc1
  go_enter Tryd.func5,Tryd.ntmps5
  go_wp2_with fail
  refine(ZaV.calls k A0_0 c0_0 l0_0 A0_1 c0_1 l0_1 a0_2 1048576 _ _ Q0_0.out.2 Q0_0.out.1 Q0_1.out.2 Q0_1.out.1 HF0.out).mono ?_
  rintro e w1 ⟨rfl,hb⟩
  have HB1:=Za (HB0.out.trans (hb.mono HB0.out.size))
  have z0:w.heap.size<w1.heap.size:=Nat.lt_of_lt_of_le (by simp <;> omega) hb.size
  have s0_0:w1.cell? ⟨w.heap.size,0,none⟩=some (.slice A0_0 l0_0.length c0_0):=ZH hb (by go_simp)
  have s0_1:w1.cell? ⟨w.heap.size,1,none⟩=some (.slice A0_1 l0_1.length c0_1):=ZH hb (by go_simp)
  have s0_2:w1.cell? ⟨w.heap.size,2,none⟩=some (.int .i64 a0_2):=ZH hb (by go_simp)
  replace Q0_0:=Za (And.intro Q0_0.out.1 (Zb Q0_0.out.2 hb))
  replace Q0_1:=Za (And.intro Q0_1.out.1 (Zb Q0_1.out.2 hb))
  replace Q1:=Za (And.intro Q1.out.1 (Zb Q1.out.2 hb))
  have HK1:=Za fun (W:World) (hA:Below w1.heap.size w1 W)=>And.intro (HB1.out.trans (hA.mono HB1.out.size)) (And.intro (Nat.lt_of_lt_of_le z0 hA.size) (And.intro (ZH hA s0_0) (And.intro (ZH hA s0_1) (And.intro (ZH hA s0_2) (And.intro (Za (And.intro Q0_0.out.1 (Zb Q0_0.out.2 hA))) (And.intro (Za (And.intro Q0_1.out.1 (Zb Q0_1.out.2 hA))) ((Za (And.intro Q1.out.1 (Zb Q1.out.2 hA))))))))))
  clear z0 s0_0 s0_1 s0_2 Q0_0 Q0_1 Q1 hb
  obtain⟨hB,z0,s0_0,s0_1,s0_2,Q0_0,Q0_1,Q1⟩:=HK1.out _ (Below.refl _ _)
  go_wp2
  go_ret
  exact⟨rfl,(HK1.out _ (Below.refl _ _)).1⟩
 rw[if_neg hcn0] at h
 have hq0:decide (u0_0<0)=false:=Zf hcn0
 clear hcn0
 replace h:=Option.bind_eq_some_iff.1 h
 obtain⟨⟨u1_0_0,u1_0_1,u1_0_2⟩,HF1,h⟩:=h
 (try dsimp only at h)
 replace HF1:=Za HF1
 replace h:=Option.bind_eq_some_iff.1 h
 obtain⟨u2_0,HF2,h⟩:=h
 (try dsimp only at h)
 replace HF2:=Za HF2
 replace h:=Option.bind_eq_some_iff.1 h
 obtain⟨u3_0,HF3,h⟩:=h
 (try dsimp only at h)
 replace HF3:=Za HF3
 replace h:=Option.bind_eq_some_iff.1 h
 obtain⟨u4_0,HF4,h⟩:=h
 (try dsimp only at h)
 replace HF4:=Za HF4
 by_cases ht75:u4_0=u3_0
 case neg=>rw[if_neg ht75] at h;exact absurd h (by simp)
 rw[if_pos ht75] at h
 subst ht75;clear h
 have hu30:=Tryd.underlying30
 have HB0:=Za (Zn (Below.refl w.heap.size w) (.cells #[.slice A0_0 l0_0.length c0_0,.slice A0_1 l0_1.length c0_1,.int .i64 a0_2] 30))
 have Q0_0:=Za (And.intro hc0_0 (Zb hr0_0 HB0.out))
 have Q0_1:=Za (And.intro hc0_1 (Zb hr0_1 HB0.out))
 have Q1:=Za (And.intro hc1 (Zb hr1 HB0.out))
 clear hr0_0 hc0_0 hr0_1 hc0_1 hr1 hc1
 go_enter Tryd.func5,Tryd.ntmps5
 go_wp2_with fail
 refine(ZaV.calls k A0_0 c0_0 l0_0 A0_1 c0_1 l0_1 a0_2 1048576 _ _ Q0_0.out.2 Q0_0.out.1 Q0_1.out.2 Q0_1.out.1 HF0.out).mono ?_
 rintro e w1 ⟨rfl,hb⟩
 have HB1:=Za (HB0.out.trans (hb.mono HB0.out.size))
 have z0:w.heap.size<w1.heap.size:=Nat.lt_of_lt_of_le (by simp <;> omega) hb.size
 have s0_0:w1.cell? ⟨w.heap.size,0,none⟩=some (.slice A0_0 l0_0.length c0_0):=ZH hb (by go_simp)
 have s0_1:w1.cell? ⟨w.heap.size,1,none⟩=some (.slice A0_1 l0_1.length c0_1):=ZH hb (by go_simp)
 have s0_2:w1.cell? ⟨w.heap.size,2,none⟩=some (.int .i64 a0_2):=ZH hb (by go_simp)
 replace Q0_0:=Za (And.intro Q0_0.out.1 (Zb Q0_0.out.2 hb))
 replace Q0_1:=Za (And.intro Q0_1.out.1 (Zb Q0_1.out.2 hb))
 replace Q1:=Za (And.intro Q1.out.1 (Zb Q1.out.2 hb))
 have HK1:=Za fun (W:World) (hA:Below w1.heap.size w1 W)=>And.intro (HB1.out.trans (hA.mono HB1.out.size)) (And.intro (Nat.lt_of_lt_of_le z0 hA.size) (And.intro (ZH hA s0_0) (And.intro (ZH hA s0_1) (And.intro (ZH hA s0_2) (And.intro (Za (And.intro Q0_0.out.1 (Zb Q0_0.out.2 hA))) (And.intro (Za (And.intro Q0_1.out.1 (Zb Q0_1.out.2 hA))) ((Za (And.intro Q1.out.1 (Zb Q1.out.2 hA))))))))))
 clear z0 s0_0 s0_1 s0_2 Q0_0 Q0_1 Q1 hb
 obtain⟨hB,z0,s0_0,s0_1,s0_2,Q0_0,Q0_1,Q1⟩:=HK1.out _ (Below.refl _ _)
 go_wp2_with fail
 refine(ZaF.c k A0_0 c0_0 l0_0 A0_1 c0_1 l0_1 a0_2 _ _ _ _ Q0_0.out.2 Q0_0.out.1 Q0_1.out.2 Q0_1.out.1 HF1.out).mono ?_
 rintro e w2 ⟨X2_0,x2_0,X2_1,x2_1,rfl,g2_0,g2_1,hb⟩
 have B2:=Za hb;clear hB z0 s0_0 s0_1 s0_2 Q0_0 Q0_1 Q1 hb
 have HK2:=Za fun (W:World) (hA:Below w2.heap.size w2 W)=>And.intro (HK1.out W (B2.out.trans (hA.mono B2.out.size))) (And.intro (Za (And.intro g2_0.out.1 (Zb g2_0.out.2 hA))) ((Za (And.intro g2_1.out.1 (Zb g2_1.out.2 hA)))))
 clear g2_0 g2_1
 obtain⟨⟨hB,z0,s0_0,s0_1,s0_2,Q0_0,Q0_1,Q1⟩,g2_0,g2_1⟩:=HK2.out _ (Below.refl _ _)
 go_wp2_with fail
 refine(Zab.c k A1 c1 l1 _ _ Q1.out.2 Q1.out.1 HF2.out).mono ?_
 rintro e w3 ⟨X3_0,x3_0,rfl,g3_0,hb⟩
 have B3:=Za hb;clear hB z0 s0_0 s0_1 s0_2 Q0_0 Q0_1 Q1 g2_0 g2_1 hb
 have HK3:=Za fun (W:World) (hA:Below w3.heap.size w3 W)=>And.intro (HK2.out W (B3.out.trans (hA.mono B3.out.size))) ((Za (And.intro g3_0.out.1 (Zb g3_0.out.2 hA))))
 clear g3_0
 obtain⟨⟨⟨hB,z0,s0_0,s0_1,s0_2,Q0_0,Q0_1,Q1⟩,g2_0,g2_1⟩,g3_0⟩:=HK3.out _ (Below.refl _ _)
 go_wp2_with fail
 refine(ZL.calls k X2_0 x2_0 u1_0_0 X2_1 x2_1 u1_0_1 u1_0_2 X3_0 x3_0 u2_0 _ _ g2_0.out.2 g2_0.out.1 g2_1.out.2 g2_1.out.1 g3_0.out.2 g3_0.out.1 HF3.out).mono ?_
 rintro e w4 ⟨rfl,hb⟩
 have B4:=Za hb;clear hB z0 s0_0 s0_1 s0_2 Q0_0 Q0_1 Q1 g2_0 g2_1 g3_0 hb
 have HK4:=Za fun (W:World) (hA:Below w4.heap.size w4 W)=>HK3.out W (B4.out.trans (hA.mono B4.out.size))
 obtain⟨⟨⟨hB,z0,s0_0,s0_1,s0_2,Q0_0,Q0_1,Q1⟩,g2_0,g2_1⟩,g3_0⟩:=HK4.out _ (Below.refl _ _)
 go_wp2_with fail
 refine(ZaF.c k A0_0 c0_0 l0_0 A0_1 c0_1 l0_1 a0_2 _ _ _ _ Q0_0.out.2 Q0_0.out.1 Q0_1.out.2 Q0_1.out.1 HF1.out).mono ?_
 rintro e w5 ⟨X5_0,x5_0,X5_1,x5_1,rfl,g5_0,g5_1,hb⟩
 have B5:=Za hb;clear hB z0 s0_0 s0_1 s0_2 Q0_0 Q0_1 Q1 g2_0 g2_1 g3_0 hb
 have HK5:=Za fun (W:World) (hA:Below w5.heap.size w5 W)=>And.intro (HK4.out W (B5.out.trans (hA.mono B5.out.size))) (And.intro (Za (And.intro g5_0.out.1 (Zb g5_0.out.2 hA))) ((Za (And.intro g5_1.out.1 (Zb g5_1.out.2 hA)))))
 clear g5_0 g5_1
 obtain⟨⟨⟨⟨hB,z0,s0_0,s0_1,s0_2,Q0_0,Q0_1,Q1⟩,g2_0,g2_1⟩,g3_0⟩,g5_0,g5_1⟩:=HK5.out _ (Below.refl _ _)
 go_wp2_with fail
 refine(Zab.c k A1 c1 l1 _ _ (Zb Q1.out.2 (Zn (Below.refl _ _) _)) Q1.out.1 HF2.out).mono ?_
 rintro e w6 ⟨X6_0,x6_0,rfl,g6_0,hb⟩
 have B6:=Za (Zx (Zn (Below.refl w5.heap.size w5) _) hb)
 have z1:w5.heap.size<w6.heap.size:=Nat.lt_of_lt_of_le (by simp <;> omega) hb.size
 have s1_0:w6.cell? ⟨w5.heap.size,0,none⟩=some (.slice X5_0 u1_0_0.length x5_0):=ZH hb (by go_simp)
 have s1_1:w6.cell? ⟨w5.heap.size,1,none⟩=some (.slice X5_1 u1_0_1.length x5_1):=ZH hb (by go_simp)
 have s1_2:w6.cell? ⟨w5.heap.size,2,none⟩=some (.int .i64 u1_0_2):=ZH hb (by go_simp)
 clear hB z0 s0_0 s0_1 s0_2 Q0_0 Q0_1 Q1 g2_0 g2_1 g3_0 g5_0 g5_1 hb
 have HK6:=Za fun (W:World) (hA:Below w6.heap.size w6 W)=>And.intro (HK5.out W (B6.out.trans (hA.mono B6.out.size))) (And.intro (Nat.lt_of_lt_of_le z1 hA.size) (And.intro (ZH hA s1_0) (And.intro (ZH hA s1_1) (And.intro (ZH hA s1_2) ((Za (And.intro g6_0.out.1 (Zb g6_0.out.2 hA))))))))
 clear z1 s1_0 s1_1 s1_2 g6_0
 obtain⟨⟨⟨⟨⟨hB,z0,s0_0,s0_1,s0_2,Q0_0,Q0_1,Q1⟩,g2_0,g2_1⟩,g3_0⟩,g5_0,g5_1⟩,z1,s1_0,s1_1,s1_2,g6_0⟩:=HK6.out _ (Below.refl _ _)
 go_wp2_with fail
 refine(ZM.calls k X5_0 x5_0 u1_0_0 X5_1 x5_1 u1_0_1 u1_0_2 X6_0 x6_0 u2_0 _ _ g5_0.out.2 g5_0.out.1 g5_1.out.2 g5_1.out.1 g6_0.out.2 g6_0.out.1 (TW.below HTW.out hB) HF4.out).mono ?_
 rintro e w7 ⟨rfl,hb⟩
 have B7:=Za hb;clear hB z0 s0_0 s0_1 s0_2 Q0_0 Q0_1 Q1 g2_0 g2_1 g3_0 g5_0 g5_1 z1 s1_0 s1_1 s1_2 g6_0 hb
 have HK7:=Za fun (W:World) (hA:Below w7.heap.size w7 W)=>HK6.out W (B7.out.trans (hA.mono B7.out.size))
 obtain⟨⟨⟨⟨⟨hB,z0,s0_0,s0_1,s0_2,Q0_0,Q0_1,Q1⟩,g2_0,g2_1⟩,g3_0⟩,g5_0,g5_1⟩,z1,s1_0,s1_1,s1_2,g6_0⟩:=HK7.out _ (Below.refl _ _)
 go_wp2_with fail
 go_region_held3 (fun w'=>Below w7.heap.size w7 w'∧w'.cell? ⟨w5.heap.size,0,none⟩=some (.slice X5_0 u1_0_0.length x5_0)∧w'.cell? ⟨w5.heap.size,1,none⟩=some (.slice X5_1 u1_0_1.length x5_1)∧w'.cell? ⟨w5.heap.size,2,none⟩=some (.int .i64 u1_0_2)∧w'.cell? ⟨w.heap.size,0,none⟩=some (.slice A0_0 l0_0.length c0_0)∧w'.cell? ⟨w.heap.size,1,none⟩=some (.slice A0_1 l0_1.length c0_1)∧w'.cell? ⟨w.heap.size,2,none⟩=some (.int .i64 a0_2))
  (first|(refine⟨by repeat(first|(with_reducible first|exact Below.refl _ _|apply Zn|apply Zm|apply Zo|exact(‹Below w7.heap.size w7 _∧_› : Below w7.heap.size w7 _∧_).1)|exact Below.refl _ _),?_⟩;go_simp;done)|(have HQ_:=HK7.out _ (Zx (‹Below w7.heap.size w7 _∧_› : Below w7.heap.size w7 _∧_).1 hb);exact⟨Zx (‹Below w7.heap.size w7 _∧_› : Below w7.heap.size w7 _∧_).1 hb,HQ_.2.2.1,HQ_.2.2.2.1,HQ_.2.2.2.2.1,HQ_.1.1.1.1.2.2.1,HQ_.1.1.1.1.2.2.2.1,HQ_.1.1.1.1.2.2.2.2.1⟩))
  (first|(go_at_call 15;(refine(ZaF.c k A0_0 c0_0 l0_0 A0_1 c0_1 l0_1 a0_2 _ _ _ _ ?s8_0 ?s8_1 ?s8_2 ?s8_3 HF1.out).mono ?_);(case s8_0=>exact(HK7.out _ (‹Below w7.heap.size w7 _∧_› : Below w7.heap.size w7 _∧_).1).1.1.1.1.2.2.2.2.2.1.out.2);(case s8_1=>exact(HK7.out _ (‹Below w7.heap.size w7 _∧_› : Below w7.heap.size w7 _∧_).1).1.1.1.1.2.2.2.2.2.1.out.1);(case s8_2=>exact(HK7.out _ (‹Below w7.heap.size w7 _∧_› : Below w7.heap.size w7 _∧_).1).1.1.1.1.2.2.2.2.2.2.1.out.2);(case s8_3=>exact(HK7.out _ (‹Below w7.heap.size w7 _∧_› : Below w7.heap.size w7 _∧_).1).1.1.1.1.2.2.2.2.2.2.1.out.1);rintro e w8 ⟨X8_0,x8_0,X8_1,x8_1,rfl,g8_0,g8_1,hb⟩)|(go_at_call 17;(refine(ZcX.same X5_0 x5_0 X8_0 x8_0 u1_0_0 X5_1 x5_1 X8_1 x8_1 u1_0_1 u1_0_2 _ ?s9_0 ?s9_1 ?s9_2 ?s9_3 ?s9_4 ?s9_5 ?s9_6 ?s9_7).mono ?_);(case s9_0=>exact(HK7.out _ (‹Below w7.heap.size w7 _∧_› : Below w7.heap.size w7 _∧_).1).1.2.1.out.2);(case s9_1=>exact(HK7.out _ (‹Below w7.heap.size w7 _∧_› : Below w7.heap.size w7 _∧_).1).1.2.1.out.1);(case s9_2=>exact g8_0.out.2);(case s9_3=>exact g8_0.out.1);(case s9_4=>exact(HK7.out _ (‹Below w7.heap.size w7 _∧_› : Below w7.heap.size w7 _∧_).1).1.2.2.out.2);(case s9_5=>exact(HK7.out _ (‹Below w7.heap.size w7 _∧_› : Below w7.heap.size w7 _∧_).1).1.2.2.out.1);(case s9_6=>exact g8_1.out.2);(case s9_7=>exact g8_1.out.1);rintro e w9 ⟨rfl,hb⟩;replace g8_0:=Za (And.intro g8_0.out.1 (Zb g8_0.out.2 hb));replace g8_1:=Za (And.intro g8_1.out.1 (Zb g8_1.out.2 hb))))
 have B9:=Za (‹Below w7.heap.size w7 w9∧_› : Below w7.heap.size w7 w9∧_).1
 clear hB z0 s0_0 s0_1 s0_2 Q0_0 Q0_1 Q1 g2_0 g2_1 g3_0 g5_0 g5_1 z1 s1_0 s1_1 s1_2 g6_0
 have HK9:=Za fun (W:World) (hA:Below w9.heap.size w9 W)=>HK7.out W (B9.out.trans (hA.mono B9.out.size))
 obtain⟨⟨⟨⟨⟨hB,z0,s0_0,s0_1,s0_2,Q0_0,Q0_1,Q1⟩,g2_0,g2_1⟩,g3_0⟩,g5_0,g5_1⟩,z1,s1_0,s1_1,s1_2,g6_0⟩:=HK9.out _ (Below.refl _ _)
 go_wp2_with fail
 refine(Zab.c k A1 c1 l1 _ _ Q1.out.2 Q1.out.1 HF2.out).mono ?_
 rintro e w10 ⟨X10_0,x10_0,rfl,g10_0,hb⟩
 have B10:=Za hb;clear hB z0 s0_0 s0_1 s0_2 Q0_0 Q0_1 Q1 g2_0 g2_1 g3_0 g5_0 g5_1 z1 s1_0 s1_1 s1_2 g6_0 hb
 have HK10:=Za fun (W:World) (hA:Below w10.heap.size w10 W)=>And.intro (HK9.out W (B10.out.trans (hA.mono B10.out.size))) ((Za (And.intro g10_0.out.1 (Zb g10_0.out.2 hA))))
 clear g10_0
 obtain⟨⟨⟨⟨⟨⟨hB,z0,s0_0,s0_1,s0_2,Q0_0,Q0_1,Q1⟩,g2_0,g2_1⟩,g3_0⟩,g5_0,g5_1⟩,z1,s1_0,s1_1,s1_2,g6_0⟩,g10_0⟩:=HK10.out _ (Below.refl _ _)
 go_wp2_with fail
 refine(ZaJ.calls (2 ^ 64) X6_0 x6_0 u2_0 X10_0 x10_0 u2_0 true _ g6_0.out.2 g6_0.out.1 g10_0.out.2 g10_0.out.1 (ZdM _ (g6_0.out.2.2).1 (2 ^ 64) (Nat.le_refl _))).mono ?_
 rintro e w11 ⟨rfl,hd⟩
 have hb:=hd.below
 clear hd;have B11:=Za hb;clear hB z0 s0_0 s0_1 s0_2 Q0_0 Q0_1 Q1 g2_0 g2_1 g3_0 g5_0 g5_1 z1 s1_0 s1_1 s1_2 g6_0 g10_0 hb
 have HK11:=Za fun (W:World) (hA:Below w11.heap.size w11 W)=>HK10.out W (B11.out.trans (hA.mono B11.out.size))
 obtain⟨⟨⟨⟨⟨⟨hB,z0,s0_0,s0_1,s0_2,Q0_0,Q0_1,Q1⟩,g2_0,g2_1⟩,g3_0⟩,g5_0,g5_1⟩,z1,s1_0,s1_1,s1_2,g6_0⟩,g10_0⟩:=HK11.out _ (Below.refl _ _)
 go_wp2
 go_ret
 exact⟨rfl,(HK11.out _ (Below.refl _ _)).1.1.1.1.1.1⟩
end Go.Proofs.YthphnhmabieflaaDoor.Pr
namespace Go.Proofs.YthphnhmabieflaaDoor.Pr
open Go.RowKit Go.Proofs.YthphnhmabieflaaDoorW.PrintWords Go.Proofs.YthphnhmabieflaaDoorW.PrintLast Go.Proofs.YthphnhmabieflaaDoorW.PrintMore
attribute [local go_sem] Zah Zaf Zas Zar Z8 Z7 Zag Zae
set_option linter.unusedVariables false
set_option linter.unusedSimpArgs false
def laws_FnExactFormatTimes.Pure:Prop:=∀(y0:S30) (y1:List Int),okS30 y0→(fun l_:List Int=>l_.length≤maxLen∧∀x_∈l_,(fun n_:Int=>(Lit.int .i64 n_).wf=true) x_) y1→∃k,laws_FnExactFormatTimes.f k y0.f0 y0.f1 y0.f2 y1=some true
end Go.Proofs.YthphnhmabieflaaDoor.Pr
namespace Go.Proofs.YthphnhmabieflaaDoor.Pure
open Go.RowKit Go.Proofs.YthphnhmabieflaaDoor.Pr Go.Proofs.YthphnhmabieflaaDoor.Ni Go.Proofs.YthphnhmabieflaaDoorW.PrintWords Go.Proofs.YthphnhmabieflaaDoorW.PrintMore
theorem FnExactFormatTimes:laws_FnExactFormatTimes.Pure:=by
 rintro⟨ns,ts,z⟩ l ⟨⟨hn,hb⟩,⟨ht,_⟩,_⟩ ⟨hl,hv⟩
 simp only[maxLen] at hn ht
 refine⟨2 ^ 70,?_⟩
 unfold laws_FnExactFormatTimes.f
 simp only[maxLen] at hl
 by_cases hb9:(l.length:Int) > 1048576
 ·rw[if_pos hb9]
 rw[if_neg hb9]
 have hx:∀x∈l,-9223372036854775808≤x∧x≤9223372036854775807:=fun x hx=>by
  have:=wf_i64 (hv x hx)
  omega
 obtain⟨r,hr,h⟩:=ZdS ns ts z hn (fun n hn=>by have:=hb n hn;exact⟨by simpa [maxLen] using this.1,by simpa [maxLen] using this.2.1.1⟩) ht (2 ^ 70) (by omega) 1048576 (by omega) (by omega)
 rw[hr,Zi]
 rcases h with h|⟨_,_,h⟩
 ·rw[if_pos h]
 rw[if_neg (by omega)]
 have hc:=h.cv
 have hf:=fitN_of hc
 simp only[ZdQ ns ts z h (2 ^ 70) (by omega),toIntS_f l (by omega) (2 ^ 70) (by omega),Zdj (z:=z) l hx hf (2 ^ 70) (by omega),Zdt (z:=z) l hx hf (2 ^ 70) (by omega),Zi,if_true]
end Go.Proofs.YthphnhmabieflaaDoor.Pure
