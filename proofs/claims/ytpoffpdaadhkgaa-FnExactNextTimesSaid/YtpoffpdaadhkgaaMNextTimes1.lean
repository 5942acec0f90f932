/- The texts of one claim, put together by a program of this session. -/
import Derived.Deep.RegionHeld3
import Derived.Test.YtpoffpdaadhkgaaBNtc1x1
import Derived.Test.YtpoffpdaadhkgaaBNtc1x14
import Derived.Test.YtpoffpdaadhkgaaBNtc1x8
namespace Go.Proofs.Ytpoffpdaadhkgaa.Pr
open Go.RowKit Go.Proofs.YtpoffpdaadhkgaaW.PrintWords Go.Proofs.YtpoffpdaadhkgaaW.PrintLast Go.Proofs.YtpoffpdaadhkgaaW.PrintMore
attribute [local go_sem] Zaj Zah Zaq Zap Zac Zab Zai Zag
set_option linter.unusedVariables false
set_option linter.unusedSimpArgs false
open Go.Proofs.Ytpoffpdaadhkgaa.Ni
def laws_FnExactNextTimes.f (k:Nat) (a0_0:Int) (l0_1:List (S156)) (l1:List Int) (a2:Int):Option (Bool):=(if (l1.length:Int) > 1048576 then some true else((Zbi.f a0_0 l0_1 1048576).bind fun u0_0=>(if u0_0<0 then some true else((ZaM.f k a0_0 l0_1).bind fun b1=>((Zad.f k l1).bind fun u2_0=>((Zbk.f k b1.1 b1.2 u2_0 a2).bind fun b3=>((Zbl.f k b1.1 b1.2 u2_0 a2).bind fun b4=>(if b4.2.2=b3.2.2 then(if b4.1=b3.1 then(if b4.2.1=b3.2.1 then(some true) else some false) else some false) else some false))))))))
set_option maxHeartbeats 8000000 in
set_option maxRecDepth 100000 in
theorem laws_FnExactNextTimes.calls (k:Nat) (a0_0:Int) (A0_1:Option Addr) (c0_1:Nat) (l0_1:List (S156)) (A1:Option Addr) (c1:Nat) (l1:List Int) (a2:Int) (w:World) (hr0_1:Kd.C k156 w A0_1 l0_1.length l0_1) (hc0_1:l0_1.length≤c0_1) (hr1:Kd.C (Kd.int .i64) w A1 l1.length l1) (hc1:l1.length≤c1) (h:laws_FnExactNextTimes.f k a0_0 l0_1 l1 a2=some true) :
  Calls Try.prog 6 #[.agg #[.int .i64 a0_0,.slice A0_1 l0_1.length c0_1],.slice A1 l1.length c1,.int .i64 a2] w fun e w'=>e=.returned (.bool true)∧Below w.heap.size w w':=by
 unfold laws_FnExactNextTimes.f at h
 have hv29:=Try.underlying29
 have hv25:=Try.underlying25
 by_cases hpre0:(l1.length:Int) > 1048576
 case pos=>
  have hpq0:decide (1048576<l1.length)=true:=Ze (by omega)
  have hpr0:decide ((l1.length:Int) > 1048576)=true:=Ze hpre0
  clear h hpre0
  have hu46:=Try.underlying46
  have HB0:=Za (Zr (Below.refl w.heap.size w) (.cells #[.int .i64 a0_0,.slice A0_1 l0_1.length c0_1] 46))
  clear hr0_1 hc0_1 hr1 hc1
  go_enter Try.func6,Try.ntmps6
  go_wp2
  go_ret
  exact⟨rfl,HB0.out⟩
 rw[if_neg hpre0] at h
 have hpq0:decide (1048576<l1.length)=false:=Zf (by omega)
 have hpr0:decide ((l1.length:Int) > 1048576)=false:=Zf hpre0
 clear hpre0
 replace h:=Option.bind_eq_some_iff.1 h
 obtain⟨u0_0,HF0,h⟩:=h
 (try dsimp only at h)
 replace HF0:=Za HF0
 by_cases hcn0:u0_0<0
 case pos=>
  have hq0:decide (u0_0<0)=true:=Ze hcn0
  clear h hcn0
  have hu46:=Try.underlying46
  have HB0:=Za (Zr (Below.refl w.heap.size w) (.cells #[.int .i64 a0_0,.slice A0_1 l0_1.length c0_1] 46))
  have Q0_1:=Za (And.intro hc0_1 (Zb hr0_1 HB0.out))
  have Q1:=Za (And.intro hc1 (Zb hr1 HB0.out))
  clear hr0_1 hc0_1 hr1 hc1
  go_enter Try.func6,Try.ntmps6
  go_wp2_with fail
  refine(Zbi.calls a0_0 A0_1 c0_1 l0_1 1048576 _ _ Q0_1.out.2 Q0_1.out.1 HF0.out).mono ?_
  rintro e w1 ⟨rfl,hb⟩
  have HB1:=Za (HB0.out.trans (hb.mono HB0.out.size))
  have z0:w.heap.size<w1.heap.size:=Nat.lt_of_lt_of_le (by simp <;> omega) hb.size
  have s0_0:w1.cell? ⟨w.heap.size,0,none⟩=some (.int .i64 a0_0):=ZO hb (by go_simp)
  have s0_1:w1.cell? ⟨w.heap.size,1,none⟩=some (.slice A0_1 l0_1.length c0_1):=ZO hb (by go_simp)
  replace Q0_1:=Za (And.intro Q0_1.out.1 (Zb Q0_1.out.2 hb))
  replace Q1:=Za (And.intro Q1.out.1 (Zb Q1.out.2 hb))
  have HK1:=Za fun (W:World) (hA:Below w1.heap.size w1 W)=>And.intro (HB1.out.trans (hA.mono HB1.out.size)) (And.intro (Nat.lt_of_lt_of_le z0 hA.size) (And.intro (ZO hA s0_0) (And.intro (ZO hA s0_1) (And.intro (Za (And.intro Q0_1.out.1 (Zb Q0_1.out.2 hA))) ((Za (And.intro Q1.out.1 (Zb Q1.out.2 hA))))))))
  clear z0 s0_0 s0_1 Q0_1 Q1 hb
  obtain⟨hB,z0,s0_0,s0_1,Q0_1,Q1⟩:=HK1.out _ (Below.refl _ _)
  go_wp2
  go_ret
  exact⟨rfl,(HK1.out _ (Below.refl _ _)).1⟩
 rw[if_neg hcn0] at h
 have hq0:decide (u0_0<0)=false:=Zf hcn0
 clear hcn0
 replace h:=Option.bind_eq_some_iff.1 h
 obtain⟨⟨u1_0_0,u1_0_1⟩,HF1,h⟩:=h
 (try dsimp only at h)
 replace HF1:=Za HF1
 replace h:=Option.bind_eq_some_iff.1 h
 obtain⟨u2_0,HF2,h⟩:=h
 (try dsimp only at h)
 replace HF2:=Za HF2
 replace h:=Option.bind_eq_some_iff.1 h
 obtain⟨⟨u3_0_0,u3_0_1,u3_1⟩,HF3,h⟩:=h
 (try dsimp only at h)
 replace HF3:=Za HF3
 replace h:=Option.bind_eq_some_iff.1 h
 obtain⟨⟨u4_0_0,u4_0_1,u4_1⟩,HF4,h⟩:=h
 (try dsimp only at h)
 replace HF4:=Za HF4
 by_cases ht71:u4_1=u3_1
 case neg=>rw[if_neg ht71] at h;exact absurd h (by simp)
 rw[if_pos ht71] at h
 subst ht71
 by_cases ht75:u4_0_0=u3_0_0
 case neg=>rw[if_neg ht75] at h;exact absurd h (by simp)
 rw[if_pos ht75] at h
 subst ht75
 by_cases ht79:u4_0_1=u3_0_1
 case neg=>rw[if_neg ht79] at h;exact absurd h (by simp)
 rw[if_pos ht79] at h
 subst ht79;clear h
 have hu46:=Try.underlying46
 have HB0:=Za (Zr (Below.refl w.heap.size w) (.cells #[.int .i64 a0_0,.slice A0_1 l0_1.length c0_1] 46))
 have Q0_1:=Za (And.intro hc0_1 (Zb hr0_1 HB0.out))
 have Q1:=Za (And.intro hc1 (Zb hr1 HB0.out))
 clear hr0_1 hc0_1 hr1 hc1
 go_enter Try.func6,Try.ntmps6
 go_wp2_with fail
 refine(Zbi.calls a0_0 A0_1 c0_1 l0_1 1048576 _ _ Q0_1.out.2 Q0_1.out.1 HF0.out).mono ?_
 rintro e w1 ⟨rfl,hb⟩
 have HB1:=Za (HB0.out.trans (hb.mono HB0.out.size))
 have z0:w.heap.size<w1.heap.size:=Nat.lt_of_lt_of_le (by simp <;> omega) hb.size
 have s0_0:w1.cell? ⟨w.heap.size,0,none⟩=some (.int .i64 a0_0):=ZO hb (by go_simp)
 have s0_1:w1.cell? ⟨w.heap.size,1,none⟩=some (.slice A0_1 l0_1.length c0_1):=ZO hb (by go_simp)
 replace Q0_1:=Za (And.intro Q0_1.out.1 (Zb Q0_1.out.2 hb))
 replace Q1:=Za (And.intro Q1.out.1 (Zb Q1.out.2 hb))
 have HK1:=Za fun (W:World) (hA:Below w1.heap.size w1 W)=>And.intro (HB1.out.trans (hA.mono HB1.out.size)) (And.intro (Nat.lt_of_lt_of_le z0 hA.size) (And.intro (ZO hA s0_0) (And.intro (ZO hA s0_1) (And.intro (Za (And.intro Q0_1.out.1 (Zb Q0_1.out.2 hA))) ((Za (And.intro Q1.out.1 (Zb Q1.out.2 hA))))))))
 clear z0 s0_0 s0_1 Q0_1 Q1 hb
 obtain⟨hB,z0,s0_0,s0_1,Q0_1,Q1⟩:=HK1.out _ (Below.refl _ _)
 go_wp2_with fail
 refine(ZaM.c k a0_0 A0_1 c0_1 l0_1 _ _ _ Q0_1.out.2 Q0_1.out.1 HF1.out).mono ?_
 rintro e w2 ⟨X2_0,x2_0,rfl,g2_0,hb⟩
 have B2:=Za hb;clear hB z0 s0_0 s0_1 Q0_1 Q1 hb
 have HK2:=Za fun (W:World) (hA:Below w2.heap.size w2 W)=>And.intro (HK1.out W (B2.out.trans (hA.mono B2.out.size))) ((Za (And.intro g2_0.out.1 (Zb g2_0.out.2 hA))))
 clear g2_0
 obtain⟨⟨hB,z0,s0_0,s0_1,Q0_1,Q1⟩,g2_0⟩:=HK2.out _ (Below.refl _ _)
 go_wp2_with fail
 refine(Zad.c k A1 c1 l1 _ _ Q1.out.2 Q1.out.1 HF2.out).mono ?_
 rintro e w3 ⟨X3_0,x3_0,rfl,g3_0,hb⟩
 have B3:=Za hb;clear hB z0 s0_0 s0_1 Q0_1 Q1 g2_0 hb
 have HK3:=Za fun (W:World) (hA:Below w3.heap.size w3 W)=>And.intro (HK2.out W (B3.out.trans (hA.mono B3.out.size))) ((Za (And.intro g3_0.out.1 (Zb g3_0.out.2 hA))))
 clear g3_0
 obtain⟨⟨⟨hB,z0,s0_0,s0_1,Q0_1,Q1⟩,g2_0⟩,g3_0⟩:=HK3.out _ (Below.refl _ _)
 go_wp2_with fail
 refine(Zbk.calls k u1_0_0 X2_0 x2_0 u1_0_1 X3_0 x3_0 u2_0 a2 _ _ _ _ g2_0.out.2 g2_0.out.1 g3_0.out.2 g3_0.out.1 HF3.out).mono ?_
 rintro e w4 ⟨rfl,hb⟩
 have B4:=Za hb;clear hB z0 s0_0 s0_1 Q0_1 Q1 g2_0 g3_0 hb
 have HK4:=Za fun (W:World) (hA:Below w4.heap.size w4 W)=>HK3.out W (B4.out.trans (hA.mono B4.out.size))
 obtain⟨⟨⟨hB,z0,s0_0,s0_1,Q0_1,Q1⟩,g2_0⟩,g3_0⟩:=HK4.out _ (Below.refl _ _)
 go_wp2_with fail
 refine(ZaM.c k a0_0 A0_1 c0_1 l0_1 _ _ _ (Zb Q0_1.out.2 (Zr (Below.refl _ _) _)) Q0_1.out.1 HF1.out).mono ?_
 rintro e w5 ⟨X5_0,x5_0,rfl,g5_0,hb⟩
 have B5:=Za (Zy (Zr (Below.refl w4.heap.size w4) _) hb)
 have z1:w4.heap.size<w5.heap.size:=Nat.lt_of_lt_of_le (by simp <;> omega) hb.size
 have s1_0:w5.cell? ⟨w4.heap.size,0,none⟩=some (.int .i64 u4_0_0):=ZO hb (by go_simp)
 have s1_1:w5.cell? ⟨w4.heap.size,1,none⟩=some (.int .i64 u4_0_1):=ZO hb (by go_simp)
 clear hB z0 s0_0 s0_1 Q0_1 Q1 g2_0 g3_0 hb
 have HK5:=Za fun (W:World) (hA:Below w5.heap.size w5 W)=>And.intro (HK4.out W (B5.out.trans (hA.mono B5.out.size))) (And.intro (Nat.lt_of_lt_of_le z1 hA.size) (And.intro (ZO hA s1_0) (And.intro (ZO hA s1_1) ((Za (And.intro g5_0.out.1 (Zb g5_0.out.2 hA)))))))
 clear z1 s1_0 s1_1 g5_0
 obtain⟨⟨⟨⟨hB,z0,s0_0,s0_1,Q0_1,Q1⟩,g2_0⟩,g3_0⟩,z1,s1_0,s1_1,g5_0⟩:=HK5.out _ (Below.refl _ _)
 go_wp2_with fail
 refine(Zad.c k A1 c1 l1 _ _ (Zb Q1.out.2 (Zr (Below.refl _ _) _)) Q1.out.1 HF2.out).mono ?_
 rintro e w6 ⟨X6_0,x6_0,rfl,g6_0,hb⟩
 have B6:=Za (Zy (Zr (Below.refl w5.heap.size w5) _) hb)
 have z2:w5.heap.size<w6.heap.size:=Nat.lt_of_lt_of_le (by simp <;> omega) hb.size
 have s2_0:w6.cell? ⟨w5.heap.size,0,none⟩=some (.int .i64 u1_0_0):=ZO hb (by go_simp)
 have s2_1:w6.cell? ⟨w5.heap.size,1,none⟩=some (.slice X5_0 u1_0_1.length x5_0):=ZO hb (by go_simp)
 clear hB z0 s0_0 s0_1 Q0_1 Q1 g2_0 g3_0 z1 s1_0 s1_1 g5_0 hb
 have HK6:=Za fun (W:World) (hA:Below w6.heap.size w6 W)=>And.intro (HK5.out W (B6.out.trans (hA.mono B6.out.size))) (And.intro (Nat.lt_of_lt_of_le z2 hA.size) (And.intro (ZO hA s2_0) (And.intro (ZO hA s2_1) ((Za (And.intro g6_0.out.1 (Zb g6_0.out.2 hA)))))))
 clear z2 s2_0 s2_1 g6_0
 obtain⟨⟨⟨⟨⟨hB,z0,s0_0,s0_1,Q0_1,Q1⟩,g2_0⟩,g3_0⟩,z1,s1_0,s1_1,g5_0⟩,z2,s2_0,s2_1,g6_0⟩:=HK6.out _ (Below.refl _ _)
 go_wp2_with fail
 refine(Zbl.calls k u1_0_0 X5_0 x5_0 u1_0_1 X6_0 x6_0 u2_0 a2 _ _ _ _ g5_0.out.2 g5_0.out.1 g6_0.out.2 g6_0.out.1 HF4.out).mono ?_
 rintro e w7 ⟨rfl,hb⟩
 have B7:=Za hb;clear hB z0 s0_0 s0_1 Q0_1 Q1 g2_0 g3_0 z1 s1_0 s1_1 g5_0 z2 s2_0 s2_1 g6_0 hb
 have HK7:=Za fun (W:World) (hA:Below w7.heap.size w7 W)=>HK6.out W (B7.out.trans (hA.mono B7.out.size))
 obtain⟨⟨⟨⟨⟨hB,z0,s0_0,s0_1,Q0_1,Q1⟩,g2_0⟩,g3_0⟩,z1,s1_0,s1_1,g5_0⟩,z2,s2_0,s2_1,g6_0⟩:=HK7.out _ (Below.refl _ _)
 go_wp2_with fail
 refine(Zc9.same u4_0_0 u4_0_1 _ ).mono ?_
 rintro e w8 ⟨rfl,hb⟩
 have B8:=Za (Zy (Zr (Below.refl w7.heap.size w7) _) hb)
 have z3:w7.heap.size<w8.heap.size:=Nat.lt_of_lt_of_le (by simp <;> omega) hb.size
 have s3_0:w8.cell? ⟨w7.heap.size,0,none⟩=some (.int .i64 u4_0_0):=ZO hb (by go_simp)
 have s3_1:w8.cell? ⟨w7.heap.size,1,none⟩=some (.int .i64 u4_0_1):=ZO hb (by go_simp)
 clear hB z0 s0_0 s0_1 Q0_1 Q1 g2_0 g3_0 z1 s1_0 s1_1 g5_0 z2 s2_0 s2_1 g6_0 hb
 have HK8:=Za fun (W:World) (hA:Below w8.heap.size w8 W)=>And.intro (HK7.out W (B8.out.trans (hA.mono B8.out.size))) (And.intro (Nat.lt_of_lt_of_le z3 hA.size) (And.intro (ZO hA s3_0) ((ZO hA s3_1))))
 clear z3 s3_0 s3_1
 obtain⟨⟨⟨⟨⟨⟨hB,z0,s0_0,s0_1,Q0_1,Q1⟩,g2_0⟩,g3_0⟩,z1,s1_0,s1_1,g5_0⟩,z2,s2_0,s2_1,g6_0⟩,z3,s3_0,s3_1⟩:=HK8.out _ (Below.refl _ _)
 go_wp2_with fail
 go_region_held3 (fun w'=>Below w8.heap.size w8 w'∧w'.cell? ⟨w5.heap.size,0,none⟩=some (.int .i64 u1_0_0)∧w'.cell? ⟨w5.heap.size,1,none⟩=some (.slice X5_0 u1_0_1.length x5_0)∧w'.cell? ⟨w.heap.size,0,none⟩=some (.int .i64 a0_0)∧w'.cell? ⟨w.heap.size,1,none⟩=some (.slice A0_1 l0_1.length c0_1))
  (first|(refine⟨by repeat(first|(with_reducible first|exact Below.refl _ _|apply Zr|apply Zm|apply Zs|exact(‹Below w8.heap.size w8 _∧_› : Below w8.heap.size w8 _∧_).1)|exact Below.refl _ _),?_⟩;go_simp;done)|(have HQ_:=HK8.out _ (Zy (‹Below w8.heap.size w8 _∧_› : Below w8.heap.size w8 _∧_).1 hb);exact⟨Zy (‹Below w8.heap.size w8 _∧_› : Below w8.heap.size w8 _∧_).1 hb,HQ_.1.2.2.1,HQ_.1.2.2.2.1,HQ_.1.1.1.1.1.2.2.1,HQ_.1.1.1.1.1.2.2.2.1⟩))
  (first|(go_at_call 31;(refine(ZaM.c k a0_0 A0_1 c0_1 l0_1 _ _ _ ?s9_0 ?s9_1 HF1.out).mono ?_);(case s9_0=>exact(HK8.out _ (‹Below w8.heap.size w8 _∧_› : Below w8.heap.size w8 _∧_).1).1.1.1.1.1.2.2.2.2.1.out.2);(case s9_1=>exact(HK8.out _ (‹Below w8.heap.size w8 _∧_› : Below w8.heap.size w8 _∧_).1).1.1.1.1.1.2.2.2.2.1.out.1);rintro e w9 ⟨X9_0,x9_0,rfl,g9_0,hb⟩)|(go_at_call 33;(refine(ZdG.same u1_0_0 X5_0 x5_0 X9_0 x9_0 u1_0_1 _ ?s10_0 ?s10_1 ?s10_2 ?s10_3).mono ?_);(case s10_0=>exact(HK8.out _ (‹Below w8.heap.size w8 _∧_› : Below w8.heap.size w8 _∧_).1).1.1.2.2.2.2.out.2);(case s10_1=>exact(HK8.out _ (‹Below w8.heap.size w8 _∧_› : Below w8.heap.size w8 _∧_).1).1.1.2.2.2.2.out.1);(case s10_2=>exact g9_0.out.2);(case s10_3=>exact g9_0.out.1);rintro e w10 ⟨rfl,hb⟩;replace g9_0:=Za (And.intro g9_0.out.1 (Zb g9_0.out.2 hb))))
 have B10:=Za (‹Below w8.heap.size w8 w10∧_› : Below w8.heap.size w8 w10∧_).1
 clear hB z0 s0_0 s0_1 Q0_1 Q1 g2_0 g3_0 z1 s1_0 s1_1 g5_0 z2 s2_0 s2_1 g6_0 z3 s3_0 s3_1
 have HK10:=Za fun (W:World) (hA:Below w10.heap.size w10 W)=>HK8.out W (B10.out.trans (hA.mono B10.out.size))
 obtain⟨⟨⟨⟨⟨⟨hB,z0,s0_0,s0_1,Q0_1,Q1⟩,g2_0⟩,g3_0⟩,z1,s1_0,s1_1,g5_0⟩,z2,s2_0,s2_1,g6_0⟩,z3,s3_0,s3_1⟩:=HK10.out _ (Below.refl _ _)
 go_wp2_with fail
 refine(Zad.c k A1 c1 l1 _ _ Q1.out.2 Q1.out.1 HF2.out).mono ?_
 rintro e w11 ⟨X11_0,x11_0,rfl,g11_0,hb⟩
 have B11:=Za hb;clear hB z0 s0_0 s0_1 Q0_1 Q1 g2_0 g3_0 z1 s1_0 s1_1 g5_0 z2 s2_0 s2_1 g6_0 z3 s3_0 s3_1 hb
 have HK11:=Za fun (W:World) (hA:Below w11.heap.size w11 W)=>And.intro (HK10.out W (B11.out.trans (hA.mono B11.out.size))) ((Za (And.intro g11_0.out.1 (Zb g11_0.out.2 hA))))
 clear g11_0
 obtain⟨⟨⟨⟨⟨⟨⟨hB,z0,s0_0,s0_1,Q0_1,Q1⟩,g2_0⟩,g3_0⟩,z1,s1_0,s1_1,g5_0⟩,z2,s2_0,s2_1,g6_0⟩,z3,s3_0,s3_1⟩,g11_0⟩:=HK11.out _ (Below.refl _ _)
 go_wp2_with fail
 refine(ZaA.calls (2 ^ 64) X6_0 x6_0 u2_0 X11_0 x11_0 u2_0 true _ g6_0.out.2 g6_0.out.1 g11_0.out.2 g11_0.out.1 (eqIntS_refl _ (g6_0.out.2.2).1 (2 ^ 64) (Nat.le_refl _))).mono ?_
 rintro e w12 ⟨rfl,hd⟩
 have hb:=hd.below
 clear hd;have B12:=Za hb;clear hB z0 s0_0 s0_1 Q0_1 Q1 g2_0 g3_0 z1 s1_0 s1_1 g5_0 z2 s2_0 s2_1 g6_0 z3 s3_0 s3_1 g11_0 hb
 have HK12:=Za fun (W:World) (hA:Below w12.heap.size w12 W)=>HK11.out W (B12.out.trans (hA.mono B12.out.size))
 obtain⟨⟨⟨⟨⟨⟨⟨hB,z0,s0_0,s0_1,Q0_1,Q1⟩,g2_0⟩,g3_0⟩,z1,s1_0,s1_1,g5_0⟩,z2,s2_0,s2_1,g6_0⟩,z3,s3_0,s3_1⟩,g11_0⟩:=HK12.out _ (Below.refl _ _)
 go_wp2
 go_ret
 exact⟨rfl,(HK12.out _ (Below.refl _ _)).1.1.1.1.1.1.1⟩
end Go.Proofs.Ytpoffpdaadhkgaa.Pr
namespace Go.Proofs.Ytpoffpdaadhkgaa.Pr
open Go.RowKit Go.Proofs.YtpoffpdaadhkgaaW.PrintWords Go.Proofs.YtpoffpdaadhkgaaW.PrintLast Go.Proofs.YtpoffpdaadhkgaaW.PrintMore
attribute [local go_sem] Zaj Zah Zaq Zap Zac Zab Zai Zag
set_option linter.unusedVariables false
set_option linter.unusedSimpArgs false
def laws_FnExactNextTimes.Pure:Prop:=∀(y0:S46) (y1:List Int) (y2:Int),okS46 y0→(fun l_:List Int=>l_.length≤maxLen∧∀x_∈l_,(fun n_:Int=>(Lit.int .i64 n_).wf=true) x_) y1→(fun n_:Int=>(Lit.int .i64 n_).wf=true) y2→∃k,laws_FnExactNextTimes.f k y0.f0 y0.f1 y1 y2=some true
end Go.Proofs.Ytpoffpdaadhkgaa.Pr
set_option linter.unusedSimpArgs false
namespace Go.Proofs.Ytpoffpdaadhkgaa.Pure
open Go.RowKit Go.Proofs.Ytpoffpdaadhkgaa.Pr Go.Proofs.Ytpoffpdaadhkgaa.Ni Go.Proofs.YtpoffpdaadhkgaaW.PrintWords Go.Proofs.YtpoffpdaadhkgaaW.PrintMore
theorem nextT {n:Int} {L:List Zax} {tm:List Int} (a:Int) (hl:tm.length≤1048576) (hL:L.length≤1048576):∃r,Zbk.f (2 ^ 70) n L tm a=some r∧Zbl.f (2 ^ 70) n L tm a=some r:=by
 unfold Zbk.f Zbl.f
 rw[Zc8 n L tm hl hL (2 ^ 70) (by omega),Zdd n L tm hl hL (2 ^ 70) (by omega),Zi,Zi]
 by_cases h:(fixB n L tm).2.2=true
 ·rw[if_pos h,if_pos h,ZcI _ _ (2 ^ 70) (by omega),Zi]
  cases hc:consB (fixB n L tm).1 (fixB n L tm).2.1 with
  | true=>
   obtain⟨r,h1,h2⟩:=windowOf_f _ _ a hc
   rw[h1,h2,if_pos rfl]
   exact⟨_,rfl,rfl⟩
  | false=>
   unfold ZaU.f
   rw[ZbU _ _ (2 ^ 70) (by omega),hc,Zi,if_neg (by simp),if_neg (by simp)]
   exact⟨_,rfl,rfl⟩
 ·rw[if_neg h,if_neg h];exact⟨_,rfl,rfl⟩
theorem FnExactNextTimes:laws_FnExactNextTimes.Pure:=by
 rintro⟨n,L⟩ tm a ⟨_,⟨hL,_⟩⟩ ⟨htm,_⟩ _
 simp only[maxLen] at hL htm
 refine⟨2 ^ 70,?_⟩
 unfold laws_FnExactNextTimes.f
 by_cases hm:(tm.length:Int) > 1048576
 ·rw[if_pos hm]
 rw[if_neg hm]
 obtain⟨r,hr,h⟩:=szSimple_f n L hL 1048576 (by omega) (by omega)
 rw[hr,Zi]
 rcases h with h|⟨_,_,h⟩
 ·rw[if_pos h]
 rw[if_neg (by omega),toSimple_f n L h (2 ^ 70) (by omega),Zi,toIntS_f tm (by omega) (2 ^ 70) (by omega),Zi]
 obtain⟨q,h1,h2⟩:=nextT (n:=n) (L:=L.map cvK) (tm:=tm) a (by omega) (by simpa using h)
 rw[h1,Zi,h2,Zi,if_pos rfl,if_pos rfl,if_pos rfl]
end Go.Proofs.Ytpoffpdaadhkgaa.Pure
