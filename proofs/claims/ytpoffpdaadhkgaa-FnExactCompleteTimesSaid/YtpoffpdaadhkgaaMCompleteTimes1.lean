/- The texts of one claim, put together by a program of this session. -/
import Derived.Deep.RegionHeld3
import Derived.Test.YtpoffpdaadhkgaaBCtc1x1
import Derived.Test.YtpoffpdaadhkgaaBCtc1x15
import Derived.Test.YtpoffpdaadhkgaaBCtc1x9
namespace Go.Proofs.Ytpoffpdaadhkgaa.Pr
open Go.RowKit Go.Proofs.YtpoffpdaadhkgaaW.PrintWords Go.Proofs.YtpoffpdaadhkgaaW.PrintLast Go.Proofs.YtpoffpdaadhkgaaW.PrintMore
attribute [local go_sem] Zaa Z8 Zak Zaj Z5 Z4 Z9 Z7
set_option linter.unusedVariables false
set_option linter.unusedSimpArgs false
open Go.Proofs.Ytpoffpdaadhkgaa.Ni
def laws_FnExactCompleteTimes.f (k:Nat) (a0_0:Int) (l0_1:List (S156)) (l1:List Int):Option (Bool):=(if (l1.length:Int) > 1048576 then some true else((Zbt.f a0_0 l0_1 1048576).bind fun u0_0=>(if u0_0<0 then some true else((ZaA.f k a0_0 l0_1).bind fun b1=>(if b1.2.length≤1048576 then((Zah.f k l1).bind fun u2_0=>(if u2_0.length≤1048576 then((ZaE.f k b1.1 b1.2 u2_0).bind fun b3=>((Zan.f k b1.1 b1.2 u2_0).bind fun b4=>(if b4.2=b3.2 then(if b4.1=b3.1 then(if b4.1.length≤1048576 then(some true) else some false) else some false) else some false))) else some false)) else some false)))))
set_option maxHeartbeats 8000000 in
set_option maxRecDepth 100000 in
theorem laws_FnExactCompleteTimes.calls (k:Nat) (a0_0:Int) (A0_1:Option Addr) (c0_1:Nat) (l0_1:List (S156)) (A1:Option Addr) (c1:Nat) (l1:List Int) (w:World) (hr0_1:Kd.C k156 w A0_1 l0_1.length l0_1) (hc0_1:l0_1.length≤c0_1) (hr1:Kd.C (Kd.int .i64) w A1 l1.length l1) (hc1:l1.length≤c1) (h:laws_FnExactCompleteTimes.f k a0_0 l0_1 l1=some true) :
  Calls Try.prog 7 #[.agg #[.int .i64 a0_0,.slice A0_1 l0_1.length c0_1],.slice A1 l1.length c1] w fun e w'=>e=.returned (.bool true)∧Below w.heap.size w w':=by
 unfold laws_FnExactCompleteTimes.f at h
 have hv25:=Try.underlying25
 by_cases hpre0:(l1.length:Int) > 1048576
 case pos=>
  have hpq0:decide (1048576<l1.length)=true:=Ze (by omega)
  have hpr0:decide ((l1.length:Int) > 1048576)=true:=Ze hpre0
  clear h hpre0
  have hu46:=Try.underlying46
  have HB0:=Za (Zq (Below.refl w.heap.size w) (.cells #[.int .i64 a0_0,.slice A0_1 l0_1.length c0_1] 46))
  clear hr0_1 hc0_1 hr1 hc1
  go_enter Try.func7,Try.ntmps7
  go_wp2
  go_ret
  exact⟨rfl,HB0.out⟩
 rw[if_neg hpre0] at h
 have hpq0:decide (1048576<l1.length)=false:=Zf (by omega)
 have hpr0:decide ((l1.length:Int) > 1048576)=false:=Zf hpre0
 clear hpre0
 replace h:=Option.bind_eq_some_iff.1 h
 obtain⟨u0_0,HF0,h⟩:=h
 (try dsimp only at h)
 replace HF0:=Za HF0
 by_cases hcn0:u0_0<0
 case pos=>
  have hq0:decide (u0_0<0)=true:=Ze hcn0
  clear h hcn0
  have hu46:=Try.underlying46
  have HB0:=Za (Zq (Below.refl w.heap.size w) (.cells #[.int .i64 a0_0,.slice A0_1 l0_1.length c0_1] 46))
  have Q0_1:=Za (And.intro hc0_1 (Zb hr0_1 HB0.out))
  have Q1:=Za (And.intro hc1 (Zb hr1 HB0.out))
  clear hr0_1 hc0_1 hr1 hc1
  go_enter Try.func7,Try.ntmps7
  go_wp2_with fail
  refine(Zbt.calls a0_0 A0_1 c0_1 l0_1 1048576 _ _ Q0_1.out.2 Q0_1.out.1 HF0.out).mono ?_
  rintro e w1 ⟨rfl,hb⟩
  have HB1:=Za (HB0.out.trans (hb.mono HB0.out.size))
  have z0:w.heap.size<w1.heap.size:=Nat.lt_of_lt_of_le (by simp <;> omega) hb.size
  have s0_0:w1.cell? ⟨w.heap.size,0,none⟩=some (.int .i64 a0_0):=ZK hb (by go_simp)
  have s0_1:w1.cell? ⟨w.heap.size,1,none⟩=some (.slice A0_1 l0_1.length c0_1):=ZK hb (by go_simp)
  replace Q0_1:=Za (And.intro Q0_1.out.1 (Zb Q0_1.out.2 hb))
  replace Q1:=Za (And.intro Q1.out.1 (Zb Q1.out.2 hb))
  have HK1:=Za fun (W:World) (hA:Below w1.heap.size w1 W)=>And.intro (HB1.out.trans (hA.mono HB1.out.size)) (And.intro (Nat.lt_of_lt_of_le z0 hA.size) (And.intro (ZK hA s0_0) (And.intro (ZK hA s0_1) (And.intro (Za (And.intro Q0_1.out.1 (Zb Q0_1.out.2 hA))) ((Za (And.intro Q1.out.1 (Zb Q1.out.2 hA))))))))
  clear z0 s0_0 s0_1 Q0_1 Q1 hb
  obtain⟨hB,z0,s0_0,s0_1,Q0_1,Q1⟩:=HK1.out _ (Below.refl _ _)
  go_wp2
  go_ret
  exact⟨rfl,(HK1.out _ (Below.refl _ _)).1⟩
 rw[if_neg hcn0] at h
 have hq0:decide (u0_0<0)=false:=Zf hcn0
 clear hcn0
 replace h:=Option.bind_eq_some_iff.1 h
 obtain⟨⟨u1_0_0,u1_0_1⟩,HF1,h⟩:=h
 (try dsimp only at h)
 replace HF1:=Za HF1
 by_cases ht58:u1_0_1.length≤1048576
 case neg=>rw[if_neg ht58] at h;exact absurd h (by simp)
 rw[if_pos ht58] at h
 have SM_u1_0_1:=Za (ht58)
 clear ht58
 replace h:=Option.bind_eq_some_iff.1 h
 obtain⟨u2_0,HF2,h⟩:=h
 (try dsimp only at h)
 replace HF2:=Za HF2
 by_cases ht67:u2_0.length≤1048576
 case neg=>rw[if_neg ht67] at h;exact absurd h (by simp)
 rw[if_pos ht67] at h
 have SM_u2_0:=Za (ht67)
 clear ht67
 replace h:=Option.bind_eq_some_iff.1 h
 obtain⟨⟨u3_0,u3_1⟩,HF3,h⟩:=h
 (try dsimp only at h)
 replace HF3:=Za HF3
 replace h:=Option.bind_eq_some_iff.1 h
 obtain⟨⟨u4_0,u4_1⟩,HF4,h⟩:=h
 (try dsimp only at h)
 replace HF4:=Za HF4
 by_cases ht80:u4_1=u3_1
 case neg=>rw[if_neg ht80] at h;exact absurd h (by simp)
 rw[if_pos ht80] at h
 subst ht80
 by_cases ht84:u4_0=u3_0
 case neg=>rw[if_neg ht84] at h;exact absurd h (by simp)
 rw[if_pos ht84] at h
 subst ht84
 by_cases ht88:u4_0.length≤1048576
 case neg=>rw[if_neg ht88] at h;exact absurd h (by simp)
 rw[if_pos ht88] at h
 have SM_u4_0:=Za (ht88)
 clear ht88 h
 have hu46:=Try.underlying46
 have HB0:=Za (Zq (Below.refl w.heap.size w) (.cells #[.int .i64 a0_0,.slice A0_1 l0_1.length c0_1] 46))
 have Q0_1:=Za (And.intro hc0_1 (Zb hr0_1 HB0.out))
 have Q1:=Za (And.intro hc1 (Zb hr1 HB0.out))
 clear hr0_1 hc0_1 hr1 hc1
 go_enter Try.func7,Try.ntmps7
 go_wp2_with fail
 refine(Zbt.calls a0_0 A0_1 c0_1 l0_1 1048576 _ _ Q0_1.out.2 Q0_1.out.1 HF0.out).mono ?_
 rintro e w1 ⟨rfl,hb⟩
 have HB1:=Za (HB0.out.trans (hb.mono HB0.out.size))
 have z0:w.heap.size<w1.heap.size:=Nat.lt_of_lt_of_le (by simp <;> omega) hb.size
 have s0_0:w1.cell? ⟨w.heap.size,0,none⟩=some (.int .i64 a0_0):=ZK hb (by go_simp)
 have s0_1:w1.cell? ⟨w.heap.size,1,none⟩=some (.slice A0_1 l0_1.length c0_1):=ZK hb (by go_simp)
 replace Q0_1:=Za (And.intro Q0_1.out.1 (Zb Q0_1.out.2 hb))
 replace Q1:=Za (And.intro Q1.out.1 (Zb Q1.out.2 hb))
 have HK1:=Za fun (W:World) (hA:Below w1.heap.size w1 W)=>And.intro (HB1.out.trans (hA.mono HB1.out.size)) (And.intro (Nat.lt_of_lt_of_le z0 hA.size) (And.intro (ZK hA s0_0) (And.intro (ZK hA s0_1) (And.intro (Za (And.intro Q0_1.out.1 (Zb Q0_1.out.2 hA))) ((Za (And.intro Q1.out.1 (Zb Q1.out.2 hA))))))))
 clear z0 s0_0 s0_1 Q0_1 Q1 hb
 obtain⟨hB,z0,s0_0,s0_1,Q0_1,Q1⟩:=HK1.out _ (Below.refl _ _)
 go_wp2_with fail
 refine(ZaA.c k a0_0 A0_1 c0_1 l0_1 _ _ _ Q0_1.out.2 Q0_1.out.1 HF1.out).mono ?_
 rintro e w2 ⟨X2_0,x2_0,rfl,g2_0,hb⟩
 have B2:=Za hb;clear hB z0 s0_0 s0_1 Q0_1 Q1 hb
 have HK2:=Za fun (W:World) (hA:Below w2.heap.size w2 W)=>And.intro (HK1.out W (B2.out.trans (hA.mono B2.out.size))) ((Za (And.intro g2_0.out.1 (Zb g2_0.out.2 hA))))
 clear g2_0
 obtain⟨⟨hB,z0,s0_0,s0_1,Q0_1,Q1⟩,g2_0⟩:=HK2.out _ (Below.refl _ _)
 go_wp2_with fail
 refine(Zah.c k A1 c1 l1 _ _ Q1.out.2 Q1.out.1 HF2.out).mono ?_
 rintro e w3 ⟨X3_0,x3_0,rfl,g3_0,hb⟩
 have B3:=Za hb;clear hB z0 s0_0 s0_1 Q0_1 Q1 g2_0 hb
 have HK3:=Za fun (W:World) (hA:Below w3.heap.size w3 W)=>And.intro (HK2.out W (B3.out.trans (hA.mono B3.out.size))) ((Za (And.intro g3_0.out.1 (Zb g3_0.out.2 hA))))
 clear g3_0
 obtain⟨⟨⟨hB,z0,s0_0,s0_1,Q0_1,Q1⟩,g2_0⟩,g3_0⟩:=HK3.out _ (Below.refl _ _)
 go_wp2_with fail
 refine(ZaE.c k u1_0_0 X2_0 x2_0 u1_0_1 X3_0 x3_0 u2_0 _ _ _ g2_0.out.2 g2_0.out.1 g3_0.out.2 g3_0.out.1 HF3.out).mono ?_
 rintro e w4 ⟨X4_0,x4_0,rfl,g4_0,hb⟩
 have B4:=Za hb;clear hB z0 s0_0 s0_1 Q0_1 Q1 g2_0 g3_0 hb
 have HK4:=Za fun (W:World) (hA:Below w4.heap.size w4 W)=>And.intro (HK3.out W (B4.out.trans (hA.mono B4.out.size))) ((Za (And.intro g4_0.out.1 (Zb g4_0.out.2 hA))))
 clear g4_0
 obtain⟨⟨⟨⟨hB,z0,s0_0,s0_1,Q0_1,Q1⟩,g2_0⟩,g3_0⟩,g4_0⟩:=HK4.out _ (Below.refl _ _)
 go_wp2_with fail
 refine(ZaA.o k a0_0 A0_1 c0_1 l0_1 _ _ _ Q0_1.out.2 Q0_1.out.1 HF1.out).mono ?_
 rintro e w5 ⟨X5_0,x5_0,rfl,g5_0,ow5,hb⟩
 have B5:=Za hb
 replace ow5:=Za (Kd.R_lower (Kd.R_mono ow5.out (fun k hk=>And.intro hk.1 (And.intro (Nat.le_trans (Nat.le_refl _) hk.2.1) hk.2.2))) (Nat.le_refl _))
 have sz5:=Nat.le_refl w5.heap.size
 have bE:=B5.out
 clear hB z0 s0_0 s0_1 Q0_1 Q1 g2_0 g3_0 g4_0 hb
 have HK5:=Za fun (W:World) (hA:Below w5.heap.size w5 W)=>And.intro (HK4.out W (B5.out.trans (hA.mono B5.out.size))) (And.intro (Za (Kd.R_below ow5.out hA)) (And.intro (Nat.le_trans sz5 hA.size) (And.intro (bE.trans (hA.mono bE.size)) ((Za (And.intro g5_0.out.1 (Zb g5_0.out.2 hA)))))))
 clear ow5 sz5 bE g5_0
 obtain⟨⟨⟨⟨⟨hB,z0,s0_0,s0_1,Q0_1,Q1⟩,g2_0⟩,g3_0⟩,g4_0⟩,ow5,sz5,bE,g5_0⟩:=HK5.out _ (Below.refl _ _)
 go_wp2_with fail
 refine(Zah.o k A1 c1 l1 _ _ (Zb Q1.out.2 (Zq (Below.refl _ _) _)) Q1.out.1 HF2.out).mono ?_
 rintro e w6 ⟨X6_0,x6_0,rfl,g6_0,ow6,hb⟩
 have B6:=Za (Zy (Zq (Below.refl w5.heap.size w5) _) hb)
 replace ow6:=Za (Kd.R_lower (Kd.R_mono ow6.out (fun k hk=>And.intro hk.1 (And.intro (Nat.le_trans (Zq (Below.refl w5.heap.size w5) _).size hk.2.1) hk.2.2))) (Nat.le_trans bE.size (Zq (Below.refl w5.heap.size w5) _).size))
 have sz6:=Nat.le_refl w6.heap.size
 have z1:w5.heap.size<w6.heap.size:=Nat.lt_of_lt_of_le (by simp <;> omega) hb.size
 have s1_0:w6.cell? ⟨w5.heap.size,0,none⟩=some (.int .i64 u1_0_0):=ZK hb (by go_simp)
 have s1_1:w6.cell? ⟨w5.heap.size,1,none⟩=some (.slice X5_0 u1_0_1.length x5_0):=ZK hb (by go_simp)
 clear hB z0 s0_0 s0_1 Q0_1 Q1 g2_0 g3_0 g4_0 ow5 sz5 bE g5_0 hb
 have HK6:=Za fun (W:World) (hA:Below w6.heap.size w6 W)=>And.intro (HK5.out W (B6.out.trans (hA.mono B6.out.size))) (And.intro (Za (Kd.R_below ow6.out hA)) (And.intro (Nat.le_trans sz6 hA.size) (And.intro (Nat.lt_of_lt_of_le z1 hA.size) (And.intro (ZK hA s1_0) (And.intro (ZK hA s1_1) ((Za (And.intro g6_0.out.1 (Zb g6_0.out.2 hA)))))))))
 clear ow6 sz6 z1 s1_0 s1_1 g6_0
 obtain⟨⟨⟨⟨⟨⟨hB,z0,s0_0,s0_1,Q0_1,Q1⟩,g2_0⟩,g3_0⟩,g4_0⟩,ow5,sz5,bE,g5_0⟩,ow6,sz6,z1,s1_0,s1_1,g6_0⟩:=HK6.out _ (Below.refl _ _)
 have le5_6:=sz5
 go_wp2_with fail
 refine(Zan.o k u1_0_0 X5_0 x5_0 u1_0_1 X6_0 x6_0 u2_0 _ _ _ g5_0.out.2 g5_0.out.1 g6_0.out.2 g6_0.out.1 HF4.out).mono ?_
 rintro e w7 ⟨X7_0,x7_0,rfl,g7_0,ow7,hb⟩
 have B7:=Za hb
 replace ow7:=Za (Kd.R_lower (Kd.R_mono ow7.out (fun k hk=>And.intro hk.1 (And.intro (Nat.le_trans (Nat.le_refl _) hk.2.1) hk.2.2))) (Nat.le_trans bE.size (Nat.le_refl _)))
 have sz7:=Nat.le_refl w7.heap.size
 clear hB z0 s0_0 s0_1 Q0_1 Q1 g2_0 g3_0 g4_0 ow5 sz5 bE g5_0 ow6 sz6 z1 s1_0 s1_1 g6_0 hb
 have HK7:=Za fun (W:World) (hA:Below w7.heap.size w7 W)=>And.intro (HK6.out W (B7.out.trans (hA.mono B7.out.size))) (And.intro (Za (Kd.R_below ow7.out hA)) (And.intro (Nat.le_trans sz7 hA.size) ((Za (And.intro g7_0.out.1 (Zb g7_0.out.2 hA))))))
 clear ow7 sz7 g7_0
 obtain⟨⟨⟨⟨⟨⟨⟨hB,z0,s0_0,s0_1,Q0_1,Q1⟩,g2_0⟩,g3_0⟩,g4_0⟩,ow5,sz5,bE,g5_0⟩,ow6,sz6,z1,s1_0,s1_1,g6_0⟩,ow7,sz7,g7_0⟩:=HK7.out _ (Below.refl _ _)
 have le5_7:=sz5
 have le6_7:=sz6
 go_wp2_with fail
 refine(Zav.calls (2 ^ 64) X7_0 x7_0 u4_0 X4_0 x4_0 u4_0 true _ g7_0.out.2 g7_0.out.1 g4_0.out.2 g4_0.out.1 (Zcd _ (g7_0.out.2.2).1 (2 ^ 64) (Nat.le_refl _))).mono ?_
 rintro e w8 ⟨rfl,hd⟩
 have hb:=hd.below
 clear hd;have B8:=Za hb;clear hB z0 s0_0 s0_1 Q0_1 Q1 g2_0 g3_0 g4_0 ow5 sz5 bE g5_0 ow6 sz6 z1 s1_0 s1_1 g6_0 ow7 sz7 g7_0 hb
 have HK8:=Za fun (W:World) (hA:Below w8.heap.size w8 W)=>HK7.out W (B8.out.trans (hA.mono B8.out.size))
 obtain⟨⟨⟨⟨⟨⟨⟨hB,z0,s0_0,s0_1,Q0_1,Q1⟩,g2_0⟩,g3_0⟩,g4_0⟩,ow5,sz5,bE,g5_0⟩,ow6,sz6,z1,s1_0,s1_1,g6_0⟩,ow7,sz7,g7_0⟩:=HK8.out _ (Below.refl _ _)
 have le5_8:=sz5
 have le6_8:=sz6
 have le7_8:=sz7
 go_wp2_with fail
 go_region_held3 (fun w'=>Below w8.heap.size w8 w'∧w'.cell? ⟨w5.heap.size,0,none⟩=some (.int .i64 u1_0_0)∧w'.cell? ⟨w5.heap.size,1,none⟩=some (.slice X5_0 u1_0_1.length x5_0)∧w'.cell? ⟨w.heap.size,0,none⟩=some (.int .i64 a0_0)∧w'.cell? ⟨w.heap.size,1,none⟩=some (.slice A0_1 l0_1.length c0_1))
  (first|(refine⟨by repeat(first|(with_reducible first|exact Below.refl _ _|apply Zq|apply Zm|apply Zs|exact(‹Below w8.heap.size w8 _∧_› : Below w8.heap.size w8 _∧_).1)|exact Below.refl _ _),?_⟩;go_simp;done)|(have HQ_:=HK8.out _ (Zy (‹Below w8.heap.size w8 _∧_› : Below w8.heap.size w8 _∧_).1 hb);exact⟨Zy (‹Below w8.heap.size w8 _∧_› : Below w8.heap.size w8 _∧_).1 hb,HQ_.1.2.2.2.2.1,HQ_.1.2.2.2.2.2.1,HQ_.1.1.1.1.1.1.2.2.1,HQ_.1.1.1.1.1.1.2.2.2.1⟩))
  (first|(go_at_call 31;(refine(ZaA.c k a0_0 A0_1 c0_1 l0_1 _ _ _ ?s9_0 ?s9_1 HF1.out).mono ?_);(case s9_0=>exact(HK8.out _ (‹Below w8.heap.size w8 _∧_› : Below w8.heap.size w8 _∧_).1).1.1.1.1.1.1.2.2.2.2.1.out.2);(case s9_1=>exact(HK8.out _ (‹Below w8.heap.size w8 _∧_› : Below w8.heap.size w8 _∧_).1).1.1.1.1.1.1.2.2.2.2.1.out.1);rintro e w9 ⟨X9_0,x9_0,rfl,g9_0,hb⟩)|(go_at_call 33;(refine(ZdV.same u1_0_0 X5_0 x5_0 X9_0 x9_0 u1_0_1 _ ?s10_0 ?s10_1 ?s10_2 ?s10_3).mono ?_);(case s10_0=>exact(HK8.out _ (‹Below w8.heap.size w8 _∧_› : Below w8.heap.size w8 _∧_).1).1.1.2.2.2.2.out.2);(case s10_1=>exact(HK8.out _ (‹Below w8.heap.size w8 _∧_› : Below w8.heap.size w8 _∧_).1).1.1.2.2.2.2.out.1);(case s10_2=>exact g9_0.out.2);(case s10_3=>exact g9_0.out.1);rintro e w10 ⟨rfl,hb⟩;replace g9_0:=Za (And.intro g9_0.out.1 (Zb g9_0.out.2 hb))))
 have B10:=Za (‹Below w8.heap.size w8 w10∧_› : Below w8.heap.size w8 w10∧_).1
 clear hB z0 s0_0 s0_1 Q0_1 Q1 g2_0 g3_0 g4_0 ow5 sz5 bE g5_0 ow6 sz6 z1 s1_0 s1_1 g6_0 ow7 sz7 g7_0
 have HK10:=Za fun (W:World) (hA:Below w10.heap.size w10 W)=>HK8.out W (B10.out.trans (hA.mono B10.out.size))
 obtain⟨⟨⟨⟨⟨⟨⟨hB,z0,s0_0,s0_1,Q0_1,Q1⟩,g2_0⟩,g3_0⟩,g4_0⟩,ow5,sz5,bE,g5_0⟩,ow6,sz6,z1,s1_0,s1_1,g6_0⟩,ow7,sz7,g7_0⟩:=HK10.out _ (Below.refl _ _)
 have le5_10:=sz5
 have le6_10:=sz6
 have le7_10:=sz7
 go_wp2_with fail
 refine(Zah.c k A1 c1 l1 _ _ Q1.out.2 Q1.out.1 HF2.out).mono ?_
 rintro e w11 ⟨X11_0,x11_0,rfl,g11_0,hb⟩
 have B11:=Za hb;clear hB z0 s0_0 s0_1 Q0_1 Q1 g2_0 g3_0 g4_0 ow5 sz5 bE g5_0 ow6 sz6 z1 s1_0 s1_1 g6_0 ow7 sz7 g7_0 hb
 have HK11:=Za fun (W:World) (hA:Below w11.heap.size w11 W)=>And.intro (HK10.out W (B11.out.trans (hA.mono B11.out.size))) ((Za (And.intro g11_0.out.1 (Zb g11_0.out.2 hA))))
 clear g11_0
 obtain⟨⟨⟨⟨⟨⟨⟨⟨hB,z0,s0_0,s0_1,Q0_1,Q1⟩,g2_0⟩,g3_0⟩,g4_0⟩,ow5,sz5,bE,g5_0⟩,ow6,sz6,z1,s1_0,s1_1,g6_0⟩,ow7,sz7,g7_0⟩,g11_0⟩:=HK11.out _ (Below.refl _ _)
 have le5_11:=sz5
 have le6_11:=sz6
 have le7_11:=sz7
 go_wp2_with fail
 refine(Zav.calls (2 ^ 64) X6_0 x6_0 u2_0 X11_0 x11_0 u2_0 true _ g6_0.out.2 g6_0.out.1 g11_0.out.2 g11_0.out.1 (Zcd _ (g6_0.out.2.2).1 (2 ^ 64) (Nat.le_refl _))).mono ?_
 rintro e w12 ⟨rfl,hd⟩
 have hb:=hd.below
 clear hd;have B12:=Za hb;clear hB z0 s0_0 s0_1 Q0_1 Q1 g2_0 g3_0 g4_0 ow5 sz5 bE g5_0 ow6 sz6 z1 s1_0 s1_1 g6_0 ow7 sz7 g7_0 g11_0 hb
 have HK12:=Za fun (W:World) (hA:Below w12.heap.size w12 W)=>HK11.out W (B12.out.trans (hA.mono B12.out.size))
 obtain⟨⟨⟨⟨⟨⟨⟨⟨hB,z0,s0_0,s0_1,Q0_1,Q1⟩,g2_0⟩,g3_0⟩,g4_0⟩,ow5,sz5,bE,g5_0⟩,ow6,sz6,z1,s1_0,s1_1,g6_0⟩,ow7,sz7,g7_0⟩,g11_0⟩:=HK12.out _ (Below.refl _ _)
 have le5_12:=sz5
 have le6_12:=sz6
 have le7_12:=sz7
 go_wp2_with fail
 refine(markSimple_k w4 _ _ _ _ _ bE (Kd.R_mono ow5.out (fun k hk=>hk.2.2)) SM_u1_0_1.out _ (by omega) (by omega)).mono ?_
 rintro e w13 ⟨kx13,rfl,HR13,hb,hk⟩
 have hqkx13:=(Zf (by have:=HR13.out;omega):decide (kx13<0)=false)
 have B13:=Za hb
 replace sz5:=Nat.le_trans sz5 hk.1
 replace bE:=hb
 replace ow6:=Za (Kd.R_kept ow6.out hk (fun k h2 h3=>absurd (Nat.lt_of_lt_of_le h3 (Nat.le_trans (Nat.le_refl _) h2.2.1)) (Nat.lt_irrefl _)))
 replace sz6:=Nat.le_trans sz6 hk.1
 replace z1:=Nat.lt_of_lt_of_le z1 hk.1
 replace s1_0:=cell_kept s1_0 hk (fun h3=>absurd (Nat.lt_of_lt_of_le h3 (Nat.le_refl _)) (Nat.lt_irrefl _))
 replace s1_1:=cell_kept s1_1 hk (fun h3=>absurd (Nat.lt_of_lt_of_le h3 (Nat.le_refl _)) (Nat.lt_irrefl _))
 replace g6_0:=Za (And.intro g6_0.out.1 (Kd.R_reads' ow6.out).2.2)
 replace ow7:=Za (Kd.R_kept ow7.out hk (fun k h2 h3=>absurd (Nat.lt_of_lt_of_le h3 (Nat.le_trans le5_6 h2.2.1)) (Nat.lt_irrefl _)))
 replace sz7:=Nat.le_trans sz7 hk.1
 replace g7_0:=Za (And.intro g7_0.out.1 (Kd.R_reads' ow7.out).2.2)
 clear hB z0 s0_0 s0_1 Q0_1 Q1 g2_0 g3_0 g4_0 ow5 g5_0 g11_0 hk
 have HK13:=Za fun (W:World) (hA:Below w13.heap.size w13 W)=>And.intro (HK4.out W (B13.out.trans (hA.mono B13.out.size))) (And.intro (Nat.le_trans sz5 hA.size) (And.intro (bE.trans (hA.mono bE.size)) (And.intro (Za (Kd.R_below ow6.out hA)) (And.intro (Nat.le_trans sz6 hA.size) (And.intro (Nat.lt_of_lt_of_le z1 hA.size) (And.intro (ZK hA s1_0) (And.intro (ZK hA s1_1) (And.intro (Za (And.intro g6_0.out.1 (Zb g6_0.out.2 hA))) (And.intro (Za (Kd.R_below ow7.out hA)) (And.intro (Nat.le_trans sz7 hA.size) ((Za (And.intro g7_0.out.1 (Zb g7_0.out.2 hA))))))))))))))
 clear sz5 bE ow6 sz6 z1 s1_0 s1_1 g6_0 ow7 sz7 g7_0
 obtain⟨⟨⟨⟨⟨hB,z0,s0_0,s0_1,Q0_1,Q1⟩,g2_0⟩,g3_0⟩,g4_0⟩,sz5,bE,ow6,sz6,z1,s1_0,s1_1,g6_0,ow7,sz7,g7_0⟩:=HK13.out _ (Below.refl _ _)
 have le5_13:=sz5
 have le6_13:=sz6
 have le7_13:=sz7
 go_wp2_with fail
 refine(Zdq w4 _ _ _ _ bE (Kd.R_mono ow6.out (fun k hk=>hk.2.2)) SM_u2_0.out _ (by have:=HR13.out;have:=SM_u2_0.out;omega) (by have:=HR13.out;have:=SM_u2_0.out;omega)).mono ?_
 rintro e w14 ⟨rfl,hm0,hb,hk⟩
 have hqw14:=(Zf (by have:=HR13.out;have:=SM_u2_0.out;omega):decide ((kx13+(u2_0.length:Int))<0)=false)
 have B14:=Za hb
 replace sz5:=Nat.le_trans sz5 hk.1
 replace bE:=hb
 replace sz6:=Nat.le_trans sz6 hk.1
 replace ow7:=Za (Kd.R_kept ow7.out hk (fun k h2 h3=>absurd (Nat.lt_of_lt_of_le h3 (Nat.le_trans (Nat.le_refl _) h2.2.1)) (Nat.lt_irrefl _)))
 replace sz7:=Nat.le_trans sz7 hk.1
 replace g7_0:=Za (And.intro g7_0.out.1 (Kd.R_reads' ow7.out).2.2)
 clear hB z0 s0_0 s0_1 Q0_1 Q1 g2_0 g3_0 g4_0 ow6 z1 s1_0 s1_1 g6_0 hk
 have HK14:=Za fun (W:World) (hA:Below w14.heap.size w14 W)=>And.intro (HK4.out W (B14.out.trans (hA.mono B14.out.size))) (And.intro (Nat.le_trans sz5 hA.size) (And.intro (bE.trans (hA.mono bE.size)) (And.intro (Nat.le_trans sz6 hA.size) (And.intro (Za (Kd.R_below ow7.out hA)) (And.intro (Nat.le_trans sz7 hA.size) ((Za (And.intro g7_0.out.1 (Zb g7_0.out.2 hA)))))))))
 clear sz5 bE sz6 ow7 sz7 g7_0 hm0
 obtain⟨⟨⟨⟨⟨hB,z0,s0_0,s0_1,Q0_1,Q1⟩,g2_0⟩,g3_0⟩,g4_0⟩,sz5,bE,sz6,ow7,sz7,g7_0⟩:=HK14.out _ (Below.refl _ _)
 have le5_14:=sz5
 have le6_14:=sz6
 have le7_14:=sz7
 go_wp2_with fail
 refine(Zav.calls (2 ^ 64) X7_0 x7_0 u4_0 X4_0 x4_0 u4_0 true _ g7_0.out.2 g7_0.out.1 g4_0.out.2 g4_0.out.1 (Zcd _ (g7_0.out.2.2).1 (2 ^ 64) (Nat.le_refl _))).mono ?_
 rintro e w15 ⟨rfl,hd⟩
 have hb:=hd.below
 clear hd;have B15:=Za hb;clear hB z0 s0_0 s0_1 Q0_1 Q1 g2_0 g3_0 g4_0 sz5 bE sz6 ow7 sz7 g7_0 hb
 have HK15:=Za fun (W:World) (hA:Below w15.heap.size w15 W)=>HK14.out W (B15.out.trans (hA.mono B15.out.size))
 obtain⟨⟨⟨⟨⟨hB,z0,s0_0,s0_1,Q0_1,Q1⟩,g2_0⟩,g3_0⟩,g4_0⟩,sz5,bE,sz6,ow7,sz7,g7_0⟩:=HK15.out _ (Below.refl _ _)
 have le5_15:=sz5
 have le6_15:=sz6
 have le7_15:=sz7
 go_wp2_with fail
 refine(Zdq w4 _ _ _ _ bE (Kd.R_mono ow7.out (fun k hk=>hk.2.2)) SM_u4_0.out _ (by have:=HR13.out;have:=SM_u2_0.out;have:=SM_u4_0.out;omega) (by have:=HR13.out;have:=SM_u2_0.out;have:=SM_u4_0.out;omega)).mono ?_
 rintro e w16 ⟨rfl,hm0,hb,hk⟩
 have hqw16:=(Zf (by have:=HR13.out;have:=SM_u2_0.out;have:=SM_u4_0.out;omega):decide ((1+(u4_0.length:Int))<0)=false)
 have B16:=Za hb
 replace sz5:=Nat.le_trans sz5 hk.1
 replace bE:=hb
 replace sz6:=Nat.le_trans sz6 hk.1
 replace ow7:=Za hm0
 replace sz7:=Nat.le_trans sz7 hk.1
 replace g7_0:=Za (marked_reads hm0)
 clear hB z0 s0_0 s0_1 Q0_1 Q1 g2_0 g3_0 g4_0 hk
 have HK16:=Za fun (W:World) (hA:Below w16.heap.size w16 W)=>And.intro (HK4.out W (B16.out.trans (hA.mono B16.out.size))) (And.intro (Nat.le_trans sz5 hA.size) (And.intro (bE.trans (hA.mono bE.size)) (And.intro (Nat.le_trans sz6 hA.size) (And.intro (Za (Kd.R_below ow7.out hA)) (And.intro (Nat.le_trans sz7 hA.size) ((Za (And.intro g7_0.out.1 (Zb g7_0.out.2 hA)))))))))
 clear sz5 bE sz6 ow7 sz7 g7_0 hm0
 obtain⟨⟨⟨⟨⟨hB,z0,s0_0,s0_1,Q0_1,Q1⟩,g2_0⟩,g3_0⟩,g4_0⟩,sz5,bE,sz6,ow7,sz7,g7_0⟩:=HK16.out _ (Below.refl _ _)
 have le5_16:=sz5
 have le6_16:=sz6
 have le7_16:=sz7
 go_wp2_with fail
 refine(Zdt _ _ _ _ _ g7_0.out.2 g7_0.out.1 SM_u4_0.out (by have:=SM_u4_0.out;omega) (by have:=SM_u4_0.out;omega)).mono ?_
 rintro e w17 ⟨rfl,hb⟩
 have B17:=Za hb;clear hB z0 s0_0 s0_1 Q0_1 Q1 g2_0 g3_0 g4_0 sz5 bE sz6 ow7 sz7 g7_0 hb
 have HK17:=Za fun (W:World) (hA:Below w17.heap.size w17 W)=>HK16.out W (B17.out.trans (hA.mono B17.out.size))
 obtain⟨⟨⟨⟨⟨hB,z0,s0_0,s0_1,Q0_1,Q1⟩,g2_0⟩,g3_0⟩,g4_0⟩,sz5,bE,sz6,ow7,sz7,g7_0⟩:=HK17.out _ (Below.refl _ _)
 have le5_17:=sz5
 have le6_17:=sz6
 have le7_17:=sz7
 go_wp2_with fail
 refine(ZaA.c k a0_0 A0_1 c0_1 l0_1 _ _ _ Q0_1.out.2 Q0_1.out.1 HF1.out).mono ?_
 rintro e w18 ⟨X18_0,x18_0,rfl,g18_0,hb⟩
 have B18:=Za hb;clear hB z0 s0_0 s0_1 Q0_1 Q1 g2_0 g3_0 g4_0 sz5 bE sz6 ow7 sz7 g7_0 hb
 have HK18:=Za fun (W:World) (hA:Below w18.heap.size w18 W)=>And.intro (HK17.out W (B18.out.trans (hA.mono B18.out.size))) ((Za (And.intro g18_0.out.1 (Zb g18_0.out.2 hA))))
 clear g18_0
 obtain⟨⟨⟨⟨⟨⟨hB,z0,s0_0,s0_1,Q0_1,Q1⟩,g2_0⟩,g3_0⟩,g4_0⟩,sz5,bE,sz6,ow7,sz7,g7_0⟩,g18_0⟩:=HK18.out _ (Below.refl _ _)
 have le5_18:=sz5
 have le6_18:=sz6
 have le7_18:=sz7
 go_wp2_with fail
 refine(Zah.c k A1 c1 l1 _ _ Q1.out.2 Q1.out.1 HF2.out).mono ?_
 rintro e w19 ⟨X19_0,x19_0,rfl,g19_0,hb⟩
 have B19:=Za hb;clear hB z0 s0_0 s0_1 Q0_1 Q1 g2_0 g3_0 g4_0 sz5 bE sz6 ow7 sz7 g7_0 g18_0 hb
 have HK19:=Za fun (W:World) (hA:Below w19.heap.size w19 W)=>And.intro (HK18.out W (B19.out.trans (hA.mono B19.out.size))) ((Za (And.intro g19_0.out.1 (Zb g19_0.out.2 hA))))
 clear g19_0
 obtain⟨⟨⟨⟨⟨⟨⟨hB,z0,s0_0,s0_1,Q0_1,Q1⟩,g2_0⟩,g3_0⟩,g4_0⟩,sz5,bE,sz6,ow7,sz7,g7_0⟩,g18_0⟩,g19_0⟩:=HK19.out _ (Below.refl _ _)
 have le5_19:=sz5
 have le6_19:=sz6
 have le7_19:=sz7
 go_wp2_with fail
 refine(Zan.c k u1_0_0 X18_0 x18_0 u1_0_1 X19_0 x19_0 u2_0 _ _ _ g18_0.out.2 g18_0.out.1 g19_0.out.2 g19_0.out.1 HF4.out).mono ?_
 rintro e w20 ⟨X20_0,x20_0,rfl,g20_0,hb⟩
 have B20:=Za hb;clear hB z0 s0_0 s0_1 Q0_1 Q1 g2_0 g3_0 g4_0 sz5 bE sz6 ow7 sz7 g7_0 g18_0 g19_0 hb
 have HK20:=Za fun (W:World) (hA:Below w20.heap.size w20 W)=>And.intro (HK19.out W (B20.out.trans (hA.mono B20.out.size))) ((Za (And.intro g20_0.out.1 (Zb g20_0.out.2 hA))))
 clear g20_0
 obtain⟨⟨⟨⟨⟨⟨⟨⟨hB,z0,s0_0,s0_1,Q0_1,Q1⟩,g2_0⟩,g3_0⟩,g4_0⟩,sz5,bE,sz6,ow7,sz7,g7_0⟩,g18_0⟩,g19_0⟩,g20_0⟩:=HK20.out _ (Below.refl _ _)
 have le5_20:=sz5
 have le6_20:=sz6
 have le7_20:=sz7
 go_wp2_with fail
 refine(Zav.calls (2 ^ 64) X20_0 x20_0 u4_0 X4_0 x4_0 u4_0 true _ g20_0.out.2 g20_0.out.1 g4_0.out.2 g4_0.out.1 (Zcd _ (g20_0.out.2.2).1 (2 ^ 64) (Nat.le_refl _))).mono ?_
 rintro e w21 ⟨rfl,hd⟩
 have hb:=hd.below
 clear hd;have B21:=Za hb;clear hB z0 s0_0 s0_1 Q0_1 Q1 g2_0 g3_0 g4_0 sz5 bE sz6 ow7 sz7 g7_0 g18_0 g19_0 g20_0 hb
 have HK21:=Za fun (W:World) (hA:Below w21.heap.size w21 W)=>HK20.out W (B21.out.trans (hA.mono B21.out.size))
 obtain⟨⟨⟨⟨⟨⟨⟨⟨hB,z0,s0_0,s0_1,Q0_1,Q1⟩,g2_0⟩,g3_0⟩,g4_0⟩,sz5,bE,sz6,ow7,sz7,g7_0⟩,g18_0⟩,g19_0⟩,g20_0⟩:=HK21.out _ (Below.refl _ _)
 have le5_21:=sz5
 have le6_21:=sz6
 have le7_21:=sz7
 go_wp2_with fail
 refine(Zdt _ _ _ _ _ g7_0.out.2 g7_0.out.1 SM_u4_0.out (by have:=SM_u4_0.out;omega) (by have:=SM_u4_0.out;omega)).mono ?_
 rintro e w22 ⟨rfl,hb⟩
 have B22:=Za hb;clear hB z0 s0_0 s0_1 Q0_1 Q1 g2_0 g3_0 g4_0 sz5 bE sz6 ow7 sz7 g7_0 g18_0 g19_0 g20_0 hb
 have HK22:=Za fun (W:World) (hA:Below w22.heap.size w22 W)=>HK21.out W (B22.out.trans (hA.mono B22.out.size))
 obtain⟨⟨⟨⟨⟨⟨⟨⟨hB,z0,s0_0,s0_1,Q0_1,Q1⟩,g2_0⟩,g3_0⟩,g4_0⟩,sz5,bE,sz6,ow7,sz7,g7_0⟩,g18_0⟩,g19_0⟩,g20_0⟩:=HK22.out _ (Below.refl _ _)
 have le5_22:=sz5
 have le6_22:=sz6
 have le7_22:=sz7
 go_wp2
 go_ret
 exact⟨rfl,(HK22.out _ (Below.refl _ _)).1.1.1.1.1.1.1.1⟩
end Go.Proofs.Ytpoffpdaadhkgaa.Pr
namespace Go.Proofs.Ytpoffpdaadhkgaa.Pr
open Go.RowKit Go.Proofs.YtpoffpdaadhkgaaW.PrintWords Go.Proofs.YtpoffpdaadhkgaaW.PrintLast Go.Proofs.YtpoffpdaadhkgaaW.PrintMore
attribute [local go_sem] Zaa Z8 Zak Zaj Z5 Z4 Z9 Z7
set_option linter.unusedVariables false
set_option linter.unusedSimpArgs false
def laws_FnExactCompleteTimes.Pure:Prop:=∀(y0:S46) (y1:List Int),okS46 y0→(fun l_:List Int=>l_.length≤maxLen∧∀x_∈l_,(fun n_:Int=>(Lit.int .i64 n_).wf=true) x_) y1→∃k,laws_FnExactCompleteTimes.f k y0.f0 y0.f1 y1=some true
end Go.Proofs.Ytpoffpdaadhkgaa.Pr
set_option linter.unusedSimpArgs false
namespace Go.Proofs.Ytpoffpdaadhkgaa.Pure
open Go.RowKit Go.Proofs.Ytpoffpdaadhkgaa.Pr Go.Proofs.Ytpoffpdaadhkgaa.Ni Go.Proofs.YtpoffpdaadhkgaaW.PrintWords Go.Proofs.YtpoffpdaadhkgaaW.PrintMore
theorem canExt_nil {n:Int} {L:List ZaC} (hL:L.length≤1048576) (b:Bool) (h:Zbc.f (2 ^ 70) n L []=some b):b=false:=by
 unfold Zbc.f at h
 rw[ZbN n L [] (by simp) hL (2 ^ 70) (by omega),Zi] at h
 have hp:Zb4 n L []=false:=by
  cases hq:Zb4 n L [] with
  | false=>rfl
  | true=>
   exfalso
   unfold Zb4 Zas at hq
   simp at hq
   omega
 have hf:(fixB n L []).2.2=false:=by unfold fixB;rw[hp];rfl
 rw[hf,if_neg (by simp)] at h
 exact(Zg h).symm
theorem complT {n:Int} {L:List ZaC} {tm:List Int} (hl:tm.length≤1048576) (hL:L.length≤1048576):∃r,ZaE.f (2 ^ 70) n L tm=some r∧Zan.f (2 ^ 70) n L tm=some r∧r.1.length≤1048576:=by
 unfold ZaE.f Zan.f
 obtain⟨b,h1,h2⟩:=canExt (n:=n) (L:=L) (tm:=tm) hl hL
 rw[if_pos hl,if_pos hl,h1,h2,Zi,Zi]
 cases b with
 | false=>exact⟨_,rfl,rfl,Nat.zero_le _⟩
 | true=>
  rw[if_pos rfl,if_pos rfl]
  by_cases h0:0<tm.length
  ·rw[if_pos h0,if_pos h0]
   obtain⟨r,e1,e2,e3⟩:=Zcw (N:=Za0.f (2 ^ 70) n L) (M:=Za3.f (2 ^ 70) n L) (f:=cfin (ZY.f (2 ^ 70) n L)) (g:=cfin (ZR.f (2 ^ 70) n L)) (m:=tm.length)
    (fun t a ht=>nextT a (by omega) hL)
    (fun t ht=>by
     unfold cfin
     rw[ZbN n L t (by omega) hL (2 ^ 70) (by omega),Zb6 n L t (by omega) hL (2 ^ 70) (by omega),Zi]
     split
     ·exact⟨_,rfl,rfl,by simp only;omega⟩
     ·exact⟨_,rfl,rfl,Nat.zero_le _⟩)
    tm.length 0 tm rfl
   exact⟨r,e1,e2,by omega⟩
  ·obtain rfl:tm=[]:=List.eq_nil_of_length_eq_zero (by omega)
   exact absurd (canExt_nil hL true h1) (by simp)
theorem FnExactCompleteTimes:laws_FnExactCompleteTimes.Pure:=by
 rintro⟨n,L⟩ tm ⟨_,⟨hL,_⟩⟩ ⟨htm,_⟩
 simp only[maxLen] at hL htm
 refine⟨2 ^ 70,?_⟩
 unfold laws_FnExactCompleteTimes.f
 by_cases hm:(tm.length:Int) > 1048576
 ·rw[if_pos hm]
 rw[if_neg hm]
 obtain⟨r,hr,h⟩:=szSimple_f n L hL 1048576 (by omega) (by omega)
 rw[hr,Zi]
 rcases h with h|⟨_,_,h⟩
 ·rw[if_pos h]
 have hl:tm.length≤1048576:=by omega
 have hLL:(L.map cvK).length≤1048576:=by simpa using h
 rw[if_neg (by omega),toSimple_f n L h (2 ^ 70) (by omega),Zi,if_pos hLL,toIntS_f tm (by omega) (2 ^ 70) (by omega),Zi,if_pos hl]
 obtain⟨q,h1,h2,h3⟩:=complT (n:=n) (L:=L.map cvK) (tm:=tm) hl hLL
 rw[h1,Zi,h2,Zi,if_pos rfl,if_pos rfl,if_pos h3]
end Go.Proofs.Ytpoffpdaadhkgaa.Pure
