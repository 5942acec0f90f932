/- By a program of this session. -/
import Derived.Test.YtoeimopgoaffcaaGreatDoorBBec1x29
set_option maxHeartbeats 8000000
set_option maxRecDepth 100000
namespace Go.Proofs.YtoeimopgoaffcaaGreatDoor.Pr
open RowKit YtoeimopgoaffcaaGreatDoorW.PrintWords YtoeimopgoaffcaaGreatDoorW.PrintLast YtoeimopgoaffcaaGreatDoorW.PrintMore
attribute [local go_sem] Zau Zas ZaL ZaK Zaf Zae Zat Zar
set_option linter.unusedVariables false
set_option linter.unusedSimpArgs false
open Ni
def laws_FnExactExplainChoice.f (k:Nat) (l0_0:List (S143)) (l0_1:List (S147)) (a0_2:Int) (l1_0:List Int) (l1_1:List Int):Option (Bool):=((Zce.f k l0_0 l0_1 a0_2 1048576).bind fun u0_0=>(if u0_0<0 then some true else((Zca.f l1_0 l1_1 u0_0).bind fun u1_0=>(if u1_0<0 then some true else((Za8.f k l0_0 l0_1 a0_2).bind fun b2=>(if Zel b2.1 b2.2.1=true then((ZaV.f k l1_0 l1_1).bind fun b3=>(if b3.1.length≤1048576 then(if b3.2.length≤1048576 then((ZaX.f k b2.1 b2.2.1 b2.2.2 b3.1 b3.2).bind fun u4_0=>((Zap.f k b2.1 b2.2.1 b2.2.2 b3.1 b3.2).bind fun u5_0=>(if u5_0=u4_0 then(if u5_0.length≤1048576 then(some true) else some false) else some false))) else some false) else some false)) else some false))))))
theorem laws_FnExactExplainChoice.calls (k:Nat) (A0_0:Option Addr) (c0_0:Nat) (l0_0:List (S143)) (A0_1:Option Addr) (c0_1:Nat) (l0_1:List (S147)) (a0_2:Int) (A1_0:Option Addr) (c1_0:Nat) (l1_0:List Int) (A1_1:Option Addr) (c1_1:Nat) (l1_1:List Int) (w:World) (hr0_0:Kd.C k143 w A0_0 l0_0.length l0_0) (hc0_0:l0_0.length≤c0_0) (hr0_1:Kd.C k147 w A0_1 l0_1.length l0_1) (hc0_1:l0_1.length≤c0_1) (hr1_0:Kd.C (Kd.int .i64) w A1_0 l1_0.length l1_0) (hc1_0:l1_0.length≤c1_0) (hr1_1:Kd.C (Kd.int .i64) w A1_1 l1_1.length l1_1) (hc1_1:l1_1.length≤c1_1) (ht:TW w) (h:laws_FnExactExplainChoice.f k l0_0 l0_1 a0_2 l1_0 l1_1=some true) :
  Calls Tryz.prog 9 #[.agg #[.slice A0_0 l0_0.length c0_0,.slice A0_1 l0_1.length c0_1,.int .i64 a0_2],.agg #[.slice A1_0 l1_0.length c1_0,.slice A1_1 l1_1.length c1_1]] w fun e w'=>e=.returned (.bool true)∧Below w.heap.size w w':=by
 unfold laws_FnExactExplainChoice.f at h
 have HTW:=Za ht;clear ht
 have hv25:=Tryz.underlying25
 have hv58:=Tryz.underlying58
 replace h:=Option.bind_eq_some_iff.1 h
 obtain⟨u0_0,HF0,h⟩:=h
 (try dsimp only at h)
 replace HF0:=Za HF0
 by_cases hcn0:u0_0<0
 case pos=>
  have hq0:decide (u0_0<0)=true:=Ze hcn0
  clear h hcn0
  have hu47:=Tryz.underlying47
  have hu49:=Tryz.underlying49
  have HB0:=Za (Zo (Zo (Below.refl w.heap.size w) (.cells #[.slice A0_0 l0_0.length c0_0,.slice A0_1 l0_1.length c0_1,.int .i64 a0_2] 47)) (.cells #[.slice A1_0 l1_0.length c1_0,.slice A1_1 l1_1.length c1_1] 49))
  have Q0_0:=Za (And.intro hc0_0 (Zb hr0_0 HB0.out))
  have Q0_1:=Za (And.intro hc0_1 (Zb hr0_1 HB0.out))
  have Q1_0:=Za (And.intro hc1_0 (Zb hr1_0 HB0.out))
  have Q1_1:=Za (And.intro hc1_1 (Zb hr1_1 HB0.out))
  clear hr0_0 hc0_0 hr0_1 hc0_1 hr1_0 hc1_0 hr1_1 hc1_1
  go_enter Tryz.func9,Tryz.ntmps9
  go_wp2_with fail
  refine(Zce.calls k A0_0 c0_0 l0_0 A0_1 c0_1 l0_1 a0_2 1048576 _ _ Q0_0.out.2 Q0_0.out.1 Q0_1.out.2 Q0_1.out.1 HF0.out).mono ?_
  rintro e w1 ⟨rfl,hb⟩
  have HB1:=Za (HB0.out.trans (hb.mono HB0.out.size))
  have z0:w.heap.size<w1.heap.size:=Nat.lt_of_lt_of_le (by simp <;> omega) hb.size
  have s0_0:w1.cell? ⟨w.heap.size,0,none⟩=some (.slice A0_0 l0_0.length c0_0):=Zx hb (by go_simp)
  have s0_1:w1.cell? ⟨w.heap.size,1,none⟩=some (.slice A0_1 l0_1.length c0_1):=Zx hb (by go_simp)
  have s0_2:w1.cell? ⟨w.heap.size,2,none⟩=some (.int .i64 a0_2):=Zx hb (by go_simp)
  have z1:w.heap.size+1<w1.heap.size:=Nat.lt_of_lt_of_le (by simp <;> omega) hb.size
  have s1_0:w1.cell? ⟨w.heap.size+1,0,none⟩=some (.slice A1_0 l1_0.length c1_0):=Zx hb (by go_simp)
  have s1_1:w1.cell? ⟨w.heap.size+1,1,none⟩=some (.slice A1_1 l1_1.length c1_1):=Zx hb (by go_simp)
  replace Q0_0:=Za (And.intro Q0_0.out.1 (Zb Q0_0.out.2 hb))
  replace Q0_1:=Za (And.intro Q0_1.out.1 (Zb Q0_1.out.2 hb))
  replace Q1_0:=Za (And.intro Q1_0.out.1 (Zb Q1_0.out.2 hb))
  replace Q1_1:=Za (And.intro Q1_1.out.1 (Zb Q1_1.out.2 hb))
  have HK1:=Za fun (W:World) (hA:Below w1.heap.size w1 W)=>And.intro (HB1.out.trans (hA.mono HB1.out.size)) (And.intro (Nat.lt_of_lt_of_le z0 hA.size) (And.intro (Zx hA s0_0) (And.intro (Zx hA s0_1) (And.intro (Zx hA s0_2) (And.intro (Nat.lt_of_lt_of_le z1 hA.size) (And.intro (Zx hA s1_0) (And.intro (Zx hA s1_1) (And.intro (Za (And.intro Q0_0.out.1 (Zb Q0_0.out.2 hA))) (And.intro (Za (And.intro Q0_1.out.1 (Zb Q0_1.out.2 hA))) (And.intro (Za (And.intro Q1_0.out.1 (Zb Q1_0.out.2 hA))) ((Za (And.intro Q1_1.out.1 (Zb Q1_1.out.2 hA))))))))))))))
  clear z0 s0_0 s0_1 s0_2 z1 s1_0 s1_1 Q0_0 Q0_1 Q1_0 Q1_1 hb
  obtain⟨hB,z0,s0_0,s0_1,s0_2,z1,s1_0,s1_1,Q0_0,Q0_1,Q1_0,Q1_1⟩:=HK1.out _ (Below.refl _ _)
  go_wp2
  go_ret
  exact⟨rfl,(HK1.out _ (Below.refl _ _)).1⟩
 rw[if_neg hcn0] at h
 have hq0:decide (u0_0<0)=false:=Zf hcn0
 clear hcn0
 replace h:=Option.bind_eq_some_iff.1 h
 obtain⟨u1_0,HF1,h⟩:=h
 (try dsimp only at h)
 replace HF1:=Za HF1
 by_cases hcn1:u1_0<0
 case pos=>
  have hq1:decide (u1_0<0)=true:=Ze hcn1
  clear h hcn1
  have hu47:=Tryz.underlying47
  have hu49:=Tryz.underlying49
  have HB0:=Za (Zo (Zo (Below.refl w.heap.size w) (.cells #[.slice A0_0 l0_0.length c0_0,.slice A0_1 l0_1.length c0_1,.int .i64 a0_2] 47)) (.cells #[.slice A1_0 l1_0.length c1_0,.slice A1_1 l1_1.length c1_1] 49))
  have Q0_0:=Za (And.intro hc0_0 (Zb hr0_0 HB0.out))
  have Q0_1:=Za (And.intro hc0_1 (Zb hr0_1 HB0.out))
  have Q1_0:=Za (And.intro hc1_0 (Zb hr1_0 HB0.out))
  have Q1_1:=Za (And.intro hc1_1 (Zb hr1_1 HB0.out))
  clear hr0_0 hc0_0 hr0_1 hc0_1 hr1_0 hc1_0 hr1_1 hc1_1
  go_enter Tryz.func9,Tryz.ntmps9
  go_wp2_with fail
  refine(Zce.calls k A0_0 c0_0 l0_0 A0_1 c0_1 l0_1 a0_2 1048576 _ _ Q0_0.out.2 Q0_0.out.1 Q0_1.out.2 Q0_1.out.1 HF0.out).mono ?_
  rintro e w1 ⟨rfl,hb⟩
  have HB1:=Za (HB0.out.trans (hb.mono HB0.out.size))
  have z0:w.heap.size<w1.heap.size:=Nat.lt_of_lt_of_le (by simp <;> omega) hb.size
  have s0_0:w1.cell? ⟨w.heap.size,0,none⟩=some (.slice A0_0 l0_0.length c0_0):=Zx hb (by go_simp)
  have s0_1:w1.cell? ⟨w.heap.size,1,none⟩=some (.slice A0_1 l0_1.length c0_1):=Zx hb (by go_simp)
  have s0_2:w1.cell? ⟨w.heap.size,2,none⟩=some (.int .i64 a0_2):=Zx hb (by go_simp)
  have z1:w.heap.size+1<w1.heap.size:=Nat.lt_of_lt_of_le (by simp <;> omega) hb.size
  have s1_0:w1.cell? ⟨w.heap.size+1,0,none⟩=some (.slice A1_0 l1_0.length c1_0):=Zx hb (by go_simp)
  have s1_1:w1.cell? ⟨w.heap.size+1,1,none⟩=some (.slice A1_1 l1_1.length c1_1):=Zx hb (by go_simp)
  replace Q0_0:=Za (And.intro Q0_0.out.1 (Zb Q0_0.out.2 hb))
  replace Q0_1:=Za (And.intro Q0_1.out.1 (Zb Q0_1.out.2 hb))
  replace Q1_0:=Za (And.intro Q1_0.out.1 (Zb Q1_0.out.2 hb))
  replace Q1_1:=Za (And.intro Q1_1.out.1 (Zb Q1_1.out.2 hb))
  have HK1:=Za fun (W:World) (hA:Below w1.heap.size w1 W)=>And.intro (HB1.out.trans (hA.mono HB1.out.size)) (And.intro (Nat.lt_of_lt_of_le z0 hA.size) (And.intro (Zx hA s0_0) (And.intro (Zx hA s0_1) (And.intro (Zx hA s0_2) (And.intro (Nat.lt_of_lt_of_le z1 hA.size) (And.intro (Zx hA s1_0) (And.intro (Zx hA s1_1) (And.intro (Za (And.intro Q0_0.out.1 (Zb Q0_0.out.2 hA))) (And.intro (Za (And.intro Q0_1.out.1 (Zb Q0_1.out.2 hA))) (And.intro (Za (And.intro Q1_0.out.1 (Zb Q1_0.out.2 hA))) ((Za (And.intro Q1_1.out.1 (Zb Q1_1.out.2 hA))))))))))))))
  clear z0 s0_0 s0_1 s0_2 z1 s1_0 s1_1 Q0_0 Q0_1 Q1_0 Q1_1 hb
  obtain⟨hB,z0,s0_0,s0_1,s0_2,z1,s1_0,s1_1,Q0_0,Q0_1,Q1_0,Q1_1⟩:=HK1.out _ (Below.refl _ _)
  go_wp2_with fail
  refine(Zca.calls A1_0 c1_0 l1_0 A1_1 c1_1 l1_1 u0_0 _ _ Q1_0.out.2 Q1_0.out.1 Q1_1.out.2 Q1_1.out.1 HF1.out).mono ?_
  rintro e w2 ⟨rfl,hb⟩
  have B2:=Za hb;clear hB z0 s0_0 s0_1 s0_2 z1 s1_0 s1_1 Q0_0 Q0_1 Q1_0 Q1_1 hb
  have HK2:=Za fun (W:World) (hA:Below w2.heap.size w2 W)=>HK1.out W (B2.out.trans (hA.mono B2.out.size))
  obtain⟨hB,z0,s0_0,s0_1,s0_2,z1,s1_0,s1_1,Q0_0,Q0_1,Q1_0,Q1_1⟩:=HK2.out _ (Below.refl _ _)
  go_wp2
  go_ret
  exact⟨rfl,(HK2.out _ (Below.refl _ _)).1⟩
 rw[if_neg hcn1] at h
 have hq1:decide (u1_0<0)=false:=Zf hcn1
 clear hcn1
 replace h:=Option.bind_eq_some_iff.1 h
 obtain⟨⟨u2_0_0,u2_0_1,u2_0_2⟩,HF2,h⟩:=h
 (try dsimp only at h)
 replace HF2:=Za HF2
 by_cases ht102:Zel u2_0_0 u2_0_1=true
 case neg=>rw[if_neg ht102] at h;exact absurd h (by simp)
 rw[if_pos ht102] at h
 have SM_u2_0_0:=Za (smallB_iff ht102)
 clear ht102
 replace h:=Option.bind_eq_some_iff.1 h
 obtain⟨⟨u3_0_0,u3_0_1⟩,HF3,h⟩:=h
 (try dsimp only at h)
 replace HF3:=Za HF3
 by_cases ht111:u3_0_0.length≤1048576
 case neg=>rw[if_neg ht111] at h;exact absurd h (by simp)
 rw[if_pos ht111] at h
 have SM_u3_0_0:=Za (ht111)
 clear ht111
 by_cases ht116:u3_0_1.length≤1048576
 case neg=>rw[if_neg ht116] at h;exact absurd h (by simp)
 rw[if_pos ht116] at h
 have SM_u3_0_1:=Za (ht116)
 clear ht116
 replace h:=Option.bind_eq_some_iff.1 h
 obtain⟨u4_0,HF4,h⟩:=h
 (try dsimp only at h)
 replace HF4:=Za HF4
 replace h:=Option.bind_eq_some_iff.1 h
 obtain⟨u5_0,HF5,h⟩:=h
 (try dsimp only at h)
 replace HF5:=Za HF5
 by_cases ht129:u5_0=u4_0
 case neg=>rw[if_neg ht129] at h;exact absurd h (by simp)
 rw[if_pos ht129] at h
 subst ht129
 by_cases ht133:u5_0.length≤1048576
 case neg=>rw[if_neg ht133] at h;exact absurd h (by simp)
 rw[if_pos ht133] at h
 have SM_u5_0:=Za (ht133)
 clear ht133 h
 have hu47:=Tryz.underlying47
 have hu49:=Tryz.underlying49
 have HB0:=Za (Zo (Zo (Below.refl w.heap.size w) (.cells #[.slice A0_0 l0_0.length c0_0,.slice A0_1 l0_1.length c0_1,.int .i64 a0_2] 47)) (.cells #[.slice A1_0 l1_0.length c1_0,.slice A1_1 l1_1.length c1_1] 49))
 have Q0_0:=Za (And.intro hc0_0 (Zb hr0_0 HB0.out))
 have Q0_1:=Za (And.intro hc0_1 (Zb hr0_1 HB0.out))
 have Q1_0:=Za (And.intro hc1_0 (Zb hr1_0 HB0.out))
 have Q1_1:=Za (And.intro hc1_1 (Zb hr1_1 HB0.out))
 clear hr0_0 hc0_0 hr0_1 hc0_1 hr1_0 hc1_0 hr1_1 hc1_1
 go_enter Tryz.func9,Tryz.ntmps9
 go_wp2_with fail
 refine(Zce.calls k A0_0 c0_0 l0_0 A0_1 c0_1 l0_1 a0_2 1048576 _ _ Q0_0.out.2 Q0_0.out.1 Q0_1.out.2 Q0_1.out.1 HF0.out).mono ?_
 rintro e w1 ⟨rfl,hb⟩
 have HB1:=Za (HB0.out.trans (hb.mono HB0.out.size))
 have z0:w.heap.size<w1.heap.size:=Nat.lt_of_lt_of_le (by simp <;> omega) hb.size
 have s0_0:w1.cell? ⟨w.heap.size,0,none⟩=some (.slice A0_0 l0_0.length c0_0):=Zx hb (by go_simp)
 have s0_1:w1.cell? ⟨w.heap.size,1,none⟩=some (.slice A0_1 l0_1.length c0_1):=Zx hb (by go_simp)
 have s0_2:w1.cell? ⟨w.heap.size,2,none⟩=some (.int .i64 a0_2):=Zx hb (by go_simp)
 have z1:w.heap.size+1<w1.heap.size:=Nat.lt_of_lt_of_le (by simp <;> omega) hb.size
 have s1_0:w1.cell? ⟨w.heap.size+1,0,none⟩=some (.slice A1_0 l1_0.length c1_0):=Zx hb (by go_simp)
 have s1_1:w1.cell? ⟨w.heap.size+1,1,none⟩=some (.slice A1_1 l1_1.length c1_1):=Zx hb (by go_simp)
 replace Q0_0:=Za (And.intro Q0_0.out.1 (Zb Q0_0.out.2 hb))
 replace Q0_1:=Za (And.intro Q0_1.out.1 (Zb Q0_1.out.2 hb))
 replace Q1_0:=Za (And.intro Q1_0.out.1 (Zb Q1_0.out.2 hb))
 replace Q1_1:=Za (And.intro Q1_1.out.1 (Zb Q1_1.out.2 hb))
 have HK1:=Za fun (W:World) (hA:Below w1.heap.size w1 W)=>And.intro (HB1.out.trans (hA.mono HB1.out.size)) (And.intro (Nat.lt_of_lt_of_le z0 hA.size) (And.intro (Zx hA s0_0) (And.intro (Zx hA s0_1) (And.intro (Zx hA s0_2) (And.intro (Nat.lt_of_lt_of_le z1 hA.size) (And.intro (Zx hA s1_0) (And.intro (Zx hA s1_1) (And.intro (Za (And.intro Q0_0.out.1 (Zb Q0_0.out.2 hA))) (And.intro (Za (And.intro Q0_1.out.1 (Zb Q0_1.out.2 hA))) (And.intro (Za (And.intro Q1_0.out.1 (Zb Q1_0.out.2 hA))) ((Za (And.intro Q1_1.out.1 (Zb Q1_1.out.2 hA))))))))))))))
 clear z0 s0_0 s0_1 s0_2 z1 s1_0 s1_1 Q0_0 Q0_1 Q1_0 Q1_1 hb
 obtain⟨hB,z0,s0_0,s0_1,s0_2,z1,s1_0,s1_1,Q0_0,Q0_1,Q1_0,Q1_1⟩:=HK1.out _ (Below.refl _ _)
 go_wp2_with fail
 refine(Zca.calls A1_0 c1_0 l1_0 A1_1 c1_1 l1_1 u0_0 _ _ Q1_0.out.2 Q1_0.out.1 Q1_1.out.2 Q1_1.out.1 HF1.out).mono ?_
 rintro e w2 ⟨rfl,hb⟩
 have B2:=Za hb;clear hB z0 s0_0 s0_1 s0_2 z1 s1_0 s1_1 Q0_0 Q0_1 Q1_0 Q1_1 hb
 have HK2:=Za fun (W:World) (hA:Below w2.heap.size w2 W)=>HK1.out W (B2.out.trans (hA.mono B2.out.size))
 obtain⟨hB,z0,s0_0,s0_1,s0_2,z1,s1_0,s1_1,Q0_0,Q0_1,Q1_0,Q1_1⟩:=HK2.out _ (Below.refl _ _)
 go_wp2_with fail
 go_region_held3 (fun w'=>Below w2.heap.size w2 w'∧w'.cell? ⟨w.heap.size,0,none⟩=some (.slice A0_0 l0_0.length c0_0)∧w'.cell? ⟨w.heap.size,1,none⟩=some (.slice A0_1 l0_1.length c0_1)∧w'.cell? ⟨w.heap.size,2,none⟩=some (.int .i64 a0_2)∧w'.cell? ⟨w.heap.size+1,0,none⟩=some (.slice A1_0 l1_0.length c1_0)∧w'.cell? ⟨w.heap.size+1,1,none⟩=some (.slice A1_1 l1_1.length c1_1))
  (first|(refine⟨by repeat(first|(with_reducible first|exact Below.refl _ _|apply Zo|apply Zm|apply Zp|exact(‹Below w2.heap.size w2 _∧_› : Below w2.heap.size w2 _∧_).1)|exact Below.refl _ _),?_⟩;go_simp;done)|(have HQ_:=HK2.out _ (Zq (‹Below w2.heap.size w2 _∧_› : Below w2.heap.size w2 _∧_).1 hb);exact⟨Zq (‹Below w2.heap.size w2 _∧_› : Below w2.heap.size w2 _∧_).1 hb,HQ_.2.2.1,HQ_.2.2.2.1,HQ_.2.2.2.2.1,HQ_.2.2.2.2.2.2.1,HQ_.2.2.2.2.2.2.2.1⟩))
  (first|(go_at_call 30;(refine(Za8.c k A0_0 c0_0 l0_0 A0_1 c0_1 l0_1 a0_2 _ _ _ _ ?s3_0 ?s3_1 ?s3_2 ?s3_3 HF2.out).mono ?_);(case s3_0=>exact(HK2.out _ (‹Below w2.heap.size w2 _∧_› : Below w2.heap.size w2 _∧_).1).2.2.2.2.2.2.2.2.1.out.2);(case s3_1=>exact(HK2.out _ (‹Below w2.heap.size w2 _∧_› : Below w2.heap.size w2 _∧_).1).2.2.2.2.2.2.2.2.1.out.1);(case s3_2=>exact(HK2.out _ (‹Below w2.heap.size w2 _∧_› : Below w2.heap.size w2 _∧_).1).2.2.2.2.2.2.2.2.2.1.out.2);(case s3_3=>exact(HK2.out _ (‹Below w2.heap.size w2 _∧_› : Below w2.heap.size w2 _∧_).1).2.2.2.2.2.2.2.2.2.1.out.1);rintro e w3 ⟨X3_0,x3_0,X3_1,x3_1,rfl,g3_0,g3_1,hb⟩)|(go_at_call 31;(refine(ZaV.c k A1_0 c1_0 l1_0 A1_1 c1_1 l1_1 _ _ _ ?s4_0 ?s4_1 ?s4_2 ?s4_3 HF3.out).mono ?_);(case s4_0=>exact(HK2.out _ (‹Below w2.heap.size w2 _∧_› : Below w2.heap.size w2 _∧_).1).2.2.2.2.2.2.2.2.2.2.1.out.2);(case s4_1=>exact(HK2.out _ (‹Below w2.heap.size w2 _∧_› : Below w2.heap.size w2 _∧_).1).2.2.2.2.2.2.2.2.2.2.1.out.1);(case s4_2=>exact(HK2.out _ (‹Below w2.heap.size w2 _∧_› : Below w2.heap.size w2 _∧_).1).2.2.2.2.2.2.2.2.2.2.2.out.2);(case s4_3=>exact(HK2.out _ (‹Below w2.heap.size w2 _∧_› : Below w2.heap.size w2 _∧_).1).2.2.2.2.2.2.2.2.2.2.2.out.1);rintro e w4 ⟨X4_0,x4_0,X4_1,x4_1,rfl,g4_0,g4_1,hb⟩;replace g3_0:=Za (And.intro g3_0.out.1 (Zb g3_0.out.2 hb));replace g3_1:=Za (And.intro g3_1.out.1 (Zb g3_1.out.2 hb)))|(go_at_call 44;(refine(ZaX.c k X3_0 x3_0 u2_0_0 X3_1 x3_1 u2_0_1 u2_0_2 X4_0 x4_0 u3_0_0 X4_1 x4_1 u3_0_1 _ _ ?s5_0 ?s5_1 ?s5_2 ?s5_3 ?s5_4 ?s5_5 ?s5_6 ?s5_7 HF4.out).mono ?_);(case s5_0=>exact g3_0.out.2);(case s5_1=>exact g3_0.out.1);(case s5_2=>exact g3_1.out.2);(case s5_3=>exact g3_1.out.1);(case s5_4=>exact g4_0.out.2);(case s5_5=>exact g4_0.out.1);(case s5_6=>exact g4_1.out.2);(case s5_7=>exact g4_1.out.1);rintro e w5 ⟨X5_0,x5_0,rfl,g5_0,hb⟩;replace g3_0:=Za (And.intro g3_0.out.1 (Zb g3_0.out.2 hb));replace g3_1:=Za (And.intro g3_1.out.1 (Zb g3_1.out.2 hb));replace g4_0:=Za (And.intro g4_0.out.1 (Zb g4_0.out.2 hb));replace g4_1:=Za (And.intro g4_1.out.1 (Zb g4_1.out.2 hb))))
 have B5:=Za (‹Below w2.heap.size w2 w5∧_› : Below w2.heap.size w2 w5∧_).1
 clear hB z0 s0_0 s0_1 s0_2 z1 s1_0 s1_1 Q0_0 Q0_1 Q1_0 Q1_1
 have HK5:=Za fun (W:World) (hA:Below w5.heap.size w5 W)=>And.intro (HK2.out W (B5.out.trans (hA.mono B5.out.size))) ((Za (And.intro g5_0.out.1 (Zb g5_0.out.2 hA))))
 clear g5_0
 obtain⟨⟨hB,z0,s0_0,s0_1,s0_2,z1,s1_0,s1_1,Q0_0,Q0_1,Q1_0,Q1_1⟩,g5_0⟩:=HK5.out _ (Below.refl _ _)
 go_wp2_with fail
 refine(Za8.o k A0_0 c0_0 l0_0 A0_1 c0_1 l0_1 a0_2 _ _ _ _ Q0_0.out.2 Q0_0.out.1 Q0_1.out.2 Q0_1.out.1 HF2.out).mono ?_
 rintro e w6 ⟨X6_0,x6_0,X6_1,x6_1,rfl,g6_0,g6_1,ow6,hb⟩
 have B6:=Za hb
 replace ow6:=Za (And.intro (Kd.S_lower (Kd.S_mono ow6.out.1 (fun k hk=>And.intro hk.1 (And.intro (Nat.le_trans (Nat.le_refl _) hk.2.1) hk.2.2))) (Nat.le_refl _)) (Kd.R_lower (Kd.R_mono ow6.out.2 (fun k hk=>And.intro hk.1 (And.intro (Nat.le_trans (Nat.le_refl _) hk.2.1) hk.2.2))) (Nat.le_refl _)))
 have sz6:=Nat.le_refl w6.heap.size
 have bE:=B6.out
 clear hB z0 s0_0 s0_1 s0_2 z1 s1_0 s1_1 Q0_0 Q0_1 Q1_0 Q1_1 g5_0 hb
 have HK6:=Za fun (W:World) (hA:Below w6.heap.size w6 W)=>And.intro (HK5.out W (B6.out.trans (hA.mono B6.out.size))) (And.intro (Za (And.intro (Kd.S_below ow6.out.1 hA) (Kd.R_below ow6.out.2 hA))) (And.intro (Nat.le_trans sz6 hA.size) (And.intro (bE.trans (hA.mono bE.size)) (And.intro (Za (And.intro g6_0.out.1 (Zb g6_0.out.2 hA))) ((Za (And.intro g6_1.out.1 (Zb g6_1.out.2 hA))))))))
 clear ow6 sz6 bE g6_0 g6_1
 obtain⟨⟨⟨hB,z0,s0_0,s0_1,s0_2,z1,s1_0,s1_1,Q0_0,Q0_1,Q1_0,Q1_1⟩,g5_0⟩,ow6,sz6,bE,g6_0,g6_1⟩:=HK6.out _ (Below.refl _ _)
 go_wp2_with fail
 refine(ZaV.o k A1_0 c1_0 l1_0 A1_1 c1_1 l1_1 _ _ _ (Zb Q1_0.out.2 (Zo (Below.refl _ _) _)) Q1_0.out.1 (Zb Q1_1.out.2 (Zo (Below.refl _ _) _)) Q1_1.out.1 HF3.out).mono ?_
 rintro e w7 ⟨X7_0,x7_0,X7_1,x7_1,rfl,g7_0,g7_1,ow7,hb⟩
 have B7:=Za (Zq (Zo (Below.refl w6.heap.size w6) _) hb)
 replace ow7:=Za (And.intro (Kd.R_lower (Kd.R_mono ow7.out.1 (fun k hk=>And.intro hk.1 (And.intro (Nat.le_trans (Zo (Below.refl w6.heap.size w6) _).size hk.2.1) hk.2.2))) (Nat.le_trans bE.size (Zo (Below.refl w6.heap.size w6) _).size)) (Kd.R_lower (Kd.R_mono ow7.out.2 (fun k hk=>And.intro hk.1 (And.intro (Nat.le_trans (Zo (Below.refl w6.heap.size w6) _).size hk.2.1) hk.2.2))) (Nat.le_trans bE.size (Zo (Below.refl w6.heap.size w6) _).size)))
 have sz7:=Nat.le_refl w7.heap.size
 have z2:w6.heap.size<w7.heap.size:=Nat.lt_of_lt_of_le (by simp <;> omega) hb.size
 have s2_0:w7.cell? ⟨w6.heap.size,0,none⟩=some (.slice X6_0 u2_0_0.length x6_0):=Zx hb (by go_simp)
 have s2_1:w7.cell? ⟨w6.heap.size,1,none⟩=some (.slice X6_1 u2_0_1.length x6_1):=Zx hb (by go_simp)
 have s2_2:w7.cell? ⟨w6.heap.size,2,none⟩=some (.int .i64 u2_0_2):=Zx hb (by go_simp)
 clear hB z0 s0_0 s0_1 s0_2 z1 s1_0 s1_1 Q0_0 Q0_1 Q1_0 Q1_1 g5_0 ow6 sz6 bE g6_0 g6_1 hb
 have HK7:=Za fun (W:World) (hA:Below w7.heap.size w7 W)=>And.intro (HK6.out W (B7.out.trans (hA.mono B7.out.size))) (And.intro (Za (And.intro (Kd.R_below ow7.out.1 hA) (Kd.R_below ow7.out.2 hA))) (And.intro (Nat.le_trans sz7 hA.size) (And.intro (Nat.lt_of_lt_of_le z2 hA.size) (And.intro (Zx hA s2_0) (And.intro (Zx hA s2_1) (And.intro (Zx hA s2_2) (And.intro (Za (And.intro g7_0.out.1 (Zb g7_0.out.2 hA))) ((Za (And.intro g7_1.out.1 (Zb g7_1.out.2 hA)))))))))))
 clear ow7 sz7 z2 s2_0 s2_1 s2_2 g7_0 g7_1
 obtain⟨⟨⟨⟨hB,z0,s0_0,s0_1,s0_2,z1,s1_0,s1_1,Q0_0,Q0_1,Q1_0,Q1_1⟩,g5_0⟩,ow6,sz6,bE,g6_0,g6_1⟩,ow7,sz7,z2,s2_0,s2_1,s2_2,g7_0,g7_1⟩:=HK7.out _ (Below.refl _ _)
 have le6_7:=sz6
 go_wp2_with fail
 refine(Zap.o k X6_0 x6_0 u2_0_0 X6_1 x6_1 u2_0_1 u2_0_2 X7_0 x7_0 u3_0_0 X7_1 x7_1 u3_0_1 _ _ (Zb g6_0.out.2 (Zo (Below.refl _ _) _)) g6_0.out.1 (Zb g6_1.out.2 (Zo (Below.refl _ _) _)) g6_1.out.1 (Zb g7_0.out.2 (Zo (Below.refl _ _) _)) g7_0.out.1 (Zb g7_1.out.2 (Zo (Below.refl _ _) _)) g7_1.out.1 (TW.below HTW.out (Zo hB _)) HF5.out).mono ?_
 rintro e w8 ⟨X8_0,x8_0,rfl,g8_0,ow8,hb⟩
 have B8:=Za (Zq (Zo (Below.refl w7.heap.size w7) _) hb)
 replace ow8:=Za (Kd.R_lower (Kd.R_mono ow8.out (fun k hk=>And.intro hk.1 (And.intro (Nat.le_trans (Zo (Below.refl w7.heap.size w7) _).size hk.2.1) hk.2.2))) (Nat.le_trans bE.size (Zo (Below.refl w7.heap.size w7) _).size))
 have sz8:=Nat.le_refl w8.heap.size
 have z3:w7.heap.size<w8.heap.size:=Nat.lt_of_lt_of_le (by simp <;> omega) hb.size
 have s3_0:w8.cell? ⟨w7.heap.size,0,none⟩=some (.slice X7_0 u3_0_0.length x7_0):=Zx hb (by go_simp)
 have s3_1:w8.cell? ⟨w7.heap.size,1,none⟩=some (.slice X7_1 u3_0_1.length x7_1):=Zx hb (by go_simp)
 clear hB z0 s0_0 s0_1 s0_2 z1 s1_0 s1_1 Q0_0 Q0_1 Q1_0 Q1_1 g5_0 ow6 sz6 bE g6_0 g6_1 ow7 sz7 z2 s2_0 s2_1 s2_2 g7_0 g7_1 hb
 have HK8:=Za fun (W:World) (hA:Below w8.heap.size w8 W)=>And.intro (HK7.out W (B8.out.trans (hA.mono B8.out.size))) (And.intro (Za (Kd.R_below ow8.out hA)) (And.intro (Nat.le_trans sz8 hA.size) (And.intro (Nat.lt_of_lt_of_le z3 hA.size) (And.intro (Zx hA s3_0) (And.intro (Zx hA s3_1) ((Za (And.intro g8_0.out.1 (Zb g8_0.out.2 hA)))))))))
 clear ow8 sz8 z3 s3_0 s3_1 g8_0
 obtain⟨⟨⟨⟨⟨hB,z0,s0_0,s0_1,s0_2,z1,s1_0,s1_1,Q0_0,Q0_1,Q1_0,Q1_1⟩,g5_0⟩,ow6,sz6,bE,g6_0,g6_1⟩,ow7,sz7,z2,s2_0,s2_1,s2_2,g7_0,g7_1⟩,ow8,sz8,z3,s3_0,s3_1,g8_0⟩:=HK8.out _ (Below.refl _ _)
 have le6_8:=sz6
 have le7_8:=sz7
 go_wp2_with fail
 refine(ZaB.calls (2 ^ 64) X8_0 x8_0 u5_0 X5_0 x5_0 u5_0 true _ g8_0.out.2 g8_0.out.1 g5_0.out.2 g5_0.out.1 (Zdu _ (g8_0.out.2.2).1 (2 ^ 64) (Nat.le_refl _))).mono ?_
 rintro e w9 ⟨rfl,hd⟩
 have hb:=hd.below
 clear hd;have B9:=Za hb;clear hB z0 s0_0 s0_1 s0_2 z1 s1_0 s1_1 Q0_0 Q0_1 Q1_0 Q1_1 g5_0 ow6 sz6 bE g6_0 g6_1 ow7 sz7 z2 s2_0 s2_1 s2_2 g7_0 g7_1 ow8 sz8 z3 s3_0 s3_1 g8_0 hb
 have HK9:=Za fun (W:World) (hA:Below w9.heap.size w9 W)=>HK8.out W (B9.out.trans (hA.mono B9.out.size))
 obtain⟨⟨⟨⟨⟨hB,z0,s0_0,s0_1,s0_2,z1,s1_0,s1_1,Q0_0,Q0_1,Q1_0,Q1_1⟩,g5_0⟩,ow6,sz6,bE,g6_0,g6_1⟩,ow7,sz7,z2,s2_0,s2_1,s2_2,g7_0,g7_1⟩,ow8,sz8,z3,s3_0,s3_1,g8_0⟩:=HK9.out _ (Below.refl _ _)
 have le6_9:=sz6
 have le7_9:=sz7
 have le8_9:=sz8
 go_wp2_with fail
 go_region_held3 (fun w'=>Below w9.heap.size w9 w'∧w'.cell? ⟨w6.heap.size,0,none⟩=some (.slice X6_0 u2_0_0.length x6_0)∧w'.cell? ⟨w6.heap.size,1,none⟩=some (.slice X6_1 u2_0_1.length x6_1)∧w'.cell? ⟨w6.heap.size,2,none⟩=some (.int .i64 u2_0_2)∧w'.cell? ⟨w.heap.size,0,none⟩=some (.slice A0_0 l0_0.length c0_0)∧w'.cell? ⟨w.heap.size,1,none⟩=some (.slice A0_1 l0_1.length c0_1)∧w'.cell? ⟨w.heap.size,2,none⟩=some (.int .i64 a0_2))
  (first|(refine⟨by repeat(first|(with_reducible first|exact Below.refl _ _|apply Zo|apply Zm|apply Zp|exact(‹Below w9.heap.size w9 _∧_› : Below w9.heap.size w9 _∧_).1)|exact Below.refl _ _),?_⟩;go_simp;done)|(have HQ_:=HK9.out _ (Zq (‹Below w9.heap.size w9 _∧_› : Below w9.heap.size w9 _∧_).1 hb);exact⟨Zq (‹Below w9.heap.size w9 _∧_› : Below w9.heap.size w9 _∧_).1 hb,HQ_.1.2.2.2.2.1,HQ_.1.2.2.2.2.2.1,HQ_.1.2.2.2.2.2.2.1,HQ_.1.1.1.1.2.2.1,HQ_.1.1.1.1.2.2.2.1,HQ_.1.1.1.1.2.2.2.2.1⟩))
  (first|(go_at_call 30;(refine(Za8.c k A0_0 c0_0 l0_0 A0_1 c0_1 l0_1 a0_2 _ _ _ _ ?s10_0 ?s10_1 ?s10_2 ?s10_3 HF2.out).mono ?_);(case s10_0=>exact(HK9.out _ (‹Below w9.heap.size w9 _∧_› : Below w9.heap.size w9 _∧_).1).1.1.1.1.2.2.2.2.2.2.2.2.1.out.2);(case s10_1=>exact(HK9.out _ (‹Below w9.heap.size w9 _∧_› : Below w9.heap.size w9 _∧_).1).1.1.1.1.2.2.2.2.2.2.2.2.1.out.1);(case s10_2=>exact(HK9.out _ (‹Below w9.heap.size w9 _∧_› : Below w9.heap.size w9 _∧_).1).1.1.1.1.2.2.2.2.2.2.2.2.2.1.out.2);(case s10_3=>exact(HK9.out _ (‹Below w9.heap.size w9 _∧_› : Below w9.heap.size w9 _∧_).1).1.1.1.1.2.2.2.2.2.2.2.2.2.1.out.1);rintro e w10 ⟨X10_0,x10_0,X10_1,x10_1,rfl,g10_0,g10_1,hb⟩)|(go_at_call 13;(refine(laws_eqShow.same X6_0 x6_0 X10_0 x10_0 u2_0_0 X6_1 x6_1 X10_1 x10_1 u2_0_1 u2_0_2 _ ?s11_0 ?s11_1 ?s11_2 ?s11_3 ?s11_4 ?s11_5 ?s11_6 ?s11_7).mono ?_);(case s11_0=>exact(HK9.out _ (‹Below w9.heap.size w9 _∧_› : Below w9.heap.size w9 _∧_).1).1.1.2.2.2.2.1.out.2);(case s11_1=>exact(HK9.out _ (‹Below w9.heap.size w9 _∧_› : Below w9.heap.size w9 _∧_).1).1.1.2.2.2.2.1.out.1);(case s11_2=>exact g10_0.out.2);(case s11_3=>exact g10_0.out.1);(case s11_4=>exact(HK9.out _ (‹Below w9.heap.size w9 _∧_› : Below w9.heap.size w9 _∧_).1).1.1.2.2.2.2.2.out.2);(case s11_5=>exact(HK9.out _ (‹Below w9.heap.size w9 _∧_› : Below w9.heap.size w9 _∧_).1).1.1.2.2.2.2.2.out.1);(case s11_6=>exact g10_1.out.2);(case s11_7=>exact g10_1.out.1);rintro e w11 ⟨rfl,hb⟩;replace g10_0:=Za (And.intro g10_0.out.1 (Zb g10_0.out.2 hb));replace g10_1:=Za (And.intro g10_1.out.1 (Zb g10_1.out.2 hb))))
 have B11:=Za (‹Below w9.heap.size w9 w11∧_› : Below w9.heap.size w9 w11∧_).1
 clear hB z0 s0_0 s0_1 s0_2 z1 s1_0 s1_1 Q0_0 Q0_1 Q1_0 Q1_1 g5_0 ow6 sz6 bE g6_0 g6_1 ow7 sz7 z2 s2_0 s2_1 s2_2 g7_0 g7_1 ow8 sz8 z3 s3_0 s3_1 g8_0
 have HK11:=Za fun (W:World) (hA:Below w11.heap.size w11 W)=>HK9.out W (B11.out.trans (hA.mono B11.out.size))
 obtain⟨⟨⟨⟨⟨hB,z0,s0_0,s0_1,s0_2,z1,s1_0,s1_1,Q0_0,Q0_1,Q1_0,Q1_1⟩,g5_0⟩,ow6,sz6,bE,g6_0,g6_1⟩,ow7,sz7,z2,s2_0,s2_1,s2_2,g7_0,g7_1⟩,ow8,sz8,z3,s3_0,s3_1,g8_0⟩:=HK11.out _ (Below.refl _ _)
 have le6_11:=sz6
 have le7_11:=sz7
 have le8_11:=sz8
 go_wp2_with fail
 go_region_held3 (fun w'=>Below w11.heap.size w11 w'∧w'.cell? ⟨w7.heap.size,0,none⟩=some (.slice X7_0 u3_0_0.length x7_0)∧w'.cell? ⟨w7.heap.size,1,none⟩=some (.slice X7_1 u3_0_1.length x7_1)∧w'.cell? ⟨w.heap.size+1,0,none⟩=some (.slice A1_0 l1_0.length c1_0)∧w'.cell? ⟨w.heap.size+1,1,none⟩=some (.slice A1_1 l1_1.length c1_1))
  (first|(refine⟨by repeat(first|(with_reducible first|exact Below.refl _ _|apply Zo|apply Zm|apply Zp|exact(‹Below w11.heap.size w11 _∧_› : Below w11.heap.size w11 _∧_).1)|exact Below.refl _ _),?_⟩;go_simp;done)|(have HQ_:=HK11.out _ (Zq (‹Below w11.heap.size w11 _∧_› : Below w11.heap.size w11 _∧_).1 hb);exact⟨Zq (‹Below w11.heap.size w11 _∧_› : Below w11.heap.size w11 _∧_).1 hb,HQ_.2.2.2.2.1,HQ_.2.2.2.2.2.1,HQ_.1.1.1.1.2.2.2.2.2.2.1,HQ_.1.1.1.1.2.2.2.2.2.2.2.1⟩))
  (first|(go_at_call 31;(refine(ZaV.c k A1_0 c1_0 l1_0 A1_1 c1_1 l1_1 _ _ _ ?s12_0 ?s12_1 ?s12_2 ?s12_3 HF3.out).mono ?_);(case s12_0=>exact(HK11.out _ (‹Below w11.heap.size w11 _∧_› : Below w11.heap.size w11 _∧_).1).1.1.1.1.2.2.2.2.2.2.2.2.2.2.1.out.2);(case s12_1=>exact(HK11.out _ (‹Below w11.heap.size w11 _∧_› : Below w11.heap.size w11 _∧_).1).1.1.1.1.2.2.2.2.2.2.2.2.2.2.1.out.1);(case s12_2=>exact(HK11.out _ (‹Below w11.heap.size w11 _∧_› : Below w11.heap.size w11 _∧_).1).1.1.1.1.2.2.2.2.2.2.2.2.2.2.2.out.2);(case s12_3=>exact(HK11.out _ (‹Below w11.heap.size w11 _∧_› : Below w11.heap.size w11 _∧_).1).1.1.1.1.2.2.2.2.2.2.2.2.2.2.2.out.1);rintro e w12 ⟨X12_0,x12_0,X12_1,x12_1,rfl,g12_0,g12_1,hb⟩)|(go_at_call 34;(refine(ZgK.same X7_0 x7_0 X12_0 x12_0 u3_0_0 X7_1 x7_1 X12_1 x12_1 u3_0_1 _ ?s13_0 ?s13_1 ?s13_2 ?s13_3 ?s13_4 ?s13_5 ?s13_6 ?s13_7).mono ?_);(case s13_0=>exact(HK11.out _ (‹Below w11.heap.size w11 _∧_› : Below w11.heap.size w11 _∧_).1).1.2.2.2.2.2.2.2.1.out.2);(case s13_1=>exact(HK11.out _ (‹Below w11.heap.size w11 _∧_› : Below w11.heap.size w11 _∧_).1).1.2.2.2.2.2.2.2.1.out.1);(case s13_2=>exact g12_0.out.2);(case s13_3=>exact g12_0.out.1);(case s13_4=>exact(HK11.out _ (‹Below w11.heap.size w11 _∧_› : Below w11.heap.size w11 _∧_).1).1.2.2.2.2.2.2.2.2.out.2);(case s13_5=>exact(HK11.out _ (‹Below w11.heap.size w11 _∧_› : Below w11.heap.size w11 _∧_).1).1.2.2.2.2.2.2.2.2.out.1);(case s13_6=>exact g12_1.out.2);(case s13_7=>exact g12_1.out.1);rintro e w13 ⟨rfl,hb⟩;replace g12_0:=Za (And.intro g12_0.out.1 (Zb g12_0.out.2 hb));replace g12_1:=Za (And.intro g12_1.out.1 (Zb g12_1.out.2 hb))))
 have B13:=Za (‹Below w11.heap.size w11 w13∧_› : Below w11.heap.size w11 w13∧_).1
 clear hB z0 s0_0 s0_1 s0_2 z1 s1_0 s1_1 Q0_0 Q0_1 Q1_0 Q1_1 g5_0 ow6 sz6 bE g6_0 g6_1 ow7 sz7 z2 s2_0 s2_1 s2_2 g7_0 g7_1 ow8 sz8 z3 s3_0 s3_1 g8_0
 have HK13:=Za fun (W:World) (hA:Below w13.heap.size w13 W)=>HK11.out W (B13.out.trans (hA.mono B13.out.size))
 obtain⟨⟨⟨⟨⟨hB,z0,s0_0,s0_1,s0_2,z1,s1_0,s1_1,Q0_0,Q0_1,Q1_0,Q1_1⟩,g5_0⟩,ow6,sz6,bE,g6_0,g6_1⟩,ow7,sz7,z2,s2_0,s2_1,s2_2,g7_0,g7_1⟩,ow8,sz8,z3,s3_0,s3_1,g8_0⟩:=HK13.out _ (Below.refl _ _)
 have le6_13:=sz6
 have le7_13:=sz7
 have le8_13:=sz8
 go_wp2_with fail
 refine(markShow_k w5 _ _ _ _ _ _ _ bE (Kd.S_mono ow6.out.1 (fun k hk=>hk.2.2)) (Kd.R_mono ow6.out.2 (fun k hk=>hk.2.2)) SM_u2_0_0.out.1 SM_u2_0_0.out.2.1 SM_u2_0_0.out.2.2 _ (by omega) (by omega)).mono ?_
 rintro e w14 ⟨kx14,rfl,HR14,hb,hk⟩
 have hqkx14:=(Zf (by have:=HR14.out;omega):decide (kx14<0)=false)
 have B14:=Za hb
 replace sz6:=Nat.le_trans sz6 hk.1
 replace bE:=hb
 replace ow7:=Za (And.intro (Kd.R_kept ow7.out.1 hk (fun k h2 h3=>absurd (Nat.lt_of_lt_of_le h3 (Nat.le_trans (Nat.le_refl _) h2.2.1)) (Nat.lt_irrefl _))) (Kd.R_kept ow7.out.2 hk (fun k h2 h3=>absurd (Nat.lt_of_lt_of_le h3 (Nat.le_trans (Nat.le_refl _) h2.2.1)) (Nat.lt_irrefl _))))
 replace sz7:=Nat.le_trans sz7 hk.1
 replace z2:=Nat.lt_of_lt_of_le z2 hk.1
 replace s2_0:=ZcH s2_0 hk (fun h3=>absurd (Nat.lt_of_lt_of_le h3 (Nat.le_refl _)) (Nat.lt_irrefl _))
 replace s2_1:=ZcH s2_1 hk (fun h3=>absurd (Nat.lt_of_lt_of_le h3 (Nat.le_refl _)) (Nat.lt_irrefl _))
 replace s2_2:=ZcH s2_2 hk (fun h3=>absurd (Nat.lt_of_lt_of_le h3 (Nat.le_refl _)) (Nat.lt_irrefl _))
 replace g7_0:=Za (And.intro g7_0.out.1 (Kd.R_reads' ow7.out.1).2.2)
 replace g7_1:=Za (And.intro g7_1.out.1 (Kd.R_reads' ow7.out.2).2.2)
 replace ow8:=Za (Kd.R_kept ow8.out hk (fun k h2 h3=>absurd (Nat.lt_of_lt_of_le h3 (Nat.le_trans le6_7 h2.2.1)) (Nat.lt_irrefl _)))
 replace sz8:=Nat.le_trans sz8 hk.1
 replace z3:=Nat.lt_of_lt_of_le z3 hk.1
 replace s3_0:=ZcH s3_0 hk (fun h3=>absurd (Nat.lt_of_lt_of_le h3 le6_7) (Nat.lt_irrefl _))
 replace s3_1:=ZcH s3_1 hk (fun h3=>absurd (Nat.lt_of_lt_of_le h3 le6_7) (Nat.lt_irrefl _))
 replace g8_0:=Za (And.intro g8_0.out.1 (Kd.R_reads' ow8.out).2.2)
 clear hB z0 s0_0 s0_1 s0_2 z1 s1_0 s1_1 Q0_0 Q0_1 Q1_0 Q1_1 g5_0 ow6 g6_0 g6_1 hk
 have HK14:=Za fun (W:World) (hA:Below w14.heap.size w14 W)=>And.intro (HK5.out W (B14.out.trans (hA.mono B14.out.size))) (And.intro (Nat.le_trans sz6 hA.size) (And.intro (bE.trans (hA.mono bE.size)) (And.intro (Za (And.intro (Kd.R_below ow7.out.1 hA) (Kd.R_below ow7.out.2 hA))) (And.intro (Nat.le_trans sz7 hA.size) (And.intro (Nat.lt_of_lt_of_le z2 hA.size) (And.intro (Zx hA s2_0) (And.intro (Zx hA s2_1) (And.intro (Zx hA s2_2) (And.intro (Za (And.intro g7_0.out.1 (Zb g7_0.out.2 hA))) (And.intro (Za (And.intro g7_1.out.1 (Zb g7_1.out.2 hA))) (And.intro (Za (Kd.R_below ow8.out hA)) (And.intro (Nat.le_trans sz8 hA.size) (And.intro (Nat.lt_of_lt_of_le z3 hA.size) (And.intro (Zx hA s3_0) (And.intro (Zx hA s3_1) ((Za (And.intro g8_0.out.1 (Zb g8_0.out.2 hA)))))))))))))))))))
 clear sz6 bE ow7 sz7 z2 s2_0 s2_1 s2_2 g7_0 g7_1 ow8 sz8 z3 s3_0 s3_1 g8_0
 obtain⟨⟨⟨hB,z0,s0_0,s0_1,s0_2,z1,s1_0,s1_1,Q0_0,Q0_1,Q1_0,Q1_1⟩,g5_0⟩,sz6,bE,ow7,sz7,z2,s2_0,s2_1,s2_2,g7_0,g7_1,ow8,sz8,z3,s3_0,s3_1,g8_0⟩:=HK14.out _ (Below.refl _ _)
 have le6_14:=sz6
 have le7_14:=sz7
 have le8_14:=sz8
 go_wp2_with fail
 refine(markChoice_k w5 _ _ _ _ _ _ bE (Kd.R_mono ow7.out.1 (fun k hk=>And.intro hk.1 hk.2.2)) (Kd.R_mono ow7.out.2 (fun k hk=>And.intro hk.1 hk.2.2)) SM_u3_0_0.out SM_u3_0_1.out _ (by have:=HR14.out;have:=SM_u3_0_0.out;have:=SM_u3_0_1.out;omega) (by have:=HR14.out;have:=SM_u3_0_0.out;have:=SM_u3_0_1.out;omega)).mono ?_
 rintro e w15 ⟨rfl,hm0,hm1,hb,hk⟩
 have hqw15:=(Zf (by have:=HR14.out;have:=SM_u3_0_0.out;have:=SM_u3_0_1.out;omega):decide (((kx14+(u3_0_0.length:Int))+(u3_0_1.length:Int))<0)=false)
 have B15:=Za hb
 replace sz6:=Nat.le_trans sz6 hk.1
 replace bE:=hb
 replace sz7:=Nat.le_trans sz7 hk.1
 replace ow8:=Za (Kd.R_kept ow8.out hk (fun k h2 h3=>absurd (Nat.lt_of_lt_of_le h3 (Nat.le_trans (Nat.le_refl _) h2.2.1)) (Nat.lt_irrefl _)))
 replace sz8:=Nat.le_trans sz8 hk.1
 replace z3:=Nat.lt_of_lt_of_le z3 hk.1
 replace s3_0:=ZcH s3_0 hk (fun h3=>absurd (Nat.lt_of_lt_of_le h3 (Nat.le_refl _)) (Nat.lt_irrefl _))
 replace s3_1:=ZcH s3_1 hk (fun h3=>absurd (Nat.lt_of_lt_of_le h3 (Nat.le_refl _)) (Nat.lt_irrefl _))
 replace g8_0:=Za (And.intro g8_0.out.1 (Kd.R_reads' ow8.out).2.2)
 clear hB z0 s0_0 s0_1 s0_2 z1 s1_0 s1_1 Q0_0 Q0_1 Q1_0 Q1_1 g5_0 ow7 z2 s2_0 s2_1 s2_2 g7_0 g7_1 hk
 have HK15:=Za fun (W:World) (hA:Below w15.heap.size w15 W)=>And.intro (HK5.out W (B15.out.trans (hA.mono B15.out.size))) (And.intro (Nat.le_trans sz6 hA.size) (And.intro (bE.trans (hA.mono bE.size)) (And.intro (Nat.le_trans sz7 hA.size) (And.intro (Za (Kd.R_below ow8.out hA)) (And.intro (Nat.le_trans sz8 hA.size) (And.intro (Nat.lt_of_lt_of_le z3 hA.size) (And.intro (Zx hA s3_0) (And.intro (Zx hA s3_1) ((Za (And.intro g8_0.out.1 (Zb g8_0.out.2 hA))))))))))))
 clear sz6 bE sz7 ow8 sz8 z3 s3_0 s3_1 g8_0 hm0 hm1
 obtain⟨⟨⟨hB,z0,s0_0,s0_1,s0_2,z1,s1_0,s1_1,Q0_0,Q0_1,Q1_0,Q1_1⟩,g5_0⟩,sz6,bE,sz7,ow8,sz8,z3,s3_0,s3_1,g8_0⟩:=HK15.out _ (Below.refl _ _)
 have le6_15:=sz6
 have le7_15:=sz7
 have le8_15:=sz8
 go_wp2_with fail
 refine(ZaB.calls (2 ^ 64) X8_0 x8_0 u5_0 X5_0 x5_0 u5_0 true _ g8_0.out.2 g8_0.out.1 g5_0.out.2 g5_0.out.1 (Zdu _ (g8_0.out.2.2).1 (2 ^ 64) (Nat.le_refl _))).mono ?_
 rintro e w16 ⟨rfl,hd⟩
 have hb:=hd.below
 clear hd;have B16:=Za hb;clear hB z0 s0_0 s0_1 s0_2 z1 s1_0 s1_1 Q0_0 Q0_1 Q1_0 Q1_1 g5_0 sz6 bE sz7 ow8 sz8 z3 s3_0 s3_1 g8_0 hb
 have HK16:=Za fun (W:World) (hA:Below w16.heap.size w16 W)=>HK15.out W (B16.out.trans (hA.mono B16.out.size))
 obtain⟨⟨⟨hB,z0,s0_0,s0_1,s0_2,z1,s1_0,s1_1,Q0_0,Q0_1,Q1_0,Q1_1⟩,g5_0⟩,sz6,bE,sz7,ow8,sz8,z3,s3_0,s3_1,g8_0⟩:=HK16.out _ (Below.refl _ _)
 have le6_16:=sz6
 have le7_16:=sz7
 have le8_16:=sz8
 go_wp2_with fail
 refine(ZgI w5 _ _ _ _ bE (Kd.R_mono ow8.out (fun k hk=>hk.2.2)) SM_u5_0.out _ (by have:=HR14.out;have:=SM_u3_0_0.out;have:=SM_u3_0_1.out;have:=SM_u5_0.out;omega) (by have:=HR14.out;have:=SM_u3_0_0.out;have:=SM_u3_0_1.out;have:=SM_u5_0.out;omega)).mono ?_
 rintro e w17 ⟨rfl,hm0,hb,hk⟩
 have hqw17:=(Zf (by have:=HR14.out;have:=SM_u3_0_0.out;have:=SM_u3_0_1.out;have:=SM_u5_0.out;omega):decide ((1+(u5_0.length:Int))<0)=false)
 have B17:=Za hb
 replace sz6:=Nat.le_trans sz6 hk.1
 replace bE:=hb
 replace sz7:=Nat.le_trans sz7 hk.1
 replace ow8:=Za hm0
 replace sz8:=Nat.le_trans sz8 hk.1
 replace g8_0:=Za (ZgH hm0)
 clear hB z0 s0_0 s0_1 s0_2 z1 s1_0 s1_1 Q0_0 Q0_1 Q1_0 Q1_1 g5_0 z3 s3_0 s3_1 hk
 have HK17:=Za fun (W:World) (hA:Below w17.heap.size w17 W)=>And.intro (HK5.out W (B17.out.trans (hA.mono B17.out.size))) (And.intro (Nat.le_trans sz6 hA.size) (And.intro (bE.trans (hA.mono bE.size)) (And.intro (Nat.le_trans sz7 hA.size) (And.intro (Za (Kd.R_below ow8.out hA)) (And.intro (Nat.le_trans sz8 hA.size) ((Za (And.intro g8_0.out.1 (Zb g8_0.out.2 hA)))))))))
 clear sz6 bE sz7 ow8 sz8 g8_0 hm0
 obtain⟨⟨⟨hB,z0,s0_0,s0_1,s0_2,z1,s1_0,s1_1,Q0_0,Q0_1,Q1_0,Q1_1⟩,g5_0⟩,sz6,bE,sz7,ow8,sz8,g8_0⟩:=HK17.out _ (Below.refl _ _)
 have le6_17:=sz6
 have le7_17:=sz7
 have le8_17:=sz8
 go_wp2_with fail
 refine(ZeK _ _ _ _ _ g8_0.out.2 g8_0.out.1 SM_u5_0.out (by have:=SM_u5_0.out;omega) (by have:=SM_u5_0.out;omega)).mono ?_
 rintro e w18 ⟨rfl,hb⟩
 have B18:=Za hb;clear hB z0 s0_0 s0_1 s0_2 z1 s1_0 s1_1 Q0_0 Q0_1 Q1_0 Q1_1 g5_0 sz6 bE sz7 ow8 sz8 g8_0 hb
 have HK18:=Za fun (W:World) (hA:Below w18.heap.size w18 W)=>HK17.out W (B18.out.trans (hA.mono B18.out.size))
 obtain⟨⟨⟨hB,z0,s0_0,s0_1,s0_2,z1,s1_0,s1_1,Q0_0,Q0_1,Q1_0,Q1_1⟩,g5_0⟩,sz6,bE,sz7,ow8,sz8,g8_0⟩:=HK18.out _ (Below.refl _ _)
 have le6_18:=sz6
 have le7_18:=sz7
 have le8_18:=sz8
 go_wp2_with fail
 go_region_held3 (fun w'=>Below w18.heap.size w18 w'∧w'.cell? ⟨w.heap.size,0,none⟩=some (.slice A0_0 l0_0.length c0_0)∧w'.cell? ⟨w.heap.size,1,none⟩=some (.slice A0_1 l0_1.length c0_1)∧w'.cell? ⟨w.heap.size,2,none⟩=some (.int .i64 a0_2)∧w'.cell? ⟨w.heap.size+1,0,none⟩=some (.slice A1_0 l1_0.length c1_0)∧w'.cell? ⟨w.heap.size+1,1,none⟩=some (.slice A1_1 l1_1.length c1_1))
  (first|(refine⟨by repeat(first|(with_reducible first|exact Below.refl _ _|apply Zo|apply Zm|apply Zp|exact(‹Below w18.heap.size w18 _∧_› : Below w18.heap.size w18 _∧_).1)|exact Below.refl _ _),?_⟩;go_simp;done)|(have HQ_:=HK18.out _ (Zq (‹Below w18.heap.size w18 _∧_› : Below w18.heap.size w18 _∧_).1 hb);exact⟨Zq (‹Below w18.heap.size w18 _∧_› : Below w18.heap.size w18 _∧_).1 hb,HQ_.1.1.2.2.1,HQ_.1.1.2.2.2.1,HQ_.1.1.2.2.2.2.1,HQ_.1.1.2.2.2.2.2.2.1,HQ_.1.1.2.2.2.2.2.2.2.1⟩))
  (first|(go_at_call 30;(refine(Za8.c k A0_0 c0_0 l0_0 A0_1 c0_1 l0_1 a0_2 _ _ _ _ ?s19_0 ?s19_1 ?s19_2 ?s19_3 HF2.out).mono ?_);(case s19_0=>exact(HK18.out _ (‹Below w18.heap.size w18 _∧_› : Below w18.heap.size w18 _∧_).1).1.1.2.2.2.2.2.2.2.2.1.out.2);(case s19_1=>exact(HK18.out _ (‹Below w18.heap.size w18 _∧_› : Below w18.heap.size w18 _∧_).1).1.1.2.2.2.2.2.2.2.2.1.out.1);(case s19_2=>exact(HK18.out _ (‹Below w18.heap.size w18 _∧_› : Below w18.heap.size w18 _∧_).1).1.1.2.2.2.2.2.2.2.2.2.1.out.2);(case s19_3=>exact(HK18.out _ (‹Below w18.heap.size w18 _∧_› : Below w18.heap.size w18 _∧_).1).1.1.2.2.2.2.2.2.2.2.2.1.out.1);rintro e w19 ⟨X19_0,x19_0,X19_1,x19_1,rfl,g19_0,g19_1,hb⟩)|(go_at_call 31;(refine(ZaV.c k A1_0 c1_0 l1_0 A1_1 c1_1 l1_1 _ _ _ ?s20_0 ?s20_1 ?s20_2 ?s20_3 HF3.out).mono ?_);(case s20_0=>exact(HK18.out _ (‹Below w18.heap.size w18 _∧_› : Below w18.heap.size w18 _∧_).1).1.1.2.2.2.2.2.2.2.2.2.2.1.out.2);(case s20_1=>exact(HK18.out _ (‹Below w18.heap.size w18 _∧_› : Below w18.heap.size w18 _∧_).1).1.1.2.2.2.2.2.2.2.2.2.2.1.out.1);(case s20_2=>exact(HK18.out _ (‹Below w18.heap.size w18 _∧_› : Below w18.heap.size w18 _∧_).1).1.1.2.2.2.2.2.2.2.2.2.2.2.out.2);(case s20_3=>exact(HK18.out _ (‹Below w18.heap.size w18 _∧_› : Below w18.heap.size w18 _∧_).1).1.1.2.2.2.2.2.2.2.2.2.2.2.out.1);rintro e w20 ⟨X20_0,x20_0,X20_1,x20_1,rfl,g20_0,g20_1,hb⟩;replace g19_0:=Za (And.intro g19_0.out.1 (Zb g19_0.out.2 hb));replace g19_1:=Za (And.intro g19_1.out.1 (Zb g19_1.out.2 hb)))|(go_at_call 45;(refine(Zap.c k X19_0 x19_0 u2_0_0 X19_1 x19_1 u2_0_1 u2_0_2 X20_0 x20_0 u3_0_0 X20_1 x20_1 u3_0_1 _ _ ?s21_0 ?s21_1 ?s21_2 ?s21_3 ?s21_4 ?s21_5 ?s21_6 ?s21_7 ?s21_8 HF5.out).mono ?_);(case s21_0=>exact g19_0.out.2);(case s21_1=>exact g19_0.out.1);(case s21_2=>exact g19_1.out.2);(case s21_3=>exact g19_1.out.1);(case s21_4=>exact g20_0.out.2);(case s21_5=>exact g20_0.out.1);(case s21_6=>exact g20_1.out.2);(case s21_7=>exact g20_1.out.1);(case s21_8=>exact TW.below HTW.out ((HK18.out _ (‹Below w18.heap.size w18 _∧_› : Below w18.heap.size w18 _∧_).1).1.1.1));rintro e w21 ⟨X21_0,x21_0,rfl,g21_0,hb⟩;replace g19_0:=Za (And.intro g19_0.out.1 (Zb g19_0.out.2 hb));replace g19_1:=Za (And.intro g19_1.out.1 (Zb g19_1.out.2 hb));replace g20_0:=Za (And.intro g20_0.out.1 (Zb g20_0.out.2 hb));replace g20_1:=Za (And.intro g20_1.out.1 (Zb g20_1.out.2 hb))))
 have B21:=Za (‹Below w18.heap.size w18 w21∧_› : Below w18.heap.size w18 w21∧_).1
 clear hB z0 s0_0 s0_1 s0_2 z1 s1_0 s1_1 Q0_0 Q0_1 Q1_0 Q1_1 g5_0 sz6 bE sz7 ow8 sz8 g8_0
 have HK21:=Za fun (W:World) (hA:Below w21.heap.size w21 W)=>And.intro (HK18.out W (B21.out.trans (hA.mono B21.out.size))) ((Za (And.intro g21_0.out.1 (Zb g21_0.out.2 hA))))
 clear g21_0
 obtain⟨⟨⟨⟨hB,z0,s0_0,s0_1,s0_2,z1,s1_0,s1_1,Q0_0,Q0_1,Q1_0,Q1_1⟩,g5_0⟩,sz6,bE,sz7,ow8,sz8,g8_0⟩,g21_0⟩:=HK21.out _ (Below.refl _ _)
 have le6_21:=sz6
 have le7_21:=sz7
 have le8_21:=sz8
 go_wp2_with fail
 refine(ZaB.calls (2 ^ 64) X21_0 x21_0 u5_0 X5_0 x5_0 u5_0 true _ g21_0.out.2 g21_0.out.1 g5_0.out.2 g5_0.out.1 (Zdu _ (g21_0.out.2.2).1 (2 ^ 64) (Nat.le_refl _))).mono ?_
 rintro e w22 ⟨rfl,hd⟩
 have hb:=hd.below
 clear hd;have B22:=Za hb;clear hB z0 s0_0 s0_1 s0_2 z1 s1_0 s1_1 Q0_0 Q0_1 Q1_0 Q1_1 g5_0 sz6 bE sz7 ow8 sz8 g8_0 g21_0 hb
 have HK22:=Za fun (W:World) (hA:Below w22.heap.size w22 W)=>HK21.out W (B22.out.trans (hA.mono B22.out.size))
 obtain⟨⟨⟨⟨hB,z0,s0_0,s0_1,s0_2,z1,s1_0,s1_1,Q0_0,Q0_1,Q1_0,Q1_1⟩,g5_0⟩,sz6,bE,sz7,ow8,sz8,g8_0⟩,g21_0⟩:=HK22.out _ (Below.refl _ _)
 have le6_22:=sz6
 have le7_22:=sz7
 have le8_22:=sz8
 go_wp2_with fail
 refine(ZeK _ _ _ _ _ g8_0.out.2 g8_0.out.1 SM_u5_0.out (by have:=SM_u5_0.out;omega) (by have:=SM_u5_0.out;omega)).mono ?_
 rintro e w23 ⟨rfl,hb⟩
 have B23:=Za hb;clear hB z0 s0_0 s0_1 s0_2 z1 s1_0 s1_1 Q0_0 Q0_1 Q1_0 Q1_1 g5_0 sz6 bE sz7 ow8 sz8 g8_0 g21_0 hb
 have HK23:=Za fun (W:World) (hA:Below w23.heap.size w23 W)=>HK22.out W (B23.out.trans (hA.mono B23.out.size))
 obtain⟨⟨⟨⟨hB,z0,s0_0,s0_1,s0_2,z1,s1_0,s1_1,Q0_0,Q0_1,Q1_0,Q1_1⟩,g5_0⟩,sz6,bE,sz7,ow8,sz8,g8_0⟩,g21_0⟩:=HK23.out _ (Below.refl _ _)
 have le6_23:=sz6
 have le7_23:=sz7
 have le8_23:=sz8
 go_wp2
 go_ret
 exact⟨rfl,(HK23.out _ (Below.refl _ _)).1.1.1.1⟩
def laws_FnExactExplainChoice.Pure:Prop:=∀(y0:S47) (y1:S49),okS47 y0→okS49 y1→∃k,laws_FnExactExplainChoice.f k y0.f0 y0.f1 y0.f2 y1.f0 y1.f1=some true
end Go.Proofs.YtoeimopgoaffcaaGreatDoor.Pr
set_option linter.unusedSimpArgs false
namespace Go.Proofs.YtoeimopgoaffcaaGreatDoor.Pure
open RowKit Pr Ni YtoeimopgoaffcaaGreatDoorW.PrintWords YtoeimopgoaffcaaGreatDoorW.PrintMore
theorem FnExactExplainChoice:laws_FnExactExplainChoice.Pure:=by
 rintro⟨ns,ts,z⟩ ⟨ln,vs⟩ ⟨⟨hn,hb⟩,⟨ht,_⟩,_⟩ ⟨⟨hln,_⟩,⟨hvs,_⟩⟩
 simp only[maxLen] at hn ht hln hvs
 refine⟨2 ^ 70,?_⟩
 unfold laws_FnExactExplainChoice.f
 obtain⟨r,hr,h⟩:=szShow_f ns ts z hn (fun n hn=>by have:=hb n hn;exact⟨by simpa [maxLen] using this.1,by simpa [maxLen] using this.2.1.1⟩) ht (2 ^ 70) (by omega) 1048576 (by omega) (by omega)
 rw[hr,Zi]
 rcases h with h|⟨h0,h1,h⟩
 ·rw[if_pos h]
 rw[if_neg (by omega)]
 have hc:=h.cv
 obtain⟨r2,hr2,h2⟩:=szChoice_f ln vs (by omega) (by omega) r (by omega) (by omega)
 rw[hr2,Zi]
 rcases h2 with h2|⟨_,_,h6,h7⟩
 ·rw[if_pos h2]
 rw[if_neg (by omega)]
 have hs1:=smallB_of hc
 have hl:=explB_len (ns.map cvN) (ts.map cvT) z ln vs
 simp only[toShow_f ns ts z h (2 ^ 70) (by omega),toChoice_f ln vs (by omega) (by omega) (2 ^ 70) (by omega),Zeq (ts:=ts.map cvT) (z:=z) (ln:=ln) (vs:=vs) hc h7 (2 ^ 70) (by omega),ZeD (ts:=ts.map cvT) (z:=z) (ln:=ln) (vs:=vs) hc h7 (2 ^ 70) (by omega),Zi,if_true,hs1,if_pos h6,if_pos h7,if_pos hl]
end Go.Proofs.YtoeimopgoaffcaaGreatDoor.Pure
