/- The texts of one claim, put together by a program of this session. -/
import Derived.Deep.RegionHeld3
import Derived.Test.YtoeimopgoaffcaaGreatDoorBBqc1x1
import Derived.Test.YtoeimopgoaffcaaGreatDoorBBqc1x18
import Derived.Test.YtoeimopgoaffcaaGreatDoorBBqc1x2
import Derived.Test.YtoeimopgoaffcaaGreatDoorBBqc1x25
namespace Go.Proofs.YtoeimopgoaffcaaGreatDoor.Pr
open Go.RowKit Go.Proofs.YtoeimopgoaffcaaGreatDoorW.PrintWords Go.Proofs.YtoeimopgoaffcaaGreatDoorW.PrintLast Go.Proofs.YtoeimopgoaffcaaGreatDoorW.PrintMore
attribute [local go_sem] ZW ZU ZZ ZY ZP ZO ZV ZT
set_option linter.unusedVariables false
set_option linter.unusedSimpArgs false
open Go.Proofs.YtoeimopgoaffcaaGreatDoor.Ni
def laws_FnExactCanMaster.f (k:Nat) (l0_0:List (S143)) (l0_1:List (S147)) (a0_2:Int) (l1_0:List Int) (l1_1:List Int):Option (Bool):=((ZbW.f k l0_0 l0_1 a0_2 1048576).bind fun u0_0=>(if u0_0<0 then some true else((ZbV.f l1_0 l1_1 u0_0).bind fun u1_0=>(if u1_0<0 then some true else((Zbi.f k l0_0 l0_1 a0_2).bind fun b2=>((Za2.f k l1_0 l1_1).bind fun b3=>((ZbB.f k b2.1 b2.2.1 b2.2.2 b3.1 b3.2).bind fun u4_0=>((ZbF.f k b2.1 b2.2.1 b2.2.2 b3.1 b3.2).bind fun u5_0=>(if u5_0=u4_0 then(some true) else some false)))))))))
set_option maxHeartbeats 8000000 in
set_option maxRecDepth 100000 in
theorem laws_FnExactCanMaster.calls (k:Nat) (A0_0:Option Addr) (c0_0:Nat) (l0_0:List (S143)) (A0_1:Option Addr) (c0_1:Nat) (l0_1:List (S147)) (a0_2:Int) (A1_0:Option Addr) (c1_0:Nat) (l1_0:List Int) (A1_1:Option Addr) (c1_1:Nat) (l1_1:List Int) (w:World) (hr0_0:Kd.C k143 w A0_0 l0_0.length l0_0) (hc0_0:l0_0.length≤c0_0) (hr0_1:Kd.C k147 w A0_1 l0_1.length l0_1) (hc0_1:l0_1.length≤c0_1) (hr1_0:Kd.C (Kd.int .i64) w A1_0 l1_0.length l1_0) (hc1_0:l1_0.length≤c1_0) (hr1_1:Kd.C (Kd.int .i64) w A1_1 l1_1.length l1_1) (hc1_1:l1_1.length≤c1_1) (ht:TW w) (h:laws_FnExactCanMaster.f k l0_0 l0_1 a0_2 l1_0 l1_1=some true) :
  Calls Tryz.prog 6 #[.agg #[.slice A0_0 l0_0.length c0_0,.slice A0_1 l0_1.length c0_1,.int .i64 a0_2],.agg #[.slice A1_0 l1_0.length c1_0,.slice A1_1 l1_1.length c1_1]] w fun e w'=>e=.returned (.bool true)∧Below w.heap.size w w':=by
 unfold laws_FnExactCanMaster.f at h
 have HTW:=Za ht;clear ht
 have hv25:=Tryz.underlying25
 have hv58:=Tryz.underlying58
 replace h:=Option.bind_eq_some_iff.1 h
 obtain⟨u0_0,HF0,h⟩:=h
 (try dsimp only at h)
 replace HF0:=Za HF0
 by_cases hcn0:u0_0<0
 case pos=>
  have hq0:decide (u0_0<0)=true:=Ze hcn0
  clear h hcn0
  have hu47:=Tryz.underlying47
  have hu49:=Tryz.underlying49
  have HB0:=Za (Zn (Zn (Below.refl w.heap.size w) (.cells #[.slice A0_0 l0_0.length c0_0,.slice A0_1 l0_1.length c0_1,.int .i64 a0_2] 47)) (.cells #[.slice A1_0 l1_0.length c1_0,.slice A1_1 l1_1.length c1_1] 49))
  have Q0_0:=Za (And.intro hc0_0 (Zb hr0_0 HB0.out))
  have Q0_1:=Za (And.intro hc0_1 (Zb hr0_1 HB0.out))
  have Q1_0:=Za (And.intro hc1_0 (Zb hr1_0 HB0.out))
  have Q1_1:=Za (And.intro hc1_1 (Zb hr1_1 HB0.out))
  clear hr0_0 hc0_0 hr0_1 hc0_1 hr1_0 hc1_0 hr1_1 hc1_1
  go_enter Tryz.func6,Tryz.ntmps6
  go_wp2_with fail
  refine(ZbW.calls k A0_0 c0_0 l0_0 A0_1 c0_1 l0_1 a0_2 1048576 _ _ Q0_0.out.2 Q0_0.out.1 Q0_1.out.2 Q0_1.out.1 HF0.out).mono ?_
  rintro e w1 ⟨rfl,hb⟩
  have HB1:=Za (HB0.out.trans (hb.mono HB0.out.size))
  have z0:w.heap.size<w1.heap.size:=Nat.lt_of_lt_of_le (by simp <;> omega) hb.size
  have s0_0:w1.cell? ⟨w.heap.size,0,none⟩=some (.slice A0_0 l0_0.length c0_0):=Zz hb (by go_simp)
  have s0_1:w1.cell? ⟨w.heap.size,1,none⟩=some (.slice A0_1 l0_1.length c0_1):=Zz hb (by go_simp)
  have s0_2:w1.cell? ⟨w.heap.size,2,none⟩=some (.int .i64 a0_2):=Zz hb (by go_simp)
  have z1:w.heap.size+1<w1.heap.size:=Nat.lt_of_lt_of_le (by simp <;> omega) hb.size
  have s1_0:w1.cell? ⟨w.heap.size+1,0,none⟩=some (.slice A1_0 l1_0.length c1_0):=Zz hb (by go_simp)
  have s1_1:w1.cell? ⟨w.heap.size+1,1,none⟩=some (.slice A1_1 l1_1.length c1_1):=Zz hb (by go_simp)
  replace Q0_0:=Za (And.intro Q0_0.out.1 (Zb Q0_0.out.2 hb))
  replace Q0_1:=Za (And.intro Q0_1.out.1 (Zb Q0_1.out.2 hb))
  replace Q1_0:=Za (And.intro Q1_0.out.1 (Zb Q1_0.out.2 hb))
  replace Q1_1:=Za (And.intro Q1_1.out.1 (Zb Q1_1.out.2 hb))
  have HK1:=Za fun (W:World) (hA:Below w1.heap.size w1 W)=>And.intro (HB1.out.trans (hA.mono HB1.out.size)) (And.intro (Nat.lt_of_lt_of_le z0 hA.size) (And.intro (Zz hA s0_0) (And.intro (Zz hA s0_1) (And.intro (Zz hA s0_2) (And.intro (Nat.lt_of_lt_of_le z1 hA.size) (And.intro (Zz hA s1_0) (And.intro (Zz hA s1_1) (And.intro (Za (And.intro Q0_0.out.1 (Zb Q0_0.out.2 hA))) (And.intro (Za (And.intro Q0_1.out.1 (Zb Q0_1.out.2 hA))) (And.intro (Za (And.intro Q1_0.out.1 (Zb Q1_0.out.2 hA))) ((Za (And.intro Q1_1.out.1 (Zb Q1_1.out.2 hA))))))))))))))
  clear z0 s0_0 s0_1 s0_2 z1 s1_0 s1_1 Q0_0 Q0_1 Q1_0 Q1_1 hb
  obtain⟨hB,z0,s0_0,s0_1,s0_2,z1,s1_0,s1_1,Q0_0,Q0_1,Q1_0,Q1_1⟩:=HK1.out _ (Below.refl _ _)
  go_wp2
  go_ret
  exact⟨rfl,(HK1.out _ (Below.refl _ _)).1⟩
 rw[if_neg hcn0] at h
 have hq0:decide (u0_0<0)=false:=Zf hcn0
 clear hcn0
 replace h:=Option.bind_eq_some_iff.1 h
 obtain⟨u1_0,HF1,h⟩:=h
 (try dsimp only at h)
 replace HF1:=Za HF1
 by_cases hcn1:u1_0<0
 case pos=>
  have hq1:decide (u1_0<0)=true:=Ze hcn1
  clear h hcn1
  have hu47:=Tryz.underlying47
  have hu49:=Tryz.underlying49
  have HB0:=Za (Zn (Zn (Below.refl w.heap.size w) (.cells #[.slice A0_0 l0_0.length c0_0,.slice A0_1 l0_1.length c0_1,.int .i64 a0_2] 47)) (.cells #[.slice A1_0 l1_0.length c1_0,.slice A1_1 l1_1.length c1_1] 49))
  have Q0_0:=Za (And.intro hc0_0 (Zb hr0_0 HB0.out))
  have Q0_1:=Za (And.intro hc0_1 (Zb hr0_1 HB0.out))
  have Q1_0:=Za (And.intro hc1_0 (Zb hr1_0 HB0.out))
  have Q1_1:=Za (And.intro hc1_1 (Zb hr1_1 HB0.out))
  clear hr0_0 hc0_0 hr0_1 hc0_1 hr1_0 hc1_0 hr1_1 hc1_1
  go_enter Tryz.func6,Tryz.ntmps6
  go_wp2_with fail
  refine(ZbW.calls k A0_0 c0_0 l0_0 A0_1 c0_1 l0_1 a0_2 1048576 _ _ Q0_0.out.2 Q0_0.out.1 Q0_1.out.2 Q0_1.out.1 HF0.out).mono ?_
  rintro e w1 ⟨rfl,hb⟩
  have HB1:=Za (HB0.out.trans (hb.mono HB0.out.size))
  have z0:w.heap.size<w1.heap.size:=Nat.lt_of_lt_of_le (by simp <;> omega) hb.size
  have s0_0:w1.cell? ⟨w.heap.size,0,none⟩=some (.slice A0_0 l0_0.length c0_0):=Zz hb (by go_simp)
  have s0_1:w1.cell? ⟨w.heap.size,1,none⟩=some (.slice A0_1 l0_1.length c0_1):=Zz hb (by go_simp)
  have s0_2:w1.cell? ⟨w.heap.size,2,none⟩=some (.int .i64 a0_2):=Zz hb (by go_simp)
  have z1:w.heap.size+1<w1.heap.size:=Nat.lt_of_lt_of_le (by simp <;> omega) hb.size
  have s1_0:w1.cell? ⟨w.heap.size+1,0,none⟩=some (.slice A1_0 l1_0.length c1_0):=Zz hb (by go_simp)
  have s1_1:w1.cell? ⟨w.heap.size+1,1,none⟩=some (.slice A1_1 l1_1.length c1_1):=Zz hb (by go_simp)
  replace Q0_0:=Za (And.intro Q0_0.out.1 (Zb Q0_0.out.2 hb))
  replace Q0_1:=Za (And.intro Q0_1.out.1 (Zb Q0_1.out.2 hb))
  replace Q1_0:=Za (And.intro Q1_0.out.1 (Zb Q1_0.out.2 hb))
  replace Q1_1:=Za (And.intro Q1_1.out.1 (Zb Q1_1.out.2 hb))
  have HK1:=Za fun (W:World) (hA:Below w1.heap.size w1 W)=>And.intro (HB1.out.trans (hA.mono HB1.out.size)) (And.intro (Nat.lt_of_lt_of_le z0 hA.size) (And.intro (Zz hA s0_0) (And.intro (Zz hA s0_1) (And.intro (Zz hA s0_2) (And.intro (Nat.lt_of_lt_of_le z1 hA.size) (And.intro (Zz hA s1_0) (And.intro (Zz hA s1_1) (And.intro (Za (And.intro Q0_0.out.1 (Zb Q0_0.out.2 hA))) (And.intro (Za (And.intro Q0_1.out.1 (Zb Q0_1.out.2 hA))) (And.intro (Za (And.intro Q1_0.out.1 (Zb Q1_0.out.2 hA))) ((Za (And.intro Q1_1.out.1 (Zb Q1_1.out.2 hA))))))))))))))
  clear z0 s0_0 s0_1 s0_2 z1 s1_0 s1_1 Q0_0 Q0_1 Q1_0 Q1_1 hb
  obtain⟨hB,z0,s0_0,s0_1,s0_2,z1,s1_0,s1_1,Q0_0,Q0_1,Q1_0,Q1_1⟩:=HK1.out _ (Below.refl _ _)
  go_wp2_with fail
  refine(ZbV.calls A1_0 c1_0 l1_0 A1_1 c1_1 l1_1 u0_0 _ _ Q1_0.out.2 Q1_0.out.1 Q1_1.out.2 Q1_1.out.1 HF1.out).mono ?_
  rintro e w2 ⟨rfl,hb⟩
  have B2:=Za hb;clear hB z0 s0_0 s0_1 s0_2 z1 s1_0 s1_1 Q0_0 Q0_1 Q1_0 Q1_1 hb
  have HK2:=Za fun (W:World) (hA:Below w2.heap.size w2 W)=>HK1.out W (B2.out.trans (hA.mono B2.out.size))
  obtain⟨hB,z0,s0_0,s0_1,s0_2,z1,s1_0,s1_1,Q0_0,Q0_1,Q1_0,Q1_1⟩:=HK2.out _ (Below.refl _ _)
  go_wp2
  go_ret
  exact⟨rfl,(HK2.out _ (Below.refl _ _)).1⟩
 rw[if_neg hcn1] at h
 have hq1:decide (u1_0<0)=false:=Zf hcn1
 clear hcn1
 replace h:=Option.bind_eq_some_iff.1 h
 obtain⟨⟨u2_0_0,u2_0_1,u2_0_2⟩,HF2,h⟩:=h
 (try dsimp only at h)
 replace HF2:=Za HF2
 replace h:=Option.bind_eq_some_iff.1 h
 obtain⟨⟨u3_0_0,u3_0_1⟩,HF3,h⟩:=h
 (try dsimp only at h)
 replace HF3:=Za HF3
 replace h:=Option.bind_eq_some_iff.1 h
 obtain⟨u4_0,HF4,h⟩:=h
 (try dsimp only at h)
 replace HF4:=Za HF4
 replace h:=Option.bind_eq_some_iff.1 h
 obtain⟨u5_0,HF5,h⟩:=h
 (try dsimp only at h)
 replace HF5:=Za HF5
 by_cases ht114:u5_0=u4_0
 case neg=>rw[if_neg ht114] at h;exact absurd h (by simp)
 rw[if_pos ht114] at h
 subst ht114;clear h
 have hu47:=Tryz.underlying47
 have hu49:=Tryz.underlying49
 have HB0:=Za (Zn (Zn (Below.refl w.heap.size w) (.cells #[.slice A0_0 l0_0.length c0_0,.slice A0_1 l0_1.length c0_1,.int .i64 a0_2] 47)) (.cells #[.slice A1_0 l1_0.length c1_0,.slice A1_1 l1_1.length c1_1] 49))
 have Q0_0:=Za (And.intro hc0_0 (Zb hr0_0 HB0.out))
 have Q0_1:=Za (And.intro hc0_1 (Zb hr0_1 HB0.out))
 have Q1_0:=Za (And.intro hc1_0 (Zb hr1_0 HB0.out))
 have Q1_1:=Za (And.intro hc1_1 (Zb hr1_1 HB0.out))
 clear hr0_0 hc0_0 hr0_1 hc0_1 hr1_0 hc1_0 hr1_1 hc1_1
 go_enter Tryz.func6,Tryz.ntmps6
 go_wp2_with fail
 refine(ZbW.calls k A0_0 c0_0 l0_0 A0_1 c0_1 l0_1 a0_2 1048576 _ _ Q0_0.out.2 Q0_0.out.1 Q0_1.out.2 Q0_1.out.1 HF0.out).mono ?_
 rintro e w1 ⟨rfl,hb⟩
 have HB1:=Za (HB0.out.trans (hb.mono HB0.out.size))
 have z0:w.heap.size<w1.heap.size:=Nat.lt_of_lt_of_le (by simp <;> omega) hb.size
 have s0_0:w1.cell? ⟨w.heap.size,0,none⟩=some (.slice A0_0 l0_0.length c0_0):=Zz hb (by go_simp)
 have s0_1:w1.cell? ⟨w.heap.size,1,none⟩=some (.slice A0_1 l0_1.length c0_1):=Zz hb (by go_simp)
 have s0_2:w1.cell? ⟨w.heap.size,2,none⟩=some (.int .i64 a0_2):=Zz hb (by go_simp)
 have z1:w.heap.size+1<w1.heap.size:=Nat.lt_of_lt_of_le (by simp <;> omega) hb.size
 have s1_0:w1.cell? ⟨w.heap.size+1,0,none⟩=some (.slice A1_0 l1_0.length c1_0):=Zz hb (by go_simp)
 have s1_1:w1.cell? ⟨w.heap.size+1,1,none⟩=some (.slice A1_1 l1_1.length c1_1):=Zz hb (by go_simp)
 replace Q0_0:=Za (And.intro Q0_0.out.1 (Zb Q0_0.out.2 hb))
 replace Q0_1:=Za (And.intro Q0_1.out.1 (Zb Q0_1.out.2 hb))
 replace Q1_0:=Za (And.intro Q1_0.out.1 (Zb Q1_0.out.2 hb))
 replace Q1_1:=Za (And.intro Q1_1.out.1 (Zb Q1_1.out.2 hb))
 have HK1:=Za fun (W:World) (hA:Below w1.heap.size w1 W)=>And.intro (HB1.out.trans (hA.mono HB1.out.size)) (And.intro (Nat.lt_of_lt_of_le z0 hA.size) (And.intro (Zz hA s0_0) (And.intro (Zz hA s0_1) (And.intro (Zz hA s0_2) (And.intro (Nat.lt_of_lt_of_le z1 hA.size) (And.intro (Zz hA s1_0) (And.intro (Zz hA s1_1) (And.intro (Za (And.intro Q0_0.out.1 (Zb Q0_0.out.2 hA))) (And.intro (Za (And.intro Q0_1.out.1 (Zb Q0_1.out.2 hA))) (And.intro (Za (And.intro Q1_0.out.1 (Zb Q1_0.out.2 hA))) ((Za (And.intro Q1_1.out.1 (Zb Q1_1.out.2 hA))))))))))))))
 clear z0 s0_0 s0_1 s0_2 z1 s1_0 s1_1 Q0_0 Q0_1 Q1_0 Q1_1 hb
 obtain⟨hB,z0,s0_0,s0_1,s0_2,z1,s1_0,s1_1,Q0_0,Q0_1,Q1_0,Q1_1⟩:=HK1.out _ (Below.refl _ _)
 go_wp2_with fail
 refine(ZbV.calls A1_0 c1_0 l1_0 A1_1 c1_1 l1_1 u0_0 _ _ Q1_0.out.2 Q1_0.out.1 Q1_1.out.2 Q1_1.out.1 HF1.out).mono ?_
 rintro e w2 ⟨rfl,hb⟩
 have B2:=Za hb;clear hB z0 s0_0 s0_1 s0_2 z1 s1_0 s1_1 Q0_0 Q0_1 Q1_0 Q1_1 hb
 have HK2:=Za fun (W:World) (hA:Below w2.heap.size w2 W)=>HK1.out W (B2.out.trans (hA.mono B2.out.size))
 obtain⟨hB,z0,s0_0,s0_1,s0_2,z1,s1_0,s1_1,Q0_0,Q0_1,Q1_0,Q1_1⟩:=HK2.out _ (Below.refl _ _)
 go_wp2_with fail
 go_region_held3 (fun w'=>Below w2.heap.size w2 w'∧w'.cell? ⟨w.heap.size,0,none⟩=some (.slice A0_0 l0_0.length c0_0)∧w'.cell? ⟨w.heap.size,1,none⟩=some (.slice A0_1 l0_1.length c0_1)∧w'.cell? ⟨w.heap.size,2,none⟩=some (.int .i64 a0_2)∧w'.cell? ⟨w.heap.size+1,0,none⟩=some (.slice A1_0 l1_0.length c1_0)∧w'.cell? ⟨w.heap.size+1,1,none⟩=some (.slice A1_1 l1_1.length c1_1))
  (first|(refine⟨by repeat(first|(with_reducible first|exact Below.refl _ _|apply Zn|apply Zm|apply Zo|exact(‹Below w2.heap.size w2 _∧_› : Below w2.heap.size w2 _∧_).1)|exact Below.refl _ _),?_⟩;go_simp;done)|(have HQ_:=HK2.out _ (Zw (‹Below w2.heap.size w2 _∧_› : Below w2.heap.size w2 _∧_).1 hb);exact⟨Zw (‹Below w2.heap.size w2 _∧_› : Below w2.heap.size w2 _∧_).1 hb,HQ_.2.2.1,HQ_.2.2.2.1,HQ_.2.2.2.2.1,HQ_.2.2.2.2.2.2.1,HQ_.2.2.2.2.2.2.2.1⟩))
  (first|(go_at_call 30;(refine(Zbi.c k A0_0 c0_0 l0_0 A0_1 c0_1 l0_1 a0_2 _ _ _ _ ?s3_0 ?s3_1 ?s3_2 ?s3_3 HF2.out).mono ?_);(case s3_0=>exact(HK2.out _ (‹Below w2.heap.size w2 _∧_› : Below w2.heap.size w2 _∧_).1).2.2.2.2.2.2.2.2.1.out.2);(case s3_1=>exact(HK2.out _ (‹Below w2.heap.size w2 _∧_› : Below w2.heap.size w2 _∧_).1).2.2.2.2.2.2.2.2.1.out.1);(case s3_2=>exact(HK2.out _ (‹Below w2.heap.size w2 _∧_› : Below w2.heap.size w2 _∧_).1).2.2.2.2.2.2.2.2.2.1.out.2);(case s3_3=>exact(HK2.out _ (‹Below w2.heap.size w2 _∧_› : Below w2.heap.size w2 _∧_).1).2.2.2.2.2.2.2.2.2.1.out.1);rintro e w3 ⟨X3_0,x3_0,X3_1,x3_1,rfl,g3_0,g3_1,hb⟩)|(go_at_call 31;(refine(Za2.c k A1_0 c1_0 l1_0 A1_1 c1_1 l1_1 _ _ _ ?s4_0 ?s4_1 ?s4_2 ?s4_3 HF3.out).mono ?_);(case s4_0=>exact(HK2.out _ (‹Below w2.heap.size w2 _∧_› : Below w2.heap.size w2 _∧_).1).2.2.2.2.2.2.2.2.2.2.1.out.2);(case s4_1=>exact(HK2.out _ (‹Below w2.heap.size w2 _∧_› : Below w2.heap.size w2 _∧_).1).2.2.2.2.2.2.2.2.2.2.1.out.1);(case s4_2=>exact(HK2.out _ (‹Below w2.heap.size w2 _∧_› : Below w2.heap.size w2 _∧_).1).2.2.2.2.2.2.2.2.2.2.2.out.2);(case s4_3=>exact(HK2.out _ (‹Below w2.heap.size w2 _∧_› : Below w2.heap.size w2 _∧_).1).2.2.2.2.2.2.2.2.2.2.2.out.1);rintro e w4 ⟨X4_0,x4_0,X4_1,x4_1,rfl,g4_0,g4_1,hb⟩;replace g3_0:=Za (And.intro g3_0.out.1 (Zb g3_0.out.2 hb));replace g3_1:=Za (And.intro g3_1.out.1 (Zb g3_1.out.2 hb)))|(go_at_call 38;(refine(ZbB.calls k X3_0 x3_0 u2_0_0 X3_1 x3_1 u2_0_1 u2_0_2 X4_0 x4_0 u3_0_0 X4_1 x4_1 u3_0_1 _ _ ?s5_0 ?s5_1 ?s5_2 ?s5_3 ?s5_4 ?s5_5 ?s5_6 ?s5_7 HF4.out).mono ?_);(case s5_0=>exact g3_0.out.2);(case s5_1=>exact g3_0.out.1);(case s5_2=>exact g3_1.out.2);(case s5_3=>exact g3_1.out.1);(case s5_4=>exact g4_0.out.2);(case s5_5=>exact g4_0.out.1);(case s5_6=>exact g4_1.out.2);(case s5_7=>exact g4_1.out.1);rintro e w5 ⟨rfl,hb⟩;replace g3_0:=Za (And.intro g3_0.out.1 (Zb g3_0.out.2 hb));replace g3_1:=Za (And.intro g3_1.out.1 (Zb g3_1.out.2 hb));replace g4_0:=Za (And.intro g4_0.out.1 (Zb g4_0.out.2 hb));replace g4_1:=Za (And.intro g4_1.out.1 (Zb g4_1.out.2 hb))))
 have B5:=Za (‹Below w2.heap.size w2 w5∧_› : Below w2.heap.size w2 w5∧_).1
 clear hB z0 s0_0 s0_1 s0_2 z1 s1_0 s1_1 Q0_0 Q0_1 Q1_0 Q1_1
 have HK5:=Za fun (W:World) (hA:Below w5.heap.size w5 W)=>HK2.out W (B5.out.trans (hA.mono B5.out.size))
 obtain⟨hB,z0,s0_0,s0_1,s0_2,z1,s1_0,s1_1,Q0_0,Q0_1,Q1_0,Q1_1⟩:=HK5.out _ (Below.refl _ _)
 go_wp2_with fail
 refine(Zbi.c k A0_0 c0_0 l0_0 A0_1 c0_1 l0_1 a0_2 _ _ _ _ Q0_0.out.2 Q0_0.out.1 Q0_1.out.2 Q0_1.out.1 HF2.out).mono ?_
 rintro e w6 ⟨X6_0,x6_0,X6_1,x6_1,rfl,g6_0,g6_1,hb⟩
 have B6:=Za hb;clear hB z0 s0_0 s0_1 s0_2 z1 s1_0 s1_1 Q0_0 Q0_1 Q1_0 Q1_1 hb
 have HK6:=Za fun (W:World) (hA:Below w6.heap.size w6 W)=>And.intro (HK5.out W (B6.out.trans (hA.mono B6.out.size))) (And.intro (Za (And.intro g6_0.out.1 (Zb g6_0.out.2 hA))) ((Za (And.intro g6_1.out.1 (Zb g6_1.out.2 hA)))))
 clear g6_0 g6_1
 obtain⟨⟨hB,z0,s0_0,s0_1,s0_2,z1,s1_0,s1_1,Q0_0,Q0_1,Q1_0,Q1_1⟩,g6_0,g6_1⟩:=HK6.out _ (Below.refl _ _)
 go_wp2_with fail
 refine(Za2.c k A1_0 c1_0 l1_0 A1_1 c1_1 l1_1 _ _ _ (Zb Q1_0.out.2 (Zn (Below.refl _ _) _)) Q1_0.out.1 (Zb Q1_1.out.2 (Zn (Below.refl _ _) _)) Q1_1.out.1 HF3.out).mono ?_
 rintro e w7 ⟨X7_0,x7_0,X7_1,x7_1,rfl,g7_0,g7_1,hb⟩
 have B7:=Za (Zw (Zn (Below.refl w6.heap.size w6) _) hb)
 have z2:w6.heap.size<w7.heap.size:=Nat.lt_of_lt_of_le (by simp <;> omega) hb.size
 have s2_0:w7.cell? ⟨w6.heap.size,0,none⟩=some (.slice X6_0 u2_0_0.length x6_0):=Zz hb (by go_simp)
 have s2_1:w7.cell? ⟨w6.heap.size,1,none⟩=some (.slice X6_1 u2_0_1.length x6_1):=Zz hb (by go_simp)
 have s2_2:w7.cell? ⟨w6.heap.size,2,none⟩=some (.int .i64 u2_0_2):=Zz hb (by go_simp)
 clear hB z0 s0_0 s0_1 s0_2 z1 s1_0 s1_1 Q0_0 Q0_1 Q1_0 Q1_1 g6_0 g6_1 hb
 have HK7:=Za fun (W:World) (hA:Below w7.heap.size w7 W)=>And.intro (HK6.out W (B7.out.trans (hA.mono B7.out.size))) (And.intro (Nat.lt_of_lt_of_le z2 hA.size) (And.intro (Zz hA s2_0) (And.intro (Zz hA s2_1) (And.intro (Zz hA s2_2) (And.intro (Za (And.intro g7_0.out.1 (Zb g7_0.out.2 hA))) ((Za (And.intro g7_1.out.1 (Zb g7_1.out.2 hA)))))))))
 clear z2 s2_0 s2_1 s2_2 g7_0 g7_1
 obtain⟨⟨⟨hB,z0,s0_0,s0_1,s0_2,z1,s1_0,s1_1,Q0_0,Q0_1,Q1_0,Q1_1⟩,g6_0,g6_1⟩,z2,s2_0,s2_1,s2_2,g7_0,g7_1⟩:=HK7.out _ (Below.refl _ _)
 go_wp2_with fail
 refine(ZbF.calls k X6_0 x6_0 u2_0_0 X6_1 x6_1 u2_0_1 u2_0_2 X7_0 x7_0 u3_0_0 X7_1 x7_1 u3_0_1 _ _ (Zb g6_0.out.2 (Zn (Below.refl _ _) _)) g6_0.out.1 (Zb g6_1.out.2 (Zn (Below.refl _ _) _)) g6_1.out.1 (Zb g7_0.out.2 (Zn (Below.refl _ _) _)) g7_0.out.1 (Zb g7_1.out.2 (Zn (Below.refl _ _) _)) g7_1.out.1 (TW.below HTW.out (Zn hB _)) HF5.out).mono ?_
 rintro e w8 ⟨rfl,hb⟩
 have B8:=Za (Zw (Zn (Below.refl w7.heap.size w7) _) hb)
 have z3:w7.heap.size<w8.heap.size:=Nat.lt_of_lt_of_le (by simp <;> omega) hb.size
 have s3_0:w8.cell? ⟨w7.heap.size,0,none⟩=some (.slice X7_0 u3_0_0.length x7_0):=Zz hb (by go_simp)
 have s3_1:w8.cell? ⟨w7.heap.size,1,none⟩=some (.slice X7_1 u3_0_1.length x7_1):=Zz hb (by go_simp)
 clear hB z0 s0_0 s0_1 s0_2 z1 s1_0 s1_1 Q0_0 Q0_1 Q1_0 Q1_1 g6_0 g6_1 z2 s2_0 s2_1 s2_2 g7_0 g7_1 hb
 have HK8:=Za fun (W:World) (hA:Below w8.heap.size w8 W)=>And.intro (HK7.out W (B8.out.trans (hA.mono B8.out.size))) (And.intro (Nat.lt_of_lt_of_le z3 hA.size) (And.intro (Zz hA s3_0) ((Zz hA s3_1))))
 clear z3 s3_0 s3_1
 obtain⟨⟨⟨⟨hB,z0,s0_0,s0_1,s0_2,z1,s1_0,s1_1,Q0_0,Q0_1,Q1_0,Q1_1⟩,g6_0,g6_1⟩,z2,s2_0,s2_1,s2_2,g7_0,g7_1⟩,z3,s3_0,s3_1⟩:=HK8.out _ (Below.refl _ _)
 go_wp2_with fail
 go_region_held3 (fun w'=>Below w8.heap.size w8 w'∧w'.cell? ⟨w6.heap.size,0,none⟩=some (.slice X6_0 u2_0_0.length x6_0)∧w'.cell? ⟨w6.heap.size,1,none⟩=some (.slice X6_1 u2_0_1.length x6_1)∧w'.cell? ⟨w6.heap.size,2,none⟩=some (.int .i64 u2_0_2)∧w'.cell? ⟨w.heap.size,0,none⟩=some (.slice A0_0 l0_0.length c0_0)∧w'.cell? ⟨w.heap.size,1,none⟩=some (.slice A0_1 l0_1.length c0_1)∧w'.cell? ⟨w.heap.size,2,none⟩=some (.int .i64 a0_2))
  (first|(refine⟨by repeat(first|(with_reducible first|exact Below.refl _ _|apply Zn|apply Zm|apply Zo|exact(‹Below w8.heap.size w8 _∧_› : Below w8.heap.size w8 _∧_).1)|exact Below.refl _ _),?_⟩;go_simp;done)|(have HQ_:=HK8.out _ (Zw (‹Below w8.heap.size w8 _∧_› : Below w8.heap.size w8 _∧_).1 hb);exact⟨Zw (‹Below w8.heap.size w8 _∧_› : Below w8.heap.size w8 _∧_).1 hb,HQ_.1.2.2.1,HQ_.1.2.2.2.1,HQ_.1.2.2.2.2.1,HQ_.1.1.1.2.2.1,HQ_.1.1.1.2.2.2.1,HQ_.1.1.1.2.2.2.2.1⟩))
  (first|(go_at_call 30;(refine(Zbi.c k A0_0 c0_0 l0_0 A0_1 c0_1 l0_1 a0_2 _ _ _ _ ?s9_0 ?s9_1 ?s9_2 ?s9_3 HF2.out).mono ?_);(case s9_0=>exact(HK8.out _ (‹Below w8.heap.size w8 _∧_› : Below w8.heap.size w8 _∧_).1).1.1.1.2.2.2.2.2.2.2.2.1.out.2);(case s9_1=>exact(HK8.out _ (‹Below w8.heap.size w8 _∧_› : Below w8.heap.size w8 _∧_).1).1.1.1.2.2.2.2.2.2.2.2.1.out.1);(case s9_2=>exact(HK8.out _ (‹Below w8.heap.size w8 _∧_› : Below w8.heap.size w8 _∧_).1).1.1.1.2.2.2.2.2.2.2.2.2.1.out.2);(case s9_3=>exact(HK8.out _ (‹Below w8.heap.size w8 _∧_› : Below w8.heap.size w8 _∧_).1).1.1.1.2.2.2.2.2.2.2.2.2.1.out.1);rintro e w9 ⟨X9_0,x9_0,X9_1,x9_1,rfl,g9_0,g9_1,hb⟩)|(go_at_call 13;(refine(laws_eqShow.same X6_0 x6_0 X9_0 x9_0 u2_0_0 X6_1 x6_1 X9_1 x9_1 u2_0_1 u2_0_2 _ ?s10_0 ?s10_1 ?s10_2 ?s10_3 ?s10_4 ?s10_5 ?s10_6 ?s10_7).mono ?_);(case s10_0=>exact(HK8.out _ (‹Below w8.heap.size w8 _∧_› : Below w8.heap.size w8 _∧_).1).1.1.2.1.out.2);(case s10_1=>exact(HK8.out _ (‹Below w8.heap.size w8 _∧_› : Below w8.heap.size w8 _∧_).1).1.1.2.1.out.1);(case s10_2=>exact g9_0.out.2);(case s10_3=>exact g9_0.out.1);(case s10_4=>exact(HK8.out _ (‹Below w8.heap.size w8 _∧_› : Below w8.heap.size w8 _∧_).1).1.1.2.2.out.2);(case s10_5=>exact(HK8.out _ (‹Below w8.heap.size w8 _∧_› : Below w8.heap.size w8 _∧_).1).1.1.2.2.out.1);(case s10_6=>exact g9_1.out.2);(case s10_7=>exact g9_1.out.1);rintro e w10 ⟨rfl,hb⟩;replace g9_0:=Za (And.intro g9_0.out.1 (Zb g9_0.out.2 hb));replace g9_1:=Za (And.intro g9_1.out.1 (Zb g9_1.out.2 hb))))
 have B10:=Za (‹Below w8.heap.size w8 w10∧_› : Below w8.heap.size w8 w10∧_).1
 clear hB z0 s0_0 s0_1 s0_2 z1 s1_0 s1_1 Q0_0 Q0_1 Q1_0 Q1_1 g6_0 g6_1 z2 s2_0 s2_1 s2_2 g7_0 g7_1 z3 s3_0 s3_1
 have HK10:=Za fun (W:World) (hA:Below w10.heap.size w10 W)=>HK8.out W (B10.out.trans (hA.mono B10.out.size))
 obtain⟨⟨⟨⟨hB,z0,s0_0,s0_1,s0_2,z1,s1_0,s1_1,Q0_0,Q0_1,Q1_0,Q1_1⟩,g6_0,g6_1⟩,z2,s2_0,s2_1,s2_2,g7_0,g7_1⟩,z3,s3_0,s3_1⟩:=HK10.out _ (Below.refl _ _)
 go_wp2_with fail
 go_region_held3 (fun w'=>Below w10.heap.size w10 w'∧w'.cell? ⟨w7.heap.size,0,none⟩=some (.slice X7_0 u3_0_0.length x7_0)∧w'.cell? ⟨w7.heap.size,1,none⟩=some (.slice X7_1 u3_0_1.length x7_1)∧w'.cell? ⟨w.heap.size+1,0,none⟩=some (.slice A1_0 l1_0.length c1_0)∧w'.cell? ⟨w.heap.size+1,1,none⟩=some (.slice A1_1 l1_1.length c1_1))
  (first|(refine⟨by repeat(first|(with_reducible first|exact Below.refl _ _|apply Zn|apply Zm|apply Zo|exact(‹Below w10.heap.size w10 _∧_› : Below w10.heap.size w10 _∧_).1)|exact Below.refl _ _),?_⟩;go_simp;done)|(have HQ_:=HK10.out _ (Zw (‹Below w10.heap.size w10 _∧_› : Below w10.heap.size w10 _∧_).1 hb);exact⟨Zw (‹Below w10.heap.size w10 _∧_› : Below w10.heap.size w10 _∧_).1 hb,HQ_.2.2.1,HQ_.2.2.2,HQ_.1.1.1.2.2.2.2.2.2.1,HQ_.1.1.1.2.2.2.2.2.2.2.1⟩))
  (first|(go_at_call 31;(refine(Za2.c k A1_0 c1_0 l1_0 A1_1 c1_1 l1_1 _ _ _ ?s11_0 ?s11_1 ?s11_2 ?s11_3 HF3.out).mono ?_);(case s11_0=>exact(HK10.out _ (‹Below w10.heap.size w10 _∧_› : Below w10.heap.size w10 _∧_).1).1.1.1.2.2.2.2.2.2.2.2.2.2.1.out.2);(case s11_1=>exact(HK10.out _ (‹Below w10.heap.size w10 _∧_› : Below w10.heap.size w10 _∧_).1).1.1.1.2.2.2.2.2.2.2.2.2.2.1.out.1);(case s11_2=>exact(HK10.out _ (‹Below w10.heap.size w10 _∧_› : Below w10.heap.size w10 _∧_).1).1.1.1.2.2.2.2.2.2.2.2.2.2.2.out.2);(case s11_3=>exact(HK10.out _ (‹Below w10.heap.size w10 _∧_› : Below w10.heap.size w10 _∧_).1).1.1.1.2.2.2.2.2.2.2.2.2.2.2.out.1);rintro e w11 ⟨X11_0,x11_0,X11_1,x11_1,rfl,g11_0,g11_1,hb⟩)|(go_at_call 34;(refine(Zf8.same X7_0 x7_0 X11_0 x11_0 u3_0_0 X7_1 x7_1 X11_1 x11_1 u3_0_1 _ ?s12_0 ?s12_1 ?s12_2 ?s12_3 ?s12_4 ?s12_5 ?s12_6 ?s12_7).mono ?_);(case s12_0=>exact(HK10.out _ (‹Below w10.heap.size w10 _∧_› : Below w10.heap.size w10 _∧_).1).1.2.2.2.2.2.1.out.2);(case s12_1=>exact(HK10.out _ (‹Below w10.heap.size w10 _∧_› : Below w10.heap.size w10 _∧_).1).1.2.2.2.2.2.1.out.1);(case s12_2=>exact g11_0.out.2);(case s12_3=>exact g11_0.out.1);(case s12_4=>exact(HK10.out _ (‹Below w10.heap.size w10 _∧_› : Below w10.heap.size w10 _∧_).1).1.2.2.2.2.2.2.out.2);(case s12_5=>exact(HK10.out _ (‹Below w10.heap.size w10 _∧_› : Below w10.heap.size w10 _∧_).1).1.2.2.2.2.2.2.out.1);(case s12_6=>exact g11_1.out.2);(case s12_7=>exact g11_1.out.1);rintro e w12 ⟨rfl,hb⟩;replace g11_0:=Za (And.intro g11_0.out.1 (Zb g11_0.out.2 hb));replace g11_1:=Za (And.intro g11_1.out.1 (Zb g11_1.out.2 hb))))
 have B12:=Za (‹Below w10.heap.size w10 w12∧_› : Below w10.heap.size w10 w12∧_).1
 clear hB z0 s0_0 s0_1 s0_2 z1 s1_0 s1_1 Q0_0 Q0_1 Q1_0 Q1_1 g6_0 g6_1 z2 s2_0 s2_1 s2_2 g7_0 g7_1 z3 s3_0 s3_1
 have HK12:=Za fun (W:World) (hA:Below w12.heap.size w12 W)=>HK10.out W (B12.out.trans (hA.mono B12.out.size))
 obtain⟨⟨⟨⟨hB,z0,s0_0,s0_1,s0_2,z1,s1_0,s1_1,Q0_0,Q0_1,Q1_0,Q1_1⟩,g6_0,g6_1⟩,z2,s2_0,s2_1,s2_2,g7_0,g7_1⟩,z3,s3_0,s3_1⟩:=HK12.out _ (Below.refl _ _)
 go_wp2
 go_ret
 exact⟨rfl,(HK12.out _ (Below.refl _ _)).1.1.1.1⟩
end Go.Proofs.YtoeimopgoaffcaaGreatDoor.Pr
namespace Go.Proofs.YtoeimopgoaffcaaGreatDoor.Pr
open Go.RowKit Go.Proofs.YtoeimopgoaffcaaGreatDoorW.PrintWords Go.Proofs.YtoeimopgoaffcaaGreatDoorW.PrintLast Go.Proofs.YtoeimopgoaffcaaGreatDoorW.PrintMore
attribute [local go_sem] ZW ZU ZZ ZY ZP ZO ZV ZT
set_option linter.unusedVariables false
set_option linter.unusedSimpArgs false
def laws_FnExactCanMaster.Pure:Prop:=∀(y0:S47) (y1:S49),okS47 y0→okS49 y1→∃k,laws_FnExactCanMaster.f k y0.f0 y0.f1 y0.f2 y1.f0 y1.f1=some true
end Go.Proofs.YtoeimopgoaffcaaGreatDoor.Pr
set_option linter.unusedSimpArgs false
namespace Go.Proofs.YtoeimopgoaffcaaGreatDoor.Pure
open Go.RowKit Go.Proofs.YtoeimopgoaffcaaGreatDoor.Pr Go.Proofs.YtoeimopgoaffcaaGreatDoor.Ni Go.Proofs.YtoeimopgoaffcaaGreatDoorW.PrintWords Go.Proofs.YtoeimopgoaffcaaGreatDoorW.PrintMore
theorem FnExactCanMaster:laws_FnExactCanMaster.Pure:=by
 rintro⟨ns,ts,z⟩ ⟨ln,vs⟩ ⟨⟨hn,hb⟩,⟨ht,_⟩,_⟩ ⟨⟨hln,_⟩,⟨hvs,_⟩⟩
 simp only[maxLen] at hn ht hln hvs
 refine⟨2 ^ 70,?_⟩
 unfold laws_FnExactCanMaster.f
 obtain⟨r,hr,h⟩:=szShow_f ns ts z hn (fun n hn=>by have:=hb n hn;exact⟨by simpa [maxLen] using this.1,by simpa [maxLen] using this.2.1.1⟩) ht (2 ^ 70) (by omega) 1048576 (by omega) (by omega)
 rw[hr,Zi]
 rcases h with h|⟨h0,h1,h⟩
 ·rw[if_pos h]
 rw[if_neg (by omega)]
 have hc:=h.cv
 obtain⟨r2,hr2,h2⟩:=szChoice_f ln vs (by omega) (by omega) r (by omega) (by omega)
 rw[hr2,Zi]
 rcases h2 with h2|⟨_,_,h6,h7⟩
 ·rw[if_pos h2]
 rw[if_neg (by omega)]
 simp only[toShow_f ns ts z h (2 ^ 70) (by omega),toChoice_f ln vs (by omega) (by omega) (2 ^ 70) (by omega),ZeU (ts:=ts.map cvT) (z:=z) (ln:=ln) (vs:=vs) hc h7 (2 ^ 70) (by omega),ZeV (ts:=ts.map cvT) (z:=z) (ln:=ln) (vs:=vs) hc h7 (2 ^ 70) (by omega),Zi,if_true]
end Go.Proofs.YtoeimopgoaffcaaGreatDoor.Pure
