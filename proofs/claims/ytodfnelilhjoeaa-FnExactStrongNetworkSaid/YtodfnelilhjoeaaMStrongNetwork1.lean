/- The texts of one claim, put together by a program of this session. -/
import Derived.Deep.RegionHeld3
import Derived.Test.YtodfnelilhjoeaaBSnc1x1
import Derived.Test.YtodfnelilhjoeaaBSnc1x11
import Derived.Test.YtodfnelilhjoeaaBSnc1x12
import Derived.Test.YtodfnelilhjoeaaBSnc1x2
import Derived.Test.YtodfnelilhjoeaaBSnc1x7
namespace Go.Proofs.Ytodfnelilhjoeaa.Pr
open Go.RowKit Go.Proofs.YtodfnelilhjoeaaW.PrintWords Go.Proofs.YtodfnelilhjoeaaW.PrintLast Go.Proofs.YtodfnelilhjoeaaW.PrintMore
attribute [local go_sem] Zac Zaa Zam Zal Z5 Z4 Zab Z9
set_option linter.unusedVariables false
set_option linter.unusedSimpArgs false
open Go.Proofs.Ytodfnelilhjoeaa.Ni
def laws_FnExactStrongNetwork.f (k:Nat) (l0_0:List (S127)) (l0_1:List (S130)) (a0_2:Int):Option (Bool):=((ZbL.f k l0_0 l0_1 a0_2 1048576).bind fun u0_0=>(if u0_0<0 then some true else((ZaQ.f k l0_0 l0_1 a0_2).bind fun b1=>(if ZcY b1.1 b1.2.1=true then((ZC.f k b1.1 b1.2.1 b1.2.2).bind fun b2=>((ZF.f k b1.1 b1.2.1 b1.2.2).bind fun b3=>(if b3.2.2=b2.2.2 then(if b3.1=b2.1 then(if b3.2.1=b2.2.1 then(if b3.2.1.length≤1048576 then(some true) else some false) else some false) else some false) else some false))) else some false))))
set_option maxHeartbeats 8000000 in
set_option maxRecDepth 100000 in
theorem laws_FnExactStrongNetwork.calls (k:Nat) (A0_0:Option Addr) (c0_0:Nat) (l0_0:List (S127)) (A0_1:Option Addr) (c0_1:Nat) (l0_1:List (S130)) (a0_2:Int) (w:World) (hr0_0:Kd.C k127 w A0_0 l0_0.length l0_0) (hc0_0:l0_0.length≤c0_0) (hr0_1:Kd.C k130 w A0_1 l0_1.length l0_1) (hc0_1:l0_1.length≤c0_1) (h:laws_FnExactStrongNetwork.f k l0_0 l0_1 a0_2=some true) :
  Calls Try.prog 14 #[.agg #[.slice A0_0 l0_0.length c0_0,.slice A0_1 l0_1.length c0_1,.int .i64 a0_2]] w fun e w'=>e=.returned (.bool true)∧Below w.heap.size w w':=by
 unfold laws_FnExactStrongNetwork.f at h
 have hv58:=Try.underlying58
 have hv35:=Try.underlying35
 replace h:=Option.bind_eq_some_iff.1 h
 obtain⟨u0_0,HF0,h⟩:=h
 (try dsimp only at h)
 replace HF0:=Za HF0
 by_cases hcn0:u0_0<0
 case pos=>
  have hq0:decide (u0_0<0)=true:=Ze hcn0
  clear h hcn0
  have hu25:=Try.underlying25
  have HB0:=Za (Zn (Below.refl w.heap.size w) (.cells #[.slice A0_0 l0_0.length c0_0,.slice A0_1 l0_1.length c0_1,.int .i64 a0_2] 25))
  have Q0_0:=Za (And.intro hc0_0 (Zb hr0_0 HB0.out))
  have Q0_1:=Za (And.intro hc0_1 (Zb hr0_1 HB0.out))
  clear hr0_0 hc0_0 hr0_1 hc0_1
  go_enter Try.func14,Try.ntmps14
  go_wp2_with fail
  refine(ZbL.calls k A0_0 c0_0 l0_0 A0_1 c0_1 l0_1 a0_2 1048576 _ _ Q0_0.out.2 Q0_0.out.1 Q0_1.out.2 Q0_1.out.1 HF0.out).mono ?_
  rintro e w1 ⟨rfl,hb⟩
  have HB1:=Za (HB0.out.trans (hb.mono HB0.out.size))
  have z0:w.heap.size<w1.heap.size:=Nat.lt_of_lt_of_le (by simp <;> omega) hb.size
  have s0_0:w1.cell? ⟨w.heap.size,0,none⟩=some (.slice A0_0 l0_0.length c0_0):=ZJ hb (by go_simp)
  have s0_1:w1.cell? ⟨w.heap.size,1,none⟩=some (.slice A0_1 l0_1.length c0_1):=ZJ hb (by go_simp)
  have s0_2:w1.cell? ⟨w.heap.size,2,none⟩=some (.int .i64 a0_2):=ZJ hb (by go_simp)
  replace Q0_0:=Za (And.intro Q0_0.out.1 (Zb Q0_0.out.2 hb))
  replace Q0_1:=Za (And.intro Q0_1.out.1 (Zb Q0_1.out.2 hb))
  have HK1:=Za fun (W:World) (hA:Below w1.heap.size w1 W)=>And.intro (HB1.out.trans (hA.mono HB1.out.size)) (And.intro (Nat.lt_of_lt_of_le z0 hA.size) (And.intro (ZJ hA s0_0) (And.intro (ZJ hA s0_1) (And.intro (ZJ hA s0_2) (And.intro (Za (And.intro Q0_0.out.1 (Zb Q0_0.out.2 hA))) ((Za (And.intro Q0_1.out.1 (Zb Q0_1.out.2 hA)))))))))
  clear z0 s0_0 s0_1 s0_2 Q0_0 Q0_1 hb
  obtain⟨hB,z0,s0_0,s0_1,s0_2,Q0_0,Q0_1⟩:=HK1.out _ (Below.refl _ _)
  go_wp2
  go_ret
  exact⟨rfl,(HK1.out _ (Below.refl _ _)).1⟩
 rw[if_neg hcn0] at h
 have hq0:decide (u0_0<0)=false:=Zf hcn0
 clear hcn0
 replace h:=Option.bind_eq_some_iff.1 h
 obtain⟨⟨u1_0_0,u1_0_1,u1_0_2⟩,HF1,h⟩:=h
 (try dsimp only at h)
 replace HF1:=Za HF1
 by_cases ht44:ZcY u1_0_0 u1_0_1=true
 case neg=>rw[if_neg ht44] at h;exact absurd h (by simp)
 rw[if_pos ht44] at h
 have SM_u1_0_0:=Za (smallB_iff ht44)
 clear ht44
 replace h:=Option.bind_eq_some_iff.1 h
 obtain⟨⟨u2_0_0,u2_0_1,u2_1⟩,HF2,h⟩:=h
 (try dsimp only at h)
 replace HF2:=Za HF2
 replace h:=Option.bind_eq_some_iff.1 h
 obtain⟨⟨u3_0_0,u3_0_1,u3_1⟩,HF3,h⟩:=h
 (try dsimp only at h)
 replace HF3:=Za HF3
 by_cases ht57:u3_1=u2_1
 case neg=>rw[if_neg ht57] at h;exact absurd h (by simp)
 rw[if_pos ht57] at h
 subst ht57
 by_cases ht61:u3_0_0=u2_0_0
 case neg=>rw[if_neg ht61] at h;exact absurd h (by simp)
 rw[if_pos ht61] at h
 subst ht61
 by_cases ht65:u3_0_1=u2_0_1
 case neg=>rw[if_neg ht65] at h;exact absurd h (by simp)
 rw[if_pos ht65] at h
 subst ht65
 by_cases ht69:u3_0_1.length≤1048576
 case neg=>rw[if_neg ht69] at h;exact absurd h (by simp)
 rw[if_pos ht69] at h
 have SM_u3_0_1:=Za (ht69)
 clear ht69 h
 have hu25:=Try.underlying25
 have HB0:=Za (Zn (Below.refl w.heap.size w) (.cells #[.slice A0_0 l0_0.length c0_0,.slice A0_1 l0_1.length c0_1,.int .i64 a0_2] 25))
 have Q0_0:=Za (And.intro hc0_0 (Zb hr0_0 HB0.out))
 have Q0_1:=Za (And.intro hc0_1 (Zb hr0_1 HB0.out))
 clear hr0_0 hc0_0 hr0_1 hc0_1
 go_enter Try.func14,Try.ntmps14
 go_wp2_with fail
 refine(ZbL.calls k A0_0 c0_0 l0_0 A0_1 c0_1 l0_1 a0_2 1048576 _ _ Q0_0.out.2 Q0_0.out.1 Q0_1.out.2 Q0_1.out.1 HF0.out).mono ?_
 rintro e w1 ⟨rfl,hb⟩
 have HB1:=Za (HB0.out.trans (hb.mono HB0.out.size))
 have z0:w.heap.size<w1.heap.size:=Nat.lt_of_lt_of_le (by simp <;> omega) hb.size
 have s0_0:w1.cell? ⟨w.heap.size,0,none⟩=some (.slice A0_0 l0_0.length c0_0):=ZJ hb (by go_simp)
 have s0_1:w1.cell? ⟨w.heap.size,1,none⟩=some (.slice A0_1 l0_1.length c0_1):=ZJ hb (by go_simp)
 have s0_2:w1.cell? ⟨w.heap.size,2,none⟩=some (.int .i64 a0_2):=ZJ hb (by go_simp)
 replace Q0_0:=Za (And.intro Q0_0.out.1 (Zb Q0_0.out.2 hb))
 replace Q0_1:=Za (And.intro Q0_1.out.1 (Zb Q0_1.out.2 hb))
 have HK1:=Za fun (W:World) (hA:Below w1.heap.size w1 W)=>And.intro (HB1.out.trans (hA.mono HB1.out.size)) (And.intro (Nat.lt_of_lt_of_le z0 hA.size) (And.intro (ZJ hA s0_0) (And.intro (ZJ hA s0_1) (And.intro (ZJ hA s0_2) (And.intro (Za (And.intro Q0_0.out.1 (Zb Q0_0.out.2 hA))) ((Za (And.intro Q0_1.out.1 (Zb Q0_1.out.2 hA)))))))))
 clear z0 s0_0 s0_1 s0_2 Q0_0 Q0_1 hb
 obtain⟨hB,z0,s0_0,s0_1,s0_2,Q0_0,Q0_1⟩:=HK1.out _ (Below.refl _ _)
 go_wp2_with fail
 refine(ZaQ.c k A0_0 c0_0 l0_0 A0_1 c0_1 l0_1 a0_2 _ _ _ _ Q0_0.out.2 Q0_0.out.1 Q0_1.out.2 Q0_1.out.1 HF1.out).mono ?_
 rintro e w2 ⟨X2_0,x2_0,X2_1,x2_1,rfl,g2_0,g2_1,hb⟩
 have B2:=Za hb;clear hB z0 s0_0 s0_1 s0_2 Q0_0 Q0_1 hb
 have HK2:=Za fun (W:World) (hA:Below w2.heap.size w2 W)=>And.intro (HK1.out W (B2.out.trans (hA.mono B2.out.size))) (And.intro (Za (And.intro g2_0.out.1 (Zb g2_0.out.2 hA))) ((Za (And.intro g2_1.out.1 (Zb g2_1.out.2 hA)))))
 clear g2_0 g2_1
 obtain⟨⟨hB,z0,s0_0,s0_1,s0_2,Q0_0,Q0_1⟩,g2_0,g2_1⟩:=HK2.out _ (Below.refl _ _)
 go_wp2_with fail
 refine(ZC.c k X2_0 x2_0 u1_0_0 X2_1 x2_1 u1_0_1 u1_0_2 _ _ _ _ g2_0.out.2 g2_0.out.1 g2_1.out.2 g2_1.out.1 HF2.out).mono ?_
 rintro e w3 ⟨X3_0,x3_0,rfl,g3_0,hb⟩
 have B3:=Za hb;clear hB z0 s0_0 s0_1 s0_2 Q0_0 Q0_1 g2_0 g2_1 hb
 have HK3:=Za fun (W:World) (hA:Below w3.heap.size w3 W)=>And.intro (HK2.out W (B3.out.trans (hA.mono B3.out.size))) ((Za (And.intro g3_0.out.1 (Zb g3_0.out.2 hA))))
 clear g3_0
 obtain⟨⟨⟨hB,z0,s0_0,s0_1,s0_2,Q0_0,Q0_1⟩,g2_0,g2_1⟩,g3_0⟩:=HK3.out _ (Below.refl _ _)
 go_wp2_with fail
 have B4:=Za (Zn (Below.refl w3.heap.size w3) (.cells #[.int .i64 u3_0_0,.slice X3_0 u3_0_1.length x3_0] 58))
 have z1:w3.heap.size<(w3.alloc (.cells #[.int .i64 u3_0_0,.slice X3_0 u3_0_1.length x3_0] 58)).heap.size:=by simp
 have s1_0:(w3.alloc (.cells #[.int .i64 u3_0_0,.slice X3_0 u3_0_1.length x3_0] 58)).cell? ⟨w3.heap.size,0,none⟩=some (.int .i64 u3_0_0):=by go_simp
 have s1_1:(w3.alloc (.cells #[.int .i64 u3_0_0,.slice X3_0 u3_0_1.length x3_0] 58)).cell? ⟨w3.heap.size,1,none⟩=some (.slice X3_0 u3_0_1.length x3_0):=by go_simp
 generalize w3.alloc (.cells #[.int .i64 u3_0_0,.slice X3_0 u3_0_1.length x3_0] 58)=w4 at B4 z1 s1_0 s1_1 ⊢
 clear hB z0 s0_0 s0_1 s0_2 Q0_0 Q0_1 g2_0 g2_1 g3_0
 have HK4:=Za fun (W:World) (hA:Below w4.heap.size w4 W)=>And.intro (HK3.out W (B4.out.trans (hA.mono B4.out.size))) (And.intro (Nat.lt_of_lt_of_le z1 hA.size) (And.intro (ZJ hA s1_0) ((ZJ hA s1_1))))
 clear z1 s1_0 s1_1
 obtain⟨⟨⟨⟨hB,z0,s0_0,s0_1,s0_2,Q0_0,Q0_1⟩,g2_0,g2_1⟩,g3_0⟩,z1,s1_0,s1_1⟩:=HK4.out _ (Below.refl _ _)
 refine(ZaQ.o k A0_0 c0_0 l0_0 A0_1 c0_1 l0_1 a0_2 _ _ _ _ Q0_0.out.2 Q0_0.out.1 Q0_1.out.2 Q0_1.out.1 HF1.out).mono ?_
 rintro e w5 ⟨X5_0,x5_0,X5_1,x5_1,rfl,g5_0,g5_1,ow5,hb⟩
 have B5:=Za hb
 replace ow5:=Za (And.intro (Kd.S_lower (Kd.S_mono ow5.out.1 (fun k hk=>And.intro hk.1 (And.intro (Nat.le_trans (Nat.le_refl _) hk.2.1) hk.2.2))) (Nat.le_refl _)) (Kd.R_lower (Kd.R_mono ow5.out.2 (fun k hk=>And.intro hk.1 (And.intro (Nat.le_trans (Nat.le_refl _) hk.2.1) hk.2.2))) (Nat.le_refl _)))
 have sz5:=Nat.le_refl w5.heap.size
 have bE:=B5.out
 clear hB z0 s0_0 s0_1 s0_2 Q0_0 Q0_1 g2_0 g2_1 g3_0 z1 s1_0 s1_1 hb
 have HK5:=Za fun (W:World) (hA:Below w5.heap.size w5 W)=>And.intro (HK4.out W (B5.out.trans (hA.mono B5.out.size))) (And.intro (Za (And.intro (Kd.S_below ow5.out.1 hA) (Kd.R_below ow5.out.2 hA))) (And.intro (Nat.le_trans sz5 hA.size) (And.intro (bE.trans (hA.mono bE.size)) (And.intro (Za (And.intro g5_0.out.1 (Zb g5_0.out.2 hA))) ((Za (And.intro g5_1.out.1 (Zb g5_1.out.2 hA))))))))
 clear ow5 sz5 bE g5_0 g5_1
 obtain⟨⟨⟨⟨⟨hB,z0,s0_0,s0_1,s0_2,Q0_0,Q0_1⟩,g2_0,g2_1⟩,g3_0⟩,z1,s1_0,s1_1⟩,ow5,sz5,bE,g5_0,g5_1⟩:=HK5.out _ (Below.refl _ _)
 go_wp2_with fail
 refine(ZF.o k X5_0 x5_0 u1_0_0 X5_1 x5_1 u1_0_1 u1_0_2 _ _ _ _ (Zb g5_0.out.2 (Zn (Below.refl _ _) _)) g5_0.out.1 (Zb g5_1.out.2 (Zn (Below.refl _ _) _)) g5_1.out.1 HF3.out).mono ?_
 rintro e w6 ⟨X6_0,x6_0,rfl,g6_0,ow6,hb⟩
 have B6:=Za (Zw (Zn (Below.refl w5.heap.size w5) _) hb)
 replace ow6:=Za (Kd.R_lower (Kd.R_mono ow6.out (fun k hk=>And.intro hk.1 (And.intro (Nat.le_trans (Zn (Below.refl w5.heap.size w5) _).size hk.2.1) hk.2.2))) (Nat.le_trans bE.size (Zn (Below.refl w5.heap.size w5) _).size))
 have sz6:=Nat.le_refl w6.heap.size
 have z2:w5.heap.size<w6.heap.size:=Nat.lt_of_lt_of_le (by simp <;> omega) hb.size
 have s2_0:w6.cell? ⟨w5.heap.size,0,none⟩=some (.slice X5_0 u1_0_0.length x5_0):=ZJ hb (by go_simp)
 have s2_1:w6.cell? ⟨w5.heap.size,1,none⟩=some (.slice X5_1 u1_0_1.length x5_1):=ZJ hb (by go_simp)
 have s2_2:w6.cell? ⟨w5.heap.size,2,none⟩=some (.int .i64 u1_0_2):=ZJ hb (by go_simp)
 clear hB z0 s0_0 s0_1 s0_2 Q0_0 Q0_1 g2_0 g2_1 g3_0 z1 s1_0 s1_1 ow5 sz5 bE g5_0 g5_1 hb
 have HK6:=Za fun (W:World) (hA:Below w6.heap.size w6 W)=>And.intro (HK5.out W (B6.out.trans (hA.mono B6.out.size))) (And.intro (Za (Kd.R_below ow6.out hA)) (And.intro (Nat.le_trans sz6 hA.size) (And.intro (Nat.lt_of_lt_of_le z2 hA.size) (And.intro (ZJ hA s2_0) (And.intro (ZJ hA s2_1) (And.intro (ZJ hA s2_2) ((Za (And.intro g6_0.out.1 (Zb g6_0.out.2 hA))))))))))
 clear ow6 sz6 z2 s2_0 s2_1 s2_2 g6_0
 obtain⟨⟨⟨⟨⟨⟨hB,z0,s0_0,s0_1,s0_2,Q0_0,Q0_1⟩,g2_0,g2_1⟩,g3_0⟩,z1,s1_0,s1_1⟩,ow5,sz5,bE,g5_0,g5_1⟩,ow6,sz6,z2,s2_0,s2_1,s2_2,g6_0⟩:=HK6.out _ (Below.refl _ _)
 have le5_6:=sz5
 go_wp2_with fail
 refine(Zcx.same u3_0_0 X6_0 x6_0 X3_0 x3_0 u3_0_1 _ (Zb g6_0.out.2 (Zn (Below.refl _ _) _)) g6_0.out.1 (Zb g3_0.out.2 (Zn (Below.refl _ _) _)) g3_0.out.1).mono ?_
 rintro e w7 ⟨rfl,hb⟩
 have B7:=Za (Zw (Zn (Below.refl w6.heap.size w6) _) hb)
 have z3:w6.heap.size<w7.heap.size:=Nat.lt_of_lt_of_le (by simp <;> omega) hb.size
 have s3_0:w7.cell? ⟨w6.heap.size,0,none⟩=some (.int .i64 u3_0_0):=ZJ hb (by go_simp)
 have s3_1:w7.cell? ⟨w6.heap.size,1,none⟩=some (.slice X6_0 u3_0_1.length x6_0):=ZJ hb (by go_simp)
 clear hB z0 s0_0 s0_1 s0_2 Q0_0 Q0_1 g2_0 g2_1 g3_0 z1 s1_0 s1_1 ow5 sz5 bE g5_0 g5_1 ow6 sz6 z2 s2_0 s2_1 s2_2 g6_0 hb
 have HK7:=Za fun (W:World) (hA:Below w7.heap.size w7 W)=>And.intro (HK6.out W (B7.out.trans (hA.mono B7.out.size))) (And.intro (Nat.lt_of_lt_of_le z3 hA.size) (And.intro (ZJ hA s3_0) ((ZJ hA s3_1))))
 clear z3 s3_0 s3_1
 obtain⟨⟨⟨⟨⟨⟨⟨hB,z0,s0_0,s0_1,s0_2,Q0_0,Q0_1⟩,g2_0,g2_1⟩,g3_0⟩,z1,s1_0,s1_1⟩,ow5,sz5,bE,g5_0,g5_1⟩,ow6,sz6,z2,s2_0,s2_1,s2_2,g6_0⟩,z3,s3_0,s3_1⟩:=HK7.out _ (Below.refl _ _)
 have le5_7:=sz5
 have le6_7:=sz6
 go_wp2_with fail
 go_region_held3 (fun w'=>Below w7.heap.size w7 w'∧w'.cell? ⟨w5.heap.size,0,none⟩=some (.slice X5_0 u1_0_0.length x5_0)∧w'.cell? ⟨w5.heap.size,1,none⟩=some (.slice X5_1 u1_0_1.length x5_1)∧w'.cell? ⟨w5.heap.size,2,none⟩=some (.int .i64 u1_0_2)∧w'.cell? ⟨w.heap.size,0,none⟩=some (.slice A0_0 l0_0.length c0_0)∧w'.cell? ⟨w.heap.size,1,none⟩=some (.slice A0_1 l0_1.length c0_1)∧w'.cell? ⟨w.heap.size,2,none⟩=some (.int .i64 a0_2))
  (first|(refine⟨by repeat(first|(with_reducible first|exact Below.refl _ _|apply Zn|apply Zm|apply Zt|exact(‹Below w7.heap.size w7 _∧_› : Below w7.heap.size w7 _∧_).1)|exact Below.refl _ _),?_⟩;go_simp;done)|(have HQ_:=HK7.out _ (Zw (‹Below w7.heap.size w7 _∧_› : Below w7.heap.size w7 _∧_).1 hb);exact⟨Zw (‹Below w7.heap.size w7 _∧_› : Below w7.heap.size w7 _∧_).1 hb,HQ_.1.2.2.2.2.1,HQ_.1.2.2.2.2.2.1,HQ_.1.2.2.2.2.2.2.1,HQ_.1.1.1.1.1.1.2.2.1,HQ_.1.1.1.1.1.1.2.2.2.1,HQ_.1.1.1.1.1.1.2.2.2.2.1⟩))
  (first|(go_at_call 18;(refine(ZaQ.c k A0_0 c0_0 l0_0 A0_1 c0_1 l0_1 a0_2 _ _ _ _ ?s8_0 ?s8_1 ?s8_2 ?s8_3 HF1.out).mono ?_);(case s8_0=>exact(HK7.out _ (‹Below w7.heap.size w7 _∧_› : Below w7.heap.size w7 _∧_).1).1.1.1.1.1.1.2.2.2.2.2.1.out.2);(case s8_1=>exact(HK7.out _ (‹Below w7.heap.size w7 _∧_› : Below w7.heap.size w7 _∧_).1).1.1.1.1.1.1.2.2.2.2.2.1.out.1);(case s8_2=>exact(HK7.out _ (‹Below w7.heap.size w7 _∧_› : Below w7.heap.size w7 _∧_).1).1.1.1.1.1.1.2.2.2.2.2.2.out.2);(case s8_3=>exact(HK7.out _ (‹Below w7.heap.size w7 _∧_› : Below w7.heap.size w7 _∧_).1).1.1.1.1.1.1.2.2.2.2.2.2.out.1);rintro e w8 ⟨X8_0,x8_0,X8_1,x8_1,rfl,g8_0,g8_1,hb⟩)|(go_at_call 21;(refine(laws_eqShow.same X5_0 x5_0 X8_0 x8_0 u1_0_0 X5_1 x5_1 X8_1 x8_1 u1_0_1 u1_0_2 _ ?s9_0 ?s9_1 ?s9_2 ?s9_3 ?s9_4 ?s9_5 ?s9_6 ?s9_7).mono ?_);(case s9_0=>exact(HK7.out _ (‹Below w7.heap.size w7 _∧_› : Below w7.heap.size w7 _∧_).1).1.1.2.2.2.2.1.out.2);(case s9_1=>exact(HK7.out _ (‹Below w7.heap.size w7 _∧_› : Below w7.heap.size w7 _∧_).1).1.1.2.2.2.2.1.out.1);(case s9_2=>exact g8_0.out.2);(case s9_3=>exact g8_0.out.1);(case s9_4=>exact(HK7.out _ (‹Below w7.heap.size w7 _∧_› : Below w7.heap.size w7 _∧_).1).1.1.2.2.2.2.2.out.2);(case s9_5=>exact(HK7.out _ (‹Below w7.heap.size w7 _∧_› : Below w7.heap.size w7 _∧_).1).1.1.2.2.2.2.2.out.1);(case s9_6=>exact g8_1.out.2);(case s9_7=>exact g8_1.out.1);rintro e w9 ⟨rfl,hb⟩;replace g8_0:=Za (And.intro g8_0.out.1 (Zb g8_0.out.2 hb));replace g8_1:=Za (And.intro g8_1.out.1 (Zb g8_1.out.2 hb))))
 have B9:=Za (‹Below w7.heap.size w7 w9∧_› : Below w7.heap.size w7 w9∧_).1
 clear hB z0 s0_0 s0_1 s0_2 Q0_0 Q0_1 g2_0 g2_1 g3_0 z1 s1_0 s1_1 ow5 sz5 bE g5_0 g5_1 ow6 sz6 z2 s2_0 s2_1 s2_2 g6_0 z3 s3_0 s3_1
 have HK9:=Za fun (W:World) (hA:Below w9.heap.size w9 W)=>HK7.out W (B9.out.trans (hA.mono B9.out.size))
 obtain⟨⟨⟨⟨⟨⟨⟨hB,z0,s0_0,s0_1,s0_2,Q0_0,Q0_1⟩,g2_0,g2_1⟩,g3_0⟩,z1,s1_0,s1_1⟩,ow5,sz5,bE,g5_0,g5_1⟩,ow6,sz6,z2,s2_0,s2_1,s2_2,g6_0⟩,z3,s3_0,s3_1⟩:=HK9.out _ (Below.refl _ _)
 have le5_9:=sz5
 have le6_9:=sz6
 go_wp2_with fail
 refine(markShow_k w4 _ _ _ _ _ _ _ bE (Kd.S_mono ow5.out.1 (fun k hk=>hk.2.2)) (Kd.R_mono ow5.out.2 (fun k hk=>hk.2.2)) SM_u1_0_0.out.1 SM_u1_0_0.out.2.1 SM_u1_0_0.out.2.2 _ (by omega) (by omega)).mono ?_
 rintro e w10 ⟨kx10,rfl,HR10,hb,hk⟩
 have hqkx10:=(Zf (by have:=HR10.out;omega):decide (kx10<0)=false)
 have B10:=Za hb
 replace sz5:=Nat.le_trans sz5 hk.1
 replace bE:=hb
 replace ow6:=Za (Kd.R_kept ow6.out hk (fun k h2 h3=>absurd (Nat.lt_of_lt_of_le h3 (Nat.le_trans (Nat.le_refl _) h2.2.1)) (Nat.lt_irrefl _)))
 replace sz6:=Nat.le_trans sz6 hk.1
 replace z2:=Nat.lt_of_lt_of_le z2 hk.1
 replace s2_0:=ZbV s2_0 hk (fun h3=>absurd (Nat.lt_of_lt_of_le h3 (Nat.le_refl _)) (Nat.lt_irrefl _))
 replace s2_1:=ZbV s2_1 hk (fun h3=>absurd (Nat.lt_of_lt_of_le h3 (Nat.le_refl _)) (Nat.lt_irrefl _))
 replace s2_2:=ZbV s2_2 hk (fun h3=>absurd (Nat.lt_of_lt_of_le h3 (Nat.le_refl _)) (Nat.lt_irrefl _))
 replace g6_0:=Za (And.intro g6_0.out.1 (Kd.R_reads' ow6.out).2.2)
 replace z3:=Nat.lt_of_lt_of_le z3 hk.1
 replace s3_0:=ZbV s3_0 hk (fun h3=>absurd (Nat.lt_of_lt_of_le h3 le5_6) (Nat.lt_irrefl _))
 replace s3_1:=ZbV s3_1 hk (fun h3=>absurd (Nat.lt_of_lt_of_le h3 le5_6) (Nat.lt_irrefl _))
 clear hB z0 s0_0 s0_1 s0_2 Q0_0 Q0_1 g2_0 g2_1 g3_0 z1 s1_0 s1_1 ow5 g5_0 g5_1 hk
 have HK10:=Za fun (W:World) (hA:Below w10.heap.size w10 W)=>And.intro (HK4.out W (B10.out.trans (hA.mono B10.out.size))) (And.intro (Nat.le_trans sz5 hA.size) (And.intro (bE.trans (hA.mono bE.size)) (And.intro (Za (Kd.R_below ow6.out hA)) (And.intro (Nat.le_trans sz6 hA.size) (And.intro (Nat.lt_of_lt_of_le z2 hA.size) (And.intro (ZJ hA s2_0) (And.intro (ZJ hA s2_1) (And.intro (ZJ hA s2_2) (And.intro (Za (And.intro g6_0.out.1 (Zb g6_0.out.2 hA))) (And.intro (Nat.lt_of_lt_of_le z3 hA.size) (And.intro (ZJ hA s3_0) ((ZJ hA s3_1)))))))))))))
 clear sz5 bE ow6 sz6 z2 s2_0 s2_1 s2_2 g6_0 z3 s3_0 s3_1
 obtain⟨⟨⟨⟨⟨hB,z0,s0_0,s0_1,s0_2,Q0_0,Q0_1⟩,g2_0,g2_1⟩,g3_0⟩,z1,s1_0,s1_1⟩,sz5,bE,ow6,sz6,z2,s2_0,s2_1,s2_2,g6_0,z3,s3_0,s3_1⟩:=HK10.out _ (Below.refl _ _)
 have le5_10:=sz5
 have le6_10:=sz6
 go_wp2_with fail
 refine(Zcx.same u3_0_0 X6_0 x6_0 X3_0 x3_0 u3_0_1 _ g6_0.out.2 g6_0.out.1 g3_0.out.2 g3_0.out.1).mono ?_
 rintro e w11 ⟨rfl,hb⟩
 have B11:=Za hb;clear hB z0 s0_0 s0_1 s0_2 Q0_0 Q0_1 g2_0 g2_1 g3_0 z1 s1_0 s1_1 sz5 bE ow6 sz6 z2 s2_0 s2_1 s2_2 g6_0 z3 s3_0 s3_1 hb
 have HK11:=Za fun (W:World) (hA:Below w11.heap.size w11 W)=>HK10.out W (B11.out.trans (hA.mono B11.out.size))
 obtain⟨⟨⟨⟨⟨hB,z0,s0_0,s0_1,s0_2,Q0_0,Q0_1⟩,g2_0,g2_1⟩,g3_0⟩,z1,s1_0,s1_1⟩,sz5,bE,ow6,sz6,z2,s2_0,s2_1,s2_2,g6_0,z3,s3_0,s3_1⟩:=HK11.out _ (Below.refl _ _)
 have le5_11:=sz5
 have le6_11:=sz6
 go_wp2_with fail
 refine(markSimple_k w4 _ _ _ _ _ bE (Kd.R_mono ow6.out (fun k hk=>hk.2.2)) SM_u3_0_1.out _ (by have:=HR10.out;have:=SM_u3_0_1.out;omega) (by have:=HR10.out;have:=SM_u3_0_1.out;omega)).mono ?_
 rintro e w12 ⟨rfl,hm0,hb,hk⟩
 have hqw12:=(Zf (by have:=HR10.out;have:=SM_u3_0_1.out;omega):decide ((1+4 * (u3_0_1.length:Int))<0)=false)
 have B12:=Za hb
 replace sz5:=Nat.le_trans sz5 hk.1
 replace bE:=hb
 replace ow6:=Za hm0
 replace sz6:=Nat.le_trans sz6 hk.1
 replace g6_0:=Za (Zev hm0)
 replace z3:=Nat.lt_of_lt_of_le z3 hk.1
 replace s3_0:=ZbV s3_0 hk (fun h3=>absurd (Nat.lt_of_lt_of_le h3 (Nat.le_refl _)) (Nat.lt_irrefl _))
 replace s3_1:=ZbV s3_1 hk (fun h3=>absurd (Nat.lt_of_lt_of_le h3 (Nat.le_refl _)) (Nat.lt_irrefl _))
 clear hB z0 s0_0 s0_1 s0_2 Q0_0 Q0_1 g2_0 g2_1 g3_0 z1 s1_0 s1_1 z2 s2_0 s2_1 s2_2 hk
 have HK12:=Za fun (W:World) (hA:Below w12.heap.size w12 W)=>And.intro (HK4.out W (B12.out.trans (hA.mono B12.out.size))) (And.intro (Nat.le_trans sz5 hA.size) (And.intro (bE.trans (hA.mono bE.size)) (And.intro (Za (Kd.R_below ow6.out hA)) (And.intro (Nat.le_trans sz6 hA.size) (And.intro (Za (And.intro g6_0.out.1 (Zb g6_0.out.2 hA))) (And.intro (Nat.lt_of_lt_of_le z3 hA.size) (And.intro (ZJ hA s3_0) ((ZJ hA s3_1)))))))))
 clear sz5 bE ow6 sz6 g6_0 z3 s3_0 s3_1 hm0
 obtain⟨⟨⟨⟨⟨hB,z0,s0_0,s0_1,s0_2,Q0_0,Q0_1⟩,g2_0,g2_1⟩,g3_0⟩,z1,s1_0,s1_1⟩,sz5,bE,ow6,sz6,g6_0,z3,s3_0,s3_1⟩:=HK12.out _ (Below.refl _ _)
 have le5_12:=sz5
 have le6_12:=sz6
 go_wp2_with fail
 refine(Zdq _ _ _ _ _ _ g6_0.out.2 g6_0.out.1 SM_u3_0_1.out (by have:=SM_u3_0_1.out;omega) (by have:=SM_u3_0_1.out;omega)).mono ?_
 rintro e w13 ⟨rfl,hb⟩
 have B13:=Za hb;clear hB z0 s0_0 s0_1 s0_2 Q0_0 Q0_1 g2_0 g2_1 g3_0 z1 s1_0 s1_1 sz5 bE ow6 sz6 g6_0 z3 s3_0 s3_1 hb
 have HK13:=Za fun (W:World) (hA:Below w13.heap.size w13 W)=>HK12.out W (B13.out.trans (hA.mono B13.out.size))
 obtain⟨⟨⟨⟨⟨hB,z0,s0_0,s0_1,s0_2,Q0_0,Q0_1⟩,g2_0,g2_1⟩,g3_0⟩,z1,s1_0,s1_1⟩,sz5,bE,ow6,sz6,g6_0,z3,s3_0,s3_1⟩:=HK13.out _ (Below.refl _ _)
 have le5_13:=sz5
 have le6_13:=sz6
 go_wp2_with fail
 refine(ZaQ.c k A0_0 c0_0 l0_0 A0_1 c0_1 l0_1 a0_2 _ _ _ _ Q0_0.out.2 Q0_0.out.1 Q0_1.out.2 Q0_1.out.1 HF1.out).mono ?_
 rintro e w14 ⟨X14_0,x14_0,X14_1,x14_1,rfl,g14_0,g14_1,hb⟩
 have B14:=Za hb;clear hB z0 s0_0 s0_1 s0_2 Q0_0 Q0_1 g2_0 g2_1 g3_0 z1 s1_0 s1_1 sz5 bE ow6 sz6 g6_0 z3 s3_0 s3_1 hb
 have HK14:=Za fun (W:World) (hA:Below w14.heap.size w14 W)=>And.intro (HK13.out W (B14.out.trans (hA.mono B14.out.size))) (And.intro (Za (And.intro g14_0.out.1 (Zb g14_0.out.2 hA))) ((Za (And.intro g14_1.out.1 (Zb g14_1.out.2 hA)))))
 clear g14_0 g14_1
 obtain⟨⟨⟨⟨⟨⟨hB,z0,s0_0,s0_1,s0_2,Q0_0,Q0_1⟩,g2_0,g2_1⟩,g3_0⟩,z1,s1_0,s1_1⟩,sz5,bE,ow6,sz6,g6_0,z3,s3_0,s3_1⟩,g14_0,g14_1⟩:=HK14.out _ (Below.refl _ _)
 have le5_14:=sz5
 have le6_14:=sz6
 go_wp2_with fail
 refine(ZF.c k X14_0 x14_0 u1_0_0 X14_1 x14_1 u1_0_1 u1_0_2 _ _ _ _ g14_0.out.2 g14_0.out.1 g14_1.out.2 g14_1.out.1 HF3.out).mono ?_
 rintro e w15 ⟨X15_0,x15_0,rfl,g15_0,hb⟩
 have B15:=Za hb;clear hB z0 s0_0 s0_1 s0_2 Q0_0 Q0_1 g2_0 g2_1 g3_0 z1 s1_0 s1_1 sz5 bE ow6 sz6 g6_0 z3 s3_0 s3_1 g14_0 g14_1 hb
 have HK15:=Za fun (W:World) (hA:Below w15.heap.size w15 W)=>And.intro (HK14.out W (B15.out.trans (hA.mono B15.out.size))) ((Za (And.intro g15_0.out.1 (Zb g15_0.out.2 hA))))
 clear g15_0
 obtain⟨⟨⟨⟨⟨⟨⟨hB,z0,s0_0,s0_1,s0_2,Q0_0,Q0_1⟩,g2_0,g2_1⟩,g3_0⟩,z1,s1_0,s1_1⟩,sz5,bE,ow6,sz6,g6_0,z3,s3_0,s3_1⟩,g14_0,g14_1⟩,g15_0⟩:=HK15.out _ (Below.refl _ _)
 have le5_15:=sz5
 have le6_15:=sz6
 go_wp2_with fail
 refine(Zcx.same u3_0_0 X15_0 x15_0 X3_0 x3_0 u3_0_1 _ (Zb g15_0.out.2 (Zn (Below.refl _ _) _)) g15_0.out.1 (Zb g3_0.out.2 (Zn (Below.refl _ _) _)) g3_0.out.1).mono ?_
 rintro e w16 ⟨rfl,hb⟩
 have B16:=Za (Zw (Zn (Below.refl w15.heap.size w15) _) hb)
 have z4:w15.heap.size<w16.heap.size:=Nat.lt_of_lt_of_le (by simp <;> omega) hb.size
 have s4_0:w16.cell? ⟨w15.heap.size,0,none⟩=some (.int .i64 u3_0_0):=ZJ hb (by go_simp)
 have s4_1:w16.cell? ⟨w15.heap.size,1,none⟩=some (.slice X15_0 u3_0_1.length x15_0):=ZJ hb (by go_simp)
 clear hB z0 s0_0 s0_1 s0_2 Q0_0 Q0_1 g2_0 g2_1 g3_0 z1 s1_0 s1_1 sz5 bE ow6 sz6 g6_0 z3 s3_0 s3_1 g14_0 g14_1 g15_0 hb
 have HK16:=Za fun (W:World) (hA:Below w16.heap.size w16 W)=>And.intro (HK15.out W (B16.out.trans (hA.mono B16.out.size))) (And.intro (Nat.lt_of_lt_of_le z4 hA.size) (And.intro (ZJ hA s4_0) ((ZJ hA s4_1))))
 clear z4 s4_0 s4_1
 obtain⟨⟨⟨⟨⟨⟨⟨⟨hB,z0,s0_0,s0_1,s0_2,Q0_0,Q0_1⟩,g2_0,g2_1⟩,g3_0⟩,z1,s1_0,s1_1⟩,sz5,bE,ow6,sz6,g6_0,z3,s3_0,s3_1⟩,g14_0,g14_1⟩,g15_0⟩,z4,s4_0,s4_1⟩:=HK16.out _ (Below.refl _ _)
 have le5_16:=sz5
 have le6_16:=sz6
 go_wp2_with fail
 refine(Zdq _ _ _ _ _ _ g6_0.out.2 g6_0.out.1 SM_u3_0_1.out (by have:=SM_u3_0_1.out;omega) (by have:=SM_u3_0_1.out;omega)).mono ?_
 rintro e w17 ⟨rfl,hb⟩
 have B17:=Za hb;clear hB z0 s0_0 s0_1 s0_2 Q0_0 Q0_1 g2_0 g2_1 g3_0 z1 s1_0 s1_1 sz5 bE ow6 sz6 g6_0 z3 s3_0 s3_1 g14_0 g14_1 g15_0 z4 s4_0 s4_1 hb
 have HK17:=Za fun (W:World) (hA:Below w17.heap.size w17 W)=>HK16.out W (B17.out.trans (hA.mono B17.out.size))
 obtain⟨⟨⟨⟨⟨⟨⟨⟨hB,z0,s0_0,s0_1,s0_2,Q0_0,Q0_1⟩,g2_0,g2_1⟩,g3_0⟩,z1,s1_0,s1_1⟩,sz5,bE,ow6,sz6,g6_0,z3,s3_0,s3_1⟩,g14_0,g14_1⟩,g15_0⟩,z4,s4_0,s4_1⟩:=HK17.out _ (Below.refl _ _)
 have le5_17:=sz5
 have le6_17:=sz6
 go_wp2
 go_ret
 exact⟨rfl,(HK17.out _ (Below.refl _ _)).1.1.1.1.1.1.1.1⟩
end Go.Proofs.Ytodfnelilhjoeaa.Pr
namespace Go.Proofs.Ytodfnelilhjoeaa.Pr
open Go.RowKit Go.Proofs.YtodfnelilhjoeaaW.PrintWords Go.Proofs.YtodfnelilhjoeaaW.PrintLast Go.Proofs.YtodfnelilhjoeaaW.PrintMore
attribute [local go_sem] Zac Zaa Zam Zal Z5 Z4 Zab Z9
set_option linter.unusedVariables false
set_option linter.unusedSimpArgs false
def laws_FnExactStrongNetwork.Pure:Prop:=∀(y0:S25),okS25 y0→∃k,laws_FnExactStrongNetwork.f k y0.f0 y0.f1 y0.f2=some true
end Go.Proofs.Ytodfnelilhjoeaa.Pr
set_option linter.unusedSimpArgs false
namespace Go.Proofs.Ytodfnelilhjoeaa.Pure
open Go.RowKit Go.Proofs.Ytodfnelilhjoeaa.Pr Go.Proofs.Ytodfnelilhjoeaa.Ni Go.Proofs.YtodfnelilhjoeaaW.PrintWords Go.Proofs.YtodfnelilhjoeaaW.PrintMore
theorem FnExactStrongNetwork:laws_FnExactStrongNetwork.Pure:=by
 rintro⟨ns,ts,z⟩ ⟨⟨hn,hb⟩,⟨ht,_⟩,_⟩
 simp only[maxLen] at hn ht
 refine⟨2 ^ 70+1,?_⟩
 unfold laws_FnExactStrongNetwork.f
 obtain⟨r,hr,h⟩:=szShow_f ns ts z hn (fun n hn=>by have:=hb n hn;exact⟨by simpa [maxLen] using this.1,by simpa [maxLen] using this.2.1.1⟩) ht (2 ^ 70+1) (by omega) 1048576 (by omega) (by omega)
 rw[hr,Zi]
 rcases h with h|⟨h0,h1,h⟩
 ·rw[if_pos h]
 rw[if_neg (by omega)]
 have hc:=h.cv
 obtain⟨q,e1,e2,e3⟩:=strong_same (z:=z) hc (2 ^ 70+1) (by omega)
 have hsm:=smallB_of hc
 simp only[toShow_f ns ts z h (2 ^ 70+1) (by omega),e1,e2,e3,hsm,Zi,if_true]
end Go.Proofs.Ytodfnelilhjoeaa.Pure
