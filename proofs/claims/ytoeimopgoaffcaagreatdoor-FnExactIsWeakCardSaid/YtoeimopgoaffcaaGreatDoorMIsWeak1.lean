/- The texts of one claim, put together by a program of this session. -/
import Derived.Deep.RegionHeld3
import Derived.Test.YtoeimopgoaffcaaGreatDoorBBsc1x1
import Derived.Test.YtoeimopgoaffcaaGreatDoorBBsc1x29
import Derived.Test.YtoeimopgoaffcaaGreatDoorBBsc2x1
namespace Go.Proofs.YtoeimopgoaffcaaGreatDoor.Pr
open Go.RowKit Go.Proofs.YtoeimopgoaffcaaGreatDoorW.PrintWords Go.Proofs.YtoeimopgoaffcaaGreatDoorW.PrintLast Go.Proofs.YtoeimopgoaffcaaGreatDoorW.PrintMore
attribute [local go_sem] ZU ZS ZW ZV ZO ZN ZT ZR
set_option linter.unusedVariables false
set_option linter.unusedSimpArgs false
open Go.Proofs.YtoeimopgoaffcaaGreatDoor.Ni
def laws_FnExactIsWeak.f (k:Nat) (l0_0:List (S143)) (l0_1:List (S147)) (a0_2:Int):Option (Bool):=((Zbt.f k l0_0 l0_1 a0_2 1048576).bind fun u0_0=>(if u0_0<0 then some true else((ZaX.f k l0_0 l0_1 a0_2).bind fun b1=>((Zcz.f k b1.1 b1.2.1 b1.2.2).bind fun u2_0=>((Zb0.f k b1.1 b1.2.1 b1.2.2).bind fun u3_0=>(if u3_0=u2_0 then(some true) else some false))))))
set_option maxHeartbeats 8000000 in
set_option maxRecDepth 100000 in
theorem laws_FnExactIsWeak.calls (k:Nat) (A0_0:Option Addr) (c0_0:Nat) (l0_0:List (S143)) (A0_1:Option Addr) (c0_1:Nat) (l0_1:List (S147)) (a0_2:Int) (w:World) (hr0_0:Kd.C k143 w A0_0 l0_0.length l0_0) (hc0_0:l0_0.length≤c0_0) (hr0_1:Kd.C k147 w A0_1 l0_1.length l0_1) (hc0_1:l0_1.length≤c0_1) (ht:TW w) (h:laws_FnExactIsWeak.f k l0_0 l0_1 a0_2=some true) :
  Calls Tryz.prog 8 #[.agg #[.slice A0_0 l0_0.length c0_0,.slice A0_1 l0_1.length c0_1,.int .i64 a0_2]] w fun e w'=>e=.returned (.bool true)∧Below w.heap.size w w':=by
 unfold laws_FnExactIsWeak.f at h
 have HTW:=Za ht;clear ht
 have hv25:=Tryz.underlying25
 replace h:=Option.bind_eq_some_iff.1 h
 obtain⟨u0_0,HF0,h⟩:=h
 (try dsimp only at h)
 replace HF0:=Za HF0
 by_cases hcn0:u0_0<0
 case pos=>
  have hq0:decide (u0_0<0)=true:=Ze hcn0
  clear h hcn0
  have hu47:=Tryz.underlying47
  have HB0:=Za (Zn (Below.refl w.heap.size w) (.cells #[.slice A0_0 l0_0.length c0_0,.slice A0_1 l0_1.length c0_1,.int .i64 a0_2] 47))
  have Q0_0:=Za (And.intro hc0_0 (Zb hr0_0 HB0.out))
  have Q0_1:=Za (And.intro hc0_1 (Zb hr0_1 HB0.out))
  clear hr0_0 hc0_0 hr0_1 hc0_1
  go_enter Tryz.func8,Tryz.ntmps8
  go_wp2_with fail
  refine(Zbt.calls k A0_0 c0_0 l0_0 A0_1 c0_1 l0_1 a0_2 1048576 _ _ Q0_0.out.2 Q0_0.out.1 Q0_1.out.2 Q0_1.out.1 HF0.out).mono ?_
  rintro e w1 ⟨rfl,hb⟩
  have HB1:=Za (HB0.out.trans (hb.mono HB0.out.size))
  have z0:w.heap.size<w1.heap.size:=Nat.lt_of_lt_of_le (by simp <;> omega) hb.size
  have s0_0:w1.cell? ⟨w.heap.size,0,none⟩=some (.slice A0_0 l0_0.length c0_0):=Zx hb (by go_simp)
  have s0_1:w1.cell? ⟨w.heap.size,1,none⟩=some (.slice A0_1 l0_1.length c0_1):=Zx hb (by go_simp)
  have s0_2:w1.cell? ⟨w.heap.size,2,none⟩=some (.int .i64 a0_2):=Zx hb (by go_simp)
  replace Q0_0:=Za (And.intro Q0_0.out.1 (Zb Q0_0.out.2 hb))
  replace Q0_1:=Za (And.intro Q0_1.out.1 (Zb Q0_1.out.2 hb))
  have HK1:=Za fun (W:World) (hA:Below w1.heap.size w1 W)=>And.intro (HB1.out.trans (hA.mono HB1.out.size)) (And.intro (Nat.lt_of_lt_of_le z0 hA.size) (And.intro (Zx hA s0_0) (And.intro (Zx hA s0_1) (And.intro (Zx hA s0_2) (And.intro (Za (And.intro Q0_0.out.1 (Zb Q0_0.out.2 hA))) ((Za (And.intro Q0_1.out.1 (Zb Q0_1.out.2 hA)))))))))
  clear z0 s0_0 s0_1 s0_2 Q0_0 Q0_1 hb
  obtain⟨hB,z0,s0_0,s0_1,s0_2,Q0_0,Q0_1⟩:=HK1.out _ (Below.refl _ _)
  go_wp2
  go_ret
  exact⟨rfl,(HK1.out _ (Below.refl _ _)).1⟩
 rw[if_neg hcn0] at h
 have hq0:decide (u0_0<0)=false:=Zf hcn0
 clear hcn0
 replace h:=Option.bind_eq_some_iff.1 h
 obtain⟨⟨u1_0_0,u1_0_1,u1_0_2⟩,HF1,h⟩:=h
 (try dsimp only at h)
 replace HF1:=Za HF1
 replace h:=Option.bind_eq_some_iff.1 h
 obtain⟨u2_0,HF2,h⟩:=h
 (try dsimp only at h)
 replace HF2:=Za HF2
 replace h:=Option.bind_eq_some_iff.1 h
 obtain⟨u3_0,HF3,h⟩:=h
 (try dsimp only at h)
 replace HF3:=Za HF3
 by_cases ht53:u3_0=u2_0
 case neg=>rw[if_neg ht53] at h;exact absurd h (by simp)
 rw[if_pos ht53] at h
 subst ht53;clear h
 have hu47:=Tryz.underlying47
 have HB0:=Za (Zn (Below.refl w.heap.size w) (.cells #[.slice A0_0 l0_0.length c0_0,.slice A0_1 l0_1.length c0_1,.int .i64 a0_2] 47))
 have Q0_0:=Za (And.intro hc0_0 (Zb hr0_0 HB0.out))
 have Q0_1:=Za (And.intro hc0_1 (Zb hr0_1 HB0.out))
 clear hr0_0 hc0_0 hr0_1 hc0_1
 go_enter Tryz.func8,Tryz.ntmps8
 go_wp2_with fail
 refine(Zbt.calls k A0_0 c0_0 l0_0 A0_1 c0_1 l0_1 a0_2 1048576 _ _ Q0_0.out.2 Q0_0.out.1 Q0_1.out.2 Q0_1.out.1 HF0.out).mono ?_
 rintro e w1 ⟨rfl,hb⟩
 have HB1:=Za (HB0.out.trans (hb.mono HB0.out.size))
 have z0:w.heap.size<w1.heap.size:=Nat.lt_of_lt_of_le (by simp <;> omega) hb.size
 have s0_0:w1.cell? ⟨w.heap.size,0,none⟩=some (.slice A0_0 l0_0.length c0_0):=Zx hb (by go_simp)
 have s0_1:w1.cell? ⟨w.heap.size,1,none⟩=some (.slice A0_1 l0_1.length c0_1):=Zx hb (by go_simp)
 have s0_2:w1.cell? ⟨w.heap.size,2,none⟩=some (.int .i64 a0_2):=Zx hb (by go_simp)
 replace Q0_0:=Za (And.intro Q0_0.out.1 (Zb Q0_0.out.2 hb))
 replace Q0_1:=Za (And.intro Q0_1.out.1 (Zb Q0_1.out.2 hb))
 have HK1:=Za fun (W:World) (hA:Below w1.heap.size w1 W)=>And.intro (HB1.out.trans (hA.mono HB1.out.size)) (And.intro (Nat.lt_of_lt_of_le z0 hA.size) (And.intro (Zx hA s0_0) (And.intro (Zx hA s0_1) (And.intro (Zx hA s0_2) (And.intro (Za (And.intro Q0_0.out.1 (Zb Q0_0.out.2 hA))) ((Za (And.intro Q0_1.out.1 (Zb Q0_1.out.2 hA)))))))))
 clear z0 s0_0 s0_1 s0_2 Q0_0 Q0_1 hb
 obtain⟨hB,z0,s0_0,s0_1,s0_2,Q0_0,Q0_1⟩:=HK1.out _ (Below.refl _ _)
 go_wp2_with fail
 refine(ZaX.c k A0_0 c0_0 l0_0 A0_1 c0_1 l0_1 a0_2 _ _ _ _ Q0_0.out.2 Q0_0.out.1 Q0_1.out.2 Q0_1.out.1 HF1.out).mono ?_
 rintro e w2 ⟨X2_0,x2_0,X2_1,x2_1,rfl,g2_0,g2_1,hb⟩
 have B2:=Za hb;clear hB z0 s0_0 s0_1 s0_2 Q0_0 Q0_1 hb
 have HK2:=Za fun (W:World) (hA:Below w2.heap.size w2 W)=>And.intro (HK1.out W (B2.out.trans (hA.mono B2.out.size))) (And.intro (Za (And.intro g2_0.out.1 (Zb g2_0.out.2 hA))) ((Za (And.intro g2_1.out.1 (Zb g2_1.out.2 hA)))))
 clear g2_0 g2_1
 obtain⟨⟨hB,z0,s0_0,s0_1,s0_2,Q0_0,Q0_1⟩,g2_0,g2_1⟩:=HK2.out _ (Below.refl _ _)
 go_wp2_with fail
 refine(Zcz.calls k X2_0 x2_0 u1_0_0 X2_1 x2_1 u1_0_1 u1_0_2 _ _ g2_0.out.2 g2_0.out.1 g2_1.out.2 g2_1.out.1 HF2.out).mono ?_
 rintro e w3 ⟨rfl,hb⟩
 have B3:=Za hb;clear hB z0 s0_0 s0_1 s0_2 Q0_0 Q0_1 g2_0 g2_1 hb
 have HK3:=Za fun (W:World) (hA:Below w3.heap.size w3 W)=>HK2.out W (B3.out.trans (hA.mono B3.out.size))
 obtain⟨⟨hB,z0,s0_0,s0_1,s0_2,Q0_0,Q0_1⟩,g2_0,g2_1⟩:=HK3.out _ (Below.refl _ _)
 go_wp2_with fail
 refine(ZaX.c k A0_0 c0_0 l0_0 A0_1 c0_1 l0_1 a0_2 _ _ _ _ Q0_0.out.2 Q0_0.out.1 Q0_1.out.2 Q0_1.out.1 HF1.out).mono ?_
 rintro e w4 ⟨X4_0,x4_0,X4_1,x4_1,rfl,g4_0,g4_1,hb⟩
 have B4:=Za hb;clear hB z0 s0_0 s0_1 s0_2 Q0_0 Q0_1 g2_0 g2_1 hb
 have HK4:=Za fun (W:World) (hA:Below w4.heap.size w4 W)=>And.intro (HK3.out W (B4.out.trans (hA.mono B4.out.size))) (And.intro (Za (And.intro g4_0.out.1 (Zb g4_0.out.2 hA))) ((Za (And.intro g4_1.out.1 (Zb g4_1.out.2 hA)))))
 clear g4_0 g4_1
 obtain⟨⟨⟨hB,z0,s0_0,s0_1,s0_2,Q0_0,Q0_1⟩,g2_0,g2_1⟩,g4_0,g4_1⟩:=HK4.out _ (Below.refl _ _)
 go_wp2_with fail
 refine(Zb0.calls k X4_0 x4_0 u1_0_0 X4_1 x4_1 u1_0_1 u1_0_2 _ _ (Zb g4_0.out.2 (Zn (Below.refl _ _) _)) g4_0.out.1 (Zb g4_1.out.2 (Zn (Below.refl _ _) _)) g4_1.out.1 (TW.below HTW.out (Zn hB _)) HF3.out).mono ?_
 rintro e w5 ⟨rfl,hb⟩
 have B5:=Za (Zw (Zn (Below.refl w4.heap.size w4) _) hb)
 have z1:w4.heap.size<w5.heap.size:=Nat.lt_of_lt_of_le (by simp <;> omega) hb.size
 have s1_0:w5.cell? ⟨w4.heap.size,0,none⟩=some (.slice X4_0 u1_0_0.length x4_0):=Zx hb (by go_simp)
 have s1_1:w5.cell? ⟨w4.heap.size,1,none⟩=some (.slice X4_1 u1_0_1.length x4_1):=Zx hb (by go_simp)
 have s1_2:w5.cell? ⟨w4.heap.size,2,none⟩=some (.int .i64 u1_0_2):=Zx hb (by go_simp)
 clear hB z0 s0_0 s0_1 s0_2 Q0_0 Q0_1 g2_0 g2_1 g4_0 g4_1 hb
 have HK5:=Za fun (W:World) (hA:Below w5.heap.size w5 W)=>And.intro (HK4.out W (B5.out.trans (hA.mono B5.out.size))) (And.intro (Nat.lt_of_lt_of_le z1 hA.size) (And.intro (Zx hA s1_0) (And.intro (Zx hA s1_1) ((Zx hA s1_2)))))
 clear z1 s1_0 s1_1 s1_2
 obtain⟨⟨⟨⟨hB,z0,s0_0,s0_1,s0_2,Q0_0,Q0_1⟩,g2_0,g2_1⟩,g4_0,g4_1⟩,z1,s1_0,s1_1,s1_2⟩:=HK5.out _ (Below.refl _ _)
 go_wp2_with fail
 go_region_held3 (fun w'=>Below w5.heap.size w5 w'∧w'.cell? ⟨w4.heap.size,0,none⟩=some (.slice X4_0 u1_0_0.length x4_0)∧w'.cell? ⟨w4.heap.size,1,none⟩=some (.slice X4_1 u1_0_1.length x4_1)∧w'.cell? ⟨w4.heap.size,2,none⟩=some (.int .i64 u1_0_2)∧w'.cell? ⟨w.heap.size,0,none⟩=some (.slice A0_0 l0_0.length c0_0)∧w'.cell? ⟨w.heap.size,1,none⟩=some (.slice A0_1 l0_1.length c0_1)∧w'.cell? ⟨w.heap.size,2,none⟩=some (.int .i64 a0_2))
  (first|(refine⟨by repeat(first|(with_reducible first|exact Below.refl _ _|apply Zn|apply Zm|apply Zo|exact(‹Below w5.heap.size w5 _∧_› : Below w5.heap.size w5 _∧_).1)|exact Below.refl _ _),?_⟩;go_simp;done)|(have HQ_:=HK5.out _ (Zw (‹Below w5.heap.size w5 _∧_› : Below w5.heap.size w5 _∧_).1 hb);exact⟨Zw (‹Below w5.heap.size w5 _∧_› : Below w5.heap.size w5 _∧_).1 hb,HQ_.2.2.1,HQ_.2.2.2.1,HQ_.2.2.2.2,HQ_.1.1.1.2.2.1,HQ_.1.1.1.2.2.2.1,HQ_.1.1.1.2.2.2.2.1⟩))
  (first|(go_at_call 30;(refine(ZaX.c k A0_0 c0_0 l0_0 A0_1 c0_1 l0_1 a0_2 _ _ _ _ ?s6_0 ?s6_1 ?s6_2 ?s6_3 HF1.out).mono ?_);(case s6_0=>exact(HK5.out _ (‹Below w5.heap.size w5 _∧_› : Below w5.heap.size w5 _∧_).1).1.1.1.2.2.2.2.2.1.out.2);(case s6_1=>exact(HK5.out _ (‹Below w5.heap.size w5 _∧_› : Below w5.heap.size w5 _∧_).1).1.1.1.2.2.2.2.2.1.out.1);(case s6_2=>exact(HK5.out _ (‹Below w5.heap.size w5 _∧_› : Below w5.heap.size w5 _∧_).1).1.1.1.2.2.2.2.2.2.out.2);(case s6_3=>exact(HK5.out _ (‹Below w5.heap.size w5 _∧_› : Below w5.heap.size w5 _∧_).1).1.1.1.2.2.2.2.2.2.out.1);rintro e w6 ⟨X6_0,x6_0,X6_1,x6_1,rfl,g6_0,g6_1,hb⟩)|(go_at_call 13;(refine(Ze4.same X4_0 x4_0 X6_0 x6_0 u1_0_0 X4_1 x4_1 X6_1 x6_1 u1_0_1 u1_0_2 _ ?s7_0 ?s7_1 ?s7_2 ?s7_3 ?s7_4 ?s7_5 ?s7_6 ?s7_7).mono ?_);(case s7_0=>exact(HK5.out _ (‹Below w5.heap.size w5 _∧_› : Below w5.heap.size w5 _∧_).1).1.2.1.out.2);(case s7_1=>exact(HK5.out _ (‹Below w5.heap.size w5 _∧_› : Below w5.heap.size w5 _∧_).1).1.2.1.out.1);(case s7_2=>exact g6_0.out.2);(case s7_3=>exact g6_0.out.1);(case s7_4=>exact(HK5.out _ (‹Below w5.heap.size w5 _∧_› : Below w5.heap.size w5 _∧_).1).1.2.2.out.2);(case s7_5=>exact(HK5.out _ (‹Below w5.heap.size w5 _∧_› : Below w5.heap.size w5 _∧_).1).1.2.2.out.1);(case s7_6=>exact g6_1.out.2);(case s7_7=>exact g6_1.out.1);rintro e w7 ⟨rfl,hb⟩;replace g6_0:=Za (And.intro g6_0.out.1 (Zb g6_0.out.2 hb));replace g6_1:=Za (And.intro g6_1.out.1 (Zb g6_1.out.2 hb))))
 have B7:=Za (‹Below w5.heap.size w5 w7∧_› : Below w5.heap.size w5 w7∧_).1
 clear hB z0 s0_0 s0_1 s0_2 Q0_0 Q0_1 g2_0 g2_1 g4_0 g4_1 z1 s1_0 s1_1 s1_2
 have HK7:=Za fun (W:World) (hA:Below w7.heap.size w7 W)=>HK5.out W (B7.out.trans (hA.mono B7.out.size))
 obtain⟨⟨⟨⟨hB,z0,s0_0,s0_1,s0_2,Q0_0,Q0_1⟩,g2_0,g2_1⟩,g4_0,g4_1⟩,z1,s1_0,s1_1,s1_2⟩:=HK7.out _ (Below.refl _ _)
 go_wp2
 go_ret
 exact⟨rfl,(HK7.out _ (Below.refl _ _)).1.1.1.1⟩
end Go.Proofs.YtoeimopgoaffcaaGreatDoor.Pr
namespace Go.Proofs.YtoeimopgoaffcaaGreatDoor.Pr
open Go.RowKit Go.Proofs.YtoeimopgoaffcaaGreatDoorW.PrintWords Go.Proofs.YtoeimopgoaffcaaGreatDoorW.PrintLast Go.Proofs.YtoeimopgoaffcaaGreatDoorW.PrintMore
attribute [local go_sem] ZU ZS ZW ZV ZO ZN ZT ZR
set_option linter.unusedVariables false
set_option linter.unusedSimpArgs false
def laws_FnExactIsWeak.Pure:Prop:=∀(y0:S47),okS47 y0→∃k,laws_FnExactIsWeak.f k y0.f0 y0.f1 y0.f2=some true
end Go.Proofs.YtoeimopgoaffcaaGreatDoor.Pr
set_option linter.unusedSimpArgs false
namespace Go.Proofs.YtoeimopgoaffcaaGreatDoor.Pure
open Go.RowKit Go.Proofs.YtoeimopgoaffcaaGreatDoor.Pr Go.Proofs.YtoeimopgoaffcaaGreatDoor.Ni Go.Proofs.YtoeimopgoaffcaaGreatDoorW.PrintWords Go.Proofs.YtoeimopgoaffcaaGreatDoorW.PrintMore
theorem FnExactIsWeak:laws_FnExactIsWeak.Pure:=by
 rintro⟨ns,ts,z⟩ ⟨⟨hn,hb⟩,⟨ht,_⟩,_⟩
 simp only[maxLen] at hn ht
 refine⟨2 ^ 70,?_⟩
 unfold laws_FnExactIsWeak.f
 obtain⟨r,hr,h⟩:=szShow_f ns ts z hn (fun n hn=>by have:=hb n hn;exact⟨by simpa [maxLen] using this.1,by simpa [maxLen] using this.2.1.1⟩) ht (2 ^ 70) (by omega) 1048576 (by omega) (by omega)
 rw[hr,Zi]
 rcases h with h|⟨h0,h1,h⟩
 ·rw[if_pos h]
 rw[if_neg (by omega)]
 have hc:=h.cv
 have hf:=Zc0 hc
 have e1:Zcz.f (2 ^ 70) (ns.map cvN) (ts.map cvT) z=Zb0.f (2 ^ 70) (ns.map cvN) (ts.map cvT) z:=by
  unfold Zcz.f Zb0.f
  rw[Zdv _ _ z hf _ (by omega),ZcW hf,Zdo (z:=z) hc (2 ^ 70) (by omega),ZcL (z:=z) hc (2 ^ 70) (by omega)]
 have e2:∃b,Zb0.f (2 ^ 70) (ns.map cvN) (ts.map cvT) z=some b:=by
  unfold Zb0.f
  rw[ZcW hf,ZcL (z:=z) hc (2 ^ 70) (by omega),Zi]
  split <;> exact⟨_,rfl⟩
 obtain⟨b,e2⟩:=e2
 simp only[toShow_f ns ts z h (2 ^ 70) (by omega),e1,e2,Zi,if_true]
end Go.Proofs.YtoeimopgoaffcaaGreatDoor.Pure
