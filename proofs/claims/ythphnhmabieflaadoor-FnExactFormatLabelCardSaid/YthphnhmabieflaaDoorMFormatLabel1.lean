/- The texts of one claim, put together by a program of this session. -/
import Derived.Deep.RegionHeld3
import Derived.Test.YthphnhmabieflaaDoorBFlc1x1
import Derived.Test.YthphnhmabieflaaDoorBFlc1x2
namespace Go.Proofs.YthphnhmabieflaaDoor.Pr
open Go.RowKit Go.Proofs.YthphnhmabieflaaDoorW.PrintWords Go.Proofs.YthphnhmabieflaaDoorW.PrintLast Go.Proofs.YthphnhmabieflaaDoorW.PrintMore
attribute [local go_sem] Z4 Z2 Zaf Zae ZY ZX Z3 Z1
set_option linter.unusedVariables false
set_option linter.unusedSimpArgs false
open Go.Proofs.YthphnhmabieflaaDoor.Ni
def laws_FnExactFormatLabel.f (k:Nat) (l0:List Int):Option (Bool):=(if (l0.length:Int) > 1048576 then some true else((Zx.f k l0).bind fun u0_0=>((Zo.f k u0_0).bind fun u1_0=>((Zp.f k u0_0).bind fun u2_0=>(if u2_0=u1_0 then(some true) else some false)))))
set_option maxHeartbeats 8000000 in
set_option maxRecDepth 100000 in
theorem laws_FnExactFormatLabel.calls (k:Nat) (A0:Option Addr) (c0:Nat) (l0:List Int) (w:World) (hr0:Kd.C (Kd.int .i64) w A0 l0.length l0) (hc0:l0.length≤c0) (ht:TW w) (h:laws_FnExactFormatLabel.f k l0=some true) :
  Calls Tryd.prog 3 #[.slice A0 l0.length c0] w fun e w'=>e=.returned (.bool true)∧Below w.heap.size w w':=by
 unfold laws_FnExactFormatLabel.f at h
 have HTW:=Za ht;clear ht
 by_cases hpre0:(l0.length:Int) > 1048576
 case pos=>
  have hpq0:decide (1048576<l0.length)=true:=Zd (by omega)
  have hpr0:decide ((l0.length:Int) > 1048576)=true:=Zd hpre0
  clear h hpre0
  have HB0:=Za (Below.refl w.heap.size w)
  clear hr0 hc0
  go_enter Tryd.func3,Tryd.ntmps3
  go_wp2
  go_ret
  exact⟨rfl,HB0.out⟩
 rw[if_neg hpre0] at h
 have hpq0:decide (1048576<l0.length)=false:=decide_eq_false (by omega)
 have hpr0:decide ((l0.length:Int) > 1048576)=false:=decide_eq_false hpre0
 clear hpre0
 replace h:=Option.bind_eq_some_iff.1 h
 obtain⟨u0_0,HF0,h⟩:=h
 (try dsimp only at h)
 replace HF0:=Za HF0
 replace h:=Option.bind_eq_some_iff.1 h
 obtain⟨u1_0,HF1,h⟩:=h
 (try dsimp only at h)
 replace HF1:=Za HF1
 replace h:=Option.bind_eq_some_iff.1 h
 obtain⟨u2_0,HF2,h⟩:=h
 (try dsimp only at h)
 replace HF2:=Za HF2
 by_cases ht34:u2_0=u1_0
 case neg=>rw[if_neg ht34] at h;exact absurd h (by simp)
 rw[if_pos ht34] at h
 subst ht34;clear h
 have HB0:=Za (Below.refl w.heap.size w)
 have Q0:=Za (And.intro hc0 (Kd.C_below hr0 HB0.out))
 clear hr0 hc0
 go_enter Tryd.func3,Tryd.ntmps3
 go_wp2_with fail
 refine(Zx.c k A0 c0 l0 _ _ Q0.out.2 Q0.out.1 HF0.out).mono ?_
 rintro e w1 ⟨X1_0,x1_0,rfl,g1_0,hb⟩
 have HB1:=Za (HB0.out.trans (hb.mono HB0.out.size))
 replace Q0:=Za (And.intro Q0.out.1 (Kd.C_below Q0.out.2 hb))
 have HK1:=Za fun (W:World) (hA:Below w1.heap.size w1 W)=>And.intro (HB1.out.trans (hA.mono HB1.out.size)) (And.intro (Za (And.intro Q0.out.1 (Kd.C_below Q0.out.2 hA))) ((Za (And.intro g1_0.out.1 (Kd.C_below g1_0.out.2 hA)))))
 clear Q0 g1_0 hb
 obtain⟨hB,Q0,g1_0⟩:=HK1.out _ (Below.refl _ _)
 go_wp2_with fail
 refine(Zo.calls k X1_0 x1_0 u0_0 _ _ g1_0.out.2 g1_0.out.1 HF1.out).mono ?_
 rintro e w2 ⟨rfl,hb⟩
 have B2:=Za hb;clear hB Q0 g1_0 hb
 have HK2:=Za fun (W:World) (hA:Below w2.heap.size w2 W)=>HK1.out W (B2.out.trans (hA.mono B2.out.size))
 obtain⟨hB,Q0,g1_0⟩:=HK2.out _ (Below.refl _ _)
 go_wp2_with fail
 refine(Zx.c k A0 c0 l0 _ _ Q0.out.2 Q0.out.1 HF0.out).mono ?_
 rintro e w3 ⟨X3_0,x3_0,rfl,g3_0,hb⟩
 have B3:=Za hb;clear hB Q0 g1_0 hb
 have HK3:=Za fun (W:World) (hA:Below w3.heap.size w3 W)=>And.intro (HK2.out W (B3.out.trans (hA.mono B3.out.size))) ((Za (And.intro g3_0.out.1 (Kd.C_below g3_0.out.2 hA))))
 clear g3_0
 obtain⟨⟨hB,Q0,g1_0⟩,g3_0⟩:=HK3.out _ (Below.refl _ _)
 go_wp2_with fail
 refine(Zp.calls k X3_0 x3_0 u0_0 _ _ g3_0.out.2 g3_0.out.1 (TW.below HTW.out hB) HF2.out).mono ?_
 rintro e w4 ⟨rfl,hb⟩
 have B4:=Za hb;clear hB Q0 g1_0 g3_0 hb
 have HK4:=Za fun (W:World) (hA:Below w4.heap.size w4 W)=>HK3.out W (B4.out.trans (hA.mono B4.out.size))
 obtain⟨⟨hB,Q0,g1_0⟩,g3_0⟩:=HK4.out _ (Below.refl _ _)
 go_wp2_with fail
 refine(Zx.c k A0 c0 l0 _ _ Q0.out.2 Q0.out.1 HF0.out).mono ?_
 rintro e w5 ⟨X5_0,x5_0,rfl,g5_0,hb⟩
 have B5:=Za hb;clear hB Q0 g1_0 g3_0 hb
 have HK5:=Za fun (W:World) (hA:Below w5.heap.size w5 W)=>And.intro (HK4.out W (B5.out.trans (hA.mono B5.out.size))) ((Za (And.intro g5_0.out.1 (Kd.C_below g5_0.out.2 hA))))
 clear g5_0
 obtain⟨⟨⟨hB,Q0,g1_0⟩,g3_0⟩,g5_0⟩:=HK5.out _ (Below.refl _ _)
 go_wp2_with fail
 refine(ZB.calls (2 ^ 64) X3_0 x3_0 u0_0 X5_0 x5_0 u0_0 true _ g3_0.out.2 g3_0.out.1 g5_0.out.2 g5_0.out.1 (eqIntS_refl _ (g3_0.out.2.2).1 (2 ^ 64) (Nat.le_refl _))).mono ?_
 rintro e w6 ⟨rfl,hd⟩
 have hb:=hd.below
 clear hd;have B6:=Za hb;clear hB Q0 g1_0 g3_0 g5_0 hb
 have HK6:=Za fun (W:World) (hA:Below w6.heap.size w6 W)=>HK5.out W (B6.out.trans (hA.mono B6.out.size))
 obtain⟨⟨⟨hB,Q0,g1_0⟩,g3_0⟩,g5_0⟩:=HK6.out _ (Below.refl _ _)
 go_wp2
 go_ret
 exact⟨rfl,(HK6.out _ (Below.refl _ _)).1.1.1⟩
end Go.Proofs.YthphnhmabieflaaDoor.Pr
namespace Go.Proofs.YthphnhmabieflaaDoor.Pr
open Go.RowKit Go.Proofs.YthphnhmabieflaaDoorW.PrintWords Go.Proofs.YthphnhmabieflaaDoorW.PrintLast Go.Proofs.YthphnhmabieflaaDoorW.PrintMore
attribute [local go_sem] Z4 Z2 Zaf Zae ZY ZX Z3 Z1
set_option linter.unusedVariables false
set_option linter.unusedSimpArgs false
def laws_FnExactFormatLabel.Pure:Prop:=∀(y0:List Int),(fun l_:List Int=>l_.length≤maxLen∧∀x_∈l_,(fun n_:Int=>(Lit.int .i64 n_).wf=true) x_) y0→∃k,laws_FnExactFormatLabel.f k y0=some true
end Go.Proofs.YthphnhmabieflaaDoor.Pr
namespace Go.Proofs.YthphnhmabieflaaDoor.Pure
open Go.RowKit Go.Proofs.YthphnhmabieflaaDoor.Pr Go.Proofs.YthphnhmabieflaaDoor.Ni Go.Proofs.YthphnhmabieflaaDoorW.PrintWords Go.Proofs.YthphnhmabieflaaDoorW.PrintMore
theorem FnExactFormatLabel:laws_FnExactFormatLabel.Pure:=by
 intro l _
 refine⟨2 ^ 70,?_⟩
 unfold laws_FnExactFormatLabel.f
 by_cases h:(l.length:Int) > 1048576
 ·rw[if_pos h]
 rw[if_neg h,toIntS_f l (by omega) (2 ^ 70) (by omega),Zg,ZaT l (by omega) (2 ^ 70) (by omega),Zg,ZaZ l (by omega) (2 ^ 70) (by omega),Zg,if_pos rfl]
end Go.Proofs.YthphnhmabieflaaDoor.Pure
