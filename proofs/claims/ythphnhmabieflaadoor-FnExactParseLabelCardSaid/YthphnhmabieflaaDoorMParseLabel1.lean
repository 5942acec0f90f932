/- The texts of one claim, put together by a program of this session. -/
import Derived.Deep.RegionHeld3
import Derived.Test.YthphnhmabieflaaDoorBPlc1x1
import Derived.Test.YthphnhmabieflaaDoorBPlc1x2
import Derived.Test.YthphnhmabieflaaDoorBPlc1x3
namespace Go.Proofs.YthphnhmabieflaaDoor.Pr
open Go.RowKit Go.Proofs.YthphnhmabieflaaDoorW.PrintWords Go.Proofs.YthphnhmabieflaaDoorW.PrintLast Go.Proofs.YthphnhmabieflaaDoorW.PrintMore
attribute [local go_sem] Zal Zaj Zas Zar Zaf Zae Zak Zai
set_option linter.unusedVariables false
set_option linter.unusedSimpArgs false
open Go.Proofs.YthphnhmabieflaaDoor.Ni
def laws_FnExactParseLabel.f (k:Nat) (a0:ByteArray):Option (Bool):=(if (a0.size:Int) > 1048576 then some true else((Zp.f k a0).bind fun b0=>((Zo.f k a0).bind fun b1=>(if b1.2=b0.2 then(if b1.1=b0.1 then(if b1.1.length≤1048576 then(some true) else some false) else some false) else some false))))
set_option maxHeartbeats 8000000 in
set_option maxRecDepth 100000 in
theorem laws_FnExactParseLabel.calls (k:Nat) (a0:ByteArray) (w:World)  (ht:TW w) (hev:EW w) (h:laws_FnExactParseLabel.f k a0=some true) :
  Calls Tryd.prog 7 #[.string a0] w fun e w'=>e=.returned (.bool true)∧Below w.heap.size w w':=by
 unfold laws_FnExactParseLabel.f at h
 have HTW:=Za ht;clear ht;have HEW:=Za hev;clear hev
 by_cases hpre0:(a0.size:Int) > 1048576
 case pos=>
  have hpq0:decide (1048576<a0.size)=true:=Zd (by omega)
  have hpr0:decide ((a0.size:Int) > 1048576)=true:=Zd hpre0
  clear h hpre0
  have HB0:=Za (Below.refl w.heap.size w)
  go_enter Tryd.func7,Tryd.ntmps7
  go_wp2
  go_ret
  exact⟨rfl,HB0.out⟩
 rw[if_neg hpre0] at h
 have hpq0:decide (1048576<a0.size)=false:=Ze (by omega)
 have hpr0:decide ((a0.size:Int) > 1048576)=false:=Ze hpre0
 clear hpre0
 replace h:=Option.bind_eq_some_iff.1 h
 obtain⟨⟨u0_0,u0_1⟩,HF0,h⟩:=h
 (try dsimp only at h)
 replace HF0:=Za HF0
 replace h:=Option.bind_eq_some_iff.1 h
 obtain⟨⟨u1_0,u1_1⟩,HF1,h⟩:=h
 (try dsimp only at h)
 replace HF1:=Za HF1
 by_cases ht31:u1_1=u0_1
 case neg=>rw[if_neg ht31] at h;exact absurd h (by simp)
 rw[if_pos ht31] at h
 subst ht31
 by_cases ht35:u1_0=u0_0
 case neg=>rw[if_neg ht35] at h;exact absurd h (by simp)
 rw[if_pos ht35] at h
 subst ht35
 by_cases ht39:u1_0.length≤1048576
 case neg=>rw[if_neg ht39] at h;exact absurd h (by simp)
 rw[if_pos ht39] at h
 have SM_u1_0:=Za (ht39)
 clear ht39 h
 have HB0:=Za (Below.refl w.heap.size w)
 go_enter Tryd.func7,Tryd.ntmps7
 go_wp2_with fail
 refine(Zp.c k a0 _ _ _  HF0.out).mono ?_
 rintro e w1 ⟨X1_0,x1_0,rfl,g1_0,hb⟩
 have HB1:=Za (HB0.out.trans (hb.mono HB0.out.size))
 have HK1:=Za fun (W:World) (hA:Below w1.heap.size w1 W)=>And.intro (HB1.out.trans (hA.mono HB1.out.size)) ((Za (And.intro g1_0.out.1 (Kd.C_below g1_0.out.2 hA))))
 clear g1_0 hb
 obtain⟨hB,g1_0⟩:=HK1.out _ (Below.refl _ _)
 go_wp2_with fail
 refine(Zo.o k a0 _ _ _  (TW.below HTW.out hB) (EW.below HEW.out hB) HF1.out).mono ?_
 rintro e w2 ⟨X2_0,x2_0,rfl,g2_0,ow2,hb⟩
 have B2:=Za hb
 replace ow2:=Za (Kd.R_lower (Kd.R_mono ow2.out (fun k hk=>And.intro hk.1 (And.intro (Nat.le_trans (Nat.le_refl _) hk.2.1) hk.2.2))) (Nat.le_refl _))
 have sz2:=Nat.le_refl w2.heap.size
 have bE:=B2.out
 clear hB g1_0 hb
 have HK2:=Za fun (W:World) (hA:Below w2.heap.size w2 W)=>And.intro (HK1.out W (B2.out.trans (hA.mono B2.out.size))) (And.intro (Za (Kd.R_below ow2.out hA)) (And.intro (Nat.le_trans sz2 hA.size) (And.intro (bE.trans (hA.mono bE.size)) ((Za (And.intro g2_0.out.1 (Kd.C_below g2_0.out.2 hA)))))))
 clear ow2 sz2 bE g2_0
 obtain⟨⟨hB,g1_0⟩,ow2,sz2,bE,g2_0⟩:=HK2.out _ (Below.refl _ _)
 go_wp2_with fail
 refine(ZV.calls (2 ^ 64) X2_0 x2_0 u1_0 X1_0 x1_0 u1_0 true _ g2_0.out.2 g2_0.out.1 g1_0.out.2 g1_0.out.1 (ZbT _ (g2_0.out.2.2).1 (2 ^ 64) (Nat.le_refl _))).mono ?_
 rintro e w3 ⟨rfl,hd⟩
 have hb:=hd.below
 clear hd;have B3:=Za hb;clear hB g1_0 ow2 sz2 bE g2_0 hb
 have HK3:=Za fun (W:World) (hA:Below w3.heap.size w3 W)=>HK2.out W (B3.out.trans (hA.mono B3.out.size))
 obtain⟨⟨hB,g1_0⟩,ow2,sz2,bE,g2_0⟩:=HK3.out _ (Below.refl _ _)
 have le2_3:=sz2
 go_wp2_with fail
 refine(markIntS_k w1 _ _ _ _ bE (Kd.R_mono ow2.out (fun k hk=>hk.2.2)) SM_u1_0.out _ (by have:=SM_u1_0.out;omega) (by have:=SM_u1_0.out;omega)).mono ?_
 rintro e w4 ⟨rfl,hm0,hb,hk⟩
 have hqw4:=(Ze (by have:=SM_u1_0.out;omega):decide ((1+(u1_0.length:Int))<0)=false)
 have B4:=Za hb
 replace ow2:=Za hm0
 replace sz2:=Nat.le_trans sz2 hk.1
 replace bE:=hb
 replace g2_0:=Za (marked_reads hm0)
 clear hB g1_0 hk
 have HK4:=Za fun (W:World) (hA:Below w4.heap.size w4 W)=>And.intro (HK1.out W (B4.out.trans (hA.mono B4.out.size))) (And.intro (Za (Kd.R_below ow2.out hA)) (And.intro (Nat.le_trans sz2 hA.size) (And.intro (bE.trans (hA.mono bE.size)) ((Za (And.intro g2_0.out.1 (Kd.C_below g2_0.out.2 hA)))))))
 clear ow2 sz2 bE g2_0 hm0
 obtain⟨⟨hB,g1_0⟩,ow2,sz2,bE,g2_0⟩:=HK4.out _ (Below.refl _ _)
 have le2_4:=sz2
 go_wp2_with fail
 refine(Zce _ _ _ _ _ g2_0.out.2 g2_0.out.1 SM_u1_0.out (by have:=SM_u1_0.out;omega) (by have:=SM_u1_0.out;omega)).mono ?_
 rintro e w5 ⟨rfl,hb⟩
 have B5:=Za hb;clear hB g1_0 ow2 sz2 bE g2_0 hb
 have HK5:=Za fun (W:World) (hA:Below w5.heap.size w5 W)=>HK4.out W (B5.out.trans (hA.mono B5.out.size))
 obtain⟨⟨hB,g1_0⟩,ow2,sz2,bE,g2_0⟩:=HK5.out _ (Below.refl _ _)
 have le2_5:=sz2
 go_wp2_with fail
 refine(Zo.o k a0 _ _ _  (TW.below HTW.out hB) (EW.below HEW.out hB) HF1.out).mono ?_
 rintro e w6 ⟨X6_0,x6_0,rfl,g6_0,ow6,hb⟩
 have B6:=Za hb
 replace ow6:=Za (Kd.R_lower (Kd.R_mono ow6.out (fun k hk=>And.intro hk.1 (And.intro (Nat.le_trans (Nat.le_refl _) hk.2.1) hk.2.2))) (Nat.le_trans bE.size (Nat.le_refl _)))
 have sz6:=Nat.le_refl w6.heap.size
 clear hB g1_0 ow2 sz2 bE g2_0 hb
 have HK6:=Za fun (W:World) (hA:Below w6.heap.size w6 W)=>And.intro (HK5.out W (B6.out.trans (hA.mono B6.out.size))) (And.intro (Za (Kd.R_below ow6.out hA)) (And.intro (Nat.le_trans sz6 hA.size) ((Za (And.intro g6_0.out.1 (Kd.C_below g6_0.out.2 hA))))))
 clear ow6 sz6 g6_0
 obtain⟨⟨⟨hB,g1_0⟩,ow2,sz2,bE,g2_0⟩,ow6,sz6,g6_0⟩:=HK6.out _ (Below.refl _ _)
 have le2_6:=sz2
 go_wp2_with fail
 refine(ZV.calls (2 ^ 64) X6_0 x6_0 u1_0 X1_0 x1_0 u1_0 true _ g6_0.out.2 g6_0.out.1 g1_0.out.2 g1_0.out.1 (ZbT _ (g6_0.out.2.2).1 (2 ^ 64) (Nat.le_refl _))).mono ?_
 rintro e w7 ⟨rfl,hd⟩
 have hb:=hd.below
 clear hd;have B7:=Za hb;clear hB g1_0 ow2 sz2 bE g2_0 ow6 sz6 g6_0 hb
 have HK7:=Za fun (W:World) (hA:Below w7.heap.size w7 W)=>HK6.out W (B7.out.trans (hA.mono B7.out.size))
 obtain⟨⟨⟨hB,g1_0⟩,ow2,sz2,bE,g2_0⟩,ow6,sz6,g6_0⟩:=HK7.out _ (Below.refl _ _)
 have le2_7:=sz2
 have le6_7:=sz6
 go_wp2_with fail
 refine(Zce _ _ _ _ _ g2_0.out.2 g2_0.out.1 SM_u1_0.out (by have:=SM_u1_0.out;omega) (by have:=SM_u1_0.out;omega)).mono ?_
 rintro e w8 ⟨rfl,hb⟩
 have B8:=Za hb;clear hB g1_0 ow2 sz2 bE g2_0 ow6 sz6 g6_0 hb
 have HK8:=Za fun (W:World) (hA:Below w8.heap.size w8 W)=>HK7.out W (B8.out.trans (hA.mono B8.out.size))
 obtain⟨⟨⟨hB,g1_0⟩,ow2,sz2,bE,g2_0⟩,ow6,sz6,g6_0⟩:=HK8.out _ (Below.refl _ _)
 have le2_8:=sz2
 have le6_8:=sz6
 go_wp2
 go_ret
 exact⟨rfl,(HK8.out _ (Below.refl _ _)).1.1.1⟩
end Go.Proofs.YthphnhmabieflaaDoor.Pr
namespace Go.Proofs.YthphnhmabieflaaDoor.Pr
open Go.RowKit Go.Proofs.YthphnhmabieflaaDoorW.PrintWords Go.Proofs.YthphnhmabieflaaDoorW.PrintLast Go.Proofs.YthphnhmabieflaaDoorW.PrintMore
attribute [local go_sem] Zal Zaj Zas Zar Zaf Zae Zak Zai
set_option linter.unusedVariables false
set_option linter.unusedSimpArgs false
def laws_FnExactParseLabel.Pure:Prop:=∀(y0:ByteArray),(fun s_:ByteArray=>s_.size≤maxLen) y0→∃k,laws_FnExactParseLabel.f k y0=some true
end Go.Proofs.YthphnhmabieflaaDoor.Pr
namespace Go.Proofs.YthphnhmabieflaaDoor.Pure
open Go.RowKit Go.Proofs.YthphnhmabieflaaDoor.Pr Go.Proofs.YthphnhmabieflaaDoor.Ni Go.Proofs.YthphnhmabieflaaDoorW.PrintWords Go.Proofs.YthphnhmabieflaaDoorW.PrintMore
theorem FnExactParseLabel:laws_FnExactParseLabel.Pure:=by
 intro s _
 refine⟨2 ^ 70,?_⟩
 unfold laws_FnExactParseLabel.f
 by_cases h:(s.size:Int) > 1048576
 ·rw[if_pos h]
 have hl:s.data.toList.length≤1048576:=by rw[← ZbK];omega
 have h3:=parseL_len s.data.toList
 rw[if_neg h,← bs_of s,ZbN _ hl (2 ^ 70) (by omega),Zh,ZbO _ hl (2 ^ 70) (by omega),Zh,if_pos rfl,if_pos rfl,if_pos (by omega)]
end Go.Proofs.YthphnhmabieflaaDoor.Pure
