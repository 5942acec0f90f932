/- The texts of one claim, put together by a program of this session. -/
import Derived.Deep.LoopGhost
import Derived.Test.YtodfnelilhjoeaaBSsc1x1
import Derived.Test.YtodfnelilhjoeaaBSsc1x10
import Derived.Test.YtodfnelilhjoeaaBSsc1x3
import Derived.Test.YtodfnelilhjoeaaBSsc1x8
import Derived.Test.YtodfnelilhjoeaaBSsc1x9
namespace Go.Proofs.Ytodfnelilhjoeaa.Pr
open Go.RowKit Go.Proofs.YtodfnelilhjoeaaW.PrintWords Go.Proofs.YtodfnelilhjoeaaW.PrintLast Go.Proofs.YtodfnelilhjoeaaW.PrintMore
attribute [local go_sem] max2_int min2_int max_two min_two max_three min_three max_four min_four
set_option linter.unusedVariables false
set_option linter.unusedSimpArgs false
open Go.Proofs.Ytodfnelilhjoeaa.Ni
def nodeW (ns : List S116) (n : S116) : Bool := !(n.f1.any fun x => !watchedB ns n.f1 x)
def pshowB (ns : List S116) (ts : List S90) (z : Int) : Bool := areNodesB ns && areTiesB ns ts && !(decide (z < 1)) && !(decide (10 < z)) && ns.all (nodeW ns)
def impl_ShowOk.f (l0_0 : List (S116)) (l0_1 : List (S90)) (a0_2 : Int) : Option Bool := if fitN l0_0 = true then some (pshowB l0_0 l0_1 a0_2) else none
set_option maxHeartbeats 8000000 in
theorem impl_ShowOk_1.clo (k : Nat) (hk : 2 ^ 64 ≤ k) (B D : Nat) (A0_0 : Option Addr) (c0_0 : Nat) (l0_0 : List S116) (A0_1 : Option Addr) (c0_1 : Nat) (l0_1 : List S90) (a0_2 : Int) (An : Option Addr) (cn : Nat) (lb : List Int) (x : Int) (W : World)
  (h0 : W.cell? ⟨B, 0, none⟩ = some (.slice A0_0 l0_0.length c0_0)) (h1 : W.cell? ⟨B, 1, none⟩ = some (.slice A0_1 l0_1.length c0_1)) (h2 : W.cell? ⟨B, 2, none⟩ = some (.int .i64 a0_2)) (h3 : W.cell? ⟨D, 1, none⟩ = some (.slice An lb.length cn))
  (hr0_0 : Kd.C k116 W A0_0 l0_0.length l0_0) (hc0_0 : l0_0.length ≤ c0_0) (hr0_1 : Kd.C k90 W A0_1 l0_1.length l0_1) (hc0_1 : l0_1.length ≤ c0_1) (hrn : Kd.C (Kd.int .i64) W An lb.length lb) (hcn : lb.length ≤ cn)
  (hf : impl_isWatched.f k l0_0 l0_1 a0_2 lb x = some (watchedB l0_0 lb x)) :
  Calls Try.prog 124 #[.int .i64 x, .pointer (some ⟨B, 0, none⟩), .pointer (some ⟨D, 0, none⟩)] W fun e w' => e = .returned (.bool (!watchedB l0_0 lb x)) ∧ Below W.heap.size W w' := by
 have hltB : B < W.heap.size := World.block_lt_of_cell? W _ h0
 have hltD : D < W.heap.size := World.block_lt_of_cell? W _ h3
 have HC := Aside0.mk (impl_isWatched.calls k A0_0 c0_0 l0_0 A0_1 c0_1 l0_1 a0_2 An cn lb x _ W hr0_0 hc0_0 hr0_1 hc0_1 hrn hcn hf)
 have hu := Try.underlying35
 have hu2 := Try.underlying116
 clear hr0_0 hr0_1 hrn hf hc0_0 hc0_1 hcn
 cases b : watchedB l0_0 lb x
 all_goals
  rw [b] at HC
  clear b
  go_enter Try.func124, Try.ntmps124
  go_wp2_with (go_at_call 125; refine HC.out.mono ?_; rintro e w' ⟨rfl, hb⟩)
  go_ret
  exact ⟨rfl, hb⟩
set_option maxHeartbeats 8000000 in
set_option maxRecDepth 100000 in
theorem impl_ShowOk.calls (A0_0 : Option Addr) (c0_0 : Nat) (l0_0 : List (S116)) (A0_1 : Option Addr) (c0_1 : Nat) (l0_1 : List (S90)) (a0_2 : Int) (r : Bool) (w : World) (hr0_0 : Kd.C k116 w A0_0 l0_0.length l0_0) (hc0_0 : l0_0.length ≤ c0_0) (hr0_1 : Kd.C k90 w A0_1 l0_1.length l0_1) (hc0_1 : l0_1.length ≤ c0_1) (h : impl_ShowOk.f l0_0 l0_1 a0_2 = some r) :
  Calls Try.prog 72 #[.agg #[.slice A0_0 l0_0.length c0_0, .slice A0_1 l0_1.length c0_1, .int .i64 a0_2]] w fun e w' => e = .returned (.bool r) ∧ Below w.heap.size w w' := by
 by_cases hfit : fitN l0_0 = true
 case neg => rw [impl_ShowOk.f, if_neg hfit] at h; exact absurd h (by simp)
 rw [impl_ShowOk.f, if_pos hfit] at h
 obtain rfl := Option.some.inj h
 have hfi := fitN_iff hfit
 have hL : l0_0.length ≤ 9223372036854775807 := hr0_0.2.1
 have HRn := Aside0.mk hr0_0; have HRt := Aside0.mk hr0_1; have HCn := Aside0.mk hc0_0; have HCt := Aside0.mk hc0_1; have HFI := Aside0.mk hfi
 have B1 := Aside0.mk (below_alloc (Below.refl w.heap.size w) (.cells #[.slice A0_0 l0_0.length c0_0, .slice A0_1 l0_1.length c0_1, .int .i64 a0_2] 35))
 have HK := Aside0.mk fun (W : World) (hA : Below (w.alloc (.cells #[.slice A0_0 l0_0.length c0_0, .slice A0_1 l0_1.length c0_1, .int .i64 a0_2] 35)).heap.size (w.alloc (.cells #[.slice A0_0 l0_0.length c0_0, .slice A0_1 l0_1.length c0_1, .int .i64 a0_2] 35)) W) => And.intro (B1.out.trans (hA.mono B1.out.size)) (And.intro (kcell hA (show _ = some (.slice A0_0 l0_0.length c0_0) from showCell0 w _ _ _ _)) (And.intro (kcell hA (showCell1 w _ _ _ _)) (And.intro (kcell hA (showCell2 w _ _ _ _)) (show w.heap.size < W.heap.size from Nat.lt_of_lt_of_le (by simp) hA.size))))
 have HN := Aside0.mk fun (W : World) (hb : Below w.heap.size w W) => impl_areNodes.calls (2 ^ 65) A0_0 c0_0 l0_0 A0_1 c0_1 l0_1 a0_2 _ W (Kd.C_below hr0_0 hb) hc0_0 (Kd.C_below hr0_1 hb) hc0_1 (areNodes_f l0_0 l0_1 a0_2 hfi (2 ^ 65) (Nat.le_refl _))
 have HT := Aside0.mk fun (W : World) (hb : Below w.heap.size w W) => impl_areTies.calls A0_0 c0_0 l0_0 A0_1 c0_1 l0_1 a0_2 _ W (Kd.C_below hr0_0 hb) hc0_0 (Kd.C_below hr0_1 hb) hc0_1 rfl
 have hlb : areNodesB l0_0 = true → ∀ n ∈ l0_0, ∀ x ∈ n.f1, litOk x = true := areNodesB_lit
 clear hr0_0 hr0_1 hc0_0 hc0_1 h hfi hfit
 have hu := Try.underlying35
 have hu2 := Try.underlying116
 cases b1 : areNodesB l0_0 with
 | false =>
  rw [b1] at HN
  have HF := Aside0.mk (show pshowB l0_0 l0_1 a0_2 = false by simp [pshowB, b1])
  clear hlb b1
  go_enter Try.func72, Try.ntmps72
  go_wp2_with (go_at_call 121; refine (HN.out _ B1.out).mono ?_; rintro e w1 ⟨rfl, hb⟩; obtain ⟨hB, hc0, hc1, hc2, hS⟩ := HK.out _ hb)
  go_ret
  exact ⟨by rw [HF.out]; rfl, hB⟩
 | true =>
 rw [b1] at HN
 have HLB := Aside0.mk (hlb b1)
 clear hlb
 cases b2 : areTiesB l0_0 l0_1 with
 | false =>
  rw [b2] at HT
  have HF := Aside0.mk (show pshowB l0_0 l0_1 a0_2 = false by simp [pshowB, b2])
  clear b1 b2
  go_enter Try.func72, Try.ntmps72
  go_wp2_with (first | (go_at_call 121; refine (HN.out _ B1.out).mono ?_; rintro e w1 ⟨rfl, hA⟩; obtain ⟨hB, hc0, hc1, hc2, hS⟩ := HK.out _ hA) | (go_at_call 122; refine (HT.out _ hB).mono ?_; rintro e w2 ⟨rfl, hb⟩; replace hA := hA.trans (hb.mono hA.size); clear hB hc0 hc1 hc2 hS; obtain ⟨hB, hc0, hc1, hc2, hS⟩ := HK.out _ hA; clear hb))
  go_ret
  exact ⟨by rw [HF.out]; rfl, hB⟩
 | true =>
 rw [b2] at HT
 cases b3 : decide (a0_2 < 1) with
 | true =>
  have HF := Aside0.mk (show pshowB l0_0 l0_1 a0_2 = false by simp [pshowB, b3])
  clear b1 b2
  go_enter Try.func72, Try.ntmps72
  go_wp2_with (first | (go_at_call 121; refine (HN.out _ B1.out).mono ?_; rintro e w1 ⟨rfl, hA⟩; obtain ⟨hB, hc0, hc1, hc2, hS⟩ := HK.out _ hA) | (go_at_call 122; refine (HT.out _ hB).mono ?_; rintro e w2 ⟨rfl, hb⟩; replace hA := hA.trans (hb.mono hA.size); clear hB hc0 hc1 hc2 hS; obtain ⟨hB, hc0, hc1, hc2, hS⟩ := HK.out _ hA; clear hb))
  go_ret
  exact ⟨by rw [HF.out]; rfl, hB⟩
 | false =>
 cases b4 : decide (10 < a0_2) with
 | true =>
  have HF := Aside0.mk (show pshowB l0_0 l0_1 a0_2 = false by simp [pshowB, b4])
  clear b1 b2
  go_enter Try.func72, Try.ntmps72
  go_wp2_with (first | (go_at_call 121; refine (HN.out _ B1.out).mono ?_; rintro e w1 ⟨rfl, hA⟩; obtain ⟨hB, hc0, hc1, hc2, hS⟩ := HK.out _ hA) | (go_at_call 122; refine (HT.out _ hB).mono ?_; rintro e w2 ⟨rfl, hb⟩; replace hA := hA.trans (hb.mono hA.size); clear hB hc0 hc1 hc2 hS; obtain ⟨hB, hc0, hc1, hc2, hS⟩ := HK.out _ hA; clear hb))
  go_ret
  exact ⟨by rw [HF.out]; rfl, hB⟩
 | false =>
 have HF := Aside0.mk (show pshowB l0_0 l0_1 a0_2 = l0_0.all (nodeW l0_0) by simp [pshowB, b1, b2, b3, b4])
 clear b1 b2
 go_enter Try.func72, Try.ntmps72
 go_wp2_with (first | (go_at_call 121; refine (HN.out _ B1.out).mono ?_; rintro e w1 ⟨rfl, hA⟩; obtain ⟨hB, hc0, hc1, hc2, hS⟩ := HK.out _ hA) | (go_at_call 122; refine (HT.out _ hB).mono ?_; rintro e w2 ⟨rfl, hb⟩; replace hA := hA.trans (hb.mono hA.size); clear hB hc0 hc1 hc2 hS; obtain ⟨hB, hc0, hc1, hc2, hS⟩ := HK.out _ hA; clear hb))
 have HB0 := Aside0.mk hB
 have HX0 := Aside0.mk (And.intro hc0 (And.intro hc1 hc2))
 have HS0 := Aside0.mk hS; clear hA hB hc0 hc1 hc2 hS
 go_loopg [4, 26] l0_0.length (fun gg _ s26 wr => ∃ kk : Nat, Aside0 (kk ≤ l0_0.length) ∧ Aside0 (l0_0.length - kk ≤ gg) ∧ s26 = .int .i64 kk ∧ Aside0 (Below w.heap.size w wr) ∧ Aside0 (w.heap.size < wr.heap.size) ∧ Aside0 (wr.cell? ⟨w.heap.size, 0, none⟩ = some (.slice A0_0 l0_0.length c0_0) ∧ wr.cell? ⟨w.heap.size, 1, none⟩ = some (.slice A0_1 l0_1.length c0_1) ∧ wr.cell? ⟨w.heap.size, 2, none⟩ = some (.int .i64 a0_2)) ∧ Aside0 (l0_0.all (nodeW l0_0) = (l0_0.drop kk).all (nodeW l0_0)))
 case atStart => exact ⟨0, ⟨Nat.zero_le _⟩, ⟨by omega⟩, rfl, HB0, HS0, HX0, ⟨rfl⟩⟩
 case round =>
  obtain ⟨kk, HK', HG, rfl, HBr, HS, HX, HN'⟩ := hrel
  have hsz := HS.out
  obtain ⟨hb0, hb1, hb2_⟩ := HX.out
  by_cases hlt : kk < l0_0.length
  ·have hltz : (kk : Int) < (l0_0.length : Int) := by omega
   obtain ⟨ad, Am, cm, e1, hm0, hm1, hm2, lm, gm⟩ := at_T116 HRn.out (kk : Int) (by omega) hltz
   cases e1
   have HDR := Aside0.mk (drop_cons hlt z116)
   have hmem := Aside0.mk (getD_mem hlt z116)
   rw [← rdN_nat] at HDR hmem
   rw [Int.toNat_natCast] at hm0 hm1 hm2
   generalize rd_T116 l0_0 (kk : Int) = y at hm0 hm1 hm2 lm gm HDR hmem
   replace hm0 := kcell HBr.out hm0
   replace hm1 := kcell HBr.out hm1
   replace hm2 := kcell HBr.out hm2
   have hlta := World.block_lt_of_cell? wr _ hm0
   have LM := Aside0.mk lm
   have GM := Aside0.mk (Kd.C_below gm HBr.out)
   clear lm gm
   have B2 := Aside0.mk (below_alloc (Below.refl wr.heap.size wr) (.cells #[.string y.f0, .slice Am y.f1.length cm, .int .i64 y.f2] 116))
   have HC := Aside0.mk fun (W : World) (hb : Below wr.heap.size wr W) (hcell : W.cell? ⟨wr.heap.size, 1, none⟩ = some (.slice Am y.f1.length cm)) => slices_ContainsFunc_int_int.any (fun x => !watchedB l0_0 y.f1 x) 124 #[.pointer (some ⟨w.heap.size, 0, none⟩), .pointer (some ⟨wr.heap.size, 0, none⟩)] (enters_of Try.func124 (by kernel_rfl) rfl) Am cm y.f1 W (Kd.C_below GM.out hb)
    (fun W' x hx hb' => impl_ShowOk_1.clo (2 ^ 64) (Nat.le_refl _) w.heap.size wr.heap.size (some ad) c0_0 l0_0 A0_1 c0_1 l0_1 a0_2 Am cm y.f1 x W' (kcell hb' (kcell hb HX.out.1)) (kcell hb' (kcell hb HX.out.2.1)) (kcell hb' (kcell hb HX.out.2.2)) (kcell hb' hcell)
     (Kd.C_below (Kd.C_below (Kd.C_below HRn.out HBr.out) hb) hb') HCn.out (Kd.C_below (Kd.C_below (Kd.C_below HRt.out HBr.out) hb) hb') HCt.out (Kd.C_below (Kd.C_below GM.out hb) hb') LM.out
     (isWatched_f l0_0 l0_1 a0_2 y.f1 x (fun n hn => (HFI.out n hn).2) (HFI.out y hmem.out).2 (HLB.out y hmem.out x hx) (2 ^ 64) (Nat.le_refl _)))
   cases b5 : y.f1.any (fun x => !watchedB l0_0 y.f1 x) with
   | true =>
    rw [b5] at HC
    have HF2 := Aside0.mk (show pshowB l0_0 l0_1 a0_2 = false by
     rw [HF.out, HN'.out, HDR.out, List.all_cons, show nodeW l0_0 y = false by unfold nodeW; rw [b5]; rfl]; rfl)
    clear b5
    go_wp2_with fail
    refine (HC.out _ B2.out (by go_simp)).mono ?_
    rintro e w3 ⟨rfl, hb⟩
    have hb3 := B2.out.trans (hb.mono B2.out.size)
    go_wp2
    go_ret
    exact ⟨by rw [HF2.out]; rfl, HBr.out.trans (hb3.mono HBr.out.size)⟩
   | false =>
    rw [b5] at HC
    have HF2 := Aside0.mk (show l0_0.all (nodeW l0_0) = (l0_0.drop (kk + 1)).all (nodeW l0_0) by
     rw [HN'.out, HDR.out, List.all_cons, show nodeW l0_0 y = true by unfold nodeW; rw [b5]; rfl]; rfl)
    clear b5
    go_wp2_with fail
    refine (HC.out _ B2.out (by go_simp)).mono ?_
    rintro e w3 ⟨rfl, hb⟩
    have hb3 := B2.out.trans (hb.mono B2.out.size)
    go_wp2
    go_roundg (l0_0.length - (kk + 1))
    case measure => have := HG.out; omega
    case rel => exact ⟨kk + 1, ⟨by omega⟩, ⟨by omega⟩, by go_num, ⟨HBr.out.trans (hb3.mono HBr.out.size)⟩, ⟨by have := hb3.size; omega⟩, ⟨kcell hb3 hb0, kcell hb3 hb1, kcell hb3 hb2_⟩, HF2⟩
  ·have hltz : ¬ (kk : Int) < (l0_0.length : Int) := by omega
   have : kk = l0_0.length := by have := HK'.out; omega
   subst this
   have HF2 := Aside0.mk (show pshowB l0_0 l0_1 a0_2 = true by
    rw [HF.out, HN'.out, List.drop_length]; rfl)
   go_wp2
   go_ret
   exact ⟨by rw [HF2.out]; rfl, HBr.out⟩

end Go.Proofs.Ytodfnelilhjoeaa.Pr
namespace Go.Proofs.Ytodfnelilhjoeaa.Pr
open Go.RowKit Go.Proofs.YtodfnelilhjoeaaW.PrintWords Go.Proofs.YtodfnelilhjoeaaW.PrintLast Go.Proofs.YtodfnelilhjoeaaW.PrintMore
attribute [local go_sem] max2_int min2_int max_two min_two max_three min_three max_four min_four
set_option linter.unusedVariables false
set_option linter.unusedSimpArgs false
def impl_StartState.f (l0_0 : List (S116)) (l0_1 : List (S90)) (a0_2 : Int) : Option (Int × List Int × List Int) := (impl_ShowOk.f l0_0 l0_1 a0_2).bind fun t46003 => (if t46003 = true then ((slices_Repeat_int_int.f (([(-1)] : List Int)) (l0_0.length : Int)).bind fun t46007 => (if 3 ≤ 35184372088832 then (if 0 < (t46007.length : Int) then (some (0, (t46007.set (0 : Int).toNat 0), (List.replicate 3 0))) else (none)) else (none))) else (some (0, ([] : List Int), ([] : List Int))))
def impl_StartState.T3 : Bool × List (List Nat × List Nat) := (true, [([], []), ([], []), ([1], [1]), ([2], [2]), ([0, 3], [0, 3]), ([], []), ([4, 5], [4, 5]), ([], []), ([7, 6, 4, 0, 1, 2, 3, 4, 5, 6, 7], [6, 7])])
def impl_StartState.B3 : List Nat := [0, 0, 2, 6, 15, 0, 63, 0, 255]
theorem impl_StartState.tab3 : rtab .any (opsOf Try.f46 3) = impl_StartState.T3 := by kernel_rfl
theorem impl_StartState.bits3 : waitsOk impl_StartState.T3.2 impl_StartState.B3 = true := by kernel_rfl
set_option maxHeartbeats 8000000 in
set_option maxRecDepth 100000 in
theorem impl_StartState.calls (A0_0 : Option Addr) (c0_0 : Nat) (l0_0 : List (S116)) (A0_1 : Option Addr) (c0_1 : Nat) (l0_1 : List (S90)) (a0_2 : Int) (r1 : Int) (r2 : List Int) (r3 : List Int) (w : World) (hr0_0 : Kd.C k116 w A0_0 l0_0.length l0_0) (hc0_0 : l0_0.length ≤ c0_0) (hr0_1 : Kd.C k90 w A0_1 l0_1.length l0_1) (hc0_1 : l0_1.length ≤ c0_1) (h : impl_StartState.f l0_0 l0_1 a0_2 = some (r1, r2, r3)) :
  Calls Try.prog 46 #[.agg #[.slice A0_0 l0_0.length c0_0, .slice A0_1 l0_1.length c0_1, .int .i64 a0_2]] w fun e w' => ∃ v1_ v2_ : Value, e = .returned (.agg #[.int .i64 r1, v1_, v2_]) ∧ Kd.R (Kd.int .i64) 3 w' w.heap.size (fun k_ => some k_ ≠ (v2_ : Value).ownBlock) v1_ r2 ∧ Kd.R (Kd.int .i64) 3 w' w.heap.size (fun k_ => some k_ ≠ (v1_ : Value).ownBlock) v2_ r3 ∧ Below w.heap.size w w' := by
 have hu35 := Try.underlying35
 have hu66 := Try.underlying66
 have HR0_0 := Aside0.mk hr0_0; have HC0_0 := Aside0.mk hc0_0; clear hr0_0 hc0_0; have HR0_1 := Aside0.mk hr0_1; have HC0_1 := Aside0.mk hc0_1; clear hr0_1 hc0_1
 have HB := Aside0.mk (Below.refl w.heap.size w)
 have H : ((impl_ShowOk.f l0_0 l0_1 a0_2).bind fun t46003 => (if t46003 = true then ((slices_Repeat_int_int.f (([(-1)] : List Int)) (l0_0.length : Int)).bind fun t46007 => (if 3 ≤ 35184372088832 then (if 0 < (t46007.length : Int) then (some (0, (t46007.set (0 : Int).toNat 0), (List.replicate 3 0))) else (none)) else (none))) else (some (0, ([] : List Int), ([] : List Int))))) = some (r1, r2, r3) := h
 clear h
 replace H := Option.bind_eq_some_iff.mp H
 obtain ⟨t46003, A20, H⟩ := H
 replace H : (if t46003 = true then ((slices_Repeat_int_int.f (([(-1)] : List Int)) (l0_0.length : Int)).bind fun t46007 => (if 3 ≤ 35184372088832 then (if 0 < (t46007.length : Int) then (some (0, (t46007.set (0 : Int).toNat 0), (List.replicate 3 0))) else (none)) else (none))) else (some (0, ([] : List Int), ([] : List Int)))) = some (r1, r2, r3) := H
 have A2 := Aside0.mk A20; clear A20
 by_cases c3 : t46003 = true
 ·subst c3
  have H1 : ((slices_Repeat_int_int.f (([(-1)] : List Int)) (l0_0.length : Int)).bind fun t46007 => (if 3 ≤ 35184372088832 then (if 0 < (t46007.length : Int) then (some (0, (t46007.set (0 : Int).toNat 0), (List.replicate 3 0))) else (none)) else (none))) = some (r1, r2, r3) := by rw [if_pos rfl] at H; exact H
  clear H
  have H := H1
  clear H1
  obtain ⟨y46004, hy46004⟩ : ∃ y_ : List Int, y_ = (([(-1)] : List Int)) := ⟨_, rfl⟩
  replace H : ((slices_Repeat_int_int.f y46004 (l0_0.length : Int)).bind fun t46007 => (if 3 ≤ 35184372088832 then (if 0 < (t46007.length : Int) then (some (0, (t46007.set (0 : Int).toNat 0), (List.replicate 3 0))) else (none)) else (none))) = some (r1, r2, r3) := by first | (rw [hy46004]; with_reducible exact H) | (have H2_ := (Option.bind_some _ _).symm.trans H; rw [hy46004]; with_reducible exact H2_) | (have H2_ := (Option.bind_some _ _).symm.trans H; with_reducible exact H2_) | with_reducible exact H | (rw [hy46004]; exact H) | exact H
  have Ny46004 := Aside0.mk hy46004; clear hy46004
  replace H := Option.bind_eq_some_iff.mp H
  obtain ⟨t46007, A40, H⟩ := H
  replace H : (if 3 ≤ 35184372088832 then (if 0 < (t46007.length : Int) then (some (0, (t46007.set (0 : Int).toNat 0), (List.replicate 3 0))) else (none)) else (none)) = some (r1, r2, r3) := H
  have A4 := Aside0.mk A40; clear A40
  by_cases c5 : 3 ≤ 35184372088832
  ·rw [if_pos c5] at H
   have c5b0 := eq_true c5
   have c5b1 : decide (3 ≤ 35184372088832) = true := decide_eq_true c5
   clear c5
   obtain ⟨y46010, hy46010⟩ : ∃ y_ : List Int, y_ = (List.replicate 3 0) := ⟨_, rfl⟩
   replace H : (if 0 < (t46007.length : Int) then (some (0, (t46007.set (0 : Int).toNat 0), y46010)) else (none)) = some (r1, r2, r3) := by first | (rw [hy46010]; with_reducible exact H) | (have H2_ := (Option.bind_some _ _).symm.trans H; rw [hy46010]; with_reducible exact H2_) | (have H2_ := (Option.bind_some _ _).symm.trans H; with_reducible exact H2_) | with_reducible exact H | (rw [hy46010]; exact H) | exact H
   have Ny46010 := Aside0.mk hy46010; clear hy46010
   by_cases c6 : 0 < (t46007.length : Int)
   ·rw [if_pos c6] at H
    have c6b0 : decide (0 < (t46007.length : Int)) = true := decide_eq_true c6
    have c6b1 : decide (0 < t46007.length) = true := decide_eq_true (by omega)
    clear c6
    obtain ⟨y46014, hy46014⟩ : ∃ y_ : List Int, y_ = (t46007.set (0 : Int).toNat 0) := ⟨_, rfl⟩
    replace H : (some (0, y46014, y46010)) = some (r1, r2, r3) := by first | (rw [hy46014]; with_reducible exact H) | (have H2_ := (Option.bind_some _ _).symm.trans H; rw [hy46014]; with_reducible exact H2_) | (have H2_ := (Option.bind_some _ _).symm.trans H; with_reducible exact H2_) | with_reducible exact H | (rw [hy46014]; exact H) | exact H
    have Ny46014 := Aside0.mk hy46014; clear hy46014
    simp only [Option.some.injEq, Prod.mk.injEq] at H
    obtain ⟨rfl, rfl, rfl⟩ := H
    go_enter Try.func46, Try.ntmps46
    try go_wp2_with (first | ((with_reducible refine gate_dst (N := 1) rfl ?_); refine box_event ?hg (N := 1) ?hd (cs := #[.slice A0_0 l0_0.length c0_0, .slice A0_1 l0_1.length c0_1, .int .i64 a0_2]) (t := 35) ?hr ?_; (case hd => rfl); (case hg => rfl); (case hr => first | (go_simp; done) | (go_simp; rfl)); intro gb46001 hg w8 hbox hb; have n0_ := Aside0.mk (below_step (by repeat (first | (with_reducible first | exact HB.out | apply below_alloc | apply pw_below_drewN | apply below_drew1) | exact HB.out)) hb); have n1_ := Aside0.mk (hbox); have n2_ := Aside0.mk ((by rw [hg]; exact (below_size (by repeat (first | (with_reducible first | exact HB.out | apply below_alloc | apply pw_below_drewN | apply below_drew1) | exact HB.out))) : w.heap.size ≤ gb46001)); have n3_ := Aside0.mk ((by rw [hg]; exact (below_size (by repeat (first | (with_reducible first | exact HB.out | apply below_alloc | apply pw_below_drewN | apply below_drew1) | exact HB.out))) : w.heap.size ≤ gb46001)); clear HB; have HB := n0_; have BK46001 := n1_; have GW46001 := n2_; have GE46001 := n3_; clear n0_ n1_ n2_ n3_; clear hb hbox hg) | ((with_reducible refine gate_dst (N := 2) rfl ?_); refine box_event ?hg (N := 2) ?hd (cs := #[.int .i64 0, .slice none 0 0, .slice none 0 0]) (t := 66) ?hr ?_; (case hd => rfl); (case hg => rfl); (case hr => first | (go_simp; done) | (go_simp; rfl)); intro gb46002 hg w9 hbox hb; have n0_ := Aside0.mk (blk_below (g := gb46001) (o := .cells #[.slice A0_0 l0_0.length c0_0, .slice A0_1 l0_1.length c0_1, .int .i64 a0_2] 35 (0, 0)) (by (with_reducible repeat (first | refine blk_drewN ?_ _ | refine blk_drew ?_ | refine blk_alloc ?_ _)); exact BK46001.out) hb); have n1_ := Aside0.mk (below_step (by repeat (first | (with_reducible first | exact HB.out | apply below_alloc | apply pw_below_drewN | apply below_drew1 | refine below_set ?_ GE46001.out) | exact HB.out)) hb); have n2_ := Aside0.mk (hbox); have n3_ := Aside0.mk ((by rw [hg]; exact (below_size (by repeat (first | (with_reducible first | exact HB.out | apply below_alloc | apply pw_below_drewN | apply below_drew1 | refine below_set ?_ GE46001.out) | exact HB.out))) : w.heap.size ≤ gb46002)); have n4_ := Aside0.mk ((by rw [hg]; exact (below_size (by repeat (first | (with_reducible first | exact HB.out | apply below_alloc | apply pw_below_drewN | apply below_drew1 | refine below_set ?_ GE46001.out) | exact HB.out))) : w.heap.size ≤ gb46002)); have n5_ := Aside0.mk ((by rw [hg]; exact Nat.ne_of_lt (blk_lt (g := gb46001) (o := .cells #[.slice A0_0 l0_0.length c0_0, .slice A0_1 l0_1.length c0_1, .int .i64 a0_2] 35 (0, 0)) (by (with_reducible repeat (first | refine blk_drewN ?_ _ | refine blk_drew ?_ | refine blk_alloc ?_ _)); exact BK46001.out)) : gb46001 ≠ gb46002)); have n6_ := Aside0.mk ((by rw [hg]; exact Nat.ne_of_gt (blk_lt (g := gb46001) (o := .cells #[.slice A0_0 l0_0.length c0_0, .slice A0_1 l0_1.length c0_1, .int .i64 a0_2] 35 (0, 0)) (by (with_reducible repeat (first | refine blk_drewN ?_ _ | refine blk_drew ?_ | refine blk_alloc ?_ _)); exact BK46001.out)) : gb46002 ≠ gb46001)); clear BK46001; clear HB; have BK46001 := n0_; have HB := n1_; have BK46002 := n2_; have GW46002 := n3_; have GE46002 := n4_; have NB46001_46002 := n5_; have NB46002_46001 := n6_; clear n0_ n1_ n2_ n3_ n4_ n5_ n6_; clear hb hbox hg; have hnb10 := NB46001_46002.out; have hnc10 := NB46002_46001.out; have hcz11_0 : w9.cell? ⟨gb46001, 0, none⟩ = some (.slice A0_0 l0_0.length c0_0) := (blk_cell BK46001.out 0).trans rfl; have hcz11_1 : w9.cell? ⟨gb46001, 1, none⟩ = some (.slice A0_1 l0_1.length c0_1) := (blk_cell BK46001.out 1).trans rfl; have hcz11_2 : w9.cell? ⟨gb46001, 2, none⟩ = some (.int .i64 a0_2) := (blk_cell BK46001.out 2).trans rfl; have hfz11_0 := blk_frozen BK46001.out 0; have hfz11_1 := blk_frozen BK46001.out 1; have hfz11_2 := blk_frozen BK46001.out 2) | ((with_reducible refine gate_callee (f := 72) rfl ?_); refine goesL_ (some 5) rfl rfl Try.func72 (by kernel_rfl) rfl #[.agg #[.slice A0_0 l0_0.length c0_0, .slice A0_1 l0_1.length c0_1, .int .i64 a0_2]] rfl (by (try simp only [List.map_toArray, List.map_cons, List.map_nil]); first | done | rfl | (simp only [List.length_drop, List.length_take]; rfl)) ?_; (with_reducible refine (impl_ShowOk.calls _ _ l0_0 _ _ l0_1 a0_2 true _ ?side1 ?side2 ?side3 ?side4 A2.out).mono ?_); (case side1 => repeat (first | exact (Kd.C_below HR0_0.out HB.out) | (with_reducible refine Kd.C_alloc ?_ _) | (with_reducible refine Kd.C_drewN ?_ _) | (with_reducible refine Kd.C_drew ?_))); (case side2 => exact HC0_0.out); (case side3 => repeat (first | exact (Kd.C_below HR0_1.out HB.out) | (with_reducible refine Kd.C_alloc ?_ _) | (with_reducible refine Kd.C_drewN ?_ _) | (with_reducible refine Kd.C_drew ?_))); (case side4 => exact HC0_1.out); rintro e w12 ⟨rfl, hb⟩; refine ⟨_, rfl, ?_⟩; have n0_ := Aside0.mk (blk_below (g := gb46001) (o := .cells #[.slice A0_0 l0_0.length c0_0, .slice A0_1 l0_1.length c0_1, .int .i64 a0_2] 35 (0, 0)) (by (with_reducible repeat (first | refine blk_drewN ?_ _ | refine blk_drew ?_ | refine blk_alloc ?_ _)); exact BK46001.out) hb); have n1_ := Aside0.mk (blk_below (g := gb46002) (o := .cells #[.int .i64 0, .slice none 0 0, .slice none 0 0] 66 (0, 0)) (by (with_reducible repeat (first | refine blk_drewN ?_ _ | refine blk_drew ?_ | refine blk_alloc ?_ _)); exact BK46002.out) hb); have n2_ := Aside0.mk (below_step (by repeat (first | (with_reducible first | exact HB.out | apply below_alloc | apply pw_below_drewN | apply below_drew1 | refine below_set ?_ GE46001.out | refine below_set ?_ GE46002.out) | exact HB.out)) hb); clear BK46001; clear BK46002; clear HB; have BK46001 := n0_; have BK46002 := n1_; have HB := n2_; clear n0_ n1_ n2_; (try clear hb); (try clear hb2); (try clear hk); (try clear hi)))
    have n0_ := Aside0.mk (blk_drew BK46001.out)
    have n1_ := Aside0.mk (blk_drew BK46002.out)
    have n2_ := Aside0.mk (below_drew1 HB.out)
    clear BK46001 BK46002 HB; have BK46001 := n0_; have BK46002 := n1_; have HB := n2_; clear n0_ n1_ n2_
    refine start_ (n := 9) (S := fun w' => w'.cell? ⟨gb46001, 0, none⟩ = some (.slice A0_0 l0_0.length c0_0) ∧ w'.cell? ⟨gb46001, 1, none⟩ = some (.slice A0_1 l0_1.length c0_1) ∧ w'.cell? ⟨gb46001, 2, none⟩ = some (.int .i64 a0_2)) (ds := []) #[false, false, false, false, false, false, false, false, false] (by kernel_rfl) rfl rfl ⟨(blk_cell BK46001.out 0).trans rfl, (blk_cell BK46001.out 1).trans rfl, (blk_cell BK46001.out 2).trans rfl⟩ (fun hHeld => ?_); refine with_tabW impl_StartState.tab3 impl_StartState.bits3 (fun HT_ HW_ => ?_)
    generalize w12.drew = w13 at BK46001 BK46002 HB hHeld ⊢
    refine pure_ (i := 1) (N := some 9) (v := ?_) (a' := ?_) #[false, true, false, false, false, false, false, false, false] rfl rfl (any_of HT_.out (by kernel_rfl)) (fun _ _ _ h => h) (Or.inl ⟨by rfl, ?_⟩) ?_ ?_
    rotate_left
    ·intro w'
     go_simp
     with_reducible rfl
    rotate_left
    ·simp only [Act.put, List.setIfInBounds_toArray, List.set_cons_zero, List.set_cons_succ, i64_w, i32_w]
     rfl
    refine take_ (i := 2) (N := some 10) (v := ?_) (a' := ?_) #[false, true, true, false, false, false, false, false, false] rfl rfl (take_ofW HT_.out HW_.out (by kernel_rfl)) (fun _ _ _ h => h) (Or.inl ⟨by rfl, ?_⟩) hHeld ?_ ?_
    rotate_left
    ·rintro w' ⟨s0, s1, s2⟩
     go_simp
     with_reducible rfl
    rotate_left
    ·simp only [Act.put, List.setIfInBounds_toArray, List.set_cons_zero, List.set_cons_succ, i64_w, i32_w]
     rfl
    refine pure_ (i := 3) (N := some 11) (v := ?_) (a' := ?_) #[false, true, true, true, false, false, false, false, false] rfl rfl (any_of HT_.out (by kernel_rfl)) (fun _ _ _ h => h) (Or.inl ⟨by rfl, ?_⟩) ?_ ?_
    rotate_left
    ·intro w'
     go_simp
     with_reducible rfl
    rotate_left
    ·simp only [Act.put, List.setIfInBounds_toArray, List.set_cons_zero, List.set_cons_succ, i64_w, i32_w]
     rfl
    refine join_ (σ := Value × Value × Value × Nat) 1 #[true, true, true, true, true, true, true, true, false] (fun s_ => [(8, s_.1), (12, s_.2.1), (13, s_.2.2.1), (3, .pointer (some ⟨s_.2.2.2, 0, none⟩)), (14, .agg #[.int .i64 0, s_.2.1, s_.2.2.1])]) (fun s_ w' => (w'.cell? ⟨gb46001, 0, none⟩ = some (.slice A0_0 l0_0.length c0_0) ∧ w'.cell? ⟨gb46001, 1, none⟩ = some (.slice A0_1 l0_1.length c0_1) ∧ w'.cell? ⟨gb46001, 2, none⟩ = some (.int .i64 a0_2)) ∧ (Kd.R (Kd.int .i64) 3 w' w.heap.size (fun k_ => some k_ ≠ (s_.2.1 : Value).ownBlock ∧ some k_ ≠ (s_.2.2.1 : Value).ownBlock) s_.1 y46004) ∧ (Kd.R (Kd.int .i64) 3 w' w.heap.size (fun k_ => some k_ ≠ (s_.1 : Value).ownBlock ∧ some k_ ≠ (s_.2.2.1 : Value).ownBlock) s_.2.1 t46007) ∧ (Kd.R (Kd.int .i64) 3 w' w.heap.size (fun k_ => some k_ ≠ (s_.1 : Value).ownBlock ∧ some k_ ≠ (s_.2.1 : Value).ownBlock) s_.2.2.1 y46010) ∧ (w'.heap[gb46001]? = some (.cells #[.slice A0_0 l0_0.length c0_0, .slice A0_1 l0_1.length c0_1, .int .i64 a0_2] 35 (0, 0))) ∧ (w'.heap[gb46002]? = some (.cells #[.int .i64 0, .slice none 0 0, .slice none 0 0] 66 (0, 0))) ∧ (w'.heap[s_.2.2.2]? = some (.cells #[.int .i64 0, .slice none 0 0, .slice none 0 0] 66 (0, 0))) ∧ (w.heap.size ≤ s_.2.2.2) ∧ (w.heap.size ≤ s_.2.2.2) ∧ (gb46001 ≠ s_.2.2.2) ∧ (s_.2.2.2 ≠ gb46001) ∧ (gb46002 ≠ s_.2.2.2) ∧ (s_.2.2.2 ≠ gb46002) ∧ (Below w.heap.size w w')) ?_ ?_
    rotate_left
    ·intro hJ0_4_5_7
     refine join_ (σ := Value × Value × Value) 2 #[true, true, true, true, true, true, true, false, false] (fun s_ => [(8, s_.1), (12, s_.2.1), (13, s_.2.2), (14, .agg #[.int .i64 0, s_.2.1, s_.2.2])]) (fun s_ w' => (w'.cell? ⟨gb46001, 0, none⟩ = some (.slice A0_0 l0_0.length c0_0) ∧ w'.cell? ⟨gb46001, 1, none⟩ = some (.slice A0_1 l0_1.length c0_1) ∧ w'.cell? ⟨gb46001, 2, none⟩ = some (.int .i64 a0_2)) ∧ (Kd.R (Kd.int .i64) 3 w' w.heap.size (fun k_ => some k_ ≠ (s_.2.1 : Value).ownBlock ∧ some k_ ≠ (s_.2.2 : Value).ownBlock) s_.1 y46004) ∧ (Kd.R (Kd.int .i64) 3 w' w.heap.size (fun k_ => some k_ ≠ (s_.1 : Value).ownBlock ∧ some k_ ≠ (s_.2.2 : Value).ownBlock) s_.2.1 t46007) ∧ (Kd.R (Kd.int .i64) 3 w' w.heap.size (fun k_ => some k_ ≠ (s_.1 : Value).ownBlock ∧ some k_ ≠ (s_.2.1 : Value).ownBlock) s_.2.2 y46010) ∧ (w'.heap[gb46001]? = some (.cells #[.slice A0_0 l0_0.length c0_0, .slice A0_1 l0_1.length c0_1, .int .i64 a0_2] 35 (0, 0))) ∧ (w'.heap[gb46002]? = some (.cells #[.int .i64 0, .slice none 0 0, .slice none 0 0] 66 (0, 0))) ∧ (Below w.heap.size w w')) ?_ ?_
     rotate_left
     ·intro hJ0_4_5
      refine join_ (σ := Value × Value × Nat) 3 #[true, true, true, true, true, false, false, true, false] (fun s_ => [(8, s_.1), (12, s_.2.1), (3, .pointer (some ⟨s_.2.2, 0, none⟩))]) (fun s_ w' => (w'.cell? ⟨gb46001, 0, none⟩ = some (.slice A0_0 l0_0.length c0_0) ∧ w'.cell? ⟨gb46001, 1, none⟩ = some (.slice A0_1 l0_1.length c0_1) ∧ w'.cell? ⟨gb46001, 2, none⟩ = some (.int .i64 a0_2)) ∧ (Kd.R (Kd.int .i64) 3 w' w.heap.size (fun k_ => some k_ ≠ (s_.2.1 : Value).ownBlock) s_.1 y46004) ∧ (Kd.R (Kd.int .i64) 3 w' w.heap.size (fun k_ => some k_ ≠ (s_.1 : Value).ownBlock) s_.2.1 t46007) ∧ (w'.heap[gb46001]? = some (.cells #[.slice A0_0 l0_0.length c0_0, .slice A0_1 l0_1.length c0_1, .int .i64 a0_2] 35 (0, 0))) ∧ (w'.heap[gb46002]? = some (.cells #[.int .i64 0, .slice none 0 0, .slice none 0 0] 66 (0, 0))) ∧ (w'.heap[s_.2.2]? = some (.cells #[.int .i64 0, .slice none 0 0, .slice none 0 0] 66 (0, 0))) ∧ (w.heap.size ≤ s_.2.2) ∧ (w.heap.size ≤ s_.2.2) ∧ (gb46001 ≠ s_.2.2) ∧ (s_.2.2 ≠ gb46001) ∧ (gb46002 ≠ s_.2.2) ∧ (s_.2.2 ≠ gb46002) ∧ (Below w.heap.size w w')) ?_ ?_
      rotate_left
      ·intro hJ0_4_7
       refine join_ (σ := Value × Value × Nat) 3 #[true, true, true, true, false, true, false, true, false] (fun s_ => [(8, s_.1), (13, s_.2.1), (3, .pointer (some ⟨s_.2.2, 0, none⟩))]) (fun s_ w' => (w'.cell? ⟨gb46001, 0, none⟩ = some (.slice A0_0 l0_0.length c0_0) ∧ w'.cell? ⟨gb46001, 1, none⟩ = some (.slice A0_1 l0_1.length c0_1) ∧ w'.cell? ⟨gb46001, 2, none⟩ = some (.int .i64 a0_2)) ∧ (Kd.R (Kd.int .i64) 3 w' w.heap.size (fun k_ => some k_ ≠ (s_.2.1 : Value).ownBlock) s_.1 y46004) ∧ (Kd.R (Kd.int .i64) 3 w' w.heap.size (fun k_ => some k_ ≠ (s_.1 : Value).ownBlock) s_.2.1 y46010) ∧ (w'.heap[gb46001]? = some (.cells #[.slice A0_0 l0_0.length c0_0, .slice A0_1 l0_1.length c0_1, .int .i64 a0_2] 35 (0, 0))) ∧ (w'.heap[gb46002]? = some (.cells #[.int .i64 0, .slice none 0 0, .slice none 0 0] 66 (0, 0))) ∧ (w'.heap[s_.2.2]? = some (.cells #[.int .i64 0, .slice none 0 0, .slice none 0 0] 66 (0, 0))) ∧ (w.heap.size ≤ s_.2.2) ∧ (w.heap.size ≤ s_.2.2) ∧ (gb46001 ≠ s_.2.2) ∧ (s_.2.2 ≠ gb46001) ∧ (gb46002 ≠ s_.2.2) ∧ (s_.2.2 ≠ gb46002) ∧ (Below w.heap.size w w')) ?_ ?_
       rotate_left
       ·intro hJ0_5_7
        refine join_ (σ := Value × Value) 4 #[true, true, true, true, true, false, false, false, false] (fun s_ => [(8, s_.1), (12, s_.2)]) (fun s_ w' => (w'.cell? ⟨gb46001, 0, none⟩ = some (.slice A0_0 l0_0.length c0_0) ∧ w'.cell? ⟨gb46001, 1, none⟩ = some (.slice A0_1 l0_1.length c0_1) ∧ w'.cell? ⟨gb46001, 2, none⟩ = some (.int .i64 a0_2)) ∧ (Kd.R (Kd.int .i64) 3 w' w.heap.size (fun k_ => some k_ ≠ (s_.2 : Value).ownBlock) s_.1 y46004) ∧ (Kd.R (Kd.int .i64) 3 w' w.heap.size (fun k_ => some k_ ≠ (s_.1 : Value).ownBlock) s_.2 t46007) ∧ (w'.heap[gb46001]? = some (.cells #[.slice A0_0 l0_0.length c0_0, .slice A0_1 l0_1.length c0_1, .int .i64 a0_2] 35 (0, 0))) ∧ (w'.heap[gb46002]? = some (.cells #[.int .i64 0, .slice none 0 0, .slice none 0 0] 66 (0, 0))) ∧ (Below w.heap.size w w')) ?_ ?_
        rotate_left
        ·intro hJ0_4
         refine join_ (σ := Value × Value) 4 #[true, true, true, true, false, true, false, false, false] (fun s_ => [(8, s_.1), (13, s_.2)]) (fun s_ w' => (w'.cell? ⟨gb46001, 0, none⟩ = some (.slice A0_0 l0_0.length c0_0) ∧ w'.cell? ⟨gb46001, 1, none⟩ = some (.slice A0_1 l0_1.length c0_1) ∧ w'.cell? ⟨gb46001, 2, none⟩ = some (.int .i64 a0_2)) ∧ (Kd.R (Kd.int .i64) 3 w' w.heap.size (fun k_ => some k_ ≠ (s_.2 : Value).ownBlock) s_.1 y46004) ∧ (Kd.R (Kd.int .i64) 3 w' w.heap.size (fun k_ => some k_ ≠ (s_.1 : Value).ownBlock) s_.2 y46010) ∧ (w'.heap[gb46001]? = some (.cells #[.slice A0_0 l0_0.length c0_0, .slice A0_1 l0_1.length c0_1, .int .i64 a0_2] 35 (0, 0))) ∧ (w'.heap[gb46002]? = some (.cells #[.int .i64 0, .slice none 0 0, .slice none 0 0] 66 (0, 0))) ∧ (Below w.heap.size w w')) ?_ ?_
         rotate_left
         ·intro hJ0_5
          refine join_ (σ := Value × Nat) 4 #[true, true, true, true, false, false, false, true, false] (fun s_ => [(8, s_.1), (3, .pointer (some ⟨s_.2, 0, none⟩))]) (fun s_ w' => (w'.cell? ⟨gb46001, 0, none⟩ = some (.slice A0_0 l0_0.length c0_0) ∧ w'.cell? ⟨gb46001, 1, none⟩ = some (.slice A0_1 l0_1.length c0_1) ∧ w'.cell? ⟨gb46001, 2, none⟩ = some (.int .i64 a0_2)) ∧ (Kd.R (Kd.int .i64) 3 w' w.heap.size (fun _ => True) s_.1 y46004) ∧ (w'.heap[gb46001]? = some (.cells #[.slice A0_0 l0_0.length c0_0, .slice A0_1 l0_1.length c0_1, .int .i64 a0_2] 35 (0, 0))) ∧ (w'.heap[gb46002]? = some (.cells #[.int .i64 0, .slice none 0 0, .slice none 0 0] 66 (0, 0))) ∧ (w'.heap[s_.2]? = some (.cells #[.int .i64 0, .slice none 0 0, .slice none 0 0] 66 (0, 0))) ∧ (w.heap.size ≤ s_.2) ∧ (w.heap.size ≤ s_.2) ∧ (gb46001 ≠ s_.2) ∧ (s_.2 ≠ gb46001) ∧ (gb46002 ≠ s_.2) ∧ (s_.2 ≠ gb46002) ∧ (Below w.heap.size w w')) ?_ ?_
          rotate_left
          ·intro hJ0_7
           refine join_ (σ := Value × Nat) 4 #[false, true, true, true, false, true, false, true, false] (fun s_ => [(13, s_.1), (3, .pointer (some ⟨s_.2, 0, none⟩))]) (fun s_ w' => (w'.cell? ⟨gb46001, 0, none⟩ = some (.slice A0_0 l0_0.length c0_0) ∧ w'.cell? ⟨gb46001, 1, none⟩ = some (.slice A0_1 l0_1.length c0_1) ∧ w'.cell? ⟨gb46001, 2, none⟩ = some (.int .i64 a0_2)) ∧ (Kd.R (Kd.int .i64) 3 w' w.heap.size (fun _ => True) s_.1 y46010) ∧ (w'.heap[gb46001]? = some (.cells #[.slice A0_0 l0_0.length c0_0, .slice A0_1 l0_1.length c0_1, .int .i64 a0_2] 35 (0, 0))) ∧ (w'.heap[gb46002]? = some (.cells #[.int .i64 0, .slice none 0 0, .slice none 0 0] 66 (0, 0))) ∧ (w'.heap[s_.2]? = some (.cells #[.int .i64 0, .slice none 0 0, .slice none 0 0] 66 (0, 0))) ∧ (w.heap.size ≤ s_.2) ∧ (w.heap.size ≤ s_.2) ∧ (gb46001 ≠ s_.2) ∧ (s_.2 ≠ gb46001) ∧ (gb46002 ≠ s_.2) ∧ (s_.2 ≠ gb46002) ∧ (Below w.heap.size w w')) ?_ ?_
           rotate_left
           ·intro hJ5_7
            refine join_ (σ := Value) 5 #[true, true, true, true, false, false, false, false, false] (fun s_ => [(8, s_)]) (fun s_ w' => (w'.cell? ⟨gb46001, 0, none⟩ = some (.slice A0_0 l0_0.length c0_0) ∧ w'.cell? ⟨gb46001, 1, none⟩ = some (.slice A0_1 l0_1.length c0_1) ∧ w'.cell? ⟨gb46001, 2, none⟩ = some (.int .i64 a0_2)) ∧ (Kd.R (Kd.int .i64) 3 w' w.heap.size (fun _ => True) s_ y46004) ∧ (w'.heap[gb46001]? = some (.cells #[.slice A0_0 l0_0.length c0_0, .slice A0_1 l0_1.length c0_1, .int .i64 a0_2] 35 (0, 0))) ∧ (w'.heap[gb46002]? = some (.cells #[.int .i64 0, .slice none 0 0, .slice none 0 0] 66 (0, 0))) ∧ (Below w.heap.size w w')) ?_ ?_
            rotate_left
            ·intro hJ0
             refine join_ (σ := Value) 5 #[false, true, true, true, false, true, false, false, false] (fun s_ => [(13, s_)]) (fun s_ w' => (w'.cell? ⟨gb46001, 0, none⟩ = some (.slice A0_0 l0_0.length c0_0) ∧ w'.cell? ⟨gb46001, 1, none⟩ = some (.slice A0_1 l0_1.length c0_1) ∧ w'.cell? ⟨gb46001, 2, none⟩ = some (.int .i64 a0_2)) ∧ (Kd.R (Kd.int .i64) 3 w' w.heap.size (fun _ => True) s_ y46010) ∧ (w'.heap[gb46001]? = some (.cells #[.slice A0_0 l0_0.length c0_0, .slice A0_1 l0_1.length c0_1, .int .i64 a0_2] 35 (0, 0))) ∧ (w'.heap[gb46002]? = some (.cells #[.int .i64 0, .slice none 0 0, .slice none 0 0] 66 (0, 0))) ∧ (Below w.heap.size w w')) ?_ ?_
             rotate_left
             ·intro hJ5
              refine join_ (σ := Nat) 5 #[false, true, true, true, false, false, false, true, false] (fun s_ => [(3, .pointer (some ⟨s_, 0, none⟩))]) (fun s_ w' => (w'.cell? ⟨gb46001, 0, none⟩ = some (.slice A0_0 l0_0.length c0_0) ∧ w'.cell? ⟨gb46001, 1, none⟩ = some (.slice A0_1 l0_1.length c0_1) ∧ w'.cell? ⟨gb46001, 2, none⟩ = some (.int .i64 a0_2)) ∧ (w'.heap[gb46001]? = some (.cells #[.slice A0_0 l0_0.length c0_0, .slice A0_1 l0_1.length c0_1, .int .i64 a0_2] 35 (0, 0))) ∧ (w'.heap[gb46002]? = some (.cells #[.int .i64 0, .slice none 0 0, .slice none 0 0] 66 (0, 0))) ∧ (w'.heap[s_]? = some (.cells #[.int .i64 0, .slice none 0 0, .slice none 0 0] 66 (0, 0))) ∧ (w.heap.size ≤ s_) ∧ (w.heap.size ≤ s_) ∧ (gb46001 ≠ s_) ∧ (s_ ≠ gb46001) ∧ (gb46002 ≠ s_) ∧ (s_ ≠ gb46002) ∧ (Below w.heap.size w w')) ?_ ?_
              rotate_left
              ·intro hJ7
               refine three_ (i := 0) (j := 5) (k := 7) (Ni := some 8) (Nj := some 13) (Nk := some 3) #[true, true, true, true, false, false, false, false, false] #[false, true, true, true, false, true, false, false, false] #[false, true, true, true, false, false, false, true, false] rfl rfl rfl rfl rfl rfl (three_of HT_.out (by kernel_rfl)) (by decide) (by decide) (by decide) (fun K hK => ?_) (fun K hK => ?_) (fun K hK => ?_)
               ·skip
                refine Kd.R_lit_step (Kd.int .i64) _ 3 ?hg (N := 8) ?hd (xs := ([(-1)] : List Int)) (inner := [.int .i64 (-1)]) (ok := fun _ => True) (okp := fun _ => True) ?hr ?hp (fun _ hk => hk) trivial (Below.refl _ _) (Nat.le_refl _) (by simp) ?_; (case hd => rfl); (case hg => rfl); (case hr => first | (go_simp; done) | (go_simp; rfl)); (case hp => exact (Reps.one (show Kd.M (Kd.int .i64) _ _ _ (-1) [.int .i64 (-1)] from rfl) (Reps.none _ _)))
                intro v46005 w14 ho15 hb hg_ hnew_
                clear hg_ hnew_
                (first | rw [← Ny46004.out] at ho15 | (simp only [Int.reduceToNat] at ho15; rw [← Ny46004.out] at ho15))
                have n0_ := Aside0.mk (Kd.R_lower ho15 (below_size (by repeat (first | (with_reducible first | exact HB.out | apply below_alloc | apply pw_below_drewN | apply below_drew1 | refine below_set ?_ GE46001.out | refine below_set ?_ GE46002.out) | exact HB.out))))
                have n1_ := Aside0.mk (blk_below (g := gb46001) (o := .cells #[.slice A0_0 l0_0.length c0_0, .slice A0_1 l0_1.length c0_1, .int .i64 a0_2] 35 (0, 0)) (by (with_reducible repeat (first | refine blk_drewN ?_ _ | refine blk_drew ?_ | refine blk_alloc ?_ _)); exact BK46001.out) hb)
                have n2_ := Aside0.mk (blk_below (g := gb46002) (o := .cells #[.int .i64 0, .slice none 0 0, .slice none 0 0] 66 (0, 0)) (by (with_reducible repeat (first | refine blk_drewN ?_ _ | refine blk_drew ?_ | refine blk_alloc ?_ _)); exact BK46002.out) hb)
                have n3_ := Aside0.mk (below_step (by repeat (first | (with_reducible first | exact HB.out | apply below_alloc | apply pw_below_drewN | apply below_drew1 | refine below_set ?_ GE46001.out | refine below_set ?_ GE46002.out) | exact HB.out)) hb)
                clear BK46001 BK46002 HB; have HO46006 := n0_; have BK46001 := n1_; have BK46002 := n2_; have HB := n3_; clear n0_ n1_ n2_ n3_ hb ho15
                refine hK.out _ _ ⟨(blk_cell BK46001.out 0).trans rfl, (blk_cell BK46001.out 1).trans rfl, (blk_cell BK46001.out 2).trans rfl⟩ (fun hHeld => ?_)
                clear hK K
                refine norm_ (a' := ?_) ?_ ?_
                rotate_left
                ·show Act.put _ (some 8) _ = _
                 simp only [Act.put, List.setIfInBounds_toArray, List.set_cons_zero, List.set_cons_succ, i64_w, i32_w]
                 rfl
                exact norm_ (by first | (simp only [putAll, Act.put, List.setIfInBounds_toArray, List.set_cons_zero, List.set_cons_succ]; done) | (simp only [putAll, Act.put, List.setIfInBounds_toArray, List.set_cons_zero, List.set_cons_succ]; rfl)) (hJ0 (v46005) _ ⟨hHeld, (by (with_reducible repeat (first | apply Kd.R_alloc | apply Kd.R_drewN | apply Kd.R_drew)); exact HO46006.out), (by (with_reducible repeat (first | refine blk_drewN ?_ _ | refine blk_drew ?_ | refine blk_alloc ?_ _)); exact BK46001.out), (by (with_reducible repeat (first | refine blk_drewN ?_ _ | refine blk_drew ?_ | refine blk_alloc ?_ _)); exact BK46002.out), (by repeat (first | (with_reducible first | exact HB.out | apply below_alloc | apply pw_below_drewN | apply below_drew1 | refine below_set ?_ GE46001.out | refine below_set ?_ GE46002.out) | exact HB.out))⟩)
               ·skip
                refine Kd.R_make_step (Kd.int .i64) _ 3 (by rfl) (N := 13) rfl 26 _ _ rfl 3 rfl rfl Try.underlying26 (.int .i64 0) 8 info3 rfl (by decide) (by omega) 0 (ok := fun _ => True) (okp := fun _ => True) rfl (fun _ hk => hk) trivial (by omega) (by omega) (Below.refl _ _) (Nat.le_refl _) ?_
                intro v46011 w14 ho15 hb hg_ hnew_
                clear hg_ hnew_
                (first | rw [← Ny46010.out] at ho15 | (simp only [Int.reduceToNat] at ho15; rw [← Ny46010.out] at ho15))
                have n0_ := Aside0.mk (Kd.R_lower ho15 (below_size (by repeat (first | (with_reducible first | exact HB.out | apply below_alloc | apply pw_below_drewN | apply below_drew1 | refine below_set ?_ GE46001.out | refine below_set ?_ GE46002.out) | exact HB.out))))
                have n1_ := Aside0.mk (blk_below (g := gb46001) (o := .cells #[.slice A0_0 l0_0.length c0_0, .slice A0_1 l0_1.length c0_1, .int .i64 a0_2] 35 (0, 0)) (by (with_reducible repeat (first | refine blk_drewN ?_ _ | refine blk_drew ?_ | refine blk_alloc ?_ _)); exact BK46001.out) hb)
                have n2_ := Aside0.mk (blk_below (g := gb46002) (o := .cells #[.int .i64 0, .slice none 0 0, .slice none 0 0] 66 (0, 0)) (by (with_reducible repeat (first | refine blk_drewN ?_ _ | refine blk_drew ?_ | refine blk_alloc ?_ _)); exact BK46002.out) hb)
                have n3_ := Aside0.mk (below_step (by repeat (first | (with_reducible first | exact HB.out | apply below_alloc | apply pw_below_drewN | apply below_drew1 | refine below_set ?_ GE46001.out | refine below_set ?_ GE46002.out) | exact HB.out)) hb)
                clear BK46001 BK46002 HB; have HO46012 := n0_; have BK46001 := n1_; have BK46002 := n2_; have HB := n3_; clear n0_ n1_ n2_ n3_ hb ho15
                refine hK.out _ _ ⟨(blk_cell BK46001.out 0).trans rfl, (blk_cell BK46001.out 1).trans rfl, (blk_cell BK46001.out 2).trans rfl⟩ (fun hHeld => ?_)
                clear hK K
                refine norm_ (a' := ?_) ?_ ?_
                rotate_left
                ·show Act.put _ (some 13) _ = _
                 simp only [Act.put, List.setIfInBounds_toArray, List.set_cons_zero, List.set_cons_succ, i64_w, i32_w]
                 rfl
                exact norm_ (by first | (simp only [putAll, Act.put, List.setIfInBounds_toArray, List.set_cons_zero, List.set_cons_succ]; done) | (simp only [putAll, Act.put, List.setIfInBounds_toArray, List.set_cons_zero, List.set_cons_succ]; rfl)) (hJ5 (v46011) _ ⟨hHeld, (by (with_reducible repeat (first | apply Kd.R_alloc | apply Kd.R_drewN | apply Kd.R_drew)); exact HO46012.out), (by (with_reducible repeat (first | refine blk_drewN ?_ _ | refine blk_drew ?_ | refine blk_alloc ?_ _)); exact BK46001.out), (by (with_reducible repeat (first | refine blk_drewN ?_ _ | refine blk_drew ?_ | refine blk_alloc ?_ _)); exact BK46002.out), (by repeat (first | (with_reducible first | exact HB.out | apply below_alloc | apply pw_below_drewN | apply below_drew1 | refine below_set ?_ GE46001.out | refine below_set ?_ GE46002.out) | exact HB.out))⟩)
               ·skip
                refine box_step ?hg (N := 3) ?hd (cs := #[.int .i64 0, .slice none 0 0, .slice none 0 0]) (t := 66) ?hr ?_; (case hd => rfl); (case hg => rfl); (case hr => first | (go_simp; done) | (go_simp; rfl))
                intro gb46013 hg w14 hbox hb
                have n0_ := Aside0.mk (blk_below (g := gb46001) (o := .cells #[.slice A0_0 l0_0.length c0_0, .slice A0_1 l0_1.length c0_1, .int .i64 a0_2] 35 (0, 0)) (by (with_reducible repeat (first | refine blk_drewN ?_ _ | refine blk_drew ?_ | refine blk_alloc ?_ _)); exact BK46001.out) hb)
                have n1_ := Aside0.mk (blk_below (g := gb46002) (o := .cells #[.int .i64 0, .slice none 0 0, .slice none 0 0] 66 (0, 0)) (by (with_reducible repeat (first | refine blk_drewN ?_ _ | refine blk_drew ?_ | refine blk_alloc ?_ _)); exact BK46002.out) hb)
                have n2_ := Aside0.mk (below_step (by repeat (first | (with_reducible first | exact HB.out | apply below_alloc | apply pw_below_drewN | apply below_drew1 | refine below_set ?_ GE46001.out | refine below_set ?_ GE46002.out) | exact HB.out)) hb)
                have n3_ := Aside0.mk (hbox)
                have n4_ := Aside0.mk ((by rw [hg]; exact (below_size (by repeat (first | (with_reducible first | exact HB.out | apply below_alloc | apply pw_below_drewN | apply below_drew1 | refine below_set ?_ GE46001.out | refine below_set ?_ GE46002.out) | exact HB.out))) : w.heap.size ≤ gb46013))
                have n5_ := Aside0.mk ((by rw [hg]; exact (below_size (by repeat (first | (with_reducible first | exact HB.out | apply below_alloc | apply pw_below_drewN | apply below_drew1 | refine below_set ?_ GE46001.out | refine below_set ?_ GE46002.out) | exact HB.out))) : w.heap.size ≤ gb46013))
                have n6_ := Aside0.mk ((by rw [hg]; exact Nat.ne_of_lt (blk_lt (g := gb46001) (o := .cells #[.slice A0_0 l0_0.length c0_0, .slice A0_1 l0_1.length c0_1, .int .i64 a0_2] 35 (0, 0)) (by (with_reducible repeat (first | refine blk_drewN ?_ _ | refine blk_drew ?_ | refine blk_alloc ?_ _)); exact BK46001.out)) : gb46001 ≠ gb46013))
                have n7_ := Aside0.mk ((by rw [hg]; exact Nat.ne_of_gt (blk_lt (g := gb46001) (o := .cells #[.slice A0_0 l0_0.length c0_0, .slice A0_1 l0_1.length c0_1, .int .i64 a0_2] 35 (0, 0)) (by (with_reducible repeat (first | refine blk_drewN ?_ _ | refine blk_drew ?_ | refine blk_alloc ?_ _)); exact BK46001.out)) : gb46013 ≠ gb46001))
                have n8_ := Aside0.mk ((by rw [hg]; exact Nat.ne_of_lt (blk_lt (g := gb46002) (o := .cells #[.int .i64 0, .slice none 0 0, .slice none 0 0] 66 (0, 0)) (by (with_reducible repeat (first | refine blk_drewN ?_ _ | refine blk_drew ?_ | refine blk_alloc ?_ _)); exact BK46002.out)) : gb46002 ≠ gb46013))
                have n9_ := Aside0.mk ((by rw [hg]; exact Nat.ne_of_gt (blk_lt (g := gb46002) (o := .cells #[.int .i64 0, .slice none 0 0, .slice none 0 0] 66 (0, 0)) (by (with_reducible repeat (first | refine blk_drewN ?_ _ | refine blk_drew ?_ | refine blk_alloc ?_ _)); exact BK46002.out)) : gb46013 ≠ gb46002))
                clear BK46001 BK46002 HB; have BK46001 := n0_; have BK46002 := n1_; have HB := n2_; have BK46013 := n3_; have GW46013 := n4_; have GE46013 := n5_; have NB46001_46013 := n6_; have NB46013_46001 := n7_; have NB46002_46013 := n8_; have NB46013_46002 := n9_; clear n0_ n1_ n2_ n3_ n4_ n5_ n6_ n7_ n8_ n9_ hb hbox hg
                refine hK.out _ _ ⟨(blk_cell BK46001.out 0).trans rfl, (blk_cell BK46001.out 1).trans rfl, (blk_cell BK46001.out 2).trans rfl⟩ (fun hHeld => ?_)
                clear hK K
                refine norm_ (a' := ?_) ?_ ?_
                rotate_left
                ·show Act.put _ (some 3) _ = _
                 simp only [Act.put, List.setIfInBounds_toArray, List.set_cons_zero, List.set_cons_succ, i64_w, i32_w]
                 rfl
                exact norm_ (by first | (simp only [putAll, Act.put, List.setIfInBounds_toArray, List.set_cons_zero, List.set_cons_succ]; done) | (simp only [putAll, Act.put, List.setIfInBounds_toArray, List.set_cons_zero, List.set_cons_succ]; rfl)) (hJ7 (gb46013) _ ⟨hHeld, (by (with_reducible repeat (first | refine blk_drewN ?_ _ | refine blk_drew ?_ | refine blk_alloc ?_ _)); exact BK46001.out), (by (with_reducible repeat (first | refine blk_drewN ?_ _ | refine blk_drew ?_ | refine blk_alloc ?_ _)); exact BK46002.out), (by (with_reducible repeat (first | refine blk_drewN ?_ _ | refine blk_drew ?_ | refine blk_alloc ?_ _)); exact BK46013.out), GW46013.out, GE46013.out, NB46001_46013.out, NB46013_46001.out, NB46002_46013.out, NB46013_46002.out, (by repeat (first | (with_reducible first | exact HB.out | apply below_alloc | apply pw_below_drewN | apply below_drew1 | refine below_set ?_ GE46001.out | refine below_set ?_ GE46002.out | refine below_set ?_ GE46013.out) | exact HB.out))⟩)
              ·skip
               rintro gb46013 w15 ⟨hS_, h0_, h1_, h2_, h3_, h4_, h5_, h6_, h7_, h8_, h9_⟩
               have n0_ : Aside0 (w15.heap[gb46001]? = some (.cells #[.slice A0_0 l0_0.length c0_0, .slice A0_1 l0_1.length c0_1, .int .i64 a0_2] 35 (0, 0))) := ⟨h0_⟩
               have n1_ : Aside0 (w15.heap[gb46002]? = some (.cells #[.int .i64 0, .slice none 0 0, .slice none 0 0] 66 (0, 0))) := ⟨h1_⟩
               have n2_ : Aside0 (w15.heap[gb46013]? = some (.cells #[.int .i64 0, .slice none 0 0, .slice none 0 0] 66 (0, 0))) := ⟨h2_⟩
               have n3_ : Aside0 (w.heap.size ≤ gb46013) := ⟨h3_⟩
               have n4_ : Aside0 (w.heap.size ≤ gb46013) := ⟨h4_⟩
               have n5_ : Aside0 (gb46001 ≠ gb46013) := ⟨h5_⟩
               have n6_ : Aside0 (gb46013 ≠ gb46001) := ⟨h6_⟩
               have n7_ : Aside0 (gb46002 ≠ gb46013) := ⟨h7_⟩
               have n8_ : Aside0 (gb46013 ≠ gb46002) := ⟨h8_⟩
               have n9_ : Aside0 (Below w.heap.size w w15) := ⟨h9_⟩
               clear BK46001 BK46002 HB h0_ h1_ h2_ h3_ h4_ h5_ h6_ h7_ h8_ h9_; have BK46001 := n0_; have BK46002 := n1_; have BK46013 := n2_; have GW46013 := n3_; have GE46013 := n4_; have NB46001_46013 := n5_; have NB46013_46001 := n6_; have NB46002_46013 := n7_; have NB46013_46002 := n8_; have HB := n9_; clear n0_ n1_ n2_ n3_ n4_ n5_ n6_ n7_ n8_ n9_
               have hHeld : w15.cell? ⟨gb46001, 0, none⟩ = some (.slice A0_0 l0_0.length c0_0) ∧ w15.cell? ⟨gb46001, 1, none⟩ = some (.slice A0_1 l0_1.length c0_1) ∧ w15.cell? ⟨gb46001, 2, none⟩ = some (.int .i64 a0_2) := hS_
               refine norm_ (a' := ?_) ?_ ?_
               rotate_left
               ·simp only [putAll, Act.put, List.setIfInBounds_toArray, List.set_cons_zero, List.set_cons_succ]
                rfl
               refine two_ (i := 0) (j := 5) (Ni := some 8) (Nj := some 13) #[true, true, true, true, false, false, false, true, false] #[false, true, true, true, false, true, false, true, false] rfl rfl rfl rfl (two_of HT_.out (by kernel_rfl)) (by decide) (by decide) (fun K hK => ?_) (fun K hK => ?_)
               ·skip
                refine Kd.R_lit_step (Kd.int .i64) _ 3 ?hg (N := 8) ?hd (xs := ([(-1)] : List Int)) (inner := [.int .i64 (-1)]) (ok := fun _ => True) (okp := fun _ => True) ?hr ?hp (fun _ hk => hk) trivial (Below.refl _ _) (Nat.le_refl _) (by simp) ?_; (case hd => rfl); (case hg => rfl); (case hr => first | (go_simp; done) | (go_simp; rfl)); (case hp => exact (Reps.one (show Kd.M (Kd.int .i64) _ _ _ (-1) [.int .i64 (-1)] from rfl) (Reps.none _ _)))
                intro v46005 w16 ho17 hb hg_ hnew_
                clear hg_ hnew_
                (first | rw [← Ny46004.out] at ho17 | (simp only [Int.reduceToNat] at ho17; rw [← Ny46004.out] at ho17))
                have n0_ := Aside0.mk (Kd.R_lower ho17 (below_size (by repeat (first | (with_reducible first | exact HB.out | apply below_alloc | apply pw_below_drewN | apply below_drew1 | refine below_set ?_ GE46001.out | refine below_set ?_ GE46002.out | refine below_set ?_ GE46013.out) | exact HB.out))))
                have n1_ := Aside0.mk (blk_below (g := gb46001) (o := .cells #[.slice A0_0 l0_0.length c0_0, .slice A0_1 l0_1.length c0_1, .int .i64 a0_2] 35 (0, 0)) (by (with_reducible repeat (first | refine blk_drewN ?_ _ | refine blk_drew ?_ | refine blk_alloc ?_ _)); exact BK46001.out) hb)
                have n2_ := Aside0.mk (blk_below (g := gb46002) (o := .cells #[.int .i64 0, .slice none 0 0, .slice none 0 0] 66 (0, 0)) (by (with_reducible repeat (first | refine blk_drewN ?_ _ | refine blk_drew ?_ | refine blk_alloc ?_ _)); exact BK46002.out) hb)
                have n3_ := Aside0.mk (blk_below (g := gb46013) (o := .cells #[.int .i64 0, .slice none 0 0, .slice none 0 0] 66 (0, 0)) (by (with_reducible repeat (first | refine blk_drewN ?_ _ | refine blk_drew ?_ | refine blk_alloc ?_ _)); exact BK46013.out) hb)
                have n4_ := Aside0.mk (below_step (by repeat (first | (with_reducible first | exact HB.out | apply below_alloc | apply pw_below_drewN | apply below_drew1 | refine below_set ?_ GE46001.out | refine below_set ?_ GE46002.out | refine below_set ?_ GE46013.out) | exact HB.out)) hb)
                clear BK46001 BK46002 BK46013 HB; have HO46006 := n0_; have BK46001 := n1_; have BK46002 := n2_; have BK46013 := n3_; have HB := n4_; clear n0_ n1_ n2_ n3_ n4_ hb ho17
                refine hK.out _ _ ⟨(blk_cell BK46001.out 0).trans rfl, (blk_cell BK46001.out 1).trans rfl, (blk_cell BK46001.out 2).trans rfl⟩ (fun hHeld => ?_)
                clear hK K
                refine norm_ (a' := ?_) ?_ ?_
                rotate_left
                ·show Act.put _ (some 8) _ = _
                 simp only [Act.put, List.setIfInBounds_toArray, List.set_cons_zero, List.set_cons_succ, i64_w, i32_w]
                 rfl
                exact norm_ (by first | (simp only [putAll, Act.put, List.setIfInBounds_toArray, List.set_cons_zero, List.set_cons_succ]; done) | (simp only [putAll, Act.put, List.setIfInBounds_toArray, List.set_cons_zero, List.set_cons_succ]; rfl)) (hJ0_7 (v46005, gb46013) _ ⟨hHeld, (by (with_reducible repeat (first | apply Kd.R_alloc | apply Kd.R_drewN | apply Kd.R_drew)); exact HO46006.out), (by (with_reducible repeat (first | refine blk_drewN ?_ _ | refine blk_drew ?_ | refine blk_alloc ?_ _)); exact BK46001.out), (by (with_reducible repeat (first | refine blk_drewN ?_ _ | refine blk_drew ?_ | refine blk_alloc ?_ _)); exact BK46002.out), (by (with_reducible repeat (first | refine blk_drewN ?_ _ | refine blk_drew ?_ | refine blk_alloc ?_ _)); exact BK46013.out), GW46013.out, GE46013.out, NB46001_46013.out, NB46013_46001.out, NB46002_46013.out, NB46013_46002.out, (by repeat (first | (with_reducible first | exact HB.out | apply below_alloc | apply pw_below_drewN | apply below_drew1 | refine below_set ?_ GE46001.out | refine below_set ?_ GE46002.out | refine below_set ?_ GE46013.out) | exact HB.out))⟩)
               ·skip
                refine Kd.R_make_step (Kd.int .i64) _ 3 (by rfl) (N := 13) rfl 26 _ _ rfl 3 rfl rfl Try.underlying26 (.int .i64 0) 8 info3 rfl (by decide) (by omega) 0 (ok := fun _ => True) (okp := fun _ => True) rfl (fun _ hk => hk) trivial (by omega) (by omega) (Below.refl _ _) (Nat.le_refl _) ?_
                intro v46011 w16 ho17 hb hg_ hnew_
                clear hg_ hnew_
                (first | rw [← Ny46010.out] at ho17 | (simp only [Int.reduceToNat] at ho17; rw [← Ny46010.out] at ho17))
                have n0_ := Aside0.mk (Kd.R_lower ho17 (below_size (by repeat (first | (with_reducible first | exact HB.out | apply below_alloc | apply pw_below_drewN | apply below_drew1 | refine below_set ?_ GE46001.out | refine below_set ?_ GE46002.out | refine below_set ?_ GE46013.out) | exact HB.out))))
                have n1_ := Aside0.mk (blk_below (g := gb46001) (o := .cells #[.slice A0_0 l0_0.length c0_0, .slice A0_1 l0_1.length c0_1, .int .i64 a0_2] 35 (0, 0)) (by (with_reducible repeat (first | refine blk_drewN ?_ _ | refine blk_drew ?_ | refine blk_alloc ?_ _)); exact BK46001.out) hb)
                have n2_ := Aside0.mk (blk_below (g := gb46002) (o := .cells #[.int .i64 0, .slice none 0 0, .slice none 0 0] 66 (0, 0)) (by (with_reducible repeat (first | refine blk_drewN ?_ _ | refine blk_drew ?_ | refine blk_alloc ?_ _)); exact BK46002.out) hb)
                have n3_ := Aside0.mk (blk_below (g := gb46013) (o := .cells #[.int .i64 0, .slice none 0 0, .slice none 0 0] 66 (0, 0)) (by (with_reducible repeat (first | refine blk_drewN ?_ _ | refine blk_drew ?_ | refine blk_alloc ?_ _)); exact BK46013.out) hb)
                have n4_ := Aside0.mk (below_step (by repeat (first | (with_reducible first | exact HB.out | apply below_alloc | apply pw_below_drewN | apply below_drew1 | refine below_set ?_ GE46001.out | refine below_set ?_ GE46002.out | refine below_set ?_ GE46013.out) | exact HB.out)) hb)
                clear BK46001 BK46002 BK46013 HB; have HO46012 := n0_; have BK46001 := n1_; have BK46002 := n2_; have BK46013 := n3_; have HB := n4_; clear n0_ n1_ n2_ n3_ n4_ hb ho17
                refine hK.out _ _ ⟨(blk_cell BK46001.out 0).trans rfl, (blk_cell BK46001.out 1).trans rfl, (blk_cell BK46001.out 2).trans rfl⟩ (fun hHeld => ?_)
                clear hK K
                refine norm_ (a' := ?_) ?_ ?_
                rotate_left
                ·show Act.put _ (some 13) _ = _
                 simp only [Act.put, List.setIfInBounds_toArray, List.set_cons_zero, List.set_cons_succ, i64_w, i32_w]
                 rfl
                exact norm_ (by first | (simp only [putAll, Act.put, List.setIfInBounds_toArray, List.set_cons_zero, List.set_cons_succ]; done) | (simp only [putAll, Act.put, List.setIfInBounds_toArray, List.set_cons_zero, List.set_cons_succ]; rfl)) (hJ5_7 (v46011, gb46013) _ ⟨hHeld, (by (with_reducible repeat (first | apply Kd.R_alloc | apply Kd.R_drewN | apply Kd.R_drew)); exact HO46012.out), (by (with_reducible repeat (first | refine blk_drewN ?_ _ | refine blk_drew ?_ | refine blk_alloc ?_ _)); exact BK46001.out), (by (with_reducible repeat (first | refine blk_drewN ?_ _ | refine blk_drew ?_ | refine blk_alloc ?_ _)); exact BK46002.out), (by (with_reducible repeat (first | refine blk_drewN ?_ _ | refine blk_drew ?_ | refine blk_alloc ?_ _)); exact BK46013.out), GW46013.out, GE46013.out, NB46001_46013.out, NB46013_46001.out, NB46002_46013.out, NB46013_46002.out, (by repeat (first | (with_reducible first | exact HB.out | apply below_alloc | apply pw_below_drewN | apply below_drew1 | refine below_set ?_ GE46001.out | refine below_set ?_ GE46002.out | refine below_set ?_ GE46013.out) | exact HB.out))⟩)
             ·skip
              rintro v46011 w16 ⟨hS_, h0_, h1_, h2_, h3_⟩
              have n0_ : Aside0 (Kd.R (Kd.int .i64) 3 w16 w.heap.size (fun _ => True) v46011 y46010) := ⟨h0_⟩
              have n1_ : Aside0 (w16.heap[gb46001]? = some (.cells #[.slice A0_0 l0_0.length c0_0, .slice A0_1 l0_1.length c0_1, .int .i64 a0_2] 35 (0, 0))) := ⟨h1_⟩
              have n2_ : Aside0 (w16.heap[gb46002]? = some (.cells #[.int .i64 0, .slice none 0 0, .slice none 0 0] 66 (0, 0))) := ⟨h2_⟩
              have n3_ : Aside0 (Below w.heap.size w w16) := ⟨h3_⟩
              clear BK46001 BK46002 HB h0_ h1_ h2_ h3_; have HO46012 := n0_; have BK46001 := n1_; have BK46002 := n2_; have HB := n3_; clear n0_ n1_ n2_ n3_
              have hHeld : w16.cell? ⟨gb46001, 0, none⟩ = some (.slice A0_0 l0_0.length c0_0) ∧ w16.cell? ⟨gb46001, 1, none⟩ = some (.slice A0_1 l0_1.length c0_1) ∧ w16.cell? ⟨gb46001, 2, none⟩ = some (.int .i64 a0_2) := hS_
              refine norm_ (a' := ?_) ?_ ?_
              rotate_left
              ·simp only [putAll, Act.put, List.setIfInBounds_toArray, List.set_cons_zero, List.set_cons_succ]
               rfl
              refine two_ (i := 0) (j := 7) (Ni := some 8) (Nj := some 3) #[true, true, true, true, false, true, false, false, false] #[false, true, true, true, false, true, false, true, false] rfl rfl rfl rfl (two_of HT_.out (by kernel_rfl)) (by decide) (by decide) (fun K hK => ?_) (fun K hK => ?_)
              ·skip
               refine Kd.R_lit_step (Kd.int .i64) _ 3 ?hg (N := 8) ?hd (xs := ([(-1)] : List Int)) (inner := [.int .i64 (-1)]) (ok := fun _ => True) (okp := fun _ => True) ?hr ?hp (fun _ hk => hk) trivial (Below.refl _ _) (Nat.le_refl _) (by simp) ?_; (case hd => rfl); (case hg => rfl); (case hr => first | (go_simp; done) | (go_simp; rfl)); (case hp => exact (Reps.one (show Kd.M (Kd.int .i64) _ _ _ (-1) [.int .i64 (-1)] from rfl) (Reps.none _ _)))
               intro v46005 w17 ho18 hb hg_ hnew_
               clear hg_ hnew_
               (first | rw [← Ny46004.out] at ho18 | (simp only [Int.reduceToNat] at ho18; rw [← Ny46004.out] at ho18))
               have n0_ := Aside0.mk (Kd.R_elder' (by (with_reducible repeat (first | apply Kd.R_alloc | apply Kd.R_drewN | apply Kd.R_drew)); exact HO46012.out) (Kd.R_base ho18) hb)
               have n1_ := Aside0.mk (Kd.R_lower (Kd.R_new' ho18 (Kd.R_lt (by (with_reducible repeat (first | apply Kd.R_alloc | apply Kd.R_drewN | apply Kd.R_drew)); exact HO46012.out))) (below_size (by repeat (first | (with_reducible first | exact HB.out | apply below_alloc | apply pw_below_drewN | apply below_drew1 | refine below_set ?_ GE46001.out | refine below_set ?_ GE46002.out) | exact HB.out))))
               have n2_ := Aside0.mk (blk_below (g := gb46001) (o := .cells #[.slice A0_0 l0_0.length c0_0, .slice A0_1 l0_1.length c0_1, .int .i64 a0_2] 35 (0, 0)) (by (with_reducible repeat (first | refine blk_drewN ?_ _ | refine blk_drew ?_ | refine blk_alloc ?_ _)); exact BK46001.out) hb)
               have n3_ := Aside0.mk (blk_below (g := gb46002) (o := .cells #[.int .i64 0, .slice none 0 0, .slice none 0 0] 66 (0, 0)) (by (with_reducible repeat (first | refine blk_drewN ?_ _ | refine blk_drew ?_ | refine blk_alloc ?_ _)); exact BK46002.out) hb)
               have n4_ := Aside0.mk (below_step (by repeat (first | (with_reducible first | exact HB.out | apply below_alloc | apply pw_below_drewN | apply below_drew1 | refine below_set ?_ GE46001.out | refine below_set ?_ GE46002.out) | exact HB.out)) hb)
               clear HO46012 BK46001 BK46002 HB; have HO46012 := n0_; have HO46006 := n1_; have BK46001 := n2_; have BK46002 := n3_; have HB := n4_; clear n0_ n1_ n2_ n3_ n4_ hb ho18
               refine hK.out _ _ ⟨(blk_cell BK46001.out 0).trans rfl, (blk_cell BK46001.out 1).trans rfl, (blk_cell BK46001.out 2).trans rfl⟩ (fun hHeld => ?_)
               clear hK K
               refine norm_ (a' := ?_) ?_ ?_
               rotate_left
               ·show Act.put _ (some 8) _ = _
                simp only [Act.put, List.setIfInBounds_toArray, List.set_cons_zero, List.set_cons_succ, i64_w, i32_w]
                rfl
               exact norm_ (by first | (simp only [putAll, Act.put, List.setIfInBounds_toArray, List.set_cons_zero, List.set_cons_succ]; done) | (simp only [putAll, Act.put, List.setIfInBounds_toArray, List.set_cons_zero, List.set_cons_succ]; rfl)) (hJ0_5 (v46005, v46011) _ ⟨hHeld, (by (with_reducible repeat (first | apply Kd.R_alloc | apply Kd.R_drewN | apply Kd.R_drew)); exact Kd.R_mono HO46006.out (fun _ hk => hk.2)), (by (with_reducible repeat (first | apply Kd.R_alloc | apply Kd.R_drewN | apply Kd.R_drew)); exact Kd.R_mono HO46012.out (fun _ hk => hk.2)), (by (with_reducible repeat (first | refine blk_drewN ?_ _ | refine blk_drew ?_ | refine blk_alloc ?_ _)); exact BK46001.out), (by (with_reducible repeat (first | refine blk_drewN ?_ _ | refine blk_drew ?_ | refine blk_alloc ?_ _)); exact BK46002.out), (by repeat (first | (with_reducible first | exact HB.out | apply below_alloc | apply pw_below_drewN | apply below_drew1 | refine below_set ?_ GE46001.out | refine below_set ?_ GE46002.out) | exact HB.out))⟩)
              ·skip
               refine box_step ?hg (N := 3) ?hd (cs := #[.int .i64 0, .slice none 0 0, .slice none 0 0]) (t := 66) ?hr ?_; (case hd => rfl); (case hg => rfl); (case hr => first | (go_simp; done) | (go_simp; rfl))
               intro gb46013 hg w17 hbox hb
               have n0_ := Aside0.mk (Kd.R_below (by (with_reducible repeat (first | apply Kd.R_alloc | apply Kd.R_drewN | apply Kd.R_drew)); exact HO46012.out) hb)
               have n1_ := Aside0.mk (blk_below (g := gb46001) (o := .cells #[.slice A0_0 l0_0.length c0_0, .slice A0_1 l0_1.length c0_1, .int .i64 a0_2] 35 (0, 0)) (by (with_reducible repeat (first | refine blk_drewN ?_ _ | refine blk_drew ?_ | refine blk_alloc ?_ _)); exact BK46001.out) hb)
               have n2_ := Aside0.mk (blk_below (g := gb46002) (o := .cells #[.int .i64 0, .slice none 0 0, .slice none 0 0] 66 (0, 0)) (by (with_reducible repeat (first | refine blk_drewN ?_ _ | refine blk_drew ?_ | refine blk_alloc ?_ _)); exact BK46002.out) hb)
               have n3_ := Aside0.mk (below_step (by repeat (first | (with_reducible first | exact HB.out | apply below_alloc | apply pw_below_drewN | apply below_drew1 | refine below_set ?_ GE46001.out | refine below_set ?_ GE46002.out) | exact HB.out)) hb)
               have n4_ := Aside0.mk (hbox)
               have n5_ := Aside0.mk ((by rw [hg]; exact (below_size (by repeat (first | (with_reducible first | exact HB.out | apply below_alloc | apply pw_below_drewN | apply below_drew1 | refine below_set ?_ GE46001.out | refine below_set ?_ GE46002.out) | exact HB.out))) : w.heap.size ≤ gb46013))
               have n6_ := Aside0.mk ((by rw [hg]; exact (below_size (by repeat (first | (with_reducible first | exact HB.out | apply below_alloc | apply pw_below_drewN | apply below_drew1 | refine below_set ?_ GE46001.out | refine below_set ?_ GE46002.out) | exact HB.out))) : w.heap.size ≤ gb46013))
               have n7_ := Aside0.mk ((by rw [hg]; exact Nat.ne_of_lt (blk_lt (g := gb46001) (o := .cells #[.slice A0_0 l0_0.length c0_0, .slice A0_1 l0_1.length c0_1, .int .i64 a0_2] 35 (0, 0)) (by (with_reducible repeat (first | refine blk_drewN ?_ _ | refine blk_drew ?_ | refine blk_alloc ?_ _)); exact BK46001.out)) : gb46001 ≠ gb46013))
               have n8_ := Aside0.mk ((by rw [hg]; exact Nat.ne_of_gt (blk_lt (g := gb46001) (o := .cells #[.slice A0_0 l0_0.length c0_0, .slice A0_1 l0_1.length c0_1, .int .i64 a0_2] 35 (0, 0)) (by (with_reducible repeat (first | refine blk_drewN ?_ _ | refine blk_drew ?_ | refine blk_alloc ?_ _)); exact BK46001.out)) : gb46013 ≠ gb46001))
               have n9_ := Aside0.mk ((by rw [hg]; exact Nat.ne_of_lt (blk_lt (g := gb46002) (o := .cells #[.int .i64 0, .slice none 0 0, .slice none 0 0] 66 (0, 0)) (by (with_reducible repeat (first | refine blk_drewN ?_ _ | refine blk_drew ?_ | refine blk_alloc ?_ _)); exact BK46002.out)) : gb46002 ≠ gb46013))
               have n10_ := Aside0.mk ((by rw [hg]; exact Nat.ne_of_gt (blk_lt (g := gb46002) (o := .cells #[.int .i64 0, .slice none 0 0, .slice none 0 0] 66 (0, 0)) (by (with_reducible repeat (first | refine blk_drewN ?_ _ | refine blk_drew ?_ | refine blk_alloc ?_ _)); exact BK46002.out)) : gb46013 ≠ gb46002))
               clear HO46012 BK46001 BK46002 HB; have HO46012 := n0_; have BK46001 := n1_; have BK46002 := n2_; have HB := n3_; have BK46013 := n4_; have GW46013 := n5_; have GE46013 := n6_; have NB46001_46013 := n7_; have NB46013_46001 := n8_; have NB46002_46013 := n9_; have NB46013_46002 := n10_; clear n0_ n1_ n2_ n3_ n4_ n5_ n6_ n7_ n8_ n9_ n10_ hb hbox hg
               refine hK.out _ _ ⟨(blk_cell BK46001.out 0).trans rfl, (blk_cell BK46001.out 1).trans rfl, (blk_cell BK46001.out 2).trans rfl⟩ (fun hHeld => ?_)
               clear hK K
               refine norm_ (a' := ?_) ?_ ?_
               rotate_left
               ·show Act.put _ (some 3) _ = _
                simp only [Act.put, List.setIfInBounds_toArray, List.set_cons_zero, List.set_cons_succ, i64_w, i32_w]
                rfl
               exact norm_ (by first | (simp only [putAll, Act.put, List.setIfInBounds_toArray, List.set_cons_zero, List.set_cons_succ]; done) | (simp only [putAll, Act.put, List.setIfInBounds_toArray, List.set_cons_zero, List.set_cons_succ]; rfl)) (hJ5_7 (v46011, gb46013) _ ⟨hHeld, (by (with_reducible repeat (first | apply Kd.R_alloc | apply Kd.R_drewN | apply Kd.R_drew)); exact HO46012.out), (by (with_reducible repeat (first | refine blk_drewN ?_ _ | refine blk_drew ?_ | refine blk_alloc ?_ _)); exact BK46001.out), (by (with_reducible repeat (first | refine blk_drewN ?_ _ | refine blk_drew ?_ | refine blk_alloc ?_ _)); exact BK46002.out), (by (with_reducible repeat (first | refine blk_drewN ?_ _ | refine blk_drew ?_ | refine blk_alloc ?_ _)); exact BK46013.out), GW46013.out, GE46013.out, NB46001_46013.out, NB46013_46001.out, NB46002_46013.out, NB46013_46002.out, (by repeat (first | (with_reducible first | exact HB.out | apply below_alloc | apply pw_below_drewN | apply below_drew1 | refine below_set ?_ GE46001.out | refine below_set ?_ GE46002.out | refine below_set ?_ GE46013.out) | exact HB.out))⟩)
            ·skip
             rintro v46005 w16 ⟨hS_, h0_, h1_, h2_, h3_⟩
             have n0_ : Aside0 (Kd.R (Kd.int .i64) 3 w16 w.heap.size (fun _ => True) v46005 y46004) := ⟨h0_⟩
             have n1_ : Aside0 (w16.heap[gb46001]? = some (.cells #[.slice A0_0 l0_0.length c0_0, .slice A0_1 l0_1.length c0_1, .int .i64 a0_2] 35 (0, 0))) := ⟨h1_⟩
             have n2_ : Aside0 (w16.heap[gb46002]? = some (.cells #[.int .i64 0, .slice none 0 0, .slice none 0 0] 66 (0, 0))) := ⟨h2_⟩
             have n3_ : Aside0 (Below w.heap.size w w16) := ⟨h3_⟩
             clear BK46001 BK46002 HB h0_ h1_ h2_ h3_; have HO46006 := n0_; have BK46001 := n1_; have BK46002 := n2_; have HB := n3_; clear n0_ n1_ n2_ n3_
             have hHeld : w16.cell? ⟨gb46001, 0, none⟩ = some (.slice A0_0 l0_0.length c0_0) ∧ w16.cell? ⟨gb46001, 1, none⟩ = some (.slice A0_1 l0_1.length c0_1) ∧ w16.cell? ⟨gb46001, 2, none⟩ = some (.int .i64 a0_2) := hS_
             obtain ⟨Ao17, co17, eo17⟩ := Kd.R_slice HO46006.out
             (first | subst eo17 | (injection eo17 with f1_ f2_ f3_; have f4_ := f1_.symm; have f5_ := f3_.symm; clear f1_ f2_ f3_; subst f4_; subst f5_))
             refine norm_ (a' := ?_) ?_ ?_
             rotate_left
             ·simp only [putAll, Act.put, List.setIfInBounds_toArray, List.set_cons_zero, List.set_cons_succ]
              rfl
             refine three_ (i := 4) (j := 5) (k := 7) (Ni := some 12) (Nj := some 13) (Nk := some 3) #[true, true, true, true, true, false, false, false, false] #[true, true, true, true, false, true, false, false, false] #[true, true, true, true, false, false, false, true, false] rfl rfl rfl rfl rfl rfl (three_of HT_.out (by kernel_rfl)) (by decide) (by decide) (by decide) (fun K hK => ?_) (fun K hK => ?_) (fun K hK => ?_)
             ·skip
              refine goes_ Try.func100 (by kernel_rfl) rfl #[.slice Ao17 y46004.length co17, .int .i64 (l0_0.length : Int)] (by rfl) rfl rfl (by (try simp only [List.map_toArray, List.map_cons, List.map_nil]); first | done | rfl | (simp only [List.length_drop, List.length_take]; rfl)) ?_
              with_reducible refine (slices_Repeat_int_int.calls _ _ y46004 (l0_0.length : Int) t46007 _ ?side1 ?side2 A4.out).mono ?_
              (case side1 => repeat (first | exact (Kd.R_reads' HO46006.out).2.2 | (with_reducible refine Kd.C_alloc ?_ _) | (with_reducible refine Kd.C_drewN ?_ _) | (with_reducible refine Kd.C_drew ?_)))
              (case side2 => exact (Kd.R_reads' HO46006.out).2.1)
              rintro e w18 ⟨v46008, rfl, ho0, hb⟩
              refine ⟨_, rfl, ?_⟩
              have n0_ := Aside0.mk (Kd.R_elder' (by (with_reducible repeat (first | apply Kd.R_alloc | apply Kd.R_drewN | apply Kd.R_drew)); exact HO46006.out) (Kd.R_base ho0) hb)
              have n1_ := Aside0.mk (Kd.R_lower (Kd.R_new' ho0 (Kd.R_lt (by (with_reducible repeat (first | apply Kd.R_alloc | apply Kd.R_drewN | apply Kd.R_drew)); exact HO46006.out))) (below_size (by repeat (first | (with_reducible first | exact HB.out | apply below_alloc | apply pw_below_drewN | apply below_drew1 | refine below_set ?_ GE46001.out | refine below_set ?_ GE46002.out) | exact HB.out))))
              have n2_ := Aside0.mk (blk_below (g := gb46001) (o := .cells #[.slice A0_0 l0_0.length c0_0, .slice A0_1 l0_1.length c0_1, .int .i64 a0_2] 35 (0, 0)) (by (with_reducible repeat (first | refine blk_drewN ?_ _ | refine blk_drew ?_ | refine blk_alloc ?_ _)); exact BK46001.out) hb)
              have n3_ := Aside0.mk (blk_below (g := gb46002) (o := .cells #[.int .i64 0, .slice none 0 0, .slice none 0 0] 66 (0, 0)) (by (with_reducible repeat (first | refine blk_drewN ?_ _ | refine blk_drew ?_ | refine blk_alloc ?_ _)); exact BK46002.out) hb)
              have n4_ := Aside0.mk (below_step (by repeat (first | (with_reducible first | exact HB.out | apply below_alloc | apply pw_below_drewN | apply below_drew1 | refine below_set ?_ GE46001.out | refine below_set ?_ GE46002.out) | exact HB.out)) hb)
              clear HO46006 BK46001 BK46002 HB; have HO46006 := n0_; have HO46009 := n1_; have BK46001 := n2_; have BK46002 := n3_; have HB := n4_; clear n0_ n1_ n2_ n3_ n4_
              (try clear hb)
              (try clear hb2)
              (try clear hk)
              (try clear hi)
              (try clear ho0)
              refine hK.out _ _ ⟨(blk_cell BK46001.out 0).trans rfl, (blk_cell BK46001.out 1).trans rfl, (blk_cell BK46001.out 2).trans rfl⟩ (fun hHeld => ?_)
              clear hK K
              refine norm_ (a' := ?_) ?_ ?_
              rotate_left
              ·show Act.put _ (some 12) _ = _
               simp only [Act.put, List.setIfInBounds_toArray, List.set_cons_zero, List.set_cons_succ, i64_w, i32_w]
               rfl
              exact norm_ (by first | (simp only [putAll, Act.put, List.setIfInBounds_toArray, List.set_cons_zero, List.set_cons_succ]; done) | (simp only [putAll, Act.put, List.setIfInBounds_toArray, List.set_cons_zero, List.set_cons_succ]; rfl)) (hJ0_4 (.slice Ao17 y46004.length co17, v46008) _ ⟨hHeld, (by (with_reducible repeat (first | apply Kd.R_alloc | apply Kd.R_drewN | apply Kd.R_drew)); exact Kd.R_mono HO46006.out (fun _ hk => hk.2)), (by (with_reducible repeat (first | apply Kd.R_alloc | apply Kd.R_drewN | apply Kd.R_drew)); exact Kd.R_mono HO46009.out (fun _ hk => hk.2)), (by (with_reducible repeat (first | refine blk_drewN ?_ _ | refine blk_drew ?_ | refine blk_alloc ?_ _)); exact BK46001.out), (by (with_reducible repeat (first | refine blk_drewN ?_ _ | refine blk_drew ?_ | refine blk_alloc ?_ _)); exact BK46002.out), (by repeat (first | (with_reducible first | exact HB.out | apply below_alloc | apply pw_below_drewN | apply below_drew1 | refine below_set ?_ GE46001.out | refine below_set ?_ GE46002.out) | exact HB.out))⟩)
             ·skip
              refine Kd.R_make_step (Kd.int .i64) _ 3 (by rfl) (N := 13) rfl 26 _ _ rfl 3 rfl rfl Try.underlying26 (.int .i64 0) 8 info3 rfl (by decide) (by omega) 0 (ok := fun _ => True) (okp := fun _ => True) rfl (fun _ hk => hk) trivial (by omega) (by omega) (Below.refl _ _) (Nat.le_refl _) ?_
              intro v46011 w17 ho18 hb hg_ hnew_
              clear hg_ hnew_
              (first | rw [← Ny46010.out] at ho18 | (simp only [Int.reduceToNat] at ho18; rw [← Ny46010.out] at ho18))
              have n0_ := Aside0.mk (Kd.R_elder' (by (with_reducible repeat (first | apply Kd.R_alloc | apply Kd.R_drewN | apply Kd.R_drew)); exact HO46006.out) (Kd.R_base ho18) hb)
              have n1_ := Aside0.mk (Kd.R_lower (Kd.R_new' ho18 (Kd.R_lt (by (with_reducible repeat (first | apply Kd.R_alloc | apply Kd.R_drewN | apply Kd.R_drew)); exact HO46006.out))) (below_size (by repeat (first | (with_reducible first | exact HB.out | apply below_alloc | apply pw_below_drewN | apply below_drew1 | refine below_set ?_ GE46001.out | refine below_set ?_ GE46002.out) | exact HB.out))))
              have n2_ := Aside0.mk (blk_below (g := gb46001) (o := .cells #[.slice A0_0 l0_0.length c0_0, .slice A0_1 l0_1.length c0_1, .int .i64 a0_2] 35 (0, 0)) (by (with_reducible repeat (first | refine blk_drewN ?_ _ | refine blk_drew ?_ | refine blk_alloc ?_ _)); exact BK46001.out) hb)
              have n3_ := Aside0.mk (blk_below (g := gb46002) (o := .cells #[.int .i64 0, .slice none 0 0, .slice none 0 0] 66 (0, 0)) (by (with_reducible repeat (first | refine blk_drewN ?_ _ | refine blk_drew ?_ | refine blk_alloc ?_ _)); exact BK46002.out) hb)
              have n4_ := Aside0.mk (below_step (by repeat (first | (with_reducible first | exact HB.out | apply below_alloc | apply pw_below_drewN | apply below_drew1 | refine below_set ?_ GE46001.out | refine below_set ?_ GE46002.out) | exact HB.out)) hb)
              clear HO46006 BK46001 BK46002 HB; have HO46006 := n0_; have HO46012 := n1_; have BK46001 := n2_; have BK46002 := n3_; have HB := n4_; clear n0_ n1_ n2_ n3_ n4_ hb ho18
              refine hK.out _ _ ⟨(blk_cell BK46001.out 0).trans rfl, (blk_cell BK46001.out 1).trans rfl, (blk_cell BK46001.out 2).trans rfl⟩ (fun hHeld => ?_)
              clear hK K
              refine norm_ (a' := ?_) ?_ ?_
              rotate_left
              ·show Act.put _ (some 13) _ = _
               simp only [Act.put, List.setIfInBounds_toArray, List.set_cons_zero, List.set_cons_succ, i64_w, i32_w]
               rfl
              exact norm_ (by first | (simp only [putAll, Act.put, List.setIfInBounds_toArray, List.set_cons_zero, List.set_cons_succ]; done) | (simp only [putAll, Act.put, List.setIfInBounds_toArray, List.set_cons_zero, List.set_cons_succ]; rfl)) (hJ0_5 (.slice Ao17 y46004.length co17, v46011) _ ⟨hHeld, (by (with_reducible repeat (first | apply Kd.R_alloc | apply Kd.R_drewN | apply Kd.R_drew)); exact Kd.R_mono HO46006.out (fun _ hk => hk.2)), (by (with_reducible repeat (first | apply Kd.R_alloc | apply Kd.R_drewN | apply Kd.R_drew)); exact Kd.R_mono HO46012.out (fun _ hk => hk.2)), (by (with_reducible repeat (first | refine blk_drewN ?_ _ | refine blk_drew ?_ | refine blk_alloc ?_ _)); exact BK46001.out), (by (with_reducible repeat (first | refine blk_drewN ?_ _ | refine blk_drew ?_ | refine blk_alloc ?_ _)); exact BK46002.out), (by repeat (first | (with_reducible first | exact HB.out | apply below_alloc | apply pw_below_drewN | apply below_drew1 | refine below_set ?_ GE46001.out | refine below_set ?_ GE46002.out) | exact HB.out))⟩)
             ·skip
              refine box_step ?hg (N := 3) ?hd (cs := #[.int .i64 0, .slice none 0 0, .slice none 0 0]) (t := 66) ?hr ?_; (case hd => rfl); (case hg => rfl); (case hr => first | (go_simp; done) | (go_simp; rfl))
              intro gb46013 hg w17 hbox hb
              have n0_ := Aside0.mk (Kd.R_below (by (with_reducible repeat (first | apply Kd.R_alloc | apply Kd.R_drewN | apply Kd.R_drew)); exact HO46006.out) hb)
              have n1_ := Aside0.mk (blk_below (g := gb46001) (o := .cells #[.slice A0_0 l0_0.length c0_0, .slice A0_1 l0_1.length c0_1, .int .i64 a0_2] 35 (0, 0)) (by (with_reducible repeat (first | refine blk_drewN ?_ _ | refine blk_drew ?_ | refine blk_alloc ?_ _)); exact BK46001.out) hb)
              have n2_ := Aside0.mk (blk_below (g := gb46002) (o := .cells #[.int .i64 0, .slice none 0 0, .slice none 0 0] 66 (0, 0)) (by (with_reducible repeat (first | refine blk_drewN ?_ _ | refine blk_drew ?_ | refine blk_alloc ?_ _)); exact BK46002.out) hb)
              have n3_ := Aside0.mk (below_step (by repeat (first | (with_reducible first | exact HB.out | apply below_alloc | apply pw_below_drewN | apply below_drew1 | refine below_set ?_ GE46001.out | refine below_set ?_ GE46002.out) | exact HB.out)) hb)
              have n4_ := Aside0.mk (hbox)
              have n5_ := Aside0.mk ((by rw [hg]; exact (below_size (by repeat (first | (with_reducible first | exact HB.out | apply below_alloc | apply pw_below_drewN | apply below_drew1 | refine below_set ?_ GE46001.out | refine below_set ?_ GE46002.out) | exact HB.out))) : w.heap.size ≤ gb46013))
              have n6_ := Aside0.mk ((by rw [hg]; exact (below_size (by repeat (first | (with_reducible first | exact HB.out | apply below_alloc | apply pw_below_drewN | apply below_drew1 | refine below_set ?_ GE46001.out | refine below_set ?_ GE46002.out) | exact HB.out))) : w.heap.size ≤ gb46013))
              have n7_ := Aside0.mk ((by rw [hg]; exact Nat.ne_of_lt (blk_lt (g := gb46001) (o := .cells #[.slice A0_0 l0_0.length c0_0, .slice A0_1 l0_1.length c0_1, .int .i64 a0_2] 35 (0, 0)) (by (with_reducible repeat (first | refine blk_drewN ?_ _ | refine blk_drew ?_ | refine blk_alloc ?_ _)); exact BK46001.out)) : gb46001 ≠ gb46013))
              have n8_ := Aside0.mk ((by rw [hg]; exact Nat.ne_of_gt (blk_lt (g := gb46001) (o := .cells #[.slice A0_0 l0_0.length c0_0, .slice A0_1 l0_1.length c0_1, .int .i64 a0_2] 35 (0, 0)) (by (with_reducible repeat (first | refine blk_drewN ?_ _ | refine blk_drew ?_ | refine blk_alloc ?_ _)); exact BK46001.out)) : gb46013 ≠ gb46001))
              have n9_ := Aside0.mk ((by rw [hg]; exact Nat.ne_of_lt (blk_lt (g := gb46002) (o := .cells #[.int .i64 0, .slice none 0 0, .slice none 0 0] 66 (0, 0)) (by (with_reducible repeat (first | refine blk_drewN ?_ _ | refine blk_drew ?_ | refine blk_alloc ?_ _)); exact BK46002.out)) : gb46002 ≠ gb46013))
              have n10_ := Aside0.mk ((by rw [hg]; exact Nat.ne_of_gt (blk_lt (g := gb46002) (o := .cells #[.int .i64 0, .slice none 0 0, .slice none 0 0] 66 (0, 0)) (by (with_reducible repeat (first | refine blk_drewN ?_ _ | refine blk_drew ?_ | refine blk_alloc ?_ _)); exact BK46002.out)) : gb46013 ≠ gb46002))
              clear HO46006 BK46001 BK46002 HB; have HO46006 := n0_; have BK46001 := n1_; have BK46002 := n2_; have HB := n3_; have BK46013 := n4_; have GW46013 := n5_; have GE46013 := n6_; have NB46001_46013 := n7_; have NB46013_46001 := n8_; have NB46002_46013 := n9_; have NB46013_46002 := n10_; clear n0_ n1_ n2_ n3_ n4_ n5_ n6_ n7_ n8_ n9_ n10_ hb hbox hg
              refine hK.out _ _ ⟨(blk_cell BK46001.out 0).trans rfl, (blk_cell BK46001.out 1).trans rfl, (blk_cell BK46001.out 2).trans rfl⟩ (fun hHeld => ?_)
              clear hK K
              refine norm_ (a' := ?_) ?_ ?_
              rotate_left
              ·show Act.put _ (some 3) _ = _
               simp only [Act.put, List.setIfInBounds_toArray, List.set_cons_zero, List.set_cons_succ, i64_w, i32_w]
               rfl
              exact norm_ (by first | (simp only [putAll, Act.put, List.setIfInBounds_toArray, List.set_cons_zero, List.set_cons_succ]; done) | (simp only [putAll, Act.put, List.setIfInBounds_toArray, List.set_cons_zero, List.set_cons_succ]; rfl)) (hJ0_7 (.slice Ao17 y46004.length co17, gb46013) _ ⟨hHeld, (by (with_reducible repeat (first | apply Kd.R_alloc | apply Kd.R_drewN | apply Kd.R_drew)); exact HO46006.out), (by (with_reducible repeat (first | refine blk_drewN ?_ _ | refine blk_drew ?_ | refine blk_alloc ?_ _)); exact BK46001.out), (by (with_reducible repeat (first | refine blk_drewN ?_ _ | refine blk_drew ?_ | refine blk_alloc ?_ _)); exact BK46002.out), (by (with_reducible repeat (first | refine blk_drewN ?_ _ | refine blk_drew ?_ | refine blk_alloc ?_ _)); exact BK46013.out), GW46013.out, GE46013.out, NB46001_46013.out, NB46013_46001.out, NB46002_46013.out, NB46013_46002.out, (by repeat (first | (with_reducible first | exact HB.out | apply below_alloc | apply pw_below_drewN | apply below_drew1 | refine below_set ?_ GE46001.out | refine below_set ?_ GE46002.out | refine below_set ?_ GE46013.out) | exact HB.out))⟩)
           ·skip
            rintro ⟨v46011, gb46013⟩ w17 ⟨hS_, h0_, h1_, h2_, h3_, h4_, h5_, h6_, h7_, h8_, h9_, h10_⟩
            have n0_ : Aside0 (Kd.R (Kd.int .i64) 3 w17 w.heap.size (fun _ => True) v46011 y46010) := ⟨h0_⟩
            have n1_ : Aside0 (w17.heap[gb46001]? = some (.cells #[.slice A0_0 l0_0.length c0_0, .slice A0_1 l0_1.length c0_1, .int .i64 a0_2] 35 (0, 0))) := ⟨h1_⟩
            have n2_ : Aside0 (w17.heap[gb46002]? = some (.cells #[.int .i64 0, .slice none 0 0, .slice none 0 0] 66 (0, 0))) := ⟨h2_⟩
            have n3_ : Aside0 (w17.heap[gb46013]? = some (.cells #[.int .i64 0, .slice none 0 0, .slice none 0 0] 66 (0, 0))) := ⟨h3_⟩
            have n4_ : Aside0 (w.heap.size ≤ gb46013) := ⟨h4_⟩
            have n5_ : Aside0 (w.heap.size ≤ gb46013) := ⟨h5_⟩
            have n6_ : Aside0 (gb46001 ≠ gb46013) := ⟨h6_⟩
            have n7_ : Aside0 (gb46013 ≠ gb46001) := ⟨h7_⟩
            have n8_ : Aside0 (gb46002 ≠ gb46013) := ⟨h8_⟩
            have n9_ : Aside0 (gb46013 ≠ gb46002) := ⟨h9_⟩
            have n10_ : Aside0 (Below w.heap.size w w17) := ⟨h10_⟩
            clear BK46001 BK46002 HB h0_ h1_ h2_ h3_ h4_ h5_ h6_ h7_ h8_ h9_ h10_; have HO46012 := n0_; have BK46001 := n1_; have BK46002 := n2_; have BK46013 := n3_; have GW46013 := n4_; have GE46013 := n5_; have NB46001_46013 := n6_; have NB46013_46001 := n7_; have NB46002_46013 := n8_; have NB46013_46002 := n9_; have HB := n10_; clear n0_ n1_ n2_ n3_ n4_ n5_ n6_ n7_ n8_ n9_ n10_
            have hHeld : w17.cell? ⟨gb46001, 0, none⟩ = some (.slice A0_0 l0_0.length c0_0) ∧ w17.cell? ⟨gb46001, 1, none⟩ = some (.slice A0_1 l0_1.length c0_1) ∧ w17.cell? ⟨gb46001, 2, none⟩ = some (.int .i64 a0_2) := hS_
            refine norm_ (a' := ?_) ?_ ?_
            rotate_left
            ·simp only [putAll, Act.put, List.setIfInBounds_toArray, List.set_cons_zero, List.set_cons_succ]
             rfl
            refine one_ (i := 0) (N := some 8) #[true, true, true, true, false, true, false, true, false] rfl rfl (one_of HT_.out (by kernel_rfl)) (by decide) (fun K hK => ?_)
            refine Kd.R_lit_step (Kd.int .i64) _ 3 ?hg (N := 8) ?hd (xs := ([(-1)] : List Int)) (inner := [.int .i64 (-1)]) (ok := fun _ => True) (okp := fun _ => True) ?hr ?hp (fun _ hk => hk) trivial (Below.refl _ _) (Nat.le_refl _) (by simp) ?_; (case hd => rfl); (case hg => rfl); (case hr => first | (go_simp; done) | (go_simp; rfl)); (case hp => exact (Reps.one (show Kd.M (Kd.int .i64) _ _ _ (-1) [.int .i64 (-1)] from rfl) (Reps.none _ _)))
            intro v46005 w18 ho19 hb hg_ hnew_
            clear hg_ hnew_
            (first | rw [← Ny46004.out] at ho19 | (simp only [Int.reduceToNat] at ho19; rw [← Ny46004.out] at ho19))
            have n0_ := Aside0.mk (Kd.R_elder' (by (with_reducible repeat (first | apply Kd.R_alloc | apply Kd.R_drewN | apply Kd.R_drew)); exact HO46012.out) (Kd.R_base ho19) hb)
            have n1_ := Aside0.mk (Kd.R_lower (Kd.R_new' ho19 (Kd.R_lt (by (with_reducible repeat (first | apply Kd.R_alloc | apply Kd.R_drewN | apply Kd.R_drew)); exact HO46012.out))) (below_size (by repeat (first | (with_reducible first | exact HB.out | apply below_alloc | apply pw_below_drewN | apply below_drew1 | refine below_set ?_ GE46001.out | refine below_set ?_ GE46002.out | refine below_set ?_ GE46013.out) | exact HB.out))))
            have n2_ := Aside0.mk (blk_below (g := gb46001) (o := .cells #[.slice A0_0 l0_0.length c0_0, .slice A0_1 l0_1.length c0_1, .int .i64 a0_2] 35 (0, 0)) (by (with_reducible repeat (first | refine blk_drewN ?_ _ | refine blk_drew ?_ | refine blk_alloc ?_ _)); exact BK46001.out) hb)
            have n3_ := Aside0.mk (blk_below (g := gb46002) (o := .cells #[.int .i64 0, .slice none 0 0, .slice none 0 0] 66 (0, 0)) (by (with_reducible repeat (first | refine blk_drewN ?_ _ | refine blk_drew ?_ | refine blk_alloc ?_ _)); exact BK46002.out) hb)
            have n4_ := Aside0.mk (blk_below (g := gb46013) (o := .cells #[.int .i64 0, .slice none 0 0, .slice none 0 0] 66 (0, 0)) (by (with_reducible repeat (first | refine blk_drewN ?_ _ | refine blk_drew ?_ | refine blk_alloc ?_ _)); exact BK46013.out) hb)
            have n5_ := Aside0.mk (below_step (by repeat (first | (with_reducible first | exact HB.out | apply below_alloc | apply pw_below_drewN | apply below_drew1 | refine below_set ?_ GE46001.out | refine below_set ?_ GE46002.out | refine below_set ?_ GE46013.out) | exact HB.out)) hb)
            clear HO46012 BK46001 BK46002 BK46013 HB; have HO46012 := n0_; have HO46006 := n1_; have BK46001 := n2_; have BK46002 := n3_; have BK46013 := n4_; have HB := n5_; clear n0_ n1_ n2_ n3_ n4_ n5_ hb ho19
            refine hK.out _ _ ⟨(blk_cell BK46001.out 0).trans rfl, (blk_cell BK46001.out 1).trans rfl, (blk_cell BK46001.out 2).trans rfl⟩ (fun hHeld => ?_)
            clear hK K
            refine norm_ (a' := ?_) ?_ ?_
            rotate_left
            ·show Act.put _ (some 8) _ = _
             simp only [Act.put, List.setIfInBounds_toArray, List.set_cons_zero, List.set_cons_succ, i64_w, i32_w]
             rfl
            exact norm_ (by first | (simp only [putAll, Act.put, List.setIfInBounds_toArray, List.set_cons_zero, List.set_cons_succ]; done) | (simp only [putAll, Act.put, List.setIfInBounds_toArray, List.set_cons_zero, List.set_cons_succ]; rfl)) (hJ0_5_7 (v46005, v46011, gb46013) _ ⟨hHeld, (by (with_reducible repeat (first | apply Kd.R_alloc | apply Kd.R_drewN | apply Kd.R_drew)); exact Kd.R_mono HO46006.out (fun _ hk => hk.2)), (by (with_reducible repeat (first | apply Kd.R_alloc | apply Kd.R_drewN | apply Kd.R_drew)); exact Kd.R_mono HO46012.out (fun _ hk => hk.2)), (by (with_reducible repeat (first | refine blk_drewN ?_ _ | refine blk_drew ?_ | refine blk_alloc ?_ _)); exact BK46001.out), (by (with_reducible repeat (first | refine blk_drewN ?_ _ | refine blk_drew ?_ | refine blk_alloc ?_ _)); exact BK46002.out), (by (with_reducible repeat (first | refine blk_drewN ?_ _ | refine blk_drew ?_ | refine blk_alloc ?_ _)); exact BK46013.out), GW46013.out, GE46013.out, NB46001_46013.out, NB46013_46001.out, NB46002_46013.out, NB46013_46002.out, (by repeat (first | (with_reducible first | exact HB.out | apply below_alloc | apply pw_below_drewN | apply below_drew1 | refine below_set ?_ GE46001.out | refine below_set ?_ GE46002.out | refine below_set ?_ GE46013.out) | exact HB.out))⟩)
          ·skip
           rintro ⟨v46005, gb46013⟩ w17 ⟨hS_, h0_, h1_, h2_, h3_, h4_, h5_, h6_, h7_, h8_, h9_, h10_⟩
           have n0_ : Aside0 (Kd.R (Kd.int .i64) 3 w17 w.heap.size (fun _ => True) v46005 y46004) := ⟨h0_⟩
           have n1_ : Aside0 (w17.heap[gb46001]? = some (.cells #[.slice A0_0 l0_0.length c0_0, .slice A0_1 l0_1.length c0_1, .int .i64 a0_2] 35 (0, 0))) := ⟨h1_⟩
           have n2_ : Aside0 (w17.heap[gb46002]? = some (.cells #[.int .i64 0, .slice none 0 0, .slice none 0 0] 66 (0, 0))) := ⟨h2_⟩
           have n3_ : Aside0 (w17.heap[gb46013]? = some (.cells #[.int .i64 0, .slice none 0 0, .slice none 0 0] 66 (0, 0))) := ⟨h3_⟩
           have n4_ : Aside0 (w.heap.size ≤ gb46013) := ⟨h4_⟩
           have n5_ : Aside0 (w.heap.size ≤ gb46013) := ⟨h5_⟩
           have n6_ : Aside0 (gb46001 ≠ gb46013) := ⟨h6_⟩
           have n7_ : Aside0 (gb46013 ≠ gb46001) := ⟨h7_⟩
           have n8_ : Aside0 (gb46002 ≠ gb46013) := ⟨h8_⟩
           have n9_ : Aside0 (gb46013 ≠ gb46002) := ⟨h9_⟩
           have n10_ : Aside0 (Below w.heap.size w w17) := ⟨h10_⟩
           clear BK46001 BK46002 HB h0_ h1_ h2_ h3_ h4_ h5_ h6_ h7_ h8_ h9_ h10_; have HO46006 := n0_; have BK46001 := n1_; have BK46002 := n2_; have BK46013 := n3_; have GW46013 := n4_; have GE46013 := n5_; have NB46001_46013 := n6_; have NB46013_46001 := n7_; have NB46002_46013 := n8_; have NB46013_46002 := n9_; have HB := n10_; clear n0_ n1_ n2_ n3_ n4_ n5_ n6_ n7_ n8_ n9_ n10_
           have hHeld : w17.cell? ⟨gb46001, 0, none⟩ = some (.slice A0_0 l0_0.length c0_0) ∧ w17.cell? ⟨gb46001, 1, none⟩ = some (.slice A0_1 l0_1.length c0_1) ∧ w17.cell? ⟨gb46001, 2, none⟩ = some (.int .i64 a0_2) := hS_
           obtain ⟨Ao18, co18, eo18⟩ := Kd.R_slice HO46006.out
           (first | subst eo18 | (injection eo18 with f1_ f2_ f3_; have f4_ := f1_.symm; have f5_ := f3_.symm; clear f1_ f2_ f3_; subst f4_; subst f5_))
           refine norm_ (a' := ?_) ?_ ?_
           rotate_left
           ·simp only [putAll, Act.put, List.setIfInBounds_toArray, List.set_cons_zero, List.set_cons_succ]
            rfl
           refine two_ (i := 4) (j := 5) (Ni := some 12) (Nj := some 13) #[true, true, true, true, true, false, false, true, false] #[true, true, true, true, false, true, false, true, false] rfl rfl rfl rfl (two_of HT_.out (by kernel_rfl)) (by decide) (by decide) (fun K hK => ?_) (fun K hK => ?_)
           ·skip
            refine goes_ Try.func100 (by kernel_rfl) rfl #[.slice Ao18 y46004.length co18, .int .i64 (l0_0.length : Int)] (by rfl) rfl rfl (by (try simp only [List.map_toArray, List.map_cons, List.map_nil]); first | done | rfl | (simp only [List.length_drop, List.length_take]; rfl)) ?_
            with_reducible refine (slices_Repeat_int_int.calls _ _ y46004 (l0_0.length : Int) t46007 _ ?side1 ?side2 A4.out).mono ?_
            (case side1 => repeat (first | exact (Kd.R_reads' HO46006.out).2.2 | (with_reducible refine Kd.C_alloc ?_ _) | (with_reducible refine Kd.C_drewN ?_ _) | (with_reducible refine Kd.C_drew ?_)))
            (case side2 => exact (Kd.R_reads' HO46006.out).2.1)
            rintro e w19 ⟨v46008, rfl, ho0, hb⟩
            refine ⟨_, rfl, ?_⟩
            have n0_ := Aside0.mk (Kd.R_elder' (by (with_reducible repeat (first | apply Kd.R_alloc | apply Kd.R_drewN | apply Kd.R_drew)); exact HO46006.out) (Kd.R_base ho0) hb)
            have n1_ := Aside0.mk (Kd.R_lower (Kd.R_new' ho0 (Kd.R_lt (by (with_reducible repeat (first | apply Kd.R_alloc | apply Kd.R_drewN | apply Kd.R_drew)); exact HO46006.out))) (below_size (by repeat (first | (with_reducible first | exact HB.out | apply below_alloc | apply pw_below_drewN | apply below_drew1 | refine below_set ?_ GE46001.out | refine below_set ?_ GE46002.out | refine below_set ?_ GE46013.out) | exact HB.out))))
            have n2_ := Aside0.mk (blk_below (g := gb46001) (o := .cells #[.slice A0_0 l0_0.length c0_0, .slice A0_1 l0_1.length c0_1, .int .i64 a0_2] 35 (0, 0)) (by (with_reducible repeat (first | refine blk_drewN ?_ _ | refine blk_drew ?_ | refine blk_alloc ?_ _)); exact BK46001.out) hb)
            have n3_ := Aside0.mk (blk_below (g := gb46002) (o := .cells #[.int .i64 0, .slice none 0 0, .slice none 0 0] 66 (0, 0)) (by (with_reducible repeat (first | refine blk_drewN ?_ _ | refine blk_drew ?_ | refine blk_alloc ?_ _)); exact BK46002.out) hb)
            have n4_ := Aside0.mk (blk_below (g := gb46013) (o := .cells #[.int .i64 0, .slice none 0 0, .slice none 0 0] 66 (0, 0)) (by (with_reducible repeat (first | refine blk_drewN ?_ _ | refine blk_drew ?_ | refine blk_alloc ?_ _)); exact BK46013.out) hb)
            have n5_ := Aside0.mk (below_step (by repeat (first | (with_reducible first | exact HB.out | apply below_alloc | apply pw_below_drewN | apply below_drew1 | refine below_set ?_ GE46001.out | refine below_set ?_ GE46002.out | refine below_set ?_ GE46013.out) | exact HB.out)) hb)
            clear HO46006 BK46001 BK46002 BK46013 HB; have HO46006 := n0_; have HO46009 := n1_; have BK46001 := n2_; have BK46002 := n3_; have BK46013 := n4_; have HB := n5_; clear n0_ n1_ n2_ n3_ n4_ n5_
            (try clear hb)
            (try clear hb2)
            (try clear hk)
            (try clear hi)
            (try clear ho0)
            refine hK.out _ _ ⟨(blk_cell BK46001.out 0).trans rfl, (blk_cell BK46001.out 1).trans rfl, (blk_cell BK46001.out 2).trans rfl⟩ (fun hHeld => ?_)
            clear hK K
            refine norm_ (a' := ?_) ?_ ?_
            rotate_left
            ·show Act.put _ (some 12) _ = _
             simp only [Act.put, List.setIfInBounds_toArray, List.set_cons_zero, List.set_cons_succ, i64_w, i32_w]
             rfl
            exact norm_ (by first | (simp only [putAll, Act.put, List.setIfInBounds_toArray, List.set_cons_zero, List.set_cons_succ]; done) | (simp only [putAll, Act.put, List.setIfInBounds_toArray, List.set_cons_zero, List.set_cons_succ]; rfl)) (hJ0_4_7 (.slice Ao18 y46004.length co18, v46008, gb46013) _ ⟨hHeld, (by (with_reducible repeat (first | apply Kd.R_alloc | apply Kd.R_drewN | apply Kd.R_drew)); exact Kd.R_mono HO46006.out (fun _ hk => hk.2)), (by (with_reducible repeat (first | apply Kd.R_alloc | apply Kd.R_drewN | apply Kd.R_drew)); exact Kd.R_mono HO46009.out (fun _ hk => hk.2)), (by (with_reducible repeat (first | refine blk_drewN ?_ _ | refine blk_drew ?_ | refine blk_alloc ?_ _)); exact BK46001.out), (by (with_reducible repeat (first | refine blk_drewN ?_ _ | refine blk_drew ?_ | refine blk_alloc ?_ _)); exact BK46002.out), (by (with_reducible repeat (first | refine blk_drewN ?_ _ | refine blk_drew ?_ | refine blk_alloc ?_ _)); exact BK46013.out), GW46013.out, GE46013.out, NB46001_46013.out, NB46013_46001.out, NB46002_46013.out, NB46013_46002.out, (by repeat (first | (with_reducible first | exact HB.out | apply below_alloc | apply pw_below_drewN | apply below_drew1 | refine below_set ?_ GE46001.out | refine below_set ?_ GE46002.out | refine below_set ?_ GE46013.out) | exact HB.out))⟩)
           ·skip
            refine Kd.R_make_step (Kd.int .i64) _ 3 (by rfl) (N := 13) rfl 26 _ _ rfl 3 rfl rfl Try.underlying26 (.int .i64 0) 8 info3 rfl (by decide) (by omega) 0 (ok := fun _ => True) (okp := fun _ => True) rfl (fun _ hk => hk) trivial (by omega) (by omega) (Below.refl _ _) (Nat.le_refl _) ?_
            intro v46011 w18 ho19 hb hg_ hnew_
            clear hg_ hnew_
            (first | rw [← Ny46010.out] at ho19 | (simp only [Int.reduceToNat] at ho19; rw [← Ny46010.out] at ho19))
            have n0_ := Aside0.mk (Kd.R_elder' (by (with_reducible repeat (first | apply Kd.R_alloc | apply Kd.R_drewN | apply Kd.R_drew)); exact HO46006.out) (Kd.R_base ho19) hb)
            have n1_ := Aside0.mk (Kd.R_lower (Kd.R_new' ho19 (Kd.R_lt (by (with_reducible repeat (first | apply Kd.R_alloc | apply Kd.R_drewN | apply Kd.R_drew)); exact HO46006.out))) (below_size (by repeat (first | (with_reducible first | exact HB.out | apply below_alloc | apply pw_below_drewN | apply below_drew1 | refine below_set ?_ GE46001.out | refine below_set ?_ GE46002.out | refine below_set ?_ GE46013.out) | exact HB.out))))
            have n2_ := Aside0.mk (blk_below (g := gb46001) (o := .cells #[.slice A0_0 l0_0.length c0_0, .slice A0_1 l0_1.length c0_1, .int .i64 a0_2] 35 (0, 0)) (by (with_reducible repeat (first | refine blk_drewN ?_ _ | refine blk_drew ?_ | refine blk_alloc ?_ _)); exact BK46001.out) hb)
            have n3_ := Aside0.mk (blk_below (g := gb46002) (o := .cells #[.int .i64 0, .slice none 0 0, .slice none 0 0] 66 (0, 0)) (by (with_reducible repeat (first | refine blk_drewN ?_ _ | refine blk_drew ?_ | refine blk_alloc ?_ _)); exact BK46002.out) hb)
            have n4_ := Aside0.mk (blk_below (g := gb46013) (o := .cells #[.int .i64 0, .slice none 0 0, .slice none 0 0] 66 (0, 0)) (by (with_reducible repeat (first | refine blk_drewN ?_ _ | refine blk_drew ?_ | refine blk_alloc ?_ _)); exact BK46013.out) hb)
            have n5_ := Aside0.mk (below_step (by repeat (first | (with_reducible first | exact HB.out | apply below_alloc | apply pw_below_drewN | apply below_drew1 | refine below_set ?_ GE46001.out | refine below_set ?_ GE46002.out | refine below_set ?_ GE46013.out) | exact HB.out)) hb)
            clear HO46006 BK46001 BK46002 BK46013 HB; have HO46006 := n0_; have HO46012 := n1_; have BK46001 := n2_; have BK46002 := n3_; have BK46013 := n4_; have HB := n5_; clear n0_ n1_ n2_ n3_ n4_ n5_ hb ho19
            refine hK.out _ _ ⟨(blk_cell BK46001.out 0).trans rfl, (blk_cell BK46001.out 1).trans rfl, (blk_cell BK46001.out 2).trans rfl⟩ (fun hHeld => ?_)
            clear hK K
            refine norm_ (a' := ?_) ?_ ?_
            rotate_left
            ·show Act.put _ (some 13) _ = _
             simp only [Act.put, List.setIfInBounds_toArray, List.set_cons_zero, List.set_cons_succ, i64_w, i32_w]
             rfl
            exact norm_ (by first | (simp only [putAll, Act.put, List.setIfInBounds_toArray, List.set_cons_zero, List.set_cons_succ]; done) | (simp only [putAll, Act.put, List.setIfInBounds_toArray, List.set_cons_zero, List.set_cons_succ]; rfl)) (hJ0_5_7 (.slice Ao18 y46004.length co18, v46011, gb46013) _ ⟨hHeld, (by (with_reducible repeat (first | apply Kd.R_alloc | apply Kd.R_drewN | apply Kd.R_drew)); exact Kd.R_mono HO46006.out (fun _ hk => hk.2)), (by (with_reducible repeat (first | apply Kd.R_alloc | apply Kd.R_drewN | apply Kd.R_drew)); exact Kd.R_mono HO46012.out (fun _ hk => hk.2)), (by (with_reducible repeat (first | refine blk_drewN ?_ _ | refine blk_drew ?_ | refine blk_alloc ?_ _)); exact BK46001.out), (by (with_reducible repeat (first | refine blk_drewN ?_ _ | refine blk_drew ?_ | refine blk_alloc ?_ _)); exact BK46002.out), (by (with_reducible repeat (first | refine blk_drewN ?_ _ | refine blk_drew ?_ | refine blk_alloc ?_ _)); exact BK46013.out), GW46013.out, GE46013.out, NB46001_46013.out, NB46013_46001.out, NB46002_46013.out, NB46013_46002.out, (by repeat (first | (with_reducible first | exact HB.out | apply below_alloc | apply pw_below_drewN | apply below_drew1 | refine below_set ?_ GE46001.out | refine below_set ?_ GE46002.out | refine below_set ?_ GE46013.out) | exact HB.out))⟩)
         ·skip
          rintro ⟨v46005, v46011⟩ w18 ⟨hS_, h0_, h1_, h2_, h3_, h4_⟩
          have n0_ : Aside0 (Kd.R (Kd.int .i64) 3 w18 w.heap.size (fun k_ => some k_ ≠ (v46011 : Value).ownBlock) v46005 y46004) := ⟨h0_⟩
          have n1_ : Aside0 (Kd.R (Kd.int .i64) 3 w18 w.heap.size (fun k_ => some k_ ≠ (v46005 : Value).ownBlock) v46011 y46010) := ⟨h1_⟩
          have n2_ : Aside0 (w18.heap[gb46001]? = some (.cells #[.slice A0_0 l0_0.length c0_0, .slice A0_1 l0_1.length c0_1, .int .i64 a0_2] 35 (0, 0))) := ⟨h2_⟩
          have n3_ : Aside0 (w18.heap[gb46002]? = some (.cells #[.int .i64 0, .slice none 0 0, .slice none 0 0] 66 (0, 0))) := ⟨h3_⟩
          have n4_ : Aside0 (Below w.heap.size w w18) := ⟨h4_⟩
          clear BK46001 BK46002 HB h0_ h1_ h2_ h3_ h4_; have HO46006 := n0_; have HO46012 := n1_; have BK46001 := n2_; have BK46002 := n3_; have HB := n4_; clear n0_ n1_ n2_ n3_ n4_
          have hHeld : w18.cell? ⟨gb46001, 0, none⟩ = some (.slice A0_0 l0_0.length c0_0) ∧ w18.cell? ⟨gb46001, 1, none⟩ = some (.slice A0_1 l0_1.length c0_1) ∧ w18.cell? ⟨gb46001, 2, none⟩ = some (.int .i64 a0_2) := hS_
          obtain ⟨Ao19, co19, eo19⟩ := Kd.R_slice HO46006.out
          (first | subst eo19 | (injection eo19 with f1_ f2_ f3_; have f4_ := f1_.symm; have f5_ := f3_.symm; clear f1_ f2_ f3_; subst f4_; subst f5_))
          refine norm_ (a' := ?_) ?_ ?_
          rotate_left
          ·simp only [putAll, Act.put, List.setIfInBounds_toArray, List.set_cons_zero, List.set_cons_succ]
           rfl
          refine two_ (i := 4) (j := 7) (Ni := some 12) (Nj := some 3) #[true, true, true, true, true, true, false, false, false] #[true, true, true, true, false, true, false, true, false] rfl rfl rfl rfl (two_of HT_.out (by kernel_rfl)) (by decide) (by decide) (fun K hK => ?_) (fun K hK => ?_)
          ·skip
           refine goes_ Try.func100 (by kernel_rfl) rfl #[.slice Ao19 y46004.length co19, .int .i64 (l0_0.length : Int)] (by rfl) rfl rfl (by (try simp only [List.map_toArray, List.map_cons, List.map_nil]); first | done | rfl | (simp only [List.length_drop, List.length_take]; rfl)) ?_
           with_reducible refine (slices_Repeat_int_int.calls _ _ y46004 (l0_0.length : Int) t46007 _ ?side1 ?side2 A4.out).mono ?_
           (case side1 => repeat (first | exact (Kd.R_reads' HO46006.out).2.2 | (with_reducible refine Kd.C_alloc ?_ _) | (with_reducible refine Kd.C_drewN ?_ _) | (with_reducible refine Kd.C_drew ?_)))
           (case side2 => exact (Kd.R_reads' HO46006.out).2.1)
           rintro e w20 ⟨v46008, rfl, ho0, hb⟩
           refine ⟨_, rfl, ?_⟩
           have n0_ := Aside0.mk (Kd.R_elder' (by (with_reducible repeat (first | apply Kd.R_alloc | apply Kd.R_drewN | apply Kd.R_drew)); exact HO46006.out) (Kd.R_base ho0) hb)
           have n1_ := Aside0.mk (Kd.R_elder' (by (with_reducible repeat (first | apply Kd.R_alloc | apply Kd.R_drewN | apply Kd.R_drew)); exact HO46012.out) (Kd.R_base ho0) hb)
           have n2_ := Aside0.mk (Kd.R_lower (Kd.R_new' (Kd.R_new' ho0 (Kd.R_lt (by (with_reducible repeat (first | apply Kd.R_alloc | apply Kd.R_drewN | apply Kd.R_drew)); exact HO46006.out))) (Kd.R_lt (by (with_reducible repeat (first | apply Kd.R_alloc | apply Kd.R_drewN | apply Kd.R_drew)); exact HO46012.out))) (below_size (by repeat (first | (with_reducible first | exact HB.out | apply below_alloc | apply pw_below_drewN | apply below_drew1 | refine below_set ?_ GE46001.out | refine below_set ?_ GE46002.out) | exact HB.out))))
           have n3_ := Aside0.mk (blk_below (g := gb46001) (o := .cells #[.slice A0_0 l0_0.length c0_0, .slice A0_1 l0_1.length c0_1, .int .i64 a0_2] 35 (0, 0)) (by (with_reducible repeat (first | refine blk_drewN ?_ _ | refine blk_drew ?_ | refine blk_alloc ?_ _)); exact BK46001.out) hb)
           have n4_ := Aside0.mk (blk_below (g := gb46002) (o := .cells #[.int .i64 0, .slice none 0 0, .slice none 0 0] 66 (0, 0)) (by (with_reducible repeat (first | refine blk_drewN ?_ _ | refine blk_drew ?_ | refine blk_alloc ?_ _)); exact BK46002.out) hb)
           have n5_ := Aside0.mk (below_step (by repeat (first | (with_reducible first | exact HB.out | apply below_alloc | apply pw_below_drewN | apply below_drew1 | refine below_set ?_ GE46001.out | refine below_set ?_ GE46002.out) | exact HB.out)) hb)
           clear HO46006 HO46012 BK46001 BK46002 HB; have HO46006 := n0_; have HO46012 := n1_; have HO46009 := n2_; have BK46001 := n3_; have BK46002 := n4_; have HB := n5_; clear n0_ n1_ n2_ n3_ n4_ n5_
           (try clear hb)
           (try clear hb2)
           (try clear hk)
           (try clear hi)
           (try clear ho0)
           obtain ⟨Ao21, co21, eo21⟩ := Kd.R_slice HO46012.out
           (first | subst eo21 | (injection eo21 with f1_ f2_ f3_; have f4_ := f1_.symm; have f5_ := f3_.symm; clear f1_ f2_ f3_; subst f4_; subst f5_))
           obtain ⟨Ao22, co22, eo22⟩ := Kd.R_slice HO46009.out
           (first | subst eo22 | (injection eo22 with f1_ f2_ f3_; have f4_ := f1_.symm; have f5_ := f3_.symm; clear f1_ f2_ f3_; subst f4_; subst f5_))
           refine hK.out _ _ ⟨(blk_cell BK46001.out 0).trans rfl, (blk_cell BK46001.out 1).trans rfl, (blk_cell BK46001.out 2).trans rfl⟩ (fun hHeld => ?_)
           clear hK K
           refine norm_ (a' := ?_) ?_ ?_
           rotate_left
           ·show Act.put _ (some 12) _ = _
            simp only [Act.put, List.setIfInBounds_toArray, List.set_cons_zero, List.set_cons_succ, i64_w, i32_w]
            rfl
           refine pure_ (i := 6) (N := some 14) (v := ?_) (a' := ?_) #[true, true, true, true, true, true, true, false, false] rfl rfl (any_of HT_.out (by kernel_rfl)) (fun _ _ _ h => h) (Or.inl ⟨by rfl, ?_⟩) ?_ ?_
           rotate_left
           ·intro w'
            go_simp
            with_reducible rfl
           rotate_left
           ·simp only [Act.put, List.setIfInBounds_toArray, List.set_cons_zero, List.set_cons_succ, i64_w, i32_w]
            rfl
           exact norm_ (by first | (simp only [putAll, Act.put, List.setIfInBounds_toArray, List.set_cons_zero, List.set_cons_succ]; done) | (simp only [putAll, Act.put, List.setIfInBounds_toArray, List.set_cons_zero, List.set_cons_succ]; rfl)) (hJ0_4_5 (.slice Ao19 y46004.length co19, .slice Ao22 t46007.length co22, .slice Ao21 y46010.length co21) _ ⟨hHeld, (by (with_reducible repeat (first | apply Kd.R_alloc | apply Kd.R_drewN | apply Kd.R_drew)); exact Kd.R_mono HO46006.out (fun _ hk => ⟨hk.2, hk.1⟩)), (by (with_reducible repeat (first | apply Kd.R_alloc | apply Kd.R_drewN | apply Kd.R_drew)); exact Kd.R_mono HO46009.out (fun _ hk => ⟨hk.1.2, hk.2⟩)), (by (with_reducible repeat (first | apply Kd.R_alloc | apply Kd.R_drewN | apply Kd.R_drew)); exact HO46012.out), (by (with_reducible repeat (first | refine blk_drewN ?_ _ | refine blk_drew ?_ | refine blk_alloc ?_ _)); exact BK46001.out), (by (with_reducible repeat (first | refine blk_drewN ?_ _ | refine blk_drew ?_ | refine blk_alloc ?_ _)); exact BK46002.out), (by repeat (first | (with_reducible first | exact HB.out | apply below_alloc | apply pw_below_drewN | apply below_drew1 | refine below_set ?_ GE46001.out | refine below_set ?_ GE46002.out) | exact HB.out))⟩)
          ·skip
           refine box_step ?hg (N := 3) ?hd (cs := #[.int .i64 0, .slice none 0 0, .slice none 0 0]) (t := 66) ?hr ?_; (case hd => rfl); (case hg => rfl); (case hr => first | (go_simp; done) | (go_simp; rfl))
           intro gb46013 hg w19 hbox hb
           have n0_ := Aside0.mk (Kd.R_below (by (with_reducible repeat (first | apply Kd.R_alloc | apply Kd.R_drewN | apply Kd.R_drew)); exact HO46006.out) hb)
           have n1_ := Aside0.mk (Kd.R_below (by (with_reducible repeat (first | apply Kd.R_alloc | apply Kd.R_drewN | apply Kd.R_drew)); exact HO46012.out) hb)
           have n2_ := Aside0.mk (blk_below (g := gb46001) (o := .cells #[.slice A0_0 l0_0.length c0_0, .slice A0_1 l0_1.length c0_1, .int .i64 a0_2] 35 (0, 0)) (by (with_reducible repeat (first | refine blk_drewN ?_ _ | refine blk_drew ?_ | refine blk_alloc ?_ _)); exact BK46001.out) hb)
           have n3_ := Aside0.mk (blk_below (g := gb46002) (o := .cells #[.int .i64 0, .slice none 0 0, .slice none 0 0] 66 (0, 0)) (by (with_reducible repeat (first | refine blk_drewN ?_ _ | refine blk_drew ?_ | refine blk_alloc ?_ _)); exact BK46002.out) hb)
           have n4_ := Aside0.mk (below_step (by repeat (first | (with_reducible first | exact HB.out | apply below_alloc | apply pw_below_drewN | apply below_drew1 | refine below_set ?_ GE46001.out | refine below_set ?_ GE46002.out) | exact HB.out)) hb)
           have n5_ := Aside0.mk (hbox)
           have n6_ := Aside0.mk ((by rw [hg]; exact (below_size (by repeat (first | (with_reducible first | exact HB.out | apply below_alloc | apply pw_below_drewN | apply below_drew1 | refine below_set ?_ GE46001.out | refine below_set ?_ GE46002.out) | exact HB.out))) : w.heap.size ≤ gb46013))
           have n7_ := Aside0.mk ((by rw [hg]; exact (below_size (by repeat (first | (with_reducible first | exact HB.out | apply below_alloc | apply pw_below_drewN | apply below_drew1 | refine below_set ?_ GE46001.out | refine below_set ?_ GE46002.out) | exact HB.out))) : w.heap.size ≤ gb46013))
           have n8_ := Aside0.mk ((by rw [hg]; exact Nat.ne_of_lt (blk_lt (g := gb46001) (o := .cells #[.slice A0_0 l0_0.length c0_0, .slice A0_1 l0_1.length c0_1, .int .i64 a0_2] 35 (0, 0)) (by (with_reducible repeat (first | refine blk_drewN ?_ _ | refine blk_drew ?_ | refine blk_alloc ?_ _)); exact BK46001.out)) : gb46001 ≠ gb46013))
           have n9_ := Aside0.mk ((by rw [hg]; exact Nat.ne_of_gt (blk_lt (g := gb46001) (o := .cells #[.slice A0_0 l0_0.length c0_0, .slice A0_1 l0_1.length c0_1, .int .i64 a0_2] 35 (0, 0)) (by (with_reducible repeat (first | refine blk_drewN ?_ _ | refine blk_drew ?_ | refine blk_alloc ?_ _)); exact BK46001.out)) : gb46013 ≠ gb46001))
           have n10_ := Aside0.mk ((by rw [hg]; exact Nat.ne_of_lt (blk_lt (g := gb46002) (o := .cells #[.int .i64 0, .slice none 0 0, .slice none 0 0] 66 (0, 0)) (by (with_reducible repeat (first | refine blk_drewN ?_ _ | refine blk_drew ?_ | refine blk_alloc ?_ _)); exact BK46002.out)) : gb46002 ≠ gb46013))
           have n11_ := Aside0.mk ((by rw [hg]; exact Nat.ne_of_gt (blk_lt (g := gb46002) (o := .cells #[.int .i64 0, .slice none 0 0, .slice none 0 0] 66 (0, 0)) (by (with_reducible repeat (first | refine blk_drewN ?_ _ | refine blk_drew ?_ | refine blk_alloc ?_ _)); exact BK46002.out)) : gb46013 ≠ gb46002))
           clear HO46006 HO46012 BK46001 BK46002 HB; have HO46006 := n0_; have HO46012 := n1_; have BK46001 := n2_; have BK46002 := n3_; have HB := n4_; have BK46013 := n5_; have GW46013 := n6_; have GE46013 := n7_; have NB46001_46013 := n8_; have NB46013_46001 := n9_; have NB46002_46013 := n10_; have NB46013_46002 := n11_; clear n0_ n1_ n2_ n3_ n4_ n5_ n6_ n7_ n8_ n9_ n10_ n11_ hb hbox hg
           refine hK.out _ _ ⟨(blk_cell BK46001.out 0).trans rfl, (blk_cell BK46001.out 1).trans rfl, (blk_cell BK46001.out 2).trans rfl⟩ (fun hHeld => ?_)
           clear hK K
           refine norm_ (a' := ?_) ?_ ?_
           rotate_left
           ·show Act.put _ (some 3) _ = _
            simp only [Act.put, List.setIfInBounds_toArray, List.set_cons_zero, List.set_cons_succ, i64_w, i32_w]
            rfl
           exact norm_ (by first | (simp only [putAll, Act.put, List.setIfInBounds_toArray, List.set_cons_zero, List.set_cons_succ]; done) | (simp only [putAll, Act.put, List.setIfInBounds_toArray, List.set_cons_zero, List.set_cons_succ]; rfl)) (hJ0_5_7 (.slice Ao19 y46004.length co19, v46011, gb46013) _ ⟨hHeld, (by (with_reducible repeat (first | apply Kd.R_alloc | apply Kd.R_drewN | apply Kd.R_drew)); exact HO46006.out), (by (with_reducible repeat (first | apply Kd.R_alloc | apply Kd.R_drewN | apply Kd.R_drew)); exact HO46012.out), (by (with_reducible repeat (first | refine blk_drewN ?_ _ | refine blk_drew ?_ | refine blk_alloc ?_ _)); exact BK46001.out), (by (with_reducible repeat (first | refine blk_drewN ?_ _ | refine blk_drew ?_ | refine blk_alloc ?_ _)); exact BK46002.out), (by (with_reducible repeat (first | refine blk_drewN ?_ _ | refine blk_drew ?_ | refine blk_alloc ?_ _)); exact BK46013.out), GW46013.out, GE46013.out, NB46001_46013.out, NB46013_46001.out, NB46002_46013.out, NB46013_46002.out, (by repeat (first | (with_reducible first | exact HB.out | apply below_alloc | apply pw_below_drewN | apply below_drew1 | refine below_set ?_ GE46001.out | refine below_set ?_ GE46002.out | refine below_set ?_ GE46013.out) | exact HB.out))⟩)
        ·skip
         rintro ⟨v46005, v46008⟩ w18 ⟨hS_, h0_, h1_, h2_, h3_, h4_⟩
         have n0_ : Aside0 (Kd.R (Kd.int .i64) 3 w18 w.heap.size (fun k_ => some k_ ≠ (v46008 : Value).ownBlock) v46005 y46004) := ⟨h0_⟩
         have n1_ : Aside0 (Kd.R (Kd.int .i64) 3 w18 w.heap.size (fun k_ => some k_ ≠ (v46005 : Value).ownBlock) v46008 t46007) := ⟨h1_⟩
         have n2_ : Aside0 (w18.heap[gb46001]? = some (.cells #[.slice A0_0 l0_0.length c0_0, .slice A0_1 l0_1.length c0_1, .int .i64 a0_2] 35 (0, 0))) := ⟨h2_⟩
         have n3_ : Aside0 (w18.heap[gb46002]? = some (.cells #[.int .i64 0, .slice none 0 0, .slice none 0 0] 66 (0, 0))) := ⟨h3_⟩
         have n4_ : Aside0 (Below w.heap.size w w18) := ⟨h4_⟩
         clear BK46001 BK46002 HB h0_ h1_ h2_ h3_ h4_; have HO46006 := n0_; have HO46009 := n1_; have BK46001 := n2_; have BK46002 := n3_; have HB := n4_; clear n0_ n1_ n2_ n3_ n4_
         have hHeld : w18.cell? ⟨gb46001, 0, none⟩ = some (.slice A0_0 l0_0.length c0_0) ∧ w18.cell? ⟨gb46001, 1, none⟩ = some (.slice A0_1 l0_1.length c0_1) ∧ w18.cell? ⟨gb46001, 2, none⟩ = some (.int .i64 a0_2) := hS_
         refine norm_ (a' := ?_) ?_ ?_
         rotate_left
         ·simp only [putAll, Act.put, List.setIfInBounds_toArray, List.set_cons_zero, List.set_cons_succ]
          rfl
         refine two_ (i := 5) (j := 7) (Ni := some 13) (Nj := some 3) #[true, true, true, true, true, true, false, false, false] #[true, true, true, true, true, false, false, true, false] rfl rfl rfl rfl (two_of HT_.out (by kernel_rfl)) (by decide) (by decide) (fun K hK => ?_) (fun K hK => ?_)
         ·skip
          refine Kd.R_make_step (Kd.int .i64) _ 3 (by rfl) (N := 13) rfl 26 _ _ rfl 3 rfl rfl Try.underlying26 (.int .i64 0) 8 info3 rfl (by decide) (by omega) 0 (ok := fun _ => True) (okp := fun _ => True) rfl (fun _ hk => hk) trivial (by omega) (by omega) (Below.refl _ _) (Nat.le_refl _) ?_
          intro v46011 w19 ho20 hb hg_ hnew_
          clear hg_ hnew_
          (first | rw [← Ny46010.out] at ho20 | (simp only [Int.reduceToNat] at ho20; rw [← Ny46010.out] at ho20))
          have n0_ := Aside0.mk (Kd.R_elder' (by (with_reducible repeat (first | apply Kd.R_alloc | apply Kd.R_drewN | apply Kd.R_drew)); exact HO46006.out) (Kd.R_base ho20) hb)
          have n1_ := Aside0.mk (Kd.R_elder' (by (with_reducible repeat (first | apply Kd.R_alloc | apply Kd.R_drewN | apply Kd.R_drew)); exact HO46009.out) (Kd.R_base ho20) hb)
          have n2_ := Aside0.mk (Kd.R_lower (Kd.R_new' (Kd.R_new' ho20 (Kd.R_lt (by (with_reducible repeat (first | apply Kd.R_alloc | apply Kd.R_drewN | apply Kd.R_drew)); exact HO46006.out))) (Kd.R_lt (by (with_reducible repeat (first | apply Kd.R_alloc | apply Kd.R_drewN | apply Kd.R_drew)); exact HO46009.out))) (below_size (by repeat (first | (with_reducible first | exact HB.out | apply below_alloc | apply pw_below_drewN | apply below_drew1 | refine below_set ?_ GE46001.out | refine below_set ?_ GE46002.out) | exact HB.out))))
          have n3_ := Aside0.mk (blk_below (g := gb46001) (o := .cells #[.slice A0_0 l0_0.length c0_0, .slice A0_1 l0_1.length c0_1, .int .i64 a0_2] 35 (0, 0)) (by (with_reducible repeat (first | refine blk_drewN ?_ _ | refine blk_drew ?_ | refine blk_alloc ?_ _)); exact BK46001.out) hb)
          have n4_ := Aside0.mk (blk_below (g := gb46002) (o := .cells #[.int .i64 0, .slice none 0 0, .slice none 0 0] 66 (0, 0)) (by (with_reducible repeat (first | refine blk_drewN ?_ _ | refine blk_drew ?_ | refine blk_alloc ?_ _)); exact BK46002.out) hb)
          have n5_ := Aside0.mk (below_step (by repeat (first | (with_reducible first | exact HB.out | apply below_alloc | apply pw_below_drewN | apply below_drew1 | refine below_set ?_ GE46001.out | refine below_set ?_ GE46002.out) | exact HB.out)) hb)
          clear HO46006 HO46009 BK46001 BK46002 HB; have HO46006 := n0_; have HO46009 := n1_; have HO46012 := n2_; have BK46001 := n3_; have BK46002 := n4_; have HB := n5_; clear n0_ n1_ n2_ n3_ n4_ n5_ hb ho20
          obtain ⟨Ao21, co21, eo21⟩ := Kd.R_slice HO46012.out
          (first | subst eo21 | (injection eo21 with f1_ f2_ f3_; have f4_ := f1_.symm; have f5_ := f3_.symm; clear f1_ f2_ f3_; subst f4_; subst f5_))
          obtain ⟨Ao22, co22, eo22⟩ := Kd.R_slice HO46009.out
          (first | subst eo22 | (injection eo22 with f1_ f2_ f3_; have f4_ := f1_.symm; have f5_ := f3_.symm; clear f1_ f2_ f3_; subst f4_; subst f5_))
          refine hK.out _ _ ⟨(blk_cell BK46001.out 0).trans rfl, (blk_cell BK46001.out 1).trans rfl, (blk_cell BK46001.out 2).trans rfl⟩ (fun hHeld => ?_)
          clear hK K
          refine norm_ (a' := ?_) ?_ ?_
          rotate_left
          ·show Act.put _ (some 13) _ = _
           simp only [Act.put, List.setIfInBounds_toArray, List.set_cons_zero, List.set_cons_succ, i64_w, i32_w]
           rfl
          refine pure_ (i := 6) (N := some 14) (v := ?_) (a' := ?_) #[true, true, true, true, true, true, true, false, false] rfl rfl (any_of HT_.out (by kernel_rfl)) (fun _ _ _ h => h) (Or.inl ⟨by rfl, ?_⟩) ?_ ?_
          rotate_left
          ·intro w'
           go_simp
           with_reducible rfl
          rotate_left
          ·simp only [Act.put, List.setIfInBounds_toArray, List.set_cons_zero, List.set_cons_succ, i64_w, i32_w]
           rfl
          exact norm_ (by first | (simp only [putAll, Act.put, List.setIfInBounds_toArray, List.set_cons_zero, List.set_cons_succ]; done) | (simp only [putAll, Act.put, List.setIfInBounds_toArray, List.set_cons_zero, List.set_cons_succ]; rfl)) (hJ0_4_5 (v46005, .slice Ao22 t46007.length co22, .slice Ao21 y46010.length co21) _ ⟨hHeld, (by (with_reducible repeat (first | apply Kd.R_alloc | apply Kd.R_drewN | apply Kd.R_drew)); exact HO46006.out), (by (with_reducible repeat (first | apply Kd.R_alloc | apply Kd.R_drewN | apply Kd.R_drew)); exact HO46009.out), (by (with_reducible repeat (first | apply Kd.R_alloc | apply Kd.R_drewN | apply Kd.R_drew)); exact Kd.R_mono HO46012.out (fun _ hk => ⟨hk.1.2, hk.2⟩)), (by (with_reducible repeat (first | refine blk_drewN ?_ _ | refine blk_drew ?_ | refine blk_alloc ?_ _)); exact BK46001.out), (by (with_reducible repeat (first | refine blk_drewN ?_ _ | refine blk_drew ?_ | refine blk_alloc ?_ _)); exact BK46002.out), (by repeat (first | (with_reducible first | exact HB.out | apply below_alloc | apply pw_below_drewN | apply below_drew1 | refine below_set ?_ GE46001.out | refine below_set ?_ GE46002.out) | exact HB.out))⟩)
         ·skip
          refine box_step ?hg (N := 3) ?hd (cs := #[.int .i64 0, .slice none 0 0, .slice none 0 0]) (t := 66) ?hr ?_; (case hd => rfl); (case hg => rfl); (case hr => first | (go_simp; done) | (go_simp; rfl))
          intro gb46013 hg w19 hbox hb
          have n0_ := Aside0.mk (Kd.R_below (by (with_reducible repeat (first | apply Kd.R_alloc | apply Kd.R_drewN | apply Kd.R_drew)); exact HO46006.out) hb)
          have n1_ := Aside0.mk (Kd.R_below (by (with_reducible repeat (first | apply Kd.R_alloc | apply Kd.R_drewN | apply Kd.R_drew)); exact HO46009.out) hb)
          have n2_ := Aside0.mk (blk_below (g := gb46001) (o := .cells #[.slice A0_0 l0_0.length c0_0, .slice A0_1 l0_1.length c0_1, .int .i64 a0_2] 35 (0, 0)) (by (with_reducible repeat (first | refine blk_drewN ?_ _ | refine blk_drew ?_ | refine blk_alloc ?_ _)); exact BK46001.out) hb)
          have n3_ := Aside0.mk (blk_below (g := gb46002) (o := .cells #[.int .i64 0, .slice none 0 0, .slice none 0 0] 66 (0, 0)) (by (with_reducible repeat (first | refine blk_drewN ?_ _ | refine blk_drew ?_ | refine blk_alloc ?_ _)); exact BK46002.out) hb)
          have n4_ := Aside0.mk (below_step (by repeat (first | (with_reducible first | exact HB.out | apply below_alloc | apply pw_below_drewN | apply below_drew1 | refine below_set ?_ GE46001.out | refine below_set ?_ GE46002.out) | exact HB.out)) hb)
          have n5_ := Aside0.mk (hbox)
          have n6_ := Aside0.mk ((by rw [hg]; exact (below_size (by repeat (first | (with_reducible first | exact HB.out | apply below_alloc | apply pw_below_drewN | apply below_drew1 | refine below_set ?_ GE46001.out | refine below_set ?_ GE46002.out) | exact HB.out))) : w.heap.size ≤ gb46013))
          have n7_ := Aside0.mk ((by rw [hg]; exact (below_size (by repeat (first | (with_reducible first | exact HB.out | apply below_alloc | apply pw_below_drewN | apply below_drew1 | refine below_set ?_ GE46001.out | refine below_set ?_ GE46002.out) | exact HB.out))) : w.heap.size ≤ gb46013))
          have n8_ := Aside0.mk ((by rw [hg]; exact Nat.ne_of_lt (blk_lt (g := gb46001) (o := .cells #[.slice A0_0 l0_0.length c0_0, .slice A0_1 l0_1.length c0_1, .int .i64 a0_2] 35 (0, 0)) (by (with_reducible repeat (first | refine blk_drewN ?_ _ | refine blk_drew ?_ | refine blk_alloc ?_ _)); exact BK46001.out)) : gb46001 ≠ gb46013))
          have n9_ := Aside0.mk ((by rw [hg]; exact Nat.ne_of_gt (blk_lt (g := gb46001) (o := .cells #[.slice A0_0 l0_0.length c0_0, .slice A0_1 l0_1.length c0_1, .int .i64 a0_2] 35 (0, 0)) (by (with_reducible repeat (first | refine blk_drewN ?_ _ | refine blk_drew ?_ | refine blk_alloc ?_ _)); exact BK46001.out)) : gb46013 ≠ gb46001))
          have n10_ := Aside0.mk ((by rw [hg]; exact Nat.ne_of_lt (blk_lt (g := gb46002) (o := .cells #[.int .i64 0, .slice none 0 0, .slice none 0 0] 66 (0, 0)) (by (with_reducible repeat (first | refine blk_drewN ?_ _ | refine blk_drew ?_ | refine blk_alloc ?_ _)); exact BK46002.out)) : gb46002 ≠ gb46013))
          have n11_ := Aside0.mk ((by rw [hg]; exact Nat.ne_of_gt (blk_lt (g := gb46002) (o := .cells #[.int .i64 0, .slice none 0 0, .slice none 0 0] 66 (0, 0)) (by (with_reducible repeat (first | refine blk_drewN ?_ _ | refine blk_drew ?_ | refine blk_alloc ?_ _)); exact BK46002.out)) : gb46013 ≠ gb46002))
          clear HO46006 HO46009 BK46001 BK46002 HB; have HO46006 := n0_; have HO46009 := n1_; have BK46001 := n2_; have BK46002 := n3_; have HB := n4_; have BK46013 := n5_; have GW46013 := n6_; have GE46013 := n7_; have NB46001_46013 := n8_; have NB46013_46001 := n9_; have NB46002_46013 := n10_; have NB46013_46002 := n11_; clear n0_ n1_ n2_ n3_ n4_ n5_ n6_ n7_ n8_ n9_ n10_ n11_ hb hbox hg
          refine hK.out _ _ ⟨(blk_cell BK46001.out 0).trans rfl, (blk_cell BK46001.out 1).trans rfl, (blk_cell BK46001.out 2).trans rfl⟩ (fun hHeld => ?_)
          clear hK K
          refine norm_ (a' := ?_) ?_ ?_
          rotate_left
          ·show Act.put _ (some 3) _ = _
           simp only [Act.put, List.setIfInBounds_toArray, List.set_cons_zero, List.set_cons_succ, i64_w, i32_w]
           rfl
          exact norm_ (by first | (simp only [putAll, Act.put, List.setIfInBounds_toArray, List.set_cons_zero, List.set_cons_succ]; done) | (simp only [putAll, Act.put, List.setIfInBounds_toArray, List.set_cons_zero, List.set_cons_succ]; rfl)) (hJ0_4_7 (v46005, v46008, gb46013) _ ⟨hHeld, (by (with_reducible repeat (first | apply Kd.R_alloc | apply Kd.R_drewN | apply Kd.R_drew)); exact HO46006.out), (by (with_reducible repeat (first | apply Kd.R_alloc | apply Kd.R_drewN | apply Kd.R_drew)); exact HO46009.out), (by (with_reducible repeat (first | refine blk_drewN ?_ _ | refine blk_drew ?_ | refine blk_alloc ?_ _)); exact BK46001.out), (by (with_reducible repeat (first | refine blk_drewN ?_ _ | refine blk_drew ?_ | refine blk_alloc ?_ _)); exact BK46002.out), (by (with_reducible repeat (first | refine blk_drewN ?_ _ | refine blk_drew ?_ | refine blk_alloc ?_ _)); exact BK46013.out), GW46013.out, GE46013.out, NB46001_46013.out, NB46013_46001.out, NB46002_46013.out, NB46013_46002.out, (by repeat (first | (with_reducible first | exact HB.out | apply below_alloc | apply pw_below_drewN | apply below_drew1 | refine below_set ?_ GE46001.out | refine below_set ?_ GE46002.out | refine below_set ?_ GE46013.out) | exact HB.out))⟩)
       ·skip
        rintro ⟨v46005, v46011, gb46013⟩ w19 ⟨hS_, h0_, h1_, h2_, h3_, h4_, h5_, h6_, h7_, h8_, h9_, h10_, h11_⟩
        have n0_ : Aside0 (Kd.R (Kd.int .i64) 3 w19 w.heap.size (fun k_ => some k_ ≠ (v46011 : Value).ownBlock) v46005 y46004) := ⟨h0_⟩
        have n1_ : Aside0 (Kd.R (Kd.int .i64) 3 w19 w.heap.size (fun k_ => some k_ ≠ (v46005 : Value).ownBlock) v46011 y46010) := ⟨h1_⟩
        have n2_ : Aside0 (w19.heap[gb46001]? = some (.cells #[.slice A0_0 l0_0.length c0_0, .slice A0_1 l0_1.length c0_1, .int .i64 a0_2] 35 (0, 0))) := ⟨h2_⟩
        have n3_ : Aside0 (w19.heap[gb46002]? = some (.cells #[.int .i64 0, .slice none 0 0, .slice none 0 0] 66 (0, 0))) := ⟨h3_⟩
        have n4_ : Aside0 (w19.heap[gb46013]? = some (.cells #[.int .i64 0, .slice none 0 0, .slice none 0 0] 66 (0, 0))) := ⟨h4_⟩
        have n5_ : Aside0 (w.heap.size ≤ gb46013) := ⟨h5_⟩
        have n6_ : Aside0 (w.heap.size ≤ gb46013) := ⟨h6_⟩
        have n7_ : Aside0 (gb46001 ≠ gb46013) := ⟨h7_⟩
        have n8_ : Aside0 (gb46013 ≠ gb46001) := ⟨h8_⟩
        have n9_ : Aside0 (gb46002 ≠ gb46013) := ⟨h9_⟩
        have n10_ : Aside0 (gb46013 ≠ gb46002) := ⟨h10_⟩
        have n11_ : Aside0 (Below w.heap.size w w19) := ⟨h11_⟩
        clear BK46001 BK46002 HB h0_ h1_ h2_ h3_ h4_ h5_ h6_ h7_ h8_ h9_ h10_ h11_; have HO46006 := n0_; have HO46012 := n1_; have BK46001 := n2_; have BK46002 := n3_; have BK46013 := n4_; have GW46013 := n5_; have GE46013 := n6_; have NB46001_46013 := n7_; have NB46013_46001 := n8_; have NB46002_46013 := n9_; have NB46013_46002 := n10_; have HB := n11_; clear n0_ n1_ n2_ n3_ n4_ n5_ n6_ n7_ n8_ n9_ n10_ n11_
        have hHeld : w19.cell? ⟨gb46001, 0, none⟩ = some (.slice A0_0 l0_0.length c0_0) ∧ w19.cell? ⟨gb46001, 1, none⟩ = some (.slice A0_1 l0_1.length c0_1) ∧ w19.cell? ⟨gb46001, 2, none⟩ = some (.int .i64 a0_2) := hS_
        obtain ⟨Ao20, co20, eo20⟩ := Kd.R_slice HO46006.out
        (first | subst eo20 | (injection eo20 with f1_ f2_ f3_; have f4_ := f1_.symm; have f5_ := f3_.symm; clear f1_ f2_ f3_; subst f4_; subst f5_))
        refine norm_ (a' := ?_) ?_ ?_
        rotate_left
        ·simp only [putAll, Act.put, List.setIfInBounds_toArray, List.set_cons_zero, List.set_cons_succ]
         rfl
        refine one_ (i := 4) (N := some 12) #[true, true, true, true, true, true, false, true, false] rfl rfl (one_of HT_.out (by kernel_rfl)) (by decide) (fun K hK => ?_)
        refine goes_ Try.func100 (by kernel_rfl) rfl #[.slice Ao20 y46004.length co20, .int .i64 (l0_0.length : Int)] (by rfl) rfl rfl (by (try simp only [List.map_toArray, List.map_cons, List.map_nil]); first | done | rfl | (simp only [List.length_drop, List.length_take]; rfl)) ?_
        with_reducible refine (slices_Repeat_int_int.calls _ _ y46004 (l0_0.length : Int) t46007 _ ?side1 ?side2 A4.out).mono ?_
        (case side1 => repeat (first | exact (Kd.R_reads' HO46006.out).2.2 | (with_reducible refine Kd.C_alloc ?_ _) | (with_reducible refine Kd.C_drewN ?_ _) | (with_reducible refine Kd.C_drew ?_)))
        (case side2 => exact (Kd.R_reads' HO46006.out).2.1)
        rintro e w21 ⟨v46008, rfl, ho0, hb⟩
        refine ⟨_, rfl, ?_⟩
        have n0_ := Aside0.mk (Kd.R_elder' (by (with_reducible repeat (first | apply Kd.R_alloc | apply Kd.R_drewN | apply Kd.R_drew)); exact HO46006.out) (Kd.R_base ho0) hb)
        have n1_ := Aside0.mk (Kd.R_elder' (by (with_reducible repeat (first | apply Kd.R_alloc | apply Kd.R_drewN | apply Kd.R_drew)); exact HO46012.out) (Kd.R_base ho0) hb)
        have n2_ := Aside0.mk (Kd.R_lower (Kd.R_new' (Kd.R_new' ho0 (Kd.R_lt (by (with_reducible repeat (first | apply Kd.R_alloc | apply Kd.R_drewN | apply Kd.R_drew)); exact HO46006.out))) (Kd.R_lt (by (with_reducible repeat (first | apply Kd.R_alloc | apply Kd.R_drewN | apply Kd.R_drew)); exact HO46012.out))) (below_size (by repeat (first | (with_reducible first | exact HB.out | apply below_alloc | apply pw_below_drewN | apply below_drew1 | refine below_set ?_ GE46001.out | refine below_set ?_ GE46002.out | refine below_set ?_ GE46013.out) | exact HB.out))))
        have n3_ := Aside0.mk (blk_below (g := gb46001) (o := .cells #[.slice A0_0 l0_0.length c0_0, .slice A0_1 l0_1.length c0_1, .int .i64 a0_2] 35 (0, 0)) (by (with_reducible repeat (first | refine blk_drewN ?_ _ | refine blk_drew ?_ | refine blk_alloc ?_ _)); exact BK46001.out) hb)
        have n4_ := Aside0.mk (blk_below (g := gb46002) (o := .cells #[.int .i64 0, .slice none 0 0, .slice none 0 0] 66 (0, 0)) (by (with_reducible repeat (first | refine blk_drewN ?_ _ | refine blk_drew ?_ | refine blk_alloc ?_ _)); exact BK46002.out) hb)
        have n5_ := Aside0.mk (blk_below (g := gb46013) (o := .cells #[.int .i64 0, .slice none 0 0, .slice none 0 0] 66 (0, 0)) (by (with_reducible repeat (first | refine blk_drewN ?_ _ | refine blk_drew ?_ | refine blk_alloc ?_ _)); exact BK46013.out) hb)
        have n6_ := Aside0.mk (below_step (by repeat (first | (with_reducible first | exact HB.out | apply below_alloc | apply pw_below_drewN | apply below_drew1 | refine below_set ?_ GE46001.out | refine below_set ?_ GE46002.out | refine below_set ?_ GE46013.out) | exact HB.out)) hb)
        clear HO46006 HO46012 BK46001 BK46002 BK46013 HB; have HO46006 := n0_; have HO46012 := n1_; have HO46009 := n2_; have BK46001 := n3_; have BK46002 := n4_; have BK46013 := n5_; have HB := n6_; clear n0_ n1_ n2_ n3_ n4_ n5_ n6_
        (try clear hb)
        (try clear hb2)
        (try clear hk)
        (try clear hi)
        (try clear ho0)
        obtain ⟨Ao22, co22, eo22⟩ := Kd.R_slice HO46012.out
        (first | subst eo22 | (injection eo22 with f1_ f2_ f3_; have f4_ := f1_.symm; have f5_ := f3_.symm; clear f1_ f2_ f3_; subst f4_; subst f5_))
        obtain ⟨Ao23, co23, eo23⟩ := Kd.R_slice HO46009.out
        (first | subst eo23 | (injection eo23 with f1_ f2_ f3_; have f4_ := f1_.symm; have f5_ := f3_.symm; clear f1_ f2_ f3_; subst f4_; subst f5_))
        refine hK.out _ _ ⟨(blk_cell BK46001.out 0).trans rfl, (blk_cell BK46001.out 1).trans rfl, (blk_cell BK46001.out 2).trans rfl⟩ (fun hHeld => ?_)
        clear hK K
        refine norm_ (a' := ?_) ?_ ?_
        rotate_left
        ·show Act.put _ (some 12) _ = _
         simp only [Act.put, List.setIfInBounds_toArray, List.set_cons_zero, List.set_cons_succ, i64_w, i32_w]
         rfl
        refine pure_ (i := 6) (N := some 14) (v := ?_) (a' := ?_) #[true, true, true, true, true, true, true, true, false] rfl rfl (any_of HT_.out (by kernel_rfl)) (fun _ _ _ h => h) (Or.inl ⟨by rfl, ?_⟩) ?_ ?_
        rotate_left
        ·intro w'
         go_simp
         with_reducible rfl
        rotate_left
        ·simp only [Act.put, List.setIfInBounds_toArray, List.set_cons_zero, List.set_cons_succ, i64_w, i32_w]
         rfl
        exact norm_ (by first | (simp only [putAll, Act.put, List.setIfInBounds_toArray, List.set_cons_zero, List.set_cons_succ]; done) | (simp only [putAll, Act.put, List.setIfInBounds_toArray, List.set_cons_zero, List.set_cons_succ]; rfl)) (hJ0_4_5_7 (.slice Ao20 y46004.length co20, .slice Ao23 t46007.length co23, .slice Ao22 y46010.length co22, gb46013) _ ⟨hHeld, (by (with_reducible repeat (first | apply Kd.R_alloc | apply Kd.R_drewN | apply Kd.R_drew)); exact Kd.R_mono HO46006.out (fun _ hk => ⟨hk.2, hk.1⟩)), (by (with_reducible repeat (first | apply Kd.R_alloc | apply Kd.R_drewN | apply Kd.R_drew)); exact Kd.R_mono HO46009.out (fun _ hk => ⟨hk.1.2, hk.2⟩)), (by (with_reducible repeat (first | apply Kd.R_alloc | apply Kd.R_drewN | apply Kd.R_drew)); exact HO46012.out), (by (with_reducible repeat (first | refine blk_drewN ?_ _ | refine blk_drew ?_ | refine blk_alloc ?_ _)); exact BK46001.out), (by (with_reducible repeat (first | refine blk_drewN ?_ _ | refine blk_drew ?_ | refine blk_alloc ?_ _)); exact BK46002.out), (by (with_reducible repeat (first | refine blk_drewN ?_ _ | refine blk_drew ?_ | refine blk_alloc ?_ _)); exact BK46013.out), GW46013.out, GE46013.out, NB46001_46013.out, NB46013_46001.out, NB46002_46013.out, NB46013_46002.out, (by repeat (first | (with_reducible first | exact HB.out | apply below_alloc | apply pw_below_drewN | apply below_drew1 | refine below_set ?_ GE46001.out | refine below_set ?_ GE46002.out | refine below_set ?_ GE46013.out) | exact HB.out))⟩)
      ·skip
       rintro ⟨v46005, v46008, gb46013⟩ w19 ⟨hS_, h0_, h1_, h2_, h3_, h4_, h5_, h6_, h7_, h8_, h9_, h10_, h11_⟩
       have n0_ : Aside0 (Kd.R (Kd.int .i64) 3 w19 w.heap.size (fun k_ => some k_ ≠ (v46008 : Value).ownBlock) v46005 y46004) := ⟨h0_⟩
       have n1_ : Aside0 (Kd.R (Kd.int .i64) 3 w19 w.heap.size (fun k_ => some k_ ≠ (v46005 : Value).ownBlock) v46008 t46007) := ⟨h1_⟩
       have n2_ : Aside0 (w19.heap[gb46001]? = some (.cells #[.slice A0_0 l0_0.length c0_0, .slice A0_1 l0_1.length c0_1, .int .i64 a0_2] 35 (0, 0))) := ⟨h2_⟩
       have n3_ : Aside0 (w19.heap[gb46002]? = some (.cells #[.int .i64 0, .slice none 0 0, .slice none 0 0] 66 (0, 0))) := ⟨h3_⟩
       have n4_ : Aside0 (w19.heap[gb46013]? = some (.cells #[.int .i64 0, .slice none 0 0, .slice none 0 0] 66 (0, 0))) := ⟨h4_⟩
       have n5_ : Aside0 (w.heap.size ≤ gb46013) := ⟨h5_⟩
       have n6_ : Aside0 (w.heap.size ≤ gb46013) := ⟨h6_⟩
       have n7_ : Aside0 (gb46001 ≠ gb46013) := ⟨h7_⟩
       have n8_ : Aside0 (gb46013 ≠ gb46001) := ⟨h8_⟩
       have n9_ : Aside0 (gb46002 ≠ gb46013) := ⟨h9_⟩
       have n10_ : Aside0 (gb46013 ≠ gb46002) := ⟨h10_⟩
       have n11_ : Aside0 (Below w.heap.size w w19) := ⟨h11_⟩
       clear BK46001 BK46002 HB h0_ h1_ h2_ h3_ h4_ h5_ h6_ h7_ h8_ h9_ h10_ h11_; have HO46006 := n0_; have HO46009 := n1_; have BK46001 := n2_; have BK46002 := n3_; have BK46013 := n4_; have GW46013 := n5_; have GE46013 := n6_; have NB46001_46013 := n7_; have NB46013_46001 := n8_; have NB46002_46013 := n9_; have NB46013_46002 := n10_; have HB := n11_; clear n0_ n1_ n2_ n3_ n4_ n5_ n6_ n7_ n8_ n9_ n10_ n11_
       have hHeld : w19.cell? ⟨gb46001, 0, none⟩ = some (.slice A0_0 l0_0.length c0_0) ∧ w19.cell? ⟨gb46001, 1, none⟩ = some (.slice A0_1 l0_1.length c0_1) ∧ w19.cell? ⟨gb46001, 2, none⟩ = some (.int .i64 a0_2) := hS_
       refine norm_ (a' := ?_) ?_ ?_
       rotate_left
       ·simp only [putAll, Act.put, List.setIfInBounds_toArray, List.set_cons_zero, List.set_cons_succ]
        rfl
       refine one_ (i := 5) (N := some 13) #[true, true, true, true, true, true, false, true, false] rfl rfl (one_of HT_.out (by kernel_rfl)) (by decide) (fun K hK => ?_)
       refine Kd.R_make_step (Kd.int .i64) _ 3 (by rfl) (N := 13) rfl 26 _ _ rfl 3 rfl rfl Try.underlying26 (.int .i64 0) 8 info3 rfl (by decide) (by omega) 0 (ok := fun _ => True) (okp := fun _ => True) rfl (fun _ hk => hk) trivial (by omega) (by omega) (Below.refl _ _) (Nat.le_refl _) ?_
       intro v46011 w20 ho21 hb hg_ hnew_
       clear hg_ hnew_
       (first | rw [← Ny46010.out] at ho21 | (simp only [Int.reduceToNat] at ho21; rw [← Ny46010.out] at ho21))
       have n0_ := Aside0.mk (Kd.R_elder' (by (with_reducible repeat (first | apply Kd.R_alloc | apply Kd.R_drewN | apply Kd.R_drew)); exact HO46006.out) (Kd.R_base ho21) hb)
       have n1_ := Aside0.mk (Kd.R_elder' (by (with_reducible repeat (first | apply Kd.R_alloc | apply Kd.R_drewN | apply Kd.R_drew)); exact HO46009.out) (Kd.R_base ho21) hb)
       have n2_ := Aside0.mk (Kd.R_lower (Kd.R_new' (Kd.R_new' ho21 (Kd.R_lt (by (with_reducible repeat (first | apply Kd.R_alloc | apply Kd.R_drewN | apply Kd.R_drew)); exact HO46006.out))) (Kd.R_lt (by (with_reducible repeat (first | apply Kd.R_alloc | apply Kd.R_drewN | apply Kd.R_drew)); exact HO46009.out))) (below_size (by repeat (first | (with_reducible first | exact HB.out | apply below_alloc | apply pw_below_drewN | apply below_drew1 | refine below_set ?_ GE46001.out | refine below_set ?_ GE46002.out | refine below_set ?_ GE46013.out) | exact HB.out))))
       have n3_ := Aside0.mk (blk_below (g := gb46001) (o := .cells #[.slice A0_0 l0_0.length c0_0, .slice A0_1 l0_1.length c0_1, .int .i64 a0_2] 35 (0, 0)) (by (with_reducible repeat (first | refine blk_drewN ?_ _ | refine blk_drew ?_ | refine blk_alloc ?_ _)); exact BK46001.out) hb)
       have n4_ := Aside0.mk (blk_below (g := gb46002) (o := .cells #[.int .i64 0, .slice none 0 0, .slice none 0 0] 66 (0, 0)) (by (with_reducible repeat (first | refine blk_drewN ?_ _ | refine blk_drew ?_ | refine blk_alloc ?_ _)); exact BK46002.out) hb)
       have n5_ := Aside0.mk (blk_below (g := gb46013) (o := .cells #[.int .i64 0, .slice none 0 0, .slice none 0 0] 66 (0, 0)) (by (with_reducible repeat (first | refine blk_drewN ?_ _ | refine blk_drew ?_ | refine blk_alloc ?_ _)); exact BK46013.out) hb)
       have n6_ := Aside0.mk (below_step (by repeat (first | (with_reducible first | exact HB.out | apply below_alloc | apply pw_below_drewN | apply below_drew1 | refine below_set ?_ GE46001.out | refine below_set ?_ GE46002.out | refine below_set ?_ GE46013.out) | exact HB.out)) hb)
       clear HO46006 HO46009 BK46001 BK46002 BK46013 HB; have HO46006 := n0_; have HO46009 := n1_; have HO46012 := n2_; have BK46001 := n3_; have BK46002 := n4_; have BK46013 := n5_; have HB := n6_; clear n0_ n1_ n2_ n3_ n4_ n5_ n6_ hb ho21
       obtain ⟨Ao22, co22, eo22⟩ := Kd.R_slice HO46012.out
       (first | subst eo22 | (injection eo22 with f1_ f2_ f3_; have f4_ := f1_.symm; have f5_ := f3_.symm; clear f1_ f2_ f3_; subst f4_; subst f5_))
       obtain ⟨Ao23, co23, eo23⟩ := Kd.R_slice HO46009.out
       (first | subst eo23 | (injection eo23 with f1_ f2_ f3_; have f4_ := f1_.symm; have f5_ := f3_.symm; clear f1_ f2_ f3_; subst f4_; subst f5_))
       refine hK.out _ _ ⟨(blk_cell BK46001.out 0).trans rfl, (blk_cell BK46001.out 1).trans rfl, (blk_cell BK46001.out 2).trans rfl⟩ (fun hHeld => ?_)
       clear hK K
       refine norm_ (a' := ?_) ?_ ?_
       rotate_left
       ·show Act.put _ (some 13) _ = _
        simp only [Act.put, List.setIfInBounds_toArray, List.set_cons_zero, List.set_cons_succ, i64_w, i32_w]
        rfl
       refine pure_ (i := 6) (N := some 14) (v := ?_) (a' := ?_) #[true, true, true, true, true, true, true, true, false] rfl rfl (any_of HT_.out (by kernel_rfl)) (fun _ _ _ h => h) (Or.inl ⟨by rfl, ?_⟩) ?_ ?_
       rotate_left
       ·intro w'
        go_simp
        with_reducible rfl
       rotate_left
       ·simp only [Act.put, List.setIfInBounds_toArray, List.set_cons_zero, List.set_cons_succ, i64_w, i32_w]
        rfl
       exact norm_ (by first | (simp only [putAll, Act.put, List.setIfInBounds_toArray, List.set_cons_zero, List.set_cons_succ]; done) | (simp only [putAll, Act.put, List.setIfInBounds_toArray, List.set_cons_zero, List.set_cons_succ]; rfl)) (hJ0_4_5_7 (v46005, .slice Ao23 t46007.length co23, .slice Ao22 y46010.length co22, gb46013) _ ⟨hHeld, (by (with_reducible repeat (first | apply Kd.R_alloc | apply Kd.R_drewN | apply Kd.R_drew)); exact HO46006.out), (by (with_reducible repeat (first | apply Kd.R_alloc | apply Kd.R_drewN | apply Kd.R_drew)); exact HO46009.out), (by (with_reducible repeat (first | apply Kd.R_alloc | apply Kd.R_drewN | apply Kd.R_drew)); exact Kd.R_mono HO46012.out (fun _ hk => ⟨hk.1.2, hk.2⟩)), (by (with_reducible repeat (first | refine blk_drewN ?_ _ | refine blk_drew ?_ | refine blk_alloc ?_ _)); exact BK46001.out), (by (with_reducible repeat (first | refine blk_drewN ?_ _ | refine blk_drew ?_ | refine blk_alloc ?_ _)); exact BK46002.out), (by (with_reducible repeat (first | refine blk_drewN ?_ _ | refine blk_drew ?_ | refine blk_alloc ?_ _)); exact BK46013.out), GW46013.out, GE46013.out, NB46001_46013.out, NB46013_46001.out, NB46002_46013.out, NB46013_46002.out, (by repeat (first | (with_reducible first | exact HB.out | apply below_alloc | apply pw_below_drewN | apply below_drew1 | refine below_set ?_ GE46001.out | refine below_set ?_ GE46002.out | refine below_set ?_ GE46013.out) | exact HB.out))⟩)
     ·skip
      rintro ⟨v46005, v46008, v46011⟩ w22 ⟨hS_, h0_, h1_, h2_, h3_, h4_, h5_⟩
      have n0_ : Aside0 (Kd.R (Kd.int .i64) 3 w22 w.heap.size (fun k_ => some k_ ≠ (v46008 : Value).ownBlock ∧ some k_ ≠ (v46011 : Value).ownBlock) v46005 y46004) := ⟨h0_⟩
      have n1_ : Aside0 (Kd.R (Kd.int .i64) 3 w22 w.heap.size (fun k_ => some k_ ≠ (v46005 : Value).ownBlock ∧ some k_ ≠ (v46011 : Value).ownBlock) v46008 t46007) := ⟨h1_⟩
      have n2_ : Aside0 (Kd.R (Kd.int .i64) 3 w22 w.heap.size (fun k_ => some k_ ≠ (v46005 : Value).ownBlock ∧ some k_ ≠ (v46008 : Value).ownBlock) v46011 y46010) := ⟨h2_⟩
      have n3_ : Aside0 (w22.heap[gb46001]? = some (.cells #[.slice A0_0 l0_0.length c0_0, .slice A0_1 l0_1.length c0_1, .int .i64 a0_2] 35 (0, 0))) := ⟨h3_⟩
      have n4_ : Aside0 (w22.heap[gb46002]? = some (.cells #[.int .i64 0, .slice none 0 0, .slice none 0 0] 66 (0, 0))) := ⟨h4_⟩
      have n5_ : Aside0 (Below w.heap.size w w22) := ⟨h5_⟩
      clear BK46001 BK46002 HB h0_ h1_ h2_ h3_ h4_ h5_; have HO46006 := n0_; have HO46009 := n1_; have HO46012 := n2_; have BK46001 := n3_; have BK46002 := n4_; have HB := n5_; clear n0_ n1_ n2_ n3_ n4_ n5_
      have hHeld : w22.cell? ⟨gb46001, 0, none⟩ = some (.slice A0_0 l0_0.length c0_0) ∧ w22.cell? ⟨gb46001, 1, none⟩ = some (.slice A0_1 l0_1.length c0_1) ∧ w22.cell? ⟨gb46001, 2, none⟩ = some (.int .i64 a0_2) := hS_
      obtain ⟨Ao23, co23, eo23⟩ := Kd.R_slice HO46012.out
      (first | subst eo23 | (injection eo23 with f1_ f2_ f3_; have f4_ := f1_.symm; have f5_ := f3_.symm; clear f1_ f2_ f3_; subst f4_; subst f5_))
      obtain ⟨Ao24, co24, eo24⟩ := Kd.R_slice HO46009.out
      (first | subst eo24 | (injection eo24 with f1_ f2_ f3_; have f4_ := f1_.symm; have f5_ := f3_.symm; clear f1_ f2_ f3_; subst f4_; subst f5_))
      refine norm_ (a' := ?_) ?_ ?_
      rotate_left
      ·simp only [putAll, Act.put, List.setIfInBounds_toArray, List.set_cons_zero, List.set_cons_succ]
       rfl
      refine one_ (i := 7) (N := some 3) #[true, true, true, true, true, true, true, true, false] rfl rfl (one_of HT_.out (by kernel_rfl)) (by decide) (fun K hK => ?_)
      refine box_step ?hg (N := 3) ?hd (cs := #[.int .i64 0, .slice none 0 0, .slice none 0 0]) (t := 66) ?hr ?_; (case hd => rfl); (case hg => rfl); (case hr => first | (go_simp; done) | (go_simp; rfl))
      intro gb46013 hg w25 hbox hb
      have n0_ := Aside0.mk (Kd.R_below (by (with_reducible repeat (first | apply Kd.R_alloc | apply Kd.R_drewN | apply Kd.R_drew)); exact HO46006.out) hb)
      have n1_ := Aside0.mk (Kd.R_below (by (with_reducible repeat (first | apply Kd.R_alloc | apply Kd.R_drewN | apply Kd.R_drew)); exact HO46009.out) hb)
      have n2_ := Aside0.mk (Kd.R_below (by (with_reducible repeat (first | apply Kd.R_alloc | apply Kd.R_drewN | apply Kd.R_drew)); exact HO46012.out) hb)
      have n3_ := Aside0.mk (blk_below (g := gb46001) (o := .cells #[.slice A0_0 l0_0.length c0_0, .slice A0_1 l0_1.length c0_1, .int .i64 a0_2] 35 (0, 0)) (by (with_reducible repeat (first | refine blk_drewN ?_ _ | refine blk_drew ?_ | refine blk_alloc ?_ _)); exact BK46001.out) hb)
      have n4_ := Aside0.mk (blk_below (g := gb46002) (o := .cells #[.int .i64 0, .slice none 0 0, .slice none 0 0] 66 (0, 0)) (by (with_reducible repeat (first | refine blk_drewN ?_ _ | refine blk_drew ?_ | refine blk_alloc ?_ _)); exact BK46002.out) hb)
      have n5_ := Aside0.mk (below_step (by repeat (first | (with_reducible first | exact HB.out | apply below_alloc | apply pw_below_drewN | apply below_drew1 | refine below_set ?_ GE46001.out | refine below_set ?_ GE46002.out) | exact HB.out)) hb)
      have n6_ := Aside0.mk (hbox)
      have n7_ := Aside0.mk ((by rw [hg]; exact (below_size (by repeat (first | (with_reducible first | exact HB.out | apply below_alloc | apply pw_below_drewN | apply below_drew1 | refine below_set ?_ GE46001.out | refine below_set ?_ GE46002.out) | exact HB.out))) : w.heap.size ≤ gb46013))
      have n8_ := Aside0.mk ((by rw [hg]; exact (below_size (by repeat (first | (with_reducible first | exact HB.out | apply below_alloc | apply pw_below_drewN | apply below_drew1 | refine below_set ?_ GE46001.out | refine below_set ?_ GE46002.out) | exact HB.out))) : w.heap.size ≤ gb46013))
      have n9_ := Aside0.mk ((by rw [hg]; exact Nat.ne_of_lt (blk_lt (g := gb46001) (o := .cells #[.slice A0_0 l0_0.length c0_0, .slice A0_1 l0_1.length c0_1, .int .i64 a0_2] 35 (0, 0)) (by (with_reducible repeat (first | refine blk_drewN ?_ _ | refine blk_drew ?_ | refine blk_alloc ?_ _)); exact BK46001.out)) : gb46001 ≠ gb46013))
      have n10_ := Aside0.mk ((by rw [hg]; exact Nat.ne_of_gt (blk_lt (g := gb46001) (o := .cells #[.slice A0_0 l0_0.length c0_0, .slice A0_1 l0_1.length c0_1, .int .i64 a0_2] 35 (0, 0)) (by (with_reducible repeat (first | refine blk_drewN ?_ _ | refine blk_drew ?_ | refine blk_alloc ?_ _)); exact BK46001.out)) : gb46013 ≠ gb46001))
      have n11_ := Aside0.mk ((by rw [hg]; exact Nat.ne_of_lt (blk_lt (g := gb46002) (o := .cells #[.int .i64 0, .slice none 0 0, .slice none 0 0] 66 (0, 0)) (by (with_reducible repeat (first | refine blk_drewN ?_ _ | refine blk_drew ?_ | refine blk_alloc ?_ _)); exact BK46002.out)) : gb46002 ≠ gb46013))
      have n12_ := Aside0.mk ((by rw [hg]; exact Nat.ne_of_gt (blk_lt (g := gb46002) (o := .cells #[.int .i64 0, .slice none 0 0, .slice none 0 0] 66 (0, 0)) (by (with_reducible repeat (first | refine blk_drewN ?_ _ | refine blk_drew ?_ | refine blk_alloc ?_ _)); exact BK46002.out)) : gb46013 ≠ gb46002))
      clear HO46006 HO46009 HO46012 BK46001 BK46002 HB; have HO46006 := n0_; have HO46009 := n1_; have HO46012 := n2_; have BK46001 := n3_; have BK46002 := n4_; have HB := n5_; have BK46013 := n6_; have GW46013 := n7_; have GE46013 := n8_; have NB46001_46013 := n9_; have NB46013_46001 := n10_; have NB46002_46013 := n11_; have NB46013_46002 := n12_; clear n0_ n1_ n2_ n3_ n4_ n5_ n6_ n7_ n8_ n9_ n10_ n11_ n12_ hb hbox hg
      refine hK.out _ _ ⟨(blk_cell BK46001.out 0).trans rfl, (blk_cell BK46001.out 1).trans rfl, (blk_cell BK46001.out 2).trans rfl⟩ (fun hHeld => ?_)
      clear hK K
      refine norm_ (a' := ?_) ?_ ?_
      rotate_left
      ·show Act.put _ (some 3) _ = _
       simp only [Act.put, List.setIfInBounds_toArray, List.set_cons_zero, List.set_cons_succ, i64_w, i32_w]
       rfl
      exact norm_ (by first | (simp only [putAll, Act.put, List.setIfInBounds_toArray, List.set_cons_zero, List.set_cons_succ]; done) | (simp only [putAll, Act.put, List.setIfInBounds_toArray, List.set_cons_zero, List.set_cons_succ]; rfl)) (hJ0_4_5_7 (v46005, .slice Ao24 t46007.length co24, .slice Ao23 y46010.length co23, gb46013) _ ⟨hHeld, (by (with_reducible repeat (first | apply Kd.R_alloc | apply Kd.R_drewN | apply Kd.R_drew)); exact HO46006.out), (by (with_reducible repeat (first | apply Kd.R_alloc | apply Kd.R_drewN | apply Kd.R_drew)); exact HO46009.out), (by (with_reducible repeat (first | apply Kd.R_alloc | apply Kd.R_drewN | apply Kd.R_drew)); exact HO46012.out), (by (with_reducible repeat (first | refine blk_drewN ?_ _ | refine blk_drew ?_ | refine blk_alloc ?_ _)); exact BK46001.out), (by (with_reducible repeat (first | refine blk_drewN ?_ _ | refine blk_drew ?_ | refine blk_alloc ?_ _)); exact BK46002.out), (by (with_reducible repeat (first | refine blk_drewN ?_ _ | refine blk_drew ?_ | refine blk_alloc ?_ _)); exact BK46013.out), GW46013.out, GE46013.out, NB46001_46013.out, NB46013_46001.out, NB46002_46013.out, NB46013_46002.out, (by repeat (first | (with_reducible first | exact HB.out | apply below_alloc | apply pw_below_drewN | apply below_drew1 | refine below_set ?_ GE46001.out | refine below_set ?_ GE46002.out | refine below_set ?_ GE46013.out) | exact HB.out))⟩)
    rintro ⟨v46005, v46008, v46011, gb46013⟩ w23 ⟨hS_, h0_, h1_, h2_, h3_, h4_, h5_, h6_, h7_, h8_, h9_, h10_, h11_, h12_⟩
    have n0_ : Aside0 (Kd.R (Kd.int .i64) 3 w23 w.heap.size (fun k_ => some k_ ≠ (v46008 : Value).ownBlock ∧ some k_ ≠ (v46011 : Value).ownBlock) v46005 y46004) := ⟨h0_⟩
    have n1_ : Aside0 (Kd.R (Kd.int .i64) 3 w23 w.heap.size (fun k_ => some k_ ≠ (v46005 : Value).ownBlock ∧ some k_ ≠ (v46011 : Value).ownBlock) v46008 t46007) := ⟨h1_⟩
    have n2_ : Aside0 (Kd.R (Kd.int .i64) 3 w23 w.heap.size (fun k_ => some k_ ≠ (v46005 : Value).ownBlock ∧ some k_ ≠ (v46008 : Value).ownBlock) v46011 y46010) := ⟨h2_⟩
    have n3_ : Aside0 (w23.heap[gb46001]? = some (.cells #[.slice A0_0 l0_0.length c0_0, .slice A0_1 l0_1.length c0_1, .int .i64 a0_2] 35 (0, 0))) := ⟨h3_⟩
    have n4_ : Aside0 (w23.heap[gb46002]? = some (.cells #[.int .i64 0, .slice none 0 0, .slice none 0 0] 66 (0, 0))) := ⟨h4_⟩
    have n5_ : Aside0 (w23.heap[gb46013]? = some (.cells #[.int .i64 0, .slice none 0 0, .slice none 0 0] 66 (0, 0))) := ⟨h5_⟩
    have n6_ : Aside0 (w.heap.size ≤ gb46013) := ⟨h6_⟩
    have n7_ : Aside0 (w.heap.size ≤ gb46013) := ⟨h7_⟩
    have n8_ : Aside0 (gb46001 ≠ gb46013) := ⟨h8_⟩
    have n9_ : Aside0 (gb46013 ≠ gb46001) := ⟨h9_⟩
    have n10_ : Aside0 (gb46002 ≠ gb46013) := ⟨h10_⟩
    have n11_ : Aside0 (gb46013 ≠ gb46002) := ⟨h11_⟩
    have n12_ : Aside0 (Below w.heap.size w w23) := ⟨h12_⟩
    clear BK46001 BK46002 HB h0_ h1_ h2_ h3_ h4_ h5_ h6_ h7_ h8_ h9_ h10_ h11_ h12_; have HO46006 := n0_; have HO46009 := n1_; have HO46012 := n2_; have BK46001 := n3_; have BK46002 := n4_; have BK46013 := n5_; have GW46013 := n6_; have GE46013 := n7_; have NB46001_46013 := n8_; have NB46013_46001 := n9_; have NB46002_46013 := n10_; have NB46013_46002 := n11_; have HB := n12_; clear n0_ n1_ n2_ n3_ n4_ n5_ n6_ n7_ n8_ n9_ n10_ n11_ n12_
    have hHeld : w23.cell? ⟨gb46001, 0, none⟩ = some (.slice A0_0 l0_0.length c0_0) ∧ w23.cell? ⟨gb46001, 1, none⟩ = some (.slice A0_1 l0_1.length c0_1) ∧ w23.cell? ⟨gb46001, 2, none⟩ = some (.int .i64 a0_2) := hS_
    obtain ⟨Ao24, co24, eo24⟩ := Kd.R_slice HO46012.out
    (first | subst eo24 | (injection eo24 with f1_ f2_ f3_; have f4_ := f1_.symm; have f5_ := f3_.symm; clear f1_ f2_ f3_; subst f4_; subst f5_))
    obtain ⟨Ao25, co25, eo25⟩ := Kd.R_slice HO46009.out
    (first | subst eo25 | (injection eo25 with f1_ f2_ f3_; have f4_ := f1_.symm; have f5_ := f3_.symm; clear f1_ f2_ f3_; subst f4_; subst f5_))
    refine norm_ (a' := ?_) ?_ ?_
    rotate_left
    ·simp only [putAll, Act.put, List.setIfInBounds_toArray, List.set_cons_zero, List.set_cons_succ]
     rfl
    refine one_ (i := 8) (N := none) #[true, true, true, true, true, true, true, true, true] rfl rfl (one_of HT_.out (by kernel_rfl)) (by decide) (fun K hK => ?_)
    have hs26 : w23.cell? ⟨gb46013, 0, none⟩ = some (.int .i64 0) := (blk_cell BK46013.out 0).trans rfl
    have hfs26 := blk_frozen BK46013.out 0
    have hns26_0 := NB46001_46013.out
    have hns26_1 := NB46002_46013.out
    have hms26_0 := NB46013_46001.out
    have hms26_1 := NB46013_46002.out
    have hs27 : w23.cell? ⟨gb46013, 1, none⟩ = some (.slice none 0 0) := (blk_cell BK46013.out 1).trans rfl
    have hfs27 := blk_frozen BK46013.out 1
    have hns27_0 := NB46001_46013.out
    have hns27_1 := NB46002_46013.out
    have hms27_0 := NB46013_46001.out
    have hms27_1 := NB46013_46002.out
    have hs28 : w23.cell? ⟨gb46013, 2, none⟩ = some (.slice none 0 0) := (blk_cell BK46013.out 2).trans rfl
    have hfs28 := blk_frozen BK46013.out 2
    have hns28_0 := NB46001_46013.out
    have hns28_1 := NB46002_46013.out
    have hms28_0 := NB46013_46001.out
    have hms28_1 := NB46013_46002.out
    refine skip_ (w1 := ?_) (by rfl) rfl ?_ ?_
    rotate_left
    ·go_simp
     rfl
    refine hK.out _ _ ⟨((cell_far (p := ⟨gb46013, _, none⟩) NB46001_46013.out _).trans (((cell_far (p := ⟨gb46013, _, none⟩) NB46001_46013.out _).trans (((cell_far (p := ⟨gb46013, _, none⟩) NB46001_46013.out _).trans (hHeld.1)))))), ((cell_far (p := ⟨gb46013, _, none⟩) NB46001_46013.out _).trans (((cell_far (p := ⟨gb46013, _, none⟩) NB46001_46013.out _).trans (((cell_far (p := ⟨gb46013, _, none⟩) NB46001_46013.out _).trans (hHeld.2.1)))))), ((cell_far (p := ⟨gb46013, _, none⟩) NB46001_46013.out _).trans (((cell_far (p := ⟨gb46013, _, none⟩) NB46001_46013.out _).trans (((cell_far (p := ⟨gb46013, _, none⟩) NB46001_46013.out _).trans (hHeld.2.2))))))⟩ (fun hHeld => ?_)
    clear hK K
    refine done_ (done_of HT_.out (by kernel_rfl)) ?_
    have n0_ : Aside0 (Kd.R (Kd.int .i64) 3 (((w23.setCell ⟨gb46013, 0, none⟩ (.int .i64 0)).setCell ⟨gb46013, 1, none⟩ (.slice Ao25 t46007.length co25)).setCell ⟨gb46013, 2, none⟩ (.slice Ao24 y46010.length co24)) w.heap.size (fun k_ => some k_ ≠ (.slice Ao25 t46007.length co25 : Value).ownBlock ∧ some k_ ≠ (.slice Ao24 y46010.length co24 : Value).ownBlock) v46005 y46004) := ⟨by (with_reducible repeat (first | apply Kd.R_alloc | apply Kd.R_drewN | apply Kd.R_drew)); exact Kd.R_mono (Kd.R_far (p := ⟨gb46013, 2, none⟩) (Kd.R_far (p := ⟨gb46013, 1, none⟩) (Kd.R_far (p := ⟨gb46013, 0, none⟩) (Kd.R_types HO46006.out BK46013.out (by decide)) (fun _ hk => hk.2) (.int .i64 0)) (fun _ hk => hk.2) (.slice Ao25 t46007.length co25)) (fun _ hk => hk.2) (.slice Ao24 y46010.length co24)) (fun _ hk => ⟨hk.1.1, hk.1.2⟩)⟩
    have n1_ : Aside0 (Kd.R (Kd.int .i64) 3 (((w23.setCell ⟨gb46013, 0, none⟩ (.int .i64 0)).setCell ⟨gb46013, 1, none⟩ (.slice Ao25 t46007.length co25)).setCell ⟨gb46013, 2, none⟩ (.slice Ao24 y46010.length co24)) w.heap.size (fun k_ => some k_ ≠ (v46005 : Value).ownBlock ∧ some k_ ≠ (.slice Ao24 y46010.length co24 : Value).ownBlock) (.slice Ao25 t46007.length co25) t46007) := ⟨by (with_reducible repeat (first | apply Kd.R_alloc | apply Kd.R_drewN | apply Kd.R_drew)); exact Kd.R_mono (Kd.R_far (p := ⟨gb46013, 2, none⟩) (Kd.R_far (p := ⟨gb46013, 1, none⟩) (Kd.R_far (p := ⟨gb46013, 0, none⟩) (Kd.R_types HO46009.out BK46013.out (by decide)) (fun _ hk => hk.2) (.int .i64 0)) (fun _ hk => hk.2) (.slice Ao25 t46007.length co25)) (fun _ hk => hk.2) (.slice Ao24 y46010.length co24)) (fun _ hk => ⟨hk.1.1, hk.1.2⟩)⟩
    have n2_ : Aside0 (Kd.R (Kd.int .i64) 3 (((w23.setCell ⟨gb46013, 0, none⟩ (.int .i64 0)).setCell ⟨gb46013, 1, none⟩ (.slice Ao25 t46007.length co25)).setCell ⟨gb46013, 2, none⟩ (.slice Ao24 y46010.length co24)) w.heap.size (fun k_ => some k_ ≠ (v46005 : Value).ownBlock ∧ some k_ ≠ (.slice Ao25 t46007.length co25 : Value).ownBlock) (.slice Ao24 y46010.length co24) y46010) := ⟨by (with_reducible repeat (first | apply Kd.R_alloc | apply Kd.R_drewN | apply Kd.R_drew)); exact Kd.R_mono (Kd.R_far (p := ⟨gb46013, 2, none⟩) (Kd.R_far (p := ⟨gb46013, 1, none⟩) (Kd.R_far (p := ⟨gb46013, 0, none⟩) (Kd.R_types HO46012.out BK46013.out (by decide)) (fun _ hk => hk.2) (.int .i64 0)) (fun _ hk => hk.2) (.slice Ao25 t46007.length co25)) (fun _ hk => hk.2) (.slice Ao24 y46010.length co24)) (fun _ hk => ⟨hk.1.1, hk.1.2⟩)⟩
    have n3_ : Aside0 ((((w23.setCell ⟨gb46013, 0, none⟩ (.int .i64 0)).setCell ⟨gb46013, 1, none⟩ (.slice Ao25 t46007.length co25)).setCell ⟨gb46013, 2, none⟩ (.slice Ao24 y46010.length co24)).heap[gb46001]? = some (.cells #[.slice A0_0 l0_0.length c0_0, .slice A0_1 l0_1.length c0_1, .int .i64 a0_2] 35 (0, 0))) := ⟨by (with_reducible repeat (first | refine blk_drewN ?_ _ | refine blk_drew ?_ | refine blk_alloc ?_ _)); refine blk_far ?_ NB46001_46013.out _; (with_reducible repeat (first | refine blk_drewN ?_ _ | refine blk_drew ?_ | refine blk_alloc ?_ _)); refine blk_far ?_ NB46001_46013.out _; (with_reducible repeat (first | refine blk_drewN ?_ _ | refine blk_drew ?_ | refine blk_alloc ?_ _)); refine blk_far ?_ NB46001_46013.out _; (with_reducible repeat (first | refine blk_drewN ?_ _ | refine blk_drew ?_ | refine blk_alloc ?_ _)); exact BK46001.out⟩
    have n4_ : Aside0 ((((w23.setCell ⟨gb46013, 0, none⟩ (.int .i64 0)).setCell ⟨gb46013, 1, none⟩ (.slice Ao25 t46007.length co25)).setCell ⟨gb46013, 2, none⟩ (.slice Ao24 y46010.length co24)).heap[gb46002]? = some (.cells #[.int .i64 0, .slice none 0 0, .slice none 0 0] 66 (0, 0))) := ⟨by (with_reducible repeat (first | refine blk_drewN ?_ _ | refine blk_drew ?_ | refine blk_alloc ?_ _)); refine blk_far ?_ NB46002_46013.out _; (with_reducible repeat (first | refine blk_drewN ?_ _ | refine blk_drew ?_ | refine blk_alloc ?_ _)); refine blk_far ?_ NB46002_46013.out _; (with_reducible repeat (first | refine blk_drewN ?_ _ | refine blk_drew ?_ | refine blk_alloc ?_ _)); refine blk_far ?_ NB46002_46013.out _; (with_reducible repeat (first | refine blk_drewN ?_ _ | refine blk_drew ?_ | refine blk_alloc ?_ _)); exact BK46002.out⟩
    have n5_ : Aside0 ((((w23.setCell ⟨gb46013, 0, none⟩ (.int .i64 0)).setCell ⟨gb46013, 1, none⟩ (.slice Ao25 t46007.length co25)).setCell ⟨gb46013, 2, none⟩ (.slice Ao24 y46010.length co24)).heap[gb46013]? = some (.cells #[.int .i64 0, .slice Ao25 t46007.length co25, .slice Ao24 y46010.length co24] 66 (0, 0))) := ⟨by (with_reducible repeat (first | refine blk_drewN ?_ _ | refine blk_drew ?_ | refine blk_alloc ?_ _)); refine blk_put (cs := #[.int .i64 0, .slice Ao25 t46007.length co25, .slice none 0 0]) ?_ 2 _ rfl; (with_reducible repeat (first | refine blk_drewN ?_ _ | refine blk_drew ?_ | refine blk_alloc ?_ _)); refine blk_put (cs := #[.int .i64 0, .slice none 0 0, .slice none 0 0]) ?_ 1 _ rfl; (with_reducible repeat (first | refine blk_drewN ?_ _ | refine blk_drew ?_ | refine blk_alloc ?_ _)); refine blk_put (cs := #[.int .i64 0, .slice none 0 0, .slice none 0 0]) ?_ 0 _ rfl; (with_reducible repeat (first | refine blk_drewN ?_ _ | refine blk_drew ?_ | refine blk_alloc ?_ _)); exact BK46013.out⟩
    have n6_ : Aside0 (Below w.heap.size w (((w23.setCell ⟨gb46013, 0, none⟩ (.int .i64 0)).setCell ⟨gb46013, 1, none⟩ (.slice Ao25 t46007.length co25)).setCell ⟨gb46013, 2, none⟩ (.slice Ao24 y46010.length co24))) := ⟨by repeat (first | (with_reducible first | exact HB.out | apply below_alloc | apply pw_below_drewN | apply below_drew1 | refine below_set ?_ GE46001.out | refine below_set ?_ GE46002.out | refine below_set ?_ GE46013.out) | exact HB.out)⟩
    (try clear HO46006)
    (try clear HO46009)
    (try clear HO46012)
    (try clear BK46001)
    (try clear BK46002)
    (try clear BK46013)
    (try clear HB)
    generalize (((w23.setCell ⟨gb46013, 0, none⟩ (.int .i64 0)).setCell ⟨gb46013, 1, none⟩ (.slice Ao25 t46007.length co25)).setCell ⟨gb46013, 2, none⟩ (.slice Ao24 y46010.length co24)) = w29 at n0_ n1_ n2_ n3_ n4_ n5_ n6_ ⊢
    have HO46006 := n0_; have HO46009 := n1_; have HO46012 := n2_; have BK46001 := n3_; have BK46002 := n4_; have BK46013 := n5_; have HB := n6_; clear n0_ n1_ n2_ n3_ n4_ n5_ n6_
    have hnb30 := NB46013_46001.out
    have hnc30 := NB46001_46013.out
    have hnb31 := NB46013_46002.out
    have hnc31 := NB46002_46013.out
    have hcz32_0 : w29.cell? ⟨gb46013, 0, none⟩ = some (.int .i64 0) := (blk_cell BK46013.out 0).trans rfl
    have hcz32_1 : w29.cell? ⟨gb46013, 1, none⟩ = some (.slice Ao25 t46007.length co25) := (blk_cell BK46013.out 1).trans rfl
    have hcz32_2 : w29.cell? ⟨gb46013, 2, none⟩ = some (.slice Ao24 y46010.length co24) := (blk_cell BK46013.out 2).trans rfl
    have hfz32_0 := blk_frozen BK46013.out 0
    have hfz32_1 := blk_frozen BK46013.out 1
    have hfz32_2 := blk_frozen BK46013.out 2
    have p7 : 0 ≤ (0 : Int) := (by omega)
    have q7 : (0 : Int) < ((t46007.length : Int) : Int) := of_decide_eq_true (by first | (with_reducible assumption) | assumption)
    have qi7 : (0 < t46007.length) = True := eq_true (by omega)
    obtain ⟨go7, co7, eo7, gb7, gl7, cl7, HG7⟩ := Kd.R_form HO46009.out (by omega)
    (first | cases eo7 | (injection eo7 with ea_ en_ ec_; (first | subst ea_ | (injection ea_ with ea_; subst ea_)); subst ec_; clear en_))
    have GB7 := Aside0.mk gb7; have GG7 := Aside0.mk HG7; clear gb7 gl7 HG7
    obtain ⟨hx7_0, hf7_0⟩ := Kd.R_celln 0 HO46009.out (0 : Int) p7 q7
    (try rw [show ((0 : Int)).toNat = 0 from rfl] at hx7_0)
    (try simp only [Nat.reduceMul, Nat.zero_mul, Nat.zero_add, Nat.reduceAdd] at hx7_0)
    (try rw [show ((0 : Int)).toNat = 0 from rfl] at hf7_0)
    (try simp only [Nat.reduceMul, Nat.zero_mul, Nat.zero_add, Nat.reduceAdd] at hf7_0)
    replace p7 := eq_true p7
    replace q7 := eq_true q7
    obtain ⟨hy33_, hz33_⟩ := Kd.R_celln 0 HO46009.out (0 : Int) (by omega) (of_decide_eq_true (by first | (with_reducible assumption) | assumption))
    (try simp only [Int.reduceToNat, Int.toNat_zero, Int.toNat_ofNat, Nat.reduceMul, Nat.zero_mul, Nat.zero_add] at hy33_ hz33_)
    (try rw [show ((0 : Int)).toNat = 0 from rfl] at hy33_)
    (try rw [show ((0 : Int)).toNat = 0 from rfl] at hz33_)
    have HP33 := Kd.R_putg HO46009.out (0 : Int) 0
    try go_wp2_with (first | ((with_reducible refine gate_store (t := 3) (p := 17) rfl ?_); refine store_event (t := 3) (p := 17) (v := ?vo_w34) (w1 := (w29.setCell ⟨go7, (0 : Int).toNat, none⟩ (.int .i64 0))) ?hg ?ho ?hn ?hr ?_; (case ho => rfl); (case hg => rfl); (case hn => rfl); (case hr => first | (go_simp; done) | (go_simp; rfl)); intro w34 hw; have hg : w29.grownBy w34 (some go7) := (by rw [hw]; exact HP33.2); have hp_ : Kd.R (Kd.int .i64) 3 w34 w.heap.size (fun k_ => some k_ ≠ (v46005 : Value).ownBlock ∧ some k_ ≠ (.slice Ao24 y46010.length co24 : Value).ownBlock) (.slice (some ⟨go7, 0, none⟩) t46007.length co25) y46014 := (by rw [hw, Ny46014.out]; exact HP33.1); clear HP33; have n0_ := Aside0.mk (blk_grown (g := gb46001) (o := .cells #[.slice A0_0 l0_0.length c0_0, .slice A0_1 l0_1.length c0_1, .int .i64 a0_2] 35 (0, 0)) (by (with_reducible repeat (first | refine blk_drewN ?_ _ | refine blk_drew ?_ | refine blk_alloc ?_ _)); exact BK46001.out) hg (Kd.R_ne HO46009.out BK46001.out (by decide))); have n1_ := Aside0.mk (blk_grown (g := gb46002) (o := .cells #[.int .i64 0, .slice none 0 0, .slice none 0 0] 66 (0, 0)) (by (with_reducible repeat (first | refine blk_drewN ?_ _ | refine blk_drew ?_ | refine blk_alloc ?_ _)); exact BK46002.out) hg (Kd.R_ne HO46009.out BK46002.out (by decide))); have n2_ := Aside0.mk (Kd.R_after (v := (.slice (some ⟨go7, 0, none⟩) t46007.length co25)) (v1 := (.slice (some ⟨go7, 0, none⟩) t46007.length co25)) (ok := (fun k_ => some k_ ≠ (.slice Ao24 y46010.length co24 : Value).ownBlock)) (by (with_reducible repeat (first | apply Kd.R_alloc | apply Kd.R_drewN | apply Kd.R_drew)); exact Kd.R_mono HO46006.out (fun _ hk => ⟨hk.2, hk.1⟩)) hg (.inl rfl)); have n3_ := Aside0.mk (hp_); have n4_ := Aside0.mk (Kd.R_after (v := (.slice (some ⟨go7, 0, none⟩) t46007.length co25)) (v1 := (.slice (some ⟨go7, 0, none⟩) t46007.length co25)) (ok := (fun k_ => some k_ ≠ (v46005 : Value).ownBlock)) (by (with_reducible repeat (first | apply Kd.R_alloc | apply Kd.R_drewN | apply Kd.R_drew)); exact HO46012.out) hg (.inl rfl)); have n5_ := Aside0.mk (blk_grown (g := gb46013) (o := .cells #[.int .i64 0, .slice (some ⟨go7, 0, none⟩) t46007.length co25, .slice Ao24 y46010.length co24] 66 (0, 0)) (by (with_reducible repeat (first | refine blk_drewN ?_ _ | refine blk_drew ?_ | refine blk_alloc ?_ _)); exact BK46013.out) hg (Kd.R_ne HO46009.out BK46013.out (by decide))); have n6_ := Aside0.mk ((by rw [hw]; exact below_set (HB.out) GB7.out : Below w.heap.size w w34)); clear BK46001; clear BK46002; clear HO46006; clear HO46009; clear HO46012; clear BK46013; clear HB; have BK46001 := n0_; have BK46002 := n1_; have HO46006 := n2_; have HO46009 := n3_; have HO46012 := n4_; have BK46013 := n5_; have HB := n6_; clear n0_ n1_ n2_ n3_ n4_ n5_ n6_; clear hg hw hp_; have hcz35_0 : w34.cell? ⟨gb46013, 0, none⟩ = some (.int .i64 0) := (blk_cell BK46013.out 0).trans rfl; have hcz35_1 : w34.cell? ⟨gb46013, 1, none⟩ = some (.slice (some ⟨go7, 0, none⟩) t46007.length co25) := (blk_cell BK46013.out 1).trans rfl; have hcz35_2 : w34.cell? ⟨gb46013, 2, none⟩ = some (.slice Ao24 y46010.length co24) := (blk_cell BK46013.out 2).trans rfl; have hfz35_0 := blk_frozen BK46013.out 0; have hfz35_1 := blk_frozen BK46013.out 1; have hfz35_2 := blk_frozen BK46013.out 2; have hcz36_0 : w34.cell? ⟨gb46002, 0, none⟩ = some (.int .i64 0) := (blk_cell BK46002.out 0).trans rfl; have hcz36_1 : w34.cell? ⟨gb46002, 1, none⟩ = some (.slice none 0 0) := (blk_cell BK46002.out 1).trans rfl; have hcz36_2 : w34.cell? ⟨gb46002, 2, none⟩ = some (.slice none 0 0) := (blk_cell BK46002.out 2).trans rfl; have hfz36_0 := blk_frozen BK46002.out 0; have hfz36_1 := blk_frozen BK46002.out 1; have hfz36_2 := blk_frozen BK46002.out 2))
    refine bodyPost_ret (results_cell_row rfl _ _ gb46002 66 #[.int .i64 0, .slice (some ⟨go7, 0, none⟩) t46007.length co25, .slice Ao24 y46010.length co24] (0, 0) _ rfl (by (with_reducible repeat (first | refine blk_drewN ?_ _ | refine blk_drew ?_ | refine blk_alloc ?_ _)); refine blk_put (cs := #[.int .i64 0, .slice (some ⟨go7, 0, none⟩) t46007.length co25, .slice none 0 0]) ?_ 2 _ rfl; (with_reducible repeat (first | refine blk_drewN ?_ _ | refine blk_drew ?_ | refine blk_alloc ?_ _)); refine blk_put (cs := #[.int .i64 0, .slice none 0 0, .slice none 0 0]) ?_ 1 _ rfl; (with_reducible repeat (first | refine blk_drewN ?_ _ | refine blk_drew ?_ | refine blk_alloc ?_ _)); refine blk_put (cs := #[.int .i64 0, .slice none 0 0, .slice none 0 0]) ?_ 0 _ rfl; (with_reducible repeat (first | refine blk_drewN ?_ _ | refine blk_drew ?_ | refine blk_alloc ?_ _)); exact BK46002.out) Try.underlying66 rfl (by kernel_rfl)) rfl ?_
    exact ⟨_, _, by first | rfl | (simp [errW_none, errW_some] <;> rfl) | (simp [*, errW_none, errW_some] <;> rfl), by (with_reducible repeat (first | apply Kd.R_alloc | apply Kd.R_drewN | apply Kd.R_drew)); exact Kd.R_mono (Kd.R_far (p := ⟨gb46002, 2, none⟩) (Kd.R_far (p := ⟨gb46002, 1, none⟩) (Kd.R_far (p := ⟨gb46002, 0, none⟩) (Kd.R_types HO46009.out BK46002.out (by decide)) (fun _ hk => hk.2) (.int .i64 0)) (fun _ hk => hk.2) (.slice (some ⟨go7, 0, none⟩) t46007.length co25)) (fun _ hk => hk.2) (.slice Ao24 y46010.length co24)) (fun _ hk => hk.1.2), by (with_reducible repeat (first | apply Kd.R_alloc | apply Kd.R_drewN | apply Kd.R_drew)); exact Kd.R_mono (Kd.R_far (p := ⟨gb46002, 2, none⟩) (Kd.R_far (p := ⟨gb46002, 1, none⟩) (Kd.R_far (p := ⟨gb46002, 0, none⟩) (Kd.R_types HO46012.out BK46002.out (by decide)) (fun _ hk => hk.2) (.int .i64 0)) (fun _ hk => hk.2) (.slice (some ⟨go7, 0, none⟩) t46007.length co25)) (fun _ hk => hk.2) (.slice Ao24 y46010.length co24)) (fun _ hk => hk.1.2), by repeat (first | (with_reducible first | exact HB.out | apply below_alloc | apply pw_below_drewN | apply below_drew1 | refine below_set ?_ GE46001.out | refine below_set ?_ GE46002.out | refine below_set ?_ GE46013.out) | exact HB.out)⟩
   ·rw [if_neg c6] at H
    exact absurd H (by simp)
  ·rw [if_neg c5] at H
   exact absurd H (by simp)
 ·replace c3 := Bool.eq_false_iff.mpr c3
  subst c3
  have H1 : (some (0, ([] : List Int), ([] : List Int))) = some (r1, r2, r3) := by rw [if_neg (show ¬ (false = true) by decide)] at H; exact H
  clear H
  have H := H1
  clear H1
  simp only [Option.some.injEq, Prod.mk.injEq] at H
  obtain ⟨rfl, rfl, rfl⟩ := H
  go_enter Try.func46, Try.ntmps46
  go_wp2_with (first | ((with_reducible refine gate_dst (N := 1) rfl ?_); refine box_event ?hg (N := 1) ?hd (cs := #[.slice A0_0 l0_0.length c0_0, .slice A0_1 l0_1.length c0_1, .int .i64 a0_2]) (t := 35) ?hr ?_; (case hd => rfl); (case hg => rfl); (case hr => first | (go_simp; done) | (go_simp; rfl)); intro gb46001 hg w37 hbox hb; have n0_ := Aside0.mk (below_step (by repeat (first | (with_reducible first | exact HB.out | apply below_alloc | apply pw_below_drewN | apply below_drew1) | exact HB.out)) hb); have n1_ := Aside0.mk (hbox); have n2_ := Aside0.mk ((by rw [hg]; exact (below_size (by repeat (first | (with_reducible first | exact HB.out | apply below_alloc | apply pw_below_drewN | apply below_drew1) | exact HB.out))) : w.heap.size ≤ gb46001)); have n3_ := Aside0.mk ((by rw [hg]; exact (below_size (by repeat (first | (with_reducible first | exact HB.out | apply below_alloc | apply pw_below_drewN | apply below_drew1) | exact HB.out))) : w.heap.size ≤ gb46001)); clear HB; have HB := n0_; have BK46001 := n1_; have GW46001 := n2_; have GE46001 := n3_; clear n0_ n1_ n2_ n3_; clear hb hbox hg) | ((with_reducible refine gate_dst (N := 2) rfl ?_); refine box_event ?hg (N := 2) ?hd (cs := #[.int .i64 0, .slice none 0 0, .slice none 0 0]) (t := 66) ?hr ?_; (case hd => rfl); (case hg => rfl); (case hr => first | (go_simp; done) | (go_simp; rfl)); intro gb46002 hg w38 hbox hb; have n0_ := Aside0.mk (blk_below (g := gb46001) (o := .cells #[.slice A0_0 l0_0.length c0_0, .slice A0_1 l0_1.length c0_1, .int .i64 a0_2] 35 (0, 0)) (by (with_reducible repeat (first | refine blk_drewN ?_ _ | refine blk_drew ?_ | refine blk_alloc ?_ _)); exact BK46001.out) hb); have n1_ := Aside0.mk (below_step (by repeat (first | (with_reducible first | exact HB.out | apply below_alloc | apply pw_below_drewN | apply below_drew1 | refine below_set ?_ GE46001.out) | exact HB.out)) hb); have n2_ := Aside0.mk (hbox); have n3_ := Aside0.mk ((by rw [hg]; exact (below_size (by repeat (first | (with_reducible first | exact HB.out | apply below_alloc | apply pw_below_drewN | apply below_drew1 | refine below_set ?_ GE46001.out) | exact HB.out))) : w.heap.size ≤ gb46002)); have n4_ := Aside0.mk ((by rw [hg]; exact (below_size (by repeat (first | (with_reducible first | exact HB.out | apply below_alloc | apply pw_below_drewN | apply below_drew1 | refine below_set ?_ GE46001.out) | exact HB.out))) : w.heap.size ≤ gb46002)); have n5_ := Aside0.mk ((by rw [hg]; exact Nat.ne_of_lt (blk_lt (g := gb46001) (o := .cells #[.slice A0_0 l0_0.length c0_0, .slice A0_1 l0_1.length c0_1, .int .i64 a0_2] 35 (0, 0)) (by (with_reducible repeat (first | refine blk_drewN ?_ _ | refine blk_drew ?_ | refine blk_alloc ?_ _)); exact BK46001.out)) : gb46001 ≠ gb46002)); have n6_ := Aside0.mk ((by rw [hg]; exact Nat.ne_of_gt (blk_lt (g := gb46001) (o := .cells #[.slice A0_0 l0_0.length c0_0, .slice A0_1 l0_1.length c0_1, .int .i64 a0_2] 35 (0, 0)) (by (with_reducible repeat (first | refine blk_drewN ?_ _ | refine blk_drew ?_ | refine blk_alloc ?_ _)); exact BK46001.out)) : gb46002 ≠ gb46001)); clear BK46001; clear HB; have BK46001 := n0_; have HB := n1_; have BK46002 := n2_; have GW46002 := n3_; have GE46002 := n4_; have NB46001_46002 := n5_; have NB46002_46001 := n6_; clear n0_ n1_ n2_ n3_ n4_ n5_ n6_; clear hb hbox hg; have hnb39 := NB46001_46002.out; have hnc39 := NB46002_46001.out; have hcz40_0 : w38.cell? ⟨gb46001, 0, none⟩ = some (.slice A0_0 l0_0.length c0_0) := (blk_cell BK46001.out 0).trans rfl; have hcz40_1 : w38.cell? ⟨gb46001, 1, none⟩ = some (.slice A0_1 l0_1.length c0_1) := (blk_cell BK46001.out 1).trans rfl; have hcz40_2 : w38.cell? ⟨gb46001, 2, none⟩ = some (.int .i64 a0_2) := (blk_cell BK46001.out 2).trans rfl; have hfz40_0 := blk_frozen BK46001.out 0; have hfz40_1 := blk_frozen BK46001.out 1; have hfz40_2 := blk_frozen BK46001.out 2) | ((with_reducible refine gate_callee (f := 72) rfl ?_); refine goesL_ (some 5) rfl rfl Try.func72 (by kernel_rfl) rfl #[.agg #[.slice A0_0 l0_0.length c0_0, .slice A0_1 l0_1.length c0_1, .int .i64 a0_2]] rfl (by (try simp only [List.map_toArray, List.map_cons, List.map_nil]); first | done | rfl | (simp only [List.length_drop, List.length_take]; rfl)) ?_; (with_reducible refine (impl_ShowOk.calls _ _ l0_0 _ _ l0_1 a0_2 false _ ?side1 ?side2 ?side3 ?side4 A2.out).mono ?_); (case side1 => repeat (first | exact (Kd.C_below HR0_0.out HB.out) | (with_reducible refine Kd.C_alloc ?_ _) | (with_reducible refine Kd.C_drewN ?_ _) | (with_reducible refine Kd.C_drew ?_))); (case side2 => exact HC0_0.out); (case side3 => repeat (first | exact (Kd.C_below HR0_1.out HB.out) | (with_reducible refine Kd.C_alloc ?_ _) | (with_reducible refine Kd.C_drewN ?_ _) | (with_reducible refine Kd.C_drew ?_))); (case side4 => exact HC0_1.out); rintro e w41 ⟨rfl, hb⟩; refine ⟨_, rfl, ?_⟩; have n0_ := Aside0.mk (blk_below (g := gb46001) (o := .cells #[.slice A0_0 l0_0.length c0_0, .slice A0_1 l0_1.length c0_1, .int .i64 a0_2] 35 (0, 0)) (by (with_reducible repeat (first | refine blk_drewN ?_ _ | refine blk_drew ?_ | refine blk_alloc ?_ _)); exact BK46001.out) hb); have n1_ := Aside0.mk (blk_below (g := gb46002) (o := .cells #[.int .i64 0, .slice none 0 0, .slice none 0 0] 66 (0, 0)) (by (with_reducible repeat (first | refine blk_drewN ?_ _ | refine blk_drew ?_ | refine blk_alloc ?_ _)); exact BK46002.out) hb); have n2_ := Aside0.mk (below_step (by repeat (first | (with_reducible first | exact HB.out | apply below_alloc | apply pw_below_drewN | apply below_drew1 | refine below_set ?_ GE46001.out | refine below_set ?_ GE46002.out) | exact HB.out)) hb); clear BK46001; clear BK46002; clear HB; have BK46001 := n0_; have BK46002 := n1_; have HB := n2_; clear n0_ n1_ n2_; (try clear hb); (try clear hb2); (try clear hk); (try clear hi); have hcz42_0 : w41.cell? ⟨gb46002, 0, none⟩ = some (.int .i64 0) := (blk_cell BK46002.out 0).trans rfl; have hcz42_1 : w41.cell? ⟨gb46002, 1, none⟩ = some (.slice none 0 0) := (blk_cell BK46002.out 1).trans rfl; have hcz42_2 : w41.cell? ⟨gb46002, 2, none⟩ = some (.slice none 0 0) := (blk_cell BK46002.out 2).trans rfl; have hfz42_0 := blk_frozen BK46002.out 0; have hfz42_1 := blk_frozen BK46002.out 1; have hfz42_2 := blk_frozen BK46002.out 2))
  refine bodyPost_ret (results_cell_row rfl _ _ gb46002 66 #[.int .i64 0, .slice none 0 0, .slice none 0 0] (0, 0) _ rfl (by (with_reducible repeat (first | refine blk_drewN ?_ _ | refine blk_drew ?_ | refine blk_alloc ?_ _)); refine blk_put (cs := #[.int .i64 0, .slice none 0 0, .slice none 0 0]) ?_ 2 _ rfl; (with_reducible repeat (first | refine blk_drewN ?_ _ | refine blk_drew ?_ | refine blk_alloc ?_ _)); refine blk_put (cs := #[.int .i64 0, .slice none 0 0, .slice none 0 0]) ?_ 1 _ rfl; (with_reducible repeat (first | refine blk_drewN ?_ _ | refine blk_drew ?_ | refine blk_alloc ?_ _)); refine blk_put (cs := #[.int .i64 0, .slice none 0 0, .slice none 0 0]) ?_ 0 _ rfl; (with_reducible repeat (first | refine blk_drewN ?_ _ | refine blk_drew ?_ | refine blk_alloc ?_ _)); exact BK46002.out) Try.underlying66 rfl (by kernel_rfl)) rfl ?_
  exact ⟨_, _, by first | rfl | (simp [errW_none, errW_some] <;> rfl) | (simp [*, errW_none, errW_some] <;> rfl), by first | exact Kd.R_nil _ _ _ _ _ | exact Kd.N_nil _ _ _ _ _ | exact Kd.V_nil _ _ _ _ _ | exact Kd.Q_nil _ _ _ _ _ | exact Kd.S_nil _ _ _ _ _, by first | exact Kd.R_nil _ _ _ _ _ | exact Kd.N_nil _ _ _ _ _ | exact Kd.V_nil _ _ _ _ _ | exact Kd.Q_nil _ _ _ _ _ | exact Kd.S_nil _ _ _ _ _, by repeat (first | (with_reducible first | exact HB.out | apply below_alloc | apply pw_below_drewN | apply below_drew1 | refine below_set ?_ GE46001.out | refine below_set ?_ GE46002.out) | exact HB.out)⟩

theorem impl_StartState.c (A0_0 : Option Addr) (c0_0 : Nat) (l0_0 : List (S116)) (A0_1 : Option Addr) (c0_1 : Nat) (l0_1 : List (S90)) (a0_2 : Int) (r1 : Int) (r2 : List Int) (r3 : List Int) (w : World) (hr0_0 : Kd.C k116 w A0_0 l0_0.length l0_0) (hc0_0 : l0_0.length ≤ c0_0) (hr0_1 : Kd.C k90 w A0_1 l0_1.length l0_1) (hc0_1 : l0_1.length ≤ c0_1) (h : impl_StartState.f l0_0 l0_1 a0_2 = some (r1, r2, r3)) :
  Calls Try.prog 46 #[.agg #[.slice A0_0 l0_0.length c0_0, .slice A0_1 l0_1.length c0_1, .int .i64 a0_2]] w fun e w' => ∃ A0_ c0_ A1_ c1_, e = .returned (.agg #[.int .i64 r1, .slice A0_ r2.length c0_, .slice A1_ r3.length c1_]) ∧ Aside0 (r2.length ≤ c0_ ∧ Kd.C (Kd.int .i64) w' A0_ r2.length r2) ∧ Aside0 (r3.length ≤ c1_ ∧ Kd.C (Kd.int .i64) w' A1_ r3.length r3) ∧ Below w.heap.size w w' :=
 (impl_StartState.calls A0_0 c0_0 l0_0 A0_1 c0_1 l0_1 a0_2 r1 r2 r3 w hr0_0 hc0_0 hr0_1 hc0_1 h).mono fun e w' ⟨v1_, v2_, he, q0_, q1_, hb⟩ => by
  obtain ⟨A0_, c0_, rfl, g0_⟩ := Kd.R_reads q0_
  obtain ⟨A1_, c1_, rfl, g1_⟩ := Kd.R_reads q1_
  exact ⟨A0_, c0_, A1_, c1_, he, ⟨g0_⟩, ⟨g1_⟩, hb⟩

end Go.Proofs.Ytodfnelilhjoeaa.Pr
