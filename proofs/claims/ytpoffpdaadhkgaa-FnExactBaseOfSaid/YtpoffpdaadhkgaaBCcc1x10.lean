/- The texts of one claim, put together by a program of this session. -/
import Derived.Deep.LoopGhost
import Derived.Test.YtpoffpdaadhkgaaBCcc1x1
import Derived.Test.YtpoffpdaadhkgaaBCcc1x2
import Derived.Test.YtpoffpdaadhkgaaBCcc1x3
import Derived.Test.YtpoffpdaadhkgaaBCcc1x4
import Derived.Test.YtpoffpdaadhkgaaBCcc1x5
import Derived.Test.YtpoffpdaadhkgaaBCcc1x7
import Derived.Test.YtpoffpdaadhkgaaBCcc1x8
import Derived.Test.YtpoffpdaadhkgaaBCcc1x9
namespace Go.Proofs.Ytpoffpdaadhkgaa.Pr
open Go.RowKit Go.Proofs.YtpoffpdaadhkgaaW.PrintWords Go.Proofs.YtpoffpdaadhkgaaW.PrintLast Go.Proofs.YtpoffpdaadhkgaaW.PrintMore
attribute [local go_sem] max2_int min2_int max_two min_two max_three min_three max_four min_four
set_option linter.unusedVariables false
set_option linter.unusedSimpArgs false

/-! ### impl_ShowOk: function 44 (by hand) -/
-- IMPORT Derived.Test.YtpoffpdaadhkgaaUNodes
-- IMPORT Derived.Test.YtpoffpdaadhkgaaUQuiet
-- IMPORT Derived.Test.YtpoffpdaadhkgaaUWatched
-- IMPORT Derived.Deep.LoopGhost
open Go.Proofs.Ytpoffpdaadhkgaa.Ni
def nodeW (ns : List S120) (n : S120) : Bool := !(n.f1.any fun x => !watchedB ns n.f1 x)
def pshowB (ns : List S120) (ts : List S126) (z : Int) : Bool := areNodesB ns && areTiesB ns ts && !(decide (z < 1)) && !(decide (10 < z)) && ns.all (nodeW ns)
def impl_ShowOk.f (l0_0 : List (S120)) (l0_1 : List (S126)) (a0_2 : Int) : Option Bool := if fitN l0_0 = true then some (pshowB l0_0 l0_1 a0_2) else none
set_option maxHeartbeats 8000000 in
theorem impl_ShowOk_1.clo (k : Nat) (hk : 2 ^ 64 ≤ k) (B D : Nat) (A0_0 : Option Addr) (c0_0 : Nat) (l0_0 : List S120) (A0_1 : Option Addr) (c0_1 : Nat) (l0_1 : List S126) (a0_2 : Int) (An : Option Addr) (cn : Nat) (lb : List Int) (x : Int) (W : World)
    (h0 : W.cell? ⟨B, 0, none⟩ = some (.slice A0_0 l0_0.length c0_0)) (h1 : W.cell? ⟨B, 1, none⟩ = some (.slice A0_1 l0_1.length c0_1)) (h2 : W.cell? ⟨B, 2, none⟩ = some (.int .i64 a0_2)) (h3 : W.cell? ⟨D, 1, none⟩ = some (.slice An lb.length cn))
    (hr0_0 : Kd.C k120 W A0_0 l0_0.length l0_0) (hc0_0 : l0_0.length ≤ c0_0) (hr0_1 : Kd.C k126 W A0_1 l0_1.length l0_1) (hc0_1 : l0_1.length ≤ c0_1) (hrn : Kd.C (Kd.int .i64) W An lb.length lb) (hcn : lb.length ≤ cn)
    (hf : impl_isWatched.f k l0_0 l0_1 a0_2 lb x = some (watchedB l0_0 lb x)) :
    Calls Try.prog 97 #[.int .i64 x, .pointer (some ⟨B, 0, none⟩), .pointer (some ⟨D, 0, none⟩)] W fun e w' => e = .returned (.bool (!watchedB l0_0 lb x)) ∧ Below W.heap.size W w' := by
  have hltB : B < W.heap.size := World.block_lt_of_cell? W _ h0
  have hltD : D < W.heap.size := World.block_lt_of_cell? W _ h3
  have HC := Aside0.mk (impl_isWatched.calls k A0_0 c0_0 l0_0 A0_1 c0_1 l0_1 a0_2 An cn lb x _ W hr0_0 hc0_0 hr0_1 hc0_1 hrn hcn hf)
  have hu := Try.underlying66
  have hu2 := Try.underlying120
  clear hr0_0 hr0_1 hrn hf hc0_0 hc0_1 hcn
  cases b : watchedB l0_0 lb x
  all_goals
    rw [b] at HC
    clear b
    go_enter Try.func97, Try.ntmps97
    go_wp2_with (go_at_call 98; refine HC.out.mono ?_; rintro e w' ⟨rfl, hb⟩)
    go_ret
    exact ⟨rfl, hb⟩
set_option maxHeartbeats 8000000 in
set_option maxRecDepth 100000 in
theorem impl_ShowOk.calls (A0_0 : Option Addr) (c0_0 : Nat) (l0_0 : List (S120)) (A0_1 : Option Addr) (c0_1 : Nat) (l0_1 : List (S126)) (a0_2 : Int) (r : Bool) (w : World) (hr0_0 : Kd.C k120 w A0_0 l0_0.length l0_0) (hc0_0 : l0_0.length ≤ c0_0) (hr0_1 : Kd.C k126 w A0_1 l0_1.length l0_1) (hc0_1 : l0_1.length ≤ c0_1) (h : impl_ShowOk.f l0_0 l0_1 a0_2 = some r) :
    Calls Try.prog 44 #[.agg #[.slice A0_0 l0_0.length c0_0, .slice A0_1 l0_1.length c0_1, .int .i64 a0_2]] w fun e w' => e = .returned (.bool r) ∧ Below w.heap.size w w' := by
  by_cases hfit : fitN l0_0 = true
  case neg => rw [impl_ShowOk.f, if_neg hfit] at h; exact absurd h (by simp)
  rw [impl_ShowOk.f, if_pos hfit] at h
  obtain rfl := Option.some.inj h
  have hfi := fitN_iff hfit
  have hL : l0_0.length ≤ 9223372036854775807 := hr0_0.2.1
  have HRn := Aside0.mk hr0_0
  have HRt := Aside0.mk hr0_1
  have HCn := Aside0.mk hc0_0
  have HCt := Aside0.mk hc0_1
  have HFI := Aside0.mk hfi
  have B1 := Aside0.mk (below_alloc (Below.refl w.heap.size w) (.cells #[.slice A0_0 l0_0.length c0_0, .slice A0_1 l0_1.length c0_1, .int .i64 a0_2] 66))
  have HK := Aside0.mk fun (W : World) (hA : Below (w.alloc (.cells #[.slice A0_0 l0_0.length c0_0, .slice A0_1 l0_1.length c0_1, .int .i64 a0_2] 66)).heap.size (w.alloc (.cells #[.slice A0_0 l0_0.length c0_0, .slice A0_1 l0_1.length c0_1, .int .i64 a0_2] 66)) W) => And.intro (B1.out.trans (hA.mono B1.out.size)) (And.intro (kcell hA (show _ = some (.slice A0_0 l0_0.length c0_0) from showCell0 w _ _ _ _)) (And.intro (kcell hA (showCell1 w _ _ _ _)) (And.intro (kcell hA (showCell2 w _ _ _ _)) (show w.heap.size < W.heap.size from Nat.lt_of_lt_of_le (by simp) hA.size))))
  have HN := Aside0.mk fun (W : World) (hb : Below w.heap.size w W) => impl_areNodes.calls (2 ^ 65) A0_0 c0_0 l0_0 A0_1 c0_1 l0_1 a0_2 _ W (Kd.C_below hr0_0 hb) hc0_0 (Kd.C_below hr0_1 hb) hc0_1 (areNodes_f l0_0 l0_1 a0_2 hfi (2 ^ 65) (Nat.le_refl _))
  have HT := Aside0.mk fun (W : World) (hb : Below w.heap.size w W) => impl_areTies.calls A0_0 c0_0 l0_0 A0_1 c0_1 l0_1 a0_2 _ W (Kd.C_below hr0_0 hb) hc0_0 (Kd.C_below hr0_1 hb) hc0_1 rfl
  have hlb : areNodesB l0_0 = true → ∀ n ∈ l0_0, ∀ x ∈ n.f1, litOk x = true := areNodesB_lit
  clear hr0_0 hr0_1 hc0_0 hc0_1 h hfi hfit
  have hu := Try.underlying66
  have hu2 := Try.underlying120
  cases b1 : areNodesB l0_0 with
  | false =>
    rw [b1] at HN
    have HF := Aside0.mk (show pshowB l0_0 l0_1 a0_2 = false by simp [pshowB, b1])
    clear hlb b1
    go_enter Try.func44, Try.ntmps44
    go_wp2_with (go_at_call 95; refine (HN.out _ B1.out).mono ?_; rintro e w1 ⟨rfl, hb⟩; obtain ⟨hB, hc0, hc1, hc2, hS⟩ := HK.out _ hb)
    go_ret
    exact ⟨by rw [HF.out]; rfl, hB⟩
  | true =>
  rw [b1] at HN
  have HLB := Aside0.mk (hlb b1)
  clear hlb
  cases b2 : areTiesB l0_0 l0_1 with
  | false =>
    rw [b2] at HT
    have HF := Aside0.mk (show pshowB l0_0 l0_1 a0_2 = false by simp [pshowB, b2])
    clear b1 b2
    go_enter Try.func44, Try.ntmps44
    go_wp2_with (first | (go_at_call 95; refine (HN.out _ B1.out).mono ?_; rintro e w1 ⟨rfl, hA⟩; obtain ⟨hB, hc0, hc1, hc2, hS⟩ := HK.out _ hA) | (go_at_call 96; refine (HT.out _ hB).mono ?_; rintro e w2 ⟨rfl, hb⟩; replace hA := hA.trans (hb.mono hA.size); clear hB hc0 hc1 hc2 hS; obtain ⟨hB, hc0, hc1, hc2, hS⟩ := HK.out _ hA; clear hb))
    go_ret
    exact ⟨by rw [HF.out]; rfl, hB⟩
  | true =>
  rw [b2] at HT
  cases b3 : decide (a0_2 < 1) with
  | true =>
    have HF := Aside0.mk (show pshowB l0_0 l0_1 a0_2 = false by simp [pshowB, b3])
    clear b1 b2
    go_enter Try.func44, Try.ntmps44
    go_wp2_with (first | (go_at_call 95; refine (HN.out _ B1.out).mono ?_; rintro e w1 ⟨rfl, hA⟩; obtain ⟨hB, hc0, hc1, hc2, hS⟩ := HK.out _ hA) | (go_at_call 96; refine (HT.out _ hB).mono ?_; rintro e w2 ⟨rfl, hb⟩; replace hA := hA.trans (hb.mono hA.size); clear hB hc0 hc1 hc2 hS; obtain ⟨hB, hc0, hc1, hc2, hS⟩ := HK.out _ hA; clear hb))
    go_ret
    exact ⟨by rw [HF.out]; rfl, hB⟩
  | false =>
  cases b4 : decide (10 < a0_2) with
  | true =>
    have HF := Aside0.mk (show pshowB l0_0 l0_1 a0_2 = false by simp [pshowB, b4])
    clear b1 b2
    go_enter Try.func44, Try.ntmps44
    go_wp2_with (first | (go_at_call 95; refine (HN.out _ B1.out).mono ?_; rintro e w1 ⟨rfl, hA⟩; obtain ⟨hB, hc0, hc1, hc2, hS⟩ := HK.out _ hA) | (go_at_call 96; refine (HT.out _ hB).mono ?_; rintro e w2 ⟨rfl, hb⟩; replace hA := hA.trans (hb.mono hA.size); clear hB hc0 hc1 hc2 hS; obtain ⟨hB, hc0, hc1, hc2, hS⟩ := HK.out _ hA; clear hb))
    go_ret
    exact ⟨by rw [HF.out]; rfl, hB⟩
  | false =>
  have HF := Aside0.mk (show pshowB l0_0 l0_1 a0_2 = l0_0.all (nodeW l0_0) by simp [pshowB, b1, b2, b3, b4])
  clear b1 b2
  go_enter Try.func44, Try.ntmps44
  go_wp2_with (first | (go_at_call 95; refine (HN.out _ B1.out).mono ?_; rintro e w1 ⟨rfl, hA⟩; obtain ⟨hB, hc0, hc1, hc2, hS⟩ := HK.out _ hA) | (go_at_call 96; refine (HT.out _ hB).mono ?_; rintro e w2 ⟨rfl, hb⟩; replace hA := hA.trans (hb.mono hA.size); clear hB hc0 hc1 hc2 hS; obtain ⟨hB, hc0, hc1, hc2, hS⟩ := HK.out _ hA; clear hb))
  have HB0 := Aside0.mk hB
  have HX0 := Aside0.mk (And.intro hc0 (And.intro hc1 hc2))
  have HS0 := Aside0.mk hS
  clear hA hB hc0 hc1 hc2 hS
  go_loopg [4, 26] l0_0.length (fun gg _ s26 wr => ∃ kk : Nat, Aside0 (kk ≤ l0_0.length) ∧ Aside0 (l0_0.length - kk ≤ gg) ∧ s26 = .int .i64 kk ∧ Aside0 (Below w.heap.size w wr) ∧ Aside0 (w.heap.size < wr.heap.size) ∧ Aside0 (wr.cell? ⟨w.heap.size, 0, none⟩ = some (.slice A0_0 l0_0.length c0_0) ∧ wr.cell? ⟨w.heap.size, 1, none⟩ = some (.slice A0_1 l0_1.length c0_1) ∧ wr.cell? ⟨w.heap.size, 2, none⟩ = some (.int .i64 a0_2)) ∧ Aside0 (l0_0.all (nodeW l0_0) = (l0_0.drop kk).all (nodeW l0_0)))
  case atStart => exact ⟨0, ⟨Nat.zero_le _⟩, ⟨by omega⟩, rfl, HB0, HS0, HX0, ⟨rfl⟩⟩
  case round =>
    obtain ⟨kk, HK', HG, rfl, HBr, HS, HX, HN'⟩ := hrel
    have hsz := HS.out
    obtain ⟨hb0, hb1, hb2_⟩ := HX.out
    by_cases hlt : kk < l0_0.length
    · have hltz : (kk : Int) < (l0_0.length : Int) := by omega
      obtain ⟨ad, Am, cm, e1, hm0, hm1, hm2, lm, gm⟩ := at_T120 HRn.out (kk : Int) (by omega) hltz
      cases e1
      have HDR := Aside0.mk (drop_cons hlt z120)
      have hmem := Aside0.mk (getD_mem hlt z120)
      rw [← rdN_nat] at HDR hmem
      rw [Int.toNat_natCast] at hm0 hm1 hm2
      generalize rd_T120 l0_0 (kk : Int) = y at hm0 hm1 hm2 lm gm HDR hmem
      replace hm0 := kcell HBr.out hm0
      replace hm1 := kcell HBr.out hm1
      replace hm2 := kcell HBr.out hm2
      have hlta := World.block_lt_of_cell? wr _ hm0
      have LM := Aside0.mk lm
      have GM := Aside0.mk (Kd.C_below gm HBr.out)
      clear lm gm
      have B2 := Aside0.mk (below_alloc (Below.refl wr.heap.size wr) (.cells #[.string y.f0, .slice Am y.f1.length cm, .int .i64 y.f2] 120))
      have HC := Aside0.mk fun (W : World) (hb : Below wr.heap.size wr W) (hcell : W.cell? ⟨wr.heap.size, 1, none⟩ = some (.slice Am y.f1.length cm)) => slices_ContainsFunc_int_int.any (fun x => !watchedB l0_0 y.f1 x) 97 #[.pointer (some ⟨w.heap.size, 0, none⟩), .pointer (some ⟨wr.heap.size, 0, none⟩)] (enters_of Try.func97 (by kernel_rfl) rfl) Am cm y.f1 W (Kd.C_below GM.out hb)
        (fun W' x hx hb' => impl_ShowOk_1.clo (2 ^ 64) (Nat.le_refl _) w.heap.size wr.heap.size (some ad) c0_0 l0_0 A0_1 c0_1 l0_1 a0_2 Am cm y.f1 x W' (kcell hb' (kcell hb HX.out.1)) (kcell hb' (kcell hb HX.out.2.1)) (kcell hb' (kcell hb HX.out.2.2)) (kcell hb' hcell)
          (Kd.C_below (Kd.C_below (Kd.C_below HRn.out HBr.out) hb) hb') HCn.out (Kd.C_below (Kd.C_below (Kd.C_below HRt.out HBr.out) hb) hb') HCt.out (Kd.C_below (Kd.C_below GM.out hb) hb') LM.out
          (isWatched_f l0_0 l0_1 a0_2 y.f1 x (fun n hn => (HFI.out n hn).2) (HFI.out y hmem.out).2 (HLB.out y hmem.out x hx) (2 ^ 64) (Nat.le_refl _)))
      cases b5 : y.f1.any (fun x => !watchedB l0_0 y.f1 x) with
      | true =>
        rw [b5] at HC
        have HF2 := Aside0.mk (show pshowB l0_0 l0_1 a0_2 = false by
          rw [HF.out, HN'.out, HDR.out, List.all_cons, show nodeW l0_0 y = false by unfold nodeW; rw [b5]; rfl]; rfl)
        clear b5
        go_wp2_with fail
        refine (HC.out _ B2.out (by go_simp)).mono ?_
        rintro e w3 ⟨rfl, hb⟩
        have hb3 := B2.out.trans (hb.mono B2.out.size)
        go_wp2
        go_ret
        exact ⟨by rw [HF2.out]; rfl, HBr.out.trans (hb3.mono HBr.out.size)⟩
      | false =>
        rw [b5] at HC
        have HF2 := Aside0.mk (show l0_0.all (nodeW l0_0) = (l0_0.drop (kk + 1)).all (nodeW l0_0) by
          rw [HN'.out, HDR.out, List.all_cons, show nodeW l0_0 y = true by unfold nodeW; rw [b5]; rfl]; rfl)
        clear b5
        go_wp2_with fail
        refine (HC.out _ B2.out (by go_simp)).mono ?_
        rintro e w3 ⟨rfl, hb⟩
        have hb3 := B2.out.trans (hb.mono B2.out.size)
        go_wp2
        go_roundg (l0_0.length - (kk + 1))
        case measure => have := HG.out; omega
        case rel => exact ⟨kk + 1, ⟨by omega⟩, ⟨by omega⟩, by go_num, ⟨HBr.out.trans (hb3.mono HBr.out.size)⟩, ⟨by have := hb3.size; omega⟩, ⟨kcell hb3 hb0, kcell hb3 hb1, kcell hb3 hb2_⟩, HF2⟩
    · have hltz : ¬ (kk : Int) < (l0_0.length : Int) := by omega
      have : kk = l0_0.length := by have := HK'.out; omega
      subst this
      have HF2 := Aside0.mk (show pshowB l0_0 l0_1 a0_2 = true by
        rw [HF.out, HN'.out, List.drop_length]; rfl)
      go_wp2
      go_ret
      exact ⟨by rw [HF2.out]; rfl, HBr.out⟩

end Go.Proofs.Ytpoffpdaadhkgaa.Pr

namespace Go.Proofs.Ytpoffpdaadhkgaa.Pr
open Go.RowKit Go.Proofs.YtpoffpdaadhkgaaW.PrintWords Go.Proofs.YtpoffpdaadhkgaaW.PrintLast Go.Proofs.YtpoffpdaadhkgaaW.PrintMore
attribute [local go_sem] max2_int min2_int max_two min_two max_three min_three max_four min_four
set_option linter.unusedVariables false
set_option linter.unusedSimpArgs false

/-! ### impl_CountChoices: function 53 -/
mutual
def impl_CountChoices.l0 : Nat → Int → List Int → Int → Int → List (S120) → List (S126) → Int → Option (Int)
  | 0, _, _, _, _, _, _, _ => none
  | k + 1, x3, x11, x12, x13, x53002000, x53002001, x53002002 => if x13 < x12 then (if 0 ≤ x13 then (if x13 < (x11.length : Int) then (if 0 ≤ (rd x11 x13) then (if (rd x11 x13) < (x53002001.length : Int) then (impl_CountChoices.l0 k (wrap64 (x3 * (wrap64 ((wrap64 (((rd_T126 x53002001 (rd x11 x13)).f3) - ((rd_T126 x53002001 (rd x11 x13)).f2))) + 1)))) x11 x12 (wrap64 (x13 + 1)) x53002000 x53002001 x53002002) else (none)) else (none)) else (none)) else (none)) else (impl_CountChoices.l1 k x3 1 x53002000 x53002001 x53002002)
def impl_CountChoices.l1 : Nat → Int → Int → List (S120) → List (S126) → Int → Option (Int)
  | 0, _, _, _, _, _ => none
  | k + 1, x3, x6, x53002000, x53002001, x53002002 => if x6 ≤ 3 then ((impl_watcher.f x53002000 x53002001 x53002002 x6).bind fun t53009 => (if t53009 ≥ 0 then (impl_CountChoices.l1 k (wrap64 (x3 * 2)) (wrap64 (x6 + 1)) x53002000 x53002001 x53002002) else (impl_CountChoices.l1 k x3 (wrap64 (x6 + 1)) x53002000 x53002001 x53002002))) else (some x3)
end
def impl_CountChoices.f (k : Nat) (l0_0 : List (S120)) (l0_1 : List (S126)) (a0_2 : Int) : Option (Int) := (impl_ShowOk.f l0_0 l0_1 a0_2).bind fun t53002 => (if t53002 = true then ((impl_freeTies.f k l0_0 l0_1 a0_2).bind fun t53003 => (impl_CountChoices.l0 k 1 t53003 (t53003.length : Int) 0 l0_0 l0_1 a0_2)) else (some 0))
set_option maxHeartbeats 8000000 in
set_option maxRecDepth 100000 in
theorem impl_CountChoices.calls (k : Nat) (A0_0 : Option Addr) (c0_0 : Nat) (l0_0 : List (S120)) (A0_1 : Option Addr) (c0_1 : Nat) (l0_1 : List (S126)) (a0_2 : Int) (r : Int) (w : World) (hr0_0 : Kd.C k120 w A0_0 l0_0.length l0_0) (hc0_0 : l0_0.length ≤ c0_0) (hr0_1 : Kd.C k126 w A0_1 l0_1.length l0_1) (hc0_1 : l0_1.length ≤ c0_1) (h : impl_CountChoices.f k l0_0 l0_1 a0_2 = some r) :
    Calls Try.prog 53 #[.agg #[.slice A0_0 l0_0.length c0_0, .slice A0_1 l0_1.length c0_1, .int .i64 a0_2]] w fun e w' => e = .returned (.int .i64 r) ∧ Below w.heap.size w w' := by
  have hu66 := Try.underlying66
  have HR0_0 := Aside0.mk hr0_0
  have HC0_0 := Aside0.mk hc0_0
  clear hr0_0 hc0_0
  have HR0_1 := Aside0.mk hr0_1
  have HC0_1 := Aside0.mk hc0_1
  clear hr0_1 hc0_1
  have HB := Aside0.mk (Below.refl w.heap.size w)
  have H : ((impl_ShowOk.f l0_0 l0_1 a0_2).bind fun t53002 => (if t53002 = true then ((impl_freeTies.f k l0_0 l0_1 a0_2).bind fun t53003 => (impl_CountChoices.l0 k 1 t53003 (t53003.length : Int) 0 l0_0 l0_1 a0_2)) else (some 0))) = some r := h
  clear h
  replace H := Option.bind_eq_some_iff.mp H
  obtain ⟨t53002, A20, H⟩ := H
  replace H : (if t53002 = true then ((impl_freeTies.f k l0_0 l0_1 a0_2).bind fun t53003 => (impl_CountChoices.l0 k 1 t53003 (t53003.length : Int) 0 l0_0 l0_1 a0_2)) else (some 0)) = some r := H
  have A2 := Aside0.mk A20
  clear A20
  by_cases c3 : t53002 = true
  · subst c3
    have H1 : ((impl_freeTies.f k l0_0 l0_1 a0_2).bind fun t53003 => (impl_CountChoices.l0 k 1 t53003 (t53003.length : Int) 0 l0_0 l0_1 a0_2)) = some r := by rw [if_pos rfl] at H; exact H
    clear H
    have H := H1
    clear H1
    replace H := Option.bind_eq_some_iff.mp H
    obtain ⟨t53003, A40, H⟩ := H
    replace H : (impl_CountChoices.l0 k 1 t53003 (t53003.length : Int) 0 l0_0 l0_1 a0_2) = some r := H
    have A4 := Aside0.mk A40
    clear A40
    have H' := Aside0.mk H
    clear H
    go_enter Try.func53, Try.ntmps53
    go_wp2_with (first | ((with_reducible refine gate_dst (N := 1) rfl ?_); refine box_event ?hg (N := 1) ?hd (cs := #[.slice A0_0 l0_0.length c0_0, .slice A0_1 l0_1.length c0_1, .int .i64 a0_2]) (t := 66) ?hr ?_; (case hd => rfl); (case hg => rfl); (case hr => first | (go_simp; done) | (go_simp; rfl)); intro gb53001 hg w5 hbox hb; have n0_ := Aside0.mk (below_step (by repeat (first | (with_reducible first | exact HB.out | apply below_alloc | apply pw_below_drewN | apply below_drew1) | exact HB.out)) hb); have n1_ := Aside0.mk (hbox); have n2_ := Aside0.mk ((by rw [hg]; exact (below_size (by repeat (first | (with_reducible first | exact HB.out | apply below_alloc | apply pw_below_drewN | apply below_drew1) | exact HB.out))) : w.heap.size ≤ gb53001)); have n3_ := Aside0.mk ((by rw [hg]; exact (below_size (by repeat (first | (with_reducible first | exact HB.out | apply below_alloc | apply pw_below_drewN | apply below_drew1) | exact HB.out))) : w.heap.size ≤ gb53001)); clear HB; have HB := n0_; have BK53001 := n1_; have GW53001 := n2_; have GE53001 := n3_; clear n0_ n1_ n2_ n3_; clear hb hbox hg; have hcz6_0 : w5.cell? ⟨gb53001, 0, none⟩ = some (.slice A0_0 l0_0.length c0_0) := (blk_cell BK53001.out 0).trans rfl; have hcz6_1 : w5.cell? ⟨gb53001, 1, none⟩ = some (.slice A0_1 l0_1.length c0_1) := (blk_cell BK53001.out 1).trans rfl; have hcz6_2 : w5.cell? ⟨gb53001, 2, none⟩ = some (.int .i64 a0_2) := (blk_cell BK53001.out 2).trans rfl; have hfz6_0 := blk_frozen BK53001.out 0; have hfz6_1 := blk_frozen BK53001.out 1; have hfz6_2 := blk_frozen BK53001.out 2) | (go_at_call 44; (with_reducible refine (impl_ShowOk.calls _ _ l0_0 _ _ l0_1 a0_2 true _ ?side1 ?side2 ?side3 ?side4 A2.out).mono ?_); (case side1 => repeat (first | exact (Kd.C_below HR0_0.out HB.out) | (with_reducible refine Kd.C_alloc ?_ _) | (with_reducible refine Kd.C_drewN ?_ _) | (with_reducible refine Kd.C_drew ?_))); (case side2 => exact HC0_0.out); (case side3 => repeat (first | exact (Kd.C_below HR0_1.out HB.out) | (with_reducible refine Kd.C_alloc ?_ _) | (with_reducible refine Kd.C_drewN ?_ _) | (with_reducible refine Kd.C_drew ?_))); (case side4 => exact HC0_1.out); rintro e w7 ⟨rfl, hb⟩; have n0_ := Aside0.mk (blk_below (g := gb53001) (o := .cells #[.slice A0_0 l0_0.length c0_0, .slice A0_1 l0_1.length c0_1, .int .i64 a0_2] 66 (0, 0)) (by (with_reducible repeat (first | refine blk_drewN ?_ _ | refine blk_drew ?_ | refine blk_alloc ?_ _)); exact BK53001.out) hb); have n1_ := Aside0.mk (below_step (by repeat (first | (with_reducible first | exact HB.out | apply below_alloc | apply pw_below_drewN | apply below_drew1 | refine below_set ?_ GE53001.out) | exact HB.out)) hb); clear BK53001; clear HB; have BK53001 := n0_; have HB := n1_; clear n0_ n1_; (try clear hb); (try clear hb2); (try clear hk); (try clear hi); have hcz8_0 : w7.cell? ⟨gb53001, 0, none⟩ = some (.slice A0_0 l0_0.length c0_0) := (blk_cell BK53001.out 0).trans rfl; have hcz8_1 : w7.cell? ⟨gb53001, 1, none⟩ = some (.slice A0_1 l0_1.length c0_1) := (blk_cell BK53001.out 1).trans rfl; have hcz8_2 : w7.cell? ⟨gb53001, 2, none⟩ = some (.int .i64 a0_2) := (blk_cell BK53001.out 2).trans rfl; have hfz8_0 := blk_frozen BK53001.out 0; have hfz8_1 := blk_frozen BK53001.out 1; have hfz8_2 := blk_frozen BK53001.out 2) | (go_at_call 106; (with_reducible refine (impl_freeTies.calls k _ _ l0_0 _ _ l0_1 a0_2 t53003 _ ?side1 ?side2 ?side3 ?side4 A4.out).mono ?_); (case side1 => repeat (first | exact (Kd.C_below HR0_0.out HB.out) | (with_reducible refine Kd.C_alloc ?_ _) | (with_reducible refine Kd.C_drewN ?_ _) | (with_reducible refine Kd.C_drew ?_))); (case side2 => exact HC0_0.out); (case side3 => repeat (first | exact (Kd.C_below HR0_1.out HB.out) | (with_reducible refine Kd.C_alloc ?_ _) | (with_reducible refine Kd.C_drewN ?_ _) | (with_reducible refine Kd.C_drew ?_))); (case side4 => exact HC0_1.out); rintro e w9 ⟨v53004, rfl, ho0, hb⟩; have n0_ := Aside0.mk (Kd.R_lower ho0 (below_size (by repeat (first | (with_reducible first | exact HB.out | apply below_alloc | apply pw_below_drewN | apply below_drew1 | refine below_set ?_ GE53001.out) | exact HB.out)))); have n1_ := Aside0.mk (blk_below (g := gb53001) (o := .cells #[.slice A0_0 l0_0.length c0_0, .slice A0_1 l0_1.length c0_1, .int .i64 a0_2] 66 (0, 0)) (by (with_reducible repeat (first | refine blk_drewN ?_ _ | refine blk_drew ?_ | refine blk_alloc ?_ _)); exact BK53001.out) hb); have n2_ := Aside0.mk (below_step (by repeat (first | (with_reducible first | exact HB.out | apply below_alloc | apply pw_below_drewN | apply below_drew1 | refine below_set ?_ GE53001.out) | exact HB.out)) hb); clear BK53001; clear HB; have HO53005 := n0_; have BK53001 := n1_; have HB := n2_; clear n0_ n1_ n2_; (try clear hb); (try clear hb2); (try clear hk); (try clear hi); (try clear ho0); obtain ⟨Ao10, co10, eo10⟩ := Kd.R_slice HO53005.out; subst eo10))
    repeat (go_quiet (first | ((with_reducible refine gate_dst (N := 1) rfl ?_); refine box_event ?hg (N := 1) ?hd (cs := #[.slice A0_0 l0_0.length c0_0, .slice A0_1 l0_1.length c0_1, .int .i64 a0_2]) (t := 66) ?hr ?_; (case hd => rfl); (case hg => rfl); (case hr => first | (go_simp; done) | (go_simp; rfl)); intro gb53001 hg w5 hbox hb; have n0_ := Aside0.mk (below_step (by repeat (first | (with_reducible first | exact HB.out | apply below_alloc | apply pw_below_drewN | apply below_drew1) | exact HB.out)) hb); have n1_ := Aside0.mk (hbox); have n2_ := Aside0.mk ((by rw [hg]; exact (below_size (by repeat (first | (with_reducible first | exact HB.out | apply below_alloc | apply pw_below_drewN | apply below_drew1) | exact HB.out))) : w.heap.size ≤ gb53001)); have n3_ := Aside0.mk ((by rw [hg]; exact (below_size (by repeat (first | (with_reducible first | exact HB.out | apply below_alloc | apply pw_below_drewN | apply below_drew1) | exact HB.out))) : w.heap.size ≤ gb53001)); clear HB; have HB := n0_; have BK53001 := n1_; have GW53001 := n2_; have GE53001 := n3_; clear n0_ n1_ n2_ n3_; clear hb hbox hg; have hcz6_0 : w5.cell? ⟨gb53001, 0, none⟩ = some (.slice A0_0 l0_0.length c0_0) := (blk_cell BK53001.out 0).trans rfl; have hcz6_1 : w5.cell? ⟨gb53001, 1, none⟩ = some (.slice A0_1 l0_1.length c0_1) := (blk_cell BK53001.out 1).trans rfl; have hcz6_2 : w5.cell? ⟨gb53001, 2, none⟩ = some (.int .i64 a0_2) := (blk_cell BK53001.out 2).trans rfl; have hfz6_0 := blk_frozen BK53001.out 0; have hfz6_1 := blk_frozen BK53001.out 1; have hfz6_2 := blk_frozen BK53001.out 2) | (go_at_call 44; (with_reducible refine (impl_ShowOk.calls _ _ l0_0 _ _ l0_1 a0_2 true _ ?side1 ?side2 ?side3 ?side4 A2.out).mono ?_); (case side1 => repeat (first | exact (Kd.C_below HR0_0.out HB.out) | (with_reducible refine Kd.C_alloc ?_ _) | (with_reducible refine Kd.C_drewN ?_ _) | (with_reducible refine Kd.C_drew ?_))); (case side2 => exact HC0_0.out); (case side3 => repeat (first | exact (Kd.C_below HR0_1.out HB.out) | (with_reducible refine Kd.C_alloc ?_ _) | (with_reducible refine Kd.C_drewN ?_ _) | (with_reducible refine Kd.C_drew ?_))); (case side4 => exact HC0_1.out); rintro e w7 ⟨rfl, hb⟩; have n0_ := Aside0.mk (blk_below (g := gb53001) (o := .cells #[.slice A0_0 l0_0.length c0_0, .slice A0_1 l0_1.length c0_1, .int .i64 a0_2] 66 (0, 0)) (by (with_reducible repeat (first | refine blk_drewN ?_ _ | refine blk_drew ?_ | refine blk_alloc ?_ _)); exact BK53001.out) hb); have n1_ := Aside0.mk (below_step (by repeat (first | (with_reducible first | exact HB.out | apply below_alloc | apply pw_below_drewN | apply below_drew1 | refine below_set ?_ GE53001.out) | exact HB.out)) hb); clear BK53001; clear HB; have BK53001 := n0_; have HB := n1_; clear n0_ n1_; (try clear hb); (try clear hb2); (try clear hk); (try clear hi); have hcz8_0 : w7.cell? ⟨gb53001, 0, none⟩ = some (.slice A0_0 l0_0.length c0_0) := (blk_cell BK53001.out 0).trans rfl; have hcz8_1 : w7.cell? ⟨gb53001, 1, none⟩ = some (.slice A0_1 l0_1.length c0_1) := (blk_cell BK53001.out 1).trans rfl; have hcz8_2 : w7.cell? ⟨gb53001, 2, none⟩ = some (.int .i64 a0_2) := (blk_cell BK53001.out 2).trans rfl; have hfz8_0 := blk_frozen BK53001.out 0; have hfz8_1 := blk_frozen BK53001.out 1; have hfz8_2 := blk_frozen BK53001.out 2) | (go_at_call 106; (with_reducible refine (impl_freeTies.calls k _ _ l0_0 _ _ l0_1 a0_2 t53003 _ ?side1 ?side2 ?side3 ?side4 A4.out).mono ?_); (case side1 => repeat (first | exact (Kd.C_below HR0_0.out HB.out) | (with_reducible refine Kd.C_alloc ?_ _) | (with_reducible refine Kd.C_drewN ?_ _) | (with_reducible refine Kd.C_drew ?_))); (case side2 => exact HC0_0.out); (case side3 => repeat (first | exact (Kd.C_below HR0_1.out HB.out) | (with_reducible refine Kd.C_alloc ?_ _) | (with_reducible refine Kd.C_drewN ?_ _) | (with_reducible refine Kd.C_drew ?_))); (case side4 => exact HC0_1.out); rintro e w9 ⟨v53004, rfl, ho0, hb⟩; have n0_ := Aside0.mk (Kd.R_lower ho0 (below_size (by repeat (first | (with_reducible first | exact HB.out | apply below_alloc | apply pw_below_drewN | apply below_drew1 | refine below_set ?_ GE53001.out) | exact HB.out)))); have n1_ := Aside0.mk (blk_below (g := gb53001) (o := .cells #[.slice A0_0 l0_0.length c0_0, .slice A0_1 l0_1.length c0_1, .int .i64 a0_2] 66 (0, 0)) (by (with_reducible repeat (first | refine blk_drewN ?_ _ | refine blk_drew ?_ | refine blk_alloc ?_ _)); exact BK53001.out) hb); have n2_ := Aside0.mk (below_step (by repeat (first | (with_reducible first | exact HB.out | apply below_alloc | apply pw_below_drewN | apply below_drew1 | refine below_set ?_ GE53001.out) | exact HB.out)) hb); clear BK53001; clear HB; have HO53005 := n0_; have BK53001 := n1_; have HB := n2_; clear n0_ n1_ n2_; (try clear hb); (try clear hb2); (try clear hk); (try clear hi); (try clear ho0); obtain ⟨Ao10, co10, eo10⟩ := Kd.R_slice HO53005.out; subst eo10)); try go_wp2_with (first | ((with_reducible refine gate_dst (N := 1) rfl ?_); refine box_event ?hg (N := 1) ?hd (cs := #[.slice A0_0 l0_0.length c0_0, .slice A0_1 l0_1.length c0_1, .int .i64 a0_2]) (t := 66) ?hr ?_; (case hd => rfl); (case hg => rfl); (case hr => first | (go_simp; done) | (go_simp; rfl)); intro gb53001 hg w5 hbox hb; have n0_ := Aside0.mk (below_step (by repeat (first | (with_reducible first | exact HB.out | apply below_alloc | apply pw_below_drewN | apply below_drew1) | exact HB.out)) hb); have n1_ := Aside0.mk (hbox); have n2_ := Aside0.mk ((by rw [hg]; exact (below_size (by repeat (first | (with_reducible first | exact HB.out | apply below_alloc | apply pw_below_drewN | apply below_drew1) | exact HB.out))) : w.heap.size ≤ gb53001)); have n3_ := Aside0.mk ((by rw [hg]; exact (below_size (by repeat (first | (with_reducible first | exact HB.out | apply below_alloc | apply pw_below_drewN | apply below_drew1) | exact HB.out))) : w.heap.size ≤ gb53001)); clear HB; have HB := n0_; have BK53001 := n1_; have GW53001 := n2_; have GE53001 := n3_; clear n0_ n1_ n2_ n3_; clear hb hbox hg; have hcz6_0 : w5.cell? ⟨gb53001, 0, none⟩ = some (.slice A0_0 l0_0.length c0_0) := (blk_cell BK53001.out 0).trans rfl; have hcz6_1 : w5.cell? ⟨gb53001, 1, none⟩ = some (.slice A0_1 l0_1.length c0_1) := (blk_cell BK53001.out 1).trans rfl; have hcz6_2 : w5.cell? ⟨gb53001, 2, none⟩ = some (.int .i64 a0_2) := (blk_cell BK53001.out 2).trans rfl; have hfz6_0 := blk_frozen BK53001.out 0; have hfz6_1 := blk_frozen BK53001.out 1; have hfz6_2 := blk_frozen BK53001.out 2) | (go_at_call 44; (with_reducible refine (impl_ShowOk.calls _ _ l0_0 _ _ l0_1 a0_2 true _ ?side1 ?side2 ?side3 ?side4 A2.out).mono ?_); (case side1 => repeat (first | exact (Kd.C_below HR0_0.out HB.out) | (with_reducible refine Kd.C_alloc ?_ _) | (with_reducible refine Kd.C_drewN ?_ _) | (with_reducible refine Kd.C_drew ?_))); (case side2 => exact HC0_0.out); (case side3 => repeat (first | exact (Kd.C_below HR0_1.out HB.out) | (with_reducible refine Kd.C_alloc ?_ _) | (with_reducible refine Kd.C_drewN ?_ _) | (with_reducible refine Kd.C_drew ?_))); (case side4 => exact HC0_1.out); rintro e w7 ⟨rfl, hb⟩; have n0_ := Aside0.mk (blk_below (g := gb53001) (o := .cells #[.slice A0_0 l0_0.length c0_0, .slice A0_1 l0_1.length c0_1, .int .i64 a0_2] 66 (0, 0)) (by (with_reducible repeat (first | refine blk_drewN ?_ _ | refine blk_drew ?_ | refine blk_alloc ?_ _)); exact BK53001.out) hb); have n1_ := Aside0.mk (below_step (by repeat (first | (with_reducible first | exact HB.out | apply below_alloc | apply pw_below_drewN | apply below_drew1 | refine below_set ?_ GE53001.out) | exact HB.out)) hb); clear BK53001; clear HB; have BK53001 := n0_; have HB := n1_; clear n0_ n1_; (try clear hb); (try clear hb2); (try clear hk); (try clear hi); have hcz8_0 : w7.cell? ⟨gb53001, 0, none⟩ = some (.slice A0_0 l0_0.length c0_0) := (blk_cell BK53001.out 0).trans rfl; have hcz8_1 : w7.cell? ⟨gb53001, 1, none⟩ = some (.slice A0_1 l0_1.length c0_1) := (blk_cell BK53001.out 1).trans rfl; have hcz8_2 : w7.cell? ⟨gb53001, 2, none⟩ = some (.int .i64 a0_2) := (blk_cell BK53001.out 2).trans rfl; have hfz8_0 := blk_frozen BK53001.out 0; have hfz8_1 := blk_frozen BK53001.out 1; have hfz8_2 := blk_frozen BK53001.out 2) | (go_at_call 106; (with_reducible refine (impl_freeTies.calls k _ _ l0_0 _ _ l0_1 a0_2 t53003 _ ?side1 ?side2 ?side3 ?side4 A4.out).mono ?_); (case side1 => repeat (first | exact (Kd.C_below HR0_0.out HB.out) | (with_reducible refine Kd.C_alloc ?_ _) | (with_reducible refine Kd.C_drewN ?_ _) | (with_reducible refine Kd.C_drew ?_))); (case side2 => exact HC0_0.out); (case side3 => repeat (first | exact (Kd.C_below HR0_1.out HB.out) | (with_reducible refine Kd.C_alloc ?_ _) | (with_reducible refine Kd.C_drewN ?_ _) | (with_reducible refine Kd.C_drew ?_))); (case side4 => exact HC0_1.out); rintro e w9 ⟨v53004, rfl, ho0, hb⟩; have n0_ := Aside0.mk (Kd.R_lower ho0 (below_size (by repeat (first | (with_reducible first | exact HB.out | apply below_alloc | apply pw_below_drewN | apply below_drew1 | refine below_set ?_ GE53001.out) | exact HB.out)))); have n1_ := Aside0.mk (blk_below (g := gb53001) (o := .cells #[.slice A0_0 l0_0.length c0_0, .slice A0_1 l0_1.length c0_1, .int .i64 a0_2] 66 (0, 0)) (by (with_reducible repeat (first | refine blk_drewN ?_ _ | refine blk_drew ?_ | refine blk_alloc ?_ _)); exact BK53001.out) hb); have n2_ := Aside0.mk (below_step (by repeat (first | (with_reducible first | exact HB.out | apply below_alloc | apply pw_below_drewN | apply below_drew1 | refine below_set ?_ GE53001.out) | exact HB.out)) hb); clear BK53001; clear HB; have HO53005 := n0_; have BK53001 := n1_; have HB := n2_; clear n0_ n1_ n2_; (try clear hb); (try clear hb2); (try clear hk); (try clear hi); (try clear ho0); obtain ⟨Ao10, co10, eo10⟩ := Kd.R_slice HO53005.out; subst eo10)))
    go_loopg [3, 13] k (fun kq v3 v13 w' => ∃ (x3_1 : Int) (x13_1 : Int), v3 = .int .i64 x3_1 ∧ v13 = .int .i64 x13_1 ∧ Aside0 (impl_CountChoices.l0 kq x3_1 t53003 (t53003.length : Int) x13_1 l0_0 l0_1 a0_2 = some r) ∧ Aside0 (kq ≤ k) ∧ Aside0 (Kd.R (Kd.int .i64) 3 w' w.heap.size (fun _ => True) (.slice Ao10 t53003.length co10) t53003) ∧ Aside0 (w'.heap[gb53001]? = some (.cells #[(.slice A0_0 l0_0.length c0_0), (.slice A0_1 l0_1.length c0_1), .int .i64 a0_2] 66 (0, 0))) ∧ Aside0 (Below w.heap.size w w'))
    case atStart => exact ⟨(1), (0), (by first | rfl | (simp; done) | (simp [*]; done)), (by first | rfl | (simp; done) | (simp [*]; done)), H', ⟨Nat.le_refl _⟩, ⟨by (with_reducible repeat (first | apply Kd.R_alloc | apply Kd.R_drewN | apply Kd.R_drew)); exact HO53005.out⟩, ⟨by (with_reducible repeat (first | refine blk_drewN ?_ _ | refine blk_drew ?_ | refine blk_alloc ?_ _)); exact BK53001.out⟩, ⟨by repeat (first | (with_reducible first | exact HB.out | apply below_alloc | apply pw_below_drewN | apply below_drew1 | refine below_set ?_ GE53001.out) | exact HB.out)⟩⟩
    case round =>
      clear H'
      try clear p2
      try clear c3
      try clear c5
      try clear hcz6_0
      try clear hcz6_1
      try clear hcz6_2
      try clear hcz8_0
      try clear hcz8_1
      try clear hcz8_2
      try clear hfz6_0
      try clear hfz6_1
      try clear hfz6_2
      try clear hfz8_0
      try clear hfz8_1
      try clear hfz8_2
      obtain ⟨x3_1, x13_1, rfl, rfl, HA, HK1, HO_11, BK53001, HB⟩ := hrel
      cases gk with
      | zero => exact absurd HA.out (by simp [impl_CountChoices.l0])
      | succ k1 =>
        have H := HA.out
        clear HA
        simp only [impl_CountChoices.l0] at H
        by_cases c11 : x13_1 < (t53003.length : Int)
        · rw [if_pos c11] at H
          have c11b0 : decide (x13_1 < (t53003.length : Int)) = true := decide_eq_true c11
          clear c11
          by_cases c12 : 0 ≤ x13_1
          · rw [if_pos c12] at H
            have c12b0 : decide (0 ≤ x13_1) = true := decide_eq_true c12
            clear c12
            by_cases c13 : x13_1 < (t53003.length : Int)
            · rw [if_pos c13] at H
              have c13b0 : decide (x13_1 < (t53003.length : Int)) = true := decide_eq_true c13
              clear c13
              by_cases c14 : 0 ≤ (rd t53003 x13_1)
              · rw [if_pos c14] at H
                have c14b0 : decide (0 ≤ (rd t53003 x13_1)) = true := decide_eq_true c14
                clear c14
                by_cases c15 : (rd t53003 x13_1) < (l0_1.length : Int)
                · rw [if_pos c15] at H
                  have c15b0 : decide ((rd t53003 x13_1) < (l0_1.length : Int)) = true := decide_eq_true c15
                  clear c15
                  have H' := Aside0.mk H
                  clear H
                  have p53006 : 0 ≤ (x13_1 : Int) := of_decide_eq_true (by first | (with_reducible assumption) | assumption)
                  have q53006 : x13_1 < (t53003.length : Int) := of_decide_eq_true (by first | (with_reducible assumption) | assumption)
                  obtain ⟨ad53006, e53006, hx53006_0⟩ := Kd.at_int (Kd.R_reads' HO_11.out).2.2 x13_1 p53006 q53006
                  cases e53006
                  replace p53006 := eq_true p53006
                  replace q53006 := eq_true q53006
                  have hcz16_0 : wr.cell? ⟨gb53001, 0, none⟩ = some (.slice A0_0 l0_0.length c0_0) := (blk_cell BK53001.out 0).trans rfl
                  have hcz16_1 : wr.cell? ⟨gb53001, 1, none⟩ = some (.slice A0_1 l0_1.length c0_1) := (blk_cell BK53001.out 1).trans rfl
                  have hcz16_2 : wr.cell? ⟨gb53001, 2, none⟩ = some (.int .i64 a0_2) := (blk_cell BK53001.out 2).trans rfl
                  have hfz16_0 := blk_frozen BK53001.out 0
                  have hfz16_1 := blk_frozen BK53001.out 1
                  have hfz16_2 := blk_frozen BK53001.out 2
                  have p53007 : 0 ≤ ((rd t53003 x13_1) : Int) := of_decide_eq_true (by first | (with_reducible assumption) | assumption)
                  have q53007 : (rd t53003 x13_1) < (l0_1.length : Int) := of_decide_eq_true (by first | (with_reducible assumption) | assumption)
                  obtain ⟨ad53007, e53007, hx53007_0, hx53007_1, hx53007_2, hx53007_3, hx53007_4⟩ := at_T126 HR0_1.out (rd t53003 x13_1) p53007 q53007
                  cases e53007
                  replace hx53007_0 := (HB.out.cell (World.block_lt_of_cell? w _ hx53007_0)).trans hx53007_0
                  replace hx53007_1 := (HB.out.cell (World.block_lt_of_cell? w _ hx53007_1)).trans hx53007_1
                  replace hx53007_2 := (HB.out.cell (World.block_lt_of_cell? w _ hx53007_2)).trans hx53007_2
                  replace hx53007_3 := (HB.out.cell (World.block_lt_of_cell? w _ hx53007_3)).trans hx53007_3
                  replace hx53007_4 := (HB.out.cell (World.block_lt_of_cell? w _ hx53007_4)).trans hx53007_4
                  replace p53007 := eq_true p53007
                  replace q53007 := eq_true q53007
                  have p53008 : 0 ≤ ((rd t53003 x13_1) : Int) := of_decide_eq_true (by first | (with_reducible assumption) | assumption)
                  have q53008 : (rd t53003 x13_1) < (l0_1.length : Int) := of_decide_eq_true (by first | (with_reducible assumption) | assumption)
                  obtain ⟨ad53008, e53008, hx53008_0, hx53008_1, hx53008_2, hx53008_3, hx53008_4⟩ := at_T126 HR0_1.out (rd t53003 x13_1) p53008 q53008
                  obtain rfl : ad53007 = ad53008 := (by injection e53008)
                  replace hx53008_0 := (HB.out.cell (World.block_lt_of_cell? w _ hx53008_0)).trans hx53008_0
                  replace hx53008_1 := (HB.out.cell (World.block_lt_of_cell? w _ hx53008_1)).trans hx53008_1
                  replace hx53008_2 := (HB.out.cell (World.block_lt_of_cell? w _ hx53008_2)).trans hx53008_2
                  replace hx53008_3 := (HB.out.cell (World.block_lt_of_cell? w _ hx53008_3)).trans hx53008_3
                  replace hx53008_4 := (HB.out.cell (World.block_lt_of_cell? w _ hx53008_4)).trans hx53008_4
                  replace p53008 := eq_true p53008
                  replace q53008 := eq_true q53008
                  go_wp2
                  repeat (go_quiet (fail); try go_wp2)
                  go_roundg k1
                  case measure => have := HK1.out; omega
                  case rel => exact ⟨(wrap64 (x3_1 * (wrap64 ((wrap64 (((rd_T126 l0_1 (rd t53003 x13_1)).f3) - ((rd_T126 l0_1 (rd t53003 x13_1)).f2))) + 1)))), (wrap64 (x13_1 + 1)), (by first | rfl | (simp; done) | (simp [*]; done)), (by first | rfl | (simp; done) | (simp [*]; done)), H', ⟨by have := HK1.out; omega⟩, ⟨by (with_reducible repeat (first | apply Kd.R_alloc | apply Kd.R_drewN | apply Kd.R_drew)); exact HO_11.out⟩, ⟨by (with_reducible repeat (first | refine blk_drewN ?_ _ | refine blk_drew ?_ | refine blk_alloc ?_ _)); exact BK53001.out⟩, ⟨by repeat (first | (with_reducible first | exact HB.out | apply below_alloc | apply pw_below_drewN | apply below_drew1 | refine below_set ?_ GE53001.out) | exact HB.out)⟩⟩
                · rw [if_neg c15] at H
                  exact absurd H (by simp)
              · rw [if_neg c14] at H
                exact absurd H (by simp)
            · rw [if_neg c13] at H
              exact absurd H (by simp)
          · rw [if_neg c12] at H
            exact absurd H (by simp)
        · rw [if_neg c11] at H
          have c11b0 : decide (x13_1 < (t53003.length : Int)) = false := decide_eq_false c11
          clear c11
          have H' := Aside0.mk H
          clear H
          go_wp2
          repeat (go_quiet (fail); try go_wp2)
          go_loopg [3, 6] k1 (fun kq v3 v6 w' => ∃ (x3_2 : Int) (x6_2 : Int), v3 = .int .i64 x3_2 ∧ v6 = .int .i64 x6_2 ∧ Aside0 (impl_CountChoices.l1 kq x3_2 x6_2 l0_0 l0_1 a0_2 = some r) ∧ Aside0 (kq ≤ k1) ∧ Aside0 (w'.heap[gb53001]? = some (.cells #[(.slice A0_0 l0_0.length c0_0), (.slice A0_1 l0_1.length c0_1), .int .i64 a0_2] 66 (0, 0))) ∧ Aside0 (Below w.heap.size w w'))
          case atStart => exact ⟨(x3_1), (1), (by first | rfl | (simp; done) | (simp [*]; done)), (by first | rfl | (simp; done) | (simp [*]; done)), H', ⟨Nat.le_refl _⟩, ⟨by (with_reducible repeat (first | refine blk_drewN ?_ _ | refine blk_drew ?_ | refine blk_alloc ?_ _)); exact BK53001.out⟩, ⟨by repeat (first | (with_reducible first | exact HB.out | apply below_alloc | apply pw_below_drewN | apply below_drew1 | refine below_set ?_ GE53001.out) | exact HB.out)⟩⟩
          case round =>
            clear H'
            try clear c1
            try clear p2
            try clear c3
            try clear c5
            try clear p5
            try clear q5
            try clear hx5
            try clear p6
            try clear c11
            try clear c11b0
            try clear c12
            try clear c12b0
            try clear c13
            try clear c13b0
            try clear c14
            try clear c14b0
            try clear c15
            try clear c15b0
            try clear hcz16_0
            try clear hcz16_1
            try clear hcz16_2
            try clear hcz6_0
            try clear hcz6_1
            try clear hcz6_2
            try clear hcz8_0
            try clear hcz8_1
            try clear hcz8_2
            try clear hfz16_0
            try clear hfz16_1
            try clear hfz16_2
            try clear hfz6_0
            try clear hfz6_1
            try clear hfz6_2
            try clear hfz8_0
            try clear hfz8_1
            try clear hfz8_2
            try clear hx53006_0
            try clear hx53007_0
            try clear hx53007_1
            try clear hx53007_2
            try clear hx53007_3
            try clear hx53007_4
            try clear hx53008_0
            try clear hx53008_1
            try clear hx53008_2
            try clear hx53008_3
            try clear hx53008_4
            try clear p2
            try clear p53006
            try clear p53007
            try clear p53008
            try clear q53006
            try clear q53007
            try clear q53008
            obtain ⟨x3_2, x6_2, rfl, rfl, HA, HK2, BK53001, HB⟩ := hrel
            cases gk with
            | zero => exact absurd HA.out (by simp [impl_CountChoices.l1])
            | succ k2 =>
              have H := HA.out
              clear HA
              simp only [impl_CountChoices.l1] at H
              by_cases c17 : x6_2 ≤ 3
              · rw [if_pos c17] at H
                have c17b0 : decide (x6_2 ≤ 3) = true := decide_eq_true c17
                clear c17
                replace H := Option.bind_eq_some_iff.mp H
                obtain ⟨t53009, A180, H⟩ := H
                replace H : (if t53009 ≥ 0 then (impl_CountChoices.l1 k2 (wrap64 (x3_2 * 2)) (wrap64 (x6_2 + 1)) l0_0 l0_1 a0_2) else (impl_CountChoices.l1 k2 x3_2 (wrap64 (x6_2 + 1)) l0_0 l0_1 a0_2)) = some r := H
                have A18 := Aside0.mk A180
                clear A180
                by_cases c19 : t53009 ≥ 0
                · rw [if_pos c19] at H
                  have c19b0 : decide (0 ≤ t53009) = true := decide_eq_true c19
                  clear c19
                  have H' := Aside0.mk H
                  clear H
                  have hcz20_0 : wr.cell? ⟨gb53001, 0, none⟩ = some (.slice A0_0 l0_0.length c0_0) := (blk_cell BK53001.out 0).trans rfl
                  have hcz20_1 : wr.cell? ⟨gb53001, 1, none⟩ = some (.slice A0_1 l0_1.length c0_1) := (blk_cell BK53001.out 1).trans rfl
                  have hcz20_2 : wr.cell? ⟨gb53001, 2, none⟩ = some (.int .i64 a0_2) := (blk_cell BK53001.out 2).trans rfl
                  have hfz20_0 := blk_frozen BK53001.out 0
                  have hfz20_1 := blk_frozen BK53001.out 1
                  have hfz20_2 := blk_frozen BK53001.out 2
                  go_wp2_with (first | (go_at_call 102; (with_reducible refine (impl_watcher.calls _ _ l0_0 _ _ l0_1 a0_2 x6_2 t53009 _ ?side1 ?side2 ?side3 ?side4 A18.out).mono ?_); (case side1 => repeat (first | exact (Kd.C_below HR0_0.out HB.out) | (with_reducible refine Kd.C_alloc ?_ _) | (with_reducible refine Kd.C_drewN ?_ _) | (with_reducible refine Kd.C_drew ?_))); (case side2 => exact HC0_0.out); (case side3 => repeat (first | exact (Kd.C_below HR0_1.out HB.out) | (with_reducible refine Kd.C_alloc ?_ _) | (with_reducible refine Kd.C_drewN ?_ _) | (with_reducible refine Kd.C_drew ?_))); (case side4 => exact HC0_1.out); rintro e w21 ⟨rfl, hb⟩; have n0_ := Aside0.mk (blk_below (g := gb53001) (o := .cells #[.slice A0_0 l0_0.length c0_0, .slice A0_1 l0_1.length c0_1, .int .i64 a0_2] 66 (0, 0)) (by (with_reducible repeat (first | refine blk_drewN ?_ _ | refine blk_drew ?_ | refine blk_alloc ?_ _)); exact BK53001.out) hb); have n1_ := Aside0.mk (below_step (by repeat (first | (with_reducible first | exact HB.out | apply below_alloc | apply pw_below_drewN | apply below_drew1 | refine below_set ?_ GE53001.out) | exact HB.out)) hb); clear BK53001; clear HB; have BK53001 := n0_; have HB := n1_; clear n0_ n1_; (try clear hb); (try clear hb2); (try clear hk); (try clear hi)))
                  repeat (go_quiet (first | (go_at_call 102; (with_reducible refine (impl_watcher.calls _ _ l0_0 _ _ l0_1 a0_2 x6_2 t53009 _ ?side1 ?side2 ?side3 ?side4 A18.out).mono ?_); (case side1 => repeat (first | exact (Kd.C_below HR0_0.out HB.out) | (with_reducible refine Kd.C_alloc ?_ _) | (with_reducible refine Kd.C_drewN ?_ _) | (with_reducible refine Kd.C_drew ?_))); (case side2 => exact HC0_0.out); (case side3 => repeat (first | exact (Kd.C_below HR0_1.out HB.out) | (with_reducible refine Kd.C_alloc ?_ _) | (with_reducible refine Kd.C_drewN ?_ _) | (with_reducible refine Kd.C_drew ?_))); (case side4 => exact HC0_1.out); rintro e w21 ⟨rfl, hb⟩; have n0_ := Aside0.mk (blk_below (g := gb53001) (o := .cells #[.slice A0_0 l0_0.length c0_0, .slice A0_1 l0_1.length c0_1, .int .i64 a0_2] 66 (0, 0)) (by (with_reducible repeat (first | refine blk_drewN ?_ _ | refine blk_drew ?_ | refine blk_alloc ?_ _)); exact BK53001.out) hb); have n1_ := Aside0.mk (below_step (by repeat (first | (with_reducible first | exact HB.out | apply below_alloc | apply pw_below_drewN | apply below_drew1 | refine below_set ?_ GE53001.out) | exact HB.out)) hb); clear BK53001; clear HB; have BK53001 := n0_; have HB := n1_; clear n0_ n1_; (try clear hb); (try clear hb2); (try clear hk); (try clear hi))); try go_wp2_with (first | (go_at_call 102; (with_reducible refine (impl_watcher.calls _ _ l0_0 _ _ l0_1 a0_2 x6_2 t53009 _ ?side1 ?side2 ?side3 ?side4 A18.out).mono ?_); (case side1 => repeat (first | exact (Kd.C_below HR0_0.out HB.out) | (with_reducible refine Kd.C_alloc ?_ _) | (with_reducible refine Kd.C_drewN ?_ _) | (with_reducible refine Kd.C_drew ?_))); (case side2 => exact HC0_0.out); (case side3 => repeat (first | exact (Kd.C_below HR0_1.out HB.out) | (with_reducible refine Kd.C_alloc ?_ _) | (with_reducible refine Kd.C_drewN ?_ _) | (with_reducible refine Kd.C_drew ?_))); (case side4 => exact HC0_1.out); rintro e w21 ⟨rfl, hb⟩; have n0_ := Aside0.mk (blk_below (g := gb53001) (o := .cells #[.slice A0_0 l0_0.length c0_0, .slice A0_1 l0_1.length c0_1, .int .i64 a0_2] 66 (0, 0)) (by (with_reducible repeat (first | refine blk_drewN ?_ _ | refine blk_drew ?_ | refine blk_alloc ?_ _)); exact BK53001.out) hb); have n1_ := Aside0.mk (below_step (by repeat (first | (with_reducible first | exact HB.out | apply below_alloc | apply pw_below_drewN | apply below_drew1 | refine below_set ?_ GE53001.out) | exact HB.out)) hb); clear BK53001; clear HB; have BK53001 := n0_; have HB := n1_; clear n0_ n1_; (try clear hb); (try clear hb2); (try clear hk); (try clear hi))))
                  go_roundg k2
                  case measure => have := HK1.out; have := HK2.out; omega
                  case rel => exact ⟨(wrap64 (x3_2 * 2)), (wrap64 (x6_2 + 1)), (by first | rfl | (simp; done) | (simp [*]; done)), (by first | rfl | (simp; done) | (simp [*]; done)), H', ⟨by have := HK1.out; have := HK2.out; omega⟩, ⟨by (with_reducible repeat (first | refine blk_drewN ?_ _ | refine blk_drew ?_ | refine blk_alloc ?_ _)); exact BK53001.out⟩, ⟨by repeat (first | (with_reducible first | exact HB.out | apply below_alloc | apply pw_below_drewN | apply below_drew1 | refine below_set ?_ GE53001.out) | exact HB.out)⟩⟩
                · rw [if_neg c19] at H
                  have c19b0 : decide (0 ≤ t53009) = false := decide_eq_false c19
                  clear c19
                  have H' := Aside0.mk H
                  clear H
                  have hcz22_0 : wr.cell? ⟨gb53001, 0, none⟩ = some (.slice A0_0 l0_0.length c0_0) := (blk_cell BK53001.out 0).trans rfl
                  have hcz22_1 : wr.cell? ⟨gb53001, 1, none⟩ = some (.slice A0_1 l0_1.length c0_1) := (blk_cell BK53001.out 1).trans rfl
                  have hcz22_2 : wr.cell? ⟨gb53001, 2, none⟩ = some (.int .i64 a0_2) := (blk_cell BK53001.out 2).trans rfl
                  have hfz22_0 := blk_frozen BK53001.out 0
                  have hfz22_1 := blk_frozen BK53001.out 1
                  have hfz22_2 := blk_frozen BK53001.out 2
                  go_wp2_with (first | (go_at_call 102; (with_reducible refine (impl_watcher.calls _ _ l0_0 _ _ l0_1 a0_2 x6_2 t53009 _ ?side1 ?side2 ?side3 ?side4 A18.out).mono ?_); (case side1 => repeat (first | exact (Kd.C_below HR0_0.out HB.out) | (with_reducible refine Kd.C_alloc ?_ _) | (with_reducible refine Kd.C_drewN ?_ _) | (with_reducible refine Kd.C_drew ?_))); (case side2 => exact HC0_0.out); (case side3 => repeat (first | exact (Kd.C_below HR0_1.out HB.out) | (with_reducible refine Kd.C_alloc ?_ _) | (with_reducible refine Kd.C_drewN ?_ _) | (with_reducible refine Kd.C_drew ?_))); (case side4 => exact HC0_1.out); rintro e w23 ⟨rfl, hb⟩; have n0_ := Aside0.mk (blk_below (g := gb53001) (o := .cells #[.slice A0_0 l0_0.length c0_0, .slice A0_1 l0_1.length c0_1, .int .i64 a0_2] 66 (0, 0)) (by (with_reducible repeat (first | refine blk_drewN ?_ _ | refine blk_drew ?_ | refine blk_alloc ?_ _)); exact BK53001.out) hb); have n1_ := Aside0.mk (below_step (by repeat (first | (with_reducible first | exact HB.out | apply below_alloc | apply pw_below_drewN | apply below_drew1 | refine below_set ?_ GE53001.out) | exact HB.out)) hb); clear BK53001; clear HB; have BK53001 := n0_; have HB := n1_; clear n0_ n1_; (try clear hb); (try clear hb2); (try clear hk); (try clear hi)))
                  repeat (go_quiet (first | (go_at_call 102; (with_reducible refine (impl_watcher.calls _ _ l0_0 _ _ l0_1 a0_2 x6_2 t53009 _ ?side1 ?side2 ?side3 ?side4 A18.out).mono ?_); (case side1 => repeat (first | exact (Kd.C_below HR0_0.out HB.out) | (with_reducible refine Kd.C_alloc ?_ _) | (with_reducible refine Kd.C_drewN ?_ _) | (with_reducible refine Kd.C_drew ?_))); (case side2 => exact HC0_0.out); (case side3 => repeat (first | exact (Kd.C_below HR0_1.out HB.out) | (with_reducible refine Kd.C_alloc ?_ _) | (with_reducible refine Kd.C_drewN ?_ _) | (with_reducible refine Kd.C_drew ?_))); (case side4 => exact HC0_1.out); rintro e w23 ⟨rfl, hb⟩; have n0_ := Aside0.mk (blk_below (g := gb53001) (o := .cells #[.slice A0_0 l0_0.length c0_0, .slice A0_1 l0_1.length c0_1, .int .i64 a0_2] 66 (0, 0)) (by (with_reducible repeat (first | refine blk_drewN ?_ _ | refine blk_drew ?_ | refine blk_alloc ?_ _)); exact BK53001.out) hb); have n1_ := Aside0.mk (below_step (by repeat (first | (with_reducible first | exact HB.out | apply below_alloc | apply pw_below_drewN | apply below_drew1 | refine below_set ?_ GE53001.out) | exact HB.out)) hb); clear BK53001; clear HB; have BK53001 := n0_; have HB := n1_; clear n0_ n1_; (try clear hb); (try clear hb2); (try clear hk); (try clear hi))); try go_wp2_with (first | (go_at_call 102; (with_reducible refine (impl_watcher.calls _ _ l0_0 _ _ l0_1 a0_2 x6_2 t53009 _ ?side1 ?side2 ?side3 ?side4 A18.out).mono ?_); (case side1 => repeat (first | exact (Kd.C_below HR0_0.out HB.out) | (with_reducible refine Kd.C_alloc ?_ _) | (with_reducible refine Kd.C_drewN ?_ _) | (with_reducible refine Kd.C_drew ?_))); (case side2 => exact HC0_0.out); (case side3 => repeat (first | exact (Kd.C_below HR0_1.out HB.out) | (with_reducible refine Kd.C_alloc ?_ _) | (with_reducible refine Kd.C_drewN ?_ _) | (with_reducible refine Kd.C_drew ?_))); (case side4 => exact HC0_1.out); rintro e w23 ⟨rfl, hb⟩; have n0_ := Aside0.mk (blk_below (g := gb53001) (o := .cells #[.slice A0_0 l0_0.length c0_0, .slice A0_1 l0_1.length c0_1, .int .i64 a0_2] 66 (0, 0)) (by (with_reducible repeat (first | refine blk_drewN ?_ _ | refine blk_drew ?_ | refine blk_alloc ?_ _)); exact BK53001.out) hb); have n1_ := Aside0.mk (below_step (by repeat (first | (with_reducible first | exact HB.out | apply below_alloc | apply pw_below_drewN | apply below_drew1 | refine below_set ?_ GE53001.out) | exact HB.out)) hb); clear BK53001; clear HB; have BK53001 := n0_; have HB := n1_; clear n0_ n1_; (try clear hb); (try clear hb2); (try clear hk); (try clear hi))))
                  go_roundg k2
                  case measure => have := HK1.out; have := HK2.out; omega
                  case rel => exact ⟨(x3_2), (wrap64 (x6_2 + 1)), (by first | rfl | (simp; done) | (simp [*]; done)), (by first | rfl | (simp; done) | (simp [*]; done)), H', ⟨by have := HK1.out; have := HK2.out; omega⟩, ⟨by (with_reducible repeat (first | refine blk_drewN ?_ _ | refine blk_drew ?_ | refine blk_alloc ?_ _)); exact BK53001.out⟩, ⟨by repeat (first | (with_reducible first | exact HB.out | apply below_alloc | apply pw_below_drewN | apply below_drew1 | refine below_set ?_ GE53001.out) | exact HB.out)⟩⟩
              · rw [if_neg c17] at H
                have c17b0 : decide (x6_2 ≤ 3) = false := decide_eq_false c17
                clear c17
                obtain rfl := Option.some.inj H
                go_wp2
                repeat (go_quiet (fail); try go_wp2)
                go_ret
                exact ⟨by first | rfl | (simp [errW_none, errW_some] <;> rfl) | (simp [*, errW_none, errW_some] <;> rfl), by repeat (first | (with_reducible first | exact HB.out | apply below_alloc | apply pw_below_drewN | apply below_drew1 | refine below_set ?_ GE53001.out) | exact HB.out)⟩
  · replace c3 := Bool.eq_false_iff.mpr c3
    subst c3
    have H1 : (some 0) = some r := by rw [if_neg (show ¬ (false = true) by decide)] at H; exact H
    clear H
    have H := H1
    clear H1
    obtain rfl := Option.some.inj H
    go_enter Try.func53, Try.ntmps53
    go_wp2_with (first | ((with_reducible refine gate_dst (N := 1) rfl ?_); refine box_event ?hg (N := 1) ?hd (cs := #[.slice A0_0 l0_0.length c0_0, .slice A0_1 l0_1.length c0_1, .int .i64 a0_2]) (t := 66) ?hr ?_; (case hd => rfl); (case hg => rfl); (case hr => first | (go_simp; done) | (go_simp; rfl)); intro gb53001 hg w24 hbox hb; have n0_ := Aside0.mk (below_step (by repeat (first | (with_reducible first | exact HB.out | apply below_alloc | apply pw_below_drewN | apply below_drew1) | exact HB.out)) hb); have n1_ := Aside0.mk (hbox); have n2_ := Aside0.mk ((by rw [hg]; exact (below_size (by repeat (first | (with_reducible first | exact HB.out | apply below_alloc | apply pw_below_drewN | apply below_drew1) | exact HB.out))) : w.heap.size ≤ gb53001)); have n3_ := Aside0.mk ((by rw [hg]; exact (below_size (by repeat (first | (with_reducible first | exact HB.out | apply below_alloc | apply pw_below_drewN | apply below_drew1) | exact HB.out))) : w.heap.size ≤ gb53001)); clear HB; have HB := n0_; have BK53001 := n1_; have GW53001 := n2_; have GE53001 := n3_; clear n0_ n1_ n2_ n3_; clear hb hbox hg; have hcz25_0 : w24.cell? ⟨gb53001, 0, none⟩ = some (.slice A0_0 l0_0.length c0_0) := (blk_cell BK53001.out 0).trans rfl; have hcz25_1 : w24.cell? ⟨gb53001, 1, none⟩ = some (.slice A0_1 l0_1.length c0_1) := (blk_cell BK53001.out 1).trans rfl; have hcz25_2 : w24.cell? ⟨gb53001, 2, none⟩ = some (.int .i64 a0_2) := (blk_cell BK53001.out 2).trans rfl; have hfz25_0 := blk_frozen BK53001.out 0; have hfz25_1 := blk_frozen BK53001.out 1; have hfz25_2 := blk_frozen BK53001.out 2) | (go_at_call 44; (with_reducible refine (impl_ShowOk.calls _ _ l0_0 _ _ l0_1 a0_2 false _ ?side1 ?side2 ?side3 ?side4 A2.out).mono ?_); (case side1 => repeat (first | exact (Kd.C_below HR0_0.out HB.out) | (with_reducible refine Kd.C_alloc ?_ _) | (with_reducible refine Kd.C_drewN ?_ _) | (with_reducible refine Kd.C_drew ?_))); (case side2 => exact HC0_0.out); (case side3 => repeat (first | exact (Kd.C_below HR0_1.out HB.out) | (with_reducible refine Kd.C_alloc ?_ _) | (with_reducible refine Kd.C_drewN ?_ _) | (with_reducible refine Kd.C_drew ?_))); (case side4 => exact HC0_1.out); rintro e w26 ⟨rfl, hb⟩; have n0_ := Aside0.mk (blk_below (g := gb53001) (o := .cells #[.slice A0_0 l0_0.length c0_0, .slice A0_1 l0_1.length c0_1, .int .i64 a0_2] 66 (0, 0)) (by (with_reducible repeat (first | refine blk_drewN ?_ _ | refine blk_drew ?_ | refine blk_alloc ?_ _)); exact BK53001.out) hb); have n1_ := Aside0.mk (below_step (by repeat (first | (with_reducible first | exact HB.out | apply below_alloc | apply pw_below_drewN | apply below_drew1 | refine below_set ?_ GE53001.out) | exact HB.out)) hb); clear BK53001; clear HB; have BK53001 := n0_; have HB := n1_; clear n0_ n1_; (try clear hb); (try clear hb2); (try clear hk); (try clear hi)))
    repeat (go_quiet (first | ((with_reducible refine gate_dst (N := 1) rfl ?_); refine box_event ?hg (N := 1) ?hd (cs := #[.slice A0_0 l0_0.length c0_0, .slice A0_1 l0_1.length c0_1, .int .i64 a0_2]) (t := 66) ?hr ?_; (case hd => rfl); (case hg => rfl); (case hr => first | (go_simp; done) | (go_simp; rfl)); intro gb53001 hg w24 hbox hb; have n0_ := Aside0.mk (below_step (by repeat (first | (with_reducible first | exact HB.out | apply below_alloc | apply pw_below_drewN | apply below_drew1) | exact HB.out)) hb); have n1_ := Aside0.mk (hbox); have n2_ := Aside0.mk ((by rw [hg]; exact (below_size (by repeat (first | (with_reducible first | exact HB.out | apply below_alloc | apply pw_below_drewN | apply below_drew1) | exact HB.out))) : w.heap.size ≤ gb53001)); have n3_ := Aside0.mk ((by rw [hg]; exact (below_size (by repeat (first | (with_reducible first | exact HB.out | apply below_alloc | apply pw_below_drewN | apply below_drew1) | exact HB.out))) : w.heap.size ≤ gb53001)); clear HB; have HB := n0_; have BK53001 := n1_; have GW53001 := n2_; have GE53001 := n3_; clear n0_ n1_ n2_ n3_; clear hb hbox hg; have hcz25_0 : w24.cell? ⟨gb53001, 0, none⟩ = some (.slice A0_0 l0_0.length c0_0) := (blk_cell BK53001.out 0).trans rfl; have hcz25_1 : w24.cell? ⟨gb53001, 1, none⟩ = some (.slice A0_1 l0_1.length c0_1) := (blk_cell BK53001.out 1).trans rfl; have hcz25_2 : w24.cell? ⟨gb53001, 2, none⟩ = some (.int .i64 a0_2) := (blk_cell BK53001.out 2).trans rfl; have hfz25_0 := blk_frozen BK53001.out 0; have hfz25_1 := blk_frozen BK53001.out 1; have hfz25_2 := blk_frozen BK53001.out 2) | (go_at_call 44; (with_reducible refine (impl_ShowOk.calls _ _ l0_0 _ _ l0_1 a0_2 false _ ?side1 ?side2 ?side3 ?side4 A2.out).mono ?_); (case side1 => repeat (first | exact (Kd.C_below HR0_0.out HB.out) | (with_reducible refine Kd.C_alloc ?_ _) | (with_reducible refine Kd.C_drewN ?_ _) | (with_reducible refine Kd.C_drew ?_))); (case side2 => exact HC0_0.out); (case side3 => repeat (first | exact (Kd.C_below HR0_1.out HB.out) | (with_reducible refine Kd.C_alloc ?_ _) | (with_reducible refine Kd.C_drewN ?_ _) | (with_reducible refine Kd.C_drew ?_))); (case side4 => exact HC0_1.out); rintro e w26 ⟨rfl, hb⟩; have n0_ := Aside0.mk (blk_below (g := gb53001) (o := .cells #[.slice A0_0 l0_0.length c0_0, .slice A0_1 l0_1.length c0_1, .int .i64 a0_2] 66 (0, 0)) (by (with_reducible repeat (first | refine blk_drewN ?_ _ | refine blk_drew ?_ | refine blk_alloc ?_ _)); exact BK53001.out) hb); have n1_ := Aside0.mk (below_step (by repeat (first | (with_reducible first | exact HB.out | apply below_alloc | apply pw_below_drewN | apply below_drew1 | refine below_set ?_ GE53001.out) | exact HB.out)) hb); clear BK53001; clear HB; have BK53001 := n0_; have HB := n1_; clear n0_ n1_; (try clear hb); (try clear hb2); (try clear hk); (try clear hi))); try go_wp2_with (first | ((with_reducible refine gate_dst (N := 1) rfl ?_); refine box_event ?hg (N := 1) ?hd (cs := #[.slice A0_0 l0_0.length c0_0, .slice A0_1 l0_1.length c0_1, .int .i64 a0_2]) (t := 66) ?hr ?_; (case hd => rfl); (case hg => rfl); (case hr => first | (go_simp; done) | (go_simp; rfl)); intro gb53001 hg w24 hbox hb; have n0_ := Aside0.mk (below_step (by repeat (first | (with_reducible first | exact HB.out | apply below_alloc | apply pw_below_drewN | apply below_drew1) | exact HB.out)) hb); have n1_ := Aside0.mk (hbox); have n2_ := Aside0.mk ((by rw [hg]; exact (below_size (by repeat (first | (with_reducible first | exact HB.out | apply below_alloc | apply pw_below_drewN | apply below_drew1) | exact HB.out))) : w.heap.size ≤ gb53001)); have n3_ := Aside0.mk ((by rw [hg]; exact (below_size (by repeat (first | (with_reducible first | exact HB.out | apply below_alloc | apply pw_below_drewN | apply below_drew1) | exact HB.out))) : w.heap.size ≤ gb53001)); clear HB; have HB := n0_; have BK53001 := n1_; have GW53001 := n2_; have GE53001 := n3_; clear n0_ n1_ n2_ n3_; clear hb hbox hg; have hcz25_0 : w24.cell? ⟨gb53001, 0, none⟩ = some (.slice A0_0 l0_0.length c0_0) := (blk_cell BK53001.out 0).trans rfl; have hcz25_1 : w24.cell? ⟨gb53001, 1, none⟩ = some (.slice A0_1 l0_1.length c0_1) := (blk_cell BK53001.out 1).trans rfl; have hcz25_2 : w24.cell? ⟨gb53001, 2, none⟩ = some (.int .i64 a0_2) := (blk_cell BK53001.out 2).trans rfl; have hfz25_0 := blk_frozen BK53001.out 0; have hfz25_1 := blk_frozen BK53001.out 1; have hfz25_2 := blk_frozen BK53001.out 2) | (go_at_call 44; (with_reducible refine (impl_ShowOk.calls _ _ l0_0 _ _ l0_1 a0_2 false _ ?side1 ?side2 ?side3 ?side4 A2.out).mono ?_); (case side1 => repeat (first | exact (Kd.C_below HR0_0.out HB.out) | (with_reducible refine Kd.C_alloc ?_ _) | (with_reducible refine Kd.C_drewN ?_ _) | (with_reducible refine Kd.C_drew ?_))); (case side2 => exact HC0_0.out); (case side3 => repeat (first | exact (Kd.C_below HR0_1.out HB.out) | (with_reducible refine Kd.C_alloc ?_ _) | (with_reducible refine Kd.C_drewN ?_ _) | (with_reducible refine Kd.C_drew ?_))); (case side4 => exact HC0_1.out); rintro e w26 ⟨rfl, hb⟩; have n0_ := Aside0.mk (blk_below (g := gb53001) (o := .cells #[.slice A0_0 l0_0.length c0_0, .slice A0_1 l0_1.length c0_1, .int .i64 a0_2] 66 (0, 0)) (by (with_reducible repeat (first | refine blk_drewN ?_ _ | refine blk_drew ?_ | refine blk_alloc ?_ _)); exact BK53001.out) hb); have n1_ := Aside0.mk (below_step (by repeat (first | (with_reducible first | exact HB.out | apply below_alloc | apply pw_below_drewN | apply below_drew1 | refine below_set ?_ GE53001.out) | exact HB.out)) hb); clear BK53001; clear HB; have BK53001 := n0_; have HB := n1_; clear n0_ n1_; (try clear hb); (try clear hb2); (try clear hk); (try clear hi))))
    go_ret
    exact ⟨by first | rfl | (simp [errW_none, errW_some] <;> rfl) | (simp [*, errW_none, errW_some] <;> rfl), by repeat (first | (with_reducible first | exact HB.out | apply below_alloc | apply pw_below_drewN | apply below_drew1 | refine below_set ?_ GE53001.out) | exact HB.out)⟩

end Go.Proofs.Ytpoffpdaadhkgaa.Pr

namespace Go.Proofs.Ytpoffpdaadhkgaa.Pr
open Go.RowKit Go.Proofs.YtpoffpdaadhkgaaW.PrintWords Go.Proofs.Ytpoffpdaadhkgaa.Ni
theorem toIntS_f (l : List Int) (hl : l.length ≤ 35184372088832) (k : Nat) (hk : 2 ^ 64 ≤ k) : laws_toIntS.f k l = some l := by
  have key := loop_up l.length (fun k i => laws_toIntS.l0 k l (l.take i ++ List.replicate (l.length - i) 0) (i : Int) = some l) 0
    (fun k _ => by simp [laws_toIntS.l0])
    (fun k i _ hi ih => by
      simp only [laws_toIntS.l0]
      rw [if_pos (by omega), if_pos (by omega), if_pos (by simp; omega), wrap_nat hi (by omega), Int.toNat_natCast, set_step l 0 0 i hi _ (rd_nat l i)]
      exact ih) 0 k (Nat.zero_le _) (by omega)
  unfold laws_toIntS.f
  rw [if_pos (by omega), if_pos (by omega), Int.toNat_natCast]
  simpa using key
theorem eqIntS_f (l m : List Int) (hl : l.length ≤ 9223372036854775807) (k : Nat) (hk : 2 ^ 64 ≤ k) : laws_eqIntS.f k l m = some (decide (l = m)) := by
  unfold laws_eqIntS.f
  by_cases e : l.length = m.length
  · rw [if_pos (by omega)]
    have key := loop_up l.length (fun k i => laws_eqIntS.l0 k l m (i : Int) = some (decide (l.drop i = m.drop i))) 0
      (fun k _ => by
        simp only [laws_eqIntS.l0]
        rw [if_neg (by omega), List.drop_of_length_le (Nat.le_refl _), List.drop_of_length_le (by omega)]
        simp)
      (fun k i _ hi ih => by
        simp only [laws_eqIntS.l0]
        rw [if_pos (by omega), if_pos (by omega), if_pos (by omega), rd_nat, rd_nat, wrap_nat hi (by omega), drop_cons hi 0, drop_cons (show i < m.length by omega) 0]
        by_cases h : l.getD i 0 = m.getD i 0
        · rw [if_pos h, ih, h]; simp
        · rw [if_neg h]
          simp only [List.cons.injEq, h, false_and, decide_false]) 0 k (Nat.zero_le _) (by omega)
    simpa using key
  · rw [if_neg (by omega)]
    have : l ≠ m := fun h => e (by rw [h])
    simp [this]
theorem eqIntS_refl (l : List Int) (hl : l.length ≤ 9223372036854775807) (k : Nat) (hk : 2 ^ 64 ≤ k) : laws_eqIntS.f k l l = some true := by
  rw [eqIntS_f l l hl k hk]; simp
end Go.Proofs.Ytpoffpdaadhkgaa.Pr

namespace Go.Proofs.Ytpoffpdaadhkgaa.Pr
open Go.RowKit Go.Proofs.YtpoffpdaadhkgaaW.PrintWords Go.Proofs.Ytpoffpdaadhkgaa.Ni
theorem szIntS_f (l : List Int) (hl : l.length ≤ 9223372036854775807) (a : Int) (h0 : 0 ≤ a) (h1 : a ≤ 1048576) : laws_szIntS.f l a = some (if a - l.length < 0 then -1 else a - l.length) := by
  unfold laws_szIntS.f
  rw [wrap_id (by omega) (by omega)]
  split <;> rfl
theorem szNode_f (s : ByteArray) (l : List Int) (n : Int) (hs : s.size ≤ 9223372036854775807) (hl : l.length ≤ 9223372036854775807) (a : Int) (h0 : 0 ≤ a) (h1 : a ≤ 1048576) :
    ∃ r, laws_szNode.f s l n a = some r ∧ (r < 0 ∨ (0 ≤ r ∧ r ≤ a ∧ s.size ≤ 1048576 ∧ l.length ≤ 1048576)) := by
  unfold laws_szNode.f
  rw [wrap_id (by omega) (by omega)]
  by_cases h : a - (s.size : Int) < 0
  · rw [if_pos h]; exact ⟨_, rfl, .inl (by omega)⟩
  · rw [if_neg h, szIntS_f l hl _ (by omega) (by omega), Option.bind_some]
    by_cases h2 : a - (s.size : Int) - l.length < 0
    · rw [if_pos h2, if_pos (by omega)]; exact ⟨_, rfl, .inl (by omega)⟩
    · rw [if_neg h2, if_neg h2]; exact ⟨_, rfl, .inr ⟨by omega, by omega, by omega, by omega⟩⟩
theorem toNode_f (s : ByteArray) (l : List Int) (n : Int) (hl : l.length ≤ 35184372088832) (k : Nat) (hk : 2 ^ 64 ≤ k) : laws_toNode.f k s l n = some (s, l, n) := by
  unfold laws_toNode.f
  rw [toIntS_f l hl k hk]; rfl
theorem eqNode_refl (s : ByteArray) (l : List Int) (n : Int) (hl : l.length ≤ 9223372036854775807) (k : Nat) (hk : 2 ^ 64 ≤ k) : laws_eqNode.f k s l n s l n = some true := by
  unfold laws_eqNode.f
  rw [if_pos rfl, eqIntS_refl l hl k hk, Option.bind_some, if_pos rfl, if_pos rfl]
end Go.Proofs.Ytpoffpdaadhkgaa.Pr

namespace Go.Proofs.Ytpoffpdaadhkgaa.Pr
open Go.RowKit Go.Proofs.YtpoffpdaadhkgaaW.PrintWords Go.Proofs.Ytpoffpdaadhkgaa.Ni
theorem szNodeS_l (l : List LNode) (hl : l.length ≤ 9223372036854775807) (hb : ∀ n ∈ l, n.f0.size ≤ 9223372036854775807 ∧ n.f1.length ≤ 9223372036854775807) (k : Nat) (hk : 2 ^ 64 ≤ k) :
    ∀ a : Int, 0 ≤ a → a ≤ 1048576 → ∃ r, laws_szNodeS.l0 k l a 0 = some r ∧ (r < 0 ∨ (0 ≤ r ∧ r ≤ a ∧ ∀ n ∈ l, n.f0.size ≤ 1048576 ∧ n.f1.length ≤ 1048576)) := by
  have key := loop_up l.length (fun k i => ∀ a : Int, 0 ≤ a → a ≤ 1048576 → ∃ r, laws_szNodeS.l0 k l a (i : Int) = some r ∧ (r < 0 ∨ (0 ≤ r ∧ r ≤ a ∧ ∀ n ∈ l.drop i, n.f0.size ≤ 1048576 ∧ n.f1.length ≤ 1048576))) 0
    (fun k _ a h0 h1 => ⟨a, by simp [laws_szNodeS.l0], .inr ⟨h0, Int.le_refl _, by simp⟩⟩)
    (fun k i _ hi ih a h0 h1 => by
      simp only [laws_szNodeS.l0]
      rw [if_pos (by omega), if_pos (by omega), rdLN_nat, wrap_nat hi (by omega)]
      have hm := hb _ (getD_mem hi z159)
      obtain ⟨r, hr, h⟩ := szNode_f (l.getD i z159).f0 (l.getD i z159).f1 (l.getD i z159).f2 hm.1 hm.2 a h0 h1
      rw [hr, Option.bind_some]
      rcases h with h | ⟨h2, h3, h4, h5⟩
      · rw [if_pos h]; exact ⟨_, rfl, .inl (by omega)⟩
      · rw [if_neg (by omega)]
        obtain ⟨q, hq, h⟩ := ih r h2 (by omega)
        refine ⟨q, hq, ?_⟩
        rcases h with h | ⟨h6, h7, h8⟩
        · exact .inl h
        · refine .inr ⟨h6, by omega, ?_⟩
          rw [drop_cons hi z159]
          intro n hn
          rcases List.mem_cons.1 hn with rfl | hn
          · exact ⟨h4, h5⟩
          · exact h8 n hn) 0 k (Nat.zero_le _) (by omega)
  intro a h0 h1
  simpa using key a h0 h1
theorem szShow_f (ns : List LNode) (ts : List LTie) (z : Int) (hn : ns.length ≤ 9223372036854775807) (hb : ∀ n ∈ ns, n.f0.size ≤ 9223372036854775807 ∧ n.f1.length ≤ 9223372036854775807) (ht : ts.length ≤ 9223372036854775807) (k : Nat) (hk : 2 ^ 64 ≤ k) (a : Int) (h0 : 0 ≤ a) (h1 : a ≤ 1048576) :
    ∃ r, laws_szShow.f k ns ts z a = some r ∧ (r < 0 ∨ (0 ≤ r ∧ r ≤ a ∧ SmallShow ns ts)) := by
  unfold laws_szShow.f laws_szNodeS.f
  rw [wrap_id (by omega) (by omega)]
  by_cases h : a - (ns.length : Int) < 0
  · rw [if_pos h, Option.bind_some, if_pos (by omega)]; exact ⟨_, rfl, .inl (by omega)⟩
  · rw [if_neg h]
    obtain ⟨r, hr, h⟩ := szNodeS_l ns hn hb k hk (a - ns.length) (by omega) (by omega)
    rw [hr, Option.bind_some]
    rcases h with h | ⟨h2, h3, h4⟩
    · rw [if_pos h]; exact ⟨_, rfl, .inl (by omega)⟩
    · rw [if_neg (by omega)]
      unfold laws_szTieS.f
      rw [wrap_id (by omega) (by omega)]
      by_cases h5 : r - (ts.length : Int) < 0
      · rw [if_pos h5, Option.bind_some, if_pos (by omega)]; exact ⟨_, rfl, .inl (by omega)⟩
      · rw [if_neg h5, Option.bind_some, if_neg h5]; exact ⟨_, rfl, .inr ⟨by omega, by omega, by omega, by omega, h4⟩⟩
theorem toNodeS_f (l : List LNode) (hl : l.length ≤ 1048576) (hb : ∀ n ∈ l, n.f0.size ≤ 1048576 ∧ n.f1.length ≤ 1048576) (k : Nat) (hk : 2 ^ 65 ≤ k) : laws_toNodeS.f k l = some (l.map cvN) := by
  have key := loop_up l.length (fun k i => laws_toNodeS.l0 k l ((l.map cvN).take i ++ List.replicate ((l.map cvN).length - i) z120) (i : Int) = some (l.map cvN)) (2 ^ 64)
    (fun k _ => by simp [laws_toNodeS.l0]; rw [List.take_of_length_le (by simp)])
    (fun k i hk hi ih => by
      simp only [laws_toNodeS.l0]
      have hm := hb _ (getD_mem hi z159)
      rw [if_pos (by omega), if_pos (by omega), rdLN_nat, toNode_f _ _ _ (by omega) k hk, Option.bind_some, if_pos (by simp; omega), wrap_nat hi (by omega), Int.toNat_natCast, set_step (l.map cvN) _ z120 i (by simpa using hi) _ (by rw [getD_map cvN l i z159 z120 zN]; rfl)]
      exact ih) 0 k (Nat.zero_le _) (by omega)
  unfold laws_toNodeS.f
  rw [if_pos (by omega), if_pos (by omega), Int.toNat_natCast]
  simpa using key
theorem toTieS_f (l : List LTie) (hl : l.length ≤ 1048576) (k : Nat) (hk : 2 ^ 64 ≤ k) : laws_toTieS.f k l = some (l.map cvT) := by
  have key := loop_up l.length (fun k i => laws_toTieS.l0 k l ((l.map cvT).take i ++ List.replicate ((l.map cvT).length - i) z126) (i : Int) = some (l.map cvT)) 0
    (fun k _ => by simp [laws_toTieS.l0]; rw [List.take_of_length_le (by simp)])
    (fun k i hk hi ih => by
      simp only [laws_toTieS.l0, laws_toTie.f]
      rw [if_pos (by omega), if_pos (by omega), rdLT_nat, Option.bind_some, if_pos (by simp; omega), wrap_nat hi (by omega), Int.toNat_natCast, set_step (l.map cvT) _ z126 i (by simpa using hi) _ (by rw [getD_map cvT l i z165 z126 zT]; rfl)]
      exact ih) 0 k (Nat.zero_le _) (by omega)
  unfold laws_toTieS.f
  rw [if_pos (by omega), if_pos (by omega), Int.toNat_natCast]
  simpa using key
theorem toShow_f (ns : List LNode) (ts : List LTie) (z : Int) (h : SmallShow ns ts) (k : Nat) (hk : 2 ^ 65 ≤ k) : laws_toShow.f k ns ts z = some (ns.map cvN, ts.map cvT, z) := by
  unfold laws_toShow.f
  rw [toNodeS_f ns h.1 h.2.2 k hk, Option.bind_some, toTieS_f ts h.2.1 k (by omega)]; rfl
theorem eqNodeS_refl (l : List PNode) (hl : l.length ≤ 1048576) (hb : ∀ n ∈ l, n.f0.size ≤ 1048576 ∧ n.f1.length ≤ 1048576) (k : Nat) (hk : 2 ^ 65 ≤ k) : laws_eqNodeS.f k l l = some true := by
  have key := loop_up l.length (fun k i => laws_eqNodeS.l0 k l l (i : Int) = some true) (2 ^ 64)
    (fun k _ => by simp [laws_eqNodeS.l0])
    (fun k i hk hi ih => by
      simp only [laws_eqNodeS.l0]
      have hm := hb _ (getD_mem hi z120)
      rw [if_pos (by omega), if_pos (by omega), if_pos (by omega), rdN_nat, eqNode_refl _ _ _ (by omega) k hk, Option.bind_some, if_pos rfl, wrap_nat hi (by omega)]
      exact ih) 0 k (Nat.zero_le _) (by omega)
  unfold laws_eqNodeS.f
  rw [if_pos rfl]
  simpa using key
theorem eqTieS_refl (l : List PTie) (hl : l.length ≤ 1048576) (k : Nat) (hk : 2 ^ 64 ≤ k) : laws_eqTieS.f k l l = some true := by
  have key := loop_up l.length (fun k i => laws_eqTieS.l0 k l l (i : Int) = some true) 0
    (fun k _ => by simp [laws_eqTieS.l0])
    (fun k i hk hi ih => by
      simp only [laws_eqTieS.l0, laws_eqTie.f]
      rw [if_pos (by omega), if_pos (by omega), if_pos (by omega), wrap_nat hi (by omega), ih]
      simp) 0 k (Nat.zero_le _) (by omega)
  unfold laws_eqTieS.f
  rw [if_pos rfl]
  simpa using key
theorem eqShow_refl (ns : List PNode) (ts : List PTie) (z : Int) (h : SmallP ns ts) (k : Nat) (hk : 2 ^ 65 ≤ k) : laws_eqShow.f k ns ts z ns ts z = some true := by
  unfold laws_eqShow.f
  rw [eqNodeS_refl ns h.1 h.2.2 k hk, Option.bind_some, if_pos rfl, eqTieS_refl ts h.2.1 k (by omega), Option.bind_some, if_pos rfl, if_pos rfl]
end Go.Proofs.Ytpoffpdaadhkgaa.Pr

namespace Go.Proofs.Ytpoffpdaadhkgaa.Pr
open Go.RowKit Go.Proofs.YtpoffpdaadhkgaaW.PrintWords Go.Proofs.Ytpoffpdaadhkgaa.Ni
theorem idx_at {α : Type} (p : α → Bool) (l : List α) (i : Nat) (x : α) (h : l[i]? = some x) (hx : p x = true) : decide (idxOf p l = (i : Int)) = (l.take i).all (fun y => !p y) := by
  have hi : i < l.length := by
    rcases Nat.lt_or_ge i l.length with h' | h'
    · exact h'
    · rw [List.getElem?_eq_none h'] at h; exact absurd h (by simp)
  by_cases ha : (l.take i).all (fun y => !p y) = true
  · rw [ha, decide_eq_true_eq]
    refine idxOf_hit p l i x h hx fun j y hj hy => ?_
    have := List.all_eq_true.1 ha y (List.mem_of_getElem? (i := j) (by rw [List.getElem?_take_of_lt hj]; exact hy))
    simpa using this
  · rw [Bool.eq_false_iff.2 ha, decide_eq_false_iff_not]
    intro e
    apply ha
    rw [List.all_eq_true]
    intro y hy
    obtain ⟨j, hj, rfl⟩ := List.mem_iff_getElem.1 hy
    have hj' : j < i := by rw [List.length_take] at hj; omega
    unfold idxOf at e
    cases hf : l.findIdx? p with
    | none => rw [hf] at e; simp only at e; omega
    | some m =>
      rw [hf] at e
      have : m = i := by simp only at e; omega
      subst this
      obtain ⟨_, _, h3⟩ := List.findIdx?_eq_some_iff_getElem.1 hf
      have := h3 j hj'
      rw [List.getElem_take]
      simpa using this
theorem all_pair {α : Type} (a b : α → Bool) (c : Bool) (l : List α) : l.all (fun m => a m && (c || b m)) = (l.all a && (c || l.all b)) := by
  induction l with
  | nil => simp
  | cons x l ih => rw [List.all_cons, List.all_cons, List.all_cons, ih]; cases a x <;> cases b x <;> cases c <;> simp
theorem bne_dec (a b : Int) : (!(a != b)) = decide (a = b) := by rw [Bool.eq_iff_iff]; simp
theorem snodeC_at {ns : List PNode} {i : Nat} (h : i < ns.length) : snodeC ns (rd_T120 ns (i : Int)) i = nodeAt ns i := by
  rw [rdN_nat]
  unfold snodeC nodeAt
  have hs := getD_some h z120
  generalize ns.getD i z120 = y at hs
  rw [bne_dec, bne_dec, bne_dec, namedI, watchI, idx_at _ ns i y hs (decide_eq_true rfl), idx_at _ ns i y hs (decide_eq_true rfl), Bool.and_assoc, ← all_pair]
  rfl
theorem snodes_from {ns : List PNode} : ∀ (d i : Nat), i + d = ns.length → snodesFrom ns i d = nodesFrom ns i d
  | 0, _, _ => rfl
  | d + 1, i, h => by rw [snodesFrom, nodesFrom, snodeC_at (by omega), snodes_from d (i + 1) (by omega)]
theorem watch_same (ns : List PNode) {p : Int} (hp : 0 < p) : pwatchI ns p = watchI ns p := by
  unfold pwatchI watchI
  rw [decide_eq_true hp]
  simp only [Bool.true_and]
theorem watched_same (ns : List PNode) (lb : List Int) {x : Int} (hx : litOk x = true) : watchedB ns lb x = swatchB ns lb x := by
  unfold watchedB watchedC swatchB swatchC hasB
  rw [watch_same ns (by have := prp_pos hx; omega)]
  congr 3
  rw [Bool.eq_iff_iff]; simp
theorem nodeW_same {ns : List PNode} {n : PNode} (h : ∀ x ∈ n.f1, litOk x = true) : nodeW ns n = snodeW ns n := by
  unfold nodeW snodeW
  rw [Bool.eq_iff_iff, Bool.not_eq_true', List.any_eq_false, List.all_eq_true]
  constructor
  · intro hh x hx
    have := hh x hx
    rw [← watched_same ns _ (h x hx)]; simpa using this
  · intro hh x hx
    have := hh x hx
    rw [← watched_same ns _ (h x hx)] at this; simpa using this
theorem nodes_same (ns : List PNode) : snodesB ns = (areNodesB ns && ns.all (nodeW ns)) := by
  have e : snodesB ns = (areNodesB ns && ns.all (snodeW ns)) := by
    unfold snodesB areNodesB inB
    rw [snodes_from ns.length 0 (by omega), bne_dec, show rd_T120 ns 0 = ns.getD 0 z120 from rdN_nat ns 0]
    rw [show (decide ((1 : Int) ≤ (ns.length : Int)) && decide ((ns.length : Int) ≤ 7)) = (decide (1 ≤ ns.length) && decide (ns.length ≤ 7)) by rw [Bool.eq_iff_iff]; simp only [Bool.and_eq_true, decide_eq_true_eq]; omega]
    rw [show (!(decide (((ns.getD 0 z120).f1.length : Int) > 0))) = decide ((ns.getD 0 z120).f1.length = 0) by rw [Bool.eq_iff_iff]; simp only [Bool.not_eq_true', decide_eq_true_eq, decide_eq_false_iff_not]; omega]
  rw [e]
  cases h : areNodesB ns with
  | false => rfl
  | true =>
    rw [Bool.true_and, Bool.true_and, Bool.eq_iff_iff, List.all_eq_true, List.all_eq_true]
    constructor
    · intro hh n hn; rw [nodeW_same (areNodesB_lit h n hn)]; exact hh n hn
    · intro hh n hn; rw [← nodeW_same (areNodesB_lit h n hn)]; exact hh n hn
def stiesFrom (ns : List PNode) (ts : List PTie) (i : Nat) : Nat → Bool
  | 0 => true
  | d + 1 => tieB ns ts i && stiesFrom ns ts (i + 1) d
theorem in_same (n : Nat) (x : Int) : inB x 0 ((n : Int) - 1) = nodeIn n x := by
  unfold inB nodeIn
  rw [Bool.eq_iff_iff]; simp; omega
theorem tie_same {ns : List PNode} {ts : List PTie} {i : Nat} (h : i < ts.length) : tieB ns ts i = ptieB ns ts i := by
  unfold tieB ptieB
  have hs := getD_some h z126
  rw [rdT_nat]
  generalize ts.getD i z126 = t at hs
  obtain ⟨tf, tt, tl, th, tb⟩ := t
  show tieC tf tt tl th tb ns ts i = ptieC tf tt tl th tb ns ts i
  unfold tieC ptieC spanB
  rw [in_same, in_same]
  cases tb with
  | false =>
    rw [Bool.eq_iff_iff]
    simp only [Bool.not_false, Bool.true_or, Bool.and_true, Bool.and_eq_true, Bool.not_eq_true', beq_eq_false_iff_ne, decide_eq_true_eq, decide_eq_false_iff_not]
    constructor
    · rintro ⟨⟨⟨⟨⟨a1, a2⟩, a3⟩, a4⟩, a5⟩, a6⟩
      exact ⟨⟨⟨⟨⟨a1, a2⟩, a3⟩, by omega, by omega⟩, by omega, by omega⟩, a6⟩
    · rintro ⟨⟨⟨⟨⟨a1, a2⟩, a3⟩, a4, a5⟩, a6, a7⟩, a8⟩
      exact ⟨⟨⟨⟨⟨a1, a2⟩, a3⟩, by omega⟩, by omega⟩, a8⟩
  | true =>
    have hf : (freeI ts tt == (i : Int)) = !((ts.take i).any fun u => u.f4 && decide (u.f1 = tt)) := by
      rw [show (freeI ts tt == (i : Int)) = decide (freeI ts tt = (i : Int)) by rw [Bool.eq_iff_iff]; simp, freeI, idx_at _ ts i _ hs (by simp), Bool.eq_iff_iff]
      simp
      exact forall_congr' fun x => forall_congr' fun _ => by cases x.f4 <;> simp
    rw [hf]
    rw [Bool.eq_iff_iff]
    simp only [Bool.not_true, Bool.false_or, Bool.and_eq_true, Bool.not_eq_true', beq_eq_false_iff_ne, decide_eq_true_eq, decide_eq_false_iff_not, beq_iff_eq, bne_eq_false_iff_eq]
    constructor
    · rintro ⟨⟨⟨⟨⟨⟨a1, a2⟩, a3⟩, a4⟩, a5⟩, a6⟩, ⟨⟨⟨⟨b1, b2⟩, b3⟩, b4⟩, b5⟩⟩
      exact ⟨⟨⟨⟨⟨⟨a1, a2⟩, a3⟩, by omega, by omega⟩, by omega, by omega⟩, a6⟩, ⟨⟨⟨⟨by omega, b2⟩, b3⟩, b4.symm⟩, b5⟩⟩
    · rintro ⟨⟨⟨⟨⟨⟨a1, a2⟩, a3⟩, a4, a5⟩, a6, a7⟩, a8⟩, ⟨⟨⟨⟨b1, b2⟩, b3⟩, b4⟩, b5⟩⟩
      exact ⟨⟨⟨⟨⟨⟨a1, a2⟩, a3⟩, by omega⟩, by omega⟩, a8⟩, ⟨⟨⟨⟨by omega, b2⟩, b3⟩, b4.symm⟩, b5⟩⟩
theorem ties_from {ns : List PNode} {ts : List PTie} : ∀ (d i : Nat), i + d = ts.length → stiesFrom ns ts i d = tiesFrom ns ts i d
  | 0, _, _ => rfl
  | d + 1, i, h => by rw [stiesFrom, tiesFrom, tie_same (by omega), ties_from d (i + 1) (by omega)]
theorem spec_ShowOk_l (ns : List PNode) (ts : List PTie) (z : Int) (ht : ts.length ≤ 14) : ∀ (d i k : Nat), i + d = ts.length → d < k → spec_ShowOk.l0 k ts.length (i : Int) ns ts z = some (stiesFrom ns ts i d) := by
  intro d
  induction d with
  | zero =>
    intro i k hi hk
    obtain ⟨m, rfl⟩ : ∃ m, k = m + 1 := ⟨k - 1, by omega⟩
    simp only [spec_ShowOk.l0]
    rw [if_neg (by omega)]; rfl
  | succ d ih =>
    intro i k hi hk
    obtain ⟨m, rfl⟩ : ∃ m, k = m + 1 := ⟨k - 1, by omega⟩
    simp only [spec_ShowOk.l0]
    rw [if_pos (by omega), spec_l08Tie.f, if_pos (by omega), Option.bind_some, stiesFrom, wrap_nat (n := ts.length) (by omega) (by omega), ih (i + 1) m (by omega) (by omega)]
    cases tieB ns ts i <;> rfl
theorem spec_ShowOk_f (ns : List PNode) (ts : List PTie) (z : Int) (hf : fitN ns = true) (k : Nat) (hk : 2 ^ 64 ≤ k) : spec_ShowOk.f k ns ts z = some (pshowB ns ts z) := by
  obtain ⟨m, rfl⟩ : ∃ m, k = m + 1 := ⟨k - 1, by omega⟩
  unfold spec_ShowOk.f spec_l08Nodes.f pshowB areTiesB
  rw [if_pos hf, Option.bind_some, nodes_same]
  simp only [spec_ShowOk.j0, l01In_f, Option.bind_some, if_true]
  cases h1 : areNodesB ns with
  | false => rfl
  | true =>
    cases h2 : ns.all (nodeW ns) with
    | false => simp
    | true =>
      rw [Bool.and_true, if_pos rfl]
      by_cases h3 : (ts.length : Int) > 14
      · rw [if_pos h3, decide_eq_false (show ¬ ts.length ≤ 14 by omega)]; simp
      · rw [if_neg h3, decide_eq_true (show ts.length ≤ 14 by omega)]
        have hl := spec_ShowOk_l ns ts z (by omega) ts.length 0 m (by omega) (by omega)
        rw [show ((0 : Nat) : Int) = 0 from rfl] at hl
        rw [hl, ties_from _ _ (by omega)]
        by_cases h4 : z < 1
        · rw [show inB z 1 10 = false by unfold inB; rw [decide_eq_false (show ¬ (1 : Int) ≤ z by omega)]; rfl, decide_eq_true h4]; simp
        · by_cases h5 : 10 < z
          · rw [show inB z 1 10 = false by unfold inB; rw [decide_eq_false (show ¬ z ≤ (10 : Int) by omega)]; simp, decide_eq_true h5]; simp
          · rw [show inB z 1 10 = true by unfold inB; rw [decide_eq_true (show (1 : Int) ≤ z by omega), decide_eq_true (show z ≤ (10 : Int) by omega)]; rfl, decide_eq_false h4, decide_eq_false h5]; simp
theorem fitN_of {ns : List PNode} {ts : List PTie} (h : SmallP ns ts) : fitN ns = true := by
  unfold fitN
  rw [List.all_eq_true]
  intro n hn
  have := h.2.2 n hn
  simp; omega
theorem impl_ShowOk_f {ns : List PNode} {ts : List PTie} {z : Int} (hf : fitN ns = true) : impl_ShowOk.f ns ts z = some (pshowB ns ts z) := by
  unfold impl_ShowOk.f
  rw [if_pos hf]
end Go.Proofs.Ytpoffpdaadhkgaa.Pr

namespace Go.Proofs.Ytpoffpdaadhkgaa.Pr
open Go.RowKit Go.Proofs.YtpoffpdaadhkgaaW.PrintWords Go.Proofs.Ytpoffpdaadhkgaa.Ni
theorem pshowB_nodes {ns : List PNode} {ts : List PTie} {z : Int} (h : pshowB ns ts z = true) : areNodesB ns = true := by
  unfold pshowB at h
  simp only [Bool.and_eq_true] at h
  exact h.1.1.1.1
theorem pshowB_ties {ns : List PNode} {ts : List PTie} {z : Int} (h : pshowB ns ts z = true) : areTiesB ns ts = true := by
  unfold pshowB at h
  simp only [Bool.and_eq_true] at h
  exact h.1.1.1.2
theorem nodes_watch {ns : List PNode} (h : areNodesB ns = true) : ∀ n ∈ ns, 0 ≤ n.f2 ∧ n.f2 ≤ 3 := by
  intro n hn
  obtain ⟨j, hj, rfl⟩ := List.mem_iff_getElem.1 hn
  have := areNodesB_at h j hj
  unfold nodeAt nodeB at this
  rw [show ns.getD j z120 = ns[j] by rw [List.getD_eq_getElem?_getD, List.getElem?_eq_getElem hj]; rfl] at this
  simp only [Bool.and_eq_true, decide_eq_true_eq] at this
  exact this.1.2
theorem pwatch_out {ns : List PNode} (h : areNodesB ns = true) {p : Int} (hp : ¬ (1 ≤ p ∧ p ≤ 3)) : pwatchI ns p = -1 := by
  unfold pwatchI
  refine idxOf_miss _ _ fun j y _ hy => ?_
  have := nodes_watch h y (List.mem_of_getElem? hy)
  rw [Bool.eq_false_iff]
  intro hh
  simp only [Bool.and_eq_true, decide_eq_true_eq] at hh
  omega
end Go.Proofs.Ytpoffpdaadhkgaa.Pr

namespace Go.Proofs.Ytpoffpdaadhkgaa.Pr
open Go.RowKit Go.Proofs.YtpoffpdaadhkgaaW.PrintWords Go.Proofs.Ytpoffpdaadhkgaa.Ni
def freeTo (ts : List PTie) (n : Nat) : List Int := ((List.range n).filter fun i => (ts.getD i z126).f4).map fun i : Nat => (i : Int)
def freeIx (ts : List PTie) : List Int := freeTo ts ts.length
theorem freeTo_succ (ts : List PTie) (n : Nat) : freeTo ts (n + 1) = if (ts.getD n z126).f4 = true then freeTo ts n ++ [(n : Int)] else freeTo ts n := by
  unfold freeTo
  rw [List.range_succ, List.filter_append, List.map_append]
  by_cases h : (ts.getD n z126).f4 = true
  · rw [if_pos h, List.filter_cons_of_pos (by simpa using h)]; rfl
  · rw [if_neg h, List.filter_cons_of_neg (by simpa using h)]; simp
theorem freeTo_len (ts : List PTie) (n : Nat) : (freeTo ts n).length ≤ n := by
  unfold freeTo
  rw [List.length_map]
  exact Nat.le_trans (List.length_filter_le _ _) (by simp)
theorem freeIx_len (ts : List PTie) : (freeIx ts).length ≤ ts.length := freeTo_len ts ts.length
theorem freeIx_in {ts : List PTie} {x : Int} (h : x ∈ freeIx ts) : 0 ≤ x ∧ x < ts.length := by
  unfold freeIx freeTo at h
  obtain ⟨i, hi, rfl⟩ := List.mem_map.1 h
  have := List.mem_range.1 (List.mem_filter.1 hi).1
  omega
theorem freeTies_f (ns : List PNode) (ts : List PTie) (z : Int) (hl : ts.length ≤ 1048576) (k : Nat) (hk : 2 ^ 64 ≤ k) : impl_freeTies.f k ns ts z = some (freeIx ts) := by
  have key := loop_up ts.length (fun k i => impl_freeTies.l0 k (freeTo ts i) ts ts.length (i : Int) = some (freeIx ts)) 0
    (fun k _ => by
      simp only [impl_freeTies.l0]
      rw [if_neg (by omega)]; rfl)
    (fun k i _ hi ih => by
      simp only [impl_freeTies.l0]
      have := freeTo_len ts i
      rw [freeTo_succ] at ih
      rw [if_pos (by omega), if_pos (by omega), if_pos (by omega), rdT_nat, wrap_nat hi (by omega)]
      by_cases h : (ts.getD i z126).f4 = true
      · rw [if_pos h, if_pos (by omega)]; rw [if_pos h] at ih; exact ih
      · rw [if_neg h]; rw [if_neg h] at ih; exact ih) 0 k (Nat.zero_le _) (by omega)
  unfold impl_freeTies.f
  exact key
theorem l10Free_f (ns : List PNode) (ts : List PTie) (z : Int) (hl : ts.length ≤ 1048576) (k : Nat) (hk : 2 ^ 64 ≤ k) : spec_l10Free.f k ns ts z = some (freeIx ts) := by
  have key := loop_up ts.length (fun k i => spec_l10Free.l0 k (freeTo ts i) ts ts.length (i : Int) = some (freeIx ts)) 0
    (fun k _ => by
      simp only [spec_l10Free.l0]
      rw [if_neg (by omega)]; rfl)
    (fun k i _ hi ih => by
      simp only [spec_l10Free.l0]
      have := freeTo_len ts i
      rw [freeTo_succ] at ih
      rw [if_pos (by omega), if_pos (by omega), if_pos (by omega), rdT_nat, wrap_nat hi (by omega)]
      by_cases h : (ts.getD i z126).f4 = true
      · rw [if_pos h, if_pos (by omega)]; rw [if_pos h] at ih; exact ih
      · rw [if_neg h]; rw [if_neg h] at ih; exact ih) 0 k (Nat.zero_le _) (by omega)
  unfold spec_l10Free.f
  exact key
end Go.Proofs.Ytpoffpdaadhkgaa.Pr

namespace Go.Proofs.Ytpoffpdaadhkgaa.Pr
open Go.RowKit Go.Proofs.YtpoffpdaadhkgaaW.PrintWords Go.Proofs.Ytpoffpdaadhkgaa.Ni
def ccW (ns : List PNode) (p x : Int) : Int := if pwatchI ns p ≥ 0 then wrap64 (x * 2) else x
def ccS (ts : List PTie) (x i : Int) : Int := wrap64 (x * wrap64 (wrap64 ((rd_T126 ts i).f3 - (rd_T126 ts i).f2) + 1))
def countB (ns : List PNode) (ts : List PTie) (z : Int) : Int := if pshowB ns ts z = true then ccW ns 3 (ccW ns 2 (ccW ns 1 ((freeIx ts).foldl (ccS ts) 1))) else 0
theorem impl_CC_step (ns : List PNode) (ts : List PTie) (z x p : Int) (k : Nat) : impl_CountChoices.l1 (k + 1) x p ns ts z = if p ≤ 3 then impl_CountChoices.l1 k (ccW ns p x) (wrap64 (p + 1)) ns ts z else some x := by
  simp only [impl_CountChoices.l1, impl_watcher.f, Option.bind_some]
  unfold ccW
  by_cases hp : p ≤ 3
  · rw [if_pos hp, if_pos hp]
    by_cases h : pwatchI ns p ≥ 0
    · rw [if_pos h, if_pos h]
    · rw [if_neg h, if_neg h]
  · rw [if_neg hp, if_neg hp]
theorem spec_CC_step (ns : List PNode) (ts : List PTie) (z x p : Int) (hl : ns.length ≤ 9223372036854775807) (h0 : 0 < p) (k : Nat) (hk : 2 ^ 64 ≤ k) : spec_CountChoices.l1 (k + 1) x p ns ts z = if p ≤ 3 then spec_CountChoices.l1 k (ccW ns p x) (wrap64 (p + 1)) ns ts z else some x := by
  simp only [spec_CountChoices.l1]
  rw [l08Watcher_f ns ts z p hl k hk, Option.bind_some, ← watch_same ns h0]
  unfold ccW
  rw [Int.mul_comm 2 x]
  by_cases hp : p ≤ 3
  · rw [if_pos hp, if_pos hp]
    by_cases h : pwatchI ns p ≥ 0
    · rw [if_pos h, if_pos h]
    · rw [if_neg h, if_neg h]
  · rw [if_neg hp, if_neg hp]
theorem impl_CC_l1 (ns : List PNode) (ts : List PTie) (z x : Int) (k : Nat) (hk : 4 ≤ k) : impl_CountChoices.l1 k x 1 ns ts z = some (ccW ns 3 (ccW ns 2 (ccW ns 1 x))) := by
  obtain ⟨m, rfl⟩ : ∃ m, k = m + 1 + 1 + 1 + 1 := ⟨k - 4, by omega⟩
  rw [impl_CC_step, if_pos (by omega), show wrap64 (1 + 1) = 2 from (wrap_id (by omega) (by omega)).trans (by omega), impl_CC_step, if_pos (by omega), show wrap64 (2 + 1) = 3 from (wrap_id (by omega) (by omega)).trans (by omega), impl_CC_step, if_pos (by omega), show wrap64 (3 + 1) = 4 from (wrap_id (by omega) (by omega)).trans (by omega), impl_CC_step, if_neg (by omega)]
theorem spec_CC_l1 (ns : List PNode) (ts : List PTie) (z x : Int) (hl : ns.length ≤ 9223372036854775807) (k : Nat) (hk : 2 ^ 64 + 4 ≤ k) : spec_CountChoices.l1 k x 1 ns ts z = some (ccW ns 3 (ccW ns 2 (ccW ns 1 x))) := by
  obtain ⟨m, rfl⟩ : ∃ m, k = m + 1 + 1 + 1 + 1 := ⟨k - 4, by omega⟩
  rw [spec_CC_step ns ts z _ _ hl (by omega) _ (by omega), if_pos (by omega), show wrap64 (1 + 1) = 2 from (wrap_id (by omega) (by omega)).trans (by omega), spec_CC_step ns ts z _ _ hl (by omega) _ (by omega), if_pos (by omega), show wrap64 (2 + 1) = 3 from (wrap_id (by omega) (by omega)).trans (by omega), spec_CC_step ns ts z _ _ hl (by omega) _ (by omega), if_pos (by omega), show wrap64 (3 + 1) = 4 from (wrap_id (by omega) (by omega)).trans (by omega), spec_CC_step ns ts z _ _ hl (by omega) _ (by omega), if_neg (by omega)]
theorem impl_CC_l0 (ns : List PNode) (ts : List PTie) (z : Int) (L : List Int) (hL : ∀ x ∈ L, 0 ≤ x ∧ x < ts.length) (hn : L.length ≤ 1048576) (k : Nat) (hk : 2 ^ 64 ≤ k) : ∀ x, impl_CountChoices.l0 k x L L.length 0 ns ts z = some (ccW ns 3 (ccW ns 2 (ccW ns 1 (L.foldl (ccS ts) x)))) := by
  have key := loop_up L.length (fun k i => ∀ x, impl_CountChoices.l0 k x L L.length (i : Int) ns ts z = some (ccW ns 3 (ccW ns 2 (ccW ns 1 ((L.drop i).foldl (ccS ts) x))))) 10
    (fun k hk x => by
      simp only [impl_CountChoices.l0]
      rw [if_neg (by omega), impl_CC_l1 ns ts z x k (by omega), List.drop_length]; rfl)
    (fun k i _ hi ih x => by
      simp only [impl_CountChoices.l0]
      have hm := hL _ (getD_mem hi 0)
      rw [if_pos (by omega), if_pos (by omega), if_pos (by omega), rd_nat, if_pos hm.1, if_pos hm.2, wrap_nat hi (by omega), ih, drop_cons hi 0]; rfl) 0 k (Nat.zero_le _) (by omega)
  simpa using key
theorem spec_CC_l0 (ns : List PNode) (ts : List PTie) (z : Int) (hl : ns.length ≤ 9223372036854775807) (L : List Int) (hL : ∀ x ∈ L, 0 ≤ x ∧ x < ts.length) (hn : L.length ≤ 1048576) (k : Nat) (hk : 2 ^ 65 ≤ k) : ∀ x, spec_CountChoices.l0 k x L L.length 0 ns ts z = some (ccW ns 3 (ccW ns 2 (ccW ns 1 (L.foldl (ccS ts) x)))) := by
  have key := loop_up L.length (fun k i => ∀ x, spec_CountChoices.l0 k x L L.length (i : Int) ns ts z = some (ccW ns 3 (ccW ns 2 (ccW ns 1 ((L.drop i).foldl (ccS ts) x))))) (2 ^ 64 + 10)
    (fun k hk x => by
      simp only [spec_CountChoices.l0]
      rw [if_neg (by omega), spec_CC_l1 ns ts z x hl k (by omega), List.drop_length]; rfl)
    (fun k i _ hi ih x => by
      simp only [spec_CountChoices.l0]
      have hm := hL _ (getD_mem hi 0)
      rw [if_pos (by omega), if_pos (by omega), if_pos (by omega), rd_nat, if_pos hm.1, if_pos hm.2, wrap_nat hi (by omega), ih, drop_cons hi 0]; rfl) 0 k (Nat.zero_le _) (by omega)
  simpa using key
theorem impl_CountChoices_f {ns : List PNode} {ts : List PTie} {z : Int} (hf : fitN ns = true) (ht : ts.length ≤ 1048576) (k : Nat) (hk : 2 ^ 65 ≤ k) : impl_CountChoices.f k ns ts z = some (countB ns ts z) := by
  unfold impl_CountChoices.f countB
  rw [impl_ShowOk_f hf, Option.bind_some, freeTies_f ns ts z ht k (by omega)]
  cases pshowB ns ts z with
  | false => rfl
  | true =>
    rw [if_pos rfl, if_pos rfl, Option.bind_some]
    exact impl_CC_l0 ns ts z (freeIx ts) (fun x hx => freeIx_in hx) (Nat.le_trans (freeIx_len ts) ht) k (by omega) 1
theorem spec_CountChoices_f {ns : List PNode} {ts : List PTie} {z : Int} (hf : fitN ns = true) (hl : ns.length ≤ 9223372036854775807) (ht : ts.length ≤ 1048576) (k : Nat) (hk : 2 ^ 65 ≤ k) : spec_CountChoices.f k ns ts z = some (countB ns ts z) := by
  unfold spec_CountChoices.f countB
  rw [spec_ShowOk_f ns ts z hf k (by omega), Option.bind_some, l10Free_f ns ts z ht k (by omega)]
  cases pshowB ns ts z with
  | false => rfl
  | true =>
    rw [if_pos rfl, if_pos rfl, Option.bind_some]
    exact spec_CC_l0 ns ts z hl (freeIx ts) (fun x hx => freeIx_in hx) (Nat.le_trans (freeIx_len ts) ht) k (by omega) 1
end Go.Proofs.Ytpoffpdaadhkgaa.Pr

