/- The texts of one claim, put together by a program of this session. -/
import Derived.Deep.LoopGhost
import Derived.Test.YtpoffpdaadhkgaaBStc1x1
import Derived.Test.YtpoffpdaadhkgaaBStc1x10
import Derived.Test.YtpoffpdaadhkgaaBStc1x2
import Derived.Test.YtpoffpdaadhkgaaBStc1x3
import Derived.Test.YtpoffpdaadhkgaaBStc1x4
import Derived.Test.YtpoffpdaadhkgaaBStc1x5
import Derived.Test.YtpoffpdaadhkgaaBStc1x7
import Derived.Test.YtpoffpdaadhkgaaBStc1x8
import Derived.Test.YtpoffpdaadhkgaaBStc1x9
namespace Go.Proofs.Ytpoffpdaadhkgaa.Pr
open Go.RowKit Go.Proofs.YtpoffpdaadhkgaaW.PrintWords Go.Proofs.YtpoffpdaadhkgaaW.PrintLast Go.Proofs.YtpoffpdaadhkgaaW.PrintMore
attribute [local go_sem] max2_int min2_int max_two min_two max_three min_three max_four min_four
set_option linter.unusedVariables false
set_option linter.unusedSimpArgs false

/-! ### impl_ShowOk: function 44 (by hand) -/
-- IMPORT Derived.Test.YtpoffpdaadhkgaaUNodes
-- IMPORT Derived.Test.YtpoffpdaadhkgaaUQuiet
-- IMPORT Derived.Test.YtpoffpdaadhkgaaUWatched
-- IMPORT Derived.Deep.LoopGhost
open Go.Proofs.Ytpoffpdaadhkgaa.Ni
def nodeW (ns : List S120) (n : S120) : Bool := !(n.f1.any fun x => !watchedB ns n.f1 x)
def pshowB (ns : List S120) (ts : List S126) (z : Int) : Bool := areNodesB ns && areTiesB ns ts && !(decide (z < 1)) && !(decide (10 < z)) && ns.all (nodeW ns)
def impl_ShowOk.f (l0_0 : List (S120)) (l0_1 : List (S126)) (a0_2 : Int) : Option Bool := if fitN l0_0 = true then some (pshowB l0_0 l0_1 a0_2) else none
set_option maxHeartbeats 8000000 in
theorem impl_ShowOk_1.clo (k : Nat) (hk : 2 ^ 64 ≤ k) (B D : Nat) (A0_0 : Option Addr) (c0_0 : Nat) (l0_0 : List S120) (A0_1 : Option Addr) (c0_1 : Nat) (l0_1 : List S126) (a0_2 : Int) (An : Option Addr) (cn : Nat) (lb : List Int) (x : Int) (W : World)
    (h0 : W.cell? ⟨B, 0, none⟩ = some (.slice A0_0 l0_0.length c0_0)) (h1 : W.cell? ⟨B, 1, none⟩ = some (.slice A0_1 l0_1.length c0_1)) (h2 : W.cell? ⟨B, 2, none⟩ = some (.int .i64 a0_2)) (h3 : W.cell? ⟨D, 1, none⟩ = some (.slice An lb.length cn))
    (hr0_0 : Kd.C k120 W A0_0 l0_0.length l0_0) (hc0_0 : l0_0.length ≤ c0_0) (hr0_1 : Kd.C k126 W A0_1 l0_1.length l0_1) (hc0_1 : l0_1.length ≤ c0_1) (hrn : Kd.C (Kd.int .i64) W An lb.length lb) (hcn : lb.length ≤ cn)
    (hf : impl_isWatched.f k l0_0 l0_1 a0_2 lb x = some (watchedB l0_0 lb x)) :
    Calls Try.prog 97 #[.int .i64 x, .pointer (some ⟨B, 0, none⟩), .pointer (some ⟨D, 0, none⟩)] W fun e w' => e = .returned (.bool (!watchedB l0_0 lb x)) ∧ Below W.heap.size W w' := by
  have hltB : B < W.heap.size := World.block_lt_of_cell? W _ h0
  have hltD : D < W.heap.size := World.block_lt_of_cell? W _ h3
  have HC := Aside0.mk (impl_isWatched.calls k A0_0 c0_0 l0_0 A0_1 c0_1 l0_1 a0_2 An cn lb x _ W hr0_0 hc0_0 hr0_1 hc0_1 hrn hcn hf)
  have hu := Try.underlying66
  have hu2 := Try.underlying120
  clear hr0_0 hr0_1 hrn hf hc0_0 hc0_1 hcn
  cases b : watchedB l0_0 lb x
  all_goals
    rw [b] at HC
    clear b
    go_enter Try.func97, Try.ntmps97
    go_wp2_with (go_at_call 98; refine HC.out.mono ?_; rintro e w' ⟨rfl, hb⟩)
    go_ret
    exact ⟨rfl, hb⟩
set_option maxHeartbeats 8000000 in
set_option maxRecDepth 100000 in
theorem impl_ShowOk.calls (A0_0 : Option Addr) (c0_0 : Nat) (l0_0 : List (S120)) (A0_1 : Option Addr) (c0_1 : Nat) (l0_1 : List (S126)) (a0_2 : Int) (r : Bool) (w : World) (hr0_0 : Kd.C k120 w A0_0 l0_0.length l0_0) (hc0_0 : l0_0.length ≤ c0_0) (hr0_1 : Kd.C k126 w A0_1 l0_1.length l0_1) (hc0_1 : l0_1.length ≤ c0_1) (h : impl_ShowOk.f l0_0 l0_1 a0_2 = some r) :
    Calls Try.prog 44 #[.agg #[.slice A0_0 l0_0.length c0_0, .slice A0_1 l0_1.length c0_1, .int .i64 a0_2]] w fun e w' => e = .returned (.bool r) ∧ Below w.heap.size w w' := by
  by_cases hfit : fitN l0_0 = true
  case neg => rw [impl_ShowOk.f, if_neg hfit] at h; exact absurd h (by simp)
  rw [impl_ShowOk.f, if_pos hfit] at h
  obtain rfl := Option.some.inj h
  have hfi := fitN_iff hfit
  have hL : l0_0.length ≤ 9223372036854775807 := hr0_0.2.1
  have HRn := Aside0.mk hr0_0
  have HRt := Aside0.mk hr0_1
  have HCn := Aside0.mk hc0_0
  have HCt := Aside0.mk hc0_1
  have HFI := Aside0.mk hfi
  have B1 := Aside0.mk (below_alloc (Below.refl w.heap.size w) (.cells #[.slice A0_0 l0_0.length c0_0, .slice A0_1 l0_1.length c0_1, .int .i64 a0_2] 66))
  have HK := Aside0.mk fun (W : World) (hA : Below (w.alloc (.cells #[.slice A0_0 l0_0.length c0_0, .slice A0_1 l0_1.length c0_1, .int .i64 a0_2] 66)).heap.size (w.alloc (.cells #[.slice A0_0 l0_0.length c0_0, .slice A0_1 l0_1.length c0_1, .int .i64 a0_2] 66)) W) => And.intro (B1.out.trans (hA.mono B1.out.size)) (And.intro (kcell hA (show _ = some (.slice A0_0 l0_0.length c0_0) from showCell0 w _ _ _ _)) (And.intro (kcell hA (showCell1 w _ _ _ _)) (And.intro (kcell hA (showCell2 w _ _ _ _)) (show w.heap.size < W.heap.size from Nat.lt_of_lt_of_le (by simp) hA.size))))
  have HN := Aside0.mk fun (W : World) (hb : Below w.heap.size w W) => impl_areNodes.calls (2 ^ 65) A0_0 c0_0 l0_0 A0_1 c0_1 l0_1 a0_2 _ W (Kd.C_below hr0_0 hb) hc0_0 (Kd.C_below hr0_1 hb) hc0_1 (areNodes_f l0_0 l0_1 a0_2 hfi (2 ^ 65) (Nat.le_refl _))
  have HT := Aside0.mk fun (W : World) (hb : Below w.heap.size w W) => impl_areTies.calls A0_0 c0_0 l0_0 A0_1 c0_1 l0_1 a0_2 _ W (Kd.C_below hr0_0 hb) hc0_0 (Kd.C_below hr0_1 hb) hc0_1 rfl
  have hlb : areNodesB l0_0 = true → ∀ n ∈ l0_0, ∀ x ∈ n.f1, litOk x = true := areNodesB_lit
  clear hr0_0 hr0_1 hc0_0 hc0_1 h hfi hfit
  have hu := Try.underlying66
  have hu2 := Try.underlying120
  cases b1 : areNodesB l0_0 with
  | false =>
    rw [b1] at HN
    have HF := Aside0.mk (show pshowB l0_0 l0_1 a0_2 = false by simp [pshowB, b1])
    clear hlb b1
    go_enter Try.func44, Try.ntmps44
    go_wp2_with (go_at_call 95; refine (HN.out _ B1.out).mono ?_; rintro e w1 ⟨rfl, hb⟩; obtain ⟨hB, hc0, hc1, hc2, hS⟩ := HK.out _ hb)
    go_ret
    exact ⟨by rw [HF.out]; rfl, hB⟩
  | true =>
  rw [b1] at HN
  have HLB := Aside0.mk (hlb b1)
  clear hlb
  cases b2 : areTiesB l0_0 l0_1 with
  | false =>
    rw [b2] at HT
    have HF := Aside0.mk (show pshowB l0_0 l0_1 a0_2 = false by simp [pshowB, b2])
    clear b1 b2
    go_enter Try.func44, Try.ntmps44
    go_wp2_with (first | (go_at_call 95; refine (HN.out _ B1.out).mono ?_; rintro e w1 ⟨rfl, hA⟩; obtain ⟨hB, hc0, hc1, hc2, hS⟩ := HK.out _ hA) | (go_at_call 96; refine (HT.out _ hB).mono ?_; rintro e w2 ⟨rfl, hb⟩; replace hA := hA.trans (hb.mono hA.size); clear hB hc0 hc1 hc2 hS; obtain ⟨hB, hc0, hc1, hc2, hS⟩ := HK.out _ hA; clear hb))
    go_ret
    exact ⟨by rw [HF.out]; rfl, hB⟩
  | true =>
  rw [b2] at HT
  cases b3 : decide (a0_2 < 1) with
  | true =>
    have HF := Aside0.mk (show pshowB l0_0 l0_1 a0_2 = false by simp [pshowB, b3])
    clear b1 b2
    go_enter Try.func44, Try.ntmps44
    go_wp2_with (first | (go_at_call 95; refine (HN.out _ B1.out).mono ?_; rintro e w1 ⟨rfl, hA⟩; obtain ⟨hB, hc0, hc1, hc2, hS⟩ := HK.out _ hA) | (go_at_call 96; refine (HT.out _ hB).mono ?_; rintro e w2 ⟨rfl, hb⟩; replace hA := hA.trans (hb.mono hA.size); clear hB hc0 hc1 hc2 hS; obtain ⟨hB, hc0, hc1, hc2, hS⟩ := HK.out _ hA; clear hb))
    go_ret
    exact ⟨by rw [HF.out]; rfl, hB⟩
  | false =>
  cases b4 : decide (10 < a0_2) with
  | true =>
    have HF := Aside0.mk (show pshowB l0_0 l0_1 a0_2 = false by simp [pshowB, b4])
    clear b1 b2
    go_enter Try.func44, Try.ntmps44
    go_wp2_with (first | (go_at_call 95; refine (HN.out _ B1.out).mono ?_; rintro e w1 ⟨rfl, hA⟩; obtain ⟨hB, hc0, hc1, hc2, hS⟩ := HK.out _ hA) | (go_at_call 96; refine (HT.out _ hB).mono ?_; rintro e w2 ⟨rfl, hb⟩; replace hA := hA.trans (hb.mono hA.size); clear hB hc0 hc1 hc2 hS; obtain ⟨hB, hc0, hc1, hc2, hS⟩ := HK.out _ hA; clear hb))
    go_ret
    exact ⟨by rw [HF.out]; rfl, hB⟩
  | false =>
  have HF := Aside0.mk (show pshowB l0_0 l0_1 a0_2 = l0_0.all (nodeW l0_0) by simp [pshowB, b1, b2, b3, b4])
  clear b1 b2
  go_enter Try.func44, Try.ntmps44
  go_wp2_with (first | (go_at_call 95; refine (HN.out _ B1.out).mono ?_; rintro e w1 ⟨rfl, hA⟩; obtain ⟨hB, hc0, hc1, hc2, hS⟩ := HK.out _ hA) | (go_at_call 96; refine (HT.out _ hB).mono ?_; rintro e w2 ⟨rfl, hb⟩; replace hA := hA.trans (hb.mono hA.size); clear hB hc0 hc1 hc2 hS; obtain ⟨hB, hc0, hc1, hc2, hS⟩ := HK.out _ hA; clear hb))
  have HB0 := Aside0.mk hB
  have HX0 := Aside0.mk (And.intro hc0 (And.intro hc1 hc2))
  have HS0 := Aside0.mk hS
  clear hA hB hc0 hc1 hc2 hS
  go_loopg [4, 26] l0_0.length (fun gg _ s26 wr => ∃ kk : Nat, Aside0 (kk ≤ l0_0.length) ∧ Aside0 (l0_0.length - kk ≤ gg) ∧ s26 = .int .i64 kk ∧ Aside0 (Below w.heap.size w wr) ∧ Aside0 (w.heap.size < wr.heap.size) ∧ Aside0 (wr.cell? ⟨w.heap.size, 0, none⟩ = some (.slice A0_0 l0_0.length c0_0) ∧ wr.cell? ⟨w.heap.size, 1, none⟩ = some (.slice A0_1 l0_1.length c0_1) ∧ wr.cell? ⟨w.heap.size, 2, none⟩ = some (.int .i64 a0_2)) ∧ Aside0 (l0_0.all (nodeW l0_0) = (l0_0.drop kk).all (nodeW l0_0)))
  case atStart => exact ⟨0, ⟨Nat.zero_le _⟩, ⟨by omega⟩, rfl, HB0, HS0, HX0, ⟨rfl⟩⟩
  case round =>
    obtain ⟨kk, HK', HG, rfl, HBr, HS, HX, HN'⟩ := hrel
    have hsz := HS.out
    obtain ⟨hb0, hb1, hb2_⟩ := HX.out
    by_cases hlt : kk < l0_0.length
    · have hltz : (kk : Int) < (l0_0.length : Int) := by omega
      obtain ⟨ad, Am, cm, e1, hm0, hm1, hm2, lm, gm⟩ := at_T120 HRn.out (kk : Int) (by omega) hltz
      cases e1
      have HDR := Aside0.mk (drop_cons hlt z120)
      have hmem := Aside0.mk (getD_mem hlt z120)
      rw [← rdN_nat] at HDR hmem
      rw [Int.toNat_natCast] at hm0 hm1 hm2
      generalize rd_T120 l0_0 (kk : Int) = y at hm0 hm1 hm2 lm gm HDR hmem
      replace hm0 := kcell HBr.out hm0
      replace hm1 := kcell HBr.out hm1
      replace hm2 := kcell HBr.out hm2
      have hlta := World.block_lt_of_cell? wr _ hm0
      have LM := Aside0.mk lm
      have GM := Aside0.mk (Kd.C_below gm HBr.out)
      clear lm gm
      have B2 := Aside0.mk (below_alloc (Below.refl wr.heap.size wr) (.cells #[.string y.f0, .slice Am y.f1.length cm, .int .i64 y.f2] 120))
      have HC := Aside0.mk fun (W : World) (hb : Below wr.heap.size wr W) (hcell : W.cell? ⟨wr.heap.size, 1, none⟩ = some (.slice Am y.f1.length cm)) => slices_ContainsFunc_int_int.any (fun x => !watchedB l0_0 y.f1 x) 97 #[.pointer (some ⟨w.heap.size, 0, none⟩), .pointer (some ⟨wr.heap.size, 0, none⟩)] (enters_of Try.func97 (by kernel_rfl) rfl) Am cm y.f1 W (Kd.C_below GM.out hb)
        (fun W' x hx hb' => impl_ShowOk_1.clo (2 ^ 64) (Nat.le_refl _) w.heap.size wr.heap.size (some ad) c0_0 l0_0 A0_1 c0_1 l0_1 a0_2 Am cm y.f1 x W' (kcell hb' (kcell hb HX.out.1)) (kcell hb' (kcell hb HX.out.2.1)) (kcell hb' (kcell hb HX.out.2.2)) (kcell hb' hcell)
          (Kd.C_below (Kd.C_below (Kd.C_below HRn.out HBr.out) hb) hb') HCn.out (Kd.C_below (Kd.C_below (Kd.C_below HRt.out HBr.out) hb) hb') HCt.out (Kd.C_below (Kd.C_below GM.out hb) hb') LM.out
          (isWatched_f l0_0 l0_1 a0_2 y.f1 x (fun n hn => (HFI.out n hn).2) (HFI.out y hmem.out).2 (HLB.out y hmem.out x hx) (2 ^ 64) (Nat.le_refl _)))
      cases b5 : y.f1.any (fun x => !watchedB l0_0 y.f1 x) with
      | true =>
        rw [b5] at HC
        have HF2 := Aside0.mk (show pshowB l0_0 l0_1 a0_2 = false by
          rw [HF.out, HN'.out, HDR.out, List.all_cons, show nodeW l0_0 y = false by unfold nodeW; rw [b5]; rfl]; rfl)
        clear b5
        go_wp2_with fail
        refine (HC.out _ B2.out (by go_simp)).mono ?_
        rintro e w3 ⟨rfl, hb⟩
        have hb3 := B2.out.trans (hb.mono B2.out.size)
        go_wp2
        go_ret
        exact ⟨by rw [HF2.out]; rfl, HBr.out.trans (hb3.mono HBr.out.size)⟩
      | false =>
        rw [b5] at HC
        have HF2 := Aside0.mk (show l0_0.all (nodeW l0_0) = (l0_0.drop (kk + 1)).all (nodeW l0_0) by
          rw [HN'.out, HDR.out, List.all_cons, show nodeW l0_0 y = true by unfold nodeW; rw [b5]; rfl]; rfl)
        clear b5
        go_wp2_with fail
        refine (HC.out _ B2.out (by go_simp)).mono ?_
        rintro e w3 ⟨rfl, hb⟩
        have hb3 := B2.out.trans (hb.mono B2.out.size)
        go_wp2
        go_roundg (l0_0.length - (kk + 1))
        case measure => have := HG.out; omega
        case rel => exact ⟨kk + 1, ⟨by omega⟩, ⟨by omega⟩, by go_num, ⟨HBr.out.trans (hb3.mono HBr.out.size)⟩, ⟨by have := hb3.size; omega⟩, ⟨kcell hb3 hb0, kcell hb3 hb1, kcell hb3 hb2_⟩, HF2⟩
    · have hltz : ¬ (kk : Int) < (l0_0.length : Int) := by omega
      have : kk = l0_0.length := by have := HK'.out; omega
      subst this
      have HF2 := Aside0.mk (show pshowB l0_0 l0_1 a0_2 = true by
        rw [HF.out, HN'.out, List.drop_length]; rfl)
      go_wp2
      go_ret
      exact ⟨by rw [HF2.out]; rfl, HBr.out⟩

end Go.Proofs.Ytpoffpdaadhkgaa.Pr

namespace Go.Proofs.Ytpoffpdaadhkgaa.Pr
open Go.RowKit Go.Proofs.YtpoffpdaadhkgaaW.PrintWords Go.Proofs.YtpoffpdaadhkgaaW.PrintLast Go.Proofs.YtpoffpdaadhkgaaW.PrintMore
attribute [local go_sem] max2_int min2_int max_two min_two max_three min_three max_four min_four
set_option linter.unusedVariables false
set_option linter.unusedSimpArgs false

/-! ### impl_StateOk: function 59 -/
def impl_StateOk.f (k : Nat) (l0_0 : List (S120)) (l0_1 : List (S126)) (a0_2 : Int) (a1_0 : Int) (l1_1 : List Int) (l1_2 : List Int) : Option (Bool) := (impl_ShowOk.f l0_0 l0_1 a0_2).bind fun t59003 => (if t59003 = true then ((impl_isState.f k l0_0 l0_1 a0_2 a1_0 l1_1 l1_2).bind fun t59004 => (some t59004)) else (some false))
set_option maxHeartbeats 8000000 in
set_option maxRecDepth 100000 in
theorem impl_StateOk.calls (k : Nat) (A0_0 : Option Addr) (c0_0 : Nat) (l0_0 : List (S120)) (A0_1 : Option Addr) (c0_1 : Nat) (l0_1 : List (S126)) (a0_2 : Int) (a1_0 : Int) (A1_1 : Option Addr) (c1_1 : Nat) (l1_1 : List Int) (A1_2 : Option Addr) (c1_2 : Nat) (l1_2 : List Int) (r : Bool) (w : World) (hr0_0 : Kd.C k120 w A0_0 l0_0.length l0_0) (hc0_0 : l0_0.length ≤ c0_0) (hr0_1 : Kd.C k126 w A0_1 l0_1.length l0_1) (hc0_1 : l0_1.length ≤ c0_1) (hr1_1 : Kd.C (Kd.int .i64) w A1_1 l1_1.length l1_1) (hc1_1 : l1_1.length ≤ c1_1) (hr1_2 : Kd.C (Kd.int .i64) w A1_2 l1_2.length l1_2) (hc1_2 : l1_2.length ≤ c1_2) (h : impl_StateOk.f k l0_0 l0_1 a0_2 a1_0 l1_1 l1_2 = some r) :
    Calls Try.prog 59 #[.agg #[.slice A0_0 l0_0.length c0_0, .slice A0_1 l0_1.length c0_1, .int .i64 a0_2], .agg #[.int .i64 a1_0, .slice A1_1 l1_1.length c1_1, .slice A1_2 l1_2.length c1_2]] w fun e w' => e = .returned (.bool r) ∧ Below w.heap.size w w' := by
  have hu66 := Try.underlying66
  have hu80 := Try.underlying80
  have HR0_0 := Aside0.mk hr0_0
  have HC0_0 := Aside0.mk hc0_0
  clear hr0_0 hc0_0
  have HR0_1 := Aside0.mk hr0_1
  have HC0_1 := Aside0.mk hc0_1
  clear hr0_1 hc0_1
  have HR1_1 := Aside0.mk hr1_1
  have HC1_1 := Aside0.mk hc1_1
  clear hr1_1 hc1_1
  have HR1_2 := Aside0.mk hr1_2
  have HC1_2 := Aside0.mk hc1_2
  clear hr1_2 hc1_2
  have HB := Aside0.mk (Below.refl w.heap.size w)
  have H : ((impl_ShowOk.f l0_0 l0_1 a0_2).bind fun t59003 => (if t59003 = true then ((impl_isState.f k l0_0 l0_1 a0_2 a1_0 l1_1 l1_2).bind fun t59004 => (some t59004)) else (some false))) = some r := h
  clear h
  replace H := Option.bind_eq_some_iff.mp H
  obtain ⟨t59003, A30, H⟩ := H
  replace H : (if t59003 = true then ((impl_isState.f k l0_0 l0_1 a0_2 a1_0 l1_1 l1_2).bind fun t59004 => (some t59004)) else (some false)) = some r := H
  have A3 := Aside0.mk A30
  clear A30
  by_cases c4 : t59003 = true
  · subst c4
    have H1 : ((impl_isState.f k l0_0 l0_1 a0_2 a1_0 l1_1 l1_2).bind fun t59004 => (some t59004)) = some r := by rw [if_pos rfl] at H; exact H
    clear H
    have H := H1
    clear H1
    replace H := Option.bind_eq_some_iff.mp H
    obtain ⟨t59004, A50, H⟩ := H
    replace H : (some t59004) = some r := H
    have A5 := Aside0.mk A50
    clear A50
    obtain rfl := Option.some.inj H
    go_enter Try.func59, Try.ntmps59
    go_wp2_with (first | ((with_reducible refine gate_dst (N := 2) rfl ?_); refine box_event ?hg (N := 2) ?hd (cs := #[.slice A0_0 l0_0.length c0_0, .slice A0_1 l0_1.length c0_1, .int .i64 a0_2]) (t := 66) ?hr ?_; (case hd => rfl); (case hg => rfl); (case hr => first | (go_simp; done) | (go_simp; rfl)); intro gb59001 hg w6 hbox hb; have n0_ := Aside0.mk (below_step (by repeat (first | (with_reducible first | exact HB.out | apply below_alloc | apply pw_below_drewN | apply below_drew1) | exact HB.out)) hb); have n1_ := Aside0.mk (hbox); have n2_ := Aside0.mk ((by rw [hg]; exact (below_size (by repeat (first | (with_reducible first | exact HB.out | apply below_alloc | apply pw_below_drewN | apply below_drew1) | exact HB.out))) : w.heap.size ≤ gb59001)); have n3_ := Aside0.mk ((by rw [hg]; exact (below_size (by repeat (first | (with_reducible first | exact HB.out | apply below_alloc | apply pw_below_drewN | apply below_drew1) | exact HB.out))) : w.heap.size ≤ gb59001)); clear HB; have HB := n0_; have BK59001 := n1_; have GW59001 := n2_; have GE59001 := n3_; clear n0_ n1_ n2_ n3_; clear hb hbox hg) | ((with_reducible refine gate_dst (N := 3) rfl ?_); refine box_event ?hg (N := 3) ?hd (cs := #[.int .i64 a1_0, .slice A1_1 l1_1.length c1_1, .slice A1_2 l1_2.length c1_2]) (t := 80) ?hr ?_; (case hd => rfl); (case hg => rfl); (case hr => first | (go_simp; done) | (go_simp; rfl)); intro gb59002 hg w7 hbox hb; have n0_ := Aside0.mk (blk_below (g := gb59001) (o := .cells #[.slice A0_0 l0_0.length c0_0, .slice A0_1 l0_1.length c0_1, .int .i64 a0_2] 66 (0, 0)) (by (with_reducible repeat (first | refine blk_drewN ?_ _ | refine blk_drew ?_ | refine blk_alloc ?_ _)); exact BK59001.out) hb); have n1_ := Aside0.mk (below_step (by repeat (first | (with_reducible first | exact HB.out | apply below_alloc | apply pw_below_drewN | apply below_drew1 | refine below_set ?_ GE59001.out) | exact HB.out)) hb); have n2_ := Aside0.mk (hbox); have n3_ := Aside0.mk ((by rw [hg]; exact (below_size (by repeat (first | (with_reducible first | exact HB.out | apply below_alloc | apply pw_below_drewN | apply below_drew1 | refine below_set ?_ GE59001.out) | exact HB.out))) : w.heap.size ≤ gb59002)); have n4_ := Aside0.mk ((by rw [hg]; exact (below_size (by repeat (first | (with_reducible first | exact HB.out | apply below_alloc | apply pw_below_drewN | apply below_drew1 | refine below_set ?_ GE59001.out) | exact HB.out))) : w.heap.size ≤ gb59002)); have n5_ := Aside0.mk ((by rw [hg]; exact Nat.ne_of_lt (blk_lt (g := gb59001) (o := .cells #[.slice A0_0 l0_0.length c0_0, .slice A0_1 l0_1.length c0_1, .int .i64 a0_2] 66 (0, 0)) (by (with_reducible repeat (first | refine blk_drewN ?_ _ | refine blk_drew ?_ | refine blk_alloc ?_ _)); exact BK59001.out)) : gb59001 ≠ gb59002)); have n6_ := Aside0.mk ((by rw [hg]; exact Nat.ne_of_gt (blk_lt (g := gb59001) (o := .cells #[.slice A0_0 l0_0.length c0_0, .slice A0_1 l0_1.length c0_1, .int .i64 a0_2] 66 (0, 0)) (by (with_reducible repeat (first | refine blk_drewN ?_ _ | refine blk_drew ?_ | refine blk_alloc ?_ _)); exact BK59001.out)) : gb59002 ≠ gb59001)); clear BK59001; clear HB; have BK59001 := n0_; have HB := n1_; have BK59002 := n2_; have GW59002 := n3_; have GE59002 := n4_; have NB59001_59002 := n5_; have NB59002_59001 := n6_; clear n0_ n1_ n2_ n3_ n4_ n5_ n6_; clear hb hbox hg; have hnb8 := NB59001_59002.out; have hnc8 := NB59002_59001.out; have hcz9_0 : w7.cell? ⟨gb59001, 0, none⟩ = some (.slice A0_0 l0_0.length c0_0) := (blk_cell BK59001.out 0).trans rfl; have hcz9_1 : w7.cell? ⟨gb59001, 1, none⟩ = some (.slice A0_1 l0_1.length c0_1) := (blk_cell BK59001.out 1).trans rfl; have hcz9_2 : w7.cell? ⟨gb59001, 2, none⟩ = some (.int .i64 a0_2) := (blk_cell BK59001.out 2).trans rfl; have hfz9_0 := blk_frozen BK59001.out 0; have hfz9_1 := blk_frozen BK59001.out 1; have hfz9_2 := blk_frozen BK59001.out 2) | ((with_reducible refine gate_callee (f := 44) rfl ?_); refine goesL_ (some 6) rfl rfl Try.func44 (by kernel_rfl) rfl #[.agg #[.slice A0_0 l0_0.length c0_0, .slice A0_1 l0_1.length c0_1, .int .i64 a0_2]] rfl (by (try simp only [List.map_toArray, List.map_cons, List.map_nil]); first | done | rfl | (simp only [List.length_drop, List.length_take]; rfl)) ?_; (with_reducible refine (impl_ShowOk.calls _ _ l0_0 _ _ l0_1 a0_2 true _ ?side1 ?side2 ?side3 ?side4 A3.out).mono ?_); (case side1 => repeat (first | exact (Kd.C_below HR0_0.out HB.out) | (with_reducible refine Kd.C_alloc ?_ _) | (with_reducible refine Kd.C_drewN ?_ _) | (with_reducible refine Kd.C_drew ?_))); (case side2 => exact HC0_0.out); (case side3 => repeat (first | exact (Kd.C_below HR0_1.out HB.out) | (with_reducible refine Kd.C_alloc ?_ _) | (with_reducible refine Kd.C_drewN ?_ _) | (with_reducible refine Kd.C_drew ?_))); (case side4 => exact HC0_1.out); rintro e w10 ⟨rfl, hb⟩; refine ⟨_, rfl, ?_⟩; have n0_ := Aside0.mk (blk_below (g := gb59001) (o := .cells #[.slice A0_0 l0_0.length c0_0, .slice A0_1 l0_1.length c0_1, .int .i64 a0_2] 66 (0, 0)) (by (with_reducible repeat (first | refine blk_drewN ?_ _ | refine blk_drew ?_ | refine blk_alloc ?_ _)); exact BK59001.out) hb); have n1_ := Aside0.mk (blk_below (g := gb59002) (o := .cells #[.int .i64 a1_0, .slice A1_1 l1_1.length c1_1, .slice A1_2 l1_2.length c1_2] 80 (0, 0)) (by (with_reducible repeat (first | refine blk_drewN ?_ _ | refine blk_drew ?_ | refine blk_alloc ?_ _)); exact BK59002.out) hb); have n2_ := Aside0.mk (below_step (by repeat (first | (with_reducible first | exact HB.out | apply below_alloc | apply pw_below_drewN | apply below_drew1 | refine below_set ?_ GE59001.out | refine below_set ?_ GE59002.out) | exact HB.out)) hb); clear BK59001; clear BK59002; clear HB; have BK59001 := n0_; have BK59002 := n1_; have HB := n2_; clear n0_ n1_ n2_; (try clear hb); (try clear hb2); (try clear hk); (try clear hi); have hcz11_0 : w10.cell? ⟨gb59001, 0, none⟩ = some (.slice A0_0 l0_0.length c0_0) := (blk_cell BK59001.out 0).trans rfl; have hcz11_1 : w10.cell? ⟨gb59001, 1, none⟩ = some (.slice A0_1 l0_1.length c0_1) := (blk_cell BK59001.out 1).trans rfl; have hcz11_2 : w10.cell? ⟨gb59001, 2, none⟩ = some (.int .i64 a0_2) := (blk_cell BK59001.out 2).trans rfl; have hfz11_0 := blk_frozen BK59001.out 0; have hfz11_1 := blk_frozen BK59001.out 1; have hfz11_2 := blk_frozen BK59001.out 2; have hcz12_0 : w10.cell? ⟨gb59002, 0, none⟩ = some (.int .i64 a1_0) := (blk_cell BK59002.out 0).trans rfl; have hcz12_1 : w10.cell? ⟨gb59002, 1, none⟩ = some (.slice A1_1 l1_1.length c1_1) := (blk_cell BK59002.out 1).trans rfl; have hcz12_2 : w10.cell? ⟨gb59002, 2, none⟩ = some (.slice A1_2 l1_2.length c1_2) := (blk_cell BK59002.out 2).trans rfl; have hfz12_0 := blk_frozen BK59002.out 0; have hfz12_1 := blk_frozen BK59002.out 1; have hfz12_2 := blk_frozen BK59002.out 2) | (go_at_call 112; (with_reducible refine (impl_isState.calls k _ _ l0_0 _ _ l0_1 a0_2 a1_0 _ _ l1_1 _ _ l1_2 t59004 _ ?side1 ?side2 ?side3 ?side4 ?side5 ?side6 ?side7 ?side8 A5.out).mono ?_); (case side1 => repeat (first | exact (Kd.C_below HR0_0.out HB.out) | (with_reducible refine Kd.C_alloc ?_ _) | (with_reducible refine Kd.C_drewN ?_ _) | (with_reducible refine Kd.C_drew ?_))); (case side2 => exact HC0_0.out); (case side3 => repeat (first | exact (Kd.C_below HR0_1.out HB.out) | (with_reducible refine Kd.C_alloc ?_ _) | (with_reducible refine Kd.C_drewN ?_ _) | (with_reducible refine Kd.C_drew ?_))); (case side4 => exact HC0_1.out); (case side5 => repeat (first | exact (Kd.C_below HR1_1.out HB.out) | (with_reducible refine Kd.C_alloc ?_ _) | (with_reducible refine Kd.C_drewN ?_ _) | (with_reducible refine Kd.C_drew ?_))); (case side6 => exact HC1_1.out); (case side7 => repeat (first | exact (Kd.C_below HR1_2.out HB.out) | (with_reducible refine Kd.C_alloc ?_ _) | (with_reducible refine Kd.C_drewN ?_ _) | (with_reducible refine Kd.C_drew ?_))); (case side8 => exact HC1_2.out); rintro e w13 ⟨rfl, hb⟩; have n0_ := Aside0.mk (blk_below (g := gb59001) (o := .cells #[.slice A0_0 l0_0.length c0_0, .slice A0_1 l0_1.length c0_1, .int .i64 a0_2] 66 (0, 0)) (by (with_reducible repeat (first | refine blk_drewN ?_ _ | refine blk_drew ?_ | refine blk_alloc ?_ _)); exact BK59001.out) hb); have n1_ := Aside0.mk (blk_below (g := gb59002) (o := .cells #[.int .i64 a1_0, .slice A1_1 l1_1.length c1_1, .slice A1_2 l1_2.length c1_2] 80 (0, 0)) (by (with_reducible repeat (first | refine blk_drewN ?_ _ | refine blk_drew ?_ | refine blk_alloc ?_ _)); exact BK59002.out) hb); have n2_ := Aside0.mk (below_step (by repeat (first | (with_reducible first | exact HB.out | apply below_alloc | apply pw_below_drewN | apply below_drew1 | refine below_set ?_ GE59001.out | refine below_set ?_ GE59002.out) | exact HB.out)) hb); clear BK59001; clear BK59002; clear HB; have BK59001 := n0_; have BK59002 := n1_; have HB := n2_; clear n0_ n1_ n2_; (try clear hb); (try clear hb2); (try clear hk); (try clear hi)))
    go_ret
    exact ⟨by first | rfl | (simp [errW_none, errW_some] <;> rfl) | (simp [*, errW_none, errW_some] <;> rfl), by repeat (first | (with_reducible first | exact HB.out | apply below_alloc | apply pw_below_drewN | apply below_drew1 | refine below_set ?_ GE59001.out | refine below_set ?_ GE59002.out) | exact HB.out)⟩
  · replace c4 := Bool.eq_false_iff.mpr c4
    subst c4
    have H1 : (some false) = some r := by rw [if_neg (show ¬ (false = true) by decide)] at H; exact H
    clear H
    have H := H1
    clear H1
    obtain rfl := Option.some.inj H
    go_enter Try.func59, Try.ntmps59
    go_wp2_with (first | ((with_reducible refine gate_dst (N := 2) rfl ?_); refine box_event ?hg (N := 2) ?hd (cs := #[.slice A0_0 l0_0.length c0_0, .slice A0_1 l0_1.length c0_1, .int .i64 a0_2]) (t := 66) ?hr ?_; (case hd => rfl); (case hg => rfl); (case hr => first | (go_simp; done) | (go_simp; rfl)); intro gb59001 hg w14 hbox hb; have n0_ := Aside0.mk (below_step (by repeat (first | (with_reducible first | exact HB.out | apply below_alloc | apply pw_below_drewN | apply below_drew1) | exact HB.out)) hb); have n1_ := Aside0.mk (hbox); have n2_ := Aside0.mk ((by rw [hg]; exact (below_size (by repeat (first | (with_reducible first | exact HB.out | apply below_alloc | apply pw_below_drewN | apply below_drew1) | exact HB.out))) : w.heap.size ≤ gb59001)); have n3_ := Aside0.mk ((by rw [hg]; exact (below_size (by repeat (first | (with_reducible first | exact HB.out | apply below_alloc | apply pw_below_drewN | apply below_drew1) | exact HB.out))) : w.heap.size ≤ gb59001)); clear HB; have HB := n0_; have BK59001 := n1_; have GW59001 := n2_; have GE59001 := n3_; clear n0_ n1_ n2_ n3_; clear hb hbox hg) | ((with_reducible refine gate_dst (N := 3) rfl ?_); refine box_event ?hg (N := 3) ?hd (cs := #[.int .i64 a1_0, .slice A1_1 l1_1.length c1_1, .slice A1_2 l1_2.length c1_2]) (t := 80) ?hr ?_; (case hd => rfl); (case hg => rfl); (case hr => first | (go_simp; done) | (go_simp; rfl)); intro gb59002 hg w15 hbox hb; have n0_ := Aside0.mk (blk_below (g := gb59001) (o := .cells #[.slice A0_0 l0_0.length c0_0, .slice A0_1 l0_1.length c0_1, .int .i64 a0_2] 66 (0, 0)) (by (with_reducible repeat (first | refine blk_drewN ?_ _ | refine blk_drew ?_ | refine blk_alloc ?_ _)); exact BK59001.out) hb); have n1_ := Aside0.mk (below_step (by repeat (first | (with_reducible first | exact HB.out | apply below_alloc | apply pw_below_drewN | apply below_drew1 | refine below_set ?_ GE59001.out) | exact HB.out)) hb); have n2_ := Aside0.mk (hbox); have n3_ := Aside0.mk ((by rw [hg]; exact (below_size (by repeat (first | (with_reducible first | exact HB.out | apply below_alloc | apply pw_below_drewN | apply below_drew1 | refine below_set ?_ GE59001.out) | exact HB.out))) : w.heap.size ≤ gb59002)); have n4_ := Aside0.mk ((by rw [hg]; exact (below_size (by repeat (first | (with_reducible first | exact HB.out | apply below_alloc | apply pw_below_drewN | apply below_drew1 | refine below_set ?_ GE59001.out) | exact HB.out))) : w.heap.size ≤ gb59002)); have n5_ := Aside0.mk ((by rw [hg]; exact Nat.ne_of_lt (blk_lt (g := gb59001) (o := .cells #[.slice A0_0 l0_0.length c0_0, .slice A0_1 l0_1.length c0_1, .int .i64 a0_2] 66 (0, 0)) (by (with_reducible repeat (first | refine blk_drewN ?_ _ | refine blk_drew ?_ | refine blk_alloc ?_ _)); exact BK59001.out)) : gb59001 ≠ gb59002)); have n6_ := Aside0.mk ((by rw [hg]; exact Nat.ne_of_gt (blk_lt (g := gb59001) (o := .cells #[.slice A0_0 l0_0.length c0_0, .slice A0_1 l0_1.length c0_1, .int .i64 a0_2] 66 (0, 0)) (by (with_reducible repeat (first | refine blk_drewN ?_ _ | refine blk_drew ?_ | refine blk_alloc ?_ _)); exact BK59001.out)) : gb59002 ≠ gb59001)); clear BK59001; clear HB; have BK59001 := n0_; have HB := n1_; have BK59002 := n2_; have GW59002 := n3_; have GE59002 := n4_; have NB59001_59002 := n5_; have NB59002_59001 := n6_; clear n0_ n1_ n2_ n3_ n4_ n5_ n6_; clear hb hbox hg; have hnb16 := NB59001_59002.out; have hnc16 := NB59002_59001.out; have hcz17_0 : w15.cell? ⟨gb59001, 0, none⟩ = some (.slice A0_0 l0_0.length c0_0) := (blk_cell BK59001.out 0).trans rfl; have hcz17_1 : w15.cell? ⟨gb59001, 1, none⟩ = some (.slice A0_1 l0_1.length c0_1) := (blk_cell BK59001.out 1).trans rfl; have hcz17_2 : w15.cell? ⟨gb59001, 2, none⟩ = some (.int .i64 a0_2) := (blk_cell BK59001.out 2).trans rfl; have hfz17_0 := blk_frozen BK59001.out 0; have hfz17_1 := blk_frozen BK59001.out 1; have hfz17_2 := blk_frozen BK59001.out 2) | ((with_reducible refine gate_callee (f := 44) rfl ?_); refine goesL_ (some 6) rfl rfl Try.func44 (by kernel_rfl) rfl #[.agg #[.slice A0_0 l0_0.length c0_0, .slice A0_1 l0_1.length c0_1, .int .i64 a0_2]] rfl (by (try simp only [List.map_toArray, List.map_cons, List.map_nil]); first | done | rfl | (simp only [List.length_drop, List.length_take]; rfl)) ?_; (with_reducible refine (impl_ShowOk.calls _ _ l0_0 _ _ l0_1 a0_2 false _ ?side1 ?side2 ?side3 ?side4 A3.out).mono ?_); (case side1 => repeat (first | exact (Kd.C_below HR0_0.out HB.out) | (with_reducible refine Kd.C_alloc ?_ _) | (with_reducible refine Kd.C_drewN ?_ _) | (with_reducible refine Kd.C_drew ?_))); (case side2 => exact HC0_0.out); (case side3 => repeat (first | exact (Kd.C_below HR0_1.out HB.out) | (with_reducible refine Kd.C_alloc ?_ _) | (with_reducible refine Kd.C_drewN ?_ _) | (with_reducible refine Kd.C_drew ?_))); (case side4 => exact HC0_1.out); rintro e w18 ⟨rfl, hb⟩; refine ⟨_, rfl, ?_⟩; have n0_ := Aside0.mk (blk_below (g := gb59001) (o := .cells #[.slice A0_0 l0_0.length c0_0, .slice A0_1 l0_1.length c0_1, .int .i64 a0_2] 66 (0, 0)) (by (with_reducible repeat (first | refine blk_drewN ?_ _ | refine blk_drew ?_ | refine blk_alloc ?_ _)); exact BK59001.out) hb); have n1_ := Aside0.mk (blk_below (g := gb59002) (o := .cells #[.int .i64 a1_0, .slice A1_1 l1_1.length c1_1, .slice A1_2 l1_2.length c1_2] 80 (0, 0)) (by (with_reducible repeat (first | refine blk_drewN ?_ _ | refine blk_drew ?_ | refine blk_alloc ?_ _)); exact BK59002.out) hb); have n2_ := Aside0.mk (below_step (by repeat (first | (with_reducible first | exact HB.out | apply below_alloc | apply pw_below_drewN | apply below_drew1 | refine below_set ?_ GE59001.out | refine below_set ?_ GE59002.out) | exact HB.out)) hb); clear BK59001; clear BK59002; clear HB; have BK59001 := n0_; have BK59002 := n1_; have HB := n2_; clear n0_ n1_ n2_; (try clear hb); (try clear hb2); (try clear hk); (try clear hi)))
    go_ret
    exact ⟨by first | rfl | (simp [errW_none, errW_some] <;> rfl) | (simp [*, errW_none, errW_some] <;> rfl), by repeat (first | (with_reducible first | exact HB.out | apply below_alloc | apply pw_below_drewN | apply below_drew1 | refine below_set ?_ GE59001.out | refine below_set ?_ GE59002.out) | exact HB.out)⟩

end Go.Proofs.Ytpoffpdaadhkgaa.Pr

namespace Go.Proofs.Ytpoffpdaadhkgaa.Pr
open Go.RowKit Go.Proofs.YtpoffpdaadhkgaaW.PrintWords Go.Proofs.YtpoffpdaadhkgaaW.PrintLast Go.Proofs.YtpoffpdaadhkgaaW.PrintMore
attribute [local go_sem] max2_int min2_int max_two min_two max_three min_three max_four min_four
set_option linter.unusedVariables false
set_option linter.unusedSimpArgs false

/-! ### laws_eqState: function 60 -/
def laws_eqState.f (k : Nat) (a0_0 : Int) (l0_1 : List Int) (l0_2 : List Int) (a1_0 : Int) (l1_1 : List Int) (l1_2 : List Int) : Option (Bool) := if a0_0 = a1_0 then ((laws_eqIntS.f k l0_1 l1_1).bind fun t60003 => (if t60003 = true then ((laws_eqIntS.f k l0_2 l1_2).bind fun t60004 => (if t60004 = true then (some true) else (some false))) else (some false))) else (some false)
set_option maxHeartbeats 8000000 in
set_option maxRecDepth 100000 in
theorem laws_eqState.calls (k : Nat) (a0_0 : Int) (A0_1 : Option Addr) (c0_1 : Nat) (l0_1 : List Int) (A0_2 : Option Addr) (c0_2 : Nat) (l0_2 : List Int) (a1_0 : Int) (A1_1 : Option Addr) (c1_1 : Nat) (l1_1 : List Int) (A1_2 : Option Addr) (c1_2 : Nat) (l1_2 : List Int) (r : Bool) (w : World) (hr0_1 : Kd.C (Kd.int .i64) w A0_1 l0_1.length l0_1) (hc0_1 : l0_1.length ≤ c0_1) (hr0_2 : Kd.C (Kd.int .i64) w A0_2 l0_2.length l0_2) (hc0_2 : l0_2.length ≤ c0_2) (hr1_1 : Kd.C (Kd.int .i64) w A1_1 l1_1.length l1_1) (hc1_1 : l1_1.length ≤ c1_1) (hr1_2 : Kd.C (Kd.int .i64) w A1_2 l1_2.length l1_2) (hc1_2 : l1_2.length ≤ c1_2) (h : laws_eqState.f k a0_0 l0_1 l0_2 a1_0 l1_1 l1_2 = some r) :
    Calls Try.prog 60 #[.agg #[.int .i64 a0_0, .slice A0_1 l0_1.length c0_1, .slice A0_2 l0_2.length c0_2], .agg #[.int .i64 a1_0, .slice A1_1 l1_1.length c1_1, .slice A1_2 l1_2.length c1_2]] w fun e w' => e = .returned (.bool r) ∧ Below w.heap.size w w' := by
  have hu80 := Try.underlying80
  have HR0_1 := Aside0.mk hr0_1
  have HC0_1 := Aside0.mk hc0_1
  clear hr0_1 hc0_1
  have HR0_2 := Aside0.mk hr0_2
  have HC0_2 := Aside0.mk hc0_2
  clear hr0_2 hc0_2
  have HR1_1 := Aside0.mk hr1_1
  have HC1_1 := Aside0.mk hc1_1
  clear hr1_1 hc1_1
  have HR1_2 := Aside0.mk hr1_2
  have HC1_2 := Aside0.mk hc1_2
  clear hr1_2 hc1_2
  have HB := Aside0.mk (Below.refl w.heap.size w)
  have H : (if a0_0 = a1_0 then ((laws_eqIntS.f k l0_1 l1_1).bind fun t60003 => (if t60003 = true then ((laws_eqIntS.f k l0_2 l1_2).bind fun t60004 => (if t60004 = true then (some true) else (some false))) else (some false))) else (some false)) = some r := h
  clear h
  by_cases c3 : a0_0 = a1_0
  · rw [if_pos c3] at H
    have c3b0 : (a0_0 == a1_0) = true := beq_iff_eq.mpr c3
    have c3b1 : (a0_0 != a1_0) = false := bne_eq_false_iff_eq.mpr c3
    clear c3
    replace H := Option.bind_eq_some_iff.mp H
    obtain ⟨t60003, A40, H⟩ := H
    replace H : (if t60003 = true then ((laws_eqIntS.f k l0_2 l1_2).bind fun t60004 => (if t60004 = true then (some true) else (some false))) else (some false)) = some r := H
    have A4 := Aside0.mk A40
    clear A40
    by_cases c5 : t60003 = true
    · subst c5
      have H1 : ((laws_eqIntS.f k l0_2 l1_2).bind fun t60004 => (if t60004 = true then (some true) else (some false))) = some r := by rw [if_pos rfl] at H; exact H
      clear H
      have H := H1
      clear H1
      replace H := Option.bind_eq_some_iff.mp H
      obtain ⟨t60004, A60, H⟩ := H
      replace H : (if t60004 = true then (some true) else (some false)) = some r := H
      have A6 := Aside0.mk A60
      clear A60
      by_cases c7 : t60004 = true
      · subst c7
        have H1 : (some true) = some r := by rw [if_pos rfl] at H; exact H
        clear H
        have H := H1
        clear H1
        obtain rfl := Option.some.inj H
        go_enter Try.func60, Try.ntmps60
        go_wp2_with (first | ((with_reducible refine gate_dst (N := 2) rfl ?_); refine box_event ?hg (N := 2) ?hd (cs := #[.int .i64 a0_0, .slice A0_1 l0_1.length c0_1, .slice A0_2 l0_2.length c0_2]) (t := 80) ?hr ?_; (case hd => rfl); (case hg => rfl); (case hr => first | (go_simp; done) | (go_simp; rfl)); intro gb60001 hg w8 hbox hb; have n0_ := Aside0.mk (below_step (by repeat (first | (with_reducible first | exact HB.out | apply below_alloc | apply pw_below_drewN | apply below_drew1) | exact HB.out)) hb); have n1_ := Aside0.mk (hbox); have n2_ := Aside0.mk ((by rw [hg]; exact (below_size (by repeat (first | (with_reducible first | exact HB.out | apply below_alloc | apply pw_below_drewN | apply below_drew1) | exact HB.out))) : w.heap.size ≤ gb60001)); have n3_ := Aside0.mk ((by rw [hg]; exact (below_size (by repeat (first | (with_reducible first | exact HB.out | apply below_alloc | apply pw_below_drewN | apply below_drew1) | exact HB.out))) : w.heap.size ≤ gb60001)); clear HB; have HB := n0_; have BK60001 := n1_; have GW60001 := n2_; have GE60001 := n3_; clear n0_ n1_ n2_ n3_; clear hb hbox hg) | ((with_reducible refine gate_dst (N := 3) rfl ?_); refine box_event ?hg (N := 3) ?hd (cs := #[.int .i64 a1_0, .slice A1_1 l1_1.length c1_1, .slice A1_2 l1_2.length c1_2]) (t := 80) ?hr ?_; (case hd => rfl); (case hg => rfl); (case hr => first | (go_simp; done) | (go_simp; rfl)); intro gb60002 hg w9 hbox hb; have n0_ := Aside0.mk (blk_below (g := gb60001) (o := .cells #[.int .i64 a0_0, .slice A0_1 l0_1.length c0_1, .slice A0_2 l0_2.length c0_2] 80 (0, 0)) (by (with_reducible repeat (first | refine blk_drewN ?_ _ | refine blk_drew ?_ | refine blk_alloc ?_ _)); exact BK60001.out) hb); have n1_ := Aside0.mk (below_step (by repeat (first | (with_reducible first | exact HB.out | apply below_alloc | apply pw_below_drewN | apply below_drew1 | refine below_set ?_ GE60001.out) | exact HB.out)) hb); have n2_ := Aside0.mk (hbox); have n3_ := Aside0.mk ((by rw [hg]; exact (below_size (by repeat (first | (with_reducible first | exact HB.out | apply below_alloc | apply pw_below_drewN | apply below_drew1 | refine below_set ?_ GE60001.out) | exact HB.out))) : w.heap.size ≤ gb60002)); have n4_ := Aside0.mk ((by rw [hg]; exact (below_size (by repeat (first | (with_reducible first | exact HB.out | apply below_alloc | apply pw_below_drewN | apply below_drew1 | refine below_set ?_ GE60001.out) | exact HB.out))) : w.heap.size ≤ gb60002)); have n5_ := Aside0.mk ((by rw [hg]; exact Nat.ne_of_lt (blk_lt (g := gb60001) (o := .cells #[.int .i64 a0_0, .slice A0_1 l0_1.length c0_1, .slice A0_2 l0_2.length c0_2] 80 (0, 0)) (by (with_reducible repeat (first | refine blk_drewN ?_ _ | refine blk_drew ?_ | refine blk_alloc ?_ _)); exact BK60001.out)) : gb60001 ≠ gb60002)); have n6_ := Aside0.mk ((by rw [hg]; exact Nat.ne_of_gt (blk_lt (g := gb60001) (o := .cells #[.int .i64 a0_0, .slice A0_1 l0_1.length c0_1, .slice A0_2 l0_2.length c0_2] 80 (0, 0)) (by (with_reducible repeat (first | refine blk_drewN ?_ _ | refine blk_drew ?_ | refine blk_alloc ?_ _)); exact BK60001.out)) : gb60002 ≠ gb60001)); clear BK60001; clear HB; have BK60001 := n0_; have HB := n1_; have BK60002 := n2_; have GW60002 := n3_; have GE60002 := n4_; have NB60001_60002 := n5_; have NB60002_60001 := n6_; clear n0_ n1_ n2_ n3_ n4_ n5_ n6_; clear hb hbox hg; have hnb10 := NB60001_60002.out; have hnc10 := NB60002_60001.out; have hcz11_0 : w9.cell? ⟨gb60001, 0, none⟩ = some (.int .i64 a0_0) := (blk_cell BK60001.out 0).trans rfl; have hcz11_1 : w9.cell? ⟨gb60001, 1, none⟩ = some (.slice A0_1 l0_1.length c0_1) := (blk_cell BK60001.out 1).trans rfl; have hcz11_2 : w9.cell? ⟨gb60001, 2, none⟩ = some (.slice A0_2 l0_2.length c0_2) := (blk_cell BK60001.out 2).trans rfl; have hfz11_0 := blk_frozen BK60001.out 0; have hfz11_1 := blk_frozen BK60001.out 1; have hfz11_2 := blk_frozen BK60001.out 2; have hcz12_0 : w9.cell? ⟨gb60002, 0, none⟩ = some (.int .i64 a1_0) := (blk_cell BK60002.out 0).trans rfl; have hcz12_1 : w9.cell? ⟨gb60002, 1, none⟩ = some (.slice A1_1 l1_1.length c1_1) := (blk_cell BK60002.out 1).trans rfl; have hcz12_2 : w9.cell? ⟨gb60002, 2, none⟩ = some (.slice A1_2 l1_2.length c1_2) := (blk_cell BK60002.out 2).trans rfl; have hfz12_0 := blk_frozen BK60002.out 0; have hfz12_1 := blk_frozen BK60002.out 1; have hfz12_2 := blk_frozen BK60002.out 2) | ((with_reducible refine gate_callee (f := 34) rfl ?_); refine goesL_ (some 14) rfl rfl Try.func34 (by kernel_rfl) rfl #[.slice A0_1 l0_1.length c0_1, .slice A1_1 l1_1.length c1_1] rfl (by (try simp only [List.map_toArray, List.map_cons, List.map_nil]); first | done | rfl | (simp only [List.length_drop, List.length_take]; rfl)) ?_; (with_reducible refine (laws_eqIntS.calls k _ _ l0_1 _ _ l1_1 true _ ?side1 ?side2 ?side3 ?side4 A4.out).mono ?_); (case side1 => repeat (first | exact (Kd.C_below HR0_1.out HB.out) | (with_reducible refine Kd.C_alloc ?_ _) | (with_reducible refine Kd.C_drewN ?_ _) | (with_reducible refine Kd.C_drew ?_))); (case side2 => exact HC0_1.out); (case side3 => repeat (first | exact (Kd.C_below HR1_1.out HB.out) | (with_reducible refine Kd.C_alloc ?_ _) | (with_reducible refine Kd.C_drewN ?_ _) | (with_reducible refine Kd.C_drew ?_))); (case side4 => exact HC1_1.out); rintro e w' ⟨rfl, ⟨nd, rfl⟩⟩; refine ⟨_, rfl, ?_⟩) | ((with_reducible refine gate_callee (f := 34) rfl ?_); refine goesL_ (some 20) rfl rfl Try.func34 (by kernel_rfl) rfl #[.slice A0_2 l0_2.length c0_2, .slice A1_2 l1_2.length c1_2] rfl (by (try simp only [List.map_toArray, List.map_cons, List.map_nil]); first | done | rfl | (simp only [List.length_drop, List.length_take]; rfl)) ?_; (with_reducible refine (laws_eqIntS.calls k _ _ l0_2 _ _ l1_2 true _ ?side1 ?side2 ?side3 ?side4 A6.out).mono ?_); (case side1 => repeat (first | exact (Kd.C_below HR0_2.out (by repeat (first | (with_reducible first | exact HB.out | apply below_alloc | apply pw_below_drewN | apply below_drew1 | refine below_set ?_ GE60001.out | refine below_set ?_ GE60002.out) | exact HB.out))) | (with_reducible refine Kd.C_alloc ?_ _) | (with_reducible refine Kd.C_drewN ?_ _) | (with_reducible refine Kd.C_drew ?_))); (case side2 => exact HC0_2.out); (case side3 => repeat (first | exact (Kd.C_below HR1_2.out (by repeat (first | (with_reducible first | exact HB.out | apply below_alloc | apply pw_below_drewN | apply below_drew1 | refine below_set ?_ GE60001.out | refine below_set ?_ GE60002.out) | exact HB.out))) | (with_reducible refine Kd.C_alloc ?_ _) | (with_reducible refine Kd.C_drewN ?_ _) | (with_reducible refine Kd.C_drew ?_))); (case side4 => exact HC1_2.out); rintro e w' ⟨rfl, ⟨nd, rfl⟩⟩; refine ⟨_, rfl, ?_⟩))
        go_ret
        exact ⟨by first | rfl | (simp [errW_none, errW_some] <;> rfl) | (simp [*, errW_none, errW_some] <;> rfl), by repeat (first | (with_reducible first | exact HB.out | apply below_alloc | apply pw_below_drewN | apply below_drew1 | refine below_set ?_ GE60001.out | refine below_set ?_ GE60002.out) | exact HB.out)⟩
      · replace c7 := Bool.eq_false_iff.mpr c7
        subst c7
        have H1 : (some false) = some r := by rw [if_neg (show ¬ (false = true) by decide)] at H; exact H
        clear H
        have H := H1
        clear H1
        obtain rfl := Option.some.inj H
        go_enter Try.func60, Try.ntmps60
        go_wp2_with (first | ((with_reducible refine gate_dst (N := 2) rfl ?_); refine box_event ?hg (N := 2) ?hd (cs := #[.int .i64 a0_0, .slice A0_1 l0_1.length c0_1, .slice A0_2 l0_2.length c0_2]) (t := 80) ?hr ?_; (case hd => rfl); (case hg => rfl); (case hr => first | (go_simp; done) | (go_simp; rfl)); intro gb60001 hg w13 hbox hb; have n0_ := Aside0.mk (below_step (by repeat (first | (with_reducible first | exact HB.out | apply below_alloc | apply pw_below_drewN | apply below_drew1) | exact HB.out)) hb); have n1_ := Aside0.mk (hbox); have n2_ := Aside0.mk ((by rw [hg]; exact (below_size (by repeat (first | (with_reducible first | exact HB.out | apply below_alloc | apply pw_below_drewN | apply below_drew1) | exact HB.out))) : w.heap.size ≤ gb60001)); have n3_ := Aside0.mk ((by rw [hg]; exact (below_size (by repeat (first | (with_reducible first | exact HB.out | apply below_alloc | apply pw_below_drewN | apply below_drew1) | exact HB.out))) : w.heap.size ≤ gb60001)); clear HB; have HB := n0_; have BK60001 := n1_; have GW60001 := n2_; have GE60001 := n3_; clear n0_ n1_ n2_ n3_; clear hb hbox hg) | ((with_reducible refine gate_dst (N := 3) rfl ?_); refine box_event ?hg (N := 3) ?hd (cs := #[.int .i64 a1_0, .slice A1_1 l1_1.length c1_1, .slice A1_2 l1_2.length c1_2]) (t := 80) ?hr ?_; (case hd => rfl); (case hg => rfl); (case hr => first | (go_simp; done) | (go_simp; rfl)); intro gb60002 hg w14 hbox hb; have n0_ := Aside0.mk (blk_below (g := gb60001) (o := .cells #[.int .i64 a0_0, .slice A0_1 l0_1.length c0_1, .slice A0_2 l0_2.length c0_2] 80 (0, 0)) (by (with_reducible repeat (first | refine blk_drewN ?_ _ | refine blk_drew ?_ | refine blk_alloc ?_ _)); exact BK60001.out) hb); have n1_ := Aside0.mk (below_step (by repeat (first | (with_reducible first | exact HB.out | apply below_alloc | apply pw_below_drewN | apply below_drew1 | refine below_set ?_ GE60001.out) | exact HB.out)) hb); have n2_ := Aside0.mk (hbox); have n3_ := Aside0.mk ((by rw [hg]; exact (below_size (by repeat (first | (with_reducible first | exact HB.out | apply below_alloc | apply pw_below_drewN | apply below_drew1 | refine below_set ?_ GE60001.out) | exact HB.out))) : w.heap.size ≤ gb60002)); have n4_ := Aside0.mk ((by rw [hg]; exact (below_size (by repeat (first | (with_reducible first | exact HB.out | apply below_alloc | apply pw_below_drewN | apply below_drew1 | refine below_set ?_ GE60001.out) | exact HB.out))) : w.heap.size ≤ gb60002)); have n5_ := Aside0.mk ((by rw [hg]; exact Nat.ne_of_lt (blk_lt (g := gb60001) (o := .cells #[.int .i64 a0_0, .slice A0_1 l0_1.length c0_1, .slice A0_2 l0_2.length c0_2] 80 (0, 0)) (by (with_reducible repeat (first | refine blk_drewN ?_ _ | refine blk_drew ?_ | refine blk_alloc ?_ _)); exact BK60001.out)) : gb60001 ≠ gb60002)); have n6_ := Aside0.mk ((by rw [hg]; exact Nat.ne_of_gt (blk_lt (g := gb60001) (o := .cells #[.int .i64 a0_0, .slice A0_1 l0_1.length c0_1, .slice A0_2 l0_2.length c0_2] 80 (0, 0)) (by (with_reducible repeat (first | refine blk_drewN ?_ _ | refine blk_drew ?_ | refine blk_alloc ?_ _)); exact BK60001.out)) : gb60002 ≠ gb60001)); clear BK60001; clear HB; have BK60001 := n0_; have HB := n1_; have BK60002 := n2_; have GW60002 := n3_; have GE60002 := n4_; have NB60001_60002 := n5_; have NB60002_60001 := n6_; clear n0_ n1_ n2_ n3_ n4_ n5_ n6_; clear hb hbox hg; have hnb15 := NB60001_60002.out; have hnc15 := NB60002_60001.out; have hcz16_0 : w14.cell? ⟨gb60001, 0, none⟩ = some (.int .i64 a0_0) := (blk_cell BK60001.out 0).trans rfl; have hcz16_1 : w14.cell? ⟨gb60001, 1, none⟩ = some (.slice A0_1 l0_1.length c0_1) := (blk_cell BK60001.out 1).trans rfl; have hcz16_2 : w14.cell? ⟨gb60001, 2, none⟩ = some (.slice A0_2 l0_2.length c0_2) := (blk_cell BK60001.out 2).trans rfl; have hfz16_0 := blk_frozen BK60001.out 0; have hfz16_1 := blk_frozen BK60001.out 1; have hfz16_2 := blk_frozen BK60001.out 2; have hcz17_0 : w14.cell? ⟨gb60002, 0, none⟩ = some (.int .i64 a1_0) := (blk_cell BK60002.out 0).trans rfl; have hcz17_1 : w14.cell? ⟨gb60002, 1, none⟩ = some (.slice A1_1 l1_1.length c1_1) := (blk_cell BK60002.out 1).trans rfl; have hcz17_2 : w14.cell? ⟨gb60002, 2, none⟩ = some (.slice A1_2 l1_2.length c1_2) := (blk_cell BK60002.out 2).trans rfl; have hfz17_0 := blk_frozen BK60002.out 0; have hfz17_1 := blk_frozen BK60002.out 1; have hfz17_2 := blk_frozen BK60002.out 2) | ((with_reducible refine gate_callee (f := 34) rfl ?_); refine goesL_ (some 14) rfl rfl Try.func34 (by kernel_rfl) rfl #[.slice A0_1 l0_1.length c0_1, .slice A1_1 l1_1.length c1_1] rfl (by (try simp only [List.map_toArray, List.map_cons, List.map_nil]); first | done | rfl | (simp only [List.length_drop, List.length_take]; rfl)) ?_; (with_reducible refine (laws_eqIntS.calls k _ _ l0_1 _ _ l1_1 true _ ?side1 ?side2 ?side3 ?side4 A4.out).mono ?_); (case side1 => repeat (first | exact (Kd.C_below HR0_1.out HB.out) | (with_reducible refine Kd.C_alloc ?_ _) | (with_reducible refine Kd.C_drewN ?_ _) | (with_reducible refine Kd.C_drew ?_))); (case side2 => exact HC0_1.out); (case side3 => repeat (first | exact (Kd.C_below HR1_1.out HB.out) | (with_reducible refine Kd.C_alloc ?_ _) | (with_reducible refine Kd.C_drewN ?_ _) | (with_reducible refine Kd.C_drew ?_))); (case side4 => exact HC1_1.out); rintro e w' ⟨rfl, ⟨nd, rfl⟩⟩; refine ⟨_, rfl, ?_⟩) | ((with_reducible refine gate_callee (f := 34) rfl ?_); refine goesL_ (some 20) rfl rfl Try.func34 (by kernel_rfl) rfl #[.slice A0_2 l0_2.length c0_2, .slice A1_2 l1_2.length c1_2] rfl (by (try simp only [List.map_toArray, List.map_cons, List.map_nil]); first | done | rfl | (simp only [List.length_drop, List.length_take]; rfl)) ?_; (with_reducible refine (laws_eqIntS.calls k _ _ l0_2 _ _ l1_2 false _ ?side1 ?side2 ?side3 ?side4 A6.out).mono ?_); (case side1 => repeat (first | exact (Kd.C_below HR0_2.out (by repeat (first | (with_reducible first | exact HB.out | apply below_alloc | apply pw_below_drewN | apply below_drew1 | refine below_set ?_ GE60001.out | refine below_set ?_ GE60002.out) | exact HB.out))) | (with_reducible refine Kd.C_alloc ?_ _) | (with_reducible refine Kd.C_drewN ?_ _) | (with_reducible refine Kd.C_drew ?_))); (case side2 => exact HC0_2.out); (case side3 => repeat (first | exact (Kd.C_below HR1_2.out (by repeat (first | (with_reducible first | exact HB.out | apply below_alloc | apply pw_below_drewN | apply below_drew1 | refine below_set ?_ GE60001.out | refine below_set ?_ GE60002.out) | exact HB.out))) | (with_reducible refine Kd.C_alloc ?_ _) | (with_reducible refine Kd.C_drewN ?_ _) | (with_reducible refine Kd.C_drew ?_))); (case side4 => exact HC1_2.out); rintro e w' ⟨rfl, ⟨nd, rfl⟩⟩; refine ⟨_, rfl, ?_⟩))
        go_ret
        exact ⟨by first | rfl | (simp [errW_none, errW_some] <;> rfl) | (simp [*, errW_none, errW_some] <;> rfl), by repeat (first | (with_reducible first | exact HB.out | apply below_alloc | apply pw_below_drewN | apply below_drew1 | refine below_set ?_ GE60001.out | refine below_set ?_ GE60002.out) | exact HB.out)⟩
    · replace c5 := Bool.eq_false_iff.mpr c5
      subst c5
      have H1 : (some false) = some r := by rw [if_neg (show ¬ (false = true) by decide)] at H; exact H
      clear H
      have H := H1
      clear H1
      obtain rfl := Option.some.inj H
      go_enter Try.func60, Try.ntmps60
      go_wp2_with (first | ((with_reducible refine gate_dst (N := 2) rfl ?_); refine box_event ?hg (N := 2) ?hd (cs := #[.int .i64 a0_0, .slice A0_1 l0_1.length c0_1, .slice A0_2 l0_2.length c0_2]) (t := 80) ?hr ?_; (case hd => rfl); (case hg => rfl); (case hr => first | (go_simp; done) | (go_simp; rfl)); intro gb60001 hg w18 hbox hb; have n0_ := Aside0.mk (below_step (by repeat (first | (with_reducible first | exact HB.out | apply below_alloc | apply pw_below_drewN | apply below_drew1) | exact HB.out)) hb); have n1_ := Aside0.mk (hbox); have n2_ := Aside0.mk ((by rw [hg]; exact (below_size (by repeat (first | (with_reducible first | exact HB.out | apply below_alloc | apply pw_below_drewN | apply below_drew1) | exact HB.out))) : w.heap.size ≤ gb60001)); have n3_ := Aside0.mk ((by rw [hg]; exact (below_size (by repeat (first | (with_reducible first | exact HB.out | apply below_alloc | apply pw_below_drewN | apply below_drew1) | exact HB.out))) : w.heap.size ≤ gb60001)); clear HB; have HB := n0_; have BK60001 := n1_; have GW60001 := n2_; have GE60001 := n3_; clear n0_ n1_ n2_ n3_; clear hb hbox hg) | ((with_reducible refine gate_dst (N := 3) rfl ?_); refine box_event ?hg (N := 3) ?hd (cs := #[.int .i64 a1_0, .slice A1_1 l1_1.length c1_1, .slice A1_2 l1_2.length c1_2]) (t := 80) ?hr ?_; (case hd => rfl); (case hg => rfl); (case hr => first | (go_simp; done) | (go_simp; rfl)); intro gb60002 hg w19 hbox hb; have n0_ := Aside0.mk (blk_below (g := gb60001) (o := .cells #[.int .i64 a0_0, .slice A0_1 l0_1.length c0_1, .slice A0_2 l0_2.length c0_2] 80 (0, 0)) (by (with_reducible repeat (first | refine blk_drewN ?_ _ | refine blk_drew ?_ | refine blk_alloc ?_ _)); exact BK60001.out) hb); have n1_ := Aside0.mk (below_step (by repeat (first | (with_reducible first | exact HB.out | apply below_alloc | apply pw_below_drewN | apply below_drew1 | refine below_set ?_ GE60001.out) | exact HB.out)) hb); have n2_ := Aside0.mk (hbox); have n3_ := Aside0.mk ((by rw [hg]; exact (below_size (by repeat (first | (with_reducible first | exact HB.out | apply below_alloc | apply pw_below_drewN | apply below_drew1 | refine below_set ?_ GE60001.out) | exact HB.out))) : w.heap.size ≤ gb60002)); have n4_ := Aside0.mk ((by rw [hg]; exact (below_size (by repeat (first | (with_reducible first | exact HB.out | apply below_alloc | apply pw_below_drewN | apply below_drew1 | refine below_set ?_ GE60001.out) | exact HB.out))) : w.heap.size ≤ gb60002)); have n5_ := Aside0.mk ((by rw [hg]; exact Nat.ne_of_lt (blk_lt (g := gb60001) (o := .cells #[.int .i64 a0_0, .slice A0_1 l0_1.length c0_1, .slice A0_2 l0_2.length c0_2] 80 (0, 0)) (by (with_reducible repeat (first | refine blk_drewN ?_ _ | refine blk_drew ?_ | refine blk_alloc ?_ _)); exact BK60001.out)) : gb60001 ≠ gb60002)); have n6_ := Aside0.mk ((by rw [hg]; exact Nat.ne_of_gt (blk_lt (g := gb60001) (o := .cells #[.int .i64 a0_0, .slice A0_1 l0_1.length c0_1, .slice A0_2 l0_2.length c0_2] 80 (0, 0)) (by (with_reducible repeat (first | refine blk_drewN ?_ _ | refine blk_drew ?_ | refine blk_alloc ?_ _)); exact BK60001.out)) : gb60002 ≠ gb60001)); clear BK60001; clear HB; have BK60001 := n0_; have HB := n1_; have BK60002 := n2_; have GW60002 := n3_; have GE60002 := n4_; have NB60001_60002 := n5_; have NB60002_60001 := n6_; clear n0_ n1_ n2_ n3_ n4_ n5_ n6_; clear hb hbox hg; have hnb20 := NB60001_60002.out; have hnc20 := NB60002_60001.out; have hcz21_0 : w19.cell? ⟨gb60001, 0, none⟩ = some (.int .i64 a0_0) := (blk_cell BK60001.out 0).trans rfl; have hcz21_1 : w19.cell? ⟨gb60001, 1, none⟩ = some (.slice A0_1 l0_1.length c0_1) := (blk_cell BK60001.out 1).trans rfl; have hcz21_2 : w19.cell? ⟨gb60001, 2, none⟩ = some (.slice A0_2 l0_2.length c0_2) := (blk_cell BK60001.out 2).trans rfl; have hfz21_0 := blk_frozen BK60001.out 0; have hfz21_1 := blk_frozen BK60001.out 1; have hfz21_2 := blk_frozen BK60001.out 2; have hcz22_0 : w19.cell? ⟨gb60002, 0, none⟩ = some (.int .i64 a1_0) := (blk_cell BK60002.out 0).trans rfl; have hcz22_1 : w19.cell? ⟨gb60002, 1, none⟩ = some (.slice A1_1 l1_1.length c1_1) := (blk_cell BK60002.out 1).trans rfl; have hcz22_2 : w19.cell? ⟨gb60002, 2, none⟩ = some (.slice A1_2 l1_2.length c1_2) := (blk_cell BK60002.out 2).trans rfl; have hfz22_0 := blk_frozen BK60002.out 0; have hfz22_1 := blk_frozen BK60002.out 1; have hfz22_2 := blk_frozen BK60002.out 2) | ((with_reducible refine gate_callee (f := 34) rfl ?_); refine goesL_ (some 14) rfl rfl Try.func34 (by kernel_rfl) rfl #[.slice A0_1 l0_1.length c0_1, .slice A1_1 l1_1.length c1_1] rfl (by (try simp only [List.map_toArray, List.map_cons, List.map_nil]); first | done | rfl | (simp only [List.length_drop, List.length_take]; rfl)) ?_; (with_reducible refine (laws_eqIntS.calls k _ _ l0_1 _ _ l1_1 false _ ?side1 ?side2 ?side3 ?side4 A4.out).mono ?_); (case side1 => repeat (first | exact (Kd.C_below HR0_1.out HB.out) | (with_reducible refine Kd.C_alloc ?_ _) | (with_reducible refine Kd.C_drewN ?_ _) | (with_reducible refine Kd.C_drew ?_))); (case side2 => exact HC0_1.out); (case side3 => repeat (first | exact (Kd.C_below HR1_1.out HB.out) | (with_reducible refine Kd.C_alloc ?_ _) | (with_reducible refine Kd.C_drewN ?_ _) | (with_reducible refine Kd.C_drew ?_))); (case side4 => exact HC1_1.out); rintro e w' ⟨rfl, ⟨nd, rfl⟩⟩; refine ⟨_, rfl, ?_⟩))
      go_ret
      exact ⟨by first | rfl | (simp [errW_none, errW_some] <;> rfl) | (simp [*, errW_none, errW_some] <;> rfl), by repeat (first | (with_reducible first | exact HB.out | apply below_alloc | apply pw_below_drewN | apply below_drew1 | refine below_set ?_ GE60001.out | refine below_set ?_ GE60002.out) | exact HB.out)⟩
  · rw [if_neg c3] at H
    have c3b0 : (a0_0 == a1_0) = false := beq_eq_false_iff_ne.mpr c3
    have c3b1 : (a0_0 != a1_0) = true := bne_iff_ne.mpr c3
    obtain rfl := Option.some.inj H
    go_enter Try.func60, Try.ntmps60
    go_wp2_with (first | ((with_reducible refine gate_dst (N := 2) rfl ?_); refine box_event ?hg (N := 2) ?hd (cs := #[.int .i64 a0_0, .slice A0_1 l0_1.length c0_1, .slice A0_2 l0_2.length c0_2]) (t := 80) ?hr ?_; (case hd => rfl); (case hg => rfl); (case hr => first | (go_simp; done) | (go_simp; rfl)); intro gb60001 hg w23 hbox hb; have n0_ := Aside0.mk (below_step (by repeat (first | (with_reducible first | exact HB.out | apply below_alloc | apply pw_below_drewN | apply below_drew1) | exact HB.out)) hb); have n1_ := Aside0.mk (hbox); have n2_ := Aside0.mk ((by rw [hg]; exact (below_size (by repeat (first | (with_reducible first | exact HB.out | apply below_alloc | apply pw_below_drewN | apply below_drew1) | exact HB.out))) : w.heap.size ≤ gb60001)); have n3_ := Aside0.mk ((by rw [hg]; exact (below_size (by repeat (first | (with_reducible first | exact HB.out | apply below_alloc | apply pw_below_drewN | apply below_drew1) | exact HB.out))) : w.heap.size ≤ gb60001)); clear HB; have HB := n0_; have BK60001 := n1_; have GW60001 := n2_; have GE60001 := n3_; clear n0_ n1_ n2_ n3_; clear hb hbox hg) | ((with_reducible refine gate_dst (N := 3) rfl ?_); refine box_event ?hg (N := 3) ?hd (cs := #[.int .i64 a1_0, .slice A1_1 l1_1.length c1_1, .slice A1_2 l1_2.length c1_2]) (t := 80) ?hr ?_; (case hd => rfl); (case hg => rfl); (case hr => first | (go_simp; done) | (go_simp; rfl)); intro gb60002 hg w24 hbox hb; have n0_ := Aside0.mk (blk_below (g := gb60001) (o := .cells #[.int .i64 a0_0, .slice A0_1 l0_1.length c0_1, .slice A0_2 l0_2.length c0_2] 80 (0, 0)) (by (with_reducible repeat (first | refine blk_drewN ?_ _ | refine blk_drew ?_ | refine blk_alloc ?_ _)); exact BK60001.out) hb); have n1_ := Aside0.mk (below_step (by repeat (first | (with_reducible first | exact HB.out | apply below_alloc | apply pw_below_drewN | apply below_drew1 | refine below_set ?_ GE60001.out) | exact HB.out)) hb); have n2_ := Aside0.mk (hbox); have n3_ := Aside0.mk ((by rw [hg]; exact (below_size (by repeat (first | (with_reducible first | exact HB.out | apply below_alloc | apply pw_below_drewN | apply below_drew1 | refine below_set ?_ GE60001.out) | exact HB.out))) : w.heap.size ≤ gb60002)); have n4_ := Aside0.mk ((by rw [hg]; exact (below_size (by repeat (first | (with_reducible first | exact HB.out | apply below_alloc | apply pw_below_drewN | apply below_drew1 | refine below_set ?_ GE60001.out) | exact HB.out))) : w.heap.size ≤ gb60002)); have n5_ := Aside0.mk ((by rw [hg]; exact Nat.ne_of_lt (blk_lt (g := gb60001) (o := .cells #[.int .i64 a0_0, .slice A0_1 l0_1.length c0_1, .slice A0_2 l0_2.length c0_2] 80 (0, 0)) (by (with_reducible repeat (first | refine blk_drewN ?_ _ | refine blk_drew ?_ | refine blk_alloc ?_ _)); exact BK60001.out)) : gb60001 ≠ gb60002)); have n6_ := Aside0.mk ((by rw [hg]; exact Nat.ne_of_gt (blk_lt (g := gb60001) (o := .cells #[.int .i64 a0_0, .slice A0_1 l0_1.length c0_1, .slice A0_2 l0_2.length c0_2] 80 (0, 0)) (by (with_reducible repeat (first | refine blk_drewN ?_ _ | refine blk_drew ?_ | refine blk_alloc ?_ _)); exact BK60001.out)) : gb60002 ≠ gb60001)); clear BK60001; clear HB; have BK60001 := n0_; have HB := n1_; have BK60002 := n2_; have GW60002 := n3_; have GE60002 := n4_; have NB60001_60002 := n5_; have NB60002_60001 := n6_; clear n0_ n1_ n2_ n3_ n4_ n5_ n6_; clear hb hbox hg; have hnb25 := NB60001_60002.out; have hnc25 := NB60002_60001.out; have hcz26_0 : w24.cell? ⟨gb60001, 0, none⟩ = some (.int .i64 a0_0) := (blk_cell BK60001.out 0).trans rfl; have hcz26_1 : w24.cell? ⟨gb60001, 1, none⟩ = some (.slice A0_1 l0_1.length c0_1) := (blk_cell BK60001.out 1).trans rfl; have hcz26_2 : w24.cell? ⟨gb60001, 2, none⟩ = some (.slice A0_2 l0_2.length c0_2) := (blk_cell BK60001.out 2).trans rfl; have hfz26_0 := blk_frozen BK60001.out 0; have hfz26_1 := blk_frozen BK60001.out 1; have hfz26_2 := blk_frozen BK60001.out 2; have hcz27_0 : w24.cell? ⟨gb60002, 0, none⟩ = some (.int .i64 a1_0) := (blk_cell BK60002.out 0).trans rfl; have hcz27_1 : w24.cell? ⟨gb60002, 1, none⟩ = some (.slice A1_1 l1_1.length c1_1) := (blk_cell BK60002.out 1).trans rfl; have hcz27_2 : w24.cell? ⟨gb60002, 2, none⟩ = some (.slice A1_2 l1_2.length c1_2) := (blk_cell BK60002.out 2).trans rfl; have hfz27_0 := blk_frozen BK60002.out 0; have hfz27_1 := blk_frozen BK60002.out 1; have hfz27_2 := blk_frozen BK60002.out 2))
    go_ret
    exact ⟨by first | rfl | (simp [errW_none, errW_some] <;> rfl) | (simp [*, errW_none, errW_some] <;> rfl), by repeat (first | (with_reducible first | exact HB.out | apply below_alloc | apply pw_below_drewN | apply below_drew1 | refine below_set ?_ GE60001.out | refine below_set ?_ GE60002.out) | exact HB.out)⟩

end Go.Proofs.Ytpoffpdaadhkgaa.Pr

namespace Go.Proofs.Ytpoffpdaadhkgaa.Pr
open Go.RowKit Go.Proofs.YtpoffpdaadhkgaaW.PrintWords Go.Proofs.Ytpoffpdaadhkgaa.Ni
theorem toIntS_f (l : List Int) (hl : l.length ≤ 35184372088832) (k : Nat) (hk : 2 ^ 64 ≤ k) : laws_toIntS.f k l = some l := by
  have key := loop_up l.length (fun k i => laws_toIntS.l0 k l (l.take i ++ List.replicate (l.length - i) 0) (i : Int) = some l) 0
    (fun k _ => by simp [laws_toIntS.l0])
    (fun k i _ hi ih => by
      simp only [laws_toIntS.l0]
      rw [if_pos (by omega), if_pos (by omega), if_pos (by simp; omega), wrap_nat hi (by omega), Int.toNat_natCast, set_step l 0 0 i hi _ (rd_nat l i)]
      exact ih) 0 k (Nat.zero_le _) (by omega)
  unfold laws_toIntS.f
  rw [if_pos (by omega), if_pos (by omega), Int.toNat_natCast]
  simpa using key
theorem eqIntS_f (l m : List Int) (hl : l.length ≤ 9223372036854775807) (k : Nat) (hk : 2 ^ 64 ≤ k) : laws_eqIntS.f k l m = some (decide (l = m)) := by
  unfold laws_eqIntS.f
  by_cases e : l.length = m.length
  · rw [if_pos (by omega)]
    have key := loop_up l.length (fun k i => laws_eqIntS.l0 k l m (i : Int) = some (decide (l.drop i = m.drop i))) 0
      (fun k _ => by
        simp only [laws_eqIntS.l0]
        rw [if_neg (by omega), List.drop_of_length_le (Nat.le_refl _), List.drop_of_length_le (by omega)]
        simp)
      (fun k i _ hi ih => by
        simp only [laws_eqIntS.l0]
        rw [if_pos (by omega), if_pos (by omega), if_pos (by omega), rd_nat, rd_nat, wrap_nat hi (by omega), drop_cons hi 0, drop_cons (show i < m.length by omega) 0]
        by_cases h : l.getD i 0 = m.getD i 0
        · rw [if_pos h, ih, h]; simp
        · rw [if_neg h]
          simp only [List.cons.injEq, h, false_and, decide_false]) 0 k (Nat.zero_le _) (by omega)
    simpa using key
  · rw [if_neg (by omega)]
    have : l ≠ m := fun h => e (by rw [h])
    simp [this]
theorem eqIntS_refl (l : List Int) (hl : l.length ≤ 9223372036854775807) (k : Nat) (hk : 2 ^ 64 ≤ k) : laws_eqIntS.f k l l = some true := by
  rw [eqIntS_f l l hl k hk]; simp
end Go.Proofs.Ytpoffpdaadhkgaa.Pr

namespace Go.Proofs.Ytpoffpdaadhkgaa.Pr
open Go.RowKit Go.Proofs.YtpoffpdaadhkgaaW.PrintWords Go.Proofs.Ytpoffpdaadhkgaa.Ni
theorem szIntS_f (l : List Int) (hl : l.length ≤ 9223372036854775807) (a : Int) (h0 : 0 ≤ a) (h1 : a ≤ 1048576) : laws_szIntS.f l a = some (if a - l.length < 0 then -1 else a - l.length) := by
  unfold laws_szIntS.f
  rw [wrap_id (by omega) (by omega)]
  split <;> rfl
theorem szNode_f (s : ByteArray) (l : List Int) (n : Int) (hs : s.size ≤ 9223372036854775807) (hl : l.length ≤ 9223372036854775807) (a : Int) (h0 : 0 ≤ a) (h1 : a ≤ 1048576) :
    ∃ r, laws_szNode.f s l n a = some r ∧ (r < 0 ∨ (0 ≤ r ∧ r ≤ a ∧ s.size ≤ 1048576 ∧ l.length ≤ 1048576)) := by
  unfold laws_szNode.f
  rw [wrap_id (by omega) (by omega)]
  by_cases h : a - (s.size : Int) < 0
  · rw [if_pos h]; exact ⟨_, rfl, .inl (by omega)⟩
  · rw [if_neg h, szIntS_f l hl _ (by omega) (by omega), Option.bind_some]
    by_cases h2 : a - (s.size : Int) - l.length < 0
    · rw [if_pos h2, if_pos (by omega)]; exact ⟨_, rfl, .inl (by omega)⟩
    · rw [if_neg h2, if_neg h2]; exact ⟨_, rfl, .inr ⟨by omega, by omega, by omega, by omega⟩⟩
theorem toNode_f (s : ByteArray) (l : List Int) (n : Int) (hl : l.length ≤ 35184372088832) (k : Nat) (hk : 2 ^ 64 ≤ k) : laws_toNode.f k s l n = some (s, l, n) := by
  unfold laws_toNode.f
  rw [toIntS_f l hl k hk]; rfl
theorem eqNode_refl (s : ByteArray) (l : List Int) (n : Int) (hl : l.length ≤ 9223372036854775807) (k : Nat) (hk : 2 ^ 64 ≤ k) : laws_eqNode.f k s l n s l n = some true := by
  unfold laws_eqNode.f
  rw [if_pos rfl, eqIntS_refl l hl k hk, Option.bind_some, if_pos rfl, if_pos rfl]
end Go.Proofs.Ytpoffpdaadhkgaa.Pr

namespace Go.Proofs.Ytpoffpdaadhkgaa.Pr
open Go.RowKit Go.Proofs.YtpoffpdaadhkgaaW.PrintWords Go.Proofs.Ytpoffpdaadhkgaa.Ni
theorem szNodeS_l (l : List LNode) (hl : l.length ≤ 9223372036854775807) (hb : ∀ n ∈ l, n.f0.size ≤ 9223372036854775807 ∧ n.f1.length ≤ 9223372036854775807) (k : Nat) (hk : 2 ^ 64 ≤ k) :
    ∀ a : Int, 0 ≤ a → a ≤ 1048576 → ∃ r, laws_szNodeS.l0 k l a 0 = some r ∧ (r < 0 ∨ (0 ≤ r ∧ r ≤ a ∧ ∀ n ∈ l, n.f0.size ≤ 1048576 ∧ n.f1.length ≤ 1048576)) := by
  have key := loop_up l.length (fun k i => ∀ a : Int, 0 ≤ a → a ≤ 1048576 → ∃ r, laws_szNodeS.l0 k l a (i : Int) = some r ∧ (r < 0 ∨ (0 ≤ r ∧ r ≤ a ∧ ∀ n ∈ l.drop i, n.f0.size ≤ 1048576 ∧ n.f1.length ≤ 1048576))) 0
    (fun k _ a h0 h1 => ⟨a, by simp [laws_szNodeS.l0], .inr ⟨h0, Int.le_refl _, by simp⟩⟩)
    (fun k i _ hi ih a h0 h1 => by
      simp only [laws_szNodeS.l0]
      rw [if_pos (by omega), if_pos (by omega), rdLN_nat, wrap_nat hi (by omega)]
      have hm := hb _ (getD_mem hi z159)
      obtain ⟨r, hr, h⟩ := szNode_f (l.getD i z159).f0 (l.getD i z159).f1 (l.getD i z159).f2 hm.1 hm.2 a h0 h1
      rw [hr, Option.bind_some]
      rcases h with h | ⟨h2, h3, h4, h5⟩
      · rw [if_pos h]; exact ⟨_, rfl, .inl (by omega)⟩
      · rw [if_neg (by omega)]
        obtain ⟨q, hq, h⟩ := ih r h2 (by omega)
        refine ⟨q, hq, ?_⟩
        rcases h with h | ⟨h6, h7, h8⟩
        · exact .inl h
        · refine .inr ⟨h6, by omega, ?_⟩
          rw [drop_cons hi z159]
          intro n hn
          rcases List.mem_cons.1 hn with rfl | hn
          · exact ⟨h4, h5⟩
          · exact h8 n hn) 0 k (Nat.zero_le _) (by omega)
  intro a h0 h1
  simpa using key a h0 h1
theorem szShow_f (ns : List LNode) (ts : List LTie) (z : Int) (hn : ns.length ≤ 9223372036854775807) (hb : ∀ n ∈ ns, n.f0.size ≤ 9223372036854775807 ∧ n.f1.length ≤ 9223372036854775807) (ht : ts.length ≤ 9223372036854775807) (k : Nat) (hk : 2 ^ 64 ≤ k) (a : Int) (h0 : 0 ≤ a) (h1 : a ≤ 1048576) :
    ∃ r, laws_szShow.f k ns ts z a = some r ∧ (r < 0 ∨ (0 ≤ r ∧ r ≤ a ∧ SmallShow ns ts)) := by
  unfold laws_szShow.f laws_szNodeS.f
  rw [wrap_id (by omega) (by omega)]
  by_cases h : a - (ns.length : Int) < 0
  · rw [if_pos h, Option.bind_some, if_pos (by omega)]; exact ⟨_, rfl, .inl (by omega)⟩
  · rw [if_neg h]
    obtain ⟨r, hr, h⟩ := szNodeS_l ns hn hb k hk (a - ns.length) (by omega) (by omega)
    rw [hr, Option.bind_some]
    rcases h with h | ⟨h2, h3, h4⟩
    · rw [if_pos h]; exact ⟨_, rfl, .inl (by omega)⟩
    · rw [if_neg (by omega)]
      unfold laws_szTieS.f
      rw [wrap_id (by omega) (by omega)]
      by_cases h5 : r - (ts.length : Int) < 0
      · rw [if_pos h5, Option.bind_some, if_pos (by omega)]; exact ⟨_, rfl, .inl (by omega)⟩
      · rw [if_neg h5, Option.bind_some, if_neg h5]; exact ⟨_, rfl, .inr ⟨by omega, by omega, by omega, by omega, h4⟩⟩
theorem toNodeS_f (l : List LNode) (hl : l.length ≤ 1048576) (hb : ∀ n ∈ l, n.f0.size ≤ 1048576 ∧ n.f1.length ≤ 1048576) (k : Nat) (hk : 2 ^ 65 ≤ k) : laws_toNodeS.f k l = some (l.map cvN) := by
  have key := loop_up l.length (fun k i => laws_toNodeS.l0 k l ((l.map cvN).take i ++ List.replicate ((l.map cvN).length - i) z120) (i : Int) = some (l.map cvN)) (2 ^ 64)
    (fun k _ => by simp [laws_toNodeS.l0]; rw [List.take_of_length_le (by simp)])
    (fun k i hk hi ih => by
      simp only [laws_toNodeS.l0]
      have hm := hb _ (getD_mem hi z159)
      rw [if_pos (by omega), if_pos (by omega), rdLN_nat, toNode_f _ _ _ (by omega) k hk, Option.bind_some, if_pos (by simp; omega), wrap_nat hi (by omega), Int.toNat_natCast, set_step (l.map cvN) _ z120 i (by simpa using hi) _ (by rw [getD_map cvN l i z159 z120 zN]; rfl)]
      exact ih) 0 k (Nat.zero_le _) (by omega)
  unfold laws_toNodeS.f
  rw [if_pos (by omega), if_pos (by omega), Int.toNat_natCast]
  simpa using key
theorem toTieS_f (l : List LTie) (hl : l.length ≤ 1048576) (k : Nat) (hk : 2 ^ 64 ≤ k) : laws_toTieS.f k l = some (l.map cvT) := by
  have key := loop_up l.length (fun k i => laws_toTieS.l0 k l ((l.map cvT).take i ++ List.replicate ((l.map cvT).length - i) z126) (i : Int) = some (l.map cvT)) 0
    (fun k _ => by simp [laws_toTieS.l0]; rw [List.take_of_length_le (by simp)])
    (fun k i hk hi ih => by
      simp only [laws_toTieS.l0, laws_toTie.f]
      rw [if_pos (by omega), if_pos (by omega), rdLT_nat, Option.bind_some, if_pos (by simp; omega), wrap_nat hi (by omega), Int.toNat_natCast, set_step (l.map cvT) _ z126 i (by simpa using hi) _ (by rw [getD_map cvT l i z165 z126 zT]; rfl)]
      exact ih) 0 k (Nat.zero_le _) (by omega)
  unfold laws_toTieS.f
  rw [if_pos (by omega), if_pos (by omega), Int.toNat_natCast]
  simpa using key
theorem toShow_f (ns : List LNode) (ts : List LTie) (z : Int) (h : SmallShow ns ts) (k : Nat) (hk : 2 ^ 65 ≤ k) : laws_toShow.f k ns ts z = some (ns.map cvN, ts.map cvT, z) := by
  unfold laws_toShow.f
  rw [toNodeS_f ns h.1 h.2.2 k hk, Option.bind_some, toTieS_f ts h.2.1 k (by omega)]; rfl
theorem eqNodeS_refl (l : List PNode) (hl : l.length ≤ 1048576) (hb : ∀ n ∈ l, n.f0.size ≤ 1048576 ∧ n.f1.length ≤ 1048576) (k : Nat) (hk : 2 ^ 65 ≤ k) : laws_eqNodeS.f k l l = some true := by
  have key := loop_up l.length (fun k i => laws_eqNodeS.l0 k l l (i : Int) = some true) (2 ^ 64)
    (fun k _ => by simp [laws_eqNodeS.l0])
    (fun k i hk hi ih => by
      simp only [laws_eqNodeS.l0]
      have hm := hb _ (getD_mem hi z120)
      rw [if_pos (by omega), if_pos (by omega), if_pos (by omega), rdN_nat, eqNode_refl _ _ _ (by omega) k hk, Option.bind_some, if_pos rfl, wrap_nat hi (by omega)]
      exact ih) 0 k (Nat.zero_le _) (by omega)
  unfold laws_eqNodeS.f
  rw [if_pos rfl]
  simpa using key
theorem eqTieS_refl (l : List PTie) (hl : l.length ≤ 1048576) (k : Nat) (hk : 2 ^ 64 ≤ k) : laws_eqTieS.f k l l = some true := by
  have key := loop_up l.length (fun k i => laws_eqTieS.l0 k l l (i : Int) = some true) 0
    (fun k _ => by simp [laws_eqTieS.l0])
    (fun k i hk hi ih => by
      simp only [laws_eqTieS.l0, laws_eqTie.f]
      rw [if_pos (by omega), if_pos (by omega), if_pos (by omega), wrap_nat hi (by omega), ih]
      simp) 0 k (Nat.zero_le _) (by omega)
  unfold laws_eqTieS.f
  rw [if_pos rfl]
  simpa using key
theorem eqShow_refl (ns : List PNode) (ts : List PTie) (z : Int) (h : SmallP ns ts) (k : Nat) (hk : 2 ^ 65 ≤ k) : laws_eqShow.f k ns ts z ns ts z = some true := by
  unfold laws_eqShow.f
  rw [eqNodeS_refl ns h.1 h.2.2 k hk, Option.bind_some, if_pos rfl, eqTieS_refl ts h.2.1 k (by omega), Option.bind_some, if_pos rfl, if_pos rfl]
end Go.Proofs.Ytpoffpdaadhkgaa.Pr

namespace Go.Proofs.Ytpoffpdaadhkgaa.Pr
open Go.RowKit Go.Proofs.YtpoffpdaadhkgaaW.PrintWords Go.Proofs.Ytpoffpdaadhkgaa.Ni
theorem szState_f (n : Int) (t v : List Int) (ht : t.length ≤ 9223372036854775807) (hv : v.length ≤ 9223372036854775807) (a : Int) (h0 : 0 ≤ a) (h1 : a ≤ 1048576) :
    ∃ r, laws_szState.f n t v a = some r ∧ (r < 0 ∨ (0 ≤ r ∧ r ≤ a ∧ t.length ≤ 1048576 ∧ v.length ≤ 1048576)) := by
  have sz : ∀ (l : List Int), l.length ≤ 9223372036854775807 → ∀ a : Int, 0 ≤ a → a ≤ 1048576 → laws_szIntS.f l a = some (if a - l.length < 0 then -1 else a - l.length) := by
    intro l hl a h0 h1
    unfold laws_szIntS.f
    rw [wrap_id (by omega) (by omega)]
    split <;> rfl
  unfold laws_szState.f
  rw [sz t ht a h0 h1, Option.bind_some]
  by_cases h : a - (t.length : Int) < 0
  · rw [if_pos h, if_pos (by omega)]; exact ⟨_, rfl, .inl (by omega)⟩
  · rw [if_neg h, if_neg h, sz v hv _ (by omega) (by omega), Option.bind_some]
    by_cases h2 : a - (t.length : Int) - v.length < 0
    · rw [if_pos h2, if_pos (by omega)]; exact ⟨_, rfl, .inl (by omega)⟩
    · rw [if_neg h2, if_neg h2]; exact ⟨_, rfl, .inr ⟨by omega, by omega, by omega, by omega⟩⟩
theorem toState_f (n : Int) (t v : List Int) (ht : t.length ≤ 35184372088832) (hv : v.length ≤ 35184372088832) (k : Nat) (hk : 2 ^ 64 ≤ k) : laws_toState.f k n t v = some (n, t, v) := by
  unfold laws_toState.f
  rw [toIntS_f t ht k hk, Option.bind_some, toIntS_f v hv k hk]; rfl
theorem eqState_refl (n : Int) (t v : List Int) (ht : t.length ≤ 9223372036854775807) (hv : v.length ≤ 9223372036854775807) (k : Nat) (hk : 2 ^ 64 ≤ k) : laws_eqState.f k n t v n t v = some true := by
  unfold laws_eqState.f
  rw [if_pos rfl, eqIntS_refl t ht k hk, Option.bind_some, if_pos rfl, eqIntS_refl v hv k hk, Option.bind_some, if_pos rfl]
end Go.Proofs.Ytpoffpdaadhkgaa.Pr

namespace Go.Proofs.Ytpoffpdaadhkgaa.Pr
open Go.RowKit Go.Proofs.YtpoffpdaadhkgaaW.PrintWords Go.Proofs.Ytpoffpdaadhkgaa.Ni
theorem idx_at {α : Type} (p : α → Bool) (l : List α) (i : Nat) (x : α) (h : l[i]? = some x) (hx : p x = true) : decide (idxOf p l = (i : Int)) = (l.take i).all (fun y => !p y) := by
  have hi : i < l.length := by
    rcases Nat.lt_or_ge i l.length with h' | h'
    · exact h'
    · rw [List.getElem?_eq_none h'] at h; exact absurd h (by simp)
  by_cases ha : (l.take i).all (fun y => !p y) = true
  · rw [ha, decide_eq_true_eq]
    refine idxOf_hit p l i x h hx fun j y hj hy => ?_
    have := List.all_eq_true.1 ha y (List.mem_of_getElem? (i := j) (by rw [List.getElem?_take_of_lt hj]; exact hy))
    simpa using this
  · rw [Bool.eq_false_iff.2 ha, decide_eq_false_iff_not]
    intro e
    apply ha
    rw [List.all_eq_true]
    intro y hy
    obtain ⟨j, hj, rfl⟩ := List.mem_iff_getElem.1 hy
    have hj' : j < i := by rw [List.length_take] at hj; omega
    unfold idxOf at e
    cases hf : l.findIdx? p with
    | none => rw [hf] at e; simp only at e; omega
    | some m =>
      rw [hf] at e
      have : m = i := by simp only at e; omega
      subst this
      obtain ⟨_, _, h3⟩ := List.findIdx?_eq_some_iff_getElem.1 hf
      have := h3 j hj'
      rw [List.getElem_take]
      simpa using this
theorem all_pair {α : Type} (a b : α → Bool) (c : Bool) (l : List α) : l.all (fun m => a m && (c || b m)) = (l.all a && (c || l.all b)) := by
  induction l with
  | nil => simp
  | cons x l ih => rw [List.all_cons, List.all_cons, List.all_cons, ih]; cases a x <;> cases b x <;> cases c <;> simp
theorem bne_dec (a b : Int) : (!(a != b)) = decide (a = b) := by rw [Bool.eq_iff_iff]; simp
theorem snodeC_at {ns : List PNode} {i : Nat} (h : i < ns.length) : snodeC ns (rd_T120 ns (i : Int)) i = nodeAt ns i := by
  rw [rdN_nat]
  unfold snodeC nodeAt
  have hs := getD_some h z120
  generalize ns.getD i z120 = y at hs
  rw [bne_dec, bne_dec, bne_dec, namedI, watchI, idx_at _ ns i y hs (decide_eq_true rfl), idx_at _ ns i y hs (decide_eq_true rfl), Bool.and_assoc, ← all_pair]
  rfl
theorem snodes_from {ns : List PNode} : ∀ (d i : Nat), i + d = ns.length → snodesFrom ns i d = nodesFrom ns i d
  | 0, _, _ => rfl
  | d + 1, i, h => by rw [snodesFrom, nodesFrom, snodeC_at (by omega), snodes_from d (i + 1) (by omega)]
theorem watch_same (ns : List PNode) {p : Int} (hp : 0 < p) : pwatchI ns p = watchI ns p := by
  unfold pwatchI watchI
  rw [decide_eq_true hp]
  simp only [Bool.true_and]
theorem watched_same (ns : List PNode) (lb : List Int) {x : Int} (hx : litOk x = true) : watchedB ns lb x = swatchB ns lb x := by
  unfold watchedB watchedC swatchB swatchC hasB
  rw [watch_same ns (by have := prp_pos hx; omega)]
  congr 3
  rw [Bool.eq_iff_iff]; simp
theorem nodeW_same {ns : List PNode} {n : PNode} (h : ∀ x ∈ n.f1, litOk x = true) : nodeW ns n = snodeW ns n := by
  unfold nodeW snodeW
  rw [Bool.eq_iff_iff, Bool.not_eq_true', List.any_eq_false, List.all_eq_true]
  constructor
  · intro hh x hx
    have := hh x hx
    rw [← watched_same ns _ (h x hx)]; simpa using this
  · intro hh x hx
    have := hh x hx
    rw [← watched_same ns _ (h x hx)] at this; simpa using this
theorem nodes_same (ns : List PNode) : snodesB ns = (areNodesB ns && ns.all (nodeW ns)) := by
  have e : snodesB ns = (areNodesB ns && ns.all (snodeW ns)) := by
    unfold snodesB areNodesB inB
    rw [snodes_from ns.length 0 (by omega), bne_dec, show rd_T120 ns 0 = ns.getD 0 z120 from rdN_nat ns 0]
    rw [show (decide ((1 : Int) ≤ (ns.length : Int)) && decide ((ns.length : Int) ≤ 7)) = (decide (1 ≤ ns.length) && decide (ns.length ≤ 7)) by rw [Bool.eq_iff_iff]; simp only [Bool.and_eq_true, decide_eq_true_eq]; omega]
    rw [show (!(decide (((ns.getD 0 z120).f1.length : Int) > 0))) = decide ((ns.getD 0 z120).f1.length = 0) by rw [Bool.eq_iff_iff]; simp only [Bool.not_eq_true', decide_eq_true_eq, decide_eq_false_iff_not]; omega]
  rw [e]
  cases h : areNodesB ns with
  | false => rfl
  | true =>
    rw [Bool.true_and, Bool.true_and, Bool.eq_iff_iff, List.all_eq_true, List.all_eq_true]
    constructor
    · intro hh n hn; rw [nodeW_same (areNodesB_lit h n hn)]; exact hh n hn
    · intro hh n hn; rw [← nodeW_same (areNodesB_lit h n hn)]; exact hh n hn
def stiesFrom (ns : List PNode) (ts : List PTie) (i : Nat) : Nat → Bool
  | 0 => true
  | d + 1 => tieB ns ts i && stiesFrom ns ts (i + 1) d
theorem in_same (n : Nat) (x : Int) : inB x 0 ((n : Int) - 1) = nodeIn n x := by
  unfold inB nodeIn
  rw [Bool.eq_iff_iff]; simp; omega
theorem tie_same {ns : List PNode} {ts : List PTie} {i : Nat} (h : i < ts.length) : tieB ns ts i = ptieB ns ts i := by
  unfold tieB ptieB
  have hs := getD_some h z126
  rw [rdT_nat]
  generalize ts.getD i z126 = t at hs
  obtain ⟨tf, tt, tl, th, tb⟩ := t
  show tieC tf tt tl th tb ns ts i = ptieC tf tt tl th tb ns ts i
  unfold tieC ptieC spanB
  rw [in_same, in_same]
  cases tb with
  | false =>
    rw [Bool.eq_iff_iff]
    simp only [Bool.not_false, Bool.true_or, Bool.and_true, Bool.and_eq_true, Bool.not_eq_true', beq_eq_false_iff_ne, decide_eq_true_eq, decide_eq_false_iff_not]
    constructor
    · rintro ⟨⟨⟨⟨⟨a1, a2⟩, a3⟩, a4⟩, a5⟩, a6⟩
      exact ⟨⟨⟨⟨⟨a1, a2⟩, a3⟩, by omega, by omega⟩, by omega, by omega⟩, a6⟩
    · rintro ⟨⟨⟨⟨⟨a1, a2⟩, a3⟩, a4, a5⟩, a6, a7⟩, a8⟩
      exact ⟨⟨⟨⟨⟨a1, a2⟩, a3⟩, by omega⟩, by omega⟩, a8⟩
  | true =>
    have hf : (freeI ts tt == (i : Int)) = !((ts.take i).any fun u => u.f4 && decide (u.f1 = tt)) := by
      rw [show (freeI ts tt == (i : Int)) = decide (freeI ts tt = (i : Int)) by rw [Bool.eq_iff_iff]; simp, freeI, idx_at _ ts i _ hs (by simp), Bool.eq_iff_iff]
      simp
      exact forall_congr' fun x => forall_congr' fun _ => by cases x.f4 <;> simp
    rw [hf]
    rw [Bool.eq_iff_iff]
    simp only [Bool.not_true, Bool.false_or, Bool.and_eq_true, Bool.not_eq_true', beq_eq_false_iff_ne, decide_eq_true_eq, decide_eq_false_iff_not, beq_iff_eq, bne_eq_false_iff_eq]
    constructor
    · rintro ⟨⟨⟨⟨⟨⟨a1, a2⟩, a3⟩, a4⟩, a5⟩, a6⟩, ⟨⟨⟨⟨b1, b2⟩, b3⟩, b4⟩, b5⟩⟩
      exact ⟨⟨⟨⟨⟨⟨a1, a2⟩, a3⟩, by omega, by omega⟩, by omega, by omega⟩, a6⟩, ⟨⟨⟨⟨by omega, b2⟩, b3⟩, b4.symm⟩, b5⟩⟩
    · rintro ⟨⟨⟨⟨⟨⟨a1, a2⟩, a3⟩, a4, a5⟩, a6, a7⟩, a8⟩, ⟨⟨⟨⟨b1, b2⟩, b3⟩, b4⟩, b5⟩⟩
      exact ⟨⟨⟨⟨⟨⟨a1, a2⟩, a3⟩, by omega⟩, by omega⟩, a8⟩, ⟨⟨⟨⟨by omega, b2⟩, b3⟩, b4.symm⟩, b5⟩⟩
theorem ties_from {ns : List PNode} {ts : List PTie} : ∀ (d i : Nat), i + d = ts.length → stiesFrom ns ts i d = tiesFrom ns ts i d
  | 0, _, _ => rfl
  | d + 1, i, h => by rw [stiesFrom, tiesFrom, tie_same (by omega), ties_from d (i + 1) (by omega)]
theorem spec_ShowOk_l (ns : List PNode) (ts : List PTie) (z : Int) (ht : ts.length ≤ 14) : ∀ (d i k : Nat), i + d = ts.length → d < k → spec_ShowOk.l0 k ts.length (i : Int) ns ts z = some (stiesFrom ns ts i d) := by
  intro d
  induction d with
  | zero =>
    intro i k hi hk
    obtain ⟨m, rfl⟩ : ∃ m, k = m + 1 := ⟨k - 1, by omega⟩
    simp only [spec_ShowOk.l0]
    rw [if_neg (by omega)]; rfl
  | succ d ih =>
    intro i k hi hk
    obtain ⟨m, rfl⟩ : ∃ m, k = m + 1 := ⟨k - 1, by omega⟩
    simp only [spec_ShowOk.l0]
    rw [if_pos (by omega), spec_l08Tie.f, if_pos (by omega), Option.bind_some, stiesFrom, wrap_nat (n := ts.length) (by omega) (by omega), ih (i + 1) m (by omega) (by omega)]
    cases tieB ns ts i <;> rfl
theorem spec_ShowOk_f (ns : List PNode) (ts : List PTie) (z : Int) (hf : fitN ns = true) (k : Nat) (hk : 2 ^ 64 ≤ k) : spec_ShowOk.f k ns ts z = some (pshowB ns ts z) := by
  obtain ⟨m, rfl⟩ : ∃ m, k = m + 1 := ⟨k - 1, by omega⟩
  unfold spec_ShowOk.f spec_l08Nodes.f pshowB areTiesB
  rw [if_pos hf, Option.bind_some, nodes_same]
  simp only [spec_ShowOk.j0, l01In_f, Option.bind_some, if_true]
  cases h1 : areNodesB ns with
  | false => rfl
  | true =>
    cases h2 : ns.all (nodeW ns) with
    | false => simp
    | true =>
      rw [Bool.and_true, if_pos rfl]
      by_cases h3 : (ts.length : Int) > 14
      · rw [if_pos h3, decide_eq_false (show ¬ ts.length ≤ 14 by omega)]; simp
      · rw [if_neg h3, decide_eq_true (show ts.length ≤ 14 by omega)]
        have hl := spec_ShowOk_l ns ts z (by omega) ts.length 0 m (by omega) (by omega)
        rw [show ((0 : Nat) : Int) = 0 from rfl] at hl
        rw [hl, ties_from _ _ (by omega)]
        by_cases h4 : z < 1
        · rw [show inB z 1 10 = false by unfold inB; rw [decide_eq_false (show ¬ (1 : Int) ≤ z by omega)]; rfl, decide_eq_true h4]; simp
        · by_cases h5 : 10 < z
          · rw [show inB z 1 10 = false by unfold inB; rw [decide_eq_false (show ¬ z ≤ (10 : Int) by omega)]; simp, decide_eq_true h5]; simp
          · rw [show inB z 1 10 = true by unfold inB; rw [decide_eq_true (show (1 : Int) ≤ z by omega), decide_eq_true (show z ≤ (10 : Int) by omega)]; rfl, decide_eq_false h4, decide_eq_false h5]; simp
theorem fitN_of {ns : List PNode} {ts : List PTie} (h : SmallP ns ts) : fitN ns = true := by
  unfold fitN
  rw [List.all_eq_true]
  intro n hn
  have := h.2.2 n hn
  simp; omega
theorem impl_ShowOk_f {ns : List PNode} {ts : List PTie} {z : Int} (hf : fitN ns = true) : impl_ShowOk.f ns ts z = some (pshowB ns ts z) := by
  unfold impl_ShowOk.f
  rw [if_pos hf]
end Go.Proofs.Ytpoffpdaadhkgaa.Pr

namespace Go.Proofs.Ytpoffpdaadhkgaa.Pr
open Go.RowKit Go.Proofs.YtpoffpdaadhkgaaW.PrintWords Go.Proofs.Ytpoffpdaadhkgaa.Ni
theorem pshowB_nodes {ns : List PNode} {ts : List PTie} {z : Int} (h : pshowB ns ts z = true) : areNodesB ns = true := by
  unfold pshowB at h
  simp only [Bool.and_eq_true] at h
  exact h.1.1.1.1
theorem pshowB_ties {ns : List PNode} {ts : List PTie} {z : Int} (h : pshowB ns ts z = true) : areTiesB ns ts = true := by
  unfold pshowB at h
  simp only [Bool.and_eq_true] at h
  exact h.1.1.1.2
theorem nodes_watch {ns : List PNode} (h : areNodesB ns = true) : ∀ n ∈ ns, 0 ≤ n.f2 ∧ n.f2 ≤ 3 := by
  intro n hn
  obtain ⟨j, hj, rfl⟩ := List.mem_iff_getElem.1 hn
  have := areNodesB_at h j hj
  unfold nodeAt nodeB at this
  rw [show ns.getD j z120 = ns[j] by rw [List.getD_eq_getElem?_getD, List.getElem?_eq_getElem hj]; rfl] at this
  simp only [Bool.and_eq_true, decide_eq_true_eq] at this
  exact this.1.2
theorem pwatch_out {ns : List PNode} (h : areNodesB ns = true) {p : Int} (hp : ¬ (1 ≤ p ∧ p ≤ 3)) : pwatchI ns p = -1 := by
  unfold pwatchI
  refine idxOf_miss _ _ fun j y _ hy => ?_
  have := nodes_watch h y (List.mem_of_getElem? hy)
  rw [Bool.eq_false_iff]
  intro hh
  simp only [Bool.and_eq_true, decide_eq_true_eq] at hh
  omega
end Go.Proofs.Ytpoffpdaadhkgaa.Pr

namespace Go.Proofs.Ytpoffpdaadhkgaa.Pr
open Go.RowKit Go.Proofs.YtpoffpdaadhkgaaW.PrintWords Go.Proofs.Ytpoffpdaadhkgaa.Ni
theorem isNode_f (n x : Int) : impl_isNode.f n x = some (nodeIn n x) := by
  unfold impl_isNode.f nodeIn
  by_cases h : x ≥ 0
  · rw [if_pos h, decide_eq_true (show (0 : Int) ≤ x from h), Bool.true_and]
  · rw [if_neg h, decide_eq_false (show ¬ (0 : Int) ≤ x from h), Bool.false_and]
theorem areNodesB_one {ns : List PNode} (h : areNodesB ns = true) : 1 ≤ ns.length := by
  unfold areNodesB at h
  simp only [Bool.and_eq_true, decide_eq_true_eq] at h
  exact h.1.1.1.1
end Go.Proofs.Ytpoffpdaadhkgaa.Pr

namespace Go.Proofs.Ytpoffpdaadhkgaa.Pr
open Go.RowKit Go.Proofs.YtpoffpdaadhkgaaW.PrintWords Go.Proofs.Ytpoffpdaadhkgaa.Ni
theorem spec_ValuesOk_f (l : List Int) (hl : l.length ≤ 9223372036854775807) (k : Nat) (hk : 2 ^ 64 ≤ k) : spec_ValuesOk.f k l = some (valsB l) := by
  have key := loop_up l.length (fun k i => spec_ValuesOk.l0 k l l l.length (i : Int) = some (decide (l.length = 3) && (l.drop i).all (fun n => decide (-1 ≤ n) && decide (n ≤ 1)))) 0
    (fun k _ => by
      simp only [spec_ValuesOk.l0]
      rw [if_neg (by omega), List.drop_of_length_le (Nat.le_refl _), List.all_nil, Bool.and_true]
      congr 1
      rw [Bool.eq_iff_iff, beq_iff_eq, decide_eq_true_eq]; omega)
    (fun k i _ hi ih => by
      simp only [spec_ValuesOk.l0]
      rw [if_pos (by omega), if_pos (by omega), if_pos (by omega), rd_nat, wrap_nat hi (by omega), drop_cons hi 0, List.all_cons]
      unfold spec_l01In.f
      by_cases h1 : l.getD i 0 ≥ -1
      · rw [if_pos h1, Option.bind_some]
        by_cases h2 : l.getD i 0 ≤ 1
        · rw [if_pos (by simpa using h2), ih, decide_eq_true (show (-1 : Int) ≤ l.getD i 0 from h1), decide_eq_true h2, Bool.true_and, Bool.true_and]
        · rw [if_neg (by simpa using h2), decide_eq_false h2, Bool.and_false, Bool.false_and, Bool.and_false]
      · rw [if_neg h1, Option.bind_some, if_neg (by decide), decide_eq_false (show ¬ (-1 : Int) ≤ l.getD i 0 from h1), Bool.false_and, Bool.false_and, Bool.and_false]) 0 k (Nat.zero_le _) (by omega)
  unfold spec_ValuesOk.f valsB
  simpa using key
end Go.Proofs.Ytpoffpdaadhkgaa.Pr

namespace Go.Proofs.Ytpoffpdaadhkgaa.Pr
open Go.RowKit Go.Proofs.YtpoffpdaadhkgaaW.PrintWords Go.Proofs.Ytpoffpdaadhkgaa.Ni
/-- A value and its watcher. -/
def wOkB (ns : List PNode) (tm vs : List Int) (i : Nat) : Bool := !((vs.getD i 0 != 0) != (decide (0 ≤ pwatchI ns ((i + 1 : Nat) : Int)) && (rd tm (pwatchI ns ((i + 1 : Nat) : Int)) != -1)))
def timeAt (now : Int) (i : Nat) (n : Int) : Bool := if i = 0 then decide (n = 0) else decide (-1 ≤ n) && decide (n ≤ now - 1)
def timesFrom (now : Int) : Nat → List Int → Bool
  | _, [] => true
  | i, n :: t => timeAt now i n && timesFrom now (i + 1) t
def wsB (ns : List PNode) (tm vs : List Int) : Bool := wOkB ns tm vs 0 && (wOkB ns tm vs 1 && wOkB ns tm vs 2)
def isStateB (ns : List PNode) (z now : Int) (tm vs : List Int) : Bool := decide (0 ≤ now) && (decide (now ≤ z + 1) && (decide (tm.length = ns.length) && (valsB vs && (timesFrom now 0 tm && wsB ns tm vs))))
def stateB (ns : List PNode) (ts : List PTie) (z now : Int) (tm vs : List Int) : Bool := pshowB ns ts z && isStateB ns z now tm vs
theorem pwatch_bd (ns : List PNode) (p : Int) : -1 ≤ pwatchI ns p ∧ pwatchI ns p < ns.length := idxOf_bd _ ns
theorem impl_st_w {ns : List PNode} {tm vs : List Int} (ts : List PTie) (z now : Int) (hv : vs.length = 3) (ht : tm.length = ns.length) (i : Nat) (hi : i < 3) (k : Nat) :
    impl_isState.l1 (k + 1) vs (vs.length : Int) (i : Int) ns ts z now tm vs = if wOkB ns tm vs i = true then impl_isState.l1 k vs (vs.length : Int) ((i + 1 : Nat) : Int) ns ts z now tm vs else some false := by
  have hbd := pwatch_bd ns ((i + 1 : Nat) : Int)
  simp only [impl_isState.l1, impl_watcher.f, Option.bind_some]
  rw [if_pos (by omega), if_pos (by omega), if_pos (by omega), wrap_nat (n := 3) hi (by omega), rd_nat]
  unfold wOkB
  by_cases h : pwatchI ns ((i + 1 : Nat) : Int) ≥ 0
  · rw [if_pos h, if_pos h, if_pos (by omega), decide_eq_true (show (0 : Int) ≤ _ from h), Bool.true_and]
    cases (vs.getD i 0 != 0) != (rd tm (pwatchI ns ((i + 1 : Nat) : Int)) != -1) <;> rfl
  · rw [if_neg h, decide_eq_false (show ¬ (0 : Int) ≤ _ from h), Bool.false_and]
    cases (vs.getD i 0 != 0) != false <;> rfl
theorem impl_st_l1 {ns : List PNode} {tm vs : List Int} (ts : List PTie) (z now : Int) (hv : vs.length = 3) (ht : tm.length = ns.length) (k : Nat) (hk : 4 ≤ k) : impl_isState.l1 k vs (vs.length : Int) 0 ns ts z now tm vs = some (wsB ns tm vs) := by
  obtain ⟨m, rfl⟩ : ∃ m, k = m + 1 + 1 + 1 + 1 := ⟨k - 4, by omega⟩
  have a0 := impl_st_w ts z now hv ht 0 (by omega) (m + 1 + 1 + 1)
  have a1 := impl_st_w ts z now hv ht 1 (by omega) (m + 1 + 1)
  have a2 := impl_st_w ts z now hv ht 2 (by omega) (m + 1)
  have a3 : impl_isState.l1 (m + 1) vs (vs.length : Int) ((2 + 1 : Nat) : Int) ns ts z now tm vs = some true := by
    simp only [impl_isState.l1]
    rw [if_neg (by omega)]
  rw [show ((0 : Nat) : Int) = 0 from rfl] at a0
  rw [a0, show ((0 + 1 : Nat) : Int) = ((1 : Nat) : Int) from rfl, a1, show ((1 + 1 : Nat) : Int) = ((2 : Nat) : Int) from rfl, a2, a3]
  unfold wsB
  cases wOkB ns tm vs 0 <;> cases wOkB ns tm vs 1 <;> cases wOkB ns tm vs 2 <;> rfl
theorem spec_st_w {ns : List PNode} {tm vs : List Int} (ts : List PTie) (z now : Int) (hl : ns.length ≤ 9223372036854775807) (hv : vs.length = 3) (ht : tm.length = ns.length) (i : Nat) (hi : i < 3) (k : Nat) (hk : 2 ^ 64 ≤ k) :
    spec_StateOk.l1 (k + 1) ((i + 1 : Nat) : Int) ns ts z now tm vs = if wOkB ns tm vs i = true then spec_StateOk.l1 k ((i + 1 + 1 : Nat) : Int) ns ts z now tm vs else some false := by
  have hbd := pwatch_bd ns ((i + 1 : Nat) : Int)
  simp only [spec_StateOk.l1]
  rw [if_pos (by omega), l08Watcher_f ns ts z _ hl k hk, Option.bind_some, ← watch_same ns (by omega), wrap_id (i := ((i + 1 : Nat) : Int) - 1) (by omega) (by omega), if_pos (by omega), if_pos (by omega), wrap_nat (i := i + 1) (n := 10) (by omega) (by omega), show ((i + 1 : Nat) : Int) - 1 = (i : Int) by omega, rd_nat]
  unfold wOkB
  by_cases h : pwatchI ns ((i + 1 : Nat) : Int) ≥ 0
  · rw [if_pos h, if_pos h, if_pos (by omega), decide_eq_true (show (0 : Int) ≤ _ from h), Bool.true_and]
    cases (vs.getD i 0 != 0) != (rd tm (pwatchI ns ((i + 1 : Nat) : Int)) != -1) <;> rfl
  · rw [if_neg h, decide_eq_false (show ¬ (0 : Int) ≤ _ from h), Bool.false_and]
    cases (vs.getD i 0 != 0) != false <;> rfl
theorem spec_st_l1 {ns : List PNode} {tm vs : List Int} (ts : List PTie) (z now : Int) (hl : ns.length ≤ 9223372036854775807) (hv : vs.length = 3) (ht : tm.length = ns.length) (k : Nat) (hk : 2 ^ 64 + 4 ≤ k) : spec_StateOk.l1 k 1 ns ts z now tm vs = some (wsB ns tm vs) := by
  obtain ⟨m, rfl⟩ : ∃ m, k = m + 1 + 1 + 1 + 1 := ⟨k - 4, by omega⟩
  have a0 := spec_st_w ts z now hl hv ht 0 (by omega) (m + 1 + 1 + 1) (by omega)
  have a1 := spec_st_w ts z now hl hv ht 1 (by omega) (m + 1 + 1) (by omega)
  have a2 := spec_st_w ts z now hl hv ht 2 (by omega) (m + 1) (by omega)
  have a3 : spec_StateOk.l1 (m + 1) ((2 + 1 + 1 : Nat) : Int) ns ts z now tm vs = some true := by
    simp only [spec_StateOk.l1]
    rw [if_neg (by omega)]
  rw [show ((0 + 1 : Nat) : Int) = 1 from rfl] at a0
  rw [a0, show ((0 + 1 + 1 : Nat) : Int) = ((1 + 1 : Nat) : Int) from rfl, a1, show ((1 + 1 + 1 : Nat) : Int) = ((2 + 1 : Nat) : Int) from rfl, a2, a3]
  unfold wsB
  cases wOkB ns tm vs 0 <;> cases wOkB ns tm vs 1 <;> cases wOkB ns tm vs 2 <;> rfl
theorem impl_st_l0 {ns : List PNode} {tm vs : List Int} (ts : List PTie) (z now : Int) (hn : 0 ≤ now) (hn2 : now ≤ 9223372036854775807) (hl : ns.length ≤ 1048576) (hv : vs.length = 3) (ht : tm.length = ns.length) (k : Nat) (hk : 2 ^ 64 ≤ k) :
    impl_isState.l0 k tm (tm.length : Int) 0 ns ts z now tm vs = some (timesFrom now 0 tm && wsB ns tm vs) := by
  have key := loop_up tm.length (fun k i => impl_isState.l0 k tm (tm.length : Int) (i : Int) ns ts z now tm vs = some (timesFrom now i (tm.drop i) && wsB ns tm vs)) 4
    (fun k hk => by
      simp only [impl_isState.l0]
      rw [if_neg (by omega), impl_st_l1 ts z now hv ht k hk, List.drop_length]; rfl)
    (fun k i _ hi ih => by
      simp only [impl_isState.l0]
      rw [if_pos (by omega), if_pos (by omega), if_pos (by omega), rd_nat, wrap_nat hi (by omega), wrap_id (i := now - 1) (by omega) (by omega), ih, drop_cons hi 0, timesFrom]
      unfold timeAt
      generalize tm.getD i 0 = n
      by_cases h0 : i = 0
      · subst h0
        rw [if_pos (by omega), if_pos rfl]
        by_cases h1 : n = 0
        · rw [if_pos h1, if_neg (by omega), decide_eq_true h1, Bool.true_and]
        · rw [if_neg h1, decide_eq_false h1]; rfl
      · rw [if_neg (by omega), if_neg h0, if_pos (by omega)]
        by_cases h1 : n < -1
        · rw [if_pos h1, decide_eq_false (show ¬ -1 ≤ n by omega)]; rfl
        · rw [if_neg h1, decide_eq_true (show -1 ≤ n by omega), Bool.true_and]
          by_cases h2 : n > now - 1
          · rw [if_pos h2, decide_eq_false (show ¬ n ≤ now - 1 by omega)]; rfl
          · rw [if_neg h2, decide_eq_true (show n ≤ now - 1 by omega), Bool.true_and]) 0 k (Nat.zero_le _) (by omega)
  simpa using key
theorem spec_st_l0 {ns : List PNode} {tm vs : List Int} (ts : List PTie) (z now : Int) (hn : 0 ≤ now) (hn2 : now ≤ 9223372036854775807) (hl : ns.length ≤ 1048576) (hv : vs.length = 3) (ht : tm.length = ns.length) (h1 : 1 ≤ ns.length) (k : Nat) (hk : 2 ^ 65 ≤ k) :
    spec_StateOk.l0 k tm (tm.length : Int) 0 ns ts z now tm vs = some (timesFrom now 1 (tm.drop 1) && wsB ns tm vs) := by
  obtain ⟨k, rfl⟩ : ∃ m, k = m + 1 := ⟨k - 1, by omega⟩
  have key := loop_up tm.length (fun k i => 1 ≤ i → spec_StateOk.l0 k tm (tm.length : Int) (i : Int) ns ts z now tm vs = some (timesFrom now i (tm.drop i) && wsB ns tm vs)) (2 ^ 64 + 4)
    (fun k hk _ => by
      simp only [spec_StateOk.l0]
      rw [if_neg (by omega), spec_st_l1 ts z now (by omega) hv ht k hk, List.drop_length]; rfl)
    (fun k i _ hi ih h1 => by
      simp only [spec_StateOk.l0]
      rw [if_pos (by omega), if_pos (by omega), if_pos (by omega), if_pos (by omega), rd_nat, wrap_nat hi (by omega), wrap_id (i := now - 1) (by omega) (by omega), ih (by omega), drop_cons hi 0, timesFrom, l01In_f, Option.bind_some]
      unfold timeAt inB
      generalize tm.getD i 0 = n
      rw [if_neg (show ¬ i = 0 by omega)]
      cases decide (-1 ≤ n) && decide (n ≤ now - 1) <;> rfl) 1 k (by omega) (by omega) (Nat.le_refl _)
  simp only [spec_StateOk.l0]
  rw [if_pos (by omega), if_pos (by omega), if_pos (by omega), if_neg (by omega), show wrap64 (0 + 1) = ((1 : Nat) : Int) from wrap_nat (i := 0) (n := 2) (by omega) (by omega), key]
theorem times_split (now : Int) {tm : List Int} (h : 1 ≤ tm.length) : timesFrom now 0 tm = (decide (tm.getD 0 0 = 0) && timesFrom now 1 (tm.drop 1)) := by
  cases tm with
  | nil => simp at h
  | cons a t => rfl
theorem impl_StateOk_f {ns : List PNode} {ts : List PTie} {z : Int} (now : Int) (tm vs : List Int) (hc : SmallP ns ts) (hn2 : now ≤ 9223372036854775807) (k : Nat) (hk : 2 ^ 65 ≤ k) : impl_StateOk.f k ns ts z now tm vs = some (stateB ns ts z now tm vs) := by
  obtain ⟨k, rfl⟩ : ∃ m, k = m + 1 := ⟨k - 1, by omega⟩
  unfold impl_StateOk.f stateB
  rw [impl_ShowOk_f (fitN_of hc), Option.bind_some]
  cases hs : pshowB ns ts z with
  | false => rfl
  | true =>
    rw [if_pos rfl, Bool.true_and]
    have hz : 1 ≤ z ∧ z ≤ 10 := by
      unfold pshowB at hs
      simp only [Bool.and_eq_true, Bool.not_eq_true', decide_eq_false_iff_not] at hs
      omega
    unfold impl_isState.f isStateB impl_ValuesOk.f
    rw [wrap_id (i := z + 1) (by omega) (by omega)]
    by_cases h1 : now < 0
    · rw [if_pos h1, decide_eq_false (show ¬ 0 ≤ now by omega)]; simp [impl_isState.j0]
    rw [if_neg h1, decide_eq_true (show 0 ≤ now by omega), Bool.true_and]
    by_cases h2 : now > z + 1
    · rw [if_pos h2, decide_eq_false (show ¬ now ≤ z + 1 by omega)]; simp [impl_isState.j0]
    rw [if_neg h2, decide_eq_true (show now ≤ z + 1 by omega), Bool.true_and]
    by_cases h3 : tm.length = ns.length
    · rw [if_pos (by omega), decide_eq_true h3, Bool.true_and, Option.bind_some]
      cases hv : valsB vs with
      | false => simp [impl_isState.j0]
      | true =>
        simp only [impl_isState.j0, Bool.not_true, Bool.false_eq_true, if_false, Bool.true_and]
        have hv3 : vs.length = 3 := by
          unfold valsB at hv
          simp only [Bool.and_eq_true, decide_eq_true_eq] at hv
          exact hv.1
        rw [impl_st_l0 ts z now (by omega) hn2 hc.1 hv3 h3 k (by omega)]; rfl
    · rw [if_neg (by omega), decide_eq_false h3]; simp [impl_isState.j0]
theorem spec_StateOk_f {ns : List PNode} {ts : List PTie} {z : Int} (now : Int) (tm vs : List Int) (hc : SmallP ns ts) (hn2 : now ≤ 9223372036854775807) (hvl : vs.length ≤ 9223372036854775807) (k : Nat) (hk : 2 ^ 66 ≤ k) : spec_StateOk.f k ns ts z now tm vs = some (stateB ns ts z now tm vs) := by
  obtain ⟨k, rfl⟩ : ∃ m, k = m + 1 := ⟨k - 1, by omega⟩
  unfold spec_StateOk.f stateB
  rw [spec_ShowOk_f ns ts z (fitN_of hc) _ (by omega), Option.bind_some]
  cases hs : pshowB ns ts z with
  | false => simp [spec_StateOk.j0]
  | true =>
    have h1 := areNodesB_one (pshowB_nodes hs)
    rw [if_pos rfl, Bool.true_and]
    have hz : 1 ≤ z ∧ z ≤ 10 := by
      unfold pshowB at hs
      simp only [Bool.and_eq_true, Bool.not_eq_true', decide_eq_false_iff_not] at hs
      omega
    unfold isStateB
    rw [wrap_id (i := z + 1) (by omega) (by omega), l01In_f, Option.bind_some]
    unfold inB
    by_cases h1 : now < 0
    · rw [decide_eq_false (show ¬ 0 ≤ now by omega)]; simp [spec_StateOk.j0]
    rw [decide_eq_true (show 0 ≤ now by omega), Bool.true_and, Bool.true_and]
    by_cases h2 : now > z + 1
    · rw [decide_eq_false (show ¬ now ≤ z + 1 by omega)]; simp [spec_StateOk.j0]
    rw [decide_eq_true (show now ≤ z + 1 by omega), Bool.true_and, if_pos rfl]
    by_cases h3 : tm.length = ns.length
    · rw [if_pos (by omega), decide_eq_true h3, Bool.true_and, if_pos (by omega), times_split now (by omega)]
      rw [show rd tm 0 = tm.getD 0 0 from rfl]
      by_cases h4 : tm.getD 0 0 = 0
      · rw [if_pos h4, decide_eq_true h4, Bool.true_and, spec_ValuesOk_f vs hvl _ (by omega), Option.bind_some]
        cases hv : valsB vs with
        | false => simp [spec_StateOk.j0]
        | true =>
          simp only [spec_StateOk.j0, Bool.not_true, Bool.false_eq_true, if_false, Bool.true_and]
          have hv3 : vs.length = 3 := by
            unfold valsB at hv
            simp only [Bool.and_eq_true, decide_eq_true_eq] at hv
            exact hv.1
          rw [spec_st_l0 ts z now (by omega) hn2 hc.1 hv3 h3 (by omega) k (by omega)]
      · rw [if_neg h4, decide_eq_false h4]; simp [spec_StateOk.j0]
    · rw [if_neg (by omega), decide_eq_false h3]; simp [spec_StateOk.j0]
end Go.Proofs.Ytpoffpdaadhkgaa.Pr

