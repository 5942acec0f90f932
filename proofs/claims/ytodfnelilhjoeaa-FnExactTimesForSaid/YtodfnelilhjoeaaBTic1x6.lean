/- The texts of one claim, put together by a program of this session. -/
import Derived.Deep.LoopGhost
import Derived.Test.YtodfnelilhjoeaaBTic1x1
import Derived.Test.YtodfnelilhjoeaaBTic1x3
import Derived.Test.YtodfnelilhjoeaaBTic1x4
import Derived.Test.YtodfnelilhjoeaaBTic1x5
namespace Go.Proofs.Ytodfnelilhjoeaa.Pr
open Go.RowKit Go.Proofs.YtodfnelilhjoeaaW.PrintWords Go.Proofs.YtodfnelilhjoeaaW.PrintLast Go.Proofs.YtodfnelilhjoeaaW.PrintMore
attribute [local go_sem] max2_int min2_int max_two min_two max_three min_three max_four min_four
set_option linter.unusedVariables false
set_option linter.unusedSimpArgs false
open Go.Proofs.Ytodfnelilhjoeaa.Ni
def nodeW (ns : List S116) (n : S116) : Bool := !(n.f1.any fun x => !watchedB ns n.f1 x)
def pshowB (ns : List S116) (ts : List S90) (z : Int) : Bool := areNodesB ns && areTiesB ns ts && !(decide (z < 1)) && !(decide (10 < z)) && ns.all (nodeW ns)
def impl_ShowOk.f (l0_0 : List (S116)) (l0_1 : List (S90)) (a0_2 : Int) : Option Bool := if fitN l0_0 = true then some (pshowB l0_0 l0_1 a0_2) else none
set_option maxHeartbeats 8000000 in
theorem impl_ShowOk_1.clo (k : Nat) (hk : 2 ^ 64 ≤ k) (B D : Nat) (A0_0 : Option Addr) (c0_0 : Nat) (l0_0 : List S116) (A0_1 : Option Addr) (c0_1 : Nat) (l0_1 : List S90) (a0_2 : Int) (An : Option Addr) (cn : Nat) (lb : List Int) (x : Int) (W : World)
  (h0 : W.cell? ⟨B, 0, none⟩ = some (.slice A0_0 l0_0.length c0_0)) (h1 : W.cell? ⟨B, 1, none⟩ = some (.slice A0_1 l0_1.length c0_1)) (h2 : W.cell? ⟨B, 2, none⟩ = some (.int .i64 a0_2)) (h3 : W.cell? ⟨D, 1, none⟩ = some (.slice An lb.length cn))
  (hr0_0 : Kd.C k116 W A0_0 l0_0.length l0_0) (hc0_0 : l0_0.length ≤ c0_0) (hr0_1 : Kd.C k90 W A0_1 l0_1.length l0_1) (hc0_1 : l0_1.length ≤ c0_1) (hrn : Kd.C (Kd.int .i64) W An lb.length lb) (hcn : lb.length ≤ cn)
  (hf : impl_isWatched.f k l0_0 l0_1 a0_2 lb x = some (watchedB l0_0 lb x)) :
  Calls Try.prog 124 #[.int .i64 x, .pointer (some ⟨B, 0, none⟩), .pointer (some ⟨D, 0, none⟩)] W fun e w' => e = .returned (.bool (!watchedB l0_0 lb x)) ∧ Below W.heap.size W w' := by
 have hltB : B < W.heap.size := World.block_lt_of_cell? W _ h0
 have hltD : D < W.heap.size := World.block_lt_of_cell? W _ h3
 have HC := Aside0.mk (impl_isWatched.calls k A0_0 c0_0 l0_0 A0_1 c0_1 l0_1 a0_2 An cn lb x _ W hr0_0 hc0_0 hr0_1 hc0_1 hrn hcn hf)
 have hu := Try.underlying35
 have hu2 := Try.underlying116
 clear hr0_0 hr0_1 hrn hf hc0_0 hc0_1 hcn
 cases b : watchedB l0_0 lb x
 all_goals
  rw [b] at HC
  clear b
  go_enter Try.func124, Try.ntmps124
  go_wp2_with (go_at_call 125; refine HC.out.mono ?_; rintro e w' ⟨rfl, hb⟩)
  go_ret
  exact ⟨rfl, hb⟩
set_option maxHeartbeats 8000000 in
set_option maxRecDepth 100000 in
theorem impl_ShowOk.calls (A0_0 : Option Addr) (c0_0 : Nat) (l0_0 : List (S116)) (A0_1 : Option Addr) (c0_1 : Nat) (l0_1 : List (S90)) (a0_2 : Int) (r : Bool) (w : World) (hr0_0 : Kd.C k116 w A0_0 l0_0.length l0_0) (hc0_0 : l0_0.length ≤ c0_0) (hr0_1 : Kd.C k90 w A0_1 l0_1.length l0_1) (hc0_1 : l0_1.length ≤ c0_1) (h : impl_ShowOk.f l0_0 l0_1 a0_2 = some r) :
  Calls Try.prog 72 #[.agg #[.slice A0_0 l0_0.length c0_0, .slice A0_1 l0_1.length c0_1, .int .i64 a0_2]] w fun e w' => e = .returned (.bool r) ∧ Below w.heap.size w w' := by
 by_cases hfit : fitN l0_0 = true
 case neg => rw [impl_ShowOk.f, if_neg hfit] at h; exact absurd h (by simp)
 rw [impl_ShowOk.f, if_pos hfit] at h
 obtain rfl := Option.some.inj h
 have hfi := fitN_iff hfit
 have hL : l0_0.length ≤ 9223372036854775807 := hr0_0.2.1
 have HRn := Aside0.mk hr0_0; have HRt := Aside0.mk hr0_1; have HCn := Aside0.mk hc0_0; have HCt := Aside0.mk hc0_1; have HFI := Aside0.mk hfi
 have B1 := Aside0.mk (below_alloc (Below.refl w.heap.size w) (.cells #[.slice A0_0 l0_0.length c0_0, .slice A0_1 l0_1.length c0_1, .int .i64 a0_2] 35))
 have HK := Aside0.mk fun (W : World) (hA : Below (w.alloc (.cells #[.slice A0_0 l0_0.length c0_0, .slice A0_1 l0_1.length c0_1, .int .i64 a0_2] 35)).heap.size (w.alloc (.cells #[.slice A0_0 l0_0.length c0_0, .slice A0_1 l0_1.length c0_1, .int .i64 a0_2] 35)) W) => And.intro (B1.out.trans (hA.mono B1.out.size)) (And.intro (kcell hA (show _ = some (.slice A0_0 l0_0.length c0_0) from showCell0 w _ _ _ _)) (And.intro (kcell hA (showCell1 w _ _ _ _)) (And.intro (kcell hA (showCell2 w _ _ _ _)) (show w.heap.size < W.heap.size from Nat.lt_of_lt_of_le (by simp) hA.size))))
 have HN := Aside0.mk fun (W : World) (hb : Below w.heap.size w W) => impl_areNodes.calls (2 ^ 65) A0_0 c0_0 l0_0 A0_1 c0_1 l0_1 a0_2 _ W (Kd.C_below hr0_0 hb) hc0_0 (Kd.C_below hr0_1 hb) hc0_1 (areNodes_f l0_0 l0_1 a0_2 hfi (2 ^ 65) (Nat.le_refl _))
 have HT := Aside0.mk fun (W : World) (hb : Below w.heap.size w W) => impl_areTies.calls A0_0 c0_0 l0_0 A0_1 c0_1 l0_1 a0_2 _ W (Kd.C_below hr0_0 hb) hc0_0 (Kd.C_below hr0_1 hb) hc0_1 rfl
 have hlb : areNodesB l0_0 = true → ∀ n ∈ l0_0, ∀ x ∈ n.f1, litOk x = true := areNodesB_lit
 clear hr0_0 hr0_1 hc0_0 hc0_1 h hfi hfit
 have hu := Try.underlying35
 have hu2 := Try.underlying116
 cases b1 : areNodesB l0_0 with
 | false =>
  rw [b1] at HN
  have HF := Aside0.mk (show pshowB l0_0 l0_1 a0_2 = false by simp [pshowB, b1])
  clear hlb b1
  go_enter Try.func72, Try.ntmps72
  go_wp2_with (go_at_call 121; refine (HN.out _ B1.out).mono ?_; rintro e w1 ⟨rfl, hb⟩; obtain ⟨hB, hc0, hc1, hc2, hS⟩ := HK.out _ hb)
  go_ret
  exact ⟨by rw [HF.out]; rfl, hB⟩
 | true =>
 rw [b1] at HN
 have HLB := Aside0.mk (hlb b1)
 clear hlb
 cases b2 : areTiesB l0_0 l0_1 with
 | false =>
  rw [b2] at HT
  have HF := Aside0.mk (show pshowB l0_0 l0_1 a0_2 = false by simp [pshowB, b2])
  clear b1 b2
  go_enter Try.func72, Try.ntmps72
  go_wp2_with (first | (go_at_call 121; refine (HN.out _ B1.out).mono ?_; rintro e w1 ⟨rfl, hA⟩; obtain ⟨hB, hc0, hc1, hc2, hS⟩ := HK.out _ hA) | (go_at_call 122; refine (HT.out _ hB).mono ?_; rintro e w2 ⟨rfl, hb⟩; replace hA := hA.trans (hb.mono hA.size); clear hB hc0 hc1 hc2 hS; obtain ⟨hB, hc0, hc1, hc2, hS⟩ := HK.out _ hA; clear hb))
  go_ret
  exact ⟨by rw [HF.out]; rfl, hB⟩
 | true =>
 rw [b2] at HT
 cases b3 : decide (a0_2 < 1) with
 | true =>
  have HF := Aside0.mk (show pshowB l0_0 l0_1 a0_2 = false by simp [pshowB, b3])
  clear b1 b2
  go_enter Try.func72, Try.ntmps72
  go_wp2_with (first | (go_at_call 121; refine (HN.out _ B1.out).mono ?_; rintro e w1 ⟨rfl, hA⟩; obtain ⟨hB, hc0, hc1, hc2, hS⟩ := HK.out _ hA) | (go_at_call 122; refine (HT.out _ hB).mono ?_; rintro e w2 ⟨rfl, hb⟩; replace hA := hA.trans (hb.mono hA.size); clear hB hc0 hc1 hc2 hS; obtain ⟨hB, hc0, hc1, hc2, hS⟩ := HK.out _ hA; clear hb))
  go_ret
  exact ⟨by rw [HF.out]; rfl, hB⟩
 | false =>
 cases b4 : decide (10 < a0_2) with
 | true =>
  have HF := Aside0.mk (show pshowB l0_0 l0_1 a0_2 = false by simp [pshowB, b4])
  clear b1 b2
  go_enter Try.func72, Try.ntmps72
  go_wp2_with (first | (go_at_call 121; refine (HN.out _ B1.out).mono ?_; rintro e w1 ⟨rfl, hA⟩; obtain ⟨hB, hc0, hc1, hc2, hS⟩ := HK.out _ hA) | (go_at_call 122; refine (HT.out _ hB).mono ?_; rintro e w2 ⟨rfl, hb⟩; replace hA := hA.trans (hb.mono hA.size); clear hB hc0 hc1 hc2 hS; obtain ⟨hB, hc0, hc1, hc2, hS⟩ := HK.out _ hA; clear hb))
  go_ret
  exact ⟨by rw [HF.out]; rfl, hB⟩
 | false =>
 have HF := Aside0.mk (show pshowB l0_0 l0_1 a0_2 = l0_0.all (nodeW l0_0) by simp [pshowB, b1, b2, b3, b4])
 clear b1 b2
 go_enter Try.func72, Try.ntmps72
 go_wp2_with (first | (go_at_call 121; refine (HN.out _ B1.out).mono ?_; rintro e w1 ⟨rfl, hA⟩; obtain ⟨hB, hc0, hc1, hc2, hS⟩ := HK.out _ hA) | (go_at_call 122; refine (HT.out _ hB).mono ?_; rintro e w2 ⟨rfl, hb⟩; replace hA := hA.trans (hb.mono hA.size); clear hB hc0 hc1 hc2 hS; obtain ⟨hB, hc0, hc1, hc2, hS⟩ := HK.out _ hA; clear hb))
 have HB0 := Aside0.mk hB
 have HX0 := Aside0.mk (And.intro hc0 (And.intro hc1 hc2))
 have HS0 := Aside0.mk hS; clear hA hB hc0 hc1 hc2 hS
 go_loopg [4, 26] l0_0.length (fun gg _ s26 wr => ∃ kk : Nat, Aside0 (kk ≤ l0_0.length) ∧ Aside0 (l0_0.length - kk ≤ gg) ∧ s26 = .int .i64 kk ∧ Aside0 (Below w.heap.size w wr) ∧ Aside0 (w.heap.size < wr.heap.size) ∧ Aside0 (wr.cell? ⟨w.heap.size, 0, none⟩ = some (.slice A0_0 l0_0.length c0_0) ∧ wr.cell? ⟨w.heap.size, 1, none⟩ = some (.slice A0_1 l0_1.length c0_1) ∧ wr.cell? ⟨w.heap.size, 2, none⟩ = some (.int .i64 a0_2)) ∧ Aside0 (l0_0.all (nodeW l0_0) = (l0_0.drop kk).all (nodeW l0_0)))
 case atStart => exact ⟨0, ⟨Nat.zero_le _⟩, ⟨by omega⟩, rfl, HB0, HS0, HX0, ⟨rfl⟩⟩
 case round =>
  obtain ⟨kk, HK', HG, rfl, HBr, HS, HX, HN'⟩ := hrel
  have hsz := HS.out
  obtain ⟨hb0, hb1, hb2_⟩ := HX.out
  by_cases hlt : kk < l0_0.length
  ·have hltz : (kk : Int) < (l0_0.length : Int) := by omega
   obtain ⟨ad, Am, cm, e1, hm0, hm1, hm2, lm, gm⟩ := at_T116 HRn.out (kk : Int) (by omega) hltz
   cases e1
   have HDR := Aside0.mk (drop_cons hlt z116)
   have hmem := Aside0.mk (getD_mem hlt z116)
   rw [← rdN_nat] at HDR hmem
   rw [Int.toNat_natCast] at hm0 hm1 hm2
   generalize rd_T116 l0_0 (kk : Int) = y at hm0 hm1 hm2 lm gm HDR hmem
   replace hm0 := kcell HBr.out hm0
   replace hm1 := kcell HBr.out hm1
   replace hm2 := kcell HBr.out hm2
   have hlta := World.block_lt_of_cell? wr _ hm0
   have LM := Aside0.mk lm
   have GM := Aside0.mk (Kd.C_below gm HBr.out)
   clear lm gm
   have B2 := Aside0.mk (below_alloc (Below.refl wr.heap.size wr) (.cells #[.string y.f0, .slice Am y.f1.length cm, .int .i64 y.f2] 116))
   have HC := Aside0.mk fun (W : World) (hb : Below wr.heap.size wr W) (hcell : W.cell? ⟨wr.heap.size, 1, none⟩ = some (.slice Am y.f1.length cm)) => slices_ContainsFunc_int_int.any (fun x => !watchedB l0_0 y.f1 x) 124 #[.pointer (some ⟨w.heap.size, 0, none⟩), .pointer (some ⟨wr.heap.size, 0, none⟩)] (enters_of Try.func124 (by kernel_rfl) rfl) Am cm y.f1 W (Kd.C_below GM.out hb)
    (fun W' x hx hb' => impl_ShowOk_1.clo (2 ^ 64) (Nat.le_refl _) w.heap.size wr.heap.size (some ad) c0_0 l0_0 A0_1 c0_1 l0_1 a0_2 Am cm y.f1 x W' (kcell hb' (kcell hb HX.out.1)) (kcell hb' (kcell hb HX.out.2.1)) (kcell hb' (kcell hb HX.out.2.2)) (kcell hb' hcell)
     (Kd.C_below (Kd.C_below (Kd.C_below HRn.out HBr.out) hb) hb') HCn.out (Kd.C_below (Kd.C_below (Kd.C_below HRt.out HBr.out) hb) hb') HCt.out (Kd.C_below (Kd.C_below GM.out hb) hb') LM.out
     (isWatched_f l0_0 l0_1 a0_2 y.f1 x (fun n hn => (HFI.out n hn).2) (HFI.out y hmem.out).2 (HLB.out y hmem.out x hx) (2 ^ 64) (Nat.le_refl _)))
   cases b5 : y.f1.any (fun x => !watchedB l0_0 y.f1 x) with
   | true =>
    rw [b5] at HC
    have HF2 := Aside0.mk (show pshowB l0_0 l0_1 a0_2 = false by
     rw [HF.out, HN'.out, HDR.out, List.all_cons, show nodeW l0_0 y = false by unfold nodeW; rw [b5]; rfl]; rfl)
    clear b5
    go_wp2_with fail
    refine (HC.out _ B2.out (by go_simp)).mono ?_
    rintro e w3 ⟨rfl, hb⟩
    have hb3 := B2.out.trans (hb.mono B2.out.size)
    go_wp2
    go_ret
    exact ⟨by rw [HF2.out]; rfl, HBr.out.trans (hb3.mono HBr.out.size)⟩
   | false =>
    rw [b5] at HC
    have HF2 := Aside0.mk (show l0_0.all (nodeW l0_0) = (l0_0.drop (kk + 1)).all (nodeW l0_0) by
     rw [HN'.out, HDR.out, List.all_cons, show nodeW l0_0 y = true by unfold nodeW; rw [b5]; rfl]; rfl)
    clear b5
    go_wp2_with fail
    refine (HC.out _ B2.out (by go_simp)).mono ?_
    rintro e w3 ⟨rfl, hb⟩
    have hb3 := B2.out.trans (hb.mono B2.out.size)
    go_wp2
    go_roundg (l0_0.length - (kk + 1))
    case measure => have := HG.out; omega
    case rel => exact ⟨kk + 1, ⟨by omega⟩, ⟨by omega⟩, by go_num, ⟨HBr.out.trans (hb3.mono HBr.out.size)⟩, ⟨by have := hb3.size; omega⟩, ⟨kcell hb3 hb0, kcell hb3 hb1, kcell hb3 hb2_⟩, HF2⟩
  ·have hltz : ¬ (kk : Int) < (l0_0.length : Int) := by omega
   have : kk = l0_0.length := by have := HK'.out; omega
   subst this
   have HF2 := Aside0.mk (show pshowB l0_0 l0_1 a0_2 = true by
    rw [HF.out, HN'.out, List.drop_length]; rfl)
   go_wp2
   go_ret
   exact ⟨by rw [HF2.out]; rfl, HBr.out⟩

end Go.Proofs.Ytodfnelilhjoeaa.Pr
namespace Go.Proofs.Ytodfnelilhjoeaa.Pr
open Go.RowKit Go.Proofs.YtodfnelilhjoeaaW.PrintWords Go.Proofs.YtodfnelilhjoeaaW.PrintLast Go.Proofs.YtodfnelilhjoeaaW.PrintMore
attribute [local go_sem] max2_int min2_int max_two min_two max_three min_three max_four min_four
set_option linter.unusedVariables false
set_option linter.unusedSimpArgs false
def impl_freeTies.l0 : Nat → List Int → List (S90) → Int → Int → Option (List Int)
 | 0, _, _, _, _ => none
 | k + 1, x3, x7, x8, x9 => if x9 < x8 then (if 0 ≤ x9 then (if x9 < (x7.length : Int) then (if (rd_T90 x7 x9).f4 = true then (if x3.length < 17592186044416 then (impl_freeTies.l0 k (x3 ++ [x9]) x7 x8 (wrap64 (x9 + 1))) else (none)) else (impl_freeTies.l0 k x3 x7 x8 (wrap64 (x9 + 1)))) else (none)) else (none)) else (some x3)
def impl_freeTies.f (k : Nat) (l0_0 : List (S116)) (l0_1 : List (S90)) (a0_2 : Int) : Option (List Int) := impl_freeTies.l0 k ([] : List Int) l0_1 (l0_1.length : Int) 0
set_option maxHeartbeats 8000000 in
set_option maxRecDepth 100000 in
theorem impl_freeTies.calls (k : Nat) (A0_0 : Option Addr) (c0_0 : Nat) (l0_0 : List (S116)) (A0_1 : Option Addr) (c0_1 : Nat) (l0_1 : List (S90)) (a0_2 : Int) (r : List Int) (w : World) (hr0_0 : Kd.C k116 w A0_0 l0_0.length l0_0) (hc0_0 : l0_0.length ≤ c0_0) (hr0_1 : Kd.C k90 w A0_1 l0_1.length l0_1) (hc0_1 : l0_1.length ≤ c0_1) (h : impl_freeTies.f k l0_0 l0_1 a0_2 = some r) :
  Calls Try.prog 80 #[.agg #[.slice A0_0 l0_0.length c0_0, .slice A0_1 l0_1.length c0_1, .int .i64 a0_2]] w fun e w' => ∃ v0_ : Value, e = .returned (v0_) ∧ Kd.R (Kd.int .i64) 3 w' w.heap.size (fun _ => True) v0_ r ∧ Below w.heap.size w w' := by
 have hu35 := Try.underlying35
 have hu90 := Try.underlying90
 have HR0_0 := Aside0.mk hr0_0; have HC0_0 := Aside0.mk hc0_0; clear hr0_0 hc0_0; have HR0_1 := Aside0.mk hr0_1; have HC0_1 := Aside0.mk hc0_1; clear hr0_1 hc0_1
 have HB := Aside0.mk (Below.refl w.heap.size w)
 have H : (impl_freeTies.l0 k ([] : List Int) l0_1 (l0_1.length : Int) 0) = some r := h
 clear h
 have H' := Aside0.mk H
 clear H
 go_enter Try.func80, Try.ntmps80
 go_wp2_with (first | ((with_reducible refine gate_dst (N := 1) rfl ?_); refine box_event ?hg (N := 1) ?hd (cs := #[.slice A0_0 l0_0.length c0_0, .slice A0_1 l0_1.length c0_1, .int .i64 a0_2]) (t := 35) ?hr ?_; (case hd => rfl); (case hg => rfl); (case hr => first | (go_simp; done) | (go_simp; rfl)); intro gb80001 hg w2 hbox hb; have n0_ := Aside0.mk (below_step (by exact HB.out) hb); have n1_ := Aside0.mk (hbox); have n2_ := Aside0.mk ((by rw [hg]; exact (below_size (by exact HB.out)) : w.heap.size ≤ gb80001)); have n3_ := n2_; clear HB; have HB := n0_; have BK80001 := n1_; have GW80001 := n2_; have GE80001 := n3_; clear n0_ n1_ n2_ n3_; clear hb hbox hg; have hcz3_0 : w2.cell? ⟨gb80001, 0, none⟩ = some (.slice A0_0 l0_0.length c0_0) := (blk_cell BK80001.out 0).trans rfl; have hcz3_1 : w2.cell? ⟨gb80001, 1, none⟩ = some (.slice A0_1 l0_1.length c0_1) := (blk_cell BK80001.out 1).trans rfl; have hcz3_2 : w2.cell? ⟨gb80001, 2, none⟩ = some (.int .i64 a0_2) := (blk_cell BK80001.out 2).trans rfl; have hfz3_0 := blk_frozen BK80001.out 0; have hfz3_1 := blk_frozen BK80001.out 1; have hfz3_2 := blk_frozen BK80001.out 2))
 go_loopg [3, 9] k (fun kq v3 v9 w' => ∃ (x3_1 : List Int) (x9_1 : Int), v9 = .int .i64 x9_1 ∧ Aside0 (impl_freeTies.l0 kq x3_1 l0_1 (l0_1.length : Int) x9_1 = some r) ∧ Aside0 (kq ≤ k) ∧ Aside0 (Kd.R (Kd.int .i64) 3 w' w.heap.size (fun _ => True) v3 x3_1) ∧ Aside0 (w'.heap[gb80001]? = some (.cells #[(.slice A0_0 l0_0.length c0_0), (.slice A0_1 l0_1.length c0_1), .int .i64 a0_2] 35 (0, 0))) ∧ Aside0 (Below w.heap.size w w'))
 case atStart => exact ⟨(([] : List Int)), (0), (by first | rfl | (simp; done) | (simp [*]; done)), H', ⟨Nat.le_refl _⟩, ⟨by first | exact Kd.R_nil _ _ _ _ _ | exact Kd.N_nil _ _ _ _ _ | exact Kd.V_nil _ _ _ _ _ | exact Kd.Q_nil _ _ _ _ _ | exact Kd.S_nil _ _ _ _ _⟩, ⟨by (with_reducible repeat (first | refine blk_drewN ?_ _ | refine blk_drew ?_ | refine blk_alloc ?_ _)); exact BK80001.out⟩, ⟨by repeat (first | (with_reducible first | exact HB.out | apply below_alloc | apply pw_below_drewN | apply below_drew1 | refine below_set ?_ GE80001.out) | exact HB.out)⟩⟩
 case round =>
  clear H'
  try clear p2
  obtain ⟨x3_1, x9_1, rfl, HA, HK1, HO_3, BK80001, HB⟩ := hrel
  cases gk with
  | zero => exact absurd HA.out (by simp [impl_freeTies.l0])
  | succ k1 =>
   have H := HA.out
   clear HA
   simp only [impl_freeTies.l0] at H
   by_cases c4 : x9_1 < (l0_1.length : Int)
   ·rw [if_pos c4] at H
    have c4b0 : decide (x9_1 < (l0_1.length : Int)) = true := decide_eq_true c4
    clear c4
    by_cases c5 : 0 ≤ x9_1
    ·rw [if_pos c5] at H
     have c5b0 : decide (0 ≤ x9_1) = true := decide_eq_true c5
     clear c5
     by_cases c6 : x9_1 < (l0_1.length : Int)
     ·rw [if_pos c6] at H
      have c6b0 : decide (x9_1 < (l0_1.length : Int)) = true := decide_eq_true c6
      clear c6
      obtain ⟨bq7, hbq7⟩ : ∃ b_ : Bool, b_ = ((rd_T90 l0_1 x9_1).f4) := ⟨_, rfl⟩
      replace H : (if bq7 = true then (if x3_1.length < 17592186044416 then (impl_freeTies.l0 k1 (x3_1 ++ [x9_1]) l0_1 (l0_1.length : Int) (wrap64 (x9_1 + 1))) else (none)) else (impl_freeTies.l0 k1 x3_1 l0_1 (l0_1.length : Int) (wrap64 (x9_1 + 1)))) = some r := by rw [← hbq7] at H; exact H
      have Nbq7 := Aside0.mk hbq7; clear hbq7
      by_cases c8 : bq7 = true
      ·subst c8
       have H1 : (if x3_1.length < 17592186044416 then (impl_freeTies.l0 k1 (x3_1 ++ [x9_1]) l0_1 (l0_1.length : Int) (wrap64 (x9_1 + 1))) else (none)) = some r := by rw [if_pos rfl] at H; exact H
       clear H
       have H := H1
       clear H1
       by_cases c9 : x3_1.length < 17592186044416
       ·rw [if_pos c9] at H
        have LMc9 := Aside0.mk c9; clear c9
        obtain ⟨y80004, hy80004⟩ : ∃ y_ : List Int, y_ = (x3_1 ++ [x9_1]) := ⟨_, rfl⟩
        replace H : (impl_freeTies.l0 k1 y80004 l0_1 (l0_1.length : Int) (wrap64 (x9_1 + 1))) = some r := by first | (rw [hy80004]; with_reducible exact H) | (have H2_ := (Option.bind_some _ _).symm.trans H; rw [hy80004]; with_reducible exact H2_) | (have H2_ := (Option.bind_some _ _).symm.trans H; with_reducible exact H2_) | with_reducible exact H | (rw [hy80004]; exact H) | exact H
        have Ny80004 := Aside0.mk hy80004; clear hy80004
        have H' := Aside0.mk H
        clear H
        have p80002 : 0 ≤ (x9_1 : Int) := of_decide_eq_true (by with_reducible assumption)
        have q80002 : x9_1 < (l0_1.length : Int) := of_decide_eq_true (by with_reducible assumption)
        obtain ⟨ad80002, e80002, hx80002_0, hx80002_1, hx80002_2, hx80002_3, hx80002_4⟩ := at_T90 HR0_1.out x9_1 p80002 q80002
        (try rw [← Nbq7.out] at hx80002_4)
        cases e80002
        replace hx80002_0 := (HB.out.cell (World.block_lt_of_cell? w _ hx80002_0)).trans hx80002_0
        replace hx80002_1 := (HB.out.cell (World.block_lt_of_cell? w _ hx80002_1)).trans hx80002_1
        replace hx80002_2 := (HB.out.cell (World.block_lt_of_cell? w _ hx80002_2)).trans hx80002_2
        replace hx80002_3 := (HB.out.cell (World.block_lt_of_cell? w _ hx80002_3)).trans hx80002_3
        replace hx80002_4 := (HB.out.cell (World.block_lt_of_cell? w _ hx80002_4)).trans hx80002_4
        replace p80002 := eq_true p80002
        replace q80002 := eq_true q80002
        go_wp2_with (first | ((with_reducible refine gate_dst (N := 5) rfl ?_); refine box_event ?hg (N := 5) ?hd (cs := #[.int .i64 0, .int .i64 0, .int .i64 0, .int .i64 0, .bool false]) (t := 90) ?hr ?_; (case hd => rfl); (case hg => rfl); (case hr => first | (go_simp; done) | (go_simp; rfl)); intro gb80003 hg w10 hbox hb; have n0_ := Aside0.mk (Kd.R_below (by exact HO_3.out) hb); have n1_ := Aside0.mk (blk_below (g := gb80001) (o := .cells #[.slice A0_0 l0_0.length c0_0, .slice (some ad80002) l0_1.length c0_1, .int .i64 a0_2] 35 (0, 0)) BK80001.out hb); have n2_ := Aside0.mk (below_step (by exact HB.out) hb); have n3_ := Aside0.mk (hbox); have n4_ := Aside0.mk ((by rw [hg]; exact (below_size (by exact HB.out)) : w.heap.size ≤ gb80003)); have n5_ := n4_; have n6_ := Aside0.mk ((by rw [hg]; exact Nat.ne_of_lt (blk_lt (g := gb80001) (o := .cells #[.slice A0_0 l0_0.length c0_0, .slice (some ad80002) l0_1.length c0_1, .int .i64 a0_2] 35 (0, 0)) BK80001.out) : gb80001 ≠ gb80003)); have n7_ := Aside0.mk n6_.out.symm; clear HO_3; clear BK80001; clear HB; have HO_3 := n0_; have BK80001 := n1_; have HB := n2_; have BK80003 := n3_; have GW80003 := n4_; have GE80003 := n5_; have NB80001_80003 := n6_; have NB80003_80001 := n7_; clear n0_ n1_ n2_ n3_ n4_ n5_ n6_ n7_; clear hb hbox hg; have hnb11 := NB80003_80001.out; have hnc11 := NB80001_80003.out; have hcz12_0 : w10.cell? ⟨gb80003, 0, none⟩ = some (.int .i64 0) := (blk_cell BK80003.out 0).trans rfl; have hcz12_1 : w10.cell? ⟨gb80003, 1, none⟩ = some (.int .i64 0) := (blk_cell BK80003.out 1).trans rfl; have hcz12_2 : w10.cell? ⟨gb80003, 2, none⟩ = some (.int .i64 0) := (blk_cell BK80003.out 2).trans rfl; have hcz12_3 : w10.cell? ⟨gb80003, 3, none⟩ = some (.int .i64 0) := (blk_cell BK80003.out 3).trans rfl; have hcz12_4 : w10.cell? ⟨gb80003, 4, none⟩ = some (.bool false) := (blk_cell BK80003.out 4).trans rfl; have hfz12_0 := blk_frozen BK80003.out 0; have hfz12_1 := blk_frozen BK80003.out 1; have hfz12_2 := blk_frozen BK80003.out 2; have hfz12_3 := blk_frozen BK80003.out 3; have hfz12_4 := blk_frozen BK80003.out 4) | ((with_reducible refine gate_builtin (b := .append) (xs := #[.tmp 16, .tmp 18]) rfl ?_); at_builtin; refine Kd.R_append (Kd.int .i64) (w0 := w) w.heap.size rfl (.tmp 16) (.tmp 18) 26 3 (.int .i64 0) 8 rfl Try.underlying26 info3 rfl (by decide) (by omega) u3 x3_1 x9_1 [.int .i64 x9_1] (fun _ => True) (fun _ => False) rfl (by first | (go_simp; done) | (go_simp; rfl)) ?aP (fun _ hk => hk.elim) ?aF ?aO ?aB ?aS ?aL ?_; (case aP => exact rfl); (case aB => exact (by repeat (first | (with_reducible first | exact HB.out | apply below_alloc | apply pw_below_drewN | apply below_drew1 | refine below_set ?_ GE80001.out | refine below_set ?_ GE80003.out) | exact HB.out))); (case aF => exact (fun _ _ => trivial)); (case aO => exact (by (with_reducible repeat (first | apply Kd.R_alloc | apply Kd.R_drewN | apply Kd.R_drew)); exact Kd.R_mono (Kd.R_far (p := ⟨gb80003, 4, none⟩) (Kd.R_far (p := ⟨gb80003, 3, none⟩) (Kd.R_far (p := ⟨gb80003, 2, none⟩) (Kd.R_far (p := ⟨gb80003, 1, none⟩) (Kd.R_far (p := ⟨gb80003, 0, none⟩) (Kd.R_types HO_3.out BK80003.out (by decide)) (fun _ hk => hk.2) (.int .i64 ((rd_T90 l0_1 x9_1).f0))) (fun _ hk => hk.2) (.int .i64 ((rd_T90 l0_1 x9_1).f1))) (fun _ hk => hk.2) (.int .i64 ((rd_T90 l0_1 x9_1).f2))) (fun _ hk => hk.2) (.int .i64 ((rd_T90 l0_1 x9_1).f3))) (fun _ hk => hk.2) (.bool true)) (fun _ hk => trivial))); (case aS => exact (below_size (by repeat (first | (with_reducible first | exact HB.out | apply below_alloc | apply pw_below_drewN | apply below_drew1 | refine below_set ?_ GE80001.out | refine below_set ?_ GE80003.out) | exact HB.out)))); (case aL => have := LMc9.out; omega); intro v80005 w13 ho hb hg hat; rw [← Ny80004.out] at ho; have n0_ := Aside0.mk (blk_grown (g := gb80001) (o := .cells #[.slice A0_0 l0_0.length c0_0, .slice (some ad80002) l0_1.length c0_1, .int .i64 a0_2] 35 (0, 0)) (by (with_reducible repeat (first | refine blk_drewN ?_ _ | refine blk_drew ?_ | refine blk_alloc ?_ _)); refine blk_far ?_ NB80001_80003.out _; (with_reducible repeat (first | refine blk_drewN ?_ _ | refine blk_drew ?_ | refine blk_alloc ?_ _)); refine blk_far ?_ NB80001_80003.out _; (with_reducible repeat (first | refine blk_drewN ?_ _ | refine blk_drew ?_ | refine blk_alloc ?_ _)); refine blk_far ?_ NB80001_80003.out _; (with_reducible repeat (first | refine blk_drewN ?_ _ | refine blk_drew ?_ | refine blk_alloc ?_ _)); refine blk_far ?_ NB80001_80003.out _; (with_reducible repeat (first | refine blk_drewN ?_ _ | refine blk_drew ?_ | refine blk_alloc ?_ _)); refine blk_far ?_ NB80001_80003.out _; (with_reducible repeat (first | refine blk_drewN ?_ _ | refine blk_drew ?_ | refine blk_alloc ?_ _)); exact BK80001.out) hg (Kd.R_ne HO_3.out BK80001.out (by decide))); have n1_ := Aside0.mk (blk_grown (g := gb80003) (o := .cells #[.int .i64 ((rd_T90 l0_1 x9_1).f0), .int .i64 ((rd_T90 l0_1 x9_1).f1), .int .i64 ((rd_T90 l0_1 x9_1).f2), .int .i64 ((rd_T90 l0_1 x9_1).f3), .bool true] 90 (0, 0)) (by (with_reducible repeat (first | refine blk_drewN ?_ _ | refine blk_drew ?_ | refine blk_alloc ?_ _)); refine blk_put (cs := #[.int .i64 ((rd_T90 l0_1 x9_1).f0), .int .i64 ((rd_T90 l0_1 x9_1).f1), .int .i64 ((rd_T90 l0_1 x9_1).f2), .int .i64 ((rd_T90 l0_1 x9_1).f3), .bool false]) ?_ 4 _ rfl; (with_reducible repeat (first | refine blk_drewN ?_ _ | refine blk_drew ?_ | refine blk_alloc ?_ _)); refine blk_put (cs := #[.int .i64 ((rd_T90 l0_1 x9_1).f0), .int .i64 ((rd_T90 l0_1 x9_1).f1), .int .i64 ((rd_T90 l0_1 x9_1).f2), .int .i64 0, .bool false]) ?_ 3 _ rfl; (with_reducible repeat (first | refine blk_drewN ?_ _ | refine blk_drew ?_ | refine blk_alloc ?_ _)); refine blk_put (cs := #[.int .i64 ((rd_T90 l0_1 x9_1).f0), .int .i64 ((rd_T90 l0_1 x9_1).f1), .int .i64 0, .int .i64 0, .bool false]) ?_ 2 _ rfl; (with_reducible repeat (first | refine blk_drewN ?_ _ | refine blk_drew ?_ | refine blk_alloc ?_ _)); refine blk_put (cs := #[.int .i64 ((rd_T90 l0_1 x9_1).f0), .int .i64 0, .int .i64 0, .int .i64 0, .bool false]) ?_ 1 _ rfl; (with_reducible repeat (first | refine blk_drewN ?_ _ | refine blk_drew ?_ | refine blk_alloc ?_ _)); refine blk_put (cs := #[.int .i64 0, .int .i64 0, .int .i64 0, .int .i64 0, .bool false]) ?_ 0 _ rfl; (with_reducible repeat (first | refine blk_drewN ?_ _ | refine blk_drew ?_ | refine blk_alloc ?_ _)); exact BK80003.out) hg (Kd.R_ne HO_3.out BK80003.out (by decide))); have n2_ := Aside0.mk (hb); have n3_ := Aside0.mk (ho); clear BK80001; clear BK80003; clear HB; clear HO_3; have BK80001 := n0_; have BK80003 := n1_; have HB := n2_; have HO80006 := n3_; clear n0_ n1_ n2_ n3_; clear ho hb hg hat))
        go_roundg k1
        case measure => have := HK1.out; omega
        case rel => exact ⟨(y80004), (wrap64 (x9_1 + 1)), (by first | rfl | (simp; done) | (simp [*]; done)), H', ⟨by have := HK1.out; omega⟩, ⟨by (with_reducible repeat (first | apply Kd.R_alloc | apply Kd.R_drewN | apply Kd.R_drew)); exact HO80006.out⟩, ⟨by (with_reducible repeat (first | refine blk_drewN ?_ _ | refine blk_drew ?_ | refine blk_alloc ?_ _)); exact BK80001.out⟩, ⟨by repeat (first | (with_reducible first | exact HB.out | apply below_alloc | apply pw_below_drewN | apply below_drew1 | refine below_set ?_ GE80001.out | refine below_set ?_ GE80003.out) | exact HB.out)⟩⟩
       ·rw [if_neg c9] at H
        exact absurd H (by simp)
      ·replace c8 := Bool.eq_false_iff.mpr c8
       subst c8
       have H1 : (impl_freeTies.l0 k1 x3_1 l0_1 (l0_1.length : Int) (wrap64 (x9_1 + 1))) = some r := by rw [if_neg (show ¬ (false = true) by decide)] at H; exact H
       clear H
       have H := H1
       clear H1
       have H' := Aside0.mk H
       clear H
       have p80002 : 0 ≤ (x9_1 : Int) := of_decide_eq_true (by with_reducible assumption)
       have q80002 : x9_1 < (l0_1.length : Int) := of_decide_eq_true (by with_reducible assumption)
       obtain ⟨ad80002, e80002, hx80002_0, hx80002_1, hx80002_2, hx80002_3, hx80002_4⟩ := at_T90 HR0_1.out x9_1 p80002 q80002
       (try rw [← Nbq7.out] at hx80002_4)
       cases e80002
       replace hx80002_0 := (HB.out.cell (World.block_lt_of_cell? w _ hx80002_0)).trans hx80002_0
       replace hx80002_1 := (HB.out.cell (World.block_lt_of_cell? w _ hx80002_1)).trans hx80002_1
       replace hx80002_2 := (HB.out.cell (World.block_lt_of_cell? w _ hx80002_2)).trans hx80002_2
       replace hx80002_3 := (HB.out.cell (World.block_lt_of_cell? w _ hx80002_3)).trans hx80002_3
       replace hx80002_4 := (HB.out.cell (World.block_lt_of_cell? w _ hx80002_4)).trans hx80002_4
       replace p80002 := eq_true p80002
       replace q80002 := eq_true q80002
       go_wp2_with (first | ((with_reducible refine gate_dst (N := 5) rfl ?_); refine box_event ?hg (N := 5) ?hd (cs := #[.int .i64 0, .int .i64 0, .int .i64 0, .int .i64 0, .bool false]) (t := 90) ?hr ?_; (case hd => rfl); (case hg => rfl); (case hr => first | (go_simp; done) | (go_simp; rfl)); intro gb80003 hg w14 hbox hb; have n0_ := Aside0.mk (Kd.R_below (by exact HO_3.out) hb); have n1_ := Aside0.mk (blk_below (g := gb80001) (o := .cells #[.slice A0_0 l0_0.length c0_0, .slice (some ad80002) l0_1.length c0_1, .int .i64 a0_2] 35 (0, 0)) BK80001.out hb); have n2_ := Aside0.mk (below_step (by exact HB.out) hb); have n3_ := Aside0.mk (hbox); have n4_ := Aside0.mk ((by rw [hg]; exact (below_size (by exact HB.out)) : w.heap.size ≤ gb80003)); have n5_ := n4_; have n6_ := Aside0.mk ((by rw [hg]; exact Nat.ne_of_lt (blk_lt (g := gb80001) (o := .cells #[.slice A0_0 l0_0.length c0_0, .slice (some ad80002) l0_1.length c0_1, .int .i64 a0_2] 35 (0, 0)) BK80001.out) : gb80001 ≠ gb80003)); have n7_ := Aside0.mk n6_.out.symm; clear HO_3; clear BK80001; clear HB; have HO_3 := n0_; have BK80001 := n1_; have HB := n2_; have BK80003 := n3_; have GW80003 := n4_; have GE80003 := n5_; have NB80001_80003 := n6_; have NB80003_80001 := n7_; clear n0_ n1_ n2_ n3_ n4_ n5_ n6_ n7_; clear hb hbox hg; have hnb15 := NB80003_80001.out; have hnc15 := NB80001_80003.out; have hcz16_0 : w14.cell? ⟨gb80003, 0, none⟩ = some (.int .i64 0) := (blk_cell BK80003.out 0).trans rfl; have hcz16_1 : w14.cell? ⟨gb80003, 1, none⟩ = some (.int .i64 0) := (blk_cell BK80003.out 1).trans rfl; have hcz16_2 : w14.cell? ⟨gb80003, 2, none⟩ = some (.int .i64 0) := (blk_cell BK80003.out 2).trans rfl; have hcz16_3 : w14.cell? ⟨gb80003, 3, none⟩ = some (.int .i64 0) := (blk_cell BK80003.out 3).trans rfl; have hcz16_4 : w14.cell? ⟨gb80003, 4, none⟩ = some (.bool false) := (blk_cell BK80003.out 4).trans rfl; have hfz16_0 := blk_frozen BK80003.out 0; have hfz16_1 := blk_frozen BK80003.out 1; have hfz16_2 := blk_frozen BK80003.out 2; have hfz16_3 := blk_frozen BK80003.out 3; have hfz16_4 := blk_frozen BK80003.out 4))
       go_roundg k1
       case measure => have := HK1.out; omega
       case rel => exact ⟨(x3_1), (wrap64 (x9_1 + 1)), (by first | rfl | (simp; done) | (simp [*]; done)), H', ⟨by have := HK1.out; omega⟩, ⟨by (with_reducible repeat (first | apply Kd.R_alloc | apply Kd.R_drewN | apply Kd.R_drew)); exact Kd.R_mono (Kd.R_far (p := ⟨gb80003, 4, none⟩) (Kd.R_far (p := ⟨gb80003, 3, none⟩) (Kd.R_far (p := ⟨gb80003, 2, none⟩) (Kd.R_far (p := ⟨gb80003, 1, none⟩) (Kd.R_far (p := ⟨gb80003, 0, none⟩) (Kd.R_types HO_3.out BK80003.out (by decide)) (fun _ hk => hk.2) (.int .i64 ((rd_T90 l0_1 x9_1).f0))) (fun _ hk => hk.2) (.int .i64 ((rd_T90 l0_1 x9_1).f1))) (fun _ hk => hk.2) (.int .i64 ((rd_T90 l0_1 x9_1).f2))) (fun _ hk => hk.2) (.int .i64 ((rd_T90 l0_1 x9_1).f3))) (fun _ hk => hk.2) (.bool false)) (fun _ hk => trivial)⟩, ⟨by (with_reducible repeat (first | refine blk_drewN ?_ _ | refine blk_drew ?_ | refine blk_alloc ?_ _)); refine blk_far ?_ NB80001_80003.out _; (with_reducible repeat (first | refine blk_drewN ?_ _ | refine blk_drew ?_ | refine blk_alloc ?_ _)); refine blk_far ?_ NB80001_80003.out _; (with_reducible repeat (first | refine blk_drewN ?_ _ | refine blk_drew ?_ | refine blk_alloc ?_ _)); refine blk_far ?_ NB80001_80003.out _; (with_reducible repeat (first | refine blk_drewN ?_ _ | refine blk_drew ?_ | refine blk_alloc ?_ _)); refine blk_far ?_ NB80001_80003.out _; (with_reducible repeat (first | refine blk_drewN ?_ _ | refine blk_drew ?_ | refine blk_alloc ?_ _)); refine blk_far ?_ NB80001_80003.out _; (with_reducible repeat (first | refine blk_drewN ?_ _ | refine blk_drew ?_ | refine blk_alloc ?_ _)); exact BK80001.out⟩, ⟨by repeat (first | (with_reducible first | exact HB.out | apply below_alloc | apply pw_below_drewN | apply below_drew1 | refine below_set ?_ GE80001.out | refine below_set ?_ GE80003.out) | exact HB.out)⟩⟩
     ·rw [if_neg c6] at H
      exact absurd H (by simp)
    ·rw [if_neg c5] at H
     exact absurd H (by simp)
   ·rw [if_neg c4] at H
    have c4b0 : decide (x9_1 < (l0_1.length : Int)) = false := decide_eq_false c4
    clear c4
    obtain rfl := Option.some.inj H
    go_wp2
    go_ret
    exact ⟨_, by first | rfl | (simp [errW_none, errW_some] <;> rfl) | (simp [*, errW_none, errW_some] <;> rfl), by (with_reducible repeat (first | apply Kd.R_alloc | apply Kd.R_drewN | apply Kd.R_drew)); exact HO_3.out, by repeat (first | (with_reducible first | exact HB.out | apply below_alloc | apply pw_below_drewN | apply below_drew1 | refine below_set ?_ GE80001.out) | exact HB.out)⟩

mutual
def impl_isChoice.j0 : Nat → List Int → Bool → List (S116) → List (S90) → Int → List Int → List Int → Option (Bool)
 | 0, _, _, _, _, _, _, _ => none
 | k + 1, x5, x23, x73002000, x73002001, x73002002, x73003000, x73003001 => if x23 = true then (some false) else (impl_isChoice.l0 k x5 (x5.length : Int) 0 x73002000 x73002001 x73002002 x73003000 x73003001)
def impl_isChoice.l0 : Nat → List Int → Int → Int → List (S116) → List (S90) → Int → List Int → List Int → Option (Bool)
 | 0, _, _, _, _, _, _, _, _ => none
 | k + 1, x24, x25, x26, x73002000, x73002001, x73002002, x73003000, x73003001 => if x26 < x25 then (if 0 ≤ x26 then (if x26 < (x24.length : Int) then (if x26 < (x73003000.length : Int) then (if 0 ≤ (rd x24 x26) then (if (rd x24 x26) < (x73002001.length : Int) then (if (rd x73003000 x26) < ((rd_T90 x73002001 (rd x24 x26)).f2) then (some false) else (if (rd x73003000 x26) > ((rd_T90 x73002001 (rd x24 x26)).f3) then (some false) else (impl_isChoice.l0 k x24 x25 (wrap64 (x26 + 1)) x73002000 x73002001 x73002002 x73003000 x73003001))) else (none)) else (none)) else (none)) else (none)) else (none)) else (impl_isChoice.l1 k x73003001 (x73003001.length : Int) 0 x73002000 x73002001 x73002002)
def impl_isChoice.l1 : Nat → List Int → Int → Int → List (S116) → List (S90) → Int → Option (Bool)
 | 0, _, _, _, _, _, _ => none
 | k + 1, x59, x60, x61, x73002000, x73002001, x73002002 => if x61 < x60 then (if 0 ≤ x61 then (if x61 < (x59.length : Int) then (if (rd x59 x61) = 1 then (if (rd x59 x61) = (-1) then ((impl_watcher.f x73002000 x73002001 x73002002 (wrap64 (x61 + 1))).bind fun t73012 => (if t73012 < 0 then (some false) else (impl_isChoice.l1 k x59 x60 (wrap64 (x61 + 1)) x73002000 x73002001 x73002002))) else (impl_isChoice.l1 k x59 x60 (wrap64 (x61 + 1)) x73002000 x73002001 x73002002)) else (if (rd x59 x61) = (-1) then ((impl_watcher.f x73002000 x73002001 x73002002 (wrap64 (x61 + 1))).bind fun t73013 => (if t73013 < 0 then (some false) else (impl_isChoice.l1 k x59 x60 (wrap64 (x61 + 1)) x73002000 x73002001 x73002002))) else (some false))) else (none)) else (none)) else (some true)
end
def impl_isChoice.f (k : Nat) (l0_0 : List (S116)) (l0_1 : List (S90)) (a0_2 : Int) (l1_0 : List Int) (l1_1 : List Int) : Option (Bool) := (impl_freeTies.f k l0_0 l0_1 a0_2).bind fun t73003 => (if (l1_0.length : Int) = (t73003.length : Int) then (impl_isChoice.j0 k t73003 ((l1_1.length : Int) != 3) l0_0 l0_1 a0_2 l1_0 l1_1) else (impl_isChoice.j0 k t73003 true l0_0 l0_1 a0_2 l1_0 l1_1))
set_option maxHeartbeats 8000000 in
set_option maxRecDepth 100000 in
theorem impl_isChoice.calls (k : Nat) (A0_0 : Option Addr) (c0_0 : Nat) (l0_0 : List (S116)) (A0_1 : Option Addr) (c0_1 : Nat) (l0_1 : List (S90)) (a0_2 : Int) (A1_0 : Option Addr) (c1_0 : Nat) (l1_0 : List Int) (A1_1 : Option Addr) (c1_1 : Nat) (l1_1 : List Int) (r : Bool) (w : World) (hr0_0 : Kd.C k116 w A0_0 l0_0.length l0_0) (hc0_0 : l0_0.length ≤ c0_0) (hr0_1 : Kd.C k90 w A0_1 l0_1.length l0_1) (hc0_1 : l0_1.length ≤ c0_1) (hr1_0 : Kd.C (Kd.int .i64) w A1_0 l1_0.length l1_0) (hc1_0 : l1_0.length ≤ c1_0) (hr1_1 : Kd.C (Kd.int .i64) w A1_1 l1_1.length l1_1) (hc1_1 : l1_1.length ≤ c1_1) (h : impl_isChoice.f k l0_0 l0_1 a0_2 l1_0 l1_1 = some r) :
  Calls Try.prog 73 #[.agg #[.slice A0_0 l0_0.length c0_0, .slice A0_1 l0_1.length c0_1, .int .i64 a0_2], .agg #[.slice A1_0 l1_0.length c1_0, .slice A1_1 l1_1.length c1_1]] w fun e w' => e = .returned (.bool r) ∧ Below w.heap.size w w' := by
 have hu35 := Try.underlying35
 have hu37 := Try.underlying37
 have HR0_0 := Aside0.mk hr0_0; have HC0_0 := Aside0.mk hc0_0; clear hr0_0 hc0_0; have HR0_1 := Aside0.mk hr0_1; have HC0_1 := Aside0.mk hc0_1; clear hr0_1 hc0_1; have HR1_0 := Aside0.mk hr1_0; have HC1_0 := Aside0.mk hc1_0; clear hr1_0 hc1_0; have HR1_1 := Aside0.mk hr1_1; have HC1_1 := Aside0.mk hc1_1; clear hr1_1 hc1_1
 have HB := Aside0.mk (Below.refl w.heap.size w)
 have H : ((impl_freeTies.f k l0_0 l0_1 a0_2).bind fun t73003 => (if (l1_0.length : Int) = (t73003.length : Int) then (impl_isChoice.j0 k t73003 ((l1_1.length : Int) != 3) l0_0 l0_1 a0_2 l1_0 l1_1) else (impl_isChoice.j0 k t73003 true l0_0 l0_1 a0_2 l1_0 l1_1))) = some r := h
 clear h
 replace H := Option.bind_eq_some_iff.mp H
 obtain ⟨t73003, A30, H⟩ := H
 replace H : (if (l1_0.length : Int) = (t73003.length : Int) then (impl_isChoice.j0 k t73003 ((l1_1.length : Int) != 3) l0_0 l0_1 a0_2 l1_0 l1_1) else (impl_isChoice.j0 k t73003 true l0_0 l0_1 a0_2 l1_0 l1_1)) = some r := H
 have A3 := Aside0.mk A30; clear A30; have HC4 := Aside0.mk H; clear H
 go_enter Try.func73, Try.ntmps73
 go_upto_region 2 with (first | ((with_reducible refine gate_dst (N := 2) rfl ?_); (try (refine gate_guard (by rfl) ?_; dsimp only)); refine box_event ?hg (N := 2) ?hd (cs := #[.slice A0_0 l0_0.length c0_0, .slice A0_1 l0_1.length c0_1, .int .i64 a0_2]) (t := 35) ?hr ?_; (case hd => rfl); (case hg => rfl); (case hr => first | (go_simp; done) | (go_simp; rfl)); intro gb73001 hg w5 hbox hb; have n0_ := Aside0.mk (below_step (by exact HB.out) hb); have n1_ := Aside0.mk (hbox); have n2_ := Aside0.mk ((by rw [hg]; exact (below_size (by exact HB.out)) : w.heap.size ≤ gb73001)); have n3_ := n2_; clear HB; have HB := n0_; have BK73001 := n1_; have GW73001 := n2_; have GE73001 := n3_; clear n0_ n1_ n2_ n3_; clear hb hbox hg) | ((with_reducible refine gate_dst (N := 3) rfl ?_); (try (refine gate_guard (by rfl) ?_; dsimp only)); refine box_event ?hg (N := 3) ?hd (cs := #[.slice A1_0 l1_0.length c1_0, .slice A1_1 l1_1.length c1_1]) (t := 37) ?hr ?_; (case hd => rfl); (case hg => rfl); (case hr => first | (go_simp; done) | (go_simp; rfl)); intro gb73002 hg w6 hbox hb; have n0_ := Aside0.mk (blk_below (g := gb73001) (o := .cells #[.slice A0_0 l0_0.length c0_0, .slice A0_1 l0_1.length c0_1, .int .i64 a0_2] 35 (0, 0)) BK73001.out hb); have n1_ := Aside0.mk (below_step (by exact HB.out) hb); have n2_ := Aside0.mk (hbox); have n3_ := Aside0.mk ((by rw [hg]; exact (below_size (by exact HB.out)) : w.heap.size ≤ gb73002)); have n4_ := n3_; have n5_ := Aside0.mk ((by rw [hg]; exact Nat.ne_of_lt (blk_lt (g := gb73001) (o := .cells #[.slice A0_0 l0_0.length c0_0, .slice A0_1 l0_1.length c0_1, .int .i64 a0_2] 35 (0, 0)) BK73001.out) : gb73001 ≠ gb73002)); have n6_ := Aside0.mk n5_.out.symm; clear BK73001; clear HB; have BK73001 := n0_; have HB := n1_; have BK73002 := n2_; have GW73002 := n3_; have GE73002 := n4_; have NB73001_73002 := n5_; have NB73002_73001 := n6_; clear n0_ n1_ n2_ n3_ n4_ n5_ n6_; clear hb hbox hg; have hnb7 := NB73001_73002.out; have hnc7 := NB73002_73001.out; have hcz8_0 : w6.cell? ⟨gb73001, 0, none⟩ = some (.slice A0_0 l0_0.length c0_0) := (blk_cell BK73001.out 0).trans rfl; have hcz8_1 : w6.cell? ⟨gb73001, 1, none⟩ = some (.slice A0_1 l0_1.length c0_1) := (blk_cell BK73001.out 1).trans rfl; have hcz8_2 : w6.cell? ⟨gb73001, 2, none⟩ = some (.int .i64 a0_2) := (blk_cell BK73001.out 2).trans rfl) | (go_at_call 80; (with_reducible refine (impl_freeTies.calls k _ _ l0_0 _ _ l0_1 a0_2 t73003 _ ?side1 ?side2 ?side3 ?side4 A3.out).mono ?_); (case side1 => exact (Kd.C_below HR0_0.out HB.out)); (case side2 => exact HC0_0.out); (case side3 => exact (Kd.C_below HR0_1.out HB.out)); (case side4 => exact HC0_1.out); rintro e w9 ⟨v73004, rfl, ho0, hb⟩; have n0_ := Aside0.mk (Kd.R_lower ho0 (below_size (by exact HB.out))); have n1_ := Aside0.mk (blk_below (g := gb73001) (o := .cells #[.slice A0_0 l0_0.length c0_0, .slice A0_1 l0_1.length c0_1, .int .i64 a0_2] 35 (0, 0)) BK73001.out hb); have n2_ := Aside0.mk (blk_below (g := gb73002) (o := .cells #[.slice A1_0 l1_0.length c1_0, .slice A1_1 l1_1.length c1_1] 37 (0, 0)) BK73002.out hb); have n3_ := Aside0.mk (below_step (by exact HB.out) hb); clear BK73001; clear BK73002; clear HB; have HO73005 := n0_; have BK73001 := n1_; have BK73002 := n2_; have HB := n3_; clear n0_ n1_ n2_ n3_; (try clear hb); (try clear hb2); (try clear hk); (try clear hi); (try clear ho0)))
 repeat (go_quiet (first | ((with_reducible refine gate_dst (N := 2) rfl ?_); (try (refine gate_guard (by rfl) ?_; dsimp only)); refine box_event ?hg (N := 2) ?hd (cs := #[.slice A0_0 l0_0.length c0_0, .slice A0_1 l0_1.length c0_1, .int .i64 a0_2]) (t := 35) ?hr ?_; (case hd => rfl); (case hg => rfl); (case hr => first | (go_simp; done) | (go_simp; rfl)); intro gb73001 hg w5 hbox hb; have n0_ := Aside0.mk (below_step (by exact HB.out) hb); have n1_ := Aside0.mk (hbox); have n2_ := Aside0.mk ((by rw [hg]; exact (below_size (by exact HB.out)) : w.heap.size ≤ gb73001)); have n3_ := n2_; clear HB; have HB := n0_; have BK73001 := n1_; have GW73001 := n2_; have GE73001 := n3_; clear n0_ n1_ n2_ n3_; clear hb hbox hg) | ((with_reducible refine gate_dst (N := 3) rfl ?_); (try (refine gate_guard (by rfl) ?_; dsimp only)); refine box_event ?hg (N := 3) ?hd (cs := #[.slice A1_0 l1_0.length c1_0, .slice A1_1 l1_1.length c1_1]) (t := 37) ?hr ?_; (case hd => rfl); (case hg => rfl); (case hr => first | (go_simp; done) | (go_simp; rfl)); intro gb73002 hg w6 hbox hb; have n0_ := Aside0.mk (blk_below (g := gb73001) (o := .cells #[.slice A0_0 l0_0.length c0_0, .slice A0_1 l0_1.length c0_1, .int .i64 a0_2] 35 (0, 0)) BK73001.out hb); have n1_ := Aside0.mk (below_step (by exact HB.out) hb); have n2_ := Aside0.mk (hbox); have n3_ := Aside0.mk ((by rw [hg]; exact (below_size (by exact HB.out)) : w.heap.size ≤ gb73002)); have n4_ := n3_; have n5_ := Aside0.mk ((by rw [hg]; exact Nat.ne_of_lt (blk_lt (g := gb73001) (o := .cells #[.slice A0_0 l0_0.length c0_0, .slice A0_1 l0_1.length c0_1, .int .i64 a0_2] 35 (0, 0)) BK73001.out) : gb73001 ≠ gb73002)); have n6_ := Aside0.mk n5_.out.symm; clear BK73001; clear HB; have BK73001 := n0_; have HB := n1_; have BK73002 := n2_; have GW73002 := n3_; have GE73002 := n4_; have NB73001_73002 := n5_; have NB73002_73001 := n6_; clear n0_ n1_ n2_ n3_ n4_ n5_ n6_; clear hb hbox hg; have hnb7 := NB73001_73002.out; have hnc7 := NB73002_73001.out; have hcz8_0 : w6.cell? ⟨gb73001, 0, none⟩ = some (.slice A0_0 l0_0.length c0_0) := (blk_cell BK73001.out 0).trans rfl; have hcz8_1 : w6.cell? ⟨gb73001, 1, none⟩ = some (.slice A0_1 l0_1.length c0_1) := (blk_cell BK73001.out 1).trans rfl; have hcz8_2 : w6.cell? ⟨gb73001, 2, none⟩ = some (.int .i64 a0_2) := (blk_cell BK73001.out 2).trans rfl) | (go_at_call 80; (with_reducible refine (impl_freeTies.calls k _ _ l0_0 _ _ l0_1 a0_2 t73003 _ ?side1 ?side2 ?side3 ?side4 A3.out).mono ?_); (case side1 => exact (Kd.C_below HR0_0.out HB.out)); (case side2 => exact HC0_0.out); (case side3 => exact (Kd.C_below HR0_1.out HB.out)); (case side4 => exact HC0_1.out); rintro e w9 ⟨v73004, rfl, ho0, hb⟩; have n0_ := Aside0.mk (Kd.R_lower ho0 (below_size (by exact HB.out))); have n1_ := Aside0.mk (blk_below (g := gb73001) (o := .cells #[.slice A0_0 l0_0.length c0_0, .slice A0_1 l0_1.length c0_1, .int .i64 a0_2] 35 (0, 0)) BK73001.out hb); have n2_ := Aside0.mk (blk_below (g := gb73002) (o := .cells #[.slice A1_0 l1_0.length c1_0, .slice A1_1 l1_1.length c1_1] 37 (0, 0)) BK73002.out hb); have n3_ := Aside0.mk (below_step (by exact HB.out) hb); clear BK73001; clear BK73002; clear HB; have HO73005 := n0_; have BK73001 := n1_; have BK73002 := n2_; have HB := n3_; clear n0_ n1_ n2_ n3_; (try clear hb); (try clear hb2); (try clear hk); (try clear hi); (try clear ho0))); go_upto_region 2 with (first | ((with_reducible refine gate_dst (N := 2) rfl ?_); (try (refine gate_guard (by rfl) ?_; dsimp only)); refine box_event ?hg (N := 2) ?hd (cs := #[.slice A0_0 l0_0.length c0_0, .slice A0_1 l0_1.length c0_1, .int .i64 a0_2]) (t := 35) ?hr ?_; (case hd => rfl); (case hg => rfl); (case hr => first | (go_simp; done) | (go_simp; rfl)); intro gb73001 hg w5 hbox hb; have n0_ := Aside0.mk (below_step (by exact HB.out) hb); have n1_ := Aside0.mk (hbox); have n2_ := Aside0.mk ((by rw [hg]; exact (below_size (by exact HB.out)) : w.heap.size ≤ gb73001)); have n3_ := n2_; clear HB; have HB := n0_; have BK73001 := n1_; have GW73001 := n2_; have GE73001 := n3_; clear n0_ n1_ n2_ n3_; clear hb hbox hg) | ((with_reducible refine gate_dst (N := 3) rfl ?_); (try (refine gate_guard (by rfl) ?_; dsimp only)); refine box_event ?hg (N := 3) ?hd (cs := #[.slice A1_0 l1_0.length c1_0, .slice A1_1 l1_1.length c1_1]) (t := 37) ?hr ?_; (case hd => rfl); (case hg => rfl); (case hr => first | (go_simp; done) | (go_simp; rfl)); intro gb73002 hg w6 hbox hb; have n0_ := Aside0.mk (blk_below (g := gb73001) (o := .cells #[.slice A0_0 l0_0.length c0_0, .slice A0_1 l0_1.length c0_1, .int .i64 a0_2] 35 (0, 0)) BK73001.out hb); have n1_ := Aside0.mk (below_step (by exact HB.out) hb); have n2_ := Aside0.mk (hbox); have n3_ := Aside0.mk ((by rw [hg]; exact (below_size (by exact HB.out)) : w.heap.size ≤ gb73002)); have n4_ := n3_; have n5_ := Aside0.mk ((by rw [hg]; exact Nat.ne_of_lt (blk_lt (g := gb73001) (o := .cells #[.slice A0_0 l0_0.length c0_0, .slice A0_1 l0_1.length c0_1, .int .i64 a0_2] 35 (0, 0)) BK73001.out) : gb73001 ≠ gb73002)); have n6_ := Aside0.mk n5_.out.symm; clear BK73001; clear HB; have BK73001 := n0_; have HB := n1_; have BK73002 := n2_; have GW73002 := n3_; have GE73002 := n4_; have NB73001_73002 := n5_; have NB73002_73001 := n6_; clear n0_ n1_ n2_ n3_ n4_ n5_ n6_; clear hb hbox hg; have hnb7 := NB73001_73002.out; have hnc7 := NB73002_73001.out; have hcz8_0 : w6.cell? ⟨gb73001, 0, none⟩ = some (.slice A0_0 l0_0.length c0_0) := (blk_cell BK73001.out 0).trans rfl; have hcz8_1 : w6.cell? ⟨gb73001, 1, none⟩ = some (.slice A0_1 l0_1.length c0_1) := (blk_cell BK73001.out 1).trans rfl; have hcz8_2 : w6.cell? ⟨gb73001, 2, none⟩ = some (.int .i64 a0_2) := (blk_cell BK73001.out 2).trans rfl) | (go_at_call 80; (with_reducible refine (impl_freeTies.calls k _ _ l0_0 _ _ l0_1 a0_2 t73003 _ ?side1 ?side2 ?side3 ?side4 A3.out).mono ?_); (case side1 => exact (Kd.C_below HR0_0.out HB.out)); (case side2 => exact HC0_0.out); (case side3 => exact (Kd.C_below HR0_1.out HB.out)); (case side4 => exact HC0_1.out); rintro e w9 ⟨v73004, rfl, ho0, hb⟩; have n0_ := Aside0.mk (Kd.R_lower ho0 (below_size (by exact HB.out))); have n1_ := Aside0.mk (blk_below (g := gb73001) (o := .cells #[.slice A0_0 l0_0.length c0_0, .slice A0_1 l0_1.length c0_1, .int .i64 a0_2] 35 (0, 0)) BK73001.out hb); have n2_ := Aside0.mk (blk_below (g := gb73002) (o := .cells #[.slice A1_0 l1_0.length c1_0, .slice A1_1 l1_1.length c1_1] 37 (0, 0)) BK73002.out hb); have n3_ := Aside0.mk (below_step (by exact HB.out) hb); clear BK73001; clear BK73002; clear HB; have HO73005 := n0_; have BK73001 := n1_; have BK73002 := n2_; have HB := n3_; clear n0_ n1_ n2_ n3_; (try clear hb); (try clear hb2); (try clear hk); (try clear hi); (try clear ho0))))
 (try simp only [Act.put, List.setIfInBounds_toArray, List.set_cons_zero, List.set_cons_succ])
 go_cut [23] (fun v23 wc => ∃ (kq : Nat) (x23_3 : Bool), v23 = .bool x23_3 ∧ Aside0 (impl_isChoice.j0 kq t73003 x23_3 l0_0 l0_1 a0_2 l1_0 l1_1 = some r) ∧ Aside0 (kq ≤ k) ∧ Aside0 (Kd.R (Kd.int .i64) 3 wc w.heap.size (fun _ => True) v73004 t73003) ∧ Aside0 (wc.heap[gb73001]? = some (.cells #[(.slice A0_0 l0_0.length c0_0), (.slice A0_1 l0_1.length c0_1), .int .i64 a0_2] 35 (0, 0))) ∧ Aside0 (wc.heap[gb73002]? = some (.cells #[(.slice A1_0 l1_0.length c1_0), (.slice A1_1 l1_1.length c1_1)] 37 (0, 0))) ∧ Aside0 (Below w.heap.size w wc))
 case first =>
  have H := HC4.out
  clear HC4
  by_cases c10 : (l1_0.length : Int) = (t73003.length : Int)
  ·rw [if_pos c10] at H
   have c10b0 : ((l1_0.length : Int) == (t73003.length : Int)) = true := beq_iff_eq.mpr c10
   have c10b1 : ((l1_0.length : Int) != (t73003.length : Int)) = false := bne_eq_false_iff_eq.mpr c10
   have c10b2 : (l1_0.length == t73003.length) = true := by first | simpa using c10 | (simp at c10 ⊢; omega)
   clear c10
   (first | rw [c10b0] | (simp only [i64_w, i32_w]; rw [c10b0]) | skip)
   have H' := Aside0.mk H
   clear H
   have hnb11 := NB73002_73001.out
   have hnc11 := NB73001_73002.out
   have hcz12_0 : w9.cell? ⟨gb73002, 0, none⟩ = some (.slice A1_0 l1_0.length c1_0) := (blk_cell BK73002.out 0).trans rfl
   have hcz12_1 : w9.cell? ⟨gb73002, 1, none⟩ = some (.slice A1_1 l1_1.length c1_1) := (blk_cell BK73002.out 1).trans rfl
   obtain ⟨Ao13, co13, eo13⟩ := Kd.R_slice HO73005.out
   subst eo13
   go_wp2
   repeat (go_quiet (fail); try go_wp2)
   go_meet
   case rel => exact ⟨_, (((l1_1.length : Int) != 3)), (by first | rfl | (simp; done) | (simp [*]; done)), H', ⟨by first | omega | exact Nat.le_refl _⟩, ⟨by (with_reducible repeat (first | apply Kd.R_alloc | apply Kd.R_drewN | apply Kd.R_drew)); exact HO73005.out⟩, ⟨by (with_reducible repeat (first | refine blk_drewN ?_ _ | refine blk_drew ?_ | refine blk_alloc ?_ _)); exact BK73001.out⟩, ⟨by (with_reducible repeat (first | refine blk_drewN ?_ _ | refine blk_drew ?_ | refine blk_alloc ?_ _)); exact BK73002.out⟩, ⟨by repeat (first | (with_reducible first | exact HB.out | apply below_alloc | apply pw_below_drewN | apply below_drew1 | refine below_set ?_ GE73001.out | refine below_set ?_ GE73002.out) | exact HB.out)⟩⟩
  ·rw [if_neg c10] at H
   have c10b0 : ((l1_0.length : Int) == (t73003.length : Int)) = false := beq_eq_false_iff_ne.mpr c10
   have c10b1 : ((l1_0.length : Int) != (t73003.length : Int)) = true := bne_iff_ne.mpr c10
   have c10b2 : (l1_0.length == t73003.length) = false := by first | simpa using c10 | (simp at c10 ⊢; omega)
   (first | rw [c10b0] | (simp only [i64_w, i32_w]; rw [c10b0]) | skip)
   have H' := Aside0.mk H
   clear H
   have hnb14 := NB73002_73001.out
   have hnc14 := NB73001_73002.out
   have hcz15_0 : w9.cell? ⟨gb73002, 0, none⟩ = some (.slice A1_0 l1_0.length c1_0) := (blk_cell BK73002.out 0).trans rfl
   have hcz15_1 : w9.cell? ⟨gb73002, 1, none⟩ = some (.slice A1_1 l1_1.length c1_1) := (blk_cell BK73002.out 1).trans rfl
   obtain ⟨Ao16, co16, eo16⟩ := Kd.R_slice HO73005.out
   subst eo16
   go_wp2
   repeat (go_quiet (fail); try go_wp2)
   go_meet
   case rel => exact ⟨_, (true), (by first | rfl | (simp; done) | (simp [*]; done)), H', ⟨by first | omega | exact Nat.le_refl _⟩, ⟨by (with_reducible repeat (first | apply Kd.R_alloc | apply Kd.R_drewN | apply Kd.R_drew)); exact HO73005.out⟩, ⟨by (with_reducible repeat (first | refine blk_drewN ?_ _ | refine blk_drew ?_ | refine blk_alloc ?_ _)); exact BK73001.out⟩, ⟨by (with_reducible repeat (first | refine blk_drewN ?_ _ | refine blk_drew ?_ | refine blk_alloc ?_ _)); exact BK73002.out⟩, ⟨by repeat (first | (with_reducible first | exact HB.out | apply below_alloc | apply pw_below_drewN | apply below_drew1 | refine below_set ?_ GE73001.out | refine below_set ?_ GE73002.out) | exact HB.out)⟩⟩
 case rest =>
  clear HC4
  try clear c1
  try clear p2
  try clear c7
  try clear c10
  try clear c10b0
  try clear c10b1
  try clear c10b2
  try clear c11
  try clear c14
  obtain ⟨kq, x23_3, rfl, HA, HJ3, HO_5, BK73001, BK73002, HB⟩ := hcut
  cases kq with
  | zero => exact absurd HA.out (by simp [impl_isChoice.j0])
  | succ kj3 =>
   have H := HA.out
   clear HA
   simp only [impl_isChoice.j0] at H
   by_cases c17 : x23_3 = true
   ·subst c17
    have H1 : (some false) = some r := by rw [if_pos rfl] at H; exact H
    clear H
    have H := H1
    clear H1
    obtain rfl := Option.some.inj H
    go_wp2
    repeat (go_quiet (fail); try go_wp2)
    go_ret
    exact ⟨by first | rfl | (simp [errW_none, errW_some] <;> rfl) | (simp [*, errW_none, errW_some] <;> rfl), by repeat (first | (with_reducible first | exact HB.out | apply below_alloc | apply pw_below_drewN | apply below_drew1 | refine below_set ?_ GE73001.out | refine below_set ?_ GE73002.out) | exact HB.out)⟩
   ·replace c17 := Bool.eq_false_iff.mpr c17
    subst c17
    have H1 : (impl_isChoice.l0 kj3 t73003 (t73003.length : Int) 0 l0_0 l0_1 a0_2 l1_0 l1_1) = some r := by rw [if_neg (show ¬ (false = true) by decide)] at H; exact H
    clear H
    have H := H1
    clear H1
    have H' := Aside0.mk H
    clear H
    obtain ⟨Ao18, co18, eo18⟩ := Kd.R_slice HO_5.out
    subst eo18
    go_wp2
    repeat (go_quiet (fail); try go_wp2)
    go_loopg [26] kj3 (fun kq v26 w' => ∃ (x26_2 : Int), v26 = .int .i64 x26_2 ∧ Aside0 (impl_isChoice.l0 kq t73003 (t73003.length : Int) x26_2 l0_0 l0_1 a0_2 l1_0 l1_1 = some r) ∧ Aside0 (kq ≤ kj3) ∧ Aside0 (Kd.R (Kd.int .i64) 3 w' w.heap.size (fun _ => True) (.slice Ao18 t73003.length co18) t73003) ∧ Aside0 (w'.heap[gb73001]? = some (.cells #[(.slice A0_0 l0_0.length c0_0), (.slice A0_1 l0_1.length c0_1), .int .i64 a0_2] 35 (0, 0))) ∧ Aside0 (w'.heap[gb73002]? = some (.cells #[(.slice A1_0 l1_0.length c1_0), (.slice A1_1 l1_1.length c1_1)] 37 (0, 0))) ∧ Aside0 (Below w.heap.size w w'))
    case atStart => exact ⟨(0), (by first | rfl | (simp; done) | (simp [*]; done)), H', ⟨Nat.le_refl _⟩, ⟨by (with_reducible repeat (first | apply Kd.R_alloc | apply Kd.R_drewN | apply Kd.R_drew)); exact HO_5.out⟩, ⟨by (with_reducible repeat (first | refine blk_drewN ?_ _ | refine blk_drew ?_ | refine blk_alloc ?_ _)); exact BK73001.out⟩, ⟨by (with_reducible repeat (first | refine blk_drewN ?_ _ | refine blk_drew ?_ | refine blk_alloc ?_ _)); exact BK73002.out⟩, ⟨by repeat (first | (with_reducible first | exact HB.out | apply below_alloc | apply pw_below_drewN | apply below_drew1 | refine below_set ?_ GE73001.out | refine below_set ?_ GE73002.out) | exact HB.out)⟩⟩
    case round =>
     clear H'
     try clear c1
     try clear p2
     try clear c7
     try clear c10
     try clear c10b0
     try clear c10b1
     try clear c10b2
     try clear c11
     try clear c14
     try clear c17
     try clear p2
     obtain ⟨x26_2, rfl, HA, HK2, HO_24, BK73001, BK73002, HB⟩ := hrel
     cases gk with
     | zero => exact absurd HA.out (by simp [impl_isChoice.l0])
     | succ k2 =>
      have H := HA.out
      clear HA
      simp only [impl_isChoice.l0] at H
      by_cases c19 : x26_2 < (t73003.length : Int)
      ·rw [if_pos c19] at H
       have c19b0 : decide (x26_2 < (t73003.length : Int)) = true := decide_eq_true c19
       clear c19
       by_cases c20 : 0 ≤ x26_2
       ·rw [if_pos c20] at H
        have c20b0 : decide (0 ≤ x26_2) = true := decide_eq_true c20
        clear c20
        by_cases c21 : x26_2 < (t73003.length : Int)
        ·rw [if_pos c21] at H
         have c21b0 : decide (x26_2 < (t73003.length : Int)) = true := decide_eq_true c21
         clear c21
         by_cases c22 : x26_2 < (l1_0.length : Int)
         ·rw [if_pos c22] at H
          have c22b0 : decide (x26_2 < (l1_0.length : Int)) = true := decide_eq_true c22
          clear c22
          by_cases c23 : 0 ≤ (rd t73003 x26_2)
          ·rw [if_pos c23] at H
           have c23b0 : decide (0 ≤ (rd t73003 x26_2)) = true := decide_eq_true c23
           clear c23
           by_cases c24 : (rd t73003 x26_2) < (l0_1.length : Int)
           ·rw [if_pos c24] at H
            have c24b0 : decide ((rd t73003 x26_2) < (l0_1.length : Int)) = true := decide_eq_true c24
            clear c24
            by_cases c25 : (rd l1_0 x26_2) < ((rd_T90 l0_1 (rd t73003 x26_2)).f2)
            ·rw [if_pos c25] at H
             have c25b0 : decide ((rd l1_0 x26_2) < ((rd_T90 l0_1 (rd t73003 x26_2)).f2)) = true := decide_eq_true c25
             clear c25
             obtain rfl := Option.some.inj H
             have p73006 : 0 ≤ (x26_2 : Int) := of_decide_eq_true (by with_reducible assumption)
             have q73006 : x26_2 < (t73003.length : Int) := of_decide_eq_true (by with_reducible assumption)
             obtain ⟨ad73006, e73006, hx73006_0⟩ := Kd.at_int (Kd.R_reads' HO_24.out).2.2 x26_2 p73006 q73006
             cases e73006
             replace p73006 := eq_true p73006
             replace q73006 := eq_true q73006
             have hnb26 := NB73002_73001.out
             have hnc26 := NB73001_73002.out
             have hcz27_0 : wr.cell? ⟨gb73002, 0, none⟩ = some (.slice A1_0 l1_0.length c1_0) := (blk_cell BK73002.out 0).trans rfl
             have hcz27_1 : wr.cell? ⟨gb73002, 1, none⟩ = some (.slice A1_1 l1_1.length c1_1) := (blk_cell BK73002.out 1).trans rfl
             have p73007 : 0 ≤ (x26_2 : Int) := of_decide_eq_true (by with_reducible assumption)
             have q73007 : x26_2 < (l1_0.length : Int) := of_decide_eq_true (by with_reducible assumption)
             obtain ⟨ad73007, e73007, hx73007_0⟩ := Kd.at_int HR1_0.out x26_2 p73007 q73007
             cases e73007
             replace hx73007_0 := (HB.out.cell (World.block_lt_of_cell? w _ hx73007_0)).trans hx73007_0
             replace p73007 := eq_true p73007
             replace q73007 := eq_true q73007
             have hcz28_0 : wr.cell? ⟨gb73001, 0, none⟩ = some (.slice A0_0 l0_0.length c0_0) := (blk_cell BK73001.out 0).trans rfl
             have hcz28_1 : wr.cell? ⟨gb73001, 1, none⟩ = some (.slice A0_1 l0_1.length c0_1) := (blk_cell BK73001.out 1).trans rfl
             have hcz28_2 : wr.cell? ⟨gb73001, 2, none⟩ = some (.int .i64 a0_2) := (blk_cell BK73001.out 2).trans rfl
             have p73008 : 0 ≤ ((rd t73003 x26_2) : Int) := of_decide_eq_true (by with_reducible assumption)
             have q73008 : (rd t73003 x26_2) < (l0_1.length : Int) := of_decide_eq_true (by with_reducible assumption)
             obtain ⟨ad73008, e73008, hx73008_0, hx73008_1, hx73008_2, hx73008_3, hx73008_4⟩ := at_T90 HR0_1.out (rd t73003 x26_2) p73008 q73008
             cases e73008
             replace hx73008_0 := (HB.out.cell (World.block_lt_of_cell? w _ hx73008_0)).trans hx73008_0
             replace hx73008_1 := (HB.out.cell (World.block_lt_of_cell? w _ hx73008_1)).trans hx73008_1
             replace hx73008_2 := (HB.out.cell (World.block_lt_of_cell? w _ hx73008_2)).trans hx73008_2
             replace hx73008_3 := (HB.out.cell (World.block_lt_of_cell? w _ hx73008_3)).trans hx73008_3
             replace hx73008_4 := (HB.out.cell (World.block_lt_of_cell? w _ hx73008_4)).trans hx73008_4
             replace p73008 := eq_true p73008
             replace q73008 := eq_true q73008
             go_wp2
             repeat (go_quiet (fail); try go_wp2)
             go_ret
             exact ⟨by first | rfl | (simp [errW_none, errW_some] <;> rfl) | (simp [*, errW_none, errW_some] <;> rfl), by repeat (first | (with_reducible first | exact HB.out | apply below_alloc | apply pw_below_drewN | apply below_drew1 | refine below_set ?_ GE73001.out | refine below_set ?_ GE73002.out) | exact HB.out)⟩
            ·rw [if_neg c25] at H
             have c25b0 : decide ((rd l1_0 x26_2) < ((rd_T90 l0_1 (rd t73003 x26_2)).f2)) = false := decide_eq_false c25
             clear c25
             by_cases c29 : (rd l1_0 x26_2) > ((rd_T90 l0_1 (rd t73003 x26_2)).f3)
             ·rw [if_pos c29] at H
              have c29b0 : decide (((rd_T90 l0_1 (rd t73003 x26_2)).f3) < (rd l1_0 x26_2)) = true := decide_eq_true c29
              clear c29
              obtain rfl := Option.some.inj H
              have p73006 : 0 ≤ (x26_2 : Int) := of_decide_eq_true (by with_reducible assumption)
              have q73006 : x26_2 < (t73003.length : Int) := of_decide_eq_true (by with_reducible assumption)
              obtain ⟨ad73006, e73006, hx73006_0⟩ := Kd.at_int (Kd.R_reads' HO_24.out).2.2 x26_2 p73006 q73006
              cases e73006
              replace p73006 := eq_true p73006
              replace q73006 := eq_true q73006
              have hnb30 := NB73002_73001.out
              have hnc30 := NB73001_73002.out
              have hcz31_0 : wr.cell? ⟨gb73002, 0, none⟩ = some (.slice A1_0 l1_0.length c1_0) := (blk_cell BK73002.out 0).trans rfl
              have hcz31_1 : wr.cell? ⟨gb73002, 1, none⟩ = some (.slice A1_1 l1_1.length c1_1) := (blk_cell BK73002.out 1).trans rfl
              have p73007 : 0 ≤ (x26_2 : Int) := of_decide_eq_true (by with_reducible assumption)
              have q73007 : x26_2 < (l1_0.length : Int) := of_decide_eq_true (by with_reducible assumption)
              obtain ⟨ad73007, e73007, hx73007_0⟩ := Kd.at_int HR1_0.out x26_2 p73007 q73007
              cases e73007
              replace hx73007_0 := (HB.out.cell (World.block_lt_of_cell? w _ hx73007_0)).trans hx73007_0
              replace p73007 := eq_true p73007
              replace q73007 := eq_true q73007
              have hcz32_0 : wr.cell? ⟨gb73001, 0, none⟩ = some (.slice A0_0 l0_0.length c0_0) := (blk_cell BK73001.out 0).trans rfl
              have hcz32_1 : wr.cell? ⟨gb73001, 1, none⟩ = some (.slice A0_1 l0_1.length c0_1) := (blk_cell BK73001.out 1).trans rfl
              have hcz32_2 : wr.cell? ⟨gb73001, 2, none⟩ = some (.int .i64 a0_2) := (blk_cell BK73001.out 2).trans rfl
              have p73008 : 0 ≤ ((rd t73003 x26_2) : Int) := of_decide_eq_true (by with_reducible assumption)
              have q73008 : (rd t73003 x26_2) < (l0_1.length : Int) := of_decide_eq_true (by with_reducible assumption)
              obtain ⟨ad73008, e73008, hx73008_0, hx73008_1, hx73008_2, hx73008_3, hx73008_4⟩ := at_T90 HR0_1.out (rd t73003 x26_2) p73008 q73008
              cases e73008
              replace hx73008_0 := (HB.out.cell (World.block_lt_of_cell? w _ hx73008_0)).trans hx73008_0
              replace hx73008_1 := (HB.out.cell (World.block_lt_of_cell? w _ hx73008_1)).trans hx73008_1
              replace hx73008_2 := (HB.out.cell (World.block_lt_of_cell? w _ hx73008_2)).trans hx73008_2
              replace hx73008_3 := (HB.out.cell (World.block_lt_of_cell? w _ hx73008_3)).trans hx73008_3
              replace hx73008_4 := (HB.out.cell (World.block_lt_of_cell? w _ hx73008_4)).trans hx73008_4
              replace p73008 := eq_true p73008
              replace q73008 := eq_true q73008
              have p73009 : 0 ≤ (x26_2 : Int) := of_decide_eq_true (by with_reducible assumption)
              have q73009 : x26_2 < (l1_0.length : Int) := of_decide_eq_true (by with_reducible assumption)
              obtain ⟨ad73009, e73009, hx73009_0⟩ := Kd.at_int HR1_0.out x26_2 p73009 q73009
              obtain rfl : ad73007 = ad73009 := (by injection e73009)
              replace hx73009_0 := (HB.out.cell (World.block_lt_of_cell? w _ hx73009_0)).trans hx73009_0
              replace p73009 := eq_true p73009
              replace q73009 := eq_true q73009
              have p73010 : 0 ≤ ((rd t73003 x26_2) : Int) := of_decide_eq_true (by with_reducible assumption)
              have q73010 : (rd t73003 x26_2) < (l0_1.length : Int) := of_decide_eq_true (by with_reducible assumption)
              obtain ⟨ad73010, e73010, hx73010_0, hx73010_1, hx73010_2, hx73010_3, hx73010_4⟩ := at_T90 HR0_1.out (rd t73003 x26_2) p73010 q73010
              obtain rfl : ad73008 = ad73010 := (by injection e73010)
              replace hx73010_0 := (HB.out.cell (World.block_lt_of_cell? w _ hx73010_0)).trans hx73010_0
              replace hx73010_1 := (HB.out.cell (World.block_lt_of_cell? w _ hx73010_1)).trans hx73010_1
              replace hx73010_2 := (HB.out.cell (World.block_lt_of_cell? w _ hx73010_2)).trans hx73010_2
              replace hx73010_3 := (HB.out.cell (World.block_lt_of_cell? w _ hx73010_3)).trans hx73010_3
              replace hx73010_4 := (HB.out.cell (World.block_lt_of_cell? w _ hx73010_4)).trans hx73010_4
              replace p73010 := eq_true p73010
              replace q73010 := eq_true q73010
              go_wp2
              repeat (go_quiet (fail); try go_wp2)
              go_ret
              exact ⟨by first | rfl | (simp [errW_none, errW_some] <;> rfl) | (simp [*, errW_none, errW_some] <;> rfl), by repeat (first | (with_reducible first | exact HB.out | apply below_alloc | apply pw_below_drewN | apply below_drew1 | refine below_set ?_ GE73001.out | refine below_set ?_ GE73002.out) | exact HB.out)⟩
             ·rw [if_neg c29] at H
              have c29b0 : decide (((rd_T90 l0_1 (rd t73003 x26_2)).f3) < (rd l1_0 x26_2)) = false := decide_eq_false c29
              clear c29
              have H' := Aside0.mk H
              clear H
              have p73006 : 0 ≤ (x26_2 : Int) := of_decide_eq_true (by with_reducible assumption)
              have q73006 : x26_2 < (t73003.length : Int) := of_decide_eq_true (by with_reducible assumption)
              obtain ⟨ad73006, e73006, hx73006_0⟩ := Kd.at_int (Kd.R_reads' HO_24.out).2.2 x26_2 p73006 q73006
              cases e73006
              replace p73006 := eq_true p73006
              replace q73006 := eq_true q73006
              have hnb33 := NB73002_73001.out
              have hnc33 := NB73001_73002.out
              have hcz34_0 : wr.cell? ⟨gb73002, 0, none⟩ = some (.slice A1_0 l1_0.length c1_0) := (blk_cell BK73002.out 0).trans rfl
              have hcz34_1 : wr.cell? ⟨gb73002, 1, none⟩ = some (.slice A1_1 l1_1.length c1_1) := (blk_cell BK73002.out 1).trans rfl
              have p73007 : 0 ≤ (x26_2 : Int) := of_decide_eq_true (by with_reducible assumption)
              have q73007 : x26_2 < (l1_0.length : Int) := of_decide_eq_true (by with_reducible assumption)
              obtain ⟨ad73007, e73007, hx73007_0⟩ := Kd.at_int HR1_0.out x26_2 p73007 q73007
              cases e73007
              replace hx73007_0 := (HB.out.cell (World.block_lt_of_cell? w _ hx73007_0)).trans hx73007_0
              replace p73007 := eq_true p73007
              replace q73007 := eq_true q73007
              have hcz35_0 : wr.cell? ⟨gb73001, 0, none⟩ = some (.slice A0_0 l0_0.length c0_0) := (blk_cell BK73001.out 0).trans rfl
              have hcz35_1 : wr.cell? ⟨gb73001, 1, none⟩ = some (.slice A0_1 l0_1.length c0_1) := (blk_cell BK73001.out 1).trans rfl
              have hcz35_2 : wr.cell? ⟨gb73001, 2, none⟩ = some (.int .i64 a0_2) := (blk_cell BK73001.out 2).trans rfl
              have p73008 : 0 ≤ ((rd t73003 x26_2) : Int) := of_decide_eq_true (by with_reducible assumption)
              have q73008 : (rd t73003 x26_2) < (l0_1.length : Int) := of_decide_eq_true (by with_reducible assumption)
              obtain ⟨ad73008, e73008, hx73008_0, hx73008_1, hx73008_2, hx73008_3, hx73008_4⟩ := at_T90 HR0_1.out (rd t73003 x26_2) p73008 q73008
              cases e73008
              replace hx73008_0 := (HB.out.cell (World.block_lt_of_cell? w _ hx73008_0)).trans hx73008_0
              replace hx73008_1 := (HB.out.cell (World.block_lt_of_cell? w _ hx73008_1)).trans hx73008_1
              replace hx73008_2 := (HB.out.cell (World.block_lt_of_cell? w _ hx73008_2)).trans hx73008_2
              replace hx73008_3 := (HB.out.cell (World.block_lt_of_cell? w _ hx73008_3)).trans hx73008_3
              replace hx73008_4 := (HB.out.cell (World.block_lt_of_cell? w _ hx73008_4)).trans hx73008_4
              replace p73008 := eq_true p73008
              replace q73008 := eq_true q73008
              have p73009 : 0 ≤ (x26_2 : Int) := of_decide_eq_true (by with_reducible assumption)
              have q73009 : x26_2 < (l1_0.length : Int) := of_decide_eq_true (by with_reducible assumption)
              obtain ⟨ad73009, e73009, hx73009_0⟩ := Kd.at_int HR1_0.out x26_2 p73009 q73009
              obtain rfl : ad73007 = ad73009 := (by injection e73009)
              replace hx73009_0 := (HB.out.cell (World.block_lt_of_cell? w _ hx73009_0)).trans hx73009_0
              replace p73009 := eq_true p73009
              replace q73009 := eq_true q73009
              have p73010 : 0 ≤ ((rd t73003 x26_2) : Int) := of_decide_eq_true (by with_reducible assumption)
              have q73010 : (rd t73003 x26_2) < (l0_1.length : Int) := of_decide_eq_true (by with_reducible assumption)
              obtain ⟨ad73010, e73010, hx73010_0, hx73010_1, hx73010_2, hx73010_3, hx73010_4⟩ := at_T90 HR0_1.out (rd t73003 x26_2) p73010 q73010
              obtain rfl : ad73008 = ad73010 := (by injection e73010)
              replace hx73010_0 := (HB.out.cell (World.block_lt_of_cell? w _ hx73010_0)).trans hx73010_0
              replace hx73010_1 := (HB.out.cell (World.block_lt_of_cell? w _ hx73010_1)).trans hx73010_1
              replace hx73010_2 := (HB.out.cell (World.block_lt_of_cell? w _ hx73010_2)).trans hx73010_2
              replace hx73010_3 := (HB.out.cell (World.block_lt_of_cell? w _ hx73010_3)).trans hx73010_3
              replace hx73010_4 := (HB.out.cell (World.block_lt_of_cell? w _ hx73010_4)).trans hx73010_4
              replace p73010 := eq_true p73010
              replace q73010 := eq_true q73010
              go_wp2
              repeat (go_quiet (fail); try go_wp2)
              go_roundg k2
              case measure => have := HJ3.out; have := HK2.out; omega
              case rel => exact ⟨(wrap64 (x26_2 + 1)), (by first | rfl | (simp; done) | (simp [*]; done)), H', ⟨by have := HJ3.out; have := HK2.out; omega⟩, ⟨by (with_reducible repeat (first | apply Kd.R_alloc | apply Kd.R_drewN | apply Kd.R_drew)); exact HO_24.out⟩, ⟨by (with_reducible repeat (first | refine blk_drewN ?_ _ | refine blk_drew ?_ | refine blk_alloc ?_ _)); exact BK73001.out⟩, ⟨by (with_reducible repeat (first | refine blk_drewN ?_ _ | refine blk_drew ?_ | refine blk_alloc ?_ _)); exact BK73002.out⟩, ⟨by repeat (first | (with_reducible first | exact HB.out | apply below_alloc | apply pw_below_drewN | apply below_drew1 | refine below_set ?_ GE73001.out | refine below_set ?_ GE73002.out) | exact HB.out)⟩⟩
           ·rw [if_neg c24] at H
            exact absurd H (by simp)
          ·rw [if_neg c23] at H
           exact absurd H (by simp)
         ·rw [if_neg c22] at H
          exact absurd H (by simp)
        ·rw [if_neg c21] at H
         exact absurd H (by simp)
       ·rw [if_neg c20] at H
        exact absurd H (by simp)
      ·rw [if_neg c19] at H
       have c19b0 : decide (x26_2 < (t73003.length : Int)) = false := decide_eq_false c19
       clear c19
       have H' := Aside0.mk H
       clear H
       have hnb36 := NB73002_73001.out
       have hnc36 := NB73001_73002.out
       have hcz37_0 : wr.cell? ⟨gb73002, 0, none⟩ = some (.slice A1_0 l1_0.length c1_0) := (blk_cell BK73002.out 0).trans rfl
       have hcz37_1 : wr.cell? ⟨gb73002, 1, none⟩ = some (.slice A1_1 l1_1.length c1_1) := (blk_cell BK73002.out 1).trans rfl
       go_wp2
       repeat (go_quiet (fail); try go_wp2)
       go_loopg [61] k2 (fun kq v61 w' => ∃ (x61_3 : Int), v61 = .int .i64 x61_3 ∧ Aside0 (impl_isChoice.l1 kq l1_1 (l1_1.length : Int) x61_3 l0_0 l0_1 a0_2 = some r) ∧ Aside0 (kq ≤ k2) ∧ Aside0 (w'.heap[gb73001]? = some (.cells #[(.slice A0_0 l0_0.length c0_0), (.slice A0_1 l0_1.length c0_1), .int .i64 a0_2] 35 (0, 0))) ∧ Aside0 (w'.heap[gb73002]? = some (.cells #[(.slice A1_0 l1_0.length c1_0), (.slice A1_1 l1_1.length c1_1)] 37 (0, 0))) ∧ Aside0 (Below w.heap.size w w'))
       case atStart => exact ⟨(0), (by first | rfl | (simp; done) | (simp [*]; done)), H', ⟨Nat.le_refl _⟩, ⟨by (with_reducible repeat (first | refine blk_drewN ?_ _ | refine blk_drew ?_ | refine blk_alloc ?_ _)); exact BK73001.out⟩, ⟨by (with_reducible repeat (first | refine blk_drewN ?_ _ | refine blk_drew ?_ | refine blk_alloc ?_ _)); exact BK73002.out⟩, ⟨by repeat (first | (with_reducible first | exact HB.out | apply below_alloc | apply pw_below_drewN | apply below_drew1 | refine below_set ?_ GE73001.out | refine below_set ?_ GE73002.out) | exact HB.out)⟩⟩
       case round =>
        clear H'
        try clear c1
        try clear c2
        try clear p2
        try clear c3
        try clear p6
        try clear c7
        try clear p7
        try clear q7
        try clear c10
        try clear c10b0
        try clear c10b1
        try clear c10b2
        try clear c11
        try clear c14
        try clear c17
        try clear c19
        try clear c19b0
        try clear c20
        try clear c20b0
        try clear c21
        try clear c21b0
        try clear c22
        try clear c22b0
        try clear c23
        try clear c23b0
        try clear c24
        try clear c24b0
        try clear c25
        try clear c25b0
        try clear c26
        try clear c29
        try clear c29b0
        try clear c30
        try clear c33
        try clear c36
        try clear p2
        try clear p73006
        try clear p73007
        try clear p73008
        try clear p73009
        try clear p73010
        try clear q73006
        try clear q73007
        try clear q73008
        try clear q73009
        try clear q73010
        obtain ⟨x61_3, rfl, HA, HK3, BK73001, BK73002, HB⟩ := hrel
        cases gk with
        | zero => exact absurd HA.out (by simp [impl_isChoice.l1])
        | succ k3 =>
         have H := HA.out
         clear HA
         simp only [impl_isChoice.l1] at H
         by_cases c38 : x61_3 < (l1_1.length : Int)
         ·rw [if_pos c38] at H
          have c38b0 : decide (x61_3 < (l1_1.length : Int)) = true := decide_eq_true c38
          clear c38
          by_cases c39 : 0 ≤ x61_3
          ·rw [if_pos c39] at H
           have c39b0 : decide (0 ≤ x61_3) = true := decide_eq_true c39
           clear c39
           by_cases c40 : x61_3 < (l1_1.length : Int)
           ·rw [if_pos c40] at H
            have c40b0 : decide (x61_3 < (l1_1.length : Int)) = true := decide_eq_true c40
            clear c40
            by_cases c41 : (rd l1_1 x61_3) = 1
            ·rw [if_pos c41] at H
             have c41b0 : ((rd l1_1 x61_3) == 1) = true := beq_iff_eq.mpr c41
             have c41b1 : ((rd l1_1 x61_3) != 1) = false := bne_eq_false_iff_eq.mpr c41
             clear c41
             by_cases c42 : (rd l1_1 x61_3) = (-1)
             ·rw [if_pos c42] at H
              have c42b0 : ((rd l1_1 x61_3) == (-1)) = true := beq_iff_eq.mpr c42
              have c42b1 : ((rd l1_1 x61_3) != (-1)) = false := bne_eq_false_iff_eq.mpr c42
              clear c42
              replace H := Option.bind_eq_some_iff.mp H
              obtain ⟨t73012, A430, H⟩ := H
              replace H : (if t73012 < 0 then (some false) else (impl_isChoice.l1 k3 l1_1 (l1_1.length : Int) (wrap64 (x61_3 + 1)) l0_0 l0_1 a0_2)) = some r := H
              have A43 := Aside0.mk A430; clear A430
              by_cases c44 : t73012 < 0
              ·rw [if_pos c44] at H
               have c44b0 : decide (t73012 < 0) = true := decide_eq_true c44
               clear c44
               obtain rfl := Option.some.inj H
               have p73011 : 0 ≤ (x61_3 : Int) := of_decide_eq_true (by with_reducible assumption)
               have q73011 : x61_3 < (l1_1.length : Int) := of_decide_eq_true (by with_reducible assumption)
               obtain ⟨ad73011, e73011, hx73011_0⟩ := Kd.at_int HR1_1.out x61_3 p73011 q73011
               cases e73011
               replace hx73011_0 := (HB.out.cell (World.block_lt_of_cell? w _ hx73011_0)).trans hx73011_0
               replace p73011 := eq_true p73011
               replace q73011 := eq_true q73011
               have hnb45 := NB73001_73002.out
               have hnc45 := NB73002_73001.out
               have hcz46_0 : wr.cell? ⟨gb73001, 0, none⟩ = some (.slice A0_0 l0_0.length c0_0) := (blk_cell BK73001.out 0).trans rfl
               have hcz46_1 : wr.cell? ⟨gb73001, 1, none⟩ = some (.slice A0_1 l0_1.length c0_1) := (blk_cell BK73001.out 1).trans rfl
               have hcz46_2 : wr.cell? ⟨gb73001, 2, none⟩ = some (.int .i64 a0_2) := (blk_cell BK73001.out 2).trans rfl
               go_wp2_with (first | (go_at_call 126; (with_reducible refine (impl_watcher.calls _ _ l0_0 _ _ l0_1 a0_2 (wrap64 (x61_3 + 1)) t73012 _ ?side1 ?side2 ?side3 ?side4 A43.out).mono ?_); (case side1 => exact (Kd.C_below HR0_0.out HB.out)); (case side2 => exact HC0_0.out); (case side3 => exact (Kd.C_below HR0_1.out HB.out)); (case side4 => exact HC0_1.out); rintro e w47 ⟨rfl, hb⟩; have n0_ := Aside0.mk (blk_below (g := gb73001) (o := .cells #[.slice A0_0 l0_0.length c0_0, .slice A0_1 l0_1.length c0_1, .int .i64 a0_2] 35 (0, 0)) BK73001.out hb); have n1_ := Aside0.mk (blk_below (g := gb73002) (o := .cells #[.slice A1_0 l1_0.length c1_0, .slice (some ad73011) l1_1.length c1_1] 37 (0, 0)) BK73002.out hb); have n2_ := Aside0.mk (below_step (by exact HB.out) hb); clear BK73001; clear BK73002; clear HB; have BK73001 := n0_; have BK73002 := n1_; have HB := n2_; clear n0_ n1_ n2_; (try clear hb); (try clear hb2); (try clear hk); (try clear hi)))
               go_ret
               exact ⟨by first | rfl | (simp [errW_none, errW_some] <;> rfl) | (simp [*, errW_none, errW_some] <;> rfl), by repeat (first | (with_reducible first | exact HB.out | apply below_alloc | apply pw_below_drewN | apply below_drew1 | refine below_set ?_ GE73001.out | refine below_set ?_ GE73002.out) | exact HB.out)⟩
              ·rw [if_neg c44] at H
               have c44b0 : decide (t73012 < 0) = false := decide_eq_false c44
               clear c44
               have H' := Aside0.mk H
               clear H
               have p73011 : 0 ≤ (x61_3 : Int) := of_decide_eq_true (by with_reducible assumption)
               have q73011 : x61_3 < (l1_1.length : Int) := of_decide_eq_true (by with_reducible assumption)
               obtain ⟨ad73011, e73011, hx73011_0⟩ := Kd.at_int HR1_1.out x61_3 p73011 q73011
               cases e73011
               replace hx73011_0 := (HB.out.cell (World.block_lt_of_cell? w _ hx73011_0)).trans hx73011_0
               replace p73011 := eq_true p73011
               replace q73011 := eq_true q73011
               have hnb48 := NB73001_73002.out
               have hnc48 := NB73002_73001.out
               have hcz49_0 : wr.cell? ⟨gb73001, 0, none⟩ = some (.slice A0_0 l0_0.length c0_0) := (blk_cell BK73001.out 0).trans rfl
               have hcz49_1 : wr.cell? ⟨gb73001, 1, none⟩ = some (.slice A0_1 l0_1.length c0_1) := (blk_cell BK73001.out 1).trans rfl
               have hcz49_2 : wr.cell? ⟨gb73001, 2, none⟩ = some (.int .i64 a0_2) := (blk_cell BK73001.out 2).trans rfl
               go_wp2_with (first | (go_at_call 126; (with_reducible refine (impl_watcher.calls _ _ l0_0 _ _ l0_1 a0_2 (wrap64 (x61_3 + 1)) t73012 _ ?side1 ?side2 ?side3 ?side4 A43.out).mono ?_); (case side1 => exact (Kd.C_below HR0_0.out HB.out)); (case side2 => exact HC0_0.out); (case side3 => exact (Kd.C_below HR0_1.out HB.out)); (case side4 => exact HC0_1.out); rintro e w50 ⟨rfl, hb⟩; have n0_ := Aside0.mk (blk_below (g := gb73001) (o := .cells #[.slice A0_0 l0_0.length c0_0, .slice A0_1 l0_1.length c0_1, .int .i64 a0_2] 35 (0, 0)) BK73001.out hb); have n1_ := Aside0.mk (blk_below (g := gb73002) (o := .cells #[.slice A1_0 l1_0.length c1_0, .slice (some ad73011) l1_1.length c1_1] 37 (0, 0)) BK73002.out hb); have n2_ := Aside0.mk (below_step (by exact HB.out) hb); clear BK73001; clear BK73002; clear HB; have BK73001 := n0_; have BK73002 := n1_; have HB := n2_; clear n0_ n1_ n2_; (try clear hb); (try clear hb2); (try clear hk); (try clear hi)))
               go_roundg k3
               case measure => have := HJ3.out; have := HK2.out; have := HK3.out; omega
               case rel => exact ⟨(wrap64 (x61_3 + 1)), (by first | rfl | (simp; done) | (simp [*]; done)), H', ⟨by have := HJ3.out; have := HK2.out; have := HK3.out; omega⟩, ⟨by (with_reducible repeat (first | refine blk_drewN ?_ _ | refine blk_drew ?_ | refine blk_alloc ?_ _)); exact BK73001.out⟩, ⟨by (with_reducible repeat (first | refine blk_drewN ?_ _ | refine blk_drew ?_ | refine blk_alloc ?_ _)); exact BK73002.out⟩, ⟨by repeat (first | (with_reducible first | exact HB.out | apply below_alloc | apply pw_below_drewN | apply below_drew1 | refine below_set ?_ GE73001.out | refine below_set ?_ GE73002.out) | exact HB.out)⟩⟩
             ·rw [if_neg c42] at H
              have c42b0 : ((rd l1_1 x61_3) == (-1)) = false := beq_eq_false_iff_ne.mpr c42
              have c42b1 : ((rd l1_1 x61_3) != (-1)) = true := bne_iff_ne.mpr c42
              have H' := Aside0.mk H
              clear H
              have p73011 : 0 ≤ (x61_3 : Int) := of_decide_eq_true (by with_reducible assumption)
              have q73011 : x61_3 < (l1_1.length : Int) := of_decide_eq_true (by with_reducible assumption)
              obtain ⟨ad73011, e73011, hx73011_0⟩ := Kd.at_int HR1_1.out x61_3 p73011 q73011
              cases e73011
              replace hx73011_0 := (HB.out.cell (World.block_lt_of_cell? w _ hx73011_0)).trans hx73011_0
              replace p73011 := eq_true p73011
              replace q73011 := eq_true q73011
              go_wp2
              repeat (go_quiet (fail); try go_wp2)
              go_roundg k3
              case measure => have := HJ3.out; have := HK2.out; have := HK3.out; omega
              case rel => exact ⟨(wrap64 (x61_3 + 1)), (by first | rfl | (simp; done) | (simp [*]; done)), H', ⟨by have := HJ3.out; have := HK2.out; have := HK3.out; omega⟩, ⟨by (with_reducible repeat (first | refine blk_drewN ?_ _ | refine blk_drew ?_ | refine blk_alloc ?_ _)); exact BK73001.out⟩, ⟨by (with_reducible repeat (first | refine blk_drewN ?_ _ | refine blk_drew ?_ | refine blk_alloc ?_ _)); exact BK73002.out⟩, ⟨by repeat (first | (with_reducible first | exact HB.out | apply below_alloc | apply pw_below_drewN | apply below_drew1 | refine below_set ?_ GE73001.out | refine below_set ?_ GE73002.out) | exact HB.out)⟩⟩
            ·rw [if_neg c41] at H
             have c41b0 : ((rd l1_1 x61_3) == 1) = false := beq_eq_false_iff_ne.mpr c41
             have c41b1 : ((rd l1_1 x61_3) != 1) = true := bne_iff_ne.mpr c41
             by_cases c51 : (rd l1_1 x61_3) = (-1)
             ·rw [if_pos c51] at H
              have c51b0 : ((rd l1_1 x61_3) == (-1)) = true := beq_iff_eq.mpr c51
              have c51b1 : ((rd l1_1 x61_3) != (-1)) = false := bne_eq_false_iff_eq.mpr c51
              clear c51
              replace H := Option.bind_eq_some_iff.mp H
              obtain ⟨t73013, A520, H⟩ := H
              replace H : (if t73013 < 0 then (some false) else (impl_isChoice.l1 k3 l1_1 (l1_1.length : Int) (wrap64 (x61_3 + 1)) l0_0 l0_1 a0_2)) = some r := H
              have A52 := Aside0.mk A520; clear A520
              by_cases c53 : t73013 < 0
              ·rw [if_pos c53] at H
               have c53b0 : decide (t73013 < 0) = true := decide_eq_true c53
               clear c53
               obtain rfl := Option.some.inj H
               have p73011 : 0 ≤ (x61_3 : Int) := of_decide_eq_true (by with_reducible assumption)
               have q73011 : x61_3 < (l1_1.length : Int) := of_decide_eq_true (by with_reducible assumption)
               obtain ⟨ad73011, e73011, hx73011_0⟩ := Kd.at_int HR1_1.out x61_3 p73011 q73011
               cases e73011
               replace hx73011_0 := (HB.out.cell (World.block_lt_of_cell? w _ hx73011_0)).trans hx73011_0
               replace p73011 := eq_true p73011
               replace q73011 := eq_true q73011
               have hnb54 := NB73001_73002.out
               have hnc54 := NB73002_73001.out
               have hcz55_0 : wr.cell? ⟨gb73001, 0, none⟩ = some (.slice A0_0 l0_0.length c0_0) := (blk_cell BK73001.out 0).trans rfl
               have hcz55_1 : wr.cell? ⟨gb73001, 1, none⟩ = some (.slice A0_1 l0_1.length c0_1) := (blk_cell BK73001.out 1).trans rfl
               have hcz55_2 : wr.cell? ⟨gb73001, 2, none⟩ = some (.int .i64 a0_2) := (blk_cell BK73001.out 2).trans rfl
               go_wp2_with (first | (go_at_call 126; (with_reducible refine (impl_watcher.calls _ _ l0_0 _ _ l0_1 a0_2 (wrap64 (x61_3 + 1)) t73013 _ ?side1 ?side2 ?side3 ?side4 A52.out).mono ?_); (case side1 => exact (Kd.C_below HR0_0.out HB.out)); (case side2 => exact HC0_0.out); (case side3 => exact (Kd.C_below HR0_1.out HB.out)); (case side4 => exact HC0_1.out); rintro e w56 ⟨rfl, hb⟩; have n0_ := Aside0.mk (blk_below (g := gb73001) (o := .cells #[.slice A0_0 l0_0.length c0_0, .slice A0_1 l0_1.length c0_1, .int .i64 a0_2] 35 (0, 0)) BK73001.out hb); have n1_ := Aside0.mk (blk_below (g := gb73002) (o := .cells #[.slice A1_0 l1_0.length c1_0, .slice (some ad73011) l1_1.length c1_1] 37 (0, 0)) BK73002.out hb); have n2_ := Aside0.mk (below_step (by exact HB.out) hb); clear BK73001; clear BK73002; clear HB; have BK73001 := n0_; have BK73002 := n1_; have HB := n2_; clear n0_ n1_ n2_; (try clear hb); (try clear hb2); (try clear hk); (try clear hi)))
               go_ret
               exact ⟨by first | rfl | (simp [errW_none, errW_some] <;> rfl) | (simp [*, errW_none, errW_some] <;> rfl), by repeat (first | (with_reducible first | exact HB.out | apply below_alloc | apply pw_below_drewN | apply below_drew1 | refine below_set ?_ GE73001.out | refine below_set ?_ GE73002.out) | exact HB.out)⟩
              ·rw [if_neg c53] at H
               have c53b0 : decide (t73013 < 0) = false := decide_eq_false c53
               clear c53
               have H' := Aside0.mk H
               clear H
               have p73011 : 0 ≤ (x61_3 : Int) := of_decide_eq_true (by with_reducible assumption)
               have q73011 : x61_3 < (l1_1.length : Int) := of_decide_eq_true (by with_reducible assumption)
               obtain ⟨ad73011, e73011, hx73011_0⟩ := Kd.at_int HR1_1.out x61_3 p73011 q73011
               cases e73011
               replace hx73011_0 := (HB.out.cell (World.block_lt_of_cell? w _ hx73011_0)).trans hx73011_0
               replace p73011 := eq_true p73011
               replace q73011 := eq_true q73011
               have hnb57 := NB73001_73002.out
               have hnc57 := NB73002_73001.out
               have hcz58_0 : wr.cell? ⟨gb73001, 0, none⟩ = some (.slice A0_0 l0_0.length c0_0) := (blk_cell BK73001.out 0).trans rfl
               have hcz58_1 : wr.cell? ⟨gb73001, 1, none⟩ = some (.slice A0_1 l0_1.length c0_1) := (blk_cell BK73001.out 1).trans rfl
               have hcz58_2 : wr.cell? ⟨gb73001, 2, none⟩ = some (.int .i64 a0_2) := (blk_cell BK73001.out 2).trans rfl
               go_wp2_with (first | (go_at_call 126; (with_reducible refine (impl_watcher.calls _ _ l0_0 _ _ l0_1 a0_2 (wrap64 (x61_3 + 1)) t73013 _ ?side1 ?side2 ?side3 ?side4 A52.out).mono ?_); (case side1 => exact (Kd.C_below HR0_0.out HB.out)); (case side2 => exact HC0_0.out); (case side3 => exact (Kd.C_below HR0_1.out HB.out)); (case side4 => exact HC0_1.out); rintro e w59 ⟨rfl, hb⟩; have n0_ := Aside0.mk (blk_below (g := gb73001) (o := .cells #[.slice A0_0 l0_0.length c0_0, .slice A0_1 l0_1.length c0_1, .int .i64 a0_2] 35 (0, 0)) BK73001.out hb); have n1_ := Aside0.mk (blk_below (g := gb73002) (o := .cells #[.slice A1_0 l1_0.length c1_0, .slice (some ad73011) l1_1.length c1_1] 37 (0, 0)) BK73002.out hb); have n2_ := Aside0.mk (below_step (by exact HB.out) hb); clear BK73001; clear BK73002; clear HB; have BK73001 := n0_; have BK73002 := n1_; have HB := n2_; clear n0_ n1_ n2_; (try clear hb); (try clear hb2); (try clear hk); (try clear hi)))
               go_roundg k3
               case measure => have := HJ3.out; have := HK2.out; have := HK3.out; omega
               case rel => exact ⟨(wrap64 (x61_3 + 1)), (by first | rfl | (simp; done) | (simp [*]; done)), H', ⟨by have := HJ3.out; have := HK2.out; have := HK3.out; omega⟩, ⟨by (with_reducible repeat (first | refine blk_drewN ?_ _ | refine blk_drew ?_ | refine blk_alloc ?_ _)); exact BK73001.out⟩, ⟨by (with_reducible repeat (first | refine blk_drewN ?_ _ | refine blk_drew ?_ | refine blk_alloc ?_ _)); exact BK73002.out⟩, ⟨by repeat (first | (with_reducible first | exact HB.out | apply below_alloc | apply pw_below_drewN | apply below_drew1 | refine below_set ?_ GE73001.out | refine below_set ?_ GE73002.out) | exact HB.out)⟩⟩
             ·rw [if_neg c51] at H
              have c51b0 : ((rd l1_1 x61_3) == (-1)) = false := beq_eq_false_iff_ne.mpr c51
              have c51b1 : ((rd l1_1 x61_3) != (-1)) = true := bne_iff_ne.mpr c51
              obtain rfl := Option.some.inj H
              have p73011 : 0 ≤ (x61_3 : Int) := of_decide_eq_true (by with_reducible assumption)
              have q73011 : x61_3 < (l1_1.length : Int) := of_decide_eq_true (by with_reducible assumption)
              obtain ⟨ad73011, e73011, hx73011_0⟩ := Kd.at_int HR1_1.out x61_3 p73011 q73011
              cases e73011
              replace hx73011_0 := (HB.out.cell (World.block_lt_of_cell? w _ hx73011_0)).trans hx73011_0
              replace p73011 := eq_true p73011
              replace q73011 := eq_true q73011
              go_wp2
              repeat (go_quiet (fail); try go_wp2)
              go_ret
              exact ⟨by first | rfl | (simp [errW_none, errW_some] <;> rfl) | (simp [*, errW_none, errW_some] <;> rfl), by repeat (first | (with_reducible first | exact HB.out | apply below_alloc | apply pw_below_drewN | apply below_drew1 | refine below_set ?_ GE73001.out | refine below_set ?_ GE73002.out) | exact HB.out)⟩
           ·rw [if_neg c40] at H
            exact absurd H (by simp)
          ·rw [if_neg c39] at H
           exact absurd H (by simp)
         ·rw [if_neg c38] at H
          have c38b0 : decide (x61_3 < (l1_1.length : Int)) = false := decide_eq_false c38
          clear c38
          obtain rfl := Option.some.inj H
          go_wp2
          repeat (go_quiet (fail); try go_wp2)
          go_ret
          exact ⟨by first | rfl | (simp [errW_none, errW_some] <;> rfl) | (simp [*, errW_none, errW_some] <;> rfl), by repeat (first | (with_reducible first | exact HB.out | apply below_alloc | apply pw_below_drewN | apply below_drew1 | refine below_set ?_ GE73001.out | refine below_set ?_ GE73002.out) | exact HB.out)⟩

def impl_ChoiceOk.f (k : Nat) (l0_0 : List (S116)) (l0_1 : List (S90)) (a0_2 : Int) (l1_0 : List Int) (l1_1 : List Int) : Option (Bool) := (impl_ShowOk.f l0_0 l0_1 a0_2).bind fun t20003 => (if t20003 = true then ((impl_isChoice.f k l0_0 l0_1 a0_2 l1_0 l1_1).bind fun t20004 => (some t20004)) else (some false))
set_option maxHeartbeats 8000000 in
set_option maxRecDepth 100000 in
theorem impl_ChoiceOk.calls (k : Nat) (A0_0 : Option Addr) (c0_0 : Nat) (l0_0 : List (S116)) (A0_1 : Option Addr) (c0_1 : Nat) (l0_1 : List (S90)) (a0_2 : Int) (A1_0 : Option Addr) (c1_0 : Nat) (l1_0 : List Int) (A1_1 : Option Addr) (c1_1 : Nat) (l1_1 : List Int) (r : Bool) (w : World) (hr0_0 : Kd.C k116 w A0_0 l0_0.length l0_0) (hc0_0 : l0_0.length ≤ c0_0) (hr0_1 : Kd.C k90 w A0_1 l0_1.length l0_1) (hc0_1 : l0_1.length ≤ c0_1) (hr1_0 : Kd.C (Kd.int .i64) w A1_0 l1_0.length l1_0) (hc1_0 : l1_0.length ≤ c1_0) (hr1_1 : Kd.C (Kd.int .i64) w A1_1 l1_1.length l1_1) (hc1_1 : l1_1.length ≤ c1_1) (h : impl_ChoiceOk.f k l0_0 l0_1 a0_2 l1_0 l1_1 = some r) :
  Calls Try.prog 20 #[.agg #[.slice A0_0 l0_0.length c0_0, .slice A0_1 l0_1.length c0_1, .int .i64 a0_2], .agg #[.slice A1_0 l1_0.length c1_0, .slice A1_1 l1_1.length c1_1]] w fun e w' => e = .returned (.bool r) ∧ Below w.heap.size w w' := by
 have hu35 := Try.underlying35
 have hu37 := Try.underlying37
 have HR0_0 := Aside0.mk hr0_0; have HC0_0 := Aside0.mk hc0_0; clear hr0_0 hc0_0; have HR0_1 := Aside0.mk hr0_1; have HC0_1 := Aside0.mk hc0_1; clear hr0_1 hc0_1; have HR1_0 := Aside0.mk hr1_0; have HC1_0 := Aside0.mk hc1_0; clear hr1_0 hc1_0; have HR1_1 := Aside0.mk hr1_1; have HC1_1 := Aside0.mk hc1_1; clear hr1_1 hc1_1
 have HB := Aside0.mk (Below.refl w.heap.size w)
 have H : ((impl_ShowOk.f l0_0 l0_1 a0_2).bind fun t20003 => (if t20003 = true then ((impl_isChoice.f k l0_0 l0_1 a0_2 l1_0 l1_1).bind fun t20004 => (some t20004)) else (some false))) = some r := h
 clear h
 replace H := Option.bind_eq_some_iff.mp H
 obtain ⟨t20003, A30, H⟩ := H
 replace H : (if t20003 = true then ((impl_isChoice.f k l0_0 l0_1 a0_2 l1_0 l1_1).bind fun t20004 => (some t20004)) else (some false)) = some r := H
 have A3 := Aside0.mk A30; clear A30
 by_cases c4 : t20003 = true
 ·subst c4
  have H1 : ((impl_isChoice.f k l0_0 l0_1 a0_2 l1_0 l1_1).bind fun t20004 => (some t20004)) = some r := by rw [if_pos rfl] at H; exact H
  clear H
  have H := H1
  clear H1
  replace H := Option.bind_eq_some_iff.mp H
  obtain ⟨t20004, A50, H⟩ := H
  replace H : (some t20004) = some r := H
  have A5 := Aside0.mk A50; clear A50
  obtain rfl := Option.some.inj H
  go_enter Try.func20, Try.ntmps20
  go_wp2_with (first | ((with_reducible refine gate_dst (N := 2) rfl ?_); refine box_event ?hg (N := 2) ?hd (cs := #[.slice A0_0 l0_0.length c0_0, .slice A0_1 l0_1.length c0_1, .int .i64 a0_2]) (t := 35) ?hr ?_; (case hd => rfl); (case hg => rfl); (case hr => first | (go_simp; done) | (go_simp; rfl)); intro gb20001 hg w6 hbox hb; have n0_ := Aside0.mk (below_step (by exact HB.out) hb); have n1_ := Aside0.mk (hbox); have n2_ := Aside0.mk ((by rw [hg]; exact (below_size (by exact HB.out)) : w.heap.size ≤ gb20001)); have n3_ := n2_; clear HB; have HB := n0_; have BK20001 := n1_; have GW20001 := n2_; have GE20001 := n3_; clear n0_ n1_ n2_ n3_; clear hb hbox hg) | ((with_reducible refine gate_dst (N := 3) rfl ?_); refine box_event ?hg (N := 3) ?hd (cs := #[.slice A1_0 l1_0.length c1_0, .slice A1_1 l1_1.length c1_1]) (t := 37) ?hr ?_; (case hd => rfl); (case hg => rfl); (case hr => first | (go_simp; done) | (go_simp; rfl)); intro gb20002 hg w7 hbox hb; have n0_ := Aside0.mk (blk_below BK20001.out hb); have n1_ := Aside0.mk (below_step (by exact HB.out) hb); have n2_ := Aside0.mk (hbox); have n3_ := Aside0.mk ((by rw [hg]; exact (below_size (by exact HB.out)) : w.heap.size ≤ gb20002)); have n4_ := n3_; have n5_ := Aside0.mk ((by rw [hg]; exact Nat.ne_of_lt (blk_lt BK20001.out) : gb20001 ≠ gb20002)); have n6_ := Aside0.mk n5_.out.symm; clear BK20001; clear HB; have BK20001 := n0_; have HB := n1_; have BK20002 := n2_; have GW20002 := n3_; have GE20002 := n4_; have NB20001_20002 := n5_; have NB20002_20001 := n6_; clear n0_ n1_ n2_ n3_ n4_ n5_ n6_; clear hb hbox hg; have hnb8 := NB20001_20002.out; have hnc8 := NB20002_20001.out; have hcz9_0 : w7.cell? ⟨gb20001, 0, none⟩ = some (.slice A0_0 l0_0.length c0_0) := (blk_cell BK20001.out 0).trans rfl; have hcz9_1 : w7.cell? ⟨gb20001, 1, none⟩ = some (.slice A0_1 l0_1.length c0_1) := (blk_cell BK20001.out 1).trans rfl; have hcz9_2 : w7.cell? ⟨gb20001, 2, none⟩ = some (.int .i64 a0_2) := (blk_cell BK20001.out 2).trans rfl) | ((with_reducible refine gate_callee (f := 72) rfl ?_); refine goesL_ (some 6) rfl rfl Try.func72 (by kernel_rfl) rfl #[.agg #[.slice A0_0 l0_0.length c0_0, .slice A0_1 l0_1.length c0_1, .int .i64 a0_2]] rfl (by (try simp only [List.map_toArray, List.map_cons, List.map_nil]); first | done | rfl | (simp only [List.length_drop, List.length_take]; rfl)) ?_; (with_reducible refine (impl_ShowOk.calls _ _ l0_0 _ _ l0_1 a0_2 true _ ?side1 ?side2 ?side3 ?side4 A3.out).mono ?_); (case side1 => exact (Kd.C_below HR0_0.out HB.out)); (case side2 => exact HC0_0.out); (case side3 => exact (Kd.C_below HR0_1.out HB.out)); (case side4 => exact HC0_1.out); rintro e w10 ⟨rfl, hb⟩; refine ⟨_, rfl, ?_⟩; have n0_ := Aside0.mk (blk_below BK20001.out hb); have n1_ := Aside0.mk (blk_below BK20002.out hb); have n2_ := Aside0.mk (below_step (by exact HB.out) hb); clear BK20001; clear BK20002; clear HB; have BK20001 := n0_; have BK20002 := n1_; have HB := n2_; clear n0_ n1_ n2_; (try clear hb); (try clear hb2); (try clear hk); (try clear hi); have hcz11_0 : w10.cell? ⟨gb20001, 0, none⟩ = some (.slice A0_0 l0_0.length c0_0) := (blk_cell BK20001.out 0).trans rfl; have hcz11_1 : w10.cell? ⟨gb20001, 1, none⟩ = some (.slice A0_1 l0_1.length c0_1) := (blk_cell BK20001.out 1).trans rfl; have hcz11_2 : w10.cell? ⟨gb20001, 2, none⟩ = some (.int .i64 a0_2) := (blk_cell BK20001.out 2).trans rfl; have hfz11_0 := blk_frozen BK20001.out 0; have hfz11_1 := blk_frozen BK20001.out 1; have hfz11_2 := blk_frozen BK20001.out 2; have hcz12_0 : w10.cell? ⟨gb20002, 0, none⟩ = some (.slice A1_0 l1_0.length c1_0) := (blk_cell BK20002.out 0).trans rfl; have hcz12_1 : w10.cell? ⟨gb20002, 1, none⟩ = some (.slice A1_1 l1_1.length c1_1) := (blk_cell BK20002.out 1).trans rfl) | (go_at_call 73; (with_reducible refine (impl_isChoice.calls k _ _ l0_0 _ _ l0_1 a0_2 _ _ l1_0 _ _ l1_1 t20004 _ ?side1 ?side2 ?side3 ?side4 ?side5 ?side6 ?side7 ?side8 A5.out).mono ?_); (case side1 => exact (Kd.C_below HR0_0.out HB.out)); (case side2 => exact HC0_0.out); (case side3 => exact (Kd.C_below HR0_1.out HB.out)); (case side4 => exact HC0_1.out); (case side5 => exact (Kd.C_below HR1_0.out HB.out)); (case side6 => exact HC1_0.out); (case side7 => exact (Kd.C_below HR1_1.out HB.out)); (case side8 => exact HC1_1.out); rintro e w13 ⟨rfl, hb⟩; have n0_ := Aside0.mk (blk_below BK20001.out hb); have n1_ := Aside0.mk (blk_below BK20002.out hb); have n2_ := Aside0.mk (below_step (by exact HB.out) hb); clear BK20001; clear BK20002; clear HB; have BK20001 := n0_; have BK20002 := n1_; have HB := n2_; clear n0_ n1_ n2_; (try clear hb); (try clear hb2); (try clear hk); (try clear hi)))
  go_ret
  exact ⟨by first | rfl | (simp [errW_none, errW_some] <;> rfl) | (simp [*, errW_none, errW_some] <;> rfl), by repeat (first | (with_reducible first | exact HB.out | apply below_alloc | apply pw_below_drewN | apply below_drew1 | refine below_set ?_ GE20001.out | refine below_set ?_ GE20002.out) | exact HB.out)⟩
 ·replace c4 := Bool.eq_false_iff.mpr c4
  subst c4
  have H1 : (some false) = some r := by rw [if_neg (show ¬ (false = true) by decide)] at H; exact H
  clear H
  have H := H1
  clear H1
  obtain rfl := Option.some.inj H
  go_enter Try.func20, Try.ntmps20
  go_wp2_with (first | ((with_reducible refine gate_dst (N := 2) rfl ?_); refine box_event ?hg (N := 2) ?hd (cs := #[.slice A0_0 l0_0.length c0_0, .slice A0_1 l0_1.length c0_1, .int .i64 a0_2]) (t := 35) ?hr ?_; (case hd => rfl); (case hg => rfl); (case hr => first | (go_simp; done) | (go_simp; rfl)); intro gb20001 hg w14 hbox hb; have n0_ := Aside0.mk (below_step (by exact HB.out) hb); have n1_ := Aside0.mk (hbox); have n2_ := Aside0.mk ((by rw [hg]; exact (below_size (by exact HB.out)) : w.heap.size ≤ gb20001)); have n3_ := n2_; clear HB; have HB := n0_; have BK20001 := n1_; have GW20001 := n2_; have GE20001 := n3_; clear n0_ n1_ n2_ n3_; clear hb hbox hg) | ((with_reducible refine gate_dst (N := 3) rfl ?_); refine box_event ?hg (N := 3) ?hd (cs := #[.slice A1_0 l1_0.length c1_0, .slice A1_1 l1_1.length c1_1]) (t := 37) ?hr ?_; (case hd => rfl); (case hg => rfl); (case hr => first | (go_simp; done) | (go_simp; rfl)); intro gb20002 hg w15 hbox hb; have n0_ := Aside0.mk (blk_below BK20001.out hb); have n1_ := Aside0.mk (below_step (by exact HB.out) hb); have n2_ := Aside0.mk (hbox); have n3_ := Aside0.mk ((by rw [hg]; exact (below_size (by exact HB.out)) : w.heap.size ≤ gb20002)); have n4_ := n3_; have n5_ := Aside0.mk ((by rw [hg]; exact Nat.ne_of_lt (blk_lt BK20001.out) : gb20001 ≠ gb20002)); have n6_ := Aside0.mk n5_.out.symm; clear BK20001; clear HB; have BK20001 := n0_; have HB := n1_; have BK20002 := n2_; have GW20002 := n3_; have GE20002 := n4_; have NB20001_20002 := n5_; have NB20002_20001 := n6_; clear n0_ n1_ n2_ n3_ n4_ n5_ n6_; clear hb hbox hg; have hnb16 := NB20001_20002.out; have hnc16 := NB20002_20001.out; have hcz17_0 : w15.cell? ⟨gb20001, 0, none⟩ = some (.slice A0_0 l0_0.length c0_0) := (blk_cell BK20001.out 0).trans rfl; have hcz17_1 : w15.cell? ⟨gb20001, 1, none⟩ = some (.slice A0_1 l0_1.length c0_1) := (blk_cell BK20001.out 1).trans rfl; have hcz17_2 : w15.cell? ⟨gb20001, 2, none⟩ = some (.int .i64 a0_2) := (blk_cell BK20001.out 2).trans rfl) | ((with_reducible refine gate_callee (f := 72) rfl ?_); refine goesL_ (some 6) rfl rfl Try.func72 (by kernel_rfl) rfl #[.agg #[.slice A0_0 l0_0.length c0_0, .slice A0_1 l0_1.length c0_1, .int .i64 a0_2]] rfl (by (try simp only [List.map_toArray, List.map_cons, List.map_nil]); first | done | rfl | (simp only [List.length_drop, List.length_take]; rfl)) ?_; (with_reducible refine (impl_ShowOk.calls _ _ l0_0 _ _ l0_1 a0_2 false _ ?side1 ?side2 ?side3 ?side4 A3.out).mono ?_); (case side1 => exact (Kd.C_below HR0_0.out HB.out)); (case side2 => exact HC0_0.out); (case side3 => exact (Kd.C_below HR0_1.out HB.out)); (case side4 => exact HC0_1.out); rintro e w18 ⟨rfl, hb⟩; refine ⟨_, rfl, ?_⟩; have n0_ := Aside0.mk (blk_below BK20001.out hb); have n1_ := Aside0.mk (blk_below BK20002.out hb); have n2_ := Aside0.mk (below_step (by exact HB.out) hb); clear BK20001; clear BK20002; clear HB; have BK20001 := n0_; have BK20002 := n1_; have HB := n2_; clear n0_ n1_ n2_; (try clear hb); (try clear hb2); (try clear hk); (try clear hi)))
  go_ret
  exact ⟨by first | rfl | (simp [errW_none, errW_some] <;> rfl) | (simp [*, errW_none, errW_some] <;> rfl), by repeat (first | (with_reducible first | exact HB.out | apply below_alloc | apply pw_below_drewN | apply below_drew1 | refine below_set ?_ GE20001.out | refine below_set ?_ GE20002.out) | exact HB.out)⟩

end Go.Proofs.Ytodfnelilhjoeaa.Pr
namespace Go.Proofs.Ytodfnelilhjoeaa.Pr
open Go.RowKit Go.Proofs.YtodfnelilhjoeaaW.PrintWords Go.Proofs.YtodfnelilhjoeaaW.PrintLast Go.Proofs.YtodfnelilhjoeaaW.PrintMore
attribute [local go_sem] max2_int min2_int max_two min_two max_three min_three max_four min_four
set_option linter.unusedVariables false
set_option linter.unusedSimpArgs false
open Go.Proofs.Ytodfnelilhjoeaa.Ni
def pfreeI (ts : List S90) (node : Int) : Int := idxOf (fun t => t.f4 && decide (t.f1 = node)) ts
def impl_freeTie.f (l0_0 : List (S116)) (l0_1 : List (S90)) (a0_2 : Int) (a1 : Int) : Option Int := some (pfreeI l0_1 a1)
theorem impl_freeTie_1.clo (B : Nat) (p : Int) (W : World) (hB : W.cell? ⟨B, 0, none⟩ = some (.int .i64 p)) (x : S90) :
  Calls Try.prog 136 #[.agg #[.int .i64 x.f0, .int .i64 x.f1, .int .i64 x.f2, .int .i64 x.f3, .bool x.f4], .pointer (some ⟨B, 0, none⟩)] W fun e w' => e = .returned (.bool (x.f4 && decide (x.f1 = p))) ∧ Below W.heap.size W w' := by
 have hlt : B < W.heap.size := World.block_lt_of_cell? W _ hB
 have HE := Aside0.mk (show (x.f1 == p) = decide (x.f1 = p) by rw [Bool.eq_iff_iff]; simp)
 obtain ⟨f0, f1, f2, f3, f4⟩ := x
 cases f4 with
 | false =>
  go_enter Try.func136, Try.ntmps136
  go_wp2
  go_ret
  exact ⟨rfl, (Below.refl _ _).alloc (Nat.le_refl _) _⟩
 | true =>
  go_enter Try.func136, Try.ntmps136
  go_wp2
  go_ret
  exact ⟨by rw [← HE.out]; rfl, (Below.refl _ _).alloc (Nat.le_refl _) _⟩
set_option maxHeartbeats 4000000 in
theorem impl_freeTie.calls (A0_0 : Option Addr) (c0_0 : Nat) (l0_0 : List (S116)) (A0_1 : Option Addr) (c0_1 : Nat) (l0_1 : List (S90)) (a0_2 : Int) (a1 : Int) (r : Int) (w : World) (hr0_0 : Kd.C k116 w A0_0 l0_0.length l0_0) (hc0_0 : l0_0.length ≤ c0_0) (hr0_1 : Kd.C k90 w A0_1 l0_1.length l0_1) (hc0_1 : l0_1.length ≤ c0_1) (h : impl_freeTie.f l0_0 l0_1 a0_2 a1 = some r) :
  Calls Try.prog 93 #[.agg #[.slice A0_0 l0_0.length c0_0, .slice A0_1 l0_1.length c0_1, .int .i64 a0_2], .int .i64 a1] w fun e w' => e = .returned (.int .i64 r) ∧ Below w.heap.size w w' := by
 obtain rfl := Option.some.inj h
 have HC' := Aside0.mk fun (W : World) (B : Nat) (hb : Below w.heap.size w W) (hcell : W.cell? ⟨B, 0, none⟩ = some (.int .i64 a1)) => impl_Tie_135.any (fun t => t.f4 && decide (t.f1 = a1)) 136 #[.pointer (some ⟨B, 0, none⟩)] (enters_of Try.func136 (by kernel_rfl) rfl) A0_1 c0_1 l0_1 W (Kd.C_below hr0_1 hb)
    (fun W' x _ hb' => impl_freeTie_1.clo B a1 W' ((hb'.cell (World.block_lt_of_cell? W _ hcell)).trans hcell) x)
 clear hr0_0 hr0_1 h
 have HB2 := Aside0.mk (((Below.refl w.heap.size w).alloc (Nat.le_refl _) (.cells #[.slice A0_0 l0_0.length c0_0, .slice A0_1 l0_1.length c0_1, .int .i64 a0_2] 35)).alloc (by simp) (.cells #[.int .i64 a1] 3))
 have hu := Try.underlying35
 go_enter Try.func93, Try.ntmps93
 go_wp2_with fail
 refine (HC'.out _ _ HB2.out (by go_simp)).mono ?_
 rintro e w' ⟨rfl, hb⟩
 go_wp2
 go_ret
 exact ⟨rfl, HB2.out.trans (hb.mono HB2.out.size)⟩

end Go.Proofs.Ytodfnelilhjoeaa.Pr
namespace Go.Proofs.Ytodfnelilhjoeaa.Pr
open Go.RowKit Go.Proofs.YtodfnelilhjoeaaW.PrintWords Go.Proofs.YtodfnelilhjoeaaW.PrintLast Go.Proofs.YtodfnelilhjoeaaW.PrintMore
attribute [local go_sem] max2_int min2_int max_two min_two max_three min_three max_four min_four
set_option linter.unusedVariables false
set_option linter.unusedSimpArgs false
def impl_chainOf.l0 : Nat → Int → List Int → List (S116) → List (S90) → Int → Option (Int × List Int)
 | 0, _, _, _, _, _ => none
 | k + 1, x1, x6, x88002000, x88002001, x88002002 => (impl_freeTie.f x88002000 x88002001 x88002002 x1).bind fun t88002 => (if t88002 < 0 then (some (x1, x6)) else ((slices_Contains_int_int.f x6 t88002).bind fun t88003 => (if t88003 = true then (some ((-1), ([] : List Int))) else (if x6.length < 17592186044416 then (if 0 ≤ t88002 then (if t88002 < (x88002001.length : Int) then (impl_chainOf.l0 k ((rd_T90 x88002001 t88002).f0) (x6 ++ [t88002]) x88002000 x88002001 x88002002) else (none)) else (none)) else (none)))))
def impl_chainOf.f (k : Nat) (l0_0 : List (S116)) (l0_1 : List (S90)) (a0_2 : Int) (a1 : Int) : Option (Int × List Int) := impl_chainOf.l0 k a1 ([] : List Int) l0_0 l0_1 a0_2
def impl_chainOf.T7 : Bool × List (List Nat × List Nat) := (true, [([], []), ([], []), ([1], [1]), ([0, 2], [0, 2]), ([], []), ([4], [4]), ([], []), ([5, 6], [5, 6]), ([7], [7]), ([8], [8]), ([3, 3, 0, 1, 2, 3], [0, 3]), ([9, 10, 0, 1, 2, 3, 4, 5, 6, 7, 8, 9, 10], [9])])
def impl_chainOf.B7 : List Nat := [0, 0, 2, 7, 0, 16, 0, 112, 240, 496, 15, 2047]
theorem impl_chainOf.tab7 : rtab .any (opsOf Try.f88 7) = impl_chainOf.T7 := by kernel_rfl
theorem impl_chainOf.bits7 : waitsOk impl_chainOf.T7.2 impl_chainOf.B7 = true := by kernel_rfl
set_option maxHeartbeats 8000000 in
set_option maxRecDepth 100000 in
theorem impl_chainOf.calls (k : Nat) (A0_0 : Option Addr) (c0_0 : Nat) (l0_0 : List (S116)) (A0_1 : Option Addr) (c0_1 : Nat) (l0_1 : List (S90)) (a0_2 : Int) (a1 : Int) (r1 : Int) (r2 : List Int) (w : World) (hr0_0 : Kd.C k116 w A0_0 l0_0.length l0_0) (hc0_0 : l0_0.length ≤ c0_0) (hr0_1 : Kd.C k90 w A0_1 l0_1.length l0_1) (hc0_1 : l0_1.length ≤ c0_1) (h : impl_chainOf.f k l0_0 l0_1 a0_2 a1 = some (r1, r2)) :
  Calls Try.prog 88 #[.agg #[.slice A0_0 l0_0.length c0_0, .slice A0_1 l0_1.length c0_1, .int .i64 a0_2], .int .i64 a1] w fun e w' => ∃ v1_ : Value, e = .returned (.tuple #[.int .i64 r1, v1_]) ∧ Kd.R (Kd.int .i64) 3 w' w.heap.size (fun _ => True) v1_ r2 ∧ Below w.heap.size w w' := by
 have hu35 := Try.underlying35
 have HR0_0 := Aside0.mk hr0_0; have HC0_0 := Aside0.mk hc0_0; clear hr0_0 hc0_0; have HR0_1 := Aside0.mk hr0_1; have HC0_1 := Aside0.mk hc0_1; clear hr0_1 hc0_1
 have HB := Aside0.mk (Below.refl w.heap.size w)
 have H : (impl_chainOf.l0 k a1 ([] : List Int) l0_0 l0_1 a0_2) = some (r1, r2) := h
 clear h
 have H' := Aside0.mk H
 clear H
 go_enter Try.func88, Try.ntmps88
 go_wp2_with (first | ((with_reducible refine gate_dst (N := 2) rfl ?_); refine box_event ?hg (N := 2) ?hd (cs := #[.slice A0_0 l0_0.length c0_0, .slice A0_1 l0_1.length c0_1, .int .i64 a0_2]) (t := 35) ?hr ?_; (case hd => rfl); (case hg => rfl); (case hr => first | (go_simp; done) | (go_simp; rfl)); intro gb88001 hg w3 hbox hb; have n0_ := Aside0.mk (below_step (by exact HB.out) hb); have n1_ := Aside0.mk (hbox); have n2_ := Aside0.mk ((by rw [hg]; exact (below_size (by exact HB.out)) : w.heap.size ≤ gb88001)); have n3_ := n2_; clear HB; have HB := n0_; have BK88001 := n1_; have GW88001 := n2_; have GE88001 := n3_; clear n0_ n1_ n2_ n3_; clear hb hbox hg))
 go_loopg [1, 6] k (fun kq v1 v6 w' => ∃ (x1_1 : Int) (x6_1 : List Int), v1 = .int .i64 x1_1 ∧ Aside0 (impl_chainOf.l0 kq x1_1 x6_1 l0_0 l0_1 a0_2 = some (r1, r2)) ∧ Aside0 (kq ≤ k) ∧ Aside0 (Kd.R (Kd.int .i64) 3 w' w.heap.size (fun _ => True) v6 x6_1) ∧ Aside0 (w'.heap[gb88001]? = some (.cells #[(.slice A0_0 l0_0.length c0_0), (.slice A0_1 l0_1.length c0_1), .int .i64 a0_2] 35 (0, 0))) ∧ Aside0 (Below w.heap.size w w'))
 case atStart => exact ⟨(a1), (([] : List Int)), (by first | rfl | (simp; done) | (simp [*]; done)), H', ⟨Nat.le_refl _⟩, ⟨by first | exact Kd.R_nil _ _ _ _ _ | exact Kd.N_nil _ _ _ _ _ | exact Kd.V_nil _ _ _ _ _ | exact Kd.Q_nil _ _ _ _ _ | exact Kd.S_nil _ _ _ _ _⟩, ⟨by (with_reducible repeat (first | refine blk_drewN ?_ _ | refine blk_drew ?_ | refine blk_alloc ?_ _)); exact BK88001.out⟩, ⟨by repeat (first | (with_reducible first | exact HB.out | apply below_alloc | apply pw_below_drewN | apply below_drew1 | refine below_set ?_ GE88001.out) | exact HB.out)⟩⟩
 case round =>
  clear H'
  try clear p2
  obtain ⟨x1_1, x6_1, rfl, HA, HK1, HO_6, BK88001, HB⟩ := hrel
  cases gk with
  | zero => exact absurd HA.out (by simp [impl_chainOf.l0])
  | succ k1 =>
   have H := HA.out
   clear HA
   simp only [impl_chainOf.l0] at H
   replace H := Option.bind_eq_some_iff.mp H
   obtain ⟨t88002, A40, H⟩ := H
   replace H : (if t88002 < 0 then (some (x1_1, x6_1)) else ((slices_Contains_int_int.f x6_1 t88002).bind fun t88003 => (if t88003 = true then (some ((-1), ([] : List Int))) else (if x6_1.length < 17592186044416 then (if 0 ≤ t88002 then (if t88002 < (l0_1.length : Int) then (impl_chainOf.l0 k1 ((rd_T90 l0_1 t88002).f0) (x6_1 ++ [t88002]) l0_0 l0_1 a0_2) else (none)) else (none)) else (none))))) = some (r1, r2) := H
   have A4 := Aside0.mk A40; clear A40
   by_cases c5 : t88002 < 0
   ·rw [if_pos c5] at H
    have c5b0 : decide (t88002 < 0) = true := decide_eq_true c5
    clear c5
    simp only [Option.some.injEq, Prod.mk.injEq] at H
    obtain ⟨rfl, rfl⟩ := H
    have hcz6_0 : wr.cell? ⟨gb88001, 0, none⟩ = some (.slice A0_0 l0_0.length c0_0) := (blk_cell BK88001.out 0).trans rfl
    have hcz6_1 : wr.cell? ⟨gb88001, 1, none⟩ = some (.slice A0_1 l0_1.length c0_1) := (blk_cell BK88001.out 1).trans rfl
    have hcz6_2 : wr.cell? ⟨gb88001, 2, none⟩ = some (.int .i64 a0_2) := (blk_cell BK88001.out 2).trans rfl
    go_wp2_with (first | ((with_reducible refine gate_callee (f := 93) rfl ?_); refine goesL_ (some 10) rfl rfl Try.func93 (by kernel_rfl) rfl #[.agg #[.slice A0_0 l0_0.length c0_0, .slice A0_1 l0_1.length c0_1, .int .i64 a0_2], .int .i64 x1_1] rfl (by (try simp only [List.map_toArray, List.map_cons, List.map_nil]); first | done | rfl | (simp only [List.length_drop, List.length_take]; rfl)) ?_; (with_reducible refine (impl_freeTie.calls _ _ l0_0 _ _ l0_1 a0_2 x1_1 t88002 _ ?side1 ?side2 ?side3 ?side4 A4.out).mono ?_); (case side1 => exact (Kd.C_below HR0_0.out HB.out)); (case side2 => exact HC0_0.out); (case side3 => exact (Kd.C_below HR0_1.out HB.out)); (case side4 => exact HC0_1.out); rintro e w7 ⟨rfl, hb⟩; refine ⟨_, rfl, ?_⟩; have n0_ := Aside0.mk (Kd.R_below (by exact HO_6.out) hb); have n1_ := Aside0.mk (blk_below (g := gb88001) (o := .cells #[.slice A0_0 l0_0.length c0_0, .slice A0_1 l0_1.length c0_1, .int .i64 a0_2] 35 (0, 0)) BK88001.out hb); have n2_ := Aside0.mk (below_step (by exact HB.out) hb); clear HO_6; clear BK88001; clear HB; have HO_6 := n0_; have BK88001 := n1_; have HB := n2_; clear n0_ n1_ n2_; (try clear hb); (try clear hb2); (try clear hk); (try clear hi)))
    go_ret2
    exact ⟨_, by first | rfl | (simp [errW_none, errW_some] <;> rfl) | (simp [*, errW_none, errW_some] <;> rfl), by (with_reducible repeat (first | apply Kd.R_alloc | apply Kd.R_drewN | apply Kd.R_drew)); exact HO_6.out, by repeat (first | (with_reducible first | exact HB.out | apply below_alloc | apply pw_below_drewN | apply below_drew1 | refine below_set ?_ GE88001.out) | exact HB.out)⟩
   ·rw [if_neg c5] at H
    have c5b0 : decide (t88002 < 0) = false := decide_eq_false c5
    clear c5
    replace H := Option.bind_eq_some_iff.mp H
    obtain ⟨t88003, A80, H⟩ := H
    replace H : (if t88003 = true then (some ((-1), ([] : List Int))) else (if x6_1.length < 17592186044416 then (if 0 ≤ t88002 then (if t88002 < (l0_1.length : Int) then (impl_chainOf.l0 k1 ((rd_T90 l0_1 t88002).f0) (x6_1 ++ [t88002]) l0_0 l0_1 a0_2) else (none)) else (none)) else (none))) = some (r1, r2) := H
    have A8 := Aside0.mk A80; clear A80
    by_cases c9 : t88003 = true
    ·subst c9
     have H1 : (some ((-1), ([] : List Int))) = some (r1, r2) := by rw [if_pos rfl] at H; exact H
     clear H
     have H := H1
     clear H1
     simp only [Option.some.injEq, Prod.mk.injEq] at H
     obtain ⟨rfl, rfl⟩ := H
     have hcz10_0 : wr.cell? ⟨gb88001, 0, none⟩ = some (.slice A0_0 l0_0.length c0_0) := (blk_cell BK88001.out 0).trans rfl
     have hcz10_1 : wr.cell? ⟨gb88001, 1, none⟩ = some (.slice A0_1 l0_1.length c0_1) := (blk_cell BK88001.out 1).trans rfl
     have hcz10_2 : wr.cell? ⟨gb88001, 2, none⟩ = some (.int .i64 a0_2) := (blk_cell BK88001.out 2).trans rfl
     go_wp2_with (first | ((with_reducible refine gate_callee (f := 93) rfl ?_); refine goesL_ (some 10) rfl rfl Try.func93 (by kernel_rfl) rfl #[.agg #[.slice A0_0 l0_0.length c0_0, .slice A0_1 l0_1.length c0_1, .int .i64 a0_2], .int .i64 x1_1] rfl (by (try simp only [List.map_toArray, List.map_cons, List.map_nil]); first | done | rfl | (simp only [List.length_drop, List.length_take]; rfl)) ?_; (with_reducible refine (impl_freeTie.calls _ _ l0_0 _ _ l0_1 a0_2 x1_1 t88002 _ ?side1 ?side2 ?side3 ?side4 A4.out).mono ?_); (case side1 => exact (Kd.C_below HR0_0.out HB.out)); (case side2 => exact HC0_0.out); (case side3 => exact (Kd.C_below HR0_1.out HB.out)); (case side4 => exact HC0_1.out); rintro e w11 ⟨rfl, hb⟩; refine ⟨_, rfl, ?_⟩; have n0_ := Aside0.mk (Kd.R_below (by exact HO_6.out) hb); have n1_ := Aside0.mk (blk_below (g := gb88001) (o := .cells #[.slice A0_0 l0_0.length c0_0, .slice A0_1 l0_1.length c0_1, .int .i64 a0_2] 35 (0, 0)) BK88001.out hb); have n2_ := Aside0.mk (below_step (by exact HB.out) hb); clear HO_6; clear BK88001; clear HB; have HO_6 := n0_; have BK88001 := n1_; have HB := n2_; clear n0_ n1_ n2_; (try clear hb); (try clear hb2); (try clear hk); (try clear hi); obtain ⟨Ao12, co12, eo12⟩ := Kd.R_slice HO_6.out; subst eo12) | ((with_reducible refine gate_callee (f := 134) rfl ?_); refine goesL_ (some 17) rfl rfl Try.func134 (by kernel_rfl) rfl #[.slice Ao12 x6_1.length co12, .int .i64 t88002] rfl (by (try simp only [List.map_toArray, List.map_cons, List.map_nil]); first | done | rfl | (simp only [List.length_drop, List.length_take]; rfl)) ?_; (with_reducible refine (slices_Contains_int_int.calls _ _ x6_1 t88002 true _ ?side1 ?side2 A8.out).mono ?_); (case side1 => repeat (first | exact (Kd.R_reads' HO_6.out).2.2 | (with_reducible refine Kd.C_alloc ?_ _) | (with_reducible refine Kd.C_drewN ?_ _) | (with_reducible refine Kd.C_drew ?_))); (case side2 => exact (Kd.R_reads' HO_6.out).2.1); rintro e w13 ⟨rfl, hb⟩; refine ⟨_, rfl, ?_⟩; have n0_ := Aside0.mk (Kd.R_below (by exact HO_6.out) hb); have n1_ := Aside0.mk (blk_below (g := gb88001) (o := .cells #[.slice A0_0 l0_0.length c0_0, .slice A0_1 l0_1.length c0_1, .int .i64 a0_2] 35 (0, 0)) BK88001.out hb); have n2_ := Aside0.mk (below_step (by exact HB.out) hb); clear HO_6; clear BK88001; clear HB; have HO_6 := n0_; have BK88001 := n1_; have HB := n2_; clear n0_ n1_ n2_; (try clear hb); (try clear hb2); (try clear hk); (try clear hi)))
     go_ret2
     exact ⟨_, by first | rfl | (simp [errW_none, errW_some] <;> rfl) | (simp [*, errW_none, errW_some] <;> rfl), by first | exact Kd.R_nil _ _ _ _ _ | exact Kd.N_nil _ _ _ _ _ | exact Kd.V_nil _ _ _ _ _ | exact Kd.Q_nil _ _ _ _ _ | exact Kd.S_nil _ _ _ _ _, by repeat (first | (with_reducible first | exact HB.out | apply below_alloc | apply pw_below_drewN | apply below_drew1 | refine below_set ?_ GE88001.out) | exact HB.out)⟩
    ·replace c9 := Bool.eq_false_iff.mpr c9
     subst c9
     have H1 : (if x6_1.length < 17592186044416 then (if 0 ≤ t88002 then (if t88002 < (l0_1.length : Int) then (impl_chainOf.l0 k1 ((rd_T90 l0_1 t88002).f0) (x6_1 ++ [t88002]) l0_0 l0_1 a0_2) else (none)) else (none)) else (none)) = some (r1, r2) := by rw [if_neg (show ¬ (false = true) by decide)] at H; exact H
     clear H
     have H := H1
     clear H1
     by_cases c14 : x6_1.length < 17592186044416
     ·rw [if_pos c14] at H
      have LMc14 := Aside0.mk c14; clear c14
      obtain ⟨y88004, hy88004⟩ : ∃ y_ : List Int, y_ = (x6_1 ++ [t88002]) := ⟨_, rfl⟩
      replace H : (if 0 ≤ t88002 then (if t88002 < (l0_1.length : Int) then (impl_chainOf.l0 k1 ((rd_T90 l0_1 t88002).f0) y88004 l0_0 l0_1 a0_2) else (none)) else (none)) = some (r1, r2) := by first | (rw [hy88004]; with_reducible exact H) | (have H2_ := (Option.bind_some _ _).symm.trans H; rw [hy88004]; with_reducible exact H2_) | (have H2_ := (Option.bind_some _ _).symm.trans H; with_reducible exact H2_) | with_reducible exact H | (rw [hy88004]; exact H) | exact H
      have Ny88004 := Aside0.mk hy88004; clear hy88004
      by_cases c15 : 0 ≤ t88002
      ·rw [if_pos c15] at H
       have c15b0 : decide (0 ≤ t88002) = true := decide_eq_true c15
       clear c15
       by_cases c16 : t88002 < (l0_1.length : Int)
       ·rw [if_pos c16] at H
        have c16b0 : decide (t88002 < (l0_1.length : Int)) = true := decide_eq_true c16
        clear c16
        have H' := Aside0.mk H
        clear H
        have hcz17_0 : wr.cell? ⟨gb88001, 0, none⟩ = some (.slice A0_0 l0_0.length c0_0) := (blk_cell BK88001.out 0).trans rfl
        have hcz17_1 : wr.cell? ⟨gb88001, 1, none⟩ = some (.slice A0_1 l0_1.length c0_1) := (blk_cell BK88001.out 1).trans rfl
        have hcz17_2 : wr.cell? ⟨gb88001, 2, none⟩ = some (.int .i64 a0_2) := (blk_cell BK88001.out 2).trans rfl
        try go_wp2_with (first | ((with_reducible refine gate_callee (f := 93) rfl ?_); refine goesL_ (some 10) rfl rfl Try.func93 (by kernel_rfl) rfl #[.agg #[.slice A0_0 l0_0.length c0_0, .slice A0_1 l0_1.length c0_1, .int .i64 a0_2], .int .i64 x1_1] rfl (by (try simp only [List.map_toArray, List.map_cons, List.map_nil]); first | done | rfl | (simp only [List.length_drop, List.length_take]; rfl)) ?_; (with_reducible refine (impl_freeTie.calls _ _ l0_0 _ _ l0_1 a0_2 x1_1 t88002 _ ?side1 ?side2 ?side3 ?side4 A4.out).mono ?_); (case side1 => exact (Kd.C_below HR0_0.out HB.out)); (case side2 => exact HC0_0.out); (case side3 => exact (Kd.C_below HR0_1.out HB.out)); (case side4 => exact HC0_1.out); rintro e w18 ⟨rfl, hb⟩; refine ⟨_, rfl, ?_⟩; have n0_ := Aside0.mk (Kd.R_below (by exact HO_6.out) hb); have n1_ := Aside0.mk (blk_below (g := gb88001) (o := .cells #[.slice A0_0 l0_0.length c0_0, .slice A0_1 l0_1.length c0_1, .int .i64 a0_2] 35 (0, 0)) BK88001.out hb); have n2_ := Aside0.mk (below_step (by exact HB.out) hb); clear HO_6; clear BK88001; clear HB; have HO_6 := n0_; have BK88001 := n1_; have HB := n2_; clear n0_ n1_ n2_; (try clear hb); (try clear hb2); (try clear hk); (try clear hi); obtain ⟨Ao19, co19, eo19⟩ := Kd.R_slice HO_6.out; subst eo19) | ((with_reducible refine gate_callee (f := 134) rfl ?_); refine goesL_ (some 17) rfl rfl Try.func134 (by kernel_rfl) rfl #[.slice Ao19 x6_1.length co19, .int .i64 t88002] rfl (by (try simp only [List.map_toArray, List.map_cons, List.map_nil]); first | done | rfl | (simp only [List.length_drop, List.length_take]; rfl)) ?_; (with_reducible refine (slices_Contains_int_int.calls _ _ x6_1 t88002 false _ ?side1 ?side2 A8.out).mono ?_); (case side1 => repeat (first | exact (Kd.R_reads' HO_6.out).2.2 | (with_reducible refine Kd.C_alloc ?_ _) | (with_reducible refine Kd.C_drewN ?_ _) | (with_reducible refine Kd.C_drew ?_))); (case side2 => exact (Kd.R_reads' HO_6.out).2.1); rintro e w20 ⟨rfl, hb⟩; refine ⟨_, rfl, ?_⟩; have n0_ := Aside0.mk (Kd.R_below (by exact HO_6.out) hb); have n1_ := Aside0.mk (blk_below (g := gb88001) (o := .cells #[.slice A0_0 l0_0.length c0_0, .slice A0_1 l0_1.length c0_1, .int .i64 a0_2] 35 (0, 0)) BK88001.out hb); have n2_ := Aside0.mk (below_step (by exact HB.out) hb); clear HO_6; clear BK88001; clear HB; have HO_6 := n0_; have BK88001 := n1_; have HB := n2_; clear n0_ n1_ n2_; (try clear hb); (try clear hb2); (try clear hk); (try clear hi)))
        have n0_ := Aside0.mk (Kd.R_drew HO_6.out)
        have n1_ := Aside0.mk (blk_drew BK88001.out)
        have n2_ := Aside0.mk (below_drew1 HB.out)
        clear HO_6 BK88001 HB; have HO_6 := n0_; have BK88001 := n1_; have HB := n2_; clear n0_ n1_ n2_
        have p88007 : 0 ≤ (t88002 : Int) := of_decide_eq_true (by with_reducible assumption)
        have q88007 : t88002 < (l0_1.length : Int) := of_decide_eq_true (by with_reducible assumption)
        obtain ⟨ad88007, e88007, hx88007_0, hx88007_1, hx88007_2, hx88007_3, hx88007_4⟩ := at_T90 HR0_1.out t88002 p88007 q88007
        have hw88007_4 := hx88007_4
        have hw88007_3 := hx88007_3
        have hw88007_2 := hx88007_2
        have hw88007_1 := hx88007_1
        have hw88007_0 := hx88007_0
        cases e88007
        replace hx88007_0 := (HB.out.cell (World.block_lt_of_cell? w _ hx88007_0)).trans hx88007_0
        replace hx88007_1 := (HB.out.cell (World.block_lt_of_cell? w _ hx88007_1)).trans hx88007_1
        replace hx88007_2 := (HB.out.cell (World.block_lt_of_cell? w _ hx88007_2)).trans hx88007_2
        replace hx88007_3 := (HB.out.cell (World.block_lt_of_cell? w _ hx88007_3)).trans hx88007_3
        replace hx88007_4 := (HB.out.cell (World.block_lt_of_cell? w _ hx88007_4)).trans hx88007_4
        replace p88007 := eq_true p88007
        replace q88007 := eq_true q88007
        refine start_ (n := 12) (S := fun w' => w'.cell? ⟨gb88001, 0, none⟩ = some (.slice A0_0 l0_0.length c0_0) ∧ w'.cell? ⟨gb88001, 1, none⟩ = some (.slice (some ad88007) l0_1.length c0_1) ∧ w'.cell? ⟨gb88001, 2, none⟩ = some (.int .i64 a0_2) ∧ w'.cell? (ad88007.add ((t88002).toNat * 5)) = some (.int .i64 ((rd_T90 l0_1 t88002).f0)) ∧ w'.cell? ⟨(ad88007.add ((t88002).toNat * 5)).block, (ad88007.add ((t88002).toNat * 5)).off + 1, none⟩ = some (.int .i64 ((rd_T90 l0_1 t88002).f1)) ∧ w'.cell? ⟨(ad88007.add ((t88002).toNat * 5)).block, (ad88007.add ((t88002).toNat * 5)).off + 2, none⟩ = some (.int .i64 ((rd_T90 l0_1 t88002).f2)) ∧ w'.cell? ⟨(ad88007.add ((t88002).toNat * 5)).block, (ad88007.add ((t88002).toNat * 5)).off + 3, none⟩ = some (.int .i64 ((rd_T90 l0_1 t88002).f3)) ∧ w'.cell? ⟨(ad88007.add ((t88002).toNat * 5)).block, (ad88007.add ((t88002).toNat * 5)).off + 4, none⟩ = some (.bool ((rd_T90 l0_1 t88002).f4))) (ds := []) #[false, false, false, false, false, false, false, false, false, false, false, false] (by kernel_rfl) rfl rfl ⟨(blk_cell BK88001.out 0).trans rfl, (blk_cell BK88001.out 1).trans rfl, (blk_cell BK88001.out 2).trans rfl, ((HB.out.cell (World.block_lt_of_cell? w _ hw88007_0)).trans hw88007_0), ((HB.out.cell (World.block_lt_of_cell? w _ hw88007_1)).trans hw88007_1), ((HB.out.cell (World.block_lt_of_cell? w _ hw88007_2)).trans hw88007_2), ((HB.out.cell (World.block_lt_of_cell? w _ hw88007_3)).trans hw88007_3), ((HB.out.cell (World.block_lt_of_cell? w _ hw88007_4)).trans hw88007_4)⟩ (fun hHeld => ?_); refine with_tabW impl_chainOf.tab7 impl_chainOf.bits7 (fun HT_ HW_ => ?_)
        generalize w20.drew = w21 at HO_6 BK88001 HB hx88007_0 hx88007_1 hx88007_2 hx88007_3 hx88007_4 hHeld ⊢
        refine pure_ (i := 0) (N := some 18) (v := ?_) (a' := ?_) #[true, false, false, false, false, false, false, false, false, false, false, false] rfl rfl (any_of HT_.out (by kernel_rfl)) (fun _ _ _ h => h) (Or.inl ⟨by rfl, ?_⟩) ?_ ?_
        rotate_left
        ·intro w'
         go_simp
         with_reducible rfl
        rotate_left
        ·simp only [Act.put, List.setIfInBounds_toArray, List.set_cons_zero, List.set_cons_succ, i64_w, i32_w]
         rfl
        refine pure_ (i := 1) (N := some 19) (v := ?_) (a' := ?_) #[true, true, false, false, false, false, false, false, false, false, false, false] rfl rfl (any_of HT_.out (by kernel_rfl)) (fun _ _ _ h => h) (Or.inl ⟨by rfl, ?_⟩) ?_ ?_
        rotate_left
        ·intro w'
         go_simp
         with_reducible rfl
        rotate_left
        ·simp only [Act.put, List.setIfInBounds_toArray, List.set_cons_zero, List.set_cons_succ, i64_w, i32_w]
         rfl
        refine pure_ (i := 4) (N := some 22) (v := ?_) (a' := ?_) #[true, true, false, false, true, false, false, false, false, false, false, false] rfl rfl (any_of HT_.out (by kernel_rfl)) (fun _ _ _ h => h) (Or.inl ⟨by rfl, ?_⟩) ?_ ?_
        rotate_left
        ·intro w'
         go_simp
         with_reducible rfl
        rotate_left
        ·simp only [Act.put, List.setIfInBounds_toArray, List.set_cons_zero, List.set_cons_succ, i64_w, i32_w]
         rfl
        refine pure_ (i := 6) (N := some 24) (v := ?_) (a' := ?_) #[true, true, false, false, true, false, true, false, false, false, false, false] rfl rfl (any_of HT_.out (by kernel_rfl)) (fun _ _ _ h => h) (Or.inl ⟨by rfl, ?_⟩) ?_ ?_
        rotate_left
        ·intro w'
         go_simp
         with_reducible rfl
        rotate_left
        ·simp only [Act.put, List.setIfInBounds_toArray, List.set_cons_zero, List.set_cons_succ, i64_w, i32_w]
         rfl
        refine take_ (i := 5) (N := some 23) (v := ?_) (a' := ?_) #[true, true, false, false, true, true, true, false, false, false, false, false] rfl rfl (take_ofW HT_.out HW_.out (by kernel_rfl)) (fun _ _ _ h => h) (Or.inl ⟨by rfl, ?_⟩) hHeld ?_ ?_
        rotate_left
        ·rintro w' ⟨s0, s1, s2, s3, s4, s5, s6, s7⟩
         go_simp
         with_reducible rfl
        rotate_left
        ·simp only [Act.put, List.setIfInBounds_toArray, List.set_cons_zero, List.set_cons_succ, i64_w, i32_w]
         rfl
        refine pure_ (i := 7) (N := some 25) (v := ?_) (a' := ?_) #[true, true, false, false, true, true, true, true, false, false, false, false] rfl rfl (any_of HT_.out (by kernel_rfl)) (fun _ _ _ h => h) (Or.inl ⟨by rfl, ?_⟩) ?_ ?_
        rotate_left
        ·intro w'
         go_simp
         with_reducible rfl
        rotate_left
        ·simp only [Act.put, List.setIfInBounds_toArray, List.set_cons_zero, List.set_cons_succ, i64_w, i32_w]
         rfl
        refine pure_ (i := 8) (N := some 26) (v := ?_) (a' := ?_) #[true, true, false, false, true, true, true, true, true, false, false, false] rfl rfl (any_of HT_.out (by kernel_rfl)) (fun _ _ _ h => h) (Or.inl ⟨by rfl, ?_⟩) ?_ ?_
        rotate_left
        ·intro w'
         go_simp
         with_reducible rfl
        rotate_left
        ·simp only [Act.put, List.setIfInBounds_toArray, List.set_cons_zero, List.set_cons_succ, i64_w, i32_w]
         rfl
        refine take_ (i := 9) (N := some 27) (v := ?_) (a' := ?_) #[true, true, false, false, true, true, true, true, true, true, false, false] rfl rfl (take_ofW HT_.out HW_.out (by kernel_rfl)) (fun _ _ _ h => h) (Or.inl ⟨by rfl, ?_⟩) hHeld ?_ ?_
        rotate_left
        ·rintro w' ⟨s0, s1, s2, s3, s4, s5, s6, s7⟩
         go_simp
         with_reducible rfl
        rotate_left
        ·simp only [Act.put, List.setIfInBounds_toArray, List.set_cons_zero, List.set_cons_succ, i64_w, i32_w]
         rfl
        refine one_ (i := 2) (N := some 20) #[true, true, true, false, true, true, true, true, true, true, false, false] rfl rfl (one_of HT_.out (by kernel_rfl)) (by decide) (fun K hK => ?_)
        refine value_ (w1 := ?_) (v := ?_) (by rfl) rfl ?_ ?_
        rotate_left 2
        ·go_simp
         constructor
         ·rfl
         ·rfl
        refine hK.out _ _ ⟨(blk_cell (blk_alloc BK88001.out _) 0).trans rfl, (blk_cell (blk_alloc BK88001.out _) 1).trans rfl, (blk_cell (blk_alloc BK88001.out _) 2).trans rfl, (World.cell?_alloc_lt _ _ _ (World.block_lt_of_cell? _ _ (((HB.out.cell (World.block_lt_of_cell? w _ hw88007_0)).trans hw88007_0)))).trans (((HB.out.cell (World.block_lt_of_cell? w _ hw88007_0)).trans hw88007_0)), (World.cell?_alloc_lt _ _ _ (World.block_lt_of_cell? _ _ (((HB.out.cell (World.block_lt_of_cell? w _ hw88007_1)).trans hw88007_1)))).trans (((HB.out.cell (World.block_lt_of_cell? w _ hw88007_1)).trans hw88007_1)), (World.cell?_alloc_lt _ _ _ (World.block_lt_of_cell? _ _ (((HB.out.cell (World.block_lt_of_cell? w _ hw88007_2)).trans hw88007_2)))).trans (((HB.out.cell (World.block_lt_of_cell? w _ hw88007_2)).trans hw88007_2)), (World.cell?_alloc_lt _ _ _ (World.block_lt_of_cell? _ _ (((HB.out.cell (World.block_lt_of_cell? w _ hw88007_3)).trans hw88007_3)))).trans (((HB.out.cell (World.block_lt_of_cell? w _ hw88007_3)).trans hw88007_3)), (World.cell?_alloc_lt _ _ _ (World.block_lt_of_cell? _ _ (((HB.out.cell (World.block_lt_of_cell? w _ hw88007_4)).trans hw88007_4)))).trans (((HB.out.cell (World.block_lt_of_cell? w _ hw88007_4)).trans hw88007_4))⟩ (fun hHeld => ?_)
        clear hK K
        refine norm_ (a' := ?_) ?_ ?_
        rotate_left
        ·show Act.put _ (some 20) _ = _
         simp only [Act.put, List.setIfInBounds_toArray, List.set_cons_zero, List.set_cons_succ, i64_w, i32_w]
         rfl
        refine one_ (i := 3) (N := some 21) #[true, true, true, true, true, true, true, true, true, true, false, false] rfl rfl (one_of HT_.out (by kernel_rfl)) (by decide) (fun K hK => ?_)
        refine Kd.R_append_step (Kd.int .i64) (w0 := w) w.heap.size (by rfl) (.tmp 18) (.tmp 20) 26 3 (.int .i64 0) 8 rfl Try.underlying26 info3 rfl (by decide) (by omega) (.slice Ao19 x6_1.length co19) x6_1 t88002 [.int .i64 t88002] (fun _ => True) (fun _ => False) rfl rfl ?aP (fun _ hk => hk.elim) ?aF ?aO ?aB ?aS ?aL ?_
        (case aP => exact rfl)
        (case aB => exact (by exact HB.out))
        (case aF => exact (fun _ _ => trivial))
        (case aO => exact (by exact HO_6.out))
        (case aS => exact (below_size (by exact HB.out)))
        (case aL => have := LMc14.out; omega)
        intro v88005 w22 ho hb hg hat
        rw [← Ny88004.out] at ho
        have n0_ := Aside0.mk (blk_grown (g := gb88001) (o := .cells #[.slice A0_0 l0_0.length c0_0, .slice (some ad88007) l0_1.length c0_1, .int .i64 a0_2] 35 (0, 0)) BK88001.out hg (Kd.R_ne HO_6.out BK88001.out (by decide)))
        have n1_ := Aside0.mk (hb)
        have n2_ := Aside0.mk (ho)
        clear BK88001 HB HO_6; have BK88001 := n0_; have HB := n1_; have HO88006 := n2_; clear n0_ n1_ n2_ ho hb hg hat
        refine hK.out _ _ ⟨(blk_cell BK88001.out 0).trans rfl, (blk_cell BK88001.out 1).trans rfl, (blk_cell BK88001.out 2).trans rfl, ((HB.out.cell (World.block_lt_of_cell? w _ hw88007_0)).trans hw88007_0), ((HB.out.cell (World.block_lt_of_cell? w _ hw88007_1)).trans hw88007_1), ((HB.out.cell (World.block_lt_of_cell? w _ hw88007_2)).trans hw88007_2), ((HB.out.cell (World.block_lt_of_cell? w _ hw88007_3)).trans hw88007_3), ((HB.out.cell (World.block_lt_of_cell? w _ hw88007_4)).trans hw88007_4)⟩ (fun hHeld => ?_)
        clear hK K
        refine norm_ (a' := ?_) ?_ ?_
        rotate_left
        ·show Act.put _ (some 21) _ = _
         simp only [Act.put, List.setIfInBounds_toArray, List.set_cons_zero, List.set_cons_succ, i64_w, i32_w]
         rfl
        refine pure_ (i := 10) (N := some 6) (v := ?_) (a' := ?_) #[true, true, true, true, true, true, true, true, true, true, true, false] rfl rfl (any_of HT_.out (by kernel_rfl)) (fun _ _ _ h => h) (Or.inl ⟨by rfl, ?_⟩) ?_ ?_
        rotate_left
        ·intro w'
         go_simp
         with_reducible rfl
        rotate_left
        ·simp only [Act.put, List.setIfInBounds_toArray, List.set_cons_zero, List.set_cons_succ, i64_w, i32_w]
         rfl
        refine pure_ (i := 11) (N := some 1) (v := ?_) (a' := ?_) #[true, true, true, true, true, true, true, true, true, true, true, true] rfl rfl (any_of HT_.out (by kernel_rfl)) (fun _ _ _ h => h) (Or.inl ⟨by rfl, ?_⟩) ?_ ?_
        rotate_left
        ·intro w'
         go_simp
         with_reducible rfl
        rotate_left
        ·simp only [Act.put, List.setIfInBounds_toArray, List.set_cons_zero, List.set_cons_succ, i64_w, i32_w]
         rfl
        refine done_ (done_of HT_.out (by kernel_rfl)) ?_
        try go_wp2
        go_roundg k1
        case measure => have := HK1.out; omega
        case rel => exact ⟨((rd_T90 l0_1 t88002).f0), (y88004), (by first | rfl | (simp; done) | (simp [*]; done)), H', ⟨by have := HK1.out; omega⟩, ⟨by (with_reducible repeat (first | apply Kd.R_alloc | apply Kd.R_drewN | apply Kd.R_drew)); exact HO88006.out⟩, ⟨by (with_reducible repeat (first | refine blk_drewN ?_ _ | refine blk_drew ?_ | refine blk_alloc ?_ _)); exact BK88001.out⟩, ⟨by repeat (first | (with_reducible first | exact HB.out | apply below_alloc | apply pw_below_drewN | apply below_drew1 | refine below_set ?_ GE88001.out) | exact HB.out)⟩⟩
       ·rw [if_neg c16] at H
        exact absurd H (by simp)
      ·rw [if_neg c15] at H
       exact absurd H (by simp)
     ·rw [if_neg c14] at H
      exact absurd H (by simp)

def impl_isPlain.l0 : Nat → List (S116) → Int → Int → List (S116) → List (S90) → Int → Option (Bool)
 | 0, _, _, _, _, _, _ => none
 | k + 1, x11, x12, x13, x87002000, x87002001, x87002002 => if x13 < x12 then (if 0 ≤ x13 then (if x13 < (x11.length : Int) then ((impl_chainOf.f k x87002000 x87002001 x87002002 x13).bind fun bt87005 => (if bt87005.1 < 0 then (some false) else (if (((rd_T116 x11 x13).f1).length : Int) > 0 then (some false) else (impl_isPlain.l0 k x11 x12 (wrap64 (x13 + 1)) x87002000 x87002001 x87002002)))) else (none)) else (none)) else (some true)
def impl_isPlain.f (k : Nat) (l0_0 : List (S116)) (l0_1 : List (S90)) (a0_2 : Int) : Option (Bool) := (impl_ShowOk.f l0_0 l0_1 a0_2).bind fun t87002 => (if t87002 = true then (impl_isPlain.l0 k l0_0 (l0_0.length : Int) 0 l0_0 l0_1 a0_2) else (some false))
set_option maxHeartbeats 8000000 in
set_option maxRecDepth 100000 in
theorem impl_isPlain.calls (k : Nat) (A0_0 : Option Addr) (c0_0 : Nat) (l0_0 : List (S116)) (A0_1 : Option Addr) (c0_1 : Nat) (l0_1 : List (S90)) (a0_2 : Int) (r : Bool) (w : World) (hr0_0 : Kd.C k116 w A0_0 l0_0.length l0_0) (hc0_0 : l0_0.length ≤ c0_0) (hr0_1 : Kd.C k90 w A0_1 l0_1.length l0_1) (hc0_1 : l0_1.length ≤ c0_1) (h : impl_isPlain.f k l0_0 l0_1 a0_2 = some r) :
  Calls Try.prog 87 #[.agg #[.slice A0_0 l0_0.length c0_0, .slice A0_1 l0_1.length c0_1, .int .i64 a0_2]] w fun e w' => e = .returned (.bool r) ∧ Below w.heap.size w w' := by
 have hu35 := Try.underlying35
 have hu116 := Try.underlying116
 have HR0_0 := Aside0.mk hr0_0; have HC0_0 := Aside0.mk hc0_0; clear hr0_0 hc0_0; have HR0_1 := Aside0.mk hr0_1; have HC0_1 := Aside0.mk hc0_1; clear hr0_1 hc0_1
 have HB := Aside0.mk (Below.refl w.heap.size w)
 have H : ((impl_ShowOk.f l0_0 l0_1 a0_2).bind fun t87002 => (if t87002 = true then (impl_isPlain.l0 k l0_0 (l0_0.length : Int) 0 l0_0 l0_1 a0_2) else (some false))) = some r := h
 clear h
 replace H := Option.bind_eq_some_iff.mp H
 obtain ⟨t87002, A20, H⟩ := H
 replace H : (if t87002 = true then (impl_isPlain.l0 k l0_0 (l0_0.length : Int) 0 l0_0 l0_1 a0_2) else (some false)) = some r := H
 have A2 := Aside0.mk A20; clear A20
 by_cases c3 : t87002 = true
 ·subst c3
  have H1 : (impl_isPlain.l0 k l0_0 (l0_0.length : Int) 0 l0_0 l0_1 a0_2) = some r := by rw [if_pos rfl] at H; exact H
  clear H
  have H := H1
  clear H1
  have H' := Aside0.mk H
  clear H
  go_enter Try.func87, Try.ntmps87
  go_wp2_with (first | ((with_reducible refine gate_dst (N := 1) rfl ?_); (try (refine gate_guard (by rfl) ?_; dsimp only)); refine box_event ?hg (N := 1) ?hd (cs := #[.slice A0_0 l0_0.length c0_0, .slice A0_1 l0_1.length c0_1, .int .i64 a0_2]) (t := 35) ?hr ?_; (case hd => rfl); (case hg => rfl); (case hr => first | (go_simp; done) | (go_simp; rfl)); intro gb87001 hg w4 hbox hb; have n0_ := Aside0.mk (below_step (by exact HB.out) hb); have n1_ := Aside0.mk (hbox); have n2_ := Aside0.mk ((by rw [hg]; exact (below_size (by exact HB.out)) : w.heap.size ≤ gb87001)); have n3_ := n2_; clear HB; have HB := n0_; have BK87001 := n1_; have GW87001 := n2_; have GE87001 := n3_; clear n0_ n1_ n2_ n3_; clear hb hbox hg; have hcz5_0 : w4.cell? ⟨gb87001, 0, none⟩ = some (.slice A0_0 l0_0.length c0_0) := (blk_cell BK87001.out 0).trans rfl; have hcz5_1 : w4.cell? ⟨gb87001, 1, none⟩ = some (.slice A0_1 l0_1.length c0_1) := (blk_cell BK87001.out 1).trans rfl; have hcz5_2 : w4.cell? ⟨gb87001, 2, none⟩ = some (.int .i64 a0_2) := (blk_cell BK87001.out 2).trans rfl; have hfz5_0 := blk_frozen BK87001.out 0; have hfz5_1 := blk_frozen BK87001.out 1; have hfz5_2 := blk_frozen BK87001.out 2) | ((with_reducible refine gate_callee (f := 72) rfl ?_); refine goesL_ (some 8) rfl rfl Try.func72 (by kernel_rfl) rfl #[.agg #[.slice A0_0 l0_0.length c0_0, .slice A0_1 l0_1.length c0_1, .int .i64 a0_2]] rfl (by (try simp only [List.map_toArray, List.map_cons, List.map_nil]); first | done | rfl | (simp only [List.length_drop, List.length_take]; rfl)) ?_; (with_reducible refine (impl_ShowOk.calls _ _ l0_0 _ _ l0_1 a0_2 true _ ?side1 ?side2 ?side3 ?side4 A2.out).mono ?_); (case side1 => exact (Kd.C_below HR0_0.out HB.out)); (case side2 => exact HC0_0.out); (case side3 => exact (Kd.C_below HR0_1.out HB.out)); (case side4 => exact HC0_1.out); rintro e w6 ⟨rfl, hb⟩; refine ⟨_, rfl, ?_⟩; have n0_ := Aside0.mk (blk_below (g := gb87001) (o := .cells #[.slice A0_0 l0_0.length c0_0, .slice A0_1 l0_1.length c0_1, .int .i64 a0_2] 35 (0, 0)) BK87001.out hb); have n1_ := Aside0.mk (below_step (by exact HB.out) hb); clear BK87001; clear HB; have BK87001 := n0_; have HB := n1_; clear n0_ n1_; (try clear hb); (try clear hb2); (try clear hk); (try clear hi); have hcz7_0 : w6.cell? ⟨gb87001, 0, none⟩ = some (.slice A0_0 l0_0.length c0_0) := (blk_cell BK87001.out 0).trans rfl; have hcz7_1 : w6.cell? ⟨gb87001, 1, none⟩ = some (.slice A0_1 l0_1.length c0_1) := (blk_cell BK87001.out 1).trans rfl; have hcz7_2 : w6.cell? ⟨gb87001, 2, none⟩ = some (.int .i64 a0_2) := (blk_cell BK87001.out 2).trans rfl; have hfz7_0 := blk_frozen BK87001.out 0; have hfz7_1 := blk_frozen BK87001.out 1; have hfz7_2 := blk_frozen BK87001.out 2))
  go_loopg [13] k (fun kq v13 w' => ∃ (x13_1 : Int), v13 = .int .i64 x13_1 ∧ Aside0 (impl_isPlain.l0 kq l0_0 (l0_0.length : Int) x13_1 l0_0 l0_1 a0_2 = some r) ∧ Aside0 (kq ≤ k) ∧ Aside0 (w'.heap[gb87001]? = some (.cells #[(.slice A0_0 l0_0.length c0_0), (.slice A0_1 l0_1.length c0_1), .int .i64 a0_2] 35 (0, 0))) ∧ Aside0 (Below w.heap.size w w'))
  case atStart => exact ⟨(0), (by first | rfl | (simp; done) | (simp [*]; done)), H', ⟨Nat.le_refl _⟩, ⟨by (with_reducible repeat (first | refine blk_drewN ?_ _ | refine blk_drew ?_ | refine blk_alloc ?_ _)); exact BK87001.out⟩, ⟨by repeat (first | (with_reducible first | exact HB.out | apply below_alloc | apply pw_below_drewN | apply below_drew1 | refine below_set ?_ GE87001.out) | exact HB.out)⟩⟩
  case round =>
   clear H'
   try clear p2
   try clear c3
   try clear c7
   obtain ⟨x13_1, rfl, HA, HK1, BK87001, HB⟩ := hrel
   cases gk with
   | zero => exact absurd HA.out (by simp [impl_isPlain.l0])
   | succ k1 =>
    have H := HA.out
    clear HA
    simp only [impl_isPlain.l0] at H
    by_cases c8 : x13_1 < (l0_0.length : Int)
    ·rw [if_pos c8] at H
     have c8b0 : decide (x13_1 < (l0_0.length : Int)) = true := decide_eq_true c8
     clear c8
     by_cases c9 : 0 ≤ x13_1
     ·rw [if_pos c9] at H
      have c9b0 : decide (0 ≤ x13_1) = true := decide_eq_true c9
      clear c9
      by_cases c10 : x13_1 < (l0_0.length : Int)
      ·rw [if_pos c10] at H
       have c10b0 : decide (x13_1 < (l0_0.length : Int)) = true := decide_eq_true c10
       clear c10
       replace H := Option.bind_eq_some_iff.mp H
       obtain ⟨⟨t87005, t87006⟩, A110, H⟩ := H
       replace H : (if t87005 < 0 then (some false) else (if (((rd_T116 l0_0 x13_1).f1).length : Int) > 0 then (some false) else (impl_isPlain.l0 k1 l0_0 (l0_0.length : Int) (wrap64 (x13_1 + 1)) l0_0 l0_1 a0_2))) = some r := H
       have A11 := Aside0.mk A110; clear A110
       by_cases c12 : t87005 < 0
       ·rw [if_pos c12] at H
        have c12b0 : decide (t87005 < 0) = true := decide_eq_true c12
        clear c12
        obtain rfl := Option.some.inj H
        have p87003 : 0 ≤ (x13_1 : Int) := of_decide_eq_true (by with_reducible assumption)
        have q87003 : x13_1 < (l0_0.length : Int) := of_decide_eq_true (by with_reducible assumption)
        obtain ⟨ad87003, A87003_1, c87003_1, e87003, hx87003_0, hx87003_1, hx87003_2, hl87003_1, hi87003_1⟩ := at_T116 HR0_0.out x13_1 p87003 q87003
        cases e87003
        replace hx87003_0 := (HB.out.cell (World.block_lt_of_cell? w _ hx87003_0)).trans hx87003_0
        replace hx87003_1 := (HB.out.cell (World.block_lt_of_cell? w _ hx87003_1)).trans hx87003_1
        replace hx87003_2 := (HB.out.cell (World.block_lt_of_cell? w _ hx87003_2)).trans hx87003_2
        have HR87003_1 := Aside0.mk hi87003_1; have HC87003_1 := Aside0.mk hl87003_1; clear hi87003_1 hl87003_1
        replace p87003 := eq_true p87003
        replace q87003 := eq_true q87003
        go_wp2_with (first | ((with_reducible refine gate_dst (N := 4) rfl ?_); (try (refine gate_guard (by rfl) ?_; dsimp only)); refine box_event ?hg (N := 4) ?hd (cs := #[.string (⟨#[]⟩ : ByteArray), .slice none 0 0, .int .i64 0]) (t := 116) ?hr ?_; (case hd => rfl); (case hg => rfl); (case hr => first | (go_simp; done) | (go_simp; rfl)); intro gb87004 hg w13 hbox hb; have n0_ := Aside0.mk (blk_below (g := gb87001) (o := .cells #[.slice (some ad87003) l0_0.length c0_0, .slice A0_1 l0_1.length c0_1, .int .i64 a0_2] 35 (0, 0)) BK87001.out hb); have n1_ := Aside0.mk (below_step (by exact HB.out) hb); have n2_ := Aside0.mk (hbox); have n3_ := Aside0.mk ((by rw [hg]; exact (below_size (by exact HB.out)) : w.heap.size ≤ gb87004)); have n4_ := n3_; have n5_ := Aside0.mk ((by rw [hg]; exact Nat.ne_of_lt (blk_lt (g := gb87001) (o := .cells #[.slice (some ad87003) l0_0.length c0_0, .slice A0_1 l0_1.length c0_1, .int .i64 a0_2] 35 (0, 0)) BK87001.out) : gb87001 ≠ gb87004)); have n6_ := Aside0.mk n5_.out.symm; clear BK87001; clear HB; have BK87001 := n0_; have HB := n1_; have BK87004 := n2_; have GW87004 := n3_; have GE87004 := n4_; have NB87001_87004 := n5_; have NB87004_87001 := n6_; clear n0_ n1_ n2_ n3_ n4_ n5_ n6_; clear hb hbox hg; have hnb14 := NB87004_87001.out; have hnc14 := NB87001_87004.out; have hcz15_0 : w13.cell? ⟨gb87004, 0, none⟩ = some (.string (⟨#[]⟩ : ByteArray)) := (blk_cell BK87004.out 0).trans rfl; have hcz15_1 : w13.cell? ⟨gb87004, 1, none⟩ = some (.slice none 0 0) := (blk_cell BK87004.out 1).trans rfl; have hcz15_2 : w13.cell? ⟨gb87004, 2, none⟩ = some (.int .i64 0) := (blk_cell BK87004.out 2).trans rfl; have hfz15_0 := blk_frozen BK87004.out 0; have hfz15_1 := blk_frozen BK87004.out 1; have hfz15_2 := blk_frozen BK87004.out 2; have hcz16_0 : w13.cell? ⟨gb87001, 0, none⟩ = some (.slice (some ad87003) l0_0.length c0_0) := (blk_cell BK87001.out 0).trans rfl; have hcz16_1 : w13.cell? ⟨gb87001, 1, none⟩ = some (.slice A0_1 l0_1.length c0_1) := (blk_cell BK87001.out 1).trans rfl; have hcz16_2 : w13.cell? ⟨gb87001, 2, none⟩ = some (.int .i64 a0_2) := (blk_cell BK87001.out 2).trans rfl; have hfz16_0 := blk_frozen BK87001.out 0; have hfz16_1 := blk_frozen BK87001.out 1; have hfz16_2 := blk_frozen BK87001.out 2) | ((with_reducible refine gate_callee (f := 88) rfl ?_); refine goesL_ (some 21) rfl rfl Try.func88 (by kernel_rfl) rfl #[.agg #[.slice (some ad87003) l0_0.length c0_0, .slice A0_1 l0_1.length c0_1, .int .i64 a0_2], .int .i64 x13_1] rfl (by (try simp only [List.map_toArray, List.map_cons, List.map_nil]); first | done | rfl | (simp only [List.length_drop, List.length_take]; rfl)) ?_; (with_reducible refine (impl_chainOf.calls k1 _ _ l0_0 _ _ l0_1 a0_2 x13_1 t87005 t87006 _ ?side1 ?side2 ?side3 ?side4 A11.out).mono ?_); (case side1 => exact Kd.C_below HR0_0.out (by repeat (first | (with_reducible first | exact HB.out | apply below_alloc | apply pw_below_drewN | apply below_drew1 | refine below_set ?_ GE87001.out | refine below_set ?_ GE87004.out) | exact HB.out))); (case side2 => exact HC0_0.out); (case side3 => exact Kd.C_below HR0_1.out (by repeat (first | (with_reducible first | exact HB.out | apply below_alloc | apply pw_below_drewN | apply below_drew1 | refine below_set ?_ GE87001.out | refine below_set ?_ GE87004.out) | exact HB.out))); (case side4 => exact HC0_1.out); rintro e w17 ⟨v87007, rfl, ho0, hb⟩; refine ⟨_, rfl, ?_⟩; have n0_ := Aside0.mk (Kd.R_lower ho0 (below_size (by repeat (first | (with_reducible first | exact HB.out | apply below_alloc | apply pw_below_drewN | apply below_drew1 | refine below_set ?_ GE87001.out | refine below_set ?_ GE87004.out) | exact HB.out)))); have n1_ := Aside0.mk (blk_below (g := gb87001) (o := .cells #[.slice (some ad87003) l0_0.length c0_0, .slice A0_1 l0_1.length c0_1, .int .i64 a0_2] 35 (0, 0)) (by (with_reducible repeat (first | refine blk_drewN ?_ _ | refine blk_drew ?_ | refine blk_alloc ?_ _)); refine blk_far ?_ NB87001_87004.out _; (with_reducible repeat (first | refine blk_drewN ?_ _ | refine blk_drew ?_ | refine blk_alloc ?_ _)); refine blk_far ?_ NB87001_87004.out _; (with_reducible repeat (first | refine blk_drewN ?_ _ | refine blk_drew ?_ | refine blk_alloc ?_ _)); refine blk_far ?_ NB87001_87004.out _; (with_reducible repeat (first | refine blk_drewN ?_ _ | refine blk_drew ?_ | refine blk_alloc ?_ _)); exact BK87001.out) hb); have n2_ := Aside0.mk (blk_below (g := gb87004) (o := .cells #[.string ((rd_T116 l0_0 x13_1).f0), .slice A87003_1 ((rd_T116 l0_0 x13_1).f1).length c87003_1, .int .i64 ((rd_T116 l0_0 x13_1).f2)] 116 (0, 0)) (by (with_reducible repeat (first | refine blk_drewN ?_ _ | refine blk_drew ?_ | refine blk_alloc ?_ _)); refine blk_put (cs := #[.string ((rd_T116 l0_0 x13_1).f0), .slice A87003_1 ((rd_T116 l0_0 x13_1).f1).length c87003_1, .int .i64 0]) ?_ 2 _ rfl; (with_reducible repeat (first | refine blk_drewN ?_ _ | refine blk_drew ?_ | refine blk_alloc ?_ _)); refine blk_put (cs := #[.string ((rd_T116 l0_0 x13_1).f0), .slice none 0 0, .int .i64 0]) ?_ 1 _ rfl; (with_reducible repeat (first | refine blk_drewN ?_ _ | refine blk_drew ?_ | refine blk_alloc ?_ _)); refine blk_put (cs := #[.string (⟨#[]⟩ : ByteArray), .slice none 0 0, .int .i64 0]) ?_ 0 _ rfl; (with_reducible repeat (first | refine blk_drewN ?_ _ | refine blk_drew ?_ | refine blk_alloc ?_ _)); exact BK87004.out) hb); have n3_ := Aside0.mk (below_step (by repeat (first | (with_reducible first | exact HB.out | apply below_alloc | apply pw_below_drewN | apply below_drew1 | refine below_set ?_ GE87001.out | refine below_set ?_ GE87004.out) | exact HB.out)) hb); clear BK87001; clear BK87004; clear HB; have HO87008 := n0_; have BK87001 := n1_; have BK87004 := n2_; have HB := n3_; clear n0_ n1_ n2_ n3_; (try clear hb); (try clear hb2); (try clear hk); (try clear hi); (try clear ho0)))
        go_ret
        exact ⟨by first | rfl | (simp [errW_none, errW_some] <;> rfl) | (simp [*, errW_none, errW_some] <;> rfl), by repeat (first | (with_reducible first | exact HB.out | apply below_alloc | apply pw_below_drewN | apply below_drew1 | refine below_set ?_ GE87001.out | refine below_set ?_ GE87004.out) | exact HB.out)⟩
       ·rw [if_neg c12] at H
        have c12b0 : decide (t87005 < 0) = false := decide_eq_false c12
        clear c12
        by_cases c18 : (((rd_T116 l0_0 x13_1).f1).length : Int) > 0
        ·rw [if_pos c18] at H
         have c18b0 : decide (0 < (((rd_T116 l0_0 x13_1).f1).length : Int)) = true := decide_eq_true c18
         have c18b1 : decide (0 < ((rd_T116 l0_0 x13_1).f1).length) = true := decide_eq_true (by omega)
         clear c18
         obtain rfl := Option.some.inj H
         have p87003 : 0 ≤ (x13_1 : Int) := of_decide_eq_true (by with_reducible assumption)
         have q87003 : x13_1 < (l0_0.length : Int) := of_decide_eq_true (by with_reducible assumption)
         obtain ⟨ad87003, A87003_1, c87003_1, e87003, hx87003_0, hx87003_1, hx87003_2, hl87003_1, hi87003_1⟩ := at_T116 HR0_0.out x13_1 p87003 q87003
         cases e87003
         replace hx87003_0 := (HB.out.cell (World.block_lt_of_cell? w _ hx87003_0)).trans hx87003_0
         replace hx87003_1 := (HB.out.cell (World.block_lt_of_cell? w _ hx87003_1)).trans hx87003_1
         replace hx87003_2 := (HB.out.cell (World.block_lt_of_cell? w _ hx87003_2)).trans hx87003_2
         have HR87003_1 := Aside0.mk hi87003_1; have HC87003_1 := Aside0.mk hl87003_1; clear hi87003_1 hl87003_1
         replace p87003 := eq_true p87003
         replace q87003 := eq_true q87003
         go_wp2_with (first | ((with_reducible refine gate_dst (N := 4) rfl ?_); (try (refine gate_guard (by rfl) ?_; dsimp only)); refine box_event ?hg (N := 4) ?hd (cs := #[.string (⟨#[]⟩ : ByteArray), .slice none 0 0, .int .i64 0]) (t := 116) ?hr ?_; (case hd => rfl); (case hg => rfl); (case hr => first | (go_simp; done) | (go_simp; rfl)); intro gb87004 hg w19 hbox hb; have n0_ := Aside0.mk (blk_below (g := gb87001) (o := .cells #[.slice (some ad87003) l0_0.length c0_0, .slice A0_1 l0_1.length c0_1, .int .i64 a0_2] 35 (0, 0)) BK87001.out hb); have n1_ := Aside0.mk (below_step (by exact HB.out) hb); have n2_ := Aside0.mk (hbox); have n3_ := Aside0.mk ((by rw [hg]; exact (below_size (by exact HB.out)) : w.heap.size ≤ gb87004)); have n4_ := n3_; have n5_ := Aside0.mk ((by rw [hg]; exact Nat.ne_of_lt (blk_lt (g := gb87001) (o := .cells #[.slice (some ad87003) l0_0.length c0_0, .slice A0_1 l0_1.length c0_1, .int .i64 a0_2] 35 (0, 0)) BK87001.out) : gb87001 ≠ gb87004)); have n6_ := Aside0.mk n5_.out.symm; clear BK87001; clear HB; have BK87001 := n0_; have HB := n1_; have BK87004 := n2_; have GW87004 := n3_; have GE87004 := n4_; have NB87001_87004 := n5_; have NB87004_87001 := n6_; clear n0_ n1_ n2_ n3_ n4_ n5_ n6_; clear hb hbox hg; have hnb20 := NB87004_87001.out; have hnc20 := NB87001_87004.out; have hcz21_0 : w19.cell? ⟨gb87004, 0, none⟩ = some (.string (⟨#[]⟩ : ByteArray)) := (blk_cell BK87004.out 0).trans rfl; have hcz21_1 : w19.cell? ⟨gb87004, 1, none⟩ = some (.slice none 0 0) := (blk_cell BK87004.out 1).trans rfl; have hcz21_2 : w19.cell? ⟨gb87004, 2, none⟩ = some (.int .i64 0) := (blk_cell BK87004.out 2).trans rfl; have hfz21_0 := blk_frozen BK87004.out 0; have hfz21_1 := blk_frozen BK87004.out 1; have hfz21_2 := blk_frozen BK87004.out 2; have hcz22_0 : w19.cell? ⟨gb87001, 0, none⟩ = some (.slice (some ad87003) l0_0.length c0_0) := (blk_cell BK87001.out 0).trans rfl; have hcz22_1 : w19.cell? ⟨gb87001, 1, none⟩ = some (.slice A0_1 l0_1.length c0_1) := (blk_cell BK87001.out 1).trans rfl; have hcz22_2 : w19.cell? ⟨gb87001, 2, none⟩ = some (.int .i64 a0_2) := (blk_cell BK87001.out 2).trans rfl; have hfz22_0 := blk_frozen BK87001.out 0; have hfz22_1 := blk_frozen BK87001.out 1; have hfz22_2 := blk_frozen BK87001.out 2) | ((with_reducible refine gate_callee (f := 88) rfl ?_); refine goesL_ (some 21) rfl rfl Try.func88 (by kernel_rfl) rfl #[.agg #[.slice (some ad87003) l0_0.length c0_0, .slice A0_1 l0_1.length c0_1, .int .i64 a0_2], .int .i64 x13_1] rfl (by (try simp only [List.map_toArray, List.map_cons, List.map_nil]); first | done | rfl | (simp only [List.length_drop, List.length_take]; rfl)) ?_; (with_reducible refine (impl_chainOf.calls k1 _ _ l0_0 _ _ l0_1 a0_2 x13_1 t87005 t87006 _ ?side1 ?side2 ?side3 ?side4 A11.out).mono ?_); (case side1 => exact Kd.C_below HR0_0.out (by repeat (first | (with_reducible first | exact HB.out | apply below_alloc | apply pw_below_drewN | apply below_drew1 | refine below_set ?_ GE87001.out | refine below_set ?_ GE87004.out) | exact HB.out))); (case side2 => exact HC0_0.out); (case side3 => exact Kd.C_below HR0_1.out (by repeat (first | (with_reducible first | exact HB.out | apply below_alloc | apply pw_below_drewN | apply below_drew1 | refine below_set ?_ GE87001.out | refine below_set ?_ GE87004.out) | exact HB.out))); (case side4 => exact HC0_1.out); rintro e w23 ⟨v87007, rfl, ho0, hb⟩; refine ⟨_, rfl, ?_⟩; have n0_ := Aside0.mk (Kd.R_lower ho0 (below_size (by repeat (first | (with_reducible first | exact HB.out | apply below_alloc | apply pw_below_drewN | apply below_drew1 | refine below_set ?_ GE87001.out | refine below_set ?_ GE87004.out) | exact HB.out)))); have n1_ := Aside0.mk (blk_below (g := gb87001) (o := .cells #[.slice (some ad87003) l0_0.length c0_0, .slice A0_1 l0_1.length c0_1, .int .i64 a0_2] 35 (0, 0)) (by (with_reducible repeat (first | refine blk_drewN ?_ _ | refine blk_drew ?_ | refine blk_alloc ?_ _)); refine blk_far ?_ NB87001_87004.out _; (with_reducible repeat (first | refine blk_drewN ?_ _ | refine blk_drew ?_ | refine blk_alloc ?_ _)); refine blk_far ?_ NB87001_87004.out _; (with_reducible repeat (first | refine blk_drewN ?_ _ | refine blk_drew ?_ | refine blk_alloc ?_ _)); refine blk_far ?_ NB87001_87004.out _; (with_reducible repeat (first | refine blk_drewN ?_ _ | refine blk_drew ?_ | refine blk_alloc ?_ _)); exact BK87001.out) hb); have n2_ := Aside0.mk (blk_below (g := gb87004) (o := .cells #[.string ((rd_T116 l0_0 x13_1).f0), .slice A87003_1 ((rd_T116 l0_0 x13_1).f1).length c87003_1, .int .i64 ((rd_T116 l0_0 x13_1).f2)] 116 (0, 0)) (by (with_reducible repeat (first | refine blk_drewN ?_ _ | refine blk_drew ?_ | refine blk_alloc ?_ _)); refine blk_put (cs := #[.string ((rd_T116 l0_0 x13_1).f0), .slice A87003_1 ((rd_T116 l0_0 x13_1).f1).length c87003_1, .int .i64 0]) ?_ 2 _ rfl; (with_reducible repeat (first | refine blk_drewN ?_ _ | refine blk_drew ?_ | refine blk_alloc ?_ _)); refine blk_put (cs := #[.string ((rd_T116 l0_0 x13_1).f0), .slice none 0 0, .int .i64 0]) ?_ 1 _ rfl; (with_reducible repeat (first | refine blk_drewN ?_ _ | refine blk_drew ?_ | refine blk_alloc ?_ _)); refine blk_put (cs := #[.string (⟨#[]⟩ : ByteArray), .slice none 0 0, .int .i64 0]) ?_ 0 _ rfl; (with_reducible repeat (first | refine blk_drewN ?_ _ | refine blk_drew ?_ | refine blk_alloc ?_ _)); exact BK87004.out) hb); have n3_ := Aside0.mk (below_step (by repeat (first | (with_reducible first | exact HB.out | apply below_alloc | apply pw_below_drewN | apply below_drew1 | refine below_set ?_ GE87001.out | refine below_set ?_ GE87004.out) | exact HB.out)) hb); clear BK87001; clear BK87004; clear HB; have HO87008 := n0_; have BK87001 := n1_; have BK87004 := n2_; have HB := n3_; clear n0_ n1_ n2_ n3_; (try clear hb); (try clear hb2); (try clear hk); (try clear hi); (try clear ho0); have hcz24_0 : w23.cell? ⟨gb87004, 0, none⟩ = some (.string ((rd_T116 l0_0 x13_1).f0)) := (blk_cell BK87004.out 0).trans rfl; have hcz24_1 : w23.cell? ⟨gb87004, 1, none⟩ = some (.slice A87003_1 ((rd_T116 l0_0 x13_1).f1).length c87003_1) := (blk_cell BK87004.out 1).trans rfl; have hcz24_2 : w23.cell? ⟨gb87004, 2, none⟩ = some (.int .i64 ((rd_T116 l0_0 x13_1).f2)) := (blk_cell BK87004.out 2).trans rfl; have hfz24_0 := blk_frozen BK87004.out 0; have hfz24_1 := blk_frozen BK87004.out 1; have hfz24_2 := blk_frozen BK87004.out 2))
         go_ret
         exact ⟨by first | rfl | (simp [errW_none, errW_some] <;> rfl) | (simp [*, errW_none, errW_some] <;> rfl), by repeat (first | (with_reducible first | exact HB.out | apply below_alloc | apply pw_below_drewN | apply below_drew1 | refine below_set ?_ GE87001.out | refine below_set ?_ GE87004.out) | exact HB.out)⟩
        ·rw [if_neg c18] at H
         have c18b0 : decide (0 < (((rd_T116 l0_0 x13_1).f1).length : Int)) = false := decide_eq_false c18
         have c18b1 : decide (0 < ((rd_T116 l0_0 x13_1).f1).length) = false := decide_eq_false (by omega)
         clear c18
         have H' := Aside0.mk H
         clear H
         have p87003 : 0 ≤ (x13_1 : Int) := of_decide_eq_true (by with_reducible assumption)
         have q87003 : x13_1 < (l0_0.length : Int) := of_decide_eq_true (by with_reducible assumption)
         obtain ⟨ad87003, A87003_1, c87003_1, e87003, hx87003_0, hx87003_1, hx87003_2, hl87003_1, hi87003_1⟩ := at_T116 HR0_0.out x13_1 p87003 q87003
         cases e87003
         replace hx87003_0 := (HB.out.cell (World.block_lt_of_cell? w _ hx87003_0)).trans hx87003_0
         replace hx87003_1 := (HB.out.cell (World.block_lt_of_cell? w _ hx87003_1)).trans hx87003_1
         replace hx87003_2 := (HB.out.cell (World.block_lt_of_cell? w _ hx87003_2)).trans hx87003_2
         have HR87003_1 := Aside0.mk hi87003_1; have HC87003_1 := Aside0.mk hl87003_1; clear hi87003_1 hl87003_1
         replace p87003 := eq_true p87003
         replace q87003 := eq_true q87003
         go_wp2_with (first | ((with_reducible refine gate_dst (N := 4) rfl ?_); (try (refine gate_guard (by rfl) ?_; dsimp only)); refine box_event ?hg (N := 4) ?hd (cs := #[.string (⟨#[]⟩ : ByteArray), .slice none 0 0, .int .i64 0]) (t := 116) ?hr ?_; (case hd => rfl); (case hg => rfl); (case hr => first | (go_simp; done) | (go_simp; rfl)); intro gb87004 hg w25 hbox hb; have n0_ := Aside0.mk (blk_below (g := gb87001) (o := .cells #[.slice (some ad87003) l0_0.length c0_0, .slice A0_1 l0_1.length c0_1, .int .i64 a0_2] 35 (0, 0)) BK87001.out hb); have n1_ := Aside0.mk (below_step (by exact HB.out) hb); have n2_ := Aside0.mk (hbox); have n3_ := Aside0.mk ((by rw [hg]; exact (below_size (by exact HB.out)) : w.heap.size ≤ gb87004)); have n4_ := n3_; have n5_ := Aside0.mk ((by rw [hg]; exact Nat.ne_of_lt (blk_lt (g := gb87001) (o := .cells #[.slice (some ad87003) l0_0.length c0_0, .slice A0_1 l0_1.length c0_1, .int .i64 a0_2] 35 (0, 0)) BK87001.out) : gb87001 ≠ gb87004)); have n6_ := Aside0.mk n5_.out.symm; clear BK87001; clear HB; have BK87001 := n0_; have HB := n1_; have BK87004 := n2_; have GW87004 := n3_; have GE87004 := n4_; have NB87001_87004 := n5_; have NB87004_87001 := n6_; clear n0_ n1_ n2_ n3_ n4_ n5_ n6_; clear hb hbox hg; have hnb26 := NB87004_87001.out; have hnc26 := NB87001_87004.out; have hcz27_0 : w25.cell? ⟨gb87004, 0, none⟩ = some (.string (⟨#[]⟩ : ByteArray)) := (blk_cell BK87004.out 0).trans rfl; have hcz27_1 : w25.cell? ⟨gb87004, 1, none⟩ = some (.slice none 0 0) := (blk_cell BK87004.out 1).trans rfl; have hcz27_2 : w25.cell? ⟨gb87004, 2, none⟩ = some (.int .i64 0) := (blk_cell BK87004.out 2).trans rfl; have hfz27_0 := blk_frozen BK87004.out 0; have hfz27_1 := blk_frozen BK87004.out 1; have hfz27_2 := blk_frozen BK87004.out 2; have hcz28_0 : w25.cell? ⟨gb87001, 0, none⟩ = some (.slice (some ad87003) l0_0.length c0_0) := (blk_cell BK87001.out 0).trans rfl; have hcz28_1 : w25.cell? ⟨gb87001, 1, none⟩ = some (.slice A0_1 l0_1.length c0_1) := (blk_cell BK87001.out 1).trans rfl; have hcz28_2 : w25.cell? ⟨gb87001, 2, none⟩ = some (.int .i64 a0_2) := (blk_cell BK87001.out 2).trans rfl; have hfz28_0 := blk_frozen BK87001.out 0; have hfz28_1 := blk_frozen BK87001.out 1; have hfz28_2 := blk_frozen BK87001.out 2) | ((with_reducible refine gate_callee (f := 88) rfl ?_); refine goesL_ (some 21) rfl rfl Try.func88 (by kernel_rfl) rfl #[.agg #[.slice (some ad87003) l0_0.length c0_0, .slice A0_1 l0_1.length c0_1, .int .i64 a0_2], .int .i64 x13_1] rfl (by (try simp only [List.map_toArray, List.map_cons, List.map_nil]); first | done | rfl | (simp only [List.length_drop, List.length_take]; rfl)) ?_; (with_reducible refine (impl_chainOf.calls k1 _ _ l0_0 _ _ l0_1 a0_2 x13_1 t87005 t87006 _ ?side1 ?side2 ?side3 ?side4 A11.out).mono ?_); (case side1 => exact Kd.C_below HR0_0.out (by repeat (first | (with_reducible first | exact HB.out | apply below_alloc | apply pw_below_drewN | apply below_drew1 | refine below_set ?_ GE87001.out | refine below_set ?_ GE87004.out) | exact HB.out))); (case side2 => exact HC0_0.out); (case side3 => exact Kd.C_below HR0_1.out (by repeat (first | (with_reducible first | exact HB.out | apply below_alloc | apply pw_below_drewN | apply below_drew1 | refine below_set ?_ GE87001.out | refine below_set ?_ GE87004.out) | exact HB.out))); (case side4 => exact HC0_1.out); rintro e w29 ⟨v87007, rfl, ho0, hb⟩; refine ⟨_, rfl, ?_⟩; have n0_ := Aside0.mk (Kd.R_lower ho0 (below_size (by repeat (first | (with_reducible first | exact HB.out | apply below_alloc | apply pw_below_drewN | apply below_drew1 | refine below_set ?_ GE87001.out | refine below_set ?_ GE87004.out) | exact HB.out)))); have n1_ := Aside0.mk (blk_below (g := gb87001) (o := .cells #[.slice (some ad87003) l0_0.length c0_0, .slice A0_1 l0_1.length c0_1, .int .i64 a0_2] 35 (0, 0)) (by (with_reducible repeat (first | refine blk_drewN ?_ _ | refine blk_drew ?_ | refine blk_alloc ?_ _)); refine blk_far ?_ NB87001_87004.out _; (with_reducible repeat (first | refine blk_drewN ?_ _ | refine blk_drew ?_ | refine blk_alloc ?_ _)); refine blk_far ?_ NB87001_87004.out _; (with_reducible repeat (first | refine blk_drewN ?_ _ | refine blk_drew ?_ | refine blk_alloc ?_ _)); refine blk_far ?_ NB87001_87004.out _; (with_reducible repeat (first | refine blk_drewN ?_ _ | refine blk_drew ?_ | refine blk_alloc ?_ _)); exact BK87001.out) hb); have n2_ := Aside0.mk (blk_below (g := gb87004) (o := .cells #[.string ((rd_T116 l0_0 x13_1).f0), .slice A87003_1 ((rd_T116 l0_0 x13_1).f1).length c87003_1, .int .i64 ((rd_T116 l0_0 x13_1).f2)] 116 (0, 0)) (by (with_reducible repeat (first | refine blk_drewN ?_ _ | refine blk_drew ?_ | refine blk_alloc ?_ _)); refine blk_put (cs := #[.string ((rd_T116 l0_0 x13_1).f0), .slice A87003_1 ((rd_T116 l0_0 x13_1).f1).length c87003_1, .int .i64 0]) ?_ 2 _ rfl; (with_reducible repeat (first | refine blk_drewN ?_ _ | refine blk_drew ?_ | refine blk_alloc ?_ _)); refine blk_put (cs := #[.string ((rd_T116 l0_0 x13_1).f0), .slice none 0 0, .int .i64 0]) ?_ 1 _ rfl; (with_reducible repeat (first | refine blk_drewN ?_ _ | refine blk_drew ?_ | refine blk_alloc ?_ _)); refine blk_put (cs := #[.string (⟨#[]⟩ : ByteArray), .slice none 0 0, .int .i64 0]) ?_ 0 _ rfl; (with_reducible repeat (first | refine blk_drewN ?_ _ | refine blk_drew ?_ | refine blk_alloc ?_ _)); exact BK87004.out) hb); have n3_ := Aside0.mk (below_step (by repeat (first | (with_reducible first | exact HB.out | apply below_alloc | apply pw_below_drewN | apply below_drew1 | refine below_set ?_ GE87001.out | refine below_set ?_ GE87004.out) | exact HB.out)) hb); clear BK87001; clear BK87004; clear HB; have HO87008 := n0_; have BK87001 := n1_; have BK87004 := n2_; have HB := n3_; clear n0_ n1_ n2_ n3_; (try clear hb); (try clear hb2); (try clear hk); (try clear hi); (try clear ho0); have hcz30_0 : w29.cell? ⟨gb87004, 0, none⟩ = some (.string ((rd_T116 l0_0 x13_1).f0)) := (blk_cell BK87004.out 0).trans rfl; have hcz30_1 : w29.cell? ⟨gb87004, 1, none⟩ = some (.slice A87003_1 ((rd_T116 l0_0 x13_1).f1).length c87003_1) := (blk_cell BK87004.out 1).trans rfl; have hcz30_2 : w29.cell? ⟨gb87004, 2, none⟩ = some (.int .i64 ((rd_T116 l0_0 x13_1).f2)) := (blk_cell BK87004.out 2).trans rfl; have hfz30_0 := blk_frozen BK87004.out 0; have hfz30_1 := blk_frozen BK87004.out 1; have hfz30_2 := blk_frozen BK87004.out 2))
         go_roundg k1
         case measure => have := HK1.out; omega
         case rel => exact ⟨(wrap64 (x13_1 + 1)), (by first | rfl | (simp; done) | (simp [*]; done)), H', ⟨by have := HK1.out; omega⟩, ⟨by (with_reducible repeat (first | refine blk_drewN ?_ _ | refine blk_drew ?_ | refine blk_alloc ?_ _)); exact BK87001.out⟩, ⟨by repeat (first | (with_reducible first | exact HB.out | apply below_alloc | apply pw_below_drewN | apply below_drew1 | refine below_set ?_ GE87001.out | refine below_set ?_ GE87004.out) | exact HB.out)⟩⟩
      ·rw [if_neg c10] at H
       exact absurd H (by simp)
     ·rw [if_neg c9] at H
      exact absurd H (by simp)
    ·rw [if_neg c8] at H
     have c8b0 : decide (x13_1 < (l0_0.length : Int)) = false := decide_eq_false c8
     clear c8
     obtain rfl := Option.some.inj H
     go_wp2
     go_ret
     exact ⟨by first | rfl | (simp [errW_none, errW_some] <;> rfl) | (simp [*, errW_none, errW_some] <;> rfl), by repeat (first | (with_reducible first | exact HB.out | apply below_alloc | apply pw_below_drewN | apply below_drew1 | refine below_set ?_ GE87001.out) | exact HB.out)⟩
 ·replace c3 := Bool.eq_false_iff.mpr c3
  subst c3
  have H1 : (some false) = some r := by rw [if_neg (show ¬ (false = true) by decide)] at H; exact H
  clear H
  have H := H1
  clear H1
  obtain rfl := Option.some.inj H
  go_enter Try.func87, Try.ntmps87
  go_wp2_with (first | ((with_reducible refine gate_dst (N := 1) rfl ?_); (try (refine gate_guard (by rfl) ?_; dsimp only)); refine box_event ?hg (N := 1) ?hd (cs := #[.slice A0_0 l0_0.length c0_0, .slice A0_1 l0_1.length c0_1, .int .i64 a0_2]) (t := 35) ?hr ?_; (case hd => rfl); (case hg => rfl); (case hr => first | (go_simp; done) | (go_simp; rfl)); intro gb87001 hg w31 hbox hb; have n0_ := Aside0.mk (below_step (by exact HB.out) hb); have n1_ := Aside0.mk (hbox); have n2_ := Aside0.mk ((by rw [hg]; exact (below_size (by exact HB.out)) : w.heap.size ≤ gb87001)); have n3_ := n2_; clear HB; have HB := n0_; have BK87001 := n1_; have GW87001 := n2_; have GE87001 := n3_; clear n0_ n1_ n2_ n3_; clear hb hbox hg; have hcz32_0 : w31.cell? ⟨gb87001, 0, none⟩ = some (.slice A0_0 l0_0.length c0_0) := (blk_cell BK87001.out 0).trans rfl; have hcz32_1 : w31.cell? ⟨gb87001, 1, none⟩ = some (.slice A0_1 l0_1.length c0_1) := (blk_cell BK87001.out 1).trans rfl; have hcz32_2 : w31.cell? ⟨gb87001, 2, none⟩ = some (.int .i64 a0_2) := (blk_cell BK87001.out 2).trans rfl; have hfz32_0 := blk_frozen BK87001.out 0; have hfz32_1 := blk_frozen BK87001.out 1; have hfz32_2 := blk_frozen BK87001.out 2) | ((with_reducible refine gate_callee (f := 72) rfl ?_); refine goesL_ (some 8) rfl rfl Try.func72 (by kernel_rfl) rfl #[.agg #[.slice A0_0 l0_0.length c0_0, .slice A0_1 l0_1.length c0_1, .int .i64 a0_2]] rfl (by (try simp only [List.map_toArray, List.map_cons, List.map_nil]); first | done | rfl | (simp only [List.length_drop, List.length_take]; rfl)) ?_; (with_reducible refine (impl_ShowOk.calls _ _ l0_0 _ _ l0_1 a0_2 false _ ?side1 ?side2 ?side3 ?side4 A2.out).mono ?_); (case side1 => exact (Kd.C_below HR0_0.out HB.out)); (case side2 => exact HC0_0.out); (case side3 => exact (Kd.C_below HR0_1.out HB.out)); (case side4 => exact HC0_1.out); rintro e w33 ⟨rfl, hb⟩; refine ⟨_, rfl, ?_⟩; have n0_ := Aside0.mk (blk_below (g := gb87001) (o := .cells #[.slice A0_0 l0_0.length c0_0, .slice A0_1 l0_1.length c0_1, .int .i64 a0_2] 35 (0, 0)) BK87001.out hb); have n1_ := Aside0.mk (below_step (by exact HB.out) hb); clear BK87001; clear HB; have BK87001 := n0_; have HB := n1_; clear n0_ n1_; (try clear hb); (try clear hb2); (try clear hk); (try clear hi)))
  go_ret
  exact ⟨by first | rfl | (simp [errW_none, errW_some] <;> rfl) | (simp [*, errW_none, errW_some] <;> rfl), by repeat (first | (with_reducible first | exact HB.out | apply below_alloc | apply pw_below_drewN | apply below_drew1 | refine below_set ?_ GE87001.out) | exact HB.out)⟩

end Go.Proofs.Ytodfnelilhjoeaa.Pr
