/- The texts of one claim, put together by a program of this session. -/
import Derived.Deep.LoopGhost
import Derived.Deep.RegionHeld3
import Derived.Test.YtodfnelilhjoeaaBTic1x1
import Derived.Test.YtodfnelilhjoeaaBTic1x10
import Derived.Test.YtodfnelilhjoeaaBTic1x2
import Derived.Test.YtodfnelilhjoeaaBTic1x3
import Derived.Test.YtodfnelilhjoeaaBTic1x5
import Derived.Test.YtodfnelilhjoeaaBTic1x6
import Derived.Test.YtodfnelilhjoeaaBTic1x7
import Derived.Test.YtodfnelilhjoeaaBTic1x8
import Derived.Test.YtodfnelilhjoeaaBTic1x9
namespace Go.Proofs.Ytodfnelilhjoeaa.Pr
open Go.RowKit Go.Proofs.YtodfnelilhjoeaaW.PrintWords Go.Proofs.YtodfnelilhjoeaaW.PrintLast Go.Proofs.YtodfnelilhjoeaaW.PrintMore
attribute [local go_sem] max2_int min2_int max_two min_two max_three min_three max_four min_four
set_option linter.unusedVariables false
set_option linter.unusedSimpArgs false
open Go.Proofs.Ytodfnelilhjoeaa.Ni
theorem nodes_open {w : World} {base : Nat} {ok : Nat → Prop} {v : Value} {xs : List S116} (h : Kd.S k116 116 w base ok v xs) (hn : 0 < xs.length) :
  ∃ g cap cur, ∃ f : Nat → Nat, ∃ lv : Nat → Value, v = .slice (some ⟨g, 0, none⟩) xs.length cap ∧ base ≤ g ∧ ok g ∧ w.heap[g]? = some (.cells cur 116 (0, 0)) ∧ xs.length ≤ cap ∧ cap ≤ maxLen ∧ cur.size = cap * 3 ∧
   (∀ j, j < xs.length → cur[j * 3 + 1]? = some (lv j) ∧ Kd.R (Kd.int .i64) 3 w base (fun k => (ok k ∧ k ≠ g) ∧ f k = j) (lv j) (xs.getD j z116).f1) := by
 obtain ⟨f, hok, inner, ⟨hlen, ho⟩, hr⟩ := h
 rw [List.length_zipIdx] at ho hlen
 rcases ho with ⟨_, h0⟩ | ⟨g, cap, cur, h1, h2, h3, h4, h5, h6, h7⟩
 ·omega
 subst h1
 have key : ∀ j, j < xs.length → ∃ lv, cur[j * 3 + 1]? = some lv ∧ Kd.R (Kd.int .i64) 3 w base (fun k => (ok k ∧ k ≠ g) ∧ f k = j) lv (xs.getD j z116).f1 := by
  intro j hj
  have hm := hr.2 j _ (Kd.zip_at (getD_some hj z116))
  obtain ⟨v1, he, hR⟩ := k116_openM hm
  refine ⟨v1, ?_, Kd.R_mono hR fun k hk => ⟨⟨hk.1.1, fun e => hk.1.2 (by rw [e]; rfl)⟩, hk.2⟩⟩
  have h8 : inner[j * 3 + 1]? = some v1 := by
   have h9 : ((inner.drop (j * 3)).take 3)[1]? = some v1 := by rw [show (inner.drop (j * 3)).take 3 = _ from he]; rfl
   rw [List.getElem?_take_of_lt (by omega), List.getElem?_drop] at h9
   exact h9
  rw [← h7, List.getElem?_take_of_lt (by show _ < xs.length * 3; omega)] at h8
  simpa using h8
 refine ⟨g, cap, cur, f, fun j => if hj : j < xs.length then (key j hj).choose else .nilIface, rfl, h2, hok g rfl, h3, h4, h5, h6, fun j hj => ?_⟩
 have := (key j hj).choose_spec
 simp only [dif_pos hj]
 exact this
structure MInv (w wr : World) (ok : Nat → Prop) (f : Nat → Nat) (g n : Nat) (cur : Array Value) (i : Nat) : Prop where
 sz : w.heap.size ≤ wr.heap.size
 far : ∀ k, k < w.heap.size → k ≠ g → ¬ (ok k ∧ f k < i) → wr.heap[k]? = w.heap[k]?
 row : ∃ cur' : Array Value, wr.heap[g]? = some (.cells cur' 116 (0, 0)) ∧ cur'.size = cur.size ∧ ∀ j, j < n → cur'[j * 3 + 1]? = cur[j * 3 + 1]?
theorem MInv.below {w wr w1 : World} {ok : Nat → Prop} {f : Nat → Nat} {g n : Nat} {cur : Array Value} {i : Nat} (h : MInv w wr ok f g n cur i) (hb : Below wr.heap.size wr w1) (hg : g < w.heap.size) : MInv w w1 ok f g n cur i := by
 obtain ⟨cur', h1, h2, h3⟩ := h.row
 refine ⟨Nat.le_trans h.sz hb.size, fun k hk hkg hn => (hb.block k (Nat.lt_of_lt_of_le hk h.sz)).trans (h.far k hk hkg hn), cur', ?_, h2, h3⟩
 rw [hb.block g (Nat.lt_of_lt_of_le hg h.sz)]; exact h1
set_option maxHeartbeats 4000000 in
set_option maxRecDepth 100000 in
theorem markNodeS_k (w0 w : World) (ok : Nat → Prop) (v : Value) (xs : List S116) (hB : Below w0.heap.size w0 w) (hs : Kd.S k116 116 w w0.heap.size ok v xs) (hxs : ∀ x ∈ xs, x.f1.length ≤ 1048576) (hl : xs.length ≤ 1048576) (a : Int) (h0 : 0 ≤ a) (h1 : a ≤ 1125899906842624) :
  Calls Try.prog 78 #[v, .int .i64 a] w fun e w' => ∃ r : Int, e = .returned (.int .i64 r) ∧ Aside0 (0 ≤ r ∧ r ≤ a + xs.length * 2097152) ∧ Below w0.heap.size w0 w' ∧ Kept w w' ok := by
 by_cases hn : 0 < xs.length
 case neg =>
  obtain rfl : xs = [] := List.eq_nil_of_length_eq_zero (by omega)
  obtain ⟨A, c, rfl⟩ := Kd.S_slice hs
  have HB := Aside0.mk hB
  have HA := Aside0.mk (And.intro h0 h1)
  clear hB hs hxs hl h0 h1 hn
  go_enter Try.func78, Try.ntmps78
  go_wp2
  go_loopg [1, 5] 1 (fun gg s1 s5 wr => s1 = .int .i64 a ∧ s5 = .int .i64 0 ∧ Aside0 (wr = w))
  case atStart => exact ⟨rfl, rfl, ⟨rfl⟩⟩
  case round =>
   obtain ⟨rfl, rfl, hw⟩ := hrel
   obtain rfl := hw.out
   go_wp2
   go_ret
   exact ⟨a, rfl, ⟨by have := HA.out; simp; omega⟩, HB.out, Kept.refl _ _⟩
 obtain ⟨g, cap, cur, f, lv, rfl, hbg, hok, hg, hcap, hmax, hsz, hlab⟩ := nodes_open hs hn
 have hbound : ∀ k, ok k → w0.heap.size ≤ k ∨ True := fun _ _ => .inr trivial
 have hlt := blk_lt hg
 have HB := Aside0.mk hB; have HOK := Aside0.mk hok; have HG := Aside0.mk hg; have HBG := Aside0.mk hbg; have HLAB := Aside0.mk hlab; have HXS := Aside0.mk hxs; have HSZ := Aside0.mk hsz; have HM := Aside0.mk hmax
 obtain ⟨n, hnx⟩ : ∃ n, n = xs.length := ⟨_, rfl⟩
 rw [← hnx] at HLAB hcap hn hl
 have HNX := Aside0.mk hnx; clear hB hok hg hbg hlab hxs hsz hs hmax hbound
 rw [← hnx]
 clear hnx
 go_enter Try.func78, Try.ntmps78
 go_wp2
 go_loopg [1, 5] n (fun gg s1 s5 wr => ∃ kk : Nat, ∃ b : Int, Aside0 (kk ≤ n) ∧ Aside0 (n - kk ≤ gg) ∧ s1 = .int .i64 b ∧ s5 = .int .i64 kk ∧ Aside0 (0 ≤ b ∧ b ≤ a + kk * 2097152) ∧ Aside0 (Below w0.heap.size w0 wr) ∧ Aside0 (MInv w wr ok f g n cur kk))
 case atStart => exact ⟨0, a, ⟨Nat.zero_le _⟩, ⟨by omega⟩, rfl, rfl, ⟨by omega⟩, HB, ⟨⟨Nat.le_refl _, fun _ _ _ _ => rfl, cur, HG.out, rfl, fun _ _ => rfl⟩⟩⟩
 case round =>
  obtain ⟨kk, b, HK, HGG, rfl, rfl, HBD, HBr, HI⟩ := hrel
  by_cases hlt2 : kk < n
  ·have hltz : (kk : Int) < (n : Int) := by omega
   have hbd := HBD.out
   obtain ⟨rt, hrt⟩ := markText_f b hbd.1 (by omega) (2 ^ 64) (Nat.le_refl _)
   have HRT := Aside0.mk hrt; clear hrt
   go_wp2_with fail
   refine (laws_markText.calls (2 ^ 64) b rt _ HRT.out).mono ?_
   rintro e w1 ⟨rfl, hb⟩
   have HI1 := Aside0.mk (HI.out.below hb hlt)
   have HB1 := Aside0.mk (HBr.out.trans (hb.mono HBr.out.size))
   clear hb
   obtain ⟨cur1, hr1, hz1, hc1⟩ := HI1.out.row
   have hin : kk * 3 + 2 < cur1.size := by have := HSZ.out; omega
   obtain ⟨hlv, hR⟩ := HLAB.out kk hlt2
   obtain ⟨Al, cl, el⟩ := Kd.R_slice hR
   have q1 : w1.cell? ⟨g, kk * 3 + 1, none⟩ = some (.slice Al (xs.getD kk z116).f1.length cl) := by
    rw [blk_cell hr1, hc1 kk hlt2, hlv, el]
   have f0 := blk_frozen hr1 (kk * 3)
   have q0 := blk_cell hr1 (kk * 3)
   obtain ⟨u0, hu0⟩ : ∃ u, cur1[kk * 3]? = some u := ⟨_, Array.getElem?_eq_getElem (by omega)⟩
   rw [hu0] at q0
   rw [el] at hR
   have HR := Aside0.mk hR; have HR1 := Aside0.mk hr1; have HC1 := Aside0.mk hc1; have HZ1 := Aside0.mk hz1
   have hlx : (xs.getD kk z116).f1.length ≤ 1048576 := HXS.out _ (getD_mem (by have := HNX.out; omega) _)
   have HRL := Aside0.mk hR.1
   generalize hlab' : (xs.getD kk z116).f1 = lb at q1 HR hlx
   clear hlv hR el hr1 hc1 hz1 hlab' HRL
   have HMK := Aside0.mk (markIntS_f lb hlx (b + 1) (by omega) (by omega) (2 ^ 64) (Nat.le_refl _))
   go_wp2_with fail
   refine (laws_markIntS.calls (2 ^ 64) (fun k => (ok k ∧ k ≠ g) ∧ f k = kk) _ lb (b + 1) _ _ w0 _ ?hb ?hr HMK.out).mono ?_
   case hb => exact below_set HB1.out HBG.out
   case hr => exact Kd.R_step HR.out fun k hk hlt3 => (Below.heap_setCell w1 _ _ k hk.1.2).trans (HI1.out.far k hlt3 hk.1.2 (by rintro ⟨_, h9⟩; have := hk.2; omega))
   rintro e w2 ⟨rfl, _, hb2, hk2⟩
   have hr2 : w2.heap[g]? = some (.cells (cur1.setIfInBounds (kk * 3) (.string rt)) 116 (0, 0)) := blk_kept (blk_put HR1.out (kk * 3) (.string rt) rfl) hk2 (fun h9 => h9.1.2 rfl)
   have f2 := blk_frozen hr2 (kk * 3 + 2)
   have q2 := blk_cell hr2 (kk * 3 + 2)
   obtain ⟨u2, hu2⟩ : ∃ u, (cur1.setIfInBounds (kk * 3) (.string rt))[kk * 3 + 2]? = some u := ⟨_, Array.getElem?_eq_getElem (by simp; omega)⟩
   rw [hu2] at q2
   have HR2 := Aside0.mk hr2; have HB2 := Aside0.mk hb2; have HK2 := Aside0.mk hk2; clear hr2 hb2 hk2 hu2 hu0 f0 q0 q1
   have hw1 : IntKind.i64.wrap (b + 1 + lb.length + 1) = b + 1 + lb.length + 1 := by simp [IntKind.wrap, IntKind.signed, IntKind.bits]; omega
   have hw2 : wrap64 (b + 1 + lb.length + 1) = b + 1 + lb.length + 1 := wrap_id (by omega) (by omega)
   go_wp2
   go_roundg (n - (kk + 1))
   case measure => have := HGG.out; omega
   case rel =>
    refine ⟨kk + 1, b + 1 + lb.length + 1, ⟨by omega⟩, ⟨by omega⟩, by first | rfl | go_num, by go_num, ⟨by omega⟩, ⟨below_set HB2.out HBG.out⟩, ⟨?_, ?_, ?_⟩⟩
    ·have h9 := HK2.out.1
     have h8 := HI1.out.sz
     simp [World.setCell] at h9 ⊢
     omega
    ·intro k hk hkg hn9
     have hk8 : k < w1.heap.size := Nat.lt_of_lt_of_le hk HI1.out.sz
     rw [Below.heap_setCell w2 _ _ k hkg, HK2.out.2 k (by simpa [World.setCell] using hk8) (fun h7 => hn9 ⟨h7.1.1, by have := h7.2; omega⟩), Below.heap_setCell w1 _ _ k hkg]
     exact HI1.out.far k hk hkg (fun h7 => hn9 ⟨h7.1, by have := h7.2; omega⟩)
    ·refine ⟨_, blk_put HR2.out (kk * 3 + 2) _ rfl, by simpa using HZ1.out, fun j hj => ?_⟩
     rw [Array.getElem?_setIfInBounds_ne (by omega), Array.getElem?_setIfInBounds_ne (by omega)]
     exact HC1.out j hj
  ·have hltz : ¬ (kk : Int) < (n : Int) := by omega
   have : kk = n := by have := HK.out; omega
   subst this
   go_wp2
   go_ret
   refine ⟨b, rfl, ⟨by have := HBD.out; have := HNX.out; omega⟩, HBr.out, HI.out.sz, fun k hk hn9 => HI.out.far k hk (fun e => hn9 (e ▸ HOK.out)) (fun h7 => hn9 h7.1)⟩

set_option maxHeartbeats 4000000 in
set_option maxRecDepth 100000 in
theorem markShow_k (w0 w : World) (b : Nat) (v0 v1 : Value) (ns : List S116) (ts : List S90) (z : Int) (hB : Below w0.heap.size w0 w) (hs : Kd.S k116 116 w w0.heap.size (fun k => k < b) v0 ns) (ht : Kd.R k90 90 w w0.heap.size (fun k => k < b) v1 ts)
  (hxs : ∀ x ∈ ns, x.f1.length ≤ 1048576) (hl : ns.length ≤ 1048576) (hl2 : ts.length ≤ 1048576) (a : Int) (h0 : 0 ≤ a) (h1 : a ≤ 562949953421312) :
  Calls Try.prog 26 #[.agg #[v0, v1, .int .i64 z], .int .i64 a] w fun e w' => ∃ r : Int, e = .returned (.int .i64 r) ∧ Aside0 (0 ≤ r ∧ r ≤ a + 4398046511104) ∧ Below w0.heap.size w0 w' ∧ Kept w w' (fun k => k < b) := by
 obtain ⟨A0, c0, e0⟩ := Kd.S_slice hs
 obtain ⟨A1, c1, e1⟩ := Kd.R_slice ht
 have hty := Kd.R_typed ht
 have hs2 := Kd.S_bound (Kd.S_apart' hs hty (by decide))
 have hbox : ∀ k, (((k < b ∧ some k ≠ v1.ownBlock) ∧ w0.heap.size ≤ k ∧ k < w.heap.size ∧ ∃ q, q ∈ 116 :: Kd.E k116 ∧ ∃ cells, w.heap[k]? = some (.cells cells q (0, 0)))) → k < b ∧ some k ≠ v1.ownBlock ∧ k < w.heap.size := fun k hk => ⟨hk.1.1, hk.1.2, hk.2.2.1⟩
 have HS := Aside0.mk (Kd.S_mono hs2 hbox)
 have HT := Aside0.mk (Kd.R_tight (by rfl) ht)
 have HTB := Aside0.mk fun k (hk : v1.ownBlock = some k) => ht.1 k hk
 have HTL := Aside0.mk (Kd.R_lt ht)
 have HB := Aside0.mk hB; have HXS := Aside0.mk hxs
 have hu := Try.underlying35
 subst e0; subst e1
 have hsz := hB.size
 clear hs ht hs2 hty hbox hB hxs
 have HC1 := Aside0.mk fun (W : World) (hb : Below w.heap.size w W) => markNodeS_k w0 W _ _ ns (HB.out.trans (hb.mono hsz)) (Kd.S_below HS.out hb) HXS.out hl a h0 (by omega)
 have B1 := Aside0.mk (below_alloc (Below.refl w.heap.size w) (.cells #[.slice A0 ns.length c0, .slice A1 ts.length c1, .int .i64 z] 35))
 go_enter Try.func26, Try.ntmps26
 go_wp2_with fail
 refine (HC1.out _ B1.out).mono ?_
 rintro e w1 ⟨r1, rfl, HR1, hb1, hk1⟩
 have s1 : w1.cell? ⟨w.heap.size, 1, none⟩ = some (.slice A1 ts.length c1) := cell_kept (W := w.alloc _) (by go_simp) hk1 (by simp)
 have hkk : Kept w w1 (fun k => k < b) := (Kept.of_below B1.out _).then_ hk1 (fun k hk => .inl hk.1)
 have hr1 := HR1.out
 obtain ⟨l2, hf⟩ := markTieS_f ts hl2 r1 hr1.1 (by omega) (2 ^ 64) (Nat.le_refl _)
 have HF := Aside0.mk hf
 have HT2 := Aside0.mk (Kd.R_kept (Kd.R_below HT.out B1.out) hk1 (fun k hk h2 => h2.2.1 hk))
 have HB1 := Aside0.mk hb1; have HKK := Aside0.mk hkk; clear hb1 hk1 hf hkk
 go_wp2_with fail
 refine (laws_markTieS.calls (2 ^ 64) (fun k => some k = (Value.slice A1 ts.length c1).ownBlock) _ ts r1 _ _ w0 _ HB1.out HT2.out HF.out).mono ?_
 rintro e w2 ⟨rfl, _, hb2, hk2⟩
 have HB2 := Aside0.mk hb2
 have HK2 := Aside0.mk (HKK.out.then_ hk2 (fun k hk => .inl (HTB.out k hk.symm)))
 clear hb2 hk2 s1
 go_wp2
 go_ret
 exact ⟨_, rfl, ⟨by have := HR1.out; omega⟩, HB2.out, HK2.out⟩

set_option maxHeartbeats 4000000 in
set_option maxRecDepth 100000 in
theorem laws_eqNode.same (a0 : ByteArray) (A1 : Option Addr) (c1 : Nat) (A1' : Option Addr) (c1' : Nat) (l1 : List Int) (a2 : Int) (w : World) (hr1 : Kd.C (Kd.int .i64) w A1 l1.length l1) (hc1 : l1.length ≤ c1) (hr1' : Kd.C (Kd.int .i64) w A1' l1.length l1) (hc1' : l1.length ≤ c1') :
  Calls Try.prog 127 #[.agg #[.string a0, .slice A1 l1.length c1, .int .i64 a2], .agg #[.string a0, .slice A1' l1.length c1', .int .i64 a2]] w fun e w' => e = .returned (.bool true) ∧ Below w.heap.size w w' := by
 have hu := Try.underlying116
 have H1 := Aside0.mk fun (W : World) (hb : Below w.heap.size w W) => (laws_eqIntS.calls (2 ^ 64) A1 c1 l1 A1' c1' l1 true W (Kd.C_below hr1 hb) hc1 (Kd.C_below hr1' hb) hc1' (eqIntS_refl l1 hr1.2.1 (2 ^ 64) (Nat.le_refl _))).mono fun e w' ⟨he, hd⟩ => (And.intro he hd.below : e = Ending.returned (.bool true) ∧ Below W.heap.size W w')
 clear hr1 hc1 hr1' hc1'
 have HB0 := Aside0.mk (below_alloc (below_alloc (Below.refl w.heap.size w) (.cells #[.string a0, .slice A1 l1.length c1, .int .i64 a2] 116)) (.cells #[.string a0, .slice A1' l1.length c1', .int .i64 a2] 116))
 go_enter Try.func127, Try.ntmps127
 go_wp2_with fail
 refine (H1.out _ HB0.out).mono ?_
 rintro e w1 ⟨rfl, hb⟩
 have HB1 := Aside0.mk (HB0.out.trans (hb.mono HB0.out.size))
 have s2 : w1.cell? ⟨w.heap.size, 2, none⟩ = some (.int .i64 a2) := kcell hb (by go_simp)
 have t2 : w1.cell? ⟨w.heap.size + 1, 2, none⟩ = some (.int .i64 a2) := kcell hb (by go_simp)
 clear hb
 go_wp2
 go_ret
 exact ⟨rfl, HB1.out⟩

set_option maxHeartbeats 4000000 in
set_option maxRecDepth 100000 in
theorem laws_eqNodeS.same (A0 : Option Addr) (c0 : Nat) (A0' : Option Addr) (c0' : Nat) (l0 : List (S116)) (w : World) (hr0 : Kd.C k116 w A0 l0.length l0) (hc0 : l0.length ≤ c0) (hr0' : Kd.C k116 w A0' l0.length l0) (hc0' : l0.length ≤ c0') :
  Calls Try.prog 74 #[.slice A0 l0.length c0, .slice A0' l0.length c0'] w fun e w' => e = .returned (.bool true) ∧ Below w.heap.size w w' := by
 have hL : l0.length ≤ 9223372036854775807 := hr0.2.1
 have HR := Aside0.mk hr0
 have HS := Aside0.mk hr0'
 clear hr0 hr0'
 go_enter Try.func74, Try.ntmps74
 go_wp2
 go_loopg [5] l0.length (fun gg s5 wr => ∃ kk : Nat, Aside0 (kk ≤ l0.length) ∧ Aside0 (l0.length - kk ≤ gg) ∧ s5 = .int .i64 kk ∧ Aside0 (Below w.heap.size w wr))
 case atStart => exact ⟨0, ⟨Nat.zero_le _⟩, ⟨by omega⟩, rfl, ⟨Below.refl _ _⟩⟩
 case round =>
  obtain ⟨kk, HK, HG, rfl, HBr⟩ := hrel
  by_cases hlt : kk < l0.length
  ·have hltz : (kk : Int) < (l0.length : Int) := by omega
   obtain ⟨adx, A1x, c1x, ex, hx0, hx1, hx2, l1x, g1x⟩ := at_T116 HR.out (kk : Int) (by omega) hltz
   obtain ⟨ady, A1y, c1y, ey, hy0, hy1, hy2, l1y, g1y⟩ := at_T116 HS.out (kk : Int) (by omega) hltz
   cases ex
   cases ey
   rw [Int.toNat_natCast] at hx0 hx1 hx2 hy0 hy1 hy2
   generalize rd_T116 l0 (kk : Int) = y at hx0 hx1 hx2 l1x g1x hy0 hy1 hy2 l1y g1y
   replace hx0 := kcell HBr.out hx0
   replace hx1 := kcell HBr.out hx1
   replace hx2 := kcell HBr.out hx2
   replace hy0 := kcell HBr.out hy0
   replace hy1 := kcell HBr.out hy1
   replace hy2 := kcell HBr.out hy2
   have hltx := World.block_lt_of_cell? wr _ hx0
   have hlty := World.block_lt_of_cell? wr _ hy0
   have G1x := Aside0.mk g1x; have G1y := Aside0.mk g1y; clear g1x g1y
   go_wp2_with fail
   go_region_held3 (fun w' => Below wr.heap.size wr w' ∧ w'.cell? (adx.add (kk * 3)) = some (.string y.f0) ∧ w'.cell? ⟨(adx.add (kk * 3)).block, (adx.add (kk * 3)).off + 1, none⟩ = some (.slice A1x y.f1.length c1x) ∧ w'.cell? ⟨(adx.add (kk * 3)).block, (adx.add (kk * 3)).off + 2, none⟩ = some (.int .i64 y.f2) ∧ w'.cell? (ady.add (kk * 3)) = some (.string y.f0) ∧ w'.cell? ⟨(ady.add (kk * 3)).block, (ady.add (kk * 3)).off + 1, none⟩ = some (.slice A1y y.f1.length c1y) ∧ w'.cell? ⟨(ady.add (kk * 3)).block, (ady.add (kk * 3)).off + 2, none⟩ = some (.int .i64 y.f2))
    (first | (refine ⟨by repeat (first | (with_reducible first | exact Below.refl _ _ | apply below_alloc | apply pw_below_drewN | apply below_drew1 | exact (‹Below wr.heap.size wr _ ∧ _› : Below wr.heap.size wr _ ∧ _).1) | exact Below.refl _ _), ?_⟩; go_simp; done) | (have HQ_ := below_step (‹Below wr.heap.size wr _ ∧ _› : Below wr.heap.size wr _ ∧ _).1 hb; exact ⟨HQ_, kcell HQ_ hx0, kcell HQ_ hx1, kcell HQ_ hx2, kcell HQ_ hy0, kcell HQ_ hy1, kcell HQ_ hy2⟩))
    (first | (go_at_call 127; (refine (laws_eqNode.same y.f0 A1x c1x A1y c1y y.f1 y.f2 _ ?p0 l1x ?p1 l1y).mono ?_); (case p0 => exact (Kd.C_below (Kd.C_below G1x.out HBr.out) (‹Below wr.heap.size wr _ ∧ _› : Below wr.heap.size wr _ ∧ _).1)); (case p1 => exact (Kd.C_below (Kd.C_below G1y.out HBr.out) (‹Below wr.heap.size wr _ ∧ _› : Below wr.heap.size wr _ ∧ _).1)); rintro e w3 ⟨rfl, hb⟩))
   have HB3 := Aside0.mk (‹Below wr.heap.size wr w3 ∧ _› : Below wr.heap.size wr w3 ∧ _).1
   go_wp2
   go_roundg (l0.length - (kk + 1))
   case measure => have := HG.out; omega
   case rel => exact ⟨kk + 1, ⟨by omega⟩, ⟨by omega⟩, by go_num, ⟨HBr.out.trans (HB3.out.mono HBr.out.size)⟩⟩
  ·have hltz : ¬ (kk : Int) < (l0.length : Int) := by omega
   have : kk = l0.length := by have := HK.out; omega
   subst this
   go_wp2
   go_ret
   exact ⟨rfl, HBr.out⟩

set_option maxHeartbeats 4000000 in
set_option maxRecDepth 100000 in
theorem laws_eqTie.same (a0 : Int) (a1 : Int) (a2 : Int) (a3 : Int) (a4 : Bool) (w : World)  :
  Calls Try.prog 128 #[.agg #[.int .i64 a0, .int .i64 a1, .int .i64 a2, .int .i64 a3, .bool a4], .agg #[.int .i64 a0, .int .i64 a1, .int .i64 a2, .int .i64 a3, .bool a4]] w fun e w' => e = .returned (.bool true) ∧ Below w.heap.size w w' := by
 have hu := Try.underlying90
 have HB0 := Aside0.mk (below_alloc (below_alloc (Below.refl w.heap.size w) (.cells #[.int .i64 a0, .int .i64 a1, .int .i64 a2, .int .i64 a3, .bool a4] 90)) (.cells #[.int .i64 a0, .int .i64 a1, .int .i64 a2, .int .i64 a3, .bool a4] 90))
 go_enter Try.func128, Try.ntmps128
 go_wp2
 go_ret
 exact ⟨rfl, HB0.out⟩

set_option maxHeartbeats 4000000 in
set_option maxRecDepth 100000 in
theorem laws_eqTieS.same (A0 : Option Addr) (c0 : Nat) (A0' : Option Addr) (c0' : Nat) (l0 : List (S90)) (w : World) (hr0 : Kd.C k90 w A0 l0.length l0) (hc0 : l0.length ≤ c0) (hr0' : Kd.C k90 w A0' l0.length l0) (hc0' : l0.length ≤ c0') :
  Calls Try.prog 75 #[.slice A0 l0.length c0, .slice A0' l0.length c0'] w fun e w' => e = .returned (.bool true) ∧ Below w.heap.size w w' := by
 have hL : l0.length ≤ 9223372036854775807 := hr0.2.1
 have HR := Aside0.mk hr0
 have HS := Aside0.mk hr0'
 clear hr0 hr0'
 go_enter Try.func75, Try.ntmps75
 go_wp2
 go_loopg [5] l0.length (fun gg s5 wr => ∃ kk : Nat, Aside0 (kk ≤ l0.length) ∧ Aside0 (l0.length - kk ≤ gg) ∧ s5 = .int .i64 kk ∧ Aside0 (Below w.heap.size w wr))
 case atStart => exact ⟨0, ⟨Nat.zero_le _⟩, ⟨by omega⟩, rfl, ⟨Below.refl _ _⟩⟩
 case round =>
  obtain ⟨kk, HK, HG, rfl, HBr⟩ := hrel
  by_cases hlt : kk < l0.length
  ·have hltz : (kk : Int) < (l0.length : Int) := by omega
   obtain ⟨adx, ex, hx0, hx1, hx2, hx3, hx4⟩ := at_T90 HR.out (kk : Int) (by omega) hltz
   obtain ⟨ady, ey, hy0, hy1, hy2, hy3, hy4⟩ := at_T90 HS.out (kk : Int) (by omega) hltz
   cases ex
   cases ey
   rw [Int.toNat_natCast] at hx0 hx1 hx2 hx3 hx4 hy0 hy1 hy2 hy3 hy4
   generalize rd_T90 l0 (kk : Int) = y at hx0 hx1 hx2 hx3 hx4 hy0 hy1 hy2 hy3 hy4
   replace hx0 := kcell HBr.out hx0
   replace hx1 := kcell HBr.out hx1
   replace hx2 := kcell HBr.out hx2
   replace hx3 := kcell HBr.out hx3
   replace hx4 := kcell HBr.out hx4
   replace hy0 := kcell HBr.out hy0
   replace hy1 := kcell HBr.out hy1
   replace hy2 := kcell HBr.out hy2
   replace hy3 := kcell HBr.out hy3
   replace hy4 := kcell HBr.out hy4
   have hltx := World.block_lt_of_cell? wr _ hx0
   have hlty := World.block_lt_of_cell? wr _ hy0
   go_wp2_with fail
   go_region_held3 (fun w' => Below wr.heap.size wr w' ∧ w'.cell? (adx.add (kk * 5)) = some (.int .i64 y.f0) ∧ w'.cell? ⟨(adx.add (kk * 5)).block, (adx.add (kk * 5)).off + 1, none⟩ = some (.int .i64 y.f1) ∧ w'.cell? ⟨(adx.add (kk * 5)).block, (adx.add (kk * 5)).off + 2, none⟩ = some (.int .i64 y.f2) ∧ w'.cell? ⟨(adx.add (kk * 5)).block, (adx.add (kk * 5)).off + 3, none⟩ = some (.int .i64 y.f3) ∧ w'.cell? ⟨(adx.add (kk * 5)).block, (adx.add (kk * 5)).off + 4, none⟩ = some (.bool y.f4) ∧ w'.cell? (ady.add (kk * 5)) = some (.int .i64 y.f0) ∧ w'.cell? ⟨(ady.add (kk * 5)).block, (ady.add (kk * 5)).off + 1, none⟩ = some (.int .i64 y.f1) ∧ w'.cell? ⟨(ady.add (kk * 5)).block, (ady.add (kk * 5)).off + 2, none⟩ = some (.int .i64 y.f2) ∧ w'.cell? ⟨(ady.add (kk * 5)).block, (ady.add (kk * 5)).off + 3, none⟩ = some (.int .i64 y.f3) ∧ w'.cell? ⟨(ady.add (kk * 5)).block, (ady.add (kk * 5)).off + 4, none⟩ = some (.bool y.f4))
    (first | (refine ⟨by repeat (first | (with_reducible first | exact Below.refl _ _ | apply below_alloc | apply pw_below_drewN | apply below_drew1 | exact (‹Below wr.heap.size wr _ ∧ _› : Below wr.heap.size wr _ ∧ _).1) | exact Below.refl _ _), ?_⟩; go_simp; done) | (have HQ_ := below_step (‹Below wr.heap.size wr _ ∧ _› : Below wr.heap.size wr _ ∧ _).1 hb; exact ⟨HQ_, kcell HQ_ hx0, kcell HQ_ hx1, kcell HQ_ hx2, kcell HQ_ hx3, kcell HQ_ hx4, kcell HQ_ hy0, kcell HQ_ hy1, kcell HQ_ hy2, kcell HQ_ hy3, kcell HQ_ hy4⟩))
    (first | (go_at_call 128; (refine (laws_eqTie.same y.f0 y.f1 y.f2 y.f3 y.f4 _ ).mono ?_); rintro e w3 ⟨rfl, hb⟩))
   have HB3 := Aside0.mk (‹Below wr.heap.size wr w3 ∧ _› : Below wr.heap.size wr w3 ∧ _).1
   go_wp2
   go_roundg (l0.length - (kk + 1))
   case measure => have := HG.out; omega
   case rel => exact ⟨kk + 1, ⟨by omega⟩, ⟨by omega⟩, by go_num, ⟨HBr.out.trans (HB3.out.mono HBr.out.size)⟩⟩
  ·have hltz : ¬ (kk : Int) < (l0.length : Int) := by omega
   have : kk = l0.length := by have := HK.out; omega
   subst this
   go_wp2
   go_ret
   exact ⟨rfl, HBr.out⟩

set_option maxHeartbeats 4000000 in
set_option maxRecDepth 100000 in
theorem laws_eqShow.same (A0 : Option Addr) (c0 : Nat) (A0' : Option Addr) (c0' : Nat) (l0 : List (S116)) (A1 : Option Addr) (c1 : Nat) (A1' : Option Addr) (c1' : Nat) (l1 : List (S90)) (a2 : Int) (w : World) (hr0 : Kd.C k116 w A0 l0.length l0) (hc0 : l0.length ≤ c0) (hr0' : Kd.C k116 w A0' l0.length l0) (hc0' : l0.length ≤ c0') (hr1 : Kd.C k90 w A1 l1.length l1) (hc1 : l1.length ≤ c1) (hr1' : Kd.C k90 w A1' l1.length l1) (hc1' : l1.length ≤ c1') :
  Calls Try.prog 21 #[.agg #[.slice A0 l0.length c0, .slice A1 l1.length c1, .int .i64 a2], .agg #[.slice A0' l0.length c0', .slice A1' l1.length c1', .int .i64 a2]] w fun e w' => e = .returned (.bool true) ∧ Below w.heap.size w w' := by
 have hu := Try.underlying35
 have H0 := Aside0.mk fun (W : World) (hb : Below w.heap.size w W) => laws_eqNodeS.same A0 c0 A0' c0' l0 W (Kd.C_below hr0 hb) hc0 (Kd.C_below hr0' hb) hc0'
 have H1 := Aside0.mk fun (W : World) (hb : Below w.heap.size w W) => laws_eqTieS.same A1 c1 A1' c1' l1 W (Kd.C_below hr1 hb) hc1 (Kd.C_below hr1' hb) hc1'
 clear hr0 hc0 hr0' hc0' hr1 hc1 hr1' hc1'
 have HB0 := Aside0.mk (below_alloc (below_alloc (Below.refl w.heap.size w) (.cells #[.slice A0 l0.length c0, .slice A1 l1.length c1, .int .i64 a2] 35)) (.cells #[.slice A0' l0.length c0', .slice A1' l1.length c1', .int .i64 a2] 35))
 go_enter Try.func21, Try.ntmps21
 go_wp2_with fail
 refine (H0.out _ HB0.out).mono ?_
 rintro e w1 ⟨rfl, hb⟩
 have HB1 := Aside0.mk (HB0.out.trans (hb.mono HB0.out.size))
 have s1 : w1.cell? ⟨w.heap.size, 1, none⟩ = some (.slice A1 l1.length c1) := kcell hb (by go_simp)
 have t1 : w1.cell? ⟨w.heap.size + 1, 1, none⟩ = some (.slice A1' l1.length c1') := kcell hb (by go_simp)
 have s2 : w1.cell? ⟨w.heap.size, 2, none⟩ = some (.int .i64 a2) := kcell hb (by go_simp)
 have t2 : w1.cell? ⟨w.heap.size + 1, 2, none⟩ = some (.int .i64 a2) := kcell hb (by go_simp)
 clear hb
 go_wp2_with fail
 refine (H1.out _ HB1.out).mono ?_
 rintro e w2 ⟨rfl, hb⟩
 have HB2 := Aside0.mk (HB1.out.trans (hb.mono HB1.out.size))
 replace s2 := kcell hb s2
 replace t2 := kcell hb t2
 clear hb s1 t1
 go_wp2
 go_ret
 exact ⟨rfl, HB2.out⟩

set_option maxHeartbeats 4000000 in
set_option maxRecDepth 100000 in
theorem laws_eqChoice.same (A0 : Option Addr) (c0 : Nat) (A0' : Option Addr) (c0' : Nat) (l0 : List Int) (A1 : Option Addr) (c1 : Nat) (A1' : Option Addr) (c1' : Nat) (l1 : List Int) (w : World) (hr0 : Kd.C (Kd.int .i64) w A0 l0.length l0) (hc0 : l0.length ≤ c0) (hr0' : Kd.C (Kd.int .i64) w A0' l0.length l0) (hc0' : l0.length ≤ c0') (hr1 : Kd.C (Kd.int .i64) w A1 l1.length l1) (hc1 : l1.length ≤ c1) (hr1' : Kd.C (Kd.int .i64) w A1' l1.length l1) (hc1' : l1.length ≤ c1') :
  Calls Try.prog 22 #[.agg #[.slice A0 l0.length c0, .slice A1 l1.length c1], .agg #[.slice A0' l0.length c0', .slice A1' l1.length c1']] w fun e w' => e = .returned (.bool true) ∧ Below w.heap.size w w' := by
 have hu := Try.underlying37
 have H0 := Aside0.mk fun (W : World) (hb : Below w.heap.size w W) => (laws_eqIntS.calls (2 ^ 64) A0 c0 l0 A0' c0' l0 true W (Kd.C_below hr0 hb) hc0 (Kd.C_below hr0' hb) hc0' (eqIntS_refl l0 hr0.2.1 (2 ^ 64) (Nat.le_refl _))).mono fun e w' ⟨he, hd⟩ => (And.intro he hd.below : e = Ending.returned (.bool true) ∧ Below W.heap.size W w')
 have H1 := Aside0.mk fun (W : World) (hb : Below w.heap.size w W) => (laws_eqIntS.calls (2 ^ 64) A1 c1 l1 A1' c1' l1 true W (Kd.C_below hr1 hb) hc1 (Kd.C_below hr1' hb) hc1' (eqIntS_refl l1 hr1.2.1 (2 ^ 64) (Nat.le_refl _))).mono fun e w' ⟨he, hd⟩ => (And.intro he hd.below : e = Ending.returned (.bool true) ∧ Below W.heap.size W w')
 clear hr0 hc0 hr0' hc0' hr1 hc1 hr1' hc1'
 have HB0 := Aside0.mk (below_alloc (below_alloc (Below.refl w.heap.size w) (.cells #[.slice A0 l0.length c0, .slice A1 l1.length c1] 37)) (.cells #[.slice A0' l0.length c0', .slice A1' l1.length c1'] 37))
 go_enter Try.func22, Try.ntmps22
 go_wp2_with fail
 refine (H0.out _ HB0.out).mono ?_
 rintro e w1 ⟨rfl, hb⟩
 have HB1 := Aside0.mk (HB0.out.trans (hb.mono HB0.out.size))
 have s1 : w1.cell? ⟨w.heap.size, 1, none⟩ = some (.slice A1 l1.length c1) := kcell hb (by go_simp)
 have t1 : w1.cell? ⟨w.heap.size + 1, 1, none⟩ = some (.slice A1' l1.length c1') := kcell hb (by go_simp)
 clear hb
 go_wp2_with fail
 refine (H1.out _ HB1.out).mono ?_
 rintro e w2 ⟨rfl, hb⟩
 have HB2 := Aside0.mk (HB1.out.trans (hb.mono HB1.out.size))
 clear hb s1 t1
 go_wp2
 go_ret
 exact ⟨rfl, HB2.out⟩

end Go.Proofs.Ytodfnelilhjoeaa.Pr
namespace Go.Proofs.Ytodfnelilhjoeaa.Pr
open Go.RowKit Go.Proofs.YtodfnelilhjoeaaW.PrintWords Go.Proofs.YtodfnelilhjoeaaW.PrintLast Go.Proofs.YtodfnelilhjoeaaW.PrintMore
attribute [local go_sem] max2_int min2_int max_two min_two max_three min_three max_four min_four
set_option linter.unusedVariables false
set_option linter.unusedSimpArgs false
theorem laws_toShow.o (k : Nat) (A0_0 : Option Addr) (c0_0 : Nat) (l0_0 : List (S127)) (A0_1 : Option Addr) (c0_1 : Nat) (l0_1 : List (S130)) (a0_2 : Int) (r1 : List (S116)) (r2 : List (S90)) (r3 : Int) (w : World) (hr0_0 : Kd.C k127 w A0_0 l0_0.length l0_0) (hc0_0 : l0_0.length ≤ c0_0) (hr0_1 : Kd.C k130 w A0_1 l0_1.length l0_1) (hc0_1 : l0_1.length ≤ c0_1) (h : laws_toShow.f k l0_0 l0_1 a0_2 = some (r1, r2, r3)) :
  Calls Try.prog 18 #[.agg #[.slice A0_0 l0_0.length c0_0, .slice A0_1 l0_1.length c0_1, .int .i64 a0_2]] w fun e w' => ∃ A0_ c0_ A1_ c1_, e = .returned (.agg #[.slice A0_ r1.length c0_, .slice A1_ r2.length c1_, .int .i64 r3]) ∧ Aside0 (r1.length ≤ c0_ ∧ Kd.C k116 w' A0_ r1.length r1) ∧ Aside0 (r2.length ≤ c1_ ∧ Kd.C k90 w' A1_ r2.length r2) ∧ Aside0 (Kd.S k116 116 w' w.heap.size (fun k_ => True ∧ (w.heap.size ≤ k_ ∧ k_ < w'.heap.size)) (.slice A0_ r1.length c0_) r1 ∧ Kd.R k90 90 w' w.heap.size (fun k_ => True ∧ (w.heap.size ≤ k_ ∧ k_ < w'.heap.size)) (.slice A1_ r2.length c1_) r2) ∧ Below w.heap.size w w' :=
 (laws_toShow.calls k A0_0 c0_0 l0_0 A0_1 c0_1 l0_1 a0_2 r1 r2 r3 w hr0_0 hc0_0 hr0_1 hc0_1 h).mono fun e w' ⟨v0_, v1_, he, q0_, q1_, hb⟩ => by
  obtain ⟨A0_, c0_, rfl, g0_⟩ := Kd.S_reads q0_
  obtain ⟨A1_, c1_, rfl, g1_⟩ := Kd.R_reads q1_
  exact ⟨A0_, c0_, A1_, c1_, he, ⟨g0_⟩, ⟨g1_⟩, ⟨Kd.S_mono (Kd.S_bound q0_) (fun k hk => ⟨hk.1, hk.2.1, hk.2.2.1⟩), Kd.R_mono (Kd.R_bound q1_) (fun k hk => ⟨hk.1, hk.2.1, hk.2.2.1⟩)⟩, hb⟩

theorem laws_toChoice.o (k : Nat) (A0_0 : Option Addr) (c0_0 : Nat) (l0_0 : List Int) (A0_1 : Option Addr) (c0_1 : Nat) (l0_1 : List Int) (r1 : List Int) (r2 : List Int) (w : World) (hr0_0 : Kd.C (Kd.int .i64) w A0_0 l0_0.length l0_0) (hc0_0 : l0_0.length ≤ c0_0) (hr0_1 : Kd.C (Kd.int .i64) w A0_1 l0_1.length l0_1) (hc0_1 : l0_1.length ≤ c0_1) (h : laws_toChoice.f k l0_0 l0_1 = some (r1, r2)) :
  Calls Try.prog 19 #[.agg #[.slice A0_0 l0_0.length c0_0, .slice A0_1 l0_1.length c0_1]] w fun e w' => ∃ A0_ c0_ A1_ c1_, e = .returned (.agg #[.slice A0_ r1.length c0_, .slice A1_ r2.length c1_]) ∧ Aside0 (r1.length ≤ c0_ ∧ Kd.C (Kd.int .i64) w' A0_ r1.length r1) ∧ Aside0 (r2.length ≤ c1_ ∧ Kd.C (Kd.int .i64) w' A1_ r2.length r2) ∧ Aside0 (Kd.R (Kd.int .i64) 3 w' w.heap.size (fun k_ => (some k_ ≠ ((.slice A1_ r2.length c1_) : Value).ownBlock) ∧ (w.heap.size ≤ k_ ∧ k_ < w'.heap.size)) (.slice A0_ r1.length c0_) r1 ∧ Kd.R (Kd.int .i64) 3 w' w.heap.size (fun k_ => (some k_ ≠ ((.slice A0_ r1.length c0_) : Value).ownBlock) ∧ (w.heap.size ≤ k_ ∧ k_ < w'.heap.size)) (.slice A1_ r2.length c1_) r2) ∧ Below w.heap.size w w' :=
 (laws_toChoice.calls k A0_0 c0_0 l0_0 A0_1 c0_1 l0_1 r1 r2 w hr0_0 hc0_0 hr0_1 hc0_1 h).mono fun e w' ⟨v0_, v1_, he, q0_, q1_, hb⟩ => by
  obtain ⟨A0_, c0_, rfl, g0_⟩ := Kd.R_reads q0_
  obtain ⟨A1_, c1_, rfl, g1_⟩ := Kd.R_reads q1_
  exact ⟨A0_, c0_, A1_, c1_, he, ⟨g0_⟩, ⟨g1_⟩, ⟨Kd.R_mono (Kd.R_bound q0_) (fun k hk => ⟨hk.1, hk.2.1, hk.2.2.1⟩), Kd.R_mono (Kd.R_bound q1_) (fun k hk => ⟨hk.1, hk.2.1, hk.2.2.1⟩)⟩, hb⟩

theorem impl_TimesFor.o (k : Nat) (A0_0 : Option Addr) (c0_0 : Nat) (l0_0 : List (S116)) (A0_1 : Option Addr) (c0_1 : Nat) (l0_1 : List (S90)) (a0_2 : Int) (A1_0 : Option Addr) (c1_0 : Nat) (l1_0 : List Int) (A1_1 : Option Addr) (c1_1 : Nat) (l1_1 : List Int) (A2 : Option Addr) (c2 : Nat) (l2 : List Int) (r1 : List Int) (r2 : Bool) (w : World) (hr0_0 : Kd.C k116 w A0_0 l0_0.length l0_0) (hc0_0 : l0_0.length ≤ c0_0) (hr0_1 : Kd.C k90 w A0_1 l0_1.length l0_1) (hc0_1 : l0_1.length ≤ c0_1) (hr1_0 : Kd.C (Kd.int .i64) w A1_0 l1_0.length l1_0) (hc1_0 : l1_0.length ≤ c1_0) (hr1_1 : Kd.C (Kd.int .i64) w A1_1 l1_1.length l1_1) (hc1_1 : l1_1.length ≤ c1_1) (hr2 : Kd.C (Kd.int .i64) w A2 l2.length l2) (hc2 : l2.length ≤ c2) (h : impl_TimesFor.f k l0_0 l0_1 a0_2 l1_0 l1_1 l2 = some (r1, r2)) :
  Calls Try.prog 34 #[.agg #[.slice A0_0 l0_0.length c0_0, .slice A0_1 l0_1.length c0_1, .int .i64 a0_2], .agg #[.slice A1_0 l1_0.length c1_0, .slice A1_1 l1_1.length c1_1], .slice A2 l2.length c2] w fun e w' => ∃ A0_ c0_, e = .returned (.tuple #[.slice A0_ r1.length c0_, .bool r2]) ∧ Aside0 (r1.length ≤ c0_ ∧ Kd.C (Kd.int .i64) w' A0_ r1.length r1) ∧ Aside0 (Kd.R (Kd.int .i64) 3 w' w.heap.size (fun k_ => True ∧ (w.heap.size ≤ k_ ∧ k_ < w'.heap.size)) (.slice A0_ r1.length c0_) r1) ∧ Below w.heap.size w w' :=
 (impl_TimesFor.calls k A0_0 c0_0 l0_0 A0_1 c0_1 l0_1 a0_2 A1_0 c1_0 l1_0 A1_1 c1_1 l1_1 A2 c2 l2 r1 r2 w hr0_0 hc0_0 hr0_1 hc0_1 hr1_0 hc1_0 hr1_1 hc1_1 hr2 hc2 h).mono fun e w' ⟨v0_, he, q0_, hb⟩ => by
  obtain ⟨A0_, c0_, rfl, g0_⟩ := Kd.R_reads q0_
  exact ⟨A0_, c0_, he, ⟨g0_⟩, ⟨Kd.R_mono (Kd.R_bound q0_) (fun k hk => ⟨hk.1, hk.2.1, hk.2.2.1⟩)⟩, hb⟩

theorem laws_toIntS.o (k : Nat) (A0 : Option Addr) (c0 : Nat) (l0 : List Int) (r : List Int) (w : World) (hr0 : Kd.C (Kd.int .i64) w A0 l0.length l0) (hc0 : l0.length ≤ c0) (h : laws_toIntS.f k l0 = some r) :
  Calls Try.prog 58 #[.slice A0 l0.length c0] w fun e w' => ∃ A0_ c0_, e = .returned (.slice A0_ r.length c0_) ∧ Aside0 (r.length ≤ c0_ ∧ Kd.C (Kd.int .i64) w' A0_ r.length r) ∧ Aside0 (Kd.R (Kd.int .i64) 3 w' w.heap.size (fun k_ => True ∧ (w.heap.size ≤ k_ ∧ k_ < w'.heap.size)) (.slice A0_ r.length c0_) r) ∧ Below w.heap.size w w' :=
 (laws_toIntS.calls k A0 c0 l0 r w hr0 hc0 h).mono fun e w' ⟨v0_, he, q0_, hb⟩ => by
  obtain ⟨A0_, c0_, rfl, g0_⟩ := Kd.R_reads q0_
  exact ⟨A0_, c0_, he, ⟨g0_⟩, ⟨Kd.R_mono (Kd.R_bound q0_) (fun k hk => ⟨hk.1, hk.2.1, hk.2.2.1⟩)⟩, hb⟩

end Go.Proofs.Ytodfnelilhjoeaa.Pr
namespace Go.Proofs.Ytodfnelilhjoeaa.Pr
open Go.RowKit Go.Proofs.YtodfnelilhjoeaaW.PrintWords Go.Proofs.Ytodfnelilhjoeaa.Ni
theorem szIntS_f (l : List Int) (hl : l.length ≤ 9223372036854775807) (a : Int) (h0 : 0 ≤ a) (h1 : a ≤ 1048576) : laws_szIntS.f l a = some (if a - l.length < 0 then -1 else a - l.length) := by
 unfold laws_szIntS.f
 rw [wrap_id (by omega) (by omega)]
 split <;> rfl
theorem szNode_f (s : ByteArray) (l : List Int) (n : Int) (hs : s.size ≤ 9223372036854775807) (hl : l.length ≤ 9223372036854775807) (a : Int) (h0 : 0 ≤ a) (h1 : a ≤ 1048576) :
  ∃ r, laws_szNode.f s l n a = some r ∧ (r < 0 ∨ (0 ≤ r ∧ r ≤ a ∧ s.size ≤ 1048576 ∧ l.length ≤ 1048576)) := by
 unfold laws_szNode.f
 rw [wrap_id (by omega) (by omega)]
 by_cases h : a - (s.size : Int) < 0
 ·rw [if_pos h]; exact ⟨_, rfl, .inl (by omega)⟩
 ·rw [if_neg h, szIntS_f l hl _ (by omega) (by omega), Option.bind_some]
  by_cases h2 : a - (s.size : Int) - l.length < 0
  ·rw [if_pos h2, if_pos (by omega)]; exact ⟨_, rfl, .inl (by omega)⟩
  ·rw [if_neg h2, if_neg h2]; exact ⟨_, rfl, .inr ⟨by omega, by omega, by omega, by omega⟩⟩
theorem toNode_f (s : ByteArray) (l : List Int) (n : Int) (hl : l.length ≤ 35184372088832) (k : Nat) (hk : 2 ^ 64 ≤ k) : laws_toNode.f k s l n = some (s, l, n) := by
 unfold laws_toNode.f
 rw [toIntS_f l hl k hk]; rfl
theorem szNodeS_l (l : List LNode) (hl : l.length ≤ 9223372036854775807) (hb : ∀ n ∈ l, n.f0.size ≤ 9223372036854775807 ∧ n.f1.length ≤ 9223372036854775807) (k : Nat) (hk : 2 ^ 64 ≤ k) :
  ∀ a : Int, 0 ≤ a → a ≤ 1048576 → ∃ r, laws_szNodeS.l0 k l a 0 = some r ∧ (r < 0 ∨ (0 ≤ r ∧ r ≤ a ∧ ∀ n ∈ l, n.f0.size ≤ 1048576 ∧ n.f1.length ≤ 1048576)) := by
 have key := loop_up l.length (fun k i => ∀ a : Int, 0 ≤ a → a ≤ 1048576 → ∃ r, laws_szNodeS.l0 k l a (i : Int) = some r ∧ (r < 0 ∨ (0 ≤ r ∧ r ≤ a ∧ ∀ n ∈ l.drop i, n.f0.size ≤ 1048576 ∧ n.f1.length ≤ 1048576))) 0
  (fun k _ a h0 h1 => ⟨a, by simp [laws_szNodeS.l0], .inr ⟨h0, Int.le_refl _, by simp⟩⟩)
  (fun k i _ hi ih a h0 h1 => by
   simp only [laws_szNodeS.l0]
   rw [if_pos (by omega), if_pos (by omega), rdLN_nat, wrap_nat hi (by omega)]
   have hm := hb _ (getD_mem hi z127)
   obtain ⟨r, hr, h⟩ := szNode_f (l.getD i z127).f0 (l.getD i z127).f1 (l.getD i z127).f2 hm.1 hm.2 a h0 h1
   rw [hr, Option.bind_some]
   rcases h with h | ⟨h2, h3, h4, h5⟩
   ·rw [if_pos h]; exact ⟨_, rfl, .inl (by omega)⟩
   ·rw [if_neg (by omega)]
    obtain ⟨q, hq, h⟩ := ih r h2 (by omega)
    refine ⟨q, hq, ?_⟩
    rcases h with h | ⟨h6, h7, h8⟩
    ·exact .inl h
    ·refine .inr ⟨h6, by omega, ?_⟩
     rw [drop_cons hi z127]
     intro n hn
     rcases List.mem_cons.1 hn with rfl | hn
     ·exact ⟨h4, h5⟩
     ·exact h8 n hn) 0 k (Nat.zero_le _) (by omega)
 intro a h0 h1
 simpa using key a h0 h1
theorem szShow_f (ns : List LNode) (ts : List LTie) (z : Int) (hn : ns.length ≤ 9223372036854775807) (hb : ∀ n ∈ ns, n.f0.size ≤ 9223372036854775807 ∧ n.f1.length ≤ 9223372036854775807) (ht : ts.length ≤ 9223372036854775807) (k : Nat) (hk : 2 ^ 64 ≤ k) (a : Int) (h0 : 0 ≤ a) (h1 : a ≤ 1048576) :
  ∃ r, laws_szShow.f k ns ts z a = some r ∧ (r < 0 ∨ (0 ≤ r ∧ r ≤ a ∧ SmallShow ns ts)) := by
 unfold laws_szShow.f laws_szNodeS.f
 rw [wrap_id (by omega) (by omega)]
 by_cases h : a - (ns.length : Int) < 0
 ·rw [if_pos h, Option.bind_some, if_pos (by omega)]; exact ⟨_, rfl, .inl (by omega)⟩
 ·rw [if_neg h]
  obtain ⟨r, hr, h⟩ := szNodeS_l ns hn hb k hk (a - ns.length) (by omega) (by omega)
  rw [hr, Option.bind_some]
  rcases h with h | ⟨h2, h3, h4⟩
  ·rw [if_pos h]; exact ⟨_, rfl, .inl (by omega)⟩
  ·rw [if_neg (by omega)]
   unfold laws_szTieS.f
   rw [wrap_id (by omega) (by omega)]
   by_cases h5 : r - (ts.length : Int) < 0
   ·rw [if_pos h5, Option.bind_some, if_pos (by omega)]; exact ⟨_, rfl, .inl (by omega)⟩
   ·rw [if_neg h5, Option.bind_some, if_neg h5]; exact ⟨_, rfl, .inr ⟨by omega, by omega, by omega, by omega, h4⟩⟩
theorem toNodeS_f (l : List LNode) (hl : l.length ≤ 1048576) (hb : ∀ n ∈ l, n.f0.size ≤ 1048576 ∧ n.f1.length ≤ 1048576) (k : Nat) (hk : 2 ^ 65 ≤ k) : laws_toNodeS.f k l = some (l.map cvN) := by
 have key := loop_up l.length (fun k i => laws_toNodeS.l0 k l ((l.map cvN).take i ++ List.replicate ((l.map cvN).length - i) z116) (i : Int) = some (l.map cvN)) (2 ^ 64)
  (fun k _ => by simp [laws_toNodeS.l0]; rw [List.take_of_length_le (by simp)])
  (fun k i hk hi ih => by
   simp only [laws_toNodeS.l0]
   have hm := hb _ (getD_mem hi z127)
   rw [if_pos (by omega), if_pos (by omega), rdLN_nat, toNode_f _ _ _ (by omega) k hk, Option.bind_some, if_pos (by simp; omega), wrap_nat hi (by omega), Int.toNat_natCast, set_step (l.map cvN) _ z116 i (by simpa using hi) _ (by rw [getD_map cvN l i z127 z116 zN]; rfl)]
   exact ih) 0 k (Nat.zero_le _) (by omega)
 unfold laws_toNodeS.f
 rw [if_pos (by omega), if_pos (by omega), Int.toNat_natCast]
 simpa using key
theorem toTieS_f (l : List LTie) (hl : l.length ≤ 1048576) (k : Nat) (hk : 2 ^ 64 ≤ k) : laws_toTieS.f k l = some (l.map cvT) := by
 have key := loop_up l.length (fun k i => laws_toTieS.l0 k l ((l.map cvT).take i ++ List.replicate ((l.map cvT).length - i) z90) (i : Int) = some (l.map cvT)) 0
  (fun k _ => by simp [laws_toTieS.l0]; rw [List.take_of_length_le (by simp)])
  (fun k i hk hi ih => by
   simp only [laws_toTieS.l0, laws_toTie.f]
   rw [if_pos (by omega), if_pos (by omega), rdLT_nat, Option.bind_some, if_pos (by simp; omega), wrap_nat hi (by omega), Int.toNat_natCast, set_step (l.map cvT) _ z90 i (by simpa using hi) _ (by rw [getD_map cvT l i z130 z90 zT]; rfl)]
   exact ih) 0 k (Nat.zero_le _) (by omega)
 unfold laws_toTieS.f
 rw [if_pos (by omega), if_pos (by omega), Int.toNat_natCast]
 simpa using key
theorem toShow_f (ns : List LNode) (ts : List LTie) (z : Int) (h : SmallShow ns ts) (k : Nat) (hk : 2 ^ 65 ≤ k) : laws_toShow.f k ns ts z = some (ns.map cvN, ts.map cvT, z) := by
 unfold laws_toShow.f
 rw [toNodeS_f ns h.1 h.2.2 k hk, Option.bind_some, toTieS_f ts h.2.1 k (by omega)]; rfl
theorem szChoice_f (t v : List Int) (ht : t.length ≤ 9223372036854775807) (hv : v.length ≤ 9223372036854775807) (a : Int) (h0 : 0 ≤ a) (h1 : a ≤ 1048576) :
  ∃ r, laws_szChoice.f t v a = some r ∧ (r < 0 ∨ (0 ≤ r ∧ r ≤ a ∧ t.length ≤ 1048576 ∧ v.length ≤ 1048576)) := by
 unfold laws_szChoice.f
 rw [szIntS_f t ht a h0 h1, Option.bind_some]
 by_cases h : a - (t.length : Int) < 0
 ·rw [if_pos h, if_pos (by omega)]; exact ⟨_, rfl, .inl (by omega)⟩
 ·rw [if_neg h, if_neg h, szIntS_f v hv _ (by omega) (by omega), Option.bind_some]
  by_cases h2 : a - (t.length : Int) - v.length < 0
  ·rw [if_pos h2, if_pos (by omega)]; exact ⟨_, rfl, .inl (by omega)⟩
  ·rw [if_neg h2, if_neg h2]; exact ⟨_, rfl, .inr ⟨by omega, by omega, by omega, by omega⟩⟩
theorem toChoice_f (t v : List Int) (ht : t.length ≤ 35184372088832) (hv : v.length ≤ 35184372088832) (k : Nat) (hk : 2 ^ 64 ≤ k) : laws_toChoice.f k t v = some (t, v) := by
 unfold laws_toChoice.f
 rw [toIntS_f t ht k hk, Option.bind_some, toIntS_f v hv k hk]; rfl
theorem idx_at {α : Type} (p : α → Bool) (l : List α) (i : Nat) (x : α) (h : l[i]? = some x) (hx : p x = true) : decide (idxOf p l = (i : Int)) = (l.take i).all (fun y => !p y) := by
 have hi : i < l.length := by
  rcases Nat.lt_or_ge i l.length with h' | h'
  ·exact h'
  ·rw [List.getElem?_eq_none h'] at h; exact absurd h (by simp)
 by_cases ha : (l.take i).all (fun y => !p y) = true
 ·rw [ha, decide_eq_true_eq]
  refine idxOf_hit p l i x h hx fun j y hj hy => ?_
  have := List.all_eq_true.1 ha y (List.mem_of_getElem? (i := j) (by rw [List.getElem?_take_of_lt hj]; exact hy))
  simpa using this
 ·rw [Bool.eq_false_iff.2 ha, decide_eq_false_iff_not]
  intro e
  apply ha
  rw [List.all_eq_true]
  intro y hy
  obtain ⟨j, hj, rfl⟩ := List.mem_iff_getElem.1 hy
  have hj' : j < i := by rw [List.length_take] at hj; omega
  unfold idxOf at e
  cases hf : l.findIdx? p with
  | none => rw [hf] at e; simp only at e; omega
  | some m =>
   rw [hf] at e
   have : m = i := by simp only at e; omega
   subst this
   obtain ⟨_, _, h3⟩ := List.findIdx?_eq_some_iff_getElem.1 hf
   have := h3 j hj'
   rw [List.getElem_take]
   simpa using this
theorem all_pair {α : Type} (a b : α → Bool) (c : Bool) (l : List α) : l.all (fun m => a m && (c || b m)) = (l.all a && (c || l.all b)) := by
 induction l with
 | nil => simp
 | cons x l ih => rw [List.all_cons, List.all_cons, List.all_cons, ih]; cases a x <;> cases b x <;> cases c <;> simp
theorem bne_dec (a b : Int) : (!(a != b)) = decide (a = b) := by rw [Bool.eq_iff_iff]; simp
theorem snodeC_at {ns : List PNode} {i : Nat} (h : i < ns.length) : snodeC ns (rd_T116 ns (i : Int)) i = nodeAt ns i := by
 rw [rdN_nat]
 unfold snodeC nodeAt
 have hs := getD_some h z116
 generalize ns.getD i z116 = y at hs
 rw [bne_dec, bne_dec, bne_dec, namedI, watchI, idx_at _ ns i y hs (decide_eq_true rfl), idx_at _ ns i y hs (decide_eq_true rfl), Bool.and_assoc, ← all_pair]
 rfl
theorem snodes_from {ns : List PNode} : ∀ (d i : Nat), i + d = ns.length → snodesFrom ns i d = nodesFrom ns i d
 | 0, _, _ => rfl
 | d + 1, i, h => by rw [snodesFrom, nodesFrom, snodeC_at (by omega), snodes_from d (i + 1) (by omega)]
theorem watch_same (ns : List PNode) {p : Int} (hp : 0 < p) : pwatchI ns p = watchI ns p := by
 unfold pwatchI watchI
 rw [decide_eq_true hp]
 simp only [Bool.true_and]
theorem watched_same (ns : List PNode) (lb : List Int) {x : Int} (hx : litOk x = true) : watchedB ns lb x = swatchB ns lb x := by
 unfold watchedB watchedC swatchB swatchC hasB
 rw [watch_same ns (by have := prp_pos hx; omega)]
 congr 3
 rw [Bool.eq_iff_iff]; simp
theorem nodeW_same {ns : List PNode} {n : PNode} (h : ∀ x ∈ n.f1, litOk x = true) : nodeW ns n = snodeW ns n := by
 unfold nodeW snodeW
 rw [Bool.eq_iff_iff, Bool.not_eq_true', List.any_eq_false, List.all_eq_true]
 constructor
 ·intro hh x hx
  have := hh x hx
  rw [← watched_same ns _ (h x hx)]; simpa using this
 ·intro hh x hx
  have := hh x hx
  rw [← watched_same ns _ (h x hx)] at this; simpa using this
theorem nodes_same (ns : List PNode) : snodesB ns = (areNodesB ns && ns.all (nodeW ns)) := by
 have e : snodesB ns = (areNodesB ns && ns.all (snodeW ns)) := by
  unfold snodesB areNodesB inB
  rw [snodes_from ns.length 0 (by omega), bne_dec, show rd_T116 ns 0 = ns.getD 0 z116 from rdN_nat ns 0]
  rw [show (decide ((1 : Int) ≤ (ns.length : Int)) && decide ((ns.length : Int) ≤ 7)) = (decide (1 ≤ ns.length) && decide (ns.length ≤ 7)) by rw [Bool.eq_iff_iff]; simp only [Bool.and_eq_true, decide_eq_true_eq]; omega]
  rw [show (!(decide (((ns.getD 0 z116).f1.length : Int) > 0))) = decide ((ns.getD 0 z116).f1.length = 0) by rw [Bool.eq_iff_iff]; simp only [Bool.not_eq_true', decide_eq_true_eq, decide_eq_false_iff_not]; omega]
 rw [e]
 cases h : areNodesB ns with
 | false => rfl
 | true =>
  rw [Bool.true_and, Bool.true_and, Bool.eq_iff_iff, List.all_eq_true, List.all_eq_true]
  constructor
  ·intro hh n hn; rw [nodeW_same (areNodesB_lit h n hn)]; exact hh n hn
  ·intro hh n hn; rw [← nodeW_same (areNodesB_lit h n hn)]; exact hh n hn
def stiesFrom (ns : List PNode) (ts : List PTie) (i : Nat) : Nat → Bool
 | 0 => true
 | d + 1 => tieB ns ts i && stiesFrom ns ts (i + 1) d
theorem in_same (n : Nat) (x : Int) : inB x 0 ((n : Int) - 1) = nodeIn n x := by
 unfold inB nodeIn
 rw [Bool.eq_iff_iff]; simp; omega
theorem tie_same {ns : List PNode} {ts : List PTie} {i : Nat} (h : i < ts.length) : tieB ns ts i = ptieB ns ts i := by
 unfold tieB ptieB
 have hs := getD_some h z90
 rw [rdT_nat]
 generalize ts.getD i z90 = t at hs
 obtain ⟨tf, tt, tl, th, tb⟩ := t
 show tieC tf tt tl th tb ns ts i = ptieC tf tt tl th tb ns ts i
 unfold tieC ptieC spanB
 rw [in_same, in_same]
 cases tb with
 | false =>
  rw [Bool.eq_iff_iff]
  simp only [Bool.not_false, Bool.true_or, Bool.and_true, Bool.and_eq_true, Bool.not_eq_true', beq_eq_false_iff_ne, decide_eq_true_eq, decide_eq_false_iff_not]
  constructor
  ·rintro ⟨⟨⟨⟨⟨a1, a2⟩, a3⟩, a4⟩, a5⟩, a6⟩
   exact ⟨⟨⟨⟨⟨a1, a2⟩, a3⟩, by omega, by omega⟩, by omega, by omega⟩, a6⟩
  ·rintro ⟨⟨⟨⟨⟨a1, a2⟩, a3⟩, a4, a5⟩, a6, a7⟩, a8⟩
   exact ⟨⟨⟨⟨⟨a1, a2⟩, a3⟩, by omega⟩, by omega⟩, a8⟩
 | true =>
  have hf : (freeI ts tt == (i : Int)) = !((ts.take i).any fun u => u.f4 && decide (u.f1 = tt)) := by
   rw [show (freeI ts tt == (i : Int)) = decide (freeI ts tt = (i : Int)) by rw [Bool.eq_iff_iff]; simp, freeI, idx_at _ ts i _ hs (by simp), Bool.eq_iff_iff]
   simp
   exact forall_congr' fun x => forall_congr' fun _ => by cases x.f4 <;> simp
  rw [hf]
  rw [Bool.eq_iff_iff]
  simp only [Bool.not_true, Bool.false_or, Bool.and_eq_true, Bool.not_eq_true', beq_eq_false_iff_ne, decide_eq_true_eq, decide_eq_false_iff_not, beq_iff_eq, bne_eq_false_iff_eq]
  constructor
  ·rintro ⟨⟨⟨⟨⟨⟨a1, a2⟩, a3⟩, a4⟩, a5⟩, a6⟩, ⟨⟨⟨⟨b1, b2⟩, b3⟩, b4⟩, b5⟩⟩
   exact ⟨⟨⟨⟨⟨⟨a1, a2⟩, a3⟩, by omega, by omega⟩, by omega, by omega⟩, a6⟩, ⟨⟨⟨⟨by omega, b2⟩, b3⟩, b4.symm⟩, b5⟩⟩
  ·rintro ⟨⟨⟨⟨⟨⟨a1, a2⟩, a3⟩, a4, a5⟩, a6, a7⟩, a8⟩, ⟨⟨⟨⟨b1, b2⟩, b3⟩, b4⟩, b5⟩⟩
   exact ⟨⟨⟨⟨⟨⟨a1, a2⟩, a3⟩, by omega⟩, by omega⟩, a8⟩, ⟨⟨⟨⟨by omega, b2⟩, b3⟩, b4.symm⟩, b5⟩⟩
theorem ties_from {ns : List PNode} {ts : List PTie} : ∀ (d i : Nat), i + d = ts.length → stiesFrom ns ts i d = tiesFrom ns ts i d
 | 0, _, _ => rfl
 | d + 1, i, h => by rw [stiesFrom, tiesFrom, tie_same (by omega), ties_from d (i + 1) (by omega)]
theorem spec_ShowOk_l (ns : List PNode) (ts : List PTie) (z : Int) (ht : ts.length ≤ 14) : ∀ (d i k : Nat), i + d = ts.length → d < k → spec_ShowOk.l0 k ts.length (i : Int) ns ts z = some (stiesFrom ns ts i d) := by
 intro d
 induction d with
 | zero =>
  intro i k hi hk
  obtain ⟨m, rfl⟩ : ∃ m, k = m + 1 := ⟨k - 1, by omega⟩
  simp only [spec_ShowOk.l0]
  rw [if_neg (by omega)]; rfl
 | succ d ih =>
  intro i k hi hk
  obtain ⟨m, rfl⟩ : ∃ m, k = m + 1 := ⟨k - 1, by omega⟩
  simp only [spec_ShowOk.l0]
  rw [if_pos (by omega), spec_l08Tie.f, if_pos (by omega), Option.bind_some, stiesFrom, wrap_nat (n := ts.length) (by omega) (by omega), ih (i + 1) m (by omega) (by omega)]
  cases tieB ns ts i <;> rfl
theorem spec_ShowOk_f (ns : List PNode) (ts : List PTie) (z : Int) (hf : fitN ns = true) (k : Nat) (hk : 2 ^ 64 ≤ k) : spec_ShowOk.f k ns ts z = some (pshowB ns ts z) := by
 obtain ⟨m, rfl⟩ : ∃ m, k = m + 1 := ⟨k - 1, by omega⟩
 unfold spec_ShowOk.f spec_l08Nodes.f pshowB areTiesB
 rw [if_pos hf, Option.bind_some, nodes_same]
 simp only [spec_ShowOk.j0, l01In_f, Option.bind_some, if_true]
 cases h1 : areNodesB ns with
 | false => rfl
 | true =>
  cases h2 : ns.all (nodeW ns) with
  | false => simp
  | true =>
   rw [Bool.and_true, if_pos rfl]
   by_cases h3 : (ts.length : Int) > 14
   ·rw [if_pos h3, decide_eq_false (show ¬ ts.length ≤ 14 by omega)]; simp
   ·rw [if_neg h3, decide_eq_true (show ts.length ≤ 14 by omega)]
    have hl := spec_ShowOk_l ns ts z (by omega) ts.length 0 m (by omega) (by omega)
    rw [show ((0 : Nat) : Int) = 0 from rfl] at hl
    rw [hl, ties_from _ _ (by omega)]
    by_cases h4 : z < 1
    ·rw [show inB z 1 10 = false by unfold inB; rw [decide_eq_false (show ¬ (1 : Int) ≤ z by omega)]; rfl, decide_eq_true h4]; simp
    ·by_cases h5 : 10 < z
     ·rw [show inB z 1 10 = false by unfold inB; rw [decide_eq_false (show ¬ z ≤ (10 : Int) by omega)]; simp, decide_eq_true h5]; simp
     ·rw [show inB z 1 10 = true by unfold inB; rw [decide_eq_true (show (1 : Int) ≤ z by omega), decide_eq_true (show z ≤ (10 : Int) by omega)]; rfl, decide_eq_false h4, decide_eq_false h5]; simp
theorem fitN_of {ns : List PNode} {ts : List PTie} (h : SmallP ns ts) : fitN ns = true := by
 unfold fitN
 rw [List.all_eq_true]
 intro n hn
 have := h.2.2 n hn
 simp; omega
theorem impl_ShowOk_f {ns : List PNode} {ts : List PTie} {z : Int} (hf : fitN ns = true) : impl_ShowOk.f ns ts z = some (pshowB ns ts z) := by
 unfold impl_ShowOk.f
 rw [if_pos hf]
theorem pshowB_nodes {ns : List PNode} {ts : List PTie} {z : Int} (h : pshowB ns ts z = true) : areNodesB ns = true := by
 unfold pshowB at h
 simp only [Bool.and_eq_true] at h
 exact h.1.1.1.1
theorem pshowB_ties {ns : List PNode} {ts : List PTie} {z : Int} (h : pshowB ns ts z = true) : areTiesB ns ts = true := by
 unfold pshowB at h
 simp only [Bool.and_eq_true] at h
 exact h.1.1.1.2
theorem nodes_watch {ns : List PNode} (h : areNodesB ns = true) : ∀ n ∈ ns, 0 ≤ n.f2 ∧ n.f2 ≤ 3 := by
 intro n hn
 obtain ⟨j, hj, rfl⟩ := List.mem_iff_getElem.1 hn
 have := areNodesB_at h j hj
 unfold nodeAt nodeB at this
 rw [show ns.getD j z116 = ns[j] by rw [List.getD_eq_getElem?_getD, List.getElem?_eq_getElem hj]; rfl] at this
 simp only [Bool.and_eq_true, decide_eq_true_eq] at this
 exact this.1.2
theorem pwatch_out {ns : List PNode} (h : areNodesB ns = true) {p : Int} (hp : ¬ (1 ≤ p ∧ p ≤ 3)) : pwatchI ns p = -1 := by
 unfold pwatchI
 refine idxOf_miss _ _ fun j y _ hy => ?_
 have := nodes_watch h y (List.mem_of_getElem? hy)
 rw [Bool.eq_false_iff]
 intro hh
 simp only [Bool.and_eq_true, decide_eq_true_eq] at hh
 omega
theorem pig : ∀ (n : Nat) (l : List Int), l.Nodup → (∀ x ∈ l, 0 ≤ x ∧ x < n) → l.length ≤ n
 | 0, l, _, h => by
  cases l with
  | nil => exact Nat.le_refl _
  | cons x l => have := h x (by simp); omega
 | n + 1, l, hn, h => by
  have h1 := pig n (l.erase (n : Int)) (hn.sublist (List.erase_sublist ..)) (fun x hx => by
   have := (hn.mem_erase_iff).1 hx
   have h2 := h x this.2
   omega)
  rw [List.length_erase] at h1
  split at h1 <;> omega
theorem idxOf_in {α : Type} (p : α → Bool) (l : List α) (d : α) (h : 0 ≤ idxOf p l) : idxOf p l < l.length ∧ p (l.getD (idxOf p l).toNat d) = true := by
 unfold idxOf at h ⊢
 cases hf : l.findIdx? p with
 | none => rw [hf] at h; simp only at h; omega
 | some m =>
  obtain ⟨h1, h2, _⟩ := List.findIdx?_eq_some_iff_getElem.1 hf
  simp only [Int.toNat_natCast]
  refine ⟨by omega, ?_⟩
  rw [List.getD_eq_getElem?_getD, List.getElem?_eq_getElem h1]; exact h2
theorem pfree_in {ts : List PTie} {n : Int} (h : 0 ≤ pfreeI ts n) : pfreeI ts n < ts.length ∧ (rd_T90 ts (pfreeI ts n)).f4 = true ∧ (rd_T90 ts (pfreeI ts n)).f1 = n := by
 have := idxOf_in (fun t : PTie => t.f4 && decide (t.f1 = n)) ts z90 h
 refine ⟨this.1, ?_⟩
 have h2 := this.2
 simp only [Bool.and_eq_true, decide_eq_true_eq] at h2
 exact h2
theorem tiesFrom_at {ns : List PNode} {ts : List PTie} : ∀ (d i : Nat), tiesFrom ns ts i d = true → ∀ j, i ≤ j → j < i + d → ptieB ns ts j = true
 | 0, i, _, j, h1, h2 => by omega
 | d + 1, i, h, j, h1, h2 => by
  rw [tiesFrom, Bool.and_eq_true] at h
  by_cases e : j = i
  ·rw [e]; exact h.1
  ·exact tiesFrom_at d (i + 1) h.2 j (by omega) (by omega)
theorem areTiesB_at {ns : List PNode} {ts : List PTie} (h : areTiesB ns ts = true) : ∀ j, j < ts.length → ptieB ns ts j = true := by
 unfold areTiesB at h
 rw [Bool.and_eq_true] at h
 exact fun j hj => tiesFrom_at _ _ h.1 j (Nat.zero_le _) (by omega)
theorem free_to {ns : List PNode} {ts : List PTie} (h : areTiesB ns ts = true) {j : Int} (h0 : 0 ≤ j) (h1 : j < ts.length) (hf : (rd_T90 ts j).f4 = true) : 1 ≤ (rd_T90 ts j).f1 ∧ (rd_T90 ts j).f1 < ns.length := by
 obtain ⟨m, rfl⟩ := Int.eq_ofNat_of_zero_le h0
 have := areTiesB_at h m (by omega)
 unfold ptieB ptieC at this
 rw [hf] at this
 simp only [nodeIn, Bool.and_eq_true, Bool.not_true, Bool.false_or, decide_eq_true_eq, Bool.not_eq_true', beq_eq_false_iff_ne] at this
 obtain ⟨⟨⟨⟨⟨⟨_, a⟩, _⟩, _⟩, _⟩, _⟩, ⟨⟨⟨⟨_, b⟩, _⟩, _⟩, _⟩⟩ := this
 omega
structure Chn (ts : List PTie) (node : Int) (c : List Int) : Prop where
 nodup : c.Nodup
 ok : ∀ j ∈ c, 0 ≤ j ∧ j < ts.length ∧ (rd_T90 ts j).f4 = true ∧ pfreeI ts (rd_T90 ts j).f1 = j
 cl : ∀ j ∈ c, (rd_T90 ts j).f0 = node ∨ ∃ i ∈ c, (rd_T90 ts j).f0 = (rd_T90 ts i).f1
theorem Chn.len {ns : List PNode} {ts : List PTie} {node : Int} {c : List Int} (ht : areTiesB ns ts = true) (h1 : 1 ≤ ns.length) (h : Chn ts node c) : c.length + 1 ≤ ns.length := by
 have := pig ns.length (0 :: c.map fun j => (rd_T90 ts j).f1) (by
  rw [List.nodup_cons]
  refine ⟨fun hm => ?_, ?_⟩
  ·obtain ⟨j, hj, e⟩ := List.mem_map.1 hm
   have h2 := h.ok j hj
   have := free_to ht h2.1 h2.2.1 h2.2.2.1
   omega
  ·unfold List.Nodup
   rw [List.pairwise_map]
   refine h.nodup.imp_of_mem ?_
   intro a b ha hb hab e
   apply hab
   rw [← (h.ok a ha).2.2.2, ← (h.ok b hb).2.2.2, e]) (by
  intro x hx
  rcases List.mem_cons.1 hx with rfl | hx
  ·omega
  ·obtain ⟨j, hj, rfl⟩ := List.mem_map.1 hx
   have h2 := h.ok j hj
   have := free_to ht h2.1 h2.2.1 h2.2.2.1
   omega)
 simpa using this
def sLo (ts : List PTie) (c : List Int) : Int := c.foldl (fun a j => wrap64 (a + (rd_T90 ts j).f2)) 0
def sHi (ts : List PTie) (c : List Int) : Int := c.foldl (fun a j => wrap64 (a + (rd_T90 ts j).f3)) 0
theorem sLo_snoc (ts : List PTie) (c : List Int) (j : Int) : sLo ts (c ++ [j]) = wrap64 (sLo ts c + (rd_T90 ts j).f2) := by unfold sLo; rw [List.foldl_append]; rfl
theorem sHi_snoc (ts : List PTie) (c : List Int) (j : Int) : sHi ts (c ++ [j]) = wrap64 (sHi ts c + (rd_T90 ts j).f3) := by unfold sHi; rw [List.foldl_append]; rfl
theorem base_out {ns : List PNode} {ts : List PTie} {z : Int} (hn : ns.length ≤ 1048576) (hl : ts.length ≤ 9223372036854775807) {c : List Int} (hok : ∀ j ∈ c, 0 ≤ j ∧ j < ts.length ∧ (rd_T90 ts j).f4 = true ∧ pfreeI ts (rd_T90 ts j).f1 = j)
  (hcl : ∀ j ∈ c, ∃ i ∈ c, (rd_T90 ts j).f0 = (rd_T90 ts i).f1) : ∀ (e n : Nat) (lo hi : Int) (k : Nat), (∀ j ∈ c, n + e = ns.length + 1 → 2 ^ 64 + e < k → spec_l12Base.l0 k (rd_T90 ts j).f1 lo hi (n : Int) ns ts z = some (-1, 0, 0, false)) := by
 intro e
 induction e with
 | zero =>
  intro n lo hi k j _ hne hk
  obtain ⟨m, rfl⟩ : ∃ m, k = m + 1 := ⟨k - 1, by omega⟩
  simp only [spec_l12Base.l0]
  rw [if_neg (by omega)]
 | succ e ih =>
  intro n lo hi k j hj hne hk
  obtain ⟨m, rfl⟩ : ∃ m, k = m + 1 := ⟨k - 1, by omega⟩
  simp only [spec_l12Base.l0]
  obtain ⟨h0, h1, _, h3⟩ := hok j hj
  obtain ⟨i, hi', e1⟩ := hcl j hj
  rw [if_pos (by omega), l08Free_f ns ts z _ hl m (by omega), Option.bind_some, show freeI ts (rd_T90 ts j).f1 = j from h3, if_neg (by omega), if_pos h0, if_pos h1, e1, wrap_nat (n := ns.length + 1) (by omega) (by omega)]
  exact ih (n + 1) _ _ m i hi' (by omega) (by omega)
theorem chain_run {ns : List PNode} {ts : List PTie} {z : Int} (ht : areTiesB ns ts = true) (h1 : 1 ≤ ns.length) (hn : ns.length ≤ 1048576) (hl : ts.length ≤ 1048576) : ∀ (d : Nat) (node : Int) (c : List Int) (k : Nat), Chn ts node c → ns.length ≤ c.length + d → 2 ^ 65 + d < k →
  ∃ b c', impl_chainOf.l0 k node c ns ts z = some (b, c') ∧ (∀ j ∈ c', 0 ≤ j ∧ j < ts.length) ∧ c'.length ≤ ns.length ∧
   (spec_l12Base.l0 k node (sLo ts c) (sHi ts c) c.length ns ts z = some (b, sLo ts c', sHi ts c', true) ∨ (b = -1 ∧ c' = [] ∧ spec_l12Base.l0 k node (sLo ts c) (sHi ts c) c.length ns ts z = some (-1, 0, 0, false))) := by
 intro d
 induction d with
 | zero =>
  intro node c k hc hd _
  have := hc.len ht h1
  omega
 | succ d ih =>
  intro node c k hc hd hk
  have hcl := hc.len ht h1
  obtain ⟨m, rfl⟩ : ∃ m, k = m + 1 := ⟨k - 1, by omega⟩
  simp only [impl_chainOf.l0, spec_l12Base.l0]
  rw [if_pos (by omega), l08Free_f ns ts z node (by omega) m (by omega)]
  unfold impl_freeTie.f
  rw [Option.bind_some, Option.bind_some, show freeI ts node = pfreeI ts node from rfl]
  have hin := @pfree_in ts node
  generalize hfk : pfreeI ts node = fk at hin
  by_cases h0 : fk < 0
  ·rw [if_pos h0, if_pos h0]
   exact ⟨node, c, rfl, fun j hj => ⟨(hc.ok j hj).1, (hc.ok j hj).2.1⟩, by omega, .inl rfl⟩
  ·obtain ⟨h2, h3, h4⟩ := hin (by omega)
   rw [if_neg h0, if_neg h0]
   unfold slices_Contains_int_int.f
   rw [Option.bind_some, if_pos (show 0 ≤ fk by omega), if_pos h2]
   by_cases hm : fk ∈ c
   ·rw [if_pos (by rw [List.any_eq_true]; exact ⟨fk, hm, by simp⟩)]
    refine ⟨-1, [], rfl, fun j hj => by simp at hj, by simp, .inr ⟨rfl, rfl, ?_⟩⟩
    have hcc : ∀ j ∈ c, ∃ i ∈ c, (rd_T90 ts j).f0 = (rd_T90 ts i).f1 := fun j hj => by
     rcases hc.cl j hj with e | e
     ·exact ⟨fk, hm, by rw [e, h4]⟩
     ·exact e
    obtain ⟨i, hi, e1⟩ := hcc fk hm
    rw [if_pos (show 0 ≤ fk by omega), if_pos h2, e1, wrap_nat (n := ns.length) (by omega) (by omega)]
    exact base_out hn (by omega) hc.ok hcc (ns.length - c.length) (c.length + 1) _ _ m i hi (by omega) (by omega)
   ·rw [if_neg (by rw [List.any_eq_true]; rintro ⟨x, hx, e⟩; exact hm (by have := of_decide_eq_true e; rw [this]; exact hx)), if_pos (by omega), if_pos (show 0 ≤ fk by omega), if_pos h2]
    have hc2 : Chn ts (rd_T90 ts fk).f0 (c ++ [fk]) := by
     refine ⟨?_, ?_, ?_⟩
     ·rw [List.nodup_append]
      exact ⟨hc.nodup, by simp, fun a ha b hb => by rw [List.mem_singleton] at hb; subst hb; exact fun e => hm (e ▸ ha)⟩
     ·intro j hj
      rcases List.mem_append.1 hj with hj | hj
      ·exact hc.ok j hj
      ·rw [List.mem_singleton] at hj
       subst hj
       exact ⟨by omega, h2, h3, by rw [h4, hfk]⟩
     ·intro j hj
      rcases List.mem_append.1 hj with hj | hj
      ·rcases hc.cl j hj with e | ⟨i, hi, e⟩
       ·exact .inr ⟨fk, by simp, by rw [e, h4]⟩
       ·exact .inr ⟨i, by simp [hi], e⟩
      ·rw [List.mem_singleton] at hj
       subst hj
       exact .inl rfl
    have := ih (rd_T90 ts fk).f0 (c ++ [fk]) m hc2 (by simp; omega) (by omega)
    rw [sLo_snoc, sHi_snoc, show ((c ++ [fk]).length : Int) = wrap64 ((c.length : Int) + 1) by rw [wrap_nat (n := ns.length) (by omega) (by omega)]; simp] at this
    exact this
def freeTo (ts : List PTie) (n : Nat) : List Int := ((List.range n).filter fun i => (ts.getD i z90).f4).map fun i : Nat => (i : Int)
def freeIx (ts : List PTie) : List Int := freeTo ts ts.length
theorem freeTo_succ (ts : List PTie) (n : Nat) : freeTo ts (n + 1) = if (ts.getD n z90).f4 = true then freeTo ts n ++ [(n : Int)] else freeTo ts n := by
 unfold freeTo
 rw [List.range_succ, List.filter_append, List.map_append]
 by_cases h : (ts.getD n z90).f4 = true
 ·rw [if_pos h, List.filter_cons_of_pos (by simpa using h)]; rfl
 ·rw [if_neg h, List.filter_cons_of_neg (by simpa using h)]; simp
theorem freeTo_len (ts : List PTie) (n : Nat) : (freeTo ts n).length ≤ n := by
 unfold freeTo
 rw [List.length_map]
 exact Nat.le_trans (List.length_filter_le _ _) (by simp)
theorem freeIx_len (ts : List PTie) : (freeIx ts).length ≤ ts.length := freeTo_len ts ts.length
theorem freeIx_in {ts : List PTie} {x : Int} (h : x ∈ freeIx ts) : 0 ≤ x ∧ x < ts.length := by
 unfold freeIx freeTo at h
 obtain ⟨i, hi, rfl⟩ := List.mem_map.1 h
 have := List.mem_range.1 (List.mem_filter.1 hi).1
 omega
theorem freeTies_f (ns : List PNode) (ts : List PTie) (z : Int) (hl : ts.length ≤ 1048576) (k : Nat) (hk : 2 ^ 64 ≤ k) : impl_freeTies.f k ns ts z = some (freeIx ts) := by
 have key := loop_up ts.length (fun k i => impl_freeTies.l0 k (freeTo ts i) ts ts.length (i : Int) = some (freeIx ts)) 0
  (fun k _ => by
   simp only [impl_freeTies.l0]
   rw [if_neg (by omega)]; rfl)
  (fun k i _ hi ih => by
   simp only [impl_freeTies.l0]
   have := freeTo_len ts i
   rw [freeTo_succ] at ih
   rw [if_pos (by omega), if_pos (by omega), if_pos (by omega), rdT_nat, wrap_nat hi (by omega)]
   by_cases h : (ts.getD i z90).f4 = true
   ·rw [if_pos h, if_pos (by omega)]; rw [if_pos h] at ih; exact ih
   ·rw [if_neg h]; rw [if_neg h] at ih; exact ih) 0 k (Nat.zero_le _) (by omega)
 unfold impl_freeTies.f
 exact key
theorem l10Free_f (ns : List PNode) (ts : List PTie) (z : Int) (hl : ts.length ≤ 1048576) (k : Nat) (hk : 2 ^ 64 ≤ k) : spec_l10Free.f k ns ts z = some (freeIx ts) := by
 have key := loop_up ts.length (fun k i => spec_l10Free.l0 k (freeTo ts i) ts ts.length (i : Int) = some (freeIx ts)) 0
  (fun k _ => by
   simp only [spec_l10Free.l0]
   rw [if_neg (by omega)]; rfl)
  (fun k i _ hi ih => by
   simp only [spec_l10Free.l0]
   have := freeTo_len ts i
   rw [freeTo_succ] at ih
   rw [if_pos (by omega), if_pos (by omega), if_pos (by omega), rdT_nat, wrap_nat hi (by omega)]
   by_cases h : (ts.getD i z90).f4 = true
   ·rw [if_pos h, if_pos (by omega)]; rw [if_pos h] at ih; exact ih
   ·rw [if_neg h]; rw [if_neg h] at ih; exact ih) 0 k (Nat.zero_le _) (by omega)
 unfold spec_l10Free.f
 exact key
def valAt (ns : List PNode) (i : Nat) (v : Int) : Bool := decide (v = 1) || (decide (v = -1) && decide (0 ≤ pwatchI ns ((i + 1 : Nat) : Int)))
def valsFrom (ns : List PNode) : Nat → List Int → Bool
 | _, [] => true
 | i, v :: t => valAt ns i v && valsFrom ns (i + 1) t
def lensFrom (ts : List PTie) : List Int → List Int → Bool
 | k :: L, n :: l => (decide ((rd_T90 ts k).f2 ≤ n) && decide (n ≤ (rd_T90 ts k).f3)) && lensFrom ts L l
 | _, _ => true
def isChoiceB (ns : List PNode) (ts : List PTie) (ln vs : List Int) : Bool := decide (ln.length = (freeIx ts).length) && (decide (vs.length = 3) && (lensFrom ts (freeIx ts) ln && valsFrom ns 0 vs))
def choiceB (ns : List PNode) (ts : List PTie) (z : Int) (ln vs : List Int) : Bool := pshowB ns ts z && isChoiceB ns ts ln vs
theorem impl_ch_l1 (ns : List PNode) (ts : List PTie) (z : Int) (vs : List Int) (hl : vs.length ≤ 1048576) (k : Nat) (hk : 2 ^ 64 ≤ k) : impl_isChoice.l1 k vs (vs.length : Int) 0 ns ts z = some (valsFrom ns 0 vs) := by
 have key := loop_up vs.length (fun k i => impl_isChoice.l1 k vs (vs.length : Int) (i : Int) ns ts z = some (valsFrom ns i (vs.drop i))) 0
  (fun k _ => by
   simp only [impl_isChoice.l1]
   rw [if_neg (by omega), List.drop_length]; rfl)
  (fun k i _ hi ih => by
   simp only [impl_isChoice.l1, impl_watcher.f, Option.bind_some]
   rw [if_pos (by omega), if_pos (by omega), if_pos (by omega), rd_nat, wrap_nat hi (by omega), drop_cons hi 0, valsFrom, ih]
   unfold valAt
   generalize vs.getD i 0 = v
   by_cases h1 : v = 1
   ·rw [if_pos h1, if_neg (by omega), decide_eq_true h1]; rfl
   ·rw [if_neg h1, decide_eq_false h1, Bool.false_or]
    by_cases h2 : v = -1
    ·rw [if_pos h2, decide_eq_true h2, Bool.true_and]
     by_cases h3 : pwatchI ns ((i + 1 : Nat) : Int) < 0
     ·rw [if_pos h3, decide_eq_false (show ¬ (0 : Int) ≤ _ by omega)]; rfl
     ·rw [if_neg h3, decide_eq_true (show (0 : Int) ≤ _ by omega)]; rfl
    ·rw [if_neg h2, decide_eq_false h2]; rfl) 0 k (Nat.zero_le _) (by omega)
 simpa using key
theorem spec_ch_l1 (ns : List PNode) (ts : List PTie) (z : Int) (vs : List Int) (hn : ns.length ≤ 1048576) (hl : vs.length ≤ 1048576) (k : Nat) (hk : 2 ^ 65 ≤ k) : spec_ChoiceOk.l1 k vs (vs.length : Int) 0 ns ts z = some (valsFrom ns 0 vs) := by
 have key := loop_up vs.length (fun k i => spec_ChoiceOk.l1 k vs (vs.length : Int) (i : Int) ns ts z = some (valsFrom ns i (vs.drop i))) (2 ^ 64)
  (fun k _ => by
   simp only [spec_ChoiceOk.l1]
   rw [if_neg (by omega), List.drop_length]; rfl)
  (fun k i hk hi ih => by
   simp only [spec_ChoiceOk.l1]
   rw [if_pos (by omega), if_pos (by omega), if_pos (by omega), rd_nat, wrap_nat hi (by omega), l08Watcher_f ns ts z _ (by omega) k hk, Option.bind_some, ← watch_same ns (by omega), drop_cons hi 0, valsFrom, ih]
   unfold valAt
   generalize vs.getD i 0 = v
   by_cases h1 : v = 1
   ·rw [if_pos h1, if_neg (by omega), decide_eq_true h1]; rfl
   ·rw [if_neg h1, decide_eq_false h1, Bool.false_or]
    by_cases h2 : v = -1
    ·rw [if_pos h2, decide_eq_true h2, Bool.true_and]
     by_cases h3 : pwatchI ns ((i + 1 : Nat) : Int) < 0
     ·rw [if_pos h3, decide_eq_false (show ¬ (0 : Int) ≤ _ by omega)]; rfl
     ·rw [if_neg h3, decide_eq_true (show (0 : Int) ≤ _ by omega)]; rfl
    ·rw [if_neg h2, decide_eq_false h2]; rfl) 0 k (Nat.zero_le _) (by omega)
 simpa using key
theorem impl_ch_l0 (ns : List PNode) (ts : List PTie) (z : Int) (L ln vs : List Int) (hL : ∀ x ∈ L, 0 ≤ x ∧ x < ts.length) (hn : L.length ≤ 1048576) (he : ln.length = L.length) (hl : vs.length ≤ 1048576) (k : Nat) (hk : 2 ^ 65 ≤ k) :
  impl_isChoice.l0 k L (L.length : Int) 0 ns ts z ln vs = some (lensFrom ts L ln && valsFrom ns 0 vs) := by
 have key := loop_up L.length (fun k i => impl_isChoice.l0 k L (L.length : Int) (i : Int) ns ts z ln vs = some (lensFrom ts (L.drop i) (ln.drop i) && valsFrom ns 0 vs)) (2 ^ 64)
  (fun k hk => by
   simp only [impl_isChoice.l0]
   rw [if_neg (by omega), impl_ch_l1 ns ts z vs hl k hk, List.drop_length]
   simp [lensFrom])
  (fun k i _ hi ih => by
   simp only [impl_isChoice.l0]
   have hm := hL _ (getD_mem hi 0)
   rw [if_pos (by omega), if_pos (by omega), if_pos (by omega), if_pos (by omega), rd_nat, rd_nat, if_pos hm.1, if_pos hm.2, wrap_nat hi (by omega), ih, drop_cons hi 0, drop_cons (show i < ln.length by omega) 0, lensFrom]
   generalize ln.getD i 0 = n
   generalize rd_T90 ts (L.getD i 0) = t
   by_cases h1 : n < t.f2
   ·rw [if_pos h1, decide_eq_false (show ¬ t.f2 ≤ n by omega)]; rfl
   ·rw [if_neg h1, decide_eq_true (show t.f2 ≤ n by omega), Bool.true_and]
    by_cases h2 : n > t.f3
    ·rw [if_pos h2, decide_eq_false (show ¬ n ≤ t.f3 by omega)]; rfl
    ·rw [if_neg h2, decide_eq_true (show n ≤ t.f3 by omega), Bool.true_and]) 0 k (Nat.zero_le _) (by omega)
 simpa using key
theorem spec_ch_l0 (ns : List PNode) (ts : List PTie) (z : Int) (L ln vs : List Int) (hN : ns.length ≤ 1048576) (hL : ∀ x ∈ L, 0 ≤ x ∧ x < ts.length) (hn : L.length ≤ 1048576) (he : ln.length = L.length) (hl : vs.length ≤ 1048576) (k : Nat) (hk : 2 ^ 66 ≤ k) :
  spec_ChoiceOk.l0 k L (L.length : Int) 0 ns ts z ln vs = some (lensFrom ts L ln && valsFrom ns 0 vs) := by
 have key := loop_up L.length (fun k i => spec_ChoiceOk.l0 k L (L.length : Int) (i : Int) ns ts z ln vs = some (lensFrom ts (L.drop i) (ln.drop i) && valsFrom ns 0 vs)) (2 ^ 65)
  (fun k hk => by
   simp only [spec_ChoiceOk.l0]
   rw [if_neg (by omega), spec_ch_l1 ns ts z vs hN hl k hk, List.drop_length]
   simp [lensFrom])
  (fun k i _ hi ih => by
   simp only [spec_ChoiceOk.l0]
   have hm := hL _ (getD_mem hi 0)
   rw [if_pos (by omega), if_pos (by omega), if_pos (by omega), if_pos (by omega), rd_nat, rd_nat, if_pos hm.1, if_pos hm.2, wrap_nat hi (by omega), ih, drop_cons hi 0, drop_cons (show i < ln.length by omega) 0, lensFrom, l01In_f, Option.bind_some]
   unfold inB
   generalize ln.getD i 0 = n
   generalize rd_T90 ts (L.getD i 0) = t
   cases decide (t.f2 ≤ n) && decide (n ≤ t.f3) <;> rfl) 0 k (Nat.zero_le _) (by omega)
 simpa using key
theorem impl_isChoice_f {ns : List PNode} {ts : List PTie} (z : Int) (ln vs : List Int) (hc : SmallP ns ts) (hl : vs.length ≤ 1048576) (k : Nat) (hk : 2 ^ 66 ≤ k) : impl_isChoice.f k ns ts z ln vs = some (isChoiceB ns ts ln vs) := by
 obtain ⟨k, rfl⟩ : ∃ m, k = m + 1 := ⟨k - 1, by omega⟩
 have hL := freeIx_len ts
 have ht := hc.2.1
 unfold impl_isChoice.f isChoiceB
 rw [freeTies_f ns ts z hc.2.1 _ (by omega), Option.bind_some]
 by_cases h1 : ln.length = (freeIx ts).length
 ·rw [if_pos (by omega), decide_eq_true h1, Bool.true_and]
  by_cases h2 : vs.length = 3
  ·rw [decide_eq_true h2, Bool.true_and, show ((vs.length : Int) != 3) = false by rw [bne_eq_false_iff_eq]; omega]
   simp only [impl_isChoice.j0, Bool.false_eq_true, if_false]
   exact impl_ch_l0 ns ts z (freeIx ts) ln vs (fun x hx => freeIx_in hx) (by omega) h1 hl k (by omega)
  ·rw [decide_eq_false h2, show ((vs.length : Int) != 3) = true by rw [bne_iff_ne]; omega]; simp [impl_isChoice.j0]
 ·rw [if_neg (by omega), decide_eq_false h1]; simp [impl_isChoice.j0]
theorem impl_ChoiceOk_f {ns : List PNode} {ts : List PTie} {z : Int} (ln vs : List Int) (hc : SmallP ns ts) (hl : vs.length ≤ 1048576) (k : Nat) (hk : 2 ^ 66 ≤ k) : impl_ChoiceOk.f k ns ts z ln vs = some (choiceB ns ts z ln vs) := by
 unfold impl_ChoiceOk.f choiceB
 rw [impl_ShowOk_f (fitN_of hc), Option.bind_some]
 cases hs : pshowB ns ts z with
 | false => rfl
 | true => rw [if_pos rfl, Bool.true_and, impl_isChoice_f z ln vs hc hl k hk]; rfl
theorem spec_ChoiceOk_f {ns : List PNode} {ts : List PTie} {z : Int} (ln vs : List Int) (hc : SmallP ns ts) (hl : vs.length ≤ 1048576) (k : Nat) (hk : 2 ^ 67 ≤ k) : spec_ChoiceOk.f k ns ts z ln vs = some (choiceB ns ts z ln vs) := by
 obtain ⟨k, rfl⟩ : ∃ m, k = m + 1 := ⟨k - 1, by omega⟩
 have hL := freeIx_len ts
 have ht := hc.2.1
 unfold spec_ChoiceOk.f choiceB
 rw [spec_ShowOk_f ns ts z (fitN_of hc) _ (by omega), Option.bind_some]
 cases hs : pshowB ns ts z with
 | false => rfl
 | true =>
  rw [if_pos rfl, Bool.true_and, l10Free_f ns ts z hc.2.1 _ (by omega), Option.bind_some]
  unfold isChoiceB
  by_cases h1 : ln.length = (freeIx ts).length
  ·rw [if_pos (by omega), decide_eq_true h1, Bool.true_and]
   by_cases h2 : vs.length = 3
   ·rw [decide_eq_true h2, Bool.true_and, show ((vs.length : Int) != 3) = false by rw [bne_eq_false_iff_eq]; omega]
    simp only [spec_ChoiceOk.j0, Bool.false_eq_true, if_false]
    exact spec_ch_l0 ns ts z (freeIx ts) ln vs hc.1 (fun x hx => freeIx_in hx) (by omega) h1 hl k (by omega)
   ·rw [decide_eq_false h2, show ((vs.length : Int) != 3) = true by rw [bne_iff_ne]; omega]; simp [spec_ChoiceOk.j0]
  ·rw [if_neg (by omega), decide_eq_false h1]; simp [spec_ChoiceOk.j0]
theorem valsFrom_all {ns : List PNode} : ∀ (l : List Int) (i : Nat), valsFrom ns i l = true → ∀ n ∈ l, -1 ≤ n ∧ n ≤ 1
 | [], _, _, n, hn => by simp at hn
 | v :: t, i, h, n, hn => by
  rw [valsFrom, Bool.and_eq_true] at h
  rcases List.mem_cons.1 hn with rfl | hn
  ·have h1 := h.1
   unfold valAt at h1
   simp only [Bool.or_eq_true, Bool.and_eq_true, decide_eq_true_eq] at h1
   omega
  ·exact valsFrom_all t _ h.2 n hn
theorem isChoice_vals {ns : List PNode} {ts : List PTie} {ln vs : List Int} (h : isChoiceB ns ts ln vs = true) : valsB vs = true := by
 unfold isChoiceB at h
 simp only [Bool.and_eq_true, decide_eq_true_eq] at h
 unfold valsB
 rw [decide_eq_true h.2.1, Bool.true_and, List.all_eq_true]
 intro n hn
 have := valsFrom_all vs 0 h.2.2.2 n hn
 simp; omega
def chX (ts : List PTie) : Nat → Int → List Int → Option (Int × List Int)
 | 0, _, _ => none
 | d + 1, node, c => if pfreeI ts node < 0 then some (node, c) else if pfreeI ts node ∈ c then none else chX ts d (rd_T90 ts (pfreeI ts node)).f0 (c ++ [pfreeI ts node])
theorem mem_freeIx {ts : List PTie} {j : Int} (h0 : 0 ≤ j) (h1 : j < ts.length) (hf : (rd_T90 ts j).f4 = true) : j ∈ freeIx ts := by
 obtain ⟨m, rfl⟩ := Int.eq_ofNat_of_zero_le h0
 rw [rdT_nat] at hf
 unfold freeIx freeTo
 exact List.mem_map.2 ⟨m, List.mem_filter.2 ⟨List.mem_range.2 (by omega), hf⟩, rfl⟩
theorem tie_from {ns : List PNode} {ts : List PTie} (h : areTiesB ns ts = true) {j : Int} (h0 : 0 ≤ j) (h1 : j < ts.length) : 0 ≤ (rd_T90 ts j).f0 ∧ (rd_T90 ts j).f0 < ns.length := by
 obtain ⟨m, rfl⟩ := Int.eq_ofNat_of_zero_le h0
 have := areTiesB_at h m (by omega)
 unfold ptieB ptieC at this
 simp only [nodeIn, Bool.and_eq_true, decide_eq_true_eq] at this
 obtain ⟨⟨⟨⟨⟨⟨a, _⟩, _⟩, _⟩, _⟩, _⟩, _⟩ := this
 omega
def bsOf (ts : List PTie) (o : Option (Int × List Int)) : Int × Int × Int × Bool := match o with | some r => (r.1, sLo ts r.2, sHi ts r.2, true) | none => (-1, 0, 0, false)
theorem chain_run2 {ns : List PNode} {ts : List PTie} {z : Int} (ht : areTiesB ns ts = true) (h1 : 1 ≤ ns.length) (hn : ns.length ≤ 1048576) (hl : ts.length ≤ 1048576) : ∀ (d : Nat) (node : Int) (c : List Int) (k : Nat), Chn ts node c → ns.length ≤ c.length + d → 2 ^ 65 + d < k → 0 ≤ node ∧ node < ns.length →
  impl_chainOf.l0 k node c ns ts z = some ((chX ts d node c).getD (-1, [])) ∧ spec_l12Base.l0 k node (sLo ts c) (sHi ts c) c.length ns ts z = some (bsOf ts (chX ts d node c)) ∧
   (∀ r, chX ts d node c = some r → spec_l12Chain.l0 k node c c.length ns ts z = some r.2 ∧ (0 ≤ r.1 ∧ r.1 < ns.length) ∧ (∀ j ∈ r.2, j ∈ freeIx ts) ∧ r.2.length ≤ ns.length) := by
 intro d
 induction d with
 | zero =>
  intro node c k hc hd _ _
  have := hc.len ht h1
  omega
 | succ d ih =>
  intro node c k hc hd hk hnode
  have hcl := hc.len ht h1
  obtain ⟨m, rfl⟩ : ∃ m, k = m + 1 := ⟨k - 1, by omega⟩
  simp only [impl_chainOf.l0, spec_l12Base.l0, spec_l12Chain.l0, chX]
  rw [if_pos (show (c.length : Int) ≤ ns.length by omega), if_pos (show (c.length : Int) ≤ ns.length by omega), l08Free_f ns ts z node (by omega) m (by omega)]
  unfold impl_freeTie.f
  rw [Option.bind_some, Option.bind_some, Option.bind_some, show freeI ts node = pfreeI ts node from rfl]
  have hin := @pfree_in ts node
  generalize hfk : pfreeI ts node = fk at hin
  by_cases h0 : fk < 0
  ·simp only [if_pos h0]
   refine ⟨rfl, rfl, ?_⟩
   intro r hr
   cases hr
   exact ⟨rfl, hnode, fun j hj => mem_freeIx (hc.ok j hj).1 (hc.ok j hj).2.1 (hc.ok j hj).2.2.1, by show c.length ≤ _; omega⟩
  ·obtain ⟨h2, h3, h4⟩ := hin (by omega)
   simp only [if_neg h0]
   unfold slices_Contains_int_int.f
   rw [Option.bind_some, if_pos (show 0 ≤ fk by omega), if_pos h2, if_pos (show 0 ≤ fk by omega), if_pos h2, if_pos (show 0 ≤ fk by omega), if_pos h2]
   by_cases hm : fk ∈ c
   ·rw [if_pos (by rw [List.any_eq_true]; exact ⟨fk, hm, by simp⟩)]
    simp only [if_pos hm]
    refine ⟨rfl, ?_, fun r hr => by cases hr⟩
    have hcc : ∀ j ∈ c, ∃ i ∈ c, (rd_T90 ts j).f0 = (rd_T90 ts i).f1 := fun j hj => by
     rcases hc.cl j hj with e | e
     ·exact ⟨fk, hm, by rw [e, h4]⟩
     ·exact e
    obtain ⟨i, hi, e1⟩ := hcc fk hm
    rw [e1, wrap_nat (n := ns.length) (by omega) (by omega)]
    exact base_out hn (by omega) hc.ok hcc (ns.length - c.length) (c.length + 1) _ _ m i hi (by omega) (by omega)
   ·rw [if_neg (by rw [List.any_eq_true]; rintro ⟨x, hx, e⟩; exact hm (by have := of_decide_eq_true e; rw [this]; exact hx)), if_pos (show c.length < 17592186044416 by omega), if_pos (show c.length < 17592186044416 by omega)]
    simp only [if_neg hm]
    have hc2 : Chn ts (rd_T90 ts fk).f0 (c ++ [fk]) := by
     refine ⟨?_, ?_, ?_⟩
     ·rw [List.nodup_append]
      exact ⟨hc.nodup, by simp, fun a ha b hb => by rw [List.mem_singleton] at hb; subst hb; exact fun e => hm (e ▸ ha)⟩
     ·intro j hj
      rcases List.mem_append.1 hj with hj | hj
      ·exact hc.ok j hj
      ·rw [List.mem_singleton] at hj
       subst hj
       exact ⟨by omega, h2, h3, by rw [h4, hfk]⟩
     ·intro j hj
      rcases List.mem_append.1 hj with hj | hj
      ·rcases hc.cl j hj with e | ⟨i, hi, e⟩
       ·exact .inr ⟨fk, by simp, by rw [e, h4]⟩
       ·exact .inr ⟨i, by simp [hi], e⟩
      ·rw [List.mem_singleton] at hj
       subst hj
       exact .inl rfl
    have := ih (rd_T90 ts fk).f0 (c ++ [fk]) m hc2 (by simp; omega) (by omega) (tie_from ht (by omega) h2)
    rw [sLo_snoc, sHi_snoc, show ((c ++ [fk]).length : Int) = wrap64 ((c.length : Int) + 1) by rw [wrap_nat (n := ns.length) (by omega) (by omega)]; simp] at this
    exact this
theorem Chn.nil (ts : List PTie) (node : Int) : Chn ts node [] := ⟨List.nodup_nil, fun j hj => (by simp at hj), fun j hj => (by simp at hj)⟩
def chnB (ns : List PNode) (ts : List PTie) (i : Int) : Option (Int × List Int) := chX ts ns.length i []
theorem chain_all {ns : List PNode} {ts : List PTie} {z : Int} (ht : areTiesB ns ts = true) (hn : ns.length ≤ 1048576) (hl : ts.length ≤ 1048576) (i : Nat) (hi : i < ns.length) (k : Nat) (hk : 2 ^ 66 ≤ k) :
  impl_chainOf.f k ns ts z i = some ((chnB ns ts i).getD (-1, [])) ∧ spec_l12Base.f k ns ts z i = some (bsOf ts (chnB ns ts i)) ∧
   (∀ r, chnB ns ts i = some r → spec_l12Chain.f k ns ts z i = some r.2 ∧ (0 ≤ r.1 ∧ r.1 < ns.length) ∧ (∀ j ∈ r.2, j ∈ freeIx ts) ∧ r.2.length ≤ ns.length) :=
 chain_run2 ht (by omega) hn hl ns.length (i : Int) [] k (Chn.nil ts _) (by simp) (by omega) (by omega)
def plAt (ns : List PNode) (ts : List PTie) (i : Nat) : Bool := (chnB ns ts i).isSome && decide (((ns.getD i z116).f1).length = 0)
def plFrom (ns : List PNode) (ts : List PTie) : Nat → Nat → Bool
 | _, 0 => true
 | i, d + 1 => plAt ns ts i && plFrom ns ts (i + 1) d
theorem plFrom_at {ns : List PNode} {ts : List PTie} : ∀ (d i : Nat), plFrom ns ts i d = true → ∀ j, i ≤ j → j < i + d → plAt ns ts j = true
 | 0, i, _, j, h1, h2 => by omega
 | d + 1, i, h, j, h1, h2 => by
  rw [plFrom, Bool.and_eq_true] at h
  by_cases e : j = i
  ·rw [e]; exact h.1
  ·exact plFrom_at d (i + 1) h.2 j (by omega) (by omega)
theorem impl_isPlain_f {ns : List PNode} {ts : List PTie} {z : Int} (hc : SmallP ns ts) (hs : pshowB ns ts z = true) (k : Nat) (hk : 2 ^ 67 ≤ k) : impl_isPlain.f k ns ts z = some (plFrom ns ts 0 ns.length) := by
 have ht := pshowB_ties hs
 have hn := hc.1
 have key := loop_up ns.length (fun k i => impl_isPlain.l0 k ns (ns.length : Int) (i : Int) ns ts z = some (plFrom ns ts i (ns.length - i))) (2 ^ 66)
  (fun k _ => by
   simp only [impl_isPlain.l0]
   rw [if_neg (by omega), Nat.sub_self]; rfl)
  (fun k i hk hi ih => by
   simp only [impl_isPlain.l0]
   have h := (chain_all (z := z) ht hn hc.2.1 i hi k hk)
   rw [if_pos (by omega), if_pos (by omega), if_pos (by omega), h.1, Option.bind_some, rdN_nat, wrap_nat hi (by omega), ih, show ns.length - i = (ns.length - (i + 1)) + 1 by omega, plFrom]
   unfold plAt
   have h3 := h.2.2
   cases hb : chnB ns ts i with
   | none => rw [if_pos (by decide)]; rfl
   | some r =>
    have := (h3 r hb).2.1
    rw [if_neg (by show ¬ r.1 < 0; omega)]
    by_cases hq : (ns.getD i z116).f1.length = 0
    ·rw [if_neg (by omega), decide_eq_true hq]; rfl
    ·rw [if_pos (by omega), decide_eq_false hq]; rfl) 0 k (Nat.zero_le _) (by omega)
 unfold impl_isPlain.f
 rw [impl_ShowOk_f (fitN_of hc), Option.bind_some, hs, if_pos rfl]
 simpa using key
theorem spec_l12Plain_f {ns : List PNode} {ts : List PTie} {z : Int} (hc : SmallP ns ts) (hs : pshowB ns ts z = true) (k : Nat) (hk : 2 ^ 67 ≤ k) : spec_l12Plain.f k ns ts z = some (plFrom ns ts 0 ns.length) := by
 have ht := pshowB_ties hs
 have hn := hc.1
 have key := loop_up ns.length (fun k i => spec_l12Plain.l0 k ns (ns.length : Int) (i : Int) ns ts z = some (plFrom ns ts i (ns.length - i))) (2 ^ 66)
  (fun k _ => by
   simp only [spec_l12Plain.l0]
   rw [if_neg (by omega), Nat.sub_self]; rfl)
  (fun k i hk hi ih => by
   simp only [spec_l12Plain.l0]
   have h := (chain_all (z := z) ht hn hc.2.1 i hi k hk)
   rw [if_pos (by omega), if_pos (by omega), if_pos (by omega), h.2.1, Option.bind_some, rdN_nat, wrap_nat hi (by omega), ih, show ns.length - i = (ns.length - (i + 1)) + 1 by omega, plFrom]
   unfold plAt
   by_cases hq : (ns.getD i z116).f1.length = 0
   ·rw [if_neg (by omega), decide_eq_true hq]
    cases hb : chnB ns ts i with
    | none => rw [if_neg (by simp [bsOf])]; rfl
    | some r => rw [if_pos (show (bsOf ts (some r)).2.2.2 = true from rfl)]; rfl
   ·rw [if_pos (by omega), decide_eq_false hq, Bool.and_false]; rfl) 0 k (Nat.zero_le _) (by omega)
 unfold spec_l12Plain.f
 simpa using key
def lenOf : List Int → List Int → Int → Int
 | y :: L, n :: l, key => if y = key then n else lenOf L l key
 | _, _, _ => 0
theorem lenOf_cons (y n : Int) (L l : List Int) (key : Int) : lenOf (y :: L) (n :: l) key = if y = key then n else lenOf L l key := rfl
theorem l10Length_f {ns : List PNode} {ts : List PTie} {z : Int} (hl : ts.length ≤ 1048576) (ln vs : List Int) (he : ln.length = (freeIx ts).length) (key : Int) (k : Nat) (hk : 2 ^ 65 ≤ k) : spec_l10Length.f k ns ts z ln vs key = some (lenOf (freeIx ts) ln key) := by
 have hL := freeIx_len ts
 unfold spec_l10Length.f
 rw [l10Free_f ns ts z hl k (by omega), Option.bind_some]
 generalize freeIx ts = L at he hL
 have key := loop_up L.length (fun k i => spec_l10Length.l0 k key L (L.length : Int) (i : Int) ln vs = some (lenOf (L.drop i) (ln.drop i) key)) 0
  (fun k _ => by
   simp only [spec_l10Length.l0]
   rw [if_neg (by omega), List.drop_length]; rfl)
  (fun k i _ hi ih => by
   simp only [spec_l10Length.l0]
   rw [if_pos (by omega), if_pos (by omega), if_pos (by omega), rd_nat, rd_nat, wrap_nat hi (by omega), ih, drop_cons hi 0, drop_cons (show i < ln.length by omega) 0, lenOf_cons]
   by_cases e : L.getD i 0 = key
   ·rw [if_pos e, if_pos (by omega), if_pos e]
   ·rw [if_neg e, if_neg e]) 0 k (Nat.zero_le _) (by omega)
 simpa using key
theorem idxOf_cons {α : Type} (p : α → Bool) (y : α) (l : List α) : idxOf p (y :: l) = if p y = true then 0 else if 0 ≤ idxOf p l then idxOf p l + 1 else -1 := by
 unfold idxOf
 rw [List.findIdx?_cons]
 cases hp : p y with
 | true => rfl
 | false =>
  simp only [Bool.false_eq_true, if_false]
  cases l.findIdx? p with
  | none => rfl
  | some m =>
   simp only [Option.map_some]
   rw [if_pos (by omega)]
   omega
theorem idx_len (key : Int) : ∀ (L l : List Int), l.length = L.length → key ∈ L → 0 ≤ idxOf (fun y => decide (key = y)) L ∧ idxOf (fun y => decide (key = y)) L < l.length ∧ rd l (idxOf (fun y => decide (key = y)) L) = lenOf L l key
 | [], _, _, h => by simp at h
 | y :: L, [], he, _ => by simp at he
 | y :: L, n :: l, he, h => by
  rw [idxOf_cons, lenOf_cons]
  by_cases e : key = y
  ·rw [if_pos (by simpa using e), if_pos e.symm]
   exact ⟨by omega, by rw [List.length_cons]; omega, rfl⟩
  ·rw [if_neg (by simpa using e), if_neg (show ¬ y = key from fun h => e h.symm)]
   have ih := idx_len key L l (by simpa using he) (by
    rcases List.mem_cons.1 h with h | h
    ·exact absurd h e
    ·exact h)
   obtain ⟨a, b, c⟩ := ih
   rw [if_pos a, ← c]
   refine ⟨by omega, by rw [List.length_cons]; omega, ?_⟩
   unfold rd
   rw [show (idxOf (fun y => decide (key = y)) L + 1).toNat = (idxOf (fun y => decide (key = y)) L).toNat + 1 by omega]
   rfl
def addL (ts : List PTie) (ln : List Int) (c : List Int) (n : Int) : Int := c.foldl (fun a k => wrap64 (a + lenOf (freeIx ts) ln k)) n
def tmAt (ns : List PNode) (ts : List PTie) (ln tm : List Int) (i : Nat) : Int := match chnB ns ts i with | some r => addL ts ln r.2 (rd tm r.1) | none => 0
def tmFrom (ns : List PNode) (ts : List PTie) (ln tm : List Int) : Nat → Nat → List Int
 | _, 0 => []
 | i, d + 1 => tmAt ns ts ln tm i :: tmFrom ns ts ln tm (i + 1) d
theorem tmFrom_len (ns : List PNode) (ts : List PTie) (ln tm : List Int) : ∀ d i, (tmFrom ns ts ln tm i d).length = d
 | 0, _ => rfl
 | d + 1, i => by rw [tmFrom, List.length_cons, tmFrom_len ns ts ln tm d]
theorem impl_T_l1 {ns : List PNode} {ts : List PTie} {z : Int} (ln vs tm acc : List Int) (he : ln.length = (freeIx ts).length) (ha : acc.length < 17592186044416) (c : List Int) (hc : ∀ j ∈ c, j ∈ freeIx ts) (hn : c.length ≤ 1048576) (N i : Int) (K : Nat) (R : Option (List Int × Bool)) (k : Nat) (hk : K + c.length < k) (n : Int)
  (hr : ∀ k, K ≤ k → impl_TimesFor.l0 k tm (freeIx ts) (acc ++ [addL ts ln c n]) N (wrap64 (i + 1)) ns ts z ln vs = R) : impl_TimesFor.l1 k tm (freeIx ts) acc n N i c c.length 0 ns ts z ln vs = R := by
 have key := loop_up c.length (fun k j => ∀ n, (∀ k, K ≤ k → impl_TimesFor.l0 k tm (freeIx ts) (acc ++ [addL ts ln (c.drop j) n]) N (wrap64 (i + 1)) ns ts z ln vs = R) → impl_TimesFor.l1 k tm (freeIx ts) acc n N i c c.length (j : Int) ns ts z ln vs = R) K
  (fun k hk n hr => by
   simp only [impl_TimesFor.l1]
   rw [if_neg (by omega), if_pos ha]
   rw [List.drop_length] at hr
   exact hr k hk)
  (fun k j _ hj ih n hr => by
   simp only [impl_TimesFor.l1, slices_Index_int_int.f, Option.bind_some]
   rw [if_pos (by omega), if_pos (by omega), if_pos (by omega), rd_nat]
   obtain ⟨a, b, e⟩ := idx_len (c.getD j 0) (freeIx ts) ln he (hc _ (getD_mem hj 0))
   rw [if_pos a, if_pos b, e, wrap_nat hj (by omega)]
   apply ih
   intro k hk
   rw [← hr k hk, drop_cons hj 0]; rfl) 0 k (Nat.zero_le _) (by omega)
 exact key n (by simpa using hr)
theorem spec_T_l1 {ns : List PNode} {ts : List PTie} {z : Int} (hl : ts.length ≤ 1048576) (ln vs tm acc : List Int) (he : ln.length = (freeIx ts).length) (ha : acc.length < 17592186044416) (c : List Int) (hn : c.length ≤ 1048576) (N i : Int) (K : Nat) (hK : 2 ^ 65 ≤ K) (R : Option (List Int × Bool)) (k : Nat) (hk : K + c.length < k) (n : Int)
  (hr : ∀ k, K ≤ k → spec_TimesFor.l0 k tm (acc ++ [addL ts ln c n]) N (wrap64 (i + 1)) ns ts z ln vs = R) : spec_TimesFor.l1 k tm acc n N i c c.length 0 ns ts z ln vs = R := by
 have key := loop_up c.length (fun k j => ∀ n, (∀ k, K ≤ k → spec_TimesFor.l0 k tm (acc ++ [addL ts ln (c.drop j) n]) N (wrap64 (i + 1)) ns ts z ln vs = R) → spec_TimesFor.l1 k tm acc n N i c c.length (j : Int) ns ts z ln vs = R) K
  (fun k hk n hr => by
   simp only [spec_TimesFor.l1]
   rw [if_neg (by omega), if_pos ha]
   rw [List.drop_length] at hr
   exact hr k hk)
  (fun k j hk hj ih n hr => by
   simp only [spec_TimesFor.l1]
   rw [if_pos (by omega), if_pos (by omega), if_pos (by omega), rd_nat, l10Length_f hl ln vs he _ k (by omega), Option.bind_some, wrap_nat hj (by omega)]
   apply ih
   intro k hk
   rw [← hr k hk, drop_cons hj 0]; rfl) 0 k (Nat.zero_le _) (by omega)
 exact key n (by simpa using hr)
theorem choice_parts {ns : List PNode} {ts : List PTie} {z : Int} {ln vs : List Int} (h : choiceB ns ts z ln vs = true) : pshowB ns ts z = true ∧ ln.length = (freeIx ts).length := by
 unfold choiceB isChoiceB at h
 simp only [Bool.and_eq_true, decide_eq_true_eq] at h
 exact ⟨h.1, h.2.1⟩
theorem impl_T_l0 {ns : List PNode} {ts : List PTie} {z : Int} (hc : SmallP ns ts) (ht : areTiesB ns ts = true) (ln vs tm : List Int) (he : ln.length = (freeIx ts).length) (htm : tm.length = ns.length) (hp : plFrom ns ts 0 ns.length = true) (k : Nat) (hk : 2 ^ 68 ≤ k) :
  impl_TimesFor.l0 k tm (freeIx ts) [] (ns.length : Int) 0 ns ts z ln vs = some (tmFrom ns ts ln tm 0 ns.length, true) := by
 have hn := hc.1
 have key : ∀ (d i : Nat) (acc : List Int) (k : Nat), i + d = ns.length → acc.length = i → 2 ^ 67 + d * 2 ^ 21 < k → impl_TimesFor.l0 k tm (freeIx ts) acc (ns.length : Int) (i : Int) ns ts z ln vs = some (acc ++ tmFrom ns ts ln tm i d, true) := by
  intro d
  induction d with
  | zero =>
   intro i acc k hi _ hk
   obtain ⟨m, rfl⟩ : ∃ m, k = m + 1 := ⟨k - 1, by omega⟩
   simp only [impl_TimesFor.l0]
   rw [if_neg (by omega), tmFrom, List.append_nil]
  | succ d ih =>
   intro i acc k hi ha hk
   obtain ⟨m, rfl⟩ : ∃ m, k = m + 1 := ⟨k - 1, by omega⟩
   simp only [impl_TimesFor.l0]
   have h := chain_all (z := z) ht hn hc.2.1 i (by omega) m (by omega)
   have hpl := plFrom_at _ _ hp i (Nat.zero_le _) (by omega)
   unfold plAt at hpl
   rw [Bool.and_eq_true] at hpl
   obtain ⟨r, hr⟩ := Option.isSome_iff_exists.1 hpl.1
   obtain ⟨_, hb, hm, hcl⟩ := h.2.2 r hr
   rw [if_pos (by omega), h.1, Option.bind_some, hr, Option.getD_some, if_pos hb.1, if_pos (by omega)]
   obtain ⟨K, hK⟩ : ∃ K, K = 2 ^ 67 + d * 2 ^ 21 + 1 := ⟨_, rfl⟩
   apply impl_T_l1 ln vs tm acc he (by omega) r.2 hm (by omega) (ns.length : Int) (i : Int) K _ m (by omega)
   intro k hk
   have hk' : 2 ^ 67 + d * 2 ^ 21 < k := Nat.lt_of_lt_of_le (by rw [hK]; exact Nat.lt_succ_self _) hk
   rw [wrap_nat (n := ns.length) (by omega) (by omega), ih (i + 1) (acc ++ [addL ts ln r.2 (rd tm r.1)]) k (by omega) (by rw [List.length_append, ha]; rfl) hk', tmFrom]
   have e : tmAt ns ts ln tm i = addL ts ln r.2 (rd tm r.1) := by unfold tmAt; rw [hr]
   rw [e, List.append_assoc, List.singleton_append]
 have := key ns.length 0 [] k (by omega) rfl (by omega)
 simpa using this
theorem spec_T_l0 {ns : List PNode} {ts : List PTie} {z : Int} (hc : SmallP ns ts) (ht : areTiesB ns ts = true) (ln vs tm : List Int) (he : ln.length = (freeIx ts).length) (htm : tm.length = ns.length) (hp : plFrom ns ts 0 ns.length = true) (k : Nat) (hk : 2 ^ 68 ≤ k) :
  spec_TimesFor.l0 k tm [] (ns.length : Int) 0 ns ts z ln vs = some (tmFrom ns ts ln tm 0 ns.length, true) := by
 have hn := hc.1
 have key : ∀ (d i : Nat) (acc : List Int) (k : Nat), i + d = ns.length → acc.length = i → 2 ^ 67 + d * 2 ^ 21 < k → spec_TimesFor.l0 k tm acc (ns.length : Int) (i : Int) ns ts z ln vs = some (acc ++ tmFrom ns ts ln tm i d, true) := by
  intro d
  induction d with
  | zero =>
   intro i acc k hi _ hk
   obtain ⟨m, rfl⟩ : ∃ m, k = m + 1 := ⟨k - 1, by omega⟩
   simp only [spec_TimesFor.l0]
   rw [if_neg (by omega), tmFrom, List.append_nil]
  | succ d ih =>
   intro i acc k hi ha hk
   obtain ⟨m, rfl⟩ : ∃ m, k = m + 1 := ⟨k - 1, by omega⟩
   simp only [spec_TimesFor.l0]
   have h := chain_all (z := z) ht hn hc.2.1 i (by omega) m (by omega)
   have hpl := plFrom_at _ _ hp i (Nat.zero_le _) (by omega)
   unfold plAt at hpl
   rw [Bool.and_eq_true] at hpl
   obtain ⟨r, hr⟩ := Option.isSome_iff_exists.1 hpl.1
   obtain ⟨hch, hb, hm, hcl⟩ := h.2.2 r hr
   rw [if_pos (by omega), h.2.1, Option.bind_some, hr]
   show (if 0 ≤ r.1 then (if r.1 < (tm.length : Int) then _ else _) else _) = _
   rw [if_pos hb.1, if_pos (by omega), hch, Option.bind_some]
   obtain ⟨K, hK⟩ : ∃ K, K = 2 ^ 67 + d * 2 ^ 21 + 1 := ⟨_, rfl⟩
   apply spec_T_l1 hc.2.1 ln vs tm acc he (by omega) r.2 (by omega) (ns.length : Int) (i : Int) K (by omega) _ m (by omega)
   intro k hk
   show spec_TimesFor.l0 k tm (acc ++ [addL ts ln r.2 (rd tm r.1)]) _ _ _ _ _ _ _ = _
   have hk' : 2 ^ 67 + d * 2 ^ 21 < k := Nat.lt_of_lt_of_le (by rw [hK]; exact Nat.lt_succ_self _) hk
   rw [wrap_nat (n := ns.length) (by omega) (by omega), ih (i + 1) (acc ++ [addL ts ln r.2 (rd tm r.1)]) k (by omega) (by rw [List.length_append, ha]; rfl) hk', tmFrom]
   have e : tmAt ns ts ln tm i = addL ts ln r.2 (rd tm r.1) := by unfold tmAt; rw [hr]
   rw [e, List.append_assoc, List.singleton_append]
 have := key ns.length 0 [] k (by omega) rfl (by omega)
 simpa using this
def timesB (ns : List PNode) (ts : List PTie) (z : Int) (ln vs tm : List Int) : List Int × Bool := if choiceB ns ts z ln vs = true ∧ tm.length = ns.length ∧ plFrom ns ts 0 ns.length = true then (tmFrom ns ts ln tm 0 ns.length, true) else ([], false)
theorem timesB_len (ns : List PNode) (ts : List PTie) (z : Int) (ln vs tm : List Int) : (timesB ns ts z ln vs tm).1.length ≤ ns.length := by
 unfold timesB
 split
 ·rw [tmFrom_len]; exact Nat.le_refl _
 ·simp
theorem impl_TimesFor_f {ns : List PNode} {ts : List PTie} {z : Int} (ln vs tm : List Int) (hc : SmallP ns ts) (hl : vs.length ≤ 1048576) (k : Nat) (hk : 2 ^ 69 ≤ k) : impl_TimesFor.f k ns ts z ln vs tm = some (timesB ns ts z ln vs tm) := by
 obtain ⟨m, rfl⟩ : ∃ m, k = m + 1 := ⟨k - 1, by omega⟩
 unfold impl_TimesFor.f timesB
 rw [impl_ChoiceOk_f ln vs hc hl _ (by omega), Option.bind_some]
 by_cases h : choiceB ns ts z ln vs = true
 ·obtain ⟨hs, he⟩ := choice_parts h
  rw [if_pos h]
  by_cases h2 : tm.length = ns.length
  ·rw [if_pos (by omega), impl_isPlain_f hc hs _ (by omega), Option.bind_some]
   cases hp : plFrom ns ts 0 ns.length with
   | true =>
    rw [if_pos ⟨h, h2, rfl⟩]
    simp only [impl_TimesFor.j0, Bool.not_true, Bool.false_eq_true, if_false]
    rw [freeTies_f ns ts z hc.2.1 m (by omega), Option.bind_some]
    exact impl_T_l0 hc (pshowB_ties hs) ln vs tm he h2 hp m (by omega)
   | false =>
    rw [if_neg (by simp)]
    simp only [impl_TimesFor.j0, Bool.not_false, if_true]
  ·rw [if_neg (by omega), if_neg (by simp [h2])]
   simp only [impl_TimesFor.j0, if_true]
 ·rw [if_neg h, if_neg (by simp [h])]
  simp only [impl_TimesFor.j0, if_true]
theorem spec_TimesFor_f {ns : List PNode} {ts : List PTie} {z : Int} (ln vs tm : List Int) (hc : SmallP ns ts) (hl : vs.length ≤ 1048576) (k : Nat) (hk : 2 ^ 69 ≤ k) : spec_TimesFor.f k ns ts z ln vs tm = some (timesB ns ts z ln vs tm) := by
 obtain ⟨m, rfl⟩ : ∃ m, k = m + 1 := ⟨k - 1, by omega⟩
 unfold spec_TimesFor.f timesB
 rw [spec_ChoiceOk_f ln vs hc hl _ (by omega), Option.bind_some]
 by_cases h : choiceB ns ts z ln vs = true
 ·obtain ⟨hs, he⟩ := choice_parts h
  rw [if_pos h]
  by_cases h2 : tm.length = ns.length
  ·rw [if_pos (by omega), spec_l12Plain_f hc hs _ (by omega), Option.bind_some]
   cases hp : plFrom ns ts 0 ns.length with
   | true =>
    rw [if_pos ⟨h, h2, rfl⟩]
    simp only [spec_TimesFor.j0, Bool.not_true, Bool.false_eq_true, if_false]
    exact spec_T_l0 hc (pshowB_ties hs) ln vs tm he h2 hp m (by omega)
   | false =>
    rw [if_neg (by simp)]
    simp only [spec_TimesFor.j0, Bool.not_false, if_true]
  ·rw [if_neg (by omega), if_neg (by simp [h2])]
   simp only [spec_TimesFor.j0, if_true]
 ·rw [if_neg h, if_neg (by simp [h])]
  simp only [spec_TimesFor.j0, if_true]
end Go.Proofs.Ytodfnelilhjoeaa.Pr
