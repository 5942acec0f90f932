/- The shows' own types under short names, and the laws' shows as the program's. -/
import Derived.Test.YtammpmadchekeaaQNice
import Derived.Test.YtammpmadchekeaaGo
namespace Go.Proofs.Ytammpmadchekeaa.Pr
open Go.RowKit Go.Proofs.YtammpmadchekeaaW.PrintWords Go.Proofs.Ytammpmadchekeaa.Ni
abbrev LNode := S39
abbrev PNode := S42
abbrev LTie := S84
abbrev PTie := S77
def cvN (x : LNode) : PNode := ⟨x.f0, x.f1, x.f2⟩
def cvT (x : LTie) : PTie := ⟨x.f0, x.f1, x.f2, x.f3, x.f4⟩
theorem rdN_nat (l : List PNode) (i : Nat) : rd_T42 l (i : Int) = l.getD i z42 := by unfold rd_T42; rw [Int.toNat_natCast]
theorem rdT_nat (l : List PTie) (i : Nat) : rd_T77 l (i : Int) = l.getD i z77 := by unfold rd_T77; rw [Int.toNat_natCast]
theorem rdLN_nat (l : List LNode) (i : Nat) : rd_T39 l (i : Int) = l.getD i z39 := by unfold rd_T39; rw [Int.toNat_natCast]
theorem rdLT_nat (l : List LTie) (i : Nat) : rd_T84 l (i : Int) = l.getD i z84 := by unfold rd_T84; rw [Int.toNat_natCast]
theorem zN : cvN z39 = z42 := rfl
theorem zT : cvT z84 = z77 := rfl
theorem getD_map {α β : Type} (f : α → β) (l : List α) (i : Nat) (a : α) (b : β) (h : f a = b) : (l.map f).getD i b = f (l.getD i a) := by
  subst h
  rw [List.getD_eq_getElem?_getD, List.getD_eq_getElem?_getD, List.getElem?_map]
  cases l[i]? <;> rfl
/-- What the size that the laws ask leaves of a show. -/
def SmallShow (ns : List LNode) (ts : List LTie) : Prop := ns.length ≤ 1048576 ∧ ts.length ≤ 1048576 ∧ ∀ n ∈ ns, n.f0.size ≤ 1048576 ∧ n.f1.length ≤ 1048576
def SmallP (ns : List PNode) (ts : List PTie) : Prop := ns.length ≤ 1048576 ∧ ts.length ≤ 1048576 ∧ ∀ n ∈ ns, n.f0.size ≤ 1048576 ∧ n.f1.length ≤ 1048576
theorem SmallShow.cv {ns : List LNode} {ts : List LTie} (h : SmallShow ns ts) : SmallP (ns.map cvN) (ts.map cvT) := by
  refine ⟨by simpa using h.1, by simpa using h.2.1, fun n hn => ?_⟩
  obtain ⟨m, hm, rfl⟩ := List.mem_map.1 hn
  exact h.2.2 m hm
end Go.Proofs.Ytammpmadchekeaa.Pr
