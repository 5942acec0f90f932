/- By a program of this session. -/
import Derived.Test.YtoeimopgoaffcaaGreatDoorBBwc1x1
namespace Go.Proofs.YtoeimopgoaffcaaGreatDoor.Pr
open RowKit YtoeimopgoaffcaaGreatDoorW.PrintWords Ni
def edgesL (x:S112):List S184:=(if x.f2.f1=1000000 then[] else[⟨x.f0,x.f1,x.f2.f1⟩]) ++ (if x.f2.f0=-1000000 then[] else[⟨x.f1,x.f0,wrap64 (-x.f2.f0)⟩])
def ZbN:List S112→List S184
 | []=>[]
 | x :: t=>edgesL x ++ ZbN t
def linksL (i:Nat) (x:S112):List Int:=(if x.f2.f1=1000000 then[] else[(i:Int)]) ++ (if x.f2.f0=-1000000 then[] else[(i:Int)])
def ZbV:Nat→List S112→List Int
 | _,[]=>[]
 | i,x :: t=>linksL i x ++ ZbV (i+1) t
def ZcE (l:List S112) (i:Nat) (E:List S184) (M:List Int):Prop:=E.length≤2 * i∧M.length≤2 * i∧E ++ ZbN (l.drop i)=ZbN l∧M ++ ZbV i (l.drop i)=ZbV 0 l
theorem ZcE.zero (l:List S112):ZcE l 0 [] []:=⟨Nat.le_refl _,Nat.le_refl _,rfl,rfl⟩
theorem ZcE.all {l:List S112} {E:List S184} {M:List Int} (h:ZcE l l.length E M):E=ZbN l∧M=ZbV 0 l:=by
 obtain⟨_,_,h1,h2⟩:=h
 rw[List.drop_length,ZbN,List.append_nil] at h1
 rw[List.drop_length,ZbV,List.append_nil] at h2
 exact⟨h1,h2⟩
theorem ZcE.next {l:List S112} {i:Nat} {E:List S184} {M:List Int} (h:ZcE l i E M) (hi:i<l.length) {f0 f1 f2 f3:Int} (hx:l.getD i z112=⟨f0,f1,⟨f2,f3⟩⟩) :
  ZcE l (i+1) ((E ++ if f3 != 1000000 then[⟨f0,f1,f3⟩] else[]) ++ if f2 != -1000000 then[⟨f1,f0,wrap64 (-f2)⟩] else[]) ((M ++ if f3 != 1000000 then[(i:Int)] else[]) ++ if f2 != -1000000 then[(i:Int)] else[]):=by
 obtain⟨h1,h2,h3,h4⟩:=h
 rw[Zal hi z112,hx,ZbN,edgesL] at h3
 rw[Zal hi z112,hx,ZbV,linksL] at h4
 dsimp only at h3 h4
 refine⟨?_,?_,?_,?_⟩
 ·split <;> split <;> simp <;> omega
 ·split <;> split <;> simp <;> omega
 ·rw[← h3]
  by_cases a:f3=1000000 <;> by_cases b:f2=-1000000 <;> simp[a,b]
 ·rw[← h4]
  by_cases a:f3=1000000 <;> by_cases b:f2=-1000000 <;> simp[a,b]
structure EInv (w W:World) (uE uM:Value) (E:List S184) (M:List Int):Prop where
 re:Kd.R k184 184 W w.heap.size (fun _=>True) uE E
 rm:Kd.R (Kd.int .i64) 3 W w.heap.size (fun _=>True) uM M
 hb:Below w.heap.size w W
theorem EInv.below {w W W':World} {uE uM:Value} {E:List S184} {M:List Int} (h:EInv w W uE uM E M) (hb:Below W.heap.size W W'):EInv w W' uE uM E M:=⟨Kd.R_below h.re hb,Kd.R_below h.rm hb,Zr h.hb hb⟩
theorem EInv.edge {w W w1:World} {uE uM v1:Value} {E E1:List S184} {M:List Int} {g:Nat} {cs:Array Value} (h:EInv w W uE uM E M) (hx:W.heap[g]? = some (Obj.cells cs 112 (0,0))) (ho:Kd.R k184 184 w1 w.heap.size (fun _=>True) v1 E1) (hb:Below w.heap.size w w1) (hg:W.grownBy w1 uE.ownBlock) :
  EInv w w1 v1 uM E1 M∧w1.heap[g]? = some (Obj.cells cs 112 (0,0)):=⟨⟨ho,Kd.R_over h.rm h.re (by decide) hg,hb⟩,Zad hx hg (Kd.R_ne h.re hx (by decide))⟩
theorem EInv.idx {w W w1:World} {uE uM v1:Value} {E:List S184} {M M1:List Int} {g:Nat} {cs:Array Value} (h:EInv w W uE uM E M) (hx:W.heap[g]? = some (Obj.cells cs 112 (0,0))) (ho:Kd.R (Kd.int .i64) 3 w1 w.heap.size (fun _=>True) v1 M1) (hb:Below w.heap.size w w1) (hg:W.grownBy w1 uM.ownBlock) :
  EInv w w1 uE v1 E M1∧w1.heap[g]? = some (Obj.cells cs 112 (0,0)):=⟨⟨Kd.R_over h.re h.rm (by decide) hg,ho,hb⟩,Zad hx hg (Kd.R_ne h.rm hx (by decide))⟩
end Go.Proofs.YtoeimopgoaffcaaGreatDoor.Pr
