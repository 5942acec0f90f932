/- By a program of this session. -/
import Derived.Test.YtoeimopgoaffcaaDoorBBcc1x1
namespace Go.Proofs.YtoeimopgoaffcaaDoor.Pr
open RowKit YtoeimopgoaffcaaDoorW.PrintWords Ni
def edgesL (x:S113):List S121:=(if x.f2.f1=1000000 then[] else[⟨x.f0,x.f1,x.f2.f1⟩]) ++ (if x.f2.f0=-1000000 then[] else[⟨x.f1,x.f0,wrap64 (-x.f2.f0)⟩])
def ZbS:List S113→List S121
 | []=>[]
 | x :: t=>edgesL x ++ ZbS t
def linksL (i:Nat) (x:S113):List Int:=(if x.f2.f1=1000000 then[] else[(i:Int)]) ++ (if x.f2.f0=-1000000 then[] else[(i:Int)])
def Zcz:Nat→List S113→List Int
 | _,[]=>[]
 | i,x :: t=>linksL i x ++ Zcz (i+1) t
def Zb5 (l:List S113) (i:Nat) (E:List S121) (M:List Int):Prop:=E.length≤2 * i∧M.length≤2 * i∧E ++ ZbS (l.drop i)=ZbS l∧M ++ Zcz i (l.drop i)=Zcz 0 l
theorem Zb5.zero (l:List S113):Zb5 l 0 [] []:=⟨Nat.le_refl _,Nat.le_refl _,rfl,rfl⟩
theorem Zb5.all {l:List S113} {E:List S121} {M:List Int} (h:Zb5 l l.length E M):E=ZbS l∧M=Zcz 0 l:=by
 obtain⟨_,_,h1,h2⟩:=h
 rw[List.drop_length,ZbS,List.append_nil] at h1
 rw[List.drop_length,Zcz,List.append_nil] at h2
 exact⟨h1,h2⟩
theorem Zb5.next {l:List S113} {i:Nat} {E:List S121} {M:List Int} (h:Zb5 l i E M) (hi:i<l.length) {f0 f1 f2 f3:Int} (hx:l.getD i z113=⟨f0,f1,⟨f2,f3⟩⟩) :
  Zb5 l (i+1) ((E ++ if f3 != 1000000 then[⟨f0,f1,f3⟩] else[]) ++ if f2 != -1000000 then[⟨f1,f0,wrap64 (-f2)⟩] else[]) ((M ++ if f3 != 1000000 then[(i:Int)] else[]) ++ if f2 != -1000000 then[(i:Int)] else[]):=by
 obtain⟨h1,h2,h3,h4⟩:=h
 rw[Za2 hi z113,hx,ZbS,edgesL] at h3
 rw[Za2 hi z113,hx,Zcz,linksL] at h4
 dsimp only at h3 h4
 refine⟨?_,?_,?_,?_⟩
 ·split <;> split <;> simp <;> omega
 ·split <;> split <;> simp <;> omega
 ·rw[← h3]
  by_cases a:f3=1000000 <;> by_cases b:f2=-1000000 <;> simp[a,b]
 ·rw[← h4]
  by_cases a:f3=1000000 <;> by_cases b:f2=-1000000 <;> simp[a,b]
structure EInv (w W:World) (uE uM:Value) (E:List S121) (M:List Int):Prop where
 re:Kd.R k121 121 W w.heap.size (fun _=>True) uE E
 rm:Kd.R (Kd.int .i64) 3 W w.heap.size (fun _=>True) uM M
 hb:Below w.heap.size w W
theorem EInv.below {w W W':World} {uE uM:Value} {E:List S121} {M:List Int} (h:EInv w W uE uM E M) (hb:Below W.heap.size W W'):EInv w W' uE uM E M:=⟨Kd.R_below h.re hb,Kd.R_below h.rm hb,Zx h.hb hb⟩
theorem EInv.edge {w W w1:World} {uE uM v1:Value} {E E1:List S121} {M:List Int} {g:Nat} {cs:Array Value} (h:EInv w W uE uM E M) (hx:W.heap[g]? = some (Obj.cells cs 113 (0,0))) (ho:Kd.R k121 121 w1 w.heap.size (fun _=>True) v1 E1) (hb:Below w.heap.size w w1) (hg:W.grownBy w1 uE.ownBlock) :
  EInv w w1 v1 uM E1 M∧w1.heap[g]? = some (Obj.cells cs 113 (0,0)):=⟨⟨ho,Kd.R_over h.rm h.re (by decide) hg,hb⟩,Zao hx hg (Kd.R_ne h.re hx (by decide))⟩
theorem EInv.idx {w W w1:World} {uE uM v1:Value} {E:List S121} {M M1:List Int} {g:Nat} {cs:Array Value} (h:EInv w W uE uM E M) (hx:W.heap[g]? = some (Obj.cells cs 113 (0,0))) (ho:Kd.R (Kd.int .i64) 3 w1 w.heap.size (fun _=>True) v1 M1) (hb:Below w.heap.size w w1) (hg:W.grownBy w1 uM.ownBlock) :
  EInv w w1 uE v1 E M1∧w1.heap[g]? = some (Obj.cells cs 113 (0,0)):=⟨⟨Kd.R_over h.re h.rm (by decide) hg,ho,hb⟩,Zao hx hg (Kd.R_ne h.rm hx (by decide))⟩
end Go.Proofs.YtoeimopgoaffcaaDoor.Pr
