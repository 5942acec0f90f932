/- By a program of this session. -/
import Derived.Test.YtoeimopgoaffcaaGreatDoorBBec1x3
set_option maxHeartbeats 8000000
set_option maxRecDepth 100000
namespace Go.Proofs.YtoeimopgoaffcaaGreatDoor.Pr
open RowKit YtoeimopgoaffcaaGreatDoorW.PrintWords Ni
abbrev Zac:=S184
abbrev zE:Zac:=z184
theorem pigN:∀(n:Nat) (l:List Nat),l.Nodup→(∀x∈l,x<n)→l.length≤n
 | 0,l,_,h=>by
  cases l with
  | nil=>exact Nat.le_refl _
  | cons x l=>have:=h x (by simp);omega
 | n+1,l,hn,h=>by
  have h1:=pigN n (l.erase n) (hn.sublist (List.erase_sublist ..)) (fun x hx=>by
   have:=(hn.mem_erase_iff).1 hx
   have h2:=h x this.2
   omega)
  rw[List.length_erase] at h1
  split at h1 <;> omega
theorem pigF (n:Nat) (f:Nat→Nat) (h:∀i,i≤n→f i<n):∃i j,i<j∧j≤n∧f i=f j:=by
 apply Classical.byContradiction
 intro hc
 have hd:((List.range (n+1)).map f).Nodup:=by
  unfold List.Nodup
  rw[List.pairwise_map]
  refine List.pairwise_lt_range.imp_of_mem ?_
  intro a b _ hb hab e
  have:=List.mem_range.1 hb
  exact hc ⟨a,b,hab,by omega,e⟩
 have:=pigN n _ hd (fun x hx=>by
  obtain⟨i,hi,rfl⟩:=List.mem_map.1 hx
  have:=List.mem_range.1 hi
  exact h i (by omega))
 simp at this
 omega
abbrev BSt:=List Int×List Int×Int
def relax (s:BSt) (i:Nat) (e:Zac):BSt:=
 if wrap64 (rd s.1 e.f0+e.f2)<rd s.1 e.f1 then(s.1.set e.f1.toNat (wrap64 (rd s.1 e.f0+e.f2)),s.2.1.set e.f1.toNat (i:Int),(i:Int)) else s
def rnd:List Zac→Nat→BSt→BSt
 | [],_,s=>s
 | e :: t,i,s=>rnd t (i+1) (relax s i e)
def rounds (E:List Zac):Nat→BSt→BSt
 | 0,s=>s
 | n+1,s=>rounds E n (rnd E 0 (s.1,s.2.1,-1))
def ZbL (E:List Zac) (N:Nat):Prop:=∀e∈E,0≤e.f0∧e.f0<N∧0≤e.f1∧e.f1<N
structure BInv (E:List Zac) (N k i:Nat) (s:BSt) (rk:Nat→Nat):Prop where
 ld:s.1.length=N
 ll:s.2.1.length=N
 k1:1≤k
 R:∀v,rk v≤k
 A:∀j e,E[j]? = some e→rk e.f0.toNat<(if j<i then k else k - 1)→rd s.1 e.f1≤wrap64 (rd s.1 e.f0+e.f2)
 B:∀v,v<N→(s.2.1.getD v 0=-1∧rk v=0)∨∃j e,E[j]? = some e∧s.2.1.getD v 0=((j:Nat):Int)∧e.f1.toNat=v∧1≤rk v∧rk v≤rk e.f0.toNat+1
 C:s.2.2=-1∨∃j e,E[j]? = some e∧s.2.2=((j:Nat):Int)∧rk e.f1.toNat=k
theorem getD_set_ne {l:List Int} {i j:Nat} (h:i≠j) (x d:Int):(l.set i x).getD j d=l.getD j d:=by
 rw[List.getD_eq_getElem?_getD,List.getD_eq_getElem?_getD,List.getElem?_set_ne h]
theorem Za4 {l:List Int} {i:Nat} (h:i<l.length) (x d:Int):(l.set i x).getD i d=x:=by
 rw[List.getD_eq_getElem?_getD,List.getElem?_set_self h];rfl
theorem BInv.step {E:List Zac} {N k i:Nat} {s:BSt} {rk:Nat→Nat} (hE:ZbL E N) (h:BInv E N k i s rk) {e:Zac} (he:E[i]? = some e):∃rk',BInv E N k (i+1) (relax s i e) rk':=by
 obtain⟨d,l,ch⟩:=s
 obtain⟨ld,ll,k1,R,A,B,C⟩:=h
 dsimp only at ld ll A B C
 have hin:=hE e (List.mem_of_getElem? he)
 unfold relax
 dsimp only
 by_cases c:wrap64 (rd d e.f0+e.f2)<rd d e.f1
 ·rw[if_pos c]
  refine⟨fun x=>if x=e.f1.toNat then k else rk x,?_,?_,k1,?_,?_,?_,?_⟩
  ·simpa using ld
  ·simpa using ll
  ·intro v;show(if v=e.f1.toNat then k else rk v)≤k;split
   ·exact Nat.le_refl _
   ·exact R v
  ·intro j e' hj hlt
   simp only at hlt ⊢
   have hin':=hE e' (List.mem_of_getElem? hj)
   by_cases c0:e'.f0.toNat=e.f1.toNat
   ·rw[if_pos c0] at hlt;split at hlt <;> omega
   ·rw[if_neg c0] at hlt
    have e0:rd (d.set e.f1.toNat (wrap64 (rd d e.f0+e.f2))) e'.f0=rd d e'.f0:=getD_set_ne (Ne.symm c0) _ _
    rw[e0]
    by_cases hji:j=i
    ·subst hji
     rw[he] at hj
     cases hj
     have e1:rd (d.set e.f1.toNat (wrap64 (rd d e.f0+e.f2))) e.f1=wrap64 (rd d e.f0+e.f2):=Za4 (by omega) _ _
     rw[e1];exact Int.le_refl _
    ·have hA:=A j e' hj (by split at hlt <;> split <;> omega)
     by_cases c1:e'.f1.toNat=e.f1.toNat
     ·have e1:rd (d.set e.f1.toNat (wrap64 (rd d e.f0+e.f2))) e'.f1=wrap64 (rd d e.f0+e.f2):=by unfold rd;rw[c1];exact Za4 (by omega) _ _
      have e2:rd d e'.f1=rd d e.f1:=by unfold rd;rw[c1]
      rw[e1];omega
     ·have e1:rd (d.set e.f1.toNat (wrap64 (rd d e.f0+e.f2))) e'.f1=rd d e'.f1:=getD_set_ne (Ne.symm c1) _ _
      rw[e1];exact hA
  ·intro v hv
   simp only
   by_cases cv:v=e.f1.toNat
   ·right
    refine⟨i,e,he,?_,cv.symm,?_,?_⟩
    ·rw[cv];exact Za4 (by omega) _ _
    ·rw[if_pos cv];exact k1
    ·rw[if_pos cv]
     split
     ·omega
     ·by_cases c2:rk e.f0.toNat<k - 1
      ·have:=A i e he (by rw[if_neg (by omega)];exact c2);omega
      ·omega
   ·rw[if_neg cv,getD_set_ne (Ne.symm cv)]
    rcases B v hv with hb|⟨j,e',h1,h2,h3,h4,h5⟩
    ·exact Or.inl hb
    ·right
     refine⟨j,e',h1,h2,h3,h4,?_⟩
     split
     ·have:=R v;omega
     ·exact h5
  ·right
   exact⟨i,e,he,rfl,by simp only;rw[if_pos trivial]⟩
 ·rw[if_neg c]
  refine⟨rk,ld,ll,k1,R,?_,B,C⟩
  intro j e' hj hlt
  by_cases hji:j=i
  ·subst hji
   rw[he] at hj
   cases hj
   simp only;omega
  ·exact A j e' hj (by split at hlt <;> split <;> omega)
theorem BInv.rnd {E:List Zac} {N k:Nat} (hE:ZbL E N):∀(n i:Nat) (s:BSt) (rk:Nat→Nat),i+n=E.length→BInv E N k i s rk→∃rk',BInv E N k E.length (rnd (E.drop i) i s) rk':=by
 intro n
 induction n with
 | zero=>
  intro i s rk hn h
  obtain rfl:i=E.length:=by omega
  rw[List.drop_length];exact⟨rk,h⟩
 | succ n ih=>
  intro i s rk hn h
  have hi:i<E.length:=by omega
  rw[List.drop_eq_getElem_cons hi]
  obtain⟨rk',h'⟩:=h.step hE (Zl hi)
  exact ih (i+1) _ _ (by omega) h'
theorem BInv.next {E:List Zac} {N k:Nat} {s:BSt} {rk:Nat→Nat} (h:BInv E N k E.length s rk):BInv E N (k+1) 0 (s.1,s.2.1,-1) rk:=by
 refine⟨h.ld,h.ll,by omega,fun v=>by have:=h.R v;omega,?_,h.B,Or.inl rfl⟩
 intro j e hj hlt
 have hjl:=(List.getElem?_eq_some_iff.1 hj).1
 rw[if_neg (by omega)] at hlt
 exact h.A j e hj (by rw[if_pos hjl];omega)
theorem BInv.rnds {E:List Zac} {N:Nat} (hE:ZbL E N):∀(n k:Nat) (s:BSt) (rk:Nat→Nat),BInv E N k E.length s rk→∃rk',BInv E N (k+n) E.length (rounds E n s) rk':=by
 intro n
 induction n with
 | zero=>intro k s rk h;exact⟨rk,h⟩
 | succ n ih=>
  intro k s rk h
  obtain⟨rk',h'⟩:=BInv.rnd hE E.length 0 _ rk (by omega) h.next
  obtain⟨rk2,h2⟩:=ih (k+1) _ _ h'
  refine⟨rk2,?_⟩
  rw[show k+(n+1)=k+1+n by omega]
  exact h2
def bst0 (N:Nat):BSt:=(List.replicate N 0,List.replicate N (-1),-1)
theorem BInv.start {E:List Zac} {N:Nat}:BInv E N 1 0 (bst0 N) (fun _=>0):=by
 refine⟨by simp[bst0],by simp[bst0],Nat.le_refl _,fun _=>by omega,?_,?_,Or.inl rfl⟩
 ·intro j e _ hlt;rw[if_neg (by omega)] at hlt;omega
 ·intro v hv;left
  refine⟨?_,rfl⟩
  simp[bst0,List.getD_eq_getElem?_getD,hv]
theorem BInv.all {E:List Zac} {N:Nat} (hE:ZbL E N) (hN:1≤N):∃rk,BInv E N N E.length (rounds E N (bst0 N)) rk:=by
 obtain⟨m,rfl⟩:∃m,N=m+1:=⟨N - 1,by omega⟩
 obtain⟨rk',h'⟩:=BInv.rnd hE E.length 0 _ _ (by omega) (BInv.start (E:=E) (N:=m+1))
 obtain⟨rk2,h2⟩:=BInv.rnds hE m 1 _ _ h'
 refine⟨rk2,?_⟩
 rw[Nat.add_comm 1 m] at h2
 exact h2
def Good (E:List Zac) (N:Nat) (l:List Int) (v:Nat):Prop:=v<N∧∃j e,E[j]? = some e∧l.getD v 0=((j:Nat):Int)∧e.f1.toNat=v
def bnxt (E:List Zac) (l:List Int) (v:Nat):Nat:=(E.getD (l.getD v 0).toNat zE).f0.toNat
def bit (E:List Zac) (l:List Int):Nat→Nat→Nat
 | 0,v=>v
 | n+1,v=>bnxt E l (bit E l n v)
theorem Zcg (E:List Zac) (l:List Int) (m:Nat):∀n v,bit E l (n+m) v=bit E l n (bit E l m v)
 | 0,v=>by rw[Nat.zero_add];rfl
 | n+1,v=>by rw[show n+1+m=(n+m)+1 by omega];show bnxt E l _=bnxt E l _;rw[Zcg E l m n v]
theorem bnxt_at {E:List Zac} {l:List Int} {v j:Nat} {e:Zac} (hj:E[j]? = some e) (hl:l.getD v 0=((j:Nat):Int)):bnxt E l v=e.f0.toNat:=by
 unfold bnxt
 rw[hl,Int.toNat_natCast,List.getD_eq_getElem?_getD,hj];rfl
theorem bf_circle {E:List Zac} {N:Nat} (hE:ZbL E N) (hN:1≤N) (hc:(rounds E N (bst0 N)).2.2≠-1) :
  let l:=(rounds E N (bst0 N)).2.1
  ∃c e,E[c]? = some e∧(rounds E N (bst0 N)).2.2=((c:Nat):Int)∧(∀i,i≤N→bit E l i e.f1.toNat<N)∧(∀i,i<N→Good E N l (bit E l i e.f1.toNat)) ∧
   (∀m,Good E N l (bit E l m (bit E l N e.f1.toNat)))∧∃q,1≤q∧q≤N∧bit E l q (bit E l N e.f1.toNat)=bit E l N e.f1.toNat:=by
 obtain⟨rk,h⟩:=BInv.all hE hN
 revert hc h
 generalize rounds E N (bst0 N)=s
 obtain⟨d,l,ch⟩:=s
 intro hc h
 dsimp only at hc ⊢
 obtain⟨c,e,he,hce,hk⟩:∃j e,E[j]? = some e∧ch=((j:Nat):Int)∧rk e.f1.toNat=N:=by
  rcases h.C with h0|h0
  ·exact absurd h0 hc
  ·exact h0
 have hin:=hE e (List.mem_of_getElem? he)
 have key:∀i,i≤N→bit E l i e.f1.toNat<N∧N≤rk (bit E l i e.f1.toNat)+i:=by
  intro i
  induction i with
  | zero=>intro _;exact⟨by simp only[bit];omega,by simp only[bit];omega⟩
  | succ i ih=>
   intro hi
   obtain⟨h1,h2⟩:=ih (by omega)
   rcases h.B _ h1 with ⟨_,h3⟩|⟨j,e',hj,hl,_,_,h5⟩
   ·omega
   ·have hin':=hE e' (List.mem_of_getElem? hj)
    show bnxt E l _<N∧N≤rk (bnxt E l _)+_
    rw[bnxt_at hj hl]
    exact⟨by omega,by omega⟩
 have good:∀i,i<N→Good E N l (bit E l i e.f1.toNat):=by
  intro i hi
  obtain⟨h1,h2⟩:=key i (by omega)
  rcases h.B _ h1 with ⟨_,h3⟩|⟨j,e',hj,hl,hv,_,_⟩
  ·omega
  ·exact⟨h1,j,e',hj,hl,hv⟩
 obtain⟨a,b,hab,hbN,hf⟩:=pigF N (fun i=>bit E l i e.f1.toNat) (fun i hi=>(key i hi).1)
 have per:∀m,bit E l (a+m+(b - a)) e.f1.toNat=bit E l (a+m) e.f1.toNat:=by
  intro m
  rw[show a+m+(b - a)=m+b by omega,show a+m=m+a by omega,Zcg,Zcg,hf]
 have goodall:∀m,Good E N l (bit E l m e.f1.toNat):=by
  intro m
  induction m using Nat.strongRecOn with
  | ind m ih=>
   by_cases hm:m<N
   ·exact good m hm
   ·have:=per (m - b)
    rw[show a+(m - b)+(b - a)=m by omega] at this
    rw[this]
    exact ih _ (by omega)
 refine⟨c,e,he,hce,fun i hi=>(key i hi).1,good,fun m=>?_,b - a,by omega,by omega,?_⟩
 ·rw[← Zcg];exact goodall _
 ·rw[← Zcg]
  have:=per (N - a)
  rw[show a+(N - a)=N by omega] at this
  rw[show b - a+N=N+(b - a) by omega]
  exact this
abbrev KSt:=List Int×List Bool×Bool
def rb (l:List Bool) (i:Int):Bool:=l.getD i.toNat false
def krelax (s:KSt) (e:Zac):KSt:=
 if rb s.2.1 e.f0=true∧(rb s.2.1 e.f1=false∨wrap64 (rd s.1 e.f0+e.f2)<rd s.1 e.f1) then(s.1.set e.f1.toNat (wrap64 (rd s.1 e.f0+e.f2)),s.2.1.set e.f1.toNat true,true) else s
def krnd:List Zac→KSt→KSt
 | [],s=>s
 | e :: t,s=>krnd t (krelax s e)
structure KInv (E:List Zac) (N k i t:Nat) (s:KSt) (lst:Nat→Option Nat) (rk T:Nat→Nat):Prop where
 ld:s.1.length=N
 ll:s.2.1.length=N
 k1:1≤k
 R:∀v,rk v≤k
 TT:∀v,T v≤t
 bd:∀v,v<N→-((t:Int) * 1000000)≤s.1.getD v 0∧s.1.getD v 0≤(t:Int) * 1000000
 A:∀j e,E[j]? = some e→rb s.2.1 e.f0=true→rk e.f0.toNat<(if j<i then k else k - 1)→rb s.2.1 e.f1=true∧rd s.1 e.f1≤rd s.1 e.f0+e.f2
 B:∀v,v<N→s.2.1.getD v false=true→(rk v=0)∨∃j e,lst v=some j∧E[j]? = some e∧e.f1.toNat=v∧rb s.2.1 e.f0=true∧1≤rk v∧rk v≤rk e.f0.toNat+1∧rd s.1 e.f0+e.f2≤s.1.getD v 0∧(T e.f0.toNat<T v∨rd s.1 e.f0+e.f2<s.1.getD v 0)
 C:s.2.2=false∨∃v,v<N∧s.2.1.getD v false=true∧rk v=k
def weightsIn (E:List Zac):Prop:=∀e∈E,-1000000≤e.f2∧e.f2≤1000000
theorem Zd4 {l:List Bool} {i j:Nat} (h:i≠j) (x d:Bool):(l.set i x).getD j d=l.getD j d:=by
 rw[List.getD_eq_getElem?_getD,List.getD_eq_getElem?_getD,List.getElem?_set_ne h]
theorem Ze1 {l:List Bool} {i:Nat} (h:i<l.length) (x d:Bool):(l.set i x).getD i d=x:=by
 rw[List.getD_eq_getElem?_getD,List.getElem?_set_self h];rfl
theorem ZeF {l:List Bool} {i j:Nat} (h:l.getD j false=true):(l.set i true).getD j false=true:=by
 by_cases e:i=j
 ·subst e
  have:i<l.length:=by
   rcases Nat.lt_or_ge i l.length with h0|h0
   ·exact h0
   ·rw[List.getD_eq_getElem?_getD,List.getElem?_eq_none h0] at h;cases h
  exact Ze1 this _ _
 ·rw[Zd4 e];exact h
theorem w64_id {i:Int} (h0 : -9223372036854775808≤i) (h:i≤9223372036854775807):wrap64 i=i:=by
 unfold wrap64;omega
theorem KInv.step {E:List Zac} {N k i t:Nat} {s:KSt} {lst rk T} (hE:ZbL E N) (hw:weightsIn E) (ht:t≤1000000) (h:KInv E N k i t s lst rk T) {e:Zac} (he:E[i]? = some e):∃lst' rk' T',KInv E N k (i+1) (t+1) (krelax s e) lst' rk' T':=by
 obtain⟨d,l,ch⟩:=s
 obtain⟨ld,ll,k1,R,TT,bd,A,B,C⟩:=h
 dsimp only at ld ll A B C bd
 have hin:=hE e (List.mem_of_getElem? he)
 have hwe:=hw e (List.mem_of_getElem? he)
 have hb0:=bd e.f0.toNat (by omega)
 have hww:wrap64 (rd d e.f0+e.f2)=rd d e.f0+e.f2:=by
  have:rd d e.f0=d.getD e.f0.toNat 0:=rfl
  rw[this];exact w64_id (by omega) (by omega)
 unfold krelax
 dsimp only
 rw[hww]
 by_cases c:rb l e.f0=true∧(rb l e.f1=false∨rd d e.f0+e.f2<rd d e.f1)
 ·rw[if_pos c]
  obtain⟨cu,cv⟩:=c
  have eq1:rd (d.set e.f1.toNat (rd d e.f0+e.f2)) e.f1=rd d e.f0+e.f2:=Za4 (by omega) _ _
  have ne1:∀x:Int,x.toNat≠e.f1.toNat→rd (d.set e.f1.toNat (rd d e.f0+e.f2)) x=rd d x:=fun x hx=>getD_set_ne (Ne.symm hx) _ _
  have eqb:rb (l.set e.f1.toNat true) e.f1=true:=Ze1 (by omega) _ _
  have neb:∀x:Int,x.toNat≠e.f1.toNat→rb (l.set e.f1.toNat true) x=rb l x:=fun x hx=>Zd4 (Ne.symm hx) _ _
  refine⟨fun x=>if x=e.f1.toNat then some i else lst x,fun x=>if x=e.f1.toNat then k else rk x,fun x=>if x=e.f1.toNat then t+1 else T x,?_,?_,k1,?_,?_,?_,?_,?_,?_⟩
  ·simpa using ld
  ·simpa using ll
  ·intro v;show(if v=e.f1.toNat then k else rk v)≤k;split
   ·exact Nat.le_refl _
   ·exact R v
  ·intro v;show(if v=e.f1.toNat then t+1 else T v)≤t+1;split
   ·exact Nat.le_refl _
   ·have:=TT v;omega
  ·intro v hv
   dsimp only
   by_cases c1:v=e.f1.toNat
   ·subst c1
    rw[Za4 (by omega)]
    have:rd d e.f0=d.getD e.f0.toNat 0:=rfl
    rw[this];omega
   ·rw[getD_set_ne (Ne.symm c1)]
    have:=bd v hv;omega
  ·intro j e' hj hkn hlt
   dsimp only at hlt hkn ⊢
   by_cases c0:e'.f0.toNat=e.f1.toNat
   ·rw[if_pos c0] at hlt;split at hlt <;> omega
   ·rw[if_neg c0] at hlt
    rw[neb _ c0] at hkn
    rw[ne1 _ c0]
    by_cases hji:j=i
    ·subst hji
     rw[he] at hj
     cases hj
     exact⟨eqb,by rw[eq1];exact Int.le_refl _⟩
    ·obtain⟨hA1,hA⟩:=A j e' hj hkn (by split at hlt <;> split <;> omega)
     refine⟨ZeF hA1,?_⟩
     by_cases c1:e'.f1.toNat=e.f1.toNat
     ·have e1:rd (d.set e.f1.toNat (rd d e.f0+e.f2)) e'.f1=rd d e.f0+e.f2:=by unfold rd;rw[c1];exact Za4 (by omega) _ _
      have e2:rd d e'.f1=rd d e.f1:=by unfold rd;rw[c1]
      have e3:rb l e'.f1=rb l e.f1:=by unfold rb;rw[c1]
      rw[e3] at hA1
      rcases cv with h0|h0
      ·rw[h0] at hA1;cases hA1
      ·rw[e1];omega
     ·rw[ne1 _ c1];exact hA
  ·intro v hv hkn
   dsimp only at hkn ⊢
   by_cases c1:v=e.f1.toNat
   ·right
    refine⟨i,e,by rw[if_pos c1],he,c1.symm,ZeF cu,by rw[if_pos c1];exact k1,?_,?_,?_⟩
    ·rw[if_pos c1]
     split
     ·omega
     ·by_cases c2:rk e.f0.toNat<k - 1
      ·obtain⟨a1,a2⟩:=A i e he cu (by rw[if_neg (by omega)];exact c2)
       rcases cv with h0|h0
       ·rw[h0] at a1;cases a1
       ·omega
      ·omega
    ·rw[c1,Za4 (by omega)]
     by_cases c2:e.f0.toNat=e.f1.toNat
     ·have e1:rd (d.set e.f1.toNat (rd d e.f0+e.f2)) e.f0=rd d e.f0+e.f2:=by unfold rd;rw[c2];exact Za4 (by omega) _ _
      have e2:rd d e.f0=rd d e.f1:=by unfold rd;rw[c2]
      have e3:rb l e.f0=rb l e.f1:=by unfold rb;rw[c2]
      rw[e1]
      rcases cv with h0|h0
      ·rw[← e3,cu] at h0;cases h0
      ·omega
     ·rw[ne1 _ c2];exact Int.le_refl _
    ·by_cases c2:e.f0.toNat=e.f1.toNat
     ·right
      have e1:rd (d.set e.f1.toNat (rd d e.f0+e.f2)) e.f0=rd d e.f0+e.f2:=by unfold rd;rw[c2];exact Za4 (by omega) _ _
      have e2:rd d e.f0=rd d e.f1:=by unfold rd;rw[c2]
      have e3:rb l e.f0=rb l e.f1:=by unfold rb;rw[c2]
      rw[c1,Za4 (by omega),e1]
      rcases cv with h0|h0
      ·rw[← e3,cu] at h0;cases h0
      ·omega
     ·left
      rw[if_neg c2,if_pos c1]
      have:=TT e.f0.toNat;omega
   ·rw[Zd4 (Ne.symm c1)] at hkn
    rw[if_neg c1,if_neg c1,if_neg c1,getD_set_ne (Ne.symm c1)]
    rcases B v hv hkn with hb|⟨j,e',h1,h2,h3,h4,h5,h6,h7,h8⟩
    ·exact Or.inl hb
    ·right
     refine⟨j,e',h1,h2,h3,ZeF h4,h5,?_,?_,?_⟩
     ·split
      ·have:=R v;omega
      ·exact h6
     ·by_cases c2:e'.f0.toNat=e.f1.toNat
      ·have e1:rd (d.set e.f1.toNat (rd d e.f0+e.f2)) e'.f0=rd d e.f0+e.f2:=by unfold rd;rw[c2];exact Za4 (by omega) _ _
       have e2:rd d e'.f0=rd d e.f1:=by unfold rd;rw[c2]
       have e3:rb l e'.f0=rb l e.f1:=by unfold rb;rw[c2]
       rw[e3] at h4
       rw[e1]
       rcases cv with h0|h0
       ·rw[h0] at h4;cases h4
       ·omega
      ·rw[ne1 _ c2];exact h7
     ·by_cases c2:e'.f0.toNat=e.f1.toNat
      ·right
       have e1:rd (d.set e.f1.toNat (rd d e.f0+e.f2)) e'.f0=rd d e.f0+e.f2:=by unfold rd;rw[c2];exact Za4 (by omega) _ _
       have e2:rd d e'.f0=rd d e.f1:=by unfold rd;rw[c2]
       have e3:rb l e'.f0=rb l e.f1:=by unfold rb;rw[c2]
       rw[e3] at h4
       rw[e1]
       rcases cv with h0|h0
       ·rw[h0] at h4;cases h4
       ·omega
      ·rw[ne1 _ c2,if_neg c2];exact h8
  ·right
   exact⟨e.f1.toNat,by omega,eqb,if_pos rfl⟩
 ·rw[if_neg c]
  refine⟨lst,rk,T,ld,ll,k1,R,fun v=>by have:=TT v;omega,fun v hv=>by have:=bd v hv;show -(((t+1:Nat):Int) * 1000000)≤d.getD v 0∧d.getD v 0≤((t+1:Nat):Int) * 1000000;omega,?_,B,C⟩
  intro j e' hj hkn hlt
  by_cases hji:j=i
  ·subst hji
   rw[he] at hj
   cases hj
   dsimp only at hkn ⊢
   cases hv:rb l e.f1 with
   | false=>exact absurd ⟨hkn,Or.inl hv⟩ c
   | true=>
    refine⟨rfl,?_⟩
    apply Classical.byContradiction
    intro h0
    exact c ⟨hkn,Or.inr (by omega)⟩
  ·exact A j e' hj hkn (by split at hlt <;> split <;> omega)
theorem KInv.rnd {E:List Zac} {N k:Nat} (hE:ZbL E N) (hw:weightsIn E):∀(n i t:Nat) (s:KSt) (lst rk T),i+n=E.length→t+n≤1000000→KInv E N k i t s lst rk T→∃lst' rk' T',KInv E N k E.length (t+n) (krnd (E.drop i) s) lst' rk' T':=by
 intro n
 induction n with
 | zero=>
  intro i t s lst rk T hn _ h
  obtain rfl:i=E.length:=by omega
  rw[List.drop_length];exact⟨lst,rk,T,h⟩
 | succ n ih=>
  intro i t s lst rk T hn ht h
  have hi:i<E.length:=by omega
  rw[List.drop_eq_getElem_cons hi]
  obtain⟨lst',rk',T',h'⟩:=h.step hE hw (by omega) (Zl hi)
  rw[show t+(n+1)=t+1+n by omega]
  exact ih (i+1) (t+1) _ _ _ _ (by omega) (by omega) h'
theorem KInv.next {E:List Zac} {N k t:Nat} {s:KSt} {lst rk T} (h:KInv E N k E.length t s lst rk T):KInv E N (k+1) 0 t (s.1,s.2.1,false) lst rk T:=by
 refine⟨h.ld,h.ll,by omega,fun v=>by have:=h.R v;omega,h.TT,h.bd,?_,h.B,Or.inl rfl⟩
 intro j e hj hkn hlt
 have hjl:=(List.getElem?_eq_some_iff.1 hj).1
 rw[if_neg (by omega)] at hlt
 exact h.A j e hj hkn (by rw[if_pos hjl];omega)
def kst0 (N:Nat) (a:Nat):KSt:=(List.replicate N 0,(List.replicate N false).set a true,false)
theorem KInv.start {E:List Zac} {N a:Nat}:KInv E N 1 0 0 (kst0 N a) (fun _=>none) (fun _=>0) (fun _=>0):=by
 refine⟨by simp[kst0],by simp[kst0],Nat.le_refl _,fun _=>by omega,fun _=>by omega,?_,?_,?_,Or.inl rfl⟩
 ·intro v hv;simp[kst0,List.getD_eq_getElem?_getD,hv]
 ·intro j e _ _ hlt;rw[if_neg (by omega)] at hlt;omega
 ·intro v _ _;exact Or.inl rfl
def ZdJ (E:List Zac) (l:List Int) (a N:Nat):Nat:=match (List.range N).find? (fun i=>bit E l (i+1) a == a) with|some i=>i+1|none=>0
theorem turnB_some {E:List Zac} {l:List Int} {a N:Nat} (h:∃q,1≤q∧q≤N∧bit E l q a=a):1≤ZdJ E l a N∧ZdJ E l a N≤N∧bit E l (ZdJ E l a N) a=a∧∀i,1≤i→i<ZdJ E l a N→bit E l i a≠a:=by
 unfold ZdJ
 cases hf:(List.range N).find? (fun i=>bit E l (i+1) a == a) with
 | none=>
  obtain⟨q,h1,h2,h3⟩:=h
  rw[List.find?_eq_none] at hf
  have:=hf (q - 1) (List.mem_range.2 (by omega))
  rw[show q - 1+1=q by omega,h3] at this
  simp at this
 | some i=>
  rw[List.find?_eq_some_iff_append] at hf
  obtain⟨hp,us,bs,he,hn⟩:=hf
  have hi:i=us.length∧i<N:=by
   have h1:(List.range N)[us.length]? = some i:=by rw[he];simp
   obtain⟨h2,h3⟩:=List.getElem?_eq_some_iff.1 h1
   rw[List.getElem_range] at h3
   rw[List.length_range] at h2
   omega
  refine⟨by simp,by simp only;omega,by simpa using hp,fun j h1 h2=>?_⟩
  simp only at h2
  have hm:j - 1∈us:=by
   have h3:(List.range N)[j - 1]? = some (j - 1):=by rw[List.getElem?_range (by omega)]
   rw[he,List.getElem?_append_left (by omega)] at h3
   exact List.mem_of_getElem? h3
  have:=hn _ hm
  rw[show j - 1+1=j by omega] at this
  simpa using this
def cycB (E:List Zac) (l:List Int) (a q:Nat):List Int:=(List.range q).map fun i=>l.getD (bit E l i a) 0
theorem cycB_succ (E:List Zac) (l:List Int) (a q:Nat):cycB E l a (q+1)=cycB E l a q ++ [l.getD (bit E l q a) 0]:=by
 unfold cycB
 rw[List.range_succ,List.map_append];rfl
theorem Zd5 (E:List Zac) (l:List Int) (a q:Nat):(cycB E l a q).length=q:=by simp[cycB]
def backB (E:List Zac) (N:Nat) (s:BSt):Nat:=bit E s.2.1 N (E.getD s.2.2.toNat zE).f1.toNat
def ncB (N:Nat) (E:List Zac):List Int:=let s:=rounds E N (bst0 N);if s.2.2<0 then[] else(cycB E s.2.1 (backB E N s) (ZdJ E s.2.1 (backB E N s) N)).reverse
theorem bf_after {E:List Zac} {N:Nat} (hE:ZbL E N) (hN:1≤N) {d l:List Int} {ch:Int} (hs:(d,l,ch)=rounds E N (bst0 N)) :
  (ch=-1∧ncB N E=[])∨∃(c v q:Nat),ch=(c:Int)∧c<E.length∧v<N∧(E.getD c zE).f1=(v:Int)∧1≤q∧q≤N∧(∀m,bit E l m v<N∧0≤l.getD (bit E l m v) 0∧l.getD (bit E l m v) 0<E.length) ∧
   (∀m,bit E l (m+1) v=(E.getD (l.getD (bit E l m v) 0).toNat zE).f0.toNat)∧bit E l q (bit E l N v)=bit E l N v∧(∀i,1≤i→i<q→bit E l i (bit E l N v)≠bit E l N v)∧ncB N E=(cycB E l (bit E l N v) q).reverse:=by
 by_cases hc:ch=-1
 ·left
  refine⟨hc,?_⟩
  unfold ncB
  rw[← hs]
  simp[hc]
 ·right
  have hx:=bf_circle hE hN (by rw[← hs];exact hc)
  rw[← hs] at hx
  obtain⟨c,e,he,hce,hlt,hg,hga,hq⟩:=hx
  dsimp only at hce hlt hg hga hq
  have hcl:=(List.getElem?_eq_some_iff.1 he).1
  have hin:=hE e (List.mem_of_getElem? he)
  have hgd:E.getD c zE=e:=by rw[List.getD_eq_getElem?_getD,he];rfl
  have ht:=turnB_some hq
  have hall:∀m,Good E N l (bit E l m e.f1.toNat):=by
   intro m
   by_cases hm:m<N
   ·exact hg m hm
   ·have:=hga (m - N)
    rw[← Zcg,show m - N+N=m by omega] at this
    exact this
  refine⟨c,e.f1.toNat,ZdJ E l (bit E l N e.f1.toNat) N,hce,hcl,by omega,by rw[hgd];omega,ht.1,ht.2.1,fun m=>?_,fun m=>rfl,ht.2.2.1,ht.2.2.2,?_⟩
  ·obtain⟨h1,j,e',hj,hl,_⟩:=hall m
   have:=(List.getElem?_eq_some_iff.1 hj).1
   exact⟨h1,by omega,by omega⟩
  ·unfold ncB backB
   rw[← hs]
   simp only
   rw[if_neg (by omega),show ch.toNat=c by omega,hgd]
abbrev SSt:=List Int×List Int×List Bool×Int
def Zek (s:SSt) (i:Nat) (e:Zac):SSt:=
 if rb s.2.2.1 e.f0=true∧(rb s.2.2.1 e.f1=false∨wrap64 (rd s.1 e.f0+e.f2)<rd s.1 e.f1) then(s.1.set e.f1.toNat (wrap64 (rd s.1 e.f0+e.f2)),s.2.1.set e.f1.toNat (i:Int),s.2.2.1.set e.f1.toNat true,(i:Int)) else s
def srnd:List Zac→Nat→SSt→SSt
 | [],_,s=>s
 | e :: t,i,s=>srnd t (i+1) (Zek s i e)
theorem rb_all {N:Nat} {x:Int} (h0:0≤x) (h:x<N):rb (List.replicate N true) x=true:=by
 unfold rb
 rw[List.getD_eq_getElem?_getD,List.getElem?_replicate,if_pos (by omega)];rfl
theorem srelax_all {N i:Nat} {d l:List Int} {ch:Int} {e:Zac} (h:0≤e.f0∧e.f0<N∧0≤e.f1∧e.f1<N):Zek (d,l,List.replicate N true,ch) i e=((relax (d,l,ch) i e).1,(relax (d,l,ch) i e).2.1,List.replicate N true,(relax (d,l,ch) i e).2.2):=by
 unfold Zek relax
 dsimp only
 rw[rb_all h.1 h.2.1,rb_all h.2.2.1 h.2.2.2]
 by_cases c:wrap64 (rd d e.f0+e.f2)<rd d e.f1
 ·rw[if_pos ⟨rfl,.inr c⟩,if_pos c]
  simp
 ·rw[if_neg (by simp[c]),if_neg c]
theorem srnd_all {N:Nat}:∀(E:List Zac) (i:Nat) (d l:List Int) (ch:Int),ZbL E N→srnd E i (d,l,List.replicate N true,ch)=((rnd E i (d,l,ch)).1,(rnd E i (d,l,ch)).2.1,List.replicate N true,(rnd E i (d,l,ch)).2.2)
 | [],_,_,_,_,_=>rfl
 | e :: t,i,d,l,ch,h=>by
  show srnd t (i+1) (Zek _ i e)=_
  rw[srelax_all (h e (by simp))]
  rw[srnd_all t (i+1) _ _ _ (fun x hx=>h x (by simp[hx]))]
  rfl
abbrev IR (w:World) (B g n c:Nat) (xs:List Int):Prop:=Kd.R (Kd.int .i64) 3 w B (fun k=>k=g) (.slice (some ⟨g,0,none⟩) n c) xs
theorem IR.of {w:World} {B g n c:Nat} {ok:Nat→Prop} {xs:List Int} (h:Kd.R (Kd.int .i64) 3 w B ok (.slice (some ⟨g,0,none⟩) n c) xs):IR w B g n c xs:=
 ⟨fun k hk=>by simp[Value.ownBlock] at hk;exact hk.symm,h.2⟩
theorem IR.cell {w:World} {B g n c:Nat} {xs:List Int} (h:IR w B g n c xs) {i:Int} (h0:0≤i) (h1:i<n):w.cell? ⟨g,i.toNat,none⟩=some (.int .i64 (rd xs i))∧w.frozen? ⟨g,i.toNat,none⟩=false:=Kd.R_celln 0 h i h0 h1
theorem IR.put {w:World} {B g n c:Nat} {xs:List Int} (h:IR w B g n c xs) (i x:Int):IR (w.setCell ⟨g,i.toNat,none⟩ (.int .i64 x)) B g n c (xs.set i.toNat x):=Kd.R_putn h i x
theorem IR.far {w:World} {B g n c:Nat} {xs:List Int} (h:IR w B g n c xs) {p:Addr} (ne:g≠p.block) (u:Value):IR (w.setCell p u) B g n c xs:=Kd.R_far h (fun k hk=>by subst hk;exact ne) u
theorem IR.low {w w1:World} {B g n c:Nat} {xs:List Int} (h:IR w B g n c xs) (hb:Below w.heap.size w w1):IR w1 B g n c xs:=Kd.R_below h hb
theorem IR.lt {w:World} {B g n c:Nat} {xs:List Int} (h:IR w B g n c xs):g<w.heap.size:=Kd.R_lt h g (by simp[Value.ownBlock])
theorem IR.base {w:World} {B g n c:Nat} {xs:List Int} (h:IR w B g n c xs):B≤g:=Kd.R_base h g (by simp[Value.ownBlock])
theorem IR.reads {w:World} {B g n c:Nat} {xs:List Int} (h:IR w B g n c xs):n=xs.length∧n≤c∧Kd.C (Kd.int .i64) w (some ⟨g,0,none⟩) xs.length xs:=Kd.R_reads' h
abbrev BR (w:World) (B g n c:Nat) (xs:List Bool):Prop:=Kd.R Kd.bool 4 w B (fun k=>k=g) (.slice (some ⟨g,0,none⟩) n c) xs
theorem BR.of {w:World} {B g n c:Nat} {ok:Nat→Prop} {xs:List Bool} (h:Kd.R Kd.bool 4 w B ok (.slice (some ⟨g,0,none⟩) n c) xs):BR w B g n c xs:=
 ⟨fun k hk=>by simp[Value.ownBlock] at hk;exact hk.symm,h.2⟩
theorem BR.cell {w:World} {B g n c:Nat} {xs:List Bool} (h:BR w B g n c xs) {i:Int} (h0:0≤i) (h1:i<n):w.cell? ⟨g,i.toNat,none⟩=some (.bool (xs.getD i.toNat false))∧w.frozen? ⟨g,i.toNat,none⟩=false:=Kd.R_celln false h i h0 h1
theorem BR.put {w:World} {B g n c:Nat} {xs:List Bool} (h:BR w B g n c xs) (i:Int) (x:Bool):BR (w.setCell ⟨g,i.toNat,none⟩ (.bool x)) B g n c (xs.set i.toNat x):=Kd.R_putn h i x
theorem BR.far {w:World} {B g n c:Nat} {xs:List Bool} (h:BR w B g n c xs) {p:Addr} (ne:g≠p.block) (u:Value):BR (w.setCell p u) B g n c xs:=Kd.R_far h (fun k hk=>by subst hk;exact ne) u
theorem BR.low {w w1:World} {B g n c:Nat} {xs:List Bool} (h:BR w B g n c xs) (hb:Below w.heap.size w w1):BR w1 B g n c xs:=Kd.R_below h hb
theorem BR.lt {w:World} {B g n c:Nat} {xs:List Bool} (h:BR w B g n c xs):g<w.heap.size:=Kd.R_lt h g (by simp[Value.ownBlock])
theorem BR.base {w:World} {B g n c:Nat} {xs:List Bool} (h:BR w B g n c xs):B≤g:=Kd.R_base h g (by simp[Value.ownBlock])
def inR (a b c:Int):Bool:=decide (b≤a) && decide (a≤c)
theorem inR_f (a b c:Int):ZU.f a b c=some (inR a b c):=by
 unfold ZU.f inR
 by_cases h:a≥b
 ·rw[if_pos h,Ze (show b≤a from h),Bool.true_and]
 ·rw[if_neg h,Zf (show ¬b≤a from h),Bool.false_and]
theorem inR_q (a b c:Int) (w:World):Calls Tryz.prog 127 #[.int .i64 a,.int .i64 b,.int .i64 c] w fun e w'=>e=.returned (.bool (inR a b c))∧∃n,w'=w.drewN n:=
 (ZU.calls a b c _ w (inR_f a b c)).mono fun _ _ ⟨he,hd⟩=>⟨he,hd.out⟩
def inN (n x:Int):Bool:=decide (0≤x) && decide (x<n)
theorem inN_f (n x:Int):ZcA.f n x=some (inN n x):=by
 unfold ZcA.f inN
 by_cases h:x≥0
 ·rw[if_pos h,Ze (show(0:Int)≤x from h),Bool.true_and]
 ·rw[if_neg h,Zf (show ¬(0:Int)≤x from h),Bool.false_and]
theorem Zdt (n x:Int) (w:World):Calls Tryz.prog 84 #[.int .i64 n,.int .i64 x] w fun e w'=>e=.returned (.bool (inN n x))∧∃m,w'=w.drewN m:=
 (ZcA.calls n x _ w (inN_f n x)).mono fun _ _ ⟨he,hd⟩=>⟨he,hd.out⟩
open YtoeimopgoaffcaaGreatDoorW.PrintLast YtoeimopgoaffcaaGreatDoorW.PrintMore
attribute [local go_sem] Zau Zas ZaL ZaK Zaf Zae Zat Zar
set_option linter.unusedVariables false
set_option linter.unusedSimpArgs false
theorem ZgR.any (p:S184→Bool) (g:Nat) (lb:Array Value) (eg:∀args w,(callFunc g args).run Tryz.prog w=.ok (.enter g args) w) (A0:Option Addr) (c0:Nat) (l0:List S184) (w:World) (hr0:Kd.C k184 w A0 l0.length l0)
  (hp:∀(W:World) (x:S184),x∈l0→Below w.heap.size w W→Calls Tryz.prog g (#[.agg #[.int .i64 x.f0,.int .i64 x.f1,.int .i64 x.f2]] ++ lb) W fun e w'=>e=.returned (.bool (p x))∧Below W.heap.size W w') :
  Calls Tryz.prog 240 #[.slice A0 l0.length c0,.func (.func g) #[] lb] w fun e w'=>e=.returned (.int .i64 (Za9 p l0))∧Below w.heap.size w w':=by
 have HR0:=Za hr0;have HP:=Za hp;clear hr0 hp
 have HL:l0.length≤9223372036854775807:=HR0.out.2.1
 go_enter Tryz.func240,Tryz.ntmps240
 go_wp2
 go_loopg [5,8] l0.length (fun gg _ s8 wr=>∃kk:Nat,Aside0 (kk≤l0.length)∧Aside0 (l0.length - kk≤gg)∧s8=.int .i64 kk∧Aside0 (Below w.heap.size w wr)∧Aside0 (∀j y,j<kk→l0[j]? = some y→p y=false))
 case atStart=>exact⟨0,⟨Nat.zero_le _⟩,⟨by omega⟩,rfl,⟨Below.refl _ _⟩,⟨fun j y hj=>absurd hj (Nat.not_lt_zero _)⟩⟩
 case round=>
  obtain⟨kk,HK,HG,rfl,HB,HN⟩:=hrel
  by_cases hlt:kk<l0.length
  ·have hltz:(kk:Int)<(l0.length:Int):=by omega
   obtain⟨ad,e1,hx0,hx1,hx2⟩:=Zch HR0.out (kk:Int) (by omega) hltz
   cases e1
   replace hx0:=(HB.out.cell (Zc w _ hx0)).trans hx0
   rw[Int.toNat_natCast] at hx0
   replace hx1:=(HB.out.cell (Zc w _ hx1)).trans hx1
   rw[Int.toNat_natCast] at hx1
   replace hx2:=(HB.out.cell (Zc w _ hx2)).trans hx2
   rw[Int.toNat_natCast] at hx2
   have hxe:l0[kk]? = some (Zaw l0 (kk:Int)):=by
    unfold Zaw
    rw[Int.toNat_natCast,List.getD_eq_getElem?_getD,Zl hlt];rfl
   generalize Zaw l0 (kk:Int)=y at hx0 hx1 hx2 hxe
   have HX:=Za hxe;clear hxe
   have hcall:=HP.out wr y (List.mem_of_getElem? HX.out) HB.out
   cases hq:p y with
   | true=>
    have HQ:=Za hq
    rw[hq] at hcall
    clear hq
    go_wp2_with (go_at_fn g;refine hcall.mono ?_;rintro e w' ⟨rfl,hb⟩)
    go_ret
    exact⟨by rw[Zb1 p l0 kk y HX.out HQ.out HN.out];rfl,HB.out.trans (hb.mono HB.out.size)⟩
   | false=>
    have HQ:=Za hq
    rw[hq] at hcall
    clear hq
    go_wp2_with (go_at_fn g;refine hcall.mono ?_;rintro e w' ⟨rfl,hb⟩)
    go_roundg (l0.length - (kk+1))
    case measure=>have:=HG.out;omega
    case rel=>
     refine⟨kk+1,⟨by omega⟩,⟨by omega⟩,by go_num,⟨HB.out.trans (hb.mono HB.out.size)⟩,⟨fun j y' hj hy=>?_⟩⟩
     by_cases e:j=kk
     ·subst e
      rw[HX.out] at hy
      cases hy
      exact HQ.out
     ·exact HN.out j y' (by omega) hy
  ·have hltz:¬(kk:Int)<(l0.length:Int):=by omega
   have:kk=l0.length:=by have:=HK.out;omega
   subst this
   go_wp2
   go_ret
   exact⟨by rw[ZbX p l0 HN.out];rfl,HB.out⟩
theorem ZgS.any (p:S184→Bool) (g:Nat) (lb:Array Value) (eg:∀args w,(callFunc g args).run Tryz.prog w=.ok (.enter g args) w) (A0:Option Addr) (c0:Nat) (l0:List S184) (w:World) (hr0:Kd.C k184 w A0 l0.length l0)
  (hp:∀(W:World) (x:S184),x∈l0→Below w.heap.size w W→Calls Tryz.prog g (#[.agg #[.int .i64 x.f0,.int .i64 x.f1,.int .i64 x.f2]] ++ lb) W fun e w'=>e=.returned (.bool (p x))∧Below W.heap.size W w') :
  Calls Tryz.prog 219 #[.slice A0 l0.length c0,.func (.func g) #[] lb] w fun e w'=>e=.returned (.bool (l0.any p))∧Below w.heap.size w w':=by
 have HI:=Za (ZgR.any p g lb eg A0 c0 l0 w hr0 hp)
 clear hr0 hp
 have HE:=Za (Zdh p l0)
 go_enter Tryz.func219,Tryz.ntmps219
 go_wp2_with (go_at_call 240;refine HI.out.mono ?_;rintro e w' ⟨rfl,hb⟩)
 go_ret
 exact⟨by rw[← HE.out];rfl,hb⟩
def ZcL.f (a0:Int):Option (Bool):=if a0 > (-1000000) then(some (decide (a0<1000000))) else(some false)
theorem ZcL.calls (a0:Int) (r:Bool) (w:World) (h:ZcL.f a0=some r) :
  Calls Tryz.prog 221 #[.int .i64 a0] w fun e w'=>e=.returned (.bool r)∧ZF w w':=by
 have H:(if a0 > (-1000000) then(some (decide (a0<1000000))) else(some false))=some r:=h
 clear h
 by_cases c2:a0 > (-1000000)
 ·rw[if_pos c2] at H
  have c2b0:decide ((-1000000)<a0)=true:=Ze c2
  clear c2
  obtain rfl:=Zg H
  go_enter Tryz.func221,Tryz.ntmps221
  go_wp2
  go_ret
  exact⟨by first|rfl|(simp;done)|(simp[*];done),by repeat(first|exact ZF.refl _|apply ZF.step)⟩
 ·rw[if_neg c2] at H
  have c2b0:decide ((-1000000)<a0)=false:=Zf c2
  clear c2
  obtain rfl:=Zg H
  go_enter Tryz.func221,Tryz.ntmps221
  go_wp2
  go_ret
  exact⟨by first|rfl|(simp;done)|(simp[*];done),by repeat(first|exact ZF.refl _|apply ZF.step)⟩
def wgtB (x:Int):Bool:=decide (-1000000<x) && decide (x<1000000)
theorem wgt_f (x:Int):ZcL.f x=some (wgtB x):=by
 unfold ZcL.f wgtB
 by_cases h:x > -1000000
 ·rw[if_pos h,Ze (show(-1000000:Int)<x from h),Bool.true_and]
 ·rw[if_neg h,Zf (show ¬(-1000000:Int)<x from h),Bool.false_and]
theorem isWeight_q (x:Int) (w:World):Calls Tryz.prog 221 #[.int .i64 x] w fun e w'=>e=.returned (.bool (wgtB x))∧∃m,w'=w.drewN m:=
 (ZcL.calls x _ w (wgt_f x)).mono fun _ _ ⟨he,hd⟩=>⟨he,hd.out⟩
def Zb6 (n:Int) (x:S184):Bool:=inN n x.f0 && (inN n x.f1 && wgtB x.f2)
def ZbQ (n:Int) (ls:List S184):Bool:=!(decide (n<0)) && (!(decide (8<n)) && (!(decide (80<ls.length)) && !(ls.any fun x=>!Zb6 n x)))
def Zd3.f (a0_0:Int) (l0_1:List (S184)):Option Bool:=some (ZbQ a0_0 l0_1)
theorem Zgb.clo (B:Nat) (n:Int) (W:World) (hB:W.cell? ⟨B,0,none⟩=some (.int .i64 n)) (x:S184) :
  Calls Tryz.prog 220 #[.agg #[.int .i64 x.f0,.int .i64 x.f1,.int .i64 x.f2],.pointer (some ⟨B,0,none⟩)] W fun e w'=>e=.returned (.bool (!Zb6 n x))∧Below W.heap.size W w':=by
 have hlt:B<W.heap.size:=Zc W _ hB
 have hu:=Tryz.underlying184
 have hu3:=Tryz.underlying156
 obtain⟨f0,f1,f2⟩:=x
 have HE:=Za (show Zb6 n ⟨f0,f1,f2⟩=(inN n f0 && (inN n f1 && wgtB f2)) from rfl)
 cases b1:inN n f0 with
 | false=>
  have HF:=Za (show Zb6 n ⟨f0,f1,f2⟩=false by rw[HE.out,b1];rfl)
  clear HE
  go_enter Tryz.func220,Tryz.ntmps220
  go_wp2_with (go_at_call 84;refine(Zdt _ _ _).mono ?_;rintro e w' ⟨rfl,nd,rfl⟩)
  go_ret
  exact⟨by rw[HF.out];rfl,by repeat(first|exact Below.refl _ _|apply Zo|apply Zm|apply ZaN)⟩
 | true=>
 cases b2:inN n f1 with
 | false=>
  have HF:=Za (show Zb6 n ⟨f0,f1,f2⟩=false by rw[HE.out,b1,b2];rfl)
  clear HE
  go_enter Tryz.func220,Tryz.ntmps220
  go_wp2_with (go_at_call 84;refine(Zdt _ _ _).mono ?_;rintro e w' ⟨rfl,nd,rfl⟩)
  go_ret
  exact⟨by rw[HF.out];rfl,by repeat(first|exact Below.refl _ _|apply Zo|apply Zm|apply ZaN)⟩
 | true=>
 have HF:=Za (show Zb6 n ⟨f0,f1,f2⟩=wgtB f2 by rw[HE.out,b1,b2];rfl)
 clear HE
 go_enter Tryz.func220,Tryz.ntmps220
 go_wp2_with (first|(go_at_call 84;refine(Zdt _ _ _).mono ?_;rintro e w' ⟨rfl,nd,rfl⟩)|(go_at_call 221;refine(isWeight_q _ _).mono ?_;rintro e w' ⟨rfl,nd,rfl⟩))
 go_ret
 exact⟨by rw[HF.out];rfl,by repeat(first|exact Below.refl _ _|apply Zo|apply Zm|apply ZaN)⟩
theorem Zd3.calls (a0_0:Int) (A0_1:Option Addr) (c0_1:Nat) (l0_1:List (S184)) (r:Bool) (w:World) (hr0_1:Kd.C k184 w A0_1 l0_1.length l0_1) (hc0_1:l0_1.length≤c0_1) (h:Zd3.f a0_0 l0_1=some r) :
  Calls Tryz.prog 203 #[.agg #[.int .i64 a0_0,.slice A0_1 l0_1.length c0_1]] w fun e w'=>e=.returned (.bool r)∧Below w.heap.size w w':=by
 obtain rfl:=Zg h
 have hL:l0_1.length≤9223372036854775807:=hr0_1.2.1
 have HC:=Za fun (W:World) (B:Nat) (hb:Below w.heap.size w W) (hcell:W.cell? ⟨B,0,none⟩=some (.int .i64 a0_0))=>ZgS.any (fun x=>!Zb6 a0_0 x) 220 #[.pointer (some ⟨B,0,none⟩)] (enters_of Tryz.func220 (by kernel_rfl) rfl) A0_1 c0_1 l0_1 W (Zb hr0_1 hb)
    (fun W' x _ hb'=>Zgb.clo B a0_0 W' (Zx hb' hcell) x)
 have hu:=Tryz.underlying156
 have HB:=Za (Zo (Below.refl w.heap.size w) (.cells #[.int .i64 a0_0,.slice A0_1 l0_1.length c0_1] 156))
 clear hr0_1 h
 cases b1:decide (a0_0<0) with
 | true=>
  have HF:=Za (show ZbQ a0_0 l0_1=false by unfold ZbQ;rw[b1];rfl)
  go_enter Tryz.func203,Tryz.ntmps203
  go_wp2
  go_ret
  exact⟨by rw[HF.out];rfl,HB.out⟩
 | false=>
 cases b2:decide (8<a0_0) with
 | true=>
  have HF:=Za (show ZbQ a0_0 l0_1=false by unfold ZbQ;rw[b1,b2];rfl)
  go_enter Tryz.func203,Tryz.ntmps203
  go_wp2
  go_ret
  exact⟨by rw[HF.out];rfl,HB.out⟩
 | false=>
 by_cases q3:80<l0_1.length
 ·have b3:decide (80<l0_1.length)=true:=Ze q3
  have z3:(80:Int)<(l0_1.length:Int):=by omega
  have HF:=Za (show ZbQ a0_0 l0_1=false by unfold ZbQ;rw[b1,b2,b3];rfl)
  clear b3 q3
  go_enter Tryz.func203,Tryz.ntmps203
  go_wp2
  go_ret
  exact⟨by rw[HF.out];rfl,HB.out⟩
 ·have b3:decide (80<l0_1.length)=false:=Zf q3
  have z3:¬(80:Int)<(l0_1.length:Int):=by omega
  have HF:=Za (show ZbQ a0_0 l0_1=!(l0_1.any fun x=>!Zb6 a0_0 x) by unfold ZbQ;rw[b1,b2,b3];rfl)
  clear b3 q3
  generalize l0_1.any (fun x=>!Zb6 a0_0 x)=q at HC HF
  go_enter Tryz.func203,Tryz.ntmps203
  go_wp2_with fail
  refine(HC.out _ _ HB.out (by go_simp)).mono ?_
  rintro e w' ⟨rfl,hb⟩
  go_wp2
  go_ret
  exact⟨by rw[HF.out];rfl,HB.out.trans (hb.mono HB.out.size)⟩
mutual
def Z7.j0:Nat→Bool→Int→List (S184)→Option (Bool)
 | 0,_,_,_=>none
 | k+1,x14,x201002000,x201002001=>if x14=true then(some false) else(Z7.l0 k x201002001 (x201002001.length:Int) 0 x201002000 x201002001)
def Z7.l0:Nat→List (S184)→Int→Int→Int→List (S184)→Option (Bool)
 | 0,_,_,_,_,_=>none
 | k+1,x16,x17,x18,x201002000,x201002001=>if x18<x17 then(if 0≤x18 then(if x18<(x16.length:Int) then((ZU.f ((Zaw x16 x18).f0) 0 (wrap64 (x201002000 - 1))).bind fun t5=>(if t5=true then((ZU.f ((Zaw x16 x18).f1) 0 (wrap64 (x201002000 - 1))).bind fun t6=>(if t6=true then((ZU.f ((Zaw x16 x18).f2) (-999999) 999999).bind fun t7=>(if t7=true then(Z7.l0 k x16 x17 (wrap64 (x18+1)) x201002000 x201002001) else(some false))) else(some false))) else(some false))) else(none)) else(none)) else(some true)
end
def Z7.f (k:Nat) (a0_0:Int) (l0_1:List (S184)):Option (Bool):=(ZU.f a0_0 0 8).bind fun t2=>(if t2=true then(Z7.j0 k (decide ((l0_1.length:Int) > 80)) a0_0 l0_1) else(Z7.j0 k true a0_0 l0_1))
theorem Z7.calls (k:Nat) (a0_0:Int) (A0_1:Option Addr) (c0_1:Nat) (l0_1:List (S184)) (r:Bool) (w:World) (hr0_1:Kd.C k184 w A0_1 l0_1.length l0_1) (hc0_1:l0_1.length≤c0_1) (h:Z7.f k a0_0 l0_1=some r) :
  Calls Tryz.prog 201 #[.agg #[.int .i64 a0_0,.slice A0_1 l0_1.length c0_1]] w fun e w'=>e=.returned (.bool r)∧Below w.heap.size w w':=by
 have hu156:=Tryz.underlying156
 have hu184:=Tryz.underlying184
 have HR0_1:=Za hr0_1;have HC0_1:=Za hc0_1;clear hr0_1 hc0_1
 have HB:=Za (Below.refl w.heap.size w)
 have H:((ZU.f a0_0 0 8).bind fun t2=>(if t2=true then(Z7.j0 k (decide ((l0_1.length:Int) > 80)) a0_0 l0_1) else(Z7.j0 k true a0_0 l0_1)))=some r:=h
 clear h;have HC2:=Za H;clear H
 go_enter Tryz.func201,Tryz.ntmps201
 go_upto_region 1 with (first|((with_reducible refine ZG (N:=1) rfl ?_);refine ZH ?hg (N:=1) ?hd (cs:=#[.int .i64 a0_0,.slice A0_1 l0_1.length c0_1]) (t:=156) ?hr ?_;(case hd=>rfl);(case hg=>rfl);(case hr=>first|(go_simp;done)|(go_simp;rfl));intro gb1 hg w3 hbox hb;have BK1:=Za (hbox);have GW1:=Za ((by rw[hg];exact(Zv (by exact HB.out)):w.heap.size≤gb1));have GE1:=Za ((by rw[hg];exact(Zv (by exact HB.out)):w.heap.size≤gb1));replace HB:=Za (Zq (by exact HB.out) hb);clear hb hbox hg))
 (try simp only[Act.put,List.setIfInBounds_toArray,List.set_cons_zero,List.set_cons_succ])
 go_cut [14] (fun v14 wc=>∃(kq:Nat) (x14_1:Bool),v14=.bool x14_1∧Aside0 (Z7.j0 kq x14_1 a0_0 l0_1=some r)∧Aside0 (kq≤k)∧Aside0 (wc.heap[gb1]? = some (.cells #[.int .i64 a0_0,(.slice A0_1 l0_1.length c0_1)] 156 (0,0)))∧Aside0 (Below w.heap.size w wc))
 case first=>
  have H:=HC2.out
  clear HC2
  replace H:=Zh H
  obtain⟨t2,A40,H⟩:=H;have A4:=Za A40;clear A40
  by_cases c5:t2=true
  ·subst c5
   rw[if_pos rfl] at H
   have H':=Za H
   clear H
   have hcz6_0:w3.cell? ⟨gb1,0,none⟩=some (.int .i64 a0_0):=(Zn BK1.out 0).trans rfl
   have hcz6_1:w3.cell? ⟨gb1,1,none⟩=some (.slice A0_1 l0_1.length c0_1):=(Zn BK1.out 1).trans rfl
   have hfz6_0:=Zt BK1.out 0
   have hfz6_1:=Zt BK1.out 1
   go_wp2_with (first|((with_reducible refine ZJ (f:=127) rfl ?_);refine ZY (some 7) rfl rfl Tryz.func127 (by kernel_rfl) rfl #[.int .i64 a0_0,.int .i64 0,.int .i64 8] rfl (by(try simp only[List.map_toArray,List.map_cons,List.map_nil]);first|done|rfl|(simp only[Zk,Zj];rfl)) ?_;(with_reducible refine(ZU.calls a0_0 0 8 true _ A4.out).mono ?_);rintro e w' ⟨rfl,⟨nd,rfl⟩⟩;refine⟨_,rfl,?_⟩))
   go_meet
   case rel=>exact⟨_,(decide ((l0_1.length:Int) > 80)),(by first|rfl|(simp;done)|(simp[*];done)),H',⟨by first|omega|exact Nat.le_refl _⟩,⟨by(with_reducible repeat(first|refine ZD ?_ _|refine ZE ?_|refine ZC ?_ _));exact BK1.out⟩,⟨by repeat(first|(with_reducible first|exact HB.out|apply Zo|apply Zm|apply Zp|refine Zs ?_ GE1.out)|exact HB.out)⟩⟩
  ·replace c5:=Bool.eq_false_iff.mpr c5
   subst c5
   have H1:(Z7.j0 k true a0_0 l0_1)=some r:=by rw[if_neg (show ¬(false=true) by decide)] at H;exact H
   clear H
   have H:=H1
   clear H1
   have H':=Za H
   clear H
   have hcz7_0:w3.cell? ⟨gb1,0,none⟩=some (.int .i64 a0_0):=(Zn BK1.out 0).trans rfl
   have hcz7_1:w3.cell? ⟨gb1,1,none⟩=some (.slice A0_1 l0_1.length c0_1):=(Zn BK1.out 1).trans rfl
   have hfz7_0:=Zt BK1.out 0
   have hfz7_1:=Zt BK1.out 1
   go_wp2_with (first|((with_reducible refine ZJ (f:=127) rfl ?_);refine ZY (some 7) rfl rfl Tryz.func127 (by kernel_rfl) rfl #[.int .i64 a0_0,.int .i64 0,.int .i64 8] rfl (by(try simp only[List.map_toArray,List.map_cons,List.map_nil]);first|done|rfl|(simp only[Zk,Zj];rfl)) ?_;(with_reducible refine(ZU.calls a0_0 0 8 false _ A4.out).mono ?_);rintro e w' ⟨rfl,⟨nd,rfl⟩⟩;refine⟨_,rfl,?_⟩))
   go_meet
   case rel=>exact⟨_,(true),(by first|rfl|(simp;done)|(simp[*];done)),H',⟨by first|omega|exact Nat.le_refl _⟩,⟨by(with_reducible repeat(first|refine ZD ?_ _|refine ZE ?_|refine ZC ?_ _));exact BK1.out⟩,⟨by repeat(first|(with_reducible first|exact HB.out|apply Zo|apply Zm|apply Zp|refine Zs ?_ GE1.out)|exact HB.out)⟩⟩
 case rest=>
  clear HC2
  try clear c1
  try clear c2
  try clear p2
  try clear c5
  try clear hcz6_0
  try clear hcz6_1
  try clear hcz7_0
  try clear hcz7_1
  try clear hfz6_0
  try clear hfz6_1
  try clear hfz7_0
  try clear hfz7_1
  obtain⟨kq,x14_1,rfl,HA,HJ1,BK1,HB⟩:=hcut
  cases kq with
  | zero=>exact absurd HA.out (by simp[Z7.j0])
  | succ kj1=>
   have H:=HA.out
   clear HA
   simp only[Z7.j0] at H
   by_cases c8:x14_1=true
   ·subst c8
    rw[if_pos rfl] at H
    obtain rfl:=Zg H
    go_wp2
    go_ret
    exact⟨by first|rfl|(simp[ZB,ZA] <;> rfl)|(simp[*,ZB,ZA] <;> rfl),by repeat(first|(with_reducible first|exact HB.out|apply Zo|apply Zm|apply Zp|refine Zs ?_ GE1.out)|exact HB.out)⟩
   ·replace c8:=Bool.eq_false_iff.mpr c8
    subst c8
    have H1:(Z7.l0 kj1 l0_1 (l0_1.length:Int) 0 a0_0 l0_1)=some r:=by rw[if_neg (show ¬(false=true) by decide)] at H;exact H
    clear H
    have H:=H1
    clear H1
    have H':=Za H
    clear H
    have hcz9_0:wc.cell? ⟨gb1,0,none⟩=some (.int .i64 a0_0):=(Zn BK1.out 0).trans rfl
    have hcz9_1:wc.cell? ⟨gb1,1,none⟩=some (.slice A0_1 l0_1.length c0_1):=(Zn BK1.out 1).trans rfl
    have hfz9_0:=Zt BK1.out 0
    have hfz9_1:=Zt BK1.out 1
    go_wp2
    go_loopg [18] kj1 (fun kq v18 w'=>∃(x18_2:Int),v18=.int .i64 x18_2∧Aside0 (Z7.l0 kq l0_1 (l0_1.length:Int) x18_2 a0_0 l0_1=some r)∧Aside0 (kq≤kj1)∧Aside0 (w'.heap[gb1]? = some (.cells #[.int .i64 a0_0,(.slice A0_1 l0_1.length c0_1)] 156 (0,0)))∧Aside0 (Below w.heap.size w w'))
    case atStart=>exact⟨(0),(by first|rfl|(simp;done)|(simp[*];done)),H',⟨Nat.le_refl _⟩,⟨by(with_reducible repeat(first|refine ZD ?_ _|refine ZE ?_|refine ZC ?_ _));exact BK1.out⟩,⟨by repeat(first|(with_reducible first|exact HB.out|apply Zo|apply Zm|apply Zp|refine Zs ?_ GE1.out)|exact HB.out)⟩⟩
    case round=>
     clear H'
     try clear c1
     try clear c2
     try clear p2
     try clear c5
     try clear c8
     try clear hcz6_0
     try clear hcz6_1
     try clear hcz7_0
     try clear hcz7_1
     try clear hcz9_0
     try clear hcz9_1
     try clear hfz6_0
     try clear hfz6_1
     try clear hfz7_0
     try clear hfz7_1
     try clear hfz9_0
     try clear hfz9_1
     try clear p2
     obtain⟨x18_2,rfl,HA,HK2,BK1,HB⟩:=hrel
     cases gk with
     | zero=>exact absurd HA.out (by simp[Z7.l0])
     | succ k2=>
      have H:=HA.out
      clear HA
      simp only[Z7.l0] at H
      by_cases c10:x18_2<(l0_1.length:Int)
      ·rw[if_pos c10] at H
       have c10b0:decide (x18_2<(l0_1.length:Int))=true:=Ze c10
       clear c10
       by_cases c11:0≤x18_2
       ·rw[if_pos c11] at H
        have c11b0:decide (0≤x18_2)=true:=Ze c11
        clear c11
        by_cases c12:x18_2<(l0_1.length:Int)
        ·rw[if_pos c12] at H
         have c12b0:decide (x18_2<(l0_1.length:Int))=true:=Ze c12
         clear c12
         replace H:=Zh H
         obtain⟨t5,A130,H⟩:=H;have A13:=Za A130;clear A130
         by_cases c14:t5=true
         ·subst c14
          rw[if_pos rfl] at H
          replace H:=Zh H
          obtain⟨t6,A150,H⟩:=H;have A15:=Za A150;clear A150
          by_cases c16:t6=true
          ·subst c16
           rw[if_pos rfl] at H
           replace H:=Zh H
           obtain⟨t7,A170,H⟩:=H;have A17:=Za A170;clear A170
           by_cases c18:t7=true
           ·subst c18
            rw[if_pos rfl] at H
            have H':=Za H
            clear H
            have p3:0≤(x18_2:Int):=Zd (by with_reducible assumption)
            have q3:x18_2<(l0_1.length:Int):=Zd (by with_reducible assumption)
            obtain⟨ad3,e3,hx3_0,hx3_1,hx3_2⟩:=Zch HR0_1.out x18_2 p3 q3
            cases e3
            replace hx3_0:=(HB.out.cell (Zc w _ hx3_0)).trans hx3_0
            replace hx3_1:=(HB.out.cell (Zc w _ hx3_1)).trans hx3_1
            replace hx3_2:=(HB.out.cell (Zc w _ hx3_2)).trans hx3_2
            replace p3:=eq_true p3
            replace q3:=eq_true q3
            go_wp2_with (first|((with_reducible refine ZG (N:=4) rfl ?_);refine ZH ?hg (N:=4) ?hd (cs:=#[.int .i64 0,.int .i64 0,.int .i64 0]) (t:=184) ?hr ?_;(case hd=>rfl);(case hg=>rfl);(case hr=>first|(go_simp;done)|(go_simp;rfl));intro gb4 hg w19 hbox hb;have BK4:=Za (hbox);have GW4:=Za ((by rw[hg];exact(Zv (by exact HB.out)):w.heap.size≤gb4));have GE4:=Za ((by rw[hg];exact(Zv (by exact HB.out)):w.heap.size≤gb4));have NB1_4:=Za ((by rw[hg];exact Nat.ne_of_lt (ZK (g:=gb1) (o:=.cells #[.int .i64 a0_0,.slice (some ad3) l0_1.length c0_1] 156 (0,0)) (by exact BK1.out)):gb1≠gb4));have NB4_1:=Za ((by rw[hg];exact Nat.ne_of_gt (ZK (g:=gb1) (o:=.cells #[.int .i64 a0_0,.slice (some ad3) l0_1.length c0_1] 156 (0,0)) (by exact BK1.out)):gb4≠gb1));replace BK1:=Za (Zw (g:=gb1) (o:=.cells #[.int .i64 a0_0,.slice (some ad3) l0_1.length c0_1] 156 (0,0)) (by exact BK1.out) hb);replace HB:=Za (Zq (by exact HB.out) hb);clear hb hbox hg;have hnb20:=NB4_1.out;have hnc20:=NB1_4.out;have hcz21_0:w19.cell? ⟨gb4,0,none⟩=some (.int .i64 0):=(Zn BK4.out 0).trans rfl;have hcz21_1:w19.cell? ⟨gb4,1,none⟩=some (.int .i64 0):=(Zn BK4.out 1).trans rfl;have hcz21_2:w19.cell? ⟨gb4,2,none⟩=some (.int .i64 0):=(Zn BK4.out 2).trans rfl;have hfz21_0:=Zt BK4.out 0;have hfz21_1:=Zt BK4.out 1;have hfz21_2:=Zt BK4.out 2;have hcz22_0:w19.cell? ⟨gb1,0,none⟩=some (.int .i64 a0_0):=(Zn BK1.out 0).trans rfl;have hcz22_1:w19.cell? ⟨gb1,1,none⟩=some (.slice (some ad3) l0_1.length c0_1):=(Zn BK1.out 1).trans rfl)|((with_reducible refine ZJ (f:=127) rfl ?_);refine ZY (some 27) rfl rfl Tryz.func127 (by kernel_rfl) rfl #[.int .i64 ((Zaw l0_1 x18_2).f0),.int .i64 0,.int .i64 (wrap64 (a0_0 - 1))] rfl (by(try simp only[List.map_toArray,List.map_cons,List.map_nil]);first|done|rfl|(simp only[Zk,Zj];rfl)) ?_;(with_reducible refine(ZU.calls ((Zaw l0_1 x18_2).f0) 0 (wrap64 (a0_0 - 1)) true _ A13.out).mono ?_);rintro e w' ⟨rfl,⟨nd,rfl⟩⟩;refine⟨_,rfl,?_⟩)|(go_at_call 127;(with_reducible refine(ZU.calls ((Zaw l0_1 x18_2).f1) 0 (wrap64 (a0_0 - 1)) true _ A15.out).mono ?_);rintro e w' ⟨rfl,⟨nd,rfl⟩⟩)|(go_at_call 127;(with_reducible refine(ZU.calls ((Zaw l0_1 x18_2).f2) (-999999) 999999 true _ A17.out).mono ?_);rintro e w' ⟨rfl,⟨nd,rfl⟩⟩))
            go_roundg k2
            case measure=>have:=HJ1.out;have:=HK2.out;omega
            case rel=>exact⟨(wrap64 (x18_2+1)),(by first|rfl|(simp;done)|(simp[*];done)),H',⟨by have:=HJ1.out;have:=HK2.out;omega⟩,⟨by(with_reducible repeat(first|refine ZD ?_ _|refine ZE ?_|refine ZC ?_ _));refine ZP ?_ NB1_4.out _;(with_reducible repeat(first|refine ZD ?_ _|refine ZE ?_|refine ZC ?_ _));refine ZP ?_ NB1_4.out _;(with_reducible repeat(first|refine ZD ?_ _|refine ZE ?_|refine ZC ?_ _));refine ZP ?_ NB1_4.out _;(with_reducible repeat(first|refine ZD ?_ _|refine ZE ?_|refine ZC ?_ _));exact BK1.out⟩,⟨by repeat(first|(with_reducible first|exact HB.out|apply Zo|apply Zm|apply Zp|refine Zs ?_ GE1.out|refine Zs ?_ GE4.out)|exact HB.out)⟩⟩
           ·replace c18:=Bool.eq_false_iff.mpr c18
            subst c18
            have H1:(some false)=some r:=by rw[if_neg (show ¬(false=true) by decide)] at H;exact H
            clear H
            have H:=H1
            clear H1
            obtain rfl:=Zg H
            have p3:0≤(x18_2:Int):=Zd (by with_reducible assumption)
            have q3:x18_2<(l0_1.length:Int):=Zd (by with_reducible assumption)
            obtain⟨ad3,e3,hx3_0,hx3_1,hx3_2⟩:=Zch HR0_1.out x18_2 p3 q3
            cases e3
            replace hx3_0:=(HB.out.cell (Zc w _ hx3_0)).trans hx3_0
            replace hx3_1:=(HB.out.cell (Zc w _ hx3_1)).trans hx3_1
            replace hx3_2:=(HB.out.cell (Zc w _ hx3_2)).trans hx3_2
            replace p3:=eq_true p3
            replace q3:=eq_true q3
            go_wp2_with (first|((with_reducible refine ZG (N:=4) rfl ?_);refine ZH ?hg (N:=4) ?hd (cs:=#[.int .i64 0,.int .i64 0,.int .i64 0]) (t:=184) ?hr ?_;(case hd=>rfl);(case hg=>rfl);(case hr=>first|(go_simp;done)|(go_simp;rfl));intro gb4 hg w23 hbox hb;have BK4:=Za (hbox);have GW4:=Za ((by rw[hg];exact(Zv (by exact HB.out)):w.heap.size≤gb4));have GE4:=Za ((by rw[hg];exact(Zv (by exact HB.out)):w.heap.size≤gb4));have NB1_4:=Za ((by rw[hg];exact Nat.ne_of_lt (ZK (g:=gb1) (o:=.cells #[.int .i64 a0_0,.slice (some ad3) l0_1.length c0_1] 156 (0,0)) (by exact BK1.out)):gb1≠gb4));have NB4_1:=Za ((by rw[hg];exact Nat.ne_of_gt (ZK (g:=gb1) (o:=.cells #[.int .i64 a0_0,.slice (some ad3) l0_1.length c0_1] 156 (0,0)) (by exact BK1.out)):gb4≠gb1));replace BK1:=Za (Zw (g:=gb1) (o:=.cells #[.int .i64 a0_0,.slice (some ad3) l0_1.length c0_1] 156 (0,0)) (by exact BK1.out) hb);replace HB:=Za (Zq (by exact HB.out) hb);clear hb hbox hg;have hnb24:=NB4_1.out;have hnc24:=NB1_4.out;have hcz25_0:w23.cell? ⟨gb4,0,none⟩=some (.int .i64 0):=(Zn BK4.out 0).trans rfl;have hcz25_1:w23.cell? ⟨gb4,1,none⟩=some (.int .i64 0):=(Zn BK4.out 1).trans rfl;have hcz25_2:w23.cell? ⟨gb4,2,none⟩=some (.int .i64 0):=(Zn BK4.out 2).trans rfl;have hfz25_0:=Zt BK4.out 0;have hfz25_1:=Zt BK4.out 1;have hfz25_2:=Zt BK4.out 2;have hcz26_0:w23.cell? ⟨gb1,0,none⟩=some (.int .i64 a0_0):=(Zn BK1.out 0).trans rfl;have hcz26_1:w23.cell? ⟨gb1,1,none⟩=some (.slice (some ad3) l0_1.length c0_1):=(Zn BK1.out 1).trans rfl)|((with_reducible refine ZJ (f:=127) rfl ?_);refine ZY (some 27) rfl rfl Tryz.func127 (by kernel_rfl) rfl #[.int .i64 ((Zaw l0_1 x18_2).f0),.int .i64 0,.int .i64 (wrap64 (a0_0 - 1))] rfl (by(try simp only[List.map_toArray,List.map_cons,List.map_nil]);first|done|rfl|(simp only[Zk,Zj];rfl)) ?_;(with_reducible refine(ZU.calls ((Zaw l0_1 x18_2).f0) 0 (wrap64 (a0_0 - 1)) true _ A13.out).mono ?_);rintro e w' ⟨rfl,⟨nd,rfl⟩⟩;refine⟨_,rfl,?_⟩)|(go_at_call 127;(with_reducible refine(ZU.calls ((Zaw l0_1 x18_2).f1) 0 (wrap64 (a0_0 - 1)) true _ A15.out).mono ?_);rintro e w' ⟨rfl,⟨nd,rfl⟩⟩)|(go_at_call 127;(with_reducible refine(ZU.calls ((Zaw l0_1 x18_2).f2) (-999999) 999999 false _ A17.out).mono ?_);rintro e w' ⟨rfl,⟨nd,rfl⟩⟩))
            go_ret
            exact⟨by first|rfl|(simp[ZB,ZA] <;> rfl)|(simp[*,ZB,ZA] <;> rfl),by repeat(first|(with_reducible first|exact HB.out|apply Zo|apply Zm|apply Zp|refine Zs ?_ GE1.out|refine Zs ?_ GE4.out)|exact HB.out)⟩
          ·replace c16:=Bool.eq_false_iff.mpr c16
           subst c16
           have H1:(some false)=some r:=by rw[if_neg (show ¬(false=true) by decide)] at H;exact H
           clear H
           have H:=H1
           clear H1
           obtain rfl:=Zg H
           have p3:0≤(x18_2:Int):=Zd (by with_reducible assumption)
           have q3:x18_2<(l0_1.length:Int):=Zd (by with_reducible assumption)
           obtain⟨ad3,e3,hx3_0,hx3_1,hx3_2⟩:=Zch HR0_1.out x18_2 p3 q3
           cases e3
           replace hx3_0:=(HB.out.cell (Zc w _ hx3_0)).trans hx3_0
           replace hx3_1:=(HB.out.cell (Zc w _ hx3_1)).trans hx3_1
           replace hx3_2:=(HB.out.cell (Zc w _ hx3_2)).trans hx3_2
           replace p3:=eq_true p3
           replace q3:=eq_true q3
           go_wp2_with (first|((with_reducible refine ZG (N:=4) rfl ?_);refine ZH ?hg (N:=4) ?hd (cs:=#[.int .i64 0,.int .i64 0,.int .i64 0]) (t:=184) ?hr ?_;(case hd=>rfl);(case hg=>rfl);(case hr=>first|(go_simp;done)|(go_simp;rfl));intro gb4 hg w27 hbox hb;have BK4:=Za (hbox);have GW4:=Za ((by rw[hg];exact(Zv (by exact HB.out)):w.heap.size≤gb4));have GE4:=Za ((by rw[hg];exact(Zv (by exact HB.out)):w.heap.size≤gb4));have NB1_4:=Za ((by rw[hg];exact Nat.ne_of_lt (ZK (g:=gb1) (o:=.cells #[.int .i64 a0_0,.slice (some ad3) l0_1.length c0_1] 156 (0,0)) (by exact BK1.out)):gb1≠gb4));have NB4_1:=Za ((by rw[hg];exact Nat.ne_of_gt (ZK (g:=gb1) (o:=.cells #[.int .i64 a0_0,.slice (some ad3) l0_1.length c0_1] 156 (0,0)) (by exact BK1.out)):gb4≠gb1));replace BK1:=Za (Zw (g:=gb1) (o:=.cells #[.int .i64 a0_0,.slice (some ad3) l0_1.length c0_1] 156 (0,0)) (by exact BK1.out) hb);replace HB:=Za (Zq (by exact HB.out) hb);clear hb hbox hg;have hnb28:=NB4_1.out;have hnc28:=NB1_4.out;have hcz29_0:w27.cell? ⟨gb4,0,none⟩=some (.int .i64 0):=(Zn BK4.out 0).trans rfl;have hcz29_1:w27.cell? ⟨gb4,1,none⟩=some (.int .i64 0):=(Zn BK4.out 1).trans rfl;have hcz29_2:w27.cell? ⟨gb4,2,none⟩=some (.int .i64 0):=(Zn BK4.out 2).trans rfl;have hfz29_0:=Zt BK4.out 0;have hfz29_1:=Zt BK4.out 1;have hfz29_2:=Zt BK4.out 2;have hcz30_0:w27.cell? ⟨gb1,0,none⟩=some (.int .i64 a0_0):=(Zn BK1.out 0).trans rfl;have hcz30_1:w27.cell? ⟨gb1,1,none⟩=some (.slice (some ad3) l0_1.length c0_1):=(Zn BK1.out 1).trans rfl)|((with_reducible refine ZJ (f:=127) rfl ?_);refine ZY (some 27) rfl rfl Tryz.func127 (by kernel_rfl) rfl #[.int .i64 ((Zaw l0_1 x18_2).f0),.int .i64 0,.int .i64 (wrap64 (a0_0 - 1))] rfl (by(try simp only[List.map_toArray,List.map_cons,List.map_nil]);first|done|rfl|(simp only[Zk,Zj];rfl)) ?_;(with_reducible refine(ZU.calls ((Zaw l0_1 x18_2).f0) 0 (wrap64 (a0_0 - 1)) true _ A13.out).mono ?_);rintro e w' ⟨rfl,⟨nd,rfl⟩⟩;refine⟨_,rfl,?_⟩)|(go_at_call 127;(with_reducible refine(ZU.calls ((Zaw l0_1 x18_2).f1) 0 (wrap64 (a0_0 - 1)) false _ A15.out).mono ?_);rintro e w' ⟨rfl,⟨nd,rfl⟩⟩))
           go_ret
           exact⟨by first|rfl|(simp[ZB,ZA] <;> rfl)|(simp[*,ZB,ZA] <;> rfl),by repeat(first|(with_reducible first|exact HB.out|apply Zo|apply Zm|apply Zp|refine Zs ?_ GE1.out|refine Zs ?_ GE4.out)|exact HB.out)⟩
         ·replace c14:=Bool.eq_false_iff.mpr c14
          subst c14
          have H1:(some false)=some r:=by rw[if_neg (show ¬(false=true) by decide)] at H;exact H
          clear H
          have H:=H1
          clear H1
          obtain rfl:=Zg H
          have p3:0≤(x18_2:Int):=Zd (by with_reducible assumption)
          have q3:x18_2<(l0_1.length:Int):=Zd (by with_reducible assumption)
          obtain⟨ad3,e3,hx3_0,hx3_1,hx3_2⟩:=Zch HR0_1.out x18_2 p3 q3
          cases e3
          replace hx3_0:=(HB.out.cell (Zc w _ hx3_0)).trans hx3_0
          replace hx3_1:=(HB.out.cell (Zc w _ hx3_1)).trans hx3_1
          replace hx3_2:=(HB.out.cell (Zc w _ hx3_2)).trans hx3_2
          replace p3:=eq_true p3
          replace q3:=eq_true q3
          go_wp2_with (first|((with_reducible refine ZG (N:=4) rfl ?_);refine ZH ?hg (N:=4) ?hd (cs:=#[.int .i64 0,.int .i64 0,.int .i64 0]) (t:=184) ?hr ?_;(case hd=>rfl);(case hg=>rfl);(case hr=>first|(go_simp;done)|(go_simp;rfl));intro gb4 hg w31 hbox hb;have BK4:=Za (hbox);have GW4:=Za ((by rw[hg];exact(Zv (by exact HB.out)):w.heap.size≤gb4));have GE4:=Za ((by rw[hg];exact(Zv (by exact HB.out)):w.heap.size≤gb4));have NB1_4:=Za ((by rw[hg];exact Nat.ne_of_lt (ZK (g:=gb1) (o:=.cells #[.int .i64 a0_0,.slice (some ad3) l0_1.length c0_1] 156 (0,0)) (by exact BK1.out)):gb1≠gb4));have NB4_1:=Za ((by rw[hg];exact Nat.ne_of_gt (ZK (g:=gb1) (o:=.cells #[.int .i64 a0_0,.slice (some ad3) l0_1.length c0_1] 156 (0,0)) (by exact BK1.out)):gb4≠gb1));replace BK1:=Za (Zw (g:=gb1) (o:=.cells #[.int .i64 a0_0,.slice (some ad3) l0_1.length c0_1] 156 (0,0)) (by exact BK1.out) hb);replace HB:=Za (Zq (by exact HB.out) hb);clear hb hbox hg;have hnb32:=NB4_1.out;have hnc32:=NB1_4.out;have hcz33_0:w31.cell? ⟨gb4,0,none⟩=some (.int .i64 0):=(Zn BK4.out 0).trans rfl;have hcz33_1:w31.cell? ⟨gb4,1,none⟩=some (.int .i64 0):=(Zn BK4.out 1).trans rfl;have hcz33_2:w31.cell? ⟨gb4,2,none⟩=some (.int .i64 0):=(Zn BK4.out 2).trans rfl;have hfz33_0:=Zt BK4.out 0;have hfz33_1:=Zt BK4.out 1;have hfz33_2:=Zt BK4.out 2;have hcz34_0:w31.cell? ⟨gb1,0,none⟩=some (.int .i64 a0_0):=(Zn BK1.out 0).trans rfl;have hcz34_1:w31.cell? ⟨gb1,1,none⟩=some (.slice (some ad3) l0_1.length c0_1):=(Zn BK1.out 1).trans rfl)|((with_reducible refine ZJ (f:=127) rfl ?_);refine ZY (some 27) rfl rfl Tryz.func127 (by kernel_rfl) rfl #[.int .i64 ((Zaw l0_1 x18_2).f0),.int .i64 0,.int .i64 (wrap64 (a0_0 - 1))] rfl (by(try simp only[List.map_toArray,List.map_cons,List.map_nil]);first|done|rfl|(simp only[Zk,Zj];rfl)) ?_;(with_reducible refine(ZU.calls ((Zaw l0_1 x18_2).f0) 0 (wrap64 (a0_0 - 1)) false _ A13.out).mono ?_);rintro e w' ⟨rfl,⟨nd,rfl⟩⟩;refine⟨_,rfl,?_⟩))
          go_ret
          exact⟨by first|rfl|(simp[ZB,ZA] <;> rfl)|(simp[*,ZB,ZA] <;> rfl),by repeat(first|(with_reducible first|exact HB.out|apply Zo|apply Zm|apply Zp|refine Zs ?_ GE1.out|refine Zs ?_ GE4.out)|exact HB.out)⟩
        ·rw[if_neg c12] at H
         exact absurd H (by simp)
       ·rw[if_neg c11] at H
        exact absurd H (by simp)
      ·rw[if_neg c10] at H
       have c10b0:decide (x18_2<(l0_1.length:Int))=false:=Zf c10
       clear c10
       obtain rfl:=Zg H
       go_wp2
       go_ret
       exact⟨by first|rfl|(simp[ZB,ZA] <;> rfl)|(simp[*,ZB,ZA] <;> rfl),by repeat(first|(with_reducible first|exact HB.out|apply Zo|apply Zm|apply Zp|refine Zs ?_ GE1.out)|exact HB.out)⟩
theorem sedge_ok {n:Int} (h0:0≤n) (h8:n≤8) (y:S184):(inR y.f0 0 (wrap64 (n - 1)) && (inR y.f1 0 (wrap64 (n - 1)) && inR y.f2 (-999999) 999999))=Zb6 n y:=by
 rw[Zay (by omega) (by omega)]
 unfold inR Zb6 inN wgtB
 rw[Bool.eq_iff_iff]
 simp only[Bool.and_eq_true,decide_eq_true_eq]
 omega
theorem sgraph_l (n:Int) (E:List S184) (h0:0≤n) (h8:n≤8) (hl:E.length≤80) (k:Nat) (hk:2 ^ 64≤k):Z7.l0 k E (E.length:Int) 0 n E=some (!(E.any fun x=>!Zb6 n x)):=by
 have key:=Za2 E.length (fun k i=>Z7.l0 k E (E.length:Int) (i:Int) n E=some (!((E.drop i).any fun x=>!Zb6 n x))) 0
  (fun k _=>by
   simp only[Z7.l0]
   rw[if_neg (by omega),List.drop_length];rfl)
  (fun k i _ hi ih=>by
   simp only[Z7.l0]
   rw[if_pos (by omega),if_pos (by omega),if_pos (by omega),ZL hi (by omega),ih,Z8 hi z184,List.any_cons,show Zaw E (i:Int)=E.getD i z184 by unfold Zaw;rw[Int.toNat_natCast]]
   generalize E.getD i z184=y
   rw[← sedge_ok h0 h8 y]
   simp only[inR_f,Zi]
   cases inR y.f0 0 (wrap64 (n - 1)) <;> cases inR y.f1 0 (wrap64 (n - 1)) <;> cases inR y.f2 (-999999) 999999 <;> rfl) 0 k (Nat.zero_le _) (by omega)
 simpa using key
theorem ZfZ (n:Int) (E:List S184) (k:Nat) (hk:2 ^ 66≤k):Z7.f k n E=some (ZbQ n E):=by
 obtain⟨k,rfl⟩:∃m,k=m+1:=⟨k - 1,by omega⟩
 unfold Z7.f ZbQ
 simp only[inR_f,Zi,Z7.j0]
 by_cases h:0≤n∧n≤8
 ·rw[show inR n 0 8=true by unfold inR;simp[h.1,h.2],if_pos rfl,Zf (show ¬n<0 by omega),Zf (show ¬8<n by omega)]
  by_cases h2:(E.length:Int) > 80
  ·rw[Ze h2,if_pos rfl,Ze (show 80<E.length by omega)];rfl
  ·rw[Zf h2,if_neg (by simp),Zf (show ¬80<E.length by omega),sgraph_l n E h.1 h.2 (by omega) k (by omega)]
   simp
 ·rw[show inR n 0 8=false by unfold inR;rw[Bool.eq_false_iff];simp only[ne_eq,Bool.and_eq_true,decide_eq_true_eq];exact h,if_neg (by simp),if_pos trivial]
  by_cases h3:n<0
  ·rw[Ze h3];rfl
  ·rw[Zf h3,Ze (show 8<n by omega)];rfl
theorem Zed {n:Int} {E:List Zac} (h:ZbQ n E=true):0≤n∧n≤8∧E.length≤80∧∀e∈E,0≤e.f0∧e.f0<n∧0≤e.f1∧e.f1<n∧-1000000<e.f2∧e.f2<1000000:=by
 unfold ZbQ at h
 simp only[Bool.and_eq_true,Bool.not_eq_true',decide_eq_false_iff_not] at h
 obtain⟨h1,h2,h3,h4⟩:=h
 refine⟨by omega,by omega,by omega,fun e he=>?_⟩
 have:=List.any_eq_false.1 h4 e he
 unfold Zb6 wgtB inN at this
 simp at this
 omega
theorem Zb9.two {d l:List Int} {kn:List Bool} {E:List Zac} {j:Nat} {ch:Int} (hj:j<E.length):srnd (E.drop j) j (d,l,kn,ch)=srnd (E.drop (j+1)) (j+1) (Zek (d,l,kn,ch) j (E.getD j zE)):=by
 rw[Z8 hj zE];rfl
structure Zb9.St (w W:World) (B b gd gl gn n cd cl ck:Nat) (d l:List Int) (kn:List Bool):Prop where
 d:IR W B gd n cd d
 l:IR W B gl n cl l
 k:BR W B gn n ck kn
 b:Below b w W
theorem Zb9.own (a0_0:Int) (A0_1:Option Addr) (c0_1:Nat) (l0_1:List S184) (w0 w:World) (hr0_1:Kd.C k184 w0 A0_1 l0_1.length l0_1) (hB0:Below w0.heap.size w0 w) (B b gd gl gn n cd cl ck:Nat) (d l:List Int) (kn:List Bool) (hE:ZbL l0_1 n) (h80:l0_1.length≤80) (hn8:n≤8) (S:Zb9.St w w B b gd gl gn n cd cl ck d l kn) (hb:w0.heap.size≤b∧b≤w.heap.size∧b≤gd∧b≤gl∧b≤gn) (hdl:gd≠gl) (hdk:gd≠gn) (hlk:gl≠gn) :
  Calls Tryz.prog 202 #[.agg #[.int .i64 a0_0,.slice A0_1 l0_1.length c0_1],.slice (some ⟨gd,0,none⟩) n cd,.slice (some ⟨gl,0,none⟩) n cl,.slice (some ⟨gn,0,none⟩) n ck] w fun e w'=>e=.returned (.int .i64 (srnd l0_1 0 (d,l,kn,-1)).2.2.2)∧Zb9.St w w' B b gd gl gn n cd cl ck (srnd l0_1 0 (d,l,kn,-1)).1 (srnd l0_1 0 (d,l,kn,-1)).2.1 (srnd l0_1 0 (d,l,kn,-1)).2.2.1:=by
 have hu:=Tryz.underlying156
 have hu2:=Tryz.underlying184
 have HRE:=Za hr0_1;have HED:=Za hE
 have hL:l0_1.length≤9223372036854775807:=by omega
 have HS:=Za S;have HB:=Za hb;have HB0:=Za hB0
 have hdl2:=hdl.symm
 have hdk2:=hdk.symm
 have hlk2:=hlk.symm
 obtain⟨hb0,hb1,hb2,hb3,hb4⟩:=hb
 clear hr0_1 hE S hB0
 obtain⟨X,hX⟩:∃X,X=srnd l0_1 0 (d,l,kn,-1):=⟨_,rfl⟩
 rw[← hX]
 have HX:=Za hX;clear hX
 go_enter Tryz.func202,Tryz.ntmps202
 go_wp2
 go_loopg [9,15] l0_1.length (fun gg s9 s15 wr=>∃(j:Nat) (d' l':List Int) (kn':List Bool) (ch':Int),s9=.int .i64 ch'∧s15=.int .i64 (j:Int)∧Aside0 (j≤l0_1.length)∧Aside0 (l0_1.length - j≤gg)∧Aside0 (srnd (l0_1.drop j) j (d',l',kn',ch')=X)∧Aside0 (Zb9.St w wr B b gd gl gn n cd cl ck d' l' kn'))
 case atStart=>
  have hA:=Zo (Below.refl w.heap.size w) (.cells #[.int .i64 a0_0,.slice A0_1 l0_1.length c0_1] 156)
  exact⟨0,d,l,kn,-1,rfl,rfl,⟨Nat.zero_le _⟩,⟨by omega⟩,⟨HX.out.symm⟩,⟨⟨HS.out.d.low hA,HS.out.l.low hA,HS.out.k.low hA,hA.mono hb1⟩⟩⟩
 case round=>
  obtain⟨j,d',l',kn',ch',rfl,rfl,HJ,HG2,HRN,HI2⟩:=hrel
  by_cases hjn:j<l0_1.length
  ·have hjz:(j:Int)<(l0_1.length:Int):=by omega
   have HB2:=Za (HB0.out.trans (HI2.out.b.mono HB.out.1))
   obtain⟨ad,e1,m0,m1,m2⟩:=Zch HRE.out (j:Int) (by omega) hjz
   cases e1
   rw[Int.toNat_natCast] at m0 m1 m2
   have hy:=HED.out _ (ZaG hjn zE)
   have HT:=Za (Zb9.two (d:=d') (l:=l') (kn:=kn') (ch:=ch') hjn)
   rw[show Zaw l0_1 (j:Int)=l0_1.getD j zE by unfold Zaw;rw[Int.toNat_natCast]] at m0 m1 m2
   generalize l0_1.getD j zE=y at m0 m1 m2 hy HT
   obtain⟨f0,f1,f2⟩:=y
   obtain⟨y0,y1,y2,y3⟩:=hy
   dsimp only at m0 m1 m2 y0 y1 y2 y3
   replace m0:=Zx HB2.out m0
   replace m1:=Zx HB2.out m1
   replace m2:=Zx HB2.out m2
   have hlta:=Zc wr _ m0
   obtain⟨xu,_⟩:=HI2.out.d.cell y0 y1
   obtain⟨xv,zv⟩:=HI2.out.d.cell y2 y3
   obtain⟨xl,zl⟩:=HI2.out.l.cell y2 y3
   obtain⟨xp,_⟩:=HI2.out.k.cell y0 y1
   obtain⟨xq,zq⟩:=HI2.out.k.cell y2 y3
   have hgd:=HI2.out.d.lt
   have hgl:=HI2.out.l.lt
   have hgk:=HI2.out.k.lt
   have HW:=Za fun (nq:Nat)=>Zm (Zo (Below.refl wr.heap.size wr) (.cells #[.int .i64 f0,.int .i64 f1,.int .i64 f2] 184)) nq
   have HBX:=Za fun (nq:Nat)=>(show(((wr.alloc (.cells #[.int .i64 f0,.int .i64 f1,.int .i64 f2] 184)).drewN nq).cell? ⟨wr.heap.size,0,none⟩=some (.int .i64 f0)∧((wr.alloc (.cells #[.int .i64 f0,.int .i64 f1,.int .i64 f2] 184)).drewN nq).cell? ⟨wr.heap.size,1,none⟩=some (.int .i64 f1)∧((wr.alloc (.cells #[.int .i64 f0,.int .i64 f1,.int .i64 f2] 184)).drewN nq).cell? ⟨wr.heap.size,2,none⟩=some (.int .i64 f2)) from⟨by go_simp,by go_simp,by go_simp⟩)
   have HPQ:=Za (show Zek (d',l',kn',ch') j ⟨f0,f1,f2⟩=if kn'.getD f0.toNat false=true∧(kn'.getD f1.toNat false=false∨wrap64 (rd d' f0+f2)<rd d' f1) then(d'.set f1.toNat (wrap64 (rd d' f0+f2)),l'.set f1.toNat (j:Int),kn'.set f1.toNat true,(j:Int)) else(d',l',kn',ch') from rfl)
   generalize kn'.getD f0.toNat false=p at xp HPQ
   generalize kn'.getD f1.toNat false=q at xq HPQ
   rcases(show(Aside0 (p=true∧(q=false∨wrap64 (rd d' f0+f2)<rd d' f1))∧((p=true∧q=false)∨(p=true∧q=true∧wrap64 (rd d' f0+f2)<rd d' f1)))∨(Aside0 (¬(p=true∧(q=false∨wrap64 (rd d' f0+f2)<rd d' f1)))∧((p=false)∨(p=true∧q=true∧¬wrap64 (rd d' f0+f2)<rd d' f1))) by
    cases p
    ·right;exact⟨⟨by simp⟩,.inl rfl⟩
    ·cases q
     ·left;exact⟨⟨by simp⟩,.inl ⟨rfl,rfl⟩⟩
     ·by_cases h:wrap64 (rd d' f0+f2)<rd d' f1
      ·left;exact⟨⟨by simp[h]⟩,.inr ⟨rfl,rfl,h⟩⟩
      ·right;exact⟨⟨by simp[h]⟩,.inr ⟨rfl,rfl,h⟩⟩) with ⟨hyes,hway⟩|⟨hno,hway⟩
   ·rcases hway with ⟨rfl,rfl⟩|⟨rfl,rfl,hlt⟩
    all_goals
     have HS2:=Za (HPQ.out.trans (if_pos hyes.out))
     clear hyes HPQ
     go_wp2
     go_quiet (fail)
     go_wp2
     have hW:=HW.out nq
     have hx:=HBX.out nq
     generalize (wr.alloc (.cells #[.int .i64 f0,.int .i64 f1,.int .i64 f2] 184)).drewN nq=W at hW hx ⊢
     obtain⟨x0,x1,x2⟩:=hx
     have HWI:=Za (And.intro (HI2.out.d.low hW) (And.intro (HI2.out.l.low hW) (HI2.out.k.low hW)))
     clear xu xv zv xl zl xp xq zq m0 m1 m2 HW HBX
     obtain⟨xu,_⟩:=HWI.out.1.cell y0 y1
     obtain⟨xv,zv⟩:=HWI.out.1.cell y2 y3
     obtain⟨xl,zl⟩:=HWI.out.2.1.cell y2 y3
     obtain⟨xq,zq⟩:=HWI.out.2.2.cell y2 y3
     have HWB:=Za (HI2.out.b.trans (hW.mono (Nat.le_trans hb1 HI2.out.b.size)))
     have hsz:=hW.size
     clear hW
     go_region
     go_wp2
     go_roundg (l0_1.length - (j+1))
     case measure=>have:=HG2.out;omega
     case rel=>
      exact⟨j+1,d'.set f1.toNat (wrap64 (rd d' f0+f2)),l'.set f1.toNat (j:Int),kn'.set f1.toNat true,(j:Int),rfl,by go_num,⟨by omega⟩,⟨by omega⟩,⟨by rw[← HRN.out,HT.out,HS2.out]⟩,
       ⟨Kd.R_drew (((HWI.out.1.put f1 _).far hdk _).far hdl _),Kd.R_drew (((HWI.out.2.1.far hdl2 _).far hlk _).put f1 _),Kd.R_drew (((HWI.out.2.2.far hdk2 _).put f1 _).far hlk2 _),(((HWB.out.setCell (p:=⟨gd,f1.toNat,none⟩) hb2 _).setCell (p:=⟨gn,f1.toNat,none⟩) hb4 _).setCell (p:=⟨gl,f1.toNat,none⟩) hb3 _).drew⟩⟩
   ·rcases hway with rfl|⟨rfl,rfl,hlt⟩
    all_goals
     have HS2:=Za (HPQ.out.trans (if_neg hno.out))
     clear hno HPQ
     go_wp2
     go_quiet (fail)
     go_wp2
     have hW:=HW.out nq
     generalize (wr.alloc (.cells #[.int .i64 f0,.int .i64 f1,.int .i64 f2] 184)).drewN nq=W at hW ⊢
     go_roundg (l0_1.length - (j+1))
     case measure=>have:=HG2.out;omega
     case rel=>
      exact⟨j+1,d',l',kn',ch',rfl,by go_num,⟨by omega⟩,⟨by omega⟩,⟨by rw[← HRN.out,HT.out,HS2.out]⟩,⟨HI2.out.d.low hW,HI2.out.l.low hW,HI2.out.k.low hW,HI2.out.b.trans (hW.mono (Nat.le_trans hb1 HI2.out.b.size))⟩⟩
  ·have hjz:¬(j:Int)<(l0_1.length:Int):=by omega
   obtain rfl:j=l0_1.length:=by have:=HJ.out;omega
   have HX2:=Za (show(d',l',kn',ch')=X by have:=HRN.out;rw[List.drop_length] at this;exact this)
   go_wp2
   go_ret
   exact⟨by rw[← HX2.out];rfl,by rw[← HX2.out];exact HI2.out⟩
end Go.Proofs.YtoeimopgoaffcaaGreatDoor.Pr
