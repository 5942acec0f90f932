/- By a program of this session. -/
import Derived.Test.YtoeimopgoaffcaaGreatDoorBBwc1x25
set_option linter.unusedVariables false
namespace Go.Proofs.YtoeimopgoaffcaaGreatDoor.Pr
open RowKit YtoeimopgoaffcaaGreatDoorW.PrintWords Ni
theorem freeIx_is {ts:List PTie} {x:Int} (h:x∈Zaa ts):(ZE ts x).f4=true:=by
 unfold Zaa Zc4 at h
 obtain⟨i,hi,rfl⟩:=List.mem_map.1 h
 rw[Zeg]
 exact(List.mem_filter.1 hi).2
theorem ZeI {ns:List ZK} {ts:List PTie}:∀(d i:Nat),ZbI ns ts i d=true→∀j,i≤j→j<i+d→Zdc ns ts j=true
 | 0,i,_,j,h1,h2=>by omega
 | d+1,i,h,j,h1,h2=>by
  rw[ZbI,Bool.and_eq_true] at h
  by_cases e:j=i
  ·rw[e];exact h.1
  ·exact ZeI d (i+1) h.2 j (by omega) (by omega)
theorem ZeY {ns:List ZK} {ts:List PTie} (h:ZaR ns ts=true):∀j,j<ts.length→Zdc ns ts j=true:=by
 unfold ZaR at h
 rw[Bool.and_eq_true] at h
 exact fun j hj=>ZeI _ _ h.1 j (Nat.zero_le _) (by omega)
theorem Zev {ns:List ZK} {ts:List PTie} (h:ZaR ns ts=true) {j:Int} (hj:j∈Zaa ts):1≤facI ts j∧facI ts j≤20:=by
 have hf:=freeIx_is hj
 obtain⟨h0,h1⟩:=ZdB hj
 unfold facI
 obtain⟨m,rfl⟩:=Int.eq_ofNat_of_zero_le h0
 have:=ZeY h m (by omega)
 unfold Zdc ZbU at this
 rw[hf] at this
 simp only[Zc0,Zdt,Bool.and_eq_true,Bool.not_true,Bool.false_or,decide_eq_true_eq,Bool.not_eq_true',beq_eq_false_iff_ne,decide_eq_false_iff_not] at this
 obtain⟨⟨⟨⟨⟨⟨_,_⟩,_⟩,a⟩,b⟩,c⟩,⟨⟨⟨⟨d,_⟩,_⟩,_⟩,_⟩⟩:=this
 unfold wrap64
 omega
def Zbh (ts:List PTie):List Int→Nat
 | []=>1
 | i :: L=>(facI ts i).toNat * Zbh ts L
theorem prodF_run (ts:List PTie):∀(L:List Int) (a n:Nat),(∀x∈L,1≤facI ts x∧facI ts x≤20)→L.length≤n→a * 20 ^ n≤20 ^ 14→L.foldl (ccS ts) (a:Int)=((a * Zbh ts L:Nat):Int):=by
 intro L
 induction L with
 | nil=>intro a n _ _ _;simp[Zbh]
 | cons i L ih=>
  intro a n h hn ha
  obtain⟨m,rfl⟩:∃m,n=m+1:=⟨n - 1,by simp at hn;omega⟩
  have hi:=h i (by simp)
  obtain⟨f,hf⟩:=Int.eq_ofNat_of_zero_le (show 0≤facI ts i by omega)
  have h1:a * f * 20 ^ m≤a * 20 ^ (m+1):=by
   rw[Nat.pow_succ,Nat.mul_comm (20 ^ m) 20,← Nat.mul_assoc]
   exact Nat.mul_le_mul_right _ (Nat.mul_le_mul_left _ (by omega))
  have h2:a * f≤20 ^ 14:=Nat.le_trans (Nat.le_mul_of_pos_right _ (Nat.pow_pos (by omega))) (Nat.le_trans h1 ha)
  have e:ccS ts (a:Int) i=((a * f:Nat):Int):=by
   show wrap64 ((a:Int) * facI ts i)=_
   rw[hf,← Int.natCast_mul]
   have h14:(20:Nat) ^ 14≤9223372036854775807:=by decide
   exact Z9 (by omega) (by omega)
  rw[List.foldl_cons,e,ih (a * f) m (fun x hx=>h x (by simp[hx])) (by simp at hn;omega) (Nat.le_trans h1 ha),Zbh,hf,Int.toNat_natCast,Nat.mul_assoc]
theorem prodF_pos (ts:List PTie):∀(L:List Int),(∀x∈L,1≤facI ts x∧facI ts x≤20)→1≤Zbh ts L∧Zbh ts L≤20 ^ L.length:=by
 intro L
 induction L with
 | nil=>intro _;simp[Zbh]
 | cons i L ih=>
  intro h
  have h1:=ih (fun x hx=>h x (by simp[hx]))
  have hi:=h i (by simp)
  have h2:=Nat.mul_le_mul (show 1≤(facI ts i).toNat by omega) h1.1
  have h3:=Nat.mul_le_mul (show(facI ts i).toNat≤20 by omega) h1.2
  rw[Zbh,List.length_cons,Nat.pow_succ,Nat.mul_comm (20 ^ _) 20]
  exact⟨by omega,h3⟩
theorem prodF_two (ts:List PTie):∀(L:List Int),(∀x∈L,1≤facI ts x∧facI ts x≤20)→Zbh ts L ∣ 2 ^ 60→Zbh ts L≤16 ^ L.length:=by
 intro L
 induction L with
 | nil=>intro _ _;simp[Zbh]
 | cons i L ih=>
  intro h hd
  rw[Zbh] at hd ⊢
  have h1:=ih (fun x hx=>h x (by simp[hx])) (Nat.dvd_trans (Nat.dvd_mul_left _ _) hd)
  have hi:=h i (by simp)
  have h2:=Nat.dvd_trans (Nat.dvd_mul_right _ _) hd
  have h3:(facI ts i).toNat≤16:=by
   have hb:(facI ts i).toNat≤20:=by omega
   generalize (facI ts i).toNat=f at h2 hb
   have c17:¬(17 ∣ 2 ^ 60):=by decide
   have c18:¬(18 ∣ 2 ^ 60):=by decide
   have c19:¬(19 ∣ 2 ^ 60):=by decide
   have c20:¬(20 ∣ 2 ^ 60):=by decide
   apply Classical.byContradiction
   intro hc
   have:f=17∨f=18∨f=19∨f=20:=by omega
   rcases this with rfl|rfl|rfl|rfl
   ·exact c17 h2
   ·exact c18 h2
   ·exact c19 h2
   ·exact c20 h2
  rw[List.length_cons,Nat.pow_succ,Nat.mul_comm (16 ^ _) 16]
  exact Nat.mul_le_mul h3 h1
theorem areTiesB_len {ns:List ZK} {ts:List PTie} (h:ZaR ns ts=true):ts.length≤14:=by
 unfold ZaR at h
 simp only[Bool.and_eq_true,decide_eq_true_eq] at h
 exact h.2
theorem ccW_small (ns:List ZK) (p:Int) {x:Int} (h0:0<x) (h:x≤4611686018427387903):ccW ns p x=x∨ccW ns p x=x * 2:=by
 unfold ccW ccQ
 split
 ·exact .inr (Z9 (by omega) (by omega))
 ·exact .inl rfl
theorem wrap_ne {y:Int} (h0:0≤y) (h:y<18446744073709551616) (hn:y≠9223372036854775808) : -9223372036854775808<wrap64 y∧wrap64 y≤9223372036854775807:=by
 unfold wrap64
 omega
theorem countB_ne (ns:List ZK) (ts:List PTie) (z:Int) : -9223372036854775808<ZaT ns ts z∧ZaT ns ts z≤9223372036854775807:=by
 unfold ZaT
 by_cases hs:Zat ns ts z=true
 ·rw[if_pos hs]
  have ht:=ZbZ hs
  have hL:∀x∈Zaa ts,1≤facI ts x∧facI ts x≤20:=fun x hx=>Zev ht hx
  have hn:(Zaa ts).length≤14:=Nat.le_trans (Zdj ts) (areTiesB_len ht)
  have e:=prodF_run ts (Zaa ts) 1 14 hL hn (by decide)
  rw[Nat.one_mul] at e
  rw[show((1:Nat):Int)=1 from rfl] at e
  rw[e]
  have hp:=prodF_pos ts _ hL
  have h20:Zbh ts (Zaa ts)≤1638400000000000000:=Nat.le_trans hp.2 (Nat.le_trans (Nat.pow_le_pow_right (by omega) hn) (by decide))
  have h60:Zbh ts (Zaa ts)≠1152921504606846976:=by
   intro hc
   have:=prodF_two ts _ hL (by rw[hc];decide)
   have h2:=Nat.le_trans this (Nat.pow_le_pow_right (by omega) hn)
   rw[hc] at h2
   exact absurd h2 (by decide)
  have hp1:=hp.1
  generalize Zbh ts (Zaa ts)=P at hp1 h20 h60
  obtain⟨x1,e1,d1⟩:∃x,ccW ns 1 (P:Int)=x∧(x=(P:Int)∨x=(P:Int) * 2):=⟨_,rfl,ccW_small ns 1 (by omega) (by omega)⟩
  rw[e1]
  obtain⟨x2,e2,d2⟩:∃x,ccW ns 2 x1=x∧(x=x1∨x=x1 * 2):=⟨_,rfl,ccW_small ns 2 (by omega) (by omega)⟩
  rw[e2]
  clear e e1 e2
  unfold ccW ccQ
  split
  ·obtain⟨y,hy⟩:∃y,x2 * 2=y:=⟨_,rfl⟩
   have hy2:y=(P:Int) * 2∨y=(P:Int) * 4∨y=(P:Int) * 8:=by omega
   rw[hy]
   exact wrap_ne (by omega) (by omega) (by omega)
  ·omega
 ·rw[if_neg hs];omega
theorem atQ_len (q:Int) (s:Int×List Int):(atQ q s).2.length=s.2.length+1:=by
 unfold atQ
 split <;> simp
theorem ZfL (q:Int→Int):∀(d p:Nat) (s:Int×List Int),(ZbB q d p s).2.length=s.2.length+d
 | 0,_,_=>rfl
 | d+1,p,s=>by rw[ZbB,ZfL q d,atQ_len];omega
theorem atS_len (ts:List PTie):∀(L:List Int) (s:Int×List Int),(L.foldl (atS ts) s).2.length=s.2.length+L.length
 | [],s=>by simp
 | i :: L,s=>by rw[List.foldl_cons,atS_len ts L];simp[atS];omega
theorem okF_free {ns:List ZK} {ts:List PTie} (ha:ZaR ns ts=true) (ht:ts.length≤1048576):okF ts (Zaa ts)=true:=by
 unfold okF
 rw[Ze (Nat.le_trans (Zdj ts) ht),Bool.true_and,List.all_eq_true]
 intro x hx
 have h1:=ZdB hx
 have h2:=(Zev ha hx).1
 rw[Ze h1.1,Ze h1.2,beq_eq_false_iff_ne.2 (show facI ts x≠0 by omega)];rfl
def ZaB (ns:List ZK) (ts:List PTie) (z n:Int):List Int×List Int×Bool:=if 0≤n∧n<ZaT ns ts z then((Zdl ts (Zas ns) (Zaa ts) n).1,(Zdl ts (Zas ns) (Zaa ts) n).2,true) else([],[],false)
theorem ZeA (ns:List ZK) (ts:List PTie) (z n:Int):(ZaB ns ts z n).1.length≤ts.length∧(ZaB ns ts z n).2.1.length≤3:=by
 unfold ZaB
 split
 ·have:=atS_len ts (Zaa ts) (n,[])
  have h2:=Zdj ts
  simp only[Zdl,ZfL]
  simp only[List.length_nil] at this ⊢
  omega
 ·simp
theorem ZfE {ns:List ZK} {ts:List PTie} {z n:Int} (h0:0≤n) (h:n<ZaT ns ts z):ZaR ns ts=true:=by
 unfold ZaT at h
 split at h
 ·rename_i hs;exact ZbZ hs
 ·omega
end Go.Proofs.YtoeimopgoaffcaaGreatDoor.Pr
