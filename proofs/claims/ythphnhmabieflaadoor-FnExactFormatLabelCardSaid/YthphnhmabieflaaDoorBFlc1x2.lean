/- The texts of one claim, put together by a program of this session. -/
import Derived.Lib.ItoaNum
import Derived.Lib.Join
import Derived.Test.YthphnhmabieflaaDoorBFlc1x1
set_option linter.unusedSimpArgs false
set_option linter.unusedVariables false
namespace Go.Proofs.YthphnhmabieflaaDoor.Pr
open Go.RowKit Go.Proofs.YthphnhmabieflaaDoorW.PrintWords Go.Proofs.YthphnhmabieflaaDoor.Ni
def bs (l:List UInt8):ByteArray:=⟨l.toArray⟩
theorem bs_of (a:ByteArray):bs a.data.toList=a:=by unfold bs;simp
theorem Zax (l:List UInt8):(bs l).data.toList=l:=by unfold bs;simp
theorem Z6 (a b:List UInt8):bs a ++ bs b=bs (a ++ b):=by
 unfold bs
 ext1
 rw[ByteArray.data_append];simp
theorem ZM (l:List UInt8):(bs l).size=l.length:=by unfold bs;simp[ByteArray.size]
theorem ba_size (a:ByteArray):a.size=a.data.toList.length:=by show a.data.size=_;rw[Array.length_toList]
theorem ZaO (x:Int) (h0:0≤x) (h1:x<256):strOfNums [x]=bs [UInt8.ofNat x.toNat]:=by
 unfold strOfNums bs
 simp
theorem dig_pos {x:Int} (h0:0≤x):wrap64 (48+Int.tmod x 10) % 256=((48+x.toNat % 10:Nat):Int):=by
 rw[Int.tmod_eq_emod_of_nonneg h0,Z7 (by omega) (by omega)];omega
theorem fmt_l0:∀(d:Nat) (x:Int) (s:List UInt8) (k:Nat),0≤x→x≤9223372036854775807→x<(10:Int) ^ (d+1)→s.length+d≤1000→d<k→Zn.l0 k x (bs s)=some (bs (Lib.decDigits x.toNat ++ s))
 | d,x,s,k,h0,h63,hx,hs,hk=>by
  obtain⟨m,rfl⟩:∃m,k=m+1:=⟨k - 1,by omega⟩
  simp only[Zn.l0]
  by_cases c:x > 9
  ·rw[if_pos c]
   cases d with
   | zero=>simp at hx;omega
   | succ d=>
    rw[dig_pos h0,Zg,ZaO _ (by omega) (by omega),ZM,ZM,if_pos (by simp only[List.length_singleton];omega),Int.tdiv_eq_ediv_of_nonneg h0]
    have hx2:x / 10<(10:Int) ^ (d+1):=by
     rw[Int.pow_succ] at hx
     exact Int.ediv_lt_of_lt_mul (by omega) hx
    rw[Z7 (by omega) (by omega),Z6,fmt_l0 d (x / 10) _ m (by omega) (by omega) hx2 (by simp only[List.length_append,List.length_singleton];omega) (by omega)]
    have e:Lib.decDigits x.toNat=Lib.decDigits (x / 10).toNat ++ [UInt8.ofNat (48+x.toNat % 10)]:=by
     rw[Lib.decDigits,dif_neg (by omega),show x.toNat / 10=(x / 10).toNat by omega]
    rw[e,Int.toNat_natCast,List.append_assoc]
  ·rw[if_neg c]
   rw[Z7 (by omega) (by omega),show(48+x) % 256=((48+x.toNat:Nat):Int) by omega,Zg,ZaO _ (by omega) (by omega),ZM,ZM,if_pos (by simp only[List.length_singleton];omega),Z6,Lib.decDigits,dif_pos (by omega),Int.toNat_natCast]
theorem Za2:∀(d m k:Nat),1≤m→m≤9223372036854775808→m<10 ^ (d+1)→d<k→d≤900→Zn.f k (-(m:Int))=some (bs (45 :: Lib.decDigits m))∧(Lib.decDigits m).length≤d+1
 | d,m,k,h1,h63,hm,hk,hd=>by
  obtain⟨k,rfl⟩:∃j,k=j+1:=⟨k - 1,by omega⟩
  have e1:Int.tdiv (-(m:Int)) 10 = -((m / 10:Nat):Int):=by rw[Int.neg_tdiv];rfl
  have e2:Int.tmod (-(m:Int)) 10 = -((m % 10:Nat):Int):=by rw[Int.neg_tmod];rfl
  simp only[Zn.f]
  rw[if_pos (by omega),e1,e2,Z7 (i:=-((m / 10:Nat):Int)) (by omega) (by omega)]
  by_cases c:m<10
  ·rw[if_pos (by omega),Z7 (by omega) (by omega),show(48 - -(m:Int)) % 256=((48+m:Nat):Int) by omega,Zg,ZaO _ (by omega) (by omega),ZM,if_pos (by simp only[List.length_singleton];omega),Lib.decDigits,dif_pos c,Int.toNat_natCast]
   refine⟨?_,by simp only[List.length_singleton];omega⟩
   show some (bs [45] ++ _)=_
   rw[Z6];rfl
  ·rw[if_neg (by omega)]
   cases d with
   | zero=>simp at hm;omega
   | succ d=>
    obtain⟨ih,il⟩:=Za2 d (m / 10) k (by omega) (by omega) (by rw[Nat.pow_succ] at hm;omega) (by omega) (by omega)
    rw[ih,Zg,Z7 (by omega) (by omega),show(48 - -((m % 10:Nat):Int)) % 256=((48+m % 10:Nat):Int) by omega,Zg,ZaO _ (by omega) (by omega),ZM,ZM,if_pos (by simp only[List.length_cons,List.length_nil];omega),Z6,Int.toNat_natCast]
    have e:Lib.decDigits m=Lib.decDigits (m / 10) ++ [UInt8.ofNat (48+m % 10)]:=by rw[Lib.decDigits,dif_neg c]
    rw[e]
    exact⟨rfl,by simp only[List.length_append,List.length_singleton];omega⟩
theorem Za9 (n:Int) (h0 : -9223372036854775808≤n) (h1:n≤9223372036854775807) (k:Nat) (hk:2 ^ 64≤k):Zn.f k n=some (bs (Lib.itoa n)):=by
 by_cases c:n<0
 ·have:=(Za2 18 n.natAbs k (by omega) (by omega) (by omega) (by omega) (by omega)).1
  rw[show -((n.natAbs:Nat):Int)=n by omega] at this
  rw[this,Lib.itoa,if_pos c]
 ·obtain⟨m,rfl⟩:∃m,k=m+1:=⟨k - 1,by omega⟩
  simp only[Zn.f]
  rw[if_neg c,Lib.itoa,if_neg c]
  have:=fmt_l0 18 n [] m (by omega) h1 (by omega) (by simp) (by omega)
  rw[List.append_nil] at this
  exact this
theorem Zbc (n:Int) (h0 : -9223372036854775808≤n) (h1:n≤9223372036854775807):ZJ.f n=some (bs (Lib.itoa n)):=by
 unfold ZJ.f
 rw[if_pos ⟨h0,h1⟩];rfl
theorem Zbb (n:Int) (h0 : -9223372036854775808≤n) (h1:n≤9223372036854775807):(Lib.itoa n).length≤20:=by
 by_cases c:n<0
 ·have:=(Za2 18 n.natAbs 1000 (by omega) (by omega) (by omega) (by omega) (by omega)).2
  rw[Lib.itoa,if_pos c,List.length_cons];omega
 ·rw[Lib.itoa,if_neg c]
  by_cases c0:n=0
  ·subst c0
   rw[show Int.toNat 0=0 from rfl,Lib.decDigits,dif_pos (by omega)];simp only[List.length_singleton];omega
  ·have:=(Za2 18 n.toNat 1000 (by omega) (by omega) (by omega) (by omega) (by omega)).2
   omega
abbrev bl (l:List ByteArray):List (List UInt8):=l.map (·.data.toList)
theorem ZaR (s x:List UInt8) (r:List (List UInt8)):Lib.joinTail s (x :: r)=s ++ x ++ Lib.joinTail s r:=by simp[Lib.joinTail]
theorem rdOf_nat (l:List ByteArray) (i:Nat):rdOf ByteArray.empty l (i:Int)=l.getD i ByteArray.empty:=by unfold rdOf;rw[Int.toNat_natCast]
theorem spec_Join_f (l:List ByteArray) (sep:ByteArray) (hl:l.length≤1048576) (hb:(Lib.join (bl l) sep.data.toList).length≤140737488355328) (k:Nat) (hk:2 ^ 64≤k):ZF.f k l sep=some (bs (Lib.join (bl l) sep.data.toList)):=by
 have key:=Zak l.length (fun k i=>0<i→∀acc:List UInt8,acc.length+(Lib.joinTail sep.data.toList (bl (l.drop i))).length≤140737488355328→ZF.l0 k sep (bs acc) l (l.length:Int) (i:Int)=some (bs (acc ++ Lib.joinTail sep.data.toList (bl (l.drop i))))) 0
  (fun k _ _ acc _=>by
   simp only[ZF.l0]
   rw[if_neg (by omega),List.drop_length]
   simp[Lib.joinTail])
  (fun k i _ hi ih hp acc ha=>by
   simp only[ZF.l0]
   rw[Z5 hi ByteArray.empty] at ha ⊢
   simp only[bl,List.map_cons,ZaR,List.length_append] at ha ⊢
   rw[if_pos (by omega),if_pos (by omega),if_pos (by omega),if_pos (by omega),rdOf_nat]
   generalize l.getD i ByteArray.empty=x at ha ⊢
   have e:bs acc ++ sep=bs (acc ++ sep.data.toList):=by rw[← Z6,bs_of]
   rw[e,ZM,ZM,if_pos (by rw[ba_size];omega),if_pos (by rw[ba_size];simp only[List.length_append];omega),Zaa hi (by omega)]
   have e2:bs (acc ++ sep.data.toList) ++ x=bs (acc ++ sep.data.toList ++ x.data.toList):=by rw[← Z6 (acc ++ sep.data.toList),bs_of]
   rw[e2,ih (by omega) _ (by simp only[List.length_append,bl];omega)]
   simp only[List.append_assoc,bl])
 unfold ZF.f
 cases l with
 | nil=>
  obtain⟨m,rfl⟩:∃m,k=m+1:=⟨k - 1,by omega⟩
  simp only[ZF.l0]
  rw[if_neg (by simp)];rfl
 | cons x t=>
  obtain⟨m,rfl⟩:∃m,k=m+1:=⟨k - 1,by omega⟩
  simp only[bl,List.map_cons,Lib.join_cons,List.length_append] at hb ⊢
  simp only[ZF.l0]
  rw[if_pos (by rw[List.length_cons];omega),if_pos (by omega),if_pos (by rw[List.length_cons];omega),if_neg (by omega)]
  have e0:rdOf ByteArray.empty (x :: t) 0=x:=rfl
  rw[e0,show(⟨#[]⟩:ByteArray)=bs [] from rfl,show bs [] ++ x=bs x.data.toList by rw[← bs_of x,Z6,Zax];rfl,ZM,if_pos (by rw[ba_size];simp only[List.length_nil];omega)]
  rw[show wrap64 (0+1)=((1:Nat):Int) by rw[Z7 (by omega) (by omega)];rfl,key 1 m (by rw[List.length_cons];omega) (by omega) (by omega) _ (by simpa [bl] using hb)]
  rfl
theorem impl_Join_f (l:List ByteArray) (sep:ByteArray) (hl:l.length≤1048576) (hb:(Lib.join (bl l) sep.data.toList).length≤140737488355328):ZU.f l sep=some (bs (Lib.join (bl l) sep.data.toList)):=by
 unfold ZU.f
 rw[if_pos ⟨hl,hb⟩];rfl
end Go.Proofs.YthphnhmabieflaaDoor.Pr
namespace Go.Proofs.YthphnhmabieflaaDoor.Pr
open Go.RowKit Go.Proofs.YthphnhmabieflaaDoorW.PrintWords Go.Proofs.YthphnhmabieflaaDoorW.PrintMore Go.Proofs.YthphnhmabieflaaDoor.Ni
theorem ZaY {x:Int} (h:ZO x=true):Zy.f x=some (prp x):=by
 have:=(ZT x).1 h
 unfold Zy.f prp
 split
 ·rw[Z7 (by omega) (by omega)]
 ·rfl
theorem Zba {x:Int} (h:ZO x=true):ZC.f x=some (prp x):=by
 have:=(ZT x).1 h
 unfold ZC.f prp mx
 rw[Z7 (by omega) (by omega)]
 congr 1
 split <;> split <;> omega
theorem Zbr (l:List Int) (hl:l.length≤9223372036854775807) (k:Nat) (hk:2 ^ 64≤k):Zr.f k l=some (labB l):=by
 have key:=Zak l.length (fun k i=>(0<i→ZO (l.getD (i - 1) 0)=true)→Zr.l0 k l l l.length (i:Int)=some (ZR (if i=0 then 0 else prp (l.getD (i - 1) 0)) (l.drop i))) 0
  (fun k _ _=>by simp[Zr.l0,ZR])
  (fun k i _ hi ih hb=>by
   simp only[Zr.l0]
   rw[if_pos (by omega),if_pos (by omega),if_pos (by omega),Zah,Zaa hi (by omega),Z5 hi 0]
   unfold ZR
   have ih':=fun h=>ih (fun _=>h)
   simp only[Nat.add_sub_cancel,Nat.add_eq_zero_iff,Nat.one_ne_zero,and_false,if_false] at ih'
   by_cases h0:l.getD i 0=0
   ·rw[if_pos h0,h0];simp[ZO]
   rw[if_neg h0]
   unfold ZS.f
   by_cases h1:l.getD i 0≥-3
   ·rw[if_pos h1,Zg]
    by_cases h2:l.getD i 0≤3
    ·have hok:ZO (l.getD i 0)=true:=(ZT _).2 ⟨h0,h1,h2⟩
     have hp:=Zav hok
     rw[if_pos (by simpa using h2)]
     by_cases hi0:i=0
     ·subst hi0
      rw[if_neg (by omega),ih' hok,hok]
      simp only[Bool.true_and,if_true]
      rw[Zd (show(0:Int)<prp (l.getD 0 0) by omega)]
      rfl
     ·rw[if_pos (by omega),wrap_pred (by omega) (by omega),if_pos (by omega),if_pos (by omega),Zah,ZaY (hb (by omega)),Zg,ZaY hok,Zg,if_neg hi0,hok]
      by_cases hlt:prp (l.getD (i - 1) 0)<prp (l.getD i 0)
      ·rw[if_neg (by omega),ih' hok,Zd hlt];rfl
      ·rw[if_pos (by omega),decide_eq_false hlt];rfl
    ·rw[if_neg (by simpa using h2)]
     rw[show ZO (l.getD i 0)=false from Bool.eq_false_iff.2 fun h=>by have:=(ZT _).1 h;omega];rfl
   ·rw[if_neg h1,Zg,if_neg (by decide)]
    rw[show ZO (l.getD i 0)=false from Bool.eq_false_iff.2 fun h=>by have:=(ZT _).1 h;omega];rfl) 0 k (Nat.zero_le _) (by omega)
 unfold Zr.f labB
 have:=key (fun h=>absurd h (by omega))
 simpa using this
theorem Zbs (l:List Int) (hl:l.length≤9223372036854775807) (k:Nat) (hk:2 ^ 64≤k):Zv.f k l=some (labB l):=by
 have key:=Zak l.length (fun k i=>(0<i→ZO (l.getD (i - 1) 0)=true)→Zv.l0 k l l l.length (i:Int)=some (ZR (if i=0 then 0 else prp (l.getD (i - 1) 0)) (l.drop i))) 0
  (fun k _ _=>by simp[Zv.l0,ZR])
  (fun k i _ hi ih hb=>by
   simp only[Zv.l0]
   rw[if_pos (by omega),if_pos (by omega),if_pos (by omega),Zah,Zaa hi (by omega),Z5 hi 0]
   unfold ZR
   have ih':=fun h=>ih (fun _=>h)
   simp only[Nat.add_sub_cancel,Nat.add_eq_zero_iff,Nat.one_ne_zero,and_false,if_false] at ih'
   by_cases h0:l.getD i 0=0
   ·rw[if_pos h0,h0];simp[ZO]
   rw[if_neg h0]
   by_cases h1:l.getD i 0≥-3
   ·rw[if_neg (by omega)]
    by_cases h2:l.getD i 0≤3
    ·have hok:ZO (l.getD i 0)=true:=(ZT _).2 ⟨h0,h1,h2⟩
     have hp:=Zav hok
     rw[if_neg (by omega)]
     by_cases hi0:i=0
     ·subst hi0
      rw[if_neg (by omega),ih' hok,hok]
      simp only[Bool.true_and,if_true]
      rw[Zd (show(0:Int)<prp (l.getD 0 0) by omega)]
      rfl
     ·rw[if_pos (by omega),wrap_pred (by omega) (by omega),if_pos (by omega),if_pos (by omega),Zah,Zba (hb (by omega)),Zg,Zba hok,Zg,if_neg hi0,hok]
      by_cases hlt:prp (l.getD (i - 1) 0)<prp (l.getD i 0)
      ·rw[if_neg (by omega),ih' hok,Zd hlt];rfl
      ·rw[if_pos (by omega),decide_eq_false hlt];rfl
    ·rw[if_pos (by omega)]
     rw[show ZO (l.getD i 0)=false from Bool.eq_false_iff.2 fun h=>by have:=(ZT _).1 h;omega];rfl
   ·rw[if_pos (by omega)]
    rw[show ZO (l.getD i 0)=false from Bool.eq_false_iff.2 fun h=>by have:=(ZT _).1 h;omega];rfl) 0 k (Nat.zero_le _) (by omega)
 unfold Zv.f labB
 have:=key (fun h=>absurd h (by omega))
 simpa using this
end Go.Proofs.YthphnhmabieflaaDoor.Pr
set_option linter.unusedSimpArgs false
set_option linter.unusedVariables false
namespace Go.Proofs.YthphnhmabieflaaDoor.Pr
open Go.RowKit Go.Proofs.YthphnhmabieflaaDoorW.PrintWords Go.Proofs.YthphnhmabieflaaDoor.Ni
def litT (x:Int):List UInt8:=if x<0 then 33 :: 112 :: Lib.itoa (prp x) else 112 :: Lib.itoa (prp x)
def labT (l:List Int):List UInt8:=if labB l=true then(if l=[] then[45] else Lib.join (l.map litT) [38]) else[]
theorem Za7:∀(l:List Int) (p:Int),0≤p→ZR p l=true→(l.length:Int)+p≤3∨l=[]
 | [],_,_,_=>.inr rfl
 | x :: t,p,hp,h=>by
  left
  simp only[ZR,Bool.and_eq_true,decide_eq_true_eq] at h
  have h1:=Zav h.1.1
  rw[List.length_cons]
  rcases Za7 t (prp x) (by omega) h.2 with h2|h2
  ·omega
  ·subst h2;simp only[List.length_nil];omega
theorem labB_len {l:List Int} (h:labB l=true):l.length≤3:=by
 rcases Za7 l 0 (by omega) h with h2|h2
 ·omega
 ·subst h2;simp
theorem litT_len {x:Int} (h:ZO x=true):(litT x).length≤22:=by
 have h1:=Zav h
 have h2:=Zbb (prp x) (by omega) (by omega)
 unfold litT
 split <;> simp only[List.length_cons] <;> omega
theorem joinT_len (s:List UInt8):∀(l:List (List UInt8)),(∀x∈l,x.length≤22)→(Lib.join l s).length≤(22+s.length) * l.length
 | [],_=>by simp[Lib.join]
 | x :: t,h=>by
  have h1:∀l:List (List UInt8),(∀x∈l,x.length≤22)→(Lib.joinTail s l).length≤(22+s.length) * l.length:=by
   intro l
   induction l with
   | nil=>intro _;simp[Lib.joinTail]
   | cons y r ih=>
    intro hy
    have h2:=ih (fun z hz=>hy z (by simp[hz]))
    have h3:=hy y (by simp)
    rw[ZaR,List.length_append,List.length_append,List.length_cons,Nat.mul_succ];omega
  have h2:=h1 t (fun z hz=>h z (by simp[hz]))
  have h3:=h x (by simp)
  rw[Lib.join_cons,List.length_append,List.length_cons,Nat.mul_succ];omega
theorem ZaX:∀(l:List Int) (p:Int),ZR p l=true→∀x∈l,ZO x=true
 | [],_,_,x,hx=>by cases hx
 | y :: t,p,h,x,hx=>by
  simp only[ZR,Bool.and_eq_true] at h
  rcases List.mem_cons.1 hx with rfl|hx
  ·exact h.1.1
  ·exact ZaX t _ h.2 x hx
theorem labB_all' {l:List Int} (h:labB l=true):∀x∈l,ZO x=true:=ZaX l 0 h
theorem bl_bs:∀(l:List (List UInt8)),bl (l.map bs)=l
 | []=>rfl
 | x :: t=>by
  show(bs x).data.toList :: bl (t.map bs)=_
  rw[Zax,bl_bs t]
theorem ZaZ (l:List Int) (hl:l.length≤1048576) (k:Nat) (hk:2 ^ 66≤k):Zp.f k l=some (bs (labT l)):=by
 unfold Zp.f labT
 rw[Zbs l (by omega) k (by omega),Zg]
 cases hb:labB l with
 | false=>rfl
 | true=>
  have hall:=labB_all' hb
  have h3:=labB_len hb
  rw[if_pos rfl,if_pos rfl]
  by_cases h0:l=[]
  ·subst h0;rfl
  ·rw[if_neg (by cases l with|nil=>exact absurd rfl h0|cons x t=>rw[List.length_cons];omega),if_neg h0]
   have key:=Zak l.length (fun k i=>∀acc:List (List UInt8),acc.length≤i→(∀x∈acc,x.length≤22)→Zp.l0 k (acc.map bs) l (l.length:Int) (i:Int)=some (bs (Lib.join (acc ++ (l.drop i).map litT) [38]))) (2 ^ 65)
    (fun k _ acc ha hx=>by
     simp only[Zp.l0]
     have hj:=joinT_len [38] acc hx
     rw[List.length_singleton] at hj
     rw[if_neg (by omega),List.drop_length,show(⟨#[38]⟩:ByteArray)=bs [38] from rfl,impl_Join_f _ _ (by simp;omega) (by rw[bl_bs,Zax];omega),bl_bs,Zax]
     simp)
    (fun k i hk hi ih acc ha hx=>by
     have hlit:=hall _ (getD_mem hi 0)
     have hp:=Zav hlit
     have h2:=Zbb (prp (l.getD i 0)) (by omega) (by omega)
     simp only[Zp.l0]
     rw[if_pos (by omega),if_pos (by omega),if_pos (by omega),Zah,Zba hlit,Zg,Zbc _ (by omega) (by omega),Zg,ZM,if_pos (by omega),Z5 hi 0,show(⟨#[112]⟩:ByteArray)=bs [112] from rfl,Z6,ZM,Zaa hi (by omega)]
     have hlt:=litT_len hlit
     have hn:=ih (acc ++ [litT (l.getD i 0)]) (by simp;omega) (fun x hx'=>by
      rcases List.mem_append.1 hx' with h|h
      ·exact hx x h
      ·rw[List.mem_singleton] at h;subst h;exact hlt)
     rw[List.append_assoc,List.map_append] at hn
     by_cases hneg:l.getD i 0<0
     ·rw[if_pos hneg,if_pos (by simp only[List.length_cons,List.length_append,List.length_nil];omega),if_pos (by simp;omega),show(⟨#[33]⟩:ByteArray)=bs [33] from rfl,Z6]
      have e:[33] ++ ([112] ++ Lib.itoa (prp (l.getD i 0)))=litT (l.getD i 0):=by unfold litT;rw[if_pos hneg];rfl
      rw[e];exact hn
     ·rw[if_neg hneg,if_pos (by simp;omega)]
      have e:[112] ++ Lib.itoa (prp (l.getD i 0))=litT (l.getD i 0):=by unfold litT;rw[if_neg hneg];rfl
      rw[e];exact hn) 0 k (Nat.zero_le _) (by omega)
   have:=key [] (by simp) (fun x hx=>by cases hx)
   simpa using this
theorem ZaT (l:List Int) (hl:l.length≤1048576) (k:Nat) (hk:2 ^ 66≤k):Zo.f k l=some (bs (labT l)):=by
 unfold Zo.f labT
 rw[Zbr l (by omega) k (by omega),Zg]
 cases hb:labB l with
 | false=>rfl
 | true=>
  have hall:=labB_all' hb
  have h3:=labB_len hb
  rw[if_pos rfl,if_pos rfl]
  by_cases h0:l=[]
  ·subst h0;rfl
  ·rw[if_neg (by cases l with|nil=>exact absurd rfl h0|cons x t=>rw[List.length_cons];omega),if_neg h0]
   have key:=Zak l.length (fun k i=>∀acc:List (List UInt8),acc.length≤i→(∀x∈acc,x.length≤22)→Zo.l0 k (acc.map bs) l (l.length:Int) (i:Int)=some (bs (Lib.join (acc ++ (l.drop i).map litT) [38]))) (2 ^ 65)
    (fun k hk acc ha hx=>by
     simp only[Zo.l0]
     have hj:=joinT_len [38] acc hx
     rw[List.length_singleton] at hj
     rw[if_neg (by omega),List.drop_length,show(⟨#[38]⟩:ByteArray)=bs [38] from rfl,spec_Join_f _ _ (by simp;omega) (by rw[bl_bs,Zax];omega) k (by omega),bl_bs,Zax]
     simp)
    (fun k i hk hi ih acc ha hx=>by
     have hlit:=hall _ (getD_mem hi 0)
     have hp:=Zav hlit
     have h2:=Zbb (prp (l.getD i 0)) (by omega) (by omega)
     simp only[Zo.l0]
     rw[if_pos (by omega),if_pos (by omega),if_pos (by omega),Zah,ZaY hlit,Zg,Za9 _ (by omega) (by omega) k (by omega),Zg,ZM,if_pos (by omega),Z5 hi 0,show(⟨#[112]⟩:ByteArray)=bs [112] from rfl,Z6,ZM,Zaa hi (by omega)]
     have hlt:=litT_len hlit
     have hn:=ih (acc ++ [litT (l.getD i 0)]) (by simp;omega) (fun x hx'=>by
      rcases List.mem_append.1 hx' with h|h
      ·exact hx x h
      ·rw[List.mem_singleton] at h;subst h;exact hlt)
     rw[List.append_assoc,List.map_append] at hn
     by_cases hneg:l.getD i 0<0
     ·rw[if_pos hneg,if_pos (by simp only[List.length_cons,List.length_append,List.length_nil];omega),if_pos (by simp;omega),show(⟨#[33]⟩:ByteArray)=bs [33] from rfl,Z6]
      have e:[33] ++ ([112] ++ Lib.itoa (prp (l.getD i 0)))=litT (l.getD i 0):=by unfold litT;rw[if_pos hneg];rfl
      rw[e];exact hn
     ·rw[if_neg hneg,if_pos (by simp;omega)]
      have e:[112] ++ Lib.itoa (prp (l.getD i 0))=litT (l.getD i 0):=by unfold litT;rw[if_neg hneg];rfl
      rw[e];exact hn) 0 k (Nat.zero_le _) (by omega)
   have:=key [] (by simp) (fun x hx=>by cases hx)
   simpa using this
end Go.Proofs.YthphnhmabieflaaDoor.Pr
