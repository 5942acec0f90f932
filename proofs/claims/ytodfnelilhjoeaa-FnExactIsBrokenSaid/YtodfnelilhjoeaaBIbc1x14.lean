/- The texts of one claim, put together by a program of this session. -/
import Derived.Test.YtodfnelilhjoeaaBIbc1x12
import Derived.Test.YtodfnelilhjoeaaBIbc1x13
import Derived.Test.YtodfnelilhjoeaaBIbc1x8
namespace Go.Proofs.Ytodfnelilhjoeaa.Pr
open Go.RowKit Go.Proofs.YtodfnelilhjoeaaW.PrintWords Go.Proofs.Ytodfnelilhjoeaa.Ni
theorem stFrom_bd {v:List Int} (hv:ZaY v=true):∀(l:List Int) (a:Int),-1≤a→-1≤Zcj v a l:=by
 intro l
 induction l with
 | nil=>intro a h;exact h
 | cons x l ih=>
  intro a h
  have h1:=(ZdM hv).2
  unfold Zcj
  apply ih
  have:=h1 (prp x - 1).toNat
  split <;> omega
theorem nodeSt_bd {ns:List ZX} {vs:List Int} (hv:ZaY vs=true) (i:Int) : -1≤Zca ns vs i:=stFrom_bd hv _ 1 (by omega)
def Zcr (ns:List ZX) (now:Int) (tm vs:List Int) (t:PTie):Bool:=
 if rd tm t.f0≠-1∧rd tm t.f1≠-1 then !(inB (wrap64 (rd tm t.f1 - rd tm t.f0)) t.f2 t.f3)
 else if t.f4=true then false
 else if rd tm t.f0=-1 then(if rd tm t.f1=-1 then false else if Zca ns vs t.f0=1 then decide (wrap64 (rd tm t.f1 - now)<t.f2) else false)
 else if Zca ns vs t.f1=1 then decide (wrap64 (now - rd tm t.f0) > t.f3) else false
theorem impl_late {ns:List ZX} {ts:List PTie} (z now:Int) {tm vs:List Int} (hc:Zbh ns ts) (hn:Zax ns=true) (hv:ZaY vs=true) (he:tm.length=ns.length) (t:PTie) (h0:0≤t.f0∧t.f0<ns.length) (h1:0≤t.f1∧t.f1<ns.length) (k:Nat) (hk:2 ^ 66≤k) :
  Zaq.f k ns ts z now tm vs t.f0 t.f1 t.f2 t.f3 t.f4=some (Zcr ns now tm vs t):=by
 obtain⟨m,rfl⟩:∃m,k=m+1:=⟨k - 1,by omega⟩
 unfold Zaq.f Zcr
 simp only[Zaq.j0]
 rw[if_pos h0.1,if_pos (by omega),if_pos h1.1,if_pos (by omega),ZbP z now tm vs t.f0 hc hn hv h0.1 h0.2 m (by omega),ZbP z now tm vs t.f1 hc hn hv h1.1 h1.2 m (by omega)]
 simp only[Zi]
 generalize rd tm t.f0=a
 generalize rd tm t.f1=b
 by_cases ha:a=-1
 ·simp only[ha,ne_eq,not_true,false_and,if_true,if_false,Bool.false_eq_true]
  by_cases hf:t.f4=true
  ·simp[hf]
  ·simp only[if_neg hf]
   by_cases hb:b=-1
   ·simp[hb]
   ·simp only[if_neg hb]
    split <;> rfl
 ·by_cases hb:b=-1
  ·simp only[ha,hb,ne_eq,not_true,and_false,if_false,Bool.false_eq_true,bne_self_eq_false]
   by_cases hf:t.f4=true
   ·simp[hf]
   ·simp only[if_neg hf]
    split <;> rfl
  ·rw[if_neg ha,if_pos (show a≠-1∧b≠-1 from⟨ha,hb⟩),if_pos (show(b != -1)=true by simpa using hb)]
   unfold inB
   by_cases h2:wrap64 (b - a)<t.f2
   ·rw[if_pos h2,Zf (show ¬t.f2≤wrap64 (b - a) by omega)];rfl
   ·rw[if_neg h2,Ze (show t.f2≤wrap64 (b - a) by omega),Bool.true_and,← decide_not]
    exact congrArg some (by rw[Bool.eq_iff_iff];simp)
theorem spec_late {ns:List ZX} {ts:List PTie} (z now:Int) {tm vs:List Int} (hc:Zbh ns ts) (hn:Zax ns=true) (hv:ZaY vs=true) (he:tm.length=ns.length) (t:PTie) (h0:0≤t.f0∧t.f0<ns.length) (h1:0≤t.f1∧t.f1<ns.length) (k:Nat) (hk:2 ^ 66≤k) :
  ZY.f k ns ts z now tm vs t.f0 t.f1 t.f2 t.f3 t.f4=some (Zcr ns now tm vs t):=by
 obtain⟨m,rfl⟩:∃m,k=m+1:=⟨k - 1,by omega⟩
 unfold ZY.f Zcr
 simp only[ZY.j0]
 rw[if_pos h0.1,if_pos (show t.f0<(tm.length:Int) by omega),if_pos h1.1,if_pos (show t.f1<(tm.length:Int) by omega),Zcb (ts:=ts) vs t.f0 hc hn hv h0.1 h0.2 m (by omega),Zcb (ts:=ts) vs t.f1 hc hn hv h1.1 h1.2 m (by omega)]
 simp only[Zi,ZcH,if_pos h0.1,if_pos h0.2,if_pos h1.1,if_pos h1.2]
 generalize rd tm t.f0=a
 generalize rd tm t.f1=b
 by_cases ha:a=-1
 ·simp only[ha,ne_eq,not_true,false_and,if_true,if_false,Bool.false_eq_true]
  by_cases hf:t.f4=true
  ·simp[hf]
  ·simp only[if_neg hf]
   by_cases hb:b=-1
   ·simp[hb]
   ·simp only[if_neg hb]
    split <;> rfl
 ·by_cases hb:b=-1
  ·simp only[ha,hb,ne_eq,not_true,and_false,if_false,Bool.false_eq_true,bne_self_eq_false]
   by_cases hf:t.f4=true
   ·simp[hf]
   ·simp only[if_neg hf]
    split <;> rfl
  ·rw[if_neg ha,if_pos (show a≠-1∧b≠-1 from⟨ha,hb⟩),if_pos (show(b != -1)=true by simpa using hb)]
def ovAt (ns:List ZX) (tm vs:List Int) (i:Nat):Bool:=!(decide (tm.getD i 0=-1)) || decide (Zca ns vs i=-1)
def Zb9 (ns:List ZX) (tm vs:List Int):Nat→Nat→Bool
 | _,0=>true
 | i,d+1=>ovAt ns tm vs i && Zb9 ns tm vs (i+1) d
theorem impl_over {ns:List ZX} {ts:List PTie} (z now:Int) {tm vs:List Int} (hc:Zbh ns ts) (hn:Zax ns=true) (hv:ZaY vs=true) (he:tm.length=ns.length) (k:Nat) (hk:2 ^ 67≤k) :
  Zaw.f k ns ts z now tm vs=some (Zb9 ns tm vs 0 ns.length):=by
 have hl:=hc.1
 have key:=ZaK tm.length (fun k i=>Zaw.l0 k tm (tm.length:Int) (i:Int) ns ts z now tm vs=some (Zb9 ns tm vs i (tm.length - i))) (2 ^ 66)
  (fun k _=>by
   simp only[Zaw.l0]
   rw[if_neg (by omega),Nat.sub_self];rfl)
  (fun k i hk hi ih=>by
   simp only[Zaw.l0]
   rw[if_pos (by omega),if_pos (by omega),if_pos (by omega),Za0,Zal hi (by omega),ih,ZbP z now tm vs (i:Int) hc hn hv (by omega) (by omega) k (by omega),Zi,show tm.length - i=(tm.length - (i+1))+1 by omega,Zb9]
   unfold ovAt
   by_cases h:tm.getD i 0=-1
   ·rw[if_pos h,Ze h]
    by_cases h2:Zca ns vs i=-1
    ·rw[if_pos h2,Ze h2];rfl
    ·rw[if_neg h2,Zf h2];rfl
   ·rw[if_neg h,Zf h];rfl) 0 k (Nat.zero_le _) (by omega)
 unfold Zaw.f
 rw[he] at key ⊢
 simpa using key
theorem spec_over {ns:List ZX} {ts:List PTie} (z now:Int) {tm vs:List Int} (hc:Zbh ns ts) (hn:Zax ns=true) (hv:ZaY vs=true) (he:tm.length=ns.length) (k:Nat) (hk:2 ^ 67≤k) :
  ZS.l1 k ns (ns.length:Int) 0 ns ts z now tm vs=some (decide (z<now) && !Zb9 ns tm vs 0 ns.length):=by
 have hl:=hc.1
 have key:=ZaK ns.length (fun k i=>ZS.l1 k ns (ns.length:Int) (i:Int) ns ts z now tm vs=some (decide (z<now) && !Zb9 ns tm vs i (ns.length - i))) (2 ^ 66)
  (fun k _=>by
   simp only[ZS.l1]
   rw[if_neg (by omega),Nat.sub_self,Zb9,Bool.not_true,Bool.and_false])
  (fun k i hk hi ih=>by
   simp only[ZS.l1]
   have hb:=nodeSt_bd (ns:=ns) hv (i:Int)
   rw[if_pos (by omega),if_pos (by omega),if_pos (by omega),if_pos (show(i:Int)<(tm.length:Int) by omega),Za0,Zal hi (by omega),ih,Zcb (ts:=ts) vs (i:Int) hc hn hv (by omega) (by omega) k (by omega),Zi,show ns.length - i=(ns.length - (i+1))+1 by omega,Zb9]
   unfold ovAt
   by_cases hz:now > z
   ·rw[if_pos hz,Ze (show z<now from hz)]
    by_cases h:tm.getD i 0=-1
    ·rw[if_pos h,Ze h]
     by_cases h2:Zca ns vs i=-1
     ·rw[if_neg (by omega),Ze h2];rfl
     ·rw[if_pos (by omega),Zf h2];rfl
    ·rw[if_neg h,Zf h];rfl
   ·rw[if_neg hz,Zf (show ¬z<now from hz)];rfl) 0 k (Nat.zero_le _) (by omega)
 simpa using key
def Zc8 (ns:List ZX) (ts:List PTie) (z now:Int) (tm vs:List Int):Bool:=ts.any (Zcr ns now tm vs) || (decide (z<now) && !Zb9 ns tm vs 0 ns.length)
theorem spec_broken {ns:List ZX} {ts:List PTie} (z now:Int) {tm vs:List Int} (hc:Zbh ns ts) (ht:Za9 ns ts=true) (hn:Zax ns=true) (hv:ZaY vs=true) (he:tm.length=ns.length) (k:Nat) (hk:2 ^ 68≤k) :
  ZS.f k ns ts z now tm vs=some (Zc8 ns ts z now tm vs):=by
 have hl:=hc.2.1
 have key:=ZaK ts.length (fun k i=>ZS.l0 k ts (ts.length:Int) (i:Int) ns ts z now tm vs=some ((ts.drop i).any (Zcr ns now tm vs) || (decide (z<now) && !Zb9 ns tm vs 0 ns.length))) (2 ^ 67)
  (fun k hk=>by
   simp only[ZS.l0]
   rw[if_neg (by omega),List.drop_length,spec_over z now hc hn hv he k hk];rfl)
  (fun k i hk hi ih=>by
   simp only[ZS.l0]
   have hin:=Zda ht i hi
   rw[if_pos (by omega),if_pos (by omega),if_pos (by omega),ZcF,spec_late z now hc hn hv he _ hin.1 hin.2 k (by omega),Zi,Zal hi (by omega),ih,ZaI hi z90,List.any_cons]
   cases Zcr ns now tm vs (ts.getD i z90) with
   | true=>rw[if_pos rfl];rfl
   | false=>rw[if_neg (by simp)];rfl) 0 k (Nat.zero_le _) (by omega)
 unfold ZS.f Zc8
 simpa using key
theorem impl_broken {ns:List ZX} {ts:List PTie} (z now:Int) {tm vs:List Int} (hc:Zbh ns ts) (ht:Za9 ns ts=true) (hn:Zax ns=true) (hv:ZaY vs=true) (he:tm.length=ns.length) (k:Nat) (hk:2 ^ 68≤k) :
  Zac.f k ns ts z now tm vs=some (Zc8 ns ts z now tm vs):=by
 have hp:∀t∈ts,Zac.p k ns ts z now tm vs t=some (Zcr ns now tm vs t):=fun t hm=>by
  obtain⟨i,hi,e⟩:=List.mem_iff_getElem.1 hm
  have hin:=Zda ht i hi
  rw[show ts.getD i z90=t by rw[List.getD_eq_getElem?_getD,Zl hi,e];rfl] at hin
  exact impl_late z now hc hn hv he t hin.1 hin.2 k (by omega)
 unfold Zac.f Zc8
 rw[if_pos (List.all_eq_true.2 fun t hm=>by rw[hp t hm];rfl)]
 have e:ts.any (fun t=>Zac.p k ns ts z now tm vs t == some true)=ts.any (Zcr ns now tm vs):=by
  rw[Bool.eq_iff_iff,List.any_eq_true,List.any_eq_true]
  constructor
  ·rintro⟨t,hm,h⟩
   rw[hp t hm] at h
   exact⟨t,hm,by simpa using h⟩
  ·rintro⟨t,hm,h⟩
   exact⟨t,hm,by rw[hp t hm,h];rfl⟩
 rw[e]
 cases ts.any (Zcr ns now tm vs) with
 | true=>rfl
 | false=>
  rw[if_neg (by simp)]
  by_cases hz:z<now
  ·rw[if_pos hz,impl_over z now hc hn hv he k (by omega),Zi,Ze hz];rfl
  ·rw[if_neg hz,Zf hz];rfl
def ZcX (ns:List ZX) (ts:List PTie) (z now:Int) (tm vs:List Int):Bool:=Zbi ns ts z now tm vs && Zc8 ns ts z now tm vs
theorem Zd5 {ns:List ZX} {ts:List PTie} {z:Int} (now:Int) (tm vs:List Int) (hc:Zbh ns ts) (hn2:now≤9223372036854775807) (k:Nat) (hk:2 ^ 69≤k):ZbD.f k ns ts z now tm vs=some (ZcX ns ts z now tm vs):=by
 unfold ZbD.f ZcX
 rw[Zco now tm vs hc hn2 k (by omega),Zi]
 cases hs:Zbi ns ts z now tm vs with
 | false=>rfl
 | true=>
  have h2:=ZcB hs
  rw[if_pos rfl,impl_broken z now hc (Zbt hs).1 (Zb2 h2.1) (Zcl h2.2) (Zbt hs).2 k (by omega)];rfl
theorem ZdX {ns:List ZX} {ts:List PTie} {z:Int} (now:Int) (tm vs:List Int) (hc:Zbh ns ts) (hn2:now≤9223372036854775807) (hvl:vs.length≤9223372036854775807) (k:Nat) (hk:2 ^ 69≤k):ZbA.f k ns ts z now tm vs=some (ZcX ns ts z now tm vs):=by
 unfold ZbA.f ZcX
 rw[Zcm now tm vs hc hn2 hvl k (by omega),Zi]
 cases hs:Zbi ns ts z now tm vs with
 | false=>rfl
 | true=>
  have h2:=ZcB hs
  rw[if_pos rfl,spec_broken z now hc (Zbt hs).1 (Zb2 h2.1) (Zcl h2.2) (Zbt hs).2 k (by omega)];rfl
end Go.Proofs.Ytodfnelilhjoeaa.Pr
