/- The texts of one claim, put together by a program of this session. -/
import Derived.Test.YthphnhmabieflaaDoorBFtc1x10
import Derived.Test.YthphnhmabieflaaDoorBFtc1x3
import Derived.Test.YthphnhmabieflaaDoorBFtc1x4
import Derived.Test.YthphnhmabieflaaDoorBFtc1x6
import Derived.Test.YthphnhmabieflaaDoorBFtc1x7
import Derived.Test.YthphnhmabieflaaDoorBFtc1x8
import Derived.Test.YthphnhmabieflaaDoorBFtc1x9
namespace Go.Proofs.YthphnhmabieflaaDoor.Pr
open Go.RowKit Go.Proofs.YthphnhmabieflaaDoorW.PrintWords Go.Proofs.YthphnhmabieflaaDoor.Ni
theorem idx_at {α:Type} (p:α→Bool) (l:List α) (i:Nat) (x:α) (h:l[i]? = some x) (hx:p x=true):decide (Zbn p l=(i:Int))=(l.take i).all (fun y=>!p y):=by
 have hi:i<l.length:=by
  rcases Nat.lt_or_ge i l.length with h'|h'
  ·exact h'
  ·rw[List.getElem?_eq_none h'] at h;exact absurd h (by simp)
 by_cases ha:(l.take i).all (fun y=>!p y)=true
 ·rw[ha,decide_eq_true_eq]
  refine ZbO p l i x h hx fun j y hj hy=>?_
  have:=List.all_eq_true.1 ha y (List.mem_of_getElem? (i:=j) (by rw[List.getElem?_take_of_lt hj];exact hy))
  simpa using this
 ·rw[Bool.eq_false_iff.2 ha,decide_eq_false_iff_not]
  intro e
  apply ha
  rw[List.all_eq_true]
  intro y hy
  obtain⟨j,hj,rfl⟩:=List.mem_iff_getElem.1 hy
  have hj':j<i:=by rw[Zj] at hj;omega
  unfold Zbn at e
  cases hf:l.findIdx? p with
  | none=>rw[hf] at e;simp only at e;omega
  | some m=>
   rw[hf] at e
   have:m=i:=by simp only at e;omega
   subst this
   obtain⟨_,_,h3⟩:=List.findIdx?_eq_some_iff_getElem.1 hf
   have:=h3 j hj'
   rw[List.getElem_take]
   simpa using this
theorem all_pair {α:Type} (a b:α→Bool) (c:Bool) (l:List α):l.all (fun m=>a m && (c || b m))=(l.all a && (c || l.all b)):=by
 induction l with
 | nil=>simp
 | cons x l ih=>rw[List.all_cons,List.all_cons,List.all_cons,ih];cases a x <;> cases b x <;> cases c <;> simp
theorem ZdC (a b:Int):(!(a != b))=decide (a=b):=by rw[Bool.eq_iff_iff];simp
theorem snodeC_at {ns:List Z2} {i:Nat} (h:i<ns.length):ZbK ns (Zp ns (i:Int)) i=ZbX ns i:=by
 rw[Zbi]
 unfold ZbK ZbX
 have hs:=getD_some h z73
 generalize ns.getD i z73=y at hs
 rw[ZdC,ZdC,ZdC,ZcE,Zbw,idx_at _ ns i y hs (Ze rfl),idx_at _ ns i y hs (Ze rfl),Bool.and_assoc,← all_pair]
 rfl
theorem ZdH {ns:List Z2}:∀(d i:Nat),i+d=ns.length→ZaS ns i d=Zbj ns i d
 | 0,_,_=>rfl
 | d+1,i,h=>by rw[ZaS,Zbj,snodeC_at (by omega),ZdH d (i+1) (by omega)]
theorem watch_same (ns:List Z2) {p:Int} (hp:0<p):Zb1 ns p=Zbw ns p:=by
 unfold Zb1 Zbw
 rw[Ze hp]
 simp only[Bool.true_and]
theorem Zdg (ns:List Z2) (lb:List Int) {x:Int} (hx:Za7 x=true):ZbE ns lb x=ZbZ ns lb x:=by
 unfold ZbE ZdO ZbZ Zcx hasB
 rw[watch_same ns (by have:=Zcf hx;omega)]
 congr 3
 rw[Bool.eq_iff_iff];simp
theorem Zd7 {ns:List Z2} {n:Z2} (h:∀x∈n.f1,Za7 x=true):ZbW ns n=ZbB ns n:=by
 unfold ZbW ZbB
 rw[Bool.eq_iff_iff,Bool.not_eq_true',List.any_eq_false,List.all_eq_true]
 constructor
 ·intro hh x hx
  have:=hh x hx
  rw[← Zdg ns _ (h x hx)];simpa using this
 ·intro hh x hx
  have:=hh x hx
  rw[← Zdg ns _ (h x hx)] at this;simpa using this
theorem nodes_same (ns:List Z2):Zbc ns=(Zac ns && ns.all (ZbW ns)):=by
 have e:Zbc ns=(Zac ns && ns.all (ZbB ns)):=by
  unfold Zbc Zac inB
  rw[ZdH ns.length 0 (by omega),ZdC,show Zp ns 0=ns.getD 0 z73 from Zbi ns 0]
  rw[show(decide ((1:Int)≤(ns.length:Int)) && decide ((ns.length:Int)≤7))=(decide (1≤ns.length) && decide (ns.length≤7)) by rw[Bool.eq_iff_iff];simp only[Bool.and_eq_true,decide_eq_true_eq];omega]
  rw[show(!(decide (((ns.getD 0 z73).f1.length:Int) > 0)))=decide ((ns.getD 0 z73).f1.length=0) by rw[Bool.eq_iff_iff];simp only[Bool.not_eq_true',decide_eq_true_eq,decide_eq_false_iff_not];omega]
 rw[e]
 cases h:Zac ns with
 | false=>rfl
 | true=>
  rw[Bool.true_and,Bool.true_and,Bool.eq_iff_iff,List.all_eq_true,List.all_eq_true]
  constructor
  ·intro hh n hn;rw[Zd7 (Zcu h n hn)];exact hh n hn
  ·intro hh n hn;rw[← Zd7 (Zcu h n hn)];exact hh n hn
def Zcn (ns:List Z2) (ts:List PTie) (i:Nat):Nat→Bool
 | 0=>true
 | d+1=>tieB ns ts i && Zcn ns ts (i+1) d
theorem in_same (n:Nat) (x:Int):inB x 0 ((n:Int) - 1)=ZbM n x:=by
 unfold inB ZbM
 rw[Bool.eq_iff_iff];simp;omega
theorem tie_same {ns:List Z2} {ts:List PTie} {i:Nat} (h:i<ts.length):tieB ns ts i=ptieB ns ts i:=by
 unfold tieB ptieB
 have hs:=getD_some h z66
 rw[Zdy]
 generalize ts.getD i z66=t at hs
 obtain⟨tf,tt,tl,th,tb⟩:=t
 show tieC tf tt tl th tb ns ts i=Zbl tf tt tl th tb ns ts i
 unfold tieC Zbl spanB
 rw[in_same,in_same]
 cases tb with
 | false=>
  rw[Bool.eq_iff_iff]
  simp only[Bool.not_false,Bool.true_or,Bool.and_true,Bool.and_eq_true,Bool.not_eq_true',beq_eq_false_iff_ne,decide_eq_true_eq,decide_eq_false_iff_not]
  constructor
  ·rintro⟨⟨⟨⟨⟨a1,a2⟩,a3⟩,a4⟩,a5⟩,a6⟩
   exact⟨⟨⟨⟨⟨a1,a2⟩,a3⟩,by omega,by omega⟩,by omega,by omega⟩,a6⟩
  ·rintro⟨⟨⟨⟨⟨a1,a2⟩,a3⟩,a4,a5⟩,a6,a7⟩,a8⟩
   exact⟨⟨⟨⟨⟨a1,a2⟩,a3⟩,by omega⟩,by omega⟩,a8⟩
 | true=>
  have hf:(Zb9 ts tt == (i:Int))=!((ts.take i).any fun u=>u.f4 && decide (u.f1=tt)):=by
   rw[show(Zb9 ts tt == (i:Int))=decide (Zb9 ts tt=(i:Int)) by rw[Bool.eq_iff_iff];simp,Zb9,idx_at _ ts i _ hs (by simp),Bool.eq_iff_iff]
   simp
   exact forall_congr' fun x=>forall_congr' fun _=>by cases x.f4 <;> simp
  rw[hf]
  rw[Bool.eq_iff_iff]
  simp only[Bool.not_true,Bool.false_or,Bool.and_eq_true,Bool.not_eq_true',beq_eq_false_iff_ne,decide_eq_true_eq,decide_eq_false_iff_not,beq_iff_eq,bne_eq_false_iff_eq]
  constructor
  ·rintro⟨⟨⟨⟨⟨⟨a1,a2⟩,a3⟩,a4⟩,a5⟩,a6⟩,⟨⟨⟨⟨b1,b2⟩,b3⟩,b4⟩,b5⟩⟩
   exact⟨⟨⟨⟨⟨⟨a1,a2⟩,a3⟩,by omega,by omega⟩,by omega,by omega⟩,a6⟩,⟨⟨⟨⟨by omega,b2⟩,b3⟩,b4.symm⟩,b5⟩⟩
  ·rintro⟨⟨⟨⟨⟨⟨a1,a2⟩,a3⟩,a4,a5⟩,a6,a7⟩,a8⟩,⟨⟨⟨⟨b1,b2⟩,b3⟩,b4⟩,b5⟩⟩
   exact⟨⟨⟨⟨⟨⟨a1,a2⟩,a3⟩,by omega⟩,by omega⟩,a8⟩,⟨⟨⟨⟨by omega,b2⟩,b3⟩,b4.symm⟩,b5⟩⟩
theorem ties_from {ns:List Z2} {ts:List PTie}:∀(d i:Nat),i+d=ts.length→Zcn ns ts i d=Zbo ns ts i d
 | 0,_,_=>rfl
 | d+1,i,h=>by rw[Zcn,Zbo,tie_same (by omega),ties_from d (i+1) (by omega)]
theorem ZeH (ns:List Z2) (ts:List PTie) (z:Int) (ht:ts.length≤14):∀(d i k:Nat),i+d=ts.length→d<k→ZT.l0 k ts.length (i:Int) ns ts z=some (Zcn ns ts i d):=by
 intro d
 induction d with
 | zero=>
  intro i k hi hk
  obtain⟨m,rfl⟩:∃m,k=m+1:=⟨k - 1,by omega⟩
  simp only[ZT.l0]
  rw[if_neg (by omega)];rfl
 | succ d ih=>
  intro i k hi hk
  obtain⟨m,rfl⟩:∃m,k=m+1:=⟨k - 1,by omega⟩
  simp only[ZT.l0]
  rw[if_pos (by omega),ZbF.f,if_pos (by omega),Zi,Zcn,Zax (n:=ts.length) (by omega) (by omega),ih (i+1) m (by omega) (by omega)]
  cases tieB ns ts i <;> rfl
theorem Zcp (ns:List Z2) (ts:List PTie) (z:Int) (hf:fitN ns=true) (k:Nat) (hk:2 ^ 64≤k):ZT.f k ns ts z=some (ZaL ns ts z):=by
 obtain⟨m,rfl⟩:∃m,k=m+1:=⟨k - 1,by omega⟩
 unfold ZT.f Za1.f ZaL ZaU
 rw[if_pos hf,Zi,nodes_same]
 simp only[ZT.j0,l01In_f,Zi,if_true]
 cases h1:Zac ns with
 | false=>rfl
 | true=>
  cases h2:ns.all (ZbW ns) with
  | false=>simp
  | true=>
   rw[Bool.and_true,if_pos rfl]
   by_cases h3:(ts.length:Int) > 14
   ·rw[if_pos h3,Zf (show ¬ts.length≤14 by omega)];simp
   ·rw[if_neg h3,Ze (show ts.length≤14 by omega)]
    have hl:=ZeH ns ts z (by omega) ts.length 0 m (by omega) (by omega)
    rw[show((0:Nat):Int)=0 from rfl] at hl
    rw[hl,ties_from _ _ (by omega)]
    by_cases h4:z<1
    ·rw[show inB z 1 10=false by unfold inB;rw[Zf (show ¬(1:Int)≤z by omega)];rfl,Ze h4];simp
    ·by_cases h5:10<z
     ·rw[show inB z 1 10=false by unfold inB;rw[Zf (show ¬z≤(10:Int) by omega)];simp,Ze h5];simp
     ·rw[show inB z 1 10=true by unfold inB;rw[Ze (show(1:Int)≤z by omega),Ze (show z≤(10:Int) by omega)];rfl,Zf h4,Zf h5];simp
theorem fitN_of {ns:List Z2} {ts:List PTie} (h:SmallP ns ts):fitN ns=true:=by
 unfold fitN
 rw[List.all_eq_true]
 intro n hn
 have:=h.2.2 n hn
 simp;omega
theorem Zcs {ns:List Z2} {ts:List PTie} {z:Int} (hf:fitN ns=true):ZaG.f ns ts z=some (ZaL ns ts z):=by
 unfold ZaG.f
 rw[if_pos hf]
theorem ZbL {ns:List Z2} {ts:List PTie} {z:Int} (h:ZaL ns ts z=true):Zac ns=true:=by
 unfold ZaL at h
 simp only[Bool.and_eq_true] at h
 exact h.1.1.1.1
theorem Zb6 {ns:List Z2} {ts:List PTie} {z:Int} (h:ZaL ns ts z=true):ZaU ns ts=true:=by
 unfold ZaL at h
 simp only[Bool.and_eq_true] at h
 exact h.1.1.1.2
theorem nodes_watch {ns:List Z2} (h:Zac ns=true):∀n∈ns,0≤n.f2∧n.f2≤3:=by
 intro n hn
 obtain⟨j,hj,rfl⟩:=List.mem_iff_getElem.1 hn
 have:=ZcK h j hj
 unfold ZbX Zb7 at this
 rw[show ns.getD j z73=ns[j] by rw[List.getD_eq_getElem?_getD,Zl hj];rfl] at this
 simp only[Bool.and_eq_true,decide_eq_true_eq] at this
 exact this.1.2
theorem pwatch_out {ns:List Z2} (h:Zac ns=true) {p:Int} (hp:¬(1≤p∧p≤3)):Zb1 ns p=-1:=by
 unfold Zb1
 refine ZbD _ _ fun j y _ hy=>?_
 have:=nodes_watch h y (List.mem_of_getElem? hy)
 rw[Bool.eq_false_iff]
 intro hh
 simp only[Bool.and_eq_true,decide_eq_true_eq] at hh
 omega
end Go.Proofs.YthphnhmabieflaaDoor.Pr
set_option linter.unusedSimpArgs false
set_option linter.unusedVariables false
namespace Go.Proofs.YthphnhmabieflaaDoor.Pr
open Go.RowKit Go.Proofs.YthphnhmabieflaaDoorW.PrintWords Go.Proofs.YthphnhmabieflaaDoor.Ni
theorem Zdi {ns:List Z2} {ts:List PTie}:∀(d i:Nat),Zbo ns ts i d=true→∀j,i≤j→j<i+d→ptieB ns ts j=true
 | 0,i,_,j,h1,h2=>by omega
 | d+1,i,h,j,h1,h2=>by
  rw[Zbo,Bool.and_eq_true] at h
  by_cases e:j=i
  ·rw[e];exact h.1
  ·exact Zdi d (i+1) h.2 j (by omega) (by omega)
theorem tie_bd {ns:List Z2} {ts:List PTie} (h:ZaU ns ts=true) {j:Int} (h0:0≤j) (h1:j<ts.length) :
  (0≤(Zw ts j).f0∧(Zw ts j).f0<ns.length)∧(0≤(Zw ts j).f1∧(Zw ts j).f1<ns.length)∧(-20≤(Zw ts j).f2∧(Zw ts j).f2≤20)∧(-20≤(Zw ts j).f3∧(Zw ts j).f3≤20):=by
 obtain⟨m,rfl⟩:=Int.eq_ofNat_of_zero_le h0
 unfold ZaU at h
 rw[Bool.and_eq_true] at h
 have:=Zdi _ _ h.1 m (Nat.zero_le _) (by omega)
 unfold ptieB Zbl at this
 simp only[ZbM,spanB,Bool.and_eq_true,decide_eq_true_eq] at this
 obtain⟨⟨⟨⟨⟨⟨a,b⟩,_⟩,c⟩,d⟩,_⟩,_⟩:=this
 omega
theorem Zct {ns:List Z2} {ts:List PTie} (h:ZaU ns ts=true):ts.length≤14:=by
 unfold ZaU at h
 rw[Bool.and_eq_true,decide_eq_true_eq] at h
 exact h.2
theorem Zb4 {ns:List Z2} (h:Zac ns=true):ns.length≤7:=by
 unfold Zac at h
 simp only[Bool.and_eq_true,decide_eq_true_eq] at h
 exact h.1.1.1.2
theorem Zcv {ns:List Z2} (h:Zac ns=true) {j:Int} (h0:0≤j) (h1:j<ns.length):(Zp ns j).f0.size≤8∧labB (Zp ns j).f1=true∧0≤(Zp ns j).f2∧(Zp ns j).f2≤3:=by
 obtain⟨m,rfl⟩:=Int.eq_ofNat_of_zero_le h0
 have:=ZcK h m (by omega)
 rw[Zbi]
 unfold ZbX Zb7 nameB at this
 simp only[Bool.and_eq_true,decide_eq_true_eq] at this
 obtain⟨⟨⟨⟨_,_,a⟩,b⟩,c,d⟩,_⟩:=this
 exact⟨a,b,c,d⟩
def nmL (ns:List Z2) (i:Int):List UInt8:=(Zp ns i).f0.data.toList
theorem nm_bs (ns:List Z2) (i:Int):(Zp ns i).f0=bs (nmL ns i):=(bs_of _).symm
theorem Zcd {ns:List Z2} (h:Zac ns=true) {j:Int} (h0:0≤j) (h1:j<ns.length):(nmL ns j).length≤8:=by
 have:=(Zcv h h0 h1).1
 rw[nm_bs,ZaD] at this
 exact this
def tieW (b:Bool):List UInt8:=if b=true then[102,114,101,101] else[116,105,101]
def tieT (ns:List Z2) (t:PTie):List UInt8:=tieW t.f4 ++ [32] ++ nmL ns t.f0 ++ [32] ++ nmL ns t.f1 ++ [32] ++ Lib.itoa t.f2 ++ [32] ++ Lib.itoa t.f3
theorem tieT_join (ns:List Z2) (t:PTie):Lib.join [tieW t.f4,nmL ns t.f0,nmL ns t.f1,Lib.itoa t.f2,Lib.itoa t.f3] [32]=tieT ns t:=by
 simp[Lib.join,Lib.joinTail,tieT]
theorem ZdQ {ns:List Z2} {ts:List PTie} (hn:Zac ns=true) (h:ZaU ns ts=true) {j:Int} (h0:0≤j) (h1:j<ts.length):(tieT ns (Zw ts j)).length≤80:=by
 obtain⟨a,b,c,d⟩:=tie_bd h h0 h1
 have e1:=Zcd hn a.1 a.2
 have e2:=Zcd hn b.1 b.2
 have e3:=Zba _ (show -9223372036854775808≤(Zw ts j).f2 by omega) (by omega)
 have e4:=Zba _ (show -9223372036854775808≤(Zw ts j).f3 by omega) (by omega)
 have e5:(tieW (Zw ts j).f4).length≤4:=by unfold tieW;split <;> simp
 unfold tieT
 simp only[List.length_append,List.length_cons,List.length_nil]
 omega
theorem Zc1 {ns:List Z2} {ts:List PTie} (z:Int) (hn:Zac ns=true) (h:ZaU ns ts=true) {j:Int} (h0:0≤j) (h1:j<ts.length):Zaa.f ns ts z j=some (bs (tieT ns (Zw ts j))):=by
 obtain⟨a,b,c,d⟩:=tie_bd h h0 h1
 have hl:=ZdQ hn h h0 h1
 unfold Zaa.f
 rw[if_pos h0,if_pos h1]
 have hj:∀w:ByteArray,w=bs (tieW (Zw ts j).f4)→Zai.f [w,(Zp ns (Zw ts j).f0).f0,(Zp ns (Zw ts j).f1).f0,bs (Lib.itoa (Zw ts j).f2),bs (Lib.itoa (Zw ts j).f3)] ⟨#[32]⟩=some (bs (tieT ns (Zw ts j))):=by
  rintro w rfl
  rw[nm_bs,nm_bs,show(⟨#[32]⟩:ByteArray)=bs [32] from rfl]
  have e:bl [bs (tieW (Zw ts j).f4),bs (nmL ns (Zw ts j).f0),bs (nmL ns (Zw ts j).f1),bs (Lib.itoa (Zw ts j).f2),bs (Lib.itoa (Zw ts j).f3)]=[tieW (Zw ts j).f4,nmL ns (Zw ts j).f0,nmL ns (Zw ts j).f1,Lib.itoa (Zw ts j).f2,Lib.itoa (Zw ts j).f3]:=by simp only[bl,List.map_cons,List.map_nil,Zbd]
  rw[Zcl _ _ (by simp) (by rw[e,Zbd,tieT_join];omega),e,Zbd,tieT_join]
 by_cases hb:(Zw ts j).f4=true
 ·rw[if_pos hb,if_pos a.1,if_pos a.2,if_pos b.1,if_pos b.2,ZaZ _ (by omega) (by omega),Zi,ZaZ _ (by omega) (by omega),Zi,hj _ (by unfold tieW;rw[if_pos hb];rfl),Zi]
 ·rw[if_neg hb,if_pos a.1,if_pos a.2,if_pos b.1,if_pos b.2,ZaZ _ (by omega) (by omega),Zi,ZaZ _ (by omega) (by omega),Zi,hj _ (by unfold tieW;rw[if_neg hb];rfl),Zi]
theorem Zdb {ns:List Z2} (ts:List PTie) (z:Int) (hn:Zac ns=true) (a b c d:Int) (f:Bool) (ha:0≤a∧a<ns.length) (hb:0≤b∧b<ns.length) (hc : -20≤c∧c≤20) (hd : -20≤d∧d≤20) (k:Nat) (hk:2 ^ 65≤k):Zaj.f k ns ts z a b c d f=some (bs (tieT ns ⟨a,b,c,d,f⟩)):=by
 have e1:=Zcd hn ha.1 ha.2
 have e2:=Zcd hn hb.1 hb.2
 have e3:=Zba c (by omega) (by omega)
 have e4:=Zba d (by omega) (by omega)
 unfold Zaj.f tieT
 simp only[nm_bs,Zbh c (by omega) (by omega) k (by omega),Zbh d (by omega) (by omega) k (by omega),Zi,if_pos ha.1,if_pos ha.2,if_pos hb.1,if_pos hb.2,show(⟨#[32]⟩:ByteArray)=bs [32] from rfl,show(⟨#[102,114,101,101,32]⟩:ByteArray)=bs [102,114,101,101,32] from rfl,show(⟨#[116,105,101,32]⟩:ByteArray)=bs [116,105,101,32] from rfl,ZaW,ZaD,List.length_append,List.length_cons,List.length_nil]
 have e5:[102,114,101,101,32]=tieW true ++ [32]:=rfl
 have e6:[116,105,101,32]=tieW false ++ [32]:=rfl
 cases f with
 | true=>rw[if_pos rfl,if_pos (by omega),if_pos (by omega),if_pos (by omega),if_pos (by omega),if_pos (by omega),if_pos (by omega),if_pos (by omega),e5]
 | false=>rw[if_neg (by simp),if_pos (by omega),if_pos (by omega),if_pos (by omega),if_pos (by omega),if_pos (by omega),if_pos (by omega),if_pos (by omega),e6]
end Go.Proofs.YthphnhmabieflaaDoor.Pr
namespace Go.Proofs.YthphnhmabieflaaDoor.Pr
open Go.RowKit Go.Proofs.YthphnhmabieflaaDoorW.PrintWords Go.Proofs.YthphnhmabieflaaDoor.Ni
theorem isNode_f (n x:Int):Za2.f n x=some (ZbM n x):=by
 unfold Za2.f ZbM
 by_cases h:x≥0
 ·rw[if_pos h,Ze (show(0:Int)≤x from h),Bool.true_and]
 ·rw[if_neg h,Zf (show ¬(0:Int)≤x from h),Bool.false_and]
theorem areNodesB_one {ns:List Z2} (h:Zac ns=true):1≤ns.length:=by
 unfold Zac at h
 simp only[Bool.and_eq_true,decide_eq_true_eq] at h
 exact h.1.1.1.1
end Go.Proofs.YthphnhmabieflaaDoor.Pr
set_option linter.unusedSimpArgs false
set_option linter.unusedVariables false
namespace Go.Proofs.YthphnhmabieflaaDoor.Pr
open Go.RowKit Go.Proofs.YthphnhmabieflaaDoorW.PrintWords Go.Proofs.YthphnhmabieflaaDoor.Ni
def ftieB (ns:List Z2) (ts:List PTie) (z a:Int):ByteArray:=if ZaL ns ts z=true then(if 0≤a∧a<ts.length then bs (tieT ns (Zw ts a)) else⟨#[]⟩) else⟨#[]⟩
theorem ZdY {ns:List Z2} {ts:List PTie} {z:Int} (a:Int) (hf:fitN ns=true):Zbv.f ns ts z a=some (ftieB ns ts z a):=by
 unfold Zbv.f ftieB
 rw[Zcs hf,Zi]
 cases hp:ZaL ns ts z with
 | false=>rfl
 | true=>
  rw[if_pos rfl,if_pos rfl,isNode_f,Zi]
  unfold ZbM
  by_cases h:0≤a∧a<ts.length
  ·rw[Ze h.1,Ze h.2,if_pos (by rfl),if_pos h,Zc1 z (ZbL hp) (Zb6 hp) h.1 h.2,Zi]
  ·rw[if_neg h,if_neg (by simpa using h)]
theorem ZdT {ns:List Z2} {ts:List PTie} {z:Int} (a:Int) (hf:fitN ns=true) (k:Nat) (hk:2 ^ 65≤k):ZaC.f k ns ts z a=some (ftieB ns ts z a):=by
 unfold ZaC.f ftieB
 rw[Zcp ns ts z hf k (by omega),Zi]
 cases hp:ZaL ns ts z with
 | false=>rfl
 | true=>
  have hl:=Zct (Zb6 hp)
  rw[if_pos rfl,if_pos rfl,l01In_f,Zi,Zbb (by omega) (by omega)]
  unfold inB
  by_cases h:0≤a∧a<ts.length
  ·obtain⟨e1,e2,e3,e4⟩:=tie_bd (Zb6 hp) h.1 h.2
   rw[Ze h.1,Ze (show a≤(ts.length:Int) - 1 by omega),if_pos (by rfl),if_pos h,if_pos h.1,if_pos h.2,Zdb ts z (ZbL hp) _ _ _ _ _ e1 e2 e3 e4 k hk,Zi]
  ·rw[if_neg h,if_neg (by simp;omega)]
end Go.Proofs.YthphnhmabieflaaDoor.Pr
