/- The texts of one claim, put together by a program of this session. -/
import Derived.Test.YthphnhmabieflaaDoorBFtc1x10
import Derived.Test.YthphnhmabieflaaDoorBFtc1x7
import Derived.Test.YthphnhmabieflaaDoorBFtc1x8
set_option linter.unusedSimpArgs false
set_option linter.unusedVariables false
namespace Go.Proofs.YthphnhmabieflaaDoor.Pr
open Go.RowKit Go.Proofs.YthphnhmabieflaaDoorW.PrintWords Go.Proofs.YthphnhmabieflaaDoor.Ni
theorem Zdi {ns:List Z2} {ts:List PTie}:∀(d i:Nat),Zbo ns ts i d=true→∀j,i≤j→j<i+d→ptieB ns ts j=true
 | 0,i,_,j,h1,h2=>by omega
 | d+1,i,h,j,h1,h2=>by
  rw[Zbo,Bool.and_eq_true] at h
  by_cases e:j=i
  ·rw[e];exact h.1
  ·exact Zdi d (i+1) h.2 j (by omega) (by omega)
theorem tie_bd {ns:List Z2} {ts:List PTie} (h:ZaU ns ts=true) {j:Int} (h0:0≤j) (h1:j<ts.length) :
  (0≤(Zw ts j).f0∧(Zw ts j).f0<ns.length)∧(0≤(Zw ts j).f1∧(Zw ts j).f1<ns.length)∧(-20≤(Zw ts j).f2∧(Zw ts j).f2≤20)∧(-20≤(Zw ts j).f3∧(Zw ts j).f3≤20):=by
 obtain⟨m,rfl⟩:=Int.eq_ofNat_of_zero_le h0
 unfold ZaU at h
 rw[Bool.and_eq_true] at h
 have:=Zdi _ _ h.1 m (Nat.zero_le _) (by omega)
 unfold ptieB Zbl at this
 simp only[ZbM,spanB,Bool.and_eq_true,decide_eq_true_eq] at this
 obtain⟨⟨⟨⟨⟨⟨a,b⟩,_⟩,c⟩,d⟩,_⟩,_⟩:=this
 omega
theorem Zct {ns:List Z2} {ts:List PTie} (h:ZaU ns ts=true):ts.length≤14:=by
 unfold ZaU at h
 rw[Bool.and_eq_true,decide_eq_true_eq] at h
 exact h.2
theorem Zb4 {ns:List Z2} (h:Zac ns=true):ns.length≤7:=by
 unfold Zac at h
 simp only[Bool.and_eq_true,decide_eq_true_eq] at h
 exact h.1.1.1.2
theorem Zcv {ns:List Z2} (h:Zac ns=true) {j:Int} (h0:0≤j) (h1:j<ns.length):(Zp ns j).f0.size≤8∧labB (Zp ns j).f1=true∧0≤(Zp ns j).f2∧(Zp ns j).f2≤3:=by
 obtain⟨m,rfl⟩:=Int.eq_ofNat_of_zero_le h0
 have:=ZcK h m (by omega)
 rw[Zbi]
 unfold ZbX Zb7 nameB at this
 simp only[Bool.and_eq_true,decide_eq_true_eq] at this
 obtain⟨⟨⟨⟨_,_,a⟩,b⟩,c,d⟩,_⟩:=this
 exact⟨a,b,c,d⟩
def nmL (ns:List Z2) (i:Int):List UInt8:=(Zp ns i).f0.data.toList
theorem nm_bs (ns:List Z2) (i:Int):(Zp ns i).f0=bs (nmL ns i):=(bs_of _).symm
theorem Zcd {ns:List Z2} (h:Zac ns=true) {j:Int} (h0:0≤j) (h1:j<ns.length):(nmL ns j).length≤8:=by
 have:=(Zcv h h0 h1).1
 rw[nm_bs,ZaD] at this
 exact this
def tieW (b:Bool):List UInt8:=if b=true then[102,114,101,101] else[116,105,101]
def tieT (ns:List Z2) (t:PTie):List UInt8:=tieW t.f4 ++ [32] ++ nmL ns t.f0 ++ [32] ++ nmL ns t.f1 ++ [32] ++ Lib.itoa t.f2 ++ [32] ++ Lib.itoa t.f3
theorem tieT_join (ns:List Z2) (t:PTie):Lib.join [tieW t.f4,nmL ns t.f0,nmL ns t.f1,Lib.itoa t.f2,Lib.itoa t.f3] [32]=tieT ns t:=by
 simp[Lib.join,Lib.joinTail,tieT]
theorem ZdR {ns:List Z2} {ts:List PTie} (hn:Zac ns=true) (h:ZaU ns ts=true) {j:Int} (h0:0≤j) (h1:j<ts.length):(tieT ns (Zw ts j)).length≤80:=by
 obtain⟨a,b,c,d⟩:=tie_bd h h0 h1
 have e1:=Zcd hn a.1 a.2
 have e2:=Zcd hn b.1 b.2
 have e3:=Zba _ (show -9223372036854775808≤(Zw ts j).f2 by omega) (by omega)
 have e4:=Zba _ (show -9223372036854775808≤(Zw ts j).f3 by omega) (by omega)
 have e5:(tieW (Zw ts j).f4).length≤4:=by unfold tieW;split <;> simp
 unfold tieT
 simp only[List.length_append,List.length_cons,List.length_nil]
 omega
theorem Zc1 {ns:List Z2} {ts:List PTie} (z:Int) (hn:Zac ns=true) (h:ZaU ns ts=true) {j:Int} (h0:0≤j) (h1:j<ts.length):Zaa.f ns ts z j=some (bs (tieT ns (Zw ts j))):=by
 obtain⟨a,b,c,d⟩:=tie_bd h h0 h1
 have hl:=ZdR hn h h0 h1
 unfold Zaa.f
 rw[if_pos h0,if_pos h1]
 have hj:∀w:ByteArray,w=bs (tieW (Zw ts j).f4)→Zai.f [w,(Zp ns (Zw ts j).f0).f0,(Zp ns (Zw ts j).f1).f0,bs (Lib.itoa (Zw ts j).f2),bs (Lib.itoa (Zw ts j).f3)] ⟨#[32]⟩=some (bs (tieT ns (Zw ts j))):=by
  rintro w rfl
  rw[nm_bs,nm_bs,show(⟨#[32]⟩:ByteArray)=bs [32] from rfl]
  have e:bl [bs (tieW (Zw ts j).f4),bs (nmL ns (Zw ts j).f0),bs (nmL ns (Zw ts j).f1),bs (Lib.itoa (Zw ts j).f2),bs (Lib.itoa (Zw ts j).f3)]=[tieW (Zw ts j).f4,nmL ns (Zw ts j).f0,nmL ns (Zw ts j).f1,Lib.itoa (Zw ts j).f2,Lib.itoa (Zw ts j).f3]:=by simp only[bl,List.map_cons,List.map_nil,Zbd]
  rw[Zcl _ _ (by simp) (by rw[e,Zbd,tieT_join];omega),e,Zbd,tieT_join]
 by_cases hb:(Zw ts j).f4=true
 ·rw[if_pos hb,if_pos a.1,if_pos a.2,if_pos b.1,if_pos b.2,ZaZ _ (by omega) (by omega),Zi,ZaZ _ (by omega) (by omega),Zi,hj _ (by unfold tieW;rw[if_pos hb];rfl),Zi]
 ·rw[if_neg hb,if_pos a.1,if_pos a.2,if_pos b.1,if_pos b.2,ZaZ _ (by omega) (by omega),Zi,ZaZ _ (by omega) (by omega),Zi,hj _ (by unfold tieW;rw[if_neg hb];rfl),Zi]
theorem Zdb {ns:List Z2} (ts:List PTie) (z:Int) (hn:Zac ns=true) (a b c d:Int) (f:Bool) (ha:0≤a∧a<ns.length) (hb:0≤b∧b<ns.length) (hc : -20≤c∧c≤20) (hd : -20≤d∧d≤20) (k:Nat) (hk:2 ^ 65≤k):Zaj.f k ns ts z a b c d f=some (bs (tieT ns ⟨a,b,c,d,f⟩)):=by
 have e1:=Zcd hn ha.1 ha.2
 have e2:=Zcd hn hb.1 hb.2
 have e3:=Zba c (by omega) (by omega)
 have e4:=Zba d (by omega) (by omega)
 unfold Zaj.f tieT
 simp only[nm_bs,Zbh c (by omega) (by omega) k (by omega),Zbh d (by omega) (by omega) k (by omega),Zi,if_pos ha.1,if_pos ha.2,if_pos hb.1,if_pos hb.2,show(⟨#[32]⟩:ByteArray)=bs [32] from rfl,show(⟨#[102,114,101,101,32]⟩:ByteArray)=bs [102,114,101,101,32] from rfl,show(⟨#[116,105,101,32]⟩:ByteArray)=bs [116,105,101,32] from rfl,ZaW,ZaD,List.length_append,List.length_cons,List.length_nil]
 have e5:[102,114,101,101,32]=tieW true ++ [32]:=rfl
 have e6:[116,105,101,32]=tieW false ++ [32]:=rfl
 cases f with
 | true=>rw[if_pos rfl,if_pos (by omega),if_pos (by omega),if_pos (by omega),if_pos (by omega),if_pos (by omega),if_pos (by omega),if_pos (by omega),e5]
 | false=>rw[if_neg (by simp),if_pos (by omega),if_pos (by omega),if_pos (by omega),if_pos (by omega),if_pos (by omega),if_pos (by omega),if_pos (by omega),e6]
end Go.Proofs.YthphnhmabieflaaDoor.Pr
namespace Go.Proofs.YthphnhmabieflaaDoor.Pr
open Go.RowKit Go.Proofs.YthphnhmabieflaaDoorW.PrintWords Go.Proofs.YthphnhmabieflaaDoor.Ni
theorem isNode_f (n x:Int):Za2.f n x=some (ZbM n x):=by
 unfold Za2.f ZbM
 by_cases h:x≥0
 ·rw[if_pos h,Ze (show(0:Int)≤x from h),Bool.true_and]
 ·rw[if_neg h,Zf (show ¬(0:Int)≤x from h),Bool.false_and]
theorem areNodesB_one {ns:List Z2} (h:Zac ns=true):1≤ns.length:=by
 unfold Zac at h
 simp only[Bool.and_eq_true,decide_eq_true_eq] at h
 exact h.1.1.1.1
end Go.Proofs.YthphnhmabieflaaDoor.Pr
set_option linter.unusedSimpArgs false
set_option linter.unusedVariables false
namespace Go.Proofs.YthphnhmabieflaaDoor.Pr
open Go.RowKit Go.Proofs.YthphnhmabieflaaDoorW.PrintWords Go.Proofs.YthphnhmabieflaaDoor.Ni
def ftieB (ns:List Z2) (ts:List PTie) (z a:Int):ByteArray:=if ZaL ns ts z=true then(if 0≤a∧a<ts.length then bs (tieT ns (Zw ts a)) else⟨#[]⟩) else⟨#[]⟩
theorem ZdZ {ns:List Z2} {ts:List PTie} {z:Int} (a:Int) (hf:fitN ns=true):Zbv.f ns ts z a=some (ftieB ns ts z a):=by
 unfold Zbv.f ftieB
 rw[Zcs hf,Zi]
 cases hp:ZaL ns ts z with
 | false=>rfl
 | true=>
  rw[if_pos rfl,if_pos rfl,isNode_f,Zi]
  unfold ZbM
  by_cases h:0≤a∧a<ts.length
  ·rw[Ze h.1,Ze h.2,if_pos (by rfl),if_pos h,Zc1 z (ZbL hp) (Zb6 hp) h.1 h.2,Zi]
  ·rw[if_neg h,if_neg (by simpa using h)]
theorem ZdU {ns:List Z2} {ts:List PTie} {z:Int} (a:Int) (hf:fitN ns=true) (k:Nat) (hk:2 ^ 65≤k):ZaC.f k ns ts z a=some (ftieB ns ts z a):=by
 unfold ZaC.f ftieB
 rw[Zcp ns ts z hf k (by omega),Zi]
 cases hp:ZaL ns ts z with
 | false=>rfl
 | true=>
  have hl:=Zct (Zb6 hp)
  rw[if_pos rfl,if_pos rfl,l01In_f,Zi,Zbb (by omega) (by omega)]
  unfold inB
  by_cases h:0≤a∧a<ts.length
  ·obtain⟨e1,e2,e3,e4⟩:=tie_bd (Zb6 hp) h.1 h.2
   rw[Ze h.1,Ze (show a≤(ts.length:Int) - 1 by omega),if_pos (by rfl),if_pos h,if_pos h.1,if_pos h.2,Zdb ts z (ZbL hp) _ _ _ _ _ e1 e2 e3 e4 k hk,Zi]
  ·rw[if_neg h,if_neg (by simp;omega)]
end Go.Proofs.YthphnhmabieflaaDoor.Pr
