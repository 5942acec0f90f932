/- The texts of one claim, put together by a program of this session. -/
import Derived.Deep.LoopGhost
import Derived.Shelf.Abstract
import Derived.WalkKit
import Derived.ProofKit
import Derived.Below
import Derived.Test.YthphnhmabieflaaDoorBFtc1x1
import Derived.Test.YthphnhmabieflaaDoorBFtc1x2
namespace Go.Proofs.YthphnhmabieflaaDoor.Pr
open Go.RowKit Go.Proofs.YthphnhmabieflaaDoorW.PrintWords Go.Proofs.YthphnhmabieflaaDoor.Ni
def ZbQ (n m:Z2):Bool:=!(decide (m.f0.toList=n.f0.toList)) && (decide (n.f2=0) || !(decide (m.f2=n.f2)))
def ZbX (ns:List Z2) (i:Nat):Bool:=Zb7 (ns.getD i z73).f0 (ns.getD i z73).f1 (ns.getD i z73).f2 && (ns.take i).all (ZbQ (ns.getD i z73))
def Zbj (ns:List Z2) (i:Nat):Nat→Bool
 | 0=>true
 | d+1=>ZbX ns i && Zbj ns (i+1) d
def Zac (ns:List Z2):Bool:=decide (1≤ns.length) && decide (ns.length≤7) && decide ((ns.getD 0 z73).f1.length=0) && decide ((ns.getD 0 z73).f2=0) && Zbj ns 0 ns.length
theorem nodesFrom_step {ns:List Z2} {i:Nat} (h:i<ns.length):Zbj ns i (ns.length - i)=(ZbX ns i && Zbj ns (i+1) (ns.length - (i+1))):=by
 rw[show ns.length - i=(ns.length - (i+1))+1 by omega];rfl
theorem areNodes_l1 (ns:List Z2) (ts:List PTie) (z:Int) (i:Nat) (hi:i<ns.length) (h7:ns.length≤7) (K:Nat) (R:Option Bool) (s:ByteArray) (lb:List Int) (p:Int)
  (hR:∀k,K≤k→ZQ.l0 k ns ns.length (wrap64 ((i:Int)+1)) ns ts z=R) :
  ∀k,K+8<k→ZQ.l1 k ns ns.length i (ns.take i) (ns.take i).length 0 ns ts z s lb p=if (ns.take i).all (ZbQ ⟨s,lb,p⟩)=true then R else some false:=by
 intro k hk
 have hlen:(ns.take i).length=i:=by rw[Zj];omega
 have key:=ZaM (ns.take i).length (fun k j=>ZQ.l1 k ns ns.length i (ns.take i) (ns.take i).length (j:Int) ns ts z s lb p=if ((ns.take i).drop j).all (ZbQ ⟨s,lb,p⟩)=true then R else some false) K
  (fun k hk=>by
   simp only[ZQ.l1]
   rw[if_neg (by omega),hR k hk,List.drop_of_length_le (Nat.le_refl _),List.all_nil,if_pos rfl])
  (fun k j hk hj ih=>by
   simp only[ZQ.l1]
   rw[if_pos (by omega),if_pos (by omega),if_pos (by omega),Zbi,Zax hj (by omega),ih,ZaA hj z73,List.all_cons]
   generalize (ns.take i).getD j z73=m
   by_cases h1:m.f0.toList=s.toList
   ·rw[if_pos h1,show ZbQ ⟨s,lb,p⟩ m=false by simp[ZbQ,h1]];rfl
   ·rw[if_neg h1]
    by_cases h2:p=0
    ·rw[if_pos h2,show ZbQ ⟨s,lb,p⟩ m=true by simp[ZbQ,h1,h2],Bool.true_and]
    ·rw[if_neg h2]
     by_cases h3:m.f2=p
     ·rw[if_pos h3,show ZbQ ⟨s,lb,p⟩ m=false by simp[ZbQ,h2,h3]];rfl
     ·rw[if_neg h3,show ZbQ ⟨s,lb,p⟩ m=true by simp[ZbQ,h1,h3],Bool.true_and]) 0 k (Nat.zero_le _) (by omega)
 simpa using key
theorem areNodes_l0 (ns:List Z2) (ts:List PTie) (z:Int) (h7:ns.length≤7) (hb:∀n∈ns,n.f0.size≤9223372036854775807∧n.f1.length≤9223372036854775807) :
  ∀(d i k:Nat),i+d=ns.length→2 ^ 64+10 * d<k→ZQ.l0 k ns ns.length (i:Int) ns ts z=some (Zbj ns i d):=by
 intro d
 induction d with
 | zero=>
  intro i k hi hk
  obtain⟨m,rfl⟩:∃m,k=m+1:=⟨k - 1,by omega⟩
  simp only[ZQ.l0]
  rw[if_neg (by omega)];rfl
 | succ d ih=>
  intro i k hi hk
  obtain⟨m,rfl⟩:∃m,k=m+1:=⟨k - 1,by omega⟩
  have hlt:i<ns.length:=by omega
  simp only[ZQ.l0]
  have hm:=hb _ (Zbp hlt z73)
  rw[if_pos (by omega),if_pos (by omega),if_pos (by omega),Zbi,ZeP _ _ _ hm.1 hm.2 m (by omega),Zi]
  show(if _ then _ else _)=some (ZbX ns i && Zbj ns (i+1) d)
  unfold ZbX
  cases hn:Zb7 (ns.getD i z73).f0 (ns.getD i z73).f1 (ns.getD i z73).f2 with
  | false=>rfl
  | true=>
   rw[if_pos rfl,if_pos (by omega),Zi,Int.toNat_natCast]
   rw[areNodes_l1 ns ts z i hlt h7 (2 ^ 64+10 * d+1) (some (Zbj ns (i+1) d)) _ _ _ (fun k hk=>by rw[Zax hlt (by omega)];exact ih (i+1) k (by omega) (by omega)) m (by omega)]
   cases (ns.take i).all (ZbQ (ns.getD i z73)) <;> rfl
theorem areNodes_f (ns:List Z2) (ts:List PTie) (z:Int) (hb:∀n∈ns,n.f0.size≤9223372036854775807∧n.f1.length≤9223372036854775807) (k:Nat) (hk:2 ^ 65≤k):ZQ.f k ns ts z=some (Zac ns):=by
 obtain⟨m,rfl⟩:∃m,k=m+1:=⟨k - 1,by omega⟩
 unfold ZQ.f Zac
 by_cases h1:(ns.length:Int)<1
 ·rw[if_pos h1,Zf (show ¬1≤ns.length by omega)]
  simp[ZQ.j0]
 ·rw[if_neg h1,Ze (show 1≤ns.length by omega)]
  by_cases h2:(ns.length:Int) > 7
  ·rw[if_pos h2,Zf (show ¬ns.length≤7 by omega)]
   simp[ZQ.j0]
  ·rw[if_neg h2,if_pos (by omega),Ze (show ns.length≤7 by omega)]
   have e0:Zp ns 0=ns.getD 0 z73:=rfl
   rw[e0]
   by_cases h3:((ns.getD 0 z73).f1.length:Int) > 0
   ·rw[if_pos h3,Zf (show ¬(ns.getD 0 z73).f1.length=0 by omega)]
    simp[ZQ.j0]
   ·rw[if_neg h3,Ze (show(ns.getD 0 z73).f1.length=0 by omega)]
    by_cases h4:(ns.getD 0 z73).f2=0
    ·rw[Ze h4,show((ns.getD 0 z73).f2 != 0)=false by rw[h4];rfl]
     simp only[ZQ.j0,Bool.false_eq_true,if_false]
     have:=areNodes_l0 ns ts z (by omega) hb ns.length 0 m (by omega) (by omega)
     rw[show((0:Nat):Int)=0 from rfl] at this
     rw[this];rfl
    ·rw[Zf h4,show((ns.getD 0 z73).f2 != 0)=true by rw[bne_iff_ne];exact h4]
     simp[ZQ.j0]
theorem ZcY:∀(l:List Int) (p:Int),Zbm p l=true→∀x∈l,Za7 x=true
 | [],_,_,x,hx=>by simp at hx
 | y :: l,p,h,x,hx=>by
  unfold Zbm at h
  simp only[Bool.and_eq_true] at h
  rcases List.mem_cons.1 hx with rfl|hx
  ·exact h.1.1
  ·exact ZcY l _ h.2 x hx
theorem Zdm {ns:List Z2}:∀(d i:Nat),Zbj ns i d=true→∀j,i≤j→j<i+d→ZbX ns j=true
 | 0,i,_,j,h1,h2=>by omega
 | d+1,i,h,j,h1,h2=>by
  rw[Zbj,Bool.and_eq_true] at h
  by_cases e:j=i
  ·rw[e];exact h.1
  ·exact Zdm d (i+1) h.2 j (by omega) (by omega)
theorem ZcK {ns:List Z2} (h:Zac ns=true):∀j,j<ns.length→ZbX ns j=true:=by
 unfold Zac at h
 rw[Bool.and_eq_true] at h
 exact fun j hj=>Zdm _ _ h.2 j (Nat.zero_le _) (by omega)
theorem Zcu {ns:List Z2} (h:Zac ns=true):∀n∈ns,∀x∈n.f1,Za7 x=true:=by
 intro n hn x hx
 obtain⟨j,hj,rfl⟩:=List.mem_iff_getElem.1 hn
 have:=ZcK h j hj
 unfold ZbX Zb7 labB at this
 rw[show ns.getD j z73=ns[j] by rw[List.getD_eq_getElem?_getD,Zl hj];rfl] at this
 simp only[Bool.and_eq_true] at this
 exact ZcY _ _ this.1.1.2 x hx
end Go.Proofs.YthphnhmabieflaaDoor.Pr
namespace Go.Proofs.YthphnhmabieflaaDoor.Pr
open Go.RowKit Go.Proofs.YthphnhmabieflaaDoorW.PrintWords Go.Proofs.YthphnhmabieflaaDoorW.PrintLast Go.Proofs.YthphnhmabieflaaDoorW.PrintMore
attribute [local go_sem] Zah Zaf Zas Zar Z8 Z7 Zag Zae
set_option linter.unusedVariables false
set_option linter.unusedSimpArgs false
def Zay.l0:Nat→Int→List Int→Int→Int→Option (Bool)
 | 0,_,_,_,_=>none
 | k+1,x1,x7,x8,x9=>if x9<x8 then(if 0≤x9 then(if x9<(x7.length:Int) then(if (rd x7 x9)=x1 then(some true) else(Zay.l0 k x1 x7 x8 (wrap64 (x9+1)))) else(none)) else(none)) else(some false)
def Zay.f (k:Nat) (l0:List Int) (a1:Int):Option (Bool):=Zay.l0 k a1 l0 (l0.length:Int) 0
set_option maxHeartbeats 8000000 in
set_option maxRecDepth 100000 in
theorem Zay.calls (k:Nat) (A0:Option Addr) (c0:Nat) (l0:List Int) (a1:Int) (r:Bool) (w:World) (hr0:Kd.C (Kd.int .i64) w A0 l0.length l0) (hc0:l0.length≤c0) (h:Zay.f k l0 a1=some r) :
  Calls Tryd.prog 106 #[.slice A0 l0.length c0,.int .i64 a1] w fun e w'=>e=.returned (.bool r)∧ZE w w':=by
 have HR0:=Za hr0;have HC0:=Za hc0;clear hr0 hc0
 have H:(Zay.l0 k a1 l0 (l0.length:Int) 0)=some r:=h
 clear h
 have H':=Za H
 clear H
 go_enter Tryd.func106,Tryd.ntmps106
 go_wp2
 go_loopg [9] k (fun kq v9 w'=>∃(x9_1:Int),v9=.int .i64 x9_1∧Aside0 (Zay.l0 kq a1 l0 (l0.length:Int) x9_1=some r)∧Aside0 (kq≤k)∧ZE w w')
 case atStart=>exact⟨(0),(by first|rfl|(simp;done)|(simp[*];done)),H',⟨Nat.le_refl _⟩,by repeat(first|exact ZE.refl _|apply ZE.step)⟩
 case round=>
  clear H'
  try clear c1
  try clear p2
  obtain⟨x9_1,rfl,HA,HK1,⟨m1,rfl⟩⟩:=hrel
  cases gk with
  | zero=>exact absurd HA.out (by simp[Zay.l0])
  | succ k1=>
   have H:=HA.out
   clear HA
   simp only[Zay.l0] at H
   by_cases c3:x9_1<(l0.length:Int)
   ·rw[if_pos c3] at H
    have c3b0:decide (x9_1<(l0.length:Int))=true:=Ze c3
    clear c3
    by_cases c4:0≤x9_1
    ·rw[if_pos c4] at H
     have c4b0:decide (0≤x9_1)=true:=Ze c4
     clear c4
     by_cases c5:x9_1<(l0.length:Int)
     ·rw[if_pos c5] at H
      have c5b0:decide (x9_1<(l0.length:Int))=true:=Ze c5
      clear c5
      by_cases c6:(rd l0 x9_1)=a1
      ·rw[if_pos c6] at H
       have c6b0:((rd l0 x9_1) == a1)=true:=beq_iff_eq.mpr c6
       have c6b1:((rd l0 x9_1) != a1)=false:=bne_eq_false_iff_eq.mpr c6
       clear c6
       obtain rfl:=Zg H
       have p106001:0≤(x9_1:Int):=Zd (by first|(with_reducible assumption)|assumption)
       have q106001:x9_1<(l0.length:Int):=Zd (by first|(with_reducible assumption)|assumption)
       obtain⟨ad106001,e106001,hx106001_0⟩:=Kd.at_int HR0.out x9_1 p106001 q106001
       cases e106001
       replace p106001:=eq_true p106001
       replace q106001:=eq_true q106001
       go_wp2
       go_ret
       exact⟨by first|rfl|(simp;done)|(simp[*];done),by repeat(first|exact ZE.refl _|apply ZE.step)⟩
      ·rw[if_neg c6] at H
       have c6b0:((rd l0 x9_1) == a1)=false:=beq_eq_false_iff_ne.mpr c6
       have c6b1:((rd l0 x9_1) != a1)=true:=bne_iff_ne.mpr c6
       have H':=Za H
       clear H
       have p106001:0≤(x9_1:Int):=Zd (by first|(with_reducible assumption)|assumption)
       have q106001:x9_1<(l0.length:Int):=Zd (by first|(with_reducible assumption)|assumption)
       obtain⟨ad106001,e106001,hx106001_0⟩:=Kd.at_int HR0.out x9_1 p106001 q106001
       cases e106001
       replace p106001:=eq_true p106001
       replace q106001:=eq_true q106001
       go_wp2
       go_roundg k1
       case measure=>have:=HK1.out;omega
       case rel=>exact⟨(wrap64 (x9_1+1)),(by first|rfl|(simp;done)|(simp[*];done)),H',⟨by have:=HK1.out;omega⟩,by repeat(first|exact ZE.refl _|apply ZE.step)⟩
     ·rw[if_neg c5] at H
      exact absurd H (by simp)
    ·rw[if_neg c4] at H
     exact absurd H (by simp)
   ·rw[if_neg c3] at H
    have c3b0:decide (x9_1<(l0.length:Int))=false:=Zf c3
    clear c3
    obtain rfl:=Zg H
    go_wp2
    go_ret
    exact⟨by first|rfl|(simp;done)|(simp[*];done),by repeat(first|exact ZE.refl _|apply ZE.step)⟩
mutual
def ZS.j0:Nat→List Int→List Int→Bool→Option (Bool)
 | 0,_,_,_=>none
 | k+1,x0,x1,x14=>if x14=true then(some false) else(ZS.l0 k x0 x1 (x1.length:Int) 0)
def ZS.l0:Nat→List Int→List Int→Int→Int→Option (Bool)
 | 0,_,_,_,_=>none
 | k+1,x0,x15,x16,x17=>if x17<x16 then(if 0≤x17 then(if x17<(x15.length:Int) then((Zay.f k x0 (rd x15 x17)).bind fun t107004=>(if t107004=true then(ZS.l0 k x0 x15 x16 (wrap64 (x17+1))) else(some false))) else(none)) else(none)) else(some true)
end
def ZS.f (k:Nat) (l0:List Int) (l1:List Int):Option (Bool):=(ZU.f k l0).bind fun t107001=>(if t107001=true then((ZU.f k l1).bind fun t107002=>(ZS.j0 k l0 l1 (!t107002))) else(ZS.j0 k l0 l1 true))
set_option maxHeartbeats 8000000 in
set_option maxRecDepth 100000 in
theorem ZS.calls (k:Nat) (A0:Option Addr) (c0:Nat) (l0:List Int) (A1:Option Addr) (c1:Nat) (l1:List Int) (r:Bool) (w:World) (hr0:Kd.C (Kd.int .i64) w A0 l0.length l0) (hc0:l0.length≤c0) (hr1:Kd.C (Kd.int .i64) w A1 l1.length l1) (hc1:l1.length≤c1) (h:ZS.f k l0 l1=some r) :
  Calls Tryd.prog 107 #[.slice A0 l0.length c0,.slice A1 l1.length c1] w fun e w'=>e=.returned (.bool r)∧ZE w w':=by
 have HR0:=Za hr0;have HC0:=Za hc0;clear hr0 hc0;have HR1:=Za hr1;have HC1:=Za hc1;clear hr1 hc1
 have H:((ZU.f k l0).bind fun t107001=>(if t107001=true then((ZU.f k l1).bind fun t107002=>(ZS.j0 k l0 l1 (!t107002))) else(ZS.j0 k l0 l1 true)))=some r:=h
 clear h;have HC3:=Za H;clear H
 go_enter Tryd.func107,Tryd.ntmps107
 go_upto_region 1 with (fail)
 go_cut [14] (fun v14 wc=>∃(kq:Nat) (x14_2:Bool),v14=.bool x14_2∧Aside0 (ZS.j0 kq l0 l1 x14_2=some r)∧Aside0 (kq≤k)∧ZE w wc)
 case first=>
  have H:=HC3.out
  clear HC3
  replace H:=Zh H
  obtain⟨t107001,A40,H⟩:=H
  replace H:(if t107001=true then((ZU.f k l1).bind fun t107002=>(ZS.j0 k l0 l1 (!t107002))) else(ZS.j0 k l0 l1 true))=some r:=H
  have A4:=Za A40;clear A40
  by_cases c5:t107001=true
  ·subst c5
   have H1:((ZU.f k l1).bind fun t107002=>(ZS.j0 k l0 l1 (!t107002)))=some r:=by rw[if_pos rfl] at H;exact H
   clear H
   have H:=H1
   clear H1
   replace H:=Zh H
   obtain⟨t107002,A60,H⟩:=H
   replace H:(ZS.j0 k l0 l1 (!t107002))=some r:=H
   have A6:=Za A60;clear A60
   have H':=Za H
   clear H
   go_wp2_with (first|((with_reducible refine ZG (f:=34) rfl ?_);refine ZX (some 8) rfl rfl Tryd.func34 (by kernel_rfl) rfl #[.slice A0 l0.length c0] rfl (by(try simp only[List.map_toArray,List.map_cons,List.map_nil]);first|done|rfl|(simp only[Zk,Zj];rfl)) ?_;(with_reducible refine(ZU.calls k _ _ l0 true _ ?side1 ?side2 A4.out).mono ?_);(case side1=>repeat(first|exact HR0.out|(with_reducible refine Kd.C_alloc ?_ _)|(with_reducible refine Kd.C_drewN ?_ _)|(with_reducible refine Kd.C_drew ?_)));(case side2=>exact HC0.out);rintro e w' ⟨rfl,⟨nd,rfl⟩⟩;refine⟨_,rfl,?_⟩)|(go_at_call 34;(with_reducible refine(ZU.calls k _ _ l1 t107002 _ ?side1 ?side2 A6.out).mono ?_);(case side1=>repeat(first|exact HR1.out|(with_reducible refine Kd.C_alloc ?_ _)|(with_reducible refine Kd.C_drewN ?_ _)|(with_reducible refine Kd.C_drew ?_)));(case side2=>exact HC1.out);rintro e w' ⟨rfl,⟨nd,rfl⟩⟩))
   go_meet
   case rel=>exact⟨_,(!t107002),(by first|rfl|(simp;done)|(simp[*];done)),H',⟨by first|omega|exact Nat.le_refl _⟩,by repeat(first|exact ZE.refl _|apply ZE.step)⟩
  ·replace c5:=Bool.eq_false_iff.mpr c5
   subst c5
   have H1:(ZS.j0 k l0 l1 true)=some r:=by rw[if_neg (show ¬(false=true) by decide)] at H;exact H
   clear H
   have H:=H1
   clear H1
   have H':=Za H
   clear H
   go_wp2_with (first|((with_reducible refine ZG (f:=34) rfl ?_);refine ZX (some 8) rfl rfl Tryd.func34 (by kernel_rfl) rfl #[.slice A0 l0.length c0] rfl (by(try simp only[List.map_toArray,List.map_cons,List.map_nil]);first|done|rfl|(simp only[Zk,Zj];rfl)) ?_;(with_reducible refine(ZU.calls k _ _ l0 false _ ?side1 ?side2 A4.out).mono ?_);(case side1=>repeat(first|exact HR0.out|(with_reducible refine Kd.C_alloc ?_ _)|(with_reducible refine Kd.C_drewN ?_ _)|(with_reducible refine Kd.C_drew ?_)));(case side2=>exact HC0.out);rintro e w' ⟨rfl,⟨nd,rfl⟩⟩;refine⟨_,rfl,?_⟩))
   go_meet
   case rel=>exact⟨_,(true),(by first|rfl|(simp;done)|(simp[*];done)),H',⟨by first|omega|exact Nat.le_refl _⟩,by repeat(first|exact ZE.refl _|apply ZE.step)⟩
 case rest=>
  clear HC3
  try clear c1
  try clear p2
  try clear c3
  try clear c5
  obtain⟨kq,x14_2,rfl,HA,HJ2,⟨mc2,rfl⟩⟩:=hcut
  cases kq with
  | zero=>exact absurd HA.out (by simp[ZS.j0])
  | succ kj2=>
   have H:=HA.out
   clear HA
   simp only[ZS.j0] at H
   by_cases c7:x14_2=true
   ·subst c7
    have H1:(some false)=some r:=by rw[if_pos rfl] at H;exact H
    clear H
    have H:=H1
    clear H1
    obtain rfl:=Zg H
    go_wp2
    go_ret
    exact⟨by first|rfl|(simp;done)|(simp[*];done),by repeat(first|exact ZE.refl _|apply ZE.step)⟩
   ·replace c7:=Bool.eq_false_iff.mpr c7
    subst c7
    have H1:(ZS.l0 kj2 l0 l1 (l1.length:Int) 0)=some r:=by rw[if_neg (show ¬(false=true) by decide)] at H;exact H
    clear H
    have H:=H1
    clear H1
    have H':=Za H
    clear H
    go_wp2
    go_loopg [17] kj2 (fun kq v17 w'=>∃(x17_2:Int),v17=.int .i64 x17_2∧Aside0 (ZS.l0 kq l0 l1 (l1.length:Int) x17_2=some r)∧Aside0 (kq≤kj2)∧ZE w w')
    case atStart=>exact⟨(0),(by first|rfl|(simp;done)|(simp[*];done)),H',⟨Nat.le_refl _⟩,by repeat(first|exact ZE.refl _|apply ZE.step)⟩
    case round=>
     clear H'
     try clear c1
     try clear c2
     try clear p2
     try clear c3
     try clear c5
     try clear c7
     try clear p2
     obtain⟨x17_2,rfl,HA,HK2,⟨m2,rfl⟩⟩:=hrel
     cases gk with
     | zero=>exact absurd HA.out (by simp[ZS.l0])
     | succ k2=>
      have H:=HA.out
      clear HA
      simp only[ZS.l0] at H
      by_cases c8:x17_2<(l1.length:Int)
      ·rw[if_pos c8] at H
       have c8b0:decide (x17_2<(l1.length:Int))=true:=Ze c8
       clear c8
       by_cases c9:0≤x17_2
       ·rw[if_pos c9] at H
        have c9b0:decide (0≤x17_2)=true:=Ze c9
        clear c9
        by_cases c10:x17_2<(l1.length:Int)
        ·rw[if_pos c10] at H
         have c10b0:decide (x17_2<(l1.length:Int))=true:=Ze c10
         clear c10
         replace H:=Zh H
         obtain⟨t107004,A110,H⟩:=H
         replace H:(if t107004=true then(ZS.l0 k2 l0 l1 (l1.length:Int) (wrap64 (x17_2+1))) else(some false))=some r:=H
         have A11:=Za A110;clear A110
         by_cases c12:t107004=true
         ·subst c12
          have H1:(ZS.l0 k2 l0 l1 (l1.length:Int) (wrap64 (x17_2+1)))=some r:=by rw[if_pos rfl] at H;exact H
          clear H
          have H:=H1
          clear H1
          have H':=Za H
          clear H
          have p107003:0≤(x17_2:Int):=Zd (by first|(with_reducible assumption)|assumption)
          have q107003:x17_2<(l1.length:Int):=Zd (by first|(with_reducible assumption)|assumption)
          obtain⟨ad107003,e107003,hx107003_0⟩:=Kd.at_int HR1.out x17_2 p107003 q107003
          cases e107003
          replace p107003:=eq_true p107003
          replace q107003:=eq_true q107003
          go_wp2_with (first|((with_reducible refine ZG (f:=106) rfl ?_);refine ZX (some 23) rfl rfl Tryd.func106 (by kernel_rfl) rfl #[.slice A0 l0.length c0,.int .i64 (rd l1 x17_2)] rfl (by(try simp only[List.map_toArray,List.map_cons,List.map_nil]);first|done|rfl|(simp only[Zk,Zj];rfl)) ?_;(with_reducible refine(Zay.calls k2 _ _ l0 (rd l1 x17_2) true _ ?side1 ?side2 A11.out).mono ?_);(case side1=>repeat(first|exact HR0.out|(with_reducible refine Kd.C_alloc ?_ _)|(with_reducible refine Kd.C_drewN ?_ _)|(with_reducible refine Kd.C_drew ?_)));(case side2=>exact HC0.out);rintro e w' ⟨rfl,⟨nd,rfl⟩⟩;refine⟨_,rfl,?_⟩))
          go_roundg k2
          case measure=>have:=HJ2.out;have:=HK2.out;omega
          case rel=>exact⟨(wrap64 (x17_2+1)),(by first|rfl|(simp;done)|(simp[*];done)),H',⟨by have:=HJ2.out;have:=HK2.out;omega⟩,by repeat(first|exact ZE.refl _|apply ZE.step)⟩
         ·replace c12:=Bool.eq_false_iff.mpr c12
          subst c12
          have H1:(some false)=some r:=by rw[if_neg (show ¬(false=true) by decide)] at H;exact H
          clear H
          have H:=H1
          clear H1
          obtain rfl:=Zg H
          have p107003:0≤(x17_2:Int):=Zd (by first|(with_reducible assumption)|assumption)
          have q107003:x17_2<(l1.length:Int):=Zd (by first|(with_reducible assumption)|assumption)
          obtain⟨ad107003,e107003,hx107003_0⟩:=Kd.at_int HR1.out x17_2 p107003 q107003
          cases e107003
          replace p107003:=eq_true p107003
          replace q107003:=eq_true q107003
          go_wp2_with (first|((with_reducible refine ZG (f:=106) rfl ?_);refine ZX (some 23) rfl rfl Tryd.func106 (by kernel_rfl) rfl #[.slice A0 l0.length c0,.int .i64 (rd l1 x17_2)] rfl (by(try simp only[List.map_toArray,List.map_cons,List.map_nil]);first|done|rfl|(simp only[Zk,Zj];rfl)) ?_;(with_reducible refine(Zay.calls k2 _ _ l0 (rd l1 x17_2) false _ ?side1 ?side2 A11.out).mono ?_);(case side1=>repeat(first|exact HR0.out|(with_reducible refine Kd.C_alloc ?_ _)|(with_reducible refine Kd.C_drewN ?_ _)|(with_reducible refine Kd.C_drew ?_)));(case side2=>exact HC0.out);rintro e w' ⟨rfl,⟨nd,rfl⟩⟩;refine⟨_,rfl,?_⟩))
          go_ret
          exact⟨by first|rfl|(simp;done)|(simp[*];done),by repeat(first|exact ZE.refl _|apply ZE.step)⟩
        ·rw[if_neg c10] at H
         exact absurd H (by simp)
       ·rw[if_neg c9] at H
        exact absurd H (by simp)
      ·rw[if_neg c8] at H
       have c8b0:decide (x17_2<(l1.length:Int))=false:=Zf c8
       clear c8
       obtain rfl:=Zg H
       go_wp2
       go_ret
       exact⟨by first|rfl|(simp;done)|(simp[*];done),by repeat(first|exact ZE.refl _|apply ZE.step)⟩
end Go.Proofs.YthphnhmabieflaaDoor.Pr
namespace Go.Proofs.YthphnhmabieflaaDoor.Pr
open Go.RowKit Go.Proofs.YthphnhmabieflaaDoorW.PrintWords Go.Proofs.YthphnhmabieflaaDoorW.PrintLast Go.Proofs.YthphnhmabieflaaDoorW.PrintMore
attribute [local go_sem] Zah Zaf Zas Zar Z8 Z7 Zag Zae
set_option linter.unusedVariables false
set_option linter.unusedSimpArgs false
open Go.Proofs.YthphnhmabieflaaDoor.Ni
set_option maxHeartbeats 4000000 in
theorem ZcA.any (p:Int→Bool) (g:Nat) (lb:Array Value) (eg:∀args w,(callFunc g args).run Tryd.prog w=.ok (.enter g args) w) (A0:Option Addr) (c0:Nat) (l0:List Int) (w:World) (hr0:Kd.C (Kd.int .i64) w A0 l0.length l0)
  (hp:∀(W:World) (x:Int),x∈l0→Below w.heap.size w W→Calls Tryd.prog g (#[.int .i64 x] ++ lb) W fun e w'=>e=.returned (.bool (p x))∧Below W.heap.size W w') :
  Calls Tryd.prog 92 #[.slice A0 l0.length c0,.func (.func g) #[] lb] w fun e w'=>e=.returned (.int .i64 (Zbn p l0))∧Below w.heap.size w w':=by
 have HR0:=Za hr0;have HP:=Za hp;clear hr0 hp
 have HL:l0.length≤9223372036854775807:=HR0.out.2.1
 go_enter Tryd.func92,Tryd.ntmps92
 go_wp2
 go_loopg [5,8] l0.length (fun gg _ s8 wr=>∃kk:Nat,Aside0 (kk≤l0.length)∧Aside0 (l0.length - kk≤gg)∧s8=.int .i64 kk∧Aside0 (Below w.heap.size w wr)∧Aside0 (∀j y,j<kk→l0[j]? = some y→p y=false))
 case atStart=>exact⟨0,⟨Nat.zero_le _⟩,⟨by omega⟩,rfl,⟨Below.refl _ _⟩,⟨fun j y hj=>absurd hj (Nat.not_lt_zero _)⟩⟩
 case round=>
  obtain⟨kk,HK,HG,rfl,HB,HN⟩:=hrel
  by_cases hlt:kk<l0.length
  ·have hltz:(kk:Int)<(l0.length:Int):=by omega
   obtain⟨ad,e1,hx0⟩:=Kd.at_int HR0.out (kk:Int) (by omega) hltz
   cases e1
   replace hx0:=(HB.out.cell (Zc w _ hx0)).trans hx0
   rw[Int.toNat_natCast] at hx0
   have hxe:l0[kk]? = some (rd l0 (kk:Int)):=by
    unfold rd
    rw[Int.toNat_natCast,List.getD_eq_getElem?_getD,Zl hlt];rfl
   generalize rd l0 (kk:Int)=y at hx0 hxe
   have HX:=Za hxe;clear hxe
   have hcall:=HP.out wr y (List.mem_of_getElem? HX.out) HB.out
   cases hq:p y with
   | true=>
    have HQ:=Za hq
    rw[hq] at hcall
    clear hq
    go_wp2_with (go_at_fn g;refine hcall.mono ?_;rintro e w' ⟨rfl,hb⟩)
    go_ret
    exact⟨by rw[ZbO p l0 kk y HX.out HQ.out HN.out];rfl,HB.out.trans (hb.mono HB.out.size)⟩
   | false=>
    have HQ:=Za hq
    rw[hq] at hcall
    clear hq
    go_wp2_with (go_at_fn g;refine hcall.mono ?_;rintro e w' ⟨rfl,hb⟩)
    go_roundg (l0.length - (kk+1))
    case measure=>have:=HG.out;omega
    case rel=>
     refine⟨kk+1,⟨by omega⟩,⟨by omega⟩,by go_num,⟨HB.out.trans (hb.mono HB.out.size)⟩,⟨fun j y' hj hy=>?_⟩⟩
     by_cases e:j=kk
     ·subst e
      rw[HX.out] at hy
      cases hy
      exact HQ.out
     ·exact HN.out j y' (by omega) hy
  ·have hltz:¬(kk:Int)<(l0.length:Int):=by omega
   have:kk=l0.length:=by have:=HK.out;omega
   subst this
   go_wp2
   go_ret
   exact⟨by rw[ZbD p l0 HN.out];rfl,HB.out⟩
set_option maxHeartbeats 4000000 in
theorem ZbN.any (p:Int→Bool) (g:Nat) (lb:Array Value) (eg:∀args w,(callFunc g args).run Tryd.prog w=.ok (.enter g args) w) (A0:Option Addr) (c0:Nat) (l0:List Int) (w:World) (hr0:Kd.C (Kd.int .i64) w A0 l0.length l0)
  (hp:∀(W:World) (x:Int),x∈l0→Below w.heap.size w W→Calls Tryd.prog g (#[.int .i64 x] ++ lb) W fun e w'=>e=.returned (.bool (p x))∧Below W.heap.size W w') :
  Calls Tryd.prog 60 #[.slice A0 l0.length c0,.func (.func g) #[] lb] w fun e w'=>e=.returned (.bool (l0.any p))∧Below w.heap.size w w':=by
 have HI:=Za (ZcA.any p g lb eg A0 c0 l0 w hr0 hp)
 clear hr0 hp
 have HE:=Za (Zdv p l0)
 go_enter Tryd.func60,Tryd.ntmps60
 go_wp2_with (go_at_call 92;refine HI.out.mono ?_;rintro e w' ⟨rfl,hb⟩)
 go_ret
 exact⟨by rw[← HE.out];rfl,hb⟩
def ZbP.f (l0:List Int) (a1:Int):Option Int:=some (Zbn (fun y=>decide (a1=y)) l0)
set_option maxHeartbeats 4000000 in
theorem ZbP.calls (A0:Option Addr) (c0:Nat) (l0:List Int) (a1:Int) (r:Int) (w:World) (hr0:Kd.C (Kd.int .i64) w A0 l0.length l0) (hc0:l0.length≤c0) (h:ZbP.f l0 a1=some r) :
  Calls Tryd.prog 93 #[.slice A0 l0.length c0,.int .i64 a1] w fun e w'=>e=.returned (.int .i64 r)∧Below w.heap.size w w':=by
 obtain rfl:=Zg h
 have HR0:=Za hr0
 have HL:l0.length≤9223372036854775807:=HR0.out.2.1
 clear hr0 h hc0
 go_enter Tryd.func93,Tryd.ntmps93
 go_wp2
 go_loopg [5,8] l0.length (fun gg _ s8 wr=>∃kk:Nat,Aside0 (kk≤l0.length)∧Aside0 (l0.length - kk≤gg)∧s8=.int .i64 kk∧Aside0 (Below w.heap.size w wr)∧Aside0 (∀j y,j<kk→l0[j]? = some y→decide (a1=y)=false))
 case atStart=>exact⟨0,⟨Nat.zero_le _⟩,⟨by omega⟩,rfl,⟨Below.refl _ _⟩,⟨fun j y hj=>absurd hj (Nat.not_lt_zero _)⟩⟩
 case round=>
  obtain⟨kk,HK,HG,rfl,HB,HN⟩:=hrel
  by_cases hlt:kk<l0.length
  ·have hltz:(kk:Int)<(l0.length:Int):=by omega
   obtain⟨ad,e1,hx⟩:=Kd.at_int HR0.out (kk:Int) (by omega) hltz
   cases e1
   replace hx:=(HB.out.cell (Zc w _ hx)).trans hx
   rw[Int.toNat_natCast] at hx
   have hxe:l0[kk]? = some (rd l0 (kk:Int)):=by
    unfold rd
    rw[Int.toNat_natCast,List.getD_eq_getElem?_getD,Zl hlt];rfl
   generalize rd l0 (kk:Int)=y at hx hxe
   have HX:=Za hxe;clear hxe
   by_cases hq:a1=y
   ·have hqb:(a1 == y)=true:=beq_iff_eq.2 hq
    have HQ:=Za (Ze hq)
    clear hq
    go_wp2
    go_ret
    exact⟨by rw[ZbO _ l0 kk y HX.out HQ.out HN.out];rfl,HB.out⟩
   ·have hqb:(a1 == y)=false:=beq_eq_false_iff_ne.2 hq
    have HQ:=Za (Zf hq)
    clear hq
    go_wp2
    go_roundg (l0.length - (kk+1))
    case measure=>have:=HG.out;omega
    case rel=>
     refine⟨kk+1,⟨by omega⟩,⟨by omega⟩,by go_num,HB,⟨fun j y' hj hy=>?_⟩⟩
     by_cases e:j=kk
     ·subst e
      rw[HX.out] at hy
      cases hy
      exact HQ.out
     ·exact HN.out j y' (by omega) hy
  ·have hltz:¬(kk:Int)<(l0.length:Int):=by omega
   have:kk=l0.length:=by have:=HK.out;omega
   subst this
   go_wp2
   go_ret
   exact⟨by rw[ZbD _ l0 HN.out];rfl,HB.out⟩
def ZW.f (l0:List Int) (a1:Int):Option Bool:=some (l0.any fun y=>decide (a1=y))
theorem ZW.calls (A0:Option Addr) (c0:Nat) (l0:List Int) (a1:Int) (r:Bool) (w:World) (hr0:Kd.C (Kd.int .i64) w A0 l0.length l0) (hc0:l0.length≤c0) (h:ZW.f l0 a1=some r) :
  Calls Tryd.prog 62 #[.slice A0 l0.length c0,.int .i64 a1] w fun e w'=>e=.returned (.bool r)∧Below w.heap.size w w':=by
 obtain rfl:=Zg h
 have HI:=Za (ZbP.calls A0 c0 l0 a1 (Zbn (fun y=>decide (a1=y)) l0) w hr0 hc0 rfl)
 have HE:=Za (Zdv (fun y=>decide (a1=y)) l0)
 clear hr0 hc0 h
 go_enter Tryd.func62,Tryd.ntmps62
 go_wp2_with (go_at_call 93;refine HI.out.mono ?_;rintro e w' ⟨rfl,hb⟩)
 go_ret
 exact⟨by rw[← HE.out];rfl,hb⟩
theorem ZW.hand (A0:Option Addr) (c0:Nat) (l0:List Int) (a1:Int) (w:World) (hr0:Kd.C (Kd.int .i64) w A0 l0.length l0) (hc0:l0.length≤c0) :
  Calls Tryd.prog 62 #[.slice A0 l0.length c0,.int .i64 a1] w fun e w'=>e=.returned (.bool (l0.any fun y=>decide (a1=y)))∧Below w.heap.size w w':=ZW.calls A0 c0 l0 a1 _ w hr0 hc0 rfl
def Zap.f (k:Nat) (l0 l1:List Int):Option Bool:=(Z1.f k l0).bind fun a=>if a=true then(Z1.f k l1).bind fun b=>if b=true then some (l1.all fun x=>l0.any fun y=>decide (x=y)) else some false else some false
theorem Zdf.clo (B:Nat) (A0:Option Addr) (c0:Nat) (l0:List Int) (x:Int) (W:World) (hB:W.cell? ⟨B,0,none⟩=some (.slice A0 l0.length c0)) (hr0:Kd.C (Kd.int .i64) W A0 l0.length l0) (hc0:l0.length≤c0) :
  Calls Tryd.prog 61 #[.int .i64 x,.pointer (some ⟨B,0,none⟩)] W fun e w'=>e=.returned (.bool (!(l0.any fun y=>decide (x=y))))∧Below W.heap.size W w':=by
 have HC:=Za ((ZW.hand A0 c0 l0 x W hr0 hc0))
 clear hr0 hc0
 go_enter Tryd.func61,Tryd.ntmps61
 go_wp2_with (go_at_call 62;refine HC.out.mono ?_;rintro e w' ⟨rfl,hb⟩)
 go_ret
 exact⟨rfl,hb⟩
set_option maxHeartbeats 4000000 in
theorem Zap.calls (k:Nat) (A0:Option Addr) (c0:Nat) (l0:List Int) (A1:Option Addr) (c1:Nat) (l1:List Int) (r:Bool) (w:World) (hr0:Kd.C (Kd.int .i64) w A0 l0.length l0) (hc0:l0.length≤c0) (hr1:Kd.C (Kd.int .i64) w A1 l1.length l1) (hc1:l1.length≤c1) (h:Zap.f k l0 l1=some r) :
  Calls Tryd.prog 28 #[.slice A0 l0.length c0,.slice A1 l1.length c1] w fun e w'=>e=.returned (.bool r)∧Below w.heap.size w w':=by
 unfold Zap.f at h
 obtain⟨a,ha,h⟩:=Option.bind_eq_some_iff.1 h
 have LA:=Za fun (W:World) (hb:Below w.heap.size w W)=>(Z1.calls k A0 c0 l0 a W (Zb hr0 hb) hc0 ha).mono fun e w' ⟨he,hd⟩=>(⟨he,by first|exact hd|exact hd.below⟩:e=Ending.returned (.bool a)∧Below W.heap.size W w')
 have B0:=Za ((Below.refl w.heap.size w).alloc (Nat.le_refl _) (.cells #[.slice A0 l0.length c0] 22))
 cases a with
 | false=>
  rw[if_neg (by decide)] at h
  obtain rfl:=Zg h
  clear hr0 hr1 ha h hc0 hc1
  go_enter Tryd.func28,Tryd.ntmps28
  go_wp2_with fail
  refine(LA.out _ B0.out).mono ?_
  rintro e w1 ⟨rfl,hb1⟩
  have B1:=Za (B0.out.trans (hb1.mono B0.out.size))
  clear hb1
  go_wp2
  go_ret
  exact⟨rfl,B1.out⟩
 | true=>
  rw[if_pos rfl] at h
  obtain⟨b,hb_,h⟩:=Option.bind_eq_some_iff.1 h
  have LB:=Za fun (W:World) (hb:Below w.heap.size w W)=>(Z1.calls k A1 c1 l1 b W (Zb hr1 hb) hc1 hb_).mono fun e w' ⟨he,hd⟩=>(⟨he,by first|exact hd|exact hd.below⟩:e=Ending.returned (.bool b)∧Below W.heap.size W w')
  cases b with
  | false=>
   rw[if_neg (by decide)] at h
   obtain rfl:=Zg h
   clear hr0 hr1 ha h hc0 hc1 hb_
   go_enter Tryd.func28,Tryd.ntmps28
   go_wp2_with fail
   refine(LA.out _ B0.out).mono ?_
   rintro e w1 ⟨rfl,hb1⟩
   have B1:=Za (B0.out.trans (hb1.mono B0.out.size))
   clear hb1
   go_wp2_with fail
   refine(LB.out _ B1.out).mono ?_
   rintro e w2 ⟨rfl,hb2⟩
   have B2:=Za (B1.out.trans (hb2.mono B1.out.size))
   clear hb2
   go_wp2
   go_ret
   exact⟨rfl,B2.out⟩
  | true=>
   rw[if_pos rfl] at h
   obtain rfl:=Zg h
   have HC:=Za fun (W:World) (hb:Below w.heap.size w W) (hcell:W.cell? ⟨w.heap.size,0,none⟩=some (.slice A0 l0.length c0))=>ZbN.any (fun x=>!(l0.any fun y=>decide (x=y))) 61 #[.pointer (some ⟨w.heap.size,0,none⟩)] (enters_of Tryd.func61 (by kernel_rfl) rfl) A1 c1 l1 W (Zb hr1 hb)
    (fun W' x _ hb'=>Zdf.clo w.heap.size A0 c0 l0 x W' ((hb'.cell (Zc W _ hcell)).trans hcell) (Zb hr0 (hb.trans (hb'.mono hb.size))) hc0)
   have HV:=Za (show(!(l1.any fun x=>!(l0.any fun y=>decide (x=y))))=l1.all fun x=>l0.any fun y=>decide (x=y) by rw[List.not_any_eq_all_not];simp)
   have C0:=Za (show(w.alloc (.cells #[.slice A0 l0.length c0] 22)).cell? ⟨w.heap.size,0,none⟩=some (.slice A0 l0.length c0) by go_simp)
   clear hr0 hr1 ha h hc0 hc1 hb_
   go_enter Tryd.func28,Tryd.ntmps28
   go_wp2_with fail
   refine(LA.out _ B0.out).mono ?_
   rintro e w1 ⟨rfl,hb1⟩
   have B1:=Za (B0.out.trans (hb1.mono B0.out.size))
   have C1:=Za ((hb1.cell (Zc _ _ C0.out)).trans C0.out)
   clear hb1
   go_wp2_with fail
   refine(LB.out _ B1.out).mono ?_
   rintro e w2 ⟨rfl,hb2⟩
   have B2:=Za (B1.out.trans (hb2.mono B1.out.size))
   have C2:=Za ((hb2.cell (Zc _ _ C1.out)).trans C1.out)
   clear hb2
   go_wp2_with fail
   refine(HC.out _ B2.out C2.out).mono ?_
   rintro e w3 ⟨rfl,hb3⟩
   go_wp2
   go_ret
   exact⟨by rw[← HV.out];rfl,B2.out.trans (hb3.mono B2.out.size)⟩
end Go.Proofs.YthphnhmabieflaaDoor.Pr
namespace Go.Proofs.YthphnhmabieflaaDoor.Pr
open Go.RowKit Go.Proofs.YthphnhmabieflaaDoorW.PrintWords Go.Proofs.YthphnhmabieflaaDoor.Ni
theorem Zc7 (l:List Int) (x:Int) (hl:l.length≤9223372036854775807) (k:Nat) (hk:2 ^ 64≤k):Zay.f k l x=some (l.any fun y=>decide (x=y)):=by
 have key:=ZaM l.length (fun k i=>Zay.l0 k x l l.length (i:Int)=some ((l.drop i).any fun y=>decide (x=y))) 0
  (fun k _=>by simp[Zay.l0])
  (fun k i _ hi ih=>by
   simp only[Zay.l0]
   rw[if_pos (by omega),if_pos (by omega),if_pos (by omega),Zbg,Zax hi (by omega),ZaA hi 0,List.any_cons]
   by_cases h:l.getD i 0=x
   ·rw[if_pos h,Ze h.symm];rfl
   ·rw[if_neg h,ih,Zf (fun e=>h e.symm)];rfl) 0 k (Nat.zero_le _) (by omega)
 unfold Zay.f
 simpa using key
def impB (a b:List Int):Bool:=labB a && labB b && b.all fun x=>a.any fun y=>decide (x=y)
theorem Zdc (a b:List Int) (ha:a.length≤9223372036854775807) (hb:b.length≤9223372036854775807) (k:Nat) (hk:2 ^ 65≤k):ZS.f k a b=some (impB a b):=by
 have key:∀k,2 ^ 64+b.length<k→ZS.l0 k a b b.length 0=some (b.all fun x=>a.any fun y=>decide (x=y)):=by
  intro k hk
  have:=ZaM b.length (fun k i=>ZS.l0 k a b b.length (i:Int)=some ((b.drop i).all fun x=>a.any fun y=>decide (x=y))) (2 ^ 64)
   (fun k _=>by simp[ZS.l0])
   (fun k i hk hi ih=>by
    simp only[ZS.l0]
    rw[if_pos (by omega),if_pos (by omega),if_pos (by omega),Zbg,Zax hi (by omega),ZaA hi 0,List.all_cons,Zc7 a _ ha k hk,Zi]
    cases h:a.any fun y=>decide (b.getD i 0=y)
    ·rfl
    ·rw[if_pos rfl,ih];rfl) 0 k (Nat.zero_le _) (by omega)
  simpa using this
 unfold ZS.f impB
 obtain⟨m,rfl⟩:∃m,k=m+1:=⟨k - 1,by omega⟩
 rw[Zb0 a ha _ (by omega),Zi,Zb0 b hb _ (by omega)]
 cases labB a
 ·rfl
 ·rw[if_pos rfl,Zi]
  cases labB b
  ·rfl
  ·simp only[ZS.j0,Bool.not_true,Bool.false_eq_true,if_false]
   rw[key m (by omega)];rfl
theorem Zde (a b:List Int) (ha:a.length≤9223372036854775807) (hb:b.length≤9223372036854775807) (k:Nat) (hk:2 ^ 64≤k):Zap.f k a b=some (impB a b):=by
 unfold Zap.f impB
 rw[Zb3 a ha k hk,Zi,Zb3 b hb k hk]
 cases labB a
 ·rfl
 ·rw[if_pos rfl,Zi]
  cases labB b <;> rfl
end Go.Proofs.YthphnhmabieflaaDoor.Pr
namespace Go.Proofs.YthphnhmabieflaaDoor.Pr
open Go.RowKit Go.Proofs.YthphnhmabieflaaDoorW.PrintWords Go.Proofs.YthphnhmabieflaaDoorW.PrintLast Go.Proofs.YthphnhmabieflaaDoorW.PrintMore
attribute [local go_sem] Zah Zaf Zas Zar Z8 Z7 Zag Zae
set_option linter.unusedVariables false
set_option linter.unusedSimpArgs false
def Zak.l0:Nat→Int→List (S66)→Int→Int→Option (Int)
 | 0,_,_,_,_=>none
 | k+1,x1,x8,x9,x10=>if x10<x9 then(if 0≤x10 then(if x10<(x8.length:Int) then(if (Zw x8 x10).f4=true then(if ((Zw x8 x10).f1)=x1 then(some x10) else(Zak.l0 k x1 x8 x9 (wrap64 (x10+1)))) else(Zak.l0 k x1 x8 x9 (wrap64 (x10+1)))) else(none)) else(none)) else(some (-1))
def Zak.f (k:Nat) (l0_0:List (S73)) (l0_1:List (S66)) (a0_2:Int) (a1:Int):Option (Int):=Zak.l0 k a1 l0_1 (l0_1.length:Int) 0
set_option maxHeartbeats 8000000 in
set_option maxRecDepth 100000 in
theorem Zak.calls (k:Nat) (A0_0:Option Addr) (c0_0:Nat) (l0_0:List (S73)) (A0_1:Option Addr) (c0_1:Nat) (l0_1:List (S66)) (a0_2:Int) (a1:Int) (r:Int) (w:World) (hr0_0:Kd.C k73 w A0_0 l0_0.length l0_0) (hc0_0:l0_0.length≤c0_0) (hr0_1:Kd.C k66 w A0_1 l0_1.length l0_1) (hc0_1:l0_1.length≤c0_1) (h:Zak.f k l0_0 l0_1 a0_2 a1=some r) :
  Calls Tryd.prog 109 #[.agg #[.slice A0_0 l0_0.length c0_0,.slice A0_1 l0_1.length c0_1,.int .i64 a0_2],.int .i64 a1] w fun e w'=>e=.returned (.int .i64 r)∧Below w.heap.size w w':=by
 have hu36:=Tryd.underlying36
 have hu66:=Tryd.underlying66
 have HR0_0:=Za hr0_0;have HC0_0:=Za hc0_0;clear hr0_0 hc0_0;have HR0_1:=Za hr0_1;have HC0_1:=Za hc0_1;clear hr0_1 hc0_1
 have HB:=Za (Below.refl w.heap.size w)
 have H:(Zak.l0 k a1 l0_1 (l0_1.length:Int) 0)=some r:=h
 clear h
 have H':=Za H
 clear H
 go_enter Tryd.func109,Tryd.ntmps109
 go_wp2_with (first|((with_reducible refine ZN (N:=2) rfl ?_);refine ZP ?hg (N:=2) ?hd (cs:=#[.slice A0_0 l0_0.length c0_0,.slice A0_1 l0_1.length c0_1,.int .i64 a0_2]) (t:=36) ?hr ?_;(case hd=>rfl);(case hg=>rfl);(case hr=>first|(go_simp;done)|(go_simp;rfl));intro gb109001 hg w3 hbox hb;have BK109001:=Za (hbox);have GW109001:=Za ((by rw[hg];exact(Zy (by repeat(first|(with_reducible first|exact HB.out|apply Zn|apply Zm|apply Zo)|exact HB.out))):w.heap.size≤gb109001));have GE109001:=Za ((by rw[hg];exact(Zy (by repeat(first|(with_reducible first|exact HB.out|apply Zn|apply Zm|apply Zo)|exact HB.out))):w.heap.size≤gb109001));replace HB:=Za (Zx (by repeat(first|(with_reducible first|exact HB.out|apply Zn|apply Zm|apply Zo)|exact HB.out)) hb);clear hb hbox hg;have hcz4_0:w3.cell? ⟨gb109001,0,none⟩=some (.slice A0_0 l0_0.length c0_0):=(Zq BK109001.out 0).trans rfl;have hcz4_1:w3.cell? ⟨gb109001,1,none⟩=some (.slice A0_1 l0_1.length c0_1):=(Zq BK109001.out 1).trans rfl;have hcz4_2:w3.cell? ⟨gb109001,2,none⟩=some (.int .i64 a0_2):=(Zq BK109001.out 2).trans rfl;have hfz4_0:=Zt BK109001.out 0;have hfz4_1:=Zt BK109001.out 1;have hfz4_2:=Zt BK109001.out 2))
 go_loopg [10] k (fun kq v10 w'=>∃(x10_1:Int),v10=.int .i64 x10_1∧Aside0 (Zak.l0 kq a1 l0_1 (l0_1.length:Int) x10_1=some r)∧Aside0 (kq≤k)∧Aside0 (w'.heap[gb109001]? = some (.cells #[(.slice A0_0 l0_0.length c0_0),(.slice A0_1 l0_1.length c0_1),.int .i64 a0_2] 36 (0,0)))∧Aside0 (Below w.heap.size w w'))
 case atStart=>exact⟨(0),(by first|rfl|(simp;done)|(simp[*];done)),H',⟨Nat.le_refl _⟩,⟨by(with_reducible repeat(first|refine Zu ?_ _|refine Zv ?_|refine Zs ?_ _));exact BK109001.out⟩,⟨by repeat(first|(with_reducible first|exact HB.out|apply Zn|apply Zm|apply Zo|refine Zr ?_ GE109001.out)|exact HB.out)⟩⟩
 case round=>
  clear H'
  try clear c1
  try clear p2
  try clear hcz4_0
  try clear hcz4_1
  try clear hcz4_2
  try clear hfz4_0
  try clear hfz4_1
  try clear hfz4_2
  obtain⟨x10_1,rfl,HA,HK1,BK109001,HB⟩:=hrel
  cases gk with
  | zero=>exact absurd HA.out (by simp[Zak.l0])
  | succ k1=>
   have H:=HA.out
   clear HA
   simp only[Zak.l0] at H
   by_cases c5:x10_1<(l0_1.length:Int)
   ·rw[if_pos c5] at H
    have c5b0:decide (x10_1<(l0_1.length:Int))=true:=Ze c5
    clear c5
    by_cases c6:0≤x10_1
    ·rw[if_pos c6] at H
     have c6b0:decide (0≤x10_1)=true:=Ze c6
     clear c6
     by_cases c7:x10_1<(l0_1.length:Int)
     ·rw[if_pos c7] at H
      have c7b0:decide (x10_1<(l0_1.length:Int))=true:=Ze c7
      clear c7
      obtain⟨bq8,hbq8⟩:∃b_:Bool,b_=((Zw l0_1 x10_1).f4):=⟨_,rfl⟩
      replace H:(if bq8=true then(if ((Zw l0_1 x10_1).f1)=a1 then(some x10_1) else(Zak.l0 k1 a1 l0_1 (l0_1.length:Int) (wrap64 (x10_1+1)))) else(Zak.l0 k1 a1 l0_1 (l0_1.length:Int) (wrap64 (x10_1+1))))=some r:=by rw[← hbq8] at H;exact H
      have Nbq8:=Za hbq8;clear hbq8
      by_cases c9:bq8=true
      ·subst c9
       have H1:(if ((Zw l0_1 x10_1).f1)=a1 then(some x10_1) else(Zak.l0 k1 a1 l0_1 (l0_1.length:Int) (wrap64 (x10_1+1))))=some r:=by rw[if_pos rfl] at H;exact H
       clear H
       have H:=H1
       clear H1
       by_cases c10:((Zw l0_1 x10_1).f1)=a1
       ·rw[if_pos c10] at H
        have c10b0:(((Zw l0_1 x10_1).f1) == a1)=true:=beq_iff_eq.mpr c10
        have c10b1:(((Zw l0_1 x10_1).f1) != a1)=false:=bne_eq_false_iff_eq.mpr c10
        clear c10
        obtain rfl:=Zg H
        have p109002:0≤(x10_1:Int):=Zd (by first|(with_reducible assumption)|assumption)
        have q109002:x10_1<(l0_1.length:Int):=Zd (by first|(with_reducible assumption)|assumption)
        obtain⟨ad109002,e109002,hx109002_0,hx109002_1,hx109002_2,hx109002_3,hx109002_4⟩:=ZbT HR0_1.out x10_1 p109002 q109002
        (try rw[← Nbq8.out] at hx109002_4)
        cases e109002
        replace hx109002_0:=(HB.out.cell (Zc w _ hx109002_0)).trans hx109002_0
        replace hx109002_1:=(HB.out.cell (Zc w _ hx109002_1)).trans hx109002_1
        replace hx109002_2:=(HB.out.cell (Zc w _ hx109002_2)).trans hx109002_2
        replace hx109002_3:=(HB.out.cell (Zc w _ hx109002_3)).trans hx109002_3
        replace hx109002_4:=(HB.out.cell (Zc w _ hx109002_4)).trans hx109002_4
        replace p109002:=eq_true p109002
        replace q109002:=eq_true q109002
        go_wp2_with (first|((with_reducible refine ZN (N:=6) rfl ?_);refine ZP ?hg (N:=6) ?hd (cs:=#[.int .i64 0,.int .i64 0,.int .i64 0,.int .i64 0,.bool false]) (t:=66) ?hr ?_;(case hd=>rfl);(case hg=>rfl);(case hr=>first|(go_simp;done)|(go_simp;rfl));intro gb109003 hg w11 hbox hb;have BK109003:=Za (hbox);have GW109003:=Za ((by rw[hg];exact(Zy (by repeat(first|(with_reducible first|exact HB.out|apply Zn|apply Zm|apply Zo|refine Zr ?_ GE109001.out)|exact HB.out))):w.heap.size≤gb109003));have GE109003:=Za ((by rw[hg];exact(Zy (by repeat(first|(with_reducible first|exact HB.out|apply Zn|apply Zm|apply Zo|refine Zr ?_ GE109001.out)|exact HB.out))):w.heap.size≤gb109003));have NB109001_109003:=Za ((by rw[hg];exact Nat.ne_of_lt (ZY (g:=gb109001) (o:=.cells #[.slice A0_0 l0_0.length c0_0,.slice (some ad109002) l0_1.length c0_1,.int .i64 a0_2] 36 (0,0)) (by(with_reducible repeat(first|refine Zu ?_ _|refine Zv ?_|refine Zs ?_ _));exact BK109001.out)):gb109001≠gb109003));have NB109003_109001:=Za ((by rw[hg];exact Nat.ne_of_gt (ZY (g:=gb109001) (o:=.cells #[.slice A0_0 l0_0.length c0_0,.slice (some ad109002) l0_1.length c0_1,.int .i64 a0_2] 36 (0,0)) (by(with_reducible repeat(first|refine Zu ?_ _|refine Zv ?_|refine Zs ?_ _));exact BK109001.out)):gb109003≠gb109001));replace BK109001:=Za (ZB (g:=gb109001) (o:=.cells #[.slice A0_0 l0_0.length c0_0,.slice (some ad109002) l0_1.length c0_1,.int .i64 a0_2] 36 (0,0)) (by(with_reducible repeat(first|refine Zu ?_ _|refine Zv ?_|refine Zs ?_ _));exact BK109001.out) hb);replace HB:=Za (Zx (by repeat(first|(with_reducible first|exact HB.out|apply Zn|apply Zm|apply Zo|refine Zr ?_ GE109001.out)|exact HB.out)) hb);clear hb hbox hg;have hnb12:=NB109003_109001.out;have hnc12:=NB109001_109003.out;have hcz13_0:w11.cell? ⟨gb109003,0,none⟩=some (.int .i64 0):=(Zq BK109003.out 0).trans rfl;have hcz13_1:w11.cell? ⟨gb109003,1,none⟩=some (.int .i64 0):=(Zq BK109003.out 1).trans rfl;have hcz13_2:w11.cell? ⟨gb109003,2,none⟩=some (.int .i64 0):=(Zq BK109003.out 2).trans rfl;have hcz13_3:w11.cell? ⟨gb109003,3,none⟩=some (.int .i64 0):=(Zq BK109003.out 3).trans rfl;have hcz13_4:w11.cell? ⟨gb109003,4,none⟩=some (.bool false):=(Zq BK109003.out 4).trans rfl;have hfz13_0:=Zt BK109003.out 0;have hfz13_1:=Zt BK109003.out 1;have hfz13_2:=Zt BK109003.out 2;have hfz13_3:=Zt BK109003.out 3;have hfz13_4:=Zt BK109003.out 4))
        go_ret
        exact⟨by first|rfl|(simp[ZA,Zz] <;> rfl)|(simp[*,ZA,Zz] <;> rfl),by repeat(first|(with_reducible first|exact HB.out|apply Zn|apply Zm|apply Zo|refine Zr ?_ GE109001.out|refine Zr ?_ GE109003.out)|exact HB.out)⟩
       ·rw[if_neg c10] at H
        have c10b0:(((Zw l0_1 x10_1).f1) == a1)=false:=beq_eq_false_iff_ne.mpr c10
        have c10b1:(((Zw l0_1 x10_1).f1) != a1)=true:=bne_iff_ne.mpr c10
        have H':=Za H
        clear H
        have p109002:0≤(x10_1:Int):=Zd (by first|(with_reducible assumption)|assumption)
        have q109002:x10_1<(l0_1.length:Int):=Zd (by first|(with_reducible assumption)|assumption)
        obtain⟨ad109002,e109002,hx109002_0,hx109002_1,hx109002_2,hx109002_3,hx109002_4⟩:=ZbT HR0_1.out x10_1 p109002 q109002
        (try rw[← Nbq8.out] at hx109002_4)
        cases e109002
        replace hx109002_0:=(HB.out.cell (Zc w _ hx109002_0)).trans hx109002_0
        replace hx109002_1:=(HB.out.cell (Zc w _ hx109002_1)).trans hx109002_1
        replace hx109002_2:=(HB.out.cell (Zc w _ hx109002_2)).trans hx109002_2
        replace hx109002_3:=(HB.out.cell (Zc w _ hx109002_3)).trans hx109002_3
        replace hx109002_4:=(HB.out.cell (Zc w _ hx109002_4)).trans hx109002_4
        replace p109002:=eq_true p109002
        replace q109002:=eq_true q109002
        go_wp2_with (first|((with_reducible refine ZN (N:=6) rfl ?_);refine ZP ?hg (N:=6) ?hd (cs:=#[.int .i64 0,.int .i64 0,.int .i64 0,.int .i64 0,.bool false]) (t:=66) ?hr ?_;(case hd=>rfl);(case hg=>rfl);(case hr=>first|(go_simp;done)|(go_simp;rfl));intro gb109003 hg w14 hbox hb;have BK109003:=Za (hbox);have GW109003:=Za ((by rw[hg];exact(Zy (by repeat(first|(with_reducible first|exact HB.out|apply Zn|apply Zm|apply Zo|refine Zr ?_ GE109001.out)|exact HB.out))):w.heap.size≤gb109003));have GE109003:=Za ((by rw[hg];exact(Zy (by repeat(first|(with_reducible first|exact HB.out|apply Zn|apply Zm|apply Zo|refine Zr ?_ GE109001.out)|exact HB.out))):w.heap.size≤gb109003));have NB109001_109003:=Za ((by rw[hg];exact Nat.ne_of_lt (ZY (g:=gb109001) (o:=.cells #[.slice A0_0 l0_0.length c0_0,.slice (some ad109002) l0_1.length c0_1,.int .i64 a0_2] 36 (0,0)) (by(with_reducible repeat(first|refine Zu ?_ _|refine Zv ?_|refine Zs ?_ _));exact BK109001.out)):gb109001≠gb109003));have NB109003_109001:=Za ((by rw[hg];exact Nat.ne_of_gt (ZY (g:=gb109001) (o:=.cells #[.slice A0_0 l0_0.length c0_0,.slice (some ad109002) l0_1.length c0_1,.int .i64 a0_2] 36 (0,0)) (by(with_reducible repeat(first|refine Zu ?_ _|refine Zv ?_|refine Zs ?_ _));exact BK109001.out)):gb109003≠gb109001));replace BK109001:=Za (ZB (g:=gb109001) (o:=.cells #[.slice A0_0 l0_0.length c0_0,.slice (some ad109002) l0_1.length c0_1,.int .i64 a0_2] 36 (0,0)) (by(with_reducible repeat(first|refine Zu ?_ _|refine Zv ?_|refine Zs ?_ _));exact BK109001.out) hb);replace HB:=Za (Zx (by repeat(first|(with_reducible first|exact HB.out|apply Zn|apply Zm|apply Zo|refine Zr ?_ GE109001.out)|exact HB.out)) hb);clear hb hbox hg;have hnb15:=NB109003_109001.out;have hnc15:=NB109001_109003.out;have hcz16_0:w14.cell? ⟨gb109003,0,none⟩=some (.int .i64 0):=(Zq BK109003.out 0).trans rfl;have hcz16_1:w14.cell? ⟨gb109003,1,none⟩=some (.int .i64 0):=(Zq BK109003.out 1).trans rfl;have hcz16_2:w14.cell? ⟨gb109003,2,none⟩=some (.int .i64 0):=(Zq BK109003.out 2).trans rfl;have hcz16_3:w14.cell? ⟨gb109003,3,none⟩=some (.int .i64 0):=(Zq BK109003.out 3).trans rfl;have hcz16_4:w14.cell? ⟨gb109003,4,none⟩=some (.bool false):=(Zq BK109003.out 4).trans rfl;have hfz16_0:=Zt BK109003.out 0;have hfz16_1:=Zt BK109003.out 1;have hfz16_2:=Zt BK109003.out 2;have hfz16_3:=Zt BK109003.out 3;have hfz16_4:=Zt BK109003.out 4))
        go_roundg k1
        case measure=>have:=HK1.out;omega
        case rel=>exact⟨(wrap64 (x10_1+1)),(by first|rfl|(simp;done)|(simp[*];done)),H',⟨by have:=HK1.out;omega⟩,⟨by(with_reducible repeat(first|refine Zu ?_ _|refine Zv ?_|refine Zs ?_ _));refine ZV ?_ NB109001_109003.out _;(with_reducible repeat(first|refine Zu ?_ _|refine Zv ?_|refine Zs ?_ _));refine ZV ?_ NB109001_109003.out _;(with_reducible repeat(first|refine Zu ?_ _|refine Zv ?_|refine Zs ?_ _));refine ZV ?_ NB109001_109003.out _;(with_reducible repeat(first|refine Zu ?_ _|refine Zv ?_|refine Zs ?_ _));refine ZV ?_ NB109001_109003.out _;(with_reducible repeat(first|refine Zu ?_ _|refine Zv ?_|refine Zs ?_ _));refine ZV ?_ NB109001_109003.out _;(with_reducible repeat(first|refine Zu ?_ _|refine Zv ?_|refine Zs ?_ _));exact BK109001.out⟩,⟨by repeat(first|(with_reducible first|exact HB.out|apply Zn|apply Zm|apply Zo|refine Zr ?_ GE109001.out|refine Zr ?_ GE109003.out)|exact HB.out)⟩⟩
      ·replace c9:=Bool.eq_false_iff.mpr c9
       subst c9
       have H1:(Zak.l0 k1 a1 l0_1 (l0_1.length:Int) (wrap64 (x10_1+1)))=some r:=by rw[if_neg (show ¬(false=true) by decide)] at H;exact H
       clear H
       have H:=H1
       clear H1
       have H':=Za H
       clear H
       have p109002:0≤(x10_1:Int):=Zd (by first|(with_reducible assumption)|assumption)
       have q109002:x10_1<(l0_1.length:Int):=Zd (by first|(with_reducible assumption)|assumption)
       obtain⟨ad109002,e109002,hx109002_0,hx109002_1,hx109002_2,hx109002_3,hx109002_4⟩:=ZbT HR0_1.out x10_1 p109002 q109002
       (try rw[← Nbq8.out] at hx109002_4)
       cases e109002
       replace hx109002_0:=(HB.out.cell (Zc w _ hx109002_0)).trans hx109002_0
       replace hx109002_1:=(HB.out.cell (Zc w _ hx109002_1)).trans hx109002_1
       replace hx109002_2:=(HB.out.cell (Zc w _ hx109002_2)).trans hx109002_2
       replace hx109002_3:=(HB.out.cell (Zc w _ hx109002_3)).trans hx109002_3
       replace hx109002_4:=(HB.out.cell (Zc w _ hx109002_4)).trans hx109002_4
       replace p109002:=eq_true p109002
       replace q109002:=eq_true q109002
       go_wp2_with (first|((with_reducible refine ZN (N:=6) rfl ?_);refine ZP ?hg (N:=6) ?hd (cs:=#[.int .i64 0,.int .i64 0,.int .i64 0,.int .i64 0,.bool false]) (t:=66) ?hr ?_;(case hd=>rfl);(case hg=>rfl);(case hr=>first|(go_simp;done)|(go_simp;rfl));intro gb109003 hg w17 hbox hb;have BK109003:=Za (hbox);have GW109003:=Za ((by rw[hg];exact(Zy (by repeat(first|(with_reducible first|exact HB.out|apply Zn|apply Zm|apply Zo|refine Zr ?_ GE109001.out)|exact HB.out))):w.heap.size≤gb109003));have GE109003:=Za ((by rw[hg];exact(Zy (by repeat(first|(with_reducible first|exact HB.out|apply Zn|apply Zm|apply Zo|refine Zr ?_ GE109001.out)|exact HB.out))):w.heap.size≤gb109003));have NB109001_109003:=Za ((by rw[hg];exact Nat.ne_of_lt (ZY (g:=gb109001) (o:=.cells #[.slice A0_0 l0_0.length c0_0,.slice (some ad109002) l0_1.length c0_1,.int .i64 a0_2] 36 (0,0)) (by(with_reducible repeat(first|refine Zu ?_ _|refine Zv ?_|refine Zs ?_ _));exact BK109001.out)):gb109001≠gb109003));have NB109003_109001:=Za ((by rw[hg];exact Nat.ne_of_gt (ZY (g:=gb109001) (o:=.cells #[.slice A0_0 l0_0.length c0_0,.slice (some ad109002) l0_1.length c0_1,.int .i64 a0_2] 36 (0,0)) (by(with_reducible repeat(first|refine Zu ?_ _|refine Zv ?_|refine Zs ?_ _));exact BK109001.out)):gb109003≠gb109001));replace BK109001:=Za (ZB (g:=gb109001) (o:=.cells #[.slice A0_0 l0_0.length c0_0,.slice (some ad109002) l0_1.length c0_1,.int .i64 a0_2] 36 (0,0)) (by(with_reducible repeat(first|refine Zu ?_ _|refine Zv ?_|refine Zs ?_ _));exact BK109001.out) hb);replace HB:=Za (Zx (by repeat(first|(with_reducible first|exact HB.out|apply Zn|apply Zm|apply Zo|refine Zr ?_ GE109001.out)|exact HB.out)) hb);clear hb hbox hg;have hnb18:=NB109003_109001.out;have hnc18:=NB109001_109003.out;have hcz19_0:w17.cell? ⟨gb109003,0,none⟩=some (.int .i64 0):=(Zq BK109003.out 0).trans rfl;have hcz19_1:w17.cell? ⟨gb109003,1,none⟩=some (.int .i64 0):=(Zq BK109003.out 1).trans rfl;have hcz19_2:w17.cell? ⟨gb109003,2,none⟩=some (.int .i64 0):=(Zq BK109003.out 2).trans rfl;have hcz19_3:w17.cell? ⟨gb109003,3,none⟩=some (.int .i64 0):=(Zq BK109003.out 3).trans rfl;have hcz19_4:w17.cell? ⟨gb109003,4,none⟩=some (.bool false):=(Zq BK109003.out 4).trans rfl;have hfz19_0:=Zt BK109003.out 0;have hfz19_1:=Zt BK109003.out 1;have hfz19_2:=Zt BK109003.out 2;have hfz19_3:=Zt BK109003.out 3;have hfz19_4:=Zt BK109003.out 4))
       go_roundg k1
       case measure=>have:=HK1.out;omega
       case rel=>exact⟨(wrap64 (x10_1+1)),(by first|rfl|(simp;done)|(simp[*];done)),H',⟨by have:=HK1.out;omega⟩,⟨by(with_reducible repeat(first|refine Zu ?_ _|refine Zv ?_|refine Zs ?_ _));refine ZV ?_ NB109001_109003.out _;(with_reducible repeat(first|refine Zu ?_ _|refine Zv ?_|refine Zs ?_ _));refine ZV ?_ NB109001_109003.out _;(with_reducible repeat(first|refine Zu ?_ _|refine Zv ?_|refine Zs ?_ _));refine ZV ?_ NB109001_109003.out _;(with_reducible repeat(first|refine Zu ?_ _|refine Zv ?_|refine Zs ?_ _));refine ZV ?_ NB109001_109003.out _;(with_reducible repeat(first|refine Zu ?_ _|refine Zv ?_|refine Zs ?_ _));refine ZV ?_ NB109001_109003.out _;(with_reducible repeat(first|refine Zu ?_ _|refine Zv ?_|refine Zs ?_ _));exact BK109001.out⟩,⟨by repeat(first|(with_reducible first|exact HB.out|apply Zn|apply Zm|apply Zo|refine Zr ?_ GE109001.out|refine Zr ?_ GE109003.out)|exact HB.out)⟩⟩
     ·rw[if_neg c7] at H
      exact absurd H (by simp)
    ·rw[if_neg c6] at H
     exact absurd H (by simp)
   ·rw[if_neg c5] at H
    have c5b0:decide (x10_1<(l0_1.length:Int))=false:=Zf c5
    clear c5
    obtain rfl:=Zg H
    go_wp2
    go_ret
    exact⟨by first|rfl|(simp[ZA,Zz] <;> rfl)|(simp[*,ZA,Zz] <;> rfl),by repeat(first|(with_reducible first|exact HB.out|apply Zn|apply Zm|apply Zo|refine Zr ?_ GE109001.out)|exact HB.out)⟩
def Zao.l0:Nat→Int→List (S73)→Int→Int→Option (Int)
 | 0,_,_,_,_=>none
 | k+1,x1,x8,x9,x10=>if x10<x9 then(if 0≤x10 then(if x10<(x8.length:Int) then(if ((Zp x8 x10).f2)=x1 then(some x10) else(Zao.l0 k x1 x8 x9 (wrap64 (x10+1)))) else(none)) else(none)) else(some (-1))
def Zao.f (k:Nat) (l0_0:List (S73)) (l0_1:List (S66)) (a0_2:Int) (a1:Int):Option (Int):=Zao.l0 k a1 l0_0 (l0_0.length:Int) 0
set_option maxHeartbeats 8000000 in
set_option maxRecDepth 100000 in
theorem Zao.calls (k:Nat) (A0_0:Option Addr) (c0_0:Nat) (l0_0:List (S73)) (A0_1:Option Addr) (c0_1:Nat) (l0_1:List (S66)) (a0_2:Int) (a1:Int) (r:Int) (w:World) (hr0_0:Kd.C k73 w A0_0 l0_0.length l0_0) (hc0_0:l0_0.length≤c0_0) (hr0_1:Kd.C k66 w A0_1 l0_1.length l0_1) (hc0_1:l0_1.length≤c0_1) (h:Zao.f k l0_0 l0_1 a0_2 a1=some r) :
  Calls Tryd.prog 105 #[.agg #[.slice A0_0 l0_0.length c0_0,.slice A0_1 l0_1.length c0_1,.int .i64 a0_2],.int .i64 a1] w fun e w'=>e=.returned (.int .i64 r)∧Below w.heap.size w w':=by
 have hu36:=Tryd.underlying36
 have hu73:=Tryd.underlying73
 have HR0_0:=Za hr0_0;have HC0_0:=Za hc0_0;clear hr0_0 hc0_0;have HR0_1:=Za hr0_1;have HC0_1:=Za hc0_1;clear hr0_1 hc0_1
 have HB:=Za (Below.refl w.heap.size w)
 have H:(Zao.l0 k a1 l0_0 (l0_0.length:Int) 0)=some r:=h
 clear h
 have H':=Za H
 clear H
 go_enter Tryd.func105,Tryd.ntmps105
 go_wp2_with (first|((with_reducible refine ZN (N:=2) rfl ?_);refine ZP ?hg (N:=2) ?hd (cs:=#[.slice A0_0 l0_0.length c0_0,.slice A0_1 l0_1.length c0_1,.int .i64 a0_2]) (t:=36) ?hr ?_;(case hd=>rfl);(case hg=>rfl);(case hr=>first|(go_simp;done)|(go_simp;rfl));intro gb105001 hg w3 hbox hb;have BK105001:=Za (hbox);have GW105001:=Za ((by rw[hg];exact(Zy (by repeat(first|(with_reducible first|exact HB.out|apply Zn|apply Zm|apply Zo)|exact HB.out))):w.heap.size≤gb105001));have GE105001:=Za ((by rw[hg];exact(Zy (by repeat(first|(with_reducible first|exact HB.out|apply Zn|apply Zm|apply Zo)|exact HB.out))):w.heap.size≤gb105001));replace HB:=Za (Zx (by repeat(first|(with_reducible first|exact HB.out|apply Zn|apply Zm|apply Zo)|exact HB.out)) hb);clear hb hbox hg;have hcz4_0:w3.cell? ⟨gb105001,0,none⟩=some (.slice A0_0 l0_0.length c0_0):=(Zq BK105001.out 0).trans rfl;have hcz4_1:w3.cell? ⟨gb105001,1,none⟩=some (.slice A0_1 l0_1.length c0_1):=(Zq BK105001.out 1).trans rfl;have hcz4_2:w3.cell? ⟨gb105001,2,none⟩=some (.int .i64 a0_2):=(Zq BK105001.out 2).trans rfl;have hfz4_0:=Zt BK105001.out 0;have hfz4_1:=Zt BK105001.out 1;have hfz4_2:=Zt BK105001.out 2))
 go_loopg [10] k (fun kq v10 w'=>∃(x10_1:Int),v10=.int .i64 x10_1∧Aside0 (Zao.l0 kq a1 l0_0 (l0_0.length:Int) x10_1=some r)∧Aside0 (kq≤k)∧Aside0 (w'.heap[gb105001]? = some (.cells #[(.slice A0_0 l0_0.length c0_0),(.slice A0_1 l0_1.length c0_1),.int .i64 a0_2] 36 (0,0)))∧Aside0 (Below w.heap.size w w'))
 case atStart=>exact⟨(0),(by first|rfl|(simp;done)|(simp[*];done)),H',⟨Nat.le_refl _⟩,⟨by(with_reducible repeat(first|refine Zu ?_ _|refine Zv ?_|refine Zs ?_ _));exact BK105001.out⟩,⟨by repeat(first|(with_reducible first|exact HB.out|apply Zn|apply Zm|apply Zo|refine Zr ?_ GE105001.out)|exact HB.out)⟩⟩
 case round=>
  clear H'
  try clear c1
  try clear p2
  try clear hcz4_0
  try clear hcz4_1
  try clear hcz4_2
  try clear hfz4_0
  try clear hfz4_1
  try clear hfz4_2
  obtain⟨x10_1,rfl,HA,HK1,BK105001,HB⟩:=hrel
  cases gk with
  | zero=>exact absurd HA.out (by simp[Zao.l0])
  | succ k1=>
   have H:=HA.out
   clear HA
   simp only[Zao.l0] at H
   by_cases c5:x10_1<(l0_0.length:Int)
   ·rw[if_pos c5] at H
    have c5b0:decide (x10_1<(l0_0.length:Int))=true:=Ze c5
    clear c5
    by_cases c6:0≤x10_1
    ·rw[if_pos c6] at H
     have c6b0:decide (0≤x10_1)=true:=Ze c6
     clear c6
     by_cases c7:x10_1<(l0_0.length:Int)
     ·rw[if_pos c7] at H
      have c7b0:decide (x10_1<(l0_0.length:Int))=true:=Ze c7
      clear c7
      by_cases c8:((Zp l0_0 x10_1).f2)=a1
      ·rw[if_pos c8] at H
       have c8b0:(((Zp l0_0 x10_1).f2) == a1)=true:=beq_iff_eq.mpr c8
       have c8b1:(((Zp l0_0 x10_1).f2) != a1)=false:=bne_eq_false_iff_eq.mpr c8
       clear c8
       obtain rfl:=Zg H
       have p105002:0≤(x10_1:Int):=Zd (by first|(with_reducible assumption)|assumption)
       have q105002:x10_1<(l0_0.length:Int):=Zd (by first|(with_reducible assumption)|assumption)
       obtain⟨ad105002,A105002_1,c105002_1,e105002,hx105002_0,hx105002_1,hx105002_2,hl105002_1,hi105002_1⟩:=Zan HR0_0.out x10_1 p105002 q105002
       cases e105002
       replace hx105002_0:=(HB.out.cell (Zc w _ hx105002_0)).trans hx105002_0
       replace hx105002_1:=(HB.out.cell (Zc w _ hx105002_1)).trans hx105002_1
       replace hx105002_2:=(HB.out.cell (Zc w _ hx105002_2)).trans hx105002_2
       have HR105002_1:=Za hi105002_1;have HC105002_1:=Za hl105002_1;clear hi105002_1 hl105002_1
       replace p105002:=eq_true p105002
       replace q105002:=eq_true q105002
       go_wp2_with (first|((with_reducible refine ZN (N:=6) rfl ?_);refine ZP ?hg (N:=6) ?hd (cs:=#[.string (⟨#[]⟩:ByteArray),.slice none 0 0,.int .i64 0]) (t:=73) ?hr ?_;(case hd=>rfl);(case hg=>rfl);(case hr=>first|(go_simp;done)|(go_simp;rfl));intro gb105003 hg w9 hbox hb;have BK105003:=Za (hbox);have GW105003:=Za ((by rw[hg];exact(Zy (by repeat(first|(with_reducible first|exact HB.out|apply Zn|apply Zm|apply Zo|refine Zr ?_ GE105001.out)|exact HB.out))):w.heap.size≤gb105003));have GE105003:=Za ((by rw[hg];exact(Zy (by repeat(first|(with_reducible first|exact HB.out|apply Zn|apply Zm|apply Zo|refine Zr ?_ GE105001.out)|exact HB.out))):w.heap.size≤gb105003));have NB105001_105003:=Za ((by rw[hg];exact Nat.ne_of_lt (ZY (g:=gb105001) (o:=.cells #[.slice (some ad105002) l0_0.length c0_0,.slice A0_1 l0_1.length c0_1,.int .i64 a0_2] 36 (0,0)) (by(with_reducible repeat(first|refine Zu ?_ _|refine Zv ?_|refine Zs ?_ _));exact BK105001.out)):gb105001≠gb105003));have NB105003_105001:=Za ((by rw[hg];exact Nat.ne_of_gt (ZY (g:=gb105001) (o:=.cells #[.slice (some ad105002) l0_0.length c0_0,.slice A0_1 l0_1.length c0_1,.int .i64 a0_2] 36 (0,0)) (by(with_reducible repeat(first|refine Zu ?_ _|refine Zv ?_|refine Zs ?_ _));exact BK105001.out)):gb105003≠gb105001));replace BK105001:=Za (ZB (g:=gb105001) (o:=.cells #[.slice (some ad105002) l0_0.length c0_0,.slice A0_1 l0_1.length c0_1,.int .i64 a0_2] 36 (0,0)) (by(with_reducible repeat(first|refine Zu ?_ _|refine Zv ?_|refine Zs ?_ _));exact BK105001.out) hb);replace HB:=Za (Zx (by repeat(first|(with_reducible first|exact HB.out|apply Zn|apply Zm|apply Zo|refine Zr ?_ GE105001.out)|exact HB.out)) hb);clear hb hbox hg;have hnb10:=NB105003_105001.out;have hnc10:=NB105001_105003.out;have hcz11_0:w9.cell? ⟨gb105003,0,none⟩=some (.string (⟨#[]⟩:ByteArray)):=(Zq BK105003.out 0).trans rfl;have hcz11_1:w9.cell? ⟨gb105003,1,none⟩=some (.slice none 0 0):=(Zq BK105003.out 1).trans rfl;have hcz11_2:w9.cell? ⟨gb105003,2,none⟩=some (.int .i64 0):=(Zq BK105003.out 2).trans rfl;have hfz11_0:=Zt BK105003.out 0;have hfz11_1:=Zt BK105003.out 1;have hfz11_2:=Zt BK105003.out 2))
       go_ret
       exact⟨by first|rfl|(simp[ZA,Zz] <;> rfl)|(simp[*,ZA,Zz] <;> rfl),by repeat(first|(with_reducible first|exact HB.out|apply Zn|apply Zm|apply Zo|refine Zr ?_ GE105001.out|refine Zr ?_ GE105003.out)|exact HB.out)⟩
      ·rw[if_neg c8] at H
       have c8b0:(((Zp l0_0 x10_1).f2) == a1)=false:=beq_eq_false_iff_ne.mpr c8
       have c8b1:(((Zp l0_0 x10_1).f2) != a1)=true:=bne_iff_ne.mpr c8
       have H':=Za H
       clear H
       have p105002:0≤(x10_1:Int):=Zd (by first|(with_reducible assumption)|assumption)
       have q105002:x10_1<(l0_0.length:Int):=Zd (by first|(with_reducible assumption)|assumption)
       obtain⟨ad105002,A105002_1,c105002_1,e105002,hx105002_0,hx105002_1,hx105002_2,hl105002_1,hi105002_1⟩:=Zan HR0_0.out x10_1 p105002 q105002
       cases e105002
       replace hx105002_0:=(HB.out.cell (Zc w _ hx105002_0)).trans hx105002_0
       replace hx105002_1:=(HB.out.cell (Zc w _ hx105002_1)).trans hx105002_1
       replace hx105002_2:=(HB.out.cell (Zc w _ hx105002_2)).trans hx105002_2
       have HR105002_1:=Za hi105002_1;have HC105002_1:=Za hl105002_1;clear hi105002_1 hl105002_1
       replace p105002:=eq_true p105002
       replace q105002:=eq_true q105002
       go_wp2_with (first|((with_reducible refine ZN (N:=6) rfl ?_);refine ZP ?hg (N:=6) ?hd (cs:=#[.string (⟨#[]⟩:ByteArray),.slice none 0 0,.int .i64 0]) (t:=73) ?hr ?_;(case hd=>rfl);(case hg=>rfl);(case hr=>first|(go_simp;done)|(go_simp;rfl));intro gb105003 hg w12 hbox hb;have BK105003:=Za (hbox);have GW105003:=Za ((by rw[hg];exact(Zy (by repeat(first|(with_reducible first|exact HB.out|apply Zn|apply Zm|apply Zo|refine Zr ?_ GE105001.out)|exact HB.out))):w.heap.size≤gb105003));have GE105003:=Za ((by rw[hg];exact(Zy (by repeat(first|(with_reducible first|exact HB.out|apply Zn|apply Zm|apply Zo|refine Zr ?_ GE105001.out)|exact HB.out))):w.heap.size≤gb105003));have NB105001_105003:=Za ((by rw[hg];exact Nat.ne_of_lt (ZY (g:=gb105001) (o:=.cells #[.slice (some ad105002) l0_0.length c0_0,.slice A0_1 l0_1.length c0_1,.int .i64 a0_2] 36 (0,0)) (by(with_reducible repeat(first|refine Zu ?_ _|refine Zv ?_|refine Zs ?_ _));exact BK105001.out)):gb105001≠gb105003));have NB105003_105001:=Za ((by rw[hg];exact Nat.ne_of_gt (ZY (g:=gb105001) (o:=.cells #[.slice (some ad105002) l0_0.length c0_0,.slice A0_1 l0_1.length c0_1,.int .i64 a0_2] 36 (0,0)) (by(with_reducible repeat(first|refine Zu ?_ _|refine Zv ?_|refine Zs ?_ _));exact BK105001.out)):gb105003≠gb105001));replace BK105001:=Za (ZB (g:=gb105001) (o:=.cells #[.slice (some ad105002) l0_0.length c0_0,.slice A0_1 l0_1.length c0_1,.int .i64 a0_2] 36 (0,0)) (by(with_reducible repeat(first|refine Zu ?_ _|refine Zv ?_|refine Zs ?_ _));exact BK105001.out) hb);replace HB:=Za (Zx (by repeat(first|(with_reducible first|exact HB.out|apply Zn|apply Zm|apply Zo|refine Zr ?_ GE105001.out)|exact HB.out)) hb);clear hb hbox hg;have hnb13:=NB105003_105001.out;have hnc13:=NB105001_105003.out;have hcz14_0:w12.cell? ⟨gb105003,0,none⟩=some (.string (⟨#[]⟩:ByteArray)):=(Zq BK105003.out 0).trans rfl;have hcz14_1:w12.cell? ⟨gb105003,1,none⟩=some (.slice none 0 0):=(Zq BK105003.out 1).trans rfl;have hcz14_2:w12.cell? ⟨gb105003,2,none⟩=some (.int .i64 0):=(Zq BK105003.out 2).trans rfl;have hfz14_0:=Zt BK105003.out 0;have hfz14_1:=Zt BK105003.out 1;have hfz14_2:=Zt BK105003.out 2))
       go_roundg k1
       case measure=>have:=HK1.out;omega
       case rel=>exact⟨(wrap64 (x10_1+1)),(by first|rfl|(simp;done)|(simp[*];done)),H',⟨by have:=HK1.out;omega⟩,⟨by(with_reducible repeat(first|refine Zu ?_ _|refine Zv ?_|refine Zs ?_ _));refine ZV ?_ NB105001_105003.out _;(with_reducible repeat(first|refine Zu ?_ _|refine Zv ?_|refine Zs ?_ _));refine ZV ?_ NB105001_105003.out _;(with_reducible repeat(first|refine Zu ?_ _|refine Zv ?_|refine Zs ?_ _));refine ZV ?_ NB105001_105003.out _;(with_reducible repeat(first|refine Zu ?_ _|refine Zv ?_|refine Zs ?_ _));exact BK105001.out⟩,⟨by repeat(first|(with_reducible first|exact HB.out|apply Zn|apply Zm|apply Zo|refine Zr ?_ GE105001.out|refine Zr ?_ GE105003.out)|exact HB.out)⟩⟩
     ·rw[if_neg c7] at H
      exact absurd H (by simp)
    ·rw[if_neg c6] at H
     exact absurd H (by simp)
   ·rw[if_neg c5] at H
    have c5b0:decide (x10_1<(l0_0.length:Int))=false:=Zf c5
    clear c5
    obtain rfl:=Zg H
    go_wp2
    go_ret
    exact⟨by first|rfl|(simp[ZA,Zz] <;> rfl)|(simp[*,ZA,Zz] <;> rfl),by repeat(first|(with_reducible first|exact HB.out|apply Zn|apply Zm|apply Zo|refine Zr ?_ GE105001.out)|exact HB.out)⟩
end Go.Proofs.YthphnhmabieflaaDoor.Pr
namespace Go.Proofs.YthphnhmabieflaaDoor.Pr
open Go.RowKit Go.Proofs.YthphnhmabieflaaDoorW.PrintWords Go.Proofs.YthphnhmabieflaaDoor.Ni
def Zb9 (ts:List PTie) (node:Int):Int:=Zbn (fun t=>t.f4 && decide (t.f1=node)) ts
def Zbw (ns:List Z2) (p:Int):Int:=Zbn (fun n=>decide (n.f2=p)) ns
def inB (a b c:Int):Bool:=decide (b≤a) && decide (a≤c)
theorem l01In_f (a b c:Int):Z5.f a b c=some (inB a b c):=by
 unfold Z5.f inB
 by_cases h:a≥b
 ·rw[if_pos h,Ze (show b≤a from h),Bool.true_and]
 ·rw[if_neg h,Zf (show ¬b≤a from h),Bool.false_and]
theorem l08Free_f (ns:List Z2) (ts:List PTie) (z:Int) (node:Int) (hl:ts.length≤9223372036854775807) (k:Nat) (hk:2 ^ 64≤k):Zak.f k ns ts z node=some (Zb9 ts node):=by
 have key:=ZaM ts.length (fun k i=>(∀j y,j<i→ts[j]? = some y→(y.f4 && decide (y.f1=node))=false)→Zak.l0 k node ts ts.length (i:Int)=some (Zb9 ts node)) 0
  (fun k _ hb=>by
   simp only[Zak.l0]
   rw[if_neg (by omega),Zb9,ZbD _ _ hb])
  (fun k i _ hi ih hb=>by
   simp only[Zak.l0]
   have next:((ts.getD i z66).f4 && decide ((ts.getD i z66).f1=node))=false→Zak.l0 k node ts ts.length ((i+1:Nat):Int)=some (Zb9 ts node):=fun h=>ih (by
    intro j y hj hy
    by_cases e:j=i
    ·subst e
     rw[getD_some hi z66] at hy
     cases hy
     exact h
    ·exact hb j y (by omega) hy)
   rw[if_pos (by omega),if_pos (by omega),if_pos (by omega),Zdy,Zax hi (by omega)]
   by_cases h:(ts.getD i z66).f4=true
   ·rw[if_pos h]
    by_cases h2:(ts.getD i z66).f1=node
    ·rw[if_pos h2,Zb9,ZbO _ ts i _ (getD_some hi z66) (by rw[h,Ze h2];rfl) hb]
    ·rw[if_neg h2,next (by rw[Zf h2,Bool.and_false])]
   ·rw[if_neg h,next (by rw[Bool.eq_false_iff.2 h,Bool.false_and])]) 0 k (Nat.zero_le _) (by omega)
 unfold Zak.f
 exact key (fun j y hj=>absurd hj (by omega))
theorem Zdq (ns:List Z2) (ts:List PTie) (z:Int) (p:Int) (hl:ns.length≤9223372036854775807) (k:Nat) (hk:2 ^ 64≤k):Zao.f k ns ts z p=some (Zbw ns p):=by
 have key:=ZaM ns.length (fun k i=>(∀j y,j<i→ns[j]? = some y→decide (y.f2=p)=false)→Zao.l0 k p ns ns.length (i:Int)=some (Zbw ns p)) 0
  (fun k _ hb=>by
   simp only[Zao.l0]
   rw[if_neg (by omega),Zbw,ZbD _ _ hb])
  (fun k i _ hi ih hb=>by
   simp only[Zao.l0]
   rw[if_pos (by omega),if_pos (by omega),if_pos (by omega),Zbi,Zax hi (by omega)]
   by_cases h:(ns.getD i z73).f2=p
   ·rw[if_pos h,Zbw,ZbO _ ns i _ (getD_some hi z73) (Ze h) hb]
   ·rw[if_neg h,ih]
    intro j y hj hy
    by_cases e:j=i
    ·subst e
     rw[getD_some hi z73] at hy
     cases hy
     exact Zf h
    ·exact hb j y (by omega) hy) 0 k (Nat.zero_le _) (by omega)
 unfold Zao.f
 exact key (fun j y hj=>absurd hj (by omega))
def fitN (ns:List Z2):Bool:=ns.all fun n=>decide (n.f0.size≤9223372036854775807) && decide (n.f1.length≤9223372036854775807)
theorem fitN_iff {ns:List Z2} (h:fitN ns=true):∀n∈ns,n.f0.size≤9223372036854775807∧n.f1.length≤9223372036854775807:=fun n hn=>by
 have:=List.all_eq_true.1 h n hn
 simpa using this
theorem showCell0 (w:World) (x y z:Value) (t:TypeId):(w.alloc (.cells #[x,y,z] t)).cell? ⟨w.heap.size,0,none⟩=some x:=by go_simp
theorem showCell1 (w:World) (x y z:Value) (t:TypeId):(w.alloc (.cells #[x,y,z] t)).cell? ⟨w.heap.size,1,none⟩=some y:=by go_simp
theorem showCell2 (w:World) (x y z:Value) (t:TypeId):(w.alloc (.cells #[x,y,z] t)).cell? ⟨w.heap.size,2,none⟩=some z:=by go_simp
theorem Za9 (a b c:Int) (w:World):Calls Tryd.prog 44 #[.int .i64 a,.int .i64 b,.int .i64 c] w fun e w'=>e=.returned (.bool (inB a b c))∧∃n,w'=w.drewN n:=
 (Z5.calls a b c _ w (l01In_f a b c)).mono fun _ _ ⟨he,hd⟩=>⟨he,hd.out⟩
theorem quietX {P:Program} {f:FuncId} {args:Array Value} {W:World} {a x:Nat} {v:Value} (h:Calls P f args (W.drewN (a+x)) fun e w'=>e=.returned v∧∃m,w'=(W.drewN (a+x)).drewN m):Calls P f args (W.drewN (a+x)) fun e w''=>e=.returned v∧∃n,w''=W.drewN (a+n):=
 h.mono fun _ _ ⟨he,m,hm⟩=>⟨he,x+m,by rw[hm,World.drewN_drewN,Nat.add_assoc]⟩
theorem Zbr {P:Program} {f:FuncId} {args:Array Value} {W:World} {x:Nat} {v:Value} (h:Calls P f args (W.drewN x) fun e w'=>e=.returned v∧∃m,w'=(W.drewN x).drewN m):Calls P f args (W.drewN x) fun e w''=>e=.returned v∧∃n,w''=W.drewN n:=
 h.mono fun _ _ ⟨he,m,hm⟩=>⟨he,x+m,by rw[hm,World.drewN_drewN]⟩
end Go.Proofs.YthphnhmabieflaaDoor.Pr
