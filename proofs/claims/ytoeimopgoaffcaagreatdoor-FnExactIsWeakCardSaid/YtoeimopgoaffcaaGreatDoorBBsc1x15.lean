/- The texts of one claim, put together by a program of this session. -/
import Derived.Deep.LoopGhost
import Derived.Test.YtoeimopgoaffcaaGreatDoorBBsc1x1
import Derived.Test.YtoeimopgoaffcaaGreatDoorBBsc1x13
import Derived.Test.YtoeimopgoaffcaaGreatDoorBBsc1x14
import Derived.Test.YtoeimopgoaffcaaGreatDoorBBsc1x2
import Derived.Test.YtoeimopgoaffcaaGreatDoorBBsc1x3
import Derived.Test.YtoeimopgoaffcaaGreatDoorBBsc1x4
import Derived.Test.YtoeimopgoaffcaaGreatDoorBBsc1x6
import Derived.Test.YtoeimopgoaffcaaGreatDoorBBsc1x7
namespace Go.Proofs.YtoeimopgoaffcaaGreatDoor.Pr
open Go.RowKit Go.Proofs.YtoeimopgoaffcaaGreatDoorW.PrintWords Go.Proofs.YtoeimopgoaffcaaGreatDoorW.PrintLast Go.Proofs.YtoeimopgoaffcaaGreatDoorW.PrintMore
attribute [local go_sem] ZU ZS ZW ZV ZO ZN ZT ZR
set_option linter.unusedVariables false
set_option linter.unusedSimpArgs false
open Go.Proofs.YtoeimopgoaffcaaGreatDoor.Ni
def Zcu (ns:List S39) (n:S39):Bool:=!(n.f1.any fun x=>!Zb2 ns n.f1 x)
def Zaq (ns:List S39) (ts:List S82) (z:Int):Bool:=Z1 ns && ZaT ns ts && !(decide (z<1)) && !(decide (10<z)) && ns.all (Zcu ns)
def ZaR.f (l0_0:List (S39)) (l0_1:List (S82)) (a0_2:Int):Option Bool:=if fitN l0_0=true then some (Zaq l0_0 l0_1 a0_2) else none
set_option maxHeartbeats 8000000 in
theorem Zgo.clo (k:Nat) (hk:2 ^ 64≤k) (B D:Nat) (A0_0:Option Addr) (c0_0:Nat) (l0_0:List S39) (A0_1:Option Addr) (c0_1:Nat) (l0_1:List S82) (a0_2:Int) (An:Option Addr) (cn:Nat) (lb:List Int) (x:Int) (W:World)
  (h0:W.cell? ⟨B,0,none⟩=some (.slice A0_0 l0_0.length c0_0)) (h1:W.cell? ⟨B,1,none⟩=some (.slice A0_1 l0_1.length c0_1)) (h2:W.cell? ⟨B,2,none⟩=some (.int .i64 a0_2)) (h3:W.cell? ⟨D,1,none⟩=some (.slice An lb.length cn))
  (hr0_0:Kd.C k39 W A0_0 l0_0.length l0_0) (hc0_0:l0_0.length≤c0_0) (hr0_1:Kd.C k82 W A0_1 l0_1.length l0_1) (hc0_1:l0_1.length≤c0_1) (hrn:Kd.C (Kd.int .i64) W An lb.length lb) (hcn:lb.length≤cn)
  (hf:ZbI.f k l0_0 l0_1 a0_2 lb x=some (Zb2 l0_0 lb x)) :
  Calls Tryz.prog 80 #[.int .i64 x,.pointer (some ⟨B,0,none⟩),.pointer (some ⟨D,0,none⟩)] W fun e w'=>e=.returned (.bool (!Zb2 l0_0 lb x))∧Below W.heap.size W w':=by
 have hltB:B<W.heap.size:=Zc W _ h0
 have hltD:D<W.heap.size:=Zc W _ h3
 have HC:=Za (ZbI.calls k A0_0 c0_0 l0_0 A0_1 c0_1 l0_1 a0_2 An cn lb x _ W hr0_0 hc0_0 hr0_1 hc0_1 hrn hcn hf)
 have hu:=Tryz.underlying25
 have hu2:=Tryz.underlying39
 clear hr0_0 hr0_1 hrn hf hc0_0 hc0_1 hcn
 cases b:Zb2 l0_0 lb x
 all_goals
  rw[b] at HC
  clear b
  go_enter Tryz.func80,Tryz.ntmps80
  go_wp2_with (go_at_call 81;refine HC.out.mono ?_;rintro e w' ⟨rfl,hb⟩)
  go_ret
  exact⟨rfl,hb⟩
set_option maxHeartbeats 8000000 in
set_option maxRecDepth 100000 in
theorem ZaR.calls (A0_0:Option Addr) (c0_0:Nat) (l0_0:List (S39)) (A0_1:Option Addr) (c0_1:Nat) (l0_1:List (S82)) (a0_2:Int) (r:Bool) (w:World) (hr0_0:Kd.C k39 w A0_0 l0_0.length l0_0) (hc0_0:l0_0.length≤c0_0) (hr0_1:Kd.C k82 w A0_1 l0_1.length l0_1) (hc0_1:l0_1.length≤c0_1) (h:ZaR.f l0_0 l0_1 a0_2=some r) :
  Calls Tryz.prog 19 #[.agg #[.slice A0_0 l0_0.length c0_0,.slice A0_1 l0_1.length c0_1,.int .i64 a0_2]] w fun e w'=>e=.returned (.bool r)∧Below w.heap.size w w':=by
 by_cases hfit:fitN l0_0=true
 case neg=>rw[ZaR.f,if_neg hfit] at h;exact absurd h (by simp)
 rw[ZaR.f,if_pos hfit] at h
 obtain rfl:=Zg h
 have hfi:=fitN_iff hfit
 have hL:l0_0.length≤9223372036854775807:=hr0_0.2.1
 have HRn:=Za hr0_0;have HRt:=Za hr0_1;have HCn:=Za hc0_0;have HCt:=Za hc0_1;have HFI:=Za hfi
 have B1:=Za (Zn (Below.refl w.heap.size w) (.cells #[.slice A0_0 l0_0.length c0_0,.slice A0_1 l0_1.length c0_1,.int .i64 a0_2] 25))
 have HK:=Za fun (W:World) (hA:Below (w.alloc (.cells #[.slice A0_0 l0_0.length c0_0,.slice A0_1 l0_1.length c0_1,.int .i64 a0_2] 25)).heap.size (w.alloc (.cells #[.slice A0_0 l0_0.length c0_0,.slice A0_1 l0_1.length c0_1,.int .i64 a0_2] 25)) W)=>And.intro (B1.out.trans (hA.mono B1.out.size)) (And.intro (Zx hA (show _=some (.slice A0_0 l0_0.length c0_0) from showCell0 w _ _ _ _)) (And.intro (Zx hA (showCell1 w _ _ _ _)) (And.intro (Zx hA (showCell2 w _ _ _ _)) (show w.heap.size<W.heap.size from Nat.lt_of_lt_of_le (by simp) hA.size))))
 have HN:=Za fun (W:World) (hb:Below w.heap.size w W)=>Zca.calls A0_0 c0_0 l0_0 A0_1 c0_1 l0_1 a0_2 _ W (Zb hr0_0 hb) hc0_0 (Zb hr0_1 hb) hc0_1 (areNodes_f l0_0 l0_1 a0_2 hfi)
 have HT:=Za fun (W:World) (hb:Below w.heap.size w W)=>ZdW.calls A0_0 c0_0 l0_0 A0_1 c0_1 l0_1 a0_2 _ W (Zb hr0_0 hb) hc0_0 (Zb hr0_1 hb) hc0_1 rfl
 have hlb:Z1 l0_0=true→∀n∈l0_0,∀x∈n.f1,Zbf x=true:=Zdz
 clear hr0_0 hr0_1 hc0_0 hc0_1 h hfi hfit
 have hu:=Tryz.underlying25
 have hu2:=Tryz.underlying39
 cases b1:Z1 l0_0 with
 | false=>
  rw[b1] at HN
  have HF:=Za (show Zaq l0_0 l0_1 a0_2=false by simp[Zaq,b1])
  clear hlb b1
  go_enter Tryz.func19,Tryz.ntmps19
  go_wp2_with (go_at_call 77;refine(HN.out _ B1.out).mono ?_;rintro e w1 ⟨rfl,hb⟩;obtain⟨hB,hc0,hc1,hc2,hS⟩:=HK.out _ hb)
  go_ret
  exact⟨by rw[HF.out];rfl,hB⟩
 | true=>
 rw[b1] at HN
 have HLB:=Za (hlb b1)
 clear hlb
 cases b2:ZaT l0_0 l0_1 with
 | false=>
  rw[b2] at HT
  have HF:=Za (show Zaq l0_0 l0_1 a0_2=false by simp[Zaq,b2])
  clear b1 b2
  go_enter Tryz.func19,Tryz.ntmps19
  go_wp2_with (first|(go_at_call 77;refine(HN.out _ B1.out).mono ?_;rintro e w1 ⟨rfl,hA⟩;obtain⟨hB,hc0,hc1,hc2,hS⟩:=HK.out _ hA)|(go_at_call 78;refine(HT.out _ hB).mono ?_;rintro e w2 ⟨rfl,hb⟩;replace hA:=hA.trans (hb.mono hA.size);clear hB hc0 hc1 hc2 hS;obtain⟨hB,hc0,hc1,hc2,hS⟩:=HK.out _ hA;clear hb))
  go_ret
  exact⟨by rw[HF.out];rfl,hB⟩
 | true=>
 rw[b2] at HT
 cases b3:decide (a0_2<1) with
 | true=>
  have HF:=Za (show Zaq l0_0 l0_1 a0_2=false by simp[Zaq,b3])
  clear b1 b2
  go_enter Tryz.func19,Tryz.ntmps19
  go_wp2_with (first|(go_at_call 77;refine(HN.out _ B1.out).mono ?_;rintro e w1 ⟨rfl,hA⟩;obtain⟨hB,hc0,hc1,hc2,hS⟩:=HK.out _ hA)|(go_at_call 78;refine(HT.out _ hB).mono ?_;rintro e w2 ⟨rfl,hb⟩;replace hA:=hA.trans (hb.mono hA.size);clear hB hc0 hc1 hc2 hS;obtain⟨hB,hc0,hc1,hc2,hS⟩:=HK.out _ hA;clear hb))
  go_ret
  exact⟨by rw[HF.out];rfl,hB⟩
 | false=>
 cases b4:decide (10<a0_2) with
 | true=>
  have HF:=Za (show Zaq l0_0 l0_1 a0_2=false by simp[Zaq,b4])
  clear b1 b2
  go_enter Tryz.func19,Tryz.ntmps19
  go_wp2_with (first|(go_at_call 77;refine(HN.out _ B1.out).mono ?_;rintro e w1 ⟨rfl,hA⟩;obtain⟨hB,hc0,hc1,hc2,hS⟩:=HK.out _ hA)|(go_at_call 78;refine(HT.out _ hB).mono ?_;rintro e w2 ⟨rfl,hb⟩;replace hA:=hA.trans (hb.mono hA.size);clear hB hc0 hc1 hc2 hS;obtain⟨hB,hc0,hc1,hc2,hS⟩:=HK.out _ hA;clear hb))
  go_ret
  exact⟨by rw[HF.out];rfl,hB⟩
 | false=>
 have HF:=Za (show Zaq l0_0 l0_1 a0_2=l0_0.all (Zcu l0_0) by simp[Zaq,b1,b2,b3,b4])
 clear b1 b2
 go_enter Tryz.func19,Tryz.ntmps19
 go_wp2_with (first|(go_at_call 77;refine(HN.out _ B1.out).mono ?_;rintro e w1 ⟨rfl,hA⟩;obtain⟨hB,hc0,hc1,hc2,hS⟩:=HK.out _ hA)|(go_at_call 78;refine(HT.out _ hB).mono ?_;rintro e w2 ⟨rfl,hb⟩;replace hA:=hA.trans (hb.mono hA.size);clear hB hc0 hc1 hc2 hS;obtain⟨hB,hc0,hc1,hc2,hS⟩:=HK.out _ hA;clear hb))
 have HB0:=Za hB
 have HX0:=Za (And.intro hc0 (And.intro hc1 hc2))
 have HS0:=Za hS;clear hA hB hc0 hc1 hc2 hS
 go_loopg [4,26] l0_0.length (fun gg _ s26 wr=>∃kk:Nat,Aside0 (kk≤l0_0.length)∧Aside0 (l0_0.length - kk≤gg)∧s26=.int .i64 kk∧Aside0 (Below w.heap.size w wr)∧Aside0 (w.heap.size<wr.heap.size)∧Aside0 (wr.cell? ⟨w.heap.size,0,none⟩=some (.slice A0_0 l0_0.length c0_0)∧wr.cell? ⟨w.heap.size,1,none⟩=some (.slice A0_1 l0_1.length c0_1)∧wr.cell? ⟨w.heap.size,2,none⟩=some (.int .i64 a0_2))∧Aside0 (l0_0.all (Zcu l0_0)=(l0_0.drop kk).all (Zcu l0_0)))
 case atStart=>exact⟨0,⟨Nat.zero_le _⟩,⟨by omega⟩,rfl,HB0,HS0,HX0,⟨rfl⟩⟩
 case round=>
  obtain⟨kk,HK',HG,rfl,HBr,HS,HX,HN'⟩:=hrel
  have hsz:=HS.out
  obtain⟨hb0,hb1,hb2_⟩:=HX.out
  by_cases hlt:kk<l0_0.length
  ·have hltz:(kk:Int)<(l0_0.length:Int):=by omega
   obtain⟨ad,Am,cm,e1,hm0,hm1,hm2,lm,gm⟩:=Za0 HRn.out (kk:Int) (by omega) hltz
   cases e1
   have HDR:=Za (Zah hlt z39)
   have hmem:=Za (ZaJ hlt z39)
   rw[← Zcq] at HDR hmem
   rw[Int.toNat_natCast] at hm0 hm1 hm2
   generalize ZH l0_0 (kk:Int)=y at hm0 hm1 hm2 lm gm HDR hmem
   replace hm0:=Zx HBr.out hm0
   replace hm1:=Zx HBr.out hm1
   replace hm2:=Zx HBr.out hm2
   have hlta:=Zc wr _ hm0
   have LM:=Za lm
   have GM:=Za (Zb gm HBr.out)
   clear lm gm
   have B2:=Za (Zn (Below.refl wr.heap.size wr) (.cells #[.string y.f0,.slice Am y.f1.length cm,.int .i64 y.f2] 39))
   have HC:=Za fun (W:World) (hb:Below wr.heap.size wr W) (hcell:W.cell? ⟨wr.heap.size,1,none⟩=some (.slice Am y.f1.length cm))=>ZbO.any (fun x=>!Zb2 l0_0 y.f1 x) 80 #[.pointer (some ⟨w.heap.size,0,none⟩),.pointer (some ⟨wr.heap.size,0,none⟩)] (enters_of Tryz.func80 (by kernel_rfl) rfl) Am cm y.f1 W (Zb GM.out hb)
    (fun W' x hx hb'=>Zgo.clo (2 ^ 64) (Nat.le_refl _) w.heap.size wr.heap.size (some ad) c0_0 l0_0 A0_1 c0_1 l0_1 a0_2 Am cm y.f1 x W' (Zx hb' (Zx hb HX.out.1)) (Zx hb' (Zx hb HX.out.2.1)) (Zx hb' (Zx hb HX.out.2.2)) (Zx hb' hcell)
     (Zb (Zb (Zb HRn.out HBr.out) hb) hb') HCn.out (Zb (Zb (Zb HRt.out HBr.out) hb) hb') HCt.out (Zb (Zb GM.out hb) hb') LM.out
     (isWatched_f l0_0 l0_1 a0_2 y.f1 x (fun n hn=>(HFI.out n hn).2) (HFI.out y hmem.out).2 (HLB.out y hmem.out x hx) (2 ^ 64) (Nat.le_refl _)))
   cases b5:y.f1.any (fun x=>!Zb2 l0_0 y.f1 x) with
   | true=>
    rw[b5] at HC
    have HF2:=Za (show Zaq l0_0 l0_1 a0_2=false by
     rw[HF.out,HN'.out,HDR.out,List.all_cons,show Zcu l0_0 y=false by unfold Zcu;rw[b5];rfl];rfl)
    clear b5
    go_wp2_with fail
    refine(HC.out _ B2.out (by go_simp)).mono ?_
    rintro e w3 ⟨rfl,hb⟩
    have hb3:=B2.out.trans (hb.mono B2.out.size)
    go_wp2
    go_ret
    exact⟨by rw[HF2.out];rfl,HBr.out.trans (hb3.mono HBr.out.size)⟩
   | false=>
    rw[b5] at HC
    have HF2:=Za (show l0_0.all (Zcu l0_0)=(l0_0.drop (kk+1)).all (Zcu l0_0) by
     rw[HN'.out,HDR.out,List.all_cons,show Zcu l0_0 y=true by unfold Zcu;rw[b5];rfl];rfl)
    clear b5
    go_wp2_with fail
    refine(HC.out _ B2.out (by go_simp)).mono ?_
    rintro e w3 ⟨rfl,hb⟩
    have hb3:=B2.out.trans (hb.mono B2.out.size)
    go_wp2
    go_roundg (l0_0.length - (kk+1))
    case measure=>have:=HG.out;omega
    case rel=>exact⟨kk+1,⟨by omega⟩,⟨by omega⟩,by go_num,⟨HBr.out.trans (hb3.mono HBr.out.size)⟩,⟨by have:=hb3.size;omega⟩,⟨Zx hb3 hb0,Zx hb3 hb1,Zx hb3 hb2_⟩,HF2⟩
  ·have hltz:¬(kk:Int)<(l0_0.length:Int):=by omega
   have:kk=l0_0.length:=by have:=HK'.out;omega
   subst this
   have HF2:=Za (show Zaq l0_0 l0_1 a0_2=true by
    rw[HF.out,HN'.out,List.drop_length];rfl)
   go_wp2
   go_ret
   exact⟨by rw[HF2.out];rfl,HBr.out⟩
end Go.Proofs.YtoeimopgoaffcaaGreatDoor.Pr
namespace Go.Proofs.YtoeimopgoaffcaaGreatDoor.Pr
open Go.RowKit Go.Proofs.YtoeimopgoaffcaaGreatDoorW.PrintWords Go.Proofs.YtoeimopgoaffcaaGreatDoor.Ni
theorem idx_at {α:Type} (p:α→Bool) (l:List α) (i:Nat) (x:α) (h:l[i]? = some x) (hx:p x=true):decide (ZaY p l=(i:Int))=(l.take i).all (fun y=>!p y):=by
 have hi:i<l.length:=by
  rcases Nat.lt_or_ge i l.length with h'|h'
  ·exact h'
  ·rw[List.getElem?_eq_none h'] at h;exact absurd h (by simp)
 by_cases ha:(l.take i).all (fun y=>!p y)=true
 ·rw[ha,decide_eq_true_eq]
  refine ZbR p l i x h hx fun j y hj hy=>?_
  have:=List.all_eq_true.1 ha y (List.mem_of_getElem? (i:=j) (by rw[List.getElem?_take_of_lt hj];exact hy))
  simpa using this
 ·rw[Bool.eq_false_iff.2 ha,decide_eq_false_iff_not]
  intro e
  apply ha
  rw[List.all_eq_true]
  intro y hy
  obtain⟨j,hj,rfl⟩:=List.mem_iff_getElem.1 hy
  have hj':j<i:=by rw[Zj] at hj;omega
  unfold ZaY at e
  cases hf:l.findIdx? p with
  | none=>rw[hf] at e;simp only at e;omega
  | some m=>
   rw[hf] at e
   have:m=i:=by simp only at e;omega
   subst this
   obtain⟨_,_,h3⟩:=List.findIdx?_eq_some_iff_getElem.1 hf
   have:=h3 j hj'
   rw[List.getElem_take]
   simpa using this
theorem all_pair {α:Type} (a b:α→Bool) (c:Bool) (l:List α):l.all (fun m=>a m && (c || b m))=(l.all a && (c || l.all b)):=by
 induction l with
 | nil=>simp
 | cons x l ih=>rw[List.all_cons,List.all_cons,List.all_cons,ih];cases a x <;> cases b x <;> cases c <;> simp
theorem ZeU (a b:Int):(!(a != b))=decide (a=b):=by rw[Bool.eq_iff_iff];simp
theorem snodeC_at {ns:List ZI} {i:Nat} (h:i<ns.length):Zcp ns (ZH ns (i:Int)) i=ZcI ns i:=by
 rw[Zcq]
 unfold Zcp ZcI
 have hs:=getD_some h z39
 generalize ns.getD i z39=y at hs
 rw[ZeU,ZeU,ZeU,ZdV,Zb3,idx_at _ ns i y hs (Ze rfl),idx_at _ ns i y hs (Ze rfl),Bool.and_assoc,← all_pair]
 rfl
theorem Ze1 {ns:List ZI}:∀(d i:Nat),i+d=ns.length→Za6 ns i d=Zbr ns i d
 | 0,_,_=>rfl
 | d+1,i,h=>by rw[Za6,Zbr,snodeC_at (by omega),Ze1 d (i+1) (by omega)]
theorem ZdA (ns:List ZI) {p:Int} (hp:0<p):Za2 ns p=Zb3 ns p:=by
 unfold Za2 Zb3
 rw[Ze hp]
 simp only[Bool.true_and]
theorem Zez (ns:List ZI) (lb:List Int) {x:Int} (hx:Zbf x=true):Zb2 ns lb x=ZcM ns lb x:=by
 unfold Zb2 Zea ZcM ZdG hasB
 rw[ZdA ns (by have:=Zdb hx;omega)]
 congr 3
 rw[Bool.eq_iff_iff];simp
theorem Zfq {ns:List ZI} {n:ZI} (h:∀x∈n.f1,Zbf x=true):Zcu ns n=Zce ns n:=by
 unfold Zcu Zce
 rw[Bool.eq_iff_iff,Bool.not_eq_true',List.any_eq_false,List.all_eq_true]
 constructor
 ·intro hh x hx
  have:=hh x hx
  rw[← Zez ns _ (h x hx)];simpa using this
 ·intro hh x hx
  have:=hh x hx
  rw[← Zez ns _ (h x hx)] at this;simpa using this
theorem nodes_same (ns:List ZI):ZbA ns=(Z1 ns && ns.all (Zcu ns)):=by
 have e:ZbA ns=(Z1 ns && ns.all (Zce ns)):=by
  unfold ZbA Z1 inB
  rw[Ze1 ns.length 0 (by omega),ZeU,show ZH ns 0=ns.getD 0 z39 from Zcq ns 0]
  rw[show(decide ((1:Int)≤(ns.length:Int)) && decide ((ns.length:Int)≤7))=(decide (1≤ns.length) && decide (ns.length≤7)) by rw[Bool.eq_iff_iff];simp only[Bool.and_eq_true,decide_eq_true_eq];omega]
  rw[show(!(decide (((ns.getD 0 z39).f1.length:Int) > 0)))=decide ((ns.getD 0 z39).f1.length=0) by rw[Bool.eq_iff_iff];simp only[Bool.not_eq_true',decide_eq_true_eq,decide_eq_false_iff_not];omega]
 rw[e]
 cases h:Z1 ns with
 | false=>rfl
 | true=>
  rw[Bool.true_and,Bool.true_and,Bool.eq_iff_iff,List.all_eq_true,List.all_eq_true]
  constructor
  ·intro hh n hn;rw[Zfq (Zdz h n hn)];exact hh n hn
  ·intro hh n hn;rw[← Zfq (Zdz h n hn)];exact hh n hn
def Zdn (ns:List ZI) (ts:List PTie) (i:Nat):Nat→Bool
 | 0=>true
 | d+1=>tieB ns ts i && Zdn ns ts (i+1) d
theorem in_same (n:Nat) (x:Int):inB x 0 ((n:Int) - 1)=Zb4 n x:=by
 unfold inB Zb4
 rw[Bool.eq_iff_iff];simp;omega
theorem tie_same {ns:List ZI} {ts:List PTie} {i:Nat} (h:i<ts.length):tieB ns ts i=Zdg ns ts i:=by
 unfold tieB Zdg
 have hs:=getD_some h z82
 rw[ZdJ]
 generalize ts.getD i z82=t at hs
 obtain⟨tf,tt,tl,th,tb⟩:=t
 show tieC tf tt tl th tb ns ts i=ZbM tf tt tl th tb ns ts i
 unfold tieC ZbM ZdB
 rw[in_same,in_same]
 cases tb with
 | false=>
  rw[Bool.eq_iff_iff]
  simp only[Bool.not_false,Bool.true_or,Bool.and_true,Bool.and_eq_true,Bool.not_eq_true',beq_eq_false_iff_ne,decide_eq_true_eq,decide_eq_false_iff_not]
  constructor
  ·rintro⟨⟨⟨⟨⟨a1,a2⟩,a3⟩,a4⟩,a5⟩,a6⟩
   exact⟨⟨⟨⟨⟨a1,a2⟩,a3⟩,by omega,by omega⟩,by omega,by omega⟩,a6⟩
  ·rintro⟨⟨⟨⟨⟨a1,a2⟩,a3⟩,a4,a5⟩,a6,a7⟩,a8⟩
   exact⟨⟨⟨⟨⟨a1,a2⟩,a3⟩,by omega⟩,by omega⟩,a8⟩
 | true=>
  have hf:(ZcX ts tt == (i:Int))=!((ts.take i).any fun u=>u.f4 && decide (u.f1=tt)):=by
   rw[show(ZcX ts tt == (i:Int))=decide (ZcX ts tt=(i:Int)) by rw[Bool.eq_iff_iff];simp,ZcX,idx_at _ ts i _ hs (by simp),Bool.eq_iff_iff]
   simp
   exact forall_congr' fun x=>forall_congr' fun _=>by cases x.f4 <;> simp
  rw[hf]
  rw[Bool.eq_iff_iff]
  simp only[Bool.not_true,Bool.false_or,Bool.and_eq_true,Bool.not_eq_true',beq_eq_false_iff_ne,decide_eq_true_eq,decide_eq_false_iff_not,beq_iff_eq,bne_eq_false_iff_eq]
  constructor
  ·rintro⟨⟨⟨⟨⟨⟨a1,a2⟩,a3⟩,a4⟩,a5⟩,a6⟩,⟨⟨⟨⟨b1,b2⟩,b3⟩,b4⟩,b5⟩⟩
   exact⟨⟨⟨⟨⟨⟨a1,a2⟩,a3⟩,by omega,by omega⟩,by omega,by omega⟩,a6⟩,⟨⟨⟨⟨by omega,b2⟩,b3⟩,b4.symm⟩,b5⟩⟩
  ·rintro⟨⟨⟨⟨⟨⟨a1,a2⟩,a3⟩,a4,a5⟩,a6,a7⟩,a8⟩,⟨⟨⟨⟨b1,b2⟩,b3⟩,b4⟩,b5⟩⟩
   exact⟨⟨⟨⟨⟨⟨a1,a2⟩,a3⟩,by omega⟩,by omega⟩,a8⟩,⟨⟨⟨⟨by omega,b2⟩,b3⟩,b4.symm⟩,b5⟩⟩
theorem ties_from {ns:List ZI} {ts:List PTie}:∀(d i:Nat),i+d=ts.length→Zdn ns ts i d=Zbu ns ts i d
 | 0,_,_=>rfl
 | d+1,i,h=>by rw[Zdn,Zbu,tie_same (by omega),ties_from d (i+1) (by omega)]
theorem Zgk (ns:List ZI) (ts:List PTie) (z:Int) (ht:ts.length≤14):∀(d i k:Nat),i+d=ts.length→d<k→Z6.l0 k ts.length (i:Int) ns ts z=some (Zdn ns ts i d):=by
 intro d
 induction d with
 | zero=>
  intro i k hi hk
  obtain⟨m,rfl⟩:∃m,k=m+1:=⟨k - 1,by omega⟩
  simp only[Z6.l0]
  rw[if_neg (by omega)];rfl
 | succ d ih=>
  intro i k hi hk
  obtain⟨m,rfl⟩:∃m,k=m+1:=⟨k - 1,by omega⟩
  simp only[Z6.l0]
  rw[if_pos (by omega),Zch.f,if_pos (by omega),Zi,Zdn,ZL (n:=ts.length) (by omega) (by omega),ih (i+1) m (by omega) (by omega)]
  cases tieB ns ts i <;> rfl
theorem Zdv (ns:List ZI) (ts:List PTie) (z:Int) (hf:fitN ns=true) (k:Nat) (hk:2 ^ 64≤k):Z6.f k ns ts z=some (Zaq ns ts z):=by
 obtain⟨m,rfl⟩:∃m,k=m+1:=⟨k - 1,by omega⟩
 unfold Z6.f Zbd.f Zaq ZaT
 rw[if_pos hf,Zi,nodes_same]
 simp only[Z6.j0,l01In_f,Zi,if_true]
 cases h1:Z1 ns with
 | false=>rfl
 | true=>
  cases h2:ns.all (Zcu ns) with
  | false=>simp
  | true=>
   rw[Bool.and_true,if_pos rfl]
   by_cases h3:(ts.length:Int) > 14
   ·rw[if_pos h3,Zf (show ¬ts.length≤14 by omega)];simp
   ·rw[if_neg h3,Ze (show ts.length≤14 by omega)]
    have hl:=Zgk ns ts z (by omega) ts.length 0 m (by omega) (by omega)
    rw[show((0:Nat):Int)=0 from rfl] at hl
    rw[hl,ties_from _ _ (by omega)]
    by_cases h4:z<1
    ·rw[show inB z 1 10=false by unfold inB;rw[Zf (show ¬(1:Int)≤z by omega)];rfl,Ze h4];simp
    ·by_cases h5:10<z
     ·rw[show inB z 1 10=false by unfold inB;rw[Zf (show ¬z≤(10:Int) by omega)];simp,Ze h5];simp
     ·rw[show inB z 1 10=true by unfold inB;rw[Ze (show(1:Int)≤z by omega),Ze (show z≤(10:Int) by omega)];rfl,Zf h4,Zf h5];simp
theorem Zc0 {ns:List ZI} {ts:List PTie} (h:Zba ns ts):fitN ns=true:=by
 unfold fitN
 rw[List.all_eq_true]
 intro n hn
 have:=h.2.2 n hn
 simp;omega
theorem ZcW {ns:List ZI} {ts:List PTie} {z:Int} (hf:fitN ns=true):ZaR.f ns ts z=some (Zaq ns ts z):=by
 unfold ZaR.f
 rw[if_pos hf]
end Go.Proofs.YtoeimopgoaffcaaGreatDoor.Pr
namespace Go.Proofs.YtoeimopgoaffcaaGreatDoor.Pr
open Go.RowKit Go.Proofs.YtoeimopgoaffcaaGreatDoorW.PrintWords Go.Proofs.YtoeimopgoaffcaaGreatDoorW.PrintLast Go.Proofs.YtoeimopgoaffcaaGreatDoorW.PrintMore
attribute [local go_sem] ZU ZS ZW ZV ZO ZN ZT ZR
set_option linter.unusedVariables false
set_option linter.unusedSimpArgs false
def Z8.l0:Nat→List Int→List (S82)→Int→Int→Option (List Int)
 | 0,_,_,_,_=>none
 | k+1,x3,x7,x8,x9=>if x9<x8 then(if 0≤x9 then(if x9<(x7.length:Int) then(if (ZD x7 x9).f4=true then(if x3.length<17592186044416 then(Z8.l0 k (x3 ++ [x9]) x7 x8 (wrap64 (x9+1))) else(none)) else(Z8.l0 k x3 x7 x8 (wrap64 (x9+1)))) else(none)) else(none)) else(some x3)
def Z8.f (k:Nat) (l0_0:List (S39)) (l0_1:List (S82)) (a0_2:Int):Option (List Int):=Z8.l0 k ([]:List Int) l0_1 (l0_1.length:Int) 0
set_option maxHeartbeats 8000000 in
set_option maxRecDepth 100000 in
theorem Z8.calls (k:Nat) (A0_0:Option Addr) (c0_0:Nat) (l0_0:List (S39)) (A0_1:Option Addr) (c0_1:Nat) (l0_1:List (S82)) (a0_2:Int) (r:List Int) (w:World) (hr0_0:Kd.C k39 w A0_0 l0_0.length l0_0) (hc0_0:l0_0.length≤c0_0) (hr0_1:Kd.C k82 w A0_1 l0_1.length l0_1) (hc0_1:l0_1.length≤c0_1) (h:Z8.f k l0_0 l0_1 a0_2=some r) :
  Calls Tryz.prog 90 #[.agg #[.slice A0_0 l0_0.length c0_0,.slice A0_1 l0_1.length c0_1,.int .i64 a0_2]] w fun e w'=>∃v0_:Value,e=.returned (v0_)∧Kd.R (Kd.int .i64) 3 w' w.heap.size (fun _=>True) v0_ r∧Below w.heap.size w w':=by
 have hu25:=Tryz.underlying25
 have hu82:=Tryz.underlying82
 have HR0_0:=Za hr0_0;have HC0_0:=Za hc0_0;clear hr0_0 hc0_0;have HR0_1:=Za hr0_1;have HC0_1:=Za hc0_1;clear hr0_1 hc0_1
 have HB:=Za (Below.refl w.heap.size w)
 have H:(Z8.l0 k ([]:List Int) l0_1 (l0_1.length:Int) 0)=some r:=h
 clear h
 have H':=Za H
 clear H
 go_enter Tryz.func90,Tryz.ntmps90
 go_wp2_with (first|((with_reducible refine ZF (N:=1) rfl ?_);refine ZG ?hg (N:=1) ?hd (cs:=#[.slice A0_0 l0_0.length c0_0,.slice A0_1 l0_1.length c0_1,.int .i64 a0_2]) (t:=25) ?hr ?_;(case hd=>rfl);(case hg=>rfl);(case hr=>first|(go_simp;done)|(go_simp;rfl));intro gb90001 hg w2 hbox hb;have BK90001:=Za (hbox);have GW90001:=Za ((by rw[hg];exact(Zy (by repeat(first|(with_reducible first|exact HB.out|apply Zn|apply Zm|apply Zo)|exact HB.out))):w.heap.size≤gb90001));have GE90001:=Za ((by rw[hg];exact(Zy (by repeat(first|(with_reducible first|exact HB.out|apply Zn|apply Zm|apply Zo)|exact HB.out))):w.heap.size≤gb90001));replace HB:=Za (Zw (by repeat(first|(with_reducible first|exact HB.out|apply Zn|apply Zm|apply Zo)|exact HB.out)) hb);clear hb hbox hg;have hcz3_0:w2.cell? ⟨gb90001,0,none⟩=some (.slice A0_0 l0_0.length c0_0):=(Zp BK90001.out 0).trans rfl;have hcz3_1:w2.cell? ⟨gb90001,1,none⟩=some (.slice A0_1 l0_1.length c0_1):=(Zp BK90001.out 1).trans rfl;have hcz3_2:w2.cell? ⟨gb90001,2,none⟩=some (.int .i64 a0_2):=(Zp BK90001.out 2).trans rfl;have hfz3_0:=Zr BK90001.out 0;have hfz3_1:=Zr BK90001.out 1;have hfz3_2:=Zr BK90001.out 2))
 go_loopg [3,9] k (fun kq v3 v9 w'=>∃(x3_1:List Int) (x9_1:Int),v9=.int .i64 x9_1∧Aside0 (Z8.l0 kq x3_1 l0_1 (l0_1.length:Int) x9_1=some r)∧Aside0 (kq≤k)∧Aside0 (Kd.R (Kd.int .i64) 3 w' w.heap.size (fun _=>True) v3 x3_1)∧Aside0 (w'.heap[gb90001]? = some (.cells #[(.slice A0_0 l0_0.length c0_0),(.slice A0_1 l0_1.length c0_1),.int .i64 a0_2] 25 (0,0)))∧Aside0 (Below w.heap.size w w'))
 case atStart=>exact⟨(([]:List Int)),(0),(by first|rfl|(simp;done)|(simp[*];done)),H',⟨Nat.le_refl _⟩,⟨by first|exact Kd.R_nil _ _ _ _ _|exact Kd.N_nil _ _ _ _ _|exact Kd.V_nil _ _ _ _ _|exact Kd.Q_nil _ _ _ _ _|exact Kd.S_nil _ _ _ _ _⟩,⟨by(with_reducible repeat(first|refine Zt ?_ _|refine Zv ?_|refine Zs ?_ _));exact BK90001.out⟩,⟨by repeat(first|(with_reducible first|exact HB.out|apply Zn|apply Zm|apply Zo|refine Zq ?_ GE90001.out)|exact HB.out)⟩⟩
 case round=>
  clear H'
  try clear p2
  try clear hcz3_0
  try clear hcz3_1
  try clear hcz3_2
  try clear hfz3_0
  try clear hfz3_1
  try clear hfz3_2
  obtain⟨x3_1,x9_1,rfl,HA,HK1,HO_3,BK90001,HB⟩:=hrel
  cases gk with
  | zero=>exact absurd HA.out (by simp[Z8.l0])
  | succ k1=>
   have H:=HA.out
   clear HA
   simp only[Z8.l0] at H
   by_cases c4:x9_1<(l0_1.length:Int)
   ·rw[if_pos c4] at H
    have c4b0:decide (x9_1<(l0_1.length:Int))=true:=Ze c4
    clear c4
    by_cases c5:0≤x9_1
    ·rw[if_pos c5] at H
     have c5b0:decide (0≤x9_1)=true:=Ze c5
     clear c5
     by_cases c6:x9_1<(l0_1.length:Int)
     ·rw[if_pos c6] at H
      have c6b0:decide (x9_1<(l0_1.length:Int))=true:=Ze c6
      clear c6
      obtain⟨bq7,hbq7⟩:∃b_:Bool,b_=((ZD l0_1 x9_1).f4):=⟨_,rfl⟩
      replace H:(if bq7=true then(if x3_1.length<17592186044416 then(Z8.l0 k1 (x3_1 ++ [x9_1]) l0_1 (l0_1.length:Int) (wrap64 (x9_1+1))) else(none)) else(Z8.l0 k1 x3_1 l0_1 (l0_1.length:Int) (wrap64 (x9_1+1))))=some r:=by rw[← hbq7] at H;exact H
      have Nbq7:=Za hbq7;clear hbq7
      by_cases c8:bq7=true
      ·subst c8
       rw[if_pos rfl] at H
       by_cases c9:x3_1.length<17592186044416
       ·rw[if_pos c9] at H
        have LMc9:=Za c9;clear c9
        obtain⟨y90004,hy90004⟩:∃y_:List Int,y_=(x3_1 ++ [x9_1]):=⟨_,rfl⟩
        replace H:(Z8.l0 k1 y90004 l0_1 (l0_1.length:Int) (wrap64 (x9_1+1)))=some r:=by first|(rw[hy90004];with_reducible exact H)|(have H2_:=(Zi _ _).symm.trans H;rw[hy90004];with_reducible exact H2_)|(have H2_:=(Zi _ _).symm.trans H;with_reducible exact H2_)|with_reducible exact H|(rw[hy90004];exact H)|exact H
        have Ny90004:=Za hy90004;clear hy90004
        have H':=Za H
        clear H
        have p90002:0≤(x9_1:Int):=Zd (by first|(with_reducible assumption)|assumption)
        have q90002:x9_1<(l0_1.length:Int):=Zd (by first|(with_reducible assumption)|assumption)
        obtain⟨ad90002,e90002,hx90002_0,hx90002_1,hx90002_2,hx90002_3,hx90002_4⟩:=Zbp HR0_1.out x9_1 p90002 q90002
        (try rw[← Nbq7.out] at hx90002_4)
        cases e90002
        replace hx90002_0:=(HB.out.cell (Zc w _ hx90002_0)).trans hx90002_0
        replace hx90002_1:=(HB.out.cell (Zc w _ hx90002_1)).trans hx90002_1
        replace hx90002_2:=(HB.out.cell (Zc w _ hx90002_2)).trans hx90002_2
        replace hx90002_3:=(HB.out.cell (Zc w _ hx90002_3)).trans hx90002_3
        replace hx90002_4:=(HB.out.cell (Zc w _ hx90002_4)).trans hx90002_4
        replace p90002:=eq_true p90002
        replace q90002:=eq_true q90002
        go_wp2_with (first|((with_reducible refine ZF (N:=5) rfl ?_);refine ZG ?hg (N:=5) ?hd (cs:=#[.int .i64 0,.int .i64 0,.int .i64 0,.int .i64 0,.bool false]) (t:=82) ?hr ?_;(case hd=>rfl);(case hg=>rfl);(case hr=>first|(go_simp;done)|(go_simp;rfl));intro gb90003 hg w10 hbox hb;have BK90003:=Za (hbox);have GW90003:=Za ((by rw[hg];exact(Zy (by repeat(first|(with_reducible first|exact HB.out|apply Zn|apply Zm|apply Zo|refine Zq ?_ GE90001.out)|exact HB.out))):w.heap.size≤gb90003));have GE90003:=Za ((by rw[hg];exact(Zy (by repeat(first|(with_reducible first|exact HB.out|apply Zn|apply Zm|apply Zo|refine Zq ?_ GE90001.out)|exact HB.out))):w.heap.size≤gb90003));have NB90001_90003:=Za ((by rw[hg];exact Nat.ne_of_lt (ZM (g:=gb90001) (o:=.cells #[.slice A0_0 l0_0.length c0_0,.slice (some ad90002) l0_1.length c0_1,.int .i64 a0_2] 25 (0,0)) (by(with_reducible repeat(first|refine Zt ?_ _|refine Zv ?_|refine Zs ?_ _));exact BK90001.out)):gb90001≠gb90003));have NB90003_90001:=Za ((by rw[hg];exact Nat.ne_of_gt (ZM (g:=gb90001) (o:=.cells #[.slice A0_0 l0_0.length c0_0,.slice (some ad90002) l0_1.length c0_1,.int .i64 a0_2] 25 (0,0)) (by(with_reducible repeat(first|refine Zt ?_ _|refine Zv ?_|refine Zs ?_ _));exact BK90001.out)):gb90003≠gb90001));replace HO_3:=Za (Kd.R_below (by(with_reducible repeat(first|apply Kd.R_alloc|apply Kd.R_drewN|apply Kd.R_drew));exact HO_3.out) hb);replace BK90001:=Za (ZA (g:=gb90001) (o:=.cells #[.slice A0_0 l0_0.length c0_0,.slice (some ad90002) l0_1.length c0_1,.int .i64 a0_2] 25 (0,0)) (by(with_reducible repeat(first|refine Zt ?_ _|refine Zv ?_|refine Zs ?_ _));exact BK90001.out) hb);replace HB:=Za (Zw (by repeat(first|(with_reducible first|exact HB.out|apply Zn|apply Zm|apply Zo|refine Zq ?_ GE90001.out)|exact HB.out)) hb);clear hb hbox hg;have hnb11:=NB90003_90001.out;have hnc11:=NB90001_90003.out;have hcz12_0:w10.cell? ⟨gb90003,0,none⟩=some (.int .i64 0):=(Zp BK90003.out 0).trans rfl;have hcz12_1:w10.cell? ⟨gb90003,1,none⟩=some (.int .i64 0):=(Zp BK90003.out 1).trans rfl;have hcz12_2:w10.cell? ⟨gb90003,2,none⟩=some (.int .i64 0):=(Zp BK90003.out 2).trans rfl;have hcz12_3:w10.cell? ⟨gb90003,3,none⟩=some (.int .i64 0):=(Zp BK90003.out 3).trans rfl;have hcz12_4:w10.cell? ⟨gb90003,4,none⟩=some (.bool false):=(Zp BK90003.out 4).trans rfl;have hfz12_0:=Zr BK90003.out 0;have hfz12_1:=Zr BK90003.out 1;have hfz12_2:=Zr BK90003.out 2;have hfz12_3:=Zr BK90003.out 3;have hfz12_4:=Zr BK90003.out 4)|((with_reducible refine Z4 (b:=.append) (xs:=#[.tmp 16,.tmp 18]) rfl ?_);at_builtin;refine Kd.R_append (Kd.int .i64) (w0:=w) w.heap.size rfl (.tmp 16) (.tmp 18) 37 3 (.int .i64 0) 8 rfl Tryz.underlying37 Zbi rfl (by decide) (by omega) u3 x3_1 x9_1 [.int .i64 x9_1] (fun _=>True) (fun _=>False) rfl (by first|(go_simp;done)|(go_simp;rfl)) ?aP (fun _ hk=>hk.elim) ?aF ?aO ?aB ?aS ?aL ?_;(case aP=>exact rfl);(case aB=>exact(by repeat(first|(with_reducible first|exact HB.out|apply Zn|apply Zm|apply Zo|refine Zq ?_ GE90001.out|refine Zq ?_ GE90003.out)|exact HB.out)));(case aF=>exact(fun _ _=>trivial));(case aO=>exact(by(with_reducible repeat(first|apply Kd.R_alloc|apply Kd.R_drewN|apply Kd.R_drew));exact Kd.R_mono (Kd.R_far (p:=⟨gb90003,4,none⟩) (Kd.R_far (p:=⟨gb90003,3,none⟩) (Kd.R_far (p:=⟨gb90003,2,none⟩) (Kd.R_far (p:=⟨gb90003,1,none⟩) (Kd.R_far (p:=⟨gb90003,0,none⟩) (Kd.R_types HO_3.out BK90003.out (by decide)) (fun _ hk=>hk.2) (.int .i64 ((ZD l0_1 x9_1).f0))) (fun _ hk=>hk.2) (.int .i64 ((ZD l0_1 x9_1).f1))) (fun _ hk=>hk.2) (.int .i64 ((ZD l0_1 x9_1).f2))) (fun _ hk=>hk.2) (.int .i64 ((ZD l0_1 x9_1).f3))) (fun _ hk=>hk.2) (.bool true)) (fun _ hk=>trivial)));(case aS=>exact(Zy (by repeat(first|(with_reducible first|exact HB.out|apply Zn|apply Zm|apply Zo|refine Zq ?_ GE90001.out|refine Zq ?_ GE90003.out)|exact HB.out))));(case aL=>have:=LMc9.out;omega);intro v90005 w13 ho hb hg hat;rw[← Ny90004.out] at ho;have HO90006:=Za (ho);replace BK90001:=Za (Zas (g:=gb90001) (o:=.cells #[.slice A0_0 l0_0.length c0_0,.slice (some ad90002) l0_1.length c0_1,.int .i64 a0_2] 25 (0,0)) (by(with_reducible repeat(first|refine Zt ?_ _|refine Zv ?_|refine Zs ?_ _));refine ZQ ?_ NB90001_90003.out _;(with_reducible repeat(first|refine Zt ?_ _|refine Zv ?_|refine Zs ?_ _));refine ZQ ?_ NB90001_90003.out _;(with_reducible repeat(first|refine Zt ?_ _|refine Zv ?_|refine Zs ?_ _));refine ZQ ?_ NB90001_90003.out _;(with_reducible repeat(first|refine Zt ?_ _|refine Zv ?_|refine Zs ?_ _));refine ZQ ?_ NB90001_90003.out _;(with_reducible repeat(first|refine Zt ?_ _|refine Zv ?_|refine Zs ?_ _));refine ZQ ?_ NB90001_90003.out _;(with_reducible repeat(first|refine Zt ?_ _|refine Zv ?_|refine Zs ?_ _));exact BK90001.out) hg (Kd.R_ne HO_3.out BK90001.out (by decide)));replace BK90003:=Za (Zas (g:=gb90003) (o:=.cells #[.int .i64 ((ZD l0_1 x9_1).f0),.int .i64 ((ZD l0_1 x9_1).f1),.int .i64 ((ZD l0_1 x9_1).f2),.int .i64 ((ZD l0_1 x9_1).f3),.bool true] 82 (0,0)) (by(with_reducible repeat(first|refine Zt ?_ _|refine Zv ?_|refine Zs ?_ _));refine ZZ (cs:=#[.int .i64 ((ZD l0_1 x9_1).f0),.int .i64 ((ZD l0_1 x9_1).f1),.int .i64 ((ZD l0_1 x9_1).f2),.int .i64 ((ZD l0_1 x9_1).f3),.bool false]) ?_ 4 _ rfl;(with_reducible repeat(first|refine Zt ?_ _|refine Zv ?_|refine Zs ?_ _));refine ZZ (cs:=#[.int .i64 ((ZD l0_1 x9_1).f0),.int .i64 ((ZD l0_1 x9_1).f1),.int .i64 ((ZD l0_1 x9_1).f2),.int .i64 0,.bool false]) ?_ 3 _ rfl;(with_reducible repeat(first|refine Zt ?_ _|refine Zv ?_|refine Zs ?_ _));refine ZZ (cs:=#[.int .i64 ((ZD l0_1 x9_1).f0),.int .i64 ((ZD l0_1 x9_1).f1),.int .i64 0,.int .i64 0,.bool false]) ?_ 2 _ rfl;(with_reducible repeat(first|refine Zt ?_ _|refine Zv ?_|refine Zs ?_ _));refine ZZ (cs:=#[.int .i64 ((ZD l0_1 x9_1).f0),.int .i64 0,.int .i64 0,.int .i64 0,.bool false]) ?_ 1 _ rfl;(with_reducible repeat(first|refine Zt ?_ _|refine Zv ?_|refine Zs ?_ _));refine ZZ (cs:=#[.int .i64 0,.int .i64 0,.int .i64 0,.int .i64 0,.bool false]) ?_ 0 _ rfl;(with_reducible repeat(first|refine Zt ?_ _|refine Zv ?_|refine Zs ?_ _));exact BK90003.out) hg (Kd.R_ne HO_3.out BK90003.out (by decide)));replace HB:=Za (hb);clear HO_3;clear ho hb hg hat))
        go_roundg k1
        case measure=>have:=HK1.out;omega
        case rel=>exact⟨(y90004),(wrap64 (x9_1+1)),(by first|rfl|(simp;done)|(simp[*];done)),H',⟨by have:=HK1.out;omega⟩,⟨by(with_reducible repeat(first|apply Kd.R_alloc|apply Kd.R_drewN|apply Kd.R_drew));exact HO90006.out⟩,⟨by(with_reducible repeat(first|refine Zt ?_ _|refine Zv ?_|refine Zs ?_ _));exact BK90001.out⟩,⟨by repeat(first|(with_reducible first|exact HB.out|apply Zn|apply Zm|apply Zo|refine Zq ?_ GE90001.out|refine Zq ?_ GE90003.out)|exact HB.out)⟩⟩
       ·rw[if_neg c9] at H
        exact absurd H (by simp)
      ·replace c8:=Bool.eq_false_iff.mpr c8
       subst c8
       have H1:(Z8.l0 k1 x3_1 l0_1 (l0_1.length:Int) (wrap64 (x9_1+1)))=some r:=by rw[if_neg (show ¬(false=true) by decide)] at H;exact H
       clear H
       have H:=H1
       clear H1
       have H':=Za H
       clear H
       have p90002:0≤(x9_1:Int):=Zd (by first|(with_reducible assumption)|assumption)
       have q90002:x9_1<(l0_1.length:Int):=Zd (by first|(with_reducible assumption)|assumption)
       obtain⟨ad90002,e90002,hx90002_0,hx90002_1,hx90002_2,hx90002_3,hx90002_4⟩:=Zbp HR0_1.out x9_1 p90002 q90002
       (try rw[← Nbq7.out] at hx90002_4)
       cases e90002
       replace hx90002_0:=(HB.out.cell (Zc w _ hx90002_0)).trans hx90002_0
       replace hx90002_1:=(HB.out.cell (Zc w _ hx90002_1)).trans hx90002_1
       replace hx90002_2:=(HB.out.cell (Zc w _ hx90002_2)).trans hx90002_2
       replace hx90002_3:=(HB.out.cell (Zc w _ hx90002_3)).trans hx90002_3
       replace hx90002_4:=(HB.out.cell (Zc w _ hx90002_4)).trans hx90002_4
       replace p90002:=eq_true p90002
       replace q90002:=eq_true q90002
       go_wp2_with (first|((with_reducible refine ZF (N:=5) rfl ?_);refine ZG ?hg (N:=5) ?hd (cs:=#[.int .i64 0,.int .i64 0,.int .i64 0,.int .i64 0,.bool false]) (t:=82) ?hr ?_;(case hd=>rfl);(case hg=>rfl);(case hr=>first|(go_simp;done)|(go_simp;rfl));intro gb90003 hg w14 hbox hb;have BK90003:=Za (hbox);have GW90003:=Za ((by rw[hg];exact(Zy (by repeat(first|(with_reducible first|exact HB.out|apply Zn|apply Zm|apply Zo|refine Zq ?_ GE90001.out)|exact HB.out))):w.heap.size≤gb90003));have GE90003:=Za ((by rw[hg];exact(Zy (by repeat(first|(with_reducible first|exact HB.out|apply Zn|apply Zm|apply Zo|refine Zq ?_ GE90001.out)|exact HB.out))):w.heap.size≤gb90003));have NB90001_90003:=Za ((by rw[hg];exact Nat.ne_of_lt (ZM (g:=gb90001) (o:=.cells #[.slice A0_0 l0_0.length c0_0,.slice (some ad90002) l0_1.length c0_1,.int .i64 a0_2] 25 (0,0)) (by(with_reducible repeat(first|refine Zt ?_ _|refine Zv ?_|refine Zs ?_ _));exact BK90001.out)):gb90001≠gb90003));have NB90003_90001:=Za ((by rw[hg];exact Nat.ne_of_gt (ZM (g:=gb90001) (o:=.cells #[.slice A0_0 l0_0.length c0_0,.slice (some ad90002) l0_1.length c0_1,.int .i64 a0_2] 25 (0,0)) (by(with_reducible repeat(first|refine Zt ?_ _|refine Zv ?_|refine Zs ?_ _));exact BK90001.out)):gb90003≠gb90001));replace HO_3:=Za (Kd.R_below (by(with_reducible repeat(first|apply Kd.R_alloc|apply Kd.R_drewN|apply Kd.R_drew));exact HO_3.out) hb);replace BK90001:=Za (ZA (g:=gb90001) (o:=.cells #[.slice A0_0 l0_0.length c0_0,.slice (some ad90002) l0_1.length c0_1,.int .i64 a0_2] 25 (0,0)) (by(with_reducible repeat(first|refine Zt ?_ _|refine Zv ?_|refine Zs ?_ _));exact BK90001.out) hb);replace HB:=Za (Zw (by repeat(first|(with_reducible first|exact HB.out|apply Zn|apply Zm|apply Zo|refine Zq ?_ GE90001.out)|exact HB.out)) hb);clear hb hbox hg;have hnb15:=NB90003_90001.out;have hnc15:=NB90001_90003.out;have hcz16_0:w14.cell? ⟨gb90003,0,none⟩=some (.int .i64 0):=(Zp BK90003.out 0).trans rfl;have hcz16_1:w14.cell? ⟨gb90003,1,none⟩=some (.int .i64 0):=(Zp BK90003.out 1).trans rfl;have hcz16_2:w14.cell? ⟨gb90003,2,none⟩=some (.int .i64 0):=(Zp BK90003.out 2).trans rfl;have hcz16_3:w14.cell? ⟨gb90003,3,none⟩=some (.int .i64 0):=(Zp BK90003.out 3).trans rfl;have hcz16_4:w14.cell? ⟨gb90003,4,none⟩=some (.bool false):=(Zp BK90003.out 4).trans rfl;have hfz16_0:=Zr BK90003.out 0;have hfz16_1:=Zr BK90003.out 1;have hfz16_2:=Zr BK90003.out 2;have hfz16_3:=Zr BK90003.out 3;have hfz16_4:=Zr BK90003.out 4))
       go_roundg k1
       case measure=>have:=HK1.out;omega
       case rel=>exact⟨(x3_1),(wrap64 (x9_1+1)),(by first|rfl|(simp;done)|(simp[*];done)),H',⟨by have:=HK1.out;omega⟩,⟨by(with_reducible repeat(first|apply Kd.R_alloc|apply Kd.R_drewN|apply Kd.R_drew));exact Kd.R_mono (Kd.R_far (p:=⟨gb90003,4,none⟩) (Kd.R_far (p:=⟨gb90003,3,none⟩) (Kd.R_far (p:=⟨gb90003,2,none⟩) (Kd.R_far (p:=⟨gb90003,1,none⟩) (Kd.R_far (p:=⟨gb90003,0,none⟩) (Kd.R_types HO_3.out BK90003.out (by decide)) (fun _ hk=>hk.2) (.int .i64 ((ZD l0_1 x9_1).f0))) (fun _ hk=>hk.2) (.int .i64 ((ZD l0_1 x9_1).f1))) (fun _ hk=>hk.2) (.int .i64 ((ZD l0_1 x9_1).f2))) (fun _ hk=>hk.2) (.int .i64 ((ZD l0_1 x9_1).f3))) (fun _ hk=>hk.2) (.bool false)) (fun _ hk=>trivial)⟩,⟨by(with_reducible repeat(first|refine Zt ?_ _|refine Zv ?_|refine Zs ?_ _));refine ZQ ?_ NB90001_90003.out _;(with_reducible repeat(first|refine Zt ?_ _|refine Zv ?_|refine Zs ?_ _));refine ZQ ?_ NB90001_90003.out _;(with_reducible repeat(first|refine Zt ?_ _|refine Zv ?_|refine Zs ?_ _));refine ZQ ?_ NB90001_90003.out _;(with_reducible repeat(first|refine Zt ?_ _|refine Zv ?_|refine Zs ?_ _));refine ZQ ?_ NB90001_90003.out _;(with_reducible repeat(first|refine Zt ?_ _|refine Zv ?_|refine Zs ?_ _));refine ZQ ?_ NB90001_90003.out _;(with_reducible repeat(first|refine Zt ?_ _|refine Zv ?_|refine Zs ?_ _));exact BK90001.out⟩,⟨by repeat(first|(with_reducible first|exact HB.out|apply Zn|apply Zm|apply Zo|refine Zq ?_ GE90001.out|refine Zq ?_ GE90003.out)|exact HB.out)⟩⟩
     ·rw[if_neg c6] at H
      exact absurd H (by simp)
    ·rw[if_neg c5] at H
     exact absurd H (by simp)
   ·rw[if_neg c4] at H
    have c4b0:decide (x9_1<(l0_1.length:Int))=false:=Zf c4
    clear c4
    obtain rfl:=Zg H
    go_wp2
    go_ret
    exact⟨_,by first|rfl|(simp[ZC,ZB] <;> rfl)|(simp[*,ZC,ZB] <;> rfl),by(with_reducible repeat(first|apply Kd.R_alloc|apply Kd.R_drewN|apply Kd.R_drew));exact HO_3.out,by repeat(first|(with_reducible first|exact HB.out|apply Zn|apply Zm|apply Zo|refine Zq ?_ GE90001.out)|exact HB.out)⟩
end Go.Proofs.YtoeimopgoaffcaaGreatDoor.Pr
