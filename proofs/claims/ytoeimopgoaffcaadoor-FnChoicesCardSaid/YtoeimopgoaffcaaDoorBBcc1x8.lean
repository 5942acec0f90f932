/- By a program of this session. -/
import Derived.Test.YtoeimopgoaffcaaDoorBBcc1x7
set_option maxHeartbeats 8000000
set_option maxRecDepth 100000
namespace Go.Proofs.YtoeimopgoaffcaaDoor.Pr
open RowKit YtoeimopgoaffcaaDoorW.PrintWords YtoeimopgoaffcaaDoorW.PrintLast YtoeimopgoaffcaaDoorW.PrintMore
attribute [local go_sem] Zat Zar ZaG ZaF Zal Zak Zas Zaq
set_option linter.unusedVariables false
set_option linter.unusedSimpArgs false
open Ni
def ZbG (ns:List S54) (n:S54):Bool:=!(n.f1.any fun x=>!ZbL ns n.f1 x)
def Z6 (ns:List S54) (ts:List S81) (z:Int):Bool:=ZW ns && Zan ns ts && !(decide (z<1)) && !(decide (10<z)) && ns.all (ZbG ns)
def ZaR.f (l0_0:List (S54)) (l0_1:List (S81)) (a0_2:Int):Option Bool:=if fitN l0_0=true then some (Z6 l0_0 l0_1 a0_2) else none
theorem Zfc.clo (k:Nat) (hk:2 ^ 64≤k) (B D:Nat) (A0_0:Option Addr) (c0_0:Nat) (l0_0:List S54) (A0_1:Option Addr) (c0_1:Nat) (l0_1:List S81) (a0_2:Int) (An:Option Addr) (cn:Nat) (lb:List Int) (x:Int) (W:World)
  (h0:W.cell? ⟨B,0,none⟩=some (.slice A0_0 l0_0.length c0_0)) (h1:W.cell? ⟨B,1,none⟩=some (.slice A0_1 l0_1.length c0_1)) (h2:W.cell? ⟨B,2,none⟩=some (.int .i64 a0_2)) (h3:W.cell? ⟨D,1,none⟩=some (.slice An lb.length cn))
  (hr0_0:Kd.C k54 W A0_0 l0_0.length l0_0) (hc0_0:l0_0.length≤c0_0) (hr0_1:Kd.C k81 W A0_1 l0_1.length l0_1) (hc0_1:l0_1.length≤c0_1) (hrn:Kd.C (Kd.int .i64) W An lb.length lb) (hcn:lb.length≤cn)
  (hf:Zbl.f k l0_0 l0_1 a0_2 lb x=some (ZbL l0_0 lb x)) :
  Calls Tryd.prog 75 #[.int .i64 x,.pointer (some ⟨B,0,none⟩),.pointer (some ⟨D,0,none⟩)] W fun e w'=>e=.returned (.bool (!ZbL l0_0 lb x))∧Below W.heap.size W w':=by
 have hltB:B<W.heap.size:=Zc W _ h0
 have hltD:D<W.heap.size:=Zc W _ h3
 have HC:=Za (Zbl.calls k A0_0 c0_0 l0_0 A0_1 c0_1 l0_1 a0_2 An cn lb x _ W hr0_0 hc0_0 hr0_1 hc0_1 hrn hcn hf)
 have hu:=Tryd.underlying39
 have hu2:=Tryd.underlying54
 clear hr0_0 hr0_1 hrn hf hc0_0 hc0_1 hcn
 cases b:ZbL l0_0 lb x
 all_goals
  rw[b] at HC
  clear b
  go_enter Tryd.func75,Tryd.ntmps75
  go_wp2_with (go_at_call 76;refine HC.out.mono ?_;rintro e w' ⟨rfl,hb⟩)
  go_ret
  exact⟨rfl,hb⟩
theorem ZaR.calls (A0_0:Option Addr) (c0_0:Nat) (l0_0:List (S54)) (A0_1:Option Addr) (c0_1:Nat) (l0_1:List (S81)) (a0_2:Int) (r:Bool) (w:World) (hr0_0:Kd.C k54 w A0_0 l0_0.length l0_0) (hc0_0:l0_0.length≤c0_0) (hr0_1:Kd.C k81 w A0_1 l0_1.length l0_1) (hc0_1:l0_1.length≤c0_1) (h:ZaR.f l0_0 l0_1 a0_2=some r) :
  Calls Tryd.prog 47 #[.agg #[.slice A0_0 l0_0.length c0_0,.slice A0_1 l0_1.length c0_1,.int .i64 a0_2]] w fun e w'=>e=.returned (.bool r)∧Below w.heap.size w w':=by
 by_cases hfit:fitN l0_0=true
 case neg=>rw[ZaR.f,if_neg hfit] at h;exact absurd h (by simp)
 rw[ZaR.f,if_pos hfit] at h
 obtain rfl:=Zg h
 have hfi:=fitN_iff hfit
 have hL:l0_0.length≤9223372036854775807:=hr0_0.2.1
 have HRn:=Za hr0_0;have HRt:=Za hr0_1;have HCn:=Za hc0_0;have HCt:=Za hc0_1;have HFI:=Za hfi
 have B1:=Za (Zn (Below.refl w.heap.size w) (.cells #[.slice A0_0 l0_0.length c0_0,.slice A0_1 l0_1.length c0_1,.int .i64 a0_2] 39))
 have HK:=Za fun (W:World) (hA:Below (w.alloc (.cells #[.slice A0_0 l0_0.length c0_0,.slice A0_1 l0_1.length c0_1,.int .i64 a0_2] 39)).heap.size (w.alloc (.cells #[.slice A0_0 l0_0.length c0_0,.slice A0_1 l0_1.length c0_1,.int .i64 a0_2] 39)) W)=>And.intro (B1.out.trans (hA.mono B1.out.size)) (And.intro (ZE hA (show _=some (.slice A0_0 l0_0.length c0_0) from showCell0 w _ _ _ _)) (And.intro (ZE hA (showCell1 w _ _ _ _)) (And.intro (ZE hA (showCell2 w _ _ _ _)) (show w.heap.size<W.heap.size from Nat.lt_of_lt_of_le (by simp) hA.size))))
 have HN:=Za fun (W:World) (hb:Below w.heap.size w W)=>ZbA.calls A0_0 c0_0 l0_0 A0_1 c0_1 l0_1 a0_2 _ W (Zb hr0_0 hb) hc0_0 (Zb hr0_1 hb) hc0_1 (areNodes_f l0_0 l0_1 a0_2 hfi)
 have HT:=Za fun (W:World) (hb:Below w.heap.size w W)=>ZcU.calls A0_0 c0_0 l0_0 A0_1 c0_1 l0_1 a0_2 _ W (Zb hr0_0 hb) hc0_0 (Zb hr0_1 hb) hc0_1 rfl
 have hlb:ZW l0_0=true→∀n∈l0_0,∀x∈n.f1,ZbC x=true:=Zfj
 clear hr0_0 hr0_1 hc0_0 hc0_1 h hfi hfit
 have hu:=Tryd.underlying39
 have hu2:=Tryd.underlying54
 cases b1:ZW l0_0 with
 | false=>
  rw[b1] at HN
  have HF:=Za (show Z6 l0_0 l0_1 a0_2=false by simp[Z6,b1])
  clear hlb b1
  go_enter Tryd.func47,Tryd.ntmps47
  go_wp2_with (go_at_call 73;refine(HN.out _ B1.out).mono ?_;rintro e w1 ⟨rfl,hb⟩;obtain⟨hB,hc0,hc1,hc2,hS⟩:=HK.out _ hb)
  go_ret
  exact⟨by rw[HF.out];rfl,hB⟩
 | true=>
 rw[b1] at HN
 have HLB:=Za (hlb b1)
 clear hlb
 cases b2:Zan l0_0 l0_1 with
 | false=>
  rw[b2] at HT
  have HF:=Za (show Z6 l0_0 l0_1 a0_2=false by simp[Z6,b2])
  clear b1 b2
  go_enter Tryd.func47,Tryd.ntmps47
  go_wp2_with (first|(go_at_call 73;refine(HN.out _ B1.out).mono ?_;rintro e w1 ⟨rfl,hA⟩;obtain⟨hB,hc0,hc1,hc2,hS⟩:=HK.out _ hA)|(go_at_call 74;refine(HT.out _ hB).mono ?_;rintro e w2 ⟨rfl,hb⟩;replace hA:=hA.trans (hb.mono hA.size);clear hB hc0 hc1 hc2 hS;obtain⟨hB,hc0,hc1,hc2,hS⟩:=HK.out _ hA;clear hb))
  go_ret
  exact⟨by rw[HF.out];rfl,hB⟩
 | true=>
 rw[b2] at HT
 cases b3:decide (a0_2<1) with
 | true=>
  have HF:=Za (show Z6 l0_0 l0_1 a0_2=false by simp[Z6,b3])
  clear b1 b2
  go_enter Tryd.func47,Tryd.ntmps47
  go_wp2_with (first|(go_at_call 73;refine(HN.out _ B1.out).mono ?_;rintro e w1 ⟨rfl,hA⟩;obtain⟨hB,hc0,hc1,hc2,hS⟩:=HK.out _ hA)|(go_at_call 74;refine(HT.out _ hB).mono ?_;rintro e w2 ⟨rfl,hb⟩;replace hA:=hA.trans (hb.mono hA.size);clear hB hc0 hc1 hc2 hS;obtain⟨hB,hc0,hc1,hc2,hS⟩:=HK.out _ hA;clear hb))
  go_ret
  exact⟨by rw[HF.out];rfl,hB⟩
 | false=>
 cases b4:decide (10<a0_2) with
 | true=>
  have HF:=Za (show Z6 l0_0 l0_1 a0_2=false by simp[Z6,b4])
  clear b1 b2
  go_enter Tryd.func47,Tryd.ntmps47
  go_wp2_with (first|(go_at_call 73;refine(HN.out _ B1.out).mono ?_;rintro e w1 ⟨rfl,hA⟩;obtain⟨hB,hc0,hc1,hc2,hS⟩:=HK.out _ hA)|(go_at_call 74;refine(HT.out _ hB).mono ?_;rintro e w2 ⟨rfl,hb⟩;replace hA:=hA.trans (hb.mono hA.size);clear hB hc0 hc1 hc2 hS;obtain⟨hB,hc0,hc1,hc2,hS⟩:=HK.out _ hA;clear hb))
  go_ret
  exact⟨by rw[HF.out];rfl,hB⟩
 | false=>
 have HF:=Za (show Z6 l0_0 l0_1 a0_2=l0_0.all (ZbG l0_0) by simp[Z6,b1,b2,b3,b4])
 clear b1 b2
 go_enter Tryd.func47,Tryd.ntmps47
 go_wp2_with (first|(go_at_call 73;refine(HN.out _ B1.out).mono ?_;rintro e w1 ⟨rfl,hA⟩;obtain⟨hB,hc0,hc1,hc2,hS⟩:=HK.out _ hA)|(go_at_call 74;refine(HT.out _ hB).mono ?_;rintro e w2 ⟨rfl,hb⟩;replace hA:=hA.trans (hb.mono hA.size);clear hB hc0 hc1 hc2 hS;obtain⟨hB,hc0,hc1,hc2,hS⟩:=HK.out _ hA;clear hb))
 have HB0:=Za hB
 have HX0:=Za (And.intro hc0 (And.intro hc1 hc2))
 have HS0:=Za hS;clear hA hB hc0 hc1 hc2 hS
 go_loopg [4,26] l0_0.length (fun gg _ s26 wr=>∃kk:Nat,Aside0 (kk≤l0_0.length)∧Aside0 (l0_0.length - kk≤gg)∧s26=.int .i64 kk∧Aside0 (Below w.heap.size w wr)∧Aside0 (w.heap.size<wr.heap.size)∧Aside0 (wr.cell? ⟨w.heap.size,0,none⟩=some (.slice A0_0 l0_0.length c0_0)∧wr.cell? ⟨w.heap.size,1,none⟩=some (.slice A0_1 l0_1.length c0_1)∧wr.cell? ⟨w.heap.size,2,none⟩=some (.int .i64 a0_2))∧Aside0 (l0_0.all (ZbG l0_0)=(l0_0.drop kk).all (ZbG l0_0)))
 case atStart=>exact⟨0,⟨Nat.zero_le _⟩,⟨by omega⟩,rfl,HB0,HS0,HX0,⟨rfl⟩⟩
 case round=>
  obtain⟨kk,HK',HG,rfl,HBr,HS,HX,HN'⟩:=hrel
  have hsz:=HS.out
  obtain⟨hb0,hb1,hb2_⟩:=HX.out
  by_cases hlt:kk<l0_0.length
  ·have hltz:(kk:Int)<(l0_0.length:Int):=by omega
   obtain⟨ad,Am,cm,e1,hm0,hm1,hm2,lm,gm⟩:=Zbw HRn.out (kk:Int) (by omega) hltz
   cases e1
   have HDR:=Za (Za2 hlt z54)
   have hmem:=Za (ZaY hlt z54)
   rw[← Zco] at HDR hmem
   rw[Int.toNat_natCast] at hm0 hm1 hm2
   generalize Zy l0_0 (kk:Int)=y at hm0 hm1 hm2 lm gm HDR hmem
   replace hm0:=ZE HBr.out hm0
   replace hm1:=ZE HBr.out hm1
   replace hm2:=ZE HBr.out hm2
   have hlta:=Zc wr _ hm0
   have LM:=Za lm
   have GM:=Za (Zb gm HBr.out)
   clear lm gm
   have B2:=Za (Zn (Below.refl wr.heap.size wr) (.cells #[.string y.f0,.slice Am y.f1.length cm,.int .i64 y.f2] 54))
   have HC:=Za fun (W:World) (hb:Below wr.heap.size wr W) (hcell:W.cell? ⟨wr.heap.size,1,none⟩=some (.slice Am y.f1.length cm))=>Zbp.any (fun x=>!ZbL l0_0 y.f1 x) 75 #[.pointer (some ⟨w.heap.size,0,none⟩),.pointer (some ⟨wr.heap.size,0,none⟩)] (enters_of Tryd.func75 (by kernel_rfl) rfl) Am cm y.f1 W (Zb GM.out hb)
    (fun W' x hx hb'=>Zfc.clo (2 ^ 64) (Nat.le_refl _) w.heap.size wr.heap.size (some ad) c0_0 l0_0 A0_1 c0_1 l0_1 a0_2 Am cm y.f1 x W' (ZE hb' (ZE hb HX.out.1)) (ZE hb' (ZE hb HX.out.2.1)) (ZE hb' (ZE hb HX.out.2.2)) (ZE hb' hcell)
     (Zb (Zb (Zb HRn.out HBr.out) hb) hb') HCn.out (Zb (Zb (Zb HRt.out HBr.out) hb) hb') HCt.out (Zb (Zb GM.out hb) hb') LM.out
     (isWatched_f l0_0 l0_1 a0_2 y.f1 x (fun n hn=>(HFI.out n hn).2) (HFI.out y hmem.out).2 (HLB.out y hmem.out x hx) (2 ^ 64) (Nat.le_refl _)))
   cases b5:y.f1.any (fun x=>!ZbL l0_0 y.f1 x) with
   | true=>
    rw[b5] at HC
    have HF2:=Za (show Z6 l0_0 l0_1 a0_2=false by
     rw[HF.out,HN'.out,HDR.out,List.all_cons,show ZbG l0_0 y=false by unfold ZbG;rw[b5];rfl];rfl)
    clear b5
    go_wp2_with fail
    refine(HC.out _ B2.out (by go_simp)).mono ?_
    rintro e w3 ⟨rfl,hb⟩
    have hb3:=B2.out.trans (hb.mono B2.out.size)
    go_wp2
    go_ret
    exact⟨by rw[HF2.out];rfl,HBr.out.trans (hb3.mono HBr.out.size)⟩
   | false=>
    rw[b5] at HC
    have HF2:=Za (show l0_0.all (ZbG l0_0)=(l0_0.drop (kk+1)).all (ZbG l0_0) by
     rw[HN'.out,HDR.out,List.all_cons,show ZbG l0_0 y=true by unfold ZbG;rw[b5];rfl];rfl)
    clear b5
    go_wp2_with fail
    refine(HC.out _ B2.out (by go_simp)).mono ?_
    rintro e w3 ⟨rfl,hb⟩
    have hb3:=B2.out.trans (hb.mono B2.out.size)
    go_wp2
    go_roundg (l0_0.length - (kk+1))
    case measure=>have:=HG.out;omega
    case rel=>exact⟨kk+1,⟨by omega⟩,⟨by omega⟩,by go_num,⟨HBr.out.trans (hb3.mono HBr.out.size)⟩,⟨by have:=hb3.size;omega⟩,⟨ZE hb3 hb0,ZE hb3 hb1,ZE hb3 hb2_⟩,HF2⟩
  ·have hltz:¬(kk:Int)<(l0_0.length:Int):=by omega
   have:kk=l0_0.length:=by have:=HK'.out;omega
   subst this
   have HF2:=Za (show Z6 l0_0 l0_1 a0_2=true by
    rw[HF.out,HN'.out,List.drop_length];rfl)
   go_wp2
   go_ret
   exact⟨by rw[HF2.out];rfl,HBr.out⟩
def ZY.l0:Nat→List Int→List (S81)→Int→Int→Option (List Int)
 | 0,_,_,_,_=>none
 | k+1,x3,x7,x8,x9=>if x9<x8 then(if 0≤x9 then(if x9<(x7.length:Int) then(if (Zz x7 x9).f4=true then(if x3.length<17592186044416 then(ZY.l0 k (x3 ++ [x9]) x7 x8 (wrap64 (x9+1))) else(none)) else(ZY.l0 k x3 x7 x8 (wrap64 (x9+1)))) else(none)) else(none)) else(some x3)
def ZY.f (k:Nat) (l0_0:List (S54)) (l0_1:List (S81)) (a0_2:Int):Option (List Int):=ZY.l0 k ([]:List Int) l0_1 (l0_1.length:Int) 0
theorem ZY.calls (k:Nat) (A0_0:Option Addr) (c0_0:Nat) (l0_0:List (S54)) (A0_1:Option Addr) (c0_1:Nat) (l0_1:List (S81)) (a0_2:Int) (r:List Int) (w:World) (hr0_0:Kd.C k54 w A0_0 l0_0.length l0_0) (hc0_0:l0_0.length≤c0_0) (hr0_1:Kd.C k81 w A0_1 l0_1.length l0_1) (hc0_1:l0_1.length≤c0_1) (h:ZY.f k l0_0 l0_1 a0_2=some r) :
  Calls Tryd.prog 48 #[.agg #[.slice A0_0 l0_0.length c0_0,.slice A0_1 l0_1.length c0_1,.int .i64 a0_2]] w fun e w'=>∃v0_:Value,e=.returned (v0_)∧Kd.R (Kd.int .i64) 3 w' w.heap.size (fun _=>True) v0_ r∧Below w.heap.size w w':=by
 have hu39:=Tryd.underlying39
 have hu81:=Tryd.underlying81
 have HR0_0:=Za hr0_0;have HC0_0:=Za hc0_0;clear hr0_0 hc0_0;have HR0_1:=Za hr0_1;have HC0_1:=Za hc0_1;clear hr0_1 hc0_1
 have HB:=Za (Below.refl w.heap.size w)
 have H:(ZY.l0 k ([]:List Int) l0_1 (l0_1.length:Int) 0)=some r:=h
 clear h
 have H':=Za H
 clear H
 go_enter Tryd.func48,Tryd.ntmps48
 go_wp2_with (first|((with_reducible refine ZK (N:=1) rfl ?_);refine ZN ?hg (N:=1) ?hd (cs:=#[.slice A0_0 l0_0.length c0_0,.slice A0_1 l0_1.length c0_1,.int .i64 a0_2]) (t:=39) ?hr ?_;(case hd=>rfl);(case hg=>rfl);(case hr=>first|(go_simp;done)|(go_simp;rfl));intro gb1 hg w2 hbox hb;have BK1:=Za (hbox);have GW1:=Za ((by rw[hg];exact(ZA (by repeat(first|(with_reducible first|exact HB.out|apply Zn|apply Zm|apply Zp)|exact HB.out))):w.heap.size≤gb1));have GE1:=Za ((by rw[hg];exact(ZA (by repeat(first|(with_reducible first|exact HB.out|apply Zn|apply Zm|apply Zp)|exact HB.out))):w.heap.size≤gb1));replace HB:=Za (Zx (by repeat(first|(with_reducible first|exact HB.out|apply Zn|apply Zm|apply Zp)|exact HB.out)) hb);clear hb hbox hg;have hcz3_0:w2.cell? ⟨gb1,0,none⟩=some (.slice A0_0 l0_0.length c0_0):=(Zo BK1.out 0).trans rfl;have hcz3_1:w2.cell? ⟨gb1,1,none⟩=some (.slice A0_1 l0_1.length c0_1):=(Zo BK1.out 1).trans rfl;have hcz3_2:w2.cell? ⟨gb1,2,none⟩=some (.int .i64 a0_2):=(Zo BK1.out 2).trans rfl;have hfz3_0:=Zu BK1.out 0;have hfz3_1:=Zu BK1.out 1;have hfz3_2:=Zu BK1.out 2))
 go_loopg [3,9] k (fun kq v3 v9 w'=>∃(x3_1:List Int) (x9_1:Int),v9=.int .i64 x9_1∧Aside0 (ZY.l0 kq x3_1 l0_1 (l0_1.length:Int) x9_1=some r)∧Aside0 (kq≤k)∧Aside0 (Kd.R (Kd.int .i64) 3 w' w.heap.size (fun _=>True) v3 x3_1)∧Aside0 (w'.heap[gb1]? = some (.cells #[(.slice A0_0 l0_0.length c0_0),(.slice A0_1 l0_1.length c0_1),.int .i64 a0_2] 39 (0,0)))∧Aside0 (Below w.heap.size w w'))
 case atStart=>exact⟨(([]:List Int)),(0),(by first|rfl|(simp;done)|(simp[*];done)),H',⟨Nat.le_refl _⟩,⟨by first|exact Kd.R_nil _ _ _ _ _|exact Kd.N_nil _ _ _ _ _|exact Kd.V_nil _ _ _ _ _|exact Kd.Q_nil _ _ _ _ _|exact Kd.S_nil _ _ _ _ _⟩,⟨by(with_reducible repeat(first|refine Zs ?_ _|refine Zt ?_|refine Zr ?_ _));exact BK1.out⟩,⟨by repeat(first|(with_reducible first|exact HB.out|apply Zn|apply Zm|apply Zp|refine Zq ?_ GE1.out)|exact HB.out)⟩⟩
 case round=>
  clear H'
  try clear p2
  try clear hcz3_0
  try clear hcz3_1
  try clear hcz3_2
  try clear hfz3_0
  try clear hfz3_1
  try clear hfz3_2
  obtain⟨x3_1,x9_1,rfl,HA,HK1,HO_3,BK1,HB⟩:=hrel
  cases gk with
  | zero=>exact absurd HA.out (by simp[ZY.l0])
  | succ k1=>
   have H:=HA.out
   clear HA
   simp only[ZY.l0] at H
   by_cases c4:x9_1<(l0_1.length:Int)
   ·rw[if_pos c4] at H
    have c4b0:decide (x9_1<(l0_1.length:Int))=true:=Ze c4
    clear c4
    by_cases c5:0≤x9_1
    ·rw[if_pos c5] at H
     have c5b0:decide (0≤x9_1)=true:=Ze c5
     clear c5
     by_cases c6:x9_1<(l0_1.length:Int)
     ·rw[if_pos c6] at H
      have c6b0:decide (x9_1<(l0_1.length:Int))=true:=Ze c6
      clear c6
      obtain⟨bq7,hbq7⟩:∃b_:Bool,b_=((Zz l0_1 x9_1).f4):=⟨_,rfl⟩
      replace H:(if bq7=true then(if x3_1.length<17592186044416 then(ZY.l0 k1 (x3_1 ++ [x9_1]) l0_1 (l0_1.length:Int) (wrap64 (x9_1+1))) else(none)) else(ZY.l0 k1 x3_1 l0_1 (l0_1.length:Int) (wrap64 (x9_1+1))))=some r:=by rw[← hbq7] at H;exact H
      have Nbq7:=Za hbq7;clear hbq7
      by_cases c8:bq7=true
      ·subst c8
       have H1:(if x3_1.length<17592186044416 then(ZY.l0 k1 (x3_1 ++ [x9_1]) l0_1 (l0_1.length:Int) (wrap64 (x9_1+1))) else(none))=some r:=by rw[if_pos rfl] at H;exact H
       clear H
       have H:=H1
       clear H1
       by_cases c9:x3_1.length<17592186044416
       ·rw[if_pos c9] at H
        have LMc9:=Za c9;clear c9
        obtain⟨y4,hy4⟩:∃y_:List Int,y_=(x3_1 ++ [x9_1]):=⟨_,rfl⟩
        replace H:(ZY.l0 k1 y4 l0_1 (l0_1.length:Int) (wrap64 (x9_1+1)))=some r:=by first|(rw[hy4];with_reducible exact H)|(have H2_:=(Zi _ _).symm.trans H;rw[hy4];with_reducible exact H2_)|(have H2_:=(Zi _ _).symm.trans H;with_reducible exact H2_)|with_reducible exact H|(rw[hy4];exact H)|exact H
        have Ny4:=Za hy4;clear hy4
        have H':=Za H
        clear H
        have p48002:0≤(x9_1:Int):=Zd (by first|(with_reducible assumption)|assumption)
        have q2:x9_1<(l0_1.length:Int):=Zd (by first|(with_reducible assumption)|assumption)
        obtain⟨ad2,e2,hx2_0,hx2_1,hx2_2,hx2_3,hx2_4⟩:=Zck HR0_1.out x9_1 p48002 q2
        (try rw[← Nbq7.out] at hx2_4)
        cases e2
        replace hx2_0:=(HB.out.cell (Zc w _ hx2_0)).trans hx2_0
        replace hx2_1:=(HB.out.cell (Zc w _ hx2_1)).trans hx2_1
        replace hx2_2:=(HB.out.cell (Zc w _ hx2_2)).trans hx2_2
        replace hx2_3:=(HB.out.cell (Zc w _ hx2_3)).trans hx2_3
        replace hx2_4:=(HB.out.cell (Zc w _ hx2_4)).trans hx2_4
        replace p48002:=eq_true p48002
        replace q2:=eq_true q2
        go_wp2_with (first|((with_reducible refine ZK (N:=5) rfl ?_);refine ZN ?hg (N:=5) ?hd (cs:=#[.int .i64 0,.int .i64 0,.int .i64 0,.int .i64 0,.bool false]) (t:=81) ?hr ?_;(case hd=>rfl);(case hg=>rfl);(case hr=>first|(go_simp;done)|(go_simp;rfl));intro gb3 hg w10 hbox hb;have BK3:=Za (hbox);have GW3:=Za ((by rw[hg];exact(ZA (by repeat(first|(with_reducible first|exact HB.out|apply Zn|apply Zm|apply Zp|refine Zq ?_ GE1.out)|exact HB.out))):w.heap.size≤gb3));have GE3:=Za ((by rw[hg];exact(ZA (by repeat(first|(with_reducible first|exact HB.out|apply Zn|apply Zm|apply Zp|refine Zq ?_ GE1.out)|exact HB.out))):w.heap.size≤gb3));have NB1_3:=Za ((by rw[hg];exact Nat.ne_of_lt (ZR (g:=gb1) (o:=.cells #[.slice A0_0 l0_0.length c0_0,.slice (some ad2) l0_1.length c0_1,.int .i64 a0_2] 39 (0,0)) (by(with_reducible repeat(first|refine Zs ?_ _|refine Zt ?_|refine Zr ?_ _));exact BK1.out)):gb1≠gb3));have NB3_1:=Za ((by rw[hg];exact Nat.ne_of_gt (ZR (g:=gb1) (o:=.cells #[.slice A0_0 l0_0.length c0_0,.slice (some ad2) l0_1.length c0_1,.int .i64 a0_2] 39 (0,0)) (by(with_reducible repeat(first|refine Zs ?_ _|refine Zt ?_|refine Zr ?_ _));exact BK1.out)):gb3≠gb1));replace HO_3:=Za (Kd.R_below (by(with_reducible repeat(first|apply Kd.R_alloc|apply Kd.R_drewN|apply Kd.R_drew));exact HO_3.out) hb);replace BK1:=Za (Zw (g:=gb1) (o:=.cells #[.slice A0_0 l0_0.length c0_0,.slice (some ad2) l0_1.length c0_1,.int .i64 a0_2] 39 (0,0)) (by(with_reducible repeat(first|refine Zs ?_ _|refine Zt ?_|refine Zr ?_ _));exact BK1.out) hb);replace HB:=Za (Zx (by repeat(first|(with_reducible first|exact HB.out|apply Zn|apply Zm|apply Zp|refine Zq ?_ GE1.out)|exact HB.out)) hb);clear hb hbox hg;have hnb11:=NB3_1.out;have hnc11:=NB1_3.out;have hcz12_0:w10.cell? ⟨gb3,0,none⟩=some (.int .i64 0):=(Zo BK3.out 0).trans rfl;have hcz12_1:w10.cell? ⟨gb3,1,none⟩=some (.int .i64 0):=(Zo BK3.out 1).trans rfl;have hcz12_2:w10.cell? ⟨gb3,2,none⟩=some (.int .i64 0):=(Zo BK3.out 2).trans rfl;have hcz12_3:w10.cell? ⟨gb3,3,none⟩=some (.int .i64 0):=(Zo BK3.out 3).trans rfl;have hcz12_4:w10.cell? ⟨gb3,4,none⟩=some (.bool false):=(Zo BK3.out 4).trans rfl;have hfz12_0:=Zu BK3.out 0;have hfz12_1:=Zu BK3.out 1;have hfz12_2:=Zu BK3.out 2;have hfz12_3:=Zu BK3.out 3;have hfz12_4:=Zu BK3.out 4)|((with_reducible refine Zax (b:=.append) (xs:=#[.tmp 16,.tmp 18]) rfl ?_);at_builtin;refine Kd.R_append (Kd.int .i64) (w0:=w) w.heap.size rfl (.tmp 16) (.tmp 18) 23 3 (.int .i64 0) 8 rfl Tryd.underlying23 ZbN rfl (by decide) (by omega) u3 x3_1 x9_1 [.int .i64 x9_1] (fun _=>True) (fun _=>False) rfl (by first|(go_simp;done)|(go_simp;rfl)) ?aP (fun _ hk=>hk.elim) ?aF ?aO ?aB ?aS ?aL ?_;(case aP=>exact rfl);(case aB=>exact(by repeat(first|(with_reducible first|exact HB.out|apply Zn|apply Zm|apply Zp|refine Zq ?_ GE1.out|refine Zq ?_ GE3.out)|exact HB.out)));(case aF=>exact(fun _ _=>trivial));(case aO=>exact(by(with_reducible repeat(first|apply Kd.R_alloc|apply Kd.R_drewN|apply Kd.R_drew));exact Kd.R_mono (Kd.R_far (p:=⟨gb3,4,none⟩) (Kd.R_far (p:=⟨gb3,3,none⟩) (Kd.R_far (p:=⟨gb3,2,none⟩) (Kd.R_far (p:=⟨gb3,1,none⟩) (Kd.R_far (p:=⟨gb3,0,none⟩) (Kd.R_types HO_3.out BK3.out (by decide)) (fun _ hk=>hk.2) (.int .i64 ((Zz l0_1 x9_1).f0))) (fun _ hk=>hk.2) (.int .i64 ((Zz l0_1 x9_1).f1))) (fun _ hk=>hk.2) (.int .i64 ((Zz l0_1 x9_1).f2))) (fun _ hk=>hk.2) (.int .i64 ((Zz l0_1 x9_1).f3))) (fun _ hk=>hk.2) (.bool true)) (fun _ hk=>trivial)));(case aS=>exact(ZA (by repeat(first|(with_reducible first|exact HB.out|apply Zn|apply Zm|apply Zp|refine Zq ?_ GE1.out|refine Zq ?_ GE3.out)|exact HB.out))));(case aL=>have:=LMc9.out;omega);intro v5 w13 ho hb hg hat;rw[← Ny4.out] at ho;have HO6:=Za (ho);replace BK1:=Za (Zao (g:=gb1) (o:=.cells #[.slice A0_0 l0_0.length c0_0,.slice (some ad2) l0_1.length c0_1,.int .i64 a0_2] 39 (0,0)) (by(with_reducible repeat(first|refine Zs ?_ _|refine Zt ?_|refine Zr ?_ _));refine ZF ?_ NB1_3.out _;(with_reducible repeat(first|refine Zs ?_ _|refine Zt ?_|refine Zr ?_ _));refine ZF ?_ NB1_3.out _;(with_reducible repeat(first|refine Zs ?_ _|refine Zt ?_|refine Zr ?_ _));refine ZF ?_ NB1_3.out _;(with_reducible repeat(first|refine Zs ?_ _|refine Zt ?_|refine Zr ?_ _));refine ZF ?_ NB1_3.out _;(with_reducible repeat(first|refine Zs ?_ _|refine Zt ?_|refine Zr ?_ _));refine ZF ?_ NB1_3.out _;(with_reducible repeat(first|refine Zs ?_ _|refine Zt ?_|refine Zr ?_ _));exact BK1.out) hg (Kd.R_ne HO_3.out BK1.out (by decide)));replace BK3:=Za (Zao (g:=gb3) (o:=.cells #[.int .i64 ((Zz l0_1 x9_1).f0),.int .i64 ((Zz l0_1 x9_1).f1),.int .i64 ((Zz l0_1 x9_1).f2),.int .i64 ((Zz l0_1 x9_1).f3),.bool true] 81 (0,0)) (by(with_reducible repeat(first|refine Zs ?_ _|refine Zt ?_|refine Zr ?_ _));refine ZO (cs:=#[.int .i64 ((Zz l0_1 x9_1).f0),.int .i64 ((Zz l0_1 x9_1).f1),.int .i64 ((Zz l0_1 x9_1).f2),.int .i64 ((Zz l0_1 x9_1).f3),.bool false]) ?_ 4 _ rfl;(with_reducible repeat(first|refine Zs ?_ _|refine Zt ?_|refine Zr ?_ _));refine ZO (cs:=#[.int .i64 ((Zz l0_1 x9_1).f0),.int .i64 ((Zz l0_1 x9_1).f1),.int .i64 ((Zz l0_1 x9_1).f2),.int .i64 0,.bool false]) ?_ 3 _ rfl;(with_reducible repeat(first|refine Zs ?_ _|refine Zt ?_|refine Zr ?_ _));refine ZO (cs:=#[.int .i64 ((Zz l0_1 x9_1).f0),.int .i64 ((Zz l0_1 x9_1).f1),.int .i64 0,.int .i64 0,.bool false]) ?_ 2 _ rfl;(with_reducible repeat(first|refine Zs ?_ _|refine Zt ?_|refine Zr ?_ _));refine ZO (cs:=#[.int .i64 ((Zz l0_1 x9_1).f0),.int .i64 0,.int .i64 0,.int .i64 0,.bool false]) ?_ 1 _ rfl;(with_reducible repeat(first|refine Zs ?_ _|refine Zt ?_|refine Zr ?_ _));refine ZO (cs:=#[.int .i64 0,.int .i64 0,.int .i64 0,.int .i64 0,.bool false]) ?_ 0 _ rfl;(with_reducible repeat(first|refine Zs ?_ _|refine Zt ?_|refine Zr ?_ _));exact BK3.out) hg (Kd.R_ne HO_3.out BK3.out (by decide)));replace HB:=Za (hb);clear HO_3;clear ho hb hg hat))
        go_roundg k1
        case measure=>have:=HK1.out;omega
        case rel=>exact⟨(y4),(wrap64 (x9_1+1)),(by first|rfl|(simp;done)|(simp[*];done)),H',⟨by have:=HK1.out;omega⟩,⟨by(with_reducible repeat(first|apply Kd.R_alloc|apply Kd.R_drewN|apply Kd.R_drew));exact HO6.out⟩,⟨by(with_reducible repeat(first|refine Zs ?_ _|refine Zt ?_|refine Zr ?_ _));exact BK1.out⟩,⟨by repeat(first|(with_reducible first|exact HB.out|apply Zn|apply Zm|apply Zp|refine Zq ?_ GE1.out|refine Zq ?_ GE3.out)|exact HB.out)⟩⟩
       ·rw[if_neg c9] at H
        exact absurd H (by simp)
      ·replace c8:=Bool.eq_false_iff.mpr c8
       subst c8
       have H1:(ZY.l0 k1 x3_1 l0_1 (l0_1.length:Int) (wrap64 (x9_1+1)))=some r:=by rw[if_neg (show ¬(false=true) by decide)] at H;exact H
       clear H
       have H:=H1
       clear H1
       have H':=Za H
       clear H
       have p48002:0≤(x9_1:Int):=Zd (by first|(with_reducible assumption)|assumption)
       have q2:x9_1<(l0_1.length:Int):=Zd (by first|(with_reducible assumption)|assumption)
       obtain⟨ad2,e2,hx2_0,hx2_1,hx2_2,hx2_3,hx2_4⟩:=Zck HR0_1.out x9_1 p48002 q2
       (try rw[← Nbq7.out] at hx2_4)
       cases e2
       replace hx2_0:=(HB.out.cell (Zc w _ hx2_0)).trans hx2_0
       replace hx2_1:=(HB.out.cell (Zc w _ hx2_1)).trans hx2_1
       replace hx2_2:=(HB.out.cell (Zc w _ hx2_2)).trans hx2_2
       replace hx2_3:=(HB.out.cell (Zc w _ hx2_3)).trans hx2_3
       replace hx2_4:=(HB.out.cell (Zc w _ hx2_4)).trans hx2_4
       replace p48002:=eq_true p48002
       replace q2:=eq_true q2
       go_wp2_with (first|((with_reducible refine ZK (N:=5) rfl ?_);refine ZN ?hg (N:=5) ?hd (cs:=#[.int .i64 0,.int .i64 0,.int .i64 0,.int .i64 0,.bool false]) (t:=81) ?hr ?_;(case hd=>rfl);(case hg=>rfl);(case hr=>first|(go_simp;done)|(go_simp;rfl));intro gb3 hg w14 hbox hb;have BK3:=Za (hbox);have GW3:=Za ((by rw[hg];exact(ZA (by repeat(first|(with_reducible first|exact HB.out|apply Zn|apply Zm|apply Zp|refine Zq ?_ GE1.out)|exact HB.out))):w.heap.size≤gb3));have GE3:=Za ((by rw[hg];exact(ZA (by repeat(first|(with_reducible first|exact HB.out|apply Zn|apply Zm|apply Zp|refine Zq ?_ GE1.out)|exact HB.out))):w.heap.size≤gb3));have NB1_3:=Za ((by rw[hg];exact Nat.ne_of_lt (ZR (g:=gb1) (o:=.cells #[.slice A0_0 l0_0.length c0_0,.slice (some ad2) l0_1.length c0_1,.int .i64 a0_2] 39 (0,0)) (by(with_reducible repeat(first|refine Zs ?_ _|refine Zt ?_|refine Zr ?_ _));exact BK1.out)):gb1≠gb3));have NB3_1:=Za ((by rw[hg];exact Nat.ne_of_gt (ZR (g:=gb1) (o:=.cells #[.slice A0_0 l0_0.length c0_0,.slice (some ad2) l0_1.length c0_1,.int .i64 a0_2] 39 (0,0)) (by(with_reducible repeat(first|refine Zs ?_ _|refine Zt ?_|refine Zr ?_ _));exact BK1.out)):gb3≠gb1));replace HO_3:=Za (Kd.R_below (by(with_reducible repeat(first|apply Kd.R_alloc|apply Kd.R_drewN|apply Kd.R_drew));exact HO_3.out) hb);replace BK1:=Za (Zw (g:=gb1) (o:=.cells #[.slice A0_0 l0_0.length c0_0,.slice (some ad2) l0_1.length c0_1,.int .i64 a0_2] 39 (0,0)) (by(with_reducible repeat(first|refine Zs ?_ _|refine Zt ?_|refine Zr ?_ _));exact BK1.out) hb);replace HB:=Za (Zx (by repeat(first|(with_reducible first|exact HB.out|apply Zn|apply Zm|apply Zp|refine Zq ?_ GE1.out)|exact HB.out)) hb);clear hb hbox hg;have hnb15:=NB3_1.out;have hnc15:=NB1_3.out;have hcz16_0:w14.cell? ⟨gb3,0,none⟩=some (.int .i64 0):=(Zo BK3.out 0).trans rfl;have hcz16_1:w14.cell? ⟨gb3,1,none⟩=some (.int .i64 0):=(Zo BK3.out 1).trans rfl;have hcz16_2:w14.cell? ⟨gb3,2,none⟩=some (.int .i64 0):=(Zo BK3.out 2).trans rfl;have hcz16_3:w14.cell? ⟨gb3,3,none⟩=some (.int .i64 0):=(Zo BK3.out 3).trans rfl;have hcz16_4:w14.cell? ⟨gb3,4,none⟩=some (.bool false):=(Zo BK3.out 4).trans rfl;have hfz16_0:=Zu BK3.out 0;have hfz16_1:=Zu BK3.out 1;have hfz16_2:=Zu BK3.out 2;have hfz16_3:=Zu BK3.out 3;have hfz16_4:=Zu BK3.out 4))
       go_roundg k1
       case measure=>have:=HK1.out;omega
       case rel=>exact⟨(x3_1),(wrap64 (x9_1+1)),(by first|rfl|(simp;done)|(simp[*];done)),H',⟨by have:=HK1.out;omega⟩,⟨by(with_reducible repeat(first|apply Kd.R_alloc|apply Kd.R_drewN|apply Kd.R_drew));exact Kd.R_mono (Kd.R_far (p:=⟨gb3,4,none⟩) (Kd.R_far (p:=⟨gb3,3,none⟩) (Kd.R_far (p:=⟨gb3,2,none⟩) (Kd.R_far (p:=⟨gb3,1,none⟩) (Kd.R_far (p:=⟨gb3,0,none⟩) (Kd.R_types HO_3.out BK3.out (by decide)) (fun _ hk=>hk.2) (.int .i64 ((Zz l0_1 x9_1).f0))) (fun _ hk=>hk.2) (.int .i64 ((Zz l0_1 x9_1).f1))) (fun _ hk=>hk.2) (.int .i64 ((Zz l0_1 x9_1).f2))) (fun _ hk=>hk.2) (.int .i64 ((Zz l0_1 x9_1).f3))) (fun _ hk=>hk.2) (.bool false)) (fun _ hk=>trivial)⟩,⟨by(with_reducible repeat(first|refine Zs ?_ _|refine Zt ?_|refine Zr ?_ _));refine ZF ?_ NB1_3.out _;(with_reducible repeat(first|refine Zs ?_ _|refine Zt ?_|refine Zr ?_ _));refine ZF ?_ NB1_3.out _;(with_reducible repeat(first|refine Zs ?_ _|refine Zt ?_|refine Zr ?_ _));refine ZF ?_ NB1_3.out _;(with_reducible repeat(first|refine Zs ?_ _|refine Zt ?_|refine Zr ?_ _));refine ZF ?_ NB1_3.out _;(with_reducible repeat(first|refine Zs ?_ _|refine Zt ?_|refine Zr ?_ _));refine ZF ?_ NB1_3.out _;(with_reducible repeat(first|refine Zs ?_ _|refine Zt ?_|refine Zr ?_ _));exact BK1.out⟩,⟨by repeat(first|(with_reducible first|exact HB.out|apply Zn|apply Zm|apply Zp|refine Zq ?_ GE1.out|refine Zq ?_ GE3.out)|exact HB.out)⟩⟩
     ·rw[if_neg c6] at H
      exact absurd H (by simp)
    ·rw[if_neg c5] at H
     exact absurd H (by simp)
   ·rw[if_neg c4] at H
    have c4b0:decide (x9_1<(l0_1.length:Int))=false:=Zf c4
    clear c4
    obtain rfl:=Zg H
    go_wp2
    go_ret
    exact⟨_,by first|rfl|(simp[ZD,ZC] <;> rfl)|(simp[*,ZD,ZC] <;> rfl),by(with_reducible repeat(first|apply Kd.R_alloc|apply Kd.R_drewN|apply Kd.R_drew));exact HO_3.out,by repeat(first|(with_reducible first|exact HB.out|apply Zn|apply Zm|apply Zp|refine Zq ?_ GE1.out)|exact HB.out)⟩
def Zah.f (k:Nat) (l0_0:List (S54)) (l0_1:List (S81)) (a0_2:Int):Option Int:=(ZaR.f l0_0 l0_1 a0_2).bind fun b=>if b=true then((ZY.f k l0_0 l0_1 a0_2).bind fun L=>if okI l0_1 L=true then(wq fun p=>(Zaw.f l0_0 l0_1 a0_2 p)).bind fun q=>some (Zci q 3 1 (L.foldl (ccS l0_1) 1)) else none) else some 0
theorem Zah.calls (k:Nat) (A0_0:Option Addr) (c0_0:Nat) (l0_0:List (S54)) (A0_1:Option Addr) (c0_1:Nat) (l0_1:List (S81)) (a0_2:Int) (r:Int) (w:World) (hr0_0:Kd.C k54 w A0_0 l0_0.length l0_0) (hc0_0:l0_0.length≤c0_0) (hr0_1:Kd.C k81 w A0_1 l0_1.length l0_1) (hc0_1:l0_1.length≤c0_1) (h:Zah.f k l0_0 l0_1 a0_2=some r) :
  Calls Tryd.prog 16 #[.agg #[.slice A0_0 l0_0.length c0_0,.slice A0_1 l0_1.length c0_1,.int .i64 a0_2]] w fun e w'=>e=.returned (.int .i64 r)∧Below w.heap.size w w':=by
 unfold Zah.f at h
 obtain⟨b,hb_,h⟩:=Option.bind_eq_some_iff.1 h
 have HS:=Za fun (W:World) (hb:Below w.heap.size w W)=>ZaR.calls A0_0 c0_0 l0_0 A0_1 c0_1 l0_1 a0_2 b W (Zb hr0_0 hb) hc0_0 (Zb hr0_1 hb) hc0_1 hb_
 clear hb_
 cases b with
 | false=>
  obtain rfl:(0:Int)=r:=Zg ((if_neg (by simp)).symm.trans h)
  have HR1:=Za hr0_1
  have HB0:=Za (Zn (Below.refl w.heap.size w) (.cells #[.slice A0_0 l0_0.length c0_0,.slice A0_1 l0_1.length c0_1,.int .i64 a0_2] 39))
  have hu:=Tryd.underlying39
  have hu3:=Tryd.underlying81
  clear hr0_0 hc0_0 hr0_1 hc0_1 h
  go_enter Tryd.func16,Tryd.ntmps16
  go_wp2_with (go_at_call 47;refine(HS.out _ (by repeat(first|(with_reducible first|exact HB0.out|apply Zn|apply Zm|apply Zp)|exact HB0.out))).mono ?_;rintro e w4 ⟨rfl,hb⟩;have HB4:=Za (Zx (by repeat(first|(with_reducible first|exact HB0.out|apply Zn|apply Zm|apply Zp)|exact HB0.out)) hb);have kk0:w4.cell? ⟨w.heap.size,0,none⟩=some (.slice A0_0 l0_0.length c0_0):=ZE hb (by go_simp);have kk1:w4.cell? ⟨w.heap.size,1,none⟩=some (.slice A0_1 l0_1.length c0_1):=ZE hb (by go_simp);have kk2:w4.cell? ⟨w.heap.size,2,none⟩=some (.int .i64 a0_2):=ZE hb (by go_simp);clear hb)
  go_ret
  exact⟨rfl,HB4.out⟩
 | true=>
 rw[if_pos rfl] at h
 obtain⟨L,hL_,h⟩:=Option.bind_eq_some_iff.1 h
 by_cases hok:okI l0_1 L=true
 case neg=>rw[if_neg hok] at h;exact absurd h (by simp)
 rw[if_pos hok] at h
 obtain⟨q,hq_,h⟩:=Option.bind_eq_some_iff.1 h
 have OK:=Za (okI_iff hok)
 have HE0:=Za (show Zci q 3 1 ((L.drop 0).foldl (ccS l0_1) 1)=r from Zg h)
 have HF:=Za fun (W:World) (hb:Below w.heap.size w W)=>ZY.calls k A0_0 c0_0 l0_0 A0_1 c0_1 l0_1 a0_2 L W (Zb hr0_0 hb) hc0_0 (Zb hr0_1 hb) hc0_1 hL_
 have HW:=Za fun (W:World) (p:Nat) (h1:1≤p) (h3:p≤3) (hb:Below w.heap.size w W)=>Zaw.calls A0_0 c0_0 l0_0 A0_1 c0_1 l0_1 a0_2 (p:Int) (q (p:Int)) W (Zb hr0_0 hb) hc0_0 (Zb hr0_1 hb) hc0_1 (wq_some hq_ p h1 h3)
 clear hL_ hq_ hok;have HR1:=Za hr0_1
 have HB0:=Za (Zn (Below.refl w.heap.size w) (.cells #[.slice A0_0 l0_0.length c0_0,.slice A0_1 l0_1.length c0_1,.int .i64 a0_2] 39))
 have hu:=Tryd.underlying39
 have hu3:=Tryd.underlying81
 clear hr0_0 hc0_0 hr0_1 hc0_1 h
 go_enter Tryd.func16,Tryd.ntmps16
 go_wp2_with (first|(go_at_call 47;refine(HS.out _ (by repeat(first|(with_reducible first|exact HB0.out|apply Zn|apply Zm|apply Zp)|exact HB0.out))).mono ?_;rintro e w4 ⟨rfl,hb⟩;have HB4:=Za (Zx (by repeat(first|(with_reducible first|exact HB0.out|apply Zn|apply Zm|apply Zp)|exact HB0.out)) hb);have kk0:w4.cell? ⟨w.heap.size,0,none⟩=some (.slice A0_0 l0_0.length c0_0):=ZE hb (by go_simp);have kk1:w4.cell? ⟨w.heap.size,1,none⟩=some (.slice A0_1 l0_1.length c0_1):=ZE hb (by go_simp);have kk2:w4.cell? ⟨w.heap.size,2,none⟩=some (.int .i64 a0_2):=ZE hb (by go_simp);clear hb)|(go_at_call 48;refine(HF.out _ HB4.out).mono ?_;rintro e w6 ⟨vF,rfl,ho,hb⟩;obtain⟨A_,c_,e_⟩:=Kd.R_slice ho;subst e_;have HRL:=Za (Kd.R_reads' ho).2.2;have HB6:=Za (Zx HB4.out hb);have K6:=Za (And.intro (ZE hb kk0) (And.intro (ZE hb kk1) (ZE hb kk2)));clear ho hb kk0 kk1 kk2))
 clear HS HF HB0 HB4
 go_loopg [3,13] L.length (fun gg s3 s13 wr=>∃(i:Nat) (x:Int),s3=.int .i64 x∧s13=.int .i64 (i:Int)∧Aside0 (i≤L.length)∧Aside0 (L.length - i≤gg)∧Aside0 (Zci q 3 1 ((L.drop i).foldl (ccS l0_1) x)=r)∧Aside0 (Below w6.heap.size w6 wr))
 case atStart=>exact⟨0,1,rfl,rfl,⟨Nat.zero_le _⟩,⟨by omega⟩,HE0,⟨Below.refl _ _⟩⟩
 case round=>
 clear HE0
 obtain⟨i,n,rfl,rfl,HK,HG,HE,HBr⟩:=hrel
 have HBw:=Za (HB6.out.trans (HBr.out.mono HB6.out.size))
 by_cases hlt:i<L.length
 ·have hltz:(i:Int)<(L.length:Int):=by omega
  obtain⟨ad,q1,hx⟩:=Kd.at_int (Zb HRL.out HBr.out) (i:Int) (by omega) hltz
  cases q1
  have hm:=OK.out.2 _ (ZaY hlt 0)
  have HD:=HE.out
  rw[Za2 hlt 0,List.foldl_cons,ccS] at HD
  rw[Int.toNat_natCast,Zbq] at hx
  generalize L.getD i 0=x at hx hm HD
  unfold facI at HD
  obtain⟨ad3,q3,hz0,hz1,hz2,hz3,hz4⟩:=Zck (Zb HR1.out HBw.out) x hm.1 hm.2
  cases q3
  generalize (Zz l0_1 x).f2=lo at hz2 HD
  generalize (Zz l0_1 x).f3=hi at hz3 HD
  have px:=eq_true hm.1
  have py:=eq_true hm.2
  have HD2:=Za HD
  have k1:=ZE HBr.out K6.out.2.1
  clear hz0 hz1 hz4 hm HD HE
  go_wp2
  go_quiet (fail)
  go_wp2
  go_roundg (L.length - (i+1))
  case measure=>have:=HG.out;omega
  case rel=>exact⟨i+1,_,rfl,by rw[Z9 hlt (by have:=OK.out.1;omega)],⟨by omega⟩,⟨by omega⟩,HD2,⟨by repeat(first|(with_reducible first|exact HBr.out|apply Zn|apply Zm|apply Zp)|exact HBr.out)⟩⟩
 ·obtain rfl:i=L.length:=by have:=HK.out;omega
  have HQ:=Za (show Zci q 3 1 n=r by
   have h:=HE.out
   rw[List.drop_length] at h
   exact h)
  clear HE HK HG hlt OK HRL
  go_wp2
  obtain⟨wo,hwo⟩:∃wo,wo=wr:=⟨_,rfl⟩
  subst hwo
  have K7:=Za (And.intro (ZE HBr.out K6.out.1) (And.intro (ZE HBr.out K6.out.2.1) (ZE HBr.out K6.out.2.2)))
  clear HBr K6
  go_loopg [3,6] 4 (fun gg s3 s6 wr=>∃(p:Nat) (x:Int),s3=.int .i64 x∧s6=.int .i64 (p:Int)∧Aside0 (1≤p∧p≤4)∧Aside0 (4 - p≤gg)∧Aside0 (Zci q (4 - p) p x=r)∧Aside0 (Below wo.heap.size wo wr))
  case atStart=>exact⟨1,n,rfl,rfl,⟨by omega⟩,⟨by omega⟩,HQ,⟨Below.refl _ _⟩⟩
  case round=>
  clear HQ
  obtain⟨p,n,rfl,rfl,HP,HG,HE,HBr⟩:=hrel
  have k0:=ZE HBr.out K7.out.1
  have k1:=ZE HBr.out K7.out.2.1
  have k2:=ZE HBr.out K7.out.2.2
  have HBv:=Za (HBw.out.trans (HBr.out.mono HBw.out.size))
  by_cases hp:p≤3
  ·have hpz:decide ((p:Int)≤3)=true:=Ze (by omega)
   have HWp:=Za (HW.out wr p HP.out.1 hp HBv.out)
   have HD:=HE.out
   rw[show 4 - p=(4 - (p+1))+1 by omega,Zci,ccQ] at HD
   have HS:=Za (show wrap64 ((p:Int)+1)=((p+1:Nat):Int) from Z9 (n:=4) (by omega) (by omega))
   generalize q (p:Int)=qp at HWp HD
   clear HE
   cases b2:decide (0≤qp) with
   | true=>
    rw[if_pos (show qp≥0 from Zd b2)] at HD
    have HD2:=Za HD;clear HD
    go_wp2_with (go_at_call 49;refine HWp.out.mono ?_;rintro e w8 ⟨rfl,hb⟩;have HBn:=Za (HBr.out.trans (hb.mono HBr.out.size));clear hb k0 k1 k2)
    go_roundg (4 - (p+1))
    case measure=>have:=HG.out;omega
    case rel=>exact⟨p+1,_,rfl,by first|rfl|rw[HS.out],⟨by have:=HP.out;omega⟩,⟨by omega⟩,HD2,HBn⟩
   | false=>
    rw[if_neg (show ¬qp≥0 from of_decide_eq_false b2)] at HD
    have HD2:=Za HD;clear HD
    go_wp2_with (go_at_call 49;refine HWp.out.mono ?_;rintro e w8 ⟨rfl,hb⟩;have HBn:=Za (HBr.out.trans (hb.mono HBr.out.size));clear hb k0 k1 k2)
    go_roundg (4 - (p+1))
    case measure=>have:=HG.out;omega
    case rel=>exact⟨p+1,_,rfl,by first|rfl|rw[HS.out],⟨by have:=HP.out;omega⟩,⟨by omega⟩,HD2,HBn⟩
  ·obtain rfl:p=4:=by have:=HP.out;omega
   have hpz:decide (((4:Nat):Int)≤3)=false:=rfl
   obtain rfl:n=r:=HE.out
   go_wp2
   go_ret
   exact⟨rfl,HBv.out⟩
theorem Zfi {w0 w w':World} {g:Nat} (h0:Below w0.heap.size w0 w) (h1:Below w0.heap.size w0 w') (hk:ZI w w' g none) (hg:w.heap.size≤g):Below w.heap.size w w':=
 ⟨h1.os.trans h0.os.symm,h1.tape.trans h0.tape.symm,h1.output.trans h0.output.symm,hk.1,fun k hlt=>hk.2 k hlt (by omega) (by simp)⟩
theorem keepW {w w1 w2:World} {g:Nat} (h:Below w.heap.size w w1) (k:ZI w1 w2 g none) (hg:w.heap.size≤g):ZI w w2 g none:=
 ⟨Nat.le_trans h.size k.1,fun i hi hne hn=>(k.2 i (Nat.lt_of_lt_of_le hi h.size) hne hn).trans (h.block i hi)⟩
def ZaL.go:Nat→List Int→Int→Int→Option (List Int×Int×Int)
 | 0,b,i,h=>some (b,i,h)
 | m+1,b,i,h=>(ZS.f b i h).bind fun r=>ZaL.go m b r.2.1 r.2.2
def ZaL.f (k:Nat) (l0:List Int) (a1:Int):Option (List Int×Int×Int):=if a1≤1048576 then(Zaf.f k l0).bind fun r=>ZaL.go a1.toNat r.1 r.2.1 r.2.2 else none
theorem ZaL.calls (k:Nat) (A0:Option Addr) (c0:Nat) (l0:List Int) (a1:Int) (r1:List Int) (r2:Int) (r3:Int) (w0 w:World) (hB:Below w0.heap.size w0 w) (hr0:Kd.C (Kd.int .u8) w0 A0 l0.length l0) (hc0:l0.length≤c0) (h:ZaL.f k l0 a1=some (r1,r2,r3)) :
  Calls Tryd.prog 26 #[.slice A0 l0.length c0,.int .i64 a1] w fun e w'=>∃g_:Nat,e=.returned (.pointer (some ⟨g_,0,none⟩))∧ZB w0 w' g_ r1 r2 r3∧Below w0.heap.size w0 w'∧Below w.heap.size w w':=by
 unfold ZaL.f at h
 by_cases ha:a1≤1048576
 case neg=>rw[if_neg ha] at h;exact absurd h (by simp)
 rw[if_pos ha] at h
 obtain⟨⟨b,i0,x0⟩,h1,h2⟩:=Option.bind_eq_some_iff.1 h
 dsimp only at h2
 have HN:=Za (Zaf.newc k A0 c0 l0 b i0 x0 w0 w hB hr0 hc0 h1)
 have HH:=Za h2;have HA:=Za ha;have HB0:=Za hB;clear hr0 hc0 h h1 h2 hB ha
 go_enter Tryd.func26,Tryd.ntmps26
 go_wp2_with (go_at_call 46;refine HN.out.mono ?_;rintro e w1 ⟨g,rfl,hI,hB1,hb1,hg1⟩;have HGG:=Za hg1;have HB1:=Za hB1;have HI:=Za hI;have HB:=Za hB1;have HW:=Za hb1;clear hI hB1 hb1 hg1)
 go_loopg [6] a1.toNat (fun gg s6 wr=>∃(j:Int) (i h:Int),s6=.int .i64 j∧Aside0 (0≤j∧j≤1048576)∧Aside0 ((a1 - j).toNat≤gg)∧Aside0 (ZaL.go (a1 - j).toNat b i h=some (r1,r2,r3))∧Aside0 (ZB w0 wr g b i h)∧Aside0 (Below w0.heap.size w0 wr)∧Aside0 (ZI w1 wr g none))
 case atStart=>exact⟨0,i0,x0,rfl,⟨by omega⟩,⟨by simp⟩,⟨by simpa using HH.out⟩,HI,HB,⟨ZI.refl _ _ _⟩⟩
 case round=>
  obtain⟨j,i,x,rfl,HJ,HG2,HR,HIr,HBr,HKr⟩:=hrel
  by_cases hj:j<a1
  ·have HR2:=HR.out
   rw[show(a1 - j).toNat=(a1 - (j+1)).toNat+1 by have:=HJ.out;omega] at HR2
   obtain⟨⟨y1,y2,y3⟩,hy,hrest⟩:=Option.bind_eq_some_iff.1 HR2
   dsimp only at hrest
   have HY:=Za (ZS.calls g b i x y1 y2 y3 w0 wr HIr.out HBr.out hy)
   have HRR:=Za hrest
   have hw:wrap64 (j+1)=j+1:=by have:=HJ.out;have:=HA.out;unfold wrap64;omega
   clear HR2 hy hrest
   go_wp2_with (go_at_call 50;refine HY.out.mono ?_;rintro e w2 ⟨rfl,hI2,hB2,hK2⟩)
   go_roundg ((a1 - (j+1)).toNat)
   case measure=>have:=HG2.out;have:=HJ.out;omega
   case rel=>exact⟨j+1,y2,y3,by first|rw[hw]|rfl,⟨by have:=HJ.out;have:=HA.out;omega⟩,⟨by omega⟩,HRR,⟨hI2⟩,⟨hB2⟩,⟨HKr.out.trans hK2 (.inl rfl)⟩⟩
  ·have HR2:=HR.out
   rw[show(a1 - j).toNat=0 by omega] at HR2
   obtain⟨e1,e2⟩:=Prod.mk.inj (Zg HR2)
   obtain⟨e2,e3⟩:=Prod.mk.inj e2
   subst e1;subst e2;subst e3;clear HR2
   go_wp2
   go_ret
   exact⟨g,rfl,HIr.out,HBr.out,Zfi (HB0.out) HBr.out (keepW HW.out HKr.out HGG.out) HGG.out⟩
def Zav.f (k:Nat) (l0:List Int) (a1:Int):Option (Int):=(ZaL.f k l0 a1).bind fun bt1=>((ZS.f bt1.1 bt1.2.1 bt1.2.2).bind fun bt5=>((ZS.f bt1.1 bt5.2.1 bt5.2.2).bind fun bt8=>(some (wrap64 ((wrap64 (bt5.1 * 256))+bt8.1)))))
theorem Zav.calls (k:Nat) (A0:Option Addr) (c0:Nat) (l0:List Int) (a1:Int) (r:Int) (w:World) (hr0:Kd.C (Kd.int .u8) w A0 l0.length l0) (hc0:l0.length≤c0) (h:Zav.f k l0 a1=some r) :
  Calls Tryd.prog 17 #[.slice A0 l0.length c0,.int .i64 a1] w fun e w'=>e=.returned (.int .i64 r)∧Below w.heap.size w w':=by
 have HR0:=Za hr0;have HC0:=Za hc0;clear hr0 hc0
 have HB:=Za (Below.refl w.heap.size w)
 have H:((ZaL.f k l0 a1).bind fun bt1=>((ZS.f bt1.1 bt1.2.1 bt1.2.2).bind fun bt5=>((ZS.f bt1.1 bt5.2.1 bt5.2.2).bind fun bt8=>(some (wrap64 ((wrap64 (bt5.1 * 256))+bt8.1))))))=some r:=h
 clear h
 replace H:=Zh H
 obtain⟨⟨t1,t2,t3⟩,A30,H⟩:=H
 replace H:((ZS.f t1 t2 t3).bind fun bt5=>((ZS.f t1 bt5.2.1 bt5.2.2).bind fun bt8=>(some (wrap64 ((wrap64 (bt5.1 * 256))+bt8.1)))))=some r:=H
 have A3:=Za A30;clear A30
 replace H:=Zh H
 obtain⟨⟨t5,t6,t7⟩,A40,H⟩:=H
 replace H:((ZS.f t1 t6 t7).bind fun bt8=>(some (wrap64 ((wrap64 (t5 * 256))+bt8.1))))=some r:=H
 have A4:=Za A40;clear A40
 replace H:=Zh H
 obtain⟨⟨t8,t9,t10⟩,A50,H⟩:=H
 replace H:(some (wrap64 ((wrap64 (t5 * 256))+t8)))=some r:=H
 have A5:=Za A50;clear A50
 obtain rfl:=Zg H
 go_enter Tryd.func17,Tryd.ntmps17
 go_wp2_with (first|((with_reducible refine ZU (f:=26) rfl ?_);refine Zaj (some 8) rfl rfl Tryd.func26 (by kernel_rfl) rfl #[.slice A0 l0.length c0,.int .i64 a1] rfl (by(try simp only[List.map_toArray,List.map_cons,List.map_nil]);first|done|rfl|(simp only[Zk,Zj];rfl)) ?_;(with_reducible refine(ZaL.calls k _ _ l0 a1 t1 t2 t3 w _ ?side1 ?side2 ?side3 A3.out).mono ?_);(case side1=>repeat(first|(with_reducible first|exact HB.out|apply Zn|apply Zm|apply Zp)|exact HB.out));(case side2=>exact HR0.out);(case side3=>exact HC0.out);rintro e w6 ⟨g4,rfl,hi,hb,hb2⟩;refine⟨_,rfl,?_⟩;have HI4:=Za (hi);replace HB:=Za (hb);(try clear hb);(try clear hb2);(try clear hk);(try clear hi))|((with_reducible refine ZU (f:=50) rfl ?_);refine Zaj (some 10) rfl rfl Tryd.func50 (by kernel_rfl) rfl #[.pointer (some ⟨g4,0,none⟩)] rfl (by(try simp only[List.map_toArray,List.map_cons,List.map_nil]);first|done|rfl|(simp only[Zk,Zj];rfl)) ?_;(with_reducible refine(ZS.calls g4 t1 t2 t3 t5 t6 t7 w _ ?side1 ?side2 A4.out).mono ?_);(case side1=>repeat(first|(with_reducible first|exact HI4.out|apply ZB.alloc|apply ZB.drewN|apply ZB.drew|apply ZB.set_1|apply ZB.set_2)|exact HI4.out));(case side2=>repeat(first|(with_reducible first|exact HB.out|apply Zn|apply Zm|apply Zp|refine Zq ?_ (ZB.ge HI4.out))|exact HB.out));rintro e w7 ⟨rfl,hi,hb,hk⟩;refine⟨_,rfl,?_⟩;replace HB:=Za (hb);replace HI4:=Za (hi);(try clear hb);(try clear hb2);(try clear hk);(try clear hi))|((with_reducible refine ZU (f:=50) rfl ?_);refine Zaj (some 13) rfl rfl Tryd.func50 (by kernel_rfl) rfl #[.pointer (some ⟨g4,0,none⟩)] rfl (by(try simp only[List.map_toArray,List.map_cons,List.map_nil]);first|done|rfl|(simp only[Zk,Zj];rfl)) ?_;(with_reducible refine(ZS.calls g4 t1 t6 t7 t8 t9 t10 w _ ?side1 ?side2 A5.out).mono ?_);(case side1=>repeat(first|(with_reducible first|exact HI4.out|apply ZB.alloc|apply ZB.drewN|apply ZB.drew|apply ZB.set_1|apply ZB.set_2)|exact HI4.out));(case side2=>repeat(first|(with_reducible first|exact HB.out|apply Zn|apply Zm|apply Zp|refine Zq ?_ (ZB.ge HI4.out))|exact HB.out));rintro e w8 ⟨rfl,hi,hb,hk⟩;refine⟨_,rfl,?_⟩;replace HB:=Za (hb);replace HI4:=Za (hi);(try clear hb);(try clear hb2);(try clear hk);(try clear hi)))
 go_ret
 exact⟨by first|rfl|(simp[ZD,ZC] <;> rfl)|(simp[*,ZD,ZC] <;> rfl),by repeat(first|(with_reducible first|exact HB.out|apply Zn|apply Zm|apply Zp|refine Zq ?_ (ZB.ge HI4.out))|exact HB.out)⟩
end Go.Proofs.YtoeimopgoaffcaaDoor.Pr
