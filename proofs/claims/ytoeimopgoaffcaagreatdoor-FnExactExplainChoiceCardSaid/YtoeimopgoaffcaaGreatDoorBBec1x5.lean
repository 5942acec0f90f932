/- By a program of this session. -/
import Derived.Test.YtoeimopgoaffcaaGreatDoorBBec1x4
set_option maxHeartbeats 8000000
set_option maxRecDepth 100000
namespace Go.Proofs.YtoeimopgoaffcaaGreatDoor.Pr
open RowKit YtoeimopgoaffcaaGreatDoorW.PrintWords YtoeimopgoaffcaaGreatDoorW.PrintLast YtoeimopgoaffcaaGreatDoorW.PrintMore
attribute [local go_sem] Zau Zas ZaL ZaK Zaf Zae Zat Zar
set_option linter.unusedVariables false
set_option linter.unusedSimpArgs false
open Ni
def ZcC (ns:List S39) (n:S39):Bool:=!(n.f1.any fun x=>!Zb7 ns n.f1 x)
def Zal (ns:List S39) (ts:List S82) (z:Int):Bool:=ZV ns && Zbz ns ts && !(decide (z<1)) && !(decide (10<z)) && ns.all (ZcC ns)
def ZbE.f (l0_0:List (S39)) (l0_1:List (S82)) (a0_2:Int):Option Bool:=if fitN l0_0=true then some (Zal l0_0 l0_1 a0_2) else none
theorem ZgM.clo (k:Nat) (hk:2 ^ 64≤k) (B D:Nat) (A0_0:Option Addr) (c0_0:Nat) (l0_0:List S39) (A0_1:Option Addr) (c0_1:Nat) (l0_1:List S82) (a0_2:Int) (An:Option Addr) (cn:Nat) (lb:List Int) (x:Int) (W:World)
  (h0:W.cell? ⟨B,0,none⟩=some (.slice A0_0 l0_0.length c0_0)) (h1:W.cell? ⟨B,1,none⟩=some (.slice A0_1 l0_1.length c0_1)) (h2:W.cell? ⟨B,2,none⟩=some (.int .i64 a0_2)) (h3:W.cell? ⟨D,1,none⟩=some (.slice An lb.length cn))
  (hr0_0:Kd.C k39 W A0_0 l0_0.length l0_0) (hc0_0:l0_0.length≤c0_0) (hr0_1:Kd.C k82 W A0_1 l0_1.length l0_1) (hc0_1:l0_1.length≤c0_1) (hrn:Kd.C (Kd.int .i64) W An lb.length lb) (hcn:lb.length≤cn)
  (hf:ZbV.f k l0_0 l0_1 a0_2 lb x=some (Zb7 l0_0 lb x)) :
  Calls Tryz.prog 80 #[.int .i64 x,.pointer (some ⟨B,0,none⟩),.pointer (some ⟨D,0,none⟩)] W fun e w'=>e=.returned (.bool (!Zb7 l0_0 lb x))∧Below W.heap.size W w':=by
 have hltB:B<W.heap.size:=Zc W _ h0
 have hltD:D<W.heap.size:=Zc W _ h3
 have HC:=Za (ZbV.calls k A0_0 c0_0 l0_0 A0_1 c0_1 l0_1 a0_2 An cn lb x _ W hr0_0 hc0_0 hr0_1 hc0_1 hrn hcn hf)
 have hu:=Tryz.underlying25
 have hu2:=Tryz.underlying39
 clear hr0_0 hr0_1 hrn hf hc0_0 hc0_1 hcn
 cases b:Zb7 l0_0 lb x
 all_goals
  rw[b] at HC
  clear b
  go_enter Tryz.func80,Tryz.ntmps80
  go_wp2_with (go_at_call 81;refine HC.out.mono ?_;rintro e w' ⟨rfl,hb⟩)
  go_ret
  exact⟨rfl,hb⟩
theorem ZbE.calls (A0_0:Option Addr) (c0_0:Nat) (l0_0:List (S39)) (A0_1:Option Addr) (c0_1:Nat) (l0_1:List (S82)) (a0_2:Int) (r:Bool) (w:World) (hr0_0:Kd.C k39 w A0_0 l0_0.length l0_0) (hc0_0:l0_0.length≤c0_0) (hr0_1:Kd.C k82 w A0_1 l0_1.length l0_1) (hc0_1:l0_1.length≤c0_1) (h:ZbE.f l0_0 l0_1 a0_2=some r) :
  Calls Tryz.prog 19 #[.agg #[.slice A0_0 l0_0.length c0_0,.slice A0_1 l0_1.length c0_1,.int .i64 a0_2]] w fun e w'=>e=.returned (.bool r)∧Below w.heap.size w w':=by
 by_cases hfit:fitN l0_0=true
 case neg=>rw[ZbE.f,if_neg hfit] at h;exact absurd h (by simp)
 rw[ZbE.f,if_pos hfit] at h
 obtain rfl:=Zg h
 have hfi:=fitN_iff hfit
 have hL:l0_0.length≤9223372036854775807:=hr0_0.2.1
 have HRn:=Za hr0_0;have HRt:=Za hr0_1;have HCn:=Za hc0_0;have HCt:=Za hc0_1;have HFI:=Za hfi
 have B1:=Za (Zo (Below.refl w.heap.size w) (.cells #[.slice A0_0 l0_0.length c0_0,.slice A0_1 l0_1.length c0_1,.int .i64 a0_2] 25))
 have HK:=Za fun (W:World) (hA:Below (w.alloc (.cells #[.slice A0_0 l0_0.length c0_0,.slice A0_1 l0_1.length c0_1,.int .i64 a0_2] 25)).heap.size (w.alloc (.cells #[.slice A0_0 l0_0.length c0_0,.slice A0_1 l0_1.length c0_1,.int .i64 a0_2] 25)) W)=>And.intro (B1.out.trans (hA.mono B1.out.size)) (And.intro (Zx hA (show _=some (.slice A0_0 l0_0.length c0_0) from showCell0 w _ _ _ _)) (And.intro (Zx hA (showCell1 w _ _ _ _)) (And.intro (Zx hA (showCell2 w _ _ _ _)) (show w.heap.size<W.heap.size from Nat.lt_of_lt_of_le (by simp) hA.size))))
 have HN:=Za fun (W:World) (hb:Below w.heap.size w W)=>Zco.calls A0_0 c0_0 l0_0 A0_1 c0_1 l0_1 a0_2 _ W (Zb hr0_0 hb) hc0_0 (Zb hr0_1 hb) hc0_1 (areNodes_f l0_0 l0_1 a0_2 hfi)
 have HT:=Za fun (W:World) (hb:Below w.heap.size w W)=>Zd2.calls A0_0 c0_0 l0_0 A0_1 c0_1 l0_1 a0_2 _ W (Zb hr0_0 hb) hc0_0 (Zb hr0_1 hb) hc0_1 rfl
 have hlb:ZV l0_0=true→∀n∈l0_0,∀x∈n.f1,Zbp x=true:=ZdG
 clear hr0_0 hr0_1 hc0_0 hc0_1 h hfi hfit
 have hu:=Tryz.underlying25
 have hu2:=Tryz.underlying39
 cases b1:ZV l0_0 with
 | false=>
  rw[b1] at HN
  have HF:=Za (show Zal l0_0 l0_1 a0_2=false by simp[Zal,b1])
  clear hlb b1
  go_enter Tryz.func19,Tryz.ntmps19
  go_wp2_with (go_at_call 77;refine(HN.out _ B1.out).mono ?_;rintro e w1 ⟨rfl,hb⟩;obtain⟨hB,hc0,hc1,hc2,hS⟩:=HK.out _ hb)
  go_ret
  exact⟨by rw[HF.out];rfl,hB⟩
 | true=>
 rw[b1] at HN
 have HLB:=Za (hlb b1)
 clear hlb
 cases b2:Zbz l0_0 l0_1 with
 | false=>
  rw[b2] at HT
  have HF:=Za (show Zal l0_0 l0_1 a0_2=false by simp[Zal,b2])
  clear b1 b2
  go_enter Tryz.func19,Tryz.ntmps19
  go_wp2_with (first|(go_at_call 77;refine(HN.out _ B1.out).mono ?_;rintro e w1 ⟨rfl,hA⟩;obtain⟨hB,hc0,hc1,hc2,hS⟩:=HK.out _ hA)|(go_at_call 78;refine(HT.out _ hB).mono ?_;rintro e w2 ⟨rfl,hb⟩;replace hA:=hA.trans (hb.mono hA.size);clear hB hc0 hc1 hc2 hS;obtain⟨hB,hc0,hc1,hc2,hS⟩:=HK.out _ hA;clear hb))
  go_ret
  exact⟨by rw[HF.out];rfl,hB⟩
 | true=>
 rw[b2] at HT
 cases b3:decide (a0_2<1) with
 | true=>
  have HF:=Za (show Zal l0_0 l0_1 a0_2=false by simp[Zal,b3])
  clear b1 b2
  go_enter Tryz.func19,Tryz.ntmps19
  go_wp2_with (first|(go_at_call 77;refine(HN.out _ B1.out).mono ?_;rintro e w1 ⟨rfl,hA⟩;obtain⟨hB,hc0,hc1,hc2,hS⟩:=HK.out _ hA)|(go_at_call 78;refine(HT.out _ hB).mono ?_;rintro e w2 ⟨rfl,hb⟩;replace hA:=hA.trans (hb.mono hA.size);clear hB hc0 hc1 hc2 hS;obtain⟨hB,hc0,hc1,hc2,hS⟩:=HK.out _ hA;clear hb))
  go_ret
  exact⟨by rw[HF.out];rfl,hB⟩
 | false=>
 cases b4:decide (10<a0_2) with
 | true=>
  have HF:=Za (show Zal l0_0 l0_1 a0_2=false by simp[Zal,b4])
  clear b1 b2
  go_enter Tryz.func19,Tryz.ntmps19
  go_wp2_with (first|(go_at_call 77;refine(HN.out _ B1.out).mono ?_;rintro e w1 ⟨rfl,hA⟩;obtain⟨hB,hc0,hc1,hc2,hS⟩:=HK.out _ hA)|(go_at_call 78;refine(HT.out _ hB).mono ?_;rintro e w2 ⟨rfl,hb⟩;replace hA:=hA.trans (hb.mono hA.size);clear hB hc0 hc1 hc2 hS;obtain⟨hB,hc0,hc1,hc2,hS⟩:=HK.out _ hA;clear hb))
  go_ret
  exact⟨by rw[HF.out];rfl,hB⟩
 | false=>
 have HF:=Za (show Zal l0_0 l0_1 a0_2=l0_0.all (ZcC l0_0) by simp[Zal,b1,b2,b3,b4])
 clear b1 b2
 go_enter Tryz.func19,Tryz.ntmps19
 go_wp2_with (first|(go_at_call 77;refine(HN.out _ B1.out).mono ?_;rintro e w1 ⟨rfl,hA⟩;obtain⟨hB,hc0,hc1,hc2,hS⟩:=HK.out _ hA)|(go_at_call 78;refine(HT.out _ hB).mono ?_;rintro e w2 ⟨rfl,hb⟩;replace hA:=hA.trans (hb.mono hA.size);clear hB hc0 hc1 hc2 hS;obtain⟨hB,hc0,hc1,hc2,hS⟩:=HK.out _ hA;clear hb))
 have HB0:=Za hB
 have HX0:=Za (And.intro hc0 (And.intro hc1 hc2))
 have HS0:=Za hS;clear hA hB hc0 hc1 hc2 hS
 go_loopg [4,26] l0_0.length (fun gg _ s26 wr=>∃kk:Nat,Aside0 (kk≤l0_0.length)∧Aside0 (l0_0.length - kk≤gg)∧s26=.int .i64 kk∧Aside0 (Below w.heap.size w wr)∧Aside0 (w.heap.size<wr.heap.size)∧Aside0 (wr.cell? ⟨w.heap.size,0,none⟩=some (.slice A0_0 l0_0.length c0_0)∧wr.cell? ⟨w.heap.size,1,none⟩=some (.slice A0_1 l0_1.length c0_1)∧wr.cell? ⟨w.heap.size,2,none⟩=some (.int .i64 a0_2))∧Aside0 (l0_0.all (ZcC l0_0)=(l0_0.drop kk).all (ZcC l0_0)))
 case atStart=>exact⟨0,⟨Nat.zero_le _⟩,⟨by omega⟩,rfl,HB0,HS0,HX0,⟨rfl⟩⟩
 case round=>
  obtain⟨kk,HK',HG,rfl,HBr,HS,HX,HN'⟩:=hrel
  have hsz:=HS.out
  obtain⟨hb0,hb1,hb2_⟩:=HX.out
  by_cases hlt:kk<l0_0.length
  ·have hltz:(kk:Int)<(l0_0.length:Int):=by omega
   obtain⟨ad,Am,cm,e1,hm0,hm1,hm2,lm,gm⟩:=ZaS HRn.out (kk:Int) (by omega) hltz
   cases e1
   have HDR:=Za (Z8 hlt z39)
   have hmem:=Za (ZaG hlt z39)
   rw[← Zcn] at HDR hmem
   rw[Int.toNat_natCast] at hm0 hm1 hm2
   generalize ZI l0_0 (kk:Int)=y at hm0 hm1 hm2 lm gm HDR hmem
   replace hm0:=Zx HBr.out hm0
   replace hm1:=Zx HBr.out hm1
   replace hm2:=Zx HBr.out hm2
   have hlta:=Zc wr _ hm0
   have LM:=Za lm
   have GM:=Za (Zb gm HBr.out)
   clear lm gm
   have B2:=Za (Zo (Below.refl wr.heap.size wr) (.cells #[.string y.f0,.slice Am y.f1.length cm,.int .i64 y.f2] 39))
   have HC:=Za fun (W:World) (hb:Below wr.heap.size wr W) (hcell:W.cell? ⟨wr.heap.size,1,none⟩=some (.slice Am y.f1.length cm))=>ZbZ.any (fun x=>!Zb7 l0_0 y.f1 x) 80 #[.pointer (some ⟨w.heap.size,0,none⟩),.pointer (some ⟨wr.heap.size,0,none⟩)] (enters_of Tryz.func80 (by kernel_rfl) rfl) Am cm y.f1 W (Zb GM.out hb)
    (fun W' x hx hb'=>ZgM.clo (2 ^ 64) (Nat.le_refl _) w.heap.size wr.heap.size (some ad) c0_0 l0_0 A0_1 c0_1 l0_1 a0_2 Am cm y.f1 x W' (Zx hb' (Zx hb HX.out.1)) (Zx hb' (Zx hb HX.out.2.1)) (Zx hb' (Zx hb HX.out.2.2)) (Zx hb' hcell)
     (Zb (Zb (Zb HRn.out HBr.out) hb) hb') HCn.out (Zb (Zb (Zb HRt.out HBr.out) hb) hb') HCt.out (Zb (Zb GM.out hb) hb') LM.out
     (isWatched_f l0_0 l0_1 a0_2 y.f1 x (fun n hn=>(HFI.out n hn).2) (HFI.out y hmem.out).2 (HLB.out y hmem.out x hx) (2 ^ 64) (Nat.le_refl _)))
   cases b5:y.f1.any (fun x=>!Zb7 l0_0 y.f1 x) with
   | true=>
    rw[b5] at HC
    have HF2:=Za (show Zal l0_0 l0_1 a0_2=false by
     rw[HF.out,HN'.out,HDR.out,List.all_cons,show ZcC l0_0 y=false by unfold ZcC;rw[b5];rfl];rfl)
    clear b5
    go_wp2_with fail
    refine(HC.out _ B2.out (by go_simp)).mono ?_
    rintro e w3 ⟨rfl,hb⟩
    have hb3:=B2.out.trans (hb.mono B2.out.size)
    go_wp2
    go_ret
    exact⟨by rw[HF2.out];rfl,HBr.out.trans (hb3.mono HBr.out.size)⟩
   | false=>
    rw[b5] at HC
    have HF2:=Za (show l0_0.all (ZcC l0_0)=(l0_0.drop (kk+1)).all (ZcC l0_0) by
     rw[HN'.out,HDR.out,List.all_cons,show ZcC l0_0 y=true by unfold ZcC;rw[b5];rfl];rfl)
    clear b5
    go_wp2_with fail
    refine(HC.out _ B2.out (by go_simp)).mono ?_
    rintro e w3 ⟨rfl,hb⟩
    have hb3:=B2.out.trans (hb.mono B2.out.size)
    go_wp2
    go_roundg (l0_0.length - (kk+1))
    case measure=>have:=HG.out;omega
    case rel=>exact⟨kk+1,⟨by omega⟩,⟨by omega⟩,by go_num,⟨HBr.out.trans (hb3.mono HBr.out.size)⟩,⟨by have:=hb3.size;omega⟩,⟨Zx hb3 hb0,Zx hb3 hb1,Zx hb3 hb2_⟩,HF2⟩
  ·have hltz:¬(kk:Int)<(l0_0.length:Int):=by omega
   have:kk=l0_0.length:=by have:=HK'.out;omega
   subst this
   have HF2:=Za (show Zal l0_0 l0_1 a0_2=true by
    rw[HF.out,HN'.out,List.drop_length];rfl)
   go_wp2
   go_ret
   exact⟨by rw[HF2.out];rfl,HBr.out⟩
def ZaP.l0:Nat→ByteArray→List (S39)→Int→Int→Option (Int)
 | 0,_,_,_,_=>none
 | k+1,x1,x8,x9,x10=>if x10<x9 then(if 0≤x10 then(if x10<(x8.length:Int) then(if ((ZI x8 x10).f0).toList=x1.toList then(some x10) else(ZaP.l0 k x1 x8 x9 (wrap64 (x10+1)))) else(none)) else(none)) else(some (-1))
def ZaP.f (k:Nat) (l0_0:List (S39)) (l0_1:List (S82)) (a0_2:Int) (a1:ByteArray):Option (Int):=ZaP.l0 k a1 l0_0 (l0_0.length:Int) 0
theorem ZaP.calls (k:Nat) (A0_0:Option Addr) (c0_0:Nat) (l0_0:List (S39)) (A0_1:Option Addr) (c0_1:Nat) (l0_1:List (S82)) (a0_2:Int) (a1:ByteArray) (r:Int) (w:World) (hr0_0:Kd.C k39 w A0_0 l0_0.length l0_0) (hc0_0:l0_0.length≤c0_0) (hr0_1:Kd.C k82 w A0_1 l0_1.length l0_1) (hc0_1:l0_1.length≤c0_1) (h:ZaP.f k l0_0 l0_1 a0_2 a1=some r) :
  Calls Tryz.prog 125 #[.agg #[.slice A0_0 l0_0.length c0_0,.slice A0_1 l0_1.length c0_1,.int .i64 a0_2],.string a1] w fun e w'=>e=.returned (.int .i64 r)∧Below w.heap.size w w':=by
 have hu25:=Tryz.underlying25
 have hu39:=Tryz.underlying39
 have HR0_0:=Za hr0_0;have HC0_0:=Za hc0_0;clear hr0_0 hc0_0;have HR0_1:=Za hr0_1;have HC0_1:=Za hc0_1;clear hr0_1 hc0_1
 have HB:=Za (Below.refl w.heap.size w)
 have H:(ZaP.l0 k a1 l0_0 (l0_0.length:Int) 0)=some r:=h
 clear h
 have H':=Za H
 clear H
 go_enter Tryz.func125,Tryz.ntmps125
 go_wp2_with (first|((with_reducible refine ZG (N:=2) rfl ?_);refine ZH ?hg (N:=2) ?hd (cs:=#[.slice A0_0 l0_0.length c0_0,.slice A0_1 l0_1.length c0_1,.int .i64 a0_2]) (t:=25) ?hr ?_;(case hd=>rfl);(case hg=>rfl);(case hr=>first|(go_simp;done)|(go_simp;rfl));intro gb1 hg w3 hbox hb;have BK1:=Za (hbox);have GW1:=Za ((by rw[hg];exact(Zv (by exact HB.out)):w.heap.size≤gb1));have GE1:=Za ((by rw[hg];exact(Zv (by exact HB.out)):w.heap.size≤gb1));replace HB:=Za (Zq (by exact HB.out) hb);clear hb hbox hg;have hcz4_0:w3.cell? ⟨gb1,0,none⟩=some (.slice A0_0 l0_0.length c0_0):=(Zn BK1.out 0).trans rfl;have hcz4_1:w3.cell? ⟨gb1,1,none⟩=some (.slice A0_1 l0_1.length c0_1):=(Zn BK1.out 1).trans rfl;have hcz4_2:w3.cell? ⟨gb1,2,none⟩=some (.int .i64 a0_2):=(Zn BK1.out 2).trans rfl;have hfz4_0:=Zt BK1.out 0;have hfz4_1:=Zt BK1.out 1;have hfz4_2:=Zt BK1.out 2))
 go_loopg [10] k (fun kq v10 w'=>∃(x10_1:Int),v10=.int .i64 x10_1∧Aside0 (ZaP.l0 kq a1 l0_0 (l0_0.length:Int) x10_1=some r)∧Aside0 (kq≤k)∧Aside0 (w'.heap[gb1]? = some (.cells #[(.slice A0_0 l0_0.length c0_0),(.slice A0_1 l0_1.length c0_1),.int .i64 a0_2] 25 (0,0)))∧Aside0 (Below w.heap.size w w'))
 case atStart=>exact⟨(0),(by first|rfl|(simp;done)|(simp[*];done)),H',⟨Nat.le_refl _⟩,⟨by(with_reducible repeat(first|refine ZD ?_ _|refine ZE ?_|refine ZC ?_ _));exact BK1.out⟩,⟨by repeat(first|(with_reducible first|exact HB.out|apply Zo|apply Zm|apply Zp|refine Zs ?_ GE1.out)|exact HB.out)⟩⟩
 case round=>
  clear H'
  try clear c1
  try clear p2
  try clear hcz4_0
  try clear hcz4_1
  try clear hcz4_2
  try clear hfz4_0
  try clear hfz4_1
  try clear hfz4_2
  obtain⟨x10_1,rfl,HA,HK1,BK1,HB⟩:=hrel
  cases gk with
  | zero=>exact absurd HA.out (by simp[ZaP.l0])
  | succ k1=>
   have H:=HA.out
   clear HA
   simp only[ZaP.l0] at H
   by_cases c5:x10_1<(l0_0.length:Int)
   ·rw[if_pos c5] at H
    have c5b0:decide (x10_1<(l0_0.length:Int))=true:=Ze c5
    clear c5
    by_cases c6:0≤x10_1
    ·rw[if_pos c6] at H
     have c6b0:decide (0≤x10_1)=true:=Ze c6
     clear c6
     by_cases c7:x10_1<(l0_0.length:Int)
     ·rw[if_pos c7] at H
      have c7b0:decide (x10_1<(l0_0.length:Int))=true:=Ze c7
      clear c7
      by_cases c8:((ZI l0_0 x10_1).f0).toList=a1.toList
      ·rw[if_pos c8] at H
       have c8b0:(((ZI l0_0 x10_1).f0).toList == a1.toList)=true:=beq_iff_eq.mpr c8
       clear c8
       obtain rfl:=Zg H
       have p125002:0≤(x10_1:Int):=Zd (by with_reducible assumption)
       have q2:x10_1<(l0_0.length:Int):=Zd (by with_reducible assumption)
       obtain⟨ad2,A2_1,c2_1,e2,hx2_0,hx2_1,hx2_2,hl2_1,hi2_1⟩:=ZaS HR0_0.out x10_1 p125002 q2
       cases e2
       replace hx2_0:=(HB.out.cell (Zc w _ hx2_0)).trans hx2_0
       replace hx2_1:=(HB.out.cell (Zc w _ hx2_1)).trans hx2_1
       replace hx2_2:=(HB.out.cell (Zc w _ hx2_2)).trans hx2_2
       have HR2_1:=Za hi2_1;have HC2_1:=Za hl2_1;clear hi2_1 hl2_1
       replace p125002:=eq_true p125002
       replace q2:=eq_true q2
       go_wp2_with (first|((with_reducible refine ZG (N:=6) rfl ?_);refine ZH ?hg (N:=6) ?hd (cs:=#[.string (⟨#[]⟩:ByteArray),.slice none 0 0,.int .i64 0]) (t:=39) ?hr ?_;(case hd=>rfl);(case hg=>rfl);(case hr=>first|(go_simp;done)|(go_simp;rfl));intro gb3 hg w9 hbox hb;have BK3:=Za (hbox);have GW3:=Za ((by rw[hg];exact(Zv (by exact HB.out)):w.heap.size≤gb3));have GE3:=Za ((by rw[hg];exact(Zv (by exact HB.out)):w.heap.size≤gb3));have NB1_3:=Za ((by rw[hg];exact Nat.ne_of_lt (ZK (g:=gb1) (o:=.cells #[.slice (some ad2) l0_0.length c0_0,.slice A0_1 l0_1.length c0_1,.int .i64 a0_2] 25 (0,0)) (by exact BK1.out)):gb1≠gb3));have NB3_1:=Za ((by rw[hg];exact Nat.ne_of_gt (ZK (g:=gb1) (o:=.cells #[.slice (some ad2) l0_0.length c0_0,.slice A0_1 l0_1.length c0_1,.int .i64 a0_2] 25 (0,0)) (by exact BK1.out)):gb3≠gb1));replace BK1:=Za (Zw (g:=gb1) (o:=.cells #[.slice (some ad2) l0_0.length c0_0,.slice A0_1 l0_1.length c0_1,.int .i64 a0_2] 25 (0,0)) (by exact BK1.out) hb);replace HB:=Za (Zq (by exact HB.out) hb);clear hb hbox hg;have hcz11_0:w9.cell? ⟨gb3,0,none⟩=some (.string (⟨#[]⟩:ByteArray)):=(Zn BK3.out 0).trans rfl;have hcz11_1:w9.cell? ⟨gb3,1,none⟩=some (.slice none 0 0):=(Zn BK3.out 1).trans rfl;have hcz11_2:w9.cell? ⟨gb3,2,none⟩=some (.int .i64 0):=(Zn BK3.out 2).trans rfl;have hfz11_0:=Zt BK3.out 0;have hfz11_1:=Zt BK3.out 1;have hfz11_2:=Zt BK3.out 2))
       go_ret
       exact⟨by first|rfl|(simp[ZB,ZA] <;> rfl)|(simp[*,ZB,ZA] <;> rfl),by repeat(first|(with_reducible first|exact HB.out|apply Zo|apply Zm|apply Zp|refine Zs ?_ GE1.out|refine Zs ?_ GE3.out)|exact HB.out)⟩
      ·rw[if_neg c8] at H
       have c8b0:(((ZI l0_0 x10_1).f0).toList == a1.toList)=false:=beq_eq_false_iff_ne.mpr c8
       have H':=Za H
       clear H
       have p125002:0≤(x10_1:Int):=Zd (by with_reducible assumption)
       have q2:x10_1<(l0_0.length:Int):=Zd (by with_reducible assumption)
       obtain⟨ad2,A2_1,c2_1,e2,hx2_0,hx2_1,hx2_2,hl2_1,hi2_1⟩:=ZaS HR0_0.out x10_1 p125002 q2
       cases e2
       replace hx2_0:=(HB.out.cell (Zc w _ hx2_0)).trans hx2_0
       replace hx2_1:=(HB.out.cell (Zc w _ hx2_1)).trans hx2_1
       replace hx2_2:=(HB.out.cell (Zc w _ hx2_2)).trans hx2_2
       have HR2_1:=Za hi2_1;have HC2_1:=Za hl2_1;clear hi2_1 hl2_1
       replace p125002:=eq_true p125002
       replace q2:=eq_true q2
       go_wp2_with (first|((with_reducible refine ZG (N:=6) rfl ?_);refine ZH ?hg (N:=6) ?hd (cs:=#[.string (⟨#[]⟩:ByteArray),.slice none 0 0,.int .i64 0]) (t:=39) ?hr ?_;(case hd=>rfl);(case hg=>rfl);(case hr=>first|(go_simp;done)|(go_simp;rfl));intro gb3 hg w12 hbox hb;have BK3:=Za (hbox);have GW3:=Za ((by rw[hg];exact(Zv (by exact HB.out)):w.heap.size≤gb3));have GE3:=Za ((by rw[hg];exact(Zv (by exact HB.out)):w.heap.size≤gb3));have NB1_3:=Za ((by rw[hg];exact Nat.ne_of_lt (ZK (g:=gb1) (o:=.cells #[.slice (some ad2) l0_0.length c0_0,.slice A0_1 l0_1.length c0_1,.int .i64 a0_2] 25 (0,0)) (by exact BK1.out)):gb1≠gb3));have NB3_1:=Za ((by rw[hg];exact Nat.ne_of_gt (ZK (g:=gb1) (o:=.cells #[.slice (some ad2) l0_0.length c0_0,.slice A0_1 l0_1.length c0_1,.int .i64 a0_2] 25 (0,0)) (by exact BK1.out)):gb3≠gb1));replace BK1:=Za (Zw (g:=gb1) (o:=.cells #[.slice (some ad2) l0_0.length c0_0,.slice A0_1 l0_1.length c0_1,.int .i64 a0_2] 25 (0,0)) (by exact BK1.out) hb);replace HB:=Za (Zq (by exact HB.out) hb);clear hb hbox hg;have hcz14_0:w12.cell? ⟨gb3,0,none⟩=some (.string (⟨#[]⟩:ByteArray)):=(Zn BK3.out 0).trans rfl;have hcz14_1:w12.cell? ⟨gb3,1,none⟩=some (.slice none 0 0):=(Zn BK3.out 1).trans rfl;have hcz14_2:w12.cell? ⟨gb3,2,none⟩=some (.int .i64 0):=(Zn BK3.out 2).trans rfl;have hfz14_0:=Zt BK3.out 0;have hfz14_1:=Zt BK3.out 1;have hfz14_2:=Zt BK3.out 2))
       go_roundg k1
       case measure=>have:=HK1.out;omega
       case rel=>exact⟨(wrap64 (x10_1+1)),(by first|rfl|(simp;done)|(simp[*];done)),H',⟨by have:=HK1.out;omega⟩,⟨by(with_reducible repeat(first|refine ZD ?_ _|refine ZE ?_|refine ZC ?_ _));refine ZP ?_ NB1_3.out _;(with_reducible repeat(first|refine ZD ?_ _|refine ZE ?_|refine ZC ?_ _));refine ZP ?_ NB1_3.out _;(with_reducible repeat(first|refine ZD ?_ _|refine ZE ?_|refine ZC ?_ _));refine ZP ?_ NB1_3.out _;(with_reducible repeat(first|refine ZD ?_ _|refine ZE ?_|refine ZC ?_ _));exact BK1.out⟩,⟨by repeat(first|(with_reducible first|exact HB.out|apply Zo|apply Zm|apply Zp|refine Zs ?_ GE1.out|refine Zs ?_ GE3.out)|exact HB.out)⟩⟩
     ·rw[if_neg c7] at H
      exact absurd H (by simp)
    ·rw[if_neg c6] at H
     exact absurd H (by simp)
   ·rw[if_neg c5] at H
    have c5b0:decide (x10_1<(l0_0.length:Int))=false:=Zf c5
    clear c5
    obtain rfl:=Zg H
    go_wp2
    go_ret
    exact⟨by first|rfl|(simp[ZB,ZA] <;> rfl)|(simp[*,ZB,ZA] <;> rfl),by repeat(first|(with_reducible first|exact HB.out|apply Zo|apply Zm|apply Zp|refine Zs ?_ GE1.out)|exact HB.out)⟩
def Zd0 (ns:List ZM) (s:ByteArray):Int:=Za9 (fun n=>decide (n.f0.toList=s.toList)) ns
theorem Zfs (ns:List ZM) (ts:List PTie) (z:Int) (s:ByteArray) (hl:ns.length≤9223372036854775807) (k:Nat) (hk:2 ^ 64≤k):ZaP.f k ns ts z s=some (Zd0 ns s):=by
 have key:=Za2 ns.length (fun k i=>(∀j y,j<i→ns[j]? = some y→decide (y.f0.toList=s.toList)=false)→ZaP.l0 k s ns ns.length (i:Int)=some (Zd0 ns s)) 0
  (fun k _ hb=>by
   simp only[ZaP.l0]
   rw[if_neg (by omega),Zd0,ZbX _ _ hb])
  (fun k i _ hi ih hb=>by
   simp only[ZaP.l0]
   rw[if_pos (by omega),if_pos (by omega),if_pos (by omega),Zcn,ZL hi (by omega)]
   by_cases h:(ns.getD i z39).f0.toList=s.toList
   ·rw[if_pos h,Zd0,Zb1 _ ns i _ (getD_some hi z39) (Ze h) hb]
   ·rw[if_neg h,ih]
    intro j y hj hy
    by_cases e:j=i
    ·subst e
     rw[getD_some hi z39] at hy
     cases hy
     exact Zf h
    ·exact hb j y (by omega) hy) 0 k (Nat.zero_le _) (by omega)
 unfold ZaP.f
 exact key (fun j y hj=>absurd hj (by omega))
end Go.Proofs.YtoeimopgoaffcaaGreatDoor.Pr
