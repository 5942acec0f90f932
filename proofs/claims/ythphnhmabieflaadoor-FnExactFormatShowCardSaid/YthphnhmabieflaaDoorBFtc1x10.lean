/- The texts of one claim, put together by a program of this session. -/
import Derived.Deep.LoopGhost
import Derived.Shelf.Strings.OnBuilder
import Derived.Shelf.Small.Strs
import Derived.Shelf.LaysM
import Derived.Shelf.Strconv.Itoa3
import Derived.Test.YthphnhmabieflaaDoorProg
import Derived.Deep.RegionHeld3
import Derived.Lib.ItoaNum
import Derived.Lib.Join
import Derived.Test.YthphnhmabieflaaDoorBFtc1x1
import Derived.Test.YthphnhmabieflaaDoorBFtc1x2
import Derived.Test.YthphnhmabieflaaDoorBFtc1x3
import Derived.Test.YthphnhmabieflaaDoorBFtc1x4
import Derived.Test.YthphnhmabieflaaDoorBFtc1x6
import Derived.Test.YthphnhmabieflaaDoorBFtc1x7
import Derived.Test.YthphnhmabieflaaDoorBFtc1x8
import Derived.Test.YthphnhmabieflaaDoorBFtc1x9
namespace Go.Proofs.YthphnhmabieflaaDoor.Pr
open Go.RowKit Go.Proofs.YthphnhmabieflaaDoorW.PrintWords Go.Proofs.YthphnhmabieflaaDoorW.PrintLast Go.Proofs.YthphnhmabieflaaDoorW.PrintMore
attribute [local go_sem] Zah Zaf Zas Zar Z8 Z7 Zag Zae
set_option linter.unusedVariables false
set_option linter.unusedSimpArgs false
open Go.Proofs.YthphnhmabieflaaDoor.Ni
def ZbW (ns:List S73) (n:S73):Bool:=!(n.f1.any fun x=>!ZbE ns n.f1 x)
def ZaL (ns:List S73) (ts:List S66) (z:Int):Bool:=Zac ns && ZaU ns ts && !(decide (z<1)) && !(decide (10<z)) && ns.all (ZbW ns)
def ZaG.f (l0_0:List (S73)) (l0_1:List (S66)) (a0_2:Int):Option Bool:=if fitN l0_0=true then some (ZaL l0_0 l0_1 a0_2) else none
set_option maxHeartbeats 8000000 in
theorem ZeO.clo (k:Nat) (hk:2 ^ 64≤k) (B D:Nat) (A0_0:Option Addr) (c0_0:Nat) (l0_0:List S73) (A0_1:Option Addr) (c0_1:Nat) (l0_1:List S66) (a0_2:Int) (An:Option Addr) (cn:Nat) (lb:List Int) (x:Int) (W:World)
  (h0:W.cell? ⟨B,0,none⟩=some (.slice A0_0 l0_0.length c0_0)) (h1:W.cell? ⟨B,1,none⟩=some (.slice A0_1 l0_1.length c0_1)) (h2:W.cell? ⟨B,2,none⟩=some (.int .i64 a0_2)) (h3:W.cell? ⟨D,1,none⟩=some (.slice An lb.length cn))
  (hr0_0:Kd.C k73 W A0_0 l0_0.length l0_0) (hc0_0:l0_0.length≤c0_0) (hr0_1:Kd.C k66 W A0_1 l0_1.length l0_1) (hc0_1:l0_1.length≤c0_1) (hrn:Kd.C (Kd.int .i64) W An lb.length lb) (hcn:lb.length≤cn)
  (hf:Zbu.f k l0_0 l0_1 a0_2 lb x=some (ZbE l0_0 lb x)) :
  Calls Tryd.prog 82 #[.int .i64 x,.pointer (some ⟨B,0,none⟩),.pointer (some ⟨D,0,none⟩)] W fun e w'=>e=.returned (.bool (!ZbE l0_0 lb x))∧Below W.heap.size W w':=by
 have hltB:B<W.heap.size:=Zc W _ h0
 have hltD:D<W.heap.size:=Zc W _ h3
 have HC:=Za (Zbu.calls k A0_0 c0_0 l0_0 A0_1 c0_1 l0_1 a0_2 An cn lb x _ W hr0_0 hc0_0 hr0_1 hc0_1 hrn hcn hf)
 have hu:=Tryd.underlying36
 have hu2:=Tryd.underlying73
 clear hr0_0 hr0_1 hrn hf hc0_0 hc0_1 hcn
 cases b:ZbE l0_0 lb x
 all_goals
  rw[b] at HC
  clear b
  go_enter Tryd.func82,Tryd.ntmps82
  go_wp2_with (go_at_call 83;refine HC.out.mono ?_;rintro e w' ⟨rfl,hb⟩)
  go_ret
  exact⟨rfl,hb⟩
set_option maxHeartbeats 8000000 in
set_option maxRecDepth 100000 in
theorem ZaG.calls (A0_0:Option Addr) (c0_0:Nat) (l0_0:List (S73)) (A0_1:Option Addr) (c0_1:Nat) (l0_1:List (S66)) (a0_2:Int) (r:Bool) (w:World) (hr0_0:Kd.C k73 w A0_0 l0_0.length l0_0) (hc0_0:l0_0.length≤c0_0) (hr0_1:Kd.C k66 w A0_1 l0_1.length l0_1) (hc0_1:l0_1.length≤c0_1) (h:ZaG.f l0_0 l0_1 a0_2=some r) :
  Calls Tryd.prog 48 #[.agg #[.slice A0_0 l0_0.length c0_0,.slice A0_1 l0_1.length c0_1,.int .i64 a0_2]] w fun e w'=>e=.returned (.bool r)∧Below w.heap.size w w':=by
 by_cases hfit:fitN l0_0=true
 case neg=>rw[ZaG.f,if_neg hfit] at h;exact absurd h (by simp)
 rw[ZaG.f,if_pos hfit] at h
 obtain rfl:=Zg h
 have hfi:=fitN_iff hfit
 have hL:l0_0.length≤9223372036854775807:=hr0_0.2.1
 have HRn:=Za hr0_0;have HRt:=Za hr0_1;have HCn:=Za hc0_0;have HCt:=Za hc0_1;have HFI:=Za hfi
 have B1:=Za (Zn (Below.refl w.heap.size w) (.cells #[.slice A0_0 l0_0.length c0_0,.slice A0_1 l0_1.length c0_1,.int .i64 a0_2] 36))
 have HK:=Za fun (W:World) (hA:Below (w.alloc (.cells #[.slice A0_0 l0_0.length c0_0,.slice A0_1 l0_1.length c0_1,.int .i64 a0_2] 36)).heap.size (w.alloc (.cells #[.slice A0_0 l0_0.length c0_0,.slice A0_1 l0_1.length c0_1,.int .i64 a0_2] 36)) W)=>And.intro (B1.out.trans (hA.mono B1.out.size)) (And.intro (ZH hA (show _=some (.slice A0_0 l0_0.length c0_0) from showCell0 w _ _ _ _)) (And.intro (ZH hA (showCell1 w _ _ _ _)) (And.intro (ZH hA (showCell2 w _ _ _ _)) (show w.heap.size<W.heap.size from Nat.lt_of_lt_of_le (by simp) hA.size))))
 have HN:=Za fun (W:World) (hb:Below w.heap.size w W)=>ZQ.calls (2 ^ 65) A0_0 c0_0 l0_0 A0_1 c0_1 l0_1 a0_2 _ W (Zb hr0_0 hb) hc0_0 (Zb hr0_1 hb) hc0_1 (areNodes_f l0_0 l0_1 a0_2 hfi (2 ^ 65) (Nat.le_refl _))
 have HT:=Za fun (W:World) (hb:Below w.heap.size w W)=>ZcG.calls A0_0 c0_0 l0_0 A0_1 c0_1 l0_1 a0_2 _ W (Zb hr0_0 hb) hc0_0 (Zb hr0_1 hb) hc0_1 rfl
 have hlb:Zac l0_0=true→∀n∈l0_0,∀x∈n.f1,Za7 x=true:=Zcu
 clear hr0_0 hr0_1 hc0_0 hc0_1 h hfi hfit
 have hu:=Tryd.underlying36
 have hu2:=Tryd.underlying73
 cases b1:Zac l0_0 with
 | false=>
  rw[b1] at HN
  have HF:=Za (show ZaL l0_0 l0_1 a0_2=false by simp[ZaL,b1])
  clear hlb b1
  go_enter Tryd.func48,Tryd.ntmps48
  go_wp2_with (go_at_call 80;refine(HN.out _ B1.out).mono ?_;rintro e w1 ⟨rfl,hb⟩;obtain⟨hB,hc0,hc1,hc2,hS⟩:=HK.out _ hb)
  go_ret
  exact⟨by rw[HF.out];rfl,hB⟩
 | true=>
 rw[b1] at HN
 have HLB:=Za (hlb b1)
 clear hlb
 cases b2:ZaU l0_0 l0_1 with
 | false=>
  rw[b2] at HT
  have HF:=Za (show ZaL l0_0 l0_1 a0_2=false by simp[ZaL,b2])
  clear b1 b2
  go_enter Tryd.func48,Tryd.ntmps48
  go_wp2_with (first|(go_at_call 80;refine(HN.out _ B1.out).mono ?_;rintro e w1 ⟨rfl,hA⟩;obtain⟨hB,hc0,hc1,hc2,hS⟩:=HK.out _ hA)|(go_at_call 81;refine(HT.out _ hB).mono ?_;rintro e w2 ⟨rfl,hb⟩;replace hA:=hA.trans (hb.mono hA.size);clear hB hc0 hc1 hc2 hS;obtain⟨hB,hc0,hc1,hc2,hS⟩:=HK.out _ hA;clear hb))
  go_ret
  exact⟨by rw[HF.out];rfl,hB⟩
 | true=>
 rw[b2] at HT
 cases b3:decide (a0_2<1) with
 | true=>
  have HF:=Za (show ZaL l0_0 l0_1 a0_2=false by simp[ZaL,b3])
  clear b1 b2
  go_enter Tryd.func48,Tryd.ntmps48
  go_wp2_with (first|(go_at_call 80;refine(HN.out _ B1.out).mono ?_;rintro e w1 ⟨rfl,hA⟩;obtain⟨hB,hc0,hc1,hc2,hS⟩:=HK.out _ hA)|(go_at_call 81;refine(HT.out _ hB).mono ?_;rintro e w2 ⟨rfl,hb⟩;replace hA:=hA.trans (hb.mono hA.size);clear hB hc0 hc1 hc2 hS;obtain⟨hB,hc0,hc1,hc2,hS⟩:=HK.out _ hA;clear hb))
  go_ret
  exact⟨by rw[HF.out];rfl,hB⟩
 | false=>
 cases b4:decide (10<a0_2) with
 | true=>
  have HF:=Za (show ZaL l0_0 l0_1 a0_2=false by simp[ZaL,b4])
  clear b1 b2
  go_enter Tryd.func48,Tryd.ntmps48
  go_wp2_with (first|(go_at_call 80;refine(HN.out _ B1.out).mono ?_;rintro e w1 ⟨rfl,hA⟩;obtain⟨hB,hc0,hc1,hc2,hS⟩:=HK.out _ hA)|(go_at_call 81;refine(HT.out _ hB).mono ?_;rintro e w2 ⟨rfl,hb⟩;replace hA:=hA.trans (hb.mono hA.size);clear hB hc0 hc1 hc2 hS;obtain⟨hB,hc0,hc1,hc2,hS⟩:=HK.out _ hA;clear hb))
  go_ret
  exact⟨by rw[HF.out];rfl,hB⟩
 | false=>
 have HF:=Za (show ZaL l0_0 l0_1 a0_2=l0_0.all (ZbW l0_0) by simp[ZaL,b1,b2,b3,b4])
 clear b1 b2
 go_enter Tryd.func48,Tryd.ntmps48
 go_wp2_with (first|(go_at_call 80;refine(HN.out _ B1.out).mono ?_;rintro e w1 ⟨rfl,hA⟩;obtain⟨hB,hc0,hc1,hc2,hS⟩:=HK.out _ hA)|(go_at_call 81;refine(HT.out _ hB).mono ?_;rintro e w2 ⟨rfl,hb⟩;replace hA:=hA.trans (hb.mono hA.size);clear hB hc0 hc1 hc2 hS;obtain⟨hB,hc0,hc1,hc2,hS⟩:=HK.out _ hA;clear hb))
 have HB0:=Za hB
 have HX0:=Za (And.intro hc0 (And.intro hc1 hc2))
 have HS0:=Za hS;clear hA hB hc0 hc1 hc2 hS
 go_loopg [4,26] l0_0.length (fun gg _ s26 wr=>∃kk:Nat,Aside0 (kk≤l0_0.length)∧Aside0 (l0_0.length - kk≤gg)∧s26=.int .i64 kk∧Aside0 (Below w.heap.size w wr)∧Aside0 (w.heap.size<wr.heap.size)∧Aside0 (wr.cell? ⟨w.heap.size,0,none⟩=some (.slice A0_0 l0_0.length c0_0)∧wr.cell? ⟨w.heap.size,1,none⟩=some (.slice A0_1 l0_1.length c0_1)∧wr.cell? ⟨w.heap.size,2,none⟩=some (.int .i64 a0_2))∧Aside0 (l0_0.all (ZbW l0_0)=(l0_0.drop kk).all (ZbW l0_0)))
 case atStart=>exact⟨0,⟨Nat.zero_le _⟩,⟨by omega⟩,rfl,HB0,HS0,HX0,⟨rfl⟩⟩
 case round=>
  obtain⟨kk,HK',HG,rfl,HBr,HS,HX,HN'⟩:=hrel
  have hsz:=HS.out
  obtain⟨hb0,hb1,hb2_⟩:=HX.out
  by_cases hlt:kk<l0_0.length
  ·have hltz:(kk:Int)<(l0_0.length:Int):=by omega
   obtain⟨ad,Am,cm,e1,hm0,hm1,hm2,lm,gm⟩:=Zan HRn.out (kk:Int) (by omega) hltz
   cases e1
   have HDR:=Za (ZaA hlt z73)
   have hmem:=Za (Zbp hlt z73)
   rw[← Zbi] at HDR hmem
   rw[Int.toNat_natCast] at hm0 hm1 hm2
   generalize Zp l0_0 (kk:Int)=y at hm0 hm1 hm2 lm gm HDR hmem
   replace hm0:=ZH HBr.out hm0
   replace hm1:=ZH HBr.out hm1
   replace hm2:=ZH HBr.out hm2
   have hlta:=Zc wr _ hm0
   have LM:=Za lm
   have GM:=Za (Zb gm HBr.out)
   clear lm gm
   have B2:=Za (Zn (Below.refl wr.heap.size wr) (.cells #[.string y.f0,.slice Am y.f1.length cm,.int .i64 y.f2] 73))
   have HC:=Za fun (W:World) (hb:Below wr.heap.size wr W) (hcell:W.cell? ⟨wr.heap.size,1,none⟩=some (.slice Am y.f1.length cm))=>ZbN.any (fun x=>!ZbE l0_0 y.f1 x) 82 #[.pointer (some ⟨w.heap.size,0,none⟩),.pointer (some ⟨wr.heap.size,0,none⟩)] (enters_of Tryd.func82 (by kernel_rfl) rfl) Am cm y.f1 W (Zb GM.out hb)
    (fun W' x hx hb'=>ZeO.clo (2 ^ 64) (Nat.le_refl _) w.heap.size wr.heap.size (some ad) c0_0 l0_0 A0_1 c0_1 l0_1 a0_2 Am cm y.f1 x W' (ZH hb' (ZH hb HX.out.1)) (ZH hb' (ZH hb HX.out.2.1)) (ZH hb' (ZH hb HX.out.2.2)) (ZH hb' hcell)
     (Zb (Zb (Zb HRn.out HBr.out) hb) hb') HCn.out (Zb (Zb (Zb HRt.out HBr.out) hb) hb') HCt.out (Zb (Zb GM.out hb) hb') LM.out
     (isWatched_f l0_0 l0_1 a0_2 y.f1 x (fun n hn=>(HFI.out n hn).2) (HFI.out y hmem.out).2 (HLB.out y hmem.out x hx) (2 ^ 64) (Nat.le_refl _)))
   cases b5:y.f1.any (fun x=>!ZbE l0_0 y.f1 x) with
   | true=>
    rw[b5] at HC
    have HF2:=Za (show ZaL l0_0 l0_1 a0_2=false by
     rw[HF.out,HN'.out,HDR.out,List.all_cons,show ZbW l0_0 y=false by unfold ZbW;rw[b5];rfl];rfl)
    clear b5
    go_wp2_with fail
    refine(HC.out _ B2.out (by go_simp)).mono ?_
    rintro e w3 ⟨rfl,hb⟩
    have hb3:=B2.out.trans (hb.mono B2.out.size)
    go_wp2
    go_ret
    exact⟨by rw[HF2.out];rfl,HBr.out.trans (hb3.mono HBr.out.size)⟩
   | false=>
    rw[b5] at HC
    have HF2:=Za (show l0_0.all (ZbW l0_0)=(l0_0.drop (kk+1)).all (ZbW l0_0) by
     rw[HN'.out,HDR.out,List.all_cons,show ZbW l0_0 y=true by unfold ZbW;rw[b5];rfl];rfl)
    clear b5
    go_wp2_with fail
    refine(HC.out _ B2.out (by go_simp)).mono ?_
    rintro e w3 ⟨rfl,hb⟩
    have hb3:=B2.out.trans (hb.mono B2.out.size)
    go_wp2
    go_roundg (l0_0.length - (kk+1))
    case measure=>have:=HG.out;omega
    case rel=>exact⟨kk+1,⟨by omega⟩,⟨by omega⟩,by go_num,⟨HBr.out.trans (hb3.mono HBr.out.size)⟩,⟨by have:=hb3.size;omega⟩,⟨ZH hb3 hb0,ZH hb3 hb1,ZH hb3 hb2_⟩,HF2⟩
  ·have hltz:¬(kk:Int)<(l0_0.length:Int):=by omega
   have:kk=l0_0.length:=by have:=HK'.out;omega
   subst this
   have HF2:=Za (show ZaL l0_0 l0_1 a0_2=true by
    rw[HF.out,HN'.out,List.drop_length];rfl)
   go_wp2
   go_ret
   exact⟨by rw[HF2.out];rfl,HBr.out⟩
end Go.Proofs.YthphnhmabieflaaDoor.Pr
namespace Go.Proofs
open Go.Shelf
def Tryd.laysM171_ren:Go.Shelf.Ren:=⟨fun|171=>73|243=>98|246=>129|283=>148|284=>149|285=>150|286=>151|129=>128|317=>158|318=>159|319=>160|320=>161|337=>164|338=>165|n=>n,fun|3=>3|9=>9|2=>2|4=>4|171=>149|0=>0|53=>132|37=>48|5=>5|173=>151|212=>166|51=>130|20=>20|213=>167|46=>51|232=>172|233=>173|n=>n,fun|17=>3|18=>4|19=>5|n=>n⟩
theorem Tryd.laysM171:Go.Proofs.LaysM.n171 Tryd.prog Tryd.laysM171_ren:={
 mixed:=by kernel_rfl
 f129:=Tryd.func128.trans (congrArg some (by kernel_rfl))
 f171:=Tryd.func73.trans (congrArg some (by kernel_rfl))
 f243:=Tryd.func98.trans (congrArg some (by kernel_rfl))
 f246:=Tryd.func129.trans (congrArg some (by kernel_rfl))
 f283:=Tryd.func148.trans (congrArg some (by kernel_rfl))
 f284:=Tryd.func149.trans (congrArg some (by kernel_rfl))
 f285:=Tryd.func150.trans (congrArg some (by kernel_rfl))
 f286:=Tryd.func151.trans (congrArg some (by kernel_rfl))
 f317:=Tryd.func158.trans (congrArg some (by kernel_rfl))
 f318:=Tryd.func159.trans (congrArg some (by kernel_rfl))
 f319:=Tryd.func160.trans (congrArg some (by kernel_rfl))
 f320:=Tryd.func161.trans (congrArg some (by kernel_rfl))
 f337:=Tryd.func164.trans (congrArg some (by kernel_rfl))
 f338:=Tryd.func165.trans (congrArg some (by kernel_rfl))
 t0:=Tryd.underlying0
 a0:=Tryd.isAgg0
 z0:=Tryd.sizeOf0
 v0:=Tryd.zeroValue0
 t2:=Tryd.underlying2
 a2:=Tryd.isAgg2
 z2:=Tryd.sizeOf2
 v2:=Tryd.zeroValue2
 t3:=Tryd.underlying3
 a3:=Tryd.isAgg3
 z3:=Tryd.sizeOf3
 v3:=Tryd.zeroValue3
 t4:=Tryd.underlying4
 a4:=Tryd.isAgg4
 z4:=Tryd.sizeOf4
 v4:=Tryd.zeroValue4
 t5:=Tryd.underlying5
 a5:=Tryd.isAgg5
 z5:=Tryd.sizeOf5
 v5:=Tryd.zeroValue5
 t9:=Tryd.underlying9
 a9:=Tryd.isAgg9
 z9:=Tryd.sizeOf9
 v9:=Tryd.zeroValue9
 t20:=Tryd.underlying20
 a20:=Tryd.isAgg20
 z20:=Tryd.sizeOf20
 v20:=Tryd.zeroValue20
 t37:=Tryd.underlying48
 a37:=Tryd.isAgg48
 z37:=Tryd.sizeOf48
 v37:=Tryd.zeroValue48
 t46:=Tryd.underlying51
 a46:=Tryd.isAgg51
 z46:=Tryd.sizeOf51
 v46:=Tryd.zeroValue51
 t51:=Tryd.underlying130
 a51:=Tryd.isAgg130
 z51:=Tryd.sizeOf130
 v51:=Tryd.zeroValue130
 t53:=Tryd.underlying132
 a53:=Tryd.isAgg132
 z53:=Tryd.sizeOf132
 v53:=Tryd.zeroValue132
 t171:=Tryd.underlying149
 a171:=Tryd.isAgg149
 z171:=Tryd.sizeOf149
 v171:=Tryd.zeroValue149
 t173:=Tryd.underlying151
 a173:=Tryd.isAgg151
 z173:=Tryd.sizeOf151
 v173:=Tryd.zeroValue151
 t212:=Tryd.underlying166
 a212:=Tryd.isAgg166
 z212:=Tryd.sizeOf166
 v212:=Tryd.zeroValue166
 t213:=Tryd.underlying167
 a213:=Tryd.isAgg167
 z213:=Tryd.sizeOf167
 t232:=Tryd.underlying172
 a232:=Tryd.isAgg172
 z232:=Tryd.sizeOf172
 v232:=Tryd.zeroValue172
 t233:=Tryd.underlying173
 a233:=Tryd.isAgg173
 z233:=Tryd.sizeOf173
 v233:=Tryd.zeroValue173
 g17:=by kernel_rfl
 g18:=by kernel_rfl
 g19:=by kernel_rfl
 i0:=by kernel_rfl
 i2:=by kernel_rfl
 i3:=by kernel_rfl
 i4:=by kernel_rfl
 i5:=by kernel_rfl
 i9:=by kernel_rfl
 i20:=by kernel_rfl
 i37:=by kernel_rfl
 i46:=by kernel_rfl
 i51:=by kernel_rfl
 i53:=by kernel_rfl
 i171:=by kernel_rfl
 i173:=by kernel_rfl
 i212:=by kernel_rfl
 i232:=by kernel_rfl
 i233:=by kernel_rfl
 m17:=by kernel_rfl
 m18:=by kernel_rfl
 m19:=by kernel_rfl }
open Go.RowKit Go.Sort Go.Lib in
theorem Tryd.strconv_Itoa (n : Int) (h0 : -9223372036854775808 ≤ n) (h1 : n ≤ 9223372036854775807) (w : World) (htab : Lib.TabIs Tryd.prog w "internal/strconv.uint64pow10" .u64 Lib.pow10Tab) :
  Calls Tryd.prog 73 #[.int .i64 n] w fun e w'=>e=.returned (.string ⟨(Lib.itoa n).toArray⟩)∧∃k os,w'=grow (w.drewN k) os:=Any.strconv_Itoa Tryd.laysM171 n h0 h1 w htab
def Tryd.lays156_ren:Go.Shelf.Ren:=⟨fun|156=>74|165=>99|166=>100|169=>101|240=>130|241=>131|276=>152|277=>153|n=>n,fun|31=>56|9=>9|3=>3|4=>4|0=>0|20=>20|72=>111|76=>100|70=>109|37=>48|75=>99|127=>134|164=>153|5=>5|80=>113|n=>n,fun|n=>n⟩
theorem Tryd.lays156:Go.Proofs.Lays.n156 Tryd.prog Tryd.lays156_ren:={
 mixed:=by kernel_rfl
 f156:=Tryd.func74.trans (congrArg some (by kernel_rfl))
 f165:=Tryd.func99.trans (congrArg some (by kernel_rfl))
 f166:=Tryd.func100.trans (congrArg some (by kernel_rfl))
 f169:=Tryd.func101.trans (congrArg some (by kernel_rfl))
 f240:=Tryd.func130.trans (congrArg some (by kernel_rfl))
 f241:=Tryd.func131.trans (congrArg some (by kernel_rfl))
 f276:=Tryd.func152.trans (congrArg some (by kernel_rfl))
 f277:=Tryd.func153.trans (congrArg some (by kernel_rfl))
 t0:=Tryd.underlying0
 a0:=Tryd.isAgg0
 z0:=Tryd.sizeOf0
 v0:=Tryd.zeroValue0
 t3:=Tryd.underlying3
 a3:=Tryd.isAgg3
 z3:=Tryd.sizeOf3
 v3:=Tryd.zeroValue3
 t4:=Tryd.underlying4
 a4:=Tryd.isAgg4
 z4:=Tryd.sizeOf4
 v4:=Tryd.zeroValue4
 t9:=Tryd.underlying9
 a9:=Tryd.isAgg9
 z9:=Tryd.sizeOf9
 v9:=Tryd.zeroValue9
 t20:=Tryd.underlying20
 a20:=Tryd.isAgg20
 z20:=Tryd.sizeOf20
 v20:=Tryd.zeroValue20
 t31:=Tryd.underlying56
 a31:=Tryd.isAgg56
 z31:=Tryd.sizeOf56
 v31:=Tryd.zeroValue56
 t37:=Tryd.underlying48
 a37:=Tryd.isAgg48
 z37:=Tryd.sizeOf48
 v37:=Tryd.zeroValue48
 t70:=Tryd.underlying109
 a70:=Tryd.isAgg109
 z70:=Tryd.sizeOf109
 v70:=Tryd.zeroValue109
 t72:=Tryd.underlying111
 a72:=Tryd.isAgg111
 z72:=Tryd.sizeOf111
 v72:=Tryd.zeroValue111
 t75:=Tryd.underlying99
 a75:=Tryd.isAgg99
 z75:=Tryd.sizeOf99
 v75:=Tryd.zeroValue99
 t76:=Tryd.underlying100
 a76:=Tryd.isAgg100
 z76:=Tryd.sizeOf100
 v76:=Tryd.zeroValue100
 t127:=Tryd.underlying134
 a127:=Tryd.isAgg134
 z127:=Tryd.sizeOf134
 v127:=Tryd.zeroValue134
 t164:=Tryd.underlying153
 a164:=Tryd.isAgg153
 z164:=Tryd.sizeOf153
 v164:=Tryd.zeroValue153 }
theorem Tryd.Builder_Extra_156:Builder.Extra Tryd.prog Tryd.lays156_ren:={
 sizeBuilder:=by kernel_rfl
 liesBuilder:=by kernel_rfl
 t5:=Tryd.underlying5
 a5:=Tryd.isAgg5
 z5:=Tryd.sizeOf5
 v5:=Tryd.zeroValue5
 infoByte:=by kernel_rfl
 cellsByte:=by kernel_rfl
 sizeByte:=by kernel_rfl
 neB5:=by decide }
open Go.RowKit in
theorem Tryd.strings_Join (bk o c:Nat) (xs:List ByteArray) (sep:ByteArray) (w:World) (hcells:∀(j:Nat) x,xs[j]? = some x→w.cell? ⟨bk,o+j,none⟩=some (.string x)) (hbk:bk<w.heap.size) (hN:xs.length≤140737488355328) (hcap:xs.length≤c) (hlen:(Lib.join (xs.map (·.data.toList)) sep.data.toList).length≤140737488355328) :
  Calls Tryd.prog 74 #[.slice (some ⟨bk,o,none⟩) xs.length c,.string sep] w fun e w'=>e=.returned (.string ⟨(Lib.join (xs.map (·.data.toList)) sep.data.toList).toArray⟩)∧Below w.heap.size w w':=Any.strings_Join Tryd.lays156 Tryd.Builder_Extra_156 bk o c xs sep w hcells hbk hN hcap hlen
open Go.RowKit in
theorem Tryd.strings_Join_none (a:Option Addr) (c:Nat) (sep:ByteArray) (w:World) :
  Calls Tryd.prog 74 #[.slice a 0 c,.string sep] w fun e w'=>e=.returned (.string ⟨#[]⟩)∧w'=w:=Any.strings_Join_none Tryd.lays156 Tryd.Builder_Extra_156 a c sep w
def Tryd.lays137_ren:Go.Shelf.Ren:=⟨fun|137=>87|217=>116|266=>137|n=>n,fun|9=>9|5=>5|3=>3|n=>n,fun|n=>n⟩
theorem Tryd.lays137:Go.Proofs.Lays.n137 Tryd.prog Tryd.lays137_ren:={
 mixed:=by kernel_rfl
 f137:=Tryd.func87.trans (congrArg some (by kernel_rfl))
 f217:=Tryd.func116.trans (congrArg some (by kernel_rfl))
 f266:=Tryd.func137.trans (congrArg some (by kernel_rfl))
 t3:=Tryd.underlying3
 a3:=Tryd.isAgg3
 z3:=Tryd.sizeOf3
 v3:=Tryd.zeroValue3
 t5:=Tryd.underlying5
 a5:=Tryd.isAgg5
 z5:=Tryd.sizeOf5
 v5:=Tryd.zeroValue5
 t9:=Tryd.underlying9
 a9:=Tryd.isAgg9
 z9:=Tryd.sizeOf9
 v9:=Tryd.zeroValue9 }
open Go.RowKit in
theorem Tryd.strings_IndexByte (s:ByteArray) (c:Int) (w:World) :
  Calls Tryd.prog 87 #[.string s,.int .u8 c] w fun e w'=>e=.returned (.int .i64 (Lib.indexByte s.data.toList c.toNat.toUInt8))∧w'=w:=Any.strings_IndexByte Tryd.lays137 s c w
end Go.Proofs
namespace Go.Proofs.YthphnhmabieflaaDoor.Pr
open Go.RowKit Go.Proofs.YthphnhmabieflaaDoorW.PrintWords Go.Proofs.YthphnhmabieflaaDoorW.PrintLast Go.Proofs.YthphnhmabieflaaDoorW.PrintMore
attribute [local go_sem] Zah Zaf Zas Zar Z8 Z7 Zag Zae
set_option linter.unusedVariables false
set_option linter.unusedSimpArgs false
def ZR.f (a0:Int):Option (ByteArray):=if -9223372036854775808≤a0∧a0≤9223372036854775807 then some ⟨(Lib.itoa a0).toArray⟩ else none
set_option maxHeartbeats 4000000 in
theorem ZR.calls (a0:Int) (r:ByteArray) (w:World) (ht:TW w) (h:ZR.f a0=some r) :
  Calls Tryd.prog 38 #[.int .i64 a0] w fun e w'=>e=.returned (.string r)∧Below w.heap.size w w':=by
 unfold ZR.f at h
 by_cases hb : -9223372036854775808≤a0∧a0≤9223372036854775807
 case neg=>rw[if_neg hb] at h;exact absurd h (by simp)
 rw[if_pos hb] at h
 obtain rfl:=Zg h
 have HC:=Za (Tryd.strconv_Itoa a0 hb.1 hb.2 w (Lib.TabBelow.here ht))
 clear h ht hb
 go_enter Tryd.func38,Tryd.ntmps38
 go_wp2_with (go_at_call 73;refine HC.out.mono ?_;rintro e w' ⟨rfl,k,os,hw⟩;have hB:=Lib.below_grow w.heap.size w (Nat.le_refl _) k os;rw[← hw] at hB;clear hw)
 go_ret
 exact⟨rfl,hB⟩
def Zai.f (l0:List ByteArray) (a1:ByteArray):Option (ByteArray):=if l0.length≤1048576∧(Lib.join (l0.map (·.data.toList)) a1.data.toList).length≤140737488355328 then some ⟨(Lib.join (l0.map (·.data.toList)) a1.data.toList).toArray⟩ else none
set_option maxHeartbeats 4000000 in
theorem Zai.lib (A0:Option Addr) (c0:Nat) (l0:List ByteArray) (a1:ByteArray) (w:World) (hr0:Kd.C Kd.string w A0 l0.length l0) (hc0:l0.length≤c0) (hs0:∀ad,A0=some ad→ad.spot=none) (h1:l0.length≤1048576) (h2:(Lib.join (l0.map (·.data.toList)) a1.data.toList).length≤140737488355328) :
  Calls Tryd.prog 74 #[.slice A0 l0.length c0,.string a1] w fun e w'=>e=.returned (.string ⟨(Lib.join (l0.map (·.data.toList)) a1.data.toList).toArray⟩)∧Below w.heap.size w w':=by
 cases l0 with
 | nil=>exact(Tryd.strings_Join_none A0 c0 a1 w).mono fun e w' ⟨he,hw⟩=>⟨he,hw ▸ Below.refl _ _⟩
 | cons x t=>
  obtain⟨ad,hA,_⟩:=hr0.2.2 (by simp)
  have hsp:=hs0 ad hA
  obtain⟨b,o,sp⟩:=ad
  simp only at hsp
  subst hsp;subst hA
  have hcells:∀(j:Nat) y,(x :: t)[j]? = some y→w.cell? ⟨b,o+j,none⟩=some (.string y):=fun j y hy=>by
   have hj:=(List.getElem?_eq_some_iff.1 hy).1
   obtain⟨ad,he,hc⟩:=Kd.at_string hr0 (j:Int) (by omega) (by omega)
   cases he
   rw[Int.toNat_natCast,add_spot] at hc
   rw[hc]
   unfold rdOf
   rw[Int.toNat_natCast,List.getD_eq_getElem?_getD,hy];rfl
  have hbk:b<w.heap.size:=Zc w _ (hcells 0 x rfl)
  exact Tryd.strings_Join b o c0 (x :: t) a1 w hcells hbk (by omega) hc0 h2
set_option maxHeartbeats 4000000 in
theorem Zai.calls (A0:Option Addr) (c0:Nat) (l0:List ByteArray) (a1:ByteArray) (r:ByteArray) (w:World) (hr0:Kd.C Kd.string w A0 l0.length l0) (hc0:l0.length≤c0) (hs0:∀ad,A0=some ad→ad.spot=none) (h:Zai.f l0 a1=some r) :
  Calls Tryd.prog 40 #[.slice A0 l0.length c0,.string a1] w fun e w'=>e=.returned (.string r)∧Below w.heap.size w w':=by
 unfold Zai.f at h
 by_cases hb:l0.length≤1048576∧(Lib.join (l0.map (·.data.toList)) a1.data.toList).length≤140737488355328
 case neg=>rw[if_neg hb] at h;exact absurd h (by simp)
 rw[if_pos hb] at h
 obtain rfl:=Zg h
 have HC:=Za (Zai.lib A0 c0 l0 a1 w hr0 hc0 hs0 hb.1 hb.2)
 clear h hr0 hc0 hs0 hb
 go_enter Tryd.func40,Tryd.ntmps40
 go_wp2_with (go_at_call 74;refine HC.out.mono ?_;rintro e w' ⟨rfl,hb⟩)
 go_ret
 exact⟨rfl,hb⟩
def Zaa.f (l0_0:List (S73)) (l0_1:List (S66)) (a0_2:Int) (a1:Int):Option (ByteArray):=if 0≤a1 then(if a1<(l0_1.length:Int) then(if (Zw l0_1 a1).f4=true then(if 0≤((Zw l0_1 a1).f0) then(if ((Zw l0_1 a1).f0)<(l0_0.length:Int) then(if 0≤((Zw l0_1 a1).f1) then(if ((Zw l0_1 a1).f1)<(l0_0.length:Int) then((ZR.f ((Zw l0_1 a1).f2)).bind fun t50006=>((ZR.f ((Zw l0_1 a1).f3)).bind fun t50007=>((Zai.f (([(⟨#[102,114,101,101]⟩:ByteArray),(Zp l0_0 ((Zw l0_1 a1).f0)).f0,(Zp l0_0 ((Zw l0_1 a1).f1)).f0,t50006,t50007]:List ByteArray)) (⟨#[32]⟩:ByteArray)).bind fun t50011=>(some t50011)))) else(none)) else(none)) else(none)) else(none)) else(if 0≤((Zw l0_1 a1).f0) then(if ((Zw l0_1 a1).f0)<(l0_0.length:Int) then(if 0≤((Zw l0_1 a1).f1) then(if ((Zw l0_1 a1).f1)<(l0_0.length:Int) then((ZR.f ((Zw l0_1 a1).f2)).bind fun t50014=>((ZR.f ((Zw l0_1 a1).f3)).bind fun t50015=>((Zai.f (([(⟨#[116,105,101]⟩:ByteArray),(Zp l0_0 ((Zw l0_1 a1).f0)).f0,(Zp l0_0 ((Zw l0_1 a1).f1)).f0,t50014,t50015]:List ByteArray)) (⟨#[32]⟩:ByteArray)).bind fun t50019=>(some t50019)))) else(none)) else(none)) else(none)) else(none))) else(none)) else(none)
def Zaa.T5:Bool×List (List Nat×List Nat):=(true,[([],[]),([],[]),([1],[1]),([],[]),([3],[3]),([2,4],[2,4]),([5],[5]),([6],[6]),([],[]),([8],[8]),([],[]),([10],[10]),([9,11],[9,11]),([12],[12]),([13],[13]),([],[]),([15],[15]),([16],[16]),([],[]),([18],[18]),([19,17],[19]),([0,7,14,17,20],[0,7,14,17,20]),([21,20],[21]),([22,22,0,1,2,3,4,5,6,7,8,9,10,11,12,13,14,15,16,17,18,19,20,21,22],[22])])
def Zaa.B5:List Nat:=[0,0,2,0,8,30,62,126,0,256,0,1024,3840,7936,16128,0,32768,98304,0,262144,1015808,2097151,4194303,8388607]
theorem Zaa.tab5:rtab .any (opsOf Tryd.f50 5)=Zaa.T5:=by kernel_rfl
theorem Zaa.bits5:Zbz Zaa.T5.2 Zaa.B5=true:=by kernel_rfl
set_option maxHeartbeats 8000000 in
set_option maxRecDepth 100000 in
theorem Zaa.calls (A0_0:Option Addr) (c0_0:Nat) (l0_0:List (S73)) (A0_1:Option Addr) (c0_1:Nat) (l0_1:List (S66)) (a0_2:Int) (a1:Int) (r:ByteArray) (w:World) (hr0_0:Kd.C k73 w A0_0 l0_0.length l0_0) (hc0_0:l0_0.length≤c0_0) (hr0_1:Kd.C k66 w A0_1 l0_1.length l0_1) (hc0_1:l0_1.length≤c0_1) (ht:TW w) (h:Zaa.f l0_0 l0_1 a0_2 a1=some r) :
  Calls Tryd.prog 50 #[.agg #[.slice A0_0 l0_0.length c0_0,.slice A0_1 l0_1.length c0_1,.int .i64 a0_2],.int .i64 a1] w fun e w'=>e=.returned (.string r)∧Below w.heap.size w w':=by
 have HTW:=Za ht;clear ht
 have hu36:=Tryd.underlying36
 have hu66:=Tryd.underlying66
 have HR0_0:=Za hr0_0;have HC0_0:=Za hc0_0;clear hr0_0 hc0_0;have HR0_1:=Za hr0_1;have HC0_1:=Za hc0_1;clear hr0_1 hc0_1
 have HB:=Za (Below.refl w.heap.size w)
 have H:(if 0≤a1 then(if a1<(l0_1.length:Int) then(if (Zw l0_1 a1).f4=true then(if 0≤((Zw l0_1 a1).f0) then(if ((Zw l0_1 a1).f0)<(l0_0.length:Int) then(if 0≤((Zw l0_1 a1).f1) then(if ((Zw l0_1 a1).f1)<(l0_0.length:Int) then((ZR.f ((Zw l0_1 a1).f2)).bind fun t50006=>((ZR.f ((Zw l0_1 a1).f3)).bind fun t50007=>((Zai.f (([(⟨#[102,114,101,101]⟩:ByteArray),(Zp l0_0 ((Zw l0_1 a1).f0)).f0,(Zp l0_0 ((Zw l0_1 a1).f1)).f0,t50006,t50007]:List ByteArray)) (⟨#[32]⟩:ByteArray)).bind fun t50011=>(some t50011)))) else(none)) else(none)) else(none)) else(none)) else(if 0≤((Zw l0_1 a1).f0) then(if ((Zw l0_1 a1).f0)<(l0_0.length:Int) then(if 0≤((Zw l0_1 a1).f1) then(if ((Zw l0_1 a1).f1)<(l0_0.length:Int) then((ZR.f ((Zw l0_1 a1).f2)).bind fun t50014=>((ZR.f ((Zw l0_1 a1).f3)).bind fun t50015=>((Zai.f (([(⟨#[116,105,101]⟩:ByteArray),(Zp l0_0 ((Zw l0_1 a1).f0)).f0,(Zp l0_0 ((Zw l0_1 a1).f1)).f0,t50014,t50015]:List ByteArray)) (⟨#[32]⟩:ByteArray)).bind fun t50019=>(some t50019)))) else(none)) else(none)) else(none)) else(none))) else(none)) else(none))=some r:=h
 clear h
 by_cases c3:0≤a1
 ·rw[if_pos c3] at H
  have c3b0:decide (0≤a1)=true:=Ze c3
  clear c3
  by_cases c4:a1<(l0_1.length:Int)
  ·rw[if_pos c4] at H
   have c4b0:decide (a1<(l0_1.length:Int))=true:=Ze c4
   clear c4
   obtain⟨bq5,hbq5⟩:∃b_:Bool,b_=((Zw l0_1 a1).f4):=⟨_,rfl⟩
   replace H:(if bq5=true then(if 0≤((Zw l0_1 a1).f0) then(if ((Zw l0_1 a1).f0)<(l0_0.length:Int) then(if 0≤((Zw l0_1 a1).f1) then(if ((Zw l0_1 a1).f1)<(l0_0.length:Int) then((ZR.f ((Zw l0_1 a1).f2)).bind fun t50006=>((ZR.f ((Zw l0_1 a1).f3)).bind fun t50007=>((Zai.f (([(⟨#[102,114,101,101]⟩:ByteArray),(Zp l0_0 ((Zw l0_1 a1).f0)).f0,(Zp l0_0 ((Zw l0_1 a1).f1)).f0,t50006,t50007]:List ByteArray)) (⟨#[32]⟩:ByteArray)).bind fun t50011=>(some t50011)))) else(none)) else(none)) else(none)) else(none)) else(if 0≤((Zw l0_1 a1).f0) then(if ((Zw l0_1 a1).f0)<(l0_0.length:Int) then(if 0≤((Zw l0_1 a1).f1) then(if ((Zw l0_1 a1).f1)<(l0_0.length:Int) then((ZR.f ((Zw l0_1 a1).f2)).bind fun t50014=>((ZR.f ((Zw l0_1 a1).f3)).bind fun t50015=>((Zai.f (([(⟨#[116,105,101]⟩:ByteArray),(Zp l0_0 ((Zw l0_1 a1).f0)).f0,(Zp l0_0 ((Zw l0_1 a1).f1)).f0,t50014,t50015]:List ByteArray)) (⟨#[32]⟩:ByteArray)).bind fun t50019=>(some t50019)))) else(none)) else(none)) else(none)) else(none)))=some r:=by rw[← hbq5] at H;exact H
   have Nbq5:=Za hbq5;clear hbq5
   by_cases c6:bq5=true
   ·subst c6
    have H1:(if 0≤((Zw l0_1 a1).f0) then(if ((Zw l0_1 a1).f0)<(l0_0.length:Int) then(if 0≤((Zw l0_1 a1).f1) then(if ((Zw l0_1 a1).f1)<(l0_0.length:Int) then((ZR.f ((Zw l0_1 a1).f2)).bind fun t50006=>((ZR.f ((Zw l0_1 a1).f3)).bind fun t50007=>((Zai.f (([(⟨#[102,114,101,101]⟩:ByteArray),(Zp l0_0 ((Zw l0_1 a1).f0)).f0,(Zp l0_0 ((Zw l0_1 a1).f1)).f0,t50006,t50007]:List ByteArray)) (⟨#[32]⟩:ByteArray)).bind fun t50011=>(some t50011)))) else(none)) else(none)) else(none)) else(none))=some r:=by rw[if_pos rfl] at H;exact H
    clear H
    have H:=H1
    clear H1
    by_cases c7:0≤((Zw l0_1 a1).f0)
    ·rw[if_pos c7] at H
     have c7b0:decide (0≤((Zw l0_1 a1).f0))=true:=Ze c7
     clear c7
     by_cases c8:((Zw l0_1 a1).f0)<(l0_0.length:Int)
     ·rw[if_pos c8] at H
      have c8b0:decide (((Zw l0_1 a1).f0)<(l0_0.length:Int))=true:=Ze c8
      clear c8
      by_cases c9:0≤((Zw l0_1 a1).f1)
      ·rw[if_pos c9] at H
       have c9b0:decide (0≤((Zw l0_1 a1).f1))=true:=Ze c9
       clear c9
       by_cases c10:((Zw l0_1 a1).f1)<(l0_0.length:Int)
       ·rw[if_pos c10] at H
        have c10b0:decide (((Zw l0_1 a1).f1)<(l0_0.length:Int))=true:=Ze c10
        clear c10
        replace H:=Zh H
        obtain⟨t50006,A110,H⟩:=H
        replace H:((ZR.f ((Zw l0_1 a1).f3)).bind fun t50007=>((Zai.f (([(⟨#[102,114,101,101]⟩:ByteArray),(Zp l0_0 ((Zw l0_1 a1).f0)).f0,(Zp l0_0 ((Zw l0_1 a1).f1)).f0,t50006,t50007]:List ByteArray)) (⟨#[32]⟩:ByteArray)).bind fun t50011=>(some t50011)))=some r:=H
        have A11:=Za A110;clear A110
        replace H:=Zh H
        obtain⟨t50007,A120,H⟩:=H
        replace H:((Zai.f (([(⟨#[102,114,101,101]⟩:ByteArray),(Zp l0_0 ((Zw l0_1 a1).f0)).f0,(Zp l0_0 ((Zw l0_1 a1).f1)).f0,t50006,t50007]:List ByteArray)) (⟨#[32]⟩:ByteArray)).bind fun t50011=>(some t50011))=some r:=H
        have A12:=Za A120;clear A120
        obtain⟨y50008,hy50008⟩:∃y_:List ByteArray,y_=(([(⟨#[102,114,101,101]⟩:ByteArray),(Zp l0_0 ((Zw l0_1 a1).f0)).f0,(Zp l0_0 ((Zw l0_1 a1).f1)).f0,t50006,t50007]:List ByteArray)):=⟨_,rfl⟩
        replace H:((Zai.f y50008 (⟨#[32]⟩:ByteArray)).bind fun t50011=>(some t50011))=some r:=by first|(rw[hy50008];with_reducible exact H)|(have H2_:=(Zi _ _).symm.trans H;rw[hy50008];with_reducible exact H2_)|(have H2_:=(Zi _ _).symm.trans H;with_reducible exact H2_)|with_reducible exact H|(rw[hy50008];exact H)|exact H
        have Ny50008:=Za hy50008;clear hy50008
        replace H:=Zh H
        obtain⟨t50011,A130,H⟩:=H
        replace H:(some t50011)=some r:=H
        have A13:=Za A130;clear A130
        obtain rfl:=Zg H
        go_enter Tryd.func50,Tryd.ntmps50
        try go_wp2_with (first|((with_reducible refine ZN (N:=2) rfl ?_);refine ZP ?hg (N:=2) ?hd (cs:=#[.slice A0_0 l0_0.length c0_0,.slice A0_1 l0_1.length c0_1,.int .i64 a0_2]) (t:=36) ?hr ?_;(case hd=>rfl);(case hg=>rfl);(case hr=>first|(go_simp;done)|(go_simp;rfl));intro gb50001 hg w14 hbox hb;have BK50001:=Za (hbox);have GW50001:=Za ((by rw[hg];exact(Zy (by repeat(first|(with_reducible first|exact HB.out|apply Zn|apply Zm|apply Zo)|exact HB.out))):w.heap.size≤gb50001));have GE50001:=Za ((by rw[hg];exact(Zy (by repeat(first|(with_reducible first|exact HB.out|apply Zn|apply Zm|apply Zo)|exact HB.out))):w.heap.size≤gb50001));replace HB:=Za (Zx (by repeat(first|(with_reducible first|exact HB.out|apply Zn|apply Zm|apply Zo)|exact HB.out)) hb);clear hb hbox hg;have hcz15_0:w14.cell? ⟨gb50001,0,none⟩=some (.slice A0_0 l0_0.length c0_0):=(Zq BK50001.out 0).trans rfl;have hcz15_1:w14.cell? ⟨gb50001,1,none⟩=some (.slice A0_1 l0_1.length c0_1):=(Zq BK50001.out 1).trans rfl;have hcz15_2:w14.cell? ⟨gb50001,2,none⟩=some (.int .i64 a0_2):=(Zq BK50001.out 2).trans rfl;have hfz15_0:=Zt BK50001.out 0;have hfz15_1:=Zt BK50001.out 1;have hfz15_2:=Zt BK50001.out 2;have p50002:0≤(a1:Int):=Zd (by first|(with_reducible assumption)|assumption);have q50002:a1<(l0_1.length:Int):=Zd (by first|(with_reducible assumption)|assumption);obtain⟨ad50002,e50002,hx50002_0,hx50002_1,hx50002_2,hx50002_3,hx50002_4⟩:=ZbT HR0_1.out a1 p50002 q50002;(try rw[← Nbq5.out] at hx50002_4);cases e50002;replace hx50002_0:=(HB.out.cell (Zc w _ hx50002_0)).trans hx50002_0;replace hx50002_1:=(HB.out.cell (Zc w _ hx50002_1)).trans hx50002_1;replace hx50002_2:=(HB.out.cell (Zc w _ hx50002_2)).trans hx50002_2;replace hx50002_3:=(HB.out.cell (Zc w _ hx50002_3)).trans hx50002_3;replace hx50002_4:=(HB.out.cell (Zc w _ hx50002_4)).trans hx50002_4;replace p50002:=eq_true p50002;replace q50002:=eq_true q50002)|((with_reducible refine ZN (N:=5) rfl ?_);refine ZP ?hg (N:=5) ?hd (cs:=#[.int .i64 0,.int .i64 0,.int .i64 0,.int .i64 0,.bool false]) (t:=66) ?hr ?_;(case hd=>rfl);(case hg=>rfl);(case hr=>first|(go_simp;done)|(go_simp;rfl));intro gb50003 hg w16 hbox hb;have BK50003:=Za (hbox);have GW50003:=Za ((by rw[hg];exact(Zy (by repeat(first|(with_reducible first|exact HB.out|apply Zn|apply Zm|apply Zo|refine Zr ?_ GE50001.out)|exact HB.out))):w.heap.size≤gb50003));have GE50003:=Za ((by rw[hg];exact(Zy (by repeat(first|(with_reducible first|exact HB.out|apply Zn|apply Zm|apply Zo|refine Zr ?_ GE50001.out)|exact HB.out))):w.heap.size≤gb50003));have NB50001_50003:=Za ((by rw[hg];exact Nat.ne_of_lt (ZY (g:=gb50001) (o:=.cells #[.slice A0_0 l0_0.length c0_0,.slice (some ad50002) l0_1.length c0_1,.int .i64 a0_2] 36 (0,0)) (by(with_reducible repeat(first|refine Zu ?_ _|refine Zv ?_|refine Zs ?_ _));exact BK50001.out)):gb50001≠gb50003));have NB50003_50001:=Za ((by rw[hg];exact Nat.ne_of_gt (ZY (g:=gb50001) (o:=.cells #[.slice A0_0 l0_0.length c0_0,.slice (some ad50002) l0_1.length c0_1,.int .i64 a0_2] 36 (0,0)) (by(with_reducible repeat(first|refine Zu ?_ _|refine Zv ?_|refine Zs ?_ _));exact BK50001.out)):gb50003≠gb50001));replace BK50001:=Za (ZB (g:=gb50001) (o:=.cells #[.slice A0_0 l0_0.length c0_0,.slice (some ad50002) l0_1.length c0_1,.int .i64 a0_2] 36 (0,0)) (by(with_reducible repeat(first|refine Zu ?_ _|refine Zv ?_|refine Zs ?_ _));exact BK50001.out) hb);replace HB:=Za (Zx (by repeat(first|(with_reducible first|exact HB.out|apply Zn|apply Zm|apply Zo|refine Zr ?_ GE50001.out)|exact HB.out)) hb);clear hb hbox hg;have hnb17:=NB50003_50001.out;have hnc17:=NB50001_50003.out;have hcz18_0:w16.cell? ⟨gb50003,0,none⟩=some (.int .i64 0):=(Zq BK50003.out 0).trans rfl;have hcz18_1:w16.cell? ⟨gb50003,1,none⟩=some (.int .i64 0):=(Zq BK50003.out 1).trans rfl;have hcz18_2:w16.cell? ⟨gb50003,2,none⟩=some (.int .i64 0):=(Zq BK50003.out 2).trans rfl;have hcz18_3:w16.cell? ⟨gb50003,3,none⟩=some (.int .i64 0):=(Zq BK50003.out 3).trans rfl;have hcz18_4:w16.cell? ⟨gb50003,4,none⟩=some (.bool false):=(Zq BK50003.out 4).trans rfl;have hfz18_0:=Zt BK50003.out 0;have hfz18_1:=Zt BK50003.out 1;have hfz18_2:=Zt BK50003.out 2;have hfz18_3:=Zt BK50003.out 3;have hfz18_4:=Zt BK50003.out 4))
        have n0_:Aside0 ((((((w16.setCell ⟨gb50003,0,none⟩ (.int .i64 ((Zw l0_1 a1).f0))).setCell ⟨gb50003,1,none⟩ (.int .i64 ((Zw l0_1 a1).f1))).setCell ⟨gb50003,2,none⟩ (.int .i64 ((Zw l0_1 a1).f2))).setCell ⟨gb50003,3,none⟩ (.int .i64 ((Zw l0_1 a1).f3))).setCell ⟨gb50003,4,none⟩ (.bool true)).heap[gb50001]? = some (.cells #[.slice A0_0 l0_0.length c0_0,.slice (some ad50002) l0_1.length c0_1,.int .i64 a0_2] 36 (0,0))):=⟨by(with_reducible repeat(first|refine Zu ?_ _|refine Zv ?_|refine Zs ?_ _));refine ZV ?_ NB50001_50003.out _;(with_reducible repeat(first|refine Zu ?_ _|refine Zv ?_|refine Zs ?_ _));refine ZV ?_ NB50001_50003.out _;(with_reducible repeat(first|refine Zu ?_ _|refine Zv ?_|refine Zs ?_ _));refine ZV ?_ NB50001_50003.out _;(with_reducible repeat(first|refine Zu ?_ _|refine Zv ?_|refine Zs ?_ _));refine ZV ?_ NB50001_50003.out _;(with_reducible repeat(first|refine Zu ?_ _|refine Zv ?_|refine Zs ?_ _));refine ZV ?_ NB50001_50003.out _;(with_reducible repeat(first|refine Zu ?_ _|refine Zv ?_|refine Zs ?_ _));exact BK50001.out⟩
        have n1_:Aside0 ((((((w16.setCell ⟨gb50003,0,none⟩ (.int .i64 ((Zw l0_1 a1).f0))).setCell ⟨gb50003,1,none⟩ (.int .i64 ((Zw l0_1 a1).f1))).setCell ⟨gb50003,2,none⟩ (.int .i64 ((Zw l0_1 a1).f2))).setCell ⟨gb50003,3,none⟩ (.int .i64 ((Zw l0_1 a1).f3))).setCell ⟨gb50003,4,none⟩ (.bool true)).heap[gb50003]? = some (.cells #[.int .i64 ((Zw l0_1 a1).f0),.int .i64 ((Zw l0_1 a1).f1),.int .i64 ((Zw l0_1 a1).f2),.int .i64 ((Zw l0_1 a1).f3),.bool true] 66 (0,0))):=⟨by(with_reducible repeat(first|refine Zu ?_ _|refine Zv ?_|refine Zs ?_ _));refine Z6 (cs:=#[.int .i64 ((Zw l0_1 a1).f0),.int .i64 ((Zw l0_1 a1).f1),.int .i64 ((Zw l0_1 a1).f2),.int .i64 ((Zw l0_1 a1).f3),.bool false]) ?_ 4 _ rfl;(with_reducible repeat(first|refine Zu ?_ _|refine Zv ?_|refine Zs ?_ _));refine Z6 (cs:=#[.int .i64 ((Zw l0_1 a1).f0),.int .i64 ((Zw l0_1 a1).f1),.int .i64 ((Zw l0_1 a1).f2),.int .i64 0,.bool false]) ?_ 3 _ rfl;(with_reducible repeat(first|refine Zu ?_ _|refine Zv ?_|refine Zs ?_ _));refine Z6 (cs:=#[.int .i64 ((Zw l0_1 a1).f0),.int .i64 ((Zw l0_1 a1).f1),.int .i64 0,.int .i64 0,.bool false]) ?_ 2 _ rfl;(with_reducible repeat(first|refine Zu ?_ _|refine Zv ?_|refine Zs ?_ _));refine Z6 (cs:=#[.int .i64 ((Zw l0_1 a1).f0),.int .i64 0,.int .i64 0,.int .i64 0,.bool false]) ?_ 1 _ rfl;(with_reducible repeat(first|refine Zu ?_ _|refine Zv ?_|refine Zs ?_ _));refine Z6 (cs:=#[.int .i64 0,.int .i64 0,.int .i64 0,.int .i64 0,.bool false]) ?_ 0 _ rfl;(with_reducible repeat(first|refine Zu ?_ _|refine Zv ?_|refine Zs ?_ _));exact BK50003.out⟩
        have n2_:Aside0 (Below w.heap.size w (((((w16.setCell ⟨gb50003,0,none⟩ (.int .i64 ((Zw l0_1 a1).f0))).setCell ⟨gb50003,1,none⟩ (.int .i64 ((Zw l0_1 a1).f1))).setCell ⟨gb50003,2,none⟩ (.int .i64 ((Zw l0_1 a1).f2))).setCell ⟨gb50003,3,none⟩ (.int .i64 ((Zw l0_1 a1).f3))).setCell ⟨gb50003,4,none⟩ (.bool true))):=⟨by repeat(first|(with_reducible first|exact HB.out|apply Zn|apply Zm|apply Zo|refine Zr ?_ GE50001.out|refine Zr ?_ GE50003.out)|exact HB.out)⟩
        (try clear BK50001)
        (try clear BK50003)
        (try clear HB)
        generalize (((((w16.setCell ⟨gb50003,0,none⟩ (.int .i64 ((Zw l0_1 a1).f0))).setCell ⟨gb50003,1,none⟩ (.int .i64 ((Zw l0_1 a1).f1))).setCell ⟨gb50003,2,none⟩ (.int .i64 ((Zw l0_1 a1).f2))).setCell ⟨gb50003,3,none⟩ (.int .i64 ((Zw l0_1 a1).f3))).setCell ⟨gb50003,4,none⟩ (.bool true))=w19 at n0_ n1_ n2_ ⊢
        have BK50001:=n0_;have BK50003:=n1_;have HB:=n2_;clear n0_ n1_ n2_
        replace BK50001:=Za (Zv BK50001.out);replace BK50003:=Za (Zv BK50003.out);replace HB:=Za (Zo HB.out)
        have p50004:0≤(((Zw l0_1 a1).f0):Int):=Zd (by first|(with_reducible assumption)|assumption)
        have q50004:((Zw l0_1 a1).f0)<(l0_0.length:Int):=Zd (by first|(with_reducible assumption)|assumption)
        obtain⟨ad50004,A50004_1,c50004_1,e50004,hx50004_0,hx50004_1,hx50004_2,hl50004_1,hi50004_1⟩:=Zan HR0_0.out ((Zw l0_1 a1).f0) p50004 q50004
        have hw50004_2:=hx50004_2
        have hw50004_1:=hx50004_1
        have hw50004_0:=hx50004_0
        cases e50004
        replace hx50004_0:=(HB.out.cell (Zc w _ hx50004_0)).trans hx50004_0
        replace hx50004_1:=(HB.out.cell (Zc w _ hx50004_1)).trans hx50004_1
        replace hx50004_2:=(HB.out.cell (Zc w _ hx50004_2)).trans hx50004_2
        have HR50004_1:=Za hi50004_1;have HC50004_1:=Za hl50004_1;clear hi50004_1 hl50004_1
        replace p50004:=eq_true p50004
        replace q50004:=eq_true q50004
        have p50005:0≤(((Zw l0_1 a1).f1):Int):=Zd (by first|(with_reducible assumption)|assumption)
        have q50005:((Zw l0_1 a1).f1)<(l0_0.length:Int):=Zd (by first|(with_reducible assumption)|assumption)
        obtain⟨ad50005,A50005_1,c50005_1,e50005,hx50005_0,hx50005_1,hx50005_2,hl50005_1,hi50005_1⟩:=Zan HR0_0.out ((Zw l0_1 a1).f1) p50005 q50005
        have hw50005_2:=hx50005_2
        have hw50005_1:=hx50005_1
        have hw50005_0:=hx50005_0
        obtain rfl:ad50004=ad50005:=(by injection e50005)
        replace hx50005_0:=(HB.out.cell (Zc w _ hx50005_0)).trans hx50005_0
        replace hx50005_1:=(HB.out.cell (Zc w _ hx50005_1)).trans hx50005_1
        replace hx50005_2:=(HB.out.cell (Zc w _ hx50005_2)).trans hx50005_2
        have HR50005_1:=Za hi50005_1;have HC50005_1:=Za hl50005_1;clear hi50005_1 hl50005_1
        replace p50005:=eq_true p50005
        replace q50005:=eq_true q50005
        refine Zbq (n:=24) (S:=fun w'=>w'.cell? ⟨gb50001,0,none⟩=some (.slice (some ad50004) l0_0.length c0_0)∧w'.cell? ⟨gb50001,1,none⟩=some (.slice (some ad50002) l0_1.length c0_1)∧w'.cell? ⟨gb50001,2,none⟩=some (.int .i64 a0_2)∧w'.cell? ⟨gb50003,0,none⟩=some (.int .i64 ((Zw l0_1 a1).f0))∧w'.cell? ⟨gb50003,1,none⟩=some (.int .i64 ((Zw l0_1 a1).f1))∧w'.cell? ⟨gb50003,2,none⟩=some (.int .i64 ((Zw l0_1 a1).f2))∧w'.cell? ⟨gb50003,3,none⟩=some (.int .i64 ((Zw l0_1 a1).f3))∧w'.cell? ⟨gb50003,4,none⟩=some (.bool true)∧w'.cell? (ad50004.add ((((Zw l0_1 a1).f0)).toNat * 3))=some (.string ((Zp l0_0 ((Zw l0_1 a1).f0)).f0))∧w'.cell? ⟨(ad50004.add ((((Zw l0_1 a1).f0)).toNat * 3)).block,(ad50004.add ((((Zw l0_1 a1).f0)).toNat * 3)).off+1,none⟩=some (.slice A50004_1 ((Zp l0_0 ((Zw l0_1 a1).f0)).f1).length c50004_1)∧w'.cell? ⟨(ad50004.add ((((Zw l0_1 a1).f0)).toNat * 3)).block,(ad50004.add ((((Zw l0_1 a1).f0)).toNat * 3)).off+2,none⟩=some (.int .i64 ((Zp l0_0 ((Zw l0_1 a1).f0)).f2))∧w'.cell? (ad50004.add ((((Zw l0_1 a1).f1)).toNat * 3))=some (.string ((Zp l0_0 ((Zw l0_1 a1).f1)).f0))∧w'.cell? ⟨(ad50004.add ((((Zw l0_1 a1).f1)).toNat * 3)).block,(ad50004.add ((((Zw l0_1 a1).f1)).toNat * 3)).off+1,none⟩=some (.slice A50005_1 ((Zp l0_0 ((Zw l0_1 a1).f1)).f1).length c50005_1)∧w'.cell? ⟨(ad50004.add ((((Zw l0_1 a1).f1)).toNat * 3)).block,(ad50004.add ((((Zw l0_1 a1).f1)).toNat * 3)).off+2,none⟩=some (.int .i64 ((Zp l0_0 ((Zw l0_1 a1).f1)).f2))) (ds:=[]) #[false,false,false,false,false,false,false,false,false,false,false,false,false,false,false,false,false,false,false,false,false,false,false,false] (by kernel_rfl) rfl rfl ⟨(Zq BK50001.out 0).trans rfl,(Zq BK50001.out 1).trans rfl,(Zq BK50001.out 2).trans rfl,(Zq BK50003.out 0).trans rfl,(Zq BK50003.out 1).trans rfl,(Zq BK50003.out 2).trans rfl,(Zq BK50003.out 3).trans rfl,(Zq BK50003.out 4).trans rfl,((HB.out.cell (Zc w _ hw50004_0)).trans hw50004_0),((HB.out.cell (Zc w _ hw50004_1)).trans hw50004_1),((HB.out.cell (Zc w _ hw50004_2)).trans hw50004_2),((HB.out.cell (Zc w _ hw50005_0)).trans hw50005_0),((HB.out.cell (Zc w _ hw50005_1)).trans hw50005_1),((HB.out.cell (Zc w _ hw50005_2)).trans hw50005_2)⟩ (fun hHeld=>?_);refine Zbe Zaa.tab5 Zaa.bits5 (fun HT_ HW_=>?_)
        generalize w19.drew=w20 at BK50001 BK50003 HB HR50004_1 HR50005_1 hx50004_0 hx50004_1 hx50004_2 hx50005_0 hx50005_1 hx50005_2 hHeld ⊢
        refine ZO (i:=0) (N:=some 14) (v:=?_) (a':=?_) #[true,false,false,false,false,false,false,false,false,false,false,false,false,false,false,false,false,false,false,false,false,false,false,false] rfl rfl (ZJ HT_.out (by kernel_rfl)) (fun _ _ _ h=>h) (Or.inl ⟨by rfl,?_⟩) ?_ ?_
        rotate_left
        ·intro w'
         go_simp
         with_reducible rfl
        rotate_left
        ·simp only[Act.put,List.setIfInBounds_toArray,List.set_cons_zero,List.set_cons_succ,ZC,ZD]
         rfl
        refine ZO (i:=1) (N:=some 15) (v:=?_) (a':=?_) #[true,true,false,false,false,false,false,false,false,false,false,false,false,false,false,false,false,false,false,false,false,false,false,false] rfl rfl (ZJ HT_.out (by kernel_rfl)) (fun _ _ _ h=>h) (Or.inl ⟨by rfl,?_⟩) ?_ ?_
        rotate_left
        ·intro w'
         go_simp
         with_reducible rfl
        rotate_left
        ·simp only[Act.put,List.setIfInBounds_toArray,List.set_cons_zero,List.set_cons_succ,ZC,ZD]
         rfl
        refine ZO (i:=3) (N:=some 17) (v:=?_) (a':=?_) #[true,true,false,true,false,false,false,false,false,false,false,false,false,false,false,false,false,false,false,false,false,false,false,false] rfl rfl (ZJ HT_.out (by kernel_rfl)) (fun _ _ _ h=>h) (Or.inl ⟨by rfl,?_⟩) ?_ ?_
        rotate_left
        ·intro w'
         go_simp
         with_reducible rfl
        rotate_left
        ·simp only[Act.put,List.setIfInBounds_toArray,List.set_cons_zero,List.set_cons_succ,ZC,ZD]
         rfl
        refine ZO (i:=8) (N:=some 22) (v:=?_) (a':=?_) #[true,true,false,true,false,false,false,false,true,false,false,false,false,false,false,false,false,false,false,false,false,false,false,false] rfl rfl (ZJ HT_.out (by kernel_rfl)) (fun _ _ _ h=>h) (Or.inl ⟨by rfl,?_⟩) ?_ ?_
        rotate_left
        ·intro w'
         go_simp
         with_reducible rfl
        rotate_left
        ·simp only[Act.put,List.setIfInBounds_toArray,List.set_cons_zero,List.set_cons_succ,ZC,ZD]
         rfl
        refine ZO (i:=10) (N:=some 24) (v:=?_) (a':=?_) #[true,true,false,true,false,false,false,false,true,false,true,false,false,false,false,false,false,false,false,false,false,false,false,false] rfl rfl (ZJ HT_.out (by kernel_rfl)) (fun _ _ _ h=>h) (Or.inl ⟨by rfl,?_⟩) ?_ ?_
        rotate_left
        ·intro w'
         go_simp
         with_reducible rfl
        rotate_left
        ·simp only[Act.put,List.setIfInBounds_toArray,List.set_cons_zero,List.set_cons_succ,ZC,ZD]
         rfl
        refine ZO (i:=15) (N:=some 29) (v:=?_) (a':=?_) #[true,true,false,true,false,false,false,false,true,false,true,false,false,false,false,true,false,false,false,false,false,false,false,false] rfl rfl (ZJ HT_.out (by kernel_rfl)) (fun _ _ _ h=>h) (Or.inl ⟨by rfl,?_⟩) ?_ ?_
        rotate_left
        ·intro w'
         go_simp
         with_reducible rfl
        rotate_left
        ·simp only[Act.put,List.setIfInBounds_toArray,List.set_cons_zero,List.set_cons_succ,ZC,ZD]
         rfl
        refine ZO (i:=18) (N:=some 32) (v:=?_) (a':=?_) #[true,true,false,true,false,false,false,false,true,false,true,false,false,false,false,true,false,false,true,false,false,false,false,false] rfl rfl (ZJ HT_.out (by kernel_rfl)) (fun _ _ _ h=>h) (Or.inl ⟨by rfl,?_⟩) ?_ ?_
        rotate_left
        ·intro w'
         go_simp
         with_reducible rfl
        rotate_left
        ·simp only[Act.put,List.setIfInBounds_toArray,List.set_cons_zero,List.set_cons_succ,ZC,ZD]
         rfl
        refine take_ (i:=2) (N:=some 16) (v:=?_) (a':=?_) #[true,true,true,true,false,false,false,false,true,false,true,false,false,false,false,true,false,false,true,false,false,false,false,false] rfl rfl (Z3 HT_.out HW_.out (by kernel_rfl)) (fun _ _ _ h=>h) (Or.inl ⟨by rfl,?_⟩) hHeld ?_ ?_
        rotate_left
        ·rintro w' ⟨s0,s1,s2,s3,s4,s5,s6,s7,s8,s9,s10,s11,s12,s13⟩
         go_simp
         with_reducible rfl
        rotate_left
        ·simp only[Act.put,List.setIfInBounds_toArray,List.set_cons_zero,List.set_cons_succ,ZC,ZD]
         rfl
        refine take_ (i:=4) (N:=some 18) (v:=?_) (a':=?_) #[true,true,true,true,true,false,false,false,true,false,true,false,false,false,false,true,false,false,true,false,false,false,false,false] rfl rfl (Z3 HT_.out HW_.out (by kernel_rfl)) (fun _ _ _ h=>h) (Or.inl ⟨by rfl,?_⟩) hHeld ?_ ?_
        rotate_left
        ·rintro w' ⟨s0,s1,s2,s3,s4,s5,s6,s7,s8,s9,s10,s11,s12,s13⟩
         go_simp
         with_reducible rfl
        rotate_left
        ·simp only[Act.put,List.setIfInBounds_toArray,List.set_cons_zero,List.set_cons_succ,ZC,ZD]
         rfl
        refine ZO (i:=5) (N:=some 19) (v:=?_) (a':=?_) #[true,true,true,true,true,true,false,false,true,false,true,false,false,false,false,true,false,false,true,false,false,false,false,false] rfl rfl (ZJ HT_.out (by kernel_rfl)) (fun _ _ _ h=>h) (Or.inl ⟨by rfl,?_⟩) ?_ ?_
        rotate_left
        ·intro w'
         go_simp
         with_reducible rfl
        rotate_left
        ·simp only[Act.put,List.setIfInBounds_toArray,List.set_cons_zero,List.set_cons_succ,ZC,ZD]
         rfl
        refine ZO (i:=6) (N:=some 20) (v:=?_) (a':=?_) #[true,true,true,true,true,true,true,false,true,false,true,false,false,false,false,true,false,false,true,false,false,false,false,false] rfl rfl (ZJ HT_.out (by kernel_rfl)) (fun _ _ _ h=>h) (Or.inl ⟨by rfl,?_⟩) ?_ ?_
        rotate_left
        ·intro w'
         go_simp
         with_reducible rfl
        rotate_left
        ·simp only[Act.put,List.setIfInBounds_toArray,List.set_cons_zero,List.set_cons_succ,ZC,ZD]
         rfl
        refine take_ (i:=7) (N:=some 21) (v:=?_) (a':=?_) #[true,true,true,true,true,true,true,true,true,false,true,false,false,false,false,true,false,false,true,false,false,false,false,false] rfl rfl (Z3 HT_.out HW_.out (by kernel_rfl)) (fun _ _ _ h=>h) (Or.inl ⟨by rfl,?_⟩) hHeld ?_ ?_
        rotate_left
        ·rintro w' ⟨s0,s1,s2,s3,s4,s5,s6,s7,s8,s9,s10,s11,s12,s13⟩
         go_simp
         with_reducible rfl
        rotate_left
        ·simp only[Act.put,List.setIfInBounds_toArray,List.set_cons_zero,List.set_cons_succ,ZC,ZD]
         rfl
        refine take_ (i:=9) (N:=some 23) (v:=?_) (a':=?_) #[true,true,true,true,true,true,true,true,true,true,true,false,false,false,false,true,false,false,true,false,false,false,false,false] rfl rfl (Z3 HT_.out HW_.out (by kernel_rfl)) (fun _ _ _ h=>h) (Or.inl ⟨by rfl,?_⟩) hHeld ?_ ?_
        rotate_left
        ·rintro w' ⟨s0,s1,s2,s3,s4,s5,s6,s7,s8,s9,s10,s11,s12,s13⟩
         go_simp
         with_reducible rfl
        rotate_left
        ·simp only[Act.put,List.setIfInBounds_toArray,List.set_cons_zero,List.set_cons_succ,ZC,ZD]
         rfl
        refine take_ (i:=11) (N:=some 25) (v:=?_) (a':=?_) #[true,true,true,true,true,true,true,true,true,true,true,true,false,false,false,true,false,false,true,false,false,false,false,false] rfl rfl (Z3 HT_.out HW_.out (by kernel_rfl)) (fun _ _ _ h=>h) (Or.inl ⟨by rfl,?_⟩) hHeld ?_ ?_
        rotate_left
        ·rintro w' ⟨s0,s1,s2,s3,s4,s5,s6,s7,s8,s9,s10,s11,s12,s13⟩
         go_simp
         with_reducible rfl
        rotate_left
        ·simp only[Act.put,List.setIfInBounds_toArray,List.set_cons_zero,List.set_cons_succ,ZC,ZD]
         rfl
        refine ZO (i:=12) (N:=some 26) (v:=?_) (a':=?_) #[true,true,true,true,true,true,true,true,true,true,true,true,true,false,false,true,false,false,true,false,false,false,false,false] rfl rfl (ZJ HT_.out (by kernel_rfl)) (fun _ _ _ h=>h) (Or.inl ⟨by rfl,?_⟩) ?_ ?_
        rotate_left
        ·intro w'
         go_simp
         with_reducible rfl
        rotate_left
        ·simp only[Act.put,List.setIfInBounds_toArray,List.set_cons_zero,List.set_cons_succ,ZC,ZD]
         rfl
        refine ZO (i:=13) (N:=some 27) (v:=?_) (a':=?_) #[true,true,true,true,true,true,true,true,true,true,true,true,true,true,false,true,false,false,true,false,false,false,false,false] rfl rfl (ZJ HT_.out (by kernel_rfl)) (fun _ _ _ h=>h) (Or.inl ⟨by rfl,?_⟩) ?_ ?_
        rotate_left
        ·intro w'
         go_simp
         with_reducible rfl
        rotate_left
        ·simp only[Act.put,List.setIfInBounds_toArray,List.set_cons_zero,List.set_cons_succ,ZC,ZD]
         rfl
        refine take_ (i:=14) (N:=some 28) (v:=?_) (a':=?_) #[true,true,true,true,true,true,true,true,true,true,true,true,true,true,true,true,false,false,true,false,false,false,false,false] rfl rfl (Z3 HT_.out HW_.out (by kernel_rfl)) (fun _ _ _ h=>h) (Or.inl ⟨by rfl,?_⟩) hHeld ?_ ?_
        rotate_left
        ·rintro w' ⟨s0,s1,s2,s3,s4,s5,s6,s7,s8,s9,s10,s11,s12,s13⟩
         go_simp
         with_reducible rfl
        rotate_left
        ·simp only[Act.put,List.setIfInBounds_toArray,List.set_cons_zero,List.set_cons_succ,ZC,ZD]
         rfl
        refine take_ (i:=16) (N:=some 30) (v:=?_) (a':=?_) #[true,true,true,true,true,true,true,true,true,true,true,true,true,true,true,true,true,false,true,false,false,false,false,false] rfl rfl (Z3 HT_.out HW_.out (by kernel_rfl)) (fun _ _ _ h=>h) (Or.inl ⟨by rfl,?_⟩) hHeld ?_ ?_
        rotate_left
        ·rintro w' ⟨s0,s1,s2,s3,s4,s5,s6,s7,s8,s9,s10,s11,s12,s13⟩
         go_simp
         with_reducible rfl
        rotate_left
        ·simp only[Act.put,List.setIfInBounds_toArray,List.set_cons_zero,List.set_cons_succ,ZC,ZD]
         rfl
        refine take_ (i:=19) (N:=some 33) (v:=?_) (a':=?_) #[true,true,true,true,true,true,true,true,true,true,true,true,true,true,true,true,true,false,true,true,false,false,false,false] rfl rfl (Z3 HT_.out HW_.out (by kernel_rfl)) (fun _ _ _ h=>h) (Or.inl ⟨by rfl,?_⟩) hHeld ?_ ?_
        rotate_left
        ·rintro w' ⟨s0,s1,s2,s3,s4,s5,s6,s7,s8,s9,s10,s11,s12,s13⟩
         go_simp
         with_reducible rfl
        rotate_left
        ·simp only[Act.put,List.setIfInBounds_toArray,List.set_cons_zero,List.set_cons_succ,ZC,ZD]
         rfl
        refine one_ (i:=17) (N:=some 31) #[true,true,true,true,true,true,true,true,true,true,true,true,true,true,true,true,true,true,true,true,false,false,false,false] rfl rfl (ZaR HT_.out (by kernel_rfl)) (by decide) (fun K hK=>?_)
        refine ZaX Tryd.func38 (by kernel_rfl) rfl #[.int .i64 ((Zw l0_1 a1).f2)] (by rfl) rfl rfl (by(try simp only[List.map_toArray,List.map_cons,List.map_nil]);first|done|rfl|(simp only[Zk,Zj];rfl)) ?_
        with_reducible refine(ZR.calls ((Zw l0_1 a1).f2) t50006 _ ?sideT A11.out).mono ?_
        case sideT=>exact TW.below HTW.out (by repeat(first|(with_reducible first|exact HB.out|apply Zn|apply Zm|apply Zo|refine Zr ?_ GE50001.out|refine Zr ?_ GE50003.out)|exact HB.out))
        rintro e w21 ⟨rfl,hb⟩
        refine⟨_,rfl,?_⟩
        replace BK50001:=Za (ZB (g:=gb50001) (o:=.cells #[.slice (some ad50004) l0_0.length c0_0,.slice (some ad50002) l0_1.length c0_1,.int .i64 a0_2] 36 (0,0)) (by(with_reducible repeat(first|refine Zu ?_ _|refine Zv ?_|refine Zs ?_ _));exact BK50001.out) hb);replace BK50003:=Za (ZB (g:=gb50003) (o:=.cells #[.int .i64 ((Zw l0_1 a1).f0),.int .i64 ((Zw l0_1 a1).f1),.int .i64 ((Zw l0_1 a1).f2),.int .i64 ((Zw l0_1 a1).f3),.bool true] 66 (0,0)) (by(with_reducible repeat(first|refine Zu ?_ _|refine Zv ?_|refine Zs ?_ _));exact BK50003.out) hb);replace HB:=Za (Zx (by repeat(first|(with_reducible first|exact HB.out|apply Zn|apply Zm|apply Zo|refine Zr ?_ GE50001.out|refine Zr ?_ GE50003.out)|exact HB.out)) hb)
        (try clear hb)
        (try clear hb2)
        (try clear hk)
        (try clear hi)
        refine hK.out _ _ ⟨(Zq BK50001.out 0).trans rfl,(Zq BK50001.out 1).trans rfl,(Zq BK50001.out 2).trans rfl,(Zq BK50003.out 0).trans rfl,(Zq BK50003.out 1).trans rfl,(Zq BK50003.out 2).trans rfl,(Zq BK50003.out 3).trans rfl,(Zq BK50003.out 4).trans rfl,((HB.out.cell (Zc w _ hw50004_0)).trans hw50004_0),((HB.out.cell (Zc w _ hw50004_1)).trans hw50004_1),((HB.out.cell (Zc w _ hw50004_2)).trans hw50004_2),((HB.out.cell (Zc w _ hw50005_0)).trans hw50005_0),((HB.out.cell (Zc w _ hw50005_1)).trans hw50005_1),((HB.out.cell (Zc w _ hw50005_2)).trans hw50005_2)⟩ (fun hHeld=>?_)
        clear hK K
        refine ZaE (a':=?_) ?_ ?_
        rotate_left
        ·show Act.put _ (some 31) _=_
         simp only[Act.put,List.setIfInBounds_toArray,List.set_cons_zero,List.set_cons_succ,ZC,ZD]
         rfl
        refine one_ (i:=20) (N:=some 34) #[true,true,true,true,true,true,true,true,true,true,true,true,true,true,true,true,true,true,true,true,true,false,false,false] rfl rfl (ZaR HT_.out (by kernel_rfl)) (by decide) (fun K hK=>?_)
        refine ZaX Tryd.func38 (by kernel_rfl) rfl #[.int .i64 ((Zw l0_1 a1).f3)] (by rfl) rfl rfl (by(try simp only[List.map_toArray,List.map_cons,List.map_nil]);first|done|rfl|(simp only[Zk,Zj];rfl)) ?_
        with_reducible refine(ZR.calls ((Zw l0_1 a1).f3) t50007 _ ?sideT A12.out).mono ?_
        case sideT=>exact TW.below HTW.out (by repeat(first|(with_reducible first|exact HB.out|apply Zn|apply Zm|apply Zo|refine Zr ?_ GE50001.out|refine Zr ?_ GE50003.out)|exact HB.out))
        rintro e w22 ⟨rfl,hb⟩
        refine⟨_,rfl,?_⟩
        replace BK50001:=Za (ZB (g:=gb50001) (o:=.cells #[.slice (some ad50004) l0_0.length c0_0,.slice (some ad50002) l0_1.length c0_1,.int .i64 a0_2] 36 (0,0)) (by(with_reducible repeat(first|refine Zu ?_ _|refine Zv ?_|refine Zs ?_ _));exact BK50001.out) hb);replace BK50003:=Za (ZB (g:=gb50003) (o:=.cells #[.int .i64 ((Zw l0_1 a1).f0),.int .i64 ((Zw l0_1 a1).f1),.int .i64 ((Zw l0_1 a1).f2),.int .i64 ((Zw l0_1 a1).f3),.bool true] 66 (0,0)) (by(with_reducible repeat(first|refine Zu ?_ _|refine Zv ?_|refine Zs ?_ _));exact BK50003.out) hb);replace HB:=Za (Zx (by repeat(first|(with_reducible first|exact HB.out|apply Zn|apply Zm|apply Zo|refine Zr ?_ GE50001.out|refine Zr ?_ GE50003.out)|exact HB.out)) hb)
        (try clear hb)
        (try clear hb2)
        (try clear hk)
        (try clear hi)
        refine hK.out _ _ ⟨(Zq BK50001.out 0).trans rfl,(Zq BK50001.out 1).trans rfl,(Zq BK50001.out 2).trans rfl,(Zq BK50003.out 0).trans rfl,(Zq BK50003.out 1).trans rfl,(Zq BK50003.out 2).trans rfl,(Zq BK50003.out 3).trans rfl,(Zq BK50003.out 4).trans rfl,((HB.out.cell (Zc w _ hw50004_0)).trans hw50004_0),((HB.out.cell (Zc w _ hw50004_1)).trans hw50004_1),((HB.out.cell (Zc w _ hw50004_2)).trans hw50004_2),((HB.out.cell (Zc w _ hw50005_0)).trans hw50005_0),((HB.out.cell (Zc w _ hw50005_1)).trans hw50005_1),((HB.out.cell (Zc w _ hw50005_2)).trans hw50005_2)⟩ (fun hHeld=>?_)
        clear hK K
        refine ZaE (a':=?_) ?_ ?_
        rotate_left
        ·show Act.put _ (some 34) _=_
         simp only[Act.put,List.setIfInBounds_toArray,List.set_cons_zero,List.set_cons_succ,ZC,ZD]
         rfl
        refine one_ (i:=21) (N:=some 35) #[true,true,true,true,true,true,true,true,true,true,true,true,true,true,true,true,true,true,true,true,true,true,false,false] rfl rfl (ZaR HT_.out (by kernel_rfl)) (by decide) (fun K hK=>?_)
        refine Kd.R_lit_step Kd.string _ 9 ?hg (N:=35) ?hd (xs:=([(⟨#[102,114,101,101]⟩:ByteArray),(Zp l0_0 ((Zw l0_1 a1).f0)).f0,(Zp l0_0 ((Zw l0_1 a1).f1)).f0,t50006,t50007]:List ByteArray)) (inner:=[.string (⟨#[102,114,101,101]⟩:ByteArray),.string ((Zp l0_0 ((Zw l0_1 a1).f0)).f0),.string ((Zp l0_0 ((Zw l0_1 a1).f1)).f0),.string t50006,.string t50007]) (ok:=fun _=>True) (okp:=fun _=>True) ?hr ?hp (fun _ hk=>hk) trivial (Below.refl _ _) (Nat.le_refl _) (by simp) ?_;(case hd=>rfl);(case hg=>rfl);(case hr=>first|(go_simp;done)|(go_simp;rfl));(case hp=>exact(Reps.one (show Kd.M Kd.string _ _ _ (⟨#[102,114,101,101]⟩:ByteArray) [.string (⟨#[102,114,101,101]⟩:ByteArray)] from rfl) (Reps.one (show Kd.M Kd.string _ _ _ ((Zp l0_0 ((Zw l0_1 a1).f0)).f0) [.string ((Zp l0_0 ((Zw l0_1 a1).f0)).f0)] from rfl) (Reps.one (show Kd.M Kd.string _ _ _ ((Zp l0_0 ((Zw l0_1 a1).f1)).f0) [.string ((Zp l0_0 ((Zw l0_1 a1).f1)).f0)] from rfl) (Reps.one (show Kd.M Kd.string _ _ _ t50006 [.string t50006] from rfl) (Reps.one (show Kd.M Kd.string _ _ _ t50007 [.string t50007] from rfl) (Reps.none _ _)))))))
        intro v50009 w23 ho24 hb hg_ hnew_
        clear hg_ hnew_
        (first|rw[← Ny50008.out] at ho24|(simp only[Int.reduceToNat] at ho24;rw[← Ny50008.out] at ho24))
        have HO50010:=Za (Kd.R_lower ho24 (Zy (by repeat(first|(with_reducible first|exact HB.out|apply Zn|apply Zm|apply Zo|refine Zr ?_ GE50001.out|refine Zr ?_ GE50003.out)|exact HB.out))));replace BK50001:=Za (ZB (g:=gb50001) (o:=.cells #[.slice (some ad50004) l0_0.length c0_0,.slice (some ad50002) l0_1.length c0_1,.int .i64 a0_2] 36 (0,0)) (by(with_reducible repeat(first|refine Zu ?_ _|refine Zv ?_|refine Zs ?_ _));exact BK50001.out) hb);replace BK50003:=Za (ZB (g:=gb50003) (o:=.cells #[.int .i64 ((Zw l0_1 a1).f0),.int .i64 ((Zw l0_1 a1).f1),.int .i64 ((Zw l0_1 a1).f2),.int .i64 ((Zw l0_1 a1).f3),.bool true] 66 (0,0)) (by(with_reducible repeat(first|refine Zu ?_ _|refine Zv ?_|refine Zs ?_ _));exact BK50003.out) hb);replace HB:=Za (Zx (by repeat(first|(with_reducible first|exact HB.out|apply Zn|apply Zm|apply Zo|refine Zr ?_ GE50001.out|refine Zr ?_ GE50003.out)|exact HB.out)) hb)
        clear hb ho24
        obtain⟨Ao25,co25,eo25⟩:=Kd.R_slice HO50010.out
        (first|subst eo25|(injection eo25 with f1_ f2_ f3_;have f4_:=f1_.symm;have f5_:=f3_.symm;clear f1_ f2_ f3_;subst f4_;subst f5_))
        refine hK.out _ _ ⟨(Zq BK50001.out 0).trans rfl,(Zq BK50001.out 1).trans rfl,(Zq BK50001.out 2).trans rfl,(Zq BK50003.out 0).trans rfl,(Zq BK50003.out 1).trans rfl,(Zq BK50003.out 2).trans rfl,(Zq BK50003.out 3).trans rfl,(Zq BK50003.out 4).trans rfl,((HB.out.cell (Zc w _ hw50004_0)).trans hw50004_0),((HB.out.cell (Zc w _ hw50004_1)).trans hw50004_1),((HB.out.cell (Zc w _ hw50004_2)).trans hw50004_2),((HB.out.cell (Zc w _ hw50005_0)).trans hw50005_0),((HB.out.cell (Zc w _ hw50005_1)).trans hw50005_1),((HB.out.cell (Zc w _ hw50005_2)).trans hw50005_2)⟩ (fun hHeld=>?_)
        clear hK K
        refine ZaE (a':=?_) ?_ ?_
        rotate_left
        ·show Act.put _ (some 35) _=_
         simp only[Act.put,List.setIfInBounds_toArray,List.set_cons_zero,List.set_cons_succ,ZC,ZD]
         rfl
        refine one_ (i:=22) (N:=some 36) #[true,true,true,true,true,true,true,true,true,true,true,true,true,true,true,true,true,true,true,true,true,true,true,false] rfl rfl (ZaR HT_.out (by kernel_rfl)) (by decide) (fun K hK=>?_)
        refine ZaX Tryd.func40 (by kernel_rfl) rfl #[.slice Ao25 y50008.length co25,.string (⟨#[32]⟩:ByteArray)] (by rfl) rfl rfl (by(try simp only[List.map_toArray,List.map_cons,List.map_nil]);first|done|rfl|(simp only[Zk,Zj];rfl)) ?_
        with_reducible refine(Zai.calls _ _ y50008 (⟨#[32]⟩:ByteArray) t50011 _ ?side1 ?side2 ?sideS A13.out).mono ?_
        case sideS=>exact R_spot HO50010.out
        (case side1=>repeat(first|exact(Kd.R_reads' HO50010.out).2.2|(with_reducible refine Kd.C_alloc ?_ _)|(with_reducible refine Kd.C_drewN ?_ _)|(with_reducible refine Kd.C_drew ?_)))
        (case side2=>exact(Kd.R_reads' HO50010.out).2.1)
        rintro e w26 ⟨rfl,hb⟩
        refine⟨_,rfl,?_⟩
        replace HO50010:=Za (Kd.R_below (by(with_reducible repeat(first|apply Kd.R_alloc|apply Kd.R_drewN|apply Kd.R_drew));exact HO50010.out) hb);replace BK50001:=Za (ZB (g:=gb50001) (o:=.cells #[.slice (some ad50004) l0_0.length c0_0,.slice (some ad50002) l0_1.length c0_1,.int .i64 a0_2] 36 (0,0)) (by(with_reducible repeat(first|refine Zu ?_ _|refine Zv ?_|refine Zs ?_ _));exact BK50001.out) hb);replace BK50003:=Za (ZB (g:=gb50003) (o:=.cells #[.int .i64 ((Zw l0_1 a1).f0),.int .i64 ((Zw l0_1 a1).f1),.int .i64 ((Zw l0_1 a1).f2),.int .i64 ((Zw l0_1 a1).f3),.bool true] 66 (0,0)) (by(with_reducible repeat(first|refine Zu ?_ _|refine Zv ?_|refine Zs ?_ _));exact BK50003.out) hb);replace HB:=Za (Zx (by repeat(first|(with_reducible first|exact HB.out|apply Zn|apply Zm|apply Zo|refine Zr ?_ GE50001.out|refine Zr ?_ GE50003.out)|exact HB.out)) hb)
        (try clear hb)
        (try clear hb2)
        (try clear hk)
        (try clear hi)
        refine hK.out _ _ ⟨(Zq BK50001.out 0).trans rfl,(Zq BK50001.out 1).trans rfl,(Zq BK50001.out 2).trans rfl,(Zq BK50003.out 0).trans rfl,(Zq BK50003.out 1).trans rfl,(Zq BK50003.out 2).trans rfl,(Zq BK50003.out 3).trans rfl,(Zq BK50003.out 4).trans rfl,((HB.out.cell (Zc w _ hw50004_0)).trans hw50004_0),((HB.out.cell (Zc w _ hw50004_1)).trans hw50004_1),((HB.out.cell (Zc w _ hw50004_2)).trans hw50004_2),((HB.out.cell (Zc w _ hw50005_0)).trans hw50005_0),((HB.out.cell (Zc w _ hw50005_1)).trans hw50005_1),((HB.out.cell (Zc w _ hw50005_2)).trans hw50005_2)⟩ (fun hHeld=>?_)
        clear hK K
        refine ZaE (a':=?_) ?_ ?_
        rotate_left
        ·show Act.put _ (some 36) _=_
         simp only[Act.put,List.setIfInBounds_toArray,List.set_cons_zero,List.set_cons_succ,ZC,ZD]
         rfl
        refine ZO (i:=23) (N:=some 4) (v:=?_) (a':=?_) #[true,true,true,true,true,true,true,true,true,true,true,true,true,true,true,true,true,true,true,true,true,true,true,true] rfl rfl (ZJ HT_.out (by kernel_rfl)) (fun _ _ _ h=>h) (Or.inl ⟨by rfl,?_⟩) ?_ ?_
        rotate_left
        ·intro w'
         go_simp
         with_reducible rfl
        rotate_left
        ·simp only[Act.put,List.setIfInBounds_toArray,List.set_cons_zero,List.set_cons_succ,ZC,ZD]
         rfl
        refine ZbJ (ZbA HT_.out (by kernel_rfl)) ?_
        try go_wp2
        go_ret
        exact⟨by first|rfl|(simp[ZA,Zz] <;> rfl)|(simp[*,ZA,Zz] <;> rfl),by repeat(first|(with_reducible first|exact HB.out|apply Zn|apply Zm|apply Zo|refine Zr ?_ GE50001.out|refine Zr ?_ GE50003.out)|exact HB.out)⟩
       ·rw[if_neg c10] at H
        exact absurd H (by simp)
      ·rw[if_neg c9] at H
       exact absurd H (by simp)
     ·rw[if_neg c8] at H
      exact absurd H (by simp)
    ·rw[if_neg c7] at H
     exact absurd H (by simp)
   ·replace c6:=Bool.eq_false_iff.mpr c6
    subst c6
    have H1:(if 0≤((Zw l0_1 a1).f0) then(if ((Zw l0_1 a1).f0)<(l0_0.length:Int) then(if 0≤((Zw l0_1 a1).f1) then(if ((Zw l0_1 a1).f1)<(l0_0.length:Int) then((ZR.f ((Zw l0_1 a1).f2)).bind fun t50014=>((ZR.f ((Zw l0_1 a1).f3)).bind fun t50015=>((Zai.f (([(⟨#[116,105,101]⟩:ByteArray),(Zp l0_0 ((Zw l0_1 a1).f0)).f0,(Zp l0_0 ((Zw l0_1 a1).f1)).f0,t50014,t50015]:List ByteArray)) (⟨#[32]⟩:ByteArray)).bind fun t50019=>(some t50019)))) else(none)) else(none)) else(none)) else(none))=some r:=by rw[if_neg (show ¬(false=true) by decide)] at H;exact H
    clear H
    have H:=H1
    clear H1
    by_cases c27:0≤((Zw l0_1 a1).f0)
    ·rw[if_pos c27] at H
     have c27b0:decide (0≤((Zw l0_1 a1).f0))=true:=Ze c27
     clear c27
     by_cases c28:((Zw l0_1 a1).f0)<(l0_0.length:Int)
     ·rw[if_pos c28] at H
      have c28b0:decide (((Zw l0_1 a1).f0)<(l0_0.length:Int))=true:=Ze c28
      clear c28
      by_cases c29:0≤((Zw l0_1 a1).f1)
      ·rw[if_pos c29] at H
       have c29b0:decide (0≤((Zw l0_1 a1).f1))=true:=Ze c29
       clear c29
       by_cases c30:((Zw l0_1 a1).f1)<(l0_0.length:Int)
       ·rw[if_pos c30] at H
        have c30b0:decide (((Zw l0_1 a1).f1)<(l0_0.length:Int))=true:=Ze c30
        clear c30
        replace H:=Zh H
        obtain⟨t50014,A310,H⟩:=H
        replace H:((ZR.f ((Zw l0_1 a1).f3)).bind fun t50015=>((Zai.f (([(⟨#[116,105,101]⟩:ByteArray),(Zp l0_0 ((Zw l0_1 a1).f0)).f0,(Zp l0_0 ((Zw l0_1 a1).f1)).f0,t50014,t50015]:List ByteArray)) (⟨#[32]⟩:ByteArray)).bind fun t50019=>(some t50019)))=some r:=H
        have A31:=Za A310;clear A310
        replace H:=Zh H
        obtain⟨t50015,A320,H⟩:=H
        replace H:((Zai.f (([(⟨#[116,105,101]⟩:ByteArray),(Zp l0_0 ((Zw l0_1 a1).f0)).f0,(Zp l0_0 ((Zw l0_1 a1).f1)).f0,t50014,t50015]:List ByteArray)) (⟨#[32]⟩:ByteArray)).bind fun t50019=>(some t50019))=some r:=H
        have A32:=Za A320;clear A320
        obtain⟨y50016,hy50016⟩:∃y_:List ByteArray,y_=(([(⟨#[116,105,101]⟩:ByteArray),(Zp l0_0 ((Zw l0_1 a1).f0)).f0,(Zp l0_0 ((Zw l0_1 a1).f1)).f0,t50014,t50015]:List ByteArray)):=⟨_,rfl⟩
        replace H:((Zai.f y50016 (⟨#[32]⟩:ByteArray)).bind fun t50019=>(some t50019))=some r:=by first|(rw[hy50016];with_reducible exact H)|(have H2_:=(Zi _ _).symm.trans H;rw[hy50016];with_reducible exact H2_)|(have H2_:=(Zi _ _).symm.trans H;with_reducible exact H2_)|with_reducible exact H|(rw[hy50016];exact H)|exact H
        have Ny50016:=Za hy50016;clear hy50016
        replace H:=Zh H
        obtain⟨t50019,A330,H⟩:=H
        replace H:(some t50019)=some r:=H
        have A33:=Za A330;clear A330
        obtain rfl:=Zg H
        go_enter Tryd.func50,Tryd.ntmps50
        try go_wp2_with (first|((with_reducible refine ZN (N:=2) rfl ?_);refine ZP ?hg (N:=2) ?hd (cs:=#[.slice A0_0 l0_0.length c0_0,.slice A0_1 l0_1.length c0_1,.int .i64 a0_2]) (t:=36) ?hr ?_;(case hd=>rfl);(case hg=>rfl);(case hr=>first|(go_simp;done)|(go_simp;rfl));intro gb50001 hg w34 hbox hb;have BK50001:=Za (hbox);have GW50001:=Za ((by rw[hg];exact(Zy (by repeat(first|(with_reducible first|exact HB.out|apply Zn|apply Zm|apply Zo)|exact HB.out))):w.heap.size≤gb50001));have GE50001:=Za ((by rw[hg];exact(Zy (by repeat(first|(with_reducible first|exact HB.out|apply Zn|apply Zm|apply Zo)|exact HB.out))):w.heap.size≤gb50001));replace HB:=Za (Zx (by repeat(first|(with_reducible first|exact HB.out|apply Zn|apply Zm|apply Zo)|exact HB.out)) hb);clear hb hbox hg;have hcz35_0:w34.cell? ⟨gb50001,0,none⟩=some (.slice A0_0 l0_0.length c0_0):=(Zq BK50001.out 0).trans rfl;have hcz35_1:w34.cell? ⟨gb50001,1,none⟩=some (.slice A0_1 l0_1.length c0_1):=(Zq BK50001.out 1).trans rfl;have hcz35_2:w34.cell? ⟨gb50001,2,none⟩=some (.int .i64 a0_2):=(Zq BK50001.out 2).trans rfl;have hfz35_0:=Zt BK50001.out 0;have hfz35_1:=Zt BK50001.out 1;have hfz35_2:=Zt BK50001.out 2;have p50002:0≤(a1:Int):=Zd (by first|(with_reducible assumption)|assumption);have q50002:a1<(l0_1.length:Int):=Zd (by first|(with_reducible assumption)|assumption);obtain⟨ad50002,e50002,hx50002_0,hx50002_1,hx50002_2,hx50002_3,hx50002_4⟩:=ZbT HR0_1.out a1 p50002 q50002;(try rw[← Nbq5.out] at hx50002_4);cases e50002;replace hx50002_0:=(HB.out.cell (Zc w _ hx50002_0)).trans hx50002_0;replace hx50002_1:=(HB.out.cell (Zc w _ hx50002_1)).trans hx50002_1;replace hx50002_2:=(HB.out.cell (Zc w _ hx50002_2)).trans hx50002_2;replace hx50002_3:=(HB.out.cell (Zc w _ hx50002_3)).trans hx50002_3;replace hx50002_4:=(HB.out.cell (Zc w _ hx50002_4)).trans hx50002_4;replace p50002:=eq_true p50002;replace q50002:=eq_true q50002)|((with_reducible refine ZN (N:=5) rfl ?_);refine ZP ?hg (N:=5) ?hd (cs:=#[.int .i64 0,.int .i64 0,.int .i64 0,.int .i64 0,.bool false]) (t:=66) ?hr ?_;(case hd=>rfl);(case hg=>rfl);(case hr=>first|(go_simp;done)|(go_simp;rfl));intro gb50003 hg w36 hbox hb;have BK50003:=Za (hbox);have GW50003:=Za ((by rw[hg];exact(Zy (by repeat(first|(with_reducible first|exact HB.out|apply Zn|apply Zm|apply Zo|refine Zr ?_ GE50001.out)|exact HB.out))):w.heap.size≤gb50003));have GE50003:=Za ((by rw[hg];exact(Zy (by repeat(first|(with_reducible first|exact HB.out|apply Zn|apply Zm|apply Zo|refine Zr ?_ GE50001.out)|exact HB.out))):w.heap.size≤gb50003));have NB50001_50003:=Za ((by rw[hg];exact Nat.ne_of_lt (ZY (g:=gb50001) (o:=.cells #[.slice A0_0 l0_0.length c0_0,.slice (some ad50002) l0_1.length c0_1,.int .i64 a0_2] 36 (0,0)) (by(with_reducible repeat(first|refine Zu ?_ _|refine Zv ?_|refine Zs ?_ _));exact BK50001.out)):gb50001≠gb50003));have NB50003_50001:=Za ((by rw[hg];exact Nat.ne_of_gt (ZY (g:=gb50001) (o:=.cells #[.slice A0_0 l0_0.length c0_0,.slice (some ad50002) l0_1.length c0_1,.int .i64 a0_2] 36 (0,0)) (by(with_reducible repeat(first|refine Zu ?_ _|refine Zv ?_|refine Zs ?_ _));exact BK50001.out)):gb50003≠gb50001));replace BK50001:=Za (ZB (g:=gb50001) (o:=.cells #[.slice A0_0 l0_0.length c0_0,.slice (some ad50002) l0_1.length c0_1,.int .i64 a0_2] 36 (0,0)) (by(with_reducible repeat(first|refine Zu ?_ _|refine Zv ?_|refine Zs ?_ _));exact BK50001.out) hb);replace HB:=Za (Zx (by repeat(first|(with_reducible first|exact HB.out|apply Zn|apply Zm|apply Zo|refine Zr ?_ GE50001.out)|exact HB.out)) hb);clear hb hbox hg;have hnb37:=NB50003_50001.out;have hnc37:=NB50001_50003.out;have hcz38_0:w36.cell? ⟨gb50003,0,none⟩=some (.int .i64 0):=(Zq BK50003.out 0).trans rfl;have hcz38_1:w36.cell? ⟨gb50003,1,none⟩=some (.int .i64 0):=(Zq BK50003.out 1).trans rfl;have hcz38_2:w36.cell? ⟨gb50003,2,none⟩=some (.int .i64 0):=(Zq BK50003.out 2).trans rfl;have hcz38_3:w36.cell? ⟨gb50003,3,none⟩=some (.int .i64 0):=(Zq BK50003.out 3).trans rfl;have hcz38_4:w36.cell? ⟨gb50003,4,none⟩=some (.bool false):=(Zq BK50003.out 4).trans rfl;have hfz38_0:=Zt BK50003.out 0;have hfz38_1:=Zt BK50003.out 1;have hfz38_2:=Zt BK50003.out 2;have hfz38_3:=Zt BK50003.out 3;have hfz38_4:=Zt BK50003.out 4))
        have n0_:Aside0 ((((((w36.setCell ⟨gb50003,0,none⟩ (.int .i64 ((Zw l0_1 a1).f0))).setCell ⟨gb50003,1,none⟩ (.int .i64 ((Zw l0_1 a1).f1))).setCell ⟨gb50003,2,none⟩ (.int .i64 ((Zw l0_1 a1).f2))).setCell ⟨gb50003,3,none⟩ (.int .i64 ((Zw l0_1 a1).f3))).setCell ⟨gb50003,4,none⟩ (.bool false)).heap[gb50001]? = some (.cells #[.slice A0_0 l0_0.length c0_0,.slice (some ad50002) l0_1.length c0_1,.int .i64 a0_2] 36 (0,0))):=⟨by(with_reducible repeat(first|refine Zu ?_ _|refine Zv ?_|refine Zs ?_ _));refine ZV ?_ NB50001_50003.out _;(with_reducible repeat(first|refine Zu ?_ _|refine Zv ?_|refine Zs ?_ _));refine ZV ?_ NB50001_50003.out _;(with_reducible repeat(first|refine Zu ?_ _|refine Zv ?_|refine Zs ?_ _));refine ZV ?_ NB50001_50003.out _;(with_reducible repeat(first|refine Zu ?_ _|refine Zv ?_|refine Zs ?_ _));refine ZV ?_ NB50001_50003.out _;(with_reducible repeat(first|refine Zu ?_ _|refine Zv ?_|refine Zs ?_ _));refine ZV ?_ NB50001_50003.out _;(with_reducible repeat(first|refine Zu ?_ _|refine Zv ?_|refine Zs ?_ _));exact BK50001.out⟩
        have n1_:Aside0 ((((((w36.setCell ⟨gb50003,0,none⟩ (.int .i64 ((Zw l0_1 a1).f0))).setCell ⟨gb50003,1,none⟩ (.int .i64 ((Zw l0_1 a1).f1))).setCell ⟨gb50003,2,none⟩ (.int .i64 ((Zw l0_1 a1).f2))).setCell ⟨gb50003,3,none⟩ (.int .i64 ((Zw l0_1 a1).f3))).setCell ⟨gb50003,4,none⟩ (.bool false)).heap[gb50003]? = some (.cells #[.int .i64 ((Zw l0_1 a1).f0),.int .i64 ((Zw l0_1 a1).f1),.int .i64 ((Zw l0_1 a1).f2),.int .i64 ((Zw l0_1 a1).f3),.bool false] 66 (0,0))):=⟨by(with_reducible repeat(first|refine Zu ?_ _|refine Zv ?_|refine Zs ?_ _));refine Z6 (cs:=#[.int .i64 ((Zw l0_1 a1).f0),.int .i64 ((Zw l0_1 a1).f1),.int .i64 ((Zw l0_1 a1).f2),.int .i64 ((Zw l0_1 a1).f3),.bool false]) ?_ 4 _ rfl;(with_reducible repeat(first|refine Zu ?_ _|refine Zv ?_|refine Zs ?_ _));refine Z6 (cs:=#[.int .i64 ((Zw l0_1 a1).f0),.int .i64 ((Zw l0_1 a1).f1),.int .i64 ((Zw l0_1 a1).f2),.int .i64 0,.bool false]) ?_ 3 _ rfl;(with_reducible repeat(first|refine Zu ?_ _|refine Zv ?_|refine Zs ?_ _));refine Z6 (cs:=#[.int .i64 ((Zw l0_1 a1).f0),.int .i64 ((Zw l0_1 a1).f1),.int .i64 0,.int .i64 0,.bool false]) ?_ 2 _ rfl;(with_reducible repeat(first|refine Zu ?_ _|refine Zv ?_|refine Zs ?_ _));refine Z6 (cs:=#[.int .i64 ((Zw l0_1 a1).f0),.int .i64 0,.int .i64 0,.int .i64 0,.bool false]) ?_ 1 _ rfl;(with_reducible repeat(first|refine Zu ?_ _|refine Zv ?_|refine Zs ?_ _));refine Z6 (cs:=#[.int .i64 0,.int .i64 0,.int .i64 0,.int .i64 0,.bool false]) ?_ 0 _ rfl;(with_reducible repeat(first|refine Zu ?_ _|refine Zv ?_|refine Zs ?_ _));exact BK50003.out⟩
        have n2_:Aside0 (Below w.heap.size w (((((w36.setCell ⟨gb50003,0,none⟩ (.int .i64 ((Zw l0_1 a1).f0))).setCell ⟨gb50003,1,none⟩ (.int .i64 ((Zw l0_1 a1).f1))).setCell ⟨gb50003,2,none⟩ (.int .i64 ((Zw l0_1 a1).f2))).setCell ⟨gb50003,3,none⟩ (.int .i64 ((Zw l0_1 a1).f3))).setCell ⟨gb50003,4,none⟩ (.bool false))):=⟨by repeat(first|(with_reducible first|exact HB.out|apply Zn|apply Zm|apply Zo|refine Zr ?_ GE50001.out|refine Zr ?_ GE50003.out)|exact HB.out)⟩
        (try clear BK50001)
        (try clear BK50003)
        (try clear HB)
        generalize (((((w36.setCell ⟨gb50003,0,none⟩ (.int .i64 ((Zw l0_1 a1).f0))).setCell ⟨gb50003,1,none⟩ (.int .i64 ((Zw l0_1 a1).f1))).setCell ⟨gb50003,2,none⟩ (.int .i64 ((Zw l0_1 a1).f2))).setCell ⟨gb50003,3,none⟩ (.int .i64 ((Zw l0_1 a1).f3))).setCell ⟨gb50003,4,none⟩ (.bool false))=w39 at n0_ n1_ n2_ ⊢
        have BK50001:=n0_;have BK50003:=n1_;have HB:=n2_;clear n0_ n1_ n2_
        replace BK50001:=Za (Zv BK50001.out);replace BK50003:=Za (Zv BK50003.out);replace HB:=Za (Zo HB.out)
        have p50012:0≤(((Zw l0_1 a1).f0):Int):=Zd (by first|(with_reducible assumption)|assumption)
        have q50012:((Zw l0_1 a1).f0)<(l0_0.length:Int):=Zd (by first|(with_reducible assumption)|assumption)
        obtain⟨ad50012,A50012_1,c50012_1,e50012,hx50012_0,hx50012_1,hx50012_2,hl50012_1,hi50012_1⟩:=Zan HR0_0.out ((Zw l0_1 a1).f0) p50012 q50012
        have hw50012_2:=hx50012_2
        have hw50012_1:=hx50012_1
        have hw50012_0:=hx50012_0
        cases e50012
        replace hx50012_0:=(HB.out.cell (Zc w _ hx50012_0)).trans hx50012_0
        replace hx50012_1:=(HB.out.cell (Zc w _ hx50012_1)).trans hx50012_1
        replace hx50012_2:=(HB.out.cell (Zc w _ hx50012_2)).trans hx50012_2
        have HR50012_1:=Za hi50012_1;have HC50012_1:=Za hl50012_1;clear hi50012_1 hl50012_1
        replace p50012:=eq_true p50012
        replace q50012:=eq_true q50012
        have p50013:0≤(((Zw l0_1 a1).f1):Int):=Zd (by first|(with_reducible assumption)|assumption)
        have q50013:((Zw l0_1 a1).f1)<(l0_0.length:Int):=Zd (by first|(with_reducible assumption)|assumption)
        obtain⟨ad50013,A50013_1,c50013_1,e50013,hx50013_0,hx50013_1,hx50013_2,hl50013_1,hi50013_1⟩:=Zan HR0_0.out ((Zw l0_1 a1).f1) p50013 q50013
        have hw50013_2:=hx50013_2
        have hw50013_1:=hx50013_1
        have hw50013_0:=hx50013_0
        obtain rfl:ad50012=ad50013:=(by injection e50013)
        replace hx50013_0:=(HB.out.cell (Zc w _ hx50013_0)).trans hx50013_0
        replace hx50013_1:=(HB.out.cell (Zc w _ hx50013_1)).trans hx50013_1
        replace hx50013_2:=(HB.out.cell (Zc w _ hx50013_2)).trans hx50013_2
        have HR50013_1:=Za hi50013_1;have HC50013_1:=Za hl50013_1;clear hi50013_1 hl50013_1
        replace p50013:=eq_true p50013
        replace q50013:=eq_true q50013
        refine Zbq (n:=24) (S:=fun w'=>w'.cell? ⟨gb50001,0,none⟩=some (.slice (some ad50012) l0_0.length c0_0)∧w'.cell? ⟨gb50001,1,none⟩=some (.slice (some ad50002) l0_1.length c0_1)∧w'.cell? ⟨gb50001,2,none⟩=some (.int .i64 a0_2)∧w'.cell? ⟨gb50003,0,none⟩=some (.int .i64 ((Zw l0_1 a1).f0))∧w'.cell? ⟨gb50003,1,none⟩=some (.int .i64 ((Zw l0_1 a1).f1))∧w'.cell? ⟨gb50003,2,none⟩=some (.int .i64 ((Zw l0_1 a1).f2))∧w'.cell? ⟨gb50003,3,none⟩=some (.int .i64 ((Zw l0_1 a1).f3))∧w'.cell? ⟨gb50003,4,none⟩=some (.bool false)∧w'.cell? (ad50012.add ((((Zw l0_1 a1).f0)).toNat * 3))=some (.string ((Zp l0_0 ((Zw l0_1 a1).f0)).f0))∧w'.cell? ⟨(ad50012.add ((((Zw l0_1 a1).f0)).toNat * 3)).block,(ad50012.add ((((Zw l0_1 a1).f0)).toNat * 3)).off+1,none⟩=some (.slice A50012_1 ((Zp l0_0 ((Zw l0_1 a1).f0)).f1).length c50012_1)∧w'.cell? ⟨(ad50012.add ((((Zw l0_1 a1).f0)).toNat * 3)).block,(ad50012.add ((((Zw l0_1 a1).f0)).toNat * 3)).off+2,none⟩=some (.int .i64 ((Zp l0_0 ((Zw l0_1 a1).f0)).f2))∧w'.cell? (ad50012.add ((((Zw l0_1 a1).f1)).toNat * 3))=some (.string ((Zp l0_0 ((Zw l0_1 a1).f1)).f0))∧w'.cell? ⟨(ad50012.add ((((Zw l0_1 a1).f1)).toNat * 3)).block,(ad50012.add ((((Zw l0_1 a1).f1)).toNat * 3)).off+1,none⟩=some (.slice A50013_1 ((Zp l0_0 ((Zw l0_1 a1).f1)).f1).length c50013_1)∧w'.cell? ⟨(ad50012.add ((((Zw l0_1 a1).f1)).toNat * 3)).block,(ad50012.add ((((Zw l0_1 a1).f1)).toNat * 3)).off+2,none⟩=some (.int .i64 ((Zp l0_0 ((Zw l0_1 a1).f1)).f2))) (ds:=[]) #[false,false,false,false,false,false,false,false,false,false,false,false,false,false,false,false,false,false,false,false,false,false,false,false] (by kernel_rfl) rfl rfl ⟨(Zq BK50001.out 0).trans rfl,(Zq BK50001.out 1).trans rfl,(Zq BK50001.out 2).trans rfl,(Zq BK50003.out 0).trans rfl,(Zq BK50003.out 1).trans rfl,(Zq BK50003.out 2).trans rfl,(Zq BK50003.out 3).trans rfl,(Zq BK50003.out 4).trans rfl,((HB.out.cell (Zc w _ hw50012_0)).trans hw50012_0),((HB.out.cell (Zc w _ hw50012_1)).trans hw50012_1),((HB.out.cell (Zc w _ hw50012_2)).trans hw50012_2),((HB.out.cell (Zc w _ hw50013_0)).trans hw50013_0),((HB.out.cell (Zc w _ hw50013_1)).trans hw50013_1),((HB.out.cell (Zc w _ hw50013_2)).trans hw50013_2)⟩ (fun hHeld=>?_);refine Zbe Zaa.tab5 Zaa.bits5 (fun HT_ HW_=>?_)
        generalize w39.drew=w40 at BK50001 BK50003 HB HR50012_1 HR50013_1 hx50012_0 hx50012_1 hx50012_2 hx50013_0 hx50013_1 hx50013_2 hHeld ⊢
        refine ZO (i:=0) (N:=some 14) (v:=?_) (a':=?_) #[true,false,false,false,false,false,false,false,false,false,false,false,false,false,false,false,false,false,false,false,false,false,false,false] rfl rfl (ZJ HT_.out (by kernel_rfl)) (fun _ _ _ h=>h) (Or.inl ⟨by rfl,?_⟩) ?_ ?_
        rotate_left
        ·intro w'
         go_simp
         with_reducible rfl
        rotate_left
        ·simp only[Act.put,List.setIfInBounds_toArray,List.set_cons_zero,List.set_cons_succ,ZC,ZD]
         rfl
        refine ZO (i:=1) (N:=some 15) (v:=?_) (a':=?_) #[true,true,false,false,false,false,false,false,false,false,false,false,false,false,false,false,false,false,false,false,false,false,false,false] rfl rfl (ZJ HT_.out (by kernel_rfl)) (fun _ _ _ h=>h) (Or.inl ⟨by rfl,?_⟩) ?_ ?_
        rotate_left
        ·intro w'
         go_simp
         with_reducible rfl
        rotate_left
        ·simp only[Act.put,List.setIfInBounds_toArray,List.set_cons_zero,List.set_cons_succ,ZC,ZD]
         rfl
        refine ZO (i:=3) (N:=some 17) (v:=?_) (a':=?_) #[true,true,false,true,false,false,false,false,false,false,false,false,false,false,false,false,false,false,false,false,false,false,false,false] rfl rfl (ZJ HT_.out (by kernel_rfl)) (fun _ _ _ h=>h) (Or.inl ⟨by rfl,?_⟩) ?_ ?_
        rotate_left
        ·intro w'
         go_simp
         with_reducible rfl
        rotate_left
        ·simp only[Act.put,List.setIfInBounds_toArray,List.set_cons_zero,List.set_cons_succ,ZC,ZD]
         rfl
        refine ZO (i:=8) (N:=some 22) (v:=?_) (a':=?_) #[true,true,false,true,false,false,false,false,true,false,false,false,false,false,false,false,false,false,false,false,false,false,false,false] rfl rfl (ZJ HT_.out (by kernel_rfl)) (fun _ _ _ h=>h) (Or.inl ⟨by rfl,?_⟩) ?_ ?_
        rotate_left
        ·intro w'
         go_simp
         with_reducible rfl
        rotate_left
        ·simp only[Act.put,List.setIfInBounds_toArray,List.set_cons_zero,List.set_cons_succ,ZC,ZD]
         rfl
        refine ZO (i:=10) (N:=some 24) (v:=?_) (a':=?_) #[true,true,false,true,false,false,false,false,true,false,true,false,false,false,false,false,false,false,false,false,false,false,false,false] rfl rfl (ZJ HT_.out (by kernel_rfl)) (fun _ _ _ h=>h) (Or.inl ⟨by rfl,?_⟩) ?_ ?_
        rotate_left
        ·intro w'
         go_simp
         with_reducible rfl
        rotate_left
        ·simp only[Act.put,List.setIfInBounds_toArray,List.set_cons_zero,List.set_cons_succ,ZC,ZD]
         rfl
        refine ZO (i:=15) (N:=some 29) (v:=?_) (a':=?_) #[true,true,false,true,false,false,false,false,true,false,true,false,false,false,false,true,false,false,false,false,false,false,false,false] rfl rfl (ZJ HT_.out (by kernel_rfl)) (fun _ _ _ h=>h) (Or.inl ⟨by rfl,?_⟩) ?_ ?_
        rotate_left
        ·intro w'
         go_simp
         with_reducible rfl
        rotate_left
        ·simp only[Act.put,List.setIfInBounds_toArray,List.set_cons_zero,List.set_cons_succ,ZC,ZD]
         rfl
        refine ZO (i:=18) (N:=some 32) (v:=?_) (a':=?_) #[true,true,false,true,false,false,false,false,true,false,true,false,false,false,false,true,false,false,true,false,false,false,false,false] rfl rfl (ZJ HT_.out (by kernel_rfl)) (fun _ _ _ h=>h) (Or.inl ⟨by rfl,?_⟩) ?_ ?_
        rotate_left
        ·intro w'
         go_simp
         with_reducible rfl
        rotate_left
        ·simp only[Act.put,List.setIfInBounds_toArray,List.set_cons_zero,List.set_cons_succ,ZC,ZD]
         rfl
        refine take_ (i:=2) (N:=some 16) (v:=?_) (a':=?_) #[true,true,true,true,false,false,false,false,true,false,true,false,false,false,false,true,false,false,true,false,false,false,false,false] rfl rfl (Z3 HT_.out HW_.out (by kernel_rfl)) (fun _ _ _ h=>h) (Or.inl ⟨by rfl,?_⟩) hHeld ?_ ?_
        rotate_left
        ·rintro w' ⟨s0,s1,s2,s3,s4,s5,s6,s7,s8,s9,s10,s11,s12,s13⟩
         go_simp
         with_reducible rfl
        rotate_left
        ·simp only[Act.put,List.setIfInBounds_toArray,List.set_cons_zero,List.set_cons_succ,ZC,ZD]
         rfl
        refine take_ (i:=4) (N:=some 18) (v:=?_) (a':=?_) #[true,true,true,true,true,false,false,false,true,false,true,false,false,false,false,true,false,false,true,false,false,false,false,false] rfl rfl (Z3 HT_.out HW_.out (by kernel_rfl)) (fun _ _ _ h=>h) (Or.inl ⟨by rfl,?_⟩) hHeld ?_ ?_
        rotate_left
        ·rintro w' ⟨s0,s1,s2,s3,s4,s5,s6,s7,s8,s9,s10,s11,s12,s13⟩
         go_simp
         with_reducible rfl
        rotate_left
        ·simp only[Act.put,List.setIfInBounds_toArray,List.set_cons_zero,List.set_cons_succ,ZC,ZD]
         rfl
        refine ZO (i:=5) (N:=some 19) (v:=?_) (a':=?_) #[true,true,true,true,true,true,false,false,true,false,true,false,false,false,false,true,false,false,true,false,false,false,false,false] rfl rfl (ZJ HT_.out (by kernel_rfl)) (fun _ _ _ h=>h) (Or.inl ⟨by rfl,?_⟩) ?_ ?_
        rotate_left
        ·intro w'
         go_simp
         with_reducible rfl
        rotate_left
        ·simp only[Act.put,List.setIfInBounds_toArray,List.set_cons_zero,List.set_cons_succ,ZC,ZD]
         rfl
        refine ZO (i:=6) (N:=some 20) (v:=?_) (a':=?_) #[true,true,true,true,true,true,true,false,true,false,true,false,false,false,false,true,false,false,true,false,false,false,false,false] rfl rfl (ZJ HT_.out (by kernel_rfl)) (fun _ _ _ h=>h) (Or.inl ⟨by rfl,?_⟩) ?_ ?_
        rotate_left
        ·intro w'
         go_simp
         with_reducible rfl
        rotate_left
        ·simp only[Act.put,List.setIfInBounds_toArray,List.set_cons_zero,List.set_cons_succ,ZC,ZD]
         rfl
        refine take_ (i:=7) (N:=some 21) (v:=?_) (a':=?_) #[true,true,true,true,true,true,true,true,true,false,true,false,false,false,false,true,false,false,true,false,false,false,false,false] rfl rfl (Z3 HT_.out HW_.out (by kernel_rfl)) (fun _ _ _ h=>h) (Or.inl ⟨by rfl,?_⟩) hHeld ?_ ?_
        rotate_left
        ·rintro w' ⟨s0,s1,s2,s3,s4,s5,s6,s7,s8,s9,s10,s11,s12,s13⟩
         go_simp
         with_reducible rfl
        rotate_left
        ·simp only[Act.put,List.setIfInBounds_toArray,List.set_cons_zero,List.set_cons_succ,ZC,ZD]
         rfl
        refine take_ (i:=9) (N:=some 23) (v:=?_) (a':=?_) #[true,true,true,true,true,true,true,true,true,true,true,false,false,false,false,true,false,false,true,false,false,false,false,false] rfl rfl (Z3 HT_.out HW_.out (by kernel_rfl)) (fun _ _ _ h=>h) (Or.inl ⟨by rfl,?_⟩) hHeld ?_ ?_
        rotate_left
        ·rintro w' ⟨s0,s1,s2,s3,s4,s5,s6,s7,s8,s9,s10,s11,s12,s13⟩
         go_simp
         with_reducible rfl
        rotate_left
        ·simp only[Act.put,List.setIfInBounds_toArray,List.set_cons_zero,List.set_cons_succ,ZC,ZD]
         rfl
        refine take_ (i:=11) (N:=some 25) (v:=?_) (a':=?_) #[true,true,true,true,true,true,true,true,true,true,true,true,false,false,false,true,false,false,true,false,false,false,false,false] rfl rfl (Z3 HT_.out HW_.out (by kernel_rfl)) (fun _ _ _ h=>h) (Or.inl ⟨by rfl,?_⟩) hHeld ?_ ?_
        rotate_left
        ·rintro w' ⟨s0,s1,s2,s3,s4,s5,s6,s7,s8,s9,s10,s11,s12,s13⟩
         go_simp
         with_reducible rfl
        rotate_left
        ·simp only[Act.put,List.setIfInBounds_toArray,List.set_cons_zero,List.set_cons_succ,ZC,ZD]
         rfl
        refine ZO (i:=12) (N:=some 26) (v:=?_) (a':=?_) #[true,true,true,true,true,true,true,true,true,true,true,true,true,false,false,true,false,false,true,false,false,false,false,false] rfl rfl (ZJ HT_.out (by kernel_rfl)) (fun _ _ _ h=>h) (Or.inl ⟨by rfl,?_⟩) ?_ ?_
        rotate_left
        ·intro w'
         go_simp
         with_reducible rfl
        rotate_left
        ·simp only[Act.put,List.setIfInBounds_toArray,List.set_cons_zero,List.set_cons_succ,ZC,ZD]
         rfl
        refine ZO (i:=13) (N:=some 27) (v:=?_) (a':=?_) #[true,true,true,true,true,true,true,true,true,true,true,true,true,true,false,true,false,false,true,false,false,false,false,false] rfl rfl (ZJ HT_.out (by kernel_rfl)) (fun _ _ _ h=>h) (Or.inl ⟨by rfl,?_⟩) ?_ ?_
        rotate_left
        ·intro w'
         go_simp
         with_reducible rfl
        rotate_left
        ·simp only[Act.put,List.setIfInBounds_toArray,List.set_cons_zero,List.set_cons_succ,ZC,ZD]
         rfl
        refine take_ (i:=14) (N:=some 28) (v:=?_) (a':=?_) #[true,true,true,true,true,true,true,true,true,true,true,true,true,true,true,true,false,false,true,false,false,false,false,false] rfl rfl (Z3 HT_.out HW_.out (by kernel_rfl)) (fun _ _ _ h=>h) (Or.inl ⟨by rfl,?_⟩) hHeld ?_ ?_
        rotate_left
        ·rintro w' ⟨s0,s1,s2,s3,s4,s5,s6,s7,s8,s9,s10,s11,s12,s13⟩
         go_simp
         with_reducible rfl
        rotate_left
        ·simp only[Act.put,List.setIfInBounds_toArray,List.set_cons_zero,List.set_cons_succ,ZC,ZD]
         rfl
        refine take_ (i:=16) (N:=some 30) (v:=?_) (a':=?_) #[true,true,true,true,true,true,true,true,true,true,true,true,true,true,true,true,true,false,true,false,false,false,false,false] rfl rfl (Z3 HT_.out HW_.out (by kernel_rfl)) (fun _ _ _ h=>h) (Or.inl ⟨by rfl,?_⟩) hHeld ?_ ?_
        rotate_left
        ·rintro w' ⟨s0,s1,s2,s3,s4,s5,s6,s7,s8,s9,s10,s11,s12,s13⟩
         go_simp
         with_reducible rfl
        rotate_left
        ·simp only[Act.put,List.setIfInBounds_toArray,List.set_cons_zero,List.set_cons_succ,ZC,ZD]
         rfl
        refine take_ (i:=19) (N:=some 33) (v:=?_) (a':=?_) #[true,true,true,true,true,true,true,true,true,true,true,true,true,true,true,true,true,false,true,true,false,false,false,false] rfl rfl (Z3 HT_.out HW_.out (by kernel_rfl)) (fun _ _ _ h=>h) (Or.inl ⟨by rfl,?_⟩) hHeld ?_ ?_
        rotate_left
        ·rintro w' ⟨s0,s1,s2,s3,s4,s5,s6,s7,s8,s9,s10,s11,s12,s13⟩
         go_simp
         with_reducible rfl
        rotate_left
        ·simp only[Act.put,List.setIfInBounds_toArray,List.set_cons_zero,List.set_cons_succ,ZC,ZD]
         rfl
        refine one_ (i:=17) (N:=some 31) #[true,true,true,true,true,true,true,true,true,true,true,true,true,true,true,true,true,true,true,true,false,false,false,false] rfl rfl (ZaR HT_.out (by kernel_rfl)) (by decide) (fun K hK=>?_)
        refine ZaX Tryd.func38 (by kernel_rfl) rfl #[.int .i64 ((Zw l0_1 a1).f2)] (by rfl) rfl rfl (by(try simp only[List.map_toArray,List.map_cons,List.map_nil]);first|done|rfl|(simp only[Zk,Zj];rfl)) ?_
        with_reducible refine(ZR.calls ((Zw l0_1 a1).f2) t50014 _ ?sideT A31.out).mono ?_
        case sideT=>exact TW.below HTW.out (by repeat(first|(with_reducible first|exact HB.out|apply Zn|apply Zm|apply Zo|refine Zr ?_ GE50001.out|refine Zr ?_ GE50003.out)|exact HB.out))
        rintro e w41 ⟨rfl,hb⟩
        refine⟨_,rfl,?_⟩
        replace BK50001:=Za (ZB (g:=gb50001) (o:=.cells #[.slice (some ad50012) l0_0.length c0_0,.slice (some ad50002) l0_1.length c0_1,.int .i64 a0_2] 36 (0,0)) (by(with_reducible repeat(first|refine Zu ?_ _|refine Zv ?_|refine Zs ?_ _));exact BK50001.out) hb);replace BK50003:=Za (ZB (g:=gb50003) (o:=.cells #[.int .i64 ((Zw l0_1 a1).f0),.int .i64 ((Zw l0_1 a1).f1),.int .i64 ((Zw l0_1 a1).f2),.int .i64 ((Zw l0_1 a1).f3),.bool false] 66 (0,0)) (by(with_reducible repeat(first|refine Zu ?_ _|refine Zv ?_|refine Zs ?_ _));exact BK50003.out) hb);replace HB:=Za (Zx (by repeat(first|(with_reducible first|exact HB.out|apply Zn|apply Zm|apply Zo|refine Zr ?_ GE50001.out|refine Zr ?_ GE50003.out)|exact HB.out)) hb)
        (try clear hb)
        (try clear hb2)
        (try clear hk)
        (try clear hi)
        refine hK.out _ _ ⟨(Zq BK50001.out 0).trans rfl,(Zq BK50001.out 1).trans rfl,(Zq BK50001.out 2).trans rfl,(Zq BK50003.out 0).trans rfl,(Zq BK50003.out 1).trans rfl,(Zq BK50003.out 2).trans rfl,(Zq BK50003.out 3).trans rfl,(Zq BK50003.out 4).trans rfl,((HB.out.cell (Zc w _ hw50012_0)).trans hw50012_0),((HB.out.cell (Zc w _ hw50012_1)).trans hw50012_1),((HB.out.cell (Zc w _ hw50012_2)).trans hw50012_2),((HB.out.cell (Zc w _ hw50013_0)).trans hw50013_0),((HB.out.cell (Zc w _ hw50013_1)).trans hw50013_1),((HB.out.cell (Zc w _ hw50013_2)).trans hw50013_2)⟩ (fun hHeld=>?_)
        clear hK K
        refine ZaE (a':=?_) ?_ ?_
        rotate_left
        ·show Act.put _ (some 31) _=_
         simp only[Act.put,List.setIfInBounds_toArray,List.set_cons_zero,List.set_cons_succ,ZC,ZD]
         rfl
        refine one_ (i:=20) (N:=some 34) #[true,true,true,true,true,true,true,true,true,true,true,true,true,true,true,true,true,true,true,true,true,false,false,false] rfl rfl (ZaR HT_.out (by kernel_rfl)) (by decide) (fun K hK=>?_)
        refine ZaX Tryd.func38 (by kernel_rfl) rfl #[.int .i64 ((Zw l0_1 a1).f3)] (by rfl) rfl rfl (by(try simp only[List.map_toArray,List.map_cons,List.map_nil]);first|done|rfl|(simp only[Zk,Zj];rfl)) ?_
        with_reducible refine(ZR.calls ((Zw l0_1 a1).f3) t50015 _ ?sideT A32.out).mono ?_
        case sideT=>exact TW.below HTW.out (by repeat(first|(with_reducible first|exact HB.out|apply Zn|apply Zm|apply Zo|refine Zr ?_ GE50001.out|refine Zr ?_ GE50003.out)|exact HB.out))
        rintro e w42 ⟨rfl,hb⟩
        refine⟨_,rfl,?_⟩
        replace BK50001:=Za (ZB (g:=gb50001) (o:=.cells #[.slice (some ad50012) l0_0.length c0_0,.slice (some ad50002) l0_1.length c0_1,.int .i64 a0_2] 36 (0,0)) (by(with_reducible repeat(first|refine Zu ?_ _|refine Zv ?_|refine Zs ?_ _));exact BK50001.out) hb);replace BK50003:=Za (ZB (g:=gb50003) (o:=.cells #[.int .i64 ((Zw l0_1 a1).f0),.int .i64 ((Zw l0_1 a1).f1),.int .i64 ((Zw l0_1 a1).f2),.int .i64 ((Zw l0_1 a1).f3),.bool false] 66 (0,0)) (by(with_reducible repeat(first|refine Zu ?_ _|refine Zv ?_|refine Zs ?_ _));exact BK50003.out) hb);replace HB:=Za (Zx (by repeat(first|(with_reducible first|exact HB.out|apply Zn|apply Zm|apply Zo|refine Zr ?_ GE50001.out|refine Zr ?_ GE50003.out)|exact HB.out)) hb)
        (try clear hb)
        (try clear hb2)
        (try clear hk)
        (try clear hi)
        refine hK.out _ _ ⟨(Zq BK50001.out 0).trans rfl,(Zq BK50001.out 1).trans rfl,(Zq BK50001.out 2).trans rfl,(Zq BK50003.out 0).trans rfl,(Zq BK50003.out 1).trans rfl,(Zq BK50003.out 2).trans rfl,(Zq BK50003.out 3).trans rfl,(Zq BK50003.out 4).trans rfl,((HB.out.cell (Zc w _ hw50012_0)).trans hw50012_0),((HB.out.cell (Zc w _ hw50012_1)).trans hw50012_1),((HB.out.cell (Zc w _ hw50012_2)).trans hw50012_2),((HB.out.cell (Zc w _ hw50013_0)).trans hw50013_0),((HB.out.cell (Zc w _ hw50013_1)).trans hw50013_1),((HB.out.cell (Zc w _ hw50013_2)).trans hw50013_2)⟩ (fun hHeld=>?_)
        clear hK K
        refine ZaE (a':=?_) ?_ ?_
        rotate_left
        ·show Act.put _ (some 34) _=_
         simp only[Act.put,List.setIfInBounds_toArray,List.set_cons_zero,List.set_cons_succ,ZC,ZD]
         rfl
        refine one_ (i:=21) (N:=some 35) #[true,true,true,true,true,true,true,true,true,true,true,true,true,true,true,true,true,true,true,true,true,true,false,false] rfl rfl (ZaR HT_.out (by kernel_rfl)) (by decide) (fun K hK=>?_)
        refine Kd.R_lit_step Kd.string _ 9 ?hg (N:=35) ?hd (xs:=([(⟨#[116,105,101]⟩:ByteArray),(Zp l0_0 ((Zw l0_1 a1).f0)).f0,(Zp l0_0 ((Zw l0_1 a1).f1)).f0,t50014,t50015]:List ByteArray)) (inner:=[.string (⟨#[116,105,101]⟩:ByteArray),.string ((Zp l0_0 ((Zw l0_1 a1).f0)).f0),.string ((Zp l0_0 ((Zw l0_1 a1).f1)).f0),.string t50014,.string t50015]) (ok:=fun _=>True) (okp:=fun _=>True) ?hr ?hp (fun _ hk=>hk) trivial (Below.refl _ _) (Nat.le_refl _) (by simp) ?_;(case hd=>rfl);(case hg=>rfl);(case hr=>first|(go_simp;done)|(go_simp;rfl));(case hp=>exact(Reps.one (show Kd.M Kd.string _ _ _ (⟨#[116,105,101]⟩:ByteArray) [.string (⟨#[116,105,101]⟩:ByteArray)] from rfl) (Reps.one (show Kd.M Kd.string _ _ _ ((Zp l0_0 ((Zw l0_1 a1).f0)).f0) [.string ((Zp l0_0 ((Zw l0_1 a1).f0)).f0)] from rfl) (Reps.one (show Kd.M Kd.string _ _ _ ((Zp l0_0 ((Zw l0_1 a1).f1)).f0) [.string ((Zp l0_0 ((Zw l0_1 a1).f1)).f0)] from rfl) (Reps.one (show Kd.M Kd.string _ _ _ t50014 [.string t50014] from rfl) (Reps.one (show Kd.M Kd.string _ _ _ t50015 [.string t50015] from rfl) (Reps.none _ _)))))))
        intro v50017 w43 ho44 hb hg_ hnew_
        clear hg_ hnew_
        (first|rw[← Ny50016.out] at ho44|(simp only[Int.reduceToNat] at ho44;rw[← Ny50016.out] at ho44))
        have HO50018:=Za (Kd.R_lower ho44 (Zy (by repeat(first|(with_reducible first|exact HB.out|apply Zn|apply Zm|apply Zo|refine Zr ?_ GE50001.out|refine Zr ?_ GE50003.out)|exact HB.out))));replace BK50001:=Za (ZB (g:=gb50001) (o:=.cells #[.slice (some ad50012) l0_0.length c0_0,.slice (some ad50002) l0_1.length c0_1,.int .i64 a0_2] 36 (0,0)) (by(with_reducible repeat(first|refine Zu ?_ _|refine Zv ?_|refine Zs ?_ _));exact BK50001.out) hb);replace BK50003:=Za (ZB (g:=gb50003) (o:=.cells #[.int .i64 ((Zw l0_1 a1).f0),.int .i64 ((Zw l0_1 a1).f1),.int .i64 ((Zw l0_1 a1).f2),.int .i64 ((Zw l0_1 a1).f3),.bool false] 66 (0,0)) (by(with_reducible repeat(first|refine Zu ?_ _|refine Zv ?_|refine Zs ?_ _));exact BK50003.out) hb);replace HB:=Za (Zx (by repeat(first|(with_reducible first|exact HB.out|apply Zn|apply Zm|apply Zo|refine Zr ?_ GE50001.out|refine Zr ?_ GE50003.out)|exact HB.out)) hb)
        clear hb ho44
        obtain⟨Ao45,co45,eo45⟩:=Kd.R_slice HO50018.out
        (first|subst eo45|(injection eo45 with f1_ f2_ f3_;have f4_:=f1_.symm;have f5_:=f3_.symm;clear f1_ f2_ f3_;subst f4_;subst f5_))
        refine hK.out _ _ ⟨(Zq BK50001.out 0).trans rfl,(Zq BK50001.out 1).trans rfl,(Zq BK50001.out 2).trans rfl,(Zq BK50003.out 0).trans rfl,(Zq BK50003.out 1).trans rfl,(Zq BK50003.out 2).trans rfl,(Zq BK50003.out 3).trans rfl,(Zq BK50003.out 4).trans rfl,((HB.out.cell (Zc w _ hw50012_0)).trans hw50012_0),((HB.out.cell (Zc w _ hw50012_1)).trans hw50012_1),((HB.out.cell (Zc w _ hw50012_2)).trans hw50012_2),((HB.out.cell (Zc w _ hw50013_0)).trans hw50013_0),((HB.out.cell (Zc w _ hw50013_1)).trans hw50013_1),((HB.out.cell (Zc w _ hw50013_2)).trans hw50013_2)⟩ (fun hHeld=>?_)
        clear hK K
        refine ZaE (a':=?_) ?_ ?_
        rotate_left
        ·show Act.put _ (some 35) _=_
         simp only[Act.put,List.setIfInBounds_toArray,List.set_cons_zero,List.set_cons_succ,ZC,ZD]
         rfl
        refine one_ (i:=22) (N:=some 36) #[true,true,true,true,true,true,true,true,true,true,true,true,true,true,true,true,true,true,true,true,true,true,true,false] rfl rfl (ZaR HT_.out (by kernel_rfl)) (by decide) (fun K hK=>?_)
        refine ZaX Tryd.func40 (by kernel_rfl) rfl #[.slice Ao45 y50016.length co45,.string (⟨#[32]⟩:ByteArray)] (by rfl) rfl rfl (by(try simp only[List.map_toArray,List.map_cons,List.map_nil]);first|done|rfl|(simp only[Zk,Zj];rfl)) ?_
        with_reducible refine(Zai.calls _ _ y50016 (⟨#[32]⟩:ByteArray) t50019 _ ?side1 ?side2 ?sideS A33.out).mono ?_
        case sideS=>exact R_spot HO50018.out
        (case side1=>repeat(first|exact(Kd.R_reads' HO50018.out).2.2|(with_reducible refine Kd.C_alloc ?_ _)|(with_reducible refine Kd.C_drewN ?_ _)|(with_reducible refine Kd.C_drew ?_)))
        (case side2=>exact(Kd.R_reads' HO50018.out).2.1)
        rintro e w46 ⟨rfl,hb⟩
        refine⟨_,rfl,?_⟩
        replace HO50018:=Za (Kd.R_below (by(with_reducible repeat(first|apply Kd.R_alloc|apply Kd.R_drewN|apply Kd.R_drew));exact HO50018.out) hb);replace BK50001:=Za (ZB (g:=gb50001) (o:=.cells #[.slice (some ad50012) l0_0.length c0_0,.slice (some ad50002) l0_1.length c0_1,.int .i64 a0_2] 36 (0,0)) (by(with_reducible repeat(first|refine Zu ?_ _|refine Zv ?_|refine Zs ?_ _));exact BK50001.out) hb);replace BK50003:=Za (ZB (g:=gb50003) (o:=.cells #[.int .i64 ((Zw l0_1 a1).f0),.int .i64 ((Zw l0_1 a1).f1),.int .i64 ((Zw l0_1 a1).f2),.int .i64 ((Zw l0_1 a1).f3),.bool false] 66 (0,0)) (by(with_reducible repeat(first|refine Zu ?_ _|refine Zv ?_|refine Zs ?_ _));exact BK50003.out) hb);replace HB:=Za (Zx (by repeat(first|(with_reducible first|exact HB.out|apply Zn|apply Zm|apply Zo|refine Zr ?_ GE50001.out|refine Zr ?_ GE50003.out)|exact HB.out)) hb)
        (try clear hb)
        (try clear hb2)
        (try clear hk)
        (try clear hi)
        refine hK.out _ _ ⟨(Zq BK50001.out 0).trans rfl,(Zq BK50001.out 1).trans rfl,(Zq BK50001.out 2).trans rfl,(Zq BK50003.out 0).trans rfl,(Zq BK50003.out 1).trans rfl,(Zq BK50003.out 2).trans rfl,(Zq BK50003.out 3).trans rfl,(Zq BK50003.out 4).trans rfl,((HB.out.cell (Zc w _ hw50012_0)).trans hw50012_0),((HB.out.cell (Zc w _ hw50012_1)).trans hw50012_1),((HB.out.cell (Zc w _ hw50012_2)).trans hw50012_2),((HB.out.cell (Zc w _ hw50013_0)).trans hw50013_0),((HB.out.cell (Zc w _ hw50013_1)).trans hw50013_1),((HB.out.cell (Zc w _ hw50013_2)).trans hw50013_2)⟩ (fun hHeld=>?_)
        clear hK K
        refine ZaE (a':=?_) ?_ ?_
        rotate_left
        ·show Act.put _ (some 36) _=_
         simp only[Act.put,List.setIfInBounds_toArray,List.set_cons_zero,List.set_cons_succ,ZC,ZD]
         rfl
        refine ZO (i:=23) (N:=some 4) (v:=?_) (a':=?_) #[true,true,true,true,true,true,true,true,true,true,true,true,true,true,true,true,true,true,true,true,true,true,true,true] rfl rfl (ZJ HT_.out (by kernel_rfl)) (fun _ _ _ h=>h) (Or.inl ⟨by rfl,?_⟩) ?_ ?_
        rotate_left
        ·intro w'
         go_simp
         with_reducible rfl
        rotate_left
        ·simp only[Act.put,List.setIfInBounds_toArray,List.set_cons_zero,List.set_cons_succ,ZC,ZD]
         rfl
        refine ZbJ (ZbA HT_.out (by kernel_rfl)) ?_
        try go_wp2
        go_ret
        exact⟨by first|rfl|(simp[ZA,Zz] <;> rfl)|(simp[*,ZA,Zz] <;> rfl),by repeat(first|(with_reducible first|exact HB.out|apply Zn|apply Zm|apply Zo|refine Zr ?_ GE50001.out|refine Zr ?_ GE50003.out)|exact HB.out)⟩
       ·rw[if_neg c30] at H
        exact absurd H (by simp)
      ·rw[if_neg c29] at H
       exact absurd H (by simp)
     ·rw[if_neg c28] at H
      exact absurd H (by simp)
    ·rw[if_neg c27] at H
     exact absurd H (by simp)
  ·rw[if_neg c4] at H
   exact absurd H (by simp)
 ·rw[if_neg c3] at H
  exact absurd H (by simp)
def Zbv.f (l0_0:List (S73)) (l0_1:List (S66)) (a0_2:Int) (a1:Int):Option (ByteArray):=(ZaG.f l0_0 l0_1 a0_2).bind fun t16002=>(if t16002=true then((Za2.f (l0_1.length:Int) a1).bind fun t16003=>(if t16003=true then((Zaa.f l0_0 l0_1 a0_2 a1).bind fun t16004=>(some t16004)) else(some (⟨#[]⟩:ByteArray)))) else(some (⟨#[]⟩:ByteArray)))
set_option maxHeartbeats 8000000 in
set_option maxRecDepth 100000 in
theorem Zbv.calls (A0_0:Option Addr) (c0_0:Nat) (l0_0:List (S73)) (A0_1:Option Addr) (c0_1:Nat) (l0_1:List (S66)) (a0_2:Int) (a1:Int) (r:ByteArray) (w:World) (hr0_0:Kd.C k73 w A0_0 l0_0.length l0_0) (hc0_0:l0_0.length≤c0_0) (hr0_1:Kd.C k66 w A0_1 l0_1.length l0_1) (hc0_1:l0_1.length≤c0_1) (ht:TW w) (h:Zbv.f l0_0 l0_1 a0_2 a1=some r) :
  Calls Tryd.prog 16 #[.agg #[.slice A0_0 l0_0.length c0_0,.slice A0_1 l0_1.length c0_1,.int .i64 a0_2],.int .i64 a1] w fun e w'=>e=.returned (.string r)∧Below w.heap.size w w':=by
 have HTW:=Za ht;clear ht
 have hu36:=Tryd.underlying36
 have HR0_0:=Za hr0_0;have HC0_0:=Za hc0_0;clear hr0_0 hc0_0;have HR0_1:=Za hr0_1;have HC0_1:=Za hc0_1;clear hr0_1 hc0_1
 have HB:=Za (Below.refl w.heap.size w)
 have H:((ZaG.f l0_0 l0_1 a0_2).bind fun t16002=>(if t16002=true then((Za2.f (l0_1.length:Int) a1).bind fun t16003=>(if t16003=true then((Zaa.f l0_0 l0_1 a0_2 a1).bind fun t16004=>(some t16004)) else(some (⟨#[]⟩:ByteArray)))) else(some (⟨#[]⟩:ByteArray))))=some r:=h
 clear h
 replace H:=Zh H
 obtain⟨t16002,A30,H⟩:=H
 replace H:(if t16002=true then((Za2.f (l0_1.length:Int) a1).bind fun t16003=>(if t16003=true then((Zaa.f l0_0 l0_1 a0_2 a1).bind fun t16004=>(some t16004)) else(some (⟨#[]⟩:ByteArray)))) else(some (⟨#[]⟩:ByteArray)))=some r:=H
 have A3:=Za A30;clear A30
 by_cases c4:t16002=true
 ·subst c4
  have H1:((Za2.f (l0_1.length:Int) a1).bind fun t16003=>(if t16003=true then((Zaa.f l0_0 l0_1 a0_2 a1).bind fun t16004=>(some t16004)) else(some (⟨#[]⟩:ByteArray))))=some r:=by rw[if_pos rfl] at H;exact H
  clear H
  have H:=H1
  clear H1
  replace H:=Zh H
  obtain⟨t16003,A50,H⟩:=H
  replace H:(if t16003=true then((Zaa.f l0_0 l0_1 a0_2 a1).bind fun t16004=>(some t16004)) else(some (⟨#[]⟩:ByteArray)))=some r:=H
  have A5:=Za A50;clear A50
  by_cases c6:t16003=true
  ·subst c6
   have H1:((Zaa.f l0_0 l0_1 a0_2 a1).bind fun t16004=>(some t16004))=some r:=by rw[if_pos rfl] at H;exact H
   clear H
   have H:=H1
   clear H1
   replace H:=Zh H
   obtain⟨t16004,A70,H⟩:=H
   replace H:(some t16004)=some r:=H
   have A7:=Za A70;clear A70
   obtain rfl:=Zg H
   go_enter Tryd.func16,Tryd.ntmps16
   go_wp2_with (first|((with_reducible refine ZN (N:=2) rfl ?_);(try(refine ZaP (by rfl) ?_;dsimp only));refine ZP ?hg (N:=2) ?hd (cs:=#[.slice A0_0 l0_0.length c0_0,.slice A0_1 l0_1.length c0_1,.int .i64 a0_2]) (t:=36) ?hr ?_;(case hd=>rfl);(case hg=>rfl);(case hr=>first|(go_simp;done)|(go_simp;rfl));intro gb16001 hg w8 hbox hb;have BK16001:=Za (hbox);have GW16001:=Za ((by rw[hg];exact(Zy (by repeat(first|(with_reducible first|exact HB.out|apply Zn|apply Zm|apply Zo)|exact HB.out))):w.heap.size≤gb16001));have GE16001:=Za ((by rw[hg];exact(Zy (by repeat(first|(with_reducible first|exact HB.out|apply Zn|apply Zm|apply Zo)|exact HB.out))):w.heap.size≤gb16001));replace HB:=Za (Zx (by repeat(first|(with_reducible first|exact HB.out|apply Zn|apply Zm|apply Zo)|exact HB.out)) hb);clear hb hbox hg;have hcz9_0:w8.cell? ⟨gb16001,0,none⟩=some (.slice A0_0 l0_0.length c0_0):=(Zq BK16001.out 0).trans rfl;have hcz9_1:w8.cell? ⟨gb16001,1,none⟩=some (.slice A0_1 l0_1.length c0_1):=(Zq BK16001.out 1).trans rfl;have hcz9_2:w8.cell? ⟨gb16001,2,none⟩=some (.int .i64 a0_2):=(Zq BK16001.out 2).trans rfl;have hfz9_0:=Zt BK16001.out 0;have hfz9_1:=Zt BK16001.out 1;have hfz9_2:=Zt BK16001.out 2)|((with_reducible refine ZG (f:=48) rfl ?_);refine ZX (some 6) rfl rfl Tryd.func48 (by kernel_rfl) rfl #[.agg #[.slice A0_0 l0_0.length c0_0,.slice A0_1 l0_1.length c0_1,.int .i64 a0_2]] rfl (by(try simp only[List.map_toArray,List.map_cons,List.map_nil]);first|done|rfl|(simp only[Zk,Zj];rfl)) ?_;(with_reducible refine(ZaG.calls _ _ l0_0 _ _ l0_1 a0_2 true _ ?side1 ?side2 ?side3 ?side4 A3.out).mono ?_);(case side1=>repeat(first|exact(Zb HR0_0.out HB.out)|(with_reducible refine Kd.C_alloc ?_ _)|(with_reducible refine Kd.C_drewN ?_ _)|(with_reducible refine Kd.C_drew ?_)));(case side2=>exact HC0_0.out);(case side3=>repeat(first|exact(Zb HR0_1.out HB.out)|(with_reducible refine Kd.C_alloc ?_ _)|(with_reducible refine Kd.C_drewN ?_ _)|(with_reducible refine Kd.C_drew ?_)));(case side4=>exact HC0_1.out);rintro e w10 ⟨rfl,hb⟩;refine⟨_,rfl,?_⟩;replace BK16001:=Za (ZB (g:=gb16001) (o:=.cells #[.slice A0_0 l0_0.length c0_0,.slice A0_1 l0_1.length c0_1,.int .i64 a0_2] 36 (0,0)) (by(with_reducible repeat(first|refine Zu ?_ _|refine Zv ?_|refine Zs ?_ _));exact BK16001.out) hb);replace HB:=Za (Zx (by repeat(first|(with_reducible first|exact HB.out|apply Zn|apply Zm|apply Zo|refine Zr ?_ GE16001.out)|exact HB.out)) hb);(try clear hb);(try clear hb2);(try clear hk);(try clear hi);have hcz11_0:w10.cell? ⟨gb16001,0,none⟩=some (.slice A0_0 l0_0.length c0_0):=(Zq BK16001.out 0).trans rfl;have hcz11_1:w10.cell? ⟨gb16001,1,none⟩=some (.slice A0_1 l0_1.length c0_1):=(Zq BK16001.out 1).trans rfl;have hcz11_2:w10.cell? ⟨gb16001,2,none⟩=some (.int .i64 a0_2):=(Zq BK16001.out 2).trans rfl;have hfz11_0:=Zt BK16001.out 0;have hfz11_1:=Zt BK16001.out 1;have hfz11_2:=Zt BK16001.out 2)|(go_at_call 49;(with_reducible refine(Za2.calls (l0_1.length:Int) a1 true _ A5.out).mono ?_);rintro e w' ⟨rfl,⟨nd,rfl⟩⟩)|((with_reducible refine ZG (f:=50) rfl ?_);refine ZX (some 18) rfl rfl Tryd.func50 (by kernel_rfl) rfl #[.agg #[.slice A0_0 l0_0.length c0_0,.slice A0_1 l0_1.length c0_1,.int .i64 a0_2],.int .i64 a1] rfl (by(try simp only[List.map_toArray,List.map_cons,List.map_nil]);first|done|rfl|(simp only[Zk,Zj];rfl)) ?_;(with_reducible refine(Zaa.calls _ _ l0_0 _ _ l0_1 a0_2 a1 t16004 _ ?side1 ?side2 ?side3 ?side4 ?sideT A7.out).mono ?_);(case sideT=>exact TW.below HTW.out (by repeat(first|(with_reducible first|exact HB.out|apply Zn|apply Zm|apply Zo|refine Zr ?_ GE16001.out)|exact HB.out)));(case side1=>repeat(first|exact(Zb HR0_0.out (by repeat(first|(with_reducible first|exact HB.out|apply Zn|apply Zm|apply Zo|refine Zr ?_ GE16001.out)|exact HB.out)))|(with_reducible refine Kd.C_alloc ?_ _)|(with_reducible refine Kd.C_drewN ?_ _)|(with_reducible refine Kd.C_drew ?_)));(case side2=>exact HC0_0.out);(case side3=>repeat(first|exact(Zb HR0_1.out (by repeat(first|(with_reducible first|exact HB.out|apply Zn|apply Zm|apply Zo|refine Zr ?_ GE16001.out)|exact HB.out)))|(with_reducible refine Kd.C_alloc ?_ _)|(with_reducible refine Kd.C_drewN ?_ _)|(with_reducible refine Kd.C_drew ?_)));(case side4=>exact HC0_1.out);rintro e w12 ⟨rfl,hb⟩;refine⟨_,rfl,?_⟩;replace BK16001:=Za (ZB (g:=gb16001) (o:=.cells #[.slice A0_0 l0_0.length c0_0,.slice A0_1 l0_1.length c0_1,.int .i64 a0_2] 36 (0,0)) (by(with_reducible repeat(first|refine Zu ?_ _|refine Zv ?_|refine Zs ?_ _));exact BK16001.out) hb);replace HB:=Za (Zx (by repeat(first|(with_reducible first|exact HB.out|apply Zn|apply Zm|apply Zo|refine Zr ?_ GE16001.out)|exact HB.out)) hb);(try clear hb);(try clear hb2);(try clear hk);(try clear hi)))
   go_ret
   exact⟨by first|rfl|(simp[ZA,Zz] <;> rfl)|(simp[*,ZA,Zz] <;> rfl),by repeat(first|(with_reducible first|exact HB.out|apply Zn|apply Zm|apply Zo|refine Zr ?_ GE16001.out)|exact HB.out)⟩
  ·replace c6:=Bool.eq_false_iff.mpr c6
   subst c6
   have H1:(some (⟨#[]⟩:ByteArray))=some r:=by rw[if_neg (show ¬(false=true) by decide)] at H;exact H
   clear H
   have H:=H1
   clear H1
   obtain rfl:=Zg H
   go_enter Tryd.func16,Tryd.ntmps16
   go_wp2_with (first|((with_reducible refine ZN (N:=2) rfl ?_);(try(refine ZaP (by rfl) ?_;dsimp only));refine ZP ?hg (N:=2) ?hd (cs:=#[.slice A0_0 l0_0.length c0_0,.slice A0_1 l0_1.length c0_1,.int .i64 a0_2]) (t:=36) ?hr ?_;(case hd=>rfl);(case hg=>rfl);(case hr=>first|(go_simp;done)|(go_simp;rfl));intro gb16001 hg w13 hbox hb;have BK16001:=Za (hbox);have GW16001:=Za ((by rw[hg];exact(Zy (by repeat(first|(with_reducible first|exact HB.out|apply Zn|apply Zm|apply Zo)|exact HB.out))):w.heap.size≤gb16001));have GE16001:=Za ((by rw[hg];exact(Zy (by repeat(first|(with_reducible first|exact HB.out|apply Zn|apply Zm|apply Zo)|exact HB.out))):w.heap.size≤gb16001));replace HB:=Za (Zx (by repeat(first|(with_reducible first|exact HB.out|apply Zn|apply Zm|apply Zo)|exact HB.out)) hb);clear hb hbox hg;have hcz14_0:w13.cell? ⟨gb16001,0,none⟩=some (.slice A0_0 l0_0.length c0_0):=(Zq BK16001.out 0).trans rfl;have hcz14_1:w13.cell? ⟨gb16001,1,none⟩=some (.slice A0_1 l0_1.length c0_1):=(Zq BK16001.out 1).trans rfl;have hcz14_2:w13.cell? ⟨gb16001,2,none⟩=some (.int .i64 a0_2):=(Zq BK16001.out 2).trans rfl;have hfz14_0:=Zt BK16001.out 0;have hfz14_1:=Zt BK16001.out 1;have hfz14_2:=Zt BK16001.out 2)|((with_reducible refine ZG (f:=48) rfl ?_);refine ZX (some 6) rfl rfl Tryd.func48 (by kernel_rfl) rfl #[.agg #[.slice A0_0 l0_0.length c0_0,.slice A0_1 l0_1.length c0_1,.int .i64 a0_2]] rfl (by(try simp only[List.map_toArray,List.map_cons,List.map_nil]);first|done|rfl|(simp only[Zk,Zj];rfl)) ?_;(with_reducible refine(ZaG.calls _ _ l0_0 _ _ l0_1 a0_2 true _ ?side1 ?side2 ?side3 ?side4 A3.out).mono ?_);(case side1=>repeat(first|exact(Zb HR0_0.out HB.out)|(with_reducible refine Kd.C_alloc ?_ _)|(with_reducible refine Kd.C_drewN ?_ _)|(with_reducible refine Kd.C_drew ?_)));(case side2=>exact HC0_0.out);(case side3=>repeat(first|exact(Zb HR0_1.out HB.out)|(with_reducible refine Kd.C_alloc ?_ _)|(with_reducible refine Kd.C_drewN ?_ _)|(with_reducible refine Kd.C_drew ?_)));(case side4=>exact HC0_1.out);rintro e w15 ⟨rfl,hb⟩;refine⟨_,rfl,?_⟩;replace BK16001:=Za (ZB (g:=gb16001) (o:=.cells #[.slice A0_0 l0_0.length c0_0,.slice A0_1 l0_1.length c0_1,.int .i64 a0_2] 36 (0,0)) (by(with_reducible repeat(first|refine Zu ?_ _|refine Zv ?_|refine Zs ?_ _));exact BK16001.out) hb);replace HB:=Za (Zx (by repeat(first|(with_reducible first|exact HB.out|apply Zn|apply Zm|apply Zo|refine Zr ?_ GE16001.out)|exact HB.out)) hb);(try clear hb);(try clear hb2);(try clear hk);(try clear hi);have hcz16_0:w15.cell? ⟨gb16001,0,none⟩=some (.slice A0_0 l0_0.length c0_0):=(Zq BK16001.out 0).trans rfl;have hcz16_1:w15.cell? ⟨gb16001,1,none⟩=some (.slice A0_1 l0_1.length c0_1):=(Zq BK16001.out 1).trans rfl;have hcz16_2:w15.cell? ⟨gb16001,2,none⟩=some (.int .i64 a0_2):=(Zq BK16001.out 2).trans rfl;have hfz16_0:=Zt BK16001.out 0;have hfz16_1:=Zt BK16001.out 1;have hfz16_2:=Zt BK16001.out 2)|(go_at_call 49;(with_reducible refine(Za2.calls (l0_1.length:Int) a1 false _ A5.out).mono ?_);rintro e w' ⟨rfl,⟨nd,rfl⟩⟩))
   go_ret
   exact⟨by first|rfl|(simp[ZA,Zz] <;> rfl)|(simp[*,ZA,Zz] <;> rfl),by repeat(first|(with_reducible first|exact HB.out|apply Zn|apply Zm|apply Zo|refine Zr ?_ GE16001.out)|exact HB.out)⟩
 ·replace c4:=Bool.eq_false_iff.mpr c4
  subst c4
  have H1:(some (⟨#[]⟩:ByteArray))=some r:=by rw[if_neg (show ¬(false=true) by decide)] at H;exact H
  clear H
  have H:=H1
  clear H1
  obtain rfl:=Zg H
  go_enter Tryd.func16,Tryd.ntmps16
  go_wp2_with (first|((with_reducible refine ZN (N:=2) rfl ?_);(try(refine ZaP (by rfl) ?_;dsimp only));refine ZP ?hg (N:=2) ?hd (cs:=#[.slice A0_0 l0_0.length c0_0,.slice A0_1 l0_1.length c0_1,.int .i64 a0_2]) (t:=36) ?hr ?_;(case hd=>rfl);(case hg=>rfl);(case hr=>first|(go_simp;done)|(go_simp;rfl));intro gb16001 hg w17 hbox hb;have BK16001:=Za (hbox);have GW16001:=Za ((by rw[hg];exact(Zy (by repeat(first|(with_reducible first|exact HB.out|apply Zn|apply Zm|apply Zo)|exact HB.out))):w.heap.size≤gb16001));have GE16001:=Za ((by rw[hg];exact(Zy (by repeat(first|(with_reducible first|exact HB.out|apply Zn|apply Zm|apply Zo)|exact HB.out))):w.heap.size≤gb16001));replace HB:=Za (Zx (by repeat(first|(with_reducible first|exact HB.out|apply Zn|apply Zm|apply Zo)|exact HB.out)) hb);clear hb hbox hg;have hcz18_0:w17.cell? ⟨gb16001,0,none⟩=some (.slice A0_0 l0_0.length c0_0):=(Zq BK16001.out 0).trans rfl;have hcz18_1:w17.cell? ⟨gb16001,1,none⟩=some (.slice A0_1 l0_1.length c0_1):=(Zq BK16001.out 1).trans rfl;have hcz18_2:w17.cell? ⟨gb16001,2,none⟩=some (.int .i64 a0_2):=(Zq BK16001.out 2).trans rfl;have hfz18_0:=Zt BK16001.out 0;have hfz18_1:=Zt BK16001.out 1;have hfz18_2:=Zt BK16001.out 2)|((with_reducible refine ZG (f:=48) rfl ?_);refine ZX (some 6) rfl rfl Tryd.func48 (by kernel_rfl) rfl #[.agg #[.slice A0_0 l0_0.length c0_0,.slice A0_1 l0_1.length c0_1,.int .i64 a0_2]] rfl (by(try simp only[List.map_toArray,List.map_cons,List.map_nil]);first|done|rfl|(simp only[Zk,Zj];rfl)) ?_;(with_reducible refine(ZaG.calls _ _ l0_0 _ _ l0_1 a0_2 false _ ?side1 ?side2 ?side3 ?side4 A3.out).mono ?_);(case side1=>repeat(first|exact(Zb HR0_0.out HB.out)|(with_reducible refine Kd.C_alloc ?_ _)|(with_reducible refine Kd.C_drewN ?_ _)|(with_reducible refine Kd.C_drew ?_)));(case side2=>exact HC0_0.out);(case side3=>repeat(first|exact(Zb HR0_1.out HB.out)|(with_reducible refine Kd.C_alloc ?_ _)|(with_reducible refine Kd.C_drewN ?_ _)|(with_reducible refine Kd.C_drew ?_)));(case side4=>exact HC0_1.out);rintro e w19 ⟨rfl,hb⟩;refine⟨_,rfl,?_⟩;replace BK16001:=Za (ZB (g:=gb16001) (o:=.cells #[.slice A0_0 l0_0.length c0_0,.slice A0_1 l0_1.length c0_1,.int .i64 a0_2] 36 (0,0)) (by(with_reducible repeat(first|refine Zu ?_ _|refine Zv ?_|refine Zs ?_ _));exact BK16001.out) hb);replace HB:=Za (Zx (by repeat(first|(with_reducible first|exact HB.out|apply Zn|apply Zm|apply Zo|refine Zr ?_ GE16001.out)|exact HB.out)) hb);(try clear hb);(try clear hb2);(try clear hk);(try clear hi)))
  go_ret
  exact⟨by first|rfl|(simp[ZA,Zz] <;> rfl)|(simp[*,ZA,Zz] <;> rfl),by repeat(first|(with_reducible first|exact HB.out|apply Zn|apply Zm|apply Zo|refine Zr ?_ GE16001.out)|exact HB.out)⟩
end Go.Proofs.YthphnhmabieflaaDoor.Pr
namespace Go.Proofs.YthphnhmabieflaaDoor.Pr
open Go.RowKit Go.Proofs.YthphnhmabieflaaDoorW.PrintWords Go.Proofs.YthphnhmabieflaaDoorW.PrintLast Go.Proofs.YthphnhmabieflaaDoorW.PrintMore
attribute [local go_sem] Zah Zaf Zas Zar Z8 Z7 Zag Zae
set_option linter.unusedVariables false
set_option linter.unusedSimpArgs false
open Go.Proofs.YthphnhmabieflaaDoor.Ni
set_option maxHeartbeats 4000000 in
set_option maxRecDepth 100000 in
theorem laws_eqNode.same (a0:ByteArray) (A1:Option Addr) (c1:Nat) (A1':Option Addr) (c1':Nat) (l1:List Int) (a2:Int) (w:World) (hr1:Kd.C (Kd.int .i64) w A1 l1.length l1) (hc1:l1.length≤c1) (hr1':Kd.C (Kd.int .i64) w A1' l1.length l1) (hc1':l1.length≤c1') :
  Calls Tryd.prog 84 #[.agg #[.string a0,.slice A1 l1.length c1,.int .i64 a2],.agg #[.string a0,.slice A1' l1.length c1',.int .i64 a2]] w fun e w'=>e=.returned (.bool true)∧Below w.heap.size w w':=by
 have hu:=Tryd.underlying73
 have H1:=Za fun (W:World) (hb:Below w.heap.size w W)=>(ZaJ.calls (2 ^ 64) A1 c1 l1 A1' c1' l1 true W (Zb hr1 hb) hc1 (Zb hr1' hb) hc1' (ZdM l1 hr1.2.1 (2 ^ 64) (Nat.le_refl _))).mono fun e w' ⟨he,hd⟩=>(And.intro he hd.below:e=Ending.returned (.bool true)∧Below W.heap.size W w')
 clear hr1 hc1 hr1' hc1'
 have HB0:=Za (Zn (Zn (Below.refl w.heap.size w) (.cells #[.string a0,.slice A1 l1.length c1,.int .i64 a2] 73)) (.cells #[.string a0,.slice A1' l1.length c1',.int .i64 a2] 73))
 go_enter Tryd.func84,Tryd.ntmps84
 go_wp2_with fail
 refine(H1.out _ HB0.out).mono ?_
 rintro e w1 ⟨rfl,hb⟩
 have HB1:=Za (HB0.out.trans (hb.mono HB0.out.size))
 have s2:w1.cell? ⟨w.heap.size,2,none⟩=some (.int .i64 a2):=ZH hb (by go_simp)
 have t2:w1.cell? ⟨w.heap.size+1,2,none⟩=some (.int .i64 a2):=ZH hb (by go_simp)
 clear hb
 go_wp2
 go_ret
 exact⟨rfl,HB1.out⟩
set_option maxHeartbeats 4000000 in
set_option maxRecDepth 100000 in
theorem laws_eqNodeS.same (A0:Option Addr) (c0:Nat) (A0':Option Addr) (c0':Nat) (l0:List (S73)) (w:World) (hr0:Kd.C k73 w A0 l0.length l0) (hc0:l0.length≤c0) (hr0':Kd.C k73 w A0' l0.length l0) (hc0':l0.length≤c0') :
  Calls Tryd.prog 51 #[.slice A0 l0.length c0,.slice A0' l0.length c0'] w fun e w'=>e=.returned (.bool true)∧Below w.heap.size w w':=by
 have hL:l0.length≤9223372036854775807:=hr0.2.1
 have HR:=Za hr0
 have HS:=Za hr0'
 clear hr0 hr0'
 go_enter Tryd.func51,Tryd.ntmps51
 go_wp2
 go_loopg [5] l0.length (fun gg s5 wr=>∃kk:Nat,Aside0 (kk≤l0.length)∧Aside0 (l0.length - kk≤gg)∧s5=.int .i64 kk∧Aside0 (Below w.heap.size w wr))
 case atStart=>exact⟨0,⟨Nat.zero_le _⟩,⟨by omega⟩,rfl,⟨Below.refl _ _⟩⟩
 case round=>
  obtain⟨kk,HK,HG,rfl,HBr⟩:=hrel
  by_cases hlt:kk<l0.length
  ·have hltz:(kk:Int)<(l0.length:Int):=by omega
   obtain⟨adx,A1x,c1x,ex,hx0,hx1,hx2,l1x,g1x⟩:=Zan HR.out (kk:Int) (by omega) hltz
   obtain⟨ady,A1y,c1y,ey,hy0,hy1,hy2,l1y,g1y⟩:=Zan HS.out (kk:Int) (by omega) hltz
   cases ex
   cases ey
   rw[Int.toNat_natCast] at hx0 hx1 hx2 hy0 hy1 hy2
   generalize Zp l0 (kk:Int)=y at hx0 hx1 hx2 l1x g1x hy0 hy1 hy2 l1y g1y
   replace hx0:=ZH HBr.out hx0
   replace hx1:=ZH HBr.out hx1
   replace hx2:=ZH HBr.out hx2
   replace hy0:=ZH HBr.out hy0
   replace hy1:=ZH HBr.out hy1
   replace hy2:=ZH HBr.out hy2
   have hltx:=Zc wr _ hx0
   have hlty:=Zc wr _ hy0
   have G1x:=Za g1x;have G1y:=Za g1y;clear g1x g1y
   go_wp2_with fail
   go_region_held3 (fun w'=>Below wr.heap.size wr w'∧w'.cell? (adx.add (kk * 3))=some (.string y.f0)∧w'.cell? ⟨(adx.add (kk * 3)).block,(adx.add (kk * 3)).off+1,none⟩=some (.slice A1x y.f1.length c1x)∧w'.cell? ⟨(adx.add (kk * 3)).block,(adx.add (kk * 3)).off+2,none⟩=some (.int .i64 y.f2)∧w'.cell? (ady.add (kk * 3))=some (.string y.f0)∧w'.cell? ⟨(ady.add (kk * 3)).block,(ady.add (kk * 3)).off+1,none⟩=some (.slice A1y y.f1.length c1y)∧w'.cell? ⟨(ady.add (kk * 3)).block,(ady.add (kk * 3)).off+2,none⟩=some (.int .i64 y.f2))
    (first|(refine⟨by repeat(first|(with_reducible first|exact Below.refl _ _|apply Zn|apply Zm|apply Zo|exact(‹Below wr.heap.size wr _∧_› : Below wr.heap.size wr _∧_).1)|exact Below.refl _ _),?_⟩;go_simp;done)|(have HQ_:=Zx (‹Below wr.heap.size wr _∧_› : Below wr.heap.size wr _∧_).1 hb;exact⟨HQ_,ZH HQ_ hx0,ZH HQ_ hx1,ZH HQ_ hx2,ZH HQ_ hy0,ZH HQ_ hy1,ZH HQ_ hy2⟩))
    (first|(go_at_call 84;(refine(laws_eqNode.same y.f0 A1x c1x A1y c1y y.f1 y.f2 _ ?p0 l1x ?p1 l1y).mono ?_);(case p0=>exact(Zb (Zb G1x.out HBr.out) (‹Below wr.heap.size wr _∧_› : Below wr.heap.size wr _∧_).1));(case p1=>exact(Zb (Zb G1y.out HBr.out) (‹Below wr.heap.size wr _∧_› : Below wr.heap.size wr _∧_).1));rintro e w3 ⟨rfl,hb⟩))
   have HB3:=Za (‹Below wr.heap.size wr w3∧_› : Below wr.heap.size wr w3∧_).1
   go_wp2
   go_roundg (l0.length - (kk+1))
   case measure=>have:=HG.out;omega
   case rel=>exact⟨kk+1,⟨by omega⟩,⟨by omega⟩,by go_num,⟨HBr.out.trans (HB3.out.mono HBr.out.size)⟩⟩
  ·have hltz:¬(kk:Int)<(l0.length:Int):=by omega
   have:kk=l0.length:=by have:=HK.out;omega
   subst this
   go_wp2
   go_ret
   exact⟨rfl,HBr.out⟩
set_option maxHeartbeats 4000000 in
set_option maxRecDepth 100000 in
theorem laws_eqTie.same (a0:Int) (a1:Int) (a2:Int) (a3:Int) (a4:Bool) (w:World)  :
  Calls Tryd.prog 85 #[.agg #[.int .i64 a0,.int .i64 a1,.int .i64 a2,.int .i64 a3,.bool a4],.agg #[.int .i64 a0,.int .i64 a1,.int .i64 a2,.int .i64 a3,.bool a4]] w fun e w'=>e=.returned (.bool true)∧Below w.heap.size w w':=by
 have hu:=Tryd.underlying66
 have HB0:=Za (Zn (Zn (Below.refl w.heap.size w) (.cells #[.int .i64 a0,.int .i64 a1,.int .i64 a2,.int .i64 a3,.bool a4] 66)) (.cells #[.int .i64 a0,.int .i64 a1,.int .i64 a2,.int .i64 a3,.bool a4] 66))
 go_enter Tryd.func85,Tryd.ntmps85
 go_wp2
 go_ret
 exact⟨rfl,by repeat(first|exact Below.refl _ _|apply Zn|apply Zm|apply ZaT)⟩
set_option maxHeartbeats 4000000 in
set_option maxRecDepth 100000 in
theorem laws_eqTieS.same (A0:Option Addr) (c0:Nat) (A0':Option Addr) (c0':Nat) (l0:List (S66)) (w:World) (hr0:Kd.C k66 w A0 l0.length l0) (hc0:l0.length≤c0) (hr0':Kd.C k66 w A0' l0.length l0) (hc0':l0.length≤c0') :
  Calls Tryd.prog 52 #[.slice A0 l0.length c0,.slice A0' l0.length c0'] w fun e w'=>e=.returned (.bool true)∧Below w.heap.size w w':=by
 have hL:l0.length≤9223372036854775807:=hr0.2.1
 have HR:=Za hr0
 have HS:=Za hr0'
 clear hr0 hr0'
 go_enter Tryd.func52,Tryd.ntmps52
 go_wp2
 go_loopg [5] l0.length (fun gg s5 wr=>∃kk:Nat,Aside0 (kk≤l0.length)∧Aside0 (l0.length - kk≤gg)∧s5=.int .i64 kk∧Aside0 (Below w.heap.size w wr))
 case atStart=>exact⟨0,⟨Nat.zero_le _⟩,⟨by omega⟩,rfl,⟨Below.refl _ _⟩⟩
 case round=>
  obtain⟨kk,HK,HG,rfl,HBr⟩:=hrel
  by_cases hlt:kk<l0.length
  ·have hltz:(kk:Int)<(l0.length:Int):=by omega
   obtain⟨adx,ex,hx0,hx1,hx2,hx3,hx4⟩:=ZbT HR.out (kk:Int) (by omega) hltz
   obtain⟨ady,ey,hy0,hy1,hy2,hy3,hy4⟩:=ZbT HS.out (kk:Int) (by omega) hltz
   cases ex
   cases ey
   rw[Int.toNat_natCast] at hx0 hx1 hx2 hx3 hx4 hy0 hy1 hy2 hy3 hy4
   generalize Zw l0 (kk:Int)=y at hx0 hx1 hx2 hx3 hx4 hy0 hy1 hy2 hy3 hy4
   replace hx0:=ZH HBr.out hx0
   replace hx1:=ZH HBr.out hx1
   replace hx2:=ZH HBr.out hx2
   replace hx3:=ZH HBr.out hx3
   replace hx4:=ZH HBr.out hx4
   replace hy0:=ZH HBr.out hy0
   replace hy1:=ZH HBr.out hy1
   replace hy2:=ZH HBr.out hy2
   replace hy3:=ZH HBr.out hy3
   replace hy4:=ZH HBr.out hy4
   have hltx:=Zc wr _ hx0
   have hlty:=Zc wr _ hy0
   go_wp2_with fail
   go_region_held3 (fun w'=>Below wr.heap.size wr w'∧w'.cell? (adx.add (kk * 5))=some (.int .i64 y.f0)∧w'.cell? ⟨(adx.add (kk * 5)).block,(adx.add (kk * 5)).off+1,none⟩=some (.int .i64 y.f1)∧w'.cell? ⟨(adx.add (kk * 5)).block,(adx.add (kk * 5)).off+2,none⟩=some (.int .i64 y.f2)∧w'.cell? ⟨(adx.add (kk * 5)).block,(adx.add (kk * 5)).off+3,none⟩=some (.int .i64 y.f3)∧w'.cell? ⟨(adx.add (kk * 5)).block,(adx.add (kk * 5)).off+4,none⟩=some (.bool y.f4)∧w'.cell? (ady.add (kk * 5))=some (.int .i64 y.f0)∧w'.cell? ⟨(ady.add (kk * 5)).block,(ady.add (kk * 5)).off+1,none⟩=some (.int .i64 y.f1)∧w'.cell? ⟨(ady.add (kk * 5)).block,(ady.add (kk * 5)).off+2,none⟩=some (.int .i64 y.f2)∧w'.cell? ⟨(ady.add (kk * 5)).block,(ady.add (kk * 5)).off+3,none⟩=some (.int .i64 y.f3)∧w'.cell? ⟨(ady.add (kk * 5)).block,(ady.add (kk * 5)).off+4,none⟩=some (.bool y.f4))
    (first|(refine⟨by repeat(first|(with_reducible first|exact Below.refl _ _|apply Zn|apply Zm|apply Zo|exact(‹Below wr.heap.size wr _∧_› : Below wr.heap.size wr _∧_).1)|exact Below.refl _ _),?_⟩;go_simp;done)|(have HQ_:=Zx (‹Below wr.heap.size wr _∧_› : Below wr.heap.size wr _∧_).1 hb;exact⟨HQ_,ZH HQ_ hx0,ZH HQ_ hx1,ZH HQ_ hx2,ZH HQ_ hx3,ZH HQ_ hx4,ZH HQ_ hy0,ZH HQ_ hy1,ZH HQ_ hy2,ZH HQ_ hy3,ZH HQ_ hy4⟩))
    (first|(go_at_call 85;(refine(laws_eqTie.same y.f0 y.f1 y.f2 y.f3 y.f4 _ ).mono ?_);rintro e w3 ⟨rfl,hb⟩))
   have HB3:=Za (‹Below wr.heap.size wr w3∧_› : Below wr.heap.size wr w3∧_).1
   go_wp2
   go_roundg (l0.length - (kk+1))
   case measure=>have:=HG.out;omega
   case rel=>exact⟨kk+1,⟨by omega⟩,⟨by omega⟩,by go_num,⟨HBr.out.trans (HB3.out.mono HBr.out.size)⟩⟩
  ·have hltz:¬(kk:Int)<(l0.length:Int):=by omega
   have:kk=l0.length:=by have:=HK.out;omega
   subst this
   go_wp2
   go_ret
   exact⟨rfl,HBr.out⟩
set_option maxHeartbeats 4000000 in
set_option maxRecDepth 100000 in
theorem ZcX.same (A0:Option Addr) (c0:Nat) (A0':Option Addr) (c0':Nat) (l0:List (S73)) (A1:Option Addr) (c1:Nat) (A1':Option Addr) (c1':Nat) (l1:List (S66)) (a2:Int) (w:World) (hr0:Kd.C k73 w A0 l0.length l0) (hc0:l0.length≤c0) (hr0':Kd.C k73 w A0' l0.length l0) (hc0':l0.length≤c0') (hr1:Kd.C k66 w A1 l1.length l1) (hc1:l1.length≤c1) (hr1':Kd.C k66 w A1' l1.length l1) (hc1':l1.length≤c1') :
  Calls Tryd.prog 17 #[.agg #[.slice A0 l0.length c0,.slice A1 l1.length c1,.int .i64 a2],.agg #[.slice A0' l0.length c0',.slice A1' l1.length c1',.int .i64 a2]] w fun e w'=>e=.returned (.bool true)∧Below w.heap.size w w':=by
 have hu:=Tryd.underlying36
 have H0:=Za fun (W:World) (hb:Below w.heap.size w W)=>laws_eqNodeS.same A0 c0 A0' c0' l0 W (Zb hr0 hb) hc0 (Zb hr0' hb) hc0'
 have H1:=Za fun (W:World) (hb:Below w.heap.size w W)=>laws_eqTieS.same A1 c1 A1' c1' l1 W (Zb hr1 hb) hc1 (Zb hr1' hb) hc1'
 clear hr0 hc0 hr0' hc0' hr1 hc1 hr1' hc1'
 have HB0:=Za (Zn (Zn (Below.refl w.heap.size w) (.cells #[.slice A0 l0.length c0,.slice A1 l1.length c1,.int .i64 a2] 36)) (.cells #[.slice A0' l0.length c0',.slice A1' l1.length c1',.int .i64 a2] 36))
 go_enter Tryd.func17,Tryd.ntmps17
 go_wp2_with fail
 refine(H0.out _ HB0.out).mono ?_
 rintro e w1 ⟨rfl,hb⟩
 have HB1:=Za (HB0.out.trans (hb.mono HB0.out.size))
 have s1:w1.cell? ⟨w.heap.size,1,none⟩=some (.slice A1 l1.length c1):=ZH hb (by go_simp)
 have t1:w1.cell? ⟨w.heap.size+1,1,none⟩=some (.slice A1' l1.length c1'):=ZH hb (by go_simp)
 have s2:w1.cell? ⟨w.heap.size,2,none⟩=some (.int .i64 a2):=ZH hb (by go_simp)
 have t2:w1.cell? ⟨w.heap.size+1,2,none⟩=some (.int .i64 a2):=ZH hb (by go_simp)
 clear hb
 go_wp2_with fail
 refine(H1.out _ HB1.out).mono ?_
 rintro e w2 ⟨rfl,hb⟩
 have HB2:=Za (HB1.out.trans (hb.mono HB1.out.size))
 replace s2:=ZH hb s2
 replace t2:=ZH hb t2
 clear hb s1 t1
 go_wp2
 go_ret
 exact⟨rfl,HB2.out⟩
end Go.Proofs.YthphnhmabieflaaDoor.Pr
namespace Go.Proofs.YthphnhmabieflaaDoor.Pr
open Go.RowKit Go.Proofs.YthphnhmabieflaaDoorW.PrintWords Go.Proofs.YthphnhmabieflaaDoor.Ni
theorem szIntS_f (l:List Int) (hl:l.length≤9223372036854775807) (a:Int) (h0:0≤a) (h1:a≤1048576):Zbt.f l a=some (if a - l.length<0 then -1 else a - l.length):=by
 unfold Zbt.f
 rw[Zbb (by omega) (by omega)]
 split <;> rfl
theorem szNode_f (s:ByteArray) (l:List Int) (n:Int) (hs:s.size≤9223372036854775807) (hl:l.length≤9223372036854775807) (a:Int) (h0:0≤a) (h1:a≤1048576) :
  ∃r,ZbG.f s l n a=some r∧(r<0∨(0≤r∧r≤a∧s.size≤1048576∧l.length≤1048576)):=by
 unfold ZbG.f
 rw[Zbb (by omega) (by omega)]
 by_cases h:a - (s.size:Int)<0
 ·rw[if_pos h];exact⟨_,rfl,.inl (by omega)⟩
 ·rw[if_neg h,szIntS_f l hl _ (by omega) (by omega),Zi]
  by_cases h2:a - (s.size:Int) - l.length<0
  ·rw[if_pos h2,if_pos (by omega)];exact⟨_,rfl,.inl (by omega)⟩
  ·rw[if_neg h2,if_neg h2];exact⟨_,rfl,.inr ⟨by omega,by omega,by omega,by omega⟩⟩
theorem toNode_f (s:ByteArray) (l:List Int) (n:Int) (hl:l.length≤35184372088832) (k:Nat) (hk:2 ^ 64≤k):ZbV.f k s l n=some (s,l,n):=by
 unfold ZbV.f
 rw[toIntS_f l hl k hk];rfl
theorem szNodeS_l (l:List LNode) (hl:l.length≤9223372036854775807) (hb:∀n∈l,n.f0.size≤9223372036854775807∧n.f1.length≤9223372036854775807) (k:Nat) (hk:2 ^ 64≤k) :
  ∀a:Int,0≤a→a≤1048576→∃r,Zau.l0 k l a 0=some r∧(r<0∨(0≤r∧r≤a∧∀n∈l,n.f0.size≤1048576∧n.f1.length≤1048576)):=by
 have key:=ZaM l.length (fun k i=>∀a:Int,0≤a→a≤1048576→∃r,Zau.l0 k l a (i:Int)=some r∧(r<0∨(0≤r∧r≤a∧∀n∈l.drop i,n.f0.size≤1048576∧n.f1.length≤1048576))) 0
  (fun k _ a h0 h1=>⟨a,by simp[Zau.l0],.inr ⟨h0,Int.le_refl _,by simp⟩⟩)
  (fun k i _ hi ih a h0 h1=>by
   simp only[Zau.l0]
   rw[if_pos (by omega),if_pos (by omega),rdLN_nat,Zax hi (by omega)]
   have hm:=hb _ (Zbp hi z89)
   obtain⟨r,hr,h⟩:=szNode_f (l.getD i z89).f0 (l.getD i z89).f1 (l.getD i z89).f2 hm.1 hm.2 a h0 h1
   rw[hr,Zi]
   rcases h with h|⟨h2,h3,h4,h5⟩
   ·rw[if_pos h];exact⟨_,rfl,.inl (by omega)⟩
   ·rw[if_neg (by omega)]
    obtain⟨q,hq,h⟩:=ih r h2 (by omega)
    refine⟨q,hq,?_⟩
    rcases h with h|⟨h6,h7,h8⟩
    ·exact .inl h
    ·refine .inr ⟨h6,by omega,?_⟩
     rw[ZaA hi z89]
     intro n hn
     rcases List.mem_cons.1 hn with rfl|hn
     ·exact⟨h4,h5⟩
     ·exact h8 n hn) 0 k (Nat.zero_le _) (by omega)
 intro a h0 h1
 simpa using key a h0 h1
theorem ZdS (ns:List LNode) (ts:List LTie) (z:Int) (hn:ns.length≤9223372036854775807) (hb:∀n∈ns,n.f0.size≤9223372036854775807∧n.f1.length≤9223372036854775807) (ht:ts.length≤9223372036854775807) (k:Nat) (hk:2 ^ 64≤k) (a:Int) (h0:0≤a) (h1:a≤1048576) :
  ∃r,ZaV.f k ns ts z a=some r∧(r<0∨(0≤r∧r≤a∧ZcU ns ts)):=by
 unfold ZaV.f Zau.f
 rw[Zbb (by omega) (by omega)]
 by_cases h:a - (ns.length:Int)<0
 ·rw[if_pos h,Zi,if_pos (by omega)];exact⟨_,rfl,.inl (by omega)⟩
 ·rw[if_neg h]
  obtain⟨r,hr,h⟩:=szNodeS_l ns hn hb k hk (a - ns.length) (by omega) (by omega)
  rw[hr,Zi]
  rcases h with h|⟨h2,h3,h4⟩
  ·rw[if_pos h];exact⟨_,rfl,.inl (by omega)⟩
  ·rw[if_neg (by omega)]
   unfold Zbs.f
   rw[Zbb (by omega) (by omega)]
   by_cases h5:r - (ts.length:Int)<0
   ·rw[if_pos h5,Zi,if_pos (by omega)];exact⟨_,rfl,.inl (by omega)⟩
   ·rw[if_neg h5,Zi,if_neg h5];exact⟨_,rfl,.inr ⟨by omega,by omega,by omega,by omega,h4⟩⟩
theorem toNodeS_f (l:List LNode) (hl:l.length≤1048576) (hb:∀n∈l,n.f0.size≤1048576∧n.f1.length≤1048576) (k:Nat) (hk:2 ^ 65≤k):Zat.f k l=some (l.map cvN):=by
 have key:=ZaM l.length (fun k i=>Zat.l0 k l ((l.map cvN).take i ++ List.replicate ((l.map cvN).length - i) z73) (i:Int)=some (l.map cvN)) (2 ^ 64)
  (fun k _=>by simp[Zat.l0];rw[List.take_of_length_le (by simp)])
  (fun k i hk hi ih=>by
   simp only[Zat.l0]
   have hm:=hb _ (Zbp hi z89)
   rw[if_pos (by omega),if_pos (by omega),rdLN_nat,toNode_f _ _ _ (by omega) k hk,Zi,if_pos (by simp;omega),Zax hi (by omega),Int.toNat_natCast,ZdV (l.map cvN) _ z73 i (by simpa using hi) _ (by rw[getD_map cvN l i z89 z73 zN];rfl)]
   exact ih) 0 k (Nat.zero_le _) (by omega)
 unfold Zat.f
 rw[if_pos (by omega),if_pos (by omega),Int.toNat_natCast]
 simpa using key
theorem toTieS_f (l:List LTie) (hl:l.length≤1048576) (k:Nat) (hk:2 ^ 64≤k):Zaw.f k l=some (l.map cvT):=by
 have key:=ZaM l.length (fun k i=>Zaw.l0 k l ((l.map cvT).take i ++ List.replicate ((l.map cvT).length - i) z66) (i:Int)=some (l.map cvT)) 0
  (fun k _=>by simp[Zaw.l0];rw[List.take_of_length_le (by simp)])
  (fun k i hk hi ih=>by
   simp only[Zaw.l0,Zce.f]
   rw[if_pos (by omega),if_pos (by omega),rdLT_nat,Zi,if_pos (by simp;omega),Zax hi (by omega),Int.toNat_natCast,ZdV (l.map cvT) _ z66 i (by simpa using hi) _ (by rw[getD_map cvT l i z93 z66 zT];rfl)]
   exact ih) 0 k (Nat.zero_le _) (by omega)
 unfold Zaw.f
 rw[if_pos (by omega),if_pos (by omega),Int.toNat_natCast]
 simpa using key
theorem ZdQ (ns:List LNode) (ts:List LTie) (z:Int) (h:ZcU ns ts) (k:Nat) (hk:2 ^ 65≤k):ZaF.f k ns ts z=some (ns.map cvN,ts.map cvT,z):=by
 unfold ZaF.f
 rw[toNodeS_f ns h.1 h.2.2 k hk,Zi,toTieS_f ts h.2.1 k (by omega)];rfl
end Go.Proofs.YthphnhmabieflaaDoor.Pr
namespace Go.Proofs.YthphnhmabieflaaDoor.Pr
open Go.RowKit Go.Proofs.YthphnhmabieflaaDoorW.PrintWords Go.Proofs.YthphnhmabieflaaDoorW.PrintLast Go.Proofs.YthphnhmabieflaaDoorW.PrintMore
attribute [local go_sem] Zah Zaf Zas Zar Z8 Z7 Zag Zae
set_option linter.unusedVariables false
set_option linter.unusedSimpArgs false
def ZaH.l0:Nat→ByteArray→ByteArray→List ByteArray→Int→Int→Option (ByteArray)
 | 0,_,_,_,_,_=>none
 | k+1,x1,x5,x8,x9,x10=>if x10<x9 then(if 0≤x10 then(if x10<(x8.length:Int) then(if x10 > 0 then(if x5.size+x1.size≤9223372036854775807 then(if (x5 ++ x1).size+(rdOf ByteArray.empty x8 x10).size≤9223372036854775807 then(ZaH.l0 k x1 ((x5 ++ x1) ++ (rdOf ByteArray.empty x8 x10)) x8 x9 (wrap64 (x10+1))) else(none)) else(none)) else(if x5.size+(rdOf ByteArray.empty x8 x10).size≤9223372036854775807 then(ZaH.l0 k x1 (x5 ++ (rdOf ByteArray.empty x8 x10)) x8 x9 (wrap64 (x10+1))) else(none))) else(none)) else(none)) else(some x5)
def ZaH.f (k:Nat) (l0:List ByteArray) (a1:ByteArray):Option (ByteArray):=ZaH.l0 k a1 (⟨#[]⟩:ByteArray) l0 (l0.length:Int) 0
set_option maxHeartbeats 8000000 in
set_option maxRecDepth 100000 in
theorem ZaH.calls (k:Nat) (A0:Option Addr) (c0:Nat) (l0:List ByteArray) (a1:ByteArray) (r:ByteArray) (w:World) (hr0:Kd.C Kd.string w A0 l0.length l0) (hc0:l0.length≤c0) (h:ZaH.f k l0 a1=some r) :
  Calls Tryd.prog 37 #[.slice A0 l0.length c0,.string a1] w fun e w'=>e=.returned (.string r)∧ZE w w':=by
 have HR0:=Za hr0;have HC0:=Za hc0;clear hr0 hc0
 have H:(ZaH.l0 k a1 (⟨#[]⟩:ByteArray) l0 (l0.length:Int) 0)=some r:=h
 clear h
 have H':=Za H
 clear H
 go_enter Tryd.func37,Tryd.ntmps37
 go_wp2
 go_loopg [5,10] k (fun kq v5 v10 w'=>∃(x5_1:ByteArray) (x10_1:Int),v5=.string x5_1∧v10=.int .i64 x10_1∧Aside0 (ZaH.l0 kq a1 x5_1 l0 (l0.length:Int) x10_1=some r)∧Aside0 (kq≤k)∧ZE w w')
 case atStart=>exact⟨((⟨#[]⟩:ByteArray)),(0),(by first|rfl|(simp;done)|(simp[*];done)),(by first|rfl|(simp;done)|(simp[*];done)),H',⟨Nat.le_refl _⟩,by repeat(first|exact ZE.refl _|apply ZE.step)⟩
 case round=>
  clear H'
  try clear p2
  obtain⟨x5_1,x10_1,rfl,rfl,HA,HK1,⟨m1,rfl⟩⟩:=hrel
  cases gk with
  | zero=>exact absurd HA.out (by simp[ZaH.l0])
  | succ k1=>
   have H:=HA.out
   clear HA
   simp only[ZaH.l0] at H
   by_cases c3:x10_1<(l0.length:Int)
   ·rw[if_pos c3] at H
    have c3b0:decide (x10_1<(l0.length:Int))=true:=Ze c3
    clear c3
    by_cases c4:0≤x10_1
    ·rw[if_pos c4] at H
     have c4b0:decide (0≤x10_1)=true:=Ze c4
     clear c4
     by_cases c5:x10_1<(l0.length:Int)
     ·rw[if_pos c5] at H
      have c5b0:decide (x10_1<(l0.length:Int))=true:=Ze c5
      clear c5
      by_cases c6:x10_1 > 0
      ·rw[if_pos c6] at H
       have c6b0:decide (0<x10_1)=true:=Ze c6
       clear c6
       by_cases c7:x5_1.size+a1.size≤9223372036854775807
       ·rw[if_pos c7] at H
        have c7b0:=eq_true c7
        have c7b1:decide (x5_1.size+a1.size≤9223372036854775807)=true:=Ze c7
        try have c7b2:(9223372036854775807<x5_1.size+a1.size)=False:=eq_false (Nat.not_lt.2 c7)
        by_cases c8:(x5_1 ++ a1).size+(rdOf ByteArray.empty l0 x10_1).size≤9223372036854775807
        ·rw[if_pos c8] at H
         have c8b0:=eq_true c8
         have c8b1:decide ((x5_1 ++ a1).size+(rdOf ByteArray.empty l0 x10_1).size≤9223372036854775807)=true:=Ze c8
         try have c8b2:(9223372036854775807<(x5_1 ++ a1).size+(rdOf ByteArray.empty l0 x10_1).size)=False:=eq_false (Nat.not_lt.2 c8)
         try have c8b4:(9223372036854775807<(x5_1.size+a1.size)+(rdOf ByteArray.empty l0 x10_1).size)=False:=eq_false (Nat.not_lt.2 (by have h_:=c8;simp only[ByteArray.size_append] at h_;exact h_))
         have H':=Za H
         clear H
         have p37001:0≤(x10_1:Int):=Zd (by first|(with_reducible assumption)|assumption)
         have q37001:x10_1<(l0.length:Int):=Zd (by first|(with_reducible assumption)|assumption)
         obtain⟨ad37001,e37001,hx37001_0⟩:=Kd.at_string HR0.out x10_1 p37001 q37001
         cases e37001
         replace p37001:=eq_true p37001
         replace q37001:=eq_true q37001
         go_wp2
         go_roundg k1
         case measure=>have:=HK1.out;omega
         case rel=>exact⟨((x5_1 ++ a1) ++ (rdOf ByteArray.empty l0 x10_1)),(wrap64 (x10_1+1)),(by first|rfl|(simp;done)|(simp[*];done)),(by first|rfl|(simp;done)|(simp[*];done)),H',⟨by have:=HK1.out;omega⟩,by repeat(first|exact ZE.refl _|apply ZE.step)⟩
        ·rw[if_neg c8] at H
         exact absurd H (by simp)
       ·rw[if_neg c7] at H
        exact absurd H (by simp)
      ·rw[if_neg c6] at H
       have c6b0:decide (0<x10_1)=false:=Zf c6
       clear c6
       by_cases c9:x5_1.size+(rdOf ByteArray.empty l0 x10_1).size≤9223372036854775807
       ·rw[if_pos c9] at H
        have c9b0:=eq_true c9
        have c9b1:decide (x5_1.size+(rdOf ByteArray.empty l0 x10_1).size≤9223372036854775807)=true:=Ze c9
        try have c9b2:(9223372036854775807<x5_1.size+(rdOf ByteArray.empty l0 x10_1).size)=False:=eq_false (Nat.not_lt.2 c9)
        have H':=Za H
        clear H
        have p37001:0≤(x10_1:Int):=Zd (by first|(with_reducible assumption)|assumption)
        have q37001:x10_1<(l0.length:Int):=Zd (by first|(with_reducible assumption)|assumption)
        obtain⟨ad37001,e37001,hx37001_0⟩:=Kd.at_string HR0.out x10_1 p37001 q37001
        cases e37001
        replace p37001:=eq_true p37001
        replace q37001:=eq_true q37001
        go_wp2
        go_roundg k1
        case measure=>have:=HK1.out;omega
        case rel=>exact⟨(x5_1 ++ (rdOf ByteArray.empty l0 x10_1)),(wrap64 (x10_1+1)),(by first|rfl|(simp;done)|(simp[*];done)),(by first|rfl|(simp;done)|(simp[*];done)),H',⟨by have:=HK1.out;omega⟩,by repeat(first|exact ZE.refl _|apply ZE.step)⟩
       ·rw[if_neg c9] at H
        exact absurd H (by simp)
     ·rw[if_neg c5] at H
      exact absurd H (by simp)
    ·rw[if_neg c4] at H
     exact absurd H (by simp)
   ·rw[if_neg c3] at H
    have c3b0:decide (x10_1<(l0.length:Int))=false:=Zf c3
    clear c3
    obtain rfl:=Zg H
    go_wp2
    go_ret
    exact⟨by first|rfl|(simp;done)|(simp[*];done),by repeat(first|exact ZE.refl _|apply ZE.step)⟩
end Go.Proofs.YthphnhmabieflaaDoor.Pr
set_option linter.unusedSimpArgs false
set_option linter.unusedVariables false
namespace Go.Proofs.YthphnhmabieflaaDoor.Pr
open Go.RowKit Go.Proofs.YthphnhmabieflaaDoorW.PrintWords Go.Proofs.YthphnhmabieflaaDoor.Ni
def bs (l:List UInt8):ByteArray:=⟨l.toArray⟩
theorem bs_of (a:ByteArray):bs a.data.toList=a:=by unfold bs;simp
theorem Zbd (l:List UInt8):(bs l).data.toList=l:=by unfold bs;simp
theorem ZaW (a b:List UInt8):bs a ++ bs b=bs (a ++ b):=by
 unfold bs
 ext1
 rw[ByteArray.data_append];simp
theorem ZaD (l:List UInt8):(bs l).size=l.length:=by unfold bs;simp[ByteArray.size]
theorem ba_size (a:ByteArray):a.size=a.data.toList.length:=by show a.data.size=_;rw[Array.length_toList]
theorem Zc6 (x:Int) (h0:0≤x) (h1:x<256):strOfNums [x]=bs [UInt8.ofNat x.toNat]:=by
 unfold strOfNums bs
 simp
theorem dig_pos {x:Int} (h0:0≤x):wrap64 (48+Int.tmod x 10) % 256=((48+x.toNat % 10:Nat):Int):=by
 rw[Int.tmod_eq_emod_of_nonneg h0,Zbb (by omega) (by omega)];omega
theorem fmt_l0:∀(d:Nat) (x:Int) (s:List UInt8) (k:Nat),0≤x→x≤9223372036854775807→x<(10:Int) ^ (d+1)→s.length+d≤1000→d<k→ZF.l0 k x (bs s)=some (bs (Lib.decDigits x.toNat ++ s))
 | d,x,s,k,h0,h63,hx,hs,hk=>by
  obtain⟨m,rfl⟩:∃m,k=m+1:=⟨k - 1,by omega⟩
  simp only[ZF.l0]
  by_cases c:x > 9
  ·rw[if_pos c]
   cases d with
   | zero=>simp at hx;omega
   | succ d=>
    rw[dig_pos h0,Zi,Zc6 _ (by omega) (by omega),ZaD,ZaD,if_pos (by simp only[List.length_singleton];omega),Int.tdiv_eq_ediv_of_nonneg h0]
    have hx2:x / 10<(10:Int) ^ (d+1):=by
     rw[Int.pow_succ] at hx
     exact Int.ediv_lt_of_lt_mul (by omega) hx
    rw[Zbb (by omega) (by omega),ZaW,fmt_l0 d (x / 10) _ m (by omega) (by omega) hx2 (by simp only[List.length_append,List.length_singleton];omega) (by omega)]
    have e:Lib.decDigits x.toNat=Lib.decDigits (x / 10).toNat ++ [UInt8.ofNat (48+x.toNat % 10)]:=by
     rw[Lib.decDigits,dif_neg (by omega),show x.toNat / 10=(x / 10).toNat by omega]
    rw[e,Int.toNat_natCast,List.append_assoc]
  ·rw[if_neg c]
   rw[Zbb (by omega) (by omega),show(48+x) % 256=((48+x.toNat:Nat):Int) by omega,Zi,Zc6 _ (by omega) (by omega),ZaD,ZaD,if_pos (by simp only[List.length_singleton];omega),ZaW,Lib.decDigits,dif_pos (by omega),Int.toNat_natCast]
theorem ZdA:∀(d m k:Nat),1≤m→m≤9223372036854775808→m<10 ^ (d+1)→d<k→d≤900→ZF.f k (-(m:Int))=some (bs (45 :: Lib.decDigits m))∧(Lib.decDigits m).length≤d+1
 | d,m,k,h1,h63,hm,hk,hd=>by
  obtain⟨k,rfl⟩:∃j,k=j+1:=⟨k - 1,by omega⟩
  have e1:Int.tdiv (-(m:Int)) 10 = -((m / 10:Nat):Int):=by rw[Int.neg_tdiv];rfl
  have e2:Int.tmod (-(m:Int)) 10 = -((m % 10:Nat):Int):=by rw[Int.neg_tmod];rfl
  simp only[ZF.f]
  rw[if_pos (by omega),e1,e2,Zbb (i:=-((m / 10:Nat):Int)) (by omega) (by omega)]
  by_cases c:m<10
  ·rw[if_pos (by omega),Zbb (by omega) (by omega),show(48 - -(m:Int)) % 256=((48+m:Nat):Int) by omega,Zi,Zc6 _ (by omega) (by omega),ZaD,if_pos (by simp only[List.length_singleton];omega),Lib.decDigits,dif_pos c,Int.toNat_natCast]
   refine⟨?_,by simp only[List.length_singleton];omega⟩
   show some (bs [45] ++ _)=_
   rw[ZaW];rfl
  ·rw[if_neg (by omega)]
   cases d with
   | zero=>simp at hm;omega
   | succ d=>
    obtain⟨ih,il⟩:=ZdA d (m / 10) k (by omega) (by omega) (by rw[Nat.pow_succ] at hm;omega) (by omega) (by omega)
    rw[ih,Zi,Zbb (by omega) (by omega),show(48 - -((m % 10:Nat):Int)) % 256=((48+m % 10:Nat):Int) by omega,Zi,Zc6 _ (by omega) (by omega),ZaD,ZaD,if_pos (by simp only[List.length_cons,List.length_nil];omega),ZaW,Int.toNat_natCast]
    have e:Lib.decDigits m=Lib.decDigits (m / 10) ++ [UInt8.ofNat (48+m % 10)]:=by rw[Lib.decDigits,dif_neg c]
    rw[e]
    exact⟨rfl,by simp only[List.length_append,List.length_singleton];omega⟩
theorem Zbh (n:Int) (h0 : -9223372036854775808≤n) (h1:n≤9223372036854775807) (k:Nat) (hk:2 ^ 64≤k):ZF.f k n=some (bs (Lib.itoa n)):=by
 by_cases c:n<0
 ·have:=(ZdA 18 n.natAbs k (by omega) (by omega) (by omega) (by omega) (by omega)).1
  rw[show -((n.natAbs:Nat):Int)=n by omega] at this
  rw[this,Lib.itoa,if_pos c]
 ·obtain⟨m,rfl⟩:∃m,k=m+1:=⟨k - 1,by omega⟩
  simp only[ZF.f]
  rw[if_neg c,Lib.itoa,if_neg c]
  have:=fmt_l0 18 n [] m (by omega) h1 (by omega) (by simp) (by omega)
  rw[List.append_nil] at this
  exact this
theorem ZaZ (n:Int) (h0 : -9223372036854775808≤n) (h1:n≤9223372036854775807):ZR.f n=some (bs (Lib.itoa n)):=by
 unfold ZR.f
 rw[if_pos ⟨h0,h1⟩];rfl
theorem Zba (n:Int) (h0 : -9223372036854775808≤n) (h1:n≤9223372036854775807):(Lib.itoa n).length≤20:=by
 by_cases c:n<0
 ·have:=(ZdA 18 n.natAbs 1000 (by omega) (by omega) (by omega) (by omega) (by omega)).2
  rw[Lib.itoa,if_pos c,List.length_cons];omega
 ·rw[Lib.itoa,if_neg c]
  by_cases c0:n=0
  ·subst c0
   rw[show Int.toNat 0=0 from rfl,Lib.decDigits,dif_pos (by omega)];simp only[List.length_singleton];omega
  ·have:=(ZdA 18 n.toNat 1000 (by omega) (by omega) (by omega) (by omega) (by omega)).2
   omega
abbrev bl (l:List ByteArray):List (List UInt8):=l.map (·.data.toList)
theorem Zb8 (s x:List UInt8) (r:List (List UInt8)):Lib.joinTail s (x :: r)=s ++ x ++ Lib.joinTail s r:=by simp[Lib.joinTail]
theorem rdOf_nat (l:List ByteArray) (i:Nat):rdOf ByteArray.empty l (i:Int)=l.getD i ByteArray.empty:=by unfold rdOf;rw[Int.toNat_natCast]
theorem ZdG (l:List ByteArray) (sep:ByteArray) (hl:l.length≤1048576) (hb:(Lib.join (bl l) sep.data.toList).length≤140737488355328) (k:Nat) (hk:2 ^ 64≤k):ZaH.f k l sep=some (bs (Lib.join (bl l) sep.data.toList)):=by
 have key:=ZaM l.length (fun k i=>0<i→∀acc:List UInt8,acc.length+(Lib.joinTail sep.data.toList (bl (l.drop i))).length≤140737488355328→ZaH.l0 k sep (bs acc) l (l.length:Int) (i:Int)=some (bs (acc ++ Lib.joinTail sep.data.toList (bl (l.drop i))))) 0
  (fun k _ _ acc _=>by
   simp only[ZaH.l0]
   rw[if_neg (by omega),List.drop_length]
   simp[Lib.joinTail])
  (fun k i _ hi ih hp acc ha=>by
   simp only[ZaH.l0]
   rw[ZaA hi ByteArray.empty] at ha ⊢
   simp only[bl,List.map_cons,Zb8,List.length_append] at ha ⊢
   rw[if_pos (by omega),if_pos (by omega),if_pos (by omega),if_pos (by omega),rdOf_nat]
   generalize l.getD i ByteArray.empty=x at ha ⊢
   have e:bs acc ++ sep=bs (acc ++ sep.data.toList):=by rw[← ZaW,bs_of]
   rw[e,ZaD,ZaD,if_pos (by rw[ba_size];omega),if_pos (by rw[ba_size];simp only[List.length_append];omega),Zax hi (by omega)]
   have e2:bs (acc ++ sep.data.toList) ++ x=bs (acc ++ sep.data.toList ++ x.data.toList):=by rw[← ZaW (acc ++ sep.data.toList),bs_of]
   rw[e2,ih (by omega) _ (by simp only[List.length_append,bl];omega)]
   simp only[List.append_assoc,bl])
 unfold ZaH.f
 cases l with
 | nil=>
  obtain⟨m,rfl⟩:∃m,k=m+1:=⟨k - 1,by omega⟩
  simp only[ZaH.l0]
  rw[if_neg (by simp)];rfl
 | cons x t=>
  obtain⟨m,rfl⟩:∃m,k=m+1:=⟨k - 1,by omega⟩
  simp only[bl,List.map_cons,Lib.join_cons,List.length_append] at hb ⊢
  simp only[ZaH.l0]
  rw[if_pos (by rw[List.length_cons];omega),if_pos (by omega),if_pos (by rw[List.length_cons];omega),if_neg (by omega)]
  have e0:rdOf ByteArray.empty (x :: t) 0=x:=rfl
  rw[e0,show(⟨#[]⟩:ByteArray)=bs [] from rfl,show bs [] ++ x=bs x.data.toList by rw[← bs_of x,ZaW,Zbd];rfl,ZaD,if_pos (by rw[ba_size];simp only[List.length_nil];omega)]
  rw[show wrap64 (0+1)=((1:Nat):Int) by rw[Zbb (by omega) (by omega)];rfl,key 1 m (by rw[List.length_cons];omega) (by omega) (by omega) _ (by simpa [bl] using hb)]
  rfl
theorem Zcl (l:List ByteArray) (sep:ByteArray) (hl:l.length≤1048576) (hb:(Lib.join (bl l) sep.data.toList).length≤140737488355328):Zai.f l sep=some (bs (Lib.join (bl l) sep.data.toList)):=by
 unfold Zai.f
 rw[if_pos ⟨hl,hb⟩];rfl
end Go.Proofs.YthphnhmabieflaaDoor.Pr
namespace Go.Proofs.YthphnhmabieflaaDoor.Pr
open Go.RowKit Go.Proofs.YthphnhmabieflaaDoorW.PrintWords Go.Proofs.YthphnhmabieflaaDoor.Ni
theorem idx_at {α:Type} (p:α→Bool) (l:List α) (i:Nat) (x:α) (h:l[i]? = some x) (hx:p x=true):decide (Zbn p l=(i:Int))=(l.take i).all (fun y=>!p y):=by
 have hi:i<l.length:=by
  rcases Nat.lt_or_ge i l.length with h'|h'
  ·exact h'
  ·rw[List.getElem?_eq_none h'] at h;exact absurd h (by simp)
 by_cases ha:(l.take i).all (fun y=>!p y)=true
 ·rw[ha,decide_eq_true_eq]
  refine ZbO p l i x h hx fun j y hj hy=>?_
  have:=List.all_eq_true.1 ha y (List.mem_of_getElem? (i:=j) (by rw[List.getElem?_take_of_lt hj];exact hy))
  simpa using this
 ·rw[Bool.eq_false_iff.2 ha,decide_eq_false_iff_not]
  intro e
  apply ha
  rw[List.all_eq_true]
  intro y hy
  obtain⟨j,hj,rfl⟩:=List.mem_iff_getElem.1 hy
  have hj':j<i:=by rw[Zj] at hj;omega
  unfold Zbn at e
  cases hf:l.findIdx? p with
  | none=>rw[hf] at e;simp only at e;omega
  | some m=>
   rw[hf] at e
   have:m=i:=by simp only at e;omega
   subst this
   obtain⟨_,_,h3⟩:=List.findIdx?_eq_some_iff_getElem.1 hf
   have:=h3 j hj'
   rw[List.getElem_take]
   simpa using this
theorem all_pair {α:Type} (a b:α→Bool) (c:Bool) (l:List α):l.all (fun m=>a m && (c || b m))=(l.all a && (c || l.all b)):=by
 induction l with
 | nil=>simp
 | cons x l ih=>rw[List.all_cons,List.all_cons,List.all_cons,ih];cases a x <;> cases b x <;> cases c <;> simp
theorem ZdC (a b:Int):(!(a != b))=decide (a=b):=by rw[Bool.eq_iff_iff];simp
theorem snodeC_at {ns:List Z2} {i:Nat} (h:i<ns.length):ZbK ns (Zp ns (i:Int)) i=ZbX ns i:=by
 rw[Zbi]
 unfold ZbK ZbX
 have hs:=getD_some h z73
 generalize ns.getD i z73=y at hs
 rw[ZdC,ZdC,ZdC,ZcE,Zbw,idx_at _ ns i y hs (Ze rfl),idx_at _ ns i y hs (Ze rfl),Bool.and_assoc,← all_pair]
 rfl
theorem ZdH {ns:List Z2}:∀(d i:Nat),i+d=ns.length→ZaS ns i d=Zbj ns i d
 | 0,_,_=>rfl
 | d+1,i,h=>by rw[ZaS,Zbj,snodeC_at (by omega),ZdH d (i+1) (by omega)]
theorem watch_same (ns:List Z2) {p:Int} (hp:0<p):Zb1 ns p=Zbw ns p:=by
 unfold Zb1 Zbw
 rw[Ze hp]
 simp only[Bool.true_and]
theorem Zdg (ns:List Z2) (lb:List Int) {x:Int} (hx:Za7 x=true):ZbE ns lb x=ZbZ ns lb x:=by
 unfold ZbE ZdP ZbZ Zcx hasB
 rw[watch_same ns (by have:=Zcf hx;omega)]
 congr 3
 rw[Bool.eq_iff_iff];simp
theorem Zd8 {ns:List Z2} {n:Z2} (h:∀x∈n.f1,Za7 x=true):ZbW ns n=ZbB ns n:=by
 unfold ZbW ZbB
 rw[Bool.eq_iff_iff,Bool.not_eq_true',List.any_eq_false,List.all_eq_true]
 constructor
 ·intro hh x hx
  have:=hh x hx
  rw[← Zdg ns _ (h x hx)];simpa using this
 ·intro hh x hx
  have:=hh x hx
  rw[← Zdg ns _ (h x hx)] at this;simpa using this
theorem nodes_same (ns:List Z2):Zbc ns=(Zac ns && ns.all (ZbW ns)):=by
 have e:Zbc ns=(Zac ns && ns.all (ZbB ns)):=by
  unfold Zbc Zac inB
  rw[ZdH ns.length 0 (by omega),ZdC,show Zp ns 0=ns.getD 0 z73 from Zbi ns 0]
  rw[show(decide ((1:Int)≤(ns.length:Int)) && decide ((ns.length:Int)≤7))=(decide (1≤ns.length) && decide (ns.length≤7)) by rw[Bool.eq_iff_iff];simp only[Bool.and_eq_true,decide_eq_true_eq];omega]
  rw[show(!(decide (((ns.getD 0 z73).f1.length:Int) > 0)))=decide ((ns.getD 0 z73).f1.length=0) by rw[Bool.eq_iff_iff];simp only[Bool.not_eq_true',decide_eq_true_eq,decide_eq_false_iff_not];omega]
 rw[e]
 cases h:Zac ns with
 | false=>rfl
 | true=>
  rw[Bool.true_and,Bool.true_and,Bool.eq_iff_iff,List.all_eq_true,List.all_eq_true]
  constructor
  ·intro hh n hn;rw[Zd8 (Zcu h n hn)];exact hh n hn
  ·intro hh n hn;rw[← Zd8 (Zcu h n hn)];exact hh n hn
def Zcn (ns:List Z2) (ts:List PTie) (i:Nat):Nat→Bool
 | 0=>true
 | d+1=>tieB ns ts i && Zcn ns ts (i+1) d
theorem in_same (n:Nat) (x:Int):inB x 0 ((n:Int) - 1)=ZbM n x:=by
 unfold inB ZbM
 rw[Bool.eq_iff_iff];simp;omega
theorem tie_same {ns:List Z2} {ts:List PTie} {i:Nat} (h:i<ts.length):tieB ns ts i=ptieB ns ts i:=by
 unfold tieB ptieB
 have hs:=getD_some h z66
 rw[Zdy]
 generalize ts.getD i z66=t at hs
 obtain⟨tf,tt,tl,th,tb⟩:=t
 show tieC tf tt tl th tb ns ts i=Zbl tf tt tl th tb ns ts i
 unfold tieC Zbl spanB
 rw[in_same,in_same]
 cases tb with
 | false=>
  rw[Bool.eq_iff_iff]
  simp only[Bool.not_false,Bool.true_or,Bool.and_true,Bool.and_eq_true,Bool.not_eq_true',beq_eq_false_iff_ne,decide_eq_true_eq,decide_eq_false_iff_not]
  constructor
  ·rintro⟨⟨⟨⟨⟨a1,a2⟩,a3⟩,a4⟩,a5⟩,a6⟩
   exact⟨⟨⟨⟨⟨a1,a2⟩,a3⟩,by omega,by omega⟩,by omega,by omega⟩,a6⟩
  ·rintro⟨⟨⟨⟨⟨a1,a2⟩,a3⟩,a4,a5⟩,a6,a7⟩,a8⟩
   exact⟨⟨⟨⟨⟨a1,a2⟩,a3⟩,by omega⟩,by omega⟩,a8⟩
 | true=>
  have hf:(Zb9 ts tt == (i:Int))=!((ts.take i).any fun u=>u.f4 && decide (u.f1=tt)):=by
   rw[show(Zb9 ts tt == (i:Int))=decide (Zb9 ts tt=(i:Int)) by rw[Bool.eq_iff_iff];simp,Zb9,idx_at _ ts i _ hs (by simp),Bool.eq_iff_iff]
   simp
   exact forall_congr' fun x=>forall_congr' fun _=>by cases x.f4 <;> simp
  rw[hf]
  rw[Bool.eq_iff_iff]
  simp only[Bool.not_true,Bool.false_or,Bool.and_eq_true,Bool.not_eq_true',beq_eq_false_iff_ne,decide_eq_true_eq,decide_eq_false_iff_not,beq_iff_eq,bne_eq_false_iff_eq]
  constructor
  ·rintro⟨⟨⟨⟨⟨⟨a1,a2⟩,a3⟩,a4⟩,a5⟩,a6⟩,⟨⟨⟨⟨b1,b2⟩,b3⟩,b4⟩,b5⟩⟩
   exact⟨⟨⟨⟨⟨⟨a1,a2⟩,a3⟩,by omega,by omega⟩,by omega,by omega⟩,a6⟩,⟨⟨⟨⟨by omega,b2⟩,b3⟩,b4.symm⟩,b5⟩⟩
  ·rintro⟨⟨⟨⟨⟨⟨a1,a2⟩,a3⟩,a4,a5⟩,a6,a7⟩,a8⟩,⟨⟨⟨⟨b1,b2⟩,b3⟩,b4⟩,b5⟩⟩
   exact⟨⟨⟨⟨⟨⟨a1,a2⟩,a3⟩,by omega⟩,by omega⟩,a8⟩,⟨⟨⟨⟨by omega,b2⟩,b3⟩,b4.symm⟩,b5⟩⟩
theorem ties_from {ns:List Z2} {ts:List PTie}:∀(d i:Nat),i+d=ts.length→Zcn ns ts i d=Zbo ns ts i d
 | 0,_,_=>rfl
 | d+1,i,h=>by rw[Zcn,Zbo,tie_same (by omega),ties_from d (i+1) (by omega)]
theorem ZeJ (ns:List Z2) (ts:List PTie) (z:Int) (ht:ts.length≤14):∀(d i k:Nat),i+d=ts.length→d<k→ZT.l0 k ts.length (i:Int) ns ts z=some (Zcn ns ts i d):=by
 intro d
 induction d with
 | zero=>
  intro i k hi hk
  obtain⟨m,rfl⟩:∃m,k=m+1:=⟨k - 1,by omega⟩
  simp only[ZT.l0]
  rw[if_neg (by omega)];rfl
 | succ d ih=>
  intro i k hi hk
  obtain⟨m,rfl⟩:∃m,k=m+1:=⟨k - 1,by omega⟩
  simp only[ZT.l0]
  rw[if_pos (by omega),ZbF.f,if_pos (by omega),Zi,Zcn,Zax (n:=ts.length) (by omega) (by omega),ih (i+1) m (by omega) (by omega)]
  cases tieB ns ts i <;> rfl
theorem Zcp (ns:List Z2) (ts:List PTie) (z:Int) (hf:fitN ns=true) (k:Nat) (hk:2 ^ 64≤k):ZT.f k ns ts z=some (ZaL ns ts z):=by
 obtain⟨m,rfl⟩:∃m,k=m+1:=⟨k - 1,by omega⟩
 unfold ZT.f Za1.f ZaL ZaU
 rw[if_pos hf,Zi,nodes_same]
 simp only[ZT.j0,l01In_f,Zi,if_true]
 cases h1:Zac ns with
 | false=>rfl
 | true=>
  cases h2:ns.all (ZbW ns) with
  | false=>simp
  | true=>
   rw[Bool.and_true,if_pos rfl]
   by_cases h3:(ts.length:Int) > 14
   ·rw[if_pos h3,Zf (show ¬ts.length≤14 by omega)];simp
   ·rw[if_neg h3,Ze (show ts.length≤14 by omega)]
    have hl:=ZeJ ns ts z (by omega) ts.length 0 m (by omega) (by omega)
    rw[show((0:Nat):Int)=0 from rfl] at hl
    rw[hl,ties_from _ _ (by omega)]
    by_cases h4:z<1
    ·rw[show inB z 1 10=false by unfold inB;rw[Zf (show ¬(1:Int)≤z by omega)];rfl,Ze h4];simp
    ·by_cases h5:10<z
     ·rw[show inB z 1 10=false by unfold inB;rw[Zf (show ¬z≤(10:Int) by omega)];simp,Ze h5];simp
     ·rw[show inB z 1 10=true by unfold inB;rw[Ze (show(1:Int)≤z by omega),Ze (show z≤(10:Int) by omega)];rfl,Zf h4,Zf h5];simp
theorem fitN_of {ns:List Z2} {ts:List PTie} (h:SmallP ns ts):fitN ns=true:=by
 unfold fitN
 rw[List.all_eq_true]
 intro n hn
 have:=h.2.2 n hn
 simp;omega
theorem Zcs {ns:List Z2} {ts:List PTie} {z:Int} (hf:fitN ns=true):ZaG.f ns ts z=some (ZaL ns ts z):=by
 unfold ZaG.f
 rw[if_pos hf]
theorem ZbL {ns:List Z2} {ts:List PTie} {z:Int} (h:ZaL ns ts z=true):Zac ns=true:=by
 unfold ZaL at h
 simp only[Bool.and_eq_true] at h
 exact h.1.1.1.1
theorem Zb6 {ns:List Z2} {ts:List PTie} {z:Int} (h:ZaL ns ts z=true):ZaU ns ts=true:=by
 unfold ZaL at h
 simp only[Bool.and_eq_true] at h
 exact h.1.1.1.2
theorem nodes_watch {ns:List Z2} (h:Zac ns=true):∀n∈ns,0≤n.f2∧n.f2≤3:=by
 intro n hn
 obtain⟨j,hj,rfl⟩:=List.mem_iff_getElem.1 hn
 have:=ZcK h j hj
 unfold ZbX Zb7 at this
 rw[show ns.getD j z73=ns[j] by rw[List.getD_eq_getElem?_getD,Zl hj];rfl] at this
 simp only[Bool.and_eq_true,decide_eq_true_eq] at this
 exact this.1.2
theorem pwatch_out {ns:List Z2} (h:Zac ns=true) {p:Int} (hp:¬(1≤p∧p≤3)):Zb1 ns p=-1:=by
 unfold Zb1
 refine ZbD _ _ fun j y _ hy=>?_
 have:=nodes_watch h y (List.mem_of_getElem? hy)
 rw[Bool.eq_false_iff]
 intro hh
 simp only[Bool.and_eq_true,decide_eq_true_eq] at hh
 omega
end Go.Proofs.YthphnhmabieflaaDoor.Pr
