/- The texts of one claim, put together by a program of this session. -/
import Derived.Deep.LoopGhost
import Derived.Deep.RegionHeld3
import Derived.Test.YtodfnelilhjoeaaBIbc1x1
import Derived.Test.YtodfnelilhjoeaaBIbc1x10
import Derived.Test.YtodfnelilhjoeaaBIbc1x11
import Derived.Test.YtodfnelilhjoeaaBIbc1x2
import Derived.Test.YtodfnelilhjoeaaBIbc1x3
import Derived.Test.YtodfnelilhjoeaaBIbc1x4
import Derived.Test.YtodfnelilhjoeaaBIbc1x5
import Derived.Test.YtodfnelilhjoeaaBIbc1x7
import Derived.Test.YtodfnelilhjoeaaBIbc1x8
import Derived.Test.YtodfnelilhjoeaaBIbc1x9
namespace Go.Proofs.Ytodfnelilhjoeaa.Pr
open Go.RowKit Go.Proofs.YtodfnelilhjoeaaW.PrintWords Go.Proofs.YtodfnelilhjoeaaW.PrintLast Go.Proofs.YtodfnelilhjoeaaW.PrintMore
attribute [local go_sem] Zaj Zah Zat Zas Zaa Z9 Zai Zag
set_option linter.unusedVariables false
set_option linter.unusedSimpArgs false
open Go.Proofs.Ytodfnelilhjoeaa.Ni
def ZbY (ns:List S116) (n:S116):Bool:=!(n.f1.any fun x=>!ZbG ns n.f1 x)
def ZaU (ns:List S116) (ts:List S90) (z:Int):Bool:=Zax ns && Za9 ns ts && !(decide (z<1)) && !(decide (10<z)) && ns.all (ZbY ns)
def Zbe.f (l0_0:List (S116)) (l0_1:List (S90)) (a0_2:Int):Option Bool:=if fitN l0_0=true then some (ZaU l0_0 l0_1 a0_2) else none
set_option maxHeartbeats 8000000 in
theorem ZeB.clo (k:Nat) (hk:2 ^ 64≤k) (B D:Nat) (A0_0:Option Addr) (c0_0:Nat) (l0_0:List S116) (A0_1:Option Addr) (c0_1:Nat) (l0_1:List S90) (a0_2:Int) (An:Option Addr) (cn:Nat) (lb:List Int) (x:Int) (W:World)
  (h0:W.cell? ⟨B,0,none⟩=some (.slice A0_0 l0_0.length c0_0)) (h1:W.cell? ⟨B,1,none⟩=some (.slice A0_1 l0_1.length c0_1)) (h2:W.cell? ⟨B,2,none⟩=some (.int .i64 a0_2)) (h3:W.cell? ⟨D,1,none⟩=some (.slice An lb.length cn))
  (hr0_0:Kd.C k116 W A0_0 l0_0.length l0_0) (hc0_0:l0_0.length≤c0_0) (hr0_1:Kd.C k90 W A0_1 l0_1.length l0_1) (hc0_1:l0_1.length≤c0_1) (hrn:Kd.C (Kd.int .i64) W An lb.length lb) (hcn:lb.length≤cn)
  (hf:Zbw.f k l0_0 l0_1 a0_2 lb x=some (ZbG l0_0 lb x)) :
  Calls Try.prog 124 #[.int .i64 x,.pointer (some ⟨B,0,none⟩),.pointer (some ⟨D,0,none⟩)] W fun e w'=>e=.returned (.bool (!ZbG l0_0 lb x))∧Below W.heap.size W w':=by
 have hltB:B<W.heap.size:=Zc W _ h0
 have hltD:D<W.heap.size:=Zc W _ h3
 have HC:=Za (Zbw.calls k A0_0 c0_0 l0_0 A0_1 c0_1 l0_1 a0_2 An cn lb x _ W hr0_0 hc0_0 hr0_1 hc0_1 hrn hcn hf)
 have hu:=Try.underlying35
 have hu2:=Try.underlying116
 clear hr0_0 hr0_1 hrn hf hc0_0 hc0_1 hcn
 cases b:ZbG l0_0 lb x
 all_goals
  rw[b] at HC
  clear b
  go_enter Try.func124,Try.ntmps124
  go_wp2_with (go_at_call 125;refine HC.out.mono ?_;rintro e w' ⟨rfl,hb⟩)
  go_ret
  exact⟨rfl,hb⟩
set_option maxHeartbeats 8000000 in
set_option maxRecDepth 100000 in
theorem Zbe.calls (A0_0:Option Addr) (c0_0:Nat) (l0_0:List (S116)) (A0_1:Option Addr) (c0_1:Nat) (l0_1:List (S90)) (a0_2:Int) (r:Bool) (w:World) (hr0_0:Kd.C k116 w A0_0 l0_0.length l0_0) (hc0_0:l0_0.length≤c0_0) (hr0_1:Kd.C k90 w A0_1 l0_1.length l0_1) (hc0_1:l0_1.length≤c0_1) (h:Zbe.f l0_0 l0_1 a0_2=some r) :
  Calls Try.prog 72 #[.agg #[.slice A0_0 l0_0.length c0_0,.slice A0_1 l0_1.length c0_1,.int .i64 a0_2]] w fun e w'=>e=.returned (.bool r)∧Below w.heap.size w w':=by
 by_cases hfit:fitN l0_0=true
 case neg=>rw[Zbe.f,if_neg hfit] at h;exact absurd h (by simp)
 rw[Zbe.f,if_pos hfit] at h
 obtain rfl:=Zg h
 have hfi:=fitN_iff hfit
 have hL:l0_0.length≤9223372036854775807:=hr0_0.2.1
 have HRn:=Za hr0_0;have HRt:=Za hr0_1;have HCn:=Za hc0_0;have HCt:=Za hc0_1;have HFI:=Za hfi
 have B1:=Za (Zp (Below.refl w.heap.size w) (.cells #[.slice A0_0 l0_0.length c0_0,.slice A0_1 l0_1.length c0_1,.int .i64 a0_2] 35))
 have HK:=Za fun (W:World) (hA:Below (w.alloc (.cells #[.slice A0_0 l0_0.length c0_0,.slice A0_1 l0_1.length c0_1,.int .i64 a0_2] 35)).heap.size (w.alloc (.cells #[.slice A0_0 l0_0.length c0_0,.slice A0_1 l0_1.length c0_1,.int .i64 a0_2] 35)) W)=>And.intro (B1.out.trans (hA.mono B1.out.size)) (And.intro (ZI hA (show _=some (.slice A0_0 l0_0.length c0_0) from Zds w _ _ _ _)) (And.intro (ZI hA (Zdr w _ _ _ _)) (And.intro (ZI hA (Zdq w _ _ _ _)) (show w.heap.size<W.heap.size from Nat.lt_of_lt_of_le (by simp) hA.size))))
 have HN:=Za fun (W:World) (hb:Below w.heap.size w W)=>ZO.calls (2 ^ 65) A0_0 c0_0 l0_0 A0_1 c0_1 l0_1 a0_2 _ W (Zb hr0_0 hb) hc0_0 (Zb hr0_1 hb) hc0_1 (areNodes_f l0_0 l0_1 a0_2 hfi (2 ^ 65) (Nat.le_refl _))
 have HT:=Za fun (W:World) (hb:Below w.heap.size w W)=>ZcQ.calls A0_0 c0_0 l0_0 A0_1 c0_1 l0_1 a0_2 _ W (Zb hr0_0 hb) hc0_0 (Zb hr0_1 hb) hc0_1 rfl
 have hlb:Zax l0_0=true→∀n∈l0_0,∀x∈n.f1,Za6 x=true:=ZcA
 clear hr0_0 hr0_1 hc0_0 hc0_1 h hfi hfit
 have hu:=Try.underlying35
 have hu2:=Try.underlying116
 cases b1:Zax l0_0 with
 | false=>
  rw[b1] at HN
  have HF:=Za (show ZaU l0_0 l0_1 a0_2=false by simp[ZaU,b1])
  clear hlb b1
  go_enter Try.func72,Try.ntmps72
  go_wp2_with (go_at_call 121;refine(HN.out _ B1.out).mono ?_;rintro e w1 ⟨rfl,hb⟩;obtain⟨hB,hc0,hc1,hc2,hS⟩:=HK.out _ hb)
  go_ret
  exact⟨by rw[HF.out];rfl,hB⟩
 | true=>
 rw[b1] at HN
 have HLB:=Za (hlb b1)
 clear hlb
 cases b2:Za9 l0_0 l0_1 with
 | false=>
  rw[b2] at HT
  have HF:=Za (show ZaU l0_0 l0_1 a0_2=false by simp[ZaU,b2])
  clear b1 b2
  go_enter Try.func72,Try.ntmps72
  go_wp2_with (first|(go_at_call 121;refine(HN.out _ B1.out).mono ?_;rintro e w1 ⟨rfl,hA⟩;obtain⟨hB,hc0,hc1,hc2,hS⟩:=HK.out _ hA)|(go_at_call 122;refine(HT.out _ hB).mono ?_;rintro e w2 ⟨rfl,hb⟩;replace hA:=hA.trans (hb.mono hA.size);clear hB hc0 hc1 hc2 hS;obtain⟨hB,hc0,hc1,hc2,hS⟩:=HK.out _ hA;clear hb))
  go_ret
  exact⟨by rw[HF.out];rfl,hB⟩
 | true=>
 rw[b2] at HT
 cases b3:decide (a0_2<1) with
 | true=>
  have HF:=Za (show ZaU l0_0 l0_1 a0_2=false by simp[ZaU,b3])
  clear b1 b2
  go_enter Try.func72,Try.ntmps72
  go_wp2_with (first|(go_at_call 121;refine(HN.out _ B1.out).mono ?_;rintro e w1 ⟨rfl,hA⟩;obtain⟨hB,hc0,hc1,hc2,hS⟩:=HK.out _ hA)|(go_at_call 122;refine(HT.out _ hB).mono ?_;rintro e w2 ⟨rfl,hb⟩;replace hA:=hA.trans (hb.mono hA.size);clear hB hc0 hc1 hc2 hS;obtain⟨hB,hc0,hc1,hc2,hS⟩:=HK.out _ hA;clear hb))
  go_ret
  exact⟨by rw[HF.out];rfl,hB⟩
 | false=>
 cases b4:decide (10<a0_2) with
 | true=>
  have HF:=Za (show ZaU l0_0 l0_1 a0_2=false by simp[ZaU,b4])
  clear b1 b2
  go_enter Try.func72,Try.ntmps72
  go_wp2_with (first|(go_at_call 121;refine(HN.out _ B1.out).mono ?_;rintro e w1 ⟨rfl,hA⟩;obtain⟨hB,hc0,hc1,hc2,hS⟩:=HK.out _ hA)|(go_at_call 122;refine(HT.out _ hB).mono ?_;rintro e w2 ⟨rfl,hb⟩;replace hA:=hA.trans (hb.mono hA.size);clear hB hc0 hc1 hc2 hS;obtain⟨hB,hc0,hc1,hc2,hS⟩:=HK.out _ hA;clear hb))
  go_ret
  exact⟨by rw[HF.out];rfl,hB⟩
 | false=>
 have HF:=Za (show ZaU l0_0 l0_1 a0_2=l0_0.all (ZbY l0_0) by simp[ZaU,b1,b2,b3,b4])
 clear b1 b2
 go_enter Try.func72,Try.ntmps72
 go_wp2_with (first|(go_at_call 121;refine(HN.out _ B1.out).mono ?_;rintro e w1 ⟨rfl,hA⟩;obtain⟨hB,hc0,hc1,hc2,hS⟩:=HK.out _ hA)|(go_at_call 122;refine(HT.out _ hB).mono ?_;rintro e w2 ⟨rfl,hb⟩;replace hA:=hA.trans (hb.mono hA.size);clear hB hc0 hc1 hc2 hS;obtain⟨hB,hc0,hc1,hc2,hS⟩:=HK.out _ hA;clear hb))
 have HB0:=Za hB
 have HX0:=Za (And.intro hc0 (And.intro hc1 hc2))
 have HS0:=Za hS;clear hA hB hc0 hc1 hc2 hS
 go_loopg [4,26] l0_0.length (fun gg _ s26 wr=>∃kk:Nat,Aside0 (kk≤l0_0.length)∧Aside0 (l0_0.length - kk≤gg)∧s26=.int .i64 kk∧Aside0 (Below w.heap.size w wr)∧Aside0 (w.heap.size<wr.heap.size)∧Aside0 (wr.cell? ⟨w.heap.size,0,none⟩=some (.slice A0_0 l0_0.length c0_0)∧wr.cell? ⟨w.heap.size,1,none⟩=some (.slice A0_1 l0_1.length c0_1)∧wr.cell? ⟨w.heap.size,2,none⟩=some (.int .i64 a0_2))∧Aside0 (l0_0.all (ZbY l0_0)=(l0_0.drop kk).all (ZbY l0_0)))
 case atStart=>exact⟨0,⟨Nat.zero_le _⟩,⟨by omega⟩,rfl,HB0,HS0,HX0,⟨rfl⟩⟩
 case round=>
  obtain⟨kk,HK',HG,rfl,HBr,HS,HX,HN'⟩:=hrel
  have hsz:=HS.out
  obtain⟨hb0,hb1,hb2_⟩:=HX.out
  by_cases hlt:kk<l0_0.length
  ·have hltz:(kk:Int)<(l0_0.length:Int):=by omega
   obtain⟨ad,Am,cm,e1,hm0,hm1,hm2,lm,gm⟩:=Zak HRn.out (kk:Int) (by omega) hltz
   cases e1
   have HDR:=Za (ZaI hlt z116)
   have hmem:=Za (Zbq hlt z116)
   rw[← ZbB] at HDR hmem
   rw[Int.toNat_natCast] at hm0 hm1 hm2
   generalize ZA l0_0 (kk:Int)=y at hm0 hm1 hm2 lm gm HDR hmem
   replace hm0:=ZI HBr.out hm0
   replace hm1:=ZI HBr.out hm1
   replace hm2:=ZI HBr.out hm2
   have hlta:=Zc wr _ hm0
   have LM:=Za lm
   have GM:=Za (Zb gm HBr.out)
   clear lm gm
   have B2:=Za (Zp (Below.refl wr.heap.size wr) (.cells #[.string y.f0,.slice Am y.f1.length cm,.int .i64 y.f2] 116))
   have HC:=Za fun (W:World) (hb:Below wr.heap.size wr W) (hcell:W.cell? ⟨wr.heap.size,1,none⟩=some (.slice Am y.f1.length cm))=>Zbj.any (fun x=>!ZbG l0_0 y.f1 x) 124 #[.pointer (some ⟨w.heap.size,0,none⟩),.pointer (some ⟨wr.heap.size,0,none⟩)] (enters_of Try.func124 (by kernel_rfl) rfl) Am cm y.f1 W (Zb GM.out hb)
    (fun W' x hx hb'=>ZeB.clo (2 ^ 64) (Nat.le_refl _) w.heap.size wr.heap.size (some ad) c0_0 l0_0 A0_1 c0_1 l0_1 a0_2 Am cm y.f1 x W' (ZI hb' (ZI hb HX.out.1)) (ZI hb' (ZI hb HX.out.2.1)) (ZI hb' (ZI hb HX.out.2.2)) (ZI hb' hcell)
     (Zb (Zb (Zb HRn.out HBr.out) hb) hb') HCn.out (Zb (Zb (Zb HRt.out HBr.out) hb) hb') HCt.out (Zb (Zb GM.out hb) hb') LM.out
     (isWatched_f l0_0 l0_1 a0_2 y.f1 x (fun n hn=>(HFI.out n hn).2) (HFI.out y hmem.out).2 (HLB.out y hmem.out x hx) (2 ^ 64) (Nat.le_refl _)))
   cases b5:y.f1.any (fun x=>!ZbG l0_0 y.f1 x) with
   | true=>
    rw[b5] at HC
    have HF2:=Za (show ZaU l0_0 l0_1 a0_2=false by
     rw[HF.out,HN'.out,HDR.out,List.all_cons,show ZbY l0_0 y=false by unfold ZbY;rw[b5];rfl];rfl)
    clear b5
    go_wp2_with fail
    refine(HC.out _ B2.out (by go_simp)).mono ?_
    rintro e w3 ⟨rfl,hb⟩
    have hb3:=B2.out.trans (hb.mono B2.out.size)
    go_wp2
    go_ret
    exact⟨by rw[HF2.out];rfl,HBr.out.trans (hb3.mono HBr.out.size)⟩
   | false=>
    rw[b5] at HC
    have HF2:=Za (show l0_0.all (ZbY l0_0)=(l0_0.drop (kk+1)).all (ZbY l0_0) by
     rw[HN'.out,HDR.out,List.all_cons,show ZbY l0_0 y=true by unfold ZbY;rw[b5];rfl];rfl)
    clear b5
    go_wp2_with fail
    refine(HC.out _ B2.out (by go_simp)).mono ?_
    rintro e w3 ⟨rfl,hb⟩
    have hb3:=B2.out.trans (hb.mono B2.out.size)
    go_wp2
    go_roundg (l0_0.length - (kk+1))
    case measure=>have:=HG.out;omega
    case rel=>exact⟨kk+1,⟨by omega⟩,⟨by omega⟩,by go_num,⟨HBr.out.trans (hb3.mono HBr.out.size)⟩,⟨by have:=hb3.size;omega⟩,⟨ZI hb3 hb0,ZI hb3 hb1,ZI hb3 hb2_⟩,HF2⟩
  ·have hltz:¬(kk:Int)<(l0_0.length:Int):=by omega
   have:kk=l0_0.length:=by have:=HK'.out;omega
   subst this
   have HF2:=Za (show ZaU l0_0 l0_1 a0_2=true by
    rw[HF.out,HN'.out,List.drop_length];rfl)
   go_wp2
   go_ret
   exact⟨by rw[HF2.out];rfl,HBr.out⟩
end Go.Proofs.Ytodfnelilhjoeaa.Pr
namespace Go.Proofs.Ytodfnelilhjoeaa.Pr
open Go.RowKit Go.Proofs.YtodfnelilhjoeaaW.PrintWords Go.Proofs.YtodfnelilhjoeaaW.PrintLast Go.Proofs.YtodfnelilhjoeaaW.PrintMore
attribute [local go_sem] Zaj Zah Zat Zas Zaa Z9 Zai Zag
set_option linter.unusedVariables false
set_option linter.unusedSimpArgs false
def ZaG.f (k:Nat) (l0_0:List (S116)) (l0_1:List (S90)) (a0_2:Int) (a1_0:Int) (l1_1:List Int) (l1_2:List Int):Option (Bool):=(Zbe.f l0_0 l0_1 a0_2).bind fun t97003=>(if t97003=true then((ZN.f k l0_0 l0_1 a0_2 a1_0 l1_1 l1_2).bind fun t97004=>(some t97004)) else(some false))
set_option maxHeartbeats 8000000 in
set_option maxRecDepth 100000 in
theorem ZaG.calls (k:Nat) (A0_0:Option Addr) (c0_0:Nat) (l0_0:List (S116)) (A0_1:Option Addr) (c0_1:Nat) (l0_1:List (S90)) (a0_2:Int) (a1_0:Int) (A1_1:Option Addr) (c1_1:Nat) (l1_1:List Int) (A1_2:Option Addr) (c1_2:Nat) (l1_2:List Int) (r:Bool) (w:World) (hr0_0:Kd.C k116 w A0_0 l0_0.length l0_0) (hc0_0:l0_0.length≤c0_0) (hr0_1:Kd.C k90 w A0_1 l0_1.length l0_1) (hc0_1:l0_1.length≤c0_1) (hr1_1:Kd.C (Kd.int .i64) w A1_1 l1_1.length l1_1) (hc1_1:l1_1.length≤c1_1) (hr1_2:Kd.C (Kd.int .i64) w A1_2 l1_2.length l1_2) (hc1_2:l1_2.length≤c1_2) (h:ZaG.f k l0_0 l0_1 a0_2 a1_0 l1_1 l1_2=some r) :
  Calls Try.prog 97 #[.agg #[.slice A0_0 l0_0.length c0_0,.slice A0_1 l0_1.length c0_1,.int .i64 a0_2],.agg #[.int .i64 a1_0,.slice A1_1 l1_1.length c1_1,.slice A1_2 l1_2.length c1_2]] w fun e w'=>e=.returned (.bool r)∧Below w.heap.size w w':=by
 have hu35:=Try.underlying35
 have hu66:=Try.underlying66
 have HR0_0:=Za hr0_0;have HC0_0:=Za hc0_0;clear hr0_0 hc0_0;have HR0_1:=Za hr0_1;have HC0_1:=Za hc0_1;clear hr0_1 hc0_1;have HR1_1:=Za hr1_1;have HC1_1:=Za hc1_1;clear hr1_1 hc1_1;have HR1_2:=Za hr1_2;have HC1_2:=Za hc1_2;clear hr1_2 hc1_2
 have HB:=Za (Below.refl w.heap.size w)
 have H:((Zbe.f l0_0 l0_1 a0_2).bind fun t97003=>(if t97003=true then((ZN.f k l0_0 l0_1 a0_2 a1_0 l1_1 l1_2).bind fun t97004=>(some t97004)) else(some false)))=some r:=h
 clear h
 replace H:=Zh H
 obtain⟨t97003,A30,H⟩:=H
 replace H:(if t97003=true then((ZN.f k l0_0 l0_1 a0_2 a1_0 l1_1 l1_2).bind fun t97004=>(some t97004)) else(some false))=some r:=H
 have A3:=Za A30;clear A30
 by_cases c4:t97003=true
 ·subst c4
  have H1:((ZN.f k l0_0 l0_1 a0_2 a1_0 l1_1 l1_2).bind fun t97004=>(some t97004))=some r:=by rw[if_pos rfl] at H;exact H
  clear H
  have H:=H1
  clear H1
  replace H:=Zh H
  obtain⟨t97004,A50,H⟩:=H
  replace H:(some t97004)=some r:=H
  have A5:=Za A50;clear A50
  obtain rfl:=Zg H
  go_enter Try.func97,Try.ntmps97
  go_wp2_with (first|((with_reducible refine ZG (N:=2) rfl ?_);refine ZE ?hg (N:=2) ?hd (cs:=#[.slice A0_0 l0_0.length c0_0,.slice A0_1 l0_1.length c0_1,.int .i64 a0_2]) (t:=35) ?hr ?_;(case hd=>rfl);(case hg=>rfl);(case hr=>first|(go_simp;done)|(go_simp;rfl));intro gb97001 hg w6 hbox hb;have n0_:=Za (Zv (by exact HB.out) hb);have n1_:=Za (hbox);have n2_:=Za ((by rw[hg];exact(Zz (by exact HB.out)):w.heap.size≤gb97001));have n3_:=n2_;clear HB;have HB:=n0_;have BK97001:=n1_;have GW97001:=n2_;have GE97001:=n3_;clear n0_ n1_ n2_ n3_;clear hb hbox hg)|((with_reducible refine ZG (N:=3) rfl ?_);refine ZE ?hg (N:=3) ?hd (cs:=#[.int .i64 a1_0,.slice A1_1 l1_1.length c1_1,.slice A1_2 l1_2.length c1_2]) (t:=66) ?hr ?_;(case hd=>rfl);(case hg=>rfl);(case hr=>first|(go_simp;done)|(go_simp;rfl));intro gb97002 hg w7 hbox hb;have n0_:=Za (Zw (g:=gb97001) (o:=.cells #[.slice A0_0 l0_0.length c0_0,.slice A0_1 l0_1.length c0_1,.int .i64 a0_2] 35 (0,0)) BK97001.out hb);have n1_:=Za (Zv (by exact HB.out) hb);have n2_:=Za (hbox);have n3_:=Za ((by rw[hg];exact(Zz (by exact HB.out)):w.heap.size≤gb97002));have n4_:=n3_;have n5_:=Za ((by rw[hg];exact Nat.ne_of_lt (ZK (g:=gb97001) (o:=.cells #[.slice A0_0 l0_0.length c0_0,.slice A0_1 l0_1.length c0_1,.int .i64 a0_2] 35 (0,0)) BK97001.out):gb97001≠gb97002));have n6_:=Za n5_.out.symm;clear BK97001;clear HB;have BK97001:=n0_;have HB:=n1_;have BK97002:=n2_;have GW97002:=n3_;have GE97002:=n4_;have NB97001_97002:=n5_;have NB97002_97001:=n6_;clear n0_ n1_ n2_ n3_ n4_ n5_ n6_;clear hb hbox hg;have hnb8:=NB97001_97002.out;have hnc8:=NB97002_97001.out;have hcz9_0:w7.cell? ⟨gb97001,0,none⟩=some (.slice A0_0 l0_0.length c0_0):=(Zm BK97001.out 0).trans rfl;have hcz9_1:w7.cell? ⟨gb97001,1,none⟩=some (.slice A0_1 l0_1.length c0_1):=(Zm BK97001.out 1).trans rfl;have hcz9_2:w7.cell? ⟨gb97001,2,none⟩=some (.int .i64 a0_2):=(Zm BK97001.out 2).trans rfl;have hfz9_0:=Zo BK97001.out 0;have hfz9_1:=Zo BK97001.out 1;have hfz9_2:=Zo BK97001.out 2)|((with_reducible refine ZH (f:=72) rfl ?_);refine ZW (some 6) rfl rfl Try.func72 (by kernel_rfl) rfl #[.agg #[.slice A0_0 l0_0.length c0_0,.slice A0_1 l0_1.length c0_1,.int .i64 a0_2]] rfl (by(try simp only[List.map_toArray,List.map_cons,List.map_nil]);first|done|rfl|(simp only[Zk,Zj];rfl)) ?_;(with_reducible refine(Zbe.calls _ _ l0_0 _ _ l0_1 a0_2 true _ ?side1 ?side2 ?side3 ?side4 A3.out).mono ?_);(case side1=>exact(Zb HR0_0.out HB.out));(case side2=>exact HC0_0.out);(case side3=>exact(Zb HR0_1.out HB.out));(case side4=>exact HC0_1.out);rintro e w10 ⟨rfl,hb⟩;refine⟨_,rfl,?_⟩;have n0_:=Za (Zw (g:=gb97001) (o:=.cells #[.slice A0_0 l0_0.length c0_0,.slice A0_1 l0_1.length c0_1,.int .i64 a0_2] 35 (0,0)) BK97001.out hb);have n1_:=Za (Zw (g:=gb97002) (o:=.cells #[.int .i64 a1_0,.slice A1_1 l1_1.length c1_1,.slice A1_2 l1_2.length c1_2] 66 (0,0)) BK97002.out hb);have n2_:=Za (Zv (by exact HB.out) hb);clear BK97001;clear BK97002;clear HB;have BK97001:=n0_;have BK97002:=n1_;have HB:=n2_;clear n0_ n1_ n2_;(try clear hb);(try clear hb2);(try clear hk);(try clear hi);have hcz11_0:w10.cell? ⟨gb97001,0,none⟩=some (.slice A0_0 l0_0.length c0_0):=(Zm BK97001.out 0).trans rfl;have hcz11_1:w10.cell? ⟨gb97001,1,none⟩=some (.slice A0_1 l0_1.length c0_1):=(Zm BK97001.out 1).trans rfl;have hcz11_2:w10.cell? ⟨gb97001,2,none⟩=some (.int .i64 a0_2):=(Zm BK97001.out 2).trans rfl;have hfz11_0:=Zo BK97001.out 0;have hfz11_1:=Zo BK97001.out 1;have hfz11_2:=Zo BK97001.out 2;have hcz12_0:w10.cell? ⟨gb97002,0,none⟩=some (.int .i64 a1_0):=(Zm BK97002.out 0).trans rfl;have hcz12_1:w10.cell? ⟨gb97002,1,none⟩=some (.slice A1_1 l1_1.length c1_1):=(Zm BK97002.out 1).trans rfl;have hcz12_2:w10.cell? ⟨gb97002,2,none⟩=some (.slice A1_2 l1_2.length c1_2):=(Zm BK97002.out 2).trans rfl;have hfz12_0:=Zo BK97002.out 0;have hfz12_1:=Zo BK97002.out 1;have hfz12_2:=Zo BK97002.out 2)|(go_at_call 142;(with_reducible refine(ZN.calls k _ _ l0_0 _ _ l0_1 a0_2 a1_0 _ _ l1_1 _ _ l1_2 t97004 _ ?side1 ?side2 ?side3 ?side4 ?side5 ?side6 ?side7 ?side8 A5.out).mono ?_);(case side1=>exact(Zb HR0_0.out HB.out));(case side2=>exact HC0_0.out);(case side3=>exact(Zb HR0_1.out HB.out));(case side4=>exact HC0_1.out);(case side5=>exact(Zb HR1_1.out HB.out));(case side6=>exact HC1_1.out);(case side7=>exact(Zb HR1_2.out HB.out));(case side8=>exact HC1_2.out);rintro e w13 ⟨rfl,hb⟩;have n0_:=Za (Zw (g:=gb97001) (o:=.cells #[.slice A0_0 l0_0.length c0_0,.slice A0_1 l0_1.length c0_1,.int .i64 a0_2] 35 (0,0)) BK97001.out hb);have n1_:=Za (Zw (g:=gb97002) (o:=.cells #[.int .i64 a1_0,.slice A1_1 l1_1.length c1_1,.slice A1_2 l1_2.length c1_2] 66 (0,0)) BK97002.out hb);have n2_:=Za (Zv (by exact HB.out) hb);clear BK97001;clear BK97002;clear HB;have BK97001:=n0_;have BK97002:=n1_;have HB:=n2_;clear n0_ n1_ n2_;(try clear hb);(try clear hb2);(try clear hk);(try clear hi)))
  go_ret
  exact⟨by first|rfl|(simp[Zy,Zx] <;> rfl)|(simp[*,Zy,Zx] <;> rfl),by repeat(first|(with_reducible first|exact HB.out|apply Zp|apply Zn|apply Zr|refine Zq ?_ GE97001.out|refine Zq ?_ GE97002.out)|exact HB.out)⟩
 ·replace c4:=Bool.eq_false_iff.mpr c4
  subst c4
  have H1:(some false)=some r:=by rw[if_neg (show ¬(false=true) by decide)] at H;exact H
  clear H
  have H:=H1
  clear H1
  obtain rfl:=Zg H
  go_enter Try.func97,Try.ntmps97
  go_wp2_with (first|((with_reducible refine ZG (N:=2) rfl ?_);refine ZE ?hg (N:=2) ?hd (cs:=#[.slice A0_0 l0_0.length c0_0,.slice A0_1 l0_1.length c0_1,.int .i64 a0_2]) (t:=35) ?hr ?_;(case hd=>rfl);(case hg=>rfl);(case hr=>first|(go_simp;done)|(go_simp;rfl));intro gb97001 hg w14 hbox hb;have n0_:=Za (Zv (by exact HB.out) hb);have n1_:=Za (hbox);have n2_:=Za ((by rw[hg];exact(Zz (by exact HB.out)):w.heap.size≤gb97001));have n3_:=n2_;clear HB;have HB:=n0_;have BK97001:=n1_;have GW97001:=n2_;have GE97001:=n3_;clear n0_ n1_ n2_ n3_;clear hb hbox hg)|((with_reducible refine ZG (N:=3) rfl ?_);refine ZE ?hg (N:=3) ?hd (cs:=#[.int .i64 a1_0,.slice A1_1 l1_1.length c1_1,.slice A1_2 l1_2.length c1_2]) (t:=66) ?hr ?_;(case hd=>rfl);(case hg=>rfl);(case hr=>first|(go_simp;done)|(go_simp;rfl));intro gb97002 hg w15 hbox hb;have n0_:=Za (Zw (g:=gb97001) (o:=.cells #[.slice A0_0 l0_0.length c0_0,.slice A0_1 l0_1.length c0_1,.int .i64 a0_2] 35 (0,0)) BK97001.out hb);have n1_:=Za (Zv (by exact HB.out) hb);have n2_:=Za (hbox);have n3_:=Za ((by rw[hg];exact(Zz (by exact HB.out)):w.heap.size≤gb97002));have n4_:=n3_;have n5_:=Za ((by rw[hg];exact Nat.ne_of_lt (ZK (g:=gb97001) (o:=.cells #[.slice A0_0 l0_0.length c0_0,.slice A0_1 l0_1.length c0_1,.int .i64 a0_2] 35 (0,0)) BK97001.out):gb97001≠gb97002));have n6_:=Za n5_.out.symm;clear BK97001;clear HB;have BK97001:=n0_;have HB:=n1_;have BK97002:=n2_;have GW97002:=n3_;have GE97002:=n4_;have NB97001_97002:=n5_;have NB97002_97001:=n6_;clear n0_ n1_ n2_ n3_ n4_ n5_ n6_;clear hb hbox hg;have hnb16:=NB97001_97002.out;have hnc16:=NB97002_97001.out;have hcz17_0:w15.cell? ⟨gb97001,0,none⟩=some (.slice A0_0 l0_0.length c0_0):=(Zm BK97001.out 0).trans rfl;have hcz17_1:w15.cell? ⟨gb97001,1,none⟩=some (.slice A0_1 l0_1.length c0_1):=(Zm BK97001.out 1).trans rfl;have hcz17_2:w15.cell? ⟨gb97001,2,none⟩=some (.int .i64 a0_2):=(Zm BK97001.out 2).trans rfl;have hfz17_0:=Zo BK97001.out 0;have hfz17_1:=Zo BK97001.out 1;have hfz17_2:=Zo BK97001.out 2)|((with_reducible refine ZH (f:=72) rfl ?_);refine ZW (some 6) rfl rfl Try.func72 (by kernel_rfl) rfl #[.agg #[.slice A0_0 l0_0.length c0_0,.slice A0_1 l0_1.length c0_1,.int .i64 a0_2]] rfl (by(try simp only[List.map_toArray,List.map_cons,List.map_nil]);first|done|rfl|(simp only[Zk,Zj];rfl)) ?_;(with_reducible refine(Zbe.calls _ _ l0_0 _ _ l0_1 a0_2 false _ ?side1 ?side2 ?side3 ?side4 A3.out).mono ?_);(case side1=>exact(Zb HR0_0.out HB.out));(case side2=>exact HC0_0.out);(case side3=>exact(Zb HR0_1.out HB.out));(case side4=>exact HC0_1.out);rintro e w18 ⟨rfl,hb⟩;refine⟨_,rfl,?_⟩;have n0_:=Za (Zw (g:=gb97001) (o:=.cells #[.slice A0_0 l0_0.length c0_0,.slice A0_1 l0_1.length c0_1,.int .i64 a0_2] 35 (0,0)) BK97001.out hb);have n1_:=Za (Zw (g:=gb97002) (o:=.cells #[.int .i64 a1_0,.slice A1_1 l1_1.length c1_1,.slice A1_2 l1_2.length c1_2] 66 (0,0)) BK97002.out hb);have n2_:=Za (Zv (by exact HB.out) hb);clear BK97001;clear BK97002;clear HB;have BK97001:=n0_;have BK97002:=n1_;have HB:=n2_;clear n0_ n1_ n2_;(try clear hb);(try clear hb2);(try clear hk);(try clear hi)))
  go_ret
  exact⟨by first|rfl|(simp[Zy,Zx] <;> rfl)|(simp[*,Zy,Zx] <;> rfl),by repeat(first|(with_reducible first|exact HB.out|apply Zp|apply Zn|apply Zr|refine Zq ?_ GE97001.out|refine Zq ?_ GE97002.out)|exact HB.out)⟩
def ZbD.f (k:Nat) (l0_0:List (S116)) (l0_1:List (S90)) (a0_2:Int) (a1_0:Int) (l1_1:List Int) (l1_2:List Int):Option (Bool):=(ZaG.f k l0_0 l0_1 a0_2 a1_0 l1_1 l1_2).bind fun t50003=>(if t50003=true then((Zac.f k l0_0 l0_1 a0_2 a1_0 l1_1 l1_2).bind fun t50004=>(some t50004)) else(some false))
set_option maxHeartbeats 8000000 in
set_option maxRecDepth 100000 in
theorem ZbD.calls (k:Nat) (A0_0:Option Addr) (c0_0:Nat) (l0_0:List (S116)) (A0_1:Option Addr) (c0_1:Nat) (l0_1:List (S90)) (a0_2:Int) (a1_0:Int) (A1_1:Option Addr) (c1_1:Nat) (l1_1:List Int) (A1_2:Option Addr) (c1_2:Nat) (l1_2:List Int) (r:Bool) (w:World) (hr0_0:Kd.C k116 w A0_0 l0_0.length l0_0) (hc0_0:l0_0.length≤c0_0) (hr0_1:Kd.C k90 w A0_1 l0_1.length l0_1) (hc0_1:l0_1.length≤c0_1) (hr1_1:Kd.C (Kd.int .i64) w A1_1 l1_1.length l1_1) (hc1_1:l1_1.length≤c1_1) (hr1_2:Kd.C (Kd.int .i64) w A1_2 l1_2.length l1_2) (hc1_2:l1_2.length≤c1_2) (h:ZbD.f k l0_0 l0_1 a0_2 a1_0 l1_1 l1_2=some r) :
  Calls Try.prog 50 #[.agg #[.slice A0_0 l0_0.length c0_0,.slice A0_1 l0_1.length c0_1,.int .i64 a0_2],.agg #[.int .i64 a1_0,.slice A1_1 l1_1.length c1_1,.slice A1_2 l1_2.length c1_2]] w fun e w'=>e=.returned (.bool r)∧Below w.heap.size w w':=by
 have hu35:=Try.underlying35
 have hu66:=Try.underlying66
 have HR0_0:=Za hr0_0;have HC0_0:=Za hc0_0;clear hr0_0 hc0_0;have HR0_1:=Za hr0_1;have HC0_1:=Za hc0_1;clear hr0_1 hc0_1;have HR1_1:=Za hr1_1;have HC1_1:=Za hc1_1;clear hr1_1 hc1_1;have HR1_2:=Za hr1_2;have HC1_2:=Za hc1_2;clear hr1_2 hc1_2
 have HB:=Za (Below.refl w.heap.size w)
 have H:((ZaG.f k l0_0 l0_1 a0_2 a1_0 l1_1 l1_2).bind fun t50003=>(if t50003=true then((Zac.f k l0_0 l0_1 a0_2 a1_0 l1_1 l1_2).bind fun t50004=>(some t50004)) else(some false)))=some r:=h
 clear h
 replace H:=Zh H
 obtain⟨t50003,A30,H⟩:=H
 replace H:(if t50003=true then((Zac.f k l0_0 l0_1 a0_2 a1_0 l1_1 l1_2).bind fun t50004=>(some t50004)) else(some false))=some r:=H
 have A3:=Za A30;clear A30
 by_cases c4:t50003=true
 ·subst c4
  have H1:((Zac.f k l0_0 l0_1 a0_2 a1_0 l1_1 l1_2).bind fun t50004=>(some t50004))=some r:=by rw[if_pos rfl] at H;exact H
  clear H
  have H:=H1
  clear H1
  replace H:=Zh H
  obtain⟨t50004,A50,H⟩:=H
  replace H:(some t50004)=some r:=H
  have A5:=Za A50;clear A50
  obtain rfl:=Zg H
  go_enter Try.func50,Try.ntmps50
  go_wp2_with (first|((with_reducible refine ZG (N:=2) rfl ?_);refine ZE ?hg (N:=2) ?hd (cs:=#[.slice A0_0 l0_0.length c0_0,.slice A0_1 l0_1.length c0_1,.int .i64 a0_2]) (t:=35) ?hr ?_;(case hd=>rfl);(case hg=>rfl);(case hr=>first|(go_simp;done)|(go_simp;rfl));intro gb50001 hg w6 hbox hb;have n0_:=Za (Zv (by exact HB.out) hb);have n1_:=Za (hbox);have n2_:=Za ((by rw[hg];exact(Zz (by exact HB.out)):w.heap.size≤gb50001));have n3_:=n2_;clear HB;have HB:=n0_;have BK50001:=n1_;have GW50001:=n2_;have GE50001:=n3_;clear n0_ n1_ n2_ n3_;clear hb hbox hg)|((with_reducible refine ZG (N:=3) rfl ?_);refine ZE ?hg (N:=3) ?hd (cs:=#[.int .i64 a1_0,.slice A1_1 l1_1.length c1_1,.slice A1_2 l1_2.length c1_2]) (t:=66) ?hr ?_;(case hd=>rfl);(case hg=>rfl);(case hr=>first|(go_simp;done)|(go_simp;rfl));intro gb50002 hg w7 hbox hb;have n0_:=Za (Zw (g:=gb50001) (o:=.cells #[.slice A0_0 l0_0.length c0_0,.slice A0_1 l0_1.length c0_1,.int .i64 a0_2] 35 (0,0)) BK50001.out hb);have n1_:=Za (Zv (by exact HB.out) hb);have n2_:=Za (hbox);have n3_:=Za ((by rw[hg];exact(Zz (by exact HB.out)):w.heap.size≤gb50002));have n4_:=n3_;have n5_:=Za ((by rw[hg];exact Nat.ne_of_lt (ZK (g:=gb50001) (o:=.cells #[.slice A0_0 l0_0.length c0_0,.slice A0_1 l0_1.length c0_1,.int .i64 a0_2] 35 (0,0)) BK50001.out):gb50001≠gb50002));have n6_:=Za n5_.out.symm;clear BK50001;clear HB;have BK50001:=n0_;have HB:=n1_;have BK50002:=n2_;have GW50002:=n3_;have GE50002:=n4_;have NB50001_50002:=n5_;have NB50002_50001:=n6_;clear n0_ n1_ n2_ n3_ n4_ n5_ n6_;clear hb hbox hg;have hnb8:=NB50001_50002.out;have hnc8:=NB50002_50001.out;have hcz9_0:w7.cell? ⟨gb50001,0,none⟩=some (.slice A0_0 l0_0.length c0_0):=(Zm BK50001.out 0).trans rfl;have hcz9_1:w7.cell? ⟨gb50001,1,none⟩=some (.slice A0_1 l0_1.length c0_1):=(Zm BK50001.out 1).trans rfl;have hcz9_2:w7.cell? ⟨gb50001,2,none⟩=some (.int .i64 a0_2):=(Zm BK50001.out 2).trans rfl;have hfz9_0:=Zo BK50001.out 0;have hfz9_1:=Zo BK50001.out 1;have hfz9_2:=Zo BK50001.out 2;have hcz10_0:w7.cell? ⟨gb50002,0,none⟩=some (.int .i64 a1_0):=(Zm BK50002.out 0).trans rfl;have hcz10_1:w7.cell? ⟨gb50002,1,none⟩=some (.slice A1_1 l1_1.length c1_1):=(Zm BK50002.out 1).trans rfl;have hcz10_2:w7.cell? ⟨gb50002,2,none⟩=some (.slice A1_2 l1_2.length c1_2):=(Zm BK50002.out 2).trans rfl;have hfz10_0:=Zo BK50002.out 0;have hfz10_1:=Zo BK50002.out 1;have hfz10_2:=Zo BK50002.out 2)|((with_reducible refine ZH (f:=97) rfl ?_);refine ZW (some 7) rfl rfl Try.func97 (by kernel_rfl) rfl #[.agg #[.slice A0_0 l0_0.length c0_0,.slice A0_1 l0_1.length c0_1,.int .i64 a0_2],.agg #[.int .i64 a1_0,.slice A1_1 l1_1.length c1_1,.slice A1_2 l1_2.length c1_2]] rfl (by(try simp only[List.map_toArray,List.map_cons,List.map_nil]);first|done|rfl|(simp only[Zk,Zj];rfl)) ?_;(with_reducible refine(ZaG.calls k _ _ l0_0 _ _ l0_1 a0_2 a1_0 _ _ l1_1 _ _ l1_2 true _ ?side1 ?side2 ?side3 ?side4 ?side5 ?side6 ?side7 ?side8 A3.out).mono ?_);(case side1=>exact(Zb HR0_0.out HB.out));(case side2=>exact HC0_0.out);(case side3=>exact(Zb HR0_1.out HB.out));(case side4=>exact HC0_1.out);(case side5=>exact(Zb HR1_1.out HB.out));(case side6=>exact HC1_1.out);(case side7=>exact(Zb HR1_2.out HB.out));(case side8=>exact HC1_2.out);rintro e w11 ⟨rfl,hb⟩;refine⟨_,rfl,?_⟩;have n0_:=Za (Zw (g:=gb50001) (o:=.cells #[.slice A0_0 l0_0.length c0_0,.slice A0_1 l0_1.length c0_1,.int .i64 a0_2] 35 (0,0)) BK50001.out hb);have n1_:=Za (Zw (g:=gb50002) (o:=.cells #[.int .i64 a1_0,.slice A1_1 l1_1.length c1_1,.slice A1_2 l1_2.length c1_2] 66 (0,0)) BK50002.out hb);have n2_:=Za (Zv (by exact HB.out) hb);clear BK50001;clear BK50002;clear HB;have BK50001:=n0_;have BK50002:=n1_;have HB:=n2_;clear n0_ n1_ n2_;(try clear hb);(try clear hb2);(try clear hk);(try clear hi);have hcz12_0:w11.cell? ⟨gb50001,0,none⟩=some (.slice A0_0 l0_0.length c0_0):=(Zm BK50001.out 0).trans rfl;have hcz12_1:w11.cell? ⟨gb50001,1,none⟩=some (.slice A0_1 l0_1.length c0_1):=(Zm BK50001.out 1).trans rfl;have hcz12_2:w11.cell? ⟨gb50001,2,none⟩=some (.int .i64 a0_2):=(Zm BK50001.out 2).trans rfl;have hfz12_0:=Zo BK50001.out 0;have hfz12_1:=Zo BK50001.out 1;have hfz12_2:=Zo BK50001.out 2;have hcz13_0:w11.cell? ⟨gb50002,0,none⟩=some (.int .i64 a1_0):=(Zm BK50002.out 0).trans rfl;have hcz13_1:w11.cell? ⟨gb50002,1,none⟩=some (.slice A1_1 l1_1.length c1_1):=(Zm BK50002.out 1).trans rfl;have hcz13_2:w11.cell? ⟨gb50002,2,none⟩=some (.slice A1_2 l1_2.length c1_2):=(Zm BK50002.out 2).trans rfl;have hfz13_0:=Zo BK50002.out 0;have hfz13_1:=Zo BK50002.out 1;have hfz13_2:=Zo BK50002.out 2)|(go_at_call 102;(with_reducible refine(Zac.calls k _ _ l0_0 _ _ l0_1 a0_2 a1_0 _ _ l1_1 _ _ l1_2 t50004 _ ?side1 ?side2 ?side3 ?side4 ?side5 ?side6 ?side7 ?side8 A5.out).mono ?_);(case side1=>exact(Zb HR0_0.out HB.out));(case side2=>exact HC0_0.out);(case side3=>exact(Zb HR0_1.out HB.out));(case side4=>exact HC0_1.out);(case side5=>exact(Zb HR1_1.out HB.out));(case side6=>exact HC1_1.out);(case side7=>exact(Zb HR1_2.out HB.out));(case side8=>exact HC1_2.out);rintro e w14 ⟨rfl,hb⟩;have n0_:=Za (Zw (g:=gb50001) (o:=.cells #[.slice A0_0 l0_0.length c0_0,.slice A0_1 l0_1.length c0_1,.int .i64 a0_2] 35 (0,0)) BK50001.out hb);have n1_:=Za (Zw (g:=gb50002) (o:=.cells #[.int .i64 a1_0,.slice A1_1 l1_1.length c1_1,.slice A1_2 l1_2.length c1_2] 66 (0,0)) BK50002.out hb);have n2_:=Za (Zv (by exact HB.out) hb);clear BK50001;clear BK50002;clear HB;have BK50001:=n0_;have BK50002:=n1_;have HB:=n2_;clear n0_ n1_ n2_;(try clear hb);(try clear hb2);(try clear hk);(try clear hi)))
  go_ret
  exact⟨by first|rfl|(simp[Zy,Zx] <;> rfl)|(simp[*,Zy,Zx] <;> rfl),by repeat(first|(with_reducible first|exact HB.out|apply Zp|apply Zn|apply Zr|refine Zq ?_ GE50001.out|refine Zq ?_ GE50002.out)|exact HB.out)⟩
 ·replace c4:=Bool.eq_false_iff.mpr c4
  subst c4
  have H1:(some false)=some r:=by rw[if_neg (show ¬(false=true) by decide)] at H;exact H
  clear H
  have H:=H1
  clear H1
  obtain rfl:=Zg H
  go_enter Try.func50,Try.ntmps50
  go_wp2_with (first|((with_reducible refine ZG (N:=2) rfl ?_);refine ZE ?hg (N:=2) ?hd (cs:=#[.slice A0_0 l0_0.length c0_0,.slice A0_1 l0_1.length c0_1,.int .i64 a0_2]) (t:=35) ?hr ?_;(case hd=>rfl);(case hg=>rfl);(case hr=>first|(go_simp;done)|(go_simp;rfl));intro gb50001 hg w15 hbox hb;have n0_:=Za (Zv (by exact HB.out) hb);have n1_:=Za (hbox);have n2_:=Za ((by rw[hg];exact(Zz (by exact HB.out)):w.heap.size≤gb50001));have n3_:=n2_;clear HB;have HB:=n0_;have BK50001:=n1_;have GW50001:=n2_;have GE50001:=n3_;clear n0_ n1_ n2_ n3_;clear hb hbox hg)|((with_reducible refine ZG (N:=3) rfl ?_);refine ZE ?hg (N:=3) ?hd (cs:=#[.int .i64 a1_0,.slice A1_1 l1_1.length c1_1,.slice A1_2 l1_2.length c1_2]) (t:=66) ?hr ?_;(case hd=>rfl);(case hg=>rfl);(case hr=>first|(go_simp;done)|(go_simp;rfl));intro gb50002 hg w16 hbox hb;have n0_:=Za (Zw (g:=gb50001) (o:=.cells #[.slice A0_0 l0_0.length c0_0,.slice A0_1 l0_1.length c0_1,.int .i64 a0_2] 35 (0,0)) BK50001.out hb);have n1_:=Za (Zv (by exact HB.out) hb);have n2_:=Za (hbox);have n3_:=Za ((by rw[hg];exact(Zz (by exact HB.out)):w.heap.size≤gb50002));have n4_:=n3_;have n5_:=Za ((by rw[hg];exact Nat.ne_of_lt (ZK (g:=gb50001) (o:=.cells #[.slice A0_0 l0_0.length c0_0,.slice A0_1 l0_1.length c0_1,.int .i64 a0_2] 35 (0,0)) BK50001.out):gb50001≠gb50002));have n6_:=Za n5_.out.symm;clear BK50001;clear HB;have BK50001:=n0_;have HB:=n1_;have BK50002:=n2_;have GW50002:=n3_;have GE50002:=n4_;have NB50001_50002:=n5_;have NB50002_50001:=n6_;clear n0_ n1_ n2_ n3_ n4_ n5_ n6_;clear hb hbox hg;have hnb17:=NB50001_50002.out;have hnc17:=NB50002_50001.out;have hcz18_0:w16.cell? ⟨gb50001,0,none⟩=some (.slice A0_0 l0_0.length c0_0):=(Zm BK50001.out 0).trans rfl;have hcz18_1:w16.cell? ⟨gb50001,1,none⟩=some (.slice A0_1 l0_1.length c0_1):=(Zm BK50001.out 1).trans rfl;have hcz18_2:w16.cell? ⟨gb50001,2,none⟩=some (.int .i64 a0_2):=(Zm BK50001.out 2).trans rfl;have hfz18_0:=Zo BK50001.out 0;have hfz18_1:=Zo BK50001.out 1;have hfz18_2:=Zo BK50001.out 2;have hcz19_0:w16.cell? ⟨gb50002,0,none⟩=some (.int .i64 a1_0):=(Zm BK50002.out 0).trans rfl;have hcz19_1:w16.cell? ⟨gb50002,1,none⟩=some (.slice A1_1 l1_1.length c1_1):=(Zm BK50002.out 1).trans rfl;have hcz19_2:w16.cell? ⟨gb50002,2,none⟩=some (.slice A1_2 l1_2.length c1_2):=(Zm BK50002.out 2).trans rfl;have hfz19_0:=Zo BK50002.out 0;have hfz19_1:=Zo BK50002.out 1;have hfz19_2:=Zo BK50002.out 2)|((with_reducible refine ZH (f:=97) rfl ?_);refine ZW (some 7) rfl rfl Try.func97 (by kernel_rfl) rfl #[.agg #[.slice A0_0 l0_0.length c0_0,.slice A0_1 l0_1.length c0_1,.int .i64 a0_2],.agg #[.int .i64 a1_0,.slice A1_1 l1_1.length c1_1,.slice A1_2 l1_2.length c1_2]] rfl (by(try simp only[List.map_toArray,List.map_cons,List.map_nil]);first|done|rfl|(simp only[Zk,Zj];rfl)) ?_;(with_reducible refine(ZaG.calls k _ _ l0_0 _ _ l0_1 a0_2 a1_0 _ _ l1_1 _ _ l1_2 false _ ?side1 ?side2 ?side3 ?side4 ?side5 ?side6 ?side7 ?side8 A3.out).mono ?_);(case side1=>exact(Zb HR0_0.out HB.out));(case side2=>exact HC0_0.out);(case side3=>exact(Zb HR0_1.out HB.out));(case side4=>exact HC0_1.out);(case side5=>exact(Zb HR1_1.out HB.out));(case side6=>exact HC1_1.out);(case side7=>exact(Zb HR1_2.out HB.out));(case side8=>exact HC1_2.out);rintro e w20 ⟨rfl,hb⟩;refine⟨_,rfl,?_⟩;have n0_:=Za (Zw (g:=gb50001) (o:=.cells #[.slice A0_0 l0_0.length c0_0,.slice A0_1 l0_1.length c0_1,.int .i64 a0_2] 35 (0,0)) BK50001.out hb);have n1_:=Za (Zw (g:=gb50002) (o:=.cells #[.int .i64 a1_0,.slice A1_1 l1_1.length c1_1,.slice A1_2 l1_2.length c1_2] 66 (0,0)) BK50002.out hb);have n2_:=Za (Zv (by exact HB.out) hb);clear BK50001;clear BK50002;clear HB;have BK50001:=n0_;have BK50002:=n1_;have HB:=n2_;clear n0_ n1_ n2_;(try clear hb);(try clear hb2);(try clear hk);(try clear hi)))
  go_ret
  exact⟨by first|rfl|(simp[Zy,Zx] <;> rfl)|(simp[*,Zy,Zx] <;> rfl),by repeat(first|(with_reducible first|exact HB.out|apply Zp|apply Zn|apply Zr|refine Zq ?_ GE50001.out|refine Zq ?_ GE50002.out)|exact HB.out)⟩
end Go.Proofs.Ytodfnelilhjoeaa.Pr
namespace Go.Proofs.Ytodfnelilhjoeaa.Pr
open Go.RowKit Go.Proofs.YtodfnelilhjoeaaW.PrintWords Go.Proofs.YtodfnelilhjoeaaW.PrintLast Go.Proofs.YtodfnelilhjoeaaW.PrintMore
attribute [local go_sem] Zaj Zah Zat Zas Zaa Z9 Zai Zag
set_option linter.unusedVariables false
set_option linter.unusedSimpArgs false
open Go.Proofs.Ytodfnelilhjoeaa.Ni
set_option maxHeartbeats 4000000 in
set_option maxRecDepth 100000 in
theorem laws_eqNode.same (a0:ByteArray) (A1:Option Addr) (c1:Nat) (A1':Option Addr) (c1':Nat) (l1:List Int) (a2:Int) (w:World) (hr1:Kd.C (Kd.int .i64) w A1 l1.length l1) (hc1:l1.length≤c1) (hr1':Kd.C (Kd.int .i64) w A1' l1.length l1) (hc1':l1.length≤c1') :
  Calls Try.prog 127 #[.agg #[.string a0,.slice A1 l1.length c1,.int .i64 a2],.agg #[.string a0,.slice A1' l1.length c1',.int .i64 a2]] w fun e w'=>e=.returned (.bool true)∧Below w.heap.size w w':=by
 have hu:=Try.underlying116
 have H1:=Za fun (W:World) (hb:Below w.heap.size w W)=>(ZaH.calls (2 ^ 64) A1 c1 l1 A1' c1' l1 true W (Zb hr1 hb) hc1 (Zb hr1' hb) hc1' (Zc3 l1 hr1.2.1 (2 ^ 64) (Nat.le_refl _))).mono fun e w' ⟨he,hd⟩=>(And.intro he hd.below:e=Ending.returned (.bool true)∧Below W.heap.size W w')
 clear hr1 hc1 hr1' hc1'
 have HB0:=Za (Zp (Zp (Below.refl w.heap.size w) (.cells #[.string a0,.slice A1 l1.length c1,.int .i64 a2] 116)) (.cells #[.string a0,.slice A1' l1.length c1',.int .i64 a2] 116))
 go_enter Try.func127,Try.ntmps127
 go_wp2_with fail
 refine(H1.out _ HB0.out).mono ?_
 rintro e w1 ⟨rfl,hb⟩
 have HB1:=Za (HB0.out.trans (hb.mono HB0.out.size))
 have s2:w1.cell? ⟨w.heap.size,2,none⟩=some (.int .i64 a2):=ZI hb (by go_simp)
 have t2:w1.cell? ⟨w.heap.size+1,2,none⟩=some (.int .i64 a2):=ZI hb (by go_simp)
 clear hb
 go_wp2
 go_ret
 exact⟨rfl,HB1.out⟩
set_option maxHeartbeats 4000000 in
set_option maxRecDepth 100000 in
theorem laws_eqNodeS.same (A0:Option Addr) (c0:Nat) (A0':Option Addr) (c0':Nat) (l0:List (S116)) (w:World) (hr0:Kd.C k116 w A0 l0.length l0) (hc0:l0.length≤c0) (hr0':Kd.C k116 w A0' l0.length l0) (hc0':l0.length≤c0') :
  Calls Try.prog 74 #[.slice A0 l0.length c0,.slice A0' l0.length c0'] w fun e w'=>e=.returned (.bool true)∧Below w.heap.size w w':=by
 have hL:l0.length≤9223372036854775807:=hr0.2.1
 have HR:=Za hr0
 have HS:=Za hr0'
 clear hr0 hr0'
 go_enter Try.func74,Try.ntmps74
 go_wp2
 go_loopg [5] l0.length (fun gg s5 wr=>∃kk:Nat,Aside0 (kk≤l0.length)∧Aside0 (l0.length - kk≤gg)∧s5=.int .i64 kk∧Aside0 (Below w.heap.size w wr))
 case atStart=>exact⟨0,⟨Nat.zero_le _⟩,⟨by omega⟩,rfl,⟨Below.refl _ _⟩⟩
 case round=>
  obtain⟨kk,HK,HG,rfl,HBr⟩:=hrel
  by_cases hlt:kk<l0.length
  ·have hltz:(kk:Int)<(l0.length:Int):=by omega
   obtain⟨adx,A1x,c1x,ex,hx0,hx1,hx2,l1x,g1x⟩:=Zak HR.out (kk:Int) (by omega) hltz
   obtain⟨ady,A1y,c1y,ey,hy0,hy1,hy2,l1y,g1y⟩:=Zak HS.out (kk:Int) (by omega) hltz
   cases ex
   cases ey
   rw[Int.toNat_natCast] at hx0 hx1 hx2 hy0 hy1 hy2
   generalize ZA l0 (kk:Int)=y at hx0 hx1 hx2 l1x g1x hy0 hy1 hy2 l1y g1y
   replace hx0:=ZI HBr.out hx0
   replace hx1:=ZI HBr.out hx1
   replace hx2:=ZI HBr.out hx2
   replace hy0:=ZI HBr.out hy0
   replace hy1:=ZI HBr.out hy1
   replace hy2:=ZI HBr.out hy2
   have hltx:=Zc wr _ hx0
   have hlty:=Zc wr _ hy0
   have G1x:=Za g1x;have G1y:=Za g1y;clear g1x g1y
   go_wp2_with fail
   go_region_held3 (fun w'=>Below wr.heap.size wr w'∧w'.cell? (adx.add (kk * 3))=some (.string y.f0)∧w'.cell? ⟨(adx.add (kk * 3)).block,(adx.add (kk * 3)).off+1,none⟩=some (.slice A1x y.f1.length c1x)∧w'.cell? ⟨(adx.add (kk * 3)).block,(adx.add (kk * 3)).off+2,none⟩=some (.int .i64 y.f2)∧w'.cell? (ady.add (kk * 3))=some (.string y.f0)∧w'.cell? ⟨(ady.add (kk * 3)).block,(ady.add (kk * 3)).off+1,none⟩=some (.slice A1y y.f1.length c1y)∧w'.cell? ⟨(ady.add (kk * 3)).block,(ady.add (kk * 3)).off+2,none⟩=some (.int .i64 y.f2))
    (first|(refine⟨by repeat(first|(with_reducible first|exact Below.refl _ _|apply Zp|apply Zn|apply Zr|exact(‹Below wr.heap.size wr _∧_› : Below wr.heap.size wr _∧_).1)|exact Below.refl _ _),?_⟩;go_simp;done)|(have HQ_:=Zv (‹Below wr.heap.size wr _∧_› : Below wr.heap.size wr _∧_).1 hb;exact⟨HQ_,ZI HQ_ hx0,ZI HQ_ hx1,ZI HQ_ hx2,ZI HQ_ hy0,ZI HQ_ hy1,ZI HQ_ hy2⟩))
    (first|(go_at_call 127;(refine(laws_eqNode.same y.f0 A1x c1x A1y c1y y.f1 y.f2 _ ?p0 l1x ?p1 l1y).mono ?_);(case p0=>exact(Zb (Zb G1x.out HBr.out) (‹Below wr.heap.size wr _∧_› : Below wr.heap.size wr _∧_).1));(case p1=>exact(Zb (Zb G1y.out HBr.out) (‹Below wr.heap.size wr _∧_› : Below wr.heap.size wr _∧_).1));rintro e w3 ⟨rfl,hb⟩))
   have HB3:=Za (‹Below wr.heap.size wr w3∧_› : Below wr.heap.size wr w3∧_).1
   go_wp2
   go_roundg (l0.length - (kk+1))
   case measure=>have:=HG.out;omega
   case rel=>exact⟨kk+1,⟨by omega⟩,⟨by omega⟩,by go_num,⟨HBr.out.trans (HB3.out.mono HBr.out.size)⟩⟩
  ·have hltz:¬(kk:Int)<(l0.length:Int):=by omega
   have:kk=l0.length:=by have:=HK.out;omega
   subst this
   go_wp2
   go_ret
   exact⟨rfl,HBr.out⟩
set_option maxHeartbeats 4000000 in
set_option maxRecDepth 100000 in
theorem laws_eqTie.same (a0:Int) (a1:Int) (a2:Int) (a3:Int) (a4:Bool) (w:World)  :
  Calls Try.prog 128 #[.agg #[.int .i64 a0,.int .i64 a1,.int .i64 a2,.int .i64 a3,.bool a4],.agg #[.int .i64 a0,.int .i64 a1,.int .i64 a2,.int .i64 a3,.bool a4]] w fun e w'=>e=.returned (.bool true)∧Below w.heap.size w w':=by
 have hu:=Try.underlying90
 have HB0:=Za (Zp (Zp (Below.refl w.heap.size w) (.cells #[.int .i64 a0,.int .i64 a1,.int .i64 a2,.int .i64 a3,.bool a4] 90)) (.cells #[.int .i64 a0,.int .i64 a1,.int .i64 a2,.int .i64 a3,.bool a4] 90))
 go_enter Try.func128,Try.ntmps128
 go_wp2
 go_ret
 exact⟨rfl,HB0.out⟩
set_option maxHeartbeats 4000000 in
set_option maxRecDepth 100000 in
theorem laws_eqTieS.same (A0:Option Addr) (c0:Nat) (A0':Option Addr) (c0':Nat) (l0:List (S90)) (w:World) (hr0:Kd.C k90 w A0 l0.length l0) (hc0:l0.length≤c0) (hr0':Kd.C k90 w A0' l0.length l0) (hc0':l0.length≤c0') :
  Calls Try.prog 75 #[.slice A0 l0.length c0,.slice A0' l0.length c0'] w fun e w'=>e=.returned (.bool true)∧Below w.heap.size w w':=by
 have hL:l0.length≤9223372036854775807:=hr0.2.1
 have HR:=Za hr0
 have HS:=Za hr0'
 clear hr0 hr0'
 go_enter Try.func75,Try.ntmps75
 go_wp2
 go_loopg [5] l0.length (fun gg s5 wr=>∃kk:Nat,Aside0 (kk≤l0.length)∧Aside0 (l0.length - kk≤gg)∧s5=.int .i64 kk∧Aside0 (Below w.heap.size w wr))
 case atStart=>exact⟨0,⟨Nat.zero_le _⟩,⟨by omega⟩,rfl,⟨Below.refl _ _⟩⟩
 case round=>
  obtain⟨kk,HK,HG,rfl,HBr⟩:=hrel
  by_cases hlt:kk<l0.length
  ·have hltz:(kk:Int)<(l0.length:Int):=by omega
   obtain⟨adx,ex,hx0,hx1,hx2,hx3,hx4⟩:=Zbg HR.out (kk:Int) (by omega) hltz
   obtain⟨ady,ey,hy0,hy1,hy2,hy3,hy4⟩:=Zbg HS.out (kk:Int) (by omega) hltz
   cases ex
   cases ey
   rw[Int.toNat_natCast] at hx0 hx1 hx2 hx3 hx4 hy0 hy1 hy2 hy3 hy4
   generalize ZB l0 (kk:Int)=y at hx0 hx1 hx2 hx3 hx4 hy0 hy1 hy2 hy3 hy4
   replace hx0:=ZI HBr.out hx0
   replace hx1:=ZI HBr.out hx1
   replace hx2:=ZI HBr.out hx2
   replace hx3:=ZI HBr.out hx3
   replace hx4:=ZI HBr.out hx4
   replace hy0:=ZI HBr.out hy0
   replace hy1:=ZI HBr.out hy1
   replace hy2:=ZI HBr.out hy2
   replace hy3:=ZI HBr.out hy3
   replace hy4:=ZI HBr.out hy4
   have hltx:=Zc wr _ hx0
   have hlty:=Zc wr _ hy0
   go_wp2_with fail
   go_region_held3 (fun w'=>Below wr.heap.size wr w'∧w'.cell? (adx.add (kk * 5))=some (.int .i64 y.f0)∧w'.cell? ⟨(adx.add (kk * 5)).block,(adx.add (kk * 5)).off+1,none⟩=some (.int .i64 y.f1)∧w'.cell? ⟨(adx.add (kk * 5)).block,(adx.add (kk * 5)).off+2,none⟩=some (.int .i64 y.f2)∧w'.cell? ⟨(adx.add (kk * 5)).block,(adx.add (kk * 5)).off+3,none⟩=some (.int .i64 y.f3)∧w'.cell? ⟨(adx.add (kk * 5)).block,(adx.add (kk * 5)).off+4,none⟩=some (.bool y.f4)∧w'.cell? (ady.add (kk * 5))=some (.int .i64 y.f0)∧w'.cell? ⟨(ady.add (kk * 5)).block,(ady.add (kk * 5)).off+1,none⟩=some (.int .i64 y.f1)∧w'.cell? ⟨(ady.add (kk * 5)).block,(ady.add (kk * 5)).off+2,none⟩=some (.int .i64 y.f2)∧w'.cell? ⟨(ady.add (kk * 5)).block,(ady.add (kk * 5)).off+3,none⟩=some (.int .i64 y.f3)∧w'.cell? ⟨(ady.add (kk * 5)).block,(ady.add (kk * 5)).off+4,none⟩=some (.bool y.f4))
    (first|(refine⟨by repeat(first|(with_reducible first|exact Below.refl _ _|apply Zp|apply Zn|apply Zr|exact(‹Below wr.heap.size wr _∧_› : Below wr.heap.size wr _∧_).1)|exact Below.refl _ _),?_⟩;go_simp;done)|(have HQ_:=Zv (‹Below wr.heap.size wr _∧_› : Below wr.heap.size wr _∧_).1 hb;exact⟨HQ_,ZI HQ_ hx0,ZI HQ_ hx1,ZI HQ_ hx2,ZI HQ_ hx3,ZI HQ_ hx4,ZI HQ_ hy0,ZI HQ_ hy1,ZI HQ_ hy2,ZI HQ_ hy3,ZI HQ_ hy4⟩))
    (first|(go_at_call 128;(refine(laws_eqTie.same y.f0 y.f1 y.f2 y.f3 y.f4 _ ).mono ?_);rintro e w3 ⟨rfl,hb⟩))
   have HB3:=Za (‹Below wr.heap.size wr w3∧_› : Below wr.heap.size wr w3∧_).1
   go_wp2
   go_roundg (l0.length - (kk+1))
   case measure=>have:=HG.out;omega
   case rel=>exact⟨kk+1,⟨by omega⟩,⟨by omega⟩,by go_num,⟨HBr.out.trans (HB3.out.mono HBr.out.size)⟩⟩
  ·have hltz:¬(kk:Int)<(l0.length:Int):=by omega
   have:kk=l0.length:=by have:=HK.out;omega
   subst this
   go_wp2
   go_ret
   exact⟨rfl,HBr.out⟩
set_option maxHeartbeats 4000000 in
set_option maxRecDepth 100000 in
theorem laws_eqShow.same (A0:Option Addr) (c0:Nat) (A0':Option Addr) (c0':Nat) (l0:List (S116)) (A1:Option Addr) (c1:Nat) (A1':Option Addr) (c1':Nat) (l1:List (S90)) (a2:Int) (w:World) (hr0:Kd.C k116 w A0 l0.length l0) (hc0:l0.length≤c0) (hr0':Kd.C k116 w A0' l0.length l0) (hc0':l0.length≤c0') (hr1:Kd.C k90 w A1 l1.length l1) (hc1:l1.length≤c1) (hr1':Kd.C k90 w A1' l1.length l1) (hc1':l1.length≤c1') :
  Calls Try.prog 21 #[.agg #[.slice A0 l0.length c0,.slice A1 l1.length c1,.int .i64 a2],.agg #[.slice A0' l0.length c0',.slice A1' l1.length c1',.int .i64 a2]] w fun e w'=>e=.returned (.bool true)∧Below w.heap.size w w':=by
 have hu:=Try.underlying35
 have H0:=Za fun (W:World) (hb:Below w.heap.size w W)=>laws_eqNodeS.same A0 c0 A0' c0' l0 W (Zb hr0 hb) hc0 (Zb hr0' hb) hc0'
 have H1:=Za fun (W:World) (hb:Below w.heap.size w W)=>laws_eqTieS.same A1 c1 A1' c1' l1 W (Zb hr1 hb) hc1 (Zb hr1' hb) hc1'
 clear hr0 hc0 hr0' hc0' hr1 hc1 hr1' hc1'
 have HB0:=Za (Zp (Zp (Below.refl w.heap.size w) (.cells #[.slice A0 l0.length c0,.slice A1 l1.length c1,.int .i64 a2] 35)) (.cells #[.slice A0' l0.length c0',.slice A1' l1.length c1',.int .i64 a2] 35))
 go_enter Try.func21,Try.ntmps21
 go_wp2_with fail
 refine(H0.out _ HB0.out).mono ?_
 rintro e w1 ⟨rfl,hb⟩
 have HB1:=Za (HB0.out.trans (hb.mono HB0.out.size))
 have s1:w1.cell? ⟨w.heap.size,1,none⟩=some (.slice A1 l1.length c1):=ZI hb (by go_simp)
 have t1:w1.cell? ⟨w.heap.size+1,1,none⟩=some (.slice A1' l1.length c1'):=ZI hb (by go_simp)
 have s2:w1.cell? ⟨w.heap.size,2,none⟩=some (.int .i64 a2):=ZI hb (by go_simp)
 have t2:w1.cell? ⟨w.heap.size+1,2,none⟩=some (.int .i64 a2):=ZI hb (by go_simp)
 clear hb
 go_wp2_with fail
 refine(H1.out _ HB1.out).mono ?_
 rintro e w2 ⟨rfl,hb⟩
 have HB2:=Za (HB1.out.trans (hb.mono HB1.out.size))
 replace s2:=ZI hb s2
 replace t2:=ZI hb t2
 clear hb s1 t1
 go_wp2
 go_ret
 exact⟨rfl,HB2.out⟩
set_option maxHeartbeats 4000000 in
set_option maxRecDepth 100000 in
theorem laws_eqState.same (a0:Int) (A1:Option Addr) (c1:Nat) (A1':Option Addr) (c1':Nat) (l1:List Int) (A2:Option Addr) (c2:Nat) (A2':Option Addr) (c2':Nat) (l2:List Int) (w:World) (hr1:Kd.C (Kd.int .i64) w A1 l1.length l1) (hc1:l1.length≤c1) (hr1':Kd.C (Kd.int .i64) w A1' l1.length l1) (hc1':l1.length≤c1') (hr2:Kd.C (Kd.int .i64) w A2 l2.length l2) (hc2:l2.length≤c2) (hr2':Kd.C (Kd.int .i64) w A2' l2.length l2) (hc2':l2.length≤c2') :
  Calls Try.prog 42 #[.agg #[.int .i64 a0,.slice A1 l1.length c1,.slice A2 l2.length c2],.agg #[.int .i64 a0,.slice A1' l1.length c1',.slice A2' l2.length c2']] w fun e w'=>e=.returned (.bool true)∧Below w.heap.size w w':=by
 have hu:=Try.underlying66
 have H1:=Za fun (W:World) (hb:Below w.heap.size w W)=>(ZaH.calls (2 ^ 64) A1 c1 l1 A1' c1' l1 true W (Zb hr1 hb) hc1 (Zb hr1' hb) hc1' (Zc3 l1 hr1.2.1 (2 ^ 64) (Nat.le_refl _))).mono fun e w' ⟨he,hd⟩=>(And.intro he hd.below:e=Ending.returned (.bool true)∧Below W.heap.size W w')
 have H2:=Za fun (W:World) (hb:Below w.heap.size w W)=>(ZaH.calls (2 ^ 64) A2 c2 l2 A2' c2' l2 true W (Zb hr2 hb) hc2 (Zb hr2' hb) hc2' (Zc3 l2 hr2.2.1 (2 ^ 64) (Nat.le_refl _))).mono fun e w' ⟨he,hd⟩=>(And.intro he hd.below:e=Ending.returned (.bool true)∧Below W.heap.size W w')
 clear hr1 hc1 hr1' hc1' hr2 hc2 hr2' hc2'
 have HB0:=Za (Zp (Zp (Below.refl w.heap.size w) (.cells #[.int .i64 a0,.slice A1 l1.length c1,.slice A2 l2.length c2] 66)) (.cells #[.int .i64 a0,.slice A1' l1.length c1',.slice A2' l2.length c2'] 66))
 go_enter Try.func42,Try.ntmps42
 go_wp2_with fail
 refine(H1.out _ HB0.out).mono ?_
 rintro e w1 ⟨rfl,hb⟩
 have HB1:=Za (HB0.out.trans (hb.mono HB0.out.size))
 have s2:w1.cell? ⟨w.heap.size,2,none⟩=some (.slice A2 l2.length c2):=ZI hb (by go_simp)
 have t2:w1.cell? ⟨w.heap.size+1,2,none⟩=some (.slice A2' l2.length c2'):=ZI hb (by go_simp)
 clear hb
 go_wp2_with fail
 refine(H2.out _ HB1.out).mono ?_
 rintro e w2 ⟨rfl,hb⟩
 have HB2:=Za (HB1.out.trans (hb.mono HB1.out.size))
 clear hb s2 t2
 go_wp2
 go_ret
 exact⟨rfl,HB2.out⟩
end Go.Proofs.Ytodfnelilhjoeaa.Pr
namespace Go.Proofs.Ytodfnelilhjoeaa.Pr
open Go.RowKit Go.Proofs.YtodfnelilhjoeaaW.PrintWords Go.Proofs.Ytodfnelilhjoeaa.Ni
theorem szIntS_f (l:List Int) (hl:l.length≤9223372036854775807) (a:Int) (h0:0≤a) (h1:a≤1048576):ZaC.f l a=some (if a - l.length<0 then -1 else a - l.length):=by
 unfold ZaC.f
 rw[Za5 (by omega) (by omega)]
 split <;> rfl
theorem szNode_f (s:ByteArray) (l:List Int) (n:Int) (hs:s.size≤9223372036854775807) (hl:l.length≤9223372036854775807) (a:Int) (h0:0≤a) (h1:a≤1048576) :
  ∃r,ZbI.f s l n a=some r∧(r<0∨(0≤r∧r≤a∧s.size≤1048576∧l.length≤1048576)):=by
 unfold ZbI.f
 rw[Za5 (by omega) (by omega)]
 by_cases h:a - (s.size:Int)<0
 ·rw[if_pos h];exact⟨_,rfl,.inl (by omega)⟩
 ·rw[if_neg h,szIntS_f l hl _ (by omega) (by omega),Zi]
  by_cases h2:a - (s.size:Int) - l.length<0
  ·rw[if_pos h2,if_pos (by omega)];exact⟨_,rfl,.inl (by omega)⟩
  ·rw[if_neg h2,if_neg h2];exact⟨_,rfl,.inr ⟨by omega,by omega,by omega,by omega⟩⟩
theorem toNode_f (s:ByteArray) (l:List Int) (n:Int) (hl:l.length≤35184372088832) (k:Nat) (hk:2 ^ 64≤k):ZbT.f k s l n=some (s,l,n):=by
 unfold ZbT.f
 rw[ZdN l hl k hk];rfl
theorem szNodeS_l (l:List LNode) (hl:l.length≤9223372036854775807) (hb:∀n∈l,n.f0.size≤9223372036854775807∧n.f1.length≤9223372036854775807) (k:Nat) (hk:2 ^ 64≤k) :
  ∀a:Int,0≤a→a≤1048576→∃r,Zav.l0 k l a 0=some r∧(r<0∨(0≤r∧r≤a∧∀n∈l,n.f0.size≤1048576∧n.f1.length≤1048576)):=by
 have key:=ZaK l.length (fun k i=>∀a:Int,0≤a→a≤1048576→∃r,Zav.l0 k l a (i:Int)=some r∧(r<0∨(0≤r∧r≤a∧∀n∈l.drop i,n.f0.size≤1048576∧n.f1.length≤1048576))) 0
  (fun k _ a h0 h1=>⟨a,by simp[Zav.l0],.inr ⟨h0,Int.le_refl _,by simp⟩⟩)
  (fun k i _ hi ih a h0 h1=>by
   simp only[Zav.l0]
   rw[if_pos (by omega),if_pos (by omega),rdLN_nat,Zal hi (by omega)]
   have hm:=hb _ (Zbq hi z127)
   obtain⟨r,hr,h⟩:=szNode_f (l.getD i z127).f0 (l.getD i z127).f1 (l.getD i z127).f2 hm.1 hm.2 a h0 h1
   rw[hr,Zi]
   rcases h with h|⟨h2,h3,h4,h5⟩
   ·rw[if_pos h];exact⟨_,rfl,.inl (by omega)⟩
   ·rw[if_neg (by omega)]
    obtain⟨q,hq,h⟩:=ih r h2 (by omega)
    refine⟨q,hq,?_⟩
    rcases h with h|⟨h6,h7,h8⟩
    ·exact .inl h
    ·refine .inr ⟨h6,by omega,?_⟩
     rw[ZaI hi z127]
     intro n hn
     rcases List.mem_cons.1 hn with rfl|hn
     ·exact⟨h4,h5⟩
     ·exact h8 n hn) 0 k (Nat.zero_le _) (by omega)
 intro a h0 h1
 simpa using key a h0 h1
theorem szShow_f (ns:List LNode) (ts:List LTie) (z:Int) (hn:ns.length≤9223372036854775807) (hb:∀n∈ns,n.f0.size≤9223372036854775807∧n.f1.length≤9223372036854775807) (ht:ts.length≤9223372036854775807) (k:Nat) (hk:2 ^ 64≤k) (a:Int) (h0:0≤a) (h1:a≤1048576) :
  ∃r,Zbv.f k ns ts z a=some r∧(r<0∨(0≤r∧r≤a∧ZcZ ns ts)):=by
 unfold Zbv.f Zav.f
 rw[Za5 (by omega) (by omega)]
 by_cases h:a - (ns.length:Int)<0
 ·rw[if_pos h,Zi,if_pos (by omega)];exact⟨_,rfl,.inl (by omega)⟩
 ·rw[if_neg h]
  obtain⟨r,hr,h⟩:=szNodeS_l ns hn hb k hk (a - ns.length) (by omega) (by omega)
  rw[hr,Zi]
  rcases h with h|⟨h2,h3,h4⟩
  ·rw[if_pos h];exact⟨_,rfl,.inl (by omega)⟩
  ·rw[if_neg (by omega)]
   unfold Zbu.f
   rw[Za5 (by omega) (by omega)]
   by_cases h5:r - (ts.length:Int)<0
   ·rw[if_pos h5,Zi,if_pos (by omega)];exact⟨_,rfl,.inl (by omega)⟩
   ·rw[if_neg h5,Zi,if_neg h5];exact⟨_,rfl,.inr ⟨by omega,by omega,by omega,by omega,h4⟩⟩
theorem toNodeS_f (l:List LNode) (hl:l.length≤1048576) (hb:∀n∈l,n.f0.size≤1048576∧n.f1.length≤1048576) (k:Nat) (hk:2 ^ 65≤k):Zau.f k l=some (l.map cvN):=by
 have key:=ZaK l.length (fun k i=>Zau.l0 k l ((l.map cvN).take i ++ List.replicate ((l.map cvN).length - i) z116) (i:Int)=some (l.map cvN)) (2 ^ 64)
  (fun k _=>by simp[Zau.l0];rw[List.take_of_length_le (by simp)])
  (fun k i hk hi ih=>by
   simp only[Zau.l0]
   have hm:=hb _ (Zbq hi z127)
   rw[if_pos (by omega),if_pos (by omega),rdLN_nat,toNode_f _ _ _ (by omega) k hk,Zi,if_pos (by simp;omega),Zal hi (by omega),Int.toNat_natCast,ZdP (l.map cvN) _ z116 i (by simpa using hi) _ (by rw[getD_map cvN l i z127 z116 zN];rfl)]
   exact ih) 0 k (Nat.zero_le _) (by omega)
 unfold Zau.f
 rw[if_pos (by omega),if_pos (by omega),Int.toNat_natCast]
 simpa using key
theorem toTieS_f (l:List LTie) (hl:l.length≤1048576) (k:Nat) (hk:2 ^ 64≤k):Zaz.f k l=some (l.map cvT):=by
 have key:=ZaK l.length (fun k i=>Zaz.l0 k l ((l.map cvT).take i ++ List.replicate ((l.map cvT).length - i) z90) (i:Int)=some (l.map cvT)) 0
  (fun k _=>by simp[Zaz.l0];rw[List.take_of_length_le (by simp)])
  (fun k i hk hi ih=>by
   simp only[Zaz.l0,Zck.f]
   rw[if_pos (by omega),if_pos (by omega),rdLT_nat,Zi,if_pos (by simp;omega),Zal hi (by omega),Int.toNat_natCast,ZdP (l.map cvT) _ z90 i (by simpa using hi) _ (by rw[getD_map cvT l i z130 z90 zT];rfl)]
   exact ih) 0 k (Nat.zero_le _) (by omega)
 unfold Zaz.f
 rw[if_pos (by omega),if_pos (by omega),Int.toNat_natCast]
 simpa using key
theorem toShow_f (ns:List LNode) (ts:List LTie) (z:Int) (h:ZcZ ns ts) (k:Nat) (hk:2 ^ 65≤k):Zbb.f k ns ts z=some (ns.map cvN,ts.map cvT,z):=by
 unfold Zbb.f
 rw[toNodeS_f ns h.1 h.2.2 k hk,Zi,toTieS_f ts h.2.1 k (by omega)];rfl
theorem szState_f (n:Int) (t v:List Int) (ht:t.length≤9223372036854775807) (hv:v.length≤9223372036854775807) (a:Int) (h0:0≤a) (h1:a≤1048576) :
  ∃r,Zby.f n t v a=some r∧(r<0∨(0≤r∧r≤a∧t.length≤1048576∧v.length≤1048576)):=by
 have sz:∀(l:List Int),l.length≤9223372036854775807→∀a:Int,0≤a→a≤1048576→ZaC.f l a=some (if a - l.length<0 then -1 else a - l.length):=by
  intro l hl a h0 h1
  unfold ZaC.f
  rw[Za5 (by omega) (by omega)]
  split <;> rfl
 unfold Zby.f
 rw[sz t ht a h0 h1,Zi]
 by_cases h:a - (t.length:Int)<0
 ·rw[if_pos h,if_pos (by omega)];exact⟨_,rfl,.inl (by omega)⟩
 ·rw[if_neg h,if_neg h,sz v hv _ (by omega) (by omega),Zi]
  by_cases h2:a - (t.length:Int) - v.length<0
  ·rw[if_pos h2,if_pos (by omega)];exact⟨_,rfl,.inl (by omega)⟩
  ·rw[if_neg h2,if_neg h2];exact⟨_,rfl,.inr ⟨by omega,by omega,by omega,by omega⟩⟩
theorem toState_f (n:Int) (t v:List Int) (ht:t.length≤35184372088832) (hv:v.length≤35184372088832) (k:Nat) (hk:2 ^ 64≤k):Za1.f k n t v=some (n,t,v):=by
 unfold Za1.f
 rw[ZdN t ht k hk,Zi,ZdN v hv k hk];rfl
theorem idx_at {α:Type} (p:α→Bool) (l:List α) (i:Nat) (x:α) (h:l[i]? = some x) (hx:p x=true):decide (Zbo p l=(i:Int))=(l.take i).all (fun y=>!p y):=by
 have hi:i<l.length:=by
  rcases Nat.lt_or_ge i l.length with h'|h'
  ·exact h'
  ·rw[List.getElem?_eq_none h'] at h;exact absurd h (by simp)
 by_cases ha:(l.take i).all (fun y=>!p y)=true
 ·rw[ha,decide_eq_true_eq]
  refine ZbN p l i x h hx fun j y hj hy=>?_
  have:=List.all_eq_true.1 ha y (List.mem_of_getElem? (i:=j) (by rw[List.getElem?_take_of_lt hj];exact hy))
  simpa using this
 ·rw[Bool.eq_false_iff.2 ha,decide_eq_false_iff_not]
  intro e
  apply ha
  rw[List.all_eq_true]
  intro y hy
  obtain⟨j,hj,rfl⟩:=List.mem_iff_getElem.1 hy
  have hj':j<i:=by rw[Zj] at hj;omega
  unfold Zbo at e
  cases hf:l.findIdx? p with
  | none=>rw[hf] at e;simp only at e;omega
  | some m=>
   rw[hf] at e
   have:m=i:=by simp only at e;omega
   subst this
   obtain⟨_,_,h3⟩:=List.findIdx?_eq_some_iff_getElem.1 hf
   have:=h3 j hj'
   rw[List.getElem_take]
   simpa using this
theorem all_pair {α:Type} (a b:α→Bool) (c:Bool) (l:List α):l.all (fun m=>a m && (c || b m))=(l.all a && (c || l.all b)):=by
 induction l with
 | nil=>simp
 | cons x l ih=>rw[List.all_cons,List.all_cons,List.all_cons,ih];cases a x <;> cases b x <;> cases c <;> simp
theorem ZdC (a b:Int):(!(a != b))=decide (a=b):=by rw[Bool.eq_iff_iff];simp
theorem snodeC_at {ns:List ZX} {i:Nat} (h:i<ns.length):ZbL ns (ZA ns (i:Int)) i=Zb3 ns i:=by
 rw[ZbB]
 unfold ZbL Zb3
 have hs:=getD_some h z116
 generalize ns.getD i z116=y at hs
 rw[ZdC,ZdC,ZdC,ZcO,Zbx,idx_at _ ns i y hs (Ze rfl),idx_at _ ns i y hs (Ze rfl),Bool.and_assoc,← all_pair]
 rfl
theorem ZdF {ns:List ZX}:∀(d i:Nat),i+d=ns.length→ZaW ns i d=Zbk ns i d
 | 0,_,_=>rfl
 | d+1,i,h=>by rw[ZaW,Zbk,snodeC_at (by omega),ZdF d (i+1) (by omega)]
theorem ZdT (ns:List ZX) {p:Int} (hp:0<p):Zbc ns p=Zbx ns p:=by
 unfold Zbc Zbx
 rw[Ze hp]
 simp only[Bool.true_and]
theorem Zdo (ns:List ZX) (lb:List Int) {x:Int} (hx:Za6 x=true):ZbG ns lb x=Zb4 ns lb x:=by
 unfold ZbG ZdL Zb4 ZcE hasB
 rw[ZdT ns (by have:=Zc6 hx;omega)]
 congr 3
 rw[Bool.eq_iff_iff];simp
theorem Zd2 {ns:List ZX} {n:ZX} (h:∀x∈n.f1,Za6 x=true):ZbY ns n=ZbE ns n:=by
 unfold ZbY ZbE
 rw[Bool.eq_iff_iff,Bool.not_eq_true',List.any_eq_false,List.all_eq_true]
 constructor
 ·intro hh x hx
  have:=hh x hx
  rw[← Zdo ns _ (h x hx)];simpa using this
 ·intro hh x hx
  have:=hh x hx
  rw[← Zdo ns _ (h x hx)] at this;simpa using this
theorem nodes_same (ns:List ZX):Zbf ns=(Zax ns && ns.all (ZbY ns)):=by
 have e:Zbf ns=(Zax ns && ns.all (ZbE ns)):=by
  unfold Zbf Zax inB
  rw[ZdF ns.length 0 (by omega),ZdC,show ZA ns 0=ns.getD 0 z116 from ZbB ns 0]
  rw[show(decide ((1:Int)≤(ns.length:Int)) && decide ((ns.length:Int)≤7))=(decide (1≤ns.length) && decide (ns.length≤7)) by rw[Bool.eq_iff_iff];simp only[Bool.and_eq_true,decide_eq_true_eq];omega]
  rw[show(!(decide (((ns.getD 0 z116).f1.length:Int) > 0)))=decide ((ns.getD 0 z116).f1.length=0) by rw[Bool.eq_iff_iff];simp only[Bool.not_eq_true',decide_eq_true_eq,decide_eq_false_iff_not];omega]
 rw[e]
 cases h:Zax ns with
 | false=>rfl
 | true=>
  rw[Bool.true_and,Bool.true_and,Bool.eq_iff_iff,List.all_eq_true,List.all_eq_true]
  constructor
  ·intro hh n hn;rw[Zd2 (ZcA h n hn)];exact hh n hn
  ·intro hh n hn;rw[← Zd2 (ZcA h n hn)];exact hh n hn
def Zcv (ns:List ZX) (ts:List PTie) (i:Nat):Nat→Bool
 | 0=>true
 | d+1=>tieB ns ts i && Zcv ns ts (i+1) d
theorem in_same (n:Nat) (x:Int):inB x 0 ((n:Int) - 1)=Zbl n x:=by
 unfold inB Zbl
 rw[Bool.eq_iff_iff];simp;omega
theorem tie_same {ns:List ZX} {ts:List PTie} {i:Nat} (h:i<ts.length):tieB ns ts i=ptieB ns ts i:=by
 unfold tieB ptieB
 have hs:=getD_some h z90
 rw[ZcF]
 generalize ts.getD i z90=t at hs
 obtain⟨tf,tt,tl,th,tb⟩:=t
 show tieC tf tt tl th tb ns ts i=Zbn tf tt tl th tb ns ts i
 unfold tieC Zbn spanB
 rw[in_same,in_same]
 cases tb with
 | false=>
  rw[Bool.eq_iff_iff]
  simp only[Bool.not_false,Bool.true_or,Bool.and_true,Bool.and_eq_true,Bool.not_eq_true',beq_eq_false_iff_ne,decide_eq_true_eq,decide_eq_false_iff_not]
  constructor
  ·rintro⟨⟨⟨⟨⟨a1,a2⟩,a3⟩,a4⟩,a5⟩,a6⟩
   exact⟨⟨⟨⟨⟨a1,a2⟩,a3⟩,by omega,by omega⟩,by omega,by omega⟩,a6⟩
  ·rintro⟨⟨⟨⟨⟨a1,a2⟩,a3⟩,a4,a5⟩,a6,a7⟩,a8⟩
   exact⟨⟨⟨⟨⟨a1,a2⟩,a3⟩,by omega⟩,by omega⟩,a8⟩
 | true=>
  have hf:(Zcd ts tt == (i:Int))=!((ts.take i).any fun u=>u.f4 && decide (u.f1=tt)):=by
   rw[show(Zcd ts tt == (i:Int))=decide (Zcd ts tt=(i:Int)) by rw[Bool.eq_iff_iff];simp,Zcd,idx_at _ ts i _ hs (by simp),Bool.eq_iff_iff]
   simp
   exact forall_congr' fun x=>forall_congr' fun _=>by cases x.f4 <;> simp
  rw[hf]
  rw[Bool.eq_iff_iff]
  simp only[Bool.not_true,Bool.false_or,Bool.and_eq_true,Bool.not_eq_true',beq_eq_false_iff_ne,decide_eq_true_eq,decide_eq_false_iff_not,beq_iff_eq,bne_eq_false_iff_eq]
  constructor
  ·rintro⟨⟨⟨⟨⟨⟨a1,a2⟩,a3⟩,a4⟩,a5⟩,a6⟩,⟨⟨⟨⟨b1,b2⟩,b3⟩,b4⟩,b5⟩⟩
   exact⟨⟨⟨⟨⟨⟨a1,a2⟩,a3⟩,by omega,by omega⟩,by omega,by omega⟩,a6⟩,⟨⟨⟨⟨by omega,b2⟩,b3⟩,b4.symm⟩,b5⟩⟩
  ·rintro⟨⟨⟨⟨⟨⟨a1,a2⟩,a3⟩,a4,a5⟩,a6,a7⟩,a8⟩,⟨⟨⟨⟨b1,b2⟩,b3⟩,b4⟩,b5⟩⟩
   exact⟨⟨⟨⟨⟨⟨a1,a2⟩,a3⟩,by omega⟩,by omega⟩,a8⟩,⟨⟨⟨⟨by omega,b2⟩,b3⟩,b4.symm⟩,b5⟩⟩
theorem ties_from {ns:List ZX} {ts:List PTie}:∀(d i:Nat),i+d=ts.length→Zcv ns ts i d=Zbp ns ts i d
 | 0,_,_=>rfl
 | d+1,i,h=>by rw[Zcv,Zbp,tie_same (by omega),ties_from d (i+1) (by omega)]
theorem Zev (ns:List ZX) (ts:List PTie) (z:Int) (ht:ts.length≤14):∀(d i k:Nat),i+d=ts.length→d<k→Z6.l0 k ts.length (i:Int) ns ts z=some (Zcv ns ts i d):=by
 intro d
 induction d with
 | zero=>
  intro i k hi hk
  obtain⟨m,rfl⟩:∃m,k=m+1:=⟨k - 1,by omega⟩
  simp only[Z6.l0]
  rw[if_neg (by omega)];rfl
 | succ d ih=>
  intro i k hi hk
  obtain⟨m,rfl⟩:∃m,k=m+1:=⟨k - 1,by omega⟩
  simp only[Z6.l0]
  rw[if_pos (by omega),ZbH.f,if_pos (by omega),Zi,Zcv,Zal (n:=ts.length) (by omega) (by omega),ih (i+1) m (by omega) (by omega)]
  cases tieB ns ts i <;> rfl
theorem Zew (ns:List ZX) (ts:List PTie) (z:Int) (hf:fitN ns=true) (k:Nat) (hk:2 ^ 64≤k):Z6.f k ns ts z=some (ZaU ns ts z):=by
 obtain⟨m,rfl⟩:∃m,k=m+1:=⟨k - 1,by omega⟩
 unfold Z6.f Za3.f ZaU Za9
 rw[if_pos hf,Zi,nodes_same]
 simp only[Z6.j0,ZcH,Zi,if_true]
 cases h1:Zax ns with
 | false=>rfl
 | true=>
  cases h2:ns.all (ZbY ns) with
  | false=>simp
  | true=>
   rw[Bool.and_true,if_pos rfl]
   by_cases h3:(ts.length:Int) > 14
   ·rw[if_pos h3,Zf (show ¬ts.length≤14 by omega)];simp
   ·rw[if_neg h3,Ze (show ts.length≤14 by omega)]
    have hl:=Zev ns ts z (by omega) ts.length 0 m (by omega) (by omega)
    rw[show((0:Nat):Int)=0 from rfl] at hl
    rw[hl,ties_from _ _ (by omega)]
    by_cases h4:z<1
    ·rw[show inB z 1 10=false by unfold inB;rw[Zf (show ¬(1:Int)≤z by omega)];rfl,Ze h4];simp
    ·by_cases h5:10<z
     ·rw[show inB z 1 10=false by unfold inB;rw[Zf (show ¬z≤(10:Int) by omega)];simp,Ze h5];simp
     ·rw[show inB z 1 10=true by unfold inB;rw[Ze (show(1:Int)≤z by omega),Ze (show z≤(10:Int) by omega)];rfl,Zf h4,Zf h5];simp
theorem fitN_of {ns:List ZX} {ts:List PTie} (h:Zbh ns ts):fitN ns=true:=by
 unfold fitN
 rw[List.all_eq_true]
 intro n hn
 have:=h.2.2 n hn
 simp;omega
theorem ZeA {ns:List ZX} {ts:List PTie} {z:Int} (hf:fitN ns=true):Zbe.f ns ts z=some (ZaU ns ts z):=by
 unfold Zbe.f
 rw[if_pos hf]
theorem Zb2 {ns:List ZX} {ts:List PTie} {z:Int} (h:ZaU ns ts z=true):Zax ns=true:=by
 unfold ZaU at h
 simp only[Bool.and_eq_true] at h
 exact h.1.1.1.1
theorem pshowB_ties {ns:List ZX} {ts:List PTie} {z:Int} (h:ZaU ns ts z=true):Za9 ns ts=true:=by
 unfold ZaU at h
 simp only[Bool.and_eq_true] at h
 exact h.1.1.1.2
theorem nodes_watch {ns:List ZX} (h:Zax ns=true):∀n∈ns,0≤n.f2∧n.f2≤3:=by
 intro n hn
 obtain⟨j,hj,rfl⟩:=List.mem_iff_getElem.1 hn
 have:=ZcS h j hj
 unfold Zb3 Zcc at this
 rw[show ns.getD j z116=ns[j] by rw[List.getD_eq_getElem?_getD,Zl hj];rfl] at this
 simp only[Bool.and_eq_true,decide_eq_true_eq] at this
 exact this.1.2
theorem pwatch_out {ns:List ZX} (h:Zax ns=true) {p:Int} (hp:¬(1≤p∧p≤3)):Zbc ns p=-1:=by
 unfold Zbc
 refine ZbF _ _ fun j y _ hy=>?_
 have:=nodes_watch h y (List.mem_of_getElem? hy)
 rw[Bool.eq_false_iff]
 intro hh
 simp only[Bool.and_eq_true,decide_eq_true_eq] at hh
 omega
theorem isNode_f (n x:Int):Za4.f n x=some (Zbl n x):=by
 unfold Za4.f Zbl
 by_cases h:x≥0
 ·rw[if_pos h,Ze (show(0:Int)≤x from h),Bool.true_and]
 ·rw[if_neg h,Zf (show ¬(0:Int)≤x from h),Bool.false_and]
theorem ZeE {ns:List ZX} (h:Zax ns=true):1≤ns.length:=by
 unfold Zax at h
 simp only[Bool.and_eq_true,decide_eq_true_eq] at h
 exact h.1.1.1.1
theorem ZdW (l:List Int) (hl:l.length≤9223372036854775807) (k:Nat) (hk:2 ^ 64≤k):Zap.f k l=some (ZaY l):=by
 have key:=ZaK l.length (fun k i=>Zap.l0 k l l l.length (i:Int)=some (decide (l.length=3) && (l.drop i).all (fun n=>decide (-1≤n) && decide (n≤1)))) 0
  (fun k _=>by
   simp only[Zap.l0]
   rw[if_neg (by omega),List.drop_of_length_le (Nat.le_refl _),List.all_nil,Bool.and_true]
   congr 1
   rw[Bool.eq_iff_iff,beq_iff_eq,decide_eq_true_eq];omega)
  (fun k i _ hi ih=>by
   simp only[Zap.l0]
   rw[if_pos (by omega),if_pos (by omega),if_pos (by omega),Za0,Zal hi (by omega),ZaI hi 0,List.all_cons]
   unfold ZT.f
   by_cases h1:l.getD i 0≥-1
   ·rw[if_pos h1,Zi]
    by_cases h2:l.getD i 0≤1
    ·rw[if_pos (by simpa using h2),ih,Ze (show(-1:Int)≤l.getD i 0 from h1),Ze h2,Bool.true_and,Bool.true_and]
    ·rw[if_neg (by simpa using h2),Zf h2,Bool.and_false,Bool.false_and,Bool.and_false]
   ·rw[if_neg h1,Zi,if_neg (by decide),Zf (show ¬(-1:Int)≤l.getD i 0 from h1),Bool.false_and,Bool.false_and,Bool.and_false]) 0 k (Nat.zero_le _) (by omega)
 unfold Zap.f ZaY
 simpa using key
def wOkB (ns:List ZX) (tm vs:List Int) (i:Nat):Bool:=!((vs.getD i 0 != 0) != (decide (0≤Zbc ns ((i+1:Nat):Int)) && (rd tm (Zbc ns ((i+1:Nat):Int)) != -1)))
def timeAt (now:Int) (i:Nat) (n:Int):Bool:=if i=0 then decide (n=0) else decide (-1≤n) && decide (n≤now - 1)
def Zbs (now:Int):Nat→List Int→Bool
 | _,[]=>true
 | i,n :: t=>timeAt now i n && Zbs now (i+1) t
def wsB (ns:List ZX) (tm vs:List Int):Bool:=wOkB ns tm vs 0 && (wOkB ns tm vs 1 && wOkB ns tm vs 2)
def Zce (ns:List ZX) (z now:Int) (tm vs:List Int):Bool:=decide (0≤now) && (decide (now≤z+1) && (decide (tm.length=ns.length) && (ZaY vs && (Zbs now 0 tm && wsB ns tm vs))))
def Zbi (ns:List ZX) (ts:List PTie) (z now:Int) (tm vs:List Int):Bool:=ZaU ns ts z && Zce ns z now tm vs
theorem pwatch_bd (ns:List ZX) (p:Int) : -1≤Zbc ns p∧Zbc ns p<ns.length:=ZdQ _ ns
theorem Zdv {ns:List ZX} {tm vs:List Int} (ts:List PTie) (z now:Int) (hv:vs.length=3) (ht:tm.length=ns.length) (i:Nat) (hi:i<3) (k:Nat) :
  ZN.l1 (k+1) vs (vs.length:Int) (i:Int) ns ts z now tm vs=if wOkB ns tm vs i=true then ZN.l1 k vs (vs.length:Int) ((i+1:Nat):Int) ns ts z now tm vs else some false:=by
 have hbd:=pwatch_bd ns ((i+1:Nat):Int)
 simp only[ZN.l1,ZaM.f,Zi]
 rw[if_pos (by omega),if_pos (by omega),if_pos (by omega),Zal (n:=3) hi (by omega),Za0]
 unfold wOkB
 by_cases h:Zbc ns ((i+1:Nat):Int)≥0
 ·rw[if_pos h,if_pos h,if_pos (by omega),Ze (show(0:Int)≤_ from h),Bool.true_and]
  cases (vs.getD i 0 != 0) != (rd tm (Zbc ns ((i+1:Nat):Int)) != -1) <;> rfl
 ·rw[if_neg h,Zf (show ¬(0:Int)≤_ from h),Bool.false_and]
  cases (vs.getD i 0 != 0) != false <;> rfl
theorem impl_st_l1 {ns:List ZX} {tm vs:List Int} (ts:List PTie) (z now:Int) (hv:vs.length=3) (ht:tm.length=ns.length) (k:Nat) (hk:4≤k):ZN.l1 k vs (vs.length:Int) 0 ns ts z now tm vs=some (wsB ns tm vs):=by
 obtain⟨m,rfl⟩:∃m,k=m+1+1+1+1:=⟨k - 4,by omega⟩
 have a0:=Zdv ts z now hv ht 0 (by omega) (m+1+1+1)
 have a1:=Zdv ts z now hv ht 1 (by omega) (m+1+1)
 have a2:=Zdv ts z now hv ht 2 (by omega) (m+1)
 have a3:ZN.l1 (m+1) vs (vs.length:Int) ((2+1:Nat):Int) ns ts z now tm vs=some true:=by
  simp only[ZN.l1]
  rw[if_neg (by omega)]
 rw[show((0:Nat):Int)=0 from rfl] at a0
 rw[a0,show((0+1:Nat):Int)=((1:Nat):Int) from rfl,a1,show((1+1:Nat):Int)=((2:Nat):Int) from rfl,a2,a3]
 unfold wsB
 cases wOkB ns tm vs 0 <;> cases wOkB ns tm vs 1 <;> cases wOkB ns tm vs 2 <;> rfl
theorem Zdp {ns:List ZX} {tm vs:List Int} (ts:List PTie) (z now:Int) (hl:ns.length≤9223372036854775807) (hv:vs.length=3) (ht:tm.length=ns.length) (i:Nat) (hi:i<3) (k:Nat) (hk:2 ^ 64≤k) :
  ZJ.l1 (k+1) ((i+1:Nat):Int) ns ts z now tm vs=if wOkB ns tm vs i=true then ZJ.l1 k ((i+1+1:Nat):Int) ns ts z now tm vs else some false:=by
 have hbd:=pwatch_bd ns ((i+1:Nat):Int)
 simp only[ZJ.l1]
 rw[if_pos (by omega),ZcP ns ts z _ hl k hk,Zi,← ZdT ns (by omega),Za5 (i:=((i+1:Nat):Int) - 1) (by omega) (by omega),if_pos (by omega),if_pos (by omega),Zal (i:=i+1) (n:=10) (by omega) (by omega),show((i+1:Nat):Int) - 1=(i:Int) by omega,Za0]
 unfold wOkB
 by_cases h:Zbc ns ((i+1:Nat):Int)≥0
 ·rw[if_pos h,if_pos h,if_pos (by omega),Ze (show(0:Int)≤_ from h),Bool.true_and]
  cases (vs.getD i 0 != 0) != (rd tm (Zbc ns ((i+1:Nat):Int)) != -1) <;> rfl
 ·rw[if_neg h,Zf (show ¬(0:Int)≤_ from h),Bool.false_and]
  cases (vs.getD i 0 != 0) != false <;> rfl
theorem spec_st_l1 {ns:List ZX} {tm vs:List Int} (ts:List PTie) (z now:Int) (hl:ns.length≤9223372036854775807) (hv:vs.length=3) (ht:tm.length=ns.length) (k:Nat) (hk:2 ^ 64+4≤k):ZJ.l1 k 1 ns ts z now tm vs=some (wsB ns tm vs):=by
 obtain⟨m,rfl⟩:∃m,k=m+1+1+1+1:=⟨k - 4,by omega⟩
 have a0:=Zdp ts z now hl hv ht 0 (by omega) (m+1+1+1) (by omega)
 have a1:=Zdp ts z now hl hv ht 1 (by omega) (m+1+1) (by omega)
 have a2:=Zdp ts z now hl hv ht 2 (by omega) (m+1) (by omega)
 have a3:ZJ.l1 (m+1) ((2+1+1:Nat):Int) ns ts z now tm vs=some true:=by
  simp only[ZJ.l1]
  rw[if_neg (by omega)]
 rw[show((0+1:Nat):Int)=1 from rfl] at a0
 rw[a0,show((0+1+1:Nat):Int)=((1+1:Nat):Int) from rfl,a1,show((1+1+1:Nat):Int)=((2+1:Nat):Int) from rfl,a2,a3]
 unfold wsB
 cases wOkB ns tm vs 0 <;> cases wOkB ns tm vs 1 <;> cases wOkB ns tm vs 2 <;> rfl
theorem impl_st_l0 {ns:List ZX} {tm vs:List Int} (ts:List PTie) (z now:Int) (hn:0≤now) (hn2:now≤9223372036854775807) (hl:ns.length≤1048576) (hv:vs.length=3) (ht:tm.length=ns.length) (k:Nat) (hk:2 ^ 64≤k) :
  ZN.l0 k tm (tm.length:Int) 0 ns ts z now tm vs=some (Zbs now 0 tm && wsB ns tm vs):=by
 have key:=ZaK tm.length (fun k i=>ZN.l0 k tm (tm.length:Int) (i:Int) ns ts z now tm vs=some (Zbs now i (tm.drop i) && wsB ns tm vs)) 4
  (fun k hk=>by
   simp only[ZN.l0]
   rw[if_neg (by omega),impl_st_l1 ts z now hv ht k hk,List.drop_length];rfl)
  (fun k i _ hi ih=>by
   simp only[ZN.l0]
   rw[if_pos (by omega),if_pos (by omega),if_pos (by omega),Za0,Zal hi (by omega),Za5 (i:=now - 1) (by omega) (by omega),ih,ZaI hi 0,Zbs]
   unfold timeAt
   generalize tm.getD i 0=n
   by_cases h0:i=0
   ·subst h0
    rw[if_pos (by omega),if_pos rfl]
    by_cases h1:n=0
    ·rw[if_pos h1,if_neg (by omega),Ze h1,Bool.true_and]
    ·rw[if_neg h1,Zf h1];rfl
   ·rw[if_neg (by omega),if_neg h0,if_pos (by omega)]
    by_cases h1:n < -1
    ·rw[if_pos h1,Zf (show ¬-1≤n by omega)];rfl
    ·rw[if_neg h1,Ze (show -1≤n by omega),Bool.true_and]
     by_cases h2:n > now - 1
     ·rw[if_pos h2,Zf (show ¬n≤now - 1 by omega)];rfl
     ·rw[if_neg h2,Ze (show n≤now - 1 by omega),Bool.true_and]) 0 k (Nat.zero_le _) (by omega)
 simpa using key
theorem spec_st_l0 {ns:List ZX} {tm vs:List Int} (ts:List PTie) (z now:Int) (hn:0≤now) (hn2:now≤9223372036854775807) (hl:ns.length≤1048576) (hv:vs.length=3) (ht:tm.length=ns.length) (h1:1≤ns.length) (k:Nat) (hk:2 ^ 65≤k) :
  ZJ.l0 k tm (tm.length:Int) 0 ns ts z now tm vs=some (Zbs now 1 (tm.drop 1) && wsB ns tm vs):=by
 obtain⟨k,rfl⟩:∃m,k=m+1:=⟨k - 1,by omega⟩
 have key:=ZaK tm.length (fun k i=>1≤i→ZJ.l0 k tm (tm.length:Int) (i:Int) ns ts z now tm vs=some (Zbs now i (tm.drop i) && wsB ns tm vs)) (2 ^ 64+4)
  (fun k hk _=>by
   simp only[ZJ.l0]
   rw[if_neg (by omega),spec_st_l1 ts z now (by omega) hv ht k hk,List.drop_length];rfl)
  (fun k i _ hi ih h1=>by
   simp only[ZJ.l0]
   rw[if_pos (by omega),if_pos (by omega),if_pos (by omega),if_pos (by omega),Za0,Zal hi (by omega),Za5 (i:=now - 1) (by omega) (by omega),ih (by omega),ZaI hi 0,Zbs,ZcH,Zi]
   unfold timeAt inB
   generalize tm.getD i 0=n
   rw[if_neg (show ¬i=0 by omega)]
   cases decide (-1≤n) && decide (n≤now - 1) <;> rfl) 1 k (by omega) (by omega) (Nat.le_refl _)
 simp only[ZJ.l0]
 rw[if_pos (by omega),if_pos (by omega),if_pos (by omega),if_neg (by omega),show wrap64 (0+1)=((1:Nat):Int) from Zal (i:=0) (n:=2) (by omega) (by omega),key]
theorem times_split (now:Int) {tm:List Int} (h:1≤tm.length):Zbs now 0 tm=(decide (tm.getD 0 0=0) && Zbs now 1 (tm.drop 1)):=by
 cases tm with
 | nil=>simp at h
 | cons a t=>rfl
theorem Zco {ns:List ZX} {ts:List PTie} {z:Int} (now:Int) (tm vs:List Int) (hc:Zbh ns ts) (hn2:now≤9223372036854775807) (k:Nat) (hk:2 ^ 65≤k):ZaG.f k ns ts z now tm vs=some (Zbi ns ts z now tm vs):=by
 obtain⟨k,rfl⟩:∃m,k=m+1:=⟨k - 1,by omega⟩
 unfold ZaG.f Zbi
 rw[ZeA (fitN_of hc),Zi]
 cases hs:ZaU ns ts z with
 | false=>rfl
 | true=>
  rw[if_pos rfl,Bool.true_and]
  have hz:1≤z∧z≤10:=by
   unfold ZaU at hs
   simp only[Bool.and_eq_true,Bool.not_eq_true',decide_eq_false_iff_not] at hs
   omega
  unfold ZN.f Zce ZaT.f
  rw[Za5 (i:=z+1) (by omega) (by omega)]
  by_cases h1:now<0
  ·rw[if_pos h1,Zf (show ¬0≤now by omega)];simp[ZN.j0]
  rw[if_neg h1,Ze (show 0≤now by omega),Bool.true_and]
  by_cases h2:now > z+1
  ·rw[if_pos h2,Zf (show ¬now≤z+1 by omega)];simp[ZN.j0]
  rw[if_neg h2,Ze (show now≤z+1 by omega),Bool.true_and]
  by_cases h3:tm.length=ns.length
  ·rw[if_pos (by omega),Ze h3,Bool.true_and,Zi]
   cases hv:ZaY vs with
   | false=>simp[ZN.j0]
   | true=>
    simp only[ZN.j0,Bool.not_true,Bool.false_eq_true,if_false,Bool.true_and]
    have hv3:vs.length=3:=by
     unfold ZaY at hv
     simp only[Bool.and_eq_true,decide_eq_true_eq] at hv
     exact hv.1
    rw[impl_st_l0 ts z now (by omega) hn2 hc.1 hv3 h3 k (by omega)];rfl
  ·rw[if_neg (by omega),Zf h3];simp[ZN.j0]
theorem Zcm {ns:List ZX} {ts:List PTie} {z:Int} (now:Int) (tm vs:List Int) (hc:Zbh ns ts) (hn2:now≤9223372036854775807) (hvl:vs.length≤9223372036854775807) (k:Nat) (hk:2 ^ 66≤k):ZJ.f k ns ts z now tm vs=some (Zbi ns ts z now tm vs):=by
 obtain⟨k,rfl⟩:∃m,k=m+1:=⟨k - 1,by omega⟩
 unfold ZJ.f Zbi
 rw[Zew ns ts z (fitN_of hc) _ (by omega),Zi]
 cases hs:ZaU ns ts z with
 | false=>simp[ZJ.j0]
 | true=>
  have h1:=ZeE (Zb2 hs)
  rw[if_pos rfl,Bool.true_and]
  have hz:1≤z∧z≤10:=by
   unfold ZaU at hs
   simp only[Bool.and_eq_true,Bool.not_eq_true',decide_eq_false_iff_not] at hs
   omega
  unfold Zce
  rw[Za5 (i:=z+1) (by omega) (by omega),ZcH,Zi]
  unfold inB
  by_cases h1:now<0
  ·rw[Zf (show ¬0≤now by omega)];simp[ZJ.j0]
  rw[Ze (show 0≤now by omega),Bool.true_and,Bool.true_and]
  by_cases h2:now > z+1
  ·rw[Zf (show ¬now≤z+1 by omega)];simp[ZJ.j0]
  rw[Ze (show now≤z+1 by omega),Bool.true_and,if_pos rfl]
  by_cases h3:tm.length=ns.length
  ·rw[if_pos (by omega),Ze h3,Bool.true_and,if_pos (by omega),times_split now (by omega)]
   rw[show rd tm 0=tm.getD 0 0 from rfl]
   by_cases h4:tm.getD 0 0=0
   ·rw[if_pos h4,Ze h4,Bool.true_and,ZdW vs hvl _ (by omega),Zi]
    cases hv:ZaY vs with
    | false=>simp[ZJ.j0]
    | true=>
     simp only[ZJ.j0,Bool.not_true,Bool.false_eq_true,if_false,Bool.true_and]
     have hv3:vs.length=3:=by
      unfold ZaY at hv
      simp only[Bool.and_eq_true,decide_eq_true_eq] at hv
      exact hv.1
     rw[spec_st_l0 ts z now (by omega) hn2 hc.1 hv3 h3 (by omega) k (by omega)]
   ·rw[if_neg h4,Zf h4];simp[ZJ.j0]
  ·rw[if_neg (by omega),Zf h3];simp[ZJ.j0]
end Go.Proofs.Ytodfnelilhjoeaa.Pr
namespace Go.Proofs.Ytodfnelilhjoeaa.Pr
open Go.RowKit Go.Proofs.YtodfnelilhjoeaaW.PrintWords Go.Proofs.YtodfnelilhjoeaaW.PrintMore Go.Proofs.Ytodfnelilhjoeaa.Ni
theorem labFrom_all:∀(l:List Int) (p:Int),ZbC p l=true→∀x∈l,Za6 x=true:=by
 intro l
 induction l with
 | nil=>intro p _ x hx;simp at hx
 | cons y t ih=>
  intro p h x hx
  simp only[ZbC,Bool.and_eq_true] at h
  rcases List.mem_cons.1 hx with rfl|hx
  ·exact h.1.1
  ·exact ih _ h.2 x hx
theorem labB_all {l:List Int} (h:labB l=true):∀x∈l,Za6 x=true:=labFrom_all l 0 h
theorem ZdM {v:List Int} (h:ZaY v=true):v.length=3∧∀i,-1≤v.getD i 0∧v.getD i 0≤1:=by
 simp only[ZaY,Bool.and_eq_true,decide_eq_true_eq,List.all_eq_true] at h
 refine⟨h.1,fun i=>?_⟩
 by_cases hi:i<v.length
 ·exact h.2 _ (Zbq hi 0)
 ·rw[List.getD_eq_getElem?_getD,List.getElem?_eq_none (by omega)];simp
theorem mn_min (a b:Int):mn a b=min a b:=by unfold mn;split <;> omega
theorem holds_f {x:Int} {v:List Int} (hx:Za6 x=true) (hv:ZaY v=true):impl_holds.f x v=some (if x<0 then -(v.getD (prp x - 1).toNat 0) else v.getD (prp x - 1).toNat 0):=by
 have hp:=Zc6 hx
 obtain⟨h3,hb⟩:=ZdM hv
 have hb':=hb (prp x - 1).toNat
 unfold impl_holds.f
 rw[Zdd hx,Zi,Za5 (i:=prp x - 1) (by omega) (by omega),if_pos (by omega),if_pos (by omega)]
 have e:rd v (prp x - 1)=v.getD (prp x - 1).toNat 0:=rfl
 rw[e,Za5 (by omega) (by omega)]
 split <;> rfl
theorem l07State_f (l v:List Int) (hl:l.length≤9223372036854775807) (h1:∀x∈l,Za6 x=true) (hv:ZaY v=true) (k:Nat) (hk:2 ^ 64≤k):ZQ.f k l v=some (stB l v):=by
 obtain⟨h3,hb⟩:=ZdM hv
 have key:=ZaK l.length (fun k i=>∀a:Int,ZQ.l0 k v a l l.length (i:Int)=some (Zcj v a (l.drop i))) 0
  (fun k _ a=>by simp[ZQ.l0,Zcj])
  (fun k i _ hi ih a=>by
   simp only[ZQ.l0]
   have hx:=h1 _ (Zbq hi 0)
   have hp:=Zc6 hx
   have hb':=hb (prp (l.getD i 0) - 1).toNat
   have e:rd v (prp (l.getD i 0) - 1)=v.getD (prp (l.getD i 0) - 1).toNat 0:=rfl
   rw[if_pos (by omega),if_pos (by omega),if_pos (by omega),Za0,Zal hi (by omega),ZaI hi 0,ZcW hx,Zi,Za5 (i:=prp (l.getD i 0) - 1) (by omega) (by omega),if_pos (by omega),if_pos (by omega),e,Za5 (by omega) (by omega),ih,ih,mn_min,mn_min]
   simp only[Zcj]
   split <;> rfl) 0 k (Nat.zero_le _) (by omega)
 unfold ZQ.f stB
 simpa using key 1
def labStB (l v:List Int):Int:=if labB l && ZaY v then stB l v else -1
theorem ZdE (l v:List Int) (hl:l.length≤9223372036854775807) (k:Nat) (hk:2 ^ 65≤k):ZR.f k l v=some (labStB l v):=by
 unfold ZR.f labStB
 obtain⟨m,rfl⟩:∃m,k=m+1:=⟨k - 1,by omega⟩
 rw[Zb6 l hl _ (by omega),Zi]
 cases h:labB l
 ·rfl
 ·rw[if_pos rfl]
  unfold ZaT.f
  rw[Zi]
  cases h2:ZaY v
  ·rfl
  ·simp only[ZR.j0,Bool.not_true,Bool.false_eq_true,if_false]
   have key:=ZaK l.length (fun k i=>∀a:Int,ZR.l0 k v a l l.length (i:Int)=some (Zcj v a (l.drop i))) 0
    (fun k _ a=>by simp[ZR.l0,Zcj])
    (fun k i _ hi ih a=>by
     simp only[ZR.l0]
     have hx:=labB_all h _ (Zbq hi 0)
     rw[if_pos (by omega),if_pos (by omega),if_pos (by omega),Za0,Zal hi (by omega),ZaI hi 0,holds_f hx h2,Zi,ih,mn_min]
     rfl) 0 m (Nat.zero_le _) (by omega)
   have:=key 1
   rw[List.drop_zero] at this
   rw[show((0:Nat):Int)=0 from rfl] at this
   rw[this];rfl
end Go.Proofs.Ytodfnelilhjoeaa.Pr
namespace Go.Proofs.Ytodfnelilhjoeaa.Pr
open Go.RowKit Go.Proofs.YtodfnelilhjoeaaW.PrintWords Go.Proofs.YtodfnelilhjoeaaW.PrintLast Go.Proofs.YtodfnelilhjoeaaW.PrintMore
attribute [local go_sem] Zaj Zah Zat Zas Zaa Z9 Zai Zag
set_option linter.unusedVariables false
set_option linter.unusedSimpArgs false
def Zb5.f (k:Nat) (l0_0:List (S116)) (l0_1:List (S90)) (a0_2:Int) (a1_0:Int) (l1_1:List Int) (l1_2:List Int) (a2:Int):Option (Int):=(ZaG.f k l0_0 l0_1 a0_2 a1_0 l1_1 l1_2).bind fun t41003=>(if t41003=true then((Za4.f (l0_0.length:Int) a2).bind fun t41004=>(if t41004=true then((ZV.f k l0_0 l0_1 a0_2 a1_0 l1_1 l1_2 a2).bind fun t41005=>(some t41005)) else(some (-1)))) else(some (-1)))
set_option maxHeartbeats 8000000 in
set_option maxRecDepth 100000 in
theorem Zb5.calls (k:Nat) (A0_0:Option Addr) (c0_0:Nat) (l0_0:List (S116)) (A0_1:Option Addr) (c0_1:Nat) (l0_1:List (S90)) (a0_2:Int) (a1_0:Int) (A1_1:Option Addr) (c1_1:Nat) (l1_1:List Int) (A1_2:Option Addr) (c1_2:Nat) (l1_2:List Int) (a2:Int) (r:Int) (w:World) (hr0_0:Kd.C k116 w A0_0 l0_0.length l0_0) (hc0_0:l0_0.length≤c0_0) (hr0_1:Kd.C k90 w A0_1 l0_1.length l0_1) (hc0_1:l0_1.length≤c0_1) (hr1_1:Kd.C (Kd.int .i64) w A1_1 l1_1.length l1_1) (hc1_1:l1_1.length≤c1_1) (hr1_2:Kd.C (Kd.int .i64) w A1_2 l1_2.length l1_2) (hc1_2:l1_2.length≤c1_2) (h:Zb5.f k l0_0 l0_1 a0_2 a1_0 l1_1 l1_2 a2=some r) :
  Calls Try.prog 41 #[.agg #[.slice A0_0 l0_0.length c0_0,.slice A0_1 l0_1.length c0_1,.int .i64 a0_2],.agg #[.int .i64 a1_0,.slice A1_1 l1_1.length c1_1,.slice A1_2 l1_2.length c1_2],.int .i64 a2] w fun e w'=>e=.returned (.int .i64 r)∧Below w.heap.size w w':=by
 have hu35:=Try.underlying35
 have hu66:=Try.underlying66
 have HR0_0:=Za hr0_0;have HC0_0:=Za hc0_0;clear hr0_0 hc0_0;have HR0_1:=Za hr0_1;have HC0_1:=Za hc0_1;clear hr0_1 hc0_1;have HR1_1:=Za hr1_1;have HC1_1:=Za hc1_1;clear hr1_1 hc1_1;have HR1_2:=Za hr1_2;have HC1_2:=Za hc1_2;clear hr1_2 hc1_2
 have HB:=Za (Below.refl w.heap.size w)
 have H:((ZaG.f k l0_0 l0_1 a0_2 a1_0 l1_1 l1_2).bind fun t41003=>(if t41003=true then((Za4.f (l0_0.length:Int) a2).bind fun t41004=>(if t41004=true then((ZV.f k l0_0 l0_1 a0_2 a1_0 l1_1 l1_2 a2).bind fun t41005=>(some t41005)) else(some (-1)))) else(some (-1))))=some r:=h
 clear h
 replace H:=Zh H
 obtain⟨t41003,A40,H⟩:=H
 replace H:(if t41003=true then((Za4.f (l0_0.length:Int) a2).bind fun t41004=>(if t41004=true then((ZV.f k l0_0 l0_1 a0_2 a1_0 l1_1 l1_2 a2).bind fun t41005=>(some t41005)) else(some (-1)))) else(some (-1)))=some r:=H
 have A4:=Za A40;clear A40
 by_cases c5:t41003=true
 ·subst c5
  have H1:((Za4.f (l0_0.length:Int) a2).bind fun t41004=>(if t41004=true then((ZV.f k l0_0 l0_1 a0_2 a1_0 l1_1 l1_2 a2).bind fun t41005=>(some t41005)) else(some (-1))))=some r:=by rw[if_pos rfl] at H;exact H
  clear H
  have H:=H1
  clear H1
  replace H:=Zh H
  obtain⟨t41004,A60,H⟩:=H
  replace H:(if t41004=true then((ZV.f k l0_0 l0_1 a0_2 a1_0 l1_1 l1_2 a2).bind fun t41005=>(some t41005)) else(some (-1)))=some r:=H
  have A6:=Za A60;clear A60
  by_cases c7:t41004=true
  ·subst c7
   have H1:((ZV.f k l0_0 l0_1 a0_2 a1_0 l1_1 l1_2 a2).bind fun t41005=>(some t41005))=some r:=by rw[if_pos rfl] at H;exact H
   clear H
   have H:=H1
   clear H1
   replace H:=Zh H
   obtain⟨t41005,A80,H⟩:=H
   replace H:(some t41005)=some r:=H
   have A8:=Za A80;clear A80
   obtain rfl:=Zg H
   go_enter Try.func41,Try.ntmps41
   go_wp2_with (first|((with_reducible refine ZG (N:=3) rfl ?_);(try(refine ZaX (by rfl) ?_;dsimp only));refine ZE ?hg (N:=3) ?hd (cs:=#[.slice A0_0 l0_0.length c0_0,.slice A0_1 l0_1.length c0_1,.int .i64 a0_2]) (t:=35) ?hr ?_;(case hd=>rfl);(case hg=>rfl);(case hr=>first|(go_simp;done)|(go_simp;rfl));intro gb41001 hg w9 hbox hb;have n0_:=Za (Zv (by repeat(first|(with_reducible first|exact HB.out|apply Zp|apply Zn|apply Zr)|exact HB.out)) hb);have n1_:=Za (hbox);have n2_:=Za ((by rw[hg];exact(Zz (by repeat(first|(with_reducible first|exact HB.out|apply Zp|apply Zn|apply Zr)|exact HB.out))):w.heap.size≤gb41001));have n3_:=Za ((by rw[hg];exact(Zz (by repeat(first|(with_reducible first|exact HB.out|apply Zp|apply Zn|apply Zr)|exact HB.out))):w.heap.size≤gb41001));clear HB;have HB:=n0_;have BK41001:=n1_;have GW41001:=n2_;have GE41001:=n3_;clear n0_ n1_ n2_ n3_;clear hb hbox hg)|((with_reducible refine ZG (N:=4) rfl ?_);(try(refine ZaX (by rfl) ?_;dsimp only));refine ZE ?hg (N:=4) ?hd (cs:=#[.int .i64 a1_0,.slice A1_1 l1_1.length c1_1,.slice A1_2 l1_2.length c1_2]) (t:=66) ?hr ?_;(case hd=>rfl);(case hg=>rfl);(case hr=>first|(go_simp;done)|(go_simp;rfl));intro gb41002 hg w10 hbox hb;have n0_:=Za (Zw (g:=gb41001) (o:=.cells #[.slice A0_0 l0_0.length c0_0,.slice A0_1 l0_1.length c0_1,.int .i64 a0_2] 35 (0,0)) (by(with_reducible repeat(first|refine Zs ?_ _|refine Zu ?_|refine Zt ?_ _));exact BK41001.out) hb);have n1_:=Za (Zv (by repeat(first|(with_reducible first|exact HB.out|apply Zp|apply Zn|apply Zr|refine Zq ?_ GE41001.out)|exact HB.out)) hb);have n2_:=Za (hbox);have n3_:=Za ((by rw[hg];exact(Zz (by repeat(first|(with_reducible first|exact HB.out|apply Zp|apply Zn|apply Zr|refine Zq ?_ GE41001.out)|exact HB.out))):w.heap.size≤gb41002));have n4_:=Za ((by rw[hg];exact(Zz (by repeat(first|(with_reducible first|exact HB.out|apply Zp|apply Zn|apply Zr|refine Zq ?_ GE41001.out)|exact HB.out))):w.heap.size≤gb41002));have n5_:=Za ((by rw[hg];exact Nat.ne_of_lt (ZK (g:=gb41001) (o:=.cells #[.slice A0_0 l0_0.length c0_0,.slice A0_1 l0_1.length c0_1,.int .i64 a0_2] 35 (0,0)) (by(with_reducible repeat(first|refine Zs ?_ _|refine Zu ?_|refine Zt ?_ _));exact BK41001.out)):gb41001≠gb41002));have n6_:=Za ((by rw[hg];exact Nat.ne_of_gt (ZK (g:=gb41001) (o:=.cells #[.slice A0_0 l0_0.length c0_0,.slice A0_1 l0_1.length c0_1,.int .i64 a0_2] 35 (0,0)) (by(with_reducible repeat(first|refine Zs ?_ _|refine Zu ?_|refine Zt ?_ _));exact BK41001.out)):gb41002≠gb41001));clear BK41001;clear HB;have BK41001:=n0_;have HB:=n1_;have BK41002:=n2_;have GW41002:=n3_;have GE41002:=n4_;have NB41001_41002:=n5_;have NB41002_41001:=n6_;clear n0_ n1_ n2_ n3_ n4_ n5_ n6_;clear hb hbox hg;have hnb11:=NB41001_41002.out;have hnc11:=NB41002_41001.out;have hcz12_0:w10.cell? ⟨gb41001,0,none⟩=some (.slice A0_0 l0_0.length c0_0):=(Zm BK41001.out 0).trans rfl;have hcz12_1:w10.cell? ⟨gb41001,1,none⟩=some (.slice A0_1 l0_1.length c0_1):=(Zm BK41001.out 1).trans rfl;have hcz12_2:w10.cell? ⟨gb41001,2,none⟩=some (.int .i64 a0_2):=(Zm BK41001.out 2).trans rfl;have hfz12_0:=Zo BK41001.out 0;have hfz12_1:=Zo BK41001.out 1;have hfz12_2:=Zo BK41001.out 2;have hcz13_0:w10.cell? ⟨gb41002,0,none⟩=some (.int .i64 a1_0):=(Zm BK41002.out 0).trans rfl;have hcz13_1:w10.cell? ⟨gb41002,1,none⟩=some (.slice A1_1 l1_1.length c1_1):=(Zm BK41002.out 1).trans rfl;have hcz13_2:w10.cell? ⟨gb41002,2,none⟩=some (.slice A1_2 l1_2.length c1_2):=(Zm BK41002.out 2).trans rfl;have hfz13_0:=Zo BK41002.out 0;have hfz13_1:=Zo BK41002.out 1;have hfz13_2:=Zo BK41002.out 2)|((with_reducible refine ZH (f:=97) rfl ?_);refine ZW (some 9) rfl rfl Try.func97 (by kernel_rfl) rfl #[.agg #[.slice A0_0 l0_0.length c0_0,.slice A0_1 l0_1.length c0_1,.int .i64 a0_2],.agg #[.int .i64 a1_0,.slice A1_1 l1_1.length c1_1,.slice A1_2 l1_2.length c1_2]] rfl (by(try simp only[List.map_toArray,List.map_cons,List.map_nil]);first|done|rfl|(simp only[Zk,Zj];rfl)) ?_;(with_reducible refine(ZaG.calls k _ _ l0_0 _ _ l0_1 a0_2 a1_0 _ _ l1_1 _ _ l1_2 true _ ?side1 ?side2 ?side3 ?side4 ?side5 ?side6 ?side7 ?side8 A4.out).mono ?_);(case side1=>repeat(first|exact(Zb HR0_0.out HB.out)|(with_reducible refine Kd.C_alloc ?_ _)|(with_reducible refine Kd.C_drewN ?_ _)|(with_reducible refine Kd.C_drew ?_)));(case side2=>exact HC0_0.out);(case side3=>repeat(first|exact(Zb HR0_1.out HB.out)|(with_reducible refine Kd.C_alloc ?_ _)|(with_reducible refine Kd.C_drewN ?_ _)|(with_reducible refine Kd.C_drew ?_)));(case side4=>exact HC0_1.out);(case side5=>repeat(first|exact(Zb HR1_1.out HB.out)|(with_reducible refine Kd.C_alloc ?_ _)|(with_reducible refine Kd.C_drewN ?_ _)|(with_reducible refine Kd.C_drew ?_)));(case side6=>exact HC1_1.out);(case side7=>repeat(first|exact(Zb HR1_2.out HB.out)|(with_reducible refine Kd.C_alloc ?_ _)|(with_reducible refine Kd.C_drewN ?_ _)|(with_reducible refine Kd.C_drew ?_)));(case side8=>exact HC1_2.out);rintro e w14 ⟨rfl,hb⟩;refine⟨_,rfl,?_⟩;have n0_:=Za (Zw (g:=gb41001) (o:=.cells #[.slice A0_0 l0_0.length c0_0,.slice A0_1 l0_1.length c0_1,.int .i64 a0_2] 35 (0,0)) (by(with_reducible repeat(first|refine Zs ?_ _|refine Zu ?_|refine Zt ?_ _));exact BK41001.out) hb);have n1_:=Za (Zw (g:=gb41002) (o:=.cells #[.int .i64 a1_0,.slice A1_1 l1_1.length c1_1,.slice A1_2 l1_2.length c1_2] 66 (0,0)) (by(with_reducible repeat(first|refine Zs ?_ _|refine Zu ?_|refine Zt ?_ _));exact BK41002.out) hb);have n2_:=Za (Zv (by repeat(first|(with_reducible first|exact HB.out|apply Zp|apply Zn|apply Zr|refine Zq ?_ GE41001.out|refine Zq ?_ GE41002.out)|exact HB.out)) hb);clear BK41001;clear BK41002;clear HB;have BK41001:=n0_;have BK41002:=n1_;have HB:=n2_;clear n0_ n1_ n2_;(try clear hb);(try clear hb2);(try clear hk);(try clear hi);have hcz15_0:w14.cell? ⟨gb41001,0,none⟩=some (.slice A0_0 l0_0.length c0_0):=(Zm BK41001.out 0).trans rfl;have hcz15_1:w14.cell? ⟨gb41001,1,none⟩=some (.slice A0_1 l0_1.length c0_1):=(Zm BK41001.out 1).trans rfl;have hcz15_2:w14.cell? ⟨gb41001,2,none⟩=some (.int .i64 a0_2):=(Zm BK41001.out 2).trans rfl;have hfz15_0:=Zo BK41001.out 0;have hfz15_1:=Zo BK41001.out 1;have hfz15_2:=Zo BK41001.out 2)|(go_at_call 90;(with_reducible refine(Za4.calls (l0_0.length:Int) a2 true _ A6.out).mono ?_);rintro e w' ⟨rfl,⟨nd,rfl⟩⟩;have hcz16_0:w14.cell? ⟨gb41002,0,none⟩=some (.int .i64 a1_0):=(Zm BK41002.out 0).trans rfl;have hcz16_1:w14.cell? ⟨gb41002,1,none⟩=some (.slice A1_1 l1_1.length c1_1):=(Zm BK41002.out 1).trans rfl;have hcz16_2:w14.cell? ⟨gb41002,2,none⟩=some (.slice A1_2 l1_2.length c1_2):=(Zm BK41002.out 2).trans rfl;have hfz16_0:=Zo BK41002.out 0;have hfz16_1:=Zo BK41002.out 1;have hfz16_2:=Zo BK41002.out 2)|((with_reducible refine ZH (f:=98) rfl ?_);refine ZW (some 22) rfl rfl Try.func98 (by kernel_rfl) rfl #[.agg #[.slice A0_0 l0_0.length c0_0,.slice A0_1 l0_1.length c0_1,.int .i64 a0_2],.agg #[.int .i64 a1_0,.slice A1_1 l1_1.length c1_1,.slice A1_2 l1_2.length c1_2],.int .i64 a2] rfl (by(try simp only[List.map_toArray,List.map_cons,List.map_nil]);first|done|rfl|(simp only[Zk,Zj];rfl)) ?_;(with_reducible refine(ZV.calls k _ _ l0_0 _ _ l0_1 a0_2 a1_0 _ _ l1_1 _ _ l1_2 a2 t41005 _ ?side1 ?side2 ?side3 ?side4 ?side5 ?side6 ?side7 ?side8 A8.out).mono ?_);(case side1=>repeat(first|exact(Zb HR0_0.out (by repeat(first|(with_reducible first|exact HB.out|apply Zp|apply Zn|apply Zr|refine Zq ?_ GE41001.out|refine Zq ?_ GE41002.out)|exact HB.out)))|(with_reducible refine Kd.C_alloc ?_ _)|(with_reducible refine Kd.C_drewN ?_ _)|(with_reducible refine Kd.C_drew ?_)));(case side2=>exact HC0_0.out);(case side3=>repeat(first|exact(Zb HR0_1.out (by repeat(first|(with_reducible first|exact HB.out|apply Zp|apply Zn|apply Zr|refine Zq ?_ GE41001.out|refine Zq ?_ GE41002.out)|exact HB.out)))|(with_reducible refine Kd.C_alloc ?_ _)|(with_reducible refine Kd.C_drewN ?_ _)|(with_reducible refine Kd.C_drew ?_)));(case side4=>exact HC0_1.out);(case side5=>repeat(first|exact(Zb HR1_1.out (by repeat(first|(with_reducible first|exact HB.out|apply Zp|apply Zn|apply Zr|refine Zq ?_ GE41001.out|refine Zq ?_ GE41002.out)|exact HB.out)))|(with_reducible refine Kd.C_alloc ?_ _)|(with_reducible refine Kd.C_drewN ?_ _)|(with_reducible refine Kd.C_drew ?_)));(case side6=>exact HC1_1.out);(case side7=>repeat(first|exact(Zb HR1_2.out (by repeat(first|(with_reducible first|exact HB.out|apply Zp|apply Zn|apply Zr|refine Zq ?_ GE41001.out|refine Zq ?_ GE41002.out)|exact HB.out)))|(with_reducible refine Kd.C_alloc ?_ _)|(with_reducible refine Kd.C_drewN ?_ _)|(with_reducible refine Kd.C_drew ?_)));(case side8=>exact HC1_2.out);rintro e w17 ⟨rfl,hb⟩;refine⟨_,rfl,?_⟩;have n0_:=Za (Zw (g:=gb41001) (o:=.cells #[.slice A0_0 l0_0.length c0_0,.slice A0_1 l0_1.length c0_1,.int .i64 a0_2] 35 (0,0)) (by(with_reducible repeat(first|refine Zs ?_ _|refine Zu ?_|refine Zt ?_ _));exact BK41001.out) hb);have n1_:=Za (Zw (g:=gb41002) (o:=.cells #[.int .i64 a1_0,.slice A1_1 l1_1.length c1_1,.slice A1_2 l1_2.length c1_2] 66 (0,0)) (by(with_reducible repeat(first|refine Zs ?_ _|refine Zu ?_|refine Zt ?_ _));exact BK41002.out) hb);have n2_:=Za (Zv (by repeat(first|(with_reducible first|exact HB.out|apply Zp|apply Zn|apply Zr|refine Zq ?_ GE41001.out|refine Zq ?_ GE41002.out)|exact HB.out)) hb);clear BK41001;clear BK41002;clear HB;have BK41001:=n0_;have BK41002:=n1_;have HB:=n2_;clear n0_ n1_ n2_;(try clear hb);(try clear hb2);(try clear hk);(try clear hi)))
   go_ret
   exact⟨by first|rfl|(simp[Zy,Zx] <;> rfl)|(simp[*,Zy,Zx] <;> rfl),by repeat(first|(with_reducible first|exact HB.out|apply Zp|apply Zn|apply Zr|refine Zq ?_ GE41001.out|refine Zq ?_ GE41002.out)|exact HB.out)⟩
  ·replace c7:=Bool.eq_false_iff.mpr c7
   subst c7
   have H1:(some (-1))=some r:=by rw[if_neg (show ¬(false=true) by decide)] at H;exact H
   clear H
   have H:=H1
   clear H1
   obtain rfl:=Zg H
   go_enter Try.func41,Try.ntmps41
   go_wp2_with (first|((with_reducible refine ZG (N:=3) rfl ?_);(try(refine ZaX (by rfl) ?_;dsimp only));refine ZE ?hg (N:=3) ?hd (cs:=#[.slice A0_0 l0_0.length c0_0,.slice A0_1 l0_1.length c0_1,.int .i64 a0_2]) (t:=35) ?hr ?_;(case hd=>rfl);(case hg=>rfl);(case hr=>first|(go_simp;done)|(go_simp;rfl));intro gb41001 hg w18 hbox hb;have n0_:=Za (Zv (by repeat(first|(with_reducible first|exact HB.out|apply Zp|apply Zn|apply Zr)|exact HB.out)) hb);have n1_:=Za (hbox);have n2_:=Za ((by rw[hg];exact(Zz (by repeat(first|(with_reducible first|exact HB.out|apply Zp|apply Zn|apply Zr)|exact HB.out))):w.heap.size≤gb41001));have n3_:=Za ((by rw[hg];exact(Zz (by repeat(first|(with_reducible first|exact HB.out|apply Zp|apply Zn|apply Zr)|exact HB.out))):w.heap.size≤gb41001));clear HB;have HB:=n0_;have BK41001:=n1_;have GW41001:=n2_;have GE41001:=n3_;clear n0_ n1_ n2_ n3_;clear hb hbox hg)|((with_reducible refine ZG (N:=4) rfl ?_);(try(refine ZaX (by rfl) ?_;dsimp only));refine ZE ?hg (N:=4) ?hd (cs:=#[.int .i64 a1_0,.slice A1_1 l1_1.length c1_1,.slice A1_2 l1_2.length c1_2]) (t:=66) ?hr ?_;(case hd=>rfl);(case hg=>rfl);(case hr=>first|(go_simp;done)|(go_simp;rfl));intro gb41002 hg w19 hbox hb;have n0_:=Za (Zw (g:=gb41001) (o:=.cells #[.slice A0_0 l0_0.length c0_0,.slice A0_1 l0_1.length c0_1,.int .i64 a0_2] 35 (0,0)) (by(with_reducible repeat(first|refine Zs ?_ _|refine Zu ?_|refine Zt ?_ _));exact BK41001.out) hb);have n1_:=Za (Zv (by repeat(first|(with_reducible first|exact HB.out|apply Zp|apply Zn|apply Zr|refine Zq ?_ GE41001.out)|exact HB.out)) hb);have n2_:=Za (hbox);have n3_:=Za ((by rw[hg];exact(Zz (by repeat(first|(with_reducible first|exact HB.out|apply Zp|apply Zn|apply Zr|refine Zq ?_ GE41001.out)|exact HB.out))):w.heap.size≤gb41002));have n4_:=Za ((by rw[hg];exact(Zz (by repeat(first|(with_reducible first|exact HB.out|apply Zp|apply Zn|apply Zr|refine Zq ?_ GE41001.out)|exact HB.out))):w.heap.size≤gb41002));have n5_:=Za ((by rw[hg];exact Nat.ne_of_lt (ZK (g:=gb41001) (o:=.cells #[.slice A0_0 l0_0.length c0_0,.slice A0_1 l0_1.length c0_1,.int .i64 a0_2] 35 (0,0)) (by(with_reducible repeat(first|refine Zs ?_ _|refine Zu ?_|refine Zt ?_ _));exact BK41001.out)):gb41001≠gb41002));have n6_:=Za ((by rw[hg];exact Nat.ne_of_gt (ZK (g:=gb41001) (o:=.cells #[.slice A0_0 l0_0.length c0_0,.slice A0_1 l0_1.length c0_1,.int .i64 a0_2] 35 (0,0)) (by(with_reducible repeat(first|refine Zs ?_ _|refine Zu ?_|refine Zt ?_ _));exact BK41001.out)):gb41002≠gb41001));clear BK41001;clear HB;have BK41001:=n0_;have HB:=n1_;have BK41002:=n2_;have GW41002:=n3_;have GE41002:=n4_;have NB41001_41002:=n5_;have NB41002_41001:=n6_;clear n0_ n1_ n2_ n3_ n4_ n5_ n6_;clear hb hbox hg;have hnb20:=NB41001_41002.out;have hnc20:=NB41002_41001.out;have hcz21_0:w19.cell? ⟨gb41001,0,none⟩=some (.slice A0_0 l0_0.length c0_0):=(Zm BK41001.out 0).trans rfl;have hcz21_1:w19.cell? ⟨gb41001,1,none⟩=some (.slice A0_1 l0_1.length c0_1):=(Zm BK41001.out 1).trans rfl;have hcz21_2:w19.cell? ⟨gb41001,2,none⟩=some (.int .i64 a0_2):=(Zm BK41001.out 2).trans rfl;have hfz21_0:=Zo BK41001.out 0;have hfz21_1:=Zo BK41001.out 1;have hfz21_2:=Zo BK41001.out 2;have hcz22_0:w19.cell? ⟨gb41002,0,none⟩=some (.int .i64 a1_0):=(Zm BK41002.out 0).trans rfl;have hcz22_1:w19.cell? ⟨gb41002,1,none⟩=some (.slice A1_1 l1_1.length c1_1):=(Zm BK41002.out 1).trans rfl;have hcz22_2:w19.cell? ⟨gb41002,2,none⟩=some (.slice A1_2 l1_2.length c1_2):=(Zm BK41002.out 2).trans rfl;have hfz22_0:=Zo BK41002.out 0;have hfz22_1:=Zo BK41002.out 1;have hfz22_2:=Zo BK41002.out 2)|((with_reducible refine ZH (f:=97) rfl ?_);refine ZW (some 9) rfl rfl Try.func97 (by kernel_rfl) rfl #[.agg #[.slice A0_0 l0_0.length c0_0,.slice A0_1 l0_1.length c0_1,.int .i64 a0_2],.agg #[.int .i64 a1_0,.slice A1_1 l1_1.length c1_1,.slice A1_2 l1_2.length c1_2]] rfl (by(try simp only[List.map_toArray,List.map_cons,List.map_nil]);first|done|rfl|(simp only[Zk,Zj];rfl)) ?_;(with_reducible refine(ZaG.calls k _ _ l0_0 _ _ l0_1 a0_2 a1_0 _ _ l1_1 _ _ l1_2 true _ ?side1 ?side2 ?side3 ?side4 ?side5 ?side6 ?side7 ?side8 A4.out).mono ?_);(case side1=>repeat(first|exact(Zb HR0_0.out HB.out)|(with_reducible refine Kd.C_alloc ?_ _)|(with_reducible refine Kd.C_drewN ?_ _)|(with_reducible refine Kd.C_drew ?_)));(case side2=>exact HC0_0.out);(case side3=>repeat(first|exact(Zb HR0_1.out HB.out)|(with_reducible refine Kd.C_alloc ?_ _)|(with_reducible refine Kd.C_drewN ?_ _)|(with_reducible refine Kd.C_drew ?_)));(case side4=>exact HC0_1.out);(case side5=>repeat(first|exact(Zb HR1_1.out HB.out)|(with_reducible refine Kd.C_alloc ?_ _)|(with_reducible refine Kd.C_drewN ?_ _)|(with_reducible refine Kd.C_drew ?_)));(case side6=>exact HC1_1.out);(case side7=>repeat(first|exact(Zb HR1_2.out HB.out)|(with_reducible refine Kd.C_alloc ?_ _)|(with_reducible refine Kd.C_drewN ?_ _)|(with_reducible refine Kd.C_drew ?_)));(case side8=>exact HC1_2.out);rintro e w23 ⟨rfl,hb⟩;refine⟨_,rfl,?_⟩;have n0_:=Za (Zw (g:=gb41001) (o:=.cells #[.slice A0_0 l0_0.length c0_0,.slice A0_1 l0_1.length c0_1,.int .i64 a0_2] 35 (0,0)) (by(with_reducible repeat(first|refine Zs ?_ _|refine Zu ?_|refine Zt ?_ _));exact BK41001.out) hb);have n1_:=Za (Zw (g:=gb41002) (o:=.cells #[.int .i64 a1_0,.slice A1_1 l1_1.length c1_1,.slice A1_2 l1_2.length c1_2] 66 (0,0)) (by(with_reducible repeat(first|refine Zs ?_ _|refine Zu ?_|refine Zt ?_ _));exact BK41002.out) hb);have n2_:=Za (Zv (by repeat(first|(with_reducible first|exact HB.out|apply Zp|apply Zn|apply Zr|refine Zq ?_ GE41001.out|refine Zq ?_ GE41002.out)|exact HB.out)) hb);clear BK41001;clear BK41002;clear HB;have BK41001:=n0_;have BK41002:=n1_;have HB:=n2_;clear n0_ n1_ n2_;(try clear hb);(try clear hb2);(try clear hk);(try clear hi);have hcz24_0:w23.cell? ⟨gb41001,0,none⟩=some (.slice A0_0 l0_0.length c0_0):=(Zm BK41001.out 0).trans rfl;have hcz24_1:w23.cell? ⟨gb41001,1,none⟩=some (.slice A0_1 l0_1.length c0_1):=(Zm BK41001.out 1).trans rfl;have hcz24_2:w23.cell? ⟨gb41001,2,none⟩=some (.int .i64 a0_2):=(Zm BK41001.out 2).trans rfl;have hfz24_0:=Zo BK41001.out 0;have hfz24_1:=Zo BK41001.out 1;have hfz24_2:=Zo BK41001.out 2)|(go_at_call 90;(with_reducible refine(Za4.calls (l0_0.length:Int) a2 false _ A6.out).mono ?_);rintro e w' ⟨rfl,⟨nd,rfl⟩⟩))
   go_ret
   exact⟨by first|rfl|(simp[Zy,Zx] <;> rfl)|(simp[*,Zy,Zx] <;> rfl),by repeat(first|(with_reducible first|exact HB.out|apply Zp|apply Zn|apply Zr|refine Zq ?_ GE41001.out|refine Zq ?_ GE41002.out)|exact HB.out)⟩
 ·replace c5:=Bool.eq_false_iff.mpr c5
  subst c5
  have H1:(some (-1))=some r:=by rw[if_neg (show ¬(false=true) by decide)] at H;exact H
  clear H
  have H:=H1
  clear H1
  obtain rfl:=Zg H
  go_enter Try.func41,Try.ntmps41
  go_wp2_with (first|((with_reducible refine ZG (N:=3) rfl ?_);(try(refine ZaX (by rfl) ?_;dsimp only));refine ZE ?hg (N:=3) ?hd (cs:=#[.slice A0_0 l0_0.length c0_0,.slice A0_1 l0_1.length c0_1,.int .i64 a0_2]) (t:=35) ?hr ?_;(case hd=>rfl);(case hg=>rfl);(case hr=>first|(go_simp;done)|(go_simp;rfl));intro gb41001 hg w25 hbox hb;have n0_:=Za (Zv (by repeat(first|(with_reducible first|exact HB.out|apply Zp|apply Zn|apply Zr)|exact HB.out)) hb);have n1_:=Za (hbox);have n2_:=Za ((by rw[hg];exact(Zz (by repeat(first|(with_reducible first|exact HB.out|apply Zp|apply Zn|apply Zr)|exact HB.out))):w.heap.size≤gb41001));have n3_:=Za ((by rw[hg];exact(Zz (by repeat(first|(with_reducible first|exact HB.out|apply Zp|apply Zn|apply Zr)|exact HB.out))):w.heap.size≤gb41001));clear HB;have HB:=n0_;have BK41001:=n1_;have GW41001:=n2_;have GE41001:=n3_;clear n0_ n1_ n2_ n3_;clear hb hbox hg)|((with_reducible refine ZG (N:=4) rfl ?_);(try(refine ZaX (by rfl) ?_;dsimp only));refine ZE ?hg (N:=4) ?hd (cs:=#[.int .i64 a1_0,.slice A1_1 l1_1.length c1_1,.slice A1_2 l1_2.length c1_2]) (t:=66) ?hr ?_;(case hd=>rfl);(case hg=>rfl);(case hr=>first|(go_simp;done)|(go_simp;rfl));intro gb41002 hg w26 hbox hb;have n0_:=Za (Zw (g:=gb41001) (o:=.cells #[.slice A0_0 l0_0.length c0_0,.slice A0_1 l0_1.length c0_1,.int .i64 a0_2] 35 (0,0)) (by(with_reducible repeat(first|refine Zs ?_ _|refine Zu ?_|refine Zt ?_ _));exact BK41001.out) hb);have n1_:=Za (Zv (by repeat(first|(with_reducible first|exact HB.out|apply Zp|apply Zn|apply Zr|refine Zq ?_ GE41001.out)|exact HB.out)) hb);have n2_:=Za (hbox);have n3_:=Za ((by rw[hg];exact(Zz (by repeat(first|(with_reducible first|exact HB.out|apply Zp|apply Zn|apply Zr|refine Zq ?_ GE41001.out)|exact HB.out))):w.heap.size≤gb41002));have n4_:=Za ((by rw[hg];exact(Zz (by repeat(first|(with_reducible first|exact HB.out|apply Zp|apply Zn|apply Zr|refine Zq ?_ GE41001.out)|exact HB.out))):w.heap.size≤gb41002));have n5_:=Za ((by rw[hg];exact Nat.ne_of_lt (ZK (g:=gb41001) (o:=.cells #[.slice A0_0 l0_0.length c0_0,.slice A0_1 l0_1.length c0_1,.int .i64 a0_2] 35 (0,0)) (by(with_reducible repeat(first|refine Zs ?_ _|refine Zu ?_|refine Zt ?_ _));exact BK41001.out)):gb41001≠gb41002));have n6_:=Za ((by rw[hg];exact Nat.ne_of_gt (ZK (g:=gb41001) (o:=.cells #[.slice A0_0 l0_0.length c0_0,.slice A0_1 l0_1.length c0_1,.int .i64 a0_2] 35 (0,0)) (by(with_reducible repeat(first|refine Zs ?_ _|refine Zu ?_|refine Zt ?_ _));exact BK41001.out)):gb41002≠gb41001));clear BK41001;clear HB;have BK41001:=n0_;have HB:=n1_;have BK41002:=n2_;have GW41002:=n3_;have GE41002:=n4_;have NB41001_41002:=n5_;have NB41002_41001:=n6_;clear n0_ n1_ n2_ n3_ n4_ n5_ n6_;clear hb hbox hg;have hnb27:=NB41001_41002.out;have hnc27:=NB41002_41001.out;have hcz28_0:w26.cell? ⟨gb41001,0,none⟩=some (.slice A0_0 l0_0.length c0_0):=(Zm BK41001.out 0).trans rfl;have hcz28_1:w26.cell? ⟨gb41001,1,none⟩=some (.slice A0_1 l0_1.length c0_1):=(Zm BK41001.out 1).trans rfl;have hcz28_2:w26.cell? ⟨gb41001,2,none⟩=some (.int .i64 a0_2):=(Zm BK41001.out 2).trans rfl;have hfz28_0:=Zo BK41001.out 0;have hfz28_1:=Zo BK41001.out 1;have hfz28_2:=Zo BK41001.out 2;have hcz29_0:w26.cell? ⟨gb41002,0,none⟩=some (.int .i64 a1_0):=(Zm BK41002.out 0).trans rfl;have hcz29_1:w26.cell? ⟨gb41002,1,none⟩=some (.slice A1_1 l1_1.length c1_1):=(Zm BK41002.out 1).trans rfl;have hcz29_2:w26.cell? ⟨gb41002,2,none⟩=some (.slice A1_2 l1_2.length c1_2):=(Zm BK41002.out 2).trans rfl;have hfz29_0:=Zo BK41002.out 0;have hfz29_1:=Zo BK41002.out 1;have hfz29_2:=Zo BK41002.out 2)|((with_reducible refine ZH (f:=97) rfl ?_);refine ZW (some 9) rfl rfl Try.func97 (by kernel_rfl) rfl #[.agg #[.slice A0_0 l0_0.length c0_0,.slice A0_1 l0_1.length c0_1,.int .i64 a0_2],.agg #[.int .i64 a1_0,.slice A1_1 l1_1.length c1_1,.slice A1_2 l1_2.length c1_2]] rfl (by(try simp only[List.map_toArray,List.map_cons,List.map_nil]);first|done|rfl|(simp only[Zk,Zj];rfl)) ?_;(with_reducible refine(ZaG.calls k _ _ l0_0 _ _ l0_1 a0_2 a1_0 _ _ l1_1 _ _ l1_2 false _ ?side1 ?side2 ?side3 ?side4 ?side5 ?side6 ?side7 ?side8 A4.out).mono ?_);(case side1=>repeat(first|exact(Zb HR0_0.out HB.out)|(with_reducible refine Kd.C_alloc ?_ _)|(with_reducible refine Kd.C_drewN ?_ _)|(with_reducible refine Kd.C_drew ?_)));(case side2=>exact HC0_0.out);(case side3=>repeat(first|exact(Zb HR0_1.out HB.out)|(with_reducible refine Kd.C_alloc ?_ _)|(with_reducible refine Kd.C_drewN ?_ _)|(with_reducible refine Kd.C_drew ?_)));(case side4=>exact HC0_1.out);(case side5=>repeat(first|exact(Zb HR1_1.out HB.out)|(with_reducible refine Kd.C_alloc ?_ _)|(with_reducible refine Kd.C_drewN ?_ _)|(with_reducible refine Kd.C_drew ?_)));(case side6=>exact HC1_1.out);(case side7=>repeat(first|exact(Zb HR1_2.out HB.out)|(with_reducible refine Kd.C_alloc ?_ _)|(with_reducible refine Kd.C_drewN ?_ _)|(with_reducible refine Kd.C_drew ?_)));(case side8=>exact HC1_2.out);rintro e w30 ⟨rfl,hb⟩;refine⟨_,rfl,?_⟩;have n0_:=Za (Zw (g:=gb41001) (o:=.cells #[.slice A0_0 l0_0.length c0_0,.slice A0_1 l0_1.length c0_1,.int .i64 a0_2] 35 (0,0)) (by(with_reducible repeat(first|refine Zs ?_ _|refine Zu ?_|refine Zt ?_ _));exact BK41001.out) hb);have n1_:=Za (Zw (g:=gb41002) (o:=.cells #[.int .i64 a1_0,.slice A1_1 l1_1.length c1_1,.slice A1_2 l1_2.length c1_2] 66 (0,0)) (by(with_reducible repeat(first|refine Zs ?_ _|refine Zu ?_|refine Zt ?_ _));exact BK41002.out) hb);have n2_:=Za (Zv (by repeat(first|(with_reducible first|exact HB.out|apply Zp|apply Zn|apply Zr|refine Zq ?_ GE41001.out|refine Zq ?_ GE41002.out)|exact HB.out)) hb);clear BK41001;clear BK41002;clear HB;have BK41001:=n0_;have BK41002:=n1_;have HB:=n2_;clear n0_ n1_ n2_;(try clear hb);(try clear hb2);(try clear hk);(try clear hi)))
  go_ret
  exact⟨by first|rfl|(simp[Zy,Zx] <;> rfl)|(simp[*,Zy,Zx] <;> rfl),by repeat(first|(with_reducible first|exact HB.out|apply Zp|apply Zn|apply Zr|refine Zq ?_ GE41001.out|refine Zq ?_ GE41002.out)|exact HB.out)⟩
def ZaJ.f (k:Nat) (l0_0:List (S116)) (l0_1:List (S90)) (a0_2:Int) (a1_0:Int) (l1_1:List Int) (l1_2:List Int) (a2:Int):Option (Int):=(ZJ.f k l0_0 l0_1 a0_2 a1_0 l1_1 l1_2).bind fun t39003=>(if t39003=true then((ZT.f a2 0 (wrap64 ((l0_0.length:Int) - 1))).bind fun t39004=>(if t39004=true then(if 0≤a2 then(if a2<(l0_0.length:Int) then((ZQ.f k ((ZA l0_0 a2).f1) l1_2).bind fun t39006=>(some t39006)) else(none)) else(none)) else(some (-1)))) else(some (-1)))
def ZaJ.T3:Bool×List (List Nat×List Nat):=(true,[([],[]),([0],[0]),([],[]),([1,2],[1,2]),([3],[3]),([4],[4]),([],[]),([6],[6]),([5,7],[5,7]),([8,8,0,1,2,3,4,5,6,7,8],[8])])
def ZaJ.B3:List Nat:=[0,1,0,7,15,31,0,64,255,511]
theorem ZaJ.tab3:rtab .any (opsOf Try.f39 3)=ZaJ.T3:=by kernel_rfl
theorem ZaJ.bits3:Zcg ZaJ.T3.2 ZaJ.B3=true:=by kernel_rfl
set_option maxHeartbeats 8000000 in
set_option maxRecDepth 100000 in
theorem ZaJ.calls (k:Nat) (A0_0:Option Addr) (c0_0:Nat) (l0_0:List (S116)) (A0_1:Option Addr) (c0_1:Nat) (l0_1:List (S90)) (a0_2:Int) (a1_0:Int) (A1_1:Option Addr) (c1_1:Nat) (l1_1:List Int) (A1_2:Option Addr) (c1_2:Nat) (l1_2:List Int) (a2:Int) (r:Int) (w:World) (hr0_0:Kd.C k116 w A0_0 l0_0.length l0_0) (hc0_0:l0_0.length≤c0_0) (hr0_1:Kd.C k90 w A0_1 l0_1.length l0_1) (hc0_1:l0_1.length≤c0_1) (hr1_1:Kd.C (Kd.int .i64) w A1_1 l1_1.length l1_1) (hc1_1:l1_1.length≤c1_1) (hr1_2:Kd.C (Kd.int .i64) w A1_2 l1_2.length l1_2) (hc1_2:l1_2.length≤c1_2) (h:ZaJ.f k l0_0 l0_1 a0_2 a1_0 l1_1 l1_2 a2=some r) :
  Calls Try.prog 39 #[.agg #[.slice A0_0 l0_0.length c0_0,.slice A0_1 l0_1.length c0_1,.int .i64 a0_2],.agg #[.int .i64 a1_0,.slice A1_1 l1_1.length c1_1,.slice A1_2 l1_2.length c1_2],.int .i64 a2] w fun e w'=>e=.returned (.int .i64 r)∧Below w.heap.size w w':=by
 have hu35:=Try.underlying35
 have hu66:=Try.underlying66
 have HR0_0:=Za hr0_0;have HC0_0:=Za hc0_0;clear hr0_0 hc0_0;have HR0_1:=Za hr0_1;have HC0_1:=Za hc0_1;clear hr0_1 hc0_1;have HR1_1:=Za hr1_1;have HC1_1:=Za hc1_1;clear hr1_1 hc1_1;have HR1_2:=Za hr1_2;have HC1_2:=Za hc1_2;clear hr1_2 hc1_2
 have HB:=Za (Below.refl w.heap.size w)
 have H:((ZJ.f k l0_0 l0_1 a0_2 a1_0 l1_1 l1_2).bind fun t39003=>(if t39003=true then((ZT.f a2 0 (wrap64 ((l0_0.length:Int) - 1))).bind fun t39004=>(if t39004=true then(if 0≤a2 then(if a2<(l0_0.length:Int) then((ZQ.f k ((ZA l0_0 a2).f1) l1_2).bind fun t39006=>(some t39006)) else(none)) else(none)) else(some (-1)))) else(some (-1))))=some r:=h
 clear h
 replace H:=Zh H
 obtain⟨t39003,A40,H⟩:=H
 replace H:(if t39003=true then((ZT.f a2 0 (wrap64 ((l0_0.length:Int) - 1))).bind fun t39004=>(if t39004=true then(if 0≤a2 then(if a2<(l0_0.length:Int) then((ZQ.f k ((ZA l0_0 a2).f1) l1_2).bind fun t39006=>(some t39006)) else(none)) else(none)) else(some (-1)))) else(some (-1)))=some r:=H
 have A4:=Za A40;clear A40
 by_cases c5:t39003=true
 ·subst c5
  have H1:((ZT.f a2 0 (wrap64 ((l0_0.length:Int) - 1))).bind fun t39004=>(if t39004=true then(if 0≤a2 then(if a2<(l0_0.length:Int) then((ZQ.f k ((ZA l0_0 a2).f1) l1_2).bind fun t39006=>(some t39006)) else(none)) else(none)) else(some (-1))))=some r:=by rw[if_pos rfl] at H;exact H
  clear H
  have H:=H1
  clear H1
  replace H:=Zh H
  obtain⟨t39004,A60,H⟩:=H
  replace H:(if t39004=true then(if 0≤a2 then(if a2<(l0_0.length:Int) then((ZQ.f k ((ZA l0_0 a2).f1) l1_2).bind fun t39006=>(some t39006)) else(none)) else(none)) else(some (-1)))=some r:=H
  have A6:=Za A60;clear A60
  by_cases c7:t39004=true
  ·subst c7
   have H1:(if 0≤a2 then(if a2<(l0_0.length:Int) then((ZQ.f k ((ZA l0_0 a2).f1) l1_2).bind fun t39006=>(some t39006)) else(none)) else(none))=some r:=by rw[if_pos rfl] at H;exact H
   clear H
   have H:=H1
   clear H1
   by_cases c8:0≤a2
   ·rw[if_pos c8] at H
    have c8b0:decide (0≤a2)=true:=Ze c8
    clear c8
    by_cases c9:a2<(l0_0.length:Int)
    ·rw[if_pos c9] at H
     have c9b0:decide (a2<(l0_0.length:Int))=true:=Ze c9
     clear c9
     replace H:=Zh H
     obtain⟨t39006,A100,H⟩:=H
     replace H:(some t39006)=some r:=H
     have A10:=Za A100;clear A100
     obtain rfl:=Zg H
     go_enter Try.func39,Try.ntmps39
     try go_wp2_with (first|((with_reducible refine ZG (N:=3) rfl ?_);(try(refine ZaX (by rfl) ?_;dsimp only));refine ZE ?hg (N:=3) ?hd (cs:=#[.slice A0_0 l0_0.length c0_0,.slice A0_1 l0_1.length c0_1,.int .i64 a0_2]) (t:=35) ?hr ?_;(case hd=>rfl);(case hg=>rfl);(case hr=>first|(go_simp;done)|(go_simp;rfl));intro gb39001 hg w11 hbox hb;have n0_:=Za (Zv (by repeat(first|(with_reducible first|exact HB.out|apply Zp|apply Zn|apply Zr)|exact HB.out)) hb);have n1_:=Za (hbox);have n2_:=Za ((by rw[hg];exact(Zz (by repeat(first|(with_reducible first|exact HB.out|apply Zp|apply Zn|apply Zr)|exact HB.out))):w.heap.size≤gb39001));have n3_:=Za ((by rw[hg];exact(Zz (by repeat(first|(with_reducible first|exact HB.out|apply Zp|apply Zn|apply Zr)|exact HB.out))):w.heap.size≤gb39001));clear HB;have HB:=n0_;have BK39001:=n1_;have GW39001:=n2_;have GE39001:=n3_;clear n0_ n1_ n2_ n3_;clear hb hbox hg)|((with_reducible refine ZG (N:=4) rfl ?_);(try(refine ZaX (by rfl) ?_;dsimp only));refine ZE ?hg (N:=4) ?hd (cs:=#[.int .i64 a1_0,.slice A1_1 l1_1.length c1_1,.slice A1_2 l1_2.length c1_2]) (t:=66) ?hr ?_;(case hd=>rfl);(case hg=>rfl);(case hr=>first|(go_simp;done)|(go_simp;rfl));intro gb39002 hg w12 hbox hb;have n0_:=Za (Zw (g:=gb39001) (o:=.cells #[.slice A0_0 l0_0.length c0_0,.slice A0_1 l0_1.length c0_1,.int .i64 a0_2] 35 (0,0)) (by(with_reducible repeat(first|refine Zs ?_ _|refine Zu ?_|refine Zt ?_ _));exact BK39001.out) hb);have n1_:=Za (Zv (by repeat(first|(with_reducible first|exact HB.out|apply Zp|apply Zn|apply Zr|refine Zq ?_ GE39001.out)|exact HB.out)) hb);have n2_:=Za (hbox);have n3_:=Za ((by rw[hg];exact(Zz (by repeat(first|(with_reducible first|exact HB.out|apply Zp|apply Zn|apply Zr|refine Zq ?_ GE39001.out)|exact HB.out))):w.heap.size≤gb39002));have n4_:=Za ((by rw[hg];exact(Zz (by repeat(first|(with_reducible first|exact HB.out|apply Zp|apply Zn|apply Zr|refine Zq ?_ GE39001.out)|exact HB.out))):w.heap.size≤gb39002));have n5_:=Za ((by rw[hg];exact Nat.ne_of_lt (ZK (g:=gb39001) (o:=.cells #[.slice A0_0 l0_0.length c0_0,.slice A0_1 l0_1.length c0_1,.int .i64 a0_2] 35 (0,0)) (by(with_reducible repeat(first|refine Zs ?_ _|refine Zu ?_|refine Zt ?_ _));exact BK39001.out)):gb39001≠gb39002));have n6_:=Za ((by rw[hg];exact Nat.ne_of_gt (ZK (g:=gb39001) (o:=.cells #[.slice A0_0 l0_0.length c0_0,.slice A0_1 l0_1.length c0_1,.int .i64 a0_2] 35 (0,0)) (by(with_reducible repeat(first|refine Zs ?_ _|refine Zu ?_|refine Zt ?_ _));exact BK39001.out)):gb39002≠gb39001));clear BK39001;clear HB;have BK39001:=n0_;have HB:=n1_;have BK39002:=n2_;have GW39002:=n3_;have GE39002:=n4_;have NB39001_39002:=n5_;have NB39002_39001:=n6_;clear n0_ n1_ n2_ n3_ n4_ n5_ n6_;clear hb hbox hg;have hnb13:=NB39001_39002.out;have hnc13:=NB39002_39001.out;have hcz14_0:w12.cell? ⟨gb39001,0,none⟩=some (.slice A0_0 l0_0.length c0_0):=(Zm BK39001.out 0).trans rfl;have hcz14_1:w12.cell? ⟨gb39001,1,none⟩=some (.slice A0_1 l0_1.length c0_1):=(Zm BK39001.out 1).trans rfl;have hcz14_2:w12.cell? ⟨gb39001,2,none⟩=some (.int .i64 a0_2):=(Zm BK39001.out 2).trans rfl;have hfz14_0:=Zo BK39001.out 0;have hfz14_1:=Zo BK39001.out 1;have hfz14_2:=Zo BK39001.out 2;have hcz15_0:w12.cell? ⟨gb39002,0,none⟩=some (.int .i64 a1_0):=(Zm BK39002.out 0).trans rfl;have hcz15_1:w12.cell? ⟨gb39002,1,none⟩=some (.slice A1_1 l1_1.length c1_1):=(Zm BK39002.out 1).trans rfl;have hcz15_2:w12.cell? ⟨gb39002,2,none⟩=some (.slice A1_2 l1_2.length c1_2):=(Zm BK39002.out 2).trans rfl;have hfz15_0:=Zo BK39002.out 0;have hfz15_1:=Zo BK39002.out 1;have hfz15_2:=Zo BK39002.out 2)|((with_reducible refine ZH (f:=95) rfl ?_);refine ZW (some 9) rfl rfl Try.func95 (by kernel_rfl) rfl #[.agg #[.slice A0_0 l0_0.length c0_0,.slice A0_1 l0_1.length c0_1,.int .i64 a0_2],.agg #[.int .i64 a1_0,.slice A1_1 l1_1.length c1_1,.slice A1_2 l1_2.length c1_2]] rfl (by(try simp only[List.map_toArray,List.map_cons,List.map_nil]);first|done|rfl|(simp only[Zk,Zj];rfl)) ?_;(with_reducible refine(ZJ.calls k _ _ l0_0 _ _ l0_1 a0_2 a1_0 _ _ l1_1 _ _ l1_2 true _ ?side1 ?side2 ?side3 ?side4 ?side5 ?side6 ?side7 ?side8 A4.out).mono ?_);(case side1=>repeat(first|exact(Zb HR0_0.out HB.out)|(with_reducible refine Kd.C_alloc ?_ _)|(with_reducible refine Kd.C_drewN ?_ _)|(with_reducible refine Kd.C_drew ?_)));(case side2=>exact HC0_0.out);(case side3=>repeat(first|exact(Zb HR0_1.out HB.out)|(with_reducible refine Kd.C_alloc ?_ _)|(with_reducible refine Kd.C_drewN ?_ _)|(with_reducible refine Kd.C_drew ?_)));(case side4=>exact HC0_1.out);(case side5=>repeat(first|exact(Zb HR1_1.out HB.out)|(with_reducible refine Kd.C_alloc ?_ _)|(with_reducible refine Kd.C_drewN ?_ _)|(with_reducible refine Kd.C_drew ?_)));(case side6=>exact HC1_1.out);(case side7=>repeat(first|exact(Zb HR1_2.out HB.out)|(with_reducible refine Kd.C_alloc ?_ _)|(with_reducible refine Kd.C_drewN ?_ _)|(with_reducible refine Kd.C_drew ?_)));(case side8=>exact HC1_2.out);rintro e w16 ⟨rfl,hb⟩;refine⟨_,rfl,?_⟩;have n0_:=Za (Zw (g:=gb39001) (o:=.cells #[.slice A0_0 l0_0.length c0_0,.slice A0_1 l0_1.length c0_1,.int .i64 a0_2] 35 (0,0)) (by(with_reducible repeat(first|refine Zs ?_ _|refine Zu ?_|refine Zt ?_ _));exact BK39001.out) hb);have n1_:=Za (Zw (g:=gb39002) (o:=.cells #[.int .i64 a1_0,.slice A1_1 l1_1.length c1_1,.slice A1_2 l1_2.length c1_2] 66 (0,0)) (by(with_reducible repeat(first|refine Zs ?_ _|refine Zu ?_|refine Zt ?_ _));exact BK39002.out) hb);have n2_:=Za (Zv (by repeat(first|(with_reducible first|exact HB.out|apply Zp|apply Zn|apply Zr|refine Zq ?_ GE39001.out|refine Zq ?_ GE39002.out)|exact HB.out)) hb);clear BK39001;clear BK39002;clear HB;have BK39001:=n0_;have BK39002:=n1_;have HB:=n2_;clear n0_ n1_ n2_;(try clear hb);(try clear hb2);(try clear hk);(try clear hi);have hcz17_0:w16.cell? ⟨gb39001,0,none⟩=some (.slice A0_0 l0_0.length c0_0):=(Zm BK39001.out 0).trans rfl;have hcz17_1:w16.cell? ⟨gb39001,1,none⟩=some (.slice A0_1 l0_1.length c0_1):=(Zm BK39001.out 1).trans rfl;have hcz17_2:w16.cell? ⟨gb39001,2,none⟩=some (.int .i64 a0_2):=(Zm BK39001.out 2).trans rfl;have hfz17_0:=Zo BK39001.out 0;have hfz17_1:=Zo BK39001.out 1;have hfz17_2:=Zo BK39001.out 2)|(go_at_call 68;(with_reducible refine(ZT.calls a2 0 (wrap64 ((l0_0.length:Int) - 1)) true _ A6.out).mono ?_);rintro e w' ⟨rfl,⟨nd,rfl⟩⟩))
     (try(rw[drewN_self w16];generalize hq_:World.drewN w16 _=w16;have n0_:Aside0 (w16.heap[gb39001]? = some (.cells #[.slice A0_0 l0_0.length c0_0,.slice A0_1 l0_1.length c0_1,.int .i64 a0_2] 35 (0,0))):=⟨by rw[← hq_];exact(by(with_reducible repeat(first|refine Zs ?_ _|refine Zu ?_|refine Zt ?_ _));exact BK39001.out)⟩;have n1_:Aside0 (w16.heap[gb39002]? = some (.cells #[.int .i64 a1_0,.slice A1_1 l1_1.length c1_1,.slice A1_2 l1_2.length c1_2] 66 (0,0))):=⟨by rw[← hq_];exact(by(with_reducible repeat(first|refine Zs ?_ _|refine Zu ?_|refine Zt ?_ _));exact BK39002.out)⟩;have n2_:Aside0 (Below w.heap.size w w16):=⟨by rw[← hq_];exact(by repeat(first|(with_reducible first|exact HB.out|apply Zp|apply Zn|apply Zr|refine Zq ?_ GE39001.out|refine Zq ?_ GE39002.out)|exact HB.out))⟩;clear BK39001 BK39002 HB hq_;have BK39001:=n0_;have BK39002:=n1_;have HB:=n2_;clear n0_ n1_ n2_))
     have n0_:=Za (Zu BK39001.out)
     have n1_:=Za (Zu BK39002.out)
     have n2_:=Za (Zr HB.out)
     clear BK39001 BK39002 HB;have BK39001:=n0_;have BK39002:=n1_;have HB:=n2_;clear n0_ n1_ n2_
     have p39005:0≤(a2:Int):=Zd (by first|(with_reducible assumption)|assumption)
     have q39005:a2<(l0_0.length:Int):=Zd (by first|(with_reducible assumption)|assumption)
     obtain⟨ad39005,A39005_1,c39005_1,e39005,hx39005_0,hx39005_1,hx39005_2,hl39005_1,hi39005_1⟩:=Zak HR0_0.out a2 p39005 q39005
     have hw39005_2:=hx39005_2
     have hw39005_1:=hx39005_1
     have hw39005_0:=hx39005_0
     cases e39005
     replace hx39005_0:=(HB.out.cell (Zc w _ hx39005_0)).trans hx39005_0
     replace hx39005_1:=(HB.out.cell (Zc w _ hx39005_1)).trans hx39005_1
     replace hx39005_2:=(HB.out.cell (Zc w _ hx39005_2)).trans hx39005_2
     have HR39005_1:=Za hi39005_1;have HC39005_1:=Za hl39005_1;clear hi39005_1 hl39005_1
     replace p39005:=eq_true p39005
     replace q39005:=eq_true q39005
     refine Zb7 (n:=10) (S:=fun w'=>w'.cell? ⟨gb39001,0,none⟩=some (.slice (some ad39005) l0_0.length c0_0)∧w'.cell? ⟨gb39001,1,none⟩=some (.slice A0_1 l0_1.length c0_1)∧w'.cell? ⟨gb39001,2,none⟩=some (.int .i64 a0_2)∧w'.cell? ⟨gb39002,0,none⟩=some (.int .i64 a1_0)∧w'.cell? ⟨gb39002,1,none⟩=some (.slice A1_1 l1_1.length c1_1)∧w'.cell? ⟨gb39002,2,none⟩=some (.slice A1_2 l1_2.length c1_2)∧w'.cell? (ad39005.add ((a2).toNat * 3))=some (.string ((ZA l0_0 a2).f0))∧w'.cell? ⟨(ad39005.add ((a2).toNat * 3)).block,(ad39005.add ((a2).toNat * 3)).off+1,none⟩=some (.slice A39005_1 ((ZA l0_0 a2).f1).length c39005_1)∧w'.cell? ⟨(ad39005.add ((a2).toNat * 3)).block,(ad39005.add ((a2).toNat * 3)).off+2,none⟩=some (.int .i64 ((ZA l0_0 a2).f2))) (ds:=[]) #[false,false,false,false,false,false,false,false,false,false] (by kernel_rfl) rfl rfl ⟨(Zm BK39001.out 0).trans rfl,(Zm BK39001.out 1).trans rfl,(Zm BK39001.out 2).trans rfl,(Zm BK39002.out 0).trans rfl,(Zm BK39002.out 1).trans rfl,(Zm BK39002.out 2).trans rfl,((HB.out.cell (Zc w _ hw39005_0)).trans hw39005_0),((HB.out.cell (Zc w _ hw39005_1)).trans hw39005_1),((HB.out.cell (Zc w _ hw39005_2)).trans hw39005_2)⟩ (fun hHeld=>?_);refine Zcf ZaJ.tab3 ZaJ.bits3 (fun HT_ HW_=>?_)
     generalize w16.drew=w18 at BK39001 BK39002 HB HR39005_1 hx39005_0 hx39005_1 hx39005_2 hHeld ⊢
     refine Z2 (i:=0) (N:=some 20) (v:=?_) (a':=?_) #[true,false,false,false,false,false,false,false,false,false] rfl rfl (Z0 HT_.out (by kernel_rfl)) (fun _ _ _ h=>h) (Or.inl ⟨by rfl,?_⟩) ?_ ?_
     rotate_left
     ·intro w'
      go_simp
      with_reducible rfl
     rotate_left
     ·simp only[Act.put,List.setIfInBounds_toArray,List.set_cons_zero,List.set_cons_succ,ZL,ZM]
      rfl
     refine Z2 (i:=2) (N:=some 22) (v:=?_) (a':=?_) #[true,false,true,false,false,false,false,false,false,false] rfl rfl (Z0 HT_.out (by kernel_rfl)) (fun _ _ _ h=>h) (Or.inl ⟨by rfl,?_⟩) ?_ ?_
     rotate_left
     ·intro w'
      go_simp
      with_reducible rfl
     rotate_left
     ·simp only[Act.put,List.setIfInBounds_toArray,List.set_cons_zero,List.set_cons_succ,ZL,ZM]
      rfl
     refine Z2 (i:=6) (N:=some 26) (v:=?_) (a':=?_) #[true,false,true,false,false,false,true,false,false,false] rfl rfl (Z0 HT_.out (by kernel_rfl)) (fun _ _ _ h=>h) (Or.inl ⟨by rfl,?_⟩) ?_ ?_
     rotate_left
     ·intro w'
      go_simp
      with_reducible rfl
     rotate_left
     ·simp only[Act.put,List.setIfInBounds_toArray,List.set_cons_zero,List.set_cons_succ,ZL,ZM]
      rfl
     refine take_ (i:=1) (N:=some 21) (v:=?_) (a':=?_) #[true,true,true,false,false,false,true,false,false,false] rfl rfl (ZaF HT_.out HW_.out (by kernel_rfl)) (fun _ _ _ h=>h) (Or.inl ⟨by rfl,?_⟩) hHeld ?_ ?_
     rotate_left
     ·rintro w' ⟨s0,s1,s2,s3,s4,s5,s6,s7,s8⟩
      go_simp
      with_reducible rfl
     rotate_left
     ·simp only[Act.put,List.setIfInBounds_toArray,List.set_cons_zero,List.set_cons_succ,ZL,ZM]
      rfl
     refine Z2 (i:=3) (N:=some 23) (v:=?_) (a':=?_) #[true,true,true,true,false,false,true,false,false,false] rfl rfl (Z0 HT_.out (by kernel_rfl)) (fun _ _ _ h=>h) (Or.inl ⟨by rfl,?_⟩) ?_ ?_
     rotate_left
     ·intro w'
      go_simp
      with_reducible rfl
     rotate_left
     ·simp only[Act.put,List.setIfInBounds_toArray,List.set_cons_zero,List.set_cons_succ,ZL,ZM]
      rfl
     refine Z2 (i:=4) (N:=some 24) (v:=?_) (a':=?_) #[true,true,true,true,true,false,true,false,false,false] rfl rfl (Z0 HT_.out (by kernel_rfl)) (fun _ _ _ h=>h) (Or.inl ⟨by rfl,?_⟩) ?_ ?_
     rotate_left
     ·intro w'
      go_simp
      with_reducible rfl
     rotate_left
     ·simp only[Act.put,List.setIfInBounds_toArray,List.set_cons_zero,List.set_cons_succ,ZL,ZM]
      rfl
     refine take_ (i:=5) (N:=some 25) (v:=?_) (a':=?_) #[true,true,true,true,true,true,true,false,false,false] rfl rfl (ZaF HT_.out HW_.out (by kernel_rfl)) (fun _ _ _ h=>h) (Or.inl ⟨by rfl,?_⟩) hHeld ?_ ?_
     rotate_left
     ·rintro w' ⟨s0,s1,s2,s3,s4,s5,s6,s7,s8⟩
      go_simp
      with_reducible rfl
     rotate_left
     ·simp only[Act.put,List.setIfInBounds_toArray,List.set_cons_zero,List.set_cons_succ,ZL,ZM]
      rfl
     refine take_ (i:=7) (N:=some 27) (v:=?_) (a':=?_) #[true,true,true,true,true,true,true,true,false,false] rfl rfl (ZaF HT_.out HW_.out (by kernel_rfl)) (fun _ _ _ h=>h) (Or.inl ⟨by rfl,?_⟩) hHeld ?_ ?_
     rotate_left
     ·rintro w' ⟨s0,s1,s2,s3,s4,s5,s6,s7,s8⟩
      go_simp
      with_reducible rfl
     rotate_left
     ·simp only[Act.put,List.setIfInBounds_toArray,List.set_cons_zero,List.set_cons_succ,ZL,ZM]
      rfl
     refine one_ (i:=8) (N:=some 28) #[true,true,true,true,true,true,true,true,true,false] rfl rfl (Zc7 HT_.out (by kernel_rfl)) (by decide) (fun K hK=>?_)
     refine Zb1 Try.func96 (by kernel_rfl) rfl #[.slice A39005_1 ((ZA l0_0 a2).f1).length c39005_1,.slice A1_2 l1_2.length c1_2] (by rfl) rfl rfl (by(try simp only[List.map_toArray,List.map_cons,List.map_nil]);first|done|rfl|(simp only[Zk,Zj];rfl)) ?_
     with_reducible refine(ZQ.calls k _ _ ((ZA l0_0 a2).f1) _ _ l1_2 t39006 _ ?side1 ?side2 ?side3 ?side4 A10.out).mono ?_
     (case side1=>repeat(first|exact(Zb HR39005_1.out HB.out)|(with_reducible refine Kd.C_alloc ?_ _)|(with_reducible refine Kd.C_drewN ?_ _)|(with_reducible refine Kd.C_drew ?_)))
     (case side2=>exact HC39005_1.out)
     (case side3=>repeat(first|exact(Zb HR1_2.out HB.out)|(with_reducible refine Kd.C_alloc ?_ _)|(with_reducible refine Kd.C_drewN ?_ _)|(with_reducible refine Kd.C_drew ?_)))
     (case side4=>exact HC1_2.out)
     rintro e w19 ⟨rfl,hb⟩
     refine⟨_,rfl,?_⟩
     have n0_:=Za (Zw (g:=gb39001) (o:=.cells #[.slice (some ad39005) l0_0.length c0_0,.slice A0_1 l0_1.length c0_1,.int .i64 a0_2] 35 (0,0)) (by(with_reducible repeat(first|refine Zs ?_ _|refine Zu ?_|refine Zt ?_ _));exact BK39001.out) hb)
     have n1_:=Za (Zw (g:=gb39002) (o:=.cells #[.int .i64 a1_0,.slice A1_1 l1_1.length c1_1,.slice A1_2 l1_2.length c1_2] 66 (0,0)) (by(with_reducible repeat(first|refine Zs ?_ _|refine Zu ?_|refine Zt ?_ _));exact BK39002.out) hb)
     have n2_:=Za (Zv (by repeat(first|(with_reducible first|exact HB.out|apply Zp|apply Zn|apply Zr|refine Zq ?_ GE39001.out|refine Zq ?_ GE39002.out)|exact HB.out)) hb)
     clear BK39001 BK39002 HB;have BK39001:=n0_;have BK39002:=n1_;have HB:=n2_;clear n0_ n1_ n2_
     (try clear hb)
     (try clear hb2)
     (try clear hk)
     (try clear hi)
     refine hK.out _ _ ⟨(Zm BK39001.out 0).trans rfl,(Zm BK39001.out 1).trans rfl,(Zm BK39001.out 2).trans rfl,(Zm BK39002.out 0).trans rfl,(Zm BK39002.out 1).trans rfl,(Zm BK39002.out 2).trans rfl,((HB.out.cell (Zc w _ hw39005_0)).trans hw39005_0),((HB.out.cell (Zc w _ hw39005_1)).trans hw39005_1),((HB.out.cell (Zc w _ hw39005_2)).trans hw39005_2)⟩ (fun hHeld=>?_)
     clear hK K
     refine ZbX (a':=?_) ?_ ?_
     rotate_left
     ·show Act.put _ (some 28) _=_
      simp only[Act.put,List.setIfInBounds_toArray,List.set_cons_zero,List.set_cons_succ,ZL,ZM]
      rfl
     refine Z2 (i:=9) (N:=some 6) (v:=?_) (a':=?_) #[true,true,true,true,true,true,true,true,true,true] rfl rfl (Z0 HT_.out (by kernel_rfl)) (fun _ _ _ h=>h) (Or.inl ⟨by rfl,?_⟩) ?_ ?_
     rotate_left
     ·intro w'
      go_simp
      with_reducible rfl
     rotate_left
     ·simp only[Act.put,List.setIfInBounds_toArray,List.set_cons_zero,List.set_cons_succ,ZL,ZM]
      rfl
     refine Zct (ZcI HT_.out (by kernel_rfl)) ?_
     try go_wp2
     go_ret
     exact⟨by first|rfl|(simp[Zy,Zx] <;> rfl)|(simp[*,Zy,Zx] <;> rfl),by repeat(first|(with_reducible first|exact HB.out|apply Zp|apply Zn|apply Zr|refine Zq ?_ GE39001.out|refine Zq ?_ GE39002.out)|exact HB.out)⟩
    ·rw[if_neg c9] at H
     exact absurd H (by simp)
   ·rw[if_neg c8] at H
    exact absurd H (by simp)
  ·replace c7:=Bool.eq_false_iff.mpr c7
   subst c7
   have H1:(some (-1))=some r:=by rw[if_neg (show ¬(false=true) by decide)] at H;exact H
   clear H
   have H:=H1
   clear H1
   obtain rfl:=Zg H
   go_enter Try.func39,Try.ntmps39
   go_wp2_with (first|((with_reducible refine ZG (N:=3) rfl ?_);(try(refine ZaX (by rfl) ?_;dsimp only));refine ZE ?hg (N:=3) ?hd (cs:=#[.slice A0_0 l0_0.length c0_0,.slice A0_1 l0_1.length c0_1,.int .i64 a0_2]) (t:=35) ?hr ?_;(case hd=>rfl);(case hg=>rfl);(case hr=>first|(go_simp;done)|(go_simp;rfl));intro gb39001 hg w20 hbox hb;have n0_:=Za (Zv (by repeat(first|(with_reducible first|exact HB.out|apply Zp|apply Zn|apply Zr)|exact HB.out)) hb);have n1_:=Za (hbox);have n2_:=Za ((by rw[hg];exact(Zz (by repeat(first|(with_reducible first|exact HB.out|apply Zp|apply Zn|apply Zr)|exact HB.out))):w.heap.size≤gb39001));have n3_:=Za ((by rw[hg];exact(Zz (by repeat(first|(with_reducible first|exact HB.out|apply Zp|apply Zn|apply Zr)|exact HB.out))):w.heap.size≤gb39001));clear HB;have HB:=n0_;have BK39001:=n1_;have GW39001:=n2_;have GE39001:=n3_;clear n0_ n1_ n2_ n3_;clear hb hbox hg)|((with_reducible refine ZG (N:=4) rfl ?_);(try(refine ZaX (by rfl) ?_;dsimp only));refine ZE ?hg (N:=4) ?hd (cs:=#[.int .i64 a1_0,.slice A1_1 l1_1.length c1_1,.slice A1_2 l1_2.length c1_2]) (t:=66) ?hr ?_;(case hd=>rfl);(case hg=>rfl);(case hr=>first|(go_simp;done)|(go_simp;rfl));intro gb39002 hg w21 hbox hb;have n0_:=Za (Zw (g:=gb39001) (o:=.cells #[.slice A0_0 l0_0.length c0_0,.slice A0_1 l0_1.length c0_1,.int .i64 a0_2] 35 (0,0)) (by(with_reducible repeat(first|refine Zs ?_ _|refine Zu ?_|refine Zt ?_ _));exact BK39001.out) hb);have n1_:=Za (Zv (by repeat(first|(with_reducible first|exact HB.out|apply Zp|apply Zn|apply Zr|refine Zq ?_ GE39001.out)|exact HB.out)) hb);have n2_:=Za (hbox);have n3_:=Za ((by rw[hg];exact(Zz (by repeat(first|(with_reducible first|exact HB.out|apply Zp|apply Zn|apply Zr|refine Zq ?_ GE39001.out)|exact HB.out))):w.heap.size≤gb39002));have n4_:=Za ((by rw[hg];exact(Zz (by repeat(first|(with_reducible first|exact HB.out|apply Zp|apply Zn|apply Zr|refine Zq ?_ GE39001.out)|exact HB.out))):w.heap.size≤gb39002));have n5_:=Za ((by rw[hg];exact Nat.ne_of_lt (ZK (g:=gb39001) (o:=.cells #[.slice A0_0 l0_0.length c0_0,.slice A0_1 l0_1.length c0_1,.int .i64 a0_2] 35 (0,0)) (by(with_reducible repeat(first|refine Zs ?_ _|refine Zu ?_|refine Zt ?_ _));exact BK39001.out)):gb39001≠gb39002));have n6_:=Za ((by rw[hg];exact Nat.ne_of_gt (ZK (g:=gb39001) (o:=.cells #[.slice A0_0 l0_0.length c0_0,.slice A0_1 l0_1.length c0_1,.int .i64 a0_2] 35 (0,0)) (by(with_reducible repeat(first|refine Zs ?_ _|refine Zu ?_|refine Zt ?_ _));exact BK39001.out)):gb39002≠gb39001));clear BK39001;clear HB;have BK39001:=n0_;have HB:=n1_;have BK39002:=n2_;have GW39002:=n3_;have GE39002:=n4_;have NB39001_39002:=n5_;have NB39002_39001:=n6_;clear n0_ n1_ n2_ n3_ n4_ n5_ n6_;clear hb hbox hg;have hnb22:=NB39001_39002.out;have hnc22:=NB39002_39001.out;have hcz23_0:w21.cell? ⟨gb39001,0,none⟩=some (.slice A0_0 l0_0.length c0_0):=(Zm BK39001.out 0).trans rfl;have hcz23_1:w21.cell? ⟨gb39001,1,none⟩=some (.slice A0_1 l0_1.length c0_1):=(Zm BK39001.out 1).trans rfl;have hcz23_2:w21.cell? ⟨gb39001,2,none⟩=some (.int .i64 a0_2):=(Zm BK39001.out 2).trans rfl;have hfz23_0:=Zo BK39001.out 0;have hfz23_1:=Zo BK39001.out 1;have hfz23_2:=Zo BK39001.out 2;have hcz24_0:w21.cell? ⟨gb39002,0,none⟩=some (.int .i64 a1_0):=(Zm BK39002.out 0).trans rfl;have hcz24_1:w21.cell? ⟨gb39002,1,none⟩=some (.slice A1_1 l1_1.length c1_1):=(Zm BK39002.out 1).trans rfl;have hcz24_2:w21.cell? ⟨gb39002,2,none⟩=some (.slice A1_2 l1_2.length c1_2):=(Zm BK39002.out 2).trans rfl;have hfz24_0:=Zo BK39002.out 0;have hfz24_1:=Zo BK39002.out 1;have hfz24_2:=Zo BK39002.out 2)|((with_reducible refine ZH (f:=95) rfl ?_);refine ZW (some 9) rfl rfl Try.func95 (by kernel_rfl) rfl #[.agg #[.slice A0_0 l0_0.length c0_0,.slice A0_1 l0_1.length c0_1,.int .i64 a0_2],.agg #[.int .i64 a1_0,.slice A1_1 l1_1.length c1_1,.slice A1_2 l1_2.length c1_2]] rfl (by(try simp only[List.map_toArray,List.map_cons,List.map_nil]);first|done|rfl|(simp only[Zk,Zj];rfl)) ?_;(with_reducible refine(ZJ.calls k _ _ l0_0 _ _ l0_1 a0_2 a1_0 _ _ l1_1 _ _ l1_2 true _ ?side1 ?side2 ?side3 ?side4 ?side5 ?side6 ?side7 ?side8 A4.out).mono ?_);(case side1=>repeat(first|exact(Zb HR0_0.out HB.out)|(with_reducible refine Kd.C_alloc ?_ _)|(with_reducible refine Kd.C_drewN ?_ _)|(with_reducible refine Kd.C_drew ?_)));(case side2=>exact HC0_0.out);(case side3=>repeat(first|exact(Zb HR0_1.out HB.out)|(with_reducible refine Kd.C_alloc ?_ _)|(with_reducible refine Kd.C_drewN ?_ _)|(with_reducible refine Kd.C_drew ?_)));(case side4=>exact HC0_1.out);(case side5=>repeat(first|exact(Zb HR1_1.out HB.out)|(with_reducible refine Kd.C_alloc ?_ _)|(with_reducible refine Kd.C_drewN ?_ _)|(with_reducible refine Kd.C_drew ?_)));(case side6=>exact HC1_1.out);(case side7=>repeat(first|exact(Zb HR1_2.out HB.out)|(with_reducible refine Kd.C_alloc ?_ _)|(with_reducible refine Kd.C_drewN ?_ _)|(with_reducible refine Kd.C_drew ?_)));(case side8=>exact HC1_2.out);rintro e w25 ⟨rfl,hb⟩;refine⟨_,rfl,?_⟩;have n0_:=Za (Zw (g:=gb39001) (o:=.cells #[.slice A0_0 l0_0.length c0_0,.slice A0_1 l0_1.length c0_1,.int .i64 a0_2] 35 (0,0)) (by(with_reducible repeat(first|refine Zs ?_ _|refine Zu ?_|refine Zt ?_ _));exact BK39001.out) hb);have n1_:=Za (Zw (g:=gb39002) (o:=.cells #[.int .i64 a1_0,.slice A1_1 l1_1.length c1_1,.slice A1_2 l1_2.length c1_2] 66 (0,0)) (by(with_reducible repeat(first|refine Zs ?_ _|refine Zu ?_|refine Zt ?_ _));exact BK39002.out) hb);have n2_:=Za (Zv (by repeat(first|(with_reducible first|exact HB.out|apply Zp|apply Zn|apply Zr|refine Zq ?_ GE39001.out|refine Zq ?_ GE39002.out)|exact HB.out)) hb);clear BK39001;clear BK39002;clear HB;have BK39001:=n0_;have BK39002:=n1_;have HB:=n2_;clear n0_ n1_ n2_;(try clear hb);(try clear hb2);(try clear hk);(try clear hi);have hcz26_0:w25.cell? ⟨gb39001,0,none⟩=some (.slice A0_0 l0_0.length c0_0):=(Zm BK39001.out 0).trans rfl;have hcz26_1:w25.cell? ⟨gb39001,1,none⟩=some (.slice A0_1 l0_1.length c0_1):=(Zm BK39001.out 1).trans rfl;have hcz26_2:w25.cell? ⟨gb39001,2,none⟩=some (.int .i64 a0_2):=(Zm BK39001.out 2).trans rfl;have hfz26_0:=Zo BK39001.out 0;have hfz26_1:=Zo BK39001.out 1;have hfz26_2:=Zo BK39001.out 2)|(go_at_call 68;(with_reducible refine(ZT.calls a2 0 (wrap64 ((l0_0.length:Int) - 1)) false _ A6.out).mono ?_);rintro e w' ⟨rfl,⟨nd,rfl⟩⟩))
   go_ret
   exact⟨by first|rfl|(simp[Zy,Zx] <;> rfl)|(simp[*,Zy,Zx] <;> rfl),by repeat(first|(with_reducible first|exact HB.out|apply Zp|apply Zn|apply Zr|refine Zq ?_ GE39001.out|refine Zq ?_ GE39002.out)|exact HB.out)⟩
 ·replace c5:=Bool.eq_false_iff.mpr c5
  subst c5
  have H1:(some (-1))=some r:=by rw[if_neg (show ¬(false=true) by decide)] at H;exact H
  clear H
  have H:=H1
  clear H1
  obtain rfl:=Zg H
  go_enter Try.func39,Try.ntmps39
  go_wp2_with (first|((with_reducible refine ZG (N:=3) rfl ?_);(try(refine ZaX (by rfl) ?_;dsimp only));refine ZE ?hg (N:=3) ?hd (cs:=#[.slice A0_0 l0_0.length c0_0,.slice A0_1 l0_1.length c0_1,.int .i64 a0_2]) (t:=35) ?hr ?_;(case hd=>rfl);(case hg=>rfl);(case hr=>first|(go_simp;done)|(go_simp;rfl));intro gb39001 hg w27 hbox hb;have n0_:=Za (Zv (by repeat(first|(with_reducible first|exact HB.out|apply Zp|apply Zn|apply Zr)|exact HB.out)) hb);have n1_:=Za (hbox);have n2_:=Za ((by rw[hg];exact(Zz (by repeat(first|(with_reducible first|exact HB.out|apply Zp|apply Zn|apply Zr)|exact HB.out))):w.heap.size≤gb39001));have n3_:=Za ((by rw[hg];exact(Zz (by repeat(first|(with_reducible first|exact HB.out|apply Zp|apply Zn|apply Zr)|exact HB.out))):w.heap.size≤gb39001));clear HB;have HB:=n0_;have BK39001:=n1_;have GW39001:=n2_;have GE39001:=n3_;clear n0_ n1_ n2_ n3_;clear hb hbox hg)|((with_reducible refine ZG (N:=4) rfl ?_);(try(refine ZaX (by rfl) ?_;dsimp only));refine ZE ?hg (N:=4) ?hd (cs:=#[.int .i64 a1_0,.slice A1_1 l1_1.length c1_1,.slice A1_2 l1_2.length c1_2]) (t:=66) ?hr ?_;(case hd=>rfl);(case hg=>rfl);(case hr=>first|(go_simp;done)|(go_simp;rfl));intro gb39002 hg w28 hbox hb;have n0_:=Za (Zw (g:=gb39001) (o:=.cells #[.slice A0_0 l0_0.length c0_0,.slice A0_1 l0_1.length c0_1,.int .i64 a0_2] 35 (0,0)) (by(with_reducible repeat(first|refine Zs ?_ _|refine Zu ?_|refine Zt ?_ _));exact BK39001.out) hb);have n1_:=Za (Zv (by repeat(first|(with_reducible first|exact HB.out|apply Zp|apply Zn|apply Zr|refine Zq ?_ GE39001.out)|exact HB.out)) hb);have n2_:=Za (hbox);have n3_:=Za ((by rw[hg];exact(Zz (by repeat(first|(with_reducible first|exact HB.out|apply Zp|apply Zn|apply Zr|refine Zq ?_ GE39001.out)|exact HB.out))):w.heap.size≤gb39002));have n4_:=Za ((by rw[hg];exact(Zz (by repeat(first|(with_reducible first|exact HB.out|apply Zp|apply Zn|apply Zr|refine Zq ?_ GE39001.out)|exact HB.out))):w.heap.size≤gb39002));have n5_:=Za ((by rw[hg];exact Nat.ne_of_lt (ZK (g:=gb39001) (o:=.cells #[.slice A0_0 l0_0.length c0_0,.slice A0_1 l0_1.length c0_1,.int .i64 a0_2] 35 (0,0)) (by(with_reducible repeat(first|refine Zs ?_ _|refine Zu ?_|refine Zt ?_ _));exact BK39001.out)):gb39001≠gb39002));have n6_:=Za ((by rw[hg];exact Nat.ne_of_gt (ZK (g:=gb39001) (o:=.cells #[.slice A0_0 l0_0.length c0_0,.slice A0_1 l0_1.length c0_1,.int .i64 a0_2] 35 (0,0)) (by(with_reducible repeat(first|refine Zs ?_ _|refine Zu ?_|refine Zt ?_ _));exact BK39001.out)):gb39002≠gb39001));clear BK39001;clear HB;have BK39001:=n0_;have HB:=n1_;have BK39002:=n2_;have GW39002:=n3_;have GE39002:=n4_;have NB39001_39002:=n5_;have NB39002_39001:=n6_;clear n0_ n1_ n2_ n3_ n4_ n5_ n6_;clear hb hbox hg;have hnb29:=NB39001_39002.out;have hnc29:=NB39002_39001.out;have hcz30_0:w28.cell? ⟨gb39001,0,none⟩=some (.slice A0_0 l0_0.length c0_0):=(Zm BK39001.out 0).trans rfl;have hcz30_1:w28.cell? ⟨gb39001,1,none⟩=some (.slice A0_1 l0_1.length c0_1):=(Zm BK39001.out 1).trans rfl;have hcz30_2:w28.cell? ⟨gb39001,2,none⟩=some (.int .i64 a0_2):=(Zm BK39001.out 2).trans rfl;have hfz30_0:=Zo BK39001.out 0;have hfz30_1:=Zo BK39001.out 1;have hfz30_2:=Zo BK39001.out 2;have hcz31_0:w28.cell? ⟨gb39002,0,none⟩=some (.int .i64 a1_0):=(Zm BK39002.out 0).trans rfl;have hcz31_1:w28.cell? ⟨gb39002,1,none⟩=some (.slice A1_1 l1_1.length c1_1):=(Zm BK39002.out 1).trans rfl;have hcz31_2:w28.cell? ⟨gb39002,2,none⟩=some (.slice A1_2 l1_2.length c1_2):=(Zm BK39002.out 2).trans rfl;have hfz31_0:=Zo BK39002.out 0;have hfz31_1:=Zo BK39002.out 1;have hfz31_2:=Zo BK39002.out 2)|((with_reducible refine ZH (f:=95) rfl ?_);refine ZW (some 9) rfl rfl Try.func95 (by kernel_rfl) rfl #[.agg #[.slice A0_0 l0_0.length c0_0,.slice A0_1 l0_1.length c0_1,.int .i64 a0_2],.agg #[.int .i64 a1_0,.slice A1_1 l1_1.length c1_1,.slice A1_2 l1_2.length c1_2]] rfl (by(try simp only[List.map_toArray,List.map_cons,List.map_nil]);first|done|rfl|(simp only[Zk,Zj];rfl)) ?_;(with_reducible refine(ZJ.calls k _ _ l0_0 _ _ l0_1 a0_2 a1_0 _ _ l1_1 _ _ l1_2 false _ ?side1 ?side2 ?side3 ?side4 ?side5 ?side6 ?side7 ?side8 A4.out).mono ?_);(case side1=>repeat(first|exact(Zb HR0_0.out HB.out)|(with_reducible refine Kd.C_alloc ?_ _)|(with_reducible refine Kd.C_drewN ?_ _)|(with_reducible refine Kd.C_drew ?_)));(case side2=>exact HC0_0.out);(case side3=>repeat(first|exact(Zb HR0_1.out HB.out)|(with_reducible refine Kd.C_alloc ?_ _)|(with_reducible refine Kd.C_drewN ?_ _)|(with_reducible refine Kd.C_drew ?_)));(case side4=>exact HC0_1.out);(case side5=>repeat(first|exact(Zb HR1_1.out HB.out)|(with_reducible refine Kd.C_alloc ?_ _)|(with_reducible refine Kd.C_drewN ?_ _)|(with_reducible refine Kd.C_drew ?_)));(case side6=>exact HC1_1.out);(case side7=>repeat(first|exact(Zb HR1_2.out HB.out)|(with_reducible refine Kd.C_alloc ?_ _)|(with_reducible refine Kd.C_drewN ?_ _)|(with_reducible refine Kd.C_drew ?_)));(case side8=>exact HC1_2.out);rintro e w32 ⟨rfl,hb⟩;refine⟨_,rfl,?_⟩;have n0_:=Za (Zw (g:=gb39001) (o:=.cells #[.slice A0_0 l0_0.length c0_0,.slice A0_1 l0_1.length c0_1,.int .i64 a0_2] 35 (0,0)) (by(with_reducible repeat(first|refine Zs ?_ _|refine Zu ?_|refine Zt ?_ _));exact BK39001.out) hb);have n1_:=Za (Zw (g:=gb39002) (o:=.cells #[.int .i64 a1_0,.slice A1_1 l1_1.length c1_1,.slice A1_2 l1_2.length c1_2] 66 (0,0)) (by(with_reducible repeat(first|refine Zs ?_ _|refine Zu ?_|refine Zt ?_ _));exact BK39002.out) hb);have n2_:=Za (Zv (by repeat(first|(with_reducible first|exact HB.out|apply Zp|apply Zn|apply Zr|refine Zq ?_ GE39001.out|refine Zq ?_ GE39002.out)|exact HB.out)) hb);clear BK39001;clear BK39002;clear HB;have BK39001:=n0_;have BK39002:=n1_;have HB:=n2_;clear n0_ n1_ n2_;(try clear hb);(try clear hb2);(try clear hk);(try clear hi)))
  go_ret
  exact⟨by first|rfl|(simp[Zy,Zx] <;> rfl)|(simp[*,Zy,Zx] <;> rfl),by repeat(first|(with_reducible first|exact HB.out|apply Zp|apply Zn|apply Zr|refine Zq ?_ GE39001.out|refine Zq ?_ GE39002.out)|exact HB.out)⟩
end Go.Proofs.Ytodfnelilhjoeaa.Pr
namespace Go.Proofs.Ytodfnelilhjoeaa.Pr
open Go.RowKit Go.Proofs.YtodfnelilhjoeaaW.PrintWords Go.Proofs.Ytodfnelilhjoeaa.Ni
theorem Zd1 {ns:List ZX} (h:Zax ns=true):∀n∈ns,labB n.f1=true:=by
 intro n hn
 obtain⟨j,hj,rfl⟩:=List.mem_iff_getElem.1 hn
 have:=ZcS h j hj
 unfold Zb3 Zcc at this
 rw[show ns.getD j z116=ns[j] by rw[List.getD_eq_getElem?_getD,Zl hj];rfl] at this
 simp only[Bool.and_eq_true] at this
 exact this.1.1.2
theorem rdN_mem' {ns:List ZX} {i:Int} (h0:0≤i) (h1:i<ns.length):ZA ns i∈ns:=by
 obtain⟨m,rfl⟩:=Int.eq_ofNat_of_zero_le h0
 rw[show ZA ns ((m:Nat):Int)=ns.getD m z116 from ZbB ns m]
 exact Zbq (by omega) _
theorem ZdH {n x:Int} (h:Zbl n x=true):0≤x∧x<n:=by
 unfold Zbl at h
 rw[Bool.and_eq_true,decide_eq_true_eq,decide_eq_true_eq] at h
 exact h
theorem ZcB {ns:List ZX} {ts:List PTie} {z now:Int} {tm vs:List Int} (h:Zbi ns ts z now tm vs=true):ZaU ns ts z=true∧Zce ns z now tm vs=true:=by
 unfold Zbi at h
 rw[Bool.and_eq_true] at h
 exact h
theorem Zcl {ns:List ZX} {z now:Int} {tm vs:List Int} (h:Zce ns z now tm vs=true):ZaY vs=true:=by
 unfold Zce at h
 simp only[Bool.and_eq_true] at h
 exact h.2.2.2.1
def Zca (ns:List ZX) (vs:List Int) (i:Int):Int:=stB (ZA ns i).f1 vs
theorem ZbP {ns:List ZX} {ts:List PTie} (z now:Int) (tm vs:List Int) (i:Int) (hc:Zbh ns ts) (hn:Zax ns=true) (hv:ZaY vs=true) (h0:0≤i) (h1:i<ns.length) (k:Nat) (hk:2 ^ 65≤k):ZV.f k ns ts z now tm vs i=some (Zca ns vs i):=by
 have hm:=rdN_mem' h0 h1
 have hs:=(hc.2.2 _ hm).2
 unfold ZV.f Zca
 rw[if_pos h0,if_pos h1,ZdE _ vs (by omega) k hk,Zi]
 unfold labStB
 rw[Zd1 hn _ hm,hv];rfl
theorem Zcb {ns:List ZX} {ts:List PTie} (vs:List Int) (i:Int) (hc:Zbh ns ts) (hn:Zax ns=true) (hv:ZaY vs=true) (h0:0≤i) (h1:i<ns.length) (k:Nat) (hk:2 ^ 64≤k):ZQ.f k (ZA ns i).f1 vs=some (Zca ns vs i):=by
 have hm:=rdN_mem' h0 h1
 have hs:=(hc.2.2 _ hm).2
 exact l07State_f _ vs (by omega) (labB_all (Zd1 hn _ hm)) hv k hk
def ZcD (ns:List ZX) (ts:List PTie) (z now:Int) (tm vs:List Int) (i:Int):Int:=if Zbi ns ts z now tm vs && Zbl ns.length i then Zca ns vs i else -1
theorem impl_NodeState_f {ns:List ZX} {ts:List PTie} {z:Int} (now:Int) (tm vs:List Int) (i:Int) (hc:Zbh ns ts) (hn2:now≤9223372036854775807) (k:Nat) (hk:2 ^ 66≤k):Zb5.f k ns ts z now tm vs i=some (ZcD ns ts z now tm vs i):=by
 unfold Zb5.f ZcD
 rw[Zco now tm vs hc hn2 k (by omega),Zi,isNode_f]
 cases hch:Zbi ns ts z now tm vs with
 | false=>rfl
 | true=>
  rw[if_pos rfl,Zi,Bool.true_and]
  cases hi:Zbl ns.length i with
  | false=>rfl
  | true=>
   have h:=ZdH hi
   have hh:=ZcB hch
   rw[if_pos rfl,ZbP z now tm vs i hc (Zb2 hh.1) (Zcl hh.2) h.1 h.2 k (by omega)];rfl
theorem spec_NodeState_f {ns:List ZX} {ts:List PTie} {z:Int} (now:Int) (tm vs:List Int) (i:Int) (hc:Zbh ns ts) (hn2:now≤9223372036854775807) (hvl:vs.length≤9223372036854775807) (k:Nat) (hk:2 ^ 67≤k):ZaJ.f k ns ts z now tm vs i=some (ZcD ns ts z now tm vs i):=by
 have hsz:=hc.1
 unfold ZaJ.f ZcD
 rw[Zcm now tm vs hc hn2 hvl k (by omega),Zi,Za5 (i:=(ns.length:Int) - 1) (by omega) (by omega),ZcH,in_same]
 cases hch:Zbi ns ts z now tm vs with
 | false=>rfl
 | true=>
  rw[if_pos rfl,Zi,Bool.true_and]
  cases hi:Zbl ns.length i with
  | false=>rfl
  | true=>
   have h:=ZdH hi
   have hh:=ZcB hch
   rw[if_pos rfl,if_pos h.1,if_pos h.2,Zcb vs i hc (Zb2 hh.1) (Zcl hh.2) h.1 h.2 k (by omega)];rfl
def ZcC (p:Nat→Bool) (n:Nat):List Int:=((List.range n).filter p).map fun i:Nat=>(i:Int)
theorem ZdZ (p:Nat→Bool) (n:Nat):ZcC p (n+1)=if p n=true then ZcC p n ++ [(n:Int)] else ZcC p n:=by
 unfold ZcC
 rw[List.range_succ,List.filter_append,List.map_append]
 by_cases h:p n=true
 ·rw[if_pos h,List.filter_cons_of_pos h];rfl
 ·rw[if_neg h,List.filter_cons_of_neg (by simpa using h)];simp
theorem Zdt (p:Nat→Bool) (n:Nat):(ZcC p n).length≤n:=by
 unfold ZcC
 rw[List.length_map]
 exact Nat.le_trans (List.length_filter_le _ _) (by simp)
end Go.Proofs.Ytodfnelilhjoeaa.Pr
