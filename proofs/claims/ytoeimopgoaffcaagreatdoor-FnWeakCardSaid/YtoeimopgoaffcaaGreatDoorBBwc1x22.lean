/- By a program of this session. -/
import Derived.Test.YtoeimopgoaffcaaGreatDoorBBwc1x21
namespace Go.Proofs.YtoeimopgoaffcaaGreatDoor.Pr
open RowKit YtoeimopgoaffcaaGreatDoorW.PrintWords YtoeimopgoaffcaaGreatDoorW.PrintLast YtoeimopgoaffcaaGreatDoorW.PrintMore
attribute [local go_sem] Zak Zai Zax Zaw Zac Zab Zaj Zah
set_option linter.unusedVariables false
set_option linter.unusedSimpArgs false
open Ni
def ZcY (ns:List S39) (y:S39) (i:Int):Bool:=nodeB y.f0 y.f1 y.f2 && !(Zeh ns y.f0 != i) && (!(y.f2 != 0) || !(Zcr ns y.f2 != i))
def Zbp (ns:List S39) (i:Nat):Nat→Bool
 | 0=>true
 | d+1=>ZcY ns (ZJ ns i) i && Zbp ns (i+1) d
def hasB (l:List Int) (x:Int):Bool:=l.any fun y=>decide (x=y)
def Zed (ns:List S39) (lb:List Int) (x w:Int):Bool:=!(decide (w<0)) && !(hasB (ZJ ns w).f1 x) && !(hasB (ZJ ns w).f1 (-x)) && impB lb (ZJ ns w).f1
def Zdn (ns:List S39) (lb:List Int) (x:Int):Bool:=Zed ns lb x (Zcr ns (prp x))
def ZcX (ns:List S39) (n:S39):Bool:=n.f1.all (Zdn ns n.f1)
def Zce (ns:List S39):Bool:=inB ns.length 1 7 && !(decide (((ZJ ns 0).f1.length:Int) > 0)) && !((ZJ ns 0).f2 != 0) && Zbp ns 0 ns.length && ns.all (ZcX ns)
theorem Zft {ns:List S39} {i:Nat} (h:i<ns.length):Zbp ns i (ns.length - i)=(ZcY ns (ZJ ns i) i && Zbp ns (i+1) (ns.length - (i+1))):=by
 rw[show ns.length - i=(ns.length - (i+1))+1 by omega];rfl
theorem ZfU {ns:List S39} (h:Zbp ns 0 ns.length=true):∀n∈ns,∀x∈n.f1,ZbH x=true:=by
 have key:∀(d i:Nat),Zbp ns i d=true→∀j,i≤j→j<i+d→ZcY ns (ZJ ns (j:Nat)) j=true:=by
  intro d
  induction d with
  | zero=>intro i _ j h1 h2;omega
  | succ d ih=>
   intro i h j h1 h2
   rw[Zbp,Bool.and_eq_true] at h
   by_cases e:j=i
   ·rw[e];exact h.1
   ·exact ih (i+1) h.2 j (by omega) (by omega)
 intro n hn x hx
 obtain⟨j,hj,rfl⟩:=List.mem_iff_getElem.1 hn
 have:=key _ _ h j (Nat.zero_le _) (by omega)
 rw[Zcm,show ns.getD j z39=ns[j] by rw[List.getD_eq_getElem?_getD,Zl hj];rfl] at this
 unfold ZcY nodeB labB at this
 simp only[Bool.and_eq_true] at this
 exact Zec _ _ this.1.1.1.2 x hx
def ZbC.f (l0_0:List (S39)) (l0_1:List (S82)) (a0_2:Int):Option Bool:=if fitN l0_0=true then some (Zce l0_0) else none
set_option maxHeartbeats 8000000 in
set_option maxRecDepth 100000 in
theorem ZbC.calls (A0_0:Option Addr) (c0_0:Nat) (l0_0:List (S39)) (A0_1:Option Addr) (c0_1:Nat) (l0_1:List (S82)) (a0_2:Int) (r:Bool) (w:World) (hr0_0:Kd.C k39 w A0_0 l0_0.length l0_0) (hc0_0:l0_0.length≤c0_0) (hr0_1:Kd.C k82 w A0_1 l0_1.length l0_1) (hc0_1:l0_1.length≤c0_1) (h:ZbC.f l0_0 l0_1 a0_2=some r) :
  Calls Tryz.prog 126 #[.agg #[.slice A0_0 l0_0.length c0_0,.slice A0_1 l0_1.length c0_1,.int .i64 a0_2]] w fun e w'=>e=.returned (.bool r)∧Below w.heap.size w w':=by
 by_cases hfit:fitN l0_0=true
 case neg=>rw[ZbC.f,if_neg hfit] at h;exact absurd h (by simp)
 rw[ZbC.f,if_pos hfit] at h
 obtain rfl:=Zg h
 have HFI:=Za (fitN_iff hfit)
 have hL:l0_0.length≤9223372036854775807:=hr0_0.2.1
 have HRn:=Za hr0_0;have HRt:=Za hr0_1;have HCn:=Za hc0_0;have HCt:=Za hc0_1;clear hr0_0 hr0_1 hc0_0 hc0_1 h hfit
 have hu:=Tryz.underlying25
 have hu2:=Tryz.underlying39
 have HI:=Za fun (W:World)=>Zbz (l0_0.length:Int) 1 7 W
 cases b0:inB (l0_0.length:Int) 1 7 with
 | false=>
  have HF:=Za (show Zce l0_0=false by simp[Zce,b0])
  rw[b0] at HI
  clear b0
  go_enter Tryz.func126,Tryz.ntmps126
  go_wp2_with (go_at_call 127;refine(HI.out _).mono ?_;rintro e w' ⟨rfl,nd,rfl⟩)
  go_ret
  exact⟨by rw[HF.out];rfl,by repeat(first|exact Below.refl _ _|apply Zo|apply Zn|apply Zp)⟩
 | true=>
 rw[b0] at HI
 have hb:=b0
 simp only[inB,Bool.and_eq_true,decide_eq_true_eq] at hb
 have hpos:(0:Int)<(l0_0.length:Int):=by omega
 have HL7:=Za hb.2
 obtain⟨ad,Az,cz,e1,hz0,hz1,hz2,lz,gz⟩:=ZaX HRn.out (0:Int) (Int.le_refl 0) hpos
 cases e1
 replace hz1:w.cell? ⟨ad.block,ad.off+1,none⟩=some (.slice Az (ZJ l0_0 0).f1.length cz):=hz1
 replace hz2:w.cell? ⟨ad.block,ad.off+2,none⟩=some (.int .i64 (ZJ l0_0 0).f2):=hz2
 have hltz:=Zc w _ hz1
 clear hb lz gz hz0
 cases zl:(ZJ l0_0 0).f1.length with
 | succ m=>
  rw[zl] at hz1
  have b1:decide (((ZJ l0_0 0).f1.length:Int) > 0)=true:=Ze (by omega)
  have HF:=Za (show Zce l0_0=false by simp only[Zce,b1,Bool.not_true,Bool.and_false,Bool.false_and])
  clear b0 b1 zl
  go_enter Tryz.func126,Tryz.ntmps126
  go_wp2_with (go_at_call 127;refine(HI.out _).mono ?_;rintro e w' ⟨rfl,nd,rfl⟩)
  go_ret
  exact⟨by rw[HF.out];rfl,by repeat(first|exact Below.refl _ _|apply Zo|apply Zn|apply Zp)⟩
 | zero=>
 rw[zl] at hz1
 have b1:decide (((ZJ l0_0 0).f1.length:Int) > 0)=false:=Zf (by omega)
 clear zl
 cases b2:((ZJ l0_0 0).f2 != 0) with
 | true=>
  have HF:=Za (show Zce l0_0=false by simp only[Zce,b2,Bool.not_true,Bool.and_false,Bool.false_and])
  clear b0
  go_enter Tryz.func126,Tryz.ntmps126
  go_wp2_with (go_at_call 127;refine(HI.out _).mono ?_;rintro e w' ⟨rfl,nd,rfl⟩)
  go_ret
  exact⟨by rw[HF.out];rfl,by repeat(first|exact Below.refl _ _|apply Zo|apply Zn|apply Zp)⟩
 | false=>
 have HF:=Za (show Zce l0_0=(Zbp l0_0 0 l0_0.length && l0_0.all (ZcX l0_0)) by simp only[Zce,b0,b1,b2,Bool.not_false,Bool.and_true,Bool.true_and])
 have HA:=Za (Zo (Below.refl w.heap.size w) (.cells #[.slice (some ad) l0_0.length c0_0,.slice A0_1 l0_1.length c0_1,.int .i64 a0_2] 25))
 clear b0 b1
 go_enter Tryz.func126,Tryz.ntmps126
 go_wp2_with (go_at_call 127;refine(HI.out _).mono ?_;rintro e w' ⟨rfl,nd,rfl⟩)
 clear b2 hz1 hz2 HI
 go_loopg [35] l0_0.length (fun gg s35 wr=>∃kk:Nat,Aside0 (kk≤l0_0.length)∧Aside0 (l0_0.length - kk≤gg)∧s35=.int .i64 kk∧Aside0 (Below w.heap.size w wr)∧Aside0 (w.heap.size<wr.heap.size)∧Aside0 (wr.cell? ⟨w.heap.size,0,none⟩=some (.slice (some ad) l0_0.length c0_0)∧wr.cell? ⟨w.heap.size,1,none⟩=some (.slice A0_1 l0_1.length c0_1)∧wr.cell? ⟨w.heap.size,2,none⟩=some (.int .i64 a0_2))∧Aside0 (Zbp l0_0 0 l0_0.length=Zbp l0_0 kk (l0_0.length - kk)))
 case atStart=>exact⟨0,⟨Nat.zero_le _⟩,⟨by omega⟩,rfl,⟨Zn HA.out nd⟩,⟨by simp⟩,⟨by go_simp,by go_simp,by go_simp⟩,⟨rfl⟩⟩
 case round=>
  obtain⟨kk,HK',HG,rfl,HBr,HS,HX,HN'⟩:=hrel
  have hsz:=HS.out
  obtain⟨hb0,hb1,hb2_⟩:=HX.out
  by_cases hlt:kk<l0_0.length
  ·have hltz:(kk:Int)<(l0_0.length:Int):=by omega
   obtain⟨ad2,Am,cm,e1,hm0,hm1,hm2,lm,gm⟩:=ZaX HRn.out (kk:Int) (by omega) hltz
   cases e1
   have hmem:=Za (ZaJ hlt z39)
   have HST:=Za (Zft hlt)
   rw[← Zcm] at hmem
   rw[Int.toNat_natCast] at hm0 hm1 hm2
   generalize ZJ l0_0 (kk:Int)=y at hm0 hm1 hm2 lm gm hmem HST
   replace hm0:=Zx HBr.out hm0
   replace hm1:=Zx HBr.out hm1
   replace hm2:=Zx HBr.out hm2
   have hlta:=Zc wr _ hm0
   have LM:=Za lm
   have GM:=Za (Zb gm HBr.out)
   clear lm gm
   have B2:=Za (Zo (Below.refl wr.heap.size wr) (.cells #[.string y.f0,.slice Am y.f1.length cm,.int .i64 y.f2] 39))
   have HK:=Za fun (W:World) (hA:Below (wr.alloc (.cells #[.string y.f0,.slice Am y.f1.length cm,.int .i64 y.f2] 39)).heap.size (wr.alloc (.cells #[.string y.f0,.slice Am y.f1.length cm,.int .i64 y.f2] 39)) W)=>And.intro (B2.out.trans (hA.mono B2.out.size)) (And.intro (Zx hA (showCell0 wr _ _ _ _)) (And.intro (Zx hA (showCell1 wr _ _ _ _)) (And.intro (Zx hA (showCell2 wr _ _ _ _)) (And.intro (Zx (B2.out.trans (hA.mono B2.out.size)) HX.out.1) (And.intro (Zx (B2.out.trans (hA.mono B2.out.size)) HX.out.2.1) (Zx (B2.out.trans (hA.mono B2.out.size)) HX.out.2.2))))))
   have HC1:=Za fun (W:World) (hb:Below wr.heap.size wr W)=>Zda.calls (2 ^ 64) y.f0 Am cm y.f1 y.f2 _ W (Zb GM.out hb) LM.out (Zgx _ _ _ (HFI.out y hmem.out).1 (HFI.out y hmem.out).2 _ (Nat.le_refl _))
   have HC2:=Za fun (W:World) (hb:Below wr.heap.size wr W)=>ZaQ.calls (2 ^ 64) (some ad) c0_0 l0_0 A0_1 c0_1 l0_1 a0_2 y.f0 _ W (Zb (Zb HRn.out HBr.out) hb) HCn.out (Zb (Zb HRt.out HBr.out) hb) HCt.out (Zfj l0_0 l0_1 a0_2 y.f0 hL _ (Nat.le_refl _))
   have HC3:=Za fun (W:World) (hb:Below wr.heap.size wr W)=>ZZ.calls (2 ^ 64) (some ad) c0_0 l0_0 A0_1 c0_1 l0_1 a0_2 y.f2 _ W (Zb (Zb HRn.out HBr.out) hb) HCn.out (Zb (Zb HRt.out HBr.out) hb) HCt.out (ZdU l0_0 l0_1 a0_2 y.f2 hL _ (Nat.le_refl _))
   have bad:ZcY l0_0 y kk=false→Aside0 (Zce l0_0=false):=fun hh=>⟨by rw[HF.out,HN'.out,HST.out,hh];rfl⟩
   have good:ZcY l0_0 y kk=true→Aside0 (Zbp l0_0 0 l0_0.length=Zbp l0_0 (kk+1) (l0_0.length - (kk+1))):=fun hh=>⟨by rw[HN'.out,HST.out,hh,Bool.true_and]⟩
   clear HN' HST hmem
   cases c1:nodeB y.f0 y.f1 y.f2 with
   | false=>
    rw[c1] at HC1
    have HF2:=bad (by simp only[ZcY,c1,Bool.false_and])
    clear bad good c1
    go_wp2_with (go_at_call 176;refine(HC1.out _ B2.out).mono ?_;rintro e w3 ⟨rfl,hA⟩;obtain⟨hB,hc0,hc1,hc2,hs0,hs1,hs2⟩:=HK.out _ hA)
    go_ret
    exact⟨by rw[HF2.out];rfl,HBr.out.trans (hB.mono HBr.out.size)⟩
   | true=>
   rw[c1] at HC1
   cases c2:(Zeh l0_0 y.f0 != (kk:Int)) with
   | true=>
    have HF2:=bad (by simp only[ZcY,c2,Bool.false_and,Bool.and_false,Bool.not_true,Bool.or_self])
    clear bad good
    go_wp2_with (first|(go_at_call 176;refine(HC1.out _ B2.out).mono ?_;rintro e w3 ⟨rfl,hA⟩;obtain⟨hB,hc0,hc1,hc2,hs0,hs1,hs2⟩:=HK.out _ hA)|(go_at_call 125;refine(HC2.out _ hB).mono ?_;rintro e w4 ⟨rfl,hb⟩;replace hA:=hA.trans (hb.mono hA.size);clear hB hc0 hc1 hc2 hs0 hs1 hs2;obtain⟨hB,hc0,hc1,hc2,hs0,hs1,hs2⟩:=HK.out _ hA;clear hb)|(go_at_call 97;refine(HC3.out _ hB).mono ?_;rintro e w5 ⟨rfl,hb⟩;replace hA:=hA.trans (hb.mono hA.size);clear hB hc0 hc1 hc2 hs0 hs1 hs2;obtain⟨hB,hc0,hc1,hc2,hs0,hs1,hs2⟩:=HK.out _ hA;clear hb))
    go_ret
    exact⟨by rw[HF2.out];rfl,HBr.out.trans (hB.mono HBr.out.size)⟩
   | false=>
   cases c3:(y.f2 != 0) with
   | false=>
    have HF2:=good (by simp only[ZcY,c1,c2,c3,Bool.not_false,Bool.and_true,Bool.true_or,Bool.or_true])
    clear bad good
    go_wp2_with (first|(go_at_call 176;refine(HC1.out _ B2.out).mono ?_;rintro e w3 ⟨rfl,hA⟩;obtain⟨hB,hc0,hc1,hc2,hs0,hs1,hs2⟩:=HK.out _ hA)|(go_at_call 125;refine(HC2.out _ hB).mono ?_;rintro e w4 ⟨rfl,hb⟩;replace hA:=hA.trans (hb.mono hA.size);clear hB hc0 hc1 hc2 hs0 hs1 hs2;obtain⟨hB,hc0,hc1,hc2,hs0,hs1,hs2⟩:=HK.out _ hA;clear hb)|(go_at_call 97;refine(HC3.out _ hB).mono ?_;rintro e w5 ⟨rfl,hb⟩;replace hA:=hA.trans (hb.mono hA.size);clear hB hc0 hc1 hc2 hs0 hs1 hs2;obtain⟨hB,hc0,hc1,hc2,hs0,hs1,hs2⟩:=HK.out _ hA;clear hb))
    go_roundg (l0_0.length - (kk+1))
    case measure=>have:=HG.out;omega
    case rel=>exact⟨kk+1,⟨by omega⟩,⟨by omega⟩,by go_num,⟨HBr.out.trans (hB.mono HBr.out.size)⟩,⟨by have:=hB.size;omega⟩,⟨Zx hB hb0,Zx hB hb1,Zx hB hb2_⟩,HF2⟩
   | true=>
   cases c4:(Zcr l0_0 y.f2 != (kk:Int)) with
   | true=>
    have HF2:=bad (by simp only[ZcY,c3,c4,Bool.false_and,Bool.and_false,Bool.not_true,Bool.or_self])
    clear bad good
    go_wp2_with (first|(go_at_call 176;refine(HC1.out _ B2.out).mono ?_;rintro e w3 ⟨rfl,hA⟩;obtain⟨hB,hc0,hc1,hc2,hs0,hs1,hs2⟩:=HK.out _ hA)|(go_at_call 125;refine(HC2.out _ hB).mono ?_;rintro e w4 ⟨rfl,hb⟩;replace hA:=hA.trans (hb.mono hA.size);clear hB hc0 hc1 hc2 hs0 hs1 hs2;obtain⟨hB,hc0,hc1,hc2,hs0,hs1,hs2⟩:=HK.out _ hA;clear hb)|(go_at_call 97;refine(HC3.out _ hB).mono ?_;rintro e w5 ⟨rfl,hb⟩;replace hA:=hA.trans (hb.mono hA.size);clear hB hc0 hc1 hc2 hs0 hs1 hs2;obtain⟨hB,hc0,hc1,hc2,hs0,hs1,hs2⟩:=HK.out _ hA;clear hb))
    go_ret
    exact⟨by rw[HF2.out];rfl,HBr.out.trans (hB.mono HBr.out.size)⟩
   | false=>
    have HF2:=good (by simp only[ZcY,c1,c2,c3,c4,Bool.not_false,Bool.and_true,Bool.true_or,Bool.or_true])
    clear bad good
    go_wp2_with (first|(go_at_call 176;refine(HC1.out _ B2.out).mono ?_;rintro e w3 ⟨rfl,hA⟩;obtain⟨hB,hc0,hc1,hc2,hs0,hs1,hs2⟩:=HK.out _ hA)|(go_at_call 125;refine(HC2.out _ hB).mono ?_;rintro e w4 ⟨rfl,hb⟩;replace hA:=hA.trans (hb.mono hA.size);clear hB hc0 hc1 hc2 hs0 hs1 hs2;obtain⟨hB,hc0,hc1,hc2,hs0,hs1,hs2⟩:=HK.out _ hA;clear hb)|(go_at_call 97;refine(HC3.out _ hB).mono ?_;rintro e w5 ⟨rfl,hb⟩;replace hA:=hA.trans (hb.mono hA.size);clear hB hc0 hc1 hc2 hs0 hs1 hs2;obtain⟨hB,hc0,hc1,hc2,hs0,hs1,hs2⟩:=HK.out _ hA;clear hb))
    go_roundg (l0_0.length - (kk+1))
    case measure=>have:=HG.out;omega
    case rel=>exact⟨kk+1,⟨by omega⟩,⟨by omega⟩,by go_num,⟨HBr.out.trans (hB.mono HBr.out.size)⟩,⟨by have:=hB.size;omega⟩,⟨Zx hB hb0,Zx hB hb1,Zx hB hb2_⟩,HF2⟩
  ·have hltz:¬(kk:Int)<(l0_0.length:Int):=by omega
   have:kk=l0_0.length:=by have:=HK'.out;omega
   subst this
   have hall:Zbp l0_0 0 l0_0.length=true:=by rw[HN'.out,Nat.sub_self];rfl
   have HLB:=Za (ZfU hall)
   have HF1:=Za (show Zce l0_0=l0_0.all (ZcX l0_0) by rw[HF.out,hall,Bool.true_and])
   clear hall HN' HF HK'
   go_wp2
   go_loopg [68] l0_0.length (fun gg s68 wr=>∃kk:Nat,Aside0 (kk≤l0_0.length)∧Aside0 (l0_0.length - kk≤gg)∧s68=.int .i64 kk∧Aside0 (Below w.heap.size w wr)∧Aside0 (w.heap.size<wr.heap.size)∧Aside0 (wr.cell? ⟨w.heap.size,0,none⟩=some (.slice (some ad) l0_0.length c0_0)∧wr.cell? ⟨w.heap.size,1,none⟩=some (.slice A0_1 l0_1.length c0_1)∧wr.cell? ⟨w.heap.size,2,none⟩=some (.int .i64 a0_2))∧Aside0 (l0_0.all (ZcX l0_0)=(l0_0.drop kk).all (ZcX l0_0)))
   case atStart=>exact⟨0,⟨Nat.zero_le _⟩,⟨by omega⟩,rfl,HBr,HS,HX,⟨rfl⟩⟩
   case round=>
    clear hb0 hb1 hb2_ hsz HBr HS HX HG
    obtain⟨kk,HK',HG,rfl,HBr,HS,HX,HN'⟩:=hrel
    have hsz:=HS.out
    obtain⟨hb0,hb1,hb2_⟩:=HX.out
    by_cases hlt:kk<l0_0.length
    ·have hltz:(kk:Int)<(l0_0.length:Int):=by omega
     obtain⟨ad2,Am,cm,e1,hm0,hm1,hm2,lm,gm⟩:=ZaX HRn.out (kk:Int) (by omega) hltz
     cases e1
     have hmem:=Za (ZaJ hlt z39)
     have HDR:=Za (Zal hlt z39)
     rw[← Zcm] at hmem HDR
     rw[Int.toNat_natCast] at hm0 hm1 hm2
     generalize ZJ l0_0 (kk:Int)=y at hm0 hm1 hm2 lm gm hmem HDR
     replace hm0:=Zx HBr.out hm0
     replace hm1:=Zx HBr.out hm1
     replace hm2:=Zx HBr.out hm2
     have hlta:=Zc _ _ hm0
     have LM:=Za lm
     have GM:=Za (Zb gm HBr.out)
     clear lm gm
     go_wp2
     go_loopg [75] y.f1.length (fun gg s75 wv=>∃jj:Nat,Aside0 (jj≤y.f1.length)∧Aside0 (y.f1.length - jj≤gg)∧s75=.int .i64 jj∧Aside0 (Below wr.heap.size wr wv)∧Aside0 (wr.heap.size<wv.heap.size)∧Aside0 (wv.cell? ⟨wr.heap.size,1,none⟩=some (.slice Am y.f1.length cm))∧Aside0 (y.f1.all (Zdn l0_0 y.f1)=(y.f1.drop jj).all (Zdn l0_0 y.f1)))
     case atStart=>exact⟨0,⟨Nat.zero_le _⟩,⟨by omega⟩,rfl,⟨Zo (Below.refl _ _) _⟩,⟨by simp⟩,⟨by go_simp⟩,⟨rfl⟩⟩
     case round=>
      obtain⟨jj,HJ',HGj,rfl,HBv,HSv,HXv,HNv⟩:=hrel
      have hszv:=HSv.out
      have hv1:=HXv.out
      have hLy:y.f1.length≤9223372036854775807:=(HFI.out y hmem.out).2
      have hv0:=Zx HBv.out hb0
      have hv2:=Zx HBv.out hb1
      have hv3:=Zx HBv.out hb2_
      by_cases hltj:jj<y.f1.length
      ·have hltjz:(jj:Int)<(y.f1.length:Int):=by omega
       obtain⟨adx,ex,hx⟩:=Kd.at_int GM.out (jj:Int) (by omega) hltjz
       cases ex
       have hxm:=ZaJ hltj (0:Int)
       have HDX:=Za (Zal hltj (0:Int))
       rw[← ZaW] at hxm HDX
       rw[Int.toNat_natCast] at hx
       have hxl:=HLB.out y hmem.out _ hxm
       generalize rd y.f1 (jj:Int)=x at hx hxm HDX hxl
       replace hx:=Zx HBv.out hx
       have hltx:=Zc _ _ hx
       have hx3:=(Zb4 x).1 hxl
       have hng:wrap64 (-x) = -x:=Z9 (by omega) (by omega)
       have HP:=Za fun (W:World)=>(ZaH.calls x _ W (ZeR hxl)).mono fun e w' hh=>(And.intro hh.1 hh.2.out:e=.returned (.int .i64 (prp x))∧∃n,w'=W.drewN n)
       have HW:=Za fun (W:World) (hb:Below wr.heap.size wr W)=>ZZ.calls (2 ^ 64) (some ad) c0_0 l0_0 A0_1 c0_1 l0_1 a0_2 (prp x) _ W (Zb (Zb (Zb HRn.out HBr.out) HBv.out) hb) HCn.out (Zb (Zb (Zb HRt.out HBr.out) HBv.out) hb) HCt.out (ZdU l0_0 l0_1 a0_2 (prp x) hL _ (Nat.le_refl _))
       have hbd:=Zet (fun n:ZK=>decide (n.f2=prp x)) l0_0
       replace hbd : -1≤Zcr l0_0 (prp x)∧Zcr l0_0 (prp x)<l0_0.length:=hbd
       have bad:Zed l0_0 y.f1 x (Zcr l0_0 (prp x))=false→Aside0 (Zce l0_0=false):=fun hh=>⟨by
        rw[HF1.out,HN'.out,HDR.out,List.all_cons,show ZcX l0_0 y=false by
         unfold ZcX
         rw[HNv.out,HDX.out,List.all_cons,show Zdn l0_0 y.f1 x=false from hh];rfl];rfl⟩
       have good:Zed l0_0 y.f1 x (Zcr l0_0 (prp x))=true→Aside0 (y.f1.all (Zdn l0_0 y.f1)=(y.f1.drop (jj+1)).all (Zdn l0_0 y.f1)):=fun hh=>⟨by
        rw[HNv.out,HDX.out,List.all_cons,show Zdn l0_0 y.f1 x=true from hh];rfl⟩
       clear HNv HDX hxm hxl hx3
       generalize Zcr l0_0 (prp x)=wi at HW hbd bad good
       generalize prp x=px at HP HW
       go_wp2
       go_region_held3 (fun w'=>Below wr.heap.size wr w'∧w'.cell? ⟨w.heap.size,0,none⟩=some (.slice (some ad) l0_0.length c0_0)∧w'.cell? ⟨w.heap.size,1,none⟩=some (.slice A0_1 l0_1.length c0_1)∧w'.cell? ⟨w.heap.size,2,none⟩=some (.int .i64 a0_2))
        (first|(refine⟨by repeat(first|(with_reducible first|exact Below.refl _ _|apply Zo|apply Zn|apply Zp|assumption)|exact Below.refl _ _),?_⟩;go_simp;done)|(refine⟨Zr (by repeat(first|(with_reducible first|exact Below.refl _ _|apply Zo|apply Zn|apply Zp|assumption)|exact Below.refl _ _)) hb,Zx hb ?_,Zx hb ?_,Zx hb ?_⟩ <;> (go_simp;done)))
        (first|(go_at_call 98;refine(HP.out _).mono ?_;rintro e w' ⟨rfl,n,rfl⟩)|(go_at_call 97;(refine(HW.out _ ?s1).mono ?_);(case s1=>exact(by repeat(first|(with_reducible first|exact Below.refl _ _|apply Zo|apply Zn|apply Zp|assumption)|exact Below.refl _ _)));rintro e w' ⟨rfl,hb⟩))
       rename_i hHeld
       obtain⟨hbA,k0,k1,k2⟩:=hHeld
       clear hb hb0 hb1 hb2_ hv0 hv2 hv3 hx hm0 hm1 hm2 HP HW
       replace hv1:=Zx hbA hv1
       have HWA:=Za hbA
       have hbB:=hbA
       clear hbA
       cases d1:decide (wi<0) with
       | true=>
        have HF2:=bad (by simp only[Zed,d1,Bool.false_and,Bool.and_false,Bool.not_true])
        clear bad good
        go_wp2
        go_quiet (fail)
        go_wp2
        go_ret
        exact⟨by rw[HF2.out];rfl,HBr.out.trans ((Zn (HBv.out.trans (hbB.mono HBv.out.size)) _).mono HBr.out.size)⟩
       | false=>
       have pw0:(0≤wi)=True:=eq_true (by have:=of_decide_eq_false d1;omega)
       have pw1:(wi<(l0_0.length:Int))=True:=eq_true hbd.2
       obtain⟨ad3,An,cn,e3,hn0,hn1,hn2,ln,gn⟩:=ZaX HRn.out wi (of_eq_true pw0) (of_eq_true pw1)
       cases e3
       replace hn1:=Zx HWA.out (Zx HBv.out (Zx HBr.out hn1))
       have hltn:=Zc _ _ hn1
       have LN:=Za ln
       have GN:=Za fun n=>Zb (Zb (Zb (Zb gn HBr.out) HBv.out) HWA.out) (Zn (Below.refl w'.heap.size w') n)
       have GY:=Za fun n=>Zb (Zb (Zb GM.out HBv.out) HWA.out) (Zn (Below.refl w'.heap.size w') n)
       have bdn:(ZJ l0_0 wi).f1.length≤9223372036854775807:=gn.2.1
       clear hn0 hn2 ln gn hbd
       have es:Zed l0_0 y.f1 x wi=(!(decide (wi<0)) && !(hasB (ZJ l0_0 wi).f1 x) && !(hasB (ZJ l0_0 wi).f1 (-x)) && impB y.f1 (ZJ l0_0 wi).f1):=rfl
       rw[es] at bad good
       clear es
       generalize (ZJ l0_0 wi).f1=own at hn1 LN GN bad good bdn
       have HH1:=Za fun (n:Nat)=>(ZaO.calls (2 ^ 64) An cn own x _ (w'.drewN n) (GN.out n) LN.out (Zeq own x bdn _ (Nat.le_refl _))).mono fun e w'' hh=>(And.intro hh.1 hh.2.out:e=.returned (.bool (hasB own x))∧∃m,w''=(w'.drewN n).drewN m)
       have HH2:=Za fun (n:Nat)=>(ZaO.calls (2 ^ 64) An cn own (wrap64 (-x)) _ (w'.drewN n) (GN.out n) LN.out (by rw[hng];exact Zeq own (-x) bdn _ (Nat.le_refl _))).mono fun e w'' hh=>(And.intro hh.1 hh.2.out:e=.returned (.bool (hasB own (-x)))∧∃m,w''=(w'.drewN n).drewN m)
       have HH4:=Za fun (n:Nat)=>(ZaO.calls (2 ^ 64) An cn own (-x) _ (w'.drewN n) (GN.out n) LN.out (Zeq own (-x) bdn _ (Nat.le_refl _))).mono fun e w'' hh=>(And.intro hh.1 hh.2.out:e=.returned (.bool (hasB own (-x)))∧∃m,w''=(w'.drewN n).drewN m)
       have HH3:=Za fun (n:Nat)=>(ZW.calls (2 ^ 65) (some adx) cm y.f1 An cn own _ (w'.drewN n) (GY.out n) LM.out (GN.out n) LN.out (ZeC y.f1 own hLy bdn _ (Nat.le_refl _))).mono fun e w'' hh=>(And.intro hh.1 hh.2.out:e=.returned (.bool (impB y.f1 own))∧∃m,w''=(w'.drewN n).drewN m)
       clear GN GY bdn
       rw[d1] at bad good
       cases d2:hasB own x with
       | true=>
        rw[d2] at HH1
        have HF2:=bad (by simp only[d2,Bool.false_and,Bool.and_false,Bool.not_true])
        clear bad good
        go_wp2
        go_quiet (first|(go_at_call 177;with_reducible exact quiet0 (HH1.out _))|(go_at_call 177;with_reducible exact quiet0 (HH2.out _))|(go_at_call 177;with_reducible exact quiet0 (HH4.out _))|(go_at_call 178;with_reducible exact quiet0 (HH3.out _)))
        go_wp2
        go_ret
        exact⟨by rw[HF2.out];rfl,HBr.out.trans ((Zn (HBv.out.trans (hbB.mono HBv.out.size)) _).mono HBr.out.size)⟩
       | false=>
       rw[d2] at HH1
       cases d3:hasB own (-x) with
       | true=>
        rw[d3] at HH2 HH4
        have HF2:=bad (by simp only[d3,Bool.false_and,Bool.and_false,Bool.not_true])
        clear bad good
        go_wp2
        go_quiet (first|(go_at_call 177;with_reducible exact quiet0 (HH1.out _))|(go_at_call 177;with_reducible exact quiet0 (HH2.out _))|(go_at_call 177;with_reducible exact quiet0 (HH4.out _))|(go_at_call 178;with_reducible exact quiet0 (HH3.out _)))
        go_wp2
        go_ret
        exact⟨by rw[HF2.out];rfl,HBr.out.trans ((Zn (HBv.out.trans (hbB.mono HBv.out.size)) _).mono HBr.out.size)⟩
       | false=>
       rw[d3] at HH2 HH4
       cases d4:impB y.f1 own with
       | false=>
        rw[d4] at HH3
        have HF2:=bad (by simp only[d4,Bool.false_and,Bool.and_false,Bool.not_true])
        clear bad good
        go_wp2
        go_quiet (first|(go_at_call 177;with_reducible exact quiet0 (HH1.out _))|(go_at_call 177;with_reducible exact quiet0 (HH2.out _))|(go_at_call 177;with_reducible exact quiet0 (HH4.out _))|(go_at_call 178;with_reducible exact quiet0 (HH3.out _)))
        go_wp2
        go_ret
        exact⟨by rw[HF2.out];rfl,HBr.out.trans ((Zn (HBv.out.trans (hbB.mono HBv.out.size)) _).mono HBr.out.size)⟩
       | true=>
        rw[d4] at HH3
        have HF2:=good (by simp only[d2,d3,d4,Bool.not_false,Bool.and_true])
        clear bad good
        go_wp2
        go_quiet (first|(go_at_call 177;with_reducible exact quiet0 (HH1.out _))|(go_at_call 177;with_reducible exact quiet0 (HH2.out _))|(go_at_call 177;with_reducible exact quiet0 (HH4.out _))|(go_at_call 178;with_reducible exact quiet0 (HH3.out _)))
        go_wp2
        go_roundg (y.f1.length - (jj+1))
        case measure=>have:=HGj.out;omega
        case rel=>exact⟨jj+1,⟨by omega⟩,⟨by omega⟩,by go_num,⟨Zn (HBv.out.trans (hbB.mono HBv.out.size)) _⟩,⟨by have:=hbB.size;simp;omega⟩,⟨Zx (Zn (Below.refl _ _) _) hv1⟩,HF2⟩
      ·have hltjz:¬(jj:Int)<(y.f1.length:Int):=by omega
       have:jj=y.f1.length:=by have:=HJ'.out;omega
       subst this
       have HF2:=Za (show l0_0.all (ZcX l0_0)=(l0_0.drop (kk+1)).all (ZcX l0_0) by
        rw[HN'.out,HDR.out,List.all_cons,show ZcX l0_0 y=true by unfold ZcX;rw[HNv.out,List.drop_length];rfl];rfl)
       go_wp2
       go_roundg (l0_0.length - (kk+1))
       case measure=>have:=HG.out;omega
       case rel=>exact⟨kk+1,⟨by omega⟩,⟨by omega⟩,by go_num,⟨HBr.out.trans (HBv.out.mono HBr.out.size)⟩,⟨by omega⟩,⟨hv0,hv2,hv3⟩,HF2⟩
    ·have hltz:¬(kk:Int)<(l0_0.length:Int):=by omega
     have:kk=l0_0.length:=by have:=HK'.out;omega
     subst this
     have HF2:=Za (show Zce l0_0=true by rw[HF1.out,HN'.out,List.drop_length];rfl)
     go_wp2
     go_ret
     exact⟨by rw[HF2.out];rfl,HBr.out⟩
end Go.Proofs.YtoeimopgoaffcaaGreatDoor.Pr
