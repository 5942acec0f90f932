/- By a program of this session. -/
import Derived.Shelf.Strings.OnBuilder
import Derived.Shelf.Small.Strs
import Derived.Shelf.LaysM
import Derived.Shelf.Strconv.Itoa3
import Derived.Shelf.Strings.Split
import Derived.Test.YtoeimopgoaffcaaGreatDoorBBwc1x12
import Derived.Test.YtoeimopgoaffcaaGreatDoorBBwc1x15
set_option maxHeartbeats 8000000
set_option maxRecDepth 100000
namespace Go.Proofs.YtoeimopgoaffcaaGreatDoor.Pr
open RowKit YtoeimopgoaffcaaGreatDoorW.PrintWords YtoeimopgoaffcaaGreatDoorW.PrintLast YtoeimopgoaffcaaGreatDoorW.PrintMore
attribute [local go_sem] Zak Zai Zax Zaw Zac Zab Zaj Zah
set_option linter.unusedVariables false
set_option linter.unusedSimpArgs false
open Ni
def Zcz (ns:List S39) (n:S39):Bool:=!(n.f1.any fun x=>!ZcF ns n.f1 x)
def Zat (ns:List S39) (ts:List S82) (z:Int):Bool:=Z2 ns && ZaR ns ts && !(decide (z<1)) && !(decide (10<z)) && ns.all (Zcz ns)
def Za7.f (l0_0:List (S39)) (l0_1:List (S82)) (a0_2:Int):Option Bool:=if fitN l0_0=true then some (Zat l0_0 l0_1 a0_2) else none
theorem ZgB.clo (k:Nat) (hk:2 ^ 64≤k) (B D:Nat) (A0_0:Option Addr) (c0_0:Nat) (l0_0:List S39) (A0_1:Option Addr) (c0_1:Nat) (l0_1:List S82) (a0_2:Int) (An:Option Addr) (cn:Nat) (lb:List Int) (x:Int) (W:World)
  (h0:W.cell? ⟨B,0,none⟩=some (.slice A0_0 l0_0.length c0_0)) (h1:W.cell? ⟨B,1,none⟩=some (.slice A0_1 l0_1.length c0_1)) (h2:W.cell? ⟨B,2,none⟩=some (.int .i64 a0_2)) (h3:W.cell? ⟨D,1,none⟩=some (.slice An lb.length cn))
  (hr0_0:Kd.C k39 W A0_0 l0_0.length l0_0) (hc0_0:l0_0.length≤c0_0) (hr0_1:Kd.C k82 W A0_1 l0_1.length l0_1) (hc0_1:l0_1.length≤c0_1) (hrn:Kd.C (Kd.int .i64) W An lb.length lb) (hcn:lb.length≤cn)
  (hf:ZbY.f k l0_0 l0_1 a0_2 lb x=some (ZcF l0_0 lb x)) :
  Calls Tryz.prog 80 #[.int .i64 x,.pointer (some ⟨B,0,none⟩),.pointer (some ⟨D,0,none⟩)] W fun e w'=>e=.returned (.bool (!ZcF l0_0 lb x))∧Below W.heap.size W w':=by
 have hltB:B<W.heap.size:=Zc W _ h0
 have hltD:D<W.heap.size:=Zc W _ h3
 have HC:=Za (ZbY.calls k A0_0 c0_0 l0_0 A0_1 c0_1 l0_1 a0_2 An cn lb x _ W hr0_0 hc0_0 hr0_1 hc0_1 hrn hcn hf)
 have hu:=Tryz.underlying25
 have hu2:=Tryz.underlying39
 clear hr0_0 hr0_1 hrn hf hc0_0 hc0_1 hcn
 cases b:ZcF l0_0 lb x
 all_goals
  rw[b] at HC
  clear b
  go_enter Tryz.func80,Tryz.ntmps80
  go_wp2_with (go_at_call 81;refine HC.out.mono ?_;rintro e w' ⟨rfl,hb⟩)
  go_ret
  exact⟨rfl,hb⟩
theorem Za7.calls (A0_0:Option Addr) (c0_0:Nat) (l0_0:List (S39)) (A0_1:Option Addr) (c0_1:Nat) (l0_1:List (S82)) (a0_2:Int) (r:Bool) (w:World) (hr0_0:Kd.C k39 w A0_0 l0_0.length l0_0) (hc0_0:l0_0.length≤c0_0) (hr0_1:Kd.C k82 w A0_1 l0_1.length l0_1) (hc0_1:l0_1.length≤c0_1) (h:Za7.f l0_0 l0_1 a0_2=some r) :
  Calls Tryz.prog 19 #[.agg #[.slice A0_0 l0_0.length c0_0,.slice A0_1 l0_1.length c0_1,.int .i64 a0_2]] w fun e w'=>e=.returned (.bool r)∧Below w.heap.size w w':=by
 by_cases hfit:fitN l0_0=true
 case neg=>rw[Za7.f,if_neg hfit] at h;exact absurd h (by simp)
 rw[Za7.f,if_pos hfit] at h
 obtain rfl:=Zg h
 have hfi:=fitN_iff hfit
 have hL:l0_0.length≤9223372036854775807:=hr0_0.2.1
 have HRn:=Za hr0_0;have HRt:=Za hr0_1;have HCn:=Za hc0_0;have HCt:=Za hc0_1;have HFI:=Za hfi
 have B1:=Za (Zo (Below.refl w.heap.size w) (.cells #[.slice A0_0 l0_0.length c0_0,.slice A0_1 l0_1.length c0_1,.int .i64 a0_2] 25))
 have HK:=Za fun (W:World) (hA:Below (w.alloc (.cells #[.slice A0_0 l0_0.length c0_0,.slice A0_1 l0_1.length c0_1,.int .i64 a0_2] 25)).heap.size (w.alloc (.cells #[.slice A0_0 l0_0.length c0_0,.slice A0_1 l0_1.length c0_1,.int .i64 a0_2] 25)) W)=>And.intro (B1.out.trans (hA.mono B1.out.size)) (And.intro (Zx hA (show _=some (.slice A0_0 l0_0.length c0_0) from showCell0 w _ _ _ _)) (And.intro (Zx hA (showCell1 w _ _ _ _)) (And.intro (Zx hA (showCell2 w _ _ _ _)) (show w.heap.size<W.heap.size from Nat.lt_of_lt_of_le (by simp) hA.size))))
 have HN:=Za fun (W:World) (hb:Below w.heap.size w W)=>Zcn.calls A0_0 c0_0 l0_0 A0_1 c0_1 l0_1 a0_2 _ W (Zb hr0_0 hb) hc0_0 (Zb hr0_1 hb) hc0_1 (areNodes_f l0_0 l0_1 a0_2 hfi)
 have HT:=Za fun (W:World) (hb:Below w.heap.size w W)=>ZdV.calls A0_0 c0_0 l0_0 A0_1 c0_1 l0_1 a0_2 _ W (Zb hr0_0 hb) hc0_0 (Zb hr0_1 hb) hc0_1 rfl
 have hlb:Z2 l0_0=true→∀n∈l0_0,∀x∈n.f1,ZbH x=true:=ZgJ
 clear hr0_0 hr0_1 hc0_0 hc0_1 h hfi hfit
 have hu:=Tryz.underlying25
 have hu2:=Tryz.underlying39
 cases b1:Z2 l0_0 with
 | false=>
  rw[b1] at HN
  have HF:=Za (show Zat l0_0 l0_1 a0_2=false by simp[Zat,b1])
  clear hlb b1
  go_enter Tryz.func19,Tryz.ntmps19
  go_wp2_with (go_at_call 77;refine(HN.out _ B1.out).mono ?_;rintro e w1 ⟨rfl,hb⟩;obtain⟨hB,hc0,hc1,hc2,hS⟩:=HK.out _ hb)
  go_ret
  exact⟨by rw[HF.out];rfl,hB⟩
 | true=>
 rw[b1] at HN
 have HLB:=Za (hlb b1)
 clear hlb
 cases b2:ZaR l0_0 l0_1 with
 | false=>
  rw[b2] at HT
  have HF:=Za (show Zat l0_0 l0_1 a0_2=false by simp[Zat,b2])
  clear b1 b2
  go_enter Tryz.func19,Tryz.ntmps19
  go_wp2_with (first|(go_at_call 77;refine(HN.out _ B1.out).mono ?_;rintro e w1 ⟨rfl,hA⟩;obtain⟨hB,hc0,hc1,hc2,hS⟩:=HK.out _ hA)|(go_at_call 78;refine(HT.out _ hB).mono ?_;rintro e w2 ⟨rfl,hb⟩;replace hA:=hA.trans (hb.mono hA.size);clear hB hc0 hc1 hc2 hS;obtain⟨hB,hc0,hc1,hc2,hS⟩:=HK.out _ hA;clear hb))
  go_ret
  exact⟨by rw[HF.out];rfl,hB⟩
 | true=>
 rw[b2] at HT
 cases b3:decide (a0_2<1) with
 | true=>
  have HF:=Za (show Zat l0_0 l0_1 a0_2=false by simp[Zat,b3])
  clear b1 b2
  go_enter Tryz.func19,Tryz.ntmps19
  go_wp2_with (first|(go_at_call 77;refine(HN.out _ B1.out).mono ?_;rintro e w1 ⟨rfl,hA⟩;obtain⟨hB,hc0,hc1,hc2,hS⟩:=HK.out _ hA)|(go_at_call 78;refine(HT.out _ hB).mono ?_;rintro e w2 ⟨rfl,hb⟩;replace hA:=hA.trans (hb.mono hA.size);clear hB hc0 hc1 hc2 hS;obtain⟨hB,hc0,hc1,hc2,hS⟩:=HK.out _ hA;clear hb))
  go_ret
  exact⟨by rw[HF.out];rfl,hB⟩
 | false=>
 cases b4:decide (10<a0_2) with
 | true=>
  have HF:=Za (show Zat l0_0 l0_1 a0_2=false by simp[Zat,b4])
  clear b1 b2
  go_enter Tryz.func19,Tryz.ntmps19
  go_wp2_with (first|(go_at_call 77;refine(HN.out _ B1.out).mono ?_;rintro e w1 ⟨rfl,hA⟩;obtain⟨hB,hc0,hc1,hc2,hS⟩:=HK.out _ hA)|(go_at_call 78;refine(HT.out _ hB).mono ?_;rintro e w2 ⟨rfl,hb⟩;replace hA:=hA.trans (hb.mono hA.size);clear hB hc0 hc1 hc2 hS;obtain⟨hB,hc0,hc1,hc2,hS⟩:=HK.out _ hA;clear hb))
  go_ret
  exact⟨by rw[HF.out];rfl,hB⟩
 | false=>
 have HF:=Za (show Zat l0_0 l0_1 a0_2=l0_0.all (Zcz l0_0) by simp[Zat,b1,b2,b3,b4])
 clear b1 b2
 go_enter Tryz.func19,Tryz.ntmps19
 go_wp2_with (first|(go_at_call 77;refine(HN.out _ B1.out).mono ?_;rintro e w1 ⟨rfl,hA⟩;obtain⟨hB,hc0,hc1,hc2,hS⟩:=HK.out _ hA)|(go_at_call 78;refine(HT.out _ hB).mono ?_;rintro e w2 ⟨rfl,hb⟩;replace hA:=hA.trans (hb.mono hA.size);clear hB hc0 hc1 hc2 hS;obtain⟨hB,hc0,hc1,hc2,hS⟩:=HK.out _ hA;clear hb))
 have HB0:=Za hB
 have HX0:=Za (And.intro hc0 (And.intro hc1 hc2))
 have HS0:=Za hS;clear hA hB hc0 hc1 hc2 hS
 go_loopg [4,26] l0_0.length (fun gg _ s26 wr=>∃kk:Nat,Aside0 (kk≤l0_0.length)∧Aside0 (l0_0.length - kk≤gg)∧s26=.int .i64 kk∧Aside0 (Below w.heap.size w wr)∧Aside0 (w.heap.size<wr.heap.size)∧Aside0 (wr.cell? ⟨w.heap.size,0,none⟩=some (.slice A0_0 l0_0.length c0_0)∧wr.cell? ⟨w.heap.size,1,none⟩=some (.slice A0_1 l0_1.length c0_1)∧wr.cell? ⟨w.heap.size,2,none⟩=some (.int .i64 a0_2))∧Aside0 (l0_0.all (Zcz l0_0)=(l0_0.drop kk).all (Zcz l0_0)))
 case atStart=>exact⟨0,⟨Nat.zero_le _⟩,⟨by omega⟩,rfl,HB0,HS0,HX0,⟨rfl⟩⟩
 case round=>
  obtain⟨kk,HK',HG,rfl,HBr,HS,HX,HN'⟩:=hrel
  have hsz:=HS.out
  obtain⟨hb0,hb1,hb2_⟩:=HX.out
  by_cases hlt:kk<l0_0.length
  ·have hltz:(kk:Int)<(l0_0.length:Int):=by omega
   obtain⟨ad,Am,cm,e1,hm0,hm1,hm2,lm,gm⟩:=ZaX HRn.out (kk:Int) (by omega) hltz
   cases e1
   have HDR:=Za (Zal hlt z39)
   have hmem:=Za (ZaJ hlt z39)
   rw[← Zcm] at HDR hmem
   rw[Int.toNat_natCast] at hm0 hm1 hm2
   generalize ZJ l0_0 (kk:Int)=y at hm0 hm1 hm2 lm gm HDR hmem
   replace hm0:=Zx HBr.out hm0
   replace hm1:=Zx HBr.out hm1
   replace hm2:=Zx HBr.out hm2
   have hlta:=Zc wr _ hm0
   have LM:=Za lm
   have GM:=Za (Zb gm HBr.out)
   clear lm gm
   have B2:=Za (Zo (Below.refl wr.heap.size wr) (.cells #[.string y.f0,.slice Am y.f1.length cm,.int .i64 y.f2] 39))
   have HC:=Za fun (W:World) (hb:Below wr.heap.size wr W) (hcell:W.cell? ⟨wr.heap.size,1,none⟩=some (.slice Am y.f1.length cm))=>Zb2.any (fun x=>!ZcF l0_0 y.f1 x) 80 #[.pointer (some ⟨w.heap.size,0,none⟩),.pointer (some ⟨wr.heap.size,0,none⟩)] (enters_of Tryz.func80 (by kernel_rfl) rfl) Am cm y.f1 W (Zb GM.out hb)
    (fun W' x hx hb'=>ZgB.clo (2 ^ 64) (Nat.le_refl _) w.heap.size wr.heap.size (some ad) c0_0 l0_0 A0_1 c0_1 l0_1 a0_2 Am cm y.f1 x W' (Zx hb' (Zx hb HX.out.1)) (Zx hb' (Zx hb HX.out.2.1)) (Zx hb' (Zx hb HX.out.2.2)) (Zx hb' hcell)
     (Zb (Zb (Zb HRn.out HBr.out) hb) hb') HCn.out (Zb (Zb (Zb HRt.out HBr.out) hb) hb') HCt.out (Zb (Zb GM.out hb) hb') LM.out
     (isWatched_f l0_0 l0_1 a0_2 y.f1 x (fun n hn=>(HFI.out n hn).2) (HFI.out y hmem.out).2 (HLB.out y hmem.out x hx) (2 ^ 64) (Nat.le_refl _)))
   cases b5:y.f1.any (fun x=>!ZcF l0_0 y.f1 x) with
   | true=>
    rw[b5] at HC
    have HF2:=Za (show Zat l0_0 l0_1 a0_2=false by
     rw[HF.out,HN'.out,HDR.out,List.all_cons,show Zcz l0_0 y=false by unfold Zcz;rw[b5];rfl];rfl)
    clear b5
    go_wp2_with fail
    refine(HC.out _ B2.out (by go_simp)).mono ?_
    rintro e w3 ⟨rfl,hb⟩
    have hb3:=B2.out.trans (hb.mono B2.out.size)
    go_wp2
    go_ret
    exact⟨by rw[HF2.out];rfl,HBr.out.trans (hb3.mono HBr.out.size)⟩
   | false=>
    rw[b5] at HC
    have HF2:=Za (show l0_0.all (Zcz l0_0)=(l0_0.drop (kk+1)).all (Zcz l0_0) by
     rw[HN'.out,HDR.out,List.all_cons,show Zcz l0_0 y=true by unfold Zcz;rw[b5];rfl];rfl)
    clear b5
    go_wp2_with fail
    refine(HC.out _ B2.out (by go_simp)).mono ?_
    rintro e w3 ⟨rfl,hb⟩
    have hb3:=B2.out.trans (hb.mono B2.out.size)
    go_wp2
    go_roundg (l0_0.length - (kk+1))
    case measure=>have:=HG.out;omega
    case rel=>exact⟨kk+1,⟨by omega⟩,⟨by omega⟩,by go_num,⟨HBr.out.trans (hb3.mono HBr.out.size)⟩,⟨by have:=hb3.size;omega⟩,⟨Zx hb3 hb0,Zx hb3 hb1,Zx hb3 hb2_⟩,HF2⟩
  ·have hltz:¬(kk:Int)<(l0_0.length:Int):=by omega
   have:kk=l0_0.length:=by have:=HK'.out;omega
   subst this
   have HF2:=Za (show Zat l0_0 l0_1 a0_2=true by
    rw[HF.out,HN'.out,List.drop_length];rfl)
   go_wp2
   go_ret
   exact⟨by rw[HF2.out];rfl,HBr.out⟩
def ZbT.f (k:Nat) (l0_0:List (S39)) (l0_1:List (S82)) (a0_2:Int) (l1_0:List Int) (l1_1:List Int):Option (Bool):=(Za7.f l0_0 l0_1 a0_2).bind fun t3=>(if t3=true then((ZbS.f k l0_0 l0_1 a0_2 l1_0 l1_1).bind fun t4=>(some t4)) else(some false))
theorem ZbT.calls (k:Nat) (A0_0:Option Addr) (c0_0:Nat) (l0_0:List (S39)) (A0_1:Option Addr) (c0_1:Nat) (l0_1:List (S82)) (a0_2:Int) (A1_0:Option Addr) (c1_0:Nat) (l1_0:List Int) (A1_1:Option Addr) (c1_1:Nat) (l1_1:List Int) (r:Bool) (w:World) (hr0_0:Kd.C k39 w A0_0 l0_0.length l0_0) (hc0_0:l0_0.length≤c0_0) (hr0_1:Kd.C k82 w A0_1 l0_1.length l0_1) (hc0_1:l0_1.length≤c0_1) (hr1_0:Kd.C (Kd.int .i64) w A1_0 l1_0.length l1_0) (hc1_0:l1_0.length≤c1_0) (hr1_1:Kd.C (Kd.int .i64) w A1_1 l1_1.length l1_1) (hc1_1:l1_1.length≤c1_1) (h:ZbT.f k l0_0 l0_1 a0_2 l1_0 l1_1=some r) :
  Calls Tryz.prog 103 #[.agg #[.slice A0_0 l0_0.length c0_0,.slice A0_1 l0_1.length c0_1,.int .i64 a0_2],.agg #[.slice A1_0 l1_0.length c1_0,.slice A1_1 l1_1.length c1_1]] w fun e w'=>e=.returned (.bool r)∧Below w.heap.size w w':=by
 have hu25:=Tryz.underlying25
 have hu58:=Tryz.underlying58
 have HR0_0:=Za hr0_0;have HC0_0:=Za hc0_0;clear hr0_0 hc0_0;have HR0_1:=Za hr0_1;have HC0_1:=Za hc0_1;clear hr0_1 hc0_1;have HR1_0:=Za hr1_0;have HC1_0:=Za hc1_0;clear hr1_0 hc1_0;have HR1_1:=Za hr1_1;have HC1_1:=Za hc1_1;clear hr1_1 hc1_1
 have HB:=Za (Below.refl w.heap.size w)
 have H:((Za7.f l0_0 l0_1 a0_2).bind fun t3=>(if t3=true then((ZbS.f k l0_0 l0_1 a0_2 l1_0 l1_1).bind fun t4=>(some t4)) else(some false)))=some r:=h
 clear h
 replace H:=Zh H
 obtain⟨t3,A30,H⟩:=H;have A3:=Za A30;clear A30
 by_cases c4:t3=true
 ·subst c4
  rw[if_pos rfl] at H
  replace H:=Zh H
  obtain⟨t4,A50,H⟩:=H;have A5:=Za A50;clear A50
  obtain rfl:=Zg H
  go_enter Tryz.func103,Tryz.ntmps103
  go_wp2_with (first|((with_reducible refine ZF (N:=2) rfl ?_);refine ZG ?hg (N:=2) ?hd (cs:=#[.slice A0_0 l0_0.length c0_0,.slice A0_1 l0_1.length c0_1,.int .i64 a0_2]) (t:=25) ?hr ?_;(case hd=>rfl);(case hg=>rfl);(case hr=>first|(go_simp;done)|(go_simp;rfl));intro gb1 hg w6 hbox hb;have BK1:=Za (hbox);have GW1:=Za ((by rw[hg];exact(Zv (by exact HB.out)):w.heap.size≤gb1));have GE1:=Za ((by rw[hg];exact(Zv (by exact HB.out)):w.heap.size≤gb1));replace HB:=Za (Zr (by exact HB.out) hb);clear hb hbox hg)|((with_reducible refine ZF (N:=3) rfl ?_);refine ZG ?hg (N:=3) ?hd (cs:=#[.slice A1_0 l1_0.length c1_0,.slice A1_1 l1_1.length c1_1]) (t:=58) ?hr ?_;(case hd=>rfl);(case hg=>rfl);(case hr=>first|(go_simp;done)|(go_simp;rfl));intro gb2 hg w7 hbox hb;have BK2:=Za (hbox);have GW2:=Za ((by rw[hg];exact(Zv (by exact HB.out)):w.heap.size≤gb2));have GE2:=Za ((by rw[hg];exact(Zv (by exact HB.out)):w.heap.size≤gb2));have NB1_2:=Za ((by rw[hg];exact Nat.ne_of_lt (ZN (g:=gb1) (o:=.cells #[.slice A0_0 l0_0.length c0_0,.slice A0_1 l0_1.length c0_1,.int .i64 a0_2] 25 (0,0)) (by exact BK1.out)):gb1≠gb2));have NB2_1:=Za ((by rw[hg];exact Nat.ne_of_gt (ZN (g:=gb1) (o:=.cells #[.slice A0_0 l0_0.length c0_0,.slice A0_1 l0_1.length c0_1,.int .i64 a0_2] 25 (0,0)) (by exact BK1.out)):gb2≠gb1));replace BK1:=Za (Zs (g:=gb1) (o:=.cells #[.slice A0_0 l0_0.length c0_0,.slice A0_1 l0_1.length c0_1,.int .i64 a0_2] 25 (0,0)) (by exact BK1.out) hb);replace HB:=Za (Zr (by exact HB.out) hb);clear hb hbox hg;have hcz9_0:w7.cell? ⟨gb1,0,none⟩=some (.slice A0_0 l0_0.length c0_0):=(Zm BK1.out 0).trans rfl;have hcz9_1:w7.cell? ⟨gb1,1,none⟩=some (.slice A0_1 l0_1.length c0_1):=(Zm BK1.out 1).trans rfl;have hcz9_2:w7.cell? ⟨gb1,2,none⟩=some (.int .i64 a0_2):=(Zm BK1.out 2).trans rfl)|((with_reducible refine ZM (f:=19) rfl ?_);refine Z7 (some 6) rfl rfl Tryz.func19 (by kernel_rfl) rfl #[.agg #[.slice A0_0 l0_0.length c0_0,.slice A0_1 l0_1.length c0_1,.int .i64 a0_2]] rfl (by(try simp only[List.map_toArray,List.map_cons,List.map_nil]);first|done|rfl|(simp only[Zk,Zj];rfl)) ?_;(with_reducible refine(Za7.calls _ _ l0_0 _ _ l0_1 a0_2 true _ ?side1 ?side2 ?side3 ?side4 A3.out).mono ?_);(case side1=>exact(Zb HR0_0.out HB.out));(case side2=>exact HC0_0.out);(case side3=>exact(Zb HR0_1.out HB.out));(case side4=>exact HC0_1.out);rintro e w10 ⟨rfl,hb⟩;refine⟨_,rfl,?_⟩;replace BK1:=Za (Zs (g:=gb1) (o:=.cells #[.slice A0_0 l0_0.length c0_0,.slice A0_1 l0_1.length c0_1,.int .i64 a0_2] 25 (0,0)) (by exact BK1.out) hb);replace BK2:=Za (Zs (g:=gb2) (o:=.cells #[.slice A1_0 l1_0.length c1_0,.slice A1_1 l1_1.length c1_1] 58 (0,0)) (by exact BK2.out) hb);replace HB:=Za (Zr (by exact HB.out) hb);have hcz11_0:w10.cell? ⟨gb1,0,none⟩=some (.slice A0_0 l0_0.length c0_0):=(Zm BK1.out 0).trans rfl;have hcz11_1:w10.cell? ⟨gb1,1,none⟩=some (.slice A0_1 l0_1.length c0_1):=(Zm BK1.out 1).trans rfl;have hcz11_2:w10.cell? ⟨gb1,2,none⟩=some (.int .i64 a0_2):=(Zm BK1.out 2).trans rfl;have hfz11_0:=Zq BK1.out 0;have hfz11_1:=Zq BK1.out 1;have hfz11_2:=Zq BK1.out 2;have hcz12_0:w10.cell? ⟨gb2,0,none⟩=some (.slice A1_0 l1_0.length c1_0):=(Zm BK2.out 0).trans rfl;have hcz12_1:w10.cell? ⟨gb2,1,none⟩=some (.slice A1_1 l1_1.length c1_1):=(Zm BK2.out 1).trans rfl)|(go_at_call 160;(with_reducible refine(ZbS.calls k _ _ l0_0 _ _ l0_1 a0_2 _ _ l1_0 _ _ l1_1 t4 _ ?side1 ?side2 ?side3 ?side4 ?side5 ?side6 ?side7 ?side8 A5.out).mono ?_);(case side1=>exact(Zb HR0_0.out HB.out));(case side2=>exact HC0_0.out);(case side3=>exact(Zb HR0_1.out HB.out));(case side4=>exact HC0_1.out);(case side5=>exact(Zb HR1_0.out HB.out));(case side6=>exact HC1_0.out);(case side7=>exact(Zb HR1_1.out HB.out));(case side8=>exact HC1_1.out);rintro e w13 ⟨rfl,hb⟩;replace BK1:=Za (Zs (g:=gb1) (o:=.cells #[.slice A0_0 l0_0.length c0_0,.slice A0_1 l0_1.length c0_1,.int .i64 a0_2] 25 (0,0)) (by exact BK1.out) hb);replace BK2:=Za (Zs (g:=gb2) (o:=.cells #[.slice A1_0 l1_0.length c1_0,.slice A1_1 l1_1.length c1_1] 58 (0,0)) (by exact BK2.out) hb);replace HB:=Za (Zr (by exact HB.out) hb);(try clear hi)))
  go_ret
  exact⟨by first|rfl|(simp[ZC,ZB] <;> rfl)|(simp[*,ZC,ZB] <;> rfl),by repeat(first|(with_reducible first|exact HB.out|apply Zo|apply Zn|apply Zp|refine Zt ?_ GE1.out|refine Zt ?_ GE2.out)|exact HB.out)⟩
 ·replace c4:=Bool.eq_false_iff.mpr c4
  subst c4
  have H1:(some false)=some r:=by rw[if_neg (show ¬(false=true) by decide)] at H;exact H
  clear H
  have H:=H1
  clear H1
  obtain rfl:=Zg H
  go_enter Tryz.func103,Tryz.ntmps103
  go_wp2_with (first|((with_reducible refine ZF (N:=2) rfl ?_);refine ZG ?hg (N:=2) ?hd (cs:=#[.slice A0_0 l0_0.length c0_0,.slice A0_1 l0_1.length c0_1,.int .i64 a0_2]) (t:=25) ?hr ?_;(case hd=>rfl);(case hg=>rfl);(case hr=>first|(go_simp;done)|(go_simp;rfl));intro gb1 hg w14 hbox hb;have BK1:=Za (hbox);have GW1:=Za ((by rw[hg];exact(Zv (by exact HB.out)):w.heap.size≤gb1));have GE1:=Za ((by rw[hg];exact(Zv (by exact HB.out)):w.heap.size≤gb1));replace HB:=Za (Zr (by exact HB.out) hb);clear hb hbox hg)|((with_reducible refine ZF (N:=3) rfl ?_);refine ZG ?hg (N:=3) ?hd (cs:=#[.slice A1_0 l1_0.length c1_0,.slice A1_1 l1_1.length c1_1]) (t:=58) ?hr ?_;(case hd=>rfl);(case hg=>rfl);(case hr=>first|(go_simp;done)|(go_simp;rfl));intro gb2 hg w15 hbox hb;have BK2:=Za (hbox);have GW2:=Za ((by rw[hg];exact(Zv (by exact HB.out)):w.heap.size≤gb2));have GE2:=Za ((by rw[hg];exact(Zv (by exact HB.out)):w.heap.size≤gb2));have NB1_2:=Za ((by rw[hg];exact Nat.ne_of_lt (ZN (g:=gb1) (o:=.cells #[.slice A0_0 l0_0.length c0_0,.slice A0_1 l0_1.length c0_1,.int .i64 a0_2] 25 (0,0)) (by exact BK1.out)):gb1≠gb2));have NB2_1:=Za ((by rw[hg];exact Nat.ne_of_gt (ZN (g:=gb1) (o:=.cells #[.slice A0_0 l0_0.length c0_0,.slice A0_1 l0_1.length c0_1,.int .i64 a0_2] 25 (0,0)) (by exact BK1.out)):gb2≠gb1));replace BK1:=Za (Zs (g:=gb1) (o:=.cells #[.slice A0_0 l0_0.length c0_0,.slice A0_1 l0_1.length c0_1,.int .i64 a0_2] 25 (0,0)) (by exact BK1.out) hb);replace HB:=Za (Zr (by exact HB.out) hb);clear hb hbox hg;have hcz17_0:w15.cell? ⟨gb1,0,none⟩=some (.slice A0_0 l0_0.length c0_0):=(Zm BK1.out 0).trans rfl;have hcz17_1:w15.cell? ⟨gb1,1,none⟩=some (.slice A0_1 l0_1.length c0_1):=(Zm BK1.out 1).trans rfl;have hcz17_2:w15.cell? ⟨gb1,2,none⟩=some (.int .i64 a0_2):=(Zm BK1.out 2).trans rfl)|((with_reducible refine ZM (f:=19) rfl ?_);refine Z7 (some 6) rfl rfl Tryz.func19 (by kernel_rfl) rfl #[.agg #[.slice A0_0 l0_0.length c0_0,.slice A0_1 l0_1.length c0_1,.int .i64 a0_2]] rfl (by(try simp only[List.map_toArray,List.map_cons,List.map_nil]);first|done|rfl|(simp only[Zk,Zj];rfl)) ?_;(with_reducible refine(Za7.calls _ _ l0_0 _ _ l0_1 a0_2 false _ ?side1 ?side2 ?side3 ?side4 A3.out).mono ?_);(case side1=>exact(Zb HR0_0.out HB.out));(case side2=>exact HC0_0.out);(case side3=>exact(Zb HR0_1.out HB.out));(case side4=>exact HC0_1.out);rintro e w18 ⟨rfl,hb⟩;refine⟨_,rfl,?_⟩;replace BK1:=Za (Zs (g:=gb1) (o:=.cells #[.slice A0_0 l0_0.length c0_0,.slice A0_1 l0_1.length c0_1,.int .i64 a0_2] 25 (0,0)) (by exact BK1.out) hb);replace BK2:=Za (Zs (g:=gb2) (o:=.cells #[.slice A1_0 l1_0.length c1_0,.slice A1_1 l1_1.length c1_1] 58 (0,0)) (by exact BK2.out) hb);replace HB:=Za (Zr (by exact HB.out) hb);(try clear hi)))
  go_ret
  exact⟨by first|rfl|(simp[ZC,ZB] <;> rfl)|(simp[*,ZC,ZB] <;> rfl),by repeat(first|(with_reducible first|exact HB.out|apply Zo|apply Zn|apply Zp|refine Zt ?_ GE1.out|refine Zt ?_ GE2.out)|exact HB.out)⟩
def run {α:Type} (step:Nat→α→Option α):Nat→Nat→α→Option α
 | 0,_,a=>some a
 | d+1,i,a=>(step i a).bind (run step d (i+1))
theorem ZbD {α β:Type} {step:Nat→α→Option α} {n i:Nat} {a:α} {F:α→Option β} {r:β} (hi:i<n) (h:(run step (n - i) i a).bind F=some r):∃a',step i a=some a'∧(run step (n - (i+1)) (i+1) a').bind F=some r:=by
 rw[show n - i=(n - (i+1))+1 by omega,run,Option.bind_assoc] at h
 exact Option.bind_eq_some_iff.1 h
theorem ZbX {α β:Type} {step:Nat→α→Option α} {n:Nat} {a:α} {F:α→Option β} {r:β} (h:(run step (n - n) n a).bind F=some r):F a=some r:=by
 rw[Nat.sub_self] at h
 exact h
structure Z4.St (w W:World) (n:Int) (g6 g7:Nat) (uL uR:Value) (L:List S112) (S:List ByteArray):Prop where
 b6:W.heap[g6]? = some (Obj.cells #[Value.int .i64 n,uL] 54 (0,0))
 b7:W.heap[g7]? = some (Obj.cells #[uR] 68 (0,0))
 rl:Kd.R k112 112 W w.heap.size (fun k=>some k≠uR.ownBlock) uL L
 rr:Kd.R Kd.string 9 W w.heap.size (fun k=>some k≠uL.ownBlock) uR S
 hb:Below w.heap.size w W
 g6b:w.heap.size≤g6
 g7b:w.heap.size≤g7
def Z4.Fr (g6:Nat) (W W':World):Prop:=∀(k:Nat) (cs:Array Value) (t:Nat),W.heap[k]? = some (Obj.cells cs t (0,0))→k≠g6→t≠68→t≠112→t≠9→W'.heap[k]? = W.heap[k]?
theorem Z4.g1 {w W w1:World} {n:Int} {g6 g7:Nat} {uL uR v1:Value} {L L1:List S112} {S:List ByteArray} (h:Z4.St w W n g6 g7 uL uR L S) (ho:Kd.R k112 112 w1 w.heap.size (fun k=>some k≠uR.ownBlock) v1 L1) (hb:Below w.heap.size w w1) (hg:W.grownBy w1 uL.ownBlock) (hat:v1.ownBlock=uL.ownBlock∨∃b,v1.ownBlock=some b∧W.heap.size≤b) :
  Z4.St w (w1.setCell ⟨g6,1,none⟩ v1) n g6 g7 v1 uR L1 S∧(∀k,k<W.heap.size→some k≠uL.ownBlock→k≠g6→(w1.setCell ⟨g6,1,none⟩ v1).heap[k]? = W.heap[k]?)∧W.heap.size≤(w1.setCell ⟨g6,1,none⟩ v1).heap.size∧(w1.cell? ⟨g6,1,none⟩=some uL∧w1.frozen? ⟨g6,1,none⟩=false∧w1.cell? ⟨g7,0,none⟩=some uR∧w1.frozen? ⟨g7,0,none⟩=false)∧∃A c,v1=.slice A L1.length c:=by
 obtain⟨b6,b7,rl,rr,hb0,g6b,g7b⟩:=h
 have NE:=ZbF b6 b7 (by decide)
 have HR1:=Kd.R_after (ok:=fun _=>True) (Kd.R_mono rr (fun _ hk=>⟨trivial,hk⟩)) hg hat
 have c6:=Zad b6 hg (Kd.R_ne rl b6 (by decide))
 have c7:=Zad b7 hg (Kd.R_ne rl b7 (by decide))
 refine⟨⟨ZR (cs:=#[.int .i64 n,uL]) c6 1 v1 rfl,ZL c7 (p:=⟨g6,1,none⟩) NE.symm v1,?_,?_,Zt hb g6b,g6b,g7b⟩,fun k hk hne h6=>(Below.heap_setCell w1 ⟨g6,1,none⟩ _ k h6).trans (hg.block k hk hne),?_,⟨(Zm c6 1).trans rfl,Zq c6 1,(Zm c7 0).trans rfl,Zq c7 0⟩,Kd.R_slice ho⟩
 ·exact Kd.R_mono (Kd.R_far (p:=⟨g6,1,none⟩) (Kd.R_types ho c6 (by decide)) (fun _ hk=>hk.2) v1) (fun _ hk=>hk.1)
 ·exact Kd.R_mono (Kd.R_far (p:=⟨g6,1,none⟩) (Kd.R_types HR1 c6 (by decide)) (fun _ hk=>hk.2) v1) (fun _ hk=>hk.1.2)
 ·simp only[World.setCell,Array.size_modify];exact hg.size
theorem Z4.g2 {w W w1:World} {n:Int} {g6 g7:Nat} {uL uR v1:Value} {L:List S112} {S S1:List ByteArray} (h:Z4.St w W n g6 g7 uL uR L S) (ho:Kd.R Kd.string 9 w1 w.heap.size (fun k=>some k≠uL.ownBlock) v1 S1) (hb:Below w.heap.size w w1) (hg:W.grownBy w1 uR.ownBlock) (hat:v1.ownBlock=uR.ownBlock∨∃b,v1.ownBlock=some b∧W.heap.size≤b) :
  Z4.St w (w1.setCell ⟨g7,0,none⟩ v1) n g6 g7 uL v1 L S1∧(∀k,k<W.heap.size→some k≠uR.ownBlock→k≠g7→(w1.setCell ⟨g7,0,none⟩ v1).heap[k]? = W.heap[k]?)∧(w1.cell? ⟨g7,0,none⟩=some uR∧w1.frozen? ⟨g7,0,none⟩=false)∧∃A c,v1=.slice A S1.length c:=by
 obtain⟨b6,b7,rl,rr,hb0,g6b,g7b⟩:=h
 have NE:=ZbF b6 b7 (by decide)
 have HR1:=Kd.R_after (ok:=fun _=>True) (Kd.R_mono rl (fun _ hk=>⟨trivial,hk⟩)) hg hat
 have c6:=Zad b6 hg (Kd.R_ne rr b6 (by decide))
 have c7:=Zad b7 hg (Kd.R_ne rr b7 (by decide))
 refine⟨⟨ZL c6 (p:=⟨g7,0,none⟩) NE v1,ZR (cs:=#[uR]) c7 0 v1 rfl,?_,?_,Zt hb g7b,g6b,g7b⟩,fun k hk hne h6=>(Below.heap_setCell w1 ⟨g7,0,none⟩ _ k h6).trans (hg.block k hk hne),⟨(Zm c7 0).trans rfl,Zq c7 0⟩,Kd.R_slice ho⟩
 ·exact Kd.R_mono (Kd.R_far (p:=⟨g7,0,none⟩) (Kd.R_types HR1 c7 (by decide)) (fun _ hk=>hk.2) v1) (fun _ hk=>hk.1.2)
 ·exact Kd.R_mono (Kd.R_far (p:=⟨g7,0,none⟩) (Kd.R_types ho c7 (by decide)) (fun _ hk=>hk.2) v1) (fun _ hk=>hk.1)
theorem Z4.fr {w W W1 W2:World} {n:Int} {g6 g7:Nat} {uL uR:Value} {L:List S112} {S:List ByteArray} (h:Z4.St w W n g6 g7 uL uR L S) (f1:∀k,k<W.heap.size→some k≠uL.ownBlock→k≠g6→W1.heap[k]? = W.heap[k]?) (hs:W.heap.size≤W1.heap.size) (f2:∀k,k<W1.heap.size→some k≠uR.ownBlock→k≠g7→W2.heap[k]? = W1.heap[k]?):Z4.Fr g6 W W2:=by
 intro k cs t hk n1 n2 n3 n4
 have typ:∀{v:Value} {e:Nat},(∀k,v.ownBlock=some k→∃cells,W.heap[k]? = some (Obj.cells cells e (0,0)))→t≠e→some k≠v.ownBlock:=fun hv hne he=>by
  obtain⟨cs',hc⟩:=hv k he.symm
  rw[hk] at hc
  injection hc with hc
  injection hc with _ h2
  exact hne h2
 have hlt:=ZN hk
 exact(f2 k (by omega) (typ (Kd.R_typed h.rr) n4) (ZbF hk h.b7 n2)).trans (f1 k hlt (typ (Kd.R_typed h.rl) n3) n1)
theorem Z4.clo (w W:World) (n:Int) (g6 g7:Nat) (uL uR:Value) (L:List S112) (S:List ByteArray) (x0 x1 x2 x3:Int) (s:ByteArray) (h:Z4.St w W n g6 g7 uL uR L S) (hL:L.length<4398046511104) (hS:S.length<4398046511104) :
  Calls Tryz.prog 161 #[.int .i64 x0,.int .i64 x1,.int .i64 x2,.int .i64 x3,.string s,.pointer (some ⟨g6,0,none⟩),.pointer (some ⟨g7,0,none⟩)] W fun e w'=>e=.returned (.tuple #[])∧∃uL' uR':Value,Z4.St w w' n g6 g7 uL' uR' (L ++ [⟨x0,x1,⟨x2,x3⟩⟩]) (S ++ [s])∧Z4.Fr g6 W w':=by
 have hu:=Tryz.underlying54
 have hul:=Tryz.underlying112
 have hui:=Tryz.underlying110
 have NE:=ZbF h.b6 h.b7 (by decide)
 have NE2:=NE.symm
 have h1:W.cell? ⟨g6,1,none⟩=some uL:=(Zm h.b6 1).trans rfl
 have HL:=Za hL;have HS:=Za hS;have H:=Za h;clear hL hS h
 obtain⟨L1,hL1⟩:∃L1:List S112,L1=L ++ [⟨x0,x1,⟨x2,x3⟩⟩]:=⟨_,rfl⟩
 obtain⟨S1,hS1⟩:∃S1:List ByteArray,S1=S ++ [s]:=⟨_,rfl⟩
 rw[← hL1,← hS1]
 have HL1:=Za hL1;have HS1:=Za hS1;clear hL1 hS1
 go_enter Tryz.func161,Tryz.ntmps161
 go_wp2_with (first|((with_reducible refine ZU (b:=.append) (xs:=#[.tmp 13,.tmp 20]) rfl ?_);at_builtin;refine Kd.R_append k112 (w0:=w) w.heap.size rfl (.tmp 13) (.tmp 20) 52 112 (.agg #[(.int .i64 0),(.int .i64 0),(.int .i64 0),(.int .i64 0)]) 32 rfl Tryz.underlying52 ZdN rfl (by decide) (by omega) uL L ⟨x0,x1,⟨x2,x3⟩⟩ [.int .i64 x0,.int .i64 x1,.int .i64 x2,.int .i64 x3] (fun k=>some k≠uR.ownBlock) (fun _=>False) rfl (by first|(go_simp;done)|(go_simp;rfl)) ?aP (fun _ hk=>hk.elim) ?aF ?aO ?aB ?aS ?aL ?_;(case aP=>exact Zdr _ _ _ (⟨x0,x1,⟨x2,x3⟩⟩:S112));(case aB=>exact H.out.hb);(case aF=>exact Kd.fresh' (Kd.R_lt H.out.rr));(case aO=>exact H.out.rl);(case aS=>exact H.out.hb.size);(case aL=>have:=HL.out;omega);intro v1 w1 ho hb hg hat;rw[← HL1.out] at ho;obtain⟨h2,f1,sz,⟨k1,k2,k3,k4⟩,A1,c1,e1⟩:=Z4.g1 H.out ho hb hg hat;subst e1;have H2:=Za h2;have F1:=Za f1;have SZ:=Za sz;clear h2 f1 sz ho hb hg hat h1)|((with_reducible refine ZU (b:=.append) (xs:=#[.tmp 23,.tmp 25]) rfl ?_);at_builtin;refine Kd.R_append Kd.string (w0:=w) w.heap.size rfl (.tmp 23) (.tmp 25) 68 9 (.string ⟨#[]⟩) 16 rfl Tryz.underlying68 info9 rfl (by decide) (by omega) uR S s [.string s] (fun k=>some k≠(Value.slice A1 L1.length c1).ownBlock) (fun _=>False) rfl (by first|(go_simp;done)|(go_simp;rfl)) ?aP (fun _ hk=>hk.elim) ?aF ?aO ?aB ?aS ?aL ?_;(case aP=>exact rfl);(case aB=>exact H2.out.hb);(case aF=>exact Kd.fresh' (Kd.R_lt H2.out.rl));(case aO=>exact H2.out.rr);(case aS=>exact H2.out.hb.size);(case aL=>have:=HS.out;omega);intro v2 w2 ho hb hg hat;rw[← HS1.out] at ho;obtain⟨h2,f1,⟨k5,k6⟩,A2,c2,e2⟩:=Z4.g2 H2.out ho hb hg hat;subst e2;have H3:=Za h2;have F2:=Za f1;clear h2 f1 ho hb hg hat k1 k2 k3 k4))
 refine bodyPost_end (results_none rfl _ _ _) rfl ?_
 exact⟨rfl,_,_,H3.out,Z4.fr H.out F1.out SZ.out F2.out⟩
def ZcV.f (a0:Int):Option (Bool):=if a0<(-1) then(some true) else(some (decide (a0 > 1)))
theorem ZcV.calls (a0:Int) (r:Bool) (w:World) (h:ZcV.f a0=some r) :
  Calls Tryz.prog 239 #[.int .i64 a0] w fun e w'=>e=.returned (.bool r)∧ZH w w':=by
 have H:(if a0<(-1) then(some true) else(some (decide (a0 > 1))))=some r:=h
 clear h
 by_cases c2:a0<(-1)
 ·rw[if_pos c2] at H
  have c2b0:decide (a0<(-1))=true:=Ze c2
  clear c2
  obtain rfl:=Zg H
  go_enter Tryz.func239,Tryz.ntmps239
  go_wp2
  go_ret
  exact⟨by first|rfl|(simp;done)|(simp[*];done),by repeat(first|exact ZH.refl _|apply ZH.step)⟩
 ·rw[if_neg c2] at H
  have c2b0:decide (a0<(-1))=false:=Zf c2
  clear c2
  obtain rfl:=Zg H
  go_enter Tryz.func239,Tryz.ntmps239
  go_wp2
  go_ret
  exact⟨by first|rfl|(simp;done)|(simp[*];done),by repeat(first|exact ZH.refl _|apply ZH.step)⟩
def Zco.f (l0:List Int):Option Bool:=some (ZcG l0)
theorem Zco.calls (A0:Option Addr) (c0:Nat) (l0:List Int) (r:Bool) (w:World) (hr0:Kd.C (Kd.int .i64) w A0 l0.length l0) (hc0:l0.length≤c0) (h:Zco.f l0=some r) :
  Calls Tryz.prog 217 #[.slice A0 l0.length c0] w fun e w'=>e=.returned (.bool r)∧Below w.heap.size w w':=by
 obtain rfl:ZcG l0=r:=Zg h
 have hv:l0.length=3→(!(l0.any fun n=>decide (n < -1) || decide (n > 1)))=ZcG l0:=fun hl=>by
  unfold ZcG
  rw[Ze hl,Bool.true_and,List.not_any_eq_all_not]
  congr 1
  funext n
  rw[Bool.eq_iff_iff]
  simp
 have hn:¬l0.length=3→ZcG l0=false:=fun hl=>by simp[ZcG,hl]
 have HV:=Za hv;have HN:=Za hn
 have HC:=Za (Zb2.any (fun n=>decide (n < -1) || decide (n > 1)) 239 #[] (enters_of Tryz.func239 (by kernel_rfl) rfl) A0 c0 l0 w hr0
  (fun W x _ _=>(ZcV.calls x (decide (x < -1) || decide (x > 1)) W (by
   unfold ZcV.f
   by_cases h1:x < -1
   ·rw[if_pos h1,Ze h1];rfl
   ·rw[if_neg h1,Zf h1];rfl)).mono fun e w' ⟨he,hd⟩=>⟨he,hd.below⟩))
 clear hv hn h hr0 hc0
 by_cases hl:l0.length=3
 ·have h3:((l0.length:Int) == 3)=true:=by rw[beq_iff_eq];omega
  have HL:=Za hl;clear hl
  go_enter Tryz.func217,Tryz.ntmps217
  go_wp2_with (go_at_call 79;refine HC.out.mono ?_;rintro e w' ⟨rfl,hb⟩)
  go_ret
  exact⟨by rw[← HV.out HL.out];rfl,hb⟩
 ·have h3:((l0.length:Int) == 3)=false:=by rw[beq_eq_false_iff_ne];omega
  have HL:=Za hl;clear hl
  go_enter Tryz.func217,Tryz.ntmps217
  go_wp2
  go_ret
  exact⟨by rw[HN.out HL.out];rfl,Below.refl _ _⟩
def impl_holds.f (a0:Int) (l1:List Int):Option (Int):=(ZaP.f a0).bind fun t1=>(if 0≤(wrap64 (t1 - 1)) then(if (wrap64 (t1 - 1))<(l1.length:Int) then(if a0<0 then(some (wrap64 (-(rd l1 (wrap64 (t1 - 1)))))) else(some (rd l1 (wrap64 (t1 - 1))))) else(none)) else(none))
theorem impl_holds.calls (a0:Int) (A1:Option Addr) (c1:Nat) (l1:List Int) (r:Int) (w:World) (hr1:Kd.C (Kd.int .i64) w A1 l1.length l1) (hc1:l1.length≤c1) (h:impl_holds.f a0 l1=some r) :
  Calls Tryz.prog 218 #[.int .i64 a0,.slice A1 l1.length c1] w fun e w'=>e=.returned (.int .i64 r)∧Below w.heap.size w w':=by
 have HR1:=Za hr1;have HC1:=Za hc1;clear hr1 hc1
 have HB:=Za (Below.refl w.heap.size w)
 have H:((ZaP.f a0).bind fun t1=>(if 0≤(wrap64 (t1 - 1)) then(if (wrap64 (t1 - 1))<(l1.length:Int) then(if a0<0 then(some (wrap64 (-(rd l1 (wrap64 (t1 - 1)))))) else(some (rd l1 (wrap64 (t1 - 1))))) else(none)) else(none)))=some r:=h
 clear h
 replace H:=Zh H
 obtain⟨t1,A30,H⟩:=H
 replace H:(if 0≤(wrap64 (t1 - 1)) then(if (wrap64 (t1 - 1))<(l1.length:Int) then(if a0<0 then(some (wrap64 (-(rd l1 (wrap64 (t1 - 1)))))) else(some (rd l1 (wrap64 (t1 - 1))))) else(none)) else(none))=some r:=H
 have A3:=Za A30;clear A30
 obtain⟨ji4,hji4⟩:∃j_:Int,(wrap64 (t1 - 1))=j_:=⟨_,rfl⟩
 replace H:(if 0≤(ji4) then(if (ji4)<(l1.length:Int) then(if a0<0 then(some (wrap64 (-(rd l1 (ji4))))) else(some (rd l1 (ji4)))) else(none)) else(none))=some r:=by first|(rw[hji4] at H;exact H)|(simp only[hji4] at H ⊢;exact H)
 (try rw[hji4] at A3)
 have hji4w:(IntKind.i64.wrap (t1 - 1))=ji4:=(i64_w _).trans hji4
 by_cases c5:0≤(ji4)
 ·rw[if_pos c5] at H
  have c5b0:decide (0≤(ji4))=true:=Ze c5
  clear c5
  by_cases c6:(ji4)<(l1.length:Int)
  ·rw[if_pos c6] at H
   have c6b0:decide ((ji4)<(l1.length:Int))=true:=Ze c6
   clear c6
   by_cases c7:a0<0
   ·rw[if_pos c7] at H
    have c7b0:decide (a0<0)=true:=Ze c7
    clear c7
    obtain rfl:=Zg H
    go_enter Tryz.func218,Tryz.ntmps218
    go_wp2_with (first|((with_reducible refine ZM (f:=144) rfl ?_);refine Z7 (some 8) rfl rfl Tryz.func144 (by kernel_rfl) rfl #[.int .i64 a0] rfl (by(try simp only[List.map_toArray,List.map_cons,List.map_nil]);first|done|rfl|(simp only[Zk,Zj];rfl)) ?_;(with_reducible refine(ZaP.calls a0 t1 _ A3.out).mono ?_);rintro e w8 ⟨rfl,hb⟩;refine⟨_,rfl,?_⟩;replace HB:=Za (Zr (by repeat(first|(with_reducible first|exact HB.out|apply Zo|apply Zn|apply Zp)|exact HB.out)) hb);(try clear hb);(try clear hb2);(try clear hk);(try clear hi);have p2:0≤((ji4):Int):=Zd (by first|(with_reducible assumption)|assumption);have q2:(ji4)<(l1.length:Int):=Zd (by first|(with_reducible assumption)|assumption);obtain⟨ad2,e2,hx2_0⟩:=Kd.at_int HR1.out (ji4) p2 q2;cases e2;replace hx2_0:=(HB.out.cell (Zc w _ hx2_0)).trans hx2_0;replace p2:=eq_true p2;replace q2:=eq_true q2))
    go_ret
    exact⟨by first|rfl|(simp[ZC,ZB] <;> rfl)|(simp only[← hji4];first|rfl|(simp[ZC,ZB] <;> rfl))|(simp[*,ZC,ZB] <;> rfl),by repeat(first|(with_reducible first|exact HB.out|apply Zo|apply Zn|apply Zp)|exact HB.out)⟩
   ·rw[if_neg c7] at H
    have c7b0:decide (a0<0)=false:=Zf c7
    clear c7
    obtain rfl:=Zg H
    go_enter Tryz.func218,Tryz.ntmps218
    go_wp2_with (first|((with_reducible refine ZM (f:=144) rfl ?_);refine Z7 (some 8) rfl rfl Tryz.func144 (by kernel_rfl) rfl #[.int .i64 a0] rfl (by(try simp only[List.map_toArray,List.map_cons,List.map_nil]);first|done|rfl|(simp only[Zk,Zj];rfl)) ?_;(with_reducible refine(ZaP.calls a0 t1 _ A3.out).mono ?_);rintro e w9 ⟨rfl,hb⟩;refine⟨_,rfl,?_⟩;replace HB:=Za (Zr (by repeat(first|(with_reducible first|exact HB.out|apply Zo|apply Zn|apply Zp)|exact HB.out)) hb);(try clear hb);(try clear hb2);(try clear hk);(try clear hi);have p2:0≤((ji4):Int):=Zd (by first|(with_reducible assumption)|assumption);have q2:(ji4)<(l1.length:Int):=Zd (by first|(with_reducible assumption)|assumption);obtain⟨ad2,e2,hx2_0⟩:=Kd.at_int HR1.out (ji4) p2 q2;cases e2;replace hx2_0:=(HB.out.cell (Zc w _ hx2_0)).trans hx2_0;replace p2:=eq_true p2;replace q2:=eq_true q2))
    go_ret
    exact⟨by first|rfl|(simp[ZC,ZB] <;> rfl)|(simp only[← hji4];first|rfl|(simp[ZC,ZB] <;> rfl))|(simp[*,ZC,ZB] <;> rfl),by repeat(first|(with_reducible first|exact HB.out|apply Zo|apply Zn|apply Zp)|exact HB.out)⟩
  ·rw[if_neg c6] at H
   exact absurd H (by simp)
 ·rw[if_neg c5] at H
  exact absurd H (by simp)
mutual
def ZY.j0:Nat→List Int→List Int→Bool→Option (Int)
 | 0,_,_,_=>none
 | k+1,x0,x1,x15=>if x15=true then(some (-1)) else(ZY.l0 k x1 1 x0 (x0.length:Int) 0)
def ZY.l0:Nat→List Int→Int→List Int→Int→Int→Option (Int)
 | 0,_,_,_,_,_=>none
 | k+1,x1,x5,x16,x17,x18=>if x18<x17 then(if 0≤x18 then(if x18<(x16.length:Int) then((impl_holds.f (rd x16 x18) x1).bind fun t4=>(ZY.l0 k x1 (mn x5 t4) x16 x17 (wrap64 (x18+1)))) else(none)) else(none)) else(some x5)
end
def ZY.f (k:Nat) (l0:List Int) (l1:List Int):Option (Int):=(Z8.f k l0).bind fun t1=>(if t1=true then((Zco.f l1).bind fun t2=>(ZY.j0 k l0 l1 (!t2))) else(ZY.j0 k l0 l1 true))
theorem ZY.calls (k:Nat) (A0:Option Addr) (c0:Nat) (l0:List Int) (A1:Option Addr) (c1:Nat) (l1:List Int) (r:Int) (w:World) (hr0:Kd.C (Kd.int .i64) w A0 l0.length l0) (hc0:l0.length≤c0) (hr1:Kd.C (Kd.int .i64) w A1 l1.length l1) (hc1:l1.length≤c1) (h:ZY.f k l0 l1=some r) :
  Calls Tryz.prog 198 #[.slice A0 l0.length c0,.slice A1 l1.length c1] w fun e w'=>e=.returned (.int .i64 r)∧Below w.heap.size w w':=by
 have HR0:=Za hr0;have HC0:=Za hc0;clear hr0 hc0;have HR1:=Za hr1;have HC1:=Za hc1;clear hr1 hc1
 have HB:=Za (Below.refl w.heap.size w)
 have H:((Z8.f k l0).bind fun t1=>(if t1=true then((Zco.f l1).bind fun t2=>(ZY.j0 k l0 l1 (!t2))) else(ZY.j0 k l0 l1 true)))=some r:=h
 clear h;have HC3:=Za H;clear H
 go_enter Tryz.func198,Tryz.ntmps198
 go_upto_region 1 with (fail)
 go_cut [15] (fun v15 wc=>∃(kq:Nat) (x15_2:Bool),v15=.bool x15_2∧Aside0 (ZY.j0 kq l0 l1 x15_2=some r)∧Aside0 (kq≤k)∧Aside0 (Below w.heap.size w wc))
 case first=>
  have H:=HC3.out
  clear HC3
  replace H:=Zh H
  obtain⟨t1,A40,H⟩:=H;have A4:=Za A40;clear A40
  by_cases c5:t1=true
  ·subst c5
   rw[if_pos rfl] at H
   replace H:=Zh H
   obtain⟨t2,A60,H⟩:=H;have A6:=Za A60;clear A60
   have H':=Za H
   clear H
   go_wp2_with (first|((with_reducible refine ZM (f:=87) rfl ?_);refine Z7 (some 9) rfl rfl Tryz.func87 (by kernel_rfl) rfl #[.slice A0 l0.length c0] rfl (by(try simp only[List.map_toArray,List.map_cons,List.map_nil]);first|done|rfl|(simp only[Zk,Zj];rfl)) ?_;(with_reducible refine(Z8.calls k _ _ l0 true _ ?side1 ?side2 A4.out).mono ?_);(case side1=>repeat(first|exact(Zb HR0.out HB.out)|(with_reducible refine Kd.C_alloc ?_ _)|(with_reducible refine Kd.C_drewN ?_ _)|(with_reducible refine Kd.C_drew ?_)));(case side2=>exact HC0.out);rintro e w7 ⟨rfl,hb⟩;refine⟨_,rfl,?_⟩;replace HB:=Za (Zr (by repeat(first|(with_reducible first|exact HB.out|apply Zo|apply Zn|apply Zp)|exact HB.out)) hb);(try clear hi))|(go_at_call 217;(with_reducible refine(Zco.calls _ _ l1 t2 _ ?side1 ?side2 A6.out).mono ?_);(case side1=>repeat(first|exact(Zb HR1.out HB.out)|(with_reducible refine Kd.C_alloc ?_ _)|(with_reducible refine Kd.C_drewN ?_ _)|(with_reducible refine Kd.C_drew ?_)));(case side2=>exact HC1.out);rintro e w8 ⟨rfl,hb⟩;replace HB:=Za (Zr (by repeat(first|(with_reducible first|exact HB.out|apply Zo|apply Zn|apply Zp)|exact HB.out)) hb);(try clear hi)))
   go_meet
   case rel=>exact⟨_,(!t2),(by first|rfl|(simp;done)|(simp[*];done)),H',⟨by first|omega|exact Nat.le_refl _⟩,⟨by repeat(first|(with_reducible first|exact HB.out|apply Zo|apply Zn|apply Zp)|exact HB.out)⟩⟩
  ·replace c5:=Bool.eq_false_iff.mpr c5
   subst c5
   have H1:(ZY.j0 k l0 l1 true)=some r:=by rw[if_neg (show ¬(false=true) by decide)] at H;exact H
   clear H
   have H:=H1
   clear H1
   have H':=Za H
   clear H
   go_wp2_with (first|((with_reducible refine ZM (f:=87) rfl ?_);refine Z7 (some 9) rfl rfl Tryz.func87 (by kernel_rfl) rfl #[.slice A0 l0.length c0] rfl (by(try simp only[List.map_toArray,List.map_cons,List.map_nil]);first|done|rfl|(simp only[Zk,Zj];rfl)) ?_;(with_reducible refine(Z8.calls k _ _ l0 false _ ?side1 ?side2 A4.out).mono ?_);(case side1=>repeat(first|exact(Zb HR0.out HB.out)|(with_reducible refine Kd.C_alloc ?_ _)|(with_reducible refine Kd.C_drewN ?_ _)|(with_reducible refine Kd.C_drew ?_)));(case side2=>exact HC0.out);rintro e w9 ⟨rfl,hb⟩;refine⟨_,rfl,?_⟩;replace HB:=Za (Zr (by repeat(first|(with_reducible first|exact HB.out|apply Zo|apply Zn|apply Zp)|exact HB.out)) hb);(try clear hi)))
   go_meet
   case rel=>exact⟨_,(true),(by first|rfl|(simp;done)|(simp[*];done)),H',⟨by first|omega|exact Nat.le_refl _⟩,⟨by repeat(first|(with_reducible first|exact HB.out|apply Zo|apply Zn|apply Zp)|exact HB.out)⟩⟩
 case rest=>
  clear HC3
  try clear c1
  try clear p2
  try clear c5
  try clear c8
  obtain⟨kq,x15_2,rfl,HA,HJ2,HB⟩:=hcut
  cases kq with
  | zero=>exact absurd HA.out (by simp[ZY.j0])
  | succ kj2=>
   have H:=HA.out
   clear HA
   simp only[ZY.j0] at H
   by_cases c10:x15_2=true
   ·subst c10
    rw[if_pos rfl] at H
    obtain rfl:=Zg H
    go_wp2
    go_ret
    exact⟨by first|rfl|(simp[ZC,ZB] <;> rfl)|(simp[*,ZC,ZB] <;> rfl),by repeat(first|(with_reducible first|exact HB.out|apply Zo|apply Zn|apply Zp)|exact HB.out)⟩
   ·replace c10:=Bool.eq_false_iff.mpr c10
    subst c10
    have H1:(ZY.l0 kj2 l1 1 l0 (l0.length:Int) 0)=some r:=by rw[if_neg (show ¬(false=true) by decide)] at H;exact H
    clear H
    have H:=H1
    clear H1
    have H':=Za H
    clear H
    go_wp2
    go_loopg [5,18] kj2 (fun kq v5 v18 w'=>∃(x5_2:Int) (x18_2:Int),v5=.int .i64 x5_2∧v18=.int .i64 x18_2∧Aside0 (ZY.l0 kq l1 x5_2 l0 (l0.length:Int) x18_2=some r)∧Aside0 (kq≤kj2)∧Aside0 (Below w.heap.size w w'))
    case atStart=>exact⟨(1),(0),(by first|rfl|(simp;done)|(simp[*];done)),(by first|rfl|(simp;done)|(simp[*];done)),H',⟨Nat.le_refl _⟩,⟨by repeat(first|(with_reducible first|exact HB.out|apply Zo|apply Zn|apply Zp)|exact HB.out)⟩⟩
    case round=>
     clear H'
     try clear c1
     try clear p2
     try clear c5
     try clear c8
     try clear c10
     try clear p2
     obtain⟨x5_2,x18_2,rfl,rfl,HA,HK2,HB⟩:=hrel
     cases gk with
     | zero=>exact absurd HA.out (by simp[ZY.l0])
     | succ k2=>
      have H:=HA.out
      clear HA
      simp only[ZY.l0] at H
      by_cases c11:x18_2<(l0.length:Int)
      ·rw[if_pos c11] at H
       have c11b0:decide (x18_2<(l0.length:Int))=true:=Ze c11
       clear c11
       by_cases c12:0≤x18_2
       ·rw[if_pos c12] at H
        have c12b0:decide (0≤x18_2)=true:=Ze c12
        clear c12
        by_cases c13:x18_2<(l0.length:Int)
        ·rw[if_pos c13] at H
         have c13b0:decide (x18_2<(l0.length:Int))=true:=Ze c13
         clear c13
         replace H:=Zh H
         obtain⟨t4,A140,H⟩:=H;have A14:=Za A140;clear A140
         obtain⟨ji15,hji15⟩:∃j_:Int,(mn x5_2 t4)=j_:=⟨_,rfl⟩
         replace H:(ZY.l0 k2 l1 ji15 l0 (l0.length:Int) (wrap64 (x18_2+1)))=some r:=by first|(rw[hji15] at H;exact H)|(simp only[hji15] at H ⊢;exact H)
         (try rw[hji15] at A14)
         have hji15_:(if t4<x5_2 then t4 else x5_2)=ji15:=hji15
         have H':=Za H
         clear H
         have p3:0≤(x18_2:Int):=Zd (by first|(with_reducible assumption)|assumption)
         have q3:x18_2<(l0.length:Int):=Zd (by first|(with_reducible assumption)|assumption)
         obtain⟨ad3,e3,hx3_0⟩:=Kd.at_int HR0.out x18_2 p3 q3
         cases e3
         replace hx3_0:=(HB.out.cell (Zc w _ hx3_0)).trans hx3_0
         replace p3:=eq_true p3
         replace q3:=eq_true q3
         go_wp2_with (first|((with_reducible refine ZM (f:=218) rfl ?_);refine Z7 (some 25) rfl rfl Tryz.func218 (by kernel_rfl) rfl #[.int .i64 (rd l0 x18_2),.slice A1 l1.length c1] rfl (by(try simp only[List.map_toArray,List.map_cons,List.map_nil]);first|done|rfl|(simp only[Zk,Zj];rfl)) ?_;(with_reducible refine(impl_holds.calls (rd l0 x18_2) _ _ l1 t4 _ ?side1 ?side2 A14.out).mono ?_);(case side1=>repeat(first|exact(Zb HR1.out HB.out)|(with_reducible refine Kd.C_alloc ?_ _)|(with_reducible refine Kd.C_drewN ?_ _)|(with_reducible refine Kd.C_drew ?_)));(case side2=>exact HC1.out);rintro e w16 ⟨rfl,hb⟩;refine⟨_,rfl,?_⟩;replace HB:=Za (Zr (by repeat(first|(with_reducible first|exact HB.out|apply Zo|apply Zn|apply Zp)|exact HB.out)) hb);(try clear hi)))
         go_roundg k2
         case measure=>have:=HJ2.out;have:=HK2.out;omega
         case rel=>exact⟨(ji15),(wrap64 (x18_2+1)),(by first|rfl|(simp;done)|(simp only[← hji15] <;> (first|rfl|simp))|(simp[*];done)),(by first|rfl|(simp;done)|(simp[*];done)),H',⟨by have:=HJ2.out;have:=HK2.out;omega⟩,⟨by repeat(first|(with_reducible first|exact HB.out|apply Zo|apply Zn|apply Zp)|exact HB.out)⟩⟩
        ·rw[if_neg c13] at H
         exact absurd H (by simp)
       ·rw[if_neg c12] at H
        exact absurd H (by simp)
      ·rw[if_neg c11] at H
       have c11b0:decide (x18_2<(l0.length:Int))=false:=Zf c11
       clear c11
       obtain rfl:=Zg H
       go_wp2
       go_ret
       exact⟨by first|rfl|(simp[ZC,ZB] <;> rfl)|(simp[*,ZC,ZB] <;> rfl),by repeat(first|(with_reducible first|exact HB.out|apply Zo|apply Zn|apply Zp)|exact HB.out)⟩
def Za5.f (k:Nat) (l0_0:List (S39)) (l0_1:List (S82)) (a0_2:Int) (l1_0:List Int) (l1_1:List Int) (a2:Int):Option (Bool):=if 0≤a2 then(if a2<(l0_0.length:Int) then((ZY.f k ((ZJ l0_0 a2).f1) l1_1).bind fun t4=>(some (t4 == 1))) else(none)) else(none)
def Za5.T1:Bool×List (List Nat×List Nat):=(true,[([],[]),([0],[0]),([],[]),([1,2],[1,2]),([3],[3]),([4],[4]),([],[]),([6],[6]),([5,7],[5,7]),([8],[8]),([9,8,0,1,2,3,4,5,6,7,8,9],[9])])
def Za5.B1:List Nat:=[0,1,0,7,15,31,0,64,255,511,1023]
theorem Za5.tab1:rtab .any (opsOf Tryz.f162 1)=Za5.T1:=by kernel_rfl
theorem Za5.bits1:ZdJ Za5.T1.2 Za5.B1=true:=by kernel_rfl
theorem Za5.calls (k:Nat) (A0_0:Option Addr) (c0_0:Nat) (l0_0:List (S39)) (A0_1:Option Addr) (c0_1:Nat) (l0_1:List (S82)) (a0_2:Int) (A1_0:Option Addr) (c1_0:Nat) (l1_0:List Int) (A1_1:Option Addr) (c1_1:Nat) (l1_1:List Int) (a2:Int) (r:Bool) (w:World) (hr0_0:Kd.C k39 w A0_0 l0_0.length l0_0) (hc0_0:l0_0.length≤c0_0) (hr0_1:Kd.C k82 w A0_1 l0_1.length l0_1) (hc0_1:l0_1.length≤c0_1) (hr1_0:Kd.C (Kd.int .i64) w A1_0 l1_0.length l1_0) (hc1_0:l1_0.length≤c1_0) (hr1_1:Kd.C (Kd.int .i64) w A1_1 l1_1.length l1_1) (hc1_1:l1_1.length≤c1_1) (h:Za5.f k l0_0 l0_1 a0_2 l1_0 l1_1 a2=some r) :
  Calls Tryz.prog 162 #[.agg #[.slice A0_0 l0_0.length c0_0,.slice A0_1 l0_1.length c0_1,.int .i64 a0_2],.agg #[.slice A1_0 l1_0.length c1_0,.slice A1_1 l1_1.length c1_1],.int .i64 a2] w fun e w'=>e=.returned (.bool r)∧Below w.heap.size w w':=by
 have hu25:=Tryz.underlying25
 have hu58:=Tryz.underlying58
 have HR0_0:=Za hr0_0;have HC0_0:=Za hc0_0;clear hr0_0 hc0_0;have HR0_1:=Za hr0_1;have HC0_1:=Za hc0_1;clear hr0_1 hc0_1;have HR1_0:=Za hr1_0;have HC1_0:=Za hc1_0;clear hr1_0 hc1_0;have HR1_1:=Za hr1_1;have HC1_1:=Za hc1_1;clear hr1_1 hc1_1
 have HB:=Za (Below.refl w.heap.size w)
 have H:(if 0≤a2 then(if a2<(l0_0.length:Int) then((ZY.f k ((ZJ l0_0 a2).f1) l1_1).bind fun t4=>(some (t4 == 1))) else(none)) else(none))=some r:=h
 clear h
 by_cases c4:0≤a2
 ·rw[if_pos c4] at H
  have c4b0:decide (0≤a2)=true:=Ze c4
  clear c4
  by_cases c5:a2<(l0_0.length:Int)
  ·rw[if_pos c5] at H
   have c5b0:decide (a2<(l0_0.length:Int))=true:=Ze c5
   clear c5
   replace H:=Zh H
   obtain⟨t4,A60,H⟩:=H
   replace H:(some (t4 == 1))=some r:=H
   have A6:=Za A60;clear A60
   obtain rfl:=Zg H
   go_enter Tryz.func162,Tryz.ntmps162
   try go_wp2_with (first|((with_reducible refine ZF (N:=3) rfl ?_);refine ZG ?hg (N:=3) ?hd (cs:=#[.slice A0_0 l0_0.length c0_0,.slice A0_1 l0_1.length c0_1,.int .i64 a0_2]) (t:=25) ?hr ?_;(case hd=>rfl);(case hg=>rfl);(case hr=>first|(go_simp;done)|(go_simp;rfl));intro gb1 hg w7 hbox hb;have BK1:=Za (hbox);have GW1:=Za ((by rw[hg];exact(Zv (by exact HB.out)):w.heap.size≤gb1));have GE1:=Za ((by rw[hg];exact(Zv (by exact HB.out)):w.heap.size≤gb1));replace HB:=Za (Zr (by exact HB.out) hb);clear hb hbox hg)|((with_reducible refine ZF (N:=4) rfl ?_);refine ZG ?hg (N:=4) ?hd (cs:=#[.slice A1_0 l1_0.length c1_0,.slice A1_1 l1_1.length c1_1]) (t:=58) ?hr ?_;(case hd=>rfl);(case hg=>rfl);(case hr=>first|(go_simp;done)|(go_simp;rfl));intro gb2 hg w8 hbox hb;have BK2:=Za (hbox);have GW2:=Za ((by rw[hg];exact(Zv (by exact HB.out)):w.heap.size≤gb2));have GE2:=Za ((by rw[hg];exact(Zv (by exact HB.out)):w.heap.size≤gb2));have NB1_2:=Za ((by rw[hg];exact Nat.ne_of_lt (ZN (g:=gb1) (o:=.cells #[.slice A0_0 l0_0.length c0_0,.slice A0_1 l0_1.length c0_1,.int .i64 a0_2] 25 (0,0)) (by exact BK1.out)):gb1≠gb2));have NB2_1:=Za ((by rw[hg];exact Nat.ne_of_gt (ZN (g:=gb1) (o:=.cells #[.slice A0_0 l0_0.length c0_0,.slice A0_1 l0_1.length c0_1,.int .i64 a0_2] 25 (0,0)) (by exact BK1.out)):gb2≠gb1));replace BK1:=Za (Zs (g:=gb1) (o:=.cells #[.slice A0_0 l0_0.length c0_0,.slice A0_1 l0_1.length c0_1,.int .i64 a0_2] 25 (0,0)) (by exact BK1.out) hb);replace HB:=Za (Zr (by exact HB.out) hb);clear hb hbox hg))
   replace BK1:=Za (Zz BK1.out);replace BK2:=Za (Zz BK2.out);replace HB:=Za (Zp HB.out)
   have p3:0≤(a2:Int):=Zd (by with_reducible assumption)
   have q3:a2<(l0_0.length:Int):=Zd (by with_reducible assumption)
   obtain⟨ad3,A3_1,c3_1,e3,hx3_0,hx3_1,hx3_2,hl3_1,hi3_1⟩:=ZaX HR0_0.out a2 p3 q3
   have hw3_2:=hx3_2
   have hw3_1:=hx3_1
   have hw3_0:=hx3_0
   cases e3
   replace hx3_0:=(HB.out.cell (Zc w _ hx3_0)).trans hx3_0
   replace hx3_1:=(HB.out.cell (Zc w _ hx3_1)).trans hx3_1
   replace hx3_2:=(HB.out.cell (Zc w _ hx3_2)).trans hx3_2
   have HR3_1:=Za hi3_1;have HC3_1:=Za hl3_1;clear hi3_1 hl3_1
   replace p3:=eq_true p3
   replace q3:=eq_true q3
   refine Zbd (n:=11) (S:=fun w'=>w'.cell? ⟨gb1,0,none⟩=some (.slice (some ad3) l0_0.length c0_0)∧w'.cell? ⟨gb1,1,none⟩=some (.slice A0_1 l0_1.length c0_1)∧w'.cell? ⟨gb1,2,none⟩=some (.int .i64 a0_2)∧w'.cell? ⟨gb2,0,none⟩=some (.slice A1_0 l1_0.length c1_0)∧w'.cell? ⟨gb2,1,none⟩=some (.slice A1_1 l1_1.length c1_1)∧w'.cell? (ad3.add ((a2).toNat * 3))=some (.string ((ZJ l0_0 a2).f0))∧w'.cell? ⟨(ad3.add ((a2).toNat * 3)).block,(ad3.add ((a2).toNat * 3)).off+1,none⟩=some (.slice A3_1 ((ZJ l0_0 a2).f1).length c3_1)∧w'.cell? ⟨(ad3.add ((a2).toNat * 3)).block,(ad3.add ((a2).toNat * 3)).off+2,none⟩=some (.int .i64 ((ZJ l0_0 a2).f2))) (ds:=[]) #[false,false,false,false,false,false,false,false,false,false,false] (by kernel_rfl) rfl rfl ⟨(Zm BK1.out 0).trans rfl,(Zm BK1.out 1).trans rfl,(Zm BK1.out 2).trans rfl,(Zm BK2.out 0).trans rfl,(Zm BK2.out 1).trans rfl,((HB.out.cell (Zc w _ hw3_0)).trans hw3_0),((HB.out.cell (Zc w _ hw3_1)).trans hw3_1),((HB.out.cell (Zc w _ hw3_2)).trans hw3_2)⟩ (fun hHeld=>?_);refine Zdd Za5.tab1 Za5.bits1 (fun HT_ HW_=>?_)
   generalize w8.drew=w9 at BK1 BK2 HB HR3_1 hx3_0 hx3_1 hx3_2 hHeld ⊢
   refine pu (N:=some 7) 0 ?_
   refine pu (N:=some 9) 2 ?_
   refine pu (N:=some 13) 6 ?_
   refine tk (N:=some 8) 1 hHeld ?_
   refine pu (N:=some 10) 3 ?_
   refine pu (N:=some 11) 4 ?_
   refine tk (N:=some 12) 5 hHeld ?_
   refine tk (N:=some 14) 7 hHeld ?_
   refine onl (N:=some 15) 8 (fun K hK=>?_)
   refine ZaU Tryz.func198 (by kernel_rfl) rfl #[.slice A3_1 ((ZJ l0_0 a2).f1).length c3_1,.slice A1_1 l1_1.length c1_1] (by rfl) rfl rfl (by(try simp only[List.map_toArray,List.map_cons,List.map_nil]);first|done|rfl|(simp only[Zk,Zj];rfl)) ?_
   with_reducible refine(ZY.calls k _ _ ((ZJ l0_0 a2).f1) _ _ l1_1 t4 _ ?side1 ?side2 ?side3 ?side4 A6.out).mono ?_
   (case side1=>exact(Zb HR3_1.out HB.out))
   (case side2=>exact HC3_1.out)
   (case side3=>exact(Zb HR1_1.out HB.out))
   (case side4=>exact HC1_1.out)
   rintro e w10 ⟨rfl,hb⟩
   refine⟨_,rfl,?_⟩
   replace BK1:=Za (Zs (g:=gb1) (o:=.cells #[.slice (some ad3) l0_0.length c0_0,.slice A0_1 l0_1.length c0_1,.int .i64 a0_2] 25 (0,0)) (by exact BK1.out) hb);replace BK2:=Za (Zs (g:=gb2) (o:=.cells #[.slice A1_0 l1_0.length c1_0,.slice A1_1 l1_1.length c1_1] 58 (0,0)) (by exact BK2.out) hb);replace HB:=Za (Zr (by exact HB.out) hb)
   (try clear hb)
   (try clear hb2)
   (try clear hk)
   (try clear hi)
   refine hK.out _ _ ⟨(Zm BK1.out 0).trans rfl,(Zm BK1.out 1).trans rfl,(Zm BK1.out 2).trans rfl,(Zm BK2.out 0).trans rfl,(Zm BK2.out 1).trans rfl,((HB.out.cell (Zc w _ hw3_0)).trans hw3_0),((HB.out.cell (Zc w _ hw3_1)).trans hw3_1),((HB.out.cell (Zc w _ hw3_2)).trans hw3_2)⟩ (fun hHeld=>?_)
   clear hK K
   refine nrm (some 15) ?_
   refine pu (N:=some 16) 9 ?_
   refine pu (N:=some 6) 10 ?_
   refine Zbu (ZdO HT_.out (by kernel_rfl)) ?_
   try go_wp2
   go_ret
   exact⟨by first|rfl|(simp[ZC,ZB] <;> rfl)|(simp[*,ZC,ZB] <;> rfl),by repeat(first|(with_reducible first|exact HB.out|apply Zo|apply Zn|apply Zp|refine Zt ?_ GE1.out|refine Zt ?_ GE2.out)|exact HB.out)⟩
  ·rw[if_neg c5] at H
   exact absurd H (by simp)
 ·rw[if_neg c4] at H
  exact absurd H (by simp)
end Go.Proofs.YtoeimopgoaffcaaGreatDoor.Pr
namespace Go.Proofs
open Go.Shelf
def Tryz.laysM171_ren:Go.Shelf.Ren:=⟨fun|171=>143|243=>191|246=>214|283=>233|284=>234|285=>235|286=>236|129=>248|317=>247|318=>249|319=>250|320=>251|337=>254|338=>255|n=>n,fun|3=>3|9=>9|2=>2|4=>4|171=>204|0=>0|53=>205|37=>31|5=>5|173=>208|212=>231|51=>214|20=>20|213=>232|46=>162|232=>239|233=>240|n=>n,fun|17=>5|18=>6|19=>7|n=>n⟩
theorem Tryz.laysM171:Go.Proofs.LaysM.n171 Tryz.prog Tryz.laysM171_ren:={
 mixed:=by kernel_rfl
 f129:=Tryz.func248.trans (congrArg some (by kernel_rfl))
 f171:=Tryz.func143.trans (congrArg some (by kernel_rfl))
 f243:=Tryz.func191.trans (congrArg some (by kernel_rfl))
 f246:=Tryz.func214.trans (congrArg some (by kernel_rfl))
 f283:=Tryz.func233.trans (congrArg some (by kernel_rfl))
 f284:=Tryz.func234.trans (congrArg some (by kernel_rfl))
 f285:=Tryz.func235.trans (congrArg some (by kernel_rfl))
 f286:=Tryz.func236.trans (congrArg some (by kernel_rfl))
 f317:=Tryz.func247.trans (congrArg some (by kernel_rfl))
 f318:=Tryz.func249.trans (congrArg some (by kernel_rfl))
 f319:=Tryz.func250.trans (congrArg some (by kernel_rfl))
 f320:=Tryz.func251.trans (congrArg some (by kernel_rfl))
 f337:=Tryz.func254.trans (congrArg some (by kernel_rfl))
 f338:=Tryz.func255.trans (congrArg some (by kernel_rfl))
 t0:=Tryz.underlying0
 a0:=Tryz.isAgg0
 z0:=Tryz.sizeOf0
 v0:=Tryz.zeroValue0
 t2:=Tryz.underlying2
 a2:=Tryz.isAgg2
 z2:=Tryz.sizeOf2
 v2:=Tryz.zeroValue2
 t3:=Tryz.underlying3
 a3:=Tryz.isAgg3
 z3:=Tryz.sizeOf3
 v3:=Tryz.zeroValue3
 t4:=Tryz.underlying4
 a4:=Tryz.isAgg4
 z4:=Tryz.sizeOf4
 v4:=Tryz.zeroValue4
 t5:=Tryz.underlying5
 a5:=Tryz.isAgg5
 z5:=Tryz.sizeOf5
 v5:=Tryz.zeroValue5
 t9:=Tryz.underlying9
 a9:=Tryz.isAgg9
 z9:=Tryz.sizeOf9
 v9:=Tryz.zeroValue9
 t20:=Tryz.underlying20
 a20:=Tryz.isAgg20
 z20:=Tryz.sizeOf20
 v20:=Tryz.zeroValue20
 t37:=Tryz.underlying31
 a37:=Tryz.isAgg31
 z37:=Tryz.sizeOf31
 v37:=Tryz.zeroValue31
 t46:=Tryz.underlying162
 a46:=Tryz.isAgg162
 z46:=Tryz.sizeOf162
 v46:=Tryz.zeroValue162
 t51:=Tryz.underlying214
 a51:=Tryz.isAgg214
 z51:=Tryz.sizeOf214
 v51:=Tryz.zeroValue214
 t53:=Tryz.underlying205
 a53:=Tryz.isAgg205
 z53:=Tryz.sizeOf205
 v53:=Tryz.zeroValue205
 t171:=Tryz.underlying204
 a171:=Tryz.isAgg204
 z171:=Tryz.sizeOf204
 v171:=Tryz.zeroValue204
 t173:=Tryz.underlying208
 a173:=Tryz.isAgg208
 z173:=Tryz.sizeOf208
 v173:=Tryz.zeroValue208
 t212:=Tryz.underlying231
 a212:=Tryz.isAgg231
 z212:=Tryz.sizeOf231
 v212:=Tryz.zeroValue231
 t213:=Tryz.underlying232
 a213:=Tryz.isAgg232
 z213:=Tryz.sizeOf232
 t232:=Tryz.underlying239
 a232:=Tryz.isAgg239
 z232:=Tryz.sizeOf239
 v232:=Tryz.zeroValue239
 t233:=Tryz.underlying240
 a233:=Tryz.isAgg240
 z233:=Tryz.sizeOf240
 v233:=Tryz.zeroValue240
 g17:=by kernel_rfl
 g18:=by kernel_rfl
 g19:=by kernel_rfl
 i0:=by kernel_rfl
 i2:=by kernel_rfl
 i3:=by kernel_rfl
 i4:=by kernel_rfl
 i5:=by kernel_rfl
 i9:=by kernel_rfl
 i20:=by kernel_rfl
 i37:=by kernel_rfl
 i46:=by kernel_rfl
 i51:=by kernel_rfl
 i53:=by kernel_rfl
 i171:=by kernel_rfl
 i173:=by kernel_rfl
 i212:=by kernel_rfl
 i232:=by kernel_rfl
 i233:=by kernel_rfl
 m17:=by kernel_rfl
 m18:=by kernel_rfl
 m19:=by kernel_rfl }
open Go.RowKit Go.Sort Go.Lib in
theorem Tryz.strconv_Itoa (n : Int) (h0 : -9223372036854775808 ≤ n) (h1 : n ≤ 9223372036854775807) (w : World) (htab : Lib.TabIs Tryz.prog w "internal/strconv.uint64pow10" .u64 Lib.pow10Tab) :
  Calls Tryz.prog 143 #[.int .i64 n] w fun e w'=>e=.returned (.string ⟨(Lib.itoa n).toArray⟩)∧∃k os,w'=grow (w.drewN k) os:=Any.strconv_Itoa Tryz.laysM171 n h0 h1 w htab
def Tryz.lays156_ren:Go.Shelf.Ren:=⟨fun|156=>145|165=>192|166=>193|169=>194|240=>215|241=>216|276=>237|277=>238|n=>n,fun|31=>68|9=>9|3=>3|4=>4|0=>0|20=>20|72=>175|76=>169|70=>173|37=>31|75=>168|127=>192|164=>210|5=>5|80=>177|n=>n,fun|n=>n⟩
theorem Tryz.lays156:Go.Proofs.Lays.n156 Tryz.prog Tryz.lays156_ren:={
 mixed:=by kernel_rfl
 f156:=Tryz.func145.trans (congrArg some (by kernel_rfl))
 f165:=Tryz.func192.trans (congrArg some (by kernel_rfl))
 f166:=Tryz.func193.trans (congrArg some (by kernel_rfl))
 f169:=Tryz.func194.trans (congrArg some (by kernel_rfl))
 f240:=Tryz.func215.trans (congrArg some (by kernel_rfl))
 f241:=Tryz.func216.trans (congrArg some (by kernel_rfl))
 f276:=Tryz.func237.trans (congrArg some (by kernel_rfl))
 f277:=Tryz.func238.trans (congrArg some (by kernel_rfl))
 t0:=Tryz.underlying0
 a0:=Tryz.isAgg0
 z0:=Tryz.sizeOf0
 v0:=Tryz.zeroValue0
 t3:=Tryz.underlying3
 a3:=Tryz.isAgg3
 z3:=Tryz.sizeOf3
 v3:=Tryz.zeroValue3
 t4:=Tryz.underlying4
 a4:=Tryz.isAgg4
 z4:=Tryz.sizeOf4
 v4:=Tryz.zeroValue4
 t9:=Tryz.underlying9
 a9:=Tryz.isAgg9
 z9:=Tryz.sizeOf9
 v9:=Tryz.zeroValue9
 t20:=Tryz.underlying20
 a20:=Tryz.isAgg20
 z20:=Tryz.sizeOf20
 v20:=Tryz.zeroValue20
 t31:=Tryz.underlying68
 a31:=Tryz.isAgg68
 z31:=Tryz.sizeOf68
 v31:=Tryz.zeroValue68
 t37:=Tryz.underlying31
 a37:=Tryz.isAgg31
 z37:=Tryz.sizeOf31
 v37:=Tryz.zeroValue31
 t70:=Tryz.underlying173
 a70:=Tryz.isAgg173
 z70:=Tryz.sizeOf173
 v70:=Tryz.zeroValue173
 t72:=Tryz.underlying175
 a72:=Tryz.isAgg175
 z72:=Tryz.sizeOf175
 v72:=Tryz.zeroValue175
 t75:=Tryz.underlying168
 a75:=Tryz.isAgg168
 z75:=Tryz.sizeOf168
 v75:=Tryz.zeroValue168
 t76:=Tryz.underlying169
 a76:=Tryz.isAgg169
 z76:=Tryz.sizeOf169
 v76:=Tryz.zeroValue169
 t127:=Tryz.underlying192
 a127:=Tryz.isAgg192
 z127:=Tryz.sizeOf192
 v127:=Tryz.zeroValue192
 t164:=Tryz.underlying210
 a164:=Tryz.isAgg210
 z164:=Tryz.sizeOf210
 v164:=Tryz.zeroValue210 }
theorem Tryz.Builder_Extra_156:Builder.Extra Tryz.prog Tryz.lays156_ren:={
 sizeBuilder:=by kernel_rfl
 liesBuilder:=by kernel_rfl
 t5:=Tryz.underlying5
 a5:=Tryz.isAgg5
 z5:=Tryz.sizeOf5
 v5:=Tryz.zeroValue5
 infoByte:=by kernel_rfl
 cellsByte:=by kernel_rfl
 sizeByte:=by kernel_rfl
 neB5:=by decide }
open Go.RowKit in
theorem Tryz.strings_Join (bk o c:Nat) (xs:List ByteArray) (sep:ByteArray) (w:World) (hcells:∀(j:Nat) x,xs[j]? = some x→w.cell? ⟨bk,o+j,none⟩=some (.string x)) (hbk:bk<w.heap.size) (hN:xs.length≤140737488355328) (hcap:xs.length≤c) (hlen:(Lib.join (xs.map (·.data.toList)) sep.data.toList).length≤140737488355328) :
  Calls Tryz.prog 145 #[.slice (some ⟨bk,o,none⟩) xs.length c,.string sep] w fun e w'=>e=.returned (.string ⟨(Lib.join (xs.map (·.data.toList)) sep.data.toList).toArray⟩)∧Below w.heap.size w w':=Any.strings_Join Tryz.lays156 Tryz.Builder_Extra_156 bk o c xs sep w hcells hbk hN hcap hlen
open Go.RowKit in
theorem Tryz.strings_Join_none (a:Option Addr) (c:Nat) (sep:ByteArray) (w:World) :
  Calls Tryz.prog 145 #[.slice a 0 c,.string sep] w fun e w'=>e=.returned (.string ⟨#[]⟩)∧w'=w:=Any.strings_Join_none Tryz.lays156 Tryz.Builder_Extra_156 a c sep w
end Go.Proofs
namespace Go.Proofs.YtoeimopgoaffcaaGreatDoor.Pr
open RowKit YtoeimopgoaffcaaGreatDoorW.PrintWords YtoeimopgoaffcaaGreatDoorW.PrintLast YtoeimopgoaffcaaGreatDoorW.PrintMore
attribute [local go_sem] Zak Zai Zax Zaw Zac Zab Zaj Zah
set_option linter.unusedVariables false
set_option linter.unusedSimpArgs false
def ZaI.f (a0:Int):Option (ByteArray):=if -9223372036854775808≤a0∧a0≤9223372036854775807 then some ⟨(Lib.itoa a0).toArray⟩ else none
theorem ZaI.calls (a0:Int) (r:ByteArray) (w:World) (ht:TW w) (h:ZaI.f a0=some r) :
  Calls Tryz.prog 70 #[.int .i64 a0] w fun e w'=>e=.returned (.string r)∧Below w.heap.size w w':=by
 unfold ZaI.f at h
 by_cases hb : -9223372036854775808≤a0∧a0≤9223372036854775807
 case neg=>rw[if_neg hb] at h;exact absurd h (by simp)
 rw[if_pos hb] at h
 obtain rfl:=Zg h
 have HC:=Za (Tryz.strconv_Itoa a0 hb.1 hb.2 w (Lib.TabBelow.here ht))
 clear h ht hb
 go_enter Tryz.func70,Tryz.ntmps70
 go_wp2_with (go_at_call 143;refine HC.out.mono ?_;rintro e w' ⟨rfl,k,os,hw⟩;have hB:=Lib.below_grow w.heap.size w (Nat.le_refl _) k os;rw[← hw] at hB;clear hw)
 go_ret
 exact⟨rfl,hB⟩
def ZbA.f (l0:List ByteArray) (a1:ByteArray):Option (ByteArray):=if l0.length≤1048576∧(Lib.join (l0.map (·.data.toList)) a1.data.toList).length≤140737488355328 then some ⟨(Lib.join (l0.map (·.data.toList)) a1.data.toList).toArray⟩ else none
theorem ZbA.lib (A0:Option Addr) (c0:Nat) (l0:List ByteArray) (a1:ByteArray) (w:World) (hr0:Kd.C Kd.string w A0 l0.length l0) (hc0:l0.length≤c0) (hs0:∀ad,A0=some ad→ad.spot=none) (h1:l0.length≤1048576) (h2:(Lib.join (l0.map (·.data.toList)) a1.data.toList).length≤140737488355328) :
  Calls Tryz.prog 145 #[.slice A0 l0.length c0,.string a1] w fun e w'=>e=.returned (.string ⟨(Lib.join (l0.map (·.data.toList)) a1.data.toList).toArray⟩)∧Below w.heap.size w w':=by
 cases l0 with
 | nil=>exact(Tryz.strings_Join_none A0 c0 a1 w).mono fun e w' ⟨he,hw⟩=>⟨he,hw ▸ Below.refl _ _⟩
 | cons x t=>
  obtain⟨ad,hA,_⟩:=hr0.2.2 (by simp)
  have hsp:=hs0 ad hA
  obtain⟨b,o,sp⟩:=ad
  simp only at hsp
  subst hsp;subst hA
  have hcells:∀(j:Nat) y,(x :: t)[j]? = some y→w.cell? ⟨b,o+j,none⟩=some (.string y):=fun j y hy=>by
   have hj:=(List.getElem?_eq_some_iff.1 hy).1
   obtain⟨ad,he,hc⟩:=Kd.at_string hr0 (j:Int) (by omega) (by omega)
   cases he
   rw[Int.toNat_natCast,add_spot] at hc
   rw[hc]
   unfold rdOf
   rw[Int.toNat_natCast,List.getD_eq_getElem?_getD,hy];rfl
  have hbk:b<w.heap.size:=Zc w _ (hcells 0 x rfl)
  exact Tryz.strings_Join b o c0 (x :: t) a1 w hcells hbk (by omega) hc0 h2
theorem ZbA.calls (A0:Option Addr) (c0:Nat) (l0:List ByteArray) (a1:ByteArray) (r:ByteArray) (w:World) (hr0:Kd.C Kd.string w A0 l0.length l0) (hc0:l0.length≤c0) (hs0:∀ad,A0=some ad→ad.spot=none) (h:ZbA.f l0 a1=some r) :
  Calls Tryz.prog 73 #[.slice A0 l0.length c0,.string a1] w fun e w'=>e=.returned (.string r)∧Below w.heap.size w w':=by
 unfold ZbA.f at h
 by_cases hb:l0.length≤1048576∧(Lib.join (l0.map (·.data.toList)) a1.data.toList).length≤140737488355328
 case neg=>rw[if_neg hb] at h;exact absurd h (by simp)
 rw[if_pos hb] at h
 obtain rfl:=Zg h
 have HC:=Za (ZbA.lib A0 c0 l0 a1 w hr0 hc0 hs0 hb.1 hb.2)
 clear h hr0 hc0 hs0 hb
 go_enter Tryz.func73,Tryz.ntmps73
 go_wp2_with (go_at_call 145;refine HC.out.mono ?_;rintro e w' ⟨rfl,hb⟩)
 go_ret
 exact⟨rfl,hb⟩
end Go.Proofs.YtoeimopgoaffcaaGreatDoor.Pr
