/- The texts of one claim, put together by a program of this session. -/
import Derived.Deep.LoopGhost
import Derived.Shelf.Abstract
import Derived.Test.YtodfnelilhjoeaaBSnc1x1
import Derived.Test.YtodfnelilhjoeaaBSnc1x3
import Derived.Test.YtodfnelilhjoeaaBSnc1x4
import Derived.Test.YtodfnelilhjoeaaBSnc1x5
namespace Go.Proofs.Ytodfnelilhjoeaa.Pr
open Go.RowKit Go.Proofs.YtodfnelilhjoeaaW.PrintWords Go.Proofs.YtodfnelilhjoeaaW.PrintLast Go.Proofs.YtodfnelilhjoeaaW.PrintMore
attribute [local go_sem] Zac Zaa Zam Zal Z5 Z4 Zab Z9
set_option linter.unusedVariables false
set_option linter.unusedSimpArgs false
open Go.Proofs.Ytodfnelilhjoeaa.Ni
def Zb4 (ns:List S116) (n:S116):Bool:=!(n.f1.any fun x=>!ZbJ ns n.f1 x)
def Za2 (ns:List S116) (ts:List S90) (z:Int):Bool:=ZaZ ns && ZaR ns ts && !(decide (z<1)) && !(decide (10<z)) && ns.all (Zb4 ns)
def Zbb.f (l0_0:List (S116)) (l0_1:List (S90)) (a0_2:Int):Option Bool:=if fitN l0_0=true then some (Za2 l0_0 l0_1 a0_2) else none
set_option maxHeartbeats 8000000 in
theorem Zew.clo (k:Nat) (hk:2 ^ 64≤k) (B D:Nat) (A0_0:Option Addr) (c0_0:Nat) (l0_0:List S116) (A0_1:Option Addr) (c0_1:Nat) (l0_1:List S90) (a0_2:Int) (An:Option Addr) (cn:Nat) (lb:List Int) (x:Int) (W:World)
  (h0:W.cell? ⟨B,0,none⟩=some (.slice A0_0 l0_0.length c0_0)) (h1:W.cell? ⟨B,1,none⟩=some (.slice A0_1 l0_1.length c0_1)) (h2:W.cell? ⟨B,2,none⟩=some (.int .i64 a0_2)) (h3:W.cell? ⟨D,1,none⟩=some (.slice An lb.length cn))
  (hr0_0:Kd.C k116 W A0_0 l0_0.length l0_0) (hc0_0:l0_0.length≤c0_0) (hr0_1:Kd.C k90 W A0_1 l0_1.length l0_1) (hc0_1:l0_1.length≤c0_1) (hrn:Kd.C (Kd.int .i64) W An lb.length lb) (hcn:lb.length≤cn)
  (hf:ZbA.f k l0_0 l0_1 a0_2 lb x=some (ZbJ l0_0 lb x)) :
  Calls Try.prog 124 #[.int .i64 x,.pointer (some ⟨B,0,none⟩),.pointer (some ⟨D,0,none⟩)] W fun e w'=>e=.returned (.bool (!ZbJ l0_0 lb x))∧Below W.heap.size W w':=by
 have hltB:B<W.heap.size:=Zc W _ h0
 have hltD:D<W.heap.size:=Zc W _ h3
 have HC:=Za (ZbA.calls k A0_0 c0_0 l0_0 A0_1 c0_1 l0_1 a0_2 An cn lb x _ W hr0_0 hc0_0 hr0_1 hc0_1 hrn hcn hf)
 have hu:=Try.underlying35
 have hu2:=Try.underlying116
 clear hr0_0 hr0_1 hrn hf hc0_0 hc0_1 hcn
 cases b:ZbJ l0_0 lb x
 all_goals
  rw[b] at HC
  clear b
  go_enter Try.func124,Try.ntmps124
  go_wp2_with (go_at_call 125;refine HC.out.mono ?_;rintro e w' ⟨rfl,hb⟩)
  go_ret
  exact⟨rfl,hb⟩
set_option maxHeartbeats 8000000 in
set_option maxRecDepth 100000 in
theorem Zbb.calls (A0_0:Option Addr) (c0_0:Nat) (l0_0:List (S116)) (A0_1:Option Addr) (c0_1:Nat) (l0_1:List (S90)) (a0_2:Int) (r:Bool) (w:World) (hr0_0:Kd.C k116 w A0_0 l0_0.length l0_0) (hc0_0:l0_0.length≤c0_0) (hr0_1:Kd.C k90 w A0_1 l0_1.length l0_1) (hc0_1:l0_1.length≤c0_1) (h:Zbb.f l0_0 l0_1 a0_2=some r) :
  Calls Try.prog 72 #[.agg #[.slice A0_0 l0_0.length c0_0,.slice A0_1 l0_1.length c0_1,.int .i64 a0_2]] w fun e w'=>e=.returned (.bool r)∧Below w.heap.size w w':=by
 by_cases hfit:fitN l0_0=true
 case neg=>rw[Zbb.f,if_neg hfit] at h;exact absurd h (by simp)
 rw[Zbb.f,if_pos hfit] at h
 obtain rfl:=Zg h
 have hfi:=fitN_iff hfit
 have hL:l0_0.length≤9223372036854775807:=hr0_0.2.1
 have HRn:=Za hr0_0;have HRt:=Za hr0_1;have HCn:=Za hc0_0;have HCt:=Za hc0_1;have HFI:=Za hfi
 have B1:=Za (Zn (Below.refl w.heap.size w) (.cells #[.slice A0_0 l0_0.length c0_0,.slice A0_1 l0_1.length c0_1,.int .i64 a0_2] 35))
 have HK:=Za fun (W:World) (hA:Below (w.alloc (.cells #[.slice A0_0 l0_0.length c0_0,.slice A0_1 l0_1.length c0_1,.int .i64 a0_2] 35)).heap.size (w.alloc (.cells #[.slice A0_0 l0_0.length c0_0,.slice A0_1 l0_1.length c0_1,.int .i64 a0_2] 35)) W)=>And.intro (B1.out.trans (hA.mono B1.out.size)) (And.intro (ZJ hA (show _=some (.slice A0_0 l0_0.length c0_0) from showCell0 w _ _ _ _)) (And.intro (ZJ hA (showCell1 w _ _ _ _)) (And.intro (ZJ hA (showCell2 w _ _ _ _)) (show w.heap.size<W.heap.size from Nat.lt_of_lt_of_le (by simp) hA.size))))
 have HN:=Za fun (W:World) (hb:Below w.heap.size w W)=>ZN.calls (2 ^ 65) A0_0 c0_0 l0_0 A0_1 c0_1 l0_1 a0_2 _ W (Zb hr0_0 hb) hc0_0 (Zb hr0_1 hb) hc0_1 (areNodes_f l0_0 l0_1 a0_2 hfi (2 ^ 65) (Nat.le_refl _))
 have HT:=Za fun (W:World) (hb:Below w.heap.size w W)=>ZcI.calls A0_0 c0_0 l0_0 A0_1 c0_1 l0_1 a0_2 _ W (Zb hr0_0 hb) hc0_0 (Zb hr0_1 hb) hc0_1 rfl
 have hlb:ZaZ l0_0=true→∀n∈l0_0,∀x∈n.f1,Zbc x=true:=Zcy
 clear hr0_0 hr0_1 hc0_0 hc0_1 h hfi hfit
 have hu:=Try.underlying35
 have hu2:=Try.underlying116
 cases b1:ZaZ l0_0 with
 | false=>
  rw[b1] at HN
  have HF:=Za (show Za2 l0_0 l0_1 a0_2=false by simp[Za2,b1])
  clear hlb b1
  go_enter Try.func72,Try.ntmps72
  go_wp2_with (go_at_call 121;refine(HN.out _ B1.out).mono ?_;rintro e w1 ⟨rfl,hb⟩;obtain⟨hB,hc0,hc1,hc2,hS⟩:=HK.out _ hb)
  go_ret
  exact⟨by rw[HF.out];rfl,hB⟩
 | true=>
 rw[b1] at HN
 have HLB:=Za (hlb b1)
 clear hlb
 cases b2:ZaR l0_0 l0_1 with
 | false=>
  rw[b2] at HT
  have HF:=Za (show Za2 l0_0 l0_1 a0_2=false by simp[Za2,b2])
  clear b1 b2
  go_enter Try.func72,Try.ntmps72
  go_wp2_with (first|(go_at_call 121;refine(HN.out _ B1.out).mono ?_;rintro e w1 ⟨rfl,hA⟩;obtain⟨hB,hc0,hc1,hc2,hS⟩:=HK.out _ hA)|(go_at_call 122;refine(HT.out _ hB).mono ?_;rintro e w2 ⟨rfl,hb⟩;replace hA:=hA.trans (hb.mono hA.size);clear hB hc0 hc1 hc2 hS;obtain⟨hB,hc0,hc1,hc2,hS⟩:=HK.out _ hA;clear hb))
  go_ret
  exact⟨by rw[HF.out];rfl,hB⟩
 | true=>
 rw[b2] at HT
 cases b3:decide (a0_2<1) with
 | true=>
  have HF:=Za (show Za2 l0_0 l0_1 a0_2=false by simp[Za2,b3])
  clear b1 b2
  go_enter Try.func72,Try.ntmps72
  go_wp2_with (first|(go_at_call 121;refine(HN.out _ B1.out).mono ?_;rintro e w1 ⟨rfl,hA⟩;obtain⟨hB,hc0,hc1,hc2,hS⟩:=HK.out _ hA)|(go_at_call 122;refine(HT.out _ hB).mono ?_;rintro e w2 ⟨rfl,hb⟩;replace hA:=hA.trans (hb.mono hA.size);clear hB hc0 hc1 hc2 hS;obtain⟨hB,hc0,hc1,hc2,hS⟩:=HK.out _ hA;clear hb))
  go_ret
  exact⟨by rw[HF.out];rfl,hB⟩
 | false=>
 cases b4:decide (10<a0_2) with
 | true=>
  have HF:=Za (show Za2 l0_0 l0_1 a0_2=false by simp[Za2,b4])
  clear b1 b2
  go_enter Try.func72,Try.ntmps72
  go_wp2_with (first|(go_at_call 121;refine(HN.out _ B1.out).mono ?_;rintro e w1 ⟨rfl,hA⟩;obtain⟨hB,hc0,hc1,hc2,hS⟩:=HK.out _ hA)|(go_at_call 122;refine(HT.out _ hB).mono ?_;rintro e w2 ⟨rfl,hb⟩;replace hA:=hA.trans (hb.mono hA.size);clear hB hc0 hc1 hc2 hS;obtain⟨hB,hc0,hc1,hc2,hS⟩:=HK.out _ hA;clear hb))
  go_ret
  exact⟨by rw[HF.out];rfl,hB⟩
 | false=>
 have HF:=Za (show Za2 l0_0 l0_1 a0_2=l0_0.all (Zb4 l0_0) by simp[Za2,b1,b2,b3,b4])
 clear b1 b2
 go_enter Try.func72,Try.ntmps72
 go_wp2_with (first|(go_at_call 121;refine(HN.out _ B1.out).mono ?_;rintro e w1 ⟨rfl,hA⟩;obtain⟨hB,hc0,hc1,hc2,hS⟩:=HK.out _ hA)|(go_at_call 122;refine(HT.out _ hB).mono ?_;rintro e w2 ⟨rfl,hb⟩;replace hA:=hA.trans (hb.mono hA.size);clear hB hc0 hc1 hc2 hS;obtain⟨hB,hc0,hc1,hc2,hS⟩:=HK.out _ hA;clear hb))
 have HB0:=Za hB
 have HX0:=Za (And.intro hc0 (And.intro hc1 hc2))
 have HS0:=Za hS;clear hA hB hc0 hc1 hc2 hS
 go_loopg [4,26] l0_0.length (fun gg _ s26 wr=>∃kk:Nat,Aside0 (kk≤l0_0.length)∧Aside0 (l0_0.length - kk≤gg)∧s26=.int .i64 kk∧Aside0 (Below w.heap.size w wr)∧Aside0 (w.heap.size<wr.heap.size)∧Aside0 (wr.cell? ⟨w.heap.size,0,none⟩=some (.slice A0_0 l0_0.length c0_0)∧wr.cell? ⟨w.heap.size,1,none⟩=some (.slice A0_1 l0_1.length c0_1)∧wr.cell? ⟨w.heap.size,2,none⟩=some (.int .i64 a0_2))∧Aside0 (l0_0.all (Zb4 l0_0)=(l0_0.drop kk).all (Zb4 l0_0)))
 case atStart=>exact⟨0,⟨Nat.zero_le _⟩,⟨by omega⟩,rfl,HB0,HS0,HX0,⟨rfl⟩⟩
 case round=>
  obtain⟨kk,HK',HG,rfl,HBr,HS,HX,HN'⟩:=hrel
  have hsz:=HS.out
  obtain⟨hb0,hb1,hb2_⟩:=HX.out
  by_cases hlt:kk<l0_0.length
  ·have hltz:(kk:Int)<(l0_0.length:Int):=by omega
   obtain⟨ad,Am,cm,e1,hm0,hm1,hm2,lm,gm⟩:=Zaq HRn.out (kk:Int) (by omega) hltz
   cases e1
   have HDR:=Za (ZaE hlt z116)
   have hmem:=Za (Zbr hlt z116)
   rw[← Zbz] at HDR hmem
   rw[Int.toNat_natCast] at hm0 hm1 hm2
   generalize Zz l0_0 (kk:Int)=y at hm0 hm1 hm2 lm gm HDR hmem
   replace hm0:=ZJ HBr.out hm0
   replace hm1:=ZJ HBr.out hm1
   replace hm2:=ZJ HBr.out hm2
   have hlta:=Zc wr _ hm0
   have LM:=Za lm
   have GM:=Za (Zb gm HBr.out)
   clear lm gm
   have B2:=Za (Zn (Below.refl wr.heap.size wr) (.cells #[.string y.f0,.slice Am y.f1.length cm,.int .i64 y.f2] 116))
   have HC:=Za fun (W:World) (hb:Below wr.heap.size wr W) (hcell:W.cell? ⟨wr.heap.size,1,none⟩=some (.slice Am y.f1.length cm))=>ZbU.any (fun x=>!ZbJ l0_0 y.f1 x) 124 #[.pointer (some ⟨w.heap.size,0,none⟩),.pointer (some ⟨wr.heap.size,0,none⟩)] (enters_of Try.func124 (by kernel_rfl) rfl) Am cm y.f1 W (Zb GM.out hb)
    (fun W' x hx hb'=>Zew.clo (2 ^ 64) (Nat.le_refl _) w.heap.size wr.heap.size (some ad) c0_0 l0_0 A0_1 c0_1 l0_1 a0_2 Am cm y.f1 x W' (ZJ hb' (ZJ hb HX.out.1)) (ZJ hb' (ZJ hb HX.out.2.1)) (ZJ hb' (ZJ hb HX.out.2.2)) (ZJ hb' hcell)
     (Zb (Zb (Zb HRn.out HBr.out) hb) hb') HCn.out (Zb (Zb (Zb HRt.out HBr.out) hb) hb') HCt.out (Zb (Zb GM.out hb) hb') LM.out
     (isWatched_f l0_0 l0_1 a0_2 y.f1 x (fun n hn=>(HFI.out n hn).2) (HFI.out y hmem.out).2 (HLB.out y hmem.out x hx) (2 ^ 64) (Nat.le_refl _)))
   cases b5:y.f1.any (fun x=>!ZbJ l0_0 y.f1 x) with
   | true=>
    rw[b5] at HC
    have HF2:=Za (show Za2 l0_0 l0_1 a0_2=false by
     rw[HF.out,HN'.out,HDR.out,List.all_cons,show Zb4 l0_0 y=false by unfold Zb4;rw[b5];rfl];rfl)
    clear b5
    go_wp2_with fail
    refine(HC.out _ B2.out (by go_simp)).mono ?_
    rintro e w3 ⟨rfl,hb⟩
    have hb3:=B2.out.trans (hb.mono B2.out.size)
    go_wp2
    go_ret
    exact⟨by rw[HF2.out];rfl,HBr.out.trans (hb3.mono HBr.out.size)⟩
   | false=>
    rw[b5] at HC
    have HF2:=Za (show l0_0.all (Zb4 l0_0)=(l0_0.drop (kk+1)).all (Zb4 l0_0) by
     rw[HN'.out,HDR.out,List.all_cons,show Zb4 l0_0 y=true by unfold Zb4;rw[b5];rfl];rfl)
    clear b5
    go_wp2_with fail
    refine(HC.out _ B2.out (by go_simp)).mono ?_
    rintro e w3 ⟨rfl,hb⟩
    have hb3:=B2.out.trans (hb.mono B2.out.size)
    go_wp2
    go_roundg (l0_0.length - (kk+1))
    case measure=>have:=HG.out;omega
    case rel=>exact⟨kk+1,⟨by omega⟩,⟨by omega⟩,by go_num,⟨HBr.out.trans (hb3.mono HBr.out.size)⟩,⟨by have:=hb3.size;omega⟩,⟨ZJ hb3 hb0,ZJ hb3 hb1,ZJ hb3 hb2_⟩,HF2⟩
  ·have hltz:¬(kk:Int)<(l0_0.length:Int):=by omega
   have:kk=l0_0.length:=by have:=HK'.out;omega
   subst this
   have HF2:=Za (show Za2 l0_0 l0_1 a0_2=true by
    rw[HF.out,HN'.out,List.drop_length];rfl)
   go_wp2
   go_ret
   exact⟨by rw[HF2.out];rfl,HBr.out⟩
def ZbC (ts:List S90) (node:Int):Int:=Za8 (fun t=>t.f4 && decide (t.f1=node)) ts
def ZaX.f (l0_0:List (S116)) (l0_1:List (S90)) (a0_2:Int) (a1:Int):Option Int:=some (ZbC l0_1 a1)
theorem Zd7.clo (B:Nat) (p:Int) (W:World) (hB:W.cell? ⟨B,0,none⟩=some (.int .i64 p)) (x:S90) :
  Calls Try.prog 136 #[.agg #[.int .i64 x.f0,.int .i64 x.f1,.int .i64 x.f2,.int .i64 x.f3,.bool x.f4],.pointer (some ⟨B,0,none⟩)] W fun e w'=>e=.returned (.bool (x.f4 && decide (x.f1=p)))∧Below W.heap.size W w':=by
 have hlt:B<W.heap.size:=Zc W _ hB
 have HE:=Za (show(x.f1 == p)=decide (x.f1=p) by rw[Bool.eq_iff_iff];simp)
 obtain⟨f0,f1,f2,f3,f4⟩:=x
 cases f4 with
 | false=>
  go_enter Try.func136,Try.ntmps136
  go_wp2
  go_ret
  exact⟨rfl,(Below.refl _ _).alloc (Nat.le_refl _) _⟩
 | true=>
  go_enter Try.func136,Try.ntmps136
  go_wp2
  go_ret
  exact⟨by rw[← HE.out];rfl,(Below.refl _ _).alloc (Nat.le_refl _) _⟩
set_option maxHeartbeats 4000000 in
theorem ZaX.calls (A0_0:Option Addr) (c0_0:Nat) (l0_0:List (S116)) (A0_1:Option Addr) (c0_1:Nat) (l0_1:List (S90)) (a0_2:Int) (a1:Int) (r:Int) (w:World) (hr0_0:Kd.C k116 w A0_0 l0_0.length l0_0) (hc0_0:l0_0.length≤c0_0) (hr0_1:Kd.C k90 w A0_1 l0_1.length l0_1) (hc0_1:l0_1.length≤c0_1) (h:ZaX.f l0_0 l0_1 a0_2 a1=some r) :
  Calls Try.prog 93 #[.agg #[.slice A0_0 l0_0.length c0_0,.slice A0_1 l0_1.length c0_1,.int .i64 a0_2],.int .i64 a1] w fun e w'=>e=.returned (.int .i64 r)∧Below w.heap.size w w':=by
 obtain rfl:=Zg h
 have HC':=Za fun (W:World) (B:Nat) (hb:Below w.heap.size w W) (hcell:W.cell? ⟨B,0,none⟩=some (.int .i64 a1))=>Zdp.any (fun t=>t.f4 && decide (t.f1=a1)) 136 #[.pointer (some ⟨B,0,none⟩)] (enters_of Try.func136 (by kernel_rfl) rfl) A0_1 c0_1 l0_1 W (Zb hr0_1 hb)
    (fun W' x _ hb'=>Zd7.clo B a1 W' ((hb'.cell (Zc W _ hcell)).trans hcell) x)
 clear hr0_0 hr0_1 h
 have HB2:=Za (((Below.refl w.heap.size w).alloc (Nat.le_refl _) (.cells #[.slice A0_0 l0_0.length c0_0,.slice A0_1 l0_1.length c0_1,.int .i64 a0_2] 35)).alloc (by simp) (.cells #[.int .i64 a1] 3))
 have hu:=Try.underlying35
 go_enter Try.func93,Try.ntmps93
 go_wp2_with fail
 refine(HC'.out _ _ HB2.out (by go_simp)).mono ?_
 rintro e w' ⟨rfl,hb⟩
 go_wp2
 go_ret
 exact⟨rfl,HB2.out.trans (hb.mono HB2.out.size)⟩
end Go.Proofs.Ytodfnelilhjoeaa.Pr
namespace Go.Proofs.Ytodfnelilhjoeaa.Pr
open Go.RowKit Go.Proofs.YtodfnelilhjoeaaW.PrintWords Go.Proofs.YtodfnelilhjoeaaW.PrintLast Go.Proofs.YtodfnelilhjoeaaW.PrintMore
attribute [local go_sem] Zac Zaa Zam Zal Z5 Z4 Zab Z9
set_option linter.unusedVariables false
set_option linter.unusedSimpArgs false
def ZR.l0:Nat→Int→List Int→List (S116)→List (S90)→Int→Option (Int×List Int)
 | 0,_,_,_,_,_=>none
 | k+1,x1,x6,x88002000,x88002001,x88002002=>(ZaX.f x88002000 x88002001 x88002002 x1).bind fun t88002=>(if t88002<0 then(some (x1,x6)) else((ZK.f x6 t88002).bind fun t88003=>(if t88003=true then(some ((-1),([]:List Int))) else(if x6.length<17592186044416 then(if 0≤t88002 then(if t88002<(x88002001.length:Int) then(ZR.l0 k ((Zv x88002001 t88002).f0) (x6 ++ [t88002]) x88002000 x88002001 x88002002) else(none)) else(none)) else(none)))))
def ZR.f (k:Nat) (l0_0:List (S116)) (l0_1:List (S90)) (a0_2:Int) (a1:Int):Option (Int×List Int):=ZR.l0 k a1 ([]:List Int) l0_0 l0_1 a0_2
def ZR.T7:Bool×List (List Nat×List Nat):=(true,[([],[]),([],[]),([1],[1]),([0,2],[0,2]),([],[]),([4],[4]),([],[]),([5,6],[5,6]),([7],[7]),([8],[8]),([3,3,0,1,2,3],[0,3]),([9,10,0,1,2,3,4,5,6,7,8,9,10],[9])])
def ZR.B7:List Nat:=[0,0,2,7,0,16,0,112,240,496,15,2047]
theorem ZR.tab7:rtab .any (opsOf Try.f88 7)=ZR.T7:=by kernel_rfl
theorem ZR.bits7:ZcX ZR.T7.2 ZR.B7=true:=by kernel_rfl
set_option maxHeartbeats 8000000 in
set_option maxRecDepth 100000 in
theorem ZR.calls (k:Nat) (A0_0:Option Addr) (c0_0:Nat) (l0_0:List (S116)) (A0_1:Option Addr) (c0_1:Nat) (l0_1:List (S90)) (a0_2:Int) (a1:Int) (r1:Int) (r2:List Int) (w:World) (hr0_0:Kd.C k116 w A0_0 l0_0.length l0_0) (hc0_0:l0_0.length≤c0_0) (hr0_1:Kd.C k90 w A0_1 l0_1.length l0_1) (hc0_1:l0_1.length≤c0_1) (h:ZR.f k l0_0 l0_1 a0_2 a1=some (r1,r2)) :
  Calls Try.prog 88 #[.agg #[.slice A0_0 l0_0.length c0_0,.slice A0_1 l0_1.length c0_1,.int .i64 a0_2],.int .i64 a1] w fun e w'=>∃v1_:Value,e=.returned (.tuple #[.int .i64 r1,v1_])∧Kd.R (Kd.int .i64) 3 w' w.heap.size (fun _=>True) v1_ r2∧Below w.heap.size w w':=by
 have hu35:=Try.underlying35
 have HR0_0:=Za hr0_0;have HC0_0:=Za hc0_0;clear hr0_0 hc0_0;have HR0_1:=Za hr0_1;have HC0_1:=Za hc0_1;clear hr0_1 hc0_1
 have HB:=Za (Below.refl w.heap.size w)
 have H:(ZR.l0 k a1 ([]:List Int) l0_0 l0_1 a0_2)=some (r1,r2):=h
 clear h
 have H':=Za H
 clear H
 go_enter Try.func88,Try.ntmps88
 go_wp2_with (first|((with_reducible refine ZI (N:=2) rfl ?_);refine ZH ?hg (N:=2) ?hd (cs:=#[.slice A0_0 l0_0.length c0_0,.slice A0_1 l0_1.length c0_1,.int .i64 a0_2]) (t:=35) ?hr ?_;(case hd=>rfl);(case hg=>rfl);(case hr=>first|(go_simp;done)|(go_simp;rfl));intro gb88001 hg w3 hbox hb;have BK88001:=Za (hbox);have GW88001:=Za ((by rw[hg];exact(Zx (by exact HB.out)):w.heap.size≤gb88001));have GE88001:=Za ((by rw[hg];exact(Zx (by exact HB.out)):w.heap.size≤gb88001));replace HB:=Za (Zw (by exact HB.out) hb);clear hb hbox hg))
 go_loopg [1,6] k (fun kq v1 v6 w'=>∃(x1_1:Int) (x6_1:List Int),v1=.int .i64 x1_1∧Aside0 (ZR.l0 kq x1_1 x6_1 l0_0 l0_1 a0_2=some (r1,r2))∧Aside0 (kq≤k)∧Aside0 (Kd.R (Kd.int .i64) 3 w' w.heap.size (fun _=>True) v6 x6_1)∧Aside0 (w'.heap[gb88001]? = some (.cells #[(.slice A0_0 l0_0.length c0_0),(.slice A0_1 l0_1.length c0_1),.int .i64 a0_2] 35 (0,0)))∧Aside0 (Below w.heap.size w w'))
 case atStart=>exact⟨(a1),(([]:List Int)),(by first|rfl|(simp;done)|(simp[*];done)),H',⟨Nat.le_refl _⟩,⟨by first|exact Kd.R_nil _ _ _ _ _|exact Kd.N_nil _ _ _ _ _|exact Kd.V_nil _ _ _ _ _|exact Kd.Q_nil _ _ _ _ _|exact Kd.S_nil _ _ _ _ _⟩,⟨by(with_reducible repeat(first|refine Zp ?_ _|refine Zu ?_|refine Zo ?_ _));exact BK88001.out⟩,⟨by repeat(first|(with_reducible first|exact HB.out|apply Zn|apply Zm|apply Zt|refine Zq ?_ GE88001.out)|exact HB.out)⟩⟩
 case round=>
  clear H'
  try clear p2
  obtain⟨x1_1,x6_1,rfl,HA,HK1,HO_6,BK88001,HB⟩:=hrel
  cases gk with
  | zero=>exact absurd HA.out (by simp[ZR.l0])
  | succ k1=>
   have H:=HA.out
   clear HA
   simp only[ZR.l0] at H
   replace H:=Zh H
   obtain⟨t88002,A40,H⟩:=H
   replace H:(if t88002<0 then(some (x1_1,x6_1)) else((ZK.f x6_1 t88002).bind fun t88003=>(if t88003=true then(some ((-1),([]:List Int))) else(if x6_1.length<17592186044416 then(if 0≤t88002 then(if t88002<(l0_1.length:Int) then(ZR.l0 k1 ((Zv l0_1 t88002).f0) (x6_1 ++ [t88002]) l0_0 l0_1 a0_2) else(none)) else(none)) else(none)))))=some (r1,r2):=H
   have A4:=Za A40;clear A40
   by_cases c5:t88002<0
   ·rw[if_pos c5] at H
    have c5b0:decide (t88002<0)=true:=Ze c5
    clear c5
    simp only[Option.some.injEq,Prod.mk.injEq] at H
    obtain⟨rfl,rfl⟩:=H
    have hcz6_0:wr.cell? ⟨gb88001,0,none⟩=some (.slice A0_0 l0_0.length c0_0):=(Zs BK88001.out 0).trans rfl
    have hcz6_1:wr.cell? ⟨gb88001,1,none⟩=some (.slice A0_1 l0_1.length c0_1):=(Zs BK88001.out 1).trans rfl
    have hcz6_2:wr.cell? ⟨gb88001,2,none⟩=some (.int .i64 a0_2):=(Zs BK88001.out 2).trans rfl
    go_wp2_with (first|((with_reducible refine ZG (f:=93) rfl ?_);refine ZQ (some 10) rfl rfl Try.func93 (by kernel_rfl) rfl #[.agg #[.slice A0_0 l0_0.length c0_0,.slice A0_1 l0_1.length c0_1,.int .i64 a0_2],.int .i64 x1_1] rfl (by(try simp only[List.map_toArray,List.map_cons,List.map_nil]);first|done|rfl|(simp only[Zk,Zj];rfl)) ?_;(with_reducible refine(ZaX.calls _ _ l0_0 _ _ l0_1 a0_2 x1_1 t88002 _ ?side1 ?side2 ?side3 ?side4 A4.out).mono ?_);(case side1=>exact(Zb HR0_0.out HB.out));(case side2=>exact HC0_0.out);(case side3=>exact(Zb HR0_1.out HB.out));(case side4=>exact HC0_1.out);rintro e w7 ⟨rfl,hb⟩;refine⟨_,rfl,?_⟩;replace HO_6:=Za (Kd.R_below (by exact HO_6.out) hb);replace BK88001:=Za (Zy (g:=gb88001) (o:=.cells #[.slice A0_0 l0_0.length c0_0,.slice A0_1 l0_1.length c0_1,.int .i64 a0_2] 35 (0,0)) BK88001.out hb);replace HB:=Za (Zw (by exact HB.out) hb);(try clear hb);(try clear hb2);(try clear hk);(try clear hi)))
    go_ret2
    exact⟨_,by first|rfl|(simp[ZB,ZA] <;> rfl)|(simp[*,ZB,ZA] <;> rfl),by(with_reducible repeat(first|apply Kd.R_alloc|apply Kd.R_drewN|apply Kd.R_drew));exact HO_6.out,by repeat(first|(with_reducible first|exact HB.out|apply Zn|apply Zm|apply Zt|refine Zq ?_ GE88001.out)|exact HB.out)⟩
   ·rw[if_neg c5] at H
    have c5b0:decide (t88002<0)=false:=Zf c5
    clear c5
    replace H:=Zh H
    obtain⟨t88003,A80,H⟩:=H
    replace H:(if t88003=true then(some ((-1),([]:List Int))) else(if x6_1.length<17592186044416 then(if 0≤t88002 then(if t88002<(l0_1.length:Int) then(ZR.l0 k1 ((Zv l0_1 t88002).f0) (x6_1 ++ [t88002]) l0_0 l0_1 a0_2) else(none)) else(none)) else(none)))=some (r1,r2):=H
    have A8:=Za A80;clear A80
    by_cases c9:t88003=true
    ·subst c9
     have H1:(some ((-1),([]:List Int)))=some (r1,r2):=by rw[if_pos rfl] at H;exact H
     clear H
     have H:=H1
     clear H1
     simp only[Option.some.injEq,Prod.mk.injEq] at H
     obtain⟨rfl,rfl⟩:=H
     have hcz10_0:wr.cell? ⟨gb88001,0,none⟩=some (.slice A0_0 l0_0.length c0_0):=(Zs BK88001.out 0).trans rfl
     have hcz10_1:wr.cell? ⟨gb88001,1,none⟩=some (.slice A0_1 l0_1.length c0_1):=(Zs BK88001.out 1).trans rfl
     have hcz10_2:wr.cell? ⟨gb88001,2,none⟩=some (.int .i64 a0_2):=(Zs BK88001.out 2).trans rfl
     go_wp2_with (first|((with_reducible refine ZG (f:=93) rfl ?_);refine ZQ (some 10) rfl rfl Try.func93 (by kernel_rfl) rfl #[.agg #[.slice A0_0 l0_0.length c0_0,.slice A0_1 l0_1.length c0_1,.int .i64 a0_2],.int .i64 x1_1] rfl (by(try simp only[List.map_toArray,List.map_cons,List.map_nil]);first|done|rfl|(simp only[Zk,Zj];rfl)) ?_;(with_reducible refine(ZaX.calls _ _ l0_0 _ _ l0_1 a0_2 x1_1 t88002 _ ?side1 ?side2 ?side3 ?side4 A4.out).mono ?_);(case side1=>exact(Zb HR0_0.out HB.out));(case side2=>exact HC0_0.out);(case side3=>exact(Zb HR0_1.out HB.out));(case side4=>exact HC0_1.out);rintro e w11 ⟨rfl,hb⟩;refine⟨_,rfl,?_⟩;replace HO_6:=Za (Kd.R_below (by exact HO_6.out) hb);replace BK88001:=Za (Zy (g:=gb88001) (o:=.cells #[.slice A0_0 l0_0.length c0_0,.slice A0_1 l0_1.length c0_1,.int .i64 a0_2] 35 (0,0)) BK88001.out hb);replace HB:=Za (Zw (by exact HB.out) hb);(try clear hb);(try clear hb2);(try clear hk);(try clear hi);obtain⟨Ao12,co12,eo12⟩:=Kd.R_slice HO_6.out;subst eo12)|((with_reducible refine ZG (f:=134) rfl ?_);refine ZQ (some 17) rfl rfl Try.func134 (by kernel_rfl) rfl #[.slice Ao12 x6_1.length co12,.int .i64 t88002] rfl (by(try simp only[List.map_toArray,List.map_cons,List.map_nil]);first|done|rfl|(simp only[Zk,Zj];rfl)) ?_;(with_reducible refine(ZK.calls _ _ x6_1 t88002 true _ ?side1 ?side2 A8.out).mono ?_);(case side1=>repeat(first|exact(Kd.R_reads' HO_6.out).2.2|(with_reducible refine Kd.C_alloc ?_ _)|(with_reducible refine Kd.C_drewN ?_ _)|(with_reducible refine Kd.C_drew ?_)));(case side2=>exact(Kd.R_reads' HO_6.out).2.1);rintro e w13 ⟨rfl,hb⟩;refine⟨_,rfl,?_⟩;replace HO_6:=Za (Kd.R_below (by exact HO_6.out) hb);replace BK88001:=Za (Zy (g:=gb88001) (o:=.cells #[.slice A0_0 l0_0.length c0_0,.slice A0_1 l0_1.length c0_1,.int .i64 a0_2] 35 (0,0)) BK88001.out hb);replace HB:=Za (Zw (by exact HB.out) hb);(try clear hb);(try clear hb2);(try clear hk);(try clear hi)))
     go_ret2
     exact⟨_,by first|rfl|(simp[ZB,ZA] <;> rfl)|(simp[*,ZB,ZA] <;> rfl),by first|exact Kd.R_nil _ _ _ _ _|exact Kd.N_nil _ _ _ _ _|exact Kd.V_nil _ _ _ _ _|exact Kd.Q_nil _ _ _ _ _|exact Kd.S_nil _ _ _ _ _,by repeat(first|(with_reducible first|exact HB.out|apply Zn|apply Zm|apply Zt|refine Zq ?_ GE88001.out)|exact HB.out)⟩
    ·replace c9:=Bool.eq_false_iff.mpr c9
     subst c9
     have H1:(if x6_1.length<17592186044416 then(if 0≤t88002 then(if t88002<(l0_1.length:Int) then(ZR.l0 k1 ((Zv l0_1 t88002).f0) (x6_1 ++ [t88002]) l0_0 l0_1 a0_2) else(none)) else(none)) else(none))=some (r1,r2):=by rw[if_neg (show ¬(false=true) by decide)] at H;exact H
     clear H
     have H:=H1
     clear H1
     by_cases c14:x6_1.length<17592186044416
     ·rw[if_pos c14] at H
      have LMc14:=Za c14;clear c14
      obtain⟨y88004,hy88004⟩:∃y_:List Int,y_=(x6_1 ++ [t88002]):=⟨_,rfl⟩
      replace H:(if 0≤t88002 then(if t88002<(l0_1.length:Int) then(ZR.l0 k1 ((Zv l0_1 t88002).f0) y88004 l0_0 l0_1 a0_2) else(none)) else(none))=some (r1,r2):=by first|(rw[hy88004];with_reducible exact H)|(have H2_:=(Zi _ _).symm.trans H;rw[hy88004];with_reducible exact H2_)|(have H2_:=(Zi _ _).symm.trans H;with_reducible exact H2_)|with_reducible exact H|(rw[hy88004];exact H)|exact H
      have Ny88004:=Za hy88004;clear hy88004
      by_cases c15:0≤t88002
      ·rw[if_pos c15] at H
       have c15b0:decide (0≤t88002)=true:=Ze c15
       clear c15
       by_cases c16:t88002<(l0_1.length:Int)
       ·rw[if_pos c16] at H
        have c16b0:decide (t88002<(l0_1.length:Int))=true:=Ze c16
        clear c16
        have H':=Za H
        clear H
        have hcz17_0:wr.cell? ⟨gb88001,0,none⟩=some (.slice A0_0 l0_0.length c0_0):=(Zs BK88001.out 0).trans rfl
        have hcz17_1:wr.cell? ⟨gb88001,1,none⟩=some (.slice A0_1 l0_1.length c0_1):=(Zs BK88001.out 1).trans rfl
        have hcz17_2:wr.cell? ⟨gb88001,2,none⟩=some (.int .i64 a0_2):=(Zs BK88001.out 2).trans rfl
        try go_wp2_with (first|((with_reducible refine ZG (f:=93) rfl ?_);refine ZQ (some 10) rfl rfl Try.func93 (by kernel_rfl) rfl #[.agg #[.slice A0_0 l0_0.length c0_0,.slice A0_1 l0_1.length c0_1,.int .i64 a0_2],.int .i64 x1_1] rfl (by(try simp only[List.map_toArray,List.map_cons,List.map_nil]);first|done|rfl|(simp only[Zk,Zj];rfl)) ?_;(with_reducible refine(ZaX.calls _ _ l0_0 _ _ l0_1 a0_2 x1_1 t88002 _ ?side1 ?side2 ?side3 ?side4 A4.out).mono ?_);(case side1=>exact(Zb HR0_0.out HB.out));(case side2=>exact HC0_0.out);(case side3=>exact(Zb HR0_1.out HB.out));(case side4=>exact HC0_1.out);rintro e w18 ⟨rfl,hb⟩;refine⟨_,rfl,?_⟩;replace HO_6:=Za (Kd.R_below (by exact HO_6.out) hb);replace BK88001:=Za (Zy (g:=gb88001) (o:=.cells #[.slice A0_0 l0_0.length c0_0,.slice A0_1 l0_1.length c0_1,.int .i64 a0_2] 35 (0,0)) BK88001.out hb);replace HB:=Za (Zw (by exact HB.out) hb);(try clear hb);(try clear hb2);(try clear hk);(try clear hi);obtain⟨Ao19,co19,eo19⟩:=Kd.R_slice HO_6.out;subst eo19)|((with_reducible refine ZG (f:=134) rfl ?_);refine ZQ (some 17) rfl rfl Try.func134 (by kernel_rfl) rfl #[.slice Ao19 x6_1.length co19,.int .i64 t88002] rfl (by(try simp only[List.map_toArray,List.map_cons,List.map_nil]);first|done|rfl|(simp only[Zk,Zj];rfl)) ?_;(with_reducible refine(ZK.calls _ _ x6_1 t88002 false _ ?side1 ?side2 A8.out).mono ?_);(case side1=>repeat(first|exact(Kd.R_reads' HO_6.out).2.2|(with_reducible refine Kd.C_alloc ?_ _)|(with_reducible refine Kd.C_drewN ?_ _)|(with_reducible refine Kd.C_drew ?_)));(case side2=>exact(Kd.R_reads' HO_6.out).2.1);rintro e w20 ⟨rfl,hb⟩;refine⟨_,rfl,?_⟩;replace HO_6:=Za (Kd.R_below (by exact HO_6.out) hb);replace BK88001:=Za (Zy (g:=gb88001) (o:=.cells #[.slice A0_0 l0_0.length c0_0,.slice A0_1 l0_1.length c0_1,.int .i64 a0_2] 35 (0,0)) BK88001.out hb);replace HB:=Za (Zw (by exact HB.out) hb);(try clear hb);(try clear hb2);(try clear hk);(try clear hi)))
        replace HO_6:=Za (Kd.R_drew HO_6.out);replace BK88001:=Za (Zu BK88001.out);replace HB:=Za (Zt HB.out)
        have p88007:0≤(t88002:Int):=Zd (by with_reducible assumption)
        have q88007:t88002<(l0_1.length:Int):=Zd (by with_reducible assumption)
        obtain⟨ad88007,e88007,hx88007_0,hx88007_1,hx88007_2,hx88007_3,hx88007_4⟩:=ZaH HR0_1.out t88002 p88007 q88007
        have hw88007_4:=hx88007_4
        have hw88007_3:=hx88007_3
        have hw88007_2:=hx88007_2
        have hw88007_1:=hx88007_1
        have hw88007_0:=hx88007_0
        cases e88007
        replace hx88007_0:=(HB.out.cell (Zc w _ hx88007_0)).trans hx88007_0
        replace hx88007_1:=(HB.out.cell (Zc w _ hx88007_1)).trans hx88007_1
        replace hx88007_2:=(HB.out.cell (Zc w _ hx88007_2)).trans hx88007_2
        replace hx88007_3:=(HB.out.cell (Zc w _ hx88007_3)).trans hx88007_3
        replace hx88007_4:=(HB.out.cell (Zc w _ hx88007_4)).trans hx88007_4
        replace p88007:=eq_true p88007
        replace q88007:=eq_true q88007
        refine start_ (n:=12) (S:=fun w'=>w'.cell? ⟨gb88001,0,none⟩=some (.slice A0_0 l0_0.length c0_0)∧w'.cell? ⟨gb88001,1,none⟩=some (.slice (some ad88007) l0_1.length c0_1)∧w'.cell? ⟨gb88001,2,none⟩=some (.int .i64 a0_2)∧w'.cell? (ad88007.add ((t88002).toNat * 5))=some (.int .i64 ((Zv l0_1 t88002).f0))∧w'.cell? ⟨(ad88007.add ((t88002).toNat * 5)).block,(ad88007.add ((t88002).toNat * 5)).off+1,none⟩=some (.int .i64 ((Zv l0_1 t88002).f1))∧w'.cell? ⟨(ad88007.add ((t88002).toNat * 5)).block,(ad88007.add ((t88002).toNat * 5)).off+2,none⟩=some (.int .i64 ((Zv l0_1 t88002).f2))∧w'.cell? ⟨(ad88007.add ((t88002).toNat * 5)).block,(ad88007.add ((t88002).toNat * 5)).off+3,none⟩=some (.int .i64 ((Zv l0_1 t88002).f3))∧w'.cell? ⟨(ad88007.add ((t88002).toNat * 5)).block,(ad88007.add ((t88002).toNat * 5)).off+4,none⟩=some (.bool ((Zv l0_1 t88002).f4))) (ds:=[]) #[false,false,false,false,false,false,false,false,false,false,false,false] (by kernel_rfl) rfl rfl ⟨(Zs BK88001.out 0).trans rfl,(Zs BK88001.out 1).trans rfl,(Zs BK88001.out 2).trans rfl,((HB.out.cell (Zc w _ hw88007_0)).trans hw88007_0),((HB.out.cell (Zc w _ hw88007_1)).trans hw88007_1),((HB.out.cell (Zc w _ hw88007_2)).trans hw88007_2),((HB.out.cell (Zc w _ hw88007_3)).trans hw88007_3),((HB.out.cell (Zc w _ hw88007_4)).trans hw88007_4)⟩ (fun hHeld=>?_);refine with_tabW ZR.tab7 ZR.bits7 (fun HT_ HW_=>?_)
        generalize w20.drew=w21 at HO_6 BK88001 HB hx88007_0 hx88007_1 hx88007_2 hx88007_3 hx88007_4 hHeld ⊢
        refine ZbQ (i:=0) (N:=some 18) (v:=?_) (a':=?_) #[true,false,false,false,false,false,false,false,false,false,false,false] rfl rfl (Zcu HT_.out (by kernel_rfl)) (fun _ _ _ h=>h) (Or.inl ⟨by rfl,?_⟩) ?_ ?_
        rotate_left
        ·intro w'
         go_simp
         with_reducible rfl
        rotate_left
        ·simp only[Act.put,List.setIfInBounds_toArray,List.set_cons_zero,List.set_cons_succ,ZaN,ZaS]
         rfl
        refine ZbQ (i:=1) (N:=some 19) (v:=?_) (a':=?_) #[true,true,false,false,false,false,false,false,false,false,false,false] rfl rfl (Zcu HT_.out (by kernel_rfl)) (fun _ _ _ h=>h) (Or.inl ⟨by rfl,?_⟩) ?_ ?_
        rotate_left
        ·intro w'
         go_simp
         with_reducible rfl
        rotate_left
        ·simp only[Act.put,List.setIfInBounds_toArray,List.set_cons_zero,List.set_cons_succ,ZaN,ZaS]
         rfl
        refine ZbQ (i:=4) (N:=some 22) (v:=?_) (a':=?_) #[true,true,false,false,true,false,false,false,false,false,false,false] rfl rfl (Zcu HT_.out (by kernel_rfl)) (fun _ _ _ h=>h) (Or.inl ⟨by rfl,?_⟩) ?_ ?_
        rotate_left
        ·intro w'
         go_simp
         with_reducible rfl
        rotate_left
        ·simp only[Act.put,List.setIfInBounds_toArray,List.set_cons_zero,List.set_cons_succ,ZaN,ZaS]
         rfl
        refine ZbQ (i:=6) (N:=some 24) (v:=?_) (a':=?_) #[true,true,false,false,true,false,true,false,false,false,false,false] rfl rfl (Zcu HT_.out (by kernel_rfl)) (fun _ _ _ h=>h) (Or.inl ⟨by rfl,?_⟩) ?_ ?_
        rotate_left
        ·intro w'
         go_simp
         with_reducible rfl
        rotate_left
        ·simp only[Act.put,List.setIfInBounds_toArray,List.set_cons_zero,List.set_cons_succ,ZaN,ZaS]
         rfl
        refine take_ (i:=5) (N:=some 23) (v:=?_) (a':=?_) #[true,true,false,false,true,true,true,false,false,false,false,false] rfl rfl (take_ofW HT_.out HW_.out (by kernel_rfl)) (fun _ _ _ h=>h) (Or.inl ⟨by rfl,?_⟩) hHeld ?_ ?_
        rotate_left
        ·rintro w' ⟨s0,s1,s2,s3,s4,s5,s6,s7⟩
         go_simp
         with_reducible rfl
        rotate_left
        ·simp only[Act.put,List.setIfInBounds_toArray,List.set_cons_zero,List.set_cons_succ,ZaN,ZaS]
         rfl
        refine ZbQ (i:=7) (N:=some 25) (v:=?_) (a':=?_) #[true,true,false,false,true,true,true,true,false,false,false,false] rfl rfl (Zcu HT_.out (by kernel_rfl)) (fun _ _ _ h=>h) (Or.inl ⟨by rfl,?_⟩) ?_ ?_
        rotate_left
        ·intro w'
         go_simp
         with_reducible rfl
        rotate_left
        ·simp only[Act.put,List.setIfInBounds_toArray,List.set_cons_zero,List.set_cons_succ,ZaN,ZaS]
         rfl
        refine ZbQ (i:=8) (N:=some 26) (v:=?_) (a':=?_) #[true,true,false,false,true,true,true,true,true,false,false,false] rfl rfl (Zcu HT_.out (by kernel_rfl)) (fun _ _ _ h=>h) (Or.inl ⟨by rfl,?_⟩) ?_ ?_
        rotate_left
        ·intro w'
         go_simp
         with_reducible rfl
        rotate_left
        ·simp only[Act.put,List.setIfInBounds_toArray,List.set_cons_zero,List.set_cons_succ,ZaN,ZaS]
         rfl
        refine take_ (i:=9) (N:=some 27) (v:=?_) (a':=?_) #[true,true,false,false,true,true,true,true,true,true,false,false] rfl rfl (take_ofW HT_.out HW_.out (by kernel_rfl)) (fun _ _ _ h=>h) (Or.inl ⟨by rfl,?_⟩) hHeld ?_ ?_
        rotate_left
        ·rintro w' ⟨s0,s1,s2,s3,s4,s5,s6,s7⟩
         go_simp
         with_reducible rfl
        rotate_left
        ·simp only[Act.put,List.setIfInBounds_toArray,List.set_cons_zero,List.set_cons_succ,ZaN,ZaS]
         rfl
        refine one_ (i:=2) (N:=some 20) #[true,true,true,false,true,true,true,true,true,true,false,false] rfl rfl (one_of HT_.out (by kernel_rfl)) (by decide) (fun K hK=>?_)
        refine value_ (w1:=?_) (v:=?_) (by rfl) rfl ?_ ?_
        rotate_left 2
        ·go_simp
         constructor
         ·rfl
         ·rfl
        refine hK.out _ _ ⟨(Zs (Zo BK88001.out _) 0).trans rfl,(Zs (Zo BK88001.out _) 1).trans rfl,(Zs (Zo BK88001.out _) 2).trans rfl,(World.cell?_alloc_lt _ _ _ (Zc _ _ (((HB.out.cell (Zc w _ hw88007_0)).trans hw88007_0)))).trans (((HB.out.cell (Zc w _ hw88007_0)).trans hw88007_0)),(World.cell?_alloc_lt _ _ _ (Zc _ _ (((HB.out.cell (Zc w _ hw88007_1)).trans hw88007_1)))).trans (((HB.out.cell (Zc w _ hw88007_1)).trans hw88007_1)),(World.cell?_alloc_lt _ _ _ (Zc _ _ (((HB.out.cell (Zc w _ hw88007_2)).trans hw88007_2)))).trans (((HB.out.cell (Zc w _ hw88007_2)).trans hw88007_2)),(World.cell?_alloc_lt _ _ _ (Zc _ _ (((HB.out.cell (Zc w _ hw88007_3)).trans hw88007_3)))).trans (((HB.out.cell (Zc w _ hw88007_3)).trans hw88007_3)),(World.cell?_alloc_lt _ _ _ (Zc _ _ (((HB.out.cell (Zc w _ hw88007_4)).trans hw88007_4)))).trans (((HB.out.cell (Zc w _ hw88007_4)).trans hw88007_4))⟩ (fun hHeld=>?_)
        clear hK K
        refine Zco (a':=?_) ?_ ?_
        rotate_left
        ·show Act.put _ (some 20) _=_
         simp only[Act.put,List.setIfInBounds_toArray,List.set_cons_zero,List.set_cons_succ,ZaN,ZaS]
         rfl
        refine one_ (i:=3) (N:=some 21) #[true,true,true,true,true,true,true,true,true,true,false,false] rfl rfl (one_of HT_.out (by kernel_rfl)) (by decide) (fun K hK=>?_)
        refine Kd.R_append_step (Kd.int .i64) (w0:=w) w.heap.size (by rfl) (.tmp 18) (.tmp 20) 26 3 (.int .i64 0) 8 rfl Try.underlying26 info3 rfl (by decide) (by omega) (.slice Ao19 x6_1.length co19) x6_1 t88002 [.int .i64 t88002] (fun _=>True) (fun _=>False) rfl rfl ?aP (fun _ hk=>hk.elim) ?aF ?aO ?aB ?aS ?aL ?_
        (case aP=>exact rfl)
        (case aB=>exact(by exact HB.out))
        (case aF=>exact(fun _ _=>trivial))
        (case aO=>exact(by exact HO_6.out))
        (case aS=>exact(Zx (by exact HB.out)))
        (case aL=>have:=LMc14.out;omega)
        intro v88005 w22 ho hb hg hat
        rw[← Ny88004.out] at ho
        have HO88006:=Za (ho);replace BK88001:=Za (Zar (g:=gb88001) (o:=.cells #[.slice A0_0 l0_0.length c0_0,.slice (some ad88007) l0_1.length c0_1,.int .i64 a0_2] 35 (0,0)) BK88001.out hg (Kd.R_ne HO_6.out BK88001.out (by decide)));replace HB:=Za (hb);clear HO_6 ho hb hg hat
        refine hK.out _ _ ⟨(Zs BK88001.out 0).trans rfl,(Zs BK88001.out 1).trans rfl,(Zs BK88001.out 2).trans rfl,((HB.out.cell (Zc w _ hw88007_0)).trans hw88007_0),((HB.out.cell (Zc w _ hw88007_1)).trans hw88007_1),((HB.out.cell (Zc w _ hw88007_2)).trans hw88007_2),((HB.out.cell (Zc w _ hw88007_3)).trans hw88007_3),((HB.out.cell (Zc w _ hw88007_4)).trans hw88007_4)⟩ (fun hHeld=>?_)
        clear hK K
        refine Zco (a':=?_) ?_ ?_
        rotate_left
        ·show Act.put _ (some 21) _=_
         simp only[Act.put,List.setIfInBounds_toArray,List.set_cons_zero,List.set_cons_succ,ZaN,ZaS]
         rfl
        refine ZbQ (i:=10) (N:=some 6) (v:=?_) (a':=?_) #[true,true,true,true,true,true,true,true,true,true,true,false] rfl rfl (Zcu HT_.out (by kernel_rfl)) (fun _ _ _ h=>h) (Or.inl ⟨by rfl,?_⟩) ?_ ?_
        rotate_left
        ·intro w'
         go_simp
         with_reducible rfl
        rotate_left
        ·simp only[Act.put,List.setIfInBounds_toArray,List.set_cons_zero,List.set_cons_succ,ZaN,ZaS]
         rfl
        refine ZbQ (i:=11) (N:=some 1) (v:=?_) (a':=?_) #[true,true,true,true,true,true,true,true,true,true,true,true] rfl rfl (Zcu HT_.out (by kernel_rfl)) (fun _ _ _ h=>h) (Or.inl ⟨by rfl,?_⟩) ?_ ?_
        rotate_left
        ·intro w'
         go_simp
         with_reducible rfl
        rotate_left
        ·simp only[Act.put,List.setIfInBounds_toArray,List.set_cons_zero,List.set_cons_succ,ZaN,ZaS]
         rfl
        refine done_ (done_of HT_.out (by kernel_rfl)) ?_
        try go_wp2
        go_roundg k1
        case measure=>have:=HK1.out;omega
        case rel=>exact⟨((Zv l0_1 t88002).f0),(y88004),(by first|rfl|(simp;done)|(simp[*];done)),H',⟨by have:=HK1.out;omega⟩,⟨by(with_reducible repeat(first|apply Kd.R_alloc|apply Kd.R_drewN|apply Kd.R_drew));exact HO88006.out⟩,⟨by(with_reducible repeat(first|refine Zp ?_ _|refine Zu ?_|refine Zo ?_ _));exact BK88001.out⟩,⟨by repeat(first|(with_reducible first|exact HB.out|apply Zn|apply Zm|apply Zt|refine Zq ?_ GE88001.out)|exact HB.out)⟩⟩
       ·rw[if_neg c16] at H
        exact absurd H (by simp)
      ·rw[if_neg c15] at H
       exact absurd H (by simp)
     ·rw[if_neg c14] at H
      exact absurd H (by simp)
def Zae.l0:Nat→List (S116)→Int→Int→List (S116)→List (S90)→Int→Option (Bool)
 | 0,_,_,_,_,_,_=>none
 | k+1,x11,x12,x13,x87002000,x87002001,x87002002=>if x13<x12 then(if 0≤x13 then(if x13<(x11.length:Int) then((ZR.f k x87002000 x87002001 x87002002 x13).bind fun bt87005=>(if bt87005.1<0 then(some false) else(if (((Zz x11 x13).f1).length:Int) > 0 then(some false) else(Zae.l0 k x11 x12 (wrap64 (x13+1)) x87002000 x87002001 x87002002)))) else(none)) else(none)) else(some true)
def Zae.f (k:Nat) (l0_0:List (S116)) (l0_1:List (S90)) (a0_2:Int):Option (Bool):=(Zbb.f l0_0 l0_1 a0_2).bind fun t87002=>(if t87002=true then(Zae.l0 k l0_0 (l0_0.length:Int) 0 l0_0 l0_1 a0_2) else(some false))
set_option maxHeartbeats 8000000 in
set_option maxRecDepth 100000 in
theorem Zae.calls (k:Nat) (A0_0:Option Addr) (c0_0:Nat) (l0_0:List (S116)) (A0_1:Option Addr) (c0_1:Nat) (l0_1:List (S90)) (a0_2:Int) (r:Bool) (w:World) (hr0_0:Kd.C k116 w A0_0 l0_0.length l0_0) (hc0_0:l0_0.length≤c0_0) (hr0_1:Kd.C k90 w A0_1 l0_1.length l0_1) (hc0_1:l0_1.length≤c0_1) (h:Zae.f k l0_0 l0_1 a0_2=some r) :
  Calls Try.prog 87 #[.agg #[.slice A0_0 l0_0.length c0_0,.slice A0_1 l0_1.length c0_1,.int .i64 a0_2]] w fun e w'=>e=.returned (.bool r)∧Below w.heap.size w w':=by
 have hu35:=Try.underlying35
 have hu116:=Try.underlying116
 have HR0_0:=Za hr0_0;have HC0_0:=Za hc0_0;clear hr0_0 hc0_0;have HR0_1:=Za hr0_1;have HC0_1:=Za hc0_1;clear hr0_1 hc0_1
 have HB:=Za (Below.refl w.heap.size w)
 have H:((Zbb.f l0_0 l0_1 a0_2).bind fun t87002=>(if t87002=true then(Zae.l0 k l0_0 (l0_0.length:Int) 0 l0_0 l0_1 a0_2) else(some false)))=some r:=h
 clear h
 replace H:=Zh H
 obtain⟨t87002,A20,H⟩:=H
 replace H:(if t87002=true then(Zae.l0 k l0_0 (l0_0.length:Int) 0 l0_0 l0_1 a0_2) else(some false))=some r:=H
 have A2:=Za A20;clear A20
 by_cases c3:t87002=true
 ·subst c3
  have H1:(Zae.l0 k l0_0 (l0_0.length:Int) 0 l0_0 l0_1 a0_2)=some r:=by rw[if_pos rfl] at H;exact H
  clear H
  have H:=H1
  clear H1
  have H':=Za H
  clear H
  go_enter Try.func87,Try.ntmps87
  go_wp2_with (first|((with_reducible refine ZI (N:=1) rfl ?_);(try(refine Zbe (by rfl) ?_;dsimp only));refine ZH ?hg (N:=1) ?hd (cs:=#[.slice A0_0 l0_0.length c0_0,.slice A0_1 l0_1.length c0_1,.int .i64 a0_2]) (t:=35) ?hr ?_;(case hd=>rfl);(case hg=>rfl);(case hr=>first|(go_simp;done)|(go_simp;rfl));intro gb87001 hg w4 hbox hb;have BK87001:=Za (hbox);have GW87001:=Za ((by rw[hg];exact(Zx (by exact HB.out)):w.heap.size≤gb87001));have GE87001:=Za ((by rw[hg];exact(Zx (by exact HB.out)):w.heap.size≤gb87001));replace HB:=Za (Zw (by exact HB.out) hb);clear hb hbox hg;have hcz5_0:w4.cell? ⟨gb87001,0,none⟩=some (.slice A0_0 l0_0.length c0_0):=(Zs BK87001.out 0).trans rfl;have hcz5_1:w4.cell? ⟨gb87001,1,none⟩=some (.slice A0_1 l0_1.length c0_1):=(Zs BK87001.out 1).trans rfl;have hcz5_2:w4.cell? ⟨gb87001,2,none⟩=some (.int .i64 a0_2):=(Zs BK87001.out 2).trans rfl;have hfz5_0:=Zr BK87001.out 0;have hfz5_1:=Zr BK87001.out 1;have hfz5_2:=Zr BK87001.out 2)|((with_reducible refine ZG (f:=72) rfl ?_);refine ZQ (some 8) rfl rfl Try.func72 (by kernel_rfl) rfl #[.agg #[.slice A0_0 l0_0.length c0_0,.slice A0_1 l0_1.length c0_1,.int .i64 a0_2]] rfl (by(try simp only[List.map_toArray,List.map_cons,List.map_nil]);first|done|rfl|(simp only[Zk,Zj];rfl)) ?_;(with_reducible refine(Zbb.calls _ _ l0_0 _ _ l0_1 a0_2 true _ ?side1 ?side2 ?side3 ?side4 A2.out).mono ?_);(case side1=>exact(Zb HR0_0.out HB.out));(case side2=>exact HC0_0.out);(case side3=>exact(Zb HR0_1.out HB.out));(case side4=>exact HC0_1.out);rintro e w6 ⟨rfl,hb⟩;refine⟨_,rfl,?_⟩;replace BK87001:=Za (Zy (g:=gb87001) (o:=.cells #[.slice A0_0 l0_0.length c0_0,.slice A0_1 l0_1.length c0_1,.int .i64 a0_2] 35 (0,0)) BK87001.out hb);replace HB:=Za (Zw (by exact HB.out) hb);(try clear hb);(try clear hb2);(try clear hk);(try clear hi);have hcz7_0:w6.cell? ⟨gb87001,0,none⟩=some (.slice A0_0 l0_0.length c0_0):=(Zs BK87001.out 0).trans rfl;have hcz7_1:w6.cell? ⟨gb87001,1,none⟩=some (.slice A0_1 l0_1.length c0_1):=(Zs BK87001.out 1).trans rfl;have hcz7_2:w6.cell? ⟨gb87001,2,none⟩=some (.int .i64 a0_2):=(Zs BK87001.out 2).trans rfl;have hfz7_0:=Zr BK87001.out 0;have hfz7_1:=Zr BK87001.out 1;have hfz7_2:=Zr BK87001.out 2))
  go_loopg [13] k (fun kq v13 w'=>∃(x13_1:Int),v13=.int .i64 x13_1∧Aside0 (Zae.l0 kq l0_0 (l0_0.length:Int) x13_1 l0_0 l0_1 a0_2=some r)∧Aside0 (kq≤k)∧Aside0 (w'.heap[gb87001]? = some (.cells #[(.slice A0_0 l0_0.length c0_0),(.slice A0_1 l0_1.length c0_1),.int .i64 a0_2] 35 (0,0)))∧Aside0 (Below w.heap.size w w'))
  case atStart=>exact⟨(0),(by first|rfl|(simp;done)|(simp[*];done)),H',⟨Nat.le_refl _⟩,⟨by(with_reducible repeat(first|refine Zp ?_ _|refine Zu ?_|refine Zo ?_ _));exact BK87001.out⟩,⟨by repeat(first|(with_reducible first|exact HB.out|apply Zn|apply Zm|apply Zt|refine Zq ?_ GE87001.out)|exact HB.out)⟩⟩
  case round=>
   clear H'
   try clear p2
   try clear c3
   try clear c7
   obtain⟨x13_1,rfl,HA,HK1,BK87001,HB⟩:=hrel
   cases gk with
   | zero=>exact absurd HA.out (by simp[Zae.l0])
   | succ k1=>
    have H:=HA.out
    clear HA
    simp only[Zae.l0] at H
    by_cases c8:x13_1<(l0_0.length:Int)
    ·rw[if_pos c8] at H
     have c8b0:decide (x13_1<(l0_0.length:Int))=true:=Ze c8
     clear c8
     by_cases c9:0≤x13_1
     ·rw[if_pos c9] at H
      have c9b0:decide (0≤x13_1)=true:=Ze c9
      clear c9
      by_cases c10:x13_1<(l0_0.length:Int)
      ·rw[if_pos c10] at H
       have c10b0:decide (x13_1<(l0_0.length:Int))=true:=Ze c10
       clear c10
       replace H:=Zh H
       obtain⟨⟨t87005,t87006⟩,A110,H⟩:=H
       replace H:(if t87005<0 then(some false) else(if (((Zz l0_0 x13_1).f1).length:Int) > 0 then(some false) else(Zae.l0 k1 l0_0 (l0_0.length:Int) (wrap64 (x13_1+1)) l0_0 l0_1 a0_2)))=some r:=H
       have A11:=Za A110;clear A110
       by_cases c12:t87005<0
       ·rw[if_pos c12] at H
        have c12b0:decide (t87005<0)=true:=Ze c12
        clear c12
        obtain rfl:=Zg H
        have p87003:0≤(x13_1:Int):=Zd (by with_reducible assumption)
        have q87003:x13_1<(l0_0.length:Int):=Zd (by with_reducible assumption)
        obtain⟨ad87003,A87003_1,c87003_1,e87003,hx87003_0,hx87003_1,hx87003_2,hl87003_1,hi87003_1⟩:=Zaq HR0_0.out x13_1 p87003 q87003
        cases e87003
        replace hx87003_0:=(HB.out.cell (Zc w _ hx87003_0)).trans hx87003_0
        replace hx87003_1:=(HB.out.cell (Zc w _ hx87003_1)).trans hx87003_1
        replace hx87003_2:=(HB.out.cell (Zc w _ hx87003_2)).trans hx87003_2
        have HR87003_1:=Za hi87003_1;have HC87003_1:=Za hl87003_1;clear hi87003_1 hl87003_1
        replace p87003:=eq_true p87003
        replace q87003:=eq_true q87003
        go_wp2_with (first|((with_reducible refine ZI (N:=4) rfl ?_);(try(refine Zbe (by rfl) ?_;dsimp only));refine ZH ?hg (N:=4) ?hd (cs:=#[.string (⟨#[]⟩:ByteArray),.slice none 0 0,.int .i64 0]) (t:=116) ?hr ?_;(case hd=>rfl);(case hg=>rfl);(case hr=>first|(go_simp;done)|(go_simp;rfl));intro gb87004 hg w13 hbox hb;have n0_:=Za (Zy (g:=gb87001) (o:=.cells #[.slice (some ad87003) l0_0.length c0_0,.slice A0_1 l0_1.length c0_1,.int .i64 a0_2] 35 (0,0)) BK87001.out hb);have n1_:=Za (Zw (by exact HB.out) hb);have n2_:=Za (hbox);have n3_:=Za ((by rw[hg];exact(Zx (by exact HB.out)):w.heap.size≤gb87004));have n4_:=n3_;have n5_:=Za ((by rw[hg];exact Nat.ne_of_lt (ZO (g:=gb87001) (o:=.cells #[.slice (some ad87003) l0_0.length c0_0,.slice A0_1 l0_1.length c0_1,.int .i64 a0_2] 35 (0,0)) BK87001.out):gb87001≠gb87004));have n6_:=Za n5_.out.symm;clear BK87001;clear HB;have BK87001:=n0_;have HB:=n1_;have BK87004:=n2_;have GW87004:=n3_;have GE87004:=n4_;have NB87001_87004:=n5_;have NB87004_87001:=n6_;clear n0_ n1_ n2_ n3_ n4_ n5_ n6_;clear hb hbox hg;have hnb14:=NB87004_87001.out;have hnc14:=NB87001_87004.out;have hcz15_0:w13.cell? ⟨gb87004,0,none⟩=some (.string (⟨#[]⟩:ByteArray)):=(Zs BK87004.out 0).trans rfl;have hcz15_1:w13.cell? ⟨gb87004,1,none⟩=some (.slice none 0 0):=(Zs BK87004.out 1).trans rfl;have hcz15_2:w13.cell? ⟨gb87004,2,none⟩=some (.int .i64 0):=(Zs BK87004.out 2).trans rfl;have hfz15_0:=Zr BK87004.out 0;have hfz15_1:=Zr BK87004.out 1;have hfz15_2:=Zr BK87004.out 2;have hcz16_0:w13.cell? ⟨gb87001,0,none⟩=some (.slice (some ad87003) l0_0.length c0_0):=(Zs BK87001.out 0).trans rfl;have hcz16_1:w13.cell? ⟨gb87001,1,none⟩=some (.slice A0_1 l0_1.length c0_1):=(Zs BK87001.out 1).trans rfl;have hcz16_2:w13.cell? ⟨gb87001,2,none⟩=some (.int .i64 a0_2):=(Zs BK87001.out 2).trans rfl;have hfz16_0:=Zr BK87001.out 0;have hfz16_1:=Zr BK87001.out 1;have hfz16_2:=Zr BK87001.out 2)|((with_reducible refine ZG (f:=88) rfl ?_);refine ZQ (some 21) rfl rfl Try.func88 (by kernel_rfl) rfl #[.agg #[.slice (some ad87003) l0_0.length c0_0,.slice A0_1 l0_1.length c0_1,.int .i64 a0_2],.int .i64 x13_1] rfl (by(try simp only[List.map_toArray,List.map_cons,List.map_nil]);first|done|rfl|(simp only[Zk,Zj];rfl)) ?_;(with_reducible refine(ZR.calls k1 _ _ l0_0 _ _ l0_1 a0_2 x13_1 t87005 t87006 _ ?side1 ?side2 ?side3 ?side4 A11.out).mono ?_);(case side1=>exact Zb HR0_0.out (by repeat(first|(with_reducible first|exact HB.out|apply Zn|apply Zm|apply Zt|refine Zq ?_ GE87001.out|refine Zq ?_ GE87004.out)|exact HB.out)));(case side2=>exact HC0_0.out);(case side3=>exact Zb HR0_1.out (by repeat(first|(with_reducible first|exact HB.out|apply Zn|apply Zm|apply Zt|refine Zq ?_ GE87001.out|refine Zq ?_ GE87004.out)|exact HB.out)));(case side4=>exact HC0_1.out);rintro e w17 ⟨v87007,rfl,ho0,hb⟩;refine⟨_,rfl,?_⟩;have HO87008:=Za (Kd.R_lower ho0 (Zx (by repeat(first|(with_reducible first|exact HB.out|apply Zn|apply Zm|apply Zt|refine Zq ?_ GE87001.out|refine Zq ?_ GE87004.out)|exact HB.out))));replace BK87001:=Za (Zy (g:=gb87001) (o:=.cells #[.slice (some ad87003) l0_0.length c0_0,.slice A0_1 l0_1.length c0_1,.int .i64 a0_2] 35 (0,0)) (by(with_reducible repeat(first|refine Zp ?_ _|refine Zu ?_|refine Zo ?_ _));refine ZD ?_ NB87001_87004.out _;(with_reducible repeat(first|refine Zp ?_ _|refine Zu ?_|refine Zo ?_ _));refine ZD ?_ NB87001_87004.out _;(with_reducible repeat(first|refine Zp ?_ _|refine Zu ?_|refine Zo ?_ _));refine ZD ?_ NB87001_87004.out _;(with_reducible repeat(first|refine Zp ?_ _|refine Zu ?_|refine Zo ?_ _));exact BK87001.out) hb);replace BK87004:=Za (Zy (g:=gb87004) (o:=.cells #[.string ((Zz l0_0 x13_1).f0),.slice A87003_1 ((Zz l0_0 x13_1).f1).length c87003_1,.int .i64 ((Zz l0_0 x13_1).f2)] 116 (0,0)) (by(with_reducible repeat(first|refine Zp ?_ _|refine Zu ?_|refine Zo ?_ _));refine ZL (cs:=#[.string ((Zz l0_0 x13_1).f0),.slice A87003_1 ((Zz l0_0 x13_1).f1).length c87003_1,.int .i64 0]) ?_ 2 _ rfl;(with_reducible repeat(first|refine Zp ?_ _|refine Zu ?_|refine Zo ?_ _));refine ZL (cs:=#[.string ((Zz l0_0 x13_1).f0),.slice none 0 0,.int .i64 0]) ?_ 1 _ rfl;(with_reducible repeat(first|refine Zp ?_ _|refine Zu ?_|refine Zo ?_ _));refine ZL (cs:=#[.string (⟨#[]⟩:ByteArray),.slice none 0 0,.int .i64 0]) ?_ 0 _ rfl;(with_reducible repeat(first|refine Zp ?_ _|refine Zu ?_|refine Zo ?_ _));exact BK87004.out) hb);replace HB:=Za (Zw (by repeat(first|(with_reducible first|exact HB.out|apply Zn|apply Zm|apply Zt|refine Zq ?_ GE87001.out|refine Zq ?_ GE87004.out)|exact HB.out)) hb);(try clear hb);(try clear hb2);(try clear hk);(try clear hi);(try clear ho0)))
        go_ret
        exact⟨by first|rfl|(simp[ZB,ZA] <;> rfl)|(simp[*,ZB,ZA] <;> rfl),by repeat(first|(with_reducible first|exact HB.out|apply Zn|apply Zm|apply Zt|refine Zq ?_ GE87001.out|refine Zq ?_ GE87004.out)|exact HB.out)⟩
       ·rw[if_neg c12] at H
        have c12b0:decide (t87005<0)=false:=Zf c12
        clear c12
        by_cases c18:(((Zz l0_0 x13_1).f1).length:Int) > 0
        ·rw[if_pos c18] at H
         have c18b0:decide (0<(((Zz l0_0 x13_1).f1).length:Int))=true:=Ze c18
         have c18b1:decide (0<((Zz l0_0 x13_1).f1).length)=true:=Ze (by omega)
         clear c18
         obtain rfl:=Zg H
         have p87003:0≤(x13_1:Int):=Zd (by with_reducible assumption)
         have q87003:x13_1<(l0_0.length:Int):=Zd (by with_reducible assumption)
         obtain⟨ad87003,A87003_1,c87003_1,e87003,hx87003_0,hx87003_1,hx87003_2,hl87003_1,hi87003_1⟩:=Zaq HR0_0.out x13_1 p87003 q87003
         cases e87003
         replace hx87003_0:=(HB.out.cell (Zc w _ hx87003_0)).trans hx87003_0
         replace hx87003_1:=(HB.out.cell (Zc w _ hx87003_1)).trans hx87003_1
         replace hx87003_2:=(HB.out.cell (Zc w _ hx87003_2)).trans hx87003_2
         have HR87003_1:=Za hi87003_1;have HC87003_1:=Za hl87003_1;clear hi87003_1 hl87003_1
         replace p87003:=eq_true p87003
         replace q87003:=eq_true q87003
         go_wp2_with (first|((with_reducible refine ZI (N:=4) rfl ?_);(try(refine Zbe (by rfl) ?_;dsimp only));refine ZH ?hg (N:=4) ?hd (cs:=#[.string (⟨#[]⟩:ByteArray),.slice none 0 0,.int .i64 0]) (t:=116) ?hr ?_;(case hd=>rfl);(case hg=>rfl);(case hr=>first|(go_simp;done)|(go_simp;rfl));intro gb87004 hg w19 hbox hb;have n0_:=Za (Zy (g:=gb87001) (o:=.cells #[.slice (some ad87003) l0_0.length c0_0,.slice A0_1 l0_1.length c0_1,.int .i64 a0_2] 35 (0,0)) BK87001.out hb);have n1_:=Za (Zw (by exact HB.out) hb);have n2_:=Za (hbox);have n3_:=Za ((by rw[hg];exact(Zx (by exact HB.out)):w.heap.size≤gb87004));have n4_:=n3_;have n5_:=Za ((by rw[hg];exact Nat.ne_of_lt (ZO (g:=gb87001) (o:=.cells #[.slice (some ad87003) l0_0.length c0_0,.slice A0_1 l0_1.length c0_1,.int .i64 a0_2] 35 (0,0)) BK87001.out):gb87001≠gb87004));have n6_:=Za n5_.out.symm;clear BK87001;clear HB;have BK87001:=n0_;have HB:=n1_;have BK87004:=n2_;have GW87004:=n3_;have GE87004:=n4_;have NB87001_87004:=n5_;have NB87004_87001:=n6_;clear n0_ n1_ n2_ n3_ n4_ n5_ n6_;clear hb hbox hg;have hnb20:=NB87004_87001.out;have hnc20:=NB87001_87004.out;have hcz21_0:w19.cell? ⟨gb87004,0,none⟩=some (.string (⟨#[]⟩:ByteArray)):=(Zs BK87004.out 0).trans rfl;have hcz21_1:w19.cell? ⟨gb87004,1,none⟩=some (.slice none 0 0):=(Zs BK87004.out 1).trans rfl;have hcz21_2:w19.cell? ⟨gb87004,2,none⟩=some (.int .i64 0):=(Zs BK87004.out 2).trans rfl;have hfz21_0:=Zr BK87004.out 0;have hfz21_1:=Zr BK87004.out 1;have hfz21_2:=Zr BK87004.out 2;have hcz22_0:w19.cell? ⟨gb87001,0,none⟩=some (.slice (some ad87003) l0_0.length c0_0):=(Zs BK87001.out 0).trans rfl;have hcz22_1:w19.cell? ⟨gb87001,1,none⟩=some (.slice A0_1 l0_1.length c0_1):=(Zs BK87001.out 1).trans rfl;have hcz22_2:w19.cell? ⟨gb87001,2,none⟩=some (.int .i64 a0_2):=(Zs BK87001.out 2).trans rfl;have hfz22_0:=Zr BK87001.out 0;have hfz22_1:=Zr BK87001.out 1;have hfz22_2:=Zr BK87001.out 2)|((with_reducible refine ZG (f:=88) rfl ?_);refine ZQ (some 21) rfl rfl Try.func88 (by kernel_rfl) rfl #[.agg #[.slice (some ad87003) l0_0.length c0_0,.slice A0_1 l0_1.length c0_1,.int .i64 a0_2],.int .i64 x13_1] rfl (by(try simp only[List.map_toArray,List.map_cons,List.map_nil]);first|done|rfl|(simp only[Zk,Zj];rfl)) ?_;(with_reducible refine(ZR.calls k1 _ _ l0_0 _ _ l0_1 a0_2 x13_1 t87005 t87006 _ ?side1 ?side2 ?side3 ?side4 A11.out).mono ?_);(case side1=>exact Zb HR0_0.out (by repeat(first|(with_reducible first|exact HB.out|apply Zn|apply Zm|apply Zt|refine Zq ?_ GE87001.out|refine Zq ?_ GE87004.out)|exact HB.out)));(case side2=>exact HC0_0.out);(case side3=>exact Zb HR0_1.out (by repeat(first|(with_reducible first|exact HB.out|apply Zn|apply Zm|apply Zt|refine Zq ?_ GE87001.out|refine Zq ?_ GE87004.out)|exact HB.out)));(case side4=>exact HC0_1.out);rintro e w23 ⟨v87007,rfl,ho0,hb⟩;refine⟨_,rfl,?_⟩;have HO87008:=Za (Kd.R_lower ho0 (Zx (by repeat(first|(with_reducible first|exact HB.out|apply Zn|apply Zm|apply Zt|refine Zq ?_ GE87001.out|refine Zq ?_ GE87004.out)|exact HB.out))));replace BK87001:=Za (Zy (g:=gb87001) (o:=.cells #[.slice (some ad87003) l0_0.length c0_0,.slice A0_1 l0_1.length c0_1,.int .i64 a0_2] 35 (0,0)) (by(with_reducible repeat(first|refine Zp ?_ _|refine Zu ?_|refine Zo ?_ _));refine ZD ?_ NB87001_87004.out _;(with_reducible repeat(first|refine Zp ?_ _|refine Zu ?_|refine Zo ?_ _));refine ZD ?_ NB87001_87004.out _;(with_reducible repeat(first|refine Zp ?_ _|refine Zu ?_|refine Zo ?_ _));refine ZD ?_ NB87001_87004.out _;(with_reducible repeat(first|refine Zp ?_ _|refine Zu ?_|refine Zo ?_ _));exact BK87001.out) hb);replace BK87004:=Za (Zy (g:=gb87004) (o:=.cells #[.string ((Zz l0_0 x13_1).f0),.slice A87003_1 ((Zz l0_0 x13_1).f1).length c87003_1,.int .i64 ((Zz l0_0 x13_1).f2)] 116 (0,0)) (by(with_reducible repeat(first|refine Zp ?_ _|refine Zu ?_|refine Zo ?_ _));refine ZL (cs:=#[.string ((Zz l0_0 x13_1).f0),.slice A87003_1 ((Zz l0_0 x13_1).f1).length c87003_1,.int .i64 0]) ?_ 2 _ rfl;(with_reducible repeat(first|refine Zp ?_ _|refine Zu ?_|refine Zo ?_ _));refine ZL (cs:=#[.string ((Zz l0_0 x13_1).f0),.slice none 0 0,.int .i64 0]) ?_ 1 _ rfl;(with_reducible repeat(first|refine Zp ?_ _|refine Zu ?_|refine Zo ?_ _));refine ZL (cs:=#[.string (⟨#[]⟩:ByteArray),.slice none 0 0,.int .i64 0]) ?_ 0 _ rfl;(with_reducible repeat(first|refine Zp ?_ _|refine Zu ?_|refine Zo ?_ _));exact BK87004.out) hb);replace HB:=Za (Zw (by repeat(first|(with_reducible first|exact HB.out|apply Zn|apply Zm|apply Zt|refine Zq ?_ GE87001.out|refine Zq ?_ GE87004.out)|exact HB.out)) hb);(try clear hb);(try clear hb2);(try clear hk);(try clear hi);(try clear ho0);have hcz24_0:w23.cell? ⟨gb87004,0,none⟩=some (.string ((Zz l0_0 x13_1).f0)):=(Zs BK87004.out 0).trans rfl;have hcz24_1:w23.cell? ⟨gb87004,1,none⟩=some (.slice A87003_1 ((Zz l0_0 x13_1).f1).length c87003_1):=(Zs BK87004.out 1).trans rfl;have hcz24_2:w23.cell? ⟨gb87004,2,none⟩=some (.int .i64 ((Zz l0_0 x13_1).f2)):=(Zs BK87004.out 2).trans rfl;have hfz24_0:=Zr BK87004.out 0;have hfz24_1:=Zr BK87004.out 1;have hfz24_2:=Zr BK87004.out 2))
         go_ret
         exact⟨by first|rfl|(simp[ZB,ZA] <;> rfl)|(simp[*,ZB,ZA] <;> rfl),by repeat(first|(with_reducible first|exact HB.out|apply Zn|apply Zm|apply Zt|refine Zq ?_ GE87001.out|refine Zq ?_ GE87004.out)|exact HB.out)⟩
        ·rw[if_neg c18] at H
         have c18b0:decide (0<(((Zz l0_0 x13_1).f1).length:Int))=false:=Zf c18
         have c18b1:decide (0<((Zz l0_0 x13_1).f1).length)=false:=Zf (by omega)
         clear c18
         have H':=Za H
         clear H
         have p87003:0≤(x13_1:Int):=Zd (by with_reducible assumption)
         have q87003:x13_1<(l0_0.length:Int):=Zd (by with_reducible assumption)
         obtain⟨ad87003,A87003_1,c87003_1,e87003,hx87003_0,hx87003_1,hx87003_2,hl87003_1,hi87003_1⟩:=Zaq HR0_0.out x13_1 p87003 q87003
         cases e87003
         replace hx87003_0:=(HB.out.cell (Zc w _ hx87003_0)).trans hx87003_0
         replace hx87003_1:=(HB.out.cell (Zc w _ hx87003_1)).trans hx87003_1
         replace hx87003_2:=(HB.out.cell (Zc w _ hx87003_2)).trans hx87003_2
         have HR87003_1:=Za hi87003_1;have HC87003_1:=Za hl87003_1;clear hi87003_1 hl87003_1
         replace p87003:=eq_true p87003
         replace q87003:=eq_true q87003
         go_wp2_with (first|((with_reducible refine ZI (N:=4) rfl ?_);(try(refine Zbe (by rfl) ?_;dsimp only));refine ZH ?hg (N:=4) ?hd (cs:=#[.string (⟨#[]⟩:ByteArray),.slice none 0 0,.int .i64 0]) (t:=116) ?hr ?_;(case hd=>rfl);(case hg=>rfl);(case hr=>first|(go_simp;done)|(go_simp;rfl));intro gb87004 hg w25 hbox hb;have n0_:=Za (Zy (g:=gb87001) (o:=.cells #[.slice (some ad87003) l0_0.length c0_0,.slice A0_1 l0_1.length c0_1,.int .i64 a0_2] 35 (0,0)) BK87001.out hb);have n1_:=Za (Zw (by exact HB.out) hb);have n2_:=Za (hbox);have n3_:=Za ((by rw[hg];exact(Zx (by exact HB.out)):w.heap.size≤gb87004));have n4_:=n3_;have n5_:=Za ((by rw[hg];exact Nat.ne_of_lt (ZO (g:=gb87001) (o:=.cells #[.slice (some ad87003) l0_0.length c0_0,.slice A0_1 l0_1.length c0_1,.int .i64 a0_2] 35 (0,0)) BK87001.out):gb87001≠gb87004));have n6_:=Za n5_.out.symm;clear BK87001;clear HB;have BK87001:=n0_;have HB:=n1_;have BK87004:=n2_;have GW87004:=n3_;have GE87004:=n4_;have NB87001_87004:=n5_;have NB87004_87001:=n6_;clear n0_ n1_ n2_ n3_ n4_ n5_ n6_;clear hb hbox hg;have hnb26:=NB87004_87001.out;have hnc26:=NB87001_87004.out;have hcz27_0:w25.cell? ⟨gb87004,0,none⟩=some (.string (⟨#[]⟩:ByteArray)):=(Zs BK87004.out 0).trans rfl;have hcz27_1:w25.cell? ⟨gb87004,1,none⟩=some (.slice none 0 0):=(Zs BK87004.out 1).trans rfl;have hcz27_2:w25.cell? ⟨gb87004,2,none⟩=some (.int .i64 0):=(Zs BK87004.out 2).trans rfl;have hfz27_0:=Zr BK87004.out 0;have hfz27_1:=Zr BK87004.out 1;have hfz27_2:=Zr BK87004.out 2;have hcz28_0:w25.cell? ⟨gb87001,0,none⟩=some (.slice (some ad87003) l0_0.length c0_0):=(Zs BK87001.out 0).trans rfl;have hcz28_1:w25.cell? ⟨gb87001,1,none⟩=some (.slice A0_1 l0_1.length c0_1):=(Zs BK87001.out 1).trans rfl;have hcz28_2:w25.cell? ⟨gb87001,2,none⟩=some (.int .i64 a0_2):=(Zs BK87001.out 2).trans rfl;have hfz28_0:=Zr BK87001.out 0;have hfz28_1:=Zr BK87001.out 1;have hfz28_2:=Zr BK87001.out 2)|((with_reducible refine ZG (f:=88) rfl ?_);refine ZQ (some 21) rfl rfl Try.func88 (by kernel_rfl) rfl #[.agg #[.slice (some ad87003) l0_0.length c0_0,.slice A0_1 l0_1.length c0_1,.int .i64 a0_2],.int .i64 x13_1] rfl (by(try simp only[List.map_toArray,List.map_cons,List.map_nil]);first|done|rfl|(simp only[Zk,Zj];rfl)) ?_;(with_reducible refine(ZR.calls k1 _ _ l0_0 _ _ l0_1 a0_2 x13_1 t87005 t87006 _ ?side1 ?side2 ?side3 ?side4 A11.out).mono ?_);(case side1=>exact Zb HR0_0.out (by repeat(first|(with_reducible first|exact HB.out|apply Zn|apply Zm|apply Zt|refine Zq ?_ GE87001.out|refine Zq ?_ GE87004.out)|exact HB.out)));(case side2=>exact HC0_0.out);(case side3=>exact Zb HR0_1.out (by repeat(first|(with_reducible first|exact HB.out|apply Zn|apply Zm|apply Zt|refine Zq ?_ GE87001.out|refine Zq ?_ GE87004.out)|exact HB.out)));(case side4=>exact HC0_1.out);rintro e w29 ⟨v87007,rfl,ho0,hb⟩;refine⟨_,rfl,?_⟩;have HO87008:=Za (Kd.R_lower ho0 (Zx (by repeat(first|(with_reducible first|exact HB.out|apply Zn|apply Zm|apply Zt|refine Zq ?_ GE87001.out|refine Zq ?_ GE87004.out)|exact HB.out))));replace BK87001:=Za (Zy (g:=gb87001) (o:=.cells #[.slice (some ad87003) l0_0.length c0_0,.slice A0_1 l0_1.length c0_1,.int .i64 a0_2] 35 (0,0)) (by(with_reducible repeat(first|refine Zp ?_ _|refine Zu ?_|refine Zo ?_ _));refine ZD ?_ NB87001_87004.out _;(with_reducible repeat(first|refine Zp ?_ _|refine Zu ?_|refine Zo ?_ _));refine ZD ?_ NB87001_87004.out _;(with_reducible repeat(first|refine Zp ?_ _|refine Zu ?_|refine Zo ?_ _));refine ZD ?_ NB87001_87004.out _;(with_reducible repeat(first|refine Zp ?_ _|refine Zu ?_|refine Zo ?_ _));exact BK87001.out) hb);replace BK87004:=Za (Zy (g:=gb87004) (o:=.cells #[.string ((Zz l0_0 x13_1).f0),.slice A87003_1 ((Zz l0_0 x13_1).f1).length c87003_1,.int .i64 ((Zz l0_0 x13_1).f2)] 116 (0,0)) (by(with_reducible repeat(first|refine Zp ?_ _|refine Zu ?_|refine Zo ?_ _));refine ZL (cs:=#[.string ((Zz l0_0 x13_1).f0),.slice A87003_1 ((Zz l0_0 x13_1).f1).length c87003_1,.int .i64 0]) ?_ 2 _ rfl;(with_reducible repeat(first|refine Zp ?_ _|refine Zu ?_|refine Zo ?_ _));refine ZL (cs:=#[.string ((Zz l0_0 x13_1).f0),.slice none 0 0,.int .i64 0]) ?_ 1 _ rfl;(with_reducible repeat(first|refine Zp ?_ _|refine Zu ?_|refine Zo ?_ _));refine ZL (cs:=#[.string (⟨#[]⟩:ByteArray),.slice none 0 0,.int .i64 0]) ?_ 0 _ rfl;(with_reducible repeat(first|refine Zp ?_ _|refine Zu ?_|refine Zo ?_ _));exact BK87004.out) hb);replace HB:=Za (Zw (by repeat(first|(with_reducible first|exact HB.out|apply Zn|apply Zm|apply Zt|refine Zq ?_ GE87001.out|refine Zq ?_ GE87004.out)|exact HB.out)) hb);(try clear hb);(try clear hb2);(try clear hk);(try clear hi);(try clear ho0);have hcz30_0:w29.cell? ⟨gb87004,0,none⟩=some (.string ((Zz l0_0 x13_1).f0)):=(Zs BK87004.out 0).trans rfl;have hcz30_1:w29.cell? ⟨gb87004,1,none⟩=some (.slice A87003_1 ((Zz l0_0 x13_1).f1).length c87003_1):=(Zs BK87004.out 1).trans rfl;have hcz30_2:w29.cell? ⟨gb87004,2,none⟩=some (.int .i64 ((Zz l0_0 x13_1).f2)):=(Zs BK87004.out 2).trans rfl;have hfz30_0:=Zr BK87004.out 0;have hfz30_1:=Zr BK87004.out 1;have hfz30_2:=Zr BK87004.out 2))
         go_roundg k1
         case measure=>have:=HK1.out;omega
         case rel=>exact⟨(wrap64 (x13_1+1)),(by first|rfl|(simp;done)|(simp[*];done)),H',⟨by have:=HK1.out;omega⟩,⟨by(with_reducible repeat(first|refine Zp ?_ _|refine Zu ?_|refine Zo ?_ _));exact BK87001.out⟩,⟨by repeat(first|(with_reducible first|exact HB.out|apply Zn|apply Zm|apply Zt|refine Zq ?_ GE87001.out|refine Zq ?_ GE87004.out)|exact HB.out)⟩⟩
      ·rw[if_neg c10] at H
       exact absurd H (by simp)
     ·rw[if_neg c9] at H
      exact absurd H (by simp)
    ·rw[if_neg c8] at H
     have c8b0:decide (x13_1<(l0_0.length:Int))=false:=Zf c8
     clear c8
     obtain rfl:=Zg H
     go_wp2
     go_ret
     exact⟨by first|rfl|(simp[ZB,ZA] <;> rfl)|(simp[*,ZB,ZA] <;> rfl),by repeat(first|(with_reducible first|exact HB.out|apply Zn|apply Zm|apply Zt|refine Zq ?_ GE87001.out)|exact HB.out)⟩
 ·replace c3:=Bool.eq_false_iff.mpr c3
  subst c3
  have H1:(some false)=some r:=by rw[if_neg (show ¬(false=true) by decide)] at H;exact H
  clear H
  have H:=H1
  clear H1
  obtain rfl:=Zg H
  go_enter Try.func87,Try.ntmps87
  go_wp2_with (first|((with_reducible refine ZI (N:=1) rfl ?_);(try(refine Zbe (by rfl) ?_;dsimp only));refine ZH ?hg (N:=1) ?hd (cs:=#[.slice A0_0 l0_0.length c0_0,.slice A0_1 l0_1.length c0_1,.int .i64 a0_2]) (t:=35) ?hr ?_;(case hd=>rfl);(case hg=>rfl);(case hr=>first|(go_simp;done)|(go_simp;rfl));intro gb87001 hg w31 hbox hb;have BK87001:=Za (hbox);have GW87001:=Za ((by rw[hg];exact(Zx (by exact HB.out)):w.heap.size≤gb87001));have GE87001:=Za ((by rw[hg];exact(Zx (by exact HB.out)):w.heap.size≤gb87001));replace HB:=Za (Zw (by exact HB.out) hb);clear hb hbox hg;have hcz32_0:w31.cell? ⟨gb87001,0,none⟩=some (.slice A0_0 l0_0.length c0_0):=(Zs BK87001.out 0).trans rfl;have hcz32_1:w31.cell? ⟨gb87001,1,none⟩=some (.slice A0_1 l0_1.length c0_1):=(Zs BK87001.out 1).trans rfl;have hcz32_2:w31.cell? ⟨gb87001,2,none⟩=some (.int .i64 a0_2):=(Zs BK87001.out 2).trans rfl;have hfz32_0:=Zr BK87001.out 0;have hfz32_1:=Zr BK87001.out 1;have hfz32_2:=Zr BK87001.out 2)|((with_reducible refine ZG (f:=72) rfl ?_);refine ZQ (some 8) rfl rfl Try.func72 (by kernel_rfl) rfl #[.agg #[.slice A0_0 l0_0.length c0_0,.slice A0_1 l0_1.length c0_1,.int .i64 a0_2]] rfl (by(try simp only[List.map_toArray,List.map_cons,List.map_nil]);first|done|rfl|(simp only[Zk,Zj];rfl)) ?_;(with_reducible refine(Zbb.calls _ _ l0_0 _ _ l0_1 a0_2 false _ ?side1 ?side2 ?side3 ?side4 A2.out).mono ?_);(case side1=>exact(Zb HR0_0.out HB.out));(case side2=>exact HC0_0.out);(case side3=>exact(Zb HR0_1.out HB.out));(case side4=>exact HC0_1.out);rintro e w33 ⟨rfl,hb⟩;refine⟨_,rfl,?_⟩;replace BK87001:=Za (Zy (g:=gb87001) (o:=.cells #[.slice A0_0 l0_0.length c0_0,.slice A0_1 l0_1.length c0_1,.int .i64 a0_2] 35 (0,0)) BK87001.out hb);replace HB:=Za (Zw (by exact HB.out) hb);(try clear hb);(try clear hb2);(try clear hk);(try clear hi)))
  go_ret
  exact⟨by first|rfl|(simp[ZB,ZA] <;> rfl)|(simp[*,ZB,ZA] <;> rfl),by repeat(first|(with_reducible first|exact HB.out|apply Zn|apply Zm|apply Zt|refine Zq ?_ GE87001.out)|exact HB.out)⟩
def ZX.l0:Nat→List Int→Int→Int→List Int→Int→Int→List (S116)→List (S90)→Int→Option (Int×Int)
 | 0,_,_,_,_,_,_,_,_,_=>none
 | k+1,x2,x8,x9,x12,x13,x14,x91002000,x91002001,x91002002=>if x14<x13 then(if 0≤x14 then(if x14<(x12.length:Int) then((ZK.f x2 (rd x12 x14)).bind fun t91003=>(if t91003=true then(ZX.l0 k x2 x8 x9 x12 x13 (wrap64 (x14+1)) x91002000 x91002001 x91002002) else(if 0≤(rd x12 x14) then(if (rd x12 x14)<(x91002001.length:Int) then(ZX.l0 k x2 (wrap64 (x8+((Zv x91002001 (rd x12 x14)).f2))) (wrap64 (x9+((Zv x91002001 (rd x12 x14)).f3))) x12 x13 (wrap64 (x14+1)) x91002000 x91002001 x91002002) else(none)) else(none)))) else(none)) else(none)) else(some (x8,x9))
def ZX.f (k:Nat) (l0_0:List (S116)) (l0_1:List (S90)) (a0_2:Int) (l1:List Int) (l2:List Int):Option (Int×Int):=ZX.l0 k l2 0 0 l1 (l1.length:Int) 0 l0_0 l0_1 a0_2
set_option maxHeartbeats 8000000 in
set_option maxRecDepth 100000 in
theorem ZX.calls (k:Nat) (A0_0:Option Addr) (c0_0:Nat) (l0_0:List (S116)) (A0_1:Option Addr) (c0_1:Nat) (l0_1:List (S90)) (a0_2:Int) (A1:Option Addr) (c1:Nat) (l1:List Int) (A2:Option Addr) (c2:Nat) (l2:List Int) (r1:Int) (r2:Int) (w:World) (hr0_0:Kd.C k116 w A0_0 l0_0.length l0_0) (hc0_0:l0_0.length≤c0_0) (hr0_1:Kd.C k90 w A0_1 l0_1.length l0_1) (hc0_1:l0_1.length≤c0_1) (hr1:Kd.C (Kd.int .i64) w A1 l1.length l1) (hc1:l1.length≤c1) (hr2:Kd.C (Kd.int .i64) w A2 l2.length l2) (hc2:l2.length≤c2) (h:ZX.f k l0_0 l0_1 a0_2 l1 l2=some (r1,r2)) :
  Calls Try.prog 91 #[.agg #[.slice A0_0 l0_0.length c0_0,.slice A0_1 l0_1.length c0_1,.int .i64 a0_2],.slice A1 l1.length c1,.slice A2 l2.length c2] w fun e w'=>e=.returned (.tuple #[.int .i64 r1,.int .i64 r2])∧Below w.heap.size w w':=by
 have hu35:=Try.underlying35
 have HR0_0:=Za hr0_0;have HC0_0:=Za hc0_0;clear hr0_0 hc0_0;have HR0_1:=Za hr0_1;have HC0_1:=Za hc0_1;clear hr0_1 hc0_1;have HR1:=Za hr1;have HC1:=Za hc1;clear hr1 hc1;have HR2:=Za hr2;have HC2:=Za hc2;clear hr2 hc2
 have HB:=Za (Below.refl w.heap.size w)
 have H:(ZX.l0 k l2 0 0 l1 (l1.length:Int) 0 l0_0 l0_1 a0_2)=some (r1,r2):=h
 clear h
 have H':=Za H
 clear H
 go_enter Try.func91,Try.ntmps91
 go_wp2_with (first|((with_reducible refine ZI (N:=3) rfl ?_);refine ZH ?hg (N:=3) ?hd (cs:=#[.slice A0_0 l0_0.length c0_0,.slice A0_1 l0_1.length c0_1,.int .i64 a0_2]) (t:=35) ?hr ?_;(case hd=>rfl);(case hg=>rfl);(case hr=>first|(go_simp;done)|(go_simp;rfl));intro gb91001 hg w4 hbox hb;have BK91001:=Za (hbox);have GW91001:=Za ((by rw[hg];exact(Zx (by repeat(first|(with_reducible first|exact HB.out|apply Zn|apply Zm|apply Zt)|exact HB.out))):w.heap.size≤gb91001));have GE91001:=Za ((by rw[hg];exact(Zx (by repeat(first|(with_reducible first|exact HB.out|apply Zn|apply Zm|apply Zt)|exact HB.out))):w.heap.size≤gb91001));replace HB:=Za (Zw (by repeat(first|(with_reducible first|exact HB.out|apply Zn|apply Zm|apply Zt)|exact HB.out)) hb);clear hb hbox hg))
 repeat(go_quiet (first|((with_reducible refine ZI (N:=3) rfl ?_);refine ZH ?hg (N:=3) ?hd (cs:=#[.slice A0_0 l0_0.length c0_0,.slice A0_1 l0_1.length c0_1,.int .i64 a0_2]) (t:=35) ?hr ?_;(case hd=>rfl);(case hg=>rfl);(case hr=>first|(go_simp;done)|(go_simp;rfl));intro gb91001 hg w4 hbox hb;have BK91001:=Za (hbox);have GW91001:=Za ((by rw[hg];exact(Zx (by repeat(first|(with_reducible first|exact HB.out|apply Zn|apply Zm|apply Zt)|exact HB.out))):w.heap.size≤gb91001));have GE91001:=Za ((by rw[hg];exact(Zx (by repeat(first|(with_reducible first|exact HB.out|apply Zn|apply Zm|apply Zt)|exact HB.out))):w.heap.size≤gb91001));replace HB:=Za (Zw (by repeat(first|(with_reducible first|exact HB.out|apply Zn|apply Zm|apply Zt)|exact HB.out)) hb);clear hb hbox hg));try go_wp2_with (first|((with_reducible refine ZI (N:=3) rfl ?_);refine ZH ?hg (N:=3) ?hd (cs:=#[.slice A0_0 l0_0.length c0_0,.slice A0_1 l0_1.length c0_1,.int .i64 a0_2]) (t:=35) ?hr ?_;(case hd=>rfl);(case hg=>rfl);(case hr=>first|(go_simp;done)|(go_simp;rfl));intro gb91001 hg w4 hbox hb;have BK91001:=Za (hbox);have GW91001:=Za ((by rw[hg];exact(Zx (by repeat(first|(with_reducible first|exact HB.out|apply Zn|apply Zm|apply Zt)|exact HB.out))):w.heap.size≤gb91001));have GE91001:=Za ((by rw[hg];exact(Zx (by repeat(first|(with_reducible first|exact HB.out|apply Zn|apply Zm|apply Zt)|exact HB.out))):w.heap.size≤gb91001));replace HB:=Za (Zw (by repeat(first|(with_reducible first|exact HB.out|apply Zn|apply Zm|apply Zt)|exact HB.out)) hb);clear hb hbox hg)))
 go_loopg [8,9,14] k (fun kq v8 v9 v14 w'=>∃(x8_1:Int) (x9_1:Int) (x14_1:Int),v8=.int .i64 x8_1∧v9=.int .i64 x9_1∧v14=.int .i64 x14_1∧Aside0 (ZX.l0 kq l2 x8_1 x9_1 l1 (l1.length:Int) x14_1 l0_0 l0_1 a0_2=some (r1,r2))∧Aside0 (kq≤k)∧Aside0 (w'.heap[gb91001]? = some (.cells #[(.slice A0_0 l0_0.length c0_0),(.slice A0_1 l0_1.length c0_1),.int .i64 a0_2] 35 (0,0)))∧Aside0 (Below w.heap.size w w'))
 case atStart=>exact⟨(0),(0),(0),(by first|rfl|(simp;done)|(simp[*];done)),(by first|rfl|(simp;done)|(simp[*];done)),(by first|rfl|(simp;done)|(simp[*];done)),H',⟨Nat.le_refl _⟩,⟨by(with_reducible repeat(first|refine Zp ?_ _|refine Zu ?_|refine Zo ?_ _));exact BK91001.out⟩,⟨by repeat(first|(with_reducible first|exact HB.out|apply Zn|apply Zm|apply Zt|refine Zq ?_ GE91001.out)|exact HB.out)⟩⟩
 case round=>
  clear H'
  try clear c1
  try clear c2
  try clear p2
  obtain⟨x8_1,x9_1,x14_1,rfl,rfl,rfl,HA,HK1,BK91001,HB⟩:=hrel
  cases gk with
  | zero=>exact absurd HA.out (by simp[ZX.l0])
  | succ k1=>
   have H:=HA.out
   clear HA
   simp only[ZX.l0] at H
   by_cases c5:x14_1<(l1.length:Int)
   ·rw[if_pos c5] at H
    have c5b0:decide (x14_1<(l1.length:Int))=true:=Ze c5
    clear c5
    by_cases c6:0≤x14_1
    ·rw[if_pos c6] at H
     have c6b0:decide (0≤x14_1)=true:=Ze c6
     clear c6
     by_cases c7:x14_1<(l1.length:Int)
     ·rw[if_pos c7] at H
      have c7b0:decide (x14_1<(l1.length:Int))=true:=Ze c7
      clear c7
      replace H:=Zh H
      obtain⟨t91003,A80,H⟩:=H
      replace H:(if t91003=true then(ZX.l0 k1 l2 x8_1 x9_1 l1 (l1.length:Int) (wrap64 (x14_1+1)) l0_0 l0_1 a0_2) else(if 0≤(rd l1 x14_1) then(if (rd l1 x14_1)<(l0_1.length:Int) then(ZX.l0 k1 l2 (wrap64 (x8_1+((Zv l0_1 (rd l1 x14_1)).f2))) (wrap64 (x9_1+((Zv l0_1 (rd l1 x14_1)).f3))) l1 (l1.length:Int) (wrap64 (x14_1+1)) l0_0 l0_1 a0_2) else(none)) else(none)))=some (r1,r2):=H
      have A8:=Za A80;clear A80
      by_cases c9:t91003=true
      ·subst c9
       have H1:(ZX.l0 k1 l2 x8_1 x9_1 l1 (l1.length:Int) (wrap64 (x14_1+1)) l0_0 l0_1 a0_2)=some (r1,r2):=by rw[if_pos rfl] at H;exact H
       clear H
       have H:=H1
       clear H1
       have H':=Za H
       clear H
       have p91002:0≤(x14_1:Int):=Zd (by first|(with_reducible assumption)|assumption)
       have q91002:x14_1<(l1.length:Int):=Zd (by first|(with_reducible assumption)|assumption)
       obtain⟨ad91002,e91002,hx91002_0⟩:=Kd.at_int HR1.out x14_1 p91002 q91002
       cases e91002
       replace hx91002_0:=(HB.out.cell (Zc w _ hx91002_0)).trans hx91002_0
       replace p91002:=eq_true p91002
       replace q91002:=eq_true q91002
       go_wp2_with (first|(go_at_call 134;(with_reducible refine(ZK.calls _ _ l2 (rd l1 x14_1) true _ ?side1 ?side2 A8.out).mono ?_);(case side1=>repeat(first|exact(Zb HR2.out HB.out)|(with_reducible refine Kd.C_alloc ?_ _)|(with_reducible refine Kd.C_drewN ?_ _)|(with_reducible refine Kd.C_drew ?_)));(case side2=>exact HC2.out);rintro e w10 ⟨rfl,hb⟩;replace BK91001:=Za (Zy (g:=gb91001) (o:=.cells #[.slice A0_0 l0_0.length c0_0,.slice A0_1 l0_1.length c0_1,.int .i64 a0_2] 35 (0,0)) (by(with_reducible repeat(first|refine Zp ?_ _|refine Zu ?_|refine Zo ?_ _));exact BK91001.out) hb);replace HB:=Za (Zw (by repeat(first|(with_reducible first|exact HB.out|apply Zn|apply Zm|apply Zt|refine Zq ?_ GE91001.out)|exact HB.out)) hb);(try clear hb);(try clear hb2);(try clear hk);(try clear hi)))
       repeat(go_quiet (first|(go_at_call 134;(with_reducible refine(ZK.calls _ _ l2 (rd l1 x14_1) true _ ?side1 ?side2 A8.out).mono ?_);(case side1=>repeat(first|exact(Zb HR2.out HB.out)|(with_reducible refine Kd.C_alloc ?_ _)|(with_reducible refine Kd.C_drewN ?_ _)|(with_reducible refine Kd.C_drew ?_)));(case side2=>exact HC2.out);rintro e w10 ⟨rfl,hb⟩;replace BK91001:=Za (Zy (g:=gb91001) (o:=.cells #[.slice A0_0 l0_0.length c0_0,.slice A0_1 l0_1.length c0_1,.int .i64 a0_2] 35 (0,0)) (by(with_reducible repeat(first|refine Zp ?_ _|refine Zu ?_|refine Zo ?_ _));exact BK91001.out) hb);replace HB:=Za (Zw (by repeat(first|(with_reducible first|exact HB.out|apply Zn|apply Zm|apply Zt|refine Zq ?_ GE91001.out)|exact HB.out)) hb);(try clear hb);(try clear hb2);(try clear hk);(try clear hi)));try go_wp2_with (first|(go_at_call 134;(with_reducible refine(ZK.calls _ _ l2 (rd l1 x14_1) true _ ?side1 ?side2 A8.out).mono ?_);(case side1=>repeat(first|exact(Zb HR2.out HB.out)|(with_reducible refine Kd.C_alloc ?_ _)|(with_reducible refine Kd.C_drewN ?_ _)|(with_reducible refine Kd.C_drew ?_)));(case side2=>exact HC2.out);rintro e w10 ⟨rfl,hb⟩;replace BK91001:=Za (Zy (g:=gb91001) (o:=.cells #[.slice A0_0 l0_0.length c0_0,.slice A0_1 l0_1.length c0_1,.int .i64 a0_2] 35 (0,0)) (by(with_reducible repeat(first|refine Zp ?_ _|refine Zu ?_|refine Zo ?_ _));exact BK91001.out) hb);replace HB:=Za (Zw (by repeat(first|(with_reducible first|exact HB.out|apply Zn|apply Zm|apply Zt|refine Zq ?_ GE91001.out)|exact HB.out)) hb);(try clear hb);(try clear hb2);(try clear hk);(try clear hi))))
       go_roundg k1
       case measure=>have:=HK1.out;omega
       case rel=>exact⟨(x8_1),(x9_1),(wrap64 (x14_1+1)),(by first|rfl|(simp;done)|(simp[*];done)),(by first|rfl|(simp;done)|(simp[*];done)),(by first|rfl|(simp;done)|(simp[*];done)),H',⟨by have:=HK1.out;omega⟩,⟨by(with_reducible repeat(first|refine Zp ?_ _|refine Zu ?_|refine Zo ?_ _));exact BK91001.out⟩,⟨by repeat(first|(with_reducible first|exact HB.out|apply Zn|apply Zm|apply Zt|refine Zq ?_ GE91001.out)|exact HB.out)⟩⟩
      ·replace c9:=Bool.eq_false_iff.mpr c9
       subst c9
       have H1:(if 0≤(rd l1 x14_1) then(if (rd l1 x14_1)<(l0_1.length:Int) then(ZX.l0 k1 l2 (wrap64 (x8_1+((Zv l0_1 (rd l1 x14_1)).f2))) (wrap64 (x9_1+((Zv l0_1 (rd l1 x14_1)).f3))) l1 (l1.length:Int) (wrap64 (x14_1+1)) l0_0 l0_1 a0_2) else(none)) else(none))=some (r1,r2):=by rw[if_neg (show ¬(false=true) by decide)] at H;exact H
       clear H
       have H:=H1
       clear H1
       by_cases c11:0≤(rd l1 x14_1)
       ·rw[if_pos c11] at H
        have c11b0:decide (0≤(rd l1 x14_1))=true:=Ze c11
        clear c11
        by_cases c12:(rd l1 x14_1)<(l0_1.length:Int)
        ·rw[if_pos c12] at H
         have c12b0:decide ((rd l1 x14_1)<(l0_1.length:Int))=true:=Ze c12
         clear c12
         have H':=Za H
         clear H
         have p91002:0≤(x14_1:Int):=Zd (by first|(with_reducible assumption)|assumption)
         have q91002:x14_1<(l1.length:Int):=Zd (by first|(with_reducible assumption)|assumption)
         obtain⟨ad91002,e91002,hx91002_0⟩:=Kd.at_int HR1.out x14_1 p91002 q91002
         cases e91002
         replace hx91002_0:=(HB.out.cell (Zc w _ hx91002_0)).trans hx91002_0
         replace p91002:=eq_true p91002
         replace q91002:=eq_true q91002
         go_wp2_with (first|(go_at_call 134;(with_reducible refine(ZK.calls _ _ l2 (rd l1 x14_1) false _ ?side1 ?side2 A8.out).mono ?_);(case side1=>repeat(first|exact(Zb HR2.out HB.out)|(with_reducible refine Kd.C_alloc ?_ _)|(with_reducible refine Kd.C_drewN ?_ _)|(with_reducible refine Kd.C_drew ?_)));(case side2=>exact HC2.out);rintro e w13 ⟨rfl,hb⟩;replace BK91001:=Za (Zy (g:=gb91001) (o:=.cells #[.slice A0_0 l0_0.length c0_0,.slice A0_1 l0_1.length c0_1,.int .i64 a0_2] 35 (0,0)) (by(with_reducible repeat(first|refine Zp ?_ _|refine Zu ?_|refine Zo ?_ _));exact BK91001.out) hb);replace HB:=Za (Zw (by repeat(first|(with_reducible first|exact HB.out|apply Zn|apply Zm|apply Zt|refine Zq ?_ GE91001.out)|exact HB.out)) hb);(try clear hb);(try clear hb2);(try clear hk);(try clear hi);have hcz14_0:w13.cell? ⟨gb91001,0,none⟩=some (.slice A0_0 l0_0.length c0_0):=(Zs BK91001.out 0).trans rfl;have hcz14_1:w13.cell? ⟨gb91001,1,none⟩=some (.slice A0_1 l0_1.length c0_1):=(Zs BK91001.out 1).trans rfl;have hcz14_2:w13.cell? ⟨gb91001,2,none⟩=some (.int .i64 a0_2):=(Zs BK91001.out 2).trans rfl;have hfz14_0:=Zr BK91001.out 0;have hfz14_1:=Zr BK91001.out 1;have hfz14_2:=Zr BK91001.out 2;have p91004:0≤((rd l1 x14_1):Int):=Zd (by first|(with_reducible assumption)|assumption);have q91004:(rd l1 x14_1)<(l0_1.length:Int):=Zd (by first|(with_reducible assumption)|assumption);obtain⟨ad91004,e91004,hx91004_0,hx91004_1,hx91004_2,hx91004_3,hx91004_4⟩:=ZaH HR0_1.out (rd l1 x14_1) p91004 q91004;cases e91004;replace hx91004_0:=(HB.out.cell (Zc w _ hx91004_0)).trans hx91004_0;replace hx91004_1:=(HB.out.cell (Zc w _ hx91004_1)).trans hx91004_1;replace hx91004_2:=(HB.out.cell (Zc w _ hx91004_2)).trans hx91004_2;replace hx91004_3:=(HB.out.cell (Zc w _ hx91004_3)).trans hx91004_3;replace hx91004_4:=(HB.out.cell (Zc w _ hx91004_4)).trans hx91004_4;replace p91004:=eq_true p91004;replace q91004:=eq_true q91004;have p91005:0≤((rd l1 x14_1):Int):=Zd (by first|(with_reducible assumption)|assumption);have q91005:(rd l1 x14_1)<(l0_1.length:Int):=Zd (by first|(with_reducible assumption)|assumption);obtain⟨ad91005,e91005,hx91005_0,hx91005_1,hx91005_2,hx91005_3,hx91005_4⟩:=ZaH HR0_1.out (rd l1 x14_1) p91005 q91005;obtain rfl:ad91004=ad91005:=(by injection e91005);replace hx91005_0:=(HB.out.cell (Zc w _ hx91005_0)).trans hx91005_0;replace hx91005_1:=(HB.out.cell (Zc w _ hx91005_1)).trans hx91005_1;replace hx91005_2:=(HB.out.cell (Zc w _ hx91005_2)).trans hx91005_2;replace hx91005_3:=(HB.out.cell (Zc w _ hx91005_3)).trans hx91005_3;replace hx91005_4:=(HB.out.cell (Zc w _ hx91005_4)).trans hx91005_4;replace p91005:=eq_true p91005;replace q91005:=eq_true q91005))
         repeat(go_quiet (first|(go_at_call 134;(with_reducible refine(ZK.calls _ _ l2 (rd l1 x14_1) false _ ?side1 ?side2 A8.out).mono ?_);(case side1=>repeat(first|exact(Zb HR2.out HB.out)|(with_reducible refine Kd.C_alloc ?_ _)|(with_reducible refine Kd.C_drewN ?_ _)|(with_reducible refine Kd.C_drew ?_)));(case side2=>exact HC2.out);rintro e w13 ⟨rfl,hb⟩;replace BK91001:=Za (Zy (g:=gb91001) (o:=.cells #[.slice A0_0 l0_0.length c0_0,.slice A0_1 l0_1.length c0_1,.int .i64 a0_2] 35 (0,0)) (by(with_reducible repeat(first|refine Zp ?_ _|refine Zu ?_|refine Zo ?_ _));exact BK91001.out) hb);replace HB:=Za (Zw (by repeat(first|(with_reducible first|exact HB.out|apply Zn|apply Zm|apply Zt|refine Zq ?_ GE91001.out)|exact HB.out)) hb);(try clear hb);(try clear hb2);(try clear hk);(try clear hi);have hcz14_0:w13.cell? ⟨gb91001,0,none⟩=some (.slice A0_0 l0_0.length c0_0):=(Zs BK91001.out 0).trans rfl;have hcz14_1:w13.cell? ⟨gb91001,1,none⟩=some (.slice A0_1 l0_1.length c0_1):=(Zs BK91001.out 1).trans rfl;have hcz14_2:w13.cell? ⟨gb91001,2,none⟩=some (.int .i64 a0_2):=(Zs BK91001.out 2).trans rfl;have hfz14_0:=Zr BK91001.out 0;have hfz14_1:=Zr BK91001.out 1;have hfz14_2:=Zr BK91001.out 2;have p91004:0≤((rd l1 x14_1):Int):=Zd (by first|(with_reducible assumption)|assumption);have q91004:(rd l1 x14_1)<(l0_1.length:Int):=Zd (by first|(with_reducible assumption)|assumption);obtain⟨ad91004,e91004,hx91004_0,hx91004_1,hx91004_2,hx91004_3,hx91004_4⟩:=ZaH HR0_1.out (rd l1 x14_1) p91004 q91004;cases e91004;replace hx91004_0:=(HB.out.cell (Zc w _ hx91004_0)).trans hx91004_0;replace hx91004_1:=(HB.out.cell (Zc w _ hx91004_1)).trans hx91004_1;replace hx91004_2:=(HB.out.cell (Zc w _ hx91004_2)).trans hx91004_2;replace hx91004_3:=(HB.out.cell (Zc w _ hx91004_3)).trans hx91004_3;replace hx91004_4:=(HB.out.cell (Zc w _ hx91004_4)).trans hx91004_4;replace p91004:=eq_true p91004;replace q91004:=eq_true q91004;have p91005:0≤((rd l1 x14_1):Int):=Zd (by first|(with_reducible assumption)|assumption);have q91005:(rd l1 x14_1)<(l0_1.length:Int):=Zd (by first|(with_reducible assumption)|assumption);obtain⟨ad91005,e91005,hx91005_0,hx91005_1,hx91005_2,hx91005_3,hx91005_4⟩:=ZaH HR0_1.out (rd l1 x14_1) p91005 q91005;obtain rfl:ad91004=ad91005:=(by injection e91005);replace hx91005_0:=(HB.out.cell (Zc w _ hx91005_0)).trans hx91005_0;replace hx91005_1:=(HB.out.cell (Zc w _ hx91005_1)).trans hx91005_1;replace hx91005_2:=(HB.out.cell (Zc w _ hx91005_2)).trans hx91005_2;replace hx91005_3:=(HB.out.cell (Zc w _ hx91005_3)).trans hx91005_3;replace hx91005_4:=(HB.out.cell (Zc w _ hx91005_4)).trans hx91005_4;replace p91005:=eq_true p91005;replace q91005:=eq_true q91005));try go_wp2_with (first|(go_at_call 134;(with_reducible refine(ZK.calls _ _ l2 (rd l1 x14_1) false _ ?side1 ?side2 A8.out).mono ?_);(case side1=>repeat(first|exact(Zb HR2.out HB.out)|(with_reducible refine Kd.C_alloc ?_ _)|(with_reducible refine Kd.C_drewN ?_ _)|(with_reducible refine Kd.C_drew ?_)));(case side2=>exact HC2.out);rintro e w13 ⟨rfl,hb⟩;replace BK91001:=Za (Zy (g:=gb91001) (o:=.cells #[.slice A0_0 l0_0.length c0_0,.slice A0_1 l0_1.length c0_1,.int .i64 a0_2] 35 (0,0)) (by(with_reducible repeat(first|refine Zp ?_ _|refine Zu ?_|refine Zo ?_ _));exact BK91001.out) hb);replace HB:=Za (Zw (by repeat(first|(with_reducible first|exact HB.out|apply Zn|apply Zm|apply Zt|refine Zq ?_ GE91001.out)|exact HB.out)) hb);(try clear hb);(try clear hb2);(try clear hk);(try clear hi);have hcz14_0:w13.cell? ⟨gb91001,0,none⟩=some (.slice A0_0 l0_0.length c0_0):=(Zs BK91001.out 0).trans rfl;have hcz14_1:w13.cell? ⟨gb91001,1,none⟩=some (.slice A0_1 l0_1.length c0_1):=(Zs BK91001.out 1).trans rfl;have hcz14_2:w13.cell? ⟨gb91001,2,none⟩=some (.int .i64 a0_2):=(Zs BK91001.out 2).trans rfl;have hfz14_0:=Zr BK91001.out 0;have hfz14_1:=Zr BK91001.out 1;have hfz14_2:=Zr BK91001.out 2;have p91004:0≤((rd l1 x14_1):Int):=Zd (by first|(with_reducible assumption)|assumption);have q91004:(rd l1 x14_1)<(l0_1.length:Int):=Zd (by first|(with_reducible assumption)|assumption);obtain⟨ad91004,e91004,hx91004_0,hx91004_1,hx91004_2,hx91004_3,hx91004_4⟩:=ZaH HR0_1.out (rd l1 x14_1) p91004 q91004;cases e91004;replace hx91004_0:=(HB.out.cell (Zc w _ hx91004_0)).trans hx91004_0;replace hx91004_1:=(HB.out.cell (Zc w _ hx91004_1)).trans hx91004_1;replace hx91004_2:=(HB.out.cell (Zc w _ hx91004_2)).trans hx91004_2;replace hx91004_3:=(HB.out.cell (Zc w _ hx91004_3)).trans hx91004_3;replace hx91004_4:=(HB.out.cell (Zc w _ hx91004_4)).trans hx91004_4;replace p91004:=eq_true p91004;replace q91004:=eq_true q91004;have p91005:0≤((rd l1 x14_1):Int):=Zd (by first|(with_reducible assumption)|assumption);have q91005:(rd l1 x14_1)<(l0_1.length:Int):=Zd (by first|(with_reducible assumption)|assumption);obtain⟨ad91005,e91005,hx91005_0,hx91005_1,hx91005_2,hx91005_3,hx91005_4⟩:=ZaH HR0_1.out (rd l1 x14_1) p91005 q91005;obtain rfl:ad91004=ad91005:=(by injection e91005);replace hx91005_0:=(HB.out.cell (Zc w _ hx91005_0)).trans hx91005_0;replace hx91005_1:=(HB.out.cell (Zc w _ hx91005_1)).trans hx91005_1;replace hx91005_2:=(HB.out.cell (Zc w _ hx91005_2)).trans hx91005_2;replace hx91005_3:=(HB.out.cell (Zc w _ hx91005_3)).trans hx91005_3;replace hx91005_4:=(HB.out.cell (Zc w _ hx91005_4)).trans hx91005_4;replace p91005:=eq_true p91005;replace q91005:=eq_true q91005)))
         go_roundg k1
         case measure=>have:=HK1.out;omega
         case rel=>exact⟨(wrap64 (x8_1+((Zv l0_1 (rd l1 x14_1)).f2))),(wrap64 (x9_1+((Zv l0_1 (rd l1 x14_1)).f3))),(wrap64 (x14_1+1)),(by first|rfl|(simp;done)|(simp[*];done)),(by first|rfl|(simp;done)|(simp[*];done)),(by first|rfl|(simp;done)|(simp[*];done)),H',⟨by have:=HK1.out;omega⟩,⟨by(with_reducible repeat(first|refine Zp ?_ _|refine Zu ?_|refine Zo ?_ _));exact BK91001.out⟩,⟨by repeat(first|(with_reducible first|exact HB.out|apply Zn|apply Zm|apply Zt|refine Zq ?_ GE91001.out)|exact HB.out)⟩⟩
        ·rw[if_neg c12] at H
         exact absurd H (by simp)
       ·rw[if_neg c11] at H
        exact absurd H (by simp)
     ·rw[if_neg c7] at H
      exact absurd H (by simp)
    ·rw[if_neg c6] at H
     exact absurd H (by simp)
   ·rw[if_neg c5] at H
    have c5b0:decide (x14_1<(l1.length:Int))=false:=Zf c5
    clear c5
    simp only[Option.some.injEq,Prod.mk.injEq] at H
    obtain⟨rfl,rfl⟩:=H
    go_wp2
    repeat(go_quiet (fail);try go_wp2)
    go_ret2
    exact⟨by first|rfl|(simp[ZB,ZA] <;> rfl)|(simp[*,ZB,ZA] <;> rfl),by repeat(first|(with_reducible first|exact HB.out|apply Zn|apply Zm|apply Zt|refine Zq ?_ GE91001.out)|exact HB.out)⟩
end Go.Proofs.Ytodfnelilhjoeaa.Pr
namespace Go.Proofs.Ytodfnelilhjoeaa.Pr
open Go.RowKit Go.Proofs.YtodfnelilhjoeaaW.PrintWords Go.Proofs.Ytodfnelilhjoeaa.Ni
def inN (n x:Int):Bool:=decide (0≤x) && decide (x<n)
theorem inN_f (n x:Int):ZbN.f n x=some (inN n x):=by
 unfold ZbN.f inN
 by_cases h:x≥0
 ·rw[if_pos h,Ze (show(0:Int)≤x from h),Bool.true_and]
 ·rw[if_neg h,Zf (show ¬(0:Int)≤x from h),Bool.false_and]
theorem ZdI (n x:Int) (w:World):Calls Try.prog 90 #[.int .i64 n,.int .i64 x] w fun e w'=>e=.returned (.bool (inN n x))∧∃m,w'=w.drewN m:=
 (ZbN.calls n x _ w (inN_f n x)).mono fun _ _ ⟨he,hd⟩=>⟨he,hd.out⟩
theorem inN_iff {n x:Int}:inN n x=true↔0≤x∧x<n:=by
 unfold inN;rw[Bool.and_eq_true,decide_eq_true_eq,decide_eq_true_eq]
end Go.Proofs.Ytodfnelilhjoeaa.Pr
namespace Go.Proofs.Ytodfnelilhjoeaa.Pr
open Go.RowKit Go.Proofs.YtodfnelilhjoeaaW.PrintWords Go.Proofs.YtodfnelilhjoeaaW.PrintLast Go.Proofs.YtodfnelilhjoeaaW.PrintMore
attribute [local go_sem] Zac Zaa Zam Zal Z5 Z4 Zab Z9
set_option linter.unusedVariables false
set_option linter.unusedSimpArgs false
open Go.Proofs.Ytodfnelilhjoeaa.Ni
set_option maxHeartbeats 4000000 in
theorem Zey.any (p:S112→Bool) (g:Nat) (lb:Array Value) (eg:∀args w,(callFunc g args).run Try.prog w=.ok (.enter g args) w) (A0:Option Addr) (c0:Nat) (l0:List S112) (w:World) (hr0:Kd.C k112 w A0 l0.length l0)
  (hp:∀(W:World) (x:S112),x∈l0→Below w.heap.size w W→Calls Try.prog g (#[.agg #[.int .i64 x.f0,.int .i64 x.f1,.int .i64 x.f2.f0,.int .i64 x.f2.f1]] ++ lb) W fun e w'=>e=.returned (.bool (p x))∧Below W.heap.size W w') :
  Calls Try.prog 166 #[.slice A0 l0.length c0,.func (.func g) #[] lb] w fun e w'=>e=.returned (.int .i64 (Za8 p l0))∧Below w.heap.size w w':=by
 have HR0:=Za hr0;have HP:=Za hp;clear hr0 hp
 have HL:l0.length≤9223372036854775807:=HR0.out.2.1
 go_enter Try.func166,Try.ntmps166
 go_wp2
 go_loopg [5,8] l0.length (fun gg _ s8 wr=>∃kk:Nat,Aside0 (kk≤l0.length)∧Aside0 (l0.length - kk≤gg)∧s8=.int .i64 kk∧Aside0 (Below w.heap.size w wr)∧Aside0 (∀j y,j<kk→l0[j]? = some y→p y=false))
 case atStart=>exact⟨0,⟨Nat.zero_le _⟩,⟨by omega⟩,rfl,⟨Below.refl _ _⟩,⟨fun j y hj=>absurd hj (Nat.not_lt_zero _)⟩⟩
 case round=>
  obtain⟨kk,HK,HG,rfl,HB,HN⟩:=hrel
  by_cases hlt:kk<l0.length
  ·have hltz:(kk:Int)<(l0.length:Int):=by omega
   obtain⟨ad,e1,hx0,hx1,hx2,hx3⟩:=ZaY HR0.out (kk:Int) (by omega) hltz
   cases e1
   replace hx0:=(HB.out.cell (Zc w _ hx0)).trans hx0
   rw[Int.toNat_natCast] at hx0
   replace hx1:=(HB.out.cell (Zc w _ hx1)).trans hx1
   rw[Int.toNat_natCast] at hx1
   replace hx2:=(HB.out.cell (Zc w _ hx2)).trans hx2
   rw[Int.toNat_natCast] at hx2
   replace hx3:=(HB.out.cell (Zc w _ hx3)).trans hx3
   rw[Int.toNat_natCast] at hx3
   have hxe:l0[kk]? = some (ZM l0 (kk:Int)):=by
    unfold ZM
    rw[Int.toNat_natCast,List.getD_eq_getElem?_getD,Zl hlt];rfl
   generalize ZM l0 (kk:Int)=y at hx0 hx1 hx2 hx3 hxe
   have HX:=Za hxe;clear hxe
   have hcall:=HP.out wr y (List.mem_of_getElem? HX.out) HB.out
   cases hq:p y with
   | true=>
    have HQ:=Za hq
    rw[hq] at hcall
    clear hq
    go_wp2_with (go_at_fn g;refine hcall.mono ?_;rintro e w' ⟨rfl,hb⟩)
    go_ret
    exact⟨by rw[ZbI p l0 kk y HX.out HQ.out HN.out];rfl,HB.out.trans (hb.mono HB.out.size)⟩
   | false=>
    have HQ:=Za hq
    rw[hq] at hcall
    clear hq
    go_wp2_with (go_at_fn g;refine hcall.mono ?_;rintro e w' ⟨rfl,hb⟩)
    go_roundg (l0.length - (kk+1))
    case measure=>have:=HG.out;omega
    case rel=>
     refine⟨kk+1,⟨by omega⟩,⟨by omega⟩,by go_num,⟨HB.out.trans (hb.mono HB.out.size)⟩,⟨fun j y' hj hy=>?_⟩⟩
     by_cases e:j=kk
     ·subst e
      rw[HX.out] at hy
      cases hy
      exact HQ.out
     ·exact HN.out j y' (by omega) hy
  ·have hltz:¬(kk:Int)<(l0.length:Int):=by omega
   have:kk=l0.length:=by have:=HK.out;omega
   subst this
   go_wp2
   go_ret
   exact⟨by rw[Zbu p l0 HN.out];rfl,HB.out⟩
set_option maxHeartbeats 4000000 in
theorem Zez.any (p:S112→Bool) (g:Nat) (lb:Array Value) (eg:∀args w,(callFunc g args).run Try.prog w=.ok (.enter g args) w) (A0:Option Addr) (c0:Nat) (l0:List S112) (w:World) (hr0:Kd.C k112 w A0 l0.length l0)
  (hp:∀(W:World) (x:S112),x∈l0→Below w.heap.size w W→Calls Try.prog g (#[.agg #[.int .i64 x.f0,.int .i64 x.f1,.int .i64 x.f2.f0,.int .i64 x.f2.f1]] ++ lb) W fun e w'=>e=.returned (.bool (p x))∧Below W.heap.size W w') :
  Calls Try.prog 137 #[.slice A0 l0.length c0,.func (.func g) #[] lb] w fun e w'=>e=.returned (.bool (l0.any p))∧Below w.heap.size w w':=by
 have HI:=Za (Zey.any p g lb eg A0 c0 l0 w hr0 hp)
 clear hr0 hp
 have HE:=Za (ZcO p l0)
 go_enter Try.func137,Try.ntmps137
 go_wp2_with (go_at_call 166;refine HI.out.mono ?_;rintro e w' ⟨rfl,hb⟩)
 go_ret
 exact⟨by rw[← HE.out];rfl,hb⟩
end Go.Proofs.Ytodfnelilhjoeaa.Pr
namespace Go.Proofs.Ytodfnelilhjoeaa.Pr
open Go.RowKit Go.Proofs.YtodfnelilhjoeaaW.PrintWords Go.Proofs.YtodfnelilhjoeaaW.PrintLast Go.Proofs.YtodfnelilhjoeaaW.PrintMore
attribute [local go_sem] Zac Zaa Zam Zal Z5 Z4 Zab Z9
set_option linter.unusedVariables false
set_option linter.unusedSimpArgs false
def ZbH.f (a0_0:Int) (a0_1:Int):Option (Bool):=if a0_0≥(-1000000) then(if a0_0≤a0_1 then(if a0_1≤1000000 then(if a0_0=1000000 then(some false) else(some (a0_1 != (-1000000)))) else(some false)) else(some false)) else(some false)
set_option maxHeartbeats 8000000 in
set_option maxRecDepth 100000 in
theorem ZbH.calls (a0_0:Int) (a0_1:Int) (r:Bool) (w:World) (h:ZbH.f a0_0 a0_1=some r) :
  Calls Try.prog 139 #[.agg #[.int .i64 a0_0,.int .i64 a0_1]] w fun e w'=>e=.returned (.bool r)∧Below w.heap.size w w':=by
 have hu110:=Try.underlying110
 have HB:=Za (Below.refl w.heap.size w)
 have H:(if a0_0≥(-1000000) then(if a0_0≤a0_1 then(if a0_1≤1000000 then(if a0_0=1000000 then(some false) else(some (a0_1 != (-1000000)))) else(some false)) else(some false)) else(some false))=some r:=h
 clear h
 by_cases c2:a0_0≥(-1000000)
 ·rw[if_pos c2] at H
  have c2b0:decide ((-1000000)≤a0_0)=true:=Ze c2
  clear c2
  by_cases c3:a0_0≤a0_1
  ·rw[if_pos c3] at H
   have c3b0:decide (a0_0≤a0_1)=true:=Ze c3
   clear c3
   by_cases c4:a0_1≤1000000
   ·rw[if_pos c4] at H
    have c4b0:decide (a0_1≤1000000)=true:=Ze c4
    clear c4
    by_cases c5:a0_0=1000000
    ·rw[if_pos c5] at H
     have c5b0:(a0_0 == 1000000)=true:=beq_iff_eq.mpr c5
     have c5b1:(a0_0 != 1000000)=false:=bne_eq_false_iff_eq.mpr c5
     clear c5
     obtain rfl:=Zg H
     go_enter Try.func139,Try.ntmps139
     go_wp2_with (first|((with_reducible refine ZI (N:=1) rfl ?_);refine ZH ?hg (N:=1) ?hd (cs:=#[.int .i64 a0_0,.int .i64 a0_1]) (t:=110) ?hr ?_;(case hd=>rfl);(case hg=>rfl);(case hr=>first|(go_simp;done)|(go_simp;rfl));intro gb139001 hg w6 hbox hb;have BK139001:=Za (hbox);have GW139001:=Za ((by rw[hg];exact(Zx (by repeat(first|(with_reducible first|exact HB.out|apply Zn|apply Zm|apply Zt)|exact HB.out))):w.heap.size≤gb139001));have GE139001:=Za ((by rw[hg];exact(Zx (by repeat(first|(with_reducible first|exact HB.out|apply Zn|apply Zm|apply Zt)|exact HB.out))):w.heap.size≤gb139001));replace HB:=Za (Zw (by repeat(first|(with_reducible first|exact HB.out|apply Zn|apply Zm|apply Zt)|exact HB.out)) hb);clear hb hbox hg;have hcz7_0:w6.cell? ⟨gb139001,0,none⟩=some (.int .i64 a0_0):=(Zs BK139001.out 0).trans rfl;have hcz7_1:w6.cell? ⟨gb139001,1,none⟩=some (.int .i64 a0_1):=(Zs BK139001.out 1).trans rfl;have hfz7_0:=Zr BK139001.out 0;have hfz7_1:=Zr BK139001.out 1))
     go_ret
     exact⟨by first|rfl|(simp[ZB,ZA] <;> rfl)|(simp[*,ZB,ZA] <;> rfl),by repeat(first|(with_reducible first|exact HB.out|apply Zn|apply Zm|apply Zt|refine Zq ?_ GE139001.out)|exact HB.out)⟩
    ·rw[if_neg c5] at H
     have c5b0:(a0_0 == 1000000)=false:=beq_eq_false_iff_ne.mpr c5
     have c5b1:(a0_0 != 1000000)=true:=bne_iff_ne.mpr c5
     obtain rfl:=Zg H
     go_enter Try.func139,Try.ntmps139
     go_wp2_with (first|((with_reducible refine ZI (N:=1) rfl ?_);refine ZH ?hg (N:=1) ?hd (cs:=#[.int .i64 a0_0,.int .i64 a0_1]) (t:=110) ?hr ?_;(case hd=>rfl);(case hg=>rfl);(case hr=>first|(go_simp;done)|(go_simp;rfl));intro gb139001 hg w8 hbox hb;have BK139001:=Za (hbox);have GW139001:=Za ((by rw[hg];exact(Zx (by repeat(first|(with_reducible first|exact HB.out|apply Zn|apply Zm|apply Zt)|exact HB.out))):w.heap.size≤gb139001));have GE139001:=Za ((by rw[hg];exact(Zx (by repeat(first|(with_reducible first|exact HB.out|apply Zn|apply Zm|apply Zt)|exact HB.out))):w.heap.size≤gb139001));replace HB:=Za (Zw (by repeat(first|(with_reducible first|exact HB.out|apply Zn|apply Zm|apply Zt)|exact HB.out)) hb);clear hb hbox hg;have hcz9_0:w8.cell? ⟨gb139001,0,none⟩=some (.int .i64 a0_0):=(Zs BK139001.out 0).trans rfl;have hcz9_1:w8.cell? ⟨gb139001,1,none⟩=some (.int .i64 a0_1):=(Zs BK139001.out 1).trans rfl;have hfz9_0:=Zr BK139001.out 0;have hfz9_1:=Zr BK139001.out 1))
     go_ret
     exact⟨by first|rfl|(simp[ZB,ZA] <;> rfl)|(simp[*,ZB,ZA] <;> rfl),by repeat(first|(with_reducible first|exact HB.out|apply Zn|apply Zm|apply Zt|refine Zq ?_ GE139001.out)|exact HB.out)⟩
   ·rw[if_neg c4] at H
    have c4b0:decide (a0_1≤1000000)=false:=Zf c4
    clear c4
    obtain rfl:=Zg H
    go_enter Try.func139,Try.ntmps139
    go_wp2_with (first|((with_reducible refine ZI (N:=1) rfl ?_);refine ZH ?hg (N:=1) ?hd (cs:=#[.int .i64 a0_0,.int .i64 a0_1]) (t:=110) ?hr ?_;(case hd=>rfl);(case hg=>rfl);(case hr=>first|(go_simp;done)|(go_simp;rfl));intro gb139001 hg w10 hbox hb;have BK139001:=Za (hbox);have GW139001:=Za ((by rw[hg];exact(Zx (by repeat(first|(with_reducible first|exact HB.out|apply Zn|apply Zm|apply Zt)|exact HB.out))):w.heap.size≤gb139001));have GE139001:=Za ((by rw[hg];exact(Zx (by repeat(first|(with_reducible first|exact HB.out|apply Zn|apply Zm|apply Zt)|exact HB.out))):w.heap.size≤gb139001));replace HB:=Za (Zw (by repeat(first|(with_reducible first|exact HB.out|apply Zn|apply Zm|apply Zt)|exact HB.out)) hb);clear hb hbox hg;have hcz11_0:w10.cell? ⟨gb139001,0,none⟩=some (.int .i64 a0_0):=(Zs BK139001.out 0).trans rfl;have hcz11_1:w10.cell? ⟨gb139001,1,none⟩=some (.int .i64 a0_1):=(Zs BK139001.out 1).trans rfl;have hfz11_0:=Zr BK139001.out 0;have hfz11_1:=Zr BK139001.out 1))
    go_ret
    exact⟨by first|rfl|(simp[ZB,ZA] <;> rfl)|(simp[*,ZB,ZA] <;> rfl),by repeat(first|(with_reducible first|exact HB.out|apply Zn|apply Zm|apply Zt|refine Zq ?_ GE139001.out)|exact HB.out)⟩
  ·rw[if_neg c3] at H
   have c3b0:decide (a0_0≤a0_1)=false:=Zf c3
   clear c3
   obtain rfl:=Zg H
   go_enter Try.func139,Try.ntmps139
   go_wp2_with (first|((with_reducible refine ZI (N:=1) rfl ?_);refine ZH ?hg (N:=1) ?hd (cs:=#[.int .i64 a0_0,.int .i64 a0_1]) (t:=110) ?hr ?_;(case hd=>rfl);(case hg=>rfl);(case hr=>first|(go_simp;done)|(go_simp;rfl));intro gb139001 hg w12 hbox hb;have BK139001:=Za (hbox);have GW139001:=Za ((by rw[hg];exact(Zx (by repeat(first|(with_reducible first|exact HB.out|apply Zn|apply Zm|apply Zt)|exact HB.out))):w.heap.size≤gb139001));have GE139001:=Za ((by rw[hg];exact(Zx (by repeat(first|(with_reducible first|exact HB.out|apply Zn|apply Zm|apply Zt)|exact HB.out))):w.heap.size≤gb139001));replace HB:=Za (Zw (by repeat(first|(with_reducible first|exact HB.out|apply Zn|apply Zm|apply Zt)|exact HB.out)) hb);clear hb hbox hg;have hcz13_0:w12.cell? ⟨gb139001,0,none⟩=some (.int .i64 a0_0):=(Zs BK139001.out 0).trans rfl;have hcz13_1:w12.cell? ⟨gb139001,1,none⟩=some (.int .i64 a0_1):=(Zs BK139001.out 1).trans rfl;have hfz13_0:=Zr BK139001.out 0;have hfz13_1:=Zr BK139001.out 1))
   go_ret
   exact⟨by first|rfl|(simp[ZB,ZA] <;> rfl)|(simp[*,ZB,ZA] <;> rfl),by repeat(first|(with_reducible first|exact HB.out|apply Zn|apply Zm|apply Zt|refine Zq ?_ GE139001.out)|exact HB.out)⟩
 ·rw[if_neg c2] at H
  have c2b0:decide ((-1000000)≤a0_0)=false:=Zf c2
  clear c2
  obtain rfl:=Zg H
  go_enter Try.func139,Try.ntmps139
  go_wp2_with (first|((with_reducible refine ZI (N:=1) rfl ?_);refine ZH ?hg (N:=1) ?hd (cs:=#[.int .i64 a0_0,.int .i64 a0_1]) (t:=110) ?hr ?_;(case hd=>rfl);(case hg=>rfl);(case hr=>first|(go_simp;done)|(go_simp;rfl));intro gb139001 hg w14 hbox hb;have BK139001:=Za (hbox);have GW139001:=Za ((by rw[hg];exact(Zx (by repeat(first|(with_reducible first|exact HB.out|apply Zn|apply Zm|apply Zt)|exact HB.out))):w.heap.size≤gb139001));have GE139001:=Za ((by rw[hg];exact(Zx (by repeat(first|(with_reducible first|exact HB.out|apply Zn|apply Zm|apply Zt)|exact HB.out))):w.heap.size≤gb139001));replace HB:=Za (Zw (by repeat(first|(with_reducible first|exact HB.out|apply Zn|apply Zm|apply Zt)|exact HB.out)) hb);clear hb hbox hg;have hcz15_0:w14.cell? ⟨gb139001,0,none⟩=some (.int .i64 a0_0):=(Zs BK139001.out 0).trans rfl;have hcz15_1:w14.cell? ⟨gb139001,1,none⟩=some (.int .i64 a0_1):=(Zs BK139001.out 1).trans rfl;have hfz15_0:=Zr BK139001.out 0;have hfz15_1:=Zr BK139001.out 1))
  go_ret
  exact⟨by first|rfl|(simp[ZB,ZA] <;> rfl)|(simp[*,ZB,ZA] <;> rfl),by repeat(first|(with_reducible first|exact HB.out|apply Zn|apply Zm|apply Zt|refine Zq ?_ GE139001.out)|exact HB.out)⟩
end Go.Proofs.Ytodfnelilhjoeaa.Pr
namespace Go.Proofs.Ytodfnelilhjoeaa.Pr
open Go.RowKit Go.Proofs.YtodfnelilhjoeaaW.PrintWords Go.Proofs.YtodfnelilhjoeaaW.PrintLast Go.Proofs.YtodfnelilhjoeaaW.PrintMore
attribute [local go_sem] Zac Zaa Zam Zal Z5 Z4 Zab Z9
set_option linter.unusedVariables false
set_option linter.unusedSimpArgs false
open Go.Proofs.Ytodfnelilhjoeaa.Ni
def ivOkB (lo hi:Int):Bool:=decide (-1000000≤lo) && (decide (lo≤hi) && (decide (hi≤1000000) && (!(decide (lo=1000000)) && !(decide (hi=-1000000)))))
theorem ivOk_f (lo hi:Int):ZbH.f lo hi=some (ivOkB lo hi):=by
 unfold ZbH.f ivOkB
 by_cases h1:lo≥-1000000
 ·rw[if_pos h1,Ze (show(-1000000:Int)≤lo from h1),Bool.true_and]
  by_cases h2:lo≤hi
  ·rw[if_pos h2,Ze h2,Bool.true_and]
   by_cases h3:hi≤1000000
   ·rw[if_pos h3,Ze h3,Bool.true_and]
    by_cases h4:lo=1000000
    ·rw[if_pos h4,Ze h4];rfl
    ·rw[if_neg h4,Zf h4]
     congr 1
   ·rw[if_neg h3,Zf h3];rfl
  ·rw[if_neg h2,Zf h2];rfl
 ·rw[if_neg h1,Zf (show ¬(-1000000:Int)≤lo from h1)];rfl
def Zbp (n:Int) (x:S112):Bool:=inN n x.f0 && (inN n x.f1 && ivOkB x.f2.f0 x.f2.f1)
def Zbh (n:Int) (ls:List S112):Bool:=!(decide (n<1)) && (!(decide (8<n)) && (!(decide (40<ls.length)) && !(ls.any fun x=>!Zbp n x)))
def ZbE.f (a0_0:Int) (l0_1:List (S112)):Option Bool:=some (Zbh a0_0 l0_1)
set_option maxHeartbeats 4000000 in
theorem ZdU.clo (B:Nat) (n:Int) (W:World) (hB:W.cell? ⟨B,0,none⟩=some (.int .i64 n)) (x:S112) :
  Calls Try.prog 138 #[.agg #[.int .i64 x.f0,.int .i64 x.f1,.int .i64 x.f2.f0,.int .i64 x.f2.f1],.pointer (some ⟨B,0,none⟩)] W fun e w'=>e=.returned (.bool (!Zbp n x))∧Below W.heap.size W w':=by
 have hlt:B<W.heap.size:=Zc W _ hB
 have hu:=Try.underlying112
 have hu2:=Try.underlying110
 have hu3:=Try.underlying58
 obtain⟨f0,f1,⟨f2,f3⟩⟩:=x
 have HE:=Za (show Zbp n ⟨f0,f1,⟨f2,f3⟩⟩=(inN n f0 && (inN n f1 && ivOkB f2 f3)) from rfl)
 have HI:=Za fun (w:World)=>ZbH.calls f2 f3 _ w (ivOk_f f2 f3)
 cases b1:inN n f0 with
 | false=>
  have HF:=Za (show Zbp n ⟨f0,f1,⟨f2,f3⟩⟩=false by rw[HE.out,b1];rfl)
  clear HE
  go_enter Try.func138,Try.ntmps138
  go_wp2_with (go_at_call 90;refine(ZdI _ _ _).mono ?_;rintro e w' ⟨rfl,nd,rfl⟩)
  go_ret
  exact⟨by rw[HF.out];rfl,by repeat(first|exact Below.refl _ _|apply Zn|apply Zm|apply ZaF)⟩
 | true=>
 cases b2:inN n f1 with
 | false=>
  have HF:=Za (show Zbp n ⟨f0,f1,⟨f2,f3⟩⟩=false by rw[HE.out,b1,b2];rfl)
  clear HE
  go_enter Try.func138,Try.ntmps138
  go_wp2_with (go_at_call 90;refine(ZdI _ _ _).mono ?_;rintro e w' ⟨rfl,nd,rfl⟩)
  go_ret
  exact⟨by rw[HF.out];rfl,by repeat(first|exact Below.refl _ _|apply Zn|apply Zm|apply ZaF)⟩
 | true=>
 have HF:=Za (show Zbp n ⟨f0,f1,⟨f2,f3⟩⟩=ivOkB f2 f3 by rw[HE.out,b1,b2];rfl)
 clear HE
 go_enter Try.func138,Try.ntmps138
 go_wp2_with (first|(go_at_call 90;refine(ZdI _ _ _).mono ?_;rintro e w' ⟨rfl,nd,rfl⟩)|(go_at_call 139;refine(HI.out _).mono ?_;rintro e w' ⟨rfl,hb⟩))
 go_ret
 exact⟨by rw[HF.out];rfl,Zw (by repeat(first|exact Below.refl _ _|apply Zn|apply Zm|apply ZaF)) hb⟩
set_option maxHeartbeats 4000000 in
set_option maxRecDepth 100000 in
theorem ZbE.calls (a0_0:Int) (A0_1:Option Addr) (c0_1:Nat) (l0_1:List (S112)) (r:Bool) (w:World) (hr0_1:Kd.C k112 w A0_1 l0_1.length l0_1) (hc0_1:l0_1.length≤c0_1) (h:ZbE.f a0_0 l0_1=some r) :
  Calls Try.prog 94 #[.agg #[.int .i64 a0_0,.slice A0_1 l0_1.length c0_1]] w fun e w'=>e=.returned (.bool r)∧Below w.heap.size w w':=by
 obtain rfl:=Zg h
 have hL:l0_1.length≤9223372036854775807:=hr0_1.2.1
 have HC:=Za fun (W:World) (B:Nat) (hb:Below w.heap.size w W) (hcell:W.cell? ⟨B,0,none⟩=some (.int .i64 a0_0))=>Zez.any (fun x=>!Zbp a0_0 x) 138 #[.pointer (some ⟨B,0,none⟩)] (enters_of Try.func138 (by kernel_rfl) rfl) A0_1 c0_1 l0_1 W (Zb hr0_1 hb)
    (fun W' x _ hb'=>ZdU.clo B a0_0 W' (ZJ hb' hcell) x)
 have hu:=Try.underlying58
 have HB:=Za (Zn (Below.refl w.heap.size w) (.cells #[.int .i64 a0_0,.slice A0_1 l0_1.length c0_1] 58))
 clear hr0_1 h
 cases b1:decide (a0_0<1) with
 | true=>
  have HF:=Za (show Zbh a0_0 l0_1=false by unfold Zbh;rw[b1];rfl)
  go_enter Try.func94,Try.ntmps94
  go_wp2
  go_ret
  exact⟨by rw[HF.out];rfl,HB.out⟩
 | false=>
 cases b2:decide (8<a0_0) with
 | true=>
  have HF:=Za (show Zbh a0_0 l0_1=false by unfold Zbh;rw[b1,b2];rfl)
  go_enter Try.func94,Try.ntmps94
  go_wp2
  go_ret
  exact⟨by rw[HF.out];rfl,HB.out⟩
 | false=>
 by_cases q3:40<l0_1.length
 ·have b3:decide (40<l0_1.length)=true:=Ze q3
  have z3:(40:Int)<(l0_1.length:Int):=by omega
  have HF:=Za (show Zbh a0_0 l0_1=false by unfold Zbh;rw[b1,b2,b3];rfl)
  clear b3 q3
  go_enter Try.func94,Try.ntmps94
  go_wp2
  go_ret
  exact⟨by rw[HF.out];rfl,HB.out⟩
 ·have b3:decide (40<l0_1.length)=false:=Zf q3
  have z3:¬(40:Int)<(l0_1.length:Int):=by omega
  have HF:=Za (show Zbh a0_0 l0_1=!(l0_1.any fun x=>!Zbp a0_0 x) by unfold Zbh;rw[b1,b2,b3];rfl)
  clear b3 q3
  generalize l0_1.any (fun x=>!Zbp a0_0 x)=q at HC HF
  go_enter Try.func94,Try.ntmps94
  go_wp2_with fail
  refine(HC.out _ _ HB.out (by go_simp)).mono ?_
  rintro e w' ⟨rfl,hb⟩
  go_wp2
  go_ret
  exact⟨by rw[HF.out];rfl,HB.out.trans (hb.mono HB.out.size)⟩
end Go.Proofs.Ytodfnelilhjoeaa.Pr
