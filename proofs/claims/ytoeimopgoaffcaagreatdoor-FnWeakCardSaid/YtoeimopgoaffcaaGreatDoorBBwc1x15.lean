/- By a program of this session. -/
import Derived.Test.YtoeimopgoaffcaaGreatDoorBBwc1x14
namespace Go.Proofs.YtoeimopgoaffcaaGreatDoor.Pr
open RowKit YtoeimopgoaffcaaGreatDoorW.PrintWords YtoeimopgoaffcaaGreatDoorW.PrintLast YtoeimopgoaffcaaGreatDoorW.PrintMore
attribute [local go_sem] Zak Zai Zax Zaw Zac Zab Zaj Zah
set_option linter.unusedVariables false
set_option linter.unusedSimpArgs false
open Ni
def Zc0 (n x:Int):Bool:=decide (0≤x) && decide (x<n)
def Zdt (x:Int):Bool:=decide (-20≤x) && decide (x≤20)
theorem Zbt (n x:Int) (w:World):Calls Tryz.prog 84 #[.int .i64 n,.int .i64 x] w fun e w'=>e=.returned (.bool (Zc0 n x))∧∃m,w'=w.drewN m:=
 (Zcv.calls n x _ w (by
  unfold Zcv.f Zc0
  by_cases h:x≥0
  ·rw[if_pos h,Ze (show(0:Int)≤x from h),Bool.true_and]
  ·rw[if_neg h,Zf (show ¬(0:Int)≤x from h),Bool.false_and])).mono fun e w' ⟨he,hd⟩=>⟨he,hd.out⟩
theorem Zbs (x:Int) (w:World):Calls Tryz.prog 147 #[.int .i64 x] w fun e w'=>e=.returned (.bool (Zdt x))∧∃m,w'=w.drewN m:=
 (Zdw.calls x _ w (by
  unfold Zdw.f Zdt
  by_cases h:x≥-20
  ·rw[if_pos h,Ze (show(-20:Int)≤x from h),Bool.true_and]
  ·rw[if_neg h,Zf (show ¬(-20:Int)≤x from h),Bool.false_and])).mono fun e w' ⟨he,hd⟩=>⟨he,hd.out⟩
theorem Zen {A0:Option Addr} {c0:Nat} {l0:List Int} {A1:Option Addr} {c1:Nat} {l1:List Int} (w:World) (hr0:Kd.C (Kd.int .i64) w A0 l0.length l0) (hc0:l0.length≤c0) (hr1:Kd.C (Kd.int .i64) w A1 l1.length l1) (hc1:l1.length≤c1) :
  Calls Tryz.prog 146 #[.slice A0 l0.length c0,.slice A1 l1.length c1] w fun e w'=>e=.returned (.bool (decide (l0=l1)))∧∃n,w'=w.drewN n:=
 (Zag.calls (2 ^ 64) A0 c0 l0 A1 c1 l1 _ w hr0 hc0 hr1 hc1 (sEqual_f l0 l1 hr0.2.1 _ (Nat.le_refl _))).mono fun e w' ⟨he,hd⟩=>⟨he,hd.out⟩
theorem quietY {P:Program} {f:FuncId} {args:Array Value} {W:World} {a x:Nat} {v:Value} (h:Calls P f args (W.drewN (a+x)) fun e w'=>e=.returned v∧∃m,w'=(W.drewN (a+x)).drewN m):Calls P f args (W.drewN (a+x)) fun e w''=>e=.returned v∧∃n,w''=W.drewN (a+n):=
 h.mono fun e w'' ⟨he,m,hm⟩=>⟨he,x+m,by rw[hm,World.drewN_drewN,Nat.add_assoc]⟩
def ZbU (tf tt tl th:Int) (tb:Bool) (ns:List S39) (ts:List S82) (i:Nat):Bool:=
 (Zc0 ns.length tf && Zc0 ns.length tt && !(tf == tt) && Zdt tl && Zdt th && !(decide (th<tl))) &&
 (!tb || (!(decide (tl<1)) && !(tt == 0) && !((ZJ ns tt).f2 != 0) && decide ((ZJ ns tt).f1=(ZJ ns tf).f1) && !((ts.take i).any fun u=>u.f4 && decide (u.f1=tt))))
def Zdc (ns:List S39) (ts:List S82) (i:Nat):Bool:=ZbU (ZE ts i).f0 (ZE ts i).f1 (ZE ts i).f2 (ZE ts i).f3 (ZE ts i).f4 ns ts i
def ZbI (ns:List S39) (ts:List S82) (i:Nat):Nat→Bool
 | 0=>true
 | d+1=>Zdc ns ts i && ZbI ns ts (i+1) d
def ZaR (ns:List S39) (ts:List S82):Bool:=ZbI ns ts 0 ts.length && decide (ts.length≤14)
theorem Zey {ns:List S39} {ts:List S82} {i:Nat} (h:i<ts.length):ZbI ns ts i (ts.length - i)=(Zdc ns ts i && ZbI ns ts (i+1) (ts.length - (i+1))):=by
 rw[show ts.length - i=(ts.length - (i+1))+1 by omega];rfl
theorem Zf3.clo (B:Nat) (p:Int) (W:World) (hB:W.cell? ⟨B,1,none⟩=some (.int .i64 p)) (x:S82) :
  Calls Tryz.prog 149 #[.agg #[.int .i64 x.f0,.int .i64 x.f1,.int .i64 x.f2,.int .i64 x.f3,.bool x.f4],.pointer (some ⟨B,0,none⟩)] W fun e w'=>e=.returned (.bool (x.f4 && decide (x.f1=p)))∧Below W.heap.size W w':=by
 have hlt:B<W.heap.size:=Zc W _ hB
 have HE:=Za (show(x.f1 == p)=decide (x.f1=p) by rw[Bool.eq_iff_iff];simp)
 have hu2:=Tryz.underlying82
 obtain⟨f0,f1,f2,f3,f4⟩:=x
 cases f4 with
 | false=>
  go_enter Tryz.func149,Tryz.ntmps149
  go_wp2
  go_ret
  exact⟨rfl,(Below.refl _ _).alloc (Nat.le_refl _) _⟩
 | true=>
  go_enter Tryz.func149,Tryz.ntmps149
  go_wp2
  go_ret
  exact⟨by rw[← HE.out];rfl,(Below.refl _ _).alloc (Nat.le_refl _) _⟩
def ZdV.f (l0_0:List (S39)) (l0_1:List (S82)) (a0_2:Int):Option Bool:=some (ZaR l0_0 l0_1)
set_option maxHeartbeats 8000000 in
set_option maxRecDepth 100000 in
theorem ZdV.calls (A0_0:Option Addr) (c0_0:Nat) (l0_0:List (S39)) (A0_1:Option Addr) (c0_1:Nat) (l0_1:List (S82)) (a0_2:Int) (r:Bool) (w:World) (hr0_0:Kd.C k39 w A0_0 l0_0.length l0_0) (hc0_0:l0_0.length≤c0_0) (hr0_1:Kd.C k82 w A0_1 l0_1.length l0_1) (hc0_1:l0_1.length≤c0_1) (h:ZdV.f l0_0 l0_1 a0_2=some r) :
  Calls Tryz.prog 78 #[.agg #[.slice A0_0 l0_0.length c0_0,.slice A0_1 l0_1.length c0_1,.int .i64 a0_2]] w fun e w'=>e=.returned (.bool r)∧Below w.heap.size w w':=by
 obtain rfl:=Zg h
 have hL:l0_0.length≤9223372036854775807:=hr0_0.2.1
 have hL1:l0_1.length≤9223372036854775807:=hr0_1.2.1
 have HRn:=Za hr0_0;have HRt:=Za hr0_1;have HCn:=Za hc0_0;have HCt:=Za hc0_1;clear hr0_0 hr0_1 hc0_0 hc0_1 h
 have hu:=Tryz.underlying25
 have hu2:=Tryz.underlying82
 have HB0:=Za (Zo (Below.refl w.heap.size w) (.cells #[.slice A0_0 l0_0.length c0_0,.slice A0_1 l0_1.length c0_1,.int .i64 a0_2] 25))
 go_enter Tryz.func78,Tryz.ntmps78
 go_wp2
 go_loopg [8] l0_1.length (fun gg s8 wr=>∃kk:Nat,Aside0 (kk≤l0_1.length)∧Aside0 (l0_1.length - kk≤gg)∧s8=.int .i64 kk∧Aside0 (Below w.heap.size w wr)∧Aside0 (w.heap.size<wr.heap.size)∧Aside0 (wr.cell? ⟨w.heap.size,0,none⟩=some (.slice A0_0 l0_0.length c0_0)∧wr.cell? ⟨w.heap.size,1,none⟩=some (.slice A0_1 l0_1.length c0_1)∧wr.cell? ⟨w.heap.size,2,none⟩=some (.int .i64 a0_2))∧Aside0 (ZbI l0_0 l0_1 0 l0_1.length=ZbI l0_0 l0_1 kk (l0_1.length - kk)))
 case atStart=>exact⟨0,⟨Nat.zero_le _⟩,⟨by omega⟩,rfl,HB0,⟨by simp⟩,⟨by go_simp,by go_simp,by go_simp⟩,⟨rfl⟩⟩
 case round=>
  obtain⟨kk,HK,HG,rfl,HBr,HS,HX,HN⟩:=hrel
  have hsz:=HS.out
  obtain⟨hb0,hb1,hb2_⟩:=HX.out
  clear HX
  by_cases hlt:kk<l0_1.length
  ·have hltz:(kk:Int)<(l0_1.length:Int):=by omega
   have hkc:kk≤c0_1:=by have:=HCt.out;omega
   obtain⟨ad,e1,hx0,hx1,hx2,hx3,hx4⟩:=ZbG HRt.out (kk:Int) (by omega) hltz
   cases e1
   have HF0:=Za (show Zdc l0_0 l0_1 kk=ZbU (ZE l0_1 kk).f0 (ZE l0_1 kk).f1 (ZE l0_1 kk).f2 (ZE l0_1 kk).f3 (ZE l0_1 kk).f4 l0_0 l0_1 kk from rfl)
   rw[Int.toNat_natCast] at hx0 hx1 hx2 hx3 hx4
   revert hx0 hx1 hx2 hx3 hx4 HF0
   generalize (ZE l0_1 kk).f0=tf
   generalize (ZE l0_1 kk).f1=tt
   generalize (ZE l0_1 kk).f2=tl
   generalize (ZE l0_1 kk).f3=th
   generalize (ZE l0_1 kk).f4=tb
   intro hx0 hx1 hx2 hx3 hx4 HF0
   replace hx0:=Zx HBr.out hx0
   replace hx1:=Zx HBr.out hx1
   replace hx2:=Zx HBr.out hx2
   replace hx3:=Zx HBr.out hx3
   replace hx4:=Zx HBr.out hx4
   have hlta:=Zc wr _ hx0
   have bad:ZbU tf tt tl th tb l0_0 l0_1 kk=false→Aside0 (ZaR l0_0 l0_1=false):=fun hh=>⟨by
    unfold ZaR
    rw[HN.out,Zey hlt,HF0.out,hh];rfl⟩
   have good:ZbU tf tt tl th tb l0_0 l0_1 kk=true→Aside0 (ZbI l0_0 l0_1 0 l0_1.length=ZbI l0_0 l0_1 (kk+1) (l0_1.length - (kk+1))):=fun hh=>⟨by
    rw[HN.out,Zey hlt,HF0.out,hh,Bool.true_and]⟩
   clear HF0 HN HS
   cases b1:Zc0 l0_0.length tf with
   | false=>
    have HF:=bad (by simp[ZbU,b1])
    clear bad good
    go_wp2_with (first|(go_at_call 84;refine(Zbt _ _ _).mono ?_;rintro e w' ⟨rfl,nd,rfl⟩)|(go_at_call 147;refine(Zbs _ _).mono ?_;rintro e w' ⟨rfl,nd,rfl⟩))
    go_ret
    exact⟨by rw[HF.out];rfl,by repeat(first|(with_reducible first|exact Below.refl _ _|exact HBr.out|apply Zo|apply Zn|apply Zp)|exact HBr.out)⟩
   | true=>
   cases b2:Zc0 l0_0.length tt with
   | false=>
    have HF:=bad (by simp[ZbU,b2])
    clear bad good
    go_wp2_with (first|(go_at_call 84;refine(Zbt _ _ _).mono ?_;rintro e w' ⟨rfl,nd,rfl⟩)|(go_at_call 147;refine(Zbs _ _).mono ?_;rintro e w' ⟨rfl,nd,rfl⟩))
    go_ret
    exact⟨by rw[HF.out];rfl,by repeat(first|(with_reducible first|exact Below.refl _ _|exact HBr.out|apply Zo|apply Zn|apply Zp)|exact HBr.out)⟩
   | true=>
   cases b3:(tf == tt) with
   | true=>
    have HF:=bad (by simp[ZbU,b3])
    clear bad good
    go_wp2_with (first|(go_at_call 84;refine(Zbt _ _ _).mono ?_;rintro e w' ⟨rfl,nd,rfl⟩)|(go_at_call 147;refine(Zbs _ _).mono ?_;rintro e w' ⟨rfl,nd,rfl⟩))
    go_ret
    exact⟨by rw[HF.out];rfl,by repeat(first|(with_reducible first|exact Below.refl _ _|exact HBr.out|apply Zo|apply Zn|apply Zp)|exact HBr.out)⟩
   | false=>
   cases b4:Zdt tl with
   | false=>
    have HF:=bad (by simp[ZbU,b4])
    clear bad good
    go_wp2_with (first|(go_at_call 84;refine(Zbt _ _ _).mono ?_;rintro e w' ⟨rfl,nd,rfl⟩)|(go_at_call 147;refine(Zbs _ _).mono ?_;rintro e w' ⟨rfl,nd,rfl⟩))
    go_ret
    exact⟨by rw[HF.out];rfl,by repeat(first|(with_reducible first|exact Below.refl _ _|exact HBr.out|apply Zo|apply Zn|apply Zp)|exact HBr.out)⟩
   | true=>
   cases b5:Zdt th with
   | false=>
    have HF:=bad (by simp[ZbU,b5])
    clear bad good
    go_wp2_with (first|(go_at_call 84;refine(Zbt _ _ _).mono ?_;rintro e w' ⟨rfl,nd,rfl⟩)|(go_at_call 147;refine(Zbs _ _).mono ?_;rintro e w' ⟨rfl,nd,rfl⟩))
    go_ret
    exact⟨by rw[HF.out];rfl,by repeat(first|(with_reducible first|exact Below.refl _ _|exact HBr.out|apply Zo|apply Zn|apply Zp)|exact HBr.out)⟩
   | true=>
   cases b6:decide (th<tl) with
   | true=>
    have HF:=bad (by simp[ZbU,b6])
    clear bad good
    go_wp2_with (first|(go_at_call 84;refine(Zbt _ _ _).mono ?_;rintro e w' ⟨rfl,nd,rfl⟩)|(go_at_call 147;refine(Zbs _ _).mono ?_;rintro e w' ⟨rfl,nd,rfl⟩))
    go_ret
    exact⟨by rw[HF.out];rfl,by repeat(first|(with_reducible first|exact Below.refl _ _|exact HBr.out|apply Zo|apply Zn|apply Zp)|exact HBr.out)⟩
   | false=>
   cases tb with
   | false=>
    have HF:=good (by simp[ZbU,b1,b2,b3,b4,b5,b6])
    clear bad good
    go_wp2_with (first|(go_at_call 84;refine(Zbt _ _ _).mono ?_;rintro e w' ⟨rfl,nd,rfl⟩)|(go_at_call 147;refine(Zbs _ _).mono ?_;rintro e w' ⟨rfl,nd,rfl⟩))
    go_roundg (l0_1.length - (kk+1))
    case measure=>have:=HG.out;omega
    case rel=>exact⟨kk+1,⟨by omega⟩,⟨by omega⟩,by go_num,⟨by repeat(first|(with_reducible first|exact Below.refl _ _|exact HBr.out|apply Zo|apply Zn|apply Zp)|exact HBr.out)⟩,⟨by simp;omega⟩,⟨by go_simp,by go_simp,by go_simp⟩,HF⟩
   | true=>
   cases b7:decide (tl<1) with
   | true=>
    have HF:=bad (by simp[ZbU,b7])
    clear bad good
    go_wp2_with (first|(go_at_call 84;refine(Zbt _ _ _).mono ?_;rintro e w' ⟨rfl,nd,rfl⟩)|(go_at_call 147;refine(Zbs _ _).mono ?_;rintro e w' ⟨rfl,nd,rfl⟩))
    go_quiet (fail)
    go_wp2
    go_ret
    exact⟨by rw[HF.out];rfl,by repeat(first|(with_reducible first|exact Below.refl _ _|exact HBr.out|apply Zo|apply Zn|apply Zp)|exact HBr.out)⟩
   | false=>
   cases b8:(tt == 0) with
   | true=>
    have HF:=bad (by simp[ZbU,b8])
    clear bad good
    go_wp2_with (first|(go_at_call 84;refine(Zbt _ _ _).mono ?_;rintro e w' ⟨rfl,nd,rfl⟩)|(go_at_call 147;refine(Zbs _ _).mono ?_;rintro e w' ⟨rfl,nd,rfl⟩))
    go_quiet (fail)
    go_wp2
    go_ret
    exact⟨by rw[HF.out];rfl,by repeat(first|(with_reducible first|exact Below.refl _ _|exact HBr.out|apply Zo|apply Zn|apply Zp)|exact HBr.out)⟩
   | false=>
   have ht:=b2
   have hf:=b1
   simp only[Zc0,Bool.and_eq_true,decide_eq_true_eq] at ht hf
   have pt0:=eq_true ht.1
   have pt1:(tt<(l0_0.length:Int))=True:=eq_true (by omega)
   have pf0:=eq_true hf.1
   have pf1:(tf<(l0_0.length:Int))=True:=eq_true (by omega)
   obtain⟨ad2,At,ct,e2,hn0,hn1,hn2,ln,gn⟩:=ZaX HRn.out tt (of_eq_true pt0) (of_eq_true pt1)
   cases e2
   obtain⟨ad3,Af,cf,e3,hm0,hm1,hm2,lm,gm⟩:=ZaX HRn.out tf (of_eq_true pf0) (of_eq_true pf1)
   cases e3
   replace hn1:=Zx HBr.out hn1
   replace hn2:=Zx HBr.out hn2
   replace hm1:=Zx HBr.out hm1
   have hlt2:=Zc wr _ hn1
   have hlt3:=Zc wr _ hm1
   have LN:=Za ln
   have GN:=Za (Zb gn HBr.out)
   have LM:=Za lm
   have GM:=Za (Zb gm HBr.out)
   have GW:=Za fun (n:Nat) (A:Option Addr) (l:List Int) (hh:Kd.C (Kd.int .i64) wr A l.length l)=>(Zb hh (Zn (Zo (Below.refl wr.heap.size wr) (.cells #[.int .i64 tf,.int .i64 tt,.int .i64 tl,.int .i64 th,.bool true] 82)) n))
   clear ht hf ln gn lm gm hn0 hm0 hm2
   cases b9:((ZJ l0_0 tt).f2 != 0) with
   | true=>
    have HF:=bad (by simp[ZbU,b9])
    clear bad good
    go_wp2_with (first|(go_at_call 84;refine(Zbt _ _ _).mono ?_;rintro e w' ⟨rfl,nd,rfl⟩)|(go_at_call 147;refine(Zbs _ _).mono ?_;rintro e w' ⟨rfl,nd,rfl⟩))
    go_quiet (fail)
    go_wp2
    go_ret
    exact⟨by rw[HF.out];rfl,by repeat(first|(with_reducible first|exact Below.refl _ _|exact HBr.out|apply Zo|apply Zn|apply Zp)|exact HBr.out)⟩
   | false=>
   cases b10:decide ((ZJ l0_0 tt).f1=(ZJ l0_0 tf).f1) with
   | false=>
    have HF:=bad (by simp only[ZbU,b10,Bool.and_false,Bool.false_and,Bool.not_true,Bool.or_self])
    clear bad good
    go_wp2_with (first|(go_at_call 84;refine(Zbt _ _ _).mono ?_;rintro e w' ⟨rfl,nd,rfl⟩)|(go_at_call 147;refine(Zbs _ _).mono ?_;rintro e w' ⟨rfl,nd,rfl⟩))
    go_quiet ((go_at_call 146;exact quietY (Zen _ (GW.out _ _ _ GN.out) LN.out (GW.out _ _ _ GM.out) LM.out)))
    go_wp2
    go_ret
    exact⟨by rw[HF.out];rfl,by repeat(first|(with_reducible first|exact Below.refl _ _|exact HBr.out|apply Zo|apply Zn|apply Zp)|exact HBr.out)⟩
   | true=>
   have HC:=Za fun (W:World) (hb:Below wr.heap.size wr W) (hcell:W.cell? ⟨wr.heap.size,1,none⟩=some (.int .i64 tt))=>impl_Tie_148.any (fun u=>u.f4 && decide (u.f1=tt)) 149 #[.pointer (some ⟨wr.heap.size,0,none⟩)] (enters_of Tryz.func149 (by kernel_rfl) rfl) (some ad) c0_1 (l0_1.take kk) W (Kd.C_take (Zb HRt.out (HBr.out.trans (hb.mono HBr.out.size))) (by omega))
    (fun W' x _ hb'=>Zf3.clo wr.heap.size tt W' ((hb'.cell (Zc W _ hcell)).trans hcell) x)
   rw[show(l0_1.take kk).length=kk by rw[Zj];omega] at HC
   have B1:=Za fun n=>(Zn (Zo (Below.refl wr.heap.size wr) (.cells #[.int .i64 tf,.int .i64 tt,.int .i64 tl,.int .i64 th,.bool true] 82)) n)
   cases b11:(l0_1.take kk).any (fun u=>u.f4 && decide (u.f1=tt)) with
   | true=>
    rw[b11] at HC
    have HF:=bad (by simp only[ZbU,b11,Bool.and_false,Bool.false_and,Bool.not_true,Bool.or_self])
    clear bad good b11
    go_wp2_with (first|(go_at_call 84;refine(Zbt _ _ _).mono ?_;rintro e w' ⟨rfl,nd,rfl⟩)|(go_at_call 147;refine(Zbs _ _).mono ?_;rintro e w' ⟨rfl,nd,rfl⟩))
    go_quiet ((go_at_call 146;exact quietY (Zen _ (GW.out _ _ _ GN.out) LN.out (GW.out _ _ _ GM.out) LM.out)))
    go_wp2_with fail
    refine(HC.out _ (B1.out _) (by go_simp)).mono ?_
    rintro e w2 ⟨rfl,hb2⟩
    go_wp2
    go_ret
    exact⟨by rw[HF.out];rfl,HBr.out.trans (((B1.out _).trans (hb2.mono (B1.out _).size)).mono HBr.out.size)⟩
   | false=>
    rw[b11] at HC
    have HF:=good (by simp only[ZbU,b1,b2,b3,b4,b5,b6,b7,b8,b9,b10,b11,Bool.not_false,Bool.not_true,Bool.and_true,Bool.true_and,Bool.false_or])
    clear bad good b11
    go_wp2_with (first|(go_at_call 84;refine(Zbt _ _ _).mono ?_;rintro e w' ⟨rfl,nd,rfl⟩)|(go_at_call 147;refine(Zbs _ _).mono ?_;rintro e w' ⟨rfl,nd,rfl⟩))
    go_quiet ((go_at_call 146;exact quietY (Zen _ (GW.out _ _ _ GN.out) LN.out (GW.out _ _ _ GM.out) LM.out)))
    go_wp2_with fail
    refine(HC.out _ (B1.out _) (by go_simp)).mono ?_
    rintro e w2 ⟨rfl,hb2⟩
    have hb3:=(B1.out _).trans (hb2.mono (B1.out _).size)
    go_wp2
    go_roundg (l0_1.length - (kk+1))
    case measure=>have:=HG.out;omega
    case rel=>exact⟨kk+1,⟨by omega⟩,⟨by omega⟩,by go_num,⟨HBr.out.trans (hb3.mono HBr.out.size)⟩,⟨by have:=hb3.size;omega⟩,⟨Zx hb3 hb0,Zx hb3 hb1,Zx hb3 hb2_⟩,HF⟩
  ·have hltz:¬(kk:Int)<(l0_1.length:Int):=by omega
   have:kk=l0_1.length:=by have:=HK.out;omega
   subst this
   have HF:=Za (show ZaR l0_0 l0_1=decide ((l0_1.length:Int)≤14) by
    unfold ZaR
    rw[HN.out,Nat.sub_self]
    show(true && _)=_
    rw[Bool.true_and,Bool.eq_iff_iff,decide_eq_true_eq,decide_eq_true_eq];omega)
   go_wp2
   go_ret
   exact⟨by rw[HF.out];rfl,by repeat(first|(with_reducible first|exact Below.refl _ _|exact HBr.out|apply Zo|apply Zn|apply Zp)|exact HBr.out)⟩
end Go.Proofs.YtoeimopgoaffcaaGreatDoor.Pr
