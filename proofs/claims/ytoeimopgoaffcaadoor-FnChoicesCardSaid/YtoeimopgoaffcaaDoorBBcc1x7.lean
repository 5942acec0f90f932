/- By a program of this session. -/
import Derived.Test.YtoeimopgoaffcaaDoorBBcc1x6
namespace Go.Proofs.YtoeimopgoaffcaaDoor.Pr
open RowKit YtoeimopgoaffcaaDoorW.PrintWords YtoeimopgoaffcaaDoorW.PrintLast YtoeimopgoaffcaaDoorW.PrintMore
attribute [local go_sem] Zat Zar ZaG ZaF Zal Zak Zas Zaq
set_option linter.unusedVariables false
set_option linter.unusedSimpArgs false
open Ni
def Zbb (n x:Int):Bool:=decide (0≤x) && decide (x<n)
def Zcs (x:Int):Bool:=decide (-20≤x) && decide (x≤20)
theorem ZaV (n x:Int) (w:World):Calls Tryd.prog 55 #[.int .i64 n,.int .i64 x] w fun e w'=>e=.returned (.bool (Zbb n x))∧∃m,w'=w.drewN m:=
 (ZaE.calls n x _ w (by
  unfold ZaE.f Zbb
  by_cases h:x≥0
  ·rw[if_pos h,Ze (show(0:Int)≤x from h),Bool.true_and]
  ·rw[if_neg h,Zf (show ¬(0:Int)≤x from h),Bool.false_and])).mono fun e w' ⟨he,hd⟩=>⟨he,hd.out⟩
theorem ZaU (x:Int) (w:World):Calls Tryd.prog 108 #[.int .i64 x] w fun e w'=>e=.returned (.bool (Zcs x))∧∃m,w'=w.drewN m:=
 (Zcu.calls x _ w (by
  unfold Zcu.f Zcs
  by_cases h:x≥-20
  ·rw[if_pos h,Ze (show(-20:Int)≤x from h),Bool.true_and]
  ·rw[if_neg h,Zf (show ¬(-20:Int)≤x from h),Bool.false_and])).mono fun e w' ⟨he,hd⟩=>⟨he,hd.out⟩
theorem Zdc {A0:Option Addr} {c0:Nat} {l0:List Int} {A1:Option Addr} {c1:Nat} {l1:List Int} (w:World) (hr0:Kd.C (Kd.int .i64) w A0 l0.length l0) (hc0:l0.length≤c0) (hr1:Kd.C (Kd.int .i64) w A1 l1.length l1) (hc1:l1.length≤c1) :
  Calls Tryd.prog 109 #[.slice A0 l0.length c0,.slice A1 l1.length c1] w fun e w'=>e=.returned (.bool (decide (l0=l1)))∧∃n,w'=w.drewN n:=
 (Z3.calls (2 ^ 64) A0 c0 l0 A1 c1 l1 _ w hr0 hc0 hr1 hc1 (sEqual_f l0 l1 hr0.2.1 _ (Nat.le_refl _))).mono fun e w' ⟨he,hd⟩=>⟨he,hd.out⟩
theorem quietY {P:Program} {f:FuncId} {args:Array Value} {W:World} {a x:Nat} {v:Value} (h:Calls P f args (W.drewN (a+x)) fun e w'=>e=.returned v∧∃m,w'=(W.drewN (a+x)).drewN m):Calls P f args (W.drewN (a+x)) fun e w''=>e=.returned v∧∃n,w''=W.drewN (a+n):=
 h.mono fun e w'' ⟨he,m,hm⟩=>⟨he,x+m,by rw[hm,World.drewN_drewN,Nat.add_assoc]⟩
def Zbk (tf tt tl th:Int) (tb:Bool) (ns:List S54) (ts:List S81) (i:Nat):Bool:=
 (Zbb ns.length tf && Zbb ns.length tt && !(tf == tt) && Zcs tl && Zcs th && !(decide (th<tl))) &&
 (!tb || (!(decide (tl<1)) && !(tt == 0) && !((Zy ns tt).f2 != 0) && decide ((Zy ns tt).f1=(Zy ns tf).f1) && !((ts.take i).any fun u=>u.f4 && decide (u.f1=tt))))
def Zca (ns:List S54) (ts:List S81) (i:Nat):Bool:=Zbk (Zz ts i).f0 (Zz ts i).f1 (Zz ts i).f2 (Zz ts i).f3 (Zz ts i).f4 ns ts i
def Za8 (ns:List S54) (ts:List S81) (i:Nat):Nat→Bool
 | 0=>true
 | d+1=>Zca ns ts i && Za8 ns ts (i+1) d
def Zan (ns:List S54) (ts:List S81):Bool:=Za8 ns ts 0 ts.length && decide (ts.length≤14)
theorem Zdm {ns:List S54} {ts:List S81} {i:Nat} (h:i<ts.length):Za8 ns ts i (ts.length - i)=(Zca ns ts i && Za8 ns ts (i+1) (ts.length - (i+1))):=by
 rw[show ts.length - i=(ts.length - (i+1))+1 by omega];rfl
theorem ZeQ.clo (B:Nat) (p:Int) (W:World) (hB:W.cell? ⟨B,1,none⟩=some (.int .i64 p)) (x:S81) :
  Calls Tryd.prog 111 #[.agg #[.int .i64 x.f0,.int .i64 x.f1,.int .i64 x.f2,.int .i64 x.f3,.bool x.f4],.pointer (some ⟨B,0,none⟩)] W fun e w'=>e=.returned (.bool (x.f4 && decide (x.f1=p)))∧Below W.heap.size W w':=by
 have hlt:B<W.heap.size:=Zc W _ hB
 have HE:=Za (show(x.f1 == p)=decide (x.f1=p) by rw[Bool.eq_iff_iff];simp)
 have hu2:=Tryd.underlying81
 obtain⟨f0,f1,f2,f3,f4⟩:=x
 cases f4 with
 | false=>
  go_enter Tryd.func111,Tryd.ntmps111
  go_wp2
  go_ret
  exact⟨rfl,(Below.refl _ _).alloc (Nat.le_refl _) _⟩
 | true=>
  go_enter Tryd.func111,Tryd.ntmps111
  go_wp2
  go_ret
  exact⟨by rw[← HE.out];rfl,(Below.refl _ _).alloc (Nat.le_refl _) _⟩
def ZcU.f (l0_0:List (S54)) (l0_1:List (S81)) (a0_2:Int):Option Bool:=some (Zan l0_0 l0_1)
set_option maxHeartbeats 8000000 in
set_option maxRecDepth 100000 in
theorem ZcU.calls (A0_0:Option Addr) (c0_0:Nat) (l0_0:List (S54)) (A0_1:Option Addr) (c0_1:Nat) (l0_1:List (S81)) (a0_2:Int) (r:Bool) (w:World) (hr0_0:Kd.C k54 w A0_0 l0_0.length l0_0) (hc0_0:l0_0.length≤c0_0) (hr0_1:Kd.C k81 w A0_1 l0_1.length l0_1) (hc0_1:l0_1.length≤c0_1) (h:ZcU.f l0_0 l0_1 a0_2=some r) :
  Calls Tryd.prog 74 #[.agg #[.slice A0_0 l0_0.length c0_0,.slice A0_1 l0_1.length c0_1,.int .i64 a0_2]] w fun e w'=>e=.returned (.bool r)∧Below w.heap.size w w':=by
 obtain rfl:=Zg h
 have hL:l0_0.length≤9223372036854775807:=hr0_0.2.1
 have hL1:l0_1.length≤9223372036854775807:=hr0_1.2.1
 have HRn:=Za hr0_0;have HRt:=Za hr0_1;have HCn:=Za hc0_0;have HCt:=Za hc0_1;clear hr0_0 hr0_1 hc0_0 hc0_1 h
 have hu:=Tryd.underlying39
 have hu2:=Tryd.underlying81
 have HB0:=Za (Zn (Below.refl w.heap.size w) (.cells #[.slice A0_0 l0_0.length c0_0,.slice A0_1 l0_1.length c0_1,.int .i64 a0_2] 39))
 go_enter Tryd.func74,Tryd.ntmps74
 go_wp2
 go_loopg [8] l0_1.length (fun gg s8 wr=>∃kk:Nat,Aside0 (kk≤l0_1.length)∧Aside0 (l0_1.length - kk≤gg)∧s8=.int .i64 kk∧Aside0 (Below w.heap.size w wr)∧Aside0 (w.heap.size<wr.heap.size)∧Aside0 (wr.cell? ⟨w.heap.size,0,none⟩=some (.slice A0_0 l0_0.length c0_0)∧wr.cell? ⟨w.heap.size,1,none⟩=some (.slice A0_1 l0_1.length c0_1)∧wr.cell? ⟨w.heap.size,2,none⟩=some (.int .i64 a0_2))∧Aside0 (Za8 l0_0 l0_1 0 l0_1.length=Za8 l0_0 l0_1 kk (l0_1.length - kk)))
 case atStart=>exact⟨0,⟨Nat.zero_le _⟩,⟨by omega⟩,rfl,HB0,⟨by simp⟩,⟨by go_simp,by go_simp,by go_simp⟩,⟨rfl⟩⟩
 case round=>
  obtain⟨kk,HK,HG,rfl,HBr,HS,HX,HN⟩:=hrel
  have hsz:=HS.out
  obtain⟨hb0,hb1,hb2_⟩:=HX.out
  clear HX
  by_cases hlt:kk<l0_1.length
  ·have hltz:(kk:Int)<(l0_1.length:Int):=by omega
   have hkc:kk≤c0_1:=by have:=HCt.out;omega
   obtain⟨ad,e1,hx0,hx1,hx2,hx3,hx4⟩:=Zck HRt.out (kk:Int) (by omega) hltz
   cases e1
   have HF0:=Za (show Zca l0_0 l0_1 kk=Zbk (Zz l0_1 kk).f0 (Zz l0_1 kk).f1 (Zz l0_1 kk).f2 (Zz l0_1 kk).f3 (Zz l0_1 kk).f4 l0_0 l0_1 kk from rfl)
   rw[Int.toNat_natCast] at hx0 hx1 hx2 hx3 hx4
   revert hx0 hx1 hx2 hx3 hx4 HF0
   generalize (Zz l0_1 kk).f0=tf
   generalize (Zz l0_1 kk).f1=tt
   generalize (Zz l0_1 kk).f2=tl
   generalize (Zz l0_1 kk).f3=th
   generalize (Zz l0_1 kk).f4=tb
   intro hx0 hx1 hx2 hx3 hx4 HF0
   replace hx0:=ZE HBr.out hx0
   replace hx1:=ZE HBr.out hx1
   replace hx2:=ZE HBr.out hx2
   replace hx3:=ZE HBr.out hx3
   replace hx4:=ZE HBr.out hx4
   have hlta:=Zc wr _ hx0
   have bad:Zbk tf tt tl th tb l0_0 l0_1 kk=false→Aside0 (Zan l0_0 l0_1=false):=fun hh=>⟨by
    unfold Zan
    rw[HN.out,Zdm hlt,HF0.out,hh];rfl⟩
   have good:Zbk tf tt tl th tb l0_0 l0_1 kk=true→Aside0 (Za8 l0_0 l0_1 0 l0_1.length=Za8 l0_0 l0_1 (kk+1) (l0_1.length - (kk+1))):=fun hh=>⟨by
    rw[HN.out,Zdm hlt,HF0.out,hh,Bool.true_and]⟩
   clear HF0 HN HS
   cases b1:Zbb l0_0.length tf with
   | false=>
    have HF:=bad (by simp[Zbk,b1])
    clear bad good
    go_wp2_with (first|(go_at_call 55;refine(ZaV _ _ _).mono ?_;rintro e w' ⟨rfl,nd,rfl⟩)|(go_at_call 108;refine(ZaU _ _).mono ?_;rintro e w' ⟨rfl,nd,rfl⟩))
    go_ret
    exact⟨by rw[HF.out];rfl,by repeat(first|(with_reducible first|exact Below.refl _ _|exact HBr.out|apply Zn|apply Zm|apply Zp)|exact HBr.out)⟩
   | true=>
   cases b2:Zbb l0_0.length tt with
   | false=>
    have HF:=bad (by simp[Zbk,b2])
    clear bad good
    go_wp2_with (first|(go_at_call 55;refine(ZaV _ _ _).mono ?_;rintro e w' ⟨rfl,nd,rfl⟩)|(go_at_call 108;refine(ZaU _ _).mono ?_;rintro e w' ⟨rfl,nd,rfl⟩))
    go_ret
    exact⟨by rw[HF.out];rfl,by repeat(first|(with_reducible first|exact Below.refl _ _|exact HBr.out|apply Zn|apply Zm|apply Zp)|exact HBr.out)⟩
   | true=>
   cases b3:(tf == tt) with
   | true=>
    have HF:=bad (by simp[Zbk,b3])
    clear bad good
    go_wp2_with (first|(go_at_call 55;refine(ZaV _ _ _).mono ?_;rintro e w' ⟨rfl,nd,rfl⟩)|(go_at_call 108;refine(ZaU _ _).mono ?_;rintro e w' ⟨rfl,nd,rfl⟩))
    go_ret
    exact⟨by rw[HF.out];rfl,by repeat(first|(with_reducible first|exact Below.refl _ _|exact HBr.out|apply Zn|apply Zm|apply Zp)|exact HBr.out)⟩
   | false=>
   cases b4:Zcs tl with
   | false=>
    have HF:=bad (by simp[Zbk,b4])
    clear bad good
    go_wp2_with (first|(go_at_call 55;refine(ZaV _ _ _).mono ?_;rintro e w' ⟨rfl,nd,rfl⟩)|(go_at_call 108;refine(ZaU _ _).mono ?_;rintro e w' ⟨rfl,nd,rfl⟩))
    go_ret
    exact⟨by rw[HF.out];rfl,by repeat(first|(with_reducible first|exact Below.refl _ _|exact HBr.out|apply Zn|apply Zm|apply Zp)|exact HBr.out)⟩
   | true=>
   cases b5:Zcs th with
   | false=>
    have HF:=bad (by simp[Zbk,b5])
    clear bad good
    go_wp2_with (first|(go_at_call 55;refine(ZaV _ _ _).mono ?_;rintro e w' ⟨rfl,nd,rfl⟩)|(go_at_call 108;refine(ZaU _ _).mono ?_;rintro e w' ⟨rfl,nd,rfl⟩))
    go_ret
    exact⟨by rw[HF.out];rfl,by repeat(first|(with_reducible first|exact Below.refl _ _|exact HBr.out|apply Zn|apply Zm|apply Zp)|exact HBr.out)⟩
   | true=>
   cases b6:decide (th<tl) with
   | true=>
    have HF:=bad (by simp[Zbk,b6])
    clear bad good
    go_wp2_with (first|(go_at_call 55;refine(ZaV _ _ _).mono ?_;rintro e w' ⟨rfl,nd,rfl⟩)|(go_at_call 108;refine(ZaU _ _).mono ?_;rintro e w' ⟨rfl,nd,rfl⟩))
    go_ret
    exact⟨by rw[HF.out];rfl,by repeat(first|(with_reducible first|exact Below.refl _ _|exact HBr.out|apply Zn|apply Zm|apply Zp)|exact HBr.out)⟩
   | false=>
   cases tb with
   | false=>
    have HF:=good (by simp[Zbk,b1,b2,b3,b4,b5,b6])
    clear bad good
    go_wp2_with (first|(go_at_call 55;refine(ZaV _ _ _).mono ?_;rintro e w' ⟨rfl,nd,rfl⟩)|(go_at_call 108;refine(ZaU _ _).mono ?_;rintro e w' ⟨rfl,nd,rfl⟩))
    go_roundg (l0_1.length - (kk+1))
    case measure=>have:=HG.out;omega
    case rel=>exact⟨kk+1,⟨by omega⟩,⟨by omega⟩,by go_num,⟨by repeat(first|(with_reducible first|exact Below.refl _ _|exact HBr.out|apply Zn|apply Zm|apply Zp)|exact HBr.out)⟩,⟨by simp;omega⟩,⟨by go_simp,by go_simp,by go_simp⟩,HF⟩
   | true=>
   cases b7:decide (tl<1) with
   | true=>
    have HF:=bad (by simp[Zbk,b7])
    clear bad good
    go_wp2_with (first|(go_at_call 55;refine(ZaV _ _ _).mono ?_;rintro e w' ⟨rfl,nd,rfl⟩)|(go_at_call 108;refine(ZaU _ _).mono ?_;rintro e w' ⟨rfl,nd,rfl⟩))
    go_quiet (fail)
    go_wp2
    go_ret
    exact⟨by rw[HF.out];rfl,by repeat(first|(with_reducible first|exact Below.refl _ _|exact HBr.out|apply Zn|apply Zm|apply Zp)|exact HBr.out)⟩
   | false=>
   cases b8:(tt == 0) with
   | true=>
    have HF:=bad (by simp[Zbk,b8])
    clear bad good
    go_wp2_with (first|(go_at_call 55;refine(ZaV _ _ _).mono ?_;rintro e w' ⟨rfl,nd,rfl⟩)|(go_at_call 108;refine(ZaU _ _).mono ?_;rintro e w' ⟨rfl,nd,rfl⟩))
    go_quiet (fail)
    go_wp2
    go_ret
    exact⟨by rw[HF.out];rfl,by repeat(first|(with_reducible first|exact Below.refl _ _|exact HBr.out|apply Zn|apply Zm|apply Zp)|exact HBr.out)⟩
   | false=>
   have ht:=b2
   have hf:=b1
   simp only[Zbb,Bool.and_eq_true,decide_eq_true_eq] at ht hf
   have pt0:=eq_true ht.1
   have pt1:(tt<(l0_0.length:Int))=True:=eq_true (by omega)
   have pf0:=eq_true hf.1
   have pf1:(tf<(l0_0.length:Int))=True:=eq_true (by omega)
   obtain⟨ad2,At,ct,e2,hn0,hn1,hn2,ln,gn⟩:=Zbw HRn.out tt (of_eq_true pt0) (of_eq_true pt1)
   cases e2
   obtain⟨ad3,Af,cf,e3,hm0,hm1,hm2,lm,gm⟩:=Zbw HRn.out tf (of_eq_true pf0) (of_eq_true pf1)
   cases e3
   replace hn1:=ZE HBr.out hn1
   replace hn2:=ZE HBr.out hn2
   replace hm1:=ZE HBr.out hm1
   have hlt2:=Zc wr _ hn1
   have hlt3:=Zc wr _ hm1
   have LN:=Za ln
   have GN:=Za (Zb gn HBr.out)
   have LM:=Za lm
   have GM:=Za (Zb gm HBr.out)
   have GW:=Za fun (n:Nat) (A:Option Addr) (l:List Int) (hh:Kd.C (Kd.int .i64) wr A l.length l)=>(Zb hh (Zm (Zn (Below.refl wr.heap.size wr) (.cells #[.int .i64 tf,.int .i64 tt,.int .i64 tl,.int .i64 th,.bool true] 81)) n))
   clear ht hf ln gn lm gm hn0 hm0 hm2
   cases b9:((Zy l0_0 tt).f2 != 0) with
   | true=>
    have HF:=bad (by simp[Zbk,b9])
    clear bad good
    go_wp2_with (first|(go_at_call 55;refine(ZaV _ _ _).mono ?_;rintro e w' ⟨rfl,nd,rfl⟩)|(go_at_call 108;refine(ZaU _ _).mono ?_;rintro e w' ⟨rfl,nd,rfl⟩))
    go_quiet (fail)
    go_wp2
    go_ret
    exact⟨by rw[HF.out];rfl,by repeat(first|(with_reducible first|exact Below.refl _ _|exact HBr.out|apply Zn|apply Zm|apply Zp)|exact HBr.out)⟩
   | false=>
   cases b10:decide ((Zy l0_0 tt).f1=(Zy l0_0 tf).f1) with
   | false=>
    have HF:=bad (by simp only[Zbk,b10,Bool.and_false,Bool.false_and,Bool.not_true,Bool.or_self])
    clear bad good
    go_wp2_with (first|(go_at_call 55;refine(ZaV _ _ _).mono ?_;rintro e w' ⟨rfl,nd,rfl⟩)|(go_at_call 108;refine(ZaU _ _).mono ?_;rintro e w' ⟨rfl,nd,rfl⟩))
    go_quiet ((go_at_call 109;exact quietY (Zdc _ (GW.out _ _ _ GN.out) LN.out (GW.out _ _ _ GM.out) LM.out)))
    go_wp2
    go_ret
    exact⟨by rw[HF.out];rfl,by repeat(first|(with_reducible first|exact Below.refl _ _|exact HBr.out|apply Zn|apply Zm|apply Zp)|exact HBr.out)⟩
   | true=>
   have HC:=Za fun (W:World) (hb:Below wr.heap.size wr W) (hcell:W.cell? ⟨wr.heap.size,1,none⟩=some (.int .i64 tt))=>impl_Tie_110.any (fun u=>u.f4 && decide (u.f1=tt)) 111 #[.pointer (some ⟨wr.heap.size,0,none⟩)] (enters_of Tryd.func111 (by kernel_rfl) rfl) (some ad) c0_1 (l0_1.take kk) W (Kd.C_take (Zb HRt.out (HBr.out.trans (hb.mono HBr.out.size))) (by omega))
    (fun W' x _ hb'=>ZeQ.clo wr.heap.size tt W' ((hb'.cell (Zc W _ hcell)).trans hcell) x)
   rw[show(l0_1.take kk).length=kk by rw[Zj];omega] at HC
   have B1:=Za fun n=>(Zm (Zn (Below.refl wr.heap.size wr) (.cells #[.int .i64 tf,.int .i64 tt,.int .i64 tl,.int .i64 th,.bool true] 81)) n)
   cases b11:(l0_1.take kk).any (fun u=>u.f4 && decide (u.f1=tt)) with
   | true=>
    rw[b11] at HC
    have HF:=bad (by simp only[Zbk,b11,Bool.and_false,Bool.false_and,Bool.not_true,Bool.or_self])
    clear bad good b11
    go_wp2_with (first|(go_at_call 55;refine(ZaV _ _ _).mono ?_;rintro e w' ⟨rfl,nd,rfl⟩)|(go_at_call 108;refine(ZaU _ _).mono ?_;rintro e w' ⟨rfl,nd,rfl⟩))
    go_quiet ((go_at_call 109;exact quietY (Zdc _ (GW.out _ _ _ GN.out) LN.out (GW.out _ _ _ GM.out) LM.out)))
    go_wp2_with fail
    refine(HC.out _ (B1.out _) (by go_simp)).mono ?_
    rintro e w2 ⟨rfl,hb2⟩
    go_wp2
    go_ret
    exact⟨by rw[HF.out];rfl,HBr.out.trans (((B1.out _).trans (hb2.mono (B1.out _).size)).mono HBr.out.size)⟩
   | false=>
    rw[b11] at HC
    have HF:=good (by simp only[Zbk,b1,b2,b3,b4,b5,b6,b7,b8,b9,b10,b11,Bool.not_false,Bool.not_true,Bool.and_true,Bool.true_and,Bool.false_or])
    clear bad good b11
    go_wp2_with (first|(go_at_call 55;refine(ZaV _ _ _).mono ?_;rintro e w' ⟨rfl,nd,rfl⟩)|(go_at_call 108;refine(ZaU _ _).mono ?_;rintro e w' ⟨rfl,nd,rfl⟩))
    go_quiet ((go_at_call 109;exact quietY (Zdc _ (GW.out _ _ _ GN.out) LN.out (GW.out _ _ _ GM.out) LM.out)))
    go_wp2_with fail
    refine(HC.out _ (B1.out _) (by go_simp)).mono ?_
    rintro e w2 ⟨rfl,hb2⟩
    have hb3:=(B1.out _).trans (hb2.mono (B1.out _).size)
    go_wp2
    go_roundg (l0_1.length - (kk+1))
    case measure=>have:=HG.out;omega
    case rel=>exact⟨kk+1,⟨by omega⟩,⟨by omega⟩,by go_num,⟨HBr.out.trans (hb3.mono HBr.out.size)⟩,⟨by have:=hb3.size;omega⟩,⟨ZE hb3 hb0,ZE hb3 hb1,ZE hb3 hb2_⟩,HF⟩
  ·have hltz:¬(kk:Int)<(l0_1.length:Int):=by omega
   have:kk=l0_1.length:=by have:=HK.out;omega
   subst this
   have HF:=Za (show Zan l0_0 l0_1=decide ((l0_1.length:Int)≤14) by
    unfold Zan
    rw[HN.out,Nat.sub_self]
    show(true && _)=_
    rw[Bool.true_and,Bool.eq_iff_iff,decide_eq_true_eq,decide_eq_true_eq];omega)
   go_wp2
   go_ret
   exact⟨by rw[HF.out];rfl,by repeat(first|(with_reducible first|exact Below.refl _ _|exact HBr.out|apply Zn|apply Zm|apply Zp)|exact HBr.out)⟩
end Go.Proofs.YtoeimopgoaffcaaDoor.Pr
