/- By a program of this session. -/
import Derived.Test.YtoeimopgoaffcaaGreatDoorBBec1x3
namespace Go.Proofs.YtoeimopgoaffcaaGreatDoor.Pr
open RowKit YtoeimopgoaffcaaGreatDoorW.PrintWords YtoeimopgoaffcaaGreatDoorW.PrintLast YtoeimopgoaffcaaGreatDoorW.PrintMore
attribute [local go_sem] Zau Zas ZaL ZaK Zaf Zae Zat Zar
set_option linter.unusedVariables false
set_option linter.unusedSimpArgs false
open Ni
def Zcb (n x:Int):Bool:=decide (0≤x) && decide (x<n)
def spanB (x:Int):Bool:=decide (-20≤x) && decide (x≤20)
theorem Zbr (n x:Int) (w:World):Calls Tryz.prog 84 #[.int .i64 n,.int .i64 x] w fun e w'=>e=.returned (.bool (Zcb n x))∧∃m,w'=w.drewN m:=
 (ZcA.calls n x _ w (by
  unfold ZcA.f Zcb
  by_cases h:x≥0
  ·rw[if_pos h,Ze (show(0:Int)≤x from h),Bool.true_and]
  ·rw[if_neg h,Zf (show ¬(0:Int)≤x from h),Bool.false_and])).mono fun e w' ⟨he,hd⟩=>⟨he,hd.out⟩
theorem Zbq (x:Int) (w:World):Calls Tryz.prog 147 #[.int .i64 x] w fun e w'=>e=.returned (.bool (spanB x))∧∃m,w'=w.drewN m:=
 (Zdx.calls x _ w (by
  unfold Zdx.f spanB
  by_cases h:x≥-20
  ·rw[if_pos h,Ze (show(-20:Int)≤x from h),Bool.true_and]
  ·rw[if_neg h,Zf (show ¬(-20:Int)≤x from h),Bool.false_and])).mono fun e w' ⟨he,hd⟩=>⟨he,hd.out⟩
theorem Zeu {A0:Option Addr} {c0:Nat} {l0:List Int} {A1:Option Addr} {c1:Nat} {l1:List Int} (w:World) (hr0:Kd.C (Kd.int .i64) w A0 l0.length l0) (hc0:l0.length≤c0) (hr1:Kd.C (Kd.int .i64) w A1 l1.length l1) (hc1:l1.length≤c1) :
  Calls Tryz.prog 146 #[.slice A0 l0.length c0,.slice A1 l1.length c1] w fun e w'=>e=.returned (.bool (decide (l0=l1)))∧∃n,w'=w.drewN n:=
 (Z9.calls (2 ^ 64) A0 c0 l0 A1 c1 l1 _ w hr0 hc0 hr1 hc1 (sEqual_f l0 l1 hr0.2.1 _ (Nat.le_refl _))).mono fun e w' ⟨he,hd⟩=>⟨he,hd.out⟩
theorem quietY {P:Program} {f:FuncId} {args:Array Value} {W:World} {a x:Nat} {v:Value} (h:Calls P f args (W.drewN (a+x)) fun e w'=>e=.returned v∧∃m,w'=(W.drewN (a+x)).drewN m):Calls P f args (W.drewN (a+x)) fun e w''=>e=.returned v∧∃n,w''=W.drewN (a+n):=
 h.mono fun e w'' ⟨he,m,hm⟩=>⟨he,x+m,by rw[hm,World.drewN_drewN,Nat.add_assoc]⟩
def Zb2 (tf tt tl th:Int) (tb:Bool) (ns:List S39) (ts:List S82) (i:Nat):Bool:=
 (Zcb ns.length tf && Zcb ns.length tt && !(tf == tt) && spanB tl && spanB th && !(decide (th<tl))) &&
 (!tb || (!(decide (tl<1)) && !(tt == 0) && !((ZI ns tt).f2 != 0) && decide ((ZI ns tt).f1=(ZI ns tf).f1) && !((ts.take i).any fun u=>u.f4 && decide (u.f1=tt))))
def ptieB (ns:List S39) (ts:List S82) (i:Nat):Bool:=Zb2 (Zu ts i).f0 (Zu ts i).f1 (Zu ts i).f2 (Zu ts i).f3 (Zu ts i).f4 ns ts i
def Zb8 (ns:List S39) (ts:List S82) (i:Nat):Nat→Bool
 | 0=>true
 | d+1=>ptieB ns ts i && Zb8 ns ts (i+1) d
def Zbz (ns:List S39) (ts:List S82):Bool:=Zb8 ns ts 0 ts.length && decide (ts.length≤14)
theorem ZeJ {ns:List S39} {ts:List S82} {i:Nat} (h:i<ts.length):Zb8 ns ts i (ts.length - i)=(ptieB ns ts i && Zb8 ns ts (i+1) (ts.length - (i+1))):=by
 rw[show ts.length - i=(ts.length - (i+1))+1 by omega];rfl
theorem Zga.clo (B:Nat) (p:Int) (W:World) (hB:W.cell? ⟨B,1,none⟩=some (.int .i64 p)) (x:S82) :
  Calls Tryz.prog 149 #[.agg #[.int .i64 x.f0,.int .i64 x.f1,.int .i64 x.f2,.int .i64 x.f3,.bool x.f4],.pointer (some ⟨B,0,none⟩)] W fun e w'=>e=.returned (.bool (x.f4 && decide (x.f1=p)))∧Below W.heap.size W w':=by
 have hlt:B<W.heap.size:=Zc W _ hB
 have HE:=Za (show(x.f1 == p)=decide (x.f1=p) by rw[Bool.eq_iff_iff];simp)
 have hu2:=Tryz.underlying82
 obtain⟨f0,f1,f2,f3,f4⟩:=x
 cases f4 with
 | false=>
  go_enter Tryz.func149,Tryz.ntmps149
  go_wp2
  go_ret
  exact⟨rfl,(Below.refl _ _).alloc (Nat.le_refl _) _⟩
 | true=>
  go_enter Tryz.func149,Tryz.ntmps149
  go_wp2
  go_ret
  exact⟨by rw[← HE.out];rfl,(Below.refl _ _).alloc (Nat.le_refl _) _⟩
def Zd2.f (l0_0:List (S39)) (l0_1:List (S82)) (a0_2:Int):Option Bool:=some (Zbz l0_0 l0_1)
set_option maxHeartbeats 8000000 in
set_option maxRecDepth 100000 in
theorem Zd2.calls (A0_0:Option Addr) (c0_0:Nat) (l0_0:List (S39)) (A0_1:Option Addr) (c0_1:Nat) (l0_1:List (S82)) (a0_2:Int) (r:Bool) (w:World) (hr0_0:Kd.C k39 w A0_0 l0_0.length l0_0) (hc0_0:l0_0.length≤c0_0) (hr0_1:Kd.C k82 w A0_1 l0_1.length l0_1) (hc0_1:l0_1.length≤c0_1) (h:Zd2.f l0_0 l0_1 a0_2=some r) :
  Calls Tryz.prog 78 #[.agg #[.slice A0_0 l0_0.length c0_0,.slice A0_1 l0_1.length c0_1,.int .i64 a0_2]] w fun e w'=>e=.returned (.bool r)∧Below w.heap.size w w':=by
 obtain rfl:=Zg h
 have hL:l0_0.length≤9223372036854775807:=hr0_0.2.1
 have hL1:l0_1.length≤9223372036854775807:=hr0_1.2.1
 have HRn:=Za hr0_0;have HRt:=Za hr0_1;have HCn:=Za hc0_0;have HCt:=Za hc0_1;clear hr0_0 hr0_1 hc0_0 hc0_1 h
 have hu:=Tryz.underlying25
 have hu2:=Tryz.underlying82
 have HB0:=Za (Zo (Below.refl w.heap.size w) (.cells #[.slice A0_0 l0_0.length c0_0,.slice A0_1 l0_1.length c0_1,.int .i64 a0_2] 25))
 go_enter Tryz.func78,Tryz.ntmps78
 go_wp2
 go_loopg [8] l0_1.length (fun gg s8 wr=>∃kk:Nat,Aside0 (kk≤l0_1.length)∧Aside0 (l0_1.length - kk≤gg)∧s8=.int .i64 kk∧Aside0 (Below w.heap.size w wr)∧Aside0 (w.heap.size<wr.heap.size)∧Aside0 (wr.cell? ⟨w.heap.size,0,none⟩=some (.slice A0_0 l0_0.length c0_0)∧wr.cell? ⟨w.heap.size,1,none⟩=some (.slice A0_1 l0_1.length c0_1)∧wr.cell? ⟨w.heap.size,2,none⟩=some (.int .i64 a0_2))∧Aside0 (Zb8 l0_0 l0_1 0 l0_1.length=Zb8 l0_0 l0_1 kk (l0_1.length - kk)))
 case atStart=>exact⟨0,⟨Nat.zero_le _⟩,⟨by omega⟩,rfl,HB0,⟨by simp⟩,⟨by go_simp,by go_simp,by go_simp⟩,⟨rfl⟩⟩
 case round=>
  obtain⟨kk,HK,HG,rfl,HBr,HS,HX,HN⟩:=hrel
  have hsz:=HS.out
  obtain⟨hb0,hb1,hb2_⟩:=HX.out
  clear HX
  by_cases hlt:kk<l0_1.length
  ·have hltz:(kk:Int)<(l0_1.length:Int):=by omega
   have hkc:kk≤c0_1:=by have:=HCt.out;omega
   obtain⟨ad,e1,hx0,hx1,hx2,hx3,hx4⟩:=ZbS HRt.out (kk:Int) (by omega) hltz
   cases e1
   have HF0:=Za (show ptieB l0_0 l0_1 kk=Zb2 (Zu l0_1 kk).f0 (Zu l0_1 kk).f1 (Zu l0_1 kk).f2 (Zu l0_1 kk).f3 (Zu l0_1 kk).f4 l0_0 l0_1 kk from rfl)
   rw[Int.toNat_natCast] at hx0 hx1 hx2 hx3 hx4
   revert hx0 hx1 hx2 hx3 hx4 HF0
   generalize (Zu l0_1 kk).f0=tf
   generalize (Zu l0_1 kk).f1=tt
   generalize (Zu l0_1 kk).f2=tl
   generalize (Zu l0_1 kk).f3=th
   generalize (Zu l0_1 kk).f4=tb
   intro hx0 hx1 hx2 hx3 hx4 HF0
   replace hx0:=Zx HBr.out hx0
   replace hx1:=Zx HBr.out hx1
   replace hx2:=Zx HBr.out hx2
   replace hx3:=Zx HBr.out hx3
   replace hx4:=Zx HBr.out hx4
   have hlta:=Zc wr _ hx0
   have bad:Zb2 tf tt tl th tb l0_0 l0_1 kk=false→Aside0 (Zbz l0_0 l0_1=false):=fun hh=>⟨by
    unfold Zbz
    rw[HN.out,ZeJ hlt,HF0.out,hh];rfl⟩
   have good:Zb2 tf tt tl th tb l0_0 l0_1 kk=true→Aside0 (Zb8 l0_0 l0_1 0 l0_1.length=Zb8 l0_0 l0_1 (kk+1) (l0_1.length - (kk+1))):=fun hh=>⟨by
    rw[HN.out,ZeJ hlt,HF0.out,hh,Bool.true_and]⟩
   clear HF0 HN HS
   cases b1:Zcb l0_0.length tf with
   | false=>
    have HF:=bad (by simp[Zb2,b1])
    clear bad good
    go_wp2_with (first|(go_at_call 84;refine(Zbr _ _ _).mono ?_;rintro e w' ⟨rfl,nd,rfl⟩)|(go_at_call 147;refine(Zbq _ _).mono ?_;rintro e w' ⟨rfl,nd,rfl⟩))
    go_ret
    exact⟨by rw[HF.out];rfl,by repeat(first|(with_reducible first|exact Below.refl _ _|exact HBr.out|apply Zo|apply Zm|apply Zp)|exact HBr.out)⟩
   | true=>
   cases b2:Zcb l0_0.length tt with
   | false=>
    have HF:=bad (by simp[Zb2,b2])
    clear bad good
    go_wp2_with (first|(go_at_call 84;refine(Zbr _ _ _).mono ?_;rintro e w' ⟨rfl,nd,rfl⟩)|(go_at_call 147;refine(Zbq _ _).mono ?_;rintro e w' ⟨rfl,nd,rfl⟩))
    go_ret
    exact⟨by rw[HF.out];rfl,by repeat(first|(with_reducible first|exact Below.refl _ _|exact HBr.out|apply Zo|apply Zm|apply Zp)|exact HBr.out)⟩
   | true=>
   cases b3:(tf == tt) with
   | true=>
    have HF:=bad (by simp[Zb2,b3])
    clear bad good
    go_wp2_with (first|(go_at_call 84;refine(Zbr _ _ _).mono ?_;rintro e w' ⟨rfl,nd,rfl⟩)|(go_at_call 147;refine(Zbq _ _).mono ?_;rintro e w' ⟨rfl,nd,rfl⟩))
    go_ret
    exact⟨by rw[HF.out];rfl,by repeat(first|(with_reducible first|exact Below.refl _ _|exact HBr.out|apply Zo|apply Zm|apply Zp)|exact HBr.out)⟩
   | false=>
   cases b4:spanB tl with
   | false=>
    have HF:=bad (by simp[Zb2,b4])
    clear bad good
    go_wp2_with (first|(go_at_call 84;refine(Zbr _ _ _).mono ?_;rintro e w' ⟨rfl,nd,rfl⟩)|(go_at_call 147;refine(Zbq _ _).mono ?_;rintro e w' ⟨rfl,nd,rfl⟩))
    go_ret
    exact⟨by rw[HF.out];rfl,by repeat(first|(with_reducible first|exact Below.refl _ _|exact HBr.out|apply Zo|apply Zm|apply Zp)|exact HBr.out)⟩
   | true=>
   cases b5:spanB th with
   | false=>
    have HF:=bad (by simp[Zb2,b5])
    clear bad good
    go_wp2_with (first|(go_at_call 84;refine(Zbr _ _ _).mono ?_;rintro e w' ⟨rfl,nd,rfl⟩)|(go_at_call 147;refine(Zbq _ _).mono ?_;rintro e w' ⟨rfl,nd,rfl⟩))
    go_ret
    exact⟨by rw[HF.out];rfl,by repeat(first|(with_reducible first|exact Below.refl _ _|exact HBr.out|apply Zo|apply Zm|apply Zp)|exact HBr.out)⟩
   | true=>
   cases b6:decide (th<tl) with
   | true=>
    have HF:=bad (by simp[Zb2,b6])
    clear bad good
    go_wp2_with (first|(go_at_call 84;refine(Zbr _ _ _).mono ?_;rintro e w' ⟨rfl,nd,rfl⟩)|(go_at_call 147;refine(Zbq _ _).mono ?_;rintro e w' ⟨rfl,nd,rfl⟩))
    go_ret
    exact⟨by rw[HF.out];rfl,by repeat(first|(with_reducible first|exact Below.refl _ _|exact HBr.out|apply Zo|apply Zm|apply Zp)|exact HBr.out)⟩
   | false=>
   cases tb with
   | false=>
    have HF:=good (by simp[Zb2,b1,b2,b3,b4,b5,b6])
    clear bad good
    go_wp2_with (first|(go_at_call 84;refine(Zbr _ _ _).mono ?_;rintro e w' ⟨rfl,nd,rfl⟩)|(go_at_call 147;refine(Zbq _ _).mono ?_;rintro e w' ⟨rfl,nd,rfl⟩))
    go_roundg (l0_1.length - (kk+1))
    case measure=>have:=HG.out;omega
    case rel=>exact⟨kk+1,⟨by omega⟩,⟨by omega⟩,by go_num,⟨by repeat(first|(with_reducible first|exact Below.refl _ _|exact HBr.out|apply Zo|apply Zm|apply Zp)|exact HBr.out)⟩,⟨by simp;omega⟩,⟨by go_simp,by go_simp,by go_simp⟩,HF⟩
   | true=>
   cases b7:decide (tl<1) with
   | true=>
    have HF:=bad (by simp[Zb2,b7])
    clear bad good
    go_wp2_with (first|(go_at_call 84;refine(Zbr _ _ _).mono ?_;rintro e w' ⟨rfl,nd,rfl⟩)|(go_at_call 147;refine(Zbq _ _).mono ?_;rintro e w' ⟨rfl,nd,rfl⟩))
    go_quiet (fail)
    go_wp2
    go_ret
    exact⟨by rw[HF.out];rfl,by repeat(first|(with_reducible first|exact Below.refl _ _|exact HBr.out|apply Zo|apply Zm|apply Zp)|exact HBr.out)⟩
   | false=>
   cases b8:(tt == 0) with
   | true=>
    have HF:=bad (by simp[Zb2,b8])
    clear bad good
    go_wp2_with (first|(go_at_call 84;refine(Zbr _ _ _).mono ?_;rintro e w' ⟨rfl,nd,rfl⟩)|(go_at_call 147;refine(Zbq _ _).mono ?_;rintro e w' ⟨rfl,nd,rfl⟩))
    go_quiet (fail)
    go_wp2
    go_ret
    exact⟨by rw[HF.out];rfl,by repeat(first|(with_reducible first|exact Below.refl _ _|exact HBr.out|apply Zo|apply Zm|apply Zp)|exact HBr.out)⟩
   | false=>
   have ht:=b2
   have hf:=b1
   simp only[Zcb,Bool.and_eq_true,decide_eq_true_eq] at ht hf
   have pt0:=eq_true ht.1
   have pt1:(tt<(l0_0.length:Int))=True:=eq_true (by omega)
   have pf0:=eq_true hf.1
   have pf1:(tf<(l0_0.length:Int))=True:=eq_true (by omega)
   obtain⟨ad2,At,ct,e2,hn0,hn1,hn2,ln,gn⟩:=ZaS HRn.out tt (of_eq_true pt0) (of_eq_true pt1)
   cases e2
   obtain⟨ad3,Af,cf,e3,hm0,hm1,hm2,lm,gm⟩:=ZaS HRn.out tf (of_eq_true pf0) (of_eq_true pf1)
   cases e3
   replace hn1:=Zx HBr.out hn1
   replace hn2:=Zx HBr.out hn2
   replace hm1:=Zx HBr.out hm1
   have hlt2:=Zc wr _ hn1
   have hlt3:=Zc wr _ hm1
   have LN:=Za ln
   have GN:=Za (Zb gn HBr.out)
   have LM:=Za lm
   have GM:=Za (Zb gm HBr.out)
   have GW:=Za fun (n:Nat) (A:Option Addr) (l:List Int) (hh:Kd.C (Kd.int .i64) wr A l.length l)=>(Zb hh (Zm (Zo (Below.refl wr.heap.size wr) (.cells #[.int .i64 tf,.int .i64 tt,.int .i64 tl,.int .i64 th,.bool true] 82)) n))
   clear ht hf ln gn lm gm hn0 hm0 hm2
   cases b9:((ZI l0_0 tt).f2 != 0) with
   | true=>
    have HF:=bad (by simp[Zb2,b9])
    clear bad good
    go_wp2_with (first|(go_at_call 84;refine(Zbr _ _ _).mono ?_;rintro e w' ⟨rfl,nd,rfl⟩)|(go_at_call 147;refine(Zbq _ _).mono ?_;rintro e w' ⟨rfl,nd,rfl⟩))
    go_quiet (fail)
    go_wp2
    go_ret
    exact⟨by rw[HF.out];rfl,by repeat(first|(with_reducible first|exact Below.refl _ _|exact HBr.out|apply Zo|apply Zm|apply Zp)|exact HBr.out)⟩
   | false=>
   cases b10:decide ((ZI l0_0 tt).f1=(ZI l0_0 tf).f1) with
   | false=>
    have HF:=bad (by simp only[Zb2,b10,Bool.and_false,Bool.false_and,Bool.not_true,Bool.or_self])
    clear bad good
    go_wp2_with (first|(go_at_call 84;refine(Zbr _ _ _).mono ?_;rintro e w' ⟨rfl,nd,rfl⟩)|(go_at_call 147;refine(Zbq _ _).mono ?_;rintro e w' ⟨rfl,nd,rfl⟩))
    go_quiet ((go_at_call 146;exact quietY (Zeu _ (GW.out _ _ _ GN.out) LN.out (GW.out _ _ _ GM.out) LM.out)))
    go_wp2
    go_ret
    exact⟨by rw[HF.out];rfl,by repeat(first|(with_reducible first|exact Below.refl _ _|exact HBr.out|apply Zo|apply Zm|apply Zp)|exact HBr.out)⟩
   | true=>
   have HC:=Za fun (W:World) (hb:Below wr.heap.size wr W) (hcell:W.cell? ⟨wr.heap.size,1,none⟩=some (.int .i64 tt))=>impl_Tie_148.any (fun u=>u.f4 && decide (u.f1=tt)) 149 #[.pointer (some ⟨wr.heap.size,0,none⟩)] (enters_of Tryz.func149 (by kernel_rfl) rfl) (some ad) c0_1 (l0_1.take kk) W (Kd.C_take (Zb HRt.out (HBr.out.trans (hb.mono HBr.out.size))) (by omega))
    (fun W' x _ hb'=>Zga.clo wr.heap.size tt W' ((hb'.cell (Zc W _ hcell)).trans hcell) x)
   rw[show(l0_1.take kk).length=kk by rw[Zj];omega] at HC
   have B1:=Za fun n=>(Zm (Zo (Below.refl wr.heap.size wr) (.cells #[.int .i64 tf,.int .i64 tt,.int .i64 tl,.int .i64 th,.bool true] 82)) n)
   cases b11:(l0_1.take kk).any (fun u=>u.f4 && decide (u.f1=tt)) with
   | true=>
    rw[b11] at HC
    have HF:=bad (by simp only[Zb2,b11,Bool.and_false,Bool.false_and,Bool.not_true,Bool.or_self])
    clear bad good b11
    go_wp2_with (first|(go_at_call 84;refine(Zbr _ _ _).mono ?_;rintro e w' ⟨rfl,nd,rfl⟩)|(go_at_call 147;refine(Zbq _ _).mono ?_;rintro e w' ⟨rfl,nd,rfl⟩))
    go_quiet ((go_at_call 146;exact quietY (Zeu _ (GW.out _ _ _ GN.out) LN.out (GW.out _ _ _ GM.out) LM.out)))
    go_wp2_with fail
    refine(HC.out _ (B1.out _) (by go_simp)).mono ?_
    rintro e w2 ⟨rfl,hb2⟩
    go_wp2
    go_ret
    exact⟨by rw[HF.out];rfl,HBr.out.trans (((B1.out _).trans (hb2.mono (B1.out _).size)).mono HBr.out.size)⟩
   | false=>
    rw[b11] at HC
    have HF:=good (by simp only[Zb2,b1,b2,b3,b4,b5,b6,b7,b8,b9,b10,b11,Bool.not_false,Bool.not_true,Bool.and_true,Bool.true_and,Bool.false_or])
    clear bad good b11
    go_wp2_with (first|(go_at_call 84;refine(Zbr _ _ _).mono ?_;rintro e w' ⟨rfl,nd,rfl⟩)|(go_at_call 147;refine(Zbq _ _).mono ?_;rintro e w' ⟨rfl,nd,rfl⟩))
    go_quiet ((go_at_call 146;exact quietY (Zeu _ (GW.out _ _ _ GN.out) LN.out (GW.out _ _ _ GM.out) LM.out)))
    go_wp2_with fail
    refine(HC.out _ (B1.out _) (by go_simp)).mono ?_
    rintro e w2 ⟨rfl,hb2⟩
    have hb3:=(B1.out _).trans (hb2.mono (B1.out _).size)
    go_wp2
    go_roundg (l0_1.length - (kk+1))
    case measure=>have:=HG.out;omega
    case rel=>exact⟨kk+1,⟨by omega⟩,⟨by omega⟩,by go_num,⟨HBr.out.trans (hb3.mono HBr.out.size)⟩,⟨by have:=hb3.size;omega⟩,⟨Zx hb3 hb0,Zx hb3 hb1,Zx hb3 hb2_⟩,HF⟩
  ·have hltz:¬(kk:Int)<(l0_1.length:Int):=by omega
   have:kk=l0_1.length:=by have:=HK.out;omega
   subst this
   have HF:=Za (show Zbz l0_0 l0_1=decide ((l0_1.length:Int)≤14) by
    unfold Zbz
    rw[HN.out,Nat.sub_self]
    show(true && _)=_
    rw[Bool.true_and,Bool.eq_iff_iff,decide_eq_true_eq,decide_eq_true_eq];omega)
   go_wp2
   go_ret
   exact⟨by rw[HF.out];rfl,by repeat(first|(with_reducible first|exact Below.refl _ _|exact HBr.out|apply Zo|apply Zm|apply Zp)|exact HBr.out)⟩
end Go.Proofs.YtoeimopgoaffcaaGreatDoor.Pr
