/- By a program of this session. -/
import Derived.Test.YtoeimopgoaffcaaGreatDoorBBwc1x14
namespace Go.Proofs.YtoeimopgoaffcaaGreatDoor.Pr
open RowKit YtoeimopgoaffcaaGreatDoorW.PrintWords YtoeimopgoaffcaaGreatDoorW.PrintLast YtoeimopgoaffcaaGreatDoorW.PrintMore
attribute [local go_sem] Zak Zai Zax Zaw Zac Zab Zaj Zah
set_option linter.unusedVariables false
set_option linter.unusedSimpArgs false
open Ni
theorem Zff {A0:Option Addr} {c0:Nat} {l0:List Int} {A1:Option Addr} {c1:Nat} {l1:List Int} (w:World) (hr0:Kd.C (Kd.int .i64) w A0 l0.length l0) (hc0:l0.length≤c0) (hr1:Kd.C (Kd.int .i64) w A1 l1.length l1) (hc1:l1.length≤c1) :
  Calls Tryz.prog 179 #[.slice A0 l0.length c0,.slice A1 l1.length c1] w fun e w'=>e=.returned (.bool (decide (l0=l1)))∧∃n,w'=w.drewN n:=
 (Za3.calls (2 ^ 64) A0 c0 l0 A1 c1 l1 _ w hr0 hc0 hr1 hc1 (l08Same_f l0 l1 hr0.2.1 _ (Nat.le_refl _))).mono fun e w' ⟨he,hd⟩=>⟨he,hd.out⟩
theorem l08Free_any {A0_0:Option Addr} {c0_0:Nat} {l0_0:List S39} {A0_1:Option Addr} {c0_1:Nat} {l0_1:List S82} {a0_2:Int} (a1:Int) (w:World) (hr0_0:Kd.C k39 w A0_0 l0_0.length l0_0) (hc0_0:l0_0.length≤c0_0) (hr0_1:Kd.C k82 w A0_1 l0_1.length l0_1) (hc0_1:l0_1.length≤c0_1) :
  Calls Tryz.prog 180 #[.agg #[.slice A0_0 l0_0.length c0_0,.slice A0_1 l0_1.length c0_1,.int .i64 a0_2],.int .i64 a1] w fun e w'=>e=.returned (.int .i64 (freeI l0_1 a1))∧Below w.heap.size w w':=
 ZaG.calls (2 ^ 64) _ _ _ _ _ _ a0_2 a1 _ w hr0_0 hc0_0 hr0_1 hc0_1 (l08Free_f l0_0 l0_1 a0_2 a1 hr0_1.2.1 _ (Nat.le_refl _))
def tieC (tf tt tl th:Int) (tb:Bool) (ns:List ZK) (ts:List PTie) (i:Int):Bool:=
 (inB tf 0 (ns.length - 1) && inB tt 0 (ns.length - 1) && !(tf == tt) && !(decide (tl < -20)) && !(decide (20<th)) && !(decide (th<tl))) && (!tb || (decide (1≤tl) && !(tt == 0) && ((ZJ ns tt).f2 == 0) && decide ((ZJ ns tf).f1=(ZJ ns tt).f1) && (freeI ts tt == i)))
def tieB (ns:List ZK) (ts:List PTie) (i:Int):Bool:=let t:=ZE ts i;tieC t.f0 t.f1 t.f2 t.f3 t.f4 ns ts i
set_option maxHeartbeats 4000000 in
set_option maxRecDepth 100000 in
theorem l08Tie_t (A0_0:Option Addr) (c0_0:Nat) (l0_0:List S39) (A0_1:Option Addr) (c0_1:Nat) (l0_1:List S82) (a0_2:Int) (a1:Int) (w:World) (hr0_0:Kd.C k39 w A0_0 l0_0.length l0_0) (hc0_0:l0_0.length≤c0_0) (hr0_1:Kd.C k82 w A0_1 l0_1.length l0_1) (hc0_1:l0_1.length≤c0_1) (h0:0≤a1) (h1:a1<(l0_1.length:Int)) :
  Calls Tryz.prog 128 #[.agg #[.slice A0_0 l0_0.length c0_0,.slice A0_1 l0_1.length c0_1,.int .i64 a0_2],.int .i64 a1] w fun e w'=>e=.returned (.bool (tieB l0_0 l0_1 a1))∧Below w.heap.size w w':=by
 have hL:l0_0.length≤9223372036854775807:=hr0_0.2.1
 have HRn:=Za hr0_0;have HRt:=Za hr0_1;have HCn:=Za hc0_0;have HCt:=Za hc0_1
 obtain⟨ad,e1,hx0,hx1,hx2,hx3,hx4⟩:=ZbG hr0_1 a1 h0 h1
 cases e1
 have hlt:=Zc w _ hx0
 clear hr0_0 hr0_1 hc0_0 hc0_1
 have hu:=Tryz.underlying25
 have hu2:=Tryz.underlying82
 have hfin:tieB l0_0 l0_1 a1=tieC (ZE l0_1 a1).f0 (ZE l0_1 a1).f1 (ZE l0_1 a1).f2 (ZE l0_1 a1).f3 (ZE l0_1 a1).f4 l0_0 l0_1 a1:=rfl
 have p0:=eq_true h0
 have p1:=eq_true h1
 have HF:=Za hfin;clear hfin h0 h1
 revert hx0 hx1 hx2 hx3 hx4 HF
 generalize (ZE l0_1 a1).f0=tf
 generalize (ZE l0_1 a1).f1=tt
 generalize (ZE l0_1 a1).f2=tl
 generalize (ZE l0_1 a1).f3=th
 generalize (ZE l0_1 a1).f4=tb
 intro hx0 hx1 hx2 hx3 hx4 HF
 have fin:∀b:Bool,tieC tf tt tl th tb l0_0 l0_1 a1=b→Aside0 (tieB l0_0 l0_1 a1=b):=fun b h=>⟨HF.out.trans h⟩
 clear HF
 cases b1:inB tf 0 (l0_0.length - 1) with
 | false=>
  have HF:=fin false (by simp[tieC,b1])
  clear fin
  go_enter Tryz.func128,Tryz.ntmps128
  go_wp2_with (go_at_call 127;refine(Zbz _ _ _ _).mono ?_;rintro e w' ⟨rfl,nd,rfl⟩)
  go_ret
  exact⟨by rw[HF.out];rfl,by repeat(first|exact Below.refl _ _|apply Zo|apply Zn|apply ZaS)⟩
 | true=>
 cases b2:inB tt 0 (l0_0.length - 1) with
 | false=>
  have HF:=fin false (by simp[tieC,b2])
  clear fin
  go_enter Tryz.func128,Tryz.ntmps128
  go_wp2_with (go_at_call 127;refine(Zbz _ _ _ _).mono ?_;rintro e w' ⟨rfl,nd,rfl⟩)
  go_ret
  exact⟨by rw[HF.out];rfl,by repeat(first|exact Below.refl _ _|apply Zo|apply Zn|apply ZaS)⟩
 | true=>
 cases b3:(tf == tt) with
 | true=>
  have HF:=fin false (by simp[tieC,b3])
  clear fin
  go_enter Tryz.func128,Tryz.ntmps128
  go_wp2_with (go_at_call 127;refine(Zbz _ _ _ _).mono ?_;rintro e w' ⟨rfl,nd,rfl⟩)
  go_ret
  exact⟨by rw[HF.out];rfl,by repeat(first|exact Below.refl _ _|apply Zo|apply Zn|apply ZaS)⟩
 | false=>
 cases b4:decide (tl < -20) with
 | true=>
  have HF:=fin false (by simp[tieC,b4])
  clear fin
  go_enter Tryz.func128,Tryz.ntmps128
  go_wp2_with (go_at_call 127;refine(Zbz _ _ _ _).mono ?_;rintro e w' ⟨rfl,nd,rfl⟩)
  go_ret
  exact⟨by rw[HF.out];rfl,by repeat(first|exact Below.refl _ _|apply Zo|apply Zn|apply ZaS)⟩
 | false=>
 cases b5:decide (20<th) with
 | true=>
  have HF:=fin false (by simp[tieC,b5])
  clear fin
  go_enter Tryz.func128,Tryz.ntmps128
  go_wp2_with (go_at_call 127;refine(Zbz _ _ _ _).mono ?_;rintro e w' ⟨rfl,nd,rfl⟩)
  go_ret
  exact⟨by rw[HF.out];rfl,by repeat(first|exact Below.refl _ _|apply Zo|apply Zn|apply ZaS)⟩
 | false=>
 cases b6:decide (th<tl) with
 | true=>
  have HF:=fin false (by simp[tieC,b6])
  clear fin
  go_enter Tryz.func128,Tryz.ntmps128
  go_wp2_with (go_at_call 127;refine(Zbz _ _ _ _).mono ?_;rintro e w' ⟨rfl,nd,rfl⟩)
  go_ret
  exact⟨by rw[HF.out];rfl,by repeat(first|exact Below.refl _ _|apply Zo|apply Zn|apply ZaS)⟩
 | false=>
 cases tb with
 | false=>
  have HF:=fin true (by simp[tieC,b1,b2,b3,b4,b5,b6])
  clear fin
  go_enter Tryz.func128,Tryz.ntmps128
  go_wp2_with (go_at_call 127;refine(Zbz _ _ _ _).mono ?_;rintro e w' ⟨rfl,nd,rfl⟩)
  go_quiet (fail)
  go_wp2
  go_ret
  exact⟨by rw[HF.out];rfl,by repeat(first|exact Below.refl _ _|apply Zo|apply Zn|apply ZaS)⟩
 | true=>
 cases b7:decide (1≤tl) with
 | false=>
  have HF:=fin false (by simp[tieC,b7])
  clear fin
  go_enter Tryz.func128,Tryz.ntmps128
  go_wp2_with (go_at_call 127;refine(Zbz _ _ _ _).mono ?_;rintro e w' ⟨rfl,nd,rfl⟩)
  go_quiet (fail)
  go_wp2
  go_ret
  exact⟨by rw[HF.out];rfl,by repeat(first|exact Below.refl _ _|apply Zo|apply Zn|apply ZaS)⟩
 | true=>
 cases b8:(tt == 0) with
 | true=>
  have HF:=fin false (by simp[tieC,b8])
  have b8':(tt != 0)=false:=by simpa [bne] using b8
  clear fin
  go_enter Tryz.func128,Tryz.ntmps128
  go_wp2_with (go_at_call 127;refine(Zbz _ _ _ _).mono ?_;rintro e w' ⟨rfl,nd,rfl⟩)
  go_quiet (fail)
  go_wp2
  go_ret
  exact⟨by rw[HF.out];rfl,by repeat(first|exact Below.refl _ _|apply Zo|apply Zn|apply ZaS)⟩
 | false=>
 have b8':(tt != 0)=true:=by simp[bne,b8]
 have ht:=b2
 have hf:=b1
 simp only[inB,Bool.and_eq_true,decide_eq_true_eq] at ht hf
 have pt0:=eq_true ht.1
 have pt1:(tt<(l0_0.length:Int))=True:=eq_true (by omega)
 have pf0:=eq_true hf.1
 have pf1:(tf<(l0_0.length:Int))=True:=eq_true (by omega)
 obtain⟨ad2,At,ct,e2,hn0,hn1,hn2,ln,gn⟩:=ZaX HRn.out tt (of_eq_true pt0) (of_eq_true pt1)
 cases e2
 obtain⟨ad3,Af,cf,e3,hm0,hm1,hm2,lm,gm⟩:=ZaX HRn.out tf (of_eq_true pf0) (of_eq_true pf1)
 cases e3
 have hlt2:=Zc w _ hn0
 have hlt3:=Zc w _ hm0
 have LN:=Za ln;have GN:=Za gn;have LM:=Za lm;have GM:=Za gm;clear ht hf ln gn lm gm
 cases b9:((ZJ l0_0 tt).f2 == 0) with
 | false=>
  have HF:=fin false (by simp[tieC,b9])
  clear fin
  go_enter Tryz.func128,Tryz.ntmps128
  go_wp2_with (go_at_call 127;refine(Zbz _ _ _ _).mono ?_;rintro e w' ⟨rfl,nd,rfl⟩)
  go_quiet (fail)
  go_wp2
  go_ret
  exact⟨by rw[HF.out];rfl,by repeat(first|exact Below.refl _ _|apply Zo|apply Zn|apply ZaS)⟩
 | true=>
 have GW:=Za fun (n:Nat) (A:Option Addr) (l:List Int) (h:Kd.C (Kd.int .i64) w A l.length l)=>(Zb h (Zn (Zo (Zo (Below.refl w.heap.size w) (.cells #[.slice (some ad2) l0_0.length c0_0,.slice (some ad) l0_1.length c0_1,.int .i64 a0_2] 25)) (.cells #[.int .i64 tf,.int .i64 tt,.int .i64 tl,.int .i64 th,.bool true] 82)) n))
 cases b10:decide ((ZJ l0_0 tf).f1=(ZJ l0_0 tt).f1) with
 | false=>
  have HF:=fin false (by simp only[tieC,b10,Bool.and_false,Bool.false_and,Bool.not_true,Bool.or_self])
  clear fin
  go_enter Tryz.func128,Tryz.ntmps128
  go_wp2_with (go_at_call 127;refine(Zbz _ _ _ _).mono ?_;rintro e w' ⟨rfl,nd,rfl⟩)
  go_quiet ((go_at_call 179;exact quietX (Zff _ (GW.out _ _ _ GM.out) LM.out (GW.out _ _ _ GN.out) LN.out)))
  go_wp2
  go_ret
  exact⟨by rw[HF.out];rfl,by repeat(first|exact Below.refl _ _|apply Zo|apply Zn|apply ZaS)⟩
 | true=>
 have HF:=fin (freeI l0_1 tt == a1) (by simp only[tieC,b1,b2,b3,b4,b5,b6,b7,b8,b9,b10,Bool.not_false,Bool.not_true,Bool.and_true,Bool.true_and,Bool.false_or])
 clear fin
 go_enter Tryz.func128,Tryz.ntmps128
 go_wp2_with (go_at_call 127;refine(Zbz _ _ _ _).mono ?_;rintro e w' ⟨rfl,nd,rfl⟩)
 go_region_held3 (fun w'=>Below w.heap.size w w'∧w'.cell? ⟨w.heap.size,0,none⟩=some (.slice (some ad2) l0_0.length c0_0)∧w'.cell? ⟨w.heap.size,1,none⟩=some (.slice (some ad) l0_1.length c0_1)∧w'.cell? ⟨w.heap.size,2,none⟩=some (.int .i64 a0_2)
   ∧ w'.cell? ⟨w.heap.size+1,0,none⟩=some (.int .i64 tf)∧w'.cell? ⟨w.heap.size+1,1,none⟩=some (.int .i64 tt)∧w'.cell? ⟨w.heap.size+1,2,none⟩=some (.int .i64 tl)∧w'.cell? ⟨w.heap.size+1,4,none⟩=some (.bool true)
   ∧ w'.cell? ⟨(ad2.add (tt.toNat * 3)).block,(ad2.add (tt.toNat * 3)).off+1,none⟩=some (.slice At (ZJ l0_0 tt).f1.length ct)∧w'.cell? ⟨(ad2.add (tt.toNat * 3)).block,(ad2.add (tt.toNat * 3)).off+2,none⟩=some (.int .i64 (ZJ l0_0 tt).f2)
   ∧ w'.cell? ⟨(ad2.add (tf.toNat * 3)).block,(ad2.add (tf.toNat * 3)).off+1,none⟩=some (.slice Af (ZJ l0_0 tf).f1.length cf))
  (first|(refine⟨by repeat(first|(with_reducible first|exact Below.refl _ _|apply Zo|apply Zn|apply Zp|assumption)|exact Below.refl _ _),?_⟩;go_simp;done)|(refine⟨Zr (by repeat(first|(with_reducible first|exact Below.refl _ _|apply Zo|apply Zn|apply Zp|assumption)|exact Below.refl _ _)) hb,Zx hb ?_,Zx hb ?_,Zx hb ?_,Zx hb ?_,Zx hb ?_,Zx hb ?_,Zx hb ?_,Zx hb ?_,Zx hb ?_,Zx hb ?_⟩ <;> (go_simp;done)))
  (first|(go_at_call 179;(refine(Zff _ ?s1 LM.out ?s2 LN.out).mono ?_);(case s1=>exact Zb GM.out (by repeat(first|(with_reducible first|exact Below.refl _ _|apply Zo|apply Zn|apply Zp|assumption)|exact Below.refl _ _)));(case s2=>exact Zb GN.out (by repeat(first|(with_reducible first|exact Below.refl _ _|apply Zo|apply Zn|apply Zp|assumption)|exact Below.refl _ _)));rintro e w' ⟨rfl,n,rfl⟩)|(go_at_call 180;(refine(l08Free_any tt _ ?s3 HCn.out ?s4 HCt.out).mono ?_);(case s3=>exact Zb HRn.out (by repeat(first|(with_reducible first|exact Below.refl _ _|apply Zo|apply Zn|apply Zp|assumption)|exact Below.refl _ _)));(case s4=>exact Zb HRt.out (by repeat(first|(with_reducible first|exact Below.refl _ _|apply Zo|apply Zn|apply Zp|assumption)|exact Below.refl _ _)));rintro e w' ⟨rfl,hb⟩))
 go_wp2
 go_ret
 exact⟨by rw[HF.out];rfl,(‹Below w.heap.size w _∧_› : Below w.heap.size w _∧_).1⟩
def ZcQ.f (l0_0:List (S39)) (l0_1:List (S82)) (a0_2:Int) (a1:Int):Option Bool:=if 0≤a1∧a1<(l0_1.length:Int) then some (tieB l0_0 l0_1 a1) else none
theorem ZcQ.calls (A0_0:Option Addr) (c0_0:Nat) (l0_0:List (S39)) (A0_1:Option Addr) (c0_1:Nat) (l0_1:List (S82)) (a0_2:Int) (a1:Int) (r:Bool) (w:World) (hr0_0:Kd.C k39 w A0_0 l0_0.length l0_0) (hc0_0:l0_0.length≤c0_0) (hr0_1:Kd.C k82 w A0_1 l0_1.length l0_1) (hc0_1:l0_1.length≤c0_1) (h:ZcQ.f l0_0 l0_1 a0_2 a1=some r) :
  Calls Tryz.prog 128 #[.agg #[.slice A0_0 l0_0.length c0_0,.slice A0_1 l0_1.length c0_1,.int .i64 a0_2],.int .i64 a1] w fun e w'=>e=.returned (.bool r)∧Below w.heap.size w w':=by
 unfold ZcQ.f at h
 by_cases c:0≤a1∧a1<(l0_1.length:Int)
 ·rw[if_pos c] at h
  obtain rfl:=Zg h
  exact l08Tie_t _ _ _ _ _ _ _ _ _ hr0_0 hc0_0 hr0_1 hc0_1 c.1 c.2
 ·rw[if_neg c] at h
  exact absurd h (by simp)
end Go.Proofs.YtoeimopgoaffcaaGreatDoor.Pr
