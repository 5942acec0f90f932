/- By a program of this session. -/
import Derived.Test.YtoeimopgoaffcaaDoorBBcc1x8
namespace Go.Proofs.YtoeimopgoaffcaaDoor.Pr
open RowKit YtoeimopgoaffcaaDoorW.PrintWords YtoeimopgoaffcaaDoorW.PrintLast YtoeimopgoaffcaaDoorW.PrintMore
attribute [local go_sem] Zat Zar ZaG ZaF Zal Zak Zas Zaq
set_option linter.unusedVariables false
set_option linter.unusedSimpArgs false
open Ni
def valAt (ns:List S54) (i:Nat) (v:Int):Bool:=decide (v=1) || (decide (v=-1) && decide (0≤Zad ns ((i+1:Nat):Int)))
def Za7 (ns:List S54):Nat→List Int→Bool
 | _,[]=>true
 | i,v :: t=>valAt ns i v && Za7 ns (i+1) t
def Zbt (ts:List S81):List Int→List Int→Bool
 | k :: L,n :: l=>(decide ((Zz ts k).f2≤n) && decide (n≤(Zz ts k).f3)) && Zbt ts L l
 | _,_=>true
def ZaQ.f (k:Nat) (l0_0:List (S54)) (l0_1:List (S81)) (a0_2:Int) (l1_0:List Int) (l1_1:List Int):Option Bool:=(ZY.f k l0_0 l0_1 a0_2).bind fun L=>if L.all (fun x=>decide (0≤x) && decide (x<(l0_1.length:Int)))=true then some (decide (l1_0.length=L.length) && (decide (l1_1.length=3) && (Zbt l0_1 L l1_0 && Za7 l0_0 0 l1_1))) else none
set_option maxHeartbeats 8000000 in
set_option maxRecDepth 100000 in
theorem ZaQ.calls (k:Nat) (A0_0:Option Addr) (c0_0:Nat) (l0_0:List (S54)) (A0_1:Option Addr) (c0_1:Nat) (l0_1:List (S81)) (a0_2:Int) (A1_0:Option Addr) (c1_0:Nat) (l1_0:List Int) (A1_1:Option Addr) (c1_1:Nat) (l1_1:List Int) (r:Bool) (w:World) (hr0_0:Kd.C k54 w A0_0 l0_0.length l0_0) (hc0_0:l0_0.length≤c0_0) (hr0_1:Kd.C k81 w A0_1 l0_1.length l0_1) (hc0_1:l0_1.length≤c0_1) (hr1_0:Kd.C (Kd.int .i64) w A1_0 l1_0.length l1_0) (hc1_0:l1_0.length≤c1_0) (hr1_1:Kd.C (Kd.int .i64) w A1_1 l1_1.length l1_1) (hc1_1:l1_1.length≤c1_1) (h:ZaQ.f k l0_0 l0_1 a0_2 l1_0 l1_1=some r) :
  Calls Tryd.prog 52 #[.agg #[.slice A0_0 l0_0.length c0_0,.slice A0_1 l0_1.length c0_1,.int .i64 a0_2],.agg #[.slice A1_0 l1_0.length c1_0,.slice A1_1 l1_1.length c1_1]] w fun e w'=>e=.returned (.bool r)∧Below w.heap.size w w':=by
 unfold ZaQ.f at h
 obtain⟨L,hL,h⟩:=Option.bind_eq_some_iff.1 h
 by_cases hall:L.all (fun x=>decide (0≤x) && decide (x<(l0_1.length:Int)))=true
 case neg=>rw[if_neg hall] at h;exact absurd h (by simp)
 rw[if_pos hall] at h
 have HQ:=Za (Zg h)
 have HAL:=Za (show ∀x∈L,0≤x∧x<(l0_1.length:Int) from fun x hx=>by
  have:=List.all_eq_true.1 hall x hx
  simpa using this)
 have HF:=Za fun (W:World) (hb:Below w.heap.size w W)=>ZY.calls k A0_0 c0_0 l0_0 A0_1 c0_1 l0_1 a0_2 L W (Zb hr0_0 hb) hc0_0 (Zb hr0_1 hb) hc0_1 hL
 have HWT:=Za fun (W:World) (hb:Below w.heap.size w W) (p:Int)=>Zaw.calls A0_0 c0_0 l0_0 A0_1 c0_1 l0_1 a0_2 p (Zad l0_0 p) W (Zb hr0_0 hb) hc0_0 (Zb hr0_1 hb) hc0_1 rfl
 have HR1:=Za hr0_1;have HL0:=Za hr1_0;have HL1:=Za hr1_1
 have HN1:=Za (show l1_1.length≤9223372036854775807 from hr1_1.2.1)
 have HB2:=Za (show Below w.heap.size w ((w.alloc (.cells #[.slice A0_0 l0_0.length c0_0,.slice A0_1 l0_1.length c0_1,.int .i64 a0_2] 39)).alloc (.cells #[.slice A1_0 l1_0.length c1_0,.slice A1_1 l1_1.length c1_1] 44)) from Zn (Zn (Below.refl w.heap.size w) _) _)
 have K:=Za (show((w.alloc (.cells #[.slice A0_0 l0_0.length c0_0,.slice A0_1 l0_1.length c0_1,.int .i64 a0_2] 39)).alloc (.cells #[.slice A1_0 l1_0.length c1_0,.slice A1_1 l1_1.length c1_1] 44)).cell? ⟨w.heap.size,0,none⟩=some (.slice A0_0 l0_0.length c0_0)∧((w.alloc (.cells #[.slice A0_0 l0_0.length c0_0,.slice A0_1 l0_1.length c0_1,.int .i64 a0_2] 39)).alloc (.cells #[.slice A1_0 l1_0.length c1_0,.slice A1_1 l1_1.length c1_1] 44)).cell? ⟨w.heap.size,1,none⟩=some (.slice A0_1 l0_1.length c0_1)∧((w.alloc (.cells #[.slice A0_0 l0_0.length c0_0,.slice A0_1 l0_1.length c0_1,.int .i64 a0_2] 39)).alloc (.cells #[.slice A1_0 l1_0.length c1_0,.slice A1_1 l1_1.length c1_1] 44)).cell? ⟨w.heap.size,2,none⟩=some (.int .i64 a0_2)∧((w.alloc (.cells #[.slice A0_0 l0_0.length c0_0,.slice A0_1 l0_1.length c0_1,.int .i64 a0_2] 39)).alloc (.cells #[.slice A1_0 l1_0.length c1_0,.slice A1_1 l1_1.length c1_1] 44)).cell? ⟨w.heap.size+1,0,none⟩=some (.slice A1_0 l1_0.length c1_0)∧((w.alloc (.cells #[.slice A0_0 l0_0.length c0_0,.slice A0_1 l0_1.length c0_1,.int .i64 a0_2] 39)).alloc (.cells #[.slice A1_0 l1_0.length c1_0,.slice A1_1 l1_1.length c1_1] 44)).cell? ⟨w.heap.size+1,1,none⟩=some (.slice A1_1 l1_1.length c1_1) by
  refine⟨?_,?_,?_,?_,?_⟩ <;> go_simp)
 have hu:=Tryd.underlying39
 have hu2:=Tryd.underlying44
 have hu3:=Tryd.underlying81
 clear hr0_0 hc0_0 hr0_1 hc0_1 hr1_0 hc1_0 hr1_1 hc1_1 hL h hall
 cases b1:((l1_0.length:Int) != (L.length:Int)) with
 | true=>
  have HE:=Za (show false=r by
   rw[← HQ.out,Zf (show ¬l1_0.length=L.length from fun e=>by rw[e] at b1;simp at b1)];rfl)
  clear HQ
  go_enter Tryd.func52,Tryd.ntmps52
  go_wp2_with (go_at_call 48;refine(HF.out _ HB2.out).mono ?_;rintro e w3 ⟨v3,rfl,hR,hb⟩;obtain⟨A3,c3,e3⟩:=Kd.R_slice hR;subst e3;have k0:=ZE hb K.out.1;have k1:=ZE hb K.out.2.1;have k2:=ZE hb K.out.2.2.1;have k3:=ZE hb K.out.2.2.2.1;have k4:=ZE hb K.out.2.2.2.2;have HB:=Za (HB2.out.trans (hb.mono HB2.out.size));clear hb hR)
  go_ret
  exact⟨by rw[← HE.out];rfl,HB.out⟩
 | false=>
 have e1:l1_0.length=L.length:=by have:=bne_eq_false_iff_eq.1 b1;omega
 rw[Ze e1,Bool.true_and] at HQ
 cases b2:((l1_1.length:Int) != 3) with
 | true=>
  have HE:=Za (show false=r by
   rw[← HQ.out,Zf (show ¬l1_1.length=3 from fun e=>by rw[e] at b2;simp at b2)];rfl)
  clear HQ e1
  go_enter Tryd.func52,Tryd.ntmps52
  go_wp2_with (go_at_call 48;refine(HF.out _ HB2.out).mono ?_;rintro e w3 ⟨v3,rfl,hR,hb⟩;obtain⟨A3,c3,e3⟩:=Kd.R_slice hR;subst e3;have k0:=ZE hb K.out.1;have k1:=ZE hb K.out.2.1;have k2:=ZE hb K.out.2.2.1;have k3:=ZE hb K.out.2.2.2.1;have k4:=ZE hb K.out.2.2.2.2;have HB:=Za (HB2.out.trans (hb.mono HB2.out.size));clear hb hR)
  go_ret
  exact⟨by rw[← HE.out];rfl,HB.out⟩
 | false=>
 rw[Ze (show l1_1.length=3 by have:=bne_eq_false_iff_eq.1 b2;omega),Bool.true_and] at HQ
 have HE1:=Za e1;clear e1
 go_enter Tryd.func52,Tryd.ntmps52
 go_wp2_with (go_at_call 48;refine(HF.out _ HB2.out).mono ?_;rintro e w3 ⟨v3,rfl,hR,hb⟩;obtain⟨A3,c3,e3⟩:=Kd.R_slice hR;subst e3;have k0:=ZE hb K.out.1;have k1:=ZE hb K.out.2.1;have k2:=ZE hb K.out.2.2.1;have k3:=ZE hb K.out.2.2.2.1;have k4:=ZE hb K.out.2.2.2.2;have HB:=Za (HB2.out.trans (hb.mono HB2.out.size));have HRL:=Za (Kd.R_reads' hR).2.2;clear hb hR)
 clear b1 b2 HF HB2 K
 have K3:=Za (And.intro k0 (And.intro k1 (And.intro k2 (And.intro k3 k4))))
 clear k0 k1 k2 k3 k4
 have HNL:=Za (show L.length≤9223372036854775807 from HRL.out.2.1)
 go_loopg [26] L.length (fun gg s26 wr=>∃kk:Nat,s26=.int .i64 (kk:Int)∧Aside0 (kk≤L.length)∧Aside0 (L.length - kk≤gg)∧Aside0 (Below w3.heap.size w3 wr)∧Aside0 ((Zbt l0_1 (L.drop kk) (l1_0.drop kk) && Za7 l0_0 0 l1_1)=r))
 case atStart=>exact⟨0,rfl,⟨Nat.zero_le _⟩,⟨by omega⟩,⟨Below.refl _ _⟩,HQ⟩
 case round=>
 clear HQ
 obtain⟨kk,rfl,HK,HG,HBr,HE⟩:=hrel
 have k0:=ZE HBr.out K3.out.1
 have k1:=ZE HBr.out K3.out.2.1
 have k2:=ZE HBr.out K3.out.2.2.1
 have k3:=ZE HBr.out K3.out.2.2.2.1
 have k4:=ZE HBr.out K3.out.2.2.2.2
 have HBw:=Za (HB.out.trans (HBr.out.mono HB.out.size))
 by_cases hlt:kk<L.length
 ·have hltz:(kk:Int)<(L.length:Int):=by omega
  have hltz2:(kk:Int)<(l1_0.length:Int):=by have:=HE1.out;omega
  obtain⟨ad,q1,hx⟩:=Kd.at_int (Zb HRL.out HBr.out) (kk:Int) (by omega) hltz
  cases q1
  obtain⟨ad2,q2,hy⟩:=Kd.at_int (Zb HL0.out HBw.out) (kk:Int) (by omega) hltz2
  cases q2
  have hm:=HAL.out _ (ZaY hlt 0)
  have HD:=HE.out
  rw[Za2 hlt 0,Za2 (show kk<l1_0.length by omega) 0,Zbt] at HD
  rw[Int.toNat_natCast,Zbq] at hx hy
  generalize L.getD kk 0=x at hx hm HD
  generalize l1_0.getD kk 0=n at hy HD
  obtain⟨ad3,q3,hz0,hz1,hz2,hz3,hz4⟩:=Zck (Zb HR1.out HBw.out) x hm.1 hm.2
  cases q3
  generalize (Zz l0_1 x).f2=lo at hz2 HD
  generalize (Zz l0_1 x).f3=hi at hz3 HD
  have px:=eq_true hm.1
  have py:=eq_true hm.2
  clear hm hz0 hz1 hz4 HE
  cases c1:decide (n<lo) with
  | true=>
   have HF2:=Za (show false=r by
    rw[← HD,Zf (show ¬lo≤n by have:=Zd c1;omega)];rfl)
   clear HD
   go_wp2
   go_quiet (fail)
   go_wp2
   go_ret
   exact⟨by rw[← HF2.out];rfl,by repeat(first|(with_reducible first|exact HBw.out|apply Zn|apply Zm|apply Zp)|exact HBw.out)⟩
  | false=>
  rw[Ze (show lo≤n by have:=of_decide_eq_false c1;omega),Bool.true_and] at HD
  cases c2:decide (hi<n) with
  | true=>
   have HF2:=Za (show false=r by
    rw[← HD,Zf (show ¬n≤hi by have:=Zd c2;omega)];rfl)
   clear HD
   go_wp2
   go_quiet (fail)
   go_wp2
   go_ret
   exact⟨by rw[← HF2.out];rfl,by repeat(first|(with_reducible first|exact HBw.out|apply Zn|apply Zm|apply Zp)|exact HBw.out)⟩
  | false=>
  rw[Ze (show n≤hi by have:=of_decide_eq_false c2;omega),Bool.true_and] at HD
  have HE:=Za HD;clear HD
  go_wp2
  go_quiet (fail)
  go_wp2
  go_roundg (L.length - (kk+1))
  case measure=>have:=HG.out;omega
  case rel=>exact⟨kk+1,by rw[Z9 hlt HNL.out],⟨by omega⟩,⟨by omega⟩,⟨by repeat(first|(with_reducible first|exact HBr.out|apply Zn|apply Zm|apply Zp)|exact HBr.out)⟩,HE⟩
 ·obtain rfl:kk=L.length:=by have:=HK.out;omega
  have HE2:=Za (show Za7 l0_0 0 l1_1=r by
   have h:=HE.out
   rw[List.drop_length] at h
   simpa [Zbt] using h)
  clear HE hlt HK HG HRL HAL HL0 HNL HE1 HR1
  go_wp2
  obtain⟨wo,hwo⟩:∃wo,wo=wr:=⟨_,rfl⟩
  subst hwo
  have K4:=Za (And.intro k0 (And.intro k1 (And.intro k2 k4)))
  clear k0 k1 k2 k3 k4
  go_loopg [61] l1_1.length (fun gg s61 wr=>∃kk:Nat,s61=.int .i64 (kk:Int)∧Aside0 (kk≤l1_1.length)∧Aside0 (l1_1.length - kk≤gg)∧Aside0 (Below wo.heap.size wo wr)∧Aside0 (Za7 l0_0 kk (l1_1.drop kk)=r))
  case atStart=>exact⟨0,rfl,⟨Nat.zero_le _⟩,⟨by omega⟩,⟨Below.refl _ _⟩,HE2⟩
  case round=>
  clear HE2
  obtain⟨kk,rfl,HK,HG,HBs,HE⟩:=hrel
  have k0:=ZE HBs.out K4.out.1
  have k1:=ZE HBs.out K4.out.2.1
  have k2:=ZE HBs.out K4.out.2.2.1
  have k4:=ZE HBs.out K4.out.2.2.2
  have HBx:=Za (HBw.out.trans (HBs.out.mono HBw.out.size))
  by_cases hlt:kk<l1_1.length
  ·have hltz:(kk:Int)<(l1_1.length:Int):=by omega
   obtain⟨ad,q1,hx⟩:=Kd.at_int (Zb HL1.out HBx.out) (kk:Int) (by omega) hltz
   cases q1
   have HD:=HE.out
   rw[Za2 hlt 0,Za7] at HD
   rw[Int.toNat_natCast,Zbq] at hx
   generalize l1_1.getD kk 0=v at hx HD
   unfold valAt at HD
   clear HE
   by_cases h1:v=1
   ·subst h1
    have HE:=Za (show Za7 l0_0 (kk+1) (l1_1.drop (kk+1))=r by rw[← HD];rfl)
    clear HD
    go_wp2
    go_roundg (l1_1.length - (kk+1))
    case measure=>have:=HG.out;omega
    case rel=>exact⟨kk+1,by rw[Z9 hlt HN1.out],⟨by omega⟩,⟨by omega⟩,⟨by repeat(first|(with_reducible first|exact HBs.out|apply Zn|apply Zm|apply Zp)|exact HBs.out)⟩,HE⟩
   by_cases h2:v=-1
   ·subst h2
    rw[Zf h1,Ze rfl,Bool.false_or,Bool.true_and,← Z9 hlt HN1.out] at HD
    have HW:=Za (HWT.out wr HBx.out (wrap64 ((kk:Int)+1)))
    generalize Zad l0_0 (wrap64 ((kk:Int)+1))=q at HD HW
    clear h1
    cases c1:decide (q<0) with
    | true=>
     have HF2:=Za (show false=r by
      rw[← HD,Zf (show ¬0≤q by have:=Zd c1;omega)];rfl)
     clear HD
     go_wp2_with (go_at_call 49;refine HW.out.mono ?_;rintro e w5 ⟨rfl,hb⟩;have HB5:=Za (HBx.out.trans (hb.mono HBx.out.size));clear hb)
     go_ret
     exact⟨by rw[← HF2.out];rfl,HB5.out⟩
    | false=>
     have HE:=Za (show Za7 l0_0 (kk+1) (l1_1.drop (kk+1))=r by
      rw[← HD,Ze (show 0≤q by have:=of_decide_eq_false c1;omega)];rfl)
     clear HD
     go_wp2_with (go_at_call 49;refine HW.out.mono ?_;rintro e w5 ⟨rfl,hb⟩;have HB5:=Za (HBs.out.trans (hb.mono HBs.out.size));clear hb)
     go_roundg (l1_1.length - (kk+1))
     case measure=>have:=HG.out;omega
     case rel=>exact⟨kk+1,by rw[Z9 hlt HN1.out],⟨by omega⟩,⟨by omega⟩,HB5,HE⟩
   have HF2:=Za (show false=r by rw[← HD,Zf h1,Zf h2];rfl)
   have d1:(v != 1)=true:=bne_iff_ne.2 h1
   have d2:(v != -1)=true:=bne_iff_ne.2 h2
   clear HD h1 h2
   go_wp2
   go_ret
   exact⟨by rw[← HF2.out];rfl,by repeat(first|(with_reducible first|exact HBx.out|apply Zn|apply Zm|apply Zp)|exact HBx.out)⟩
  ·obtain rfl:kk=l1_1.length:=by have:=HK.out;omega
   have HF2:=Za (show true=r by
    have h:=HE.out
    rw[List.drop_length] at h
    exact h)
   clear HE hlt
   go_wp2
   go_ret
   exact⟨by rw[← HF2.out];rfl,by repeat(first|(with_reducible first|exact HBx.out|apply Zn|apply Zm|apply Zp)|exact HBx.out)⟩
end Go.Proofs.YtoeimopgoaffcaaDoor.Pr
