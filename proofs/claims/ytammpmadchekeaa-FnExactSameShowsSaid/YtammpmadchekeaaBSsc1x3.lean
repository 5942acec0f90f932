/- The texts of one claim, put together by a program of this session. -/
import Derived.Deep.LoopGhost
import Derived.Deep.RegionHeld3
import Derived.Test.YtammpmadchekeaaBSsc1x1
import Derived.Test.YtammpmadchekeaaBSsc1x2
namespace Go.Proofs.Ytammpmadchekeaa.Pr
open Go.RowKit Go.Proofs.YtammpmadchekeaaW.PrintWords Go.Proofs.YtammpmadchekeaaW.PrintLast Go.Proofs.YtammpmadchekeaaW.PrintMore
attribute [local go_sem] Zac Zaa Zah Zag Z2 Z1 Zab Z9
set_option linter.unusedVariables false
set_option linter.unusedSimpArgs false
open Go.Proofs.Ytammpmadchekeaa.Ni
attribute [local go_sem high] eqA77
def Z8.f (_k:Nat) (l0_0:List (S42)) (l0_1:List (S77)) (a0_2:Int) (l1_0:List (S42)) (l1_1:List (S77)) (a1_2:Int):Option Bool:=
 if l0_0.all (fun n=>decide (n.f1.length≤1048576))=true∧l0_0.length≤1048576∧l0_1.length≤1048576 then some (eqF Z4 l0_0 l1_0 && ((decide (l0_1.length=l1_1.length) && eqT l0_1 l1_1) && decide (a0_2=a1_2))) else none
set_option maxHeartbeats 8000000 in
set_option maxRecDepth 100000 in
theorem Z8.calls (k:Nat) (A0_0:Option Addr) (c0_0:Nat) (l0_0:List (S42)) (A0_1:Option Addr) (c0_1:Nat) (l0_1:List (S77)) (a0_2:Int) (A1_0:Option Addr) (c1_0:Nat) (l1_0:List (S42)) (A1_1:Option Addr) (c1_1:Nat) (l1_1:List (S77)) (a1_2:Int) (r:Bool) (w:World) (hr0_0:Kd.C k42 w A0_0 l0_0.length l0_0) (hc0_0:l0_0.length≤c0_0) (hr0_1:Kd.C k77 w A0_1 l0_1.length l0_1) (hc0_1:l0_1.length≤c0_1) (hr1_0:Kd.C k42 w A1_0 l1_0.length l1_0) (hc1_0:l1_0.length≤c1_0) (hr1_1:Kd.C k77 w A1_1 l1_1.length l1_1) (hc1_1:l1_1.length≤c1_1) (h:Z8.f k l0_0 l0_1 a0_2 l1_0 l1_1 a1_2=some r) :
  Calls Try.prog 45 #[.agg #[.slice A0_0 l0_0.length c0_0,.slice A0_1 l0_1.length c0_1,.int .i64 a0_2],.agg #[.slice A1_0 l1_0.length c1_0,.slice A1_1 l1_1.length c1_1,.int .i64 a1_2]] w fun e w'=>e=.returned (.bool r)∧Below w.heap.size w w':=by
 unfold Z8.f at h
 by_cases hall:l0_0.all (fun n=>decide (n.f1.length≤1048576))=true∧l0_0.length≤1048576∧l0_1.length≤1048576
 case neg=>rw[if_neg hall] at h;exact absurd h (by simp)
 rw[if_pos hall] at h
 obtain rfl:=Zg h
 have hu:=Try.underlying55
 have hu2:=Try.underlying42
 have hu3:=Try.underlying77
 have hL0:l0_0.length≤9223372036854775807:=hr0_0.2.1
 have hL1:l0_1.length≤9223372036854775807:=hr0_1.2.1
 have HSM:=Za (fun n (hn:n∈l0_0)=>Zd (List.all_eq_true.1 hall.1 n hn))
 clear h hall hc0_0 hc0_1 hc1_0 hc1_1
 by_cases e:l1_0.length=l0_0.length
 case neg=>
  have hne:((l0_0.length:Int) != (l1_0.length:Int))=true:=by simp;omega
  have hne2:¬l0_0.length=l1_0.length:=fun h=>e h.symm
  have HF:=Za (show(eqF Z4 l0_0 l1_0 && ((decide (l0_1.length=l1_1.length) && eqT l0_1 l1_1) && decide (a0_2=a1_2)))=false by rw[eqF_len l0_0 l1_0 hne2];rfl)
  clear hr0_0 hr0_1 hr1_0 hr1_1 e HSM
  generalize (eqF Z4 l0_0 l1_0 && ((decide (l0_1.length=l1_1.length) && eqT l0_1 l1_1) && decide (a0_2=a1_2)))=res at HF ⊢
  generalize l0_0.length=n0 at hne hne2 hL0 ⊢
  generalize l1_0.length=n1 at hne hne2 ⊢
  generalize l0_1.length=n2 at hL1 ⊢
  generalize l1_1.length=n3
  go_enter Try.func45,Try.ntmps45
  go_wp2
  go_ret
  exact⟨by rw[HF.out];rfl,by repeat(first|exact Below.refl _ _|apply Zl)⟩
 by_cases e2:l1_1.length=l0_1.length
 case neg=>
  have hne:((l0_1.length:Int) != (l1_1.length:Int))=true:=by simp;omega
  have hne2:¬l0_1.length=l1_1.length:=fun h=>e2 h.symm
  have HF:=Za (show(eqF Z4 l0_0 l1_0 && ((decide (l0_1.length=l1_1.length) && eqT l0_1 l1_1) && decide (a0_2=a1_2)))=false by rw[Zf hne2];simp)
  rw[e]
  clear hr0_0 hr0_1 hr1_0 hr1_1 e e2 HSM
  generalize (eqF Z4 l0_0 l1_0 && ((decide (l0_1.length=l1_1.length) && eqT l0_1 l1_1) && decide (a0_2=a1_2)))=res at HF ⊢
  generalize l0_0.length=n0 at hL0 ⊢
  generalize l0_1.length=n2 at hne hne2 hL1 ⊢
  generalize l1_1.length=n3 at hne hne2 ⊢
  go_enter Try.func45,Try.ntmps45
  go_wp2
  go_ret
  exact⟨by rw[HF.out];rfl,by repeat(first|exact Below.refl _ _|apply Zl)⟩
 have HX:=Za (show(eqF Z4 l0_0 l1_0 && ((decide (l0_1.length=l1_1.length) && eqT l0_1 l1_1) && decide (a0_2=a1_2)))=(eqF Z4 l0_0 l1_0 && (eqT l0_1 l1_1 && decide (a0_2=a1_2))) by rw[Ze e2.symm,Bool.true_and])
 generalize (eqF Z4 l0_0 l1_0 && ((decide (l0_1.length=l1_1.length) && eqT l0_1 l1_1) && decide (a0_2=a1_2)))=res at HX ⊢
 have HEL:=Za (And.intro e e2)
 rw[e] at hr1_0 ⊢
 rw[e2] at hr1_1 ⊢
 clear e e2;have HR0:=Za hr0_0;have HR1:=Za hr0_1;have HS0:=Za hr1_0;have HS1:=Za hr1_1;clear hr0_0 hr0_1 hr1_0 hr1_1
 by_cases hz:a0_2=a1_2
 case neg=>
  have hzb:(a0_2 != a1_2)=true:=by simpa using hz
  have HF:=Za (show res=false by rw[HX.out,Zf hz];simp)
  clear hz HX
  go_enter Try.func45,Try.ntmps45
  go_wp2
  go_ret
  exact⟨by rw[HF.out];rfl,by repeat(first|exact Below.refl _ _|apply Zl)⟩
 subst hz
 have HF:=Za (show res=(eqF Z4 l0_0 l1_0 && eqT l0_1 l1_1) by rw[HX.out];simp)
 clear HX
 have B1:=Za (Zl (Zl (Below.refl w.heap.size w) (.cells #[.slice A0_0 l0_0.length c0_0,.slice A0_1 l0_1.length c0_1,.int .i64 a0_2] 55)) (.cells #[.slice A1_0 l0_0.length c1_0,.slice A1_1 l0_1.length c1_1,.int .i64 a0_2] 55))
 have KK:=Za (And.intro (show((w.alloc (.cells #[.slice A0_0 l0_0.length c0_0,.slice A0_1 l0_1.length c0_1,.int .i64 a0_2] 55)).alloc (.cells #[.slice A1_0 l0_0.length c1_0,.slice A1_1 l0_1.length c1_1,.int .i64 a0_2] 55)).cell? ⟨w.heap.size,1,none⟩=some (.slice A0_1 l0_1.length c0_1) by go_simp) (And.intro (show((w.alloc (.cells #[.slice A0_0 l0_0.length c0_0,.slice A0_1 l0_1.length c0_1,.int .i64 a0_2] 55)).alloc (.cells #[.slice A1_0 l0_0.length c1_0,.slice A1_1 l0_1.length c1_1,.int .i64 a0_2] 55)).cell? ⟨w.heap.size+1,0,none⟩=some (.slice A1_0 l0_0.length c1_0) by go_simp) (show((w.alloc (.cells #[.slice A0_0 l0_0.length c0_0,.slice A0_1 l0_1.length c0_1,.int .i64 a0_2] 55)).alloc (.cells #[.slice A1_0 l0_0.length c1_0,.slice A1_1 l0_1.length c1_1,.int .i64 a0_2] 55)).cell? ⟨w.heap.size+1,1,none⟩=some (.slice A1_1 l0_1.length c1_1) by go_simp)))
 go_enter Try.func45,Try.ntmps45
 go_wp2
 generalize (w.alloc (.cells #[.slice A0_0 l0_0.length c0_0,.slice A0_1 l0_1.length c0_1,.int .i64 a0_2] 55)).alloc (.cells #[.slice A1_0 l0_0.length c1_0,.slice A1_1 l0_1.length c1_1,.int .i64 a0_2] 55)=wo at B1 KK ⊢
 go_loopg [5,36] l0_0.length (fun gg _ s36 wr=>∃kk:Nat,s36=.int .i64 (kk:Int)∧Aside0 (kk≤l0_0.length)∧Aside0 (l0_0.length - kk≤gg)∧Aside0 (Below wo.heap.size wo wr)∧Aside0 (eqF Z4 (l0_0.drop kk) (l1_0.drop kk)=eqF Z4 l0_0 l1_0))
 case atStart=>exact⟨0,rfl,⟨Nat.zero_le _⟩,⟨by omega⟩,⟨Below.refl _ _⟩,⟨rfl⟩⟩
 case round=>
  obtain⟨kk,rfl,HK,HG,HB,HE⟩:=hrel
  have HBw:=Za (B1.out.trans (HB.out.mono B1.out.size))
  obtain⟨k1,k2,k3⟩:=KK.out
  replace k1:=Zu HB.out k1
  replace k2:=Zu HB.out k2
  replace k3:=Zu HB.out k3
  have hk1:=Zc _ _ k1
  have hk2:=Zc _ _ k2
  by_cases hlt:kk<l0_0.length
  ·have hltz:(kk:Int)<(l0_0.length:Int):=by omega
   have hlt1:kk<l1_0.length:=by have:=HEL.out.1;omega
   obtain⟨adx,Ax,cx,ex,x0,x1,x2,lx,gx⟩:=ZaU HR0.out (kk:Int) (by omega) hltz
   obtain⟨ady,Ay,cy,ey,y0,y1,y2,ly,gy⟩:=ZaU HS0.out (kk:Int) (by omega) hltz
   cases ex
   cases ey
   rw[Int.toNat_natCast] at x0 x1 x2 y0 y1 y2
   have HD:=Za (And.intro (ZX hlt z42) (ZX hlt1 z42))
   have HM:=Za (HSM.out _ (ZaK hlt z42))
   rw[show Z5 l0_0 (kk:Int)=l0_0.getD kk z42 by unfold Z5;rw[Int.toNat_natCast]] at x0 x1 x2 lx gx
   rw[show Z5 l1_0 (kk:Int)=l1_0.getD kk z42 by unfold Z5;rw[Int.toNat_natCast]] at y0 y1 y2 ly gy
   generalize l0_0.getD kk z42=x at x0 x1 x2 lx gx HD HM
   generalize l1_0.getD kk z42=y at y0 y1 y2 ly gy HD
   replace x0:=Zu HBw.out x0
   replace x1:=Zu HBw.out x1
   replace x2:=Zu HBw.out x2
   replace y0:=Zu HBw.out y0
   replace y1:=Zu HBw.out y1
   replace y2:=Zu HBw.out y2
   have hlx:=Zc wr _ x0
   have hly:=Zc wr _ y0
   have HC:=Za fun (W:World) (hb:Below wr.heap.size wr W)=>(ZL.calls (2 ^ 64) Ax cx x.f1 Ay cy y.f1 _ W (Zb (Zb gx HBw.out) hb) lx (Zb (Zb gy HBw.out) hb) ly (l08Same_f x.f1 y.f1 (by have:=HM.out;omega) (2 ^ 64) (Nat.le_refl _))).mono fun e w' ⟨he,hd⟩=>(⟨he,by first|exact hd|exact hd.below⟩:e=Ending.returned (.bool (decide (x.f1=y.f1)))∧Below W.heap.size W w')
   have HSS:=Za (show eqF Z4 (l0_0.drop kk) (l1_0.drop kk)=((decide (x.f0.toList=y.f0.toList) && (decide (x.f1=y.f1) && decide (x.f2=y.f2))) && eqF Z4 (l0_0.drop (kk+1)) (l1_0.drop (kk+1))) by rw[HD.out.1,HD.out.2];rfl)
   have B2:=Za (Zl (Zl (Below.refl wr.heap.size wr) (.cells #[.string x.f0,.slice Ax x.f1.length cx,.int .i64 x.f2] 42)) (.cells #[.string y.f0,.slice Ay y.f1.length cy,.int .i64 y.f2] 42))
   clear lx gx ly gy HD
   by_cases c0:x.f0.toList=y.f0.toList
   case neg=>
    have c0b:(x.f0.toList == y.f0.toList)=false:=by simpa using c0
    have c0c:(x.f0.toList != y.f0.toList)=true:=by simpa using c0
    have HF2:=Za (show res=false by rw[HF.out,← HE.out,HSS.out,Zf c0];simp)
    clear c0 HSS
    go_wp2
    go_ret
    exact⟨by rw[HF2.out];rfl,HBw.out.trans (B2.out.mono HBw.out.size)⟩
   have c0b:(x.f0.toList == y.f0.toList)=true:=by simpa using c0
   have c0c:(x.f0.toList != y.f0.toList)=false:=by simpa using c0
   rw[Ze c0,Bool.true_and] at HSS
   clear c0
   by_cases c2:x.f2=y.f2
   case neg=>
    have c2b:(x.f2 != y.f2)=true:=by simpa using c2
    have HF2:=Za (show res=false by rw[HF.out,← HE.out,HSS.out,Zf c2];simp)
    clear c2 HSS
    go_wp2
    go_ret
    exact⟨by rw[HF2.out];rfl,HBw.out.trans (B2.out.mono HBw.out.size)⟩
   have c2b:(x.f2 != y.f2)=false:=by simpa using c2
   rw[Ze c2,Bool.and_true] at HSS
   clear c2
   cases c1:decide (x.f1=y.f1) with
   | false=>
    rw[c1] at HC HSS
    have HF2:=Za (show res=false by rw[HF.out,← HE.out,HSS.out];simp)
    clear c1 HSS
    go_wp2_with (go_at_call 58;refine(HC.out _ B2.out).mono ?_;rintro e w' ⟨rfl,hb⟩)
    go_ret
    exact⟨by rw[HF2.out];rfl,HBw.out.trans ((B2.out.trans (hb.mono B2.out.size)).mono HBw.out.size)⟩
   | true=>
    rw[c1,Bool.true_and] at HSS
    rw[c1] at HC
    clear c1
    go_wp2_with (go_at_call 58;refine(HC.out _ B2.out).mono ?_;rintro e w' ⟨rfl,hb⟩)
    go_roundg (l0_0.length - (kk+1))
    case measure=>have:=HG.out;omega
    case rel=>exact⟨kk+1,by go_num,⟨by omega⟩,⟨by omega⟩,⟨HB.out.trans ((B2.out.trans (hb.mono B2.out.size)).mono HB.out.size)⟩,⟨by rw[← HE.out,HSS.out]⟩⟩
  have hltz:¬(kk:Int)<(l0_0.length:Int):=by omega
  have HF2:=Za (show res=eqT l0_1 l1_1 by
   have h1:=HK.out;have h2:=HEL.out.1
   rw[HF.out,← HE.out,List.drop_of_length_le (by omega),List.drop_of_length_le (by omega),eqF,Bool.true_and])
  clear HF HE
  go_wp2
  obtain⟨wp,rfl⟩:∃wp:World,wp=wr:=⟨_,rfl⟩
  go_loopg [8,70] l0_1.length (fun gg _ s70 wr=>∃kk:Nat,s70=.int .i64 (kk:Int)∧Aside0 (kk≤l0_1.length)∧Aside0 (l0_1.length - kk≤gg)∧Aside0 (Below wp.heap.size wp wr)∧Aside0 (eqT (l0_1.drop kk) (l1_1.drop kk)=eqT l0_1 l1_1))
  case atStart=>exact⟨0,rfl,⟨Nat.zero_le _⟩,⟨by omega⟩,⟨Below.refl _ _⟩,⟨rfl⟩⟩
  case round=>
   obtain⟨i,rfl,HK2,HG2,HB2,HE2⟩:=hrel
   have HBx:=Za (HBw.out.trans (HB2.out.mono HBw.out.size))
   replace k1:=Zu HB2.out k1
   replace k3:=Zu HB2.out k3
   have hk3:=Zc _ _ k3
   clear k2
   by_cases hlt2:i<l0_1.length
   ·have hltz2:(i:Int)<(l0_1.length:Int):=by omega
    have hlt3:i<l1_1.length:=by have:=HEL.out.2;omega
    obtain⟨adx,ex,x0,x1,x2,x3,x4⟩:=ZaB HR1.out (i:Int) (by omega) hltz2
    obtain⟨ady,ey,y0,y1,y2,y3,y4⟩:=ZaB HS1.out (i:Int) (by omega) hltz2
    cases ex
    cases ey
    rw[Int.toNat_natCast] at x0 x1 x2 x3 x4 y0 y1 y2 y3 y4
    have HD:=Za (And.intro (ZX hlt2 z77) (ZX hlt3 z77))
    rw[show ZA l0_1 (i:Int)=l0_1.getD i z77 by unfold ZA;rw[Int.toNat_natCast]] at x0 x1 x2 x3 x4
    rw[show ZA l1_1 (i:Int)=l1_1.getD i z77 by unfold ZA;rw[Int.toNat_natCast]] at y0 y1 y2 y3 y4
    generalize l0_1.getD i z77=x at x0 x1 x2 x3 x4 HD
    generalize l1_1.getD i z77=y at y0 y1 y2 y3 y4 HD
    replace x0:=Zu HBx.out x0
    replace x1:=Zu HBx.out x1
    replace x2:=Zu HBx.out x2
    replace x3:=Zu HBx.out x3
    replace x4:=Zu HBx.out x4
    replace y0:=Zu HBx.out y0
    replace y1:=Zu HBx.out y1
    replace y2:=Zu HBx.out y2
    replace y3:=Zu HBx.out y3
    replace y4:=Zu HBx.out y4
    have hlx:=Zc wr _ x0
    have hly:=Zc wr _ y0
    have HSS:=Za (show eqT (l0_1.drop i) (l1_1.drop i)=(!(tieE x y) && eqT (l0_1.drop (i+1)) (l1_1.drop (i+1))) by rw[HD.out.1,HD.out.2];rfl)
    have hte:tieE x y=(!(x.f0 == y.f0) || (!(x.f1 == y.f1) || (!(x.f2 == y.f2) || (!(x.f3 == y.f3) || (!(x.f4 == y.f4)))))):=rfl
    cases ht:tieE x y with
    | true=>
     rw[ht] at hte HSS
     have htb:=hte.symm
     have HF3:=Za (show res=false by rw[HF2.out,← HE2.out,HSS.out];rfl)
     clear ht hte HSS HD
     go_wp2
     go_quiet (fail)
     go_wp2
     go_ret
     exact⟨by rw[HF3.out];rfl,HBx.out.trans ((Zm (Zl (Below.refl wr.heap.size wr) _) _).mono HBx.out.size)⟩
    | false=>
     rw[ht] at hte HSS
     have htb:=hte.symm
     clear ht hte HD
     go_wp2
     go_quiet (fail)
     go_wp2
     go_roundg (l0_1.length - (i+1))
     case measure=>have:=HG2.out;omega
     case rel=>exact⟨i+1,by go_num,⟨by omega⟩,⟨by omega⟩,⟨HB2.out.trans ((Zm (Zl (Below.refl wr.heap.size wr) _) _).mono HB2.out.size)⟩,⟨by rw[← HE2.out,HSS.out];rfl⟩⟩
   ·have hltz2:¬(i:Int)<(l0_1.length:Int):=by omega
    have HF3:=Za (show res=true by
     have h1:=HK2.out;have h2:=HEL.out.2
     rw[HF2.out,← HE2.out,List.drop_of_length_le (by omega),List.drop_of_length_le (by omega)];rfl)
    go_wp2
    go_ret
    exact⟨by rw[HF3.out];rfl,HBx.out⟩
end Go.Proofs.Ytammpmadchekeaa.Pr
