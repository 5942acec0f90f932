/- The texts of one claim, put together by a program of this session. -/
import Derived.Deep.LoopGhost
import Derived.Shelf.Abstract
import Derived.Deep.RegionHeld3
import Derived.Lib.ItoaNum
import Derived.Lib.Join
import Derived.Test.YtoeimopgoaffcaaGreatDoorBBpc1x1
import Derived.Test.YtoeimopgoaffcaaGreatDoorBBpc1x10
import Derived.Test.YtoeimopgoaffcaaGreatDoorBBpc1x11
import Derived.Test.YtoeimopgoaffcaaGreatDoorBBpc1x12
import Derived.Test.YtoeimopgoaffcaaGreatDoorBBpc1x13
import Derived.Test.YtoeimopgoaffcaaGreatDoorBBpc1x14
import Derived.Test.YtoeimopgoaffcaaGreatDoorBBpc1x15
import Derived.Test.YtoeimopgoaffcaaGreatDoorBBpc1x16
import Derived.Test.YtoeimopgoaffcaaGreatDoorBBpc1x2
import Derived.Test.YtoeimopgoaffcaaGreatDoorBBpc1x3
import Derived.Test.YtoeimopgoaffcaaGreatDoorBBpc1x4
import Derived.Test.YtoeimopgoaffcaaGreatDoorBBpc1x5
import Derived.Test.YtoeimopgoaffcaaGreatDoorBBpc1x7
import Derived.Test.YtoeimopgoaffcaaGreatDoorBBpc1x8
import Derived.Test.YtoeimopgoaffcaaGreatDoorBBpc1x9
namespace Go.Proofs.YtoeimopgoaffcaaGreatDoor.Pr
open Go.RowKit Go.Proofs.YtoeimopgoaffcaaGreatDoorW.PrintWords Go.Proofs.YtoeimopgoaffcaaGreatDoor.Ni
def inN (n x:Int):Bool:=decide (0≤x) && decide (x<n)
theorem inN_f (n x:Int):Zby.f n x=some (inN n x):=by
 unfold Zby.f inN
 by_cases h:x≥0
 ·rw[if_pos h,Ze (show(0:Int)≤x from h),Bool.true_and]
 ·rw[if_neg h,Zf (show ¬(0:Int)≤x from h),Bool.false_and]
theorem Zep (n x:Int) (w:World):Calls Tryz.prog 84 #[.int .i64 n,.int .i64 x] w fun e w'=>e=.returned (.bool (inN n x))∧∃m,w'=w.drewN m:=
 (Zby.calls n x _ w (inN_f n x)).mono fun _ _ ⟨he,hd⟩=>⟨he,hd.out⟩
theorem inN_iff {n x:Int}:inN n x=true↔0≤x∧x<n:=by
 unfold inN;rw[Bool.and_eq_true,decide_eq_true_eq,decide_eq_true_eq]
end Go.Proofs.YtoeimopgoaffcaaGreatDoor.Pr
namespace Go.Proofs.YtoeimopgoaffcaaGreatDoor.Pr
open Go.RowKit Go.Proofs.YtoeimopgoaffcaaGreatDoorW.PrintWords Go.Proofs.YtoeimopgoaffcaaGreatDoorW.PrintLast Go.Proofs.YtoeimopgoaffcaaGreatDoorW.PrintMore
attribute [local go_sem] Z2 Z0 Zac Zab ZU ZT Z1 ZZ
set_option linter.unusedVariables false
set_option linter.unusedSimpArgs false
open Go.Proofs.YtoeimopgoaffcaaGreatDoor.Ni
set_option maxHeartbeats 4000000 in
theorem Zfz.any (p:S112→Bool) (g:Nat) (lb:Array Value) (eg:∀args w,(callFunc g args).run Tryz.prog w=.ok (.enter g args) w) (A0:Option Addr) (c0:Nat) (l0:List S112) (w:World) (hr0:Kd.C k112 w A0 l0.length l0)
  (hp:∀(W:World) (x:S112),x∈l0→Below w.heap.size w W→Calls Tryz.prog g (#[.agg #[.int .i64 x.f0,.int .i64 x.f1,.int .i64 x.f2.f0,.int .i64 x.f2.f1]] ++ lb) W fun e w'=>e=.returned (.bool (p x))∧Below W.heap.size W w') :
  Calls Tryz.prog 199 #[.slice A0 l0.length c0,.func (.func g) #[] lb] w fun e w'=>e=.returned (.int .i64 (ZaZ p l0))∧Below w.heap.size w w':=by
 have HR0:=Za hr0;have HP:=Za hp;clear hr0 hp
 have HL:l0.length≤9223372036854775807:=HR0.out.2.1
 go_enter Tryz.func199,Tryz.ntmps199
 go_wp2
 go_loopg [5,8] l0.length (fun gg _ s8 wr=>∃kk:Nat,Aside0 (kk≤l0.length)∧Aside0 (l0.length - kk≤gg)∧s8=.int .i64 kk∧Aside0 (Below w.heap.size w wr)∧Aside0 (∀j y,j<kk→l0[j]? = some y→p y=false))
 case atStart=>exact⟨0,⟨Nat.zero_le _⟩,⟨by omega⟩,rfl,⟨Below.refl _ _⟩,⟨fun j y hj=>absurd hj (Nat.not_lt_zero _)⟩⟩
 case round=>
  obtain⟨kk,HK,HG,rfl,HB,HN⟩:=hrel
  by_cases hlt:kk<l0.length
  ·have hltz:(kk:Int)<(l0.length:Int):=by omega
   obtain⟨ad,e1,hx0,hx1,hx2,hx3⟩:=Za6 HR0.out (kk:Int) (by omega) hltz
   cases e1
   replace hx0:=(HB.out.cell (Zc w _ hx0)).trans hx0
   rw[Int.toNat_natCast] at hx0
   replace hx1:=(HB.out.cell (Zc w _ hx1)).trans hx1
   rw[Int.toNat_natCast] at hx1
   replace hx2:=(HB.out.cell (Zc w _ hx2)).trans hx2
   rw[Int.toNat_natCast] at hx2
   replace hx3:=(HB.out.cell (Zc w _ hx3)).trans hx3
   rw[Int.toNat_natCast] at hx3
   have hxe:l0[kk]? = some (ZQ l0 (kk:Int)):=by
    unfold ZQ
    rw[Int.toNat_natCast,List.getD_eq_getElem?_getD,Zl hlt];rfl
   generalize ZQ l0 (kk:Int)=y at hx0 hx1 hx2 hx3 hxe
   have HX:=Za hxe;clear hxe
   have hcall:=HP.out wr y (List.mem_of_getElem? HX.out) HB.out
   cases hq:p y with
   | true=>
    have HQ:=Za hq
    rw[hq] at hcall
    clear hq
    go_wp2_with (go_at_fn g;refine hcall.mono ?_;rintro e w' ⟨rfl,hb⟩)
    go_ret
    exact⟨by rw[ZbP p l0 kk y HX.out HQ.out HN.out];rfl,HB.out.trans (hb.mono HB.out.size)⟩
   | false=>
    have HQ:=Za hq
    rw[hq] at hcall
    clear hq
    go_wp2_with (go_at_fn g;refine hcall.mono ?_;rintro e w' ⟨rfl,hb⟩)
    go_roundg (l0.length - (kk+1))
    case measure=>have:=HG.out;omega
    case rel=>
     refine⟨kk+1,⟨by omega⟩,⟨by omega⟩,by go_num,⟨HB.out.trans (hb.mono HB.out.size)⟩,⟨fun j y' hj hy=>?_⟩⟩
     by_cases e:j=kk
     ·subst e
      rw[HX.out] at hy
      cases hy
      exact HQ.out
     ·exact HN.out j y' (by omega) hy
  ·have hltz:¬(kk:Int)<(l0.length:Int):=by omega
   have:kk=l0.length:=by have:=HK.out;omega
   subst this
   go_wp2
   go_ret
   exact⟨by rw[Zbz p l0 HN.out];rfl,HB.out⟩
set_option maxHeartbeats 4000000 in
theorem ZfA.any (p:S112→Bool) (g:Nat) (lb:Array Value) (eg:∀args w,(callFunc g args).run Tryz.prog w=.ok (.enter g args) w) (A0:Option Addr) (c0:Nat) (l0:List S112) (w:World) (hr0:Kd.C k112 w A0 l0.length l0)
  (hp:∀(W:World) (x:S112),x∈l0→Below w.heap.size w W→Calls Tryz.prog g (#[.agg #[.int .i64 x.f0,.int .i64 x.f1,.int .i64 x.f2.f0,.int .i64 x.f2.f1]] ++ lb) W fun e w'=>e=.returned (.bool (p x))∧Below W.heap.size W w') :
  Calls Tryz.prog 164 #[.slice A0 l0.length c0,.func (.func g) #[] lb] w fun e w'=>e=.returned (.bool (l0.any p))∧Below w.heap.size w w':=by
 have HI:=Za (Zfz.any p g lb eg A0 c0 l0 w hr0 hp)
 clear hr0 hp
 have HE:=Za (ZcS p l0)
 go_enter Tryz.func164,Tryz.ntmps164
 go_wp2_with (go_at_call 199;refine HI.out.mono ?_;rintro e w' ⟨rfl,hb⟩)
 go_ret
 exact⟨by rw[← HE.out];rfl,hb⟩
end Go.Proofs.YtoeimopgoaffcaaGreatDoor.Pr
namespace Go.Proofs.YtoeimopgoaffcaaGreatDoor.Pr
open Go.RowKit Go.Proofs.YtoeimopgoaffcaaGreatDoorW.PrintWords Go.Proofs.YtoeimopgoaffcaaGreatDoorW.PrintLast Go.Proofs.YtoeimopgoaffcaaGreatDoorW.PrintMore
attribute [local go_sem] Z2 Z0 Zac Zab ZU ZT Z1 ZZ
set_option linter.unusedVariables false
set_option linter.unusedSimpArgs false
def Zb5.f (a0_0:Int) (a0_1:Int):Option (Bool):=if a0_0≥(-1000000) then(if a0_0≤a0_1 then(if a0_1≤1000000 then(if a0_0=1000000 then(some false) else(some (a0_1 != (-1000000)))) else(some false)) else(some false)) else(some false)
set_option maxHeartbeats 8000000 in
set_option maxRecDepth 100000 in
theorem Zb5.calls (a0_0:Int) (a0_1:Int) (r:Bool) (w:World) (h:Zb5.f a0_0 a0_1=some r) :
  Calls Tryz.prog 166 #[.agg #[.int .i64 a0_0,.int .i64 a0_1]] w fun e w'=>e=.returned (.bool r)∧Below w.heap.size w w':=by
 have hu110:=Tryz.underlying110
 have HB:=Za (Below.refl w.heap.size w)
 have H:(if a0_0≥(-1000000) then(if a0_0≤a0_1 then(if a0_1≤1000000 then(if a0_0=1000000 then(some false) else(some (a0_1 != (-1000000)))) else(some false)) else(some false)) else(some false))=some r:=h
 clear h
 by_cases c2:a0_0≥(-1000000)
 ·rw[if_pos c2] at H
  have c2b0:decide ((-1000000)≤a0_0)=true:=Ze c2
  clear c2
  by_cases c3:a0_0≤a0_1
  ·rw[if_pos c3] at H
   have c3b0:decide (a0_0≤a0_1)=true:=Ze c3
   clear c3
   by_cases c4:a0_1≤1000000
   ·rw[if_pos c4] at H
    have c4b0:decide (a0_1≤1000000)=true:=Ze c4
    clear c4
    by_cases c5:a0_0=1000000
    ·rw[if_pos c5] at H
     have c5b0:(a0_0 == 1000000)=true:=beq_iff_eq.mpr c5
     have c5b1:(a0_0 != 1000000)=false:=bne_eq_false_iff_eq.mpr c5
     clear c5
     obtain rfl:=Zg H
     go_enter Tryz.func166,Tryz.ntmps166
     go_wp2_with (first|((with_reducible refine ZI (N:=1) rfl ?_);refine ZG ?hg (N:=1) ?hd (cs:=#[.int .i64 a0_0,.int .i64 a0_1]) (t:=110) ?hr ?_;(case hd=>rfl);(case hg=>rfl);(case hr=>first|(go_simp;done)|(go_simp;rfl));intro gb166001 hg w6 hbox hb;have BK166001:=Za (hbox);have GW166001:=Za ((by rw[hg];exact(ZC (by repeat(first|(with_reducible first|exact HB.out|apply Zn|apply Zm|apply Zo)|exact HB.out))):w.heap.size≤gb166001));have GE166001:=Za ((by rw[hg];exact(ZC (by repeat(first|(with_reducible first|exact HB.out|apply Zn|apply Zm|apply Zo)|exact HB.out))):w.heap.size≤gb166001));replace HB:=Za (Zt (by repeat(first|(with_reducible first|exact HB.out|apply Zn|apply Zm|apply Zo)|exact HB.out)) hb);clear hb hbox hg;have hcz7_0:w6.cell? ⟨gb166001,0,none⟩=some (.int .i64 a0_0):=(Zp BK166001.out 0).trans rfl;have hcz7_1:w6.cell? ⟨gb166001,1,none⟩=some (.int .i64 a0_1):=(Zp BK166001.out 1).trans rfl))
     go_ret
     exact⟨by first|rfl|(simp[ZA,Zz] <;> rfl)|(simp[*,ZA,Zz] <;> rfl),by repeat(first|(with_reducible first|exact HB.out|apply Zn|apply Zm|apply Zo|refine Zq ?_ GE166001.out)|exact HB.out)⟩
    ·rw[if_neg c5] at H
     have c5b0:(a0_0 == 1000000)=false:=beq_eq_false_iff_ne.mpr c5
     have c5b1:(a0_0 != 1000000)=true:=bne_iff_ne.mpr c5
     obtain rfl:=Zg H
     go_enter Tryz.func166,Tryz.ntmps166
     go_wp2_with (first|((with_reducible refine ZI (N:=1) rfl ?_);refine ZG ?hg (N:=1) ?hd (cs:=#[.int .i64 a0_0,.int .i64 a0_1]) (t:=110) ?hr ?_;(case hd=>rfl);(case hg=>rfl);(case hr=>first|(go_simp;done)|(go_simp;rfl));intro gb166001 hg w8 hbox hb;have BK166001:=Za (hbox);have GW166001:=Za ((by rw[hg];exact(ZC (by repeat(first|(with_reducible first|exact HB.out|apply Zn|apply Zm|apply Zo)|exact HB.out))):w.heap.size≤gb166001));have GE166001:=Za ((by rw[hg];exact(ZC (by repeat(first|(with_reducible first|exact HB.out|apply Zn|apply Zm|apply Zo)|exact HB.out))):w.heap.size≤gb166001));replace HB:=Za (Zt (by repeat(first|(with_reducible first|exact HB.out|apply Zn|apply Zm|apply Zo)|exact HB.out)) hb);clear hb hbox hg;have hcz9_0:w8.cell? ⟨gb166001,0,none⟩=some (.int .i64 a0_0):=(Zp BK166001.out 0).trans rfl;have hcz9_1:w8.cell? ⟨gb166001,1,none⟩=some (.int .i64 a0_1):=(Zp BK166001.out 1).trans rfl))
     go_ret
     exact⟨by first|rfl|(simp[ZA,Zz] <;> rfl)|(simp[*,ZA,Zz] <;> rfl),by repeat(first|(with_reducible first|exact HB.out|apply Zn|apply Zm|apply Zo|refine Zq ?_ GE166001.out)|exact HB.out)⟩
   ·rw[if_neg c4] at H
    have c4b0:decide (a0_1≤1000000)=false:=Zf c4
    clear c4
    obtain rfl:=Zg H
    go_enter Tryz.func166,Tryz.ntmps166
    go_wp2_with (first|((with_reducible refine ZI (N:=1) rfl ?_);refine ZG ?hg (N:=1) ?hd (cs:=#[.int .i64 a0_0,.int .i64 a0_1]) (t:=110) ?hr ?_;(case hd=>rfl);(case hg=>rfl);(case hr=>first|(go_simp;done)|(go_simp;rfl));intro gb166001 hg w10 hbox hb;have BK166001:=Za (hbox);have GW166001:=Za ((by rw[hg];exact(ZC (by repeat(first|(with_reducible first|exact HB.out|apply Zn|apply Zm|apply Zo)|exact HB.out))):w.heap.size≤gb166001));have GE166001:=Za ((by rw[hg];exact(ZC (by repeat(first|(with_reducible first|exact HB.out|apply Zn|apply Zm|apply Zo)|exact HB.out))):w.heap.size≤gb166001));replace HB:=Za (Zt (by repeat(first|(with_reducible first|exact HB.out|apply Zn|apply Zm|apply Zo)|exact HB.out)) hb);clear hb hbox hg;have hcz11_0:w10.cell? ⟨gb166001,0,none⟩=some (.int .i64 a0_0):=(Zp BK166001.out 0).trans rfl;have hcz11_1:w10.cell? ⟨gb166001,1,none⟩=some (.int .i64 a0_1):=(Zp BK166001.out 1).trans rfl))
    go_ret
    exact⟨by first|rfl|(simp[ZA,Zz] <;> rfl)|(simp[*,ZA,Zz] <;> rfl),by repeat(first|(with_reducible first|exact HB.out|apply Zn|apply Zm|apply Zo|refine Zq ?_ GE166001.out)|exact HB.out)⟩
  ·rw[if_neg c3] at H
   have c3b0:decide (a0_0≤a0_1)=false:=Zf c3
   clear c3
   obtain rfl:=Zg H
   go_enter Tryz.func166,Tryz.ntmps166
   go_wp2_with (first|((with_reducible refine ZI (N:=1) rfl ?_);refine ZG ?hg (N:=1) ?hd (cs:=#[.int .i64 a0_0,.int .i64 a0_1]) (t:=110) ?hr ?_;(case hd=>rfl);(case hg=>rfl);(case hr=>first|(go_simp;done)|(go_simp;rfl));intro gb166001 hg w12 hbox hb;have BK166001:=Za (hbox);have GW166001:=Za ((by rw[hg];exact(ZC (by repeat(first|(with_reducible first|exact HB.out|apply Zn|apply Zm|apply Zo)|exact HB.out))):w.heap.size≤gb166001));have GE166001:=Za ((by rw[hg];exact(ZC (by repeat(first|(with_reducible first|exact HB.out|apply Zn|apply Zm|apply Zo)|exact HB.out))):w.heap.size≤gb166001));replace HB:=Za (Zt (by repeat(first|(with_reducible first|exact HB.out|apply Zn|apply Zm|apply Zo)|exact HB.out)) hb);clear hb hbox hg;have hcz13_0:w12.cell? ⟨gb166001,0,none⟩=some (.int .i64 a0_0):=(Zp BK166001.out 0).trans rfl;have hcz13_1:w12.cell? ⟨gb166001,1,none⟩=some (.int .i64 a0_1):=(Zp BK166001.out 1).trans rfl))
   go_ret
   exact⟨by first|rfl|(simp[ZA,Zz] <;> rfl)|(simp[*,ZA,Zz] <;> rfl),by repeat(first|(with_reducible first|exact HB.out|apply Zn|apply Zm|apply Zo|refine Zq ?_ GE166001.out)|exact HB.out)⟩
 ·rw[if_neg c2] at H
  have c2b0:decide ((-1000000)≤a0_0)=false:=Zf c2
  clear c2
  obtain rfl:=Zg H
  go_enter Tryz.func166,Tryz.ntmps166
  go_wp2_with (first|((with_reducible refine ZI (N:=1) rfl ?_);refine ZG ?hg (N:=1) ?hd (cs:=#[.int .i64 a0_0,.int .i64 a0_1]) (t:=110) ?hr ?_;(case hd=>rfl);(case hg=>rfl);(case hr=>first|(go_simp;done)|(go_simp;rfl));intro gb166001 hg w14 hbox hb;have BK166001:=Za (hbox);have GW166001:=Za ((by rw[hg];exact(ZC (by repeat(first|(with_reducible first|exact HB.out|apply Zn|apply Zm|apply Zo)|exact HB.out))):w.heap.size≤gb166001));have GE166001:=Za ((by rw[hg];exact(ZC (by repeat(first|(with_reducible first|exact HB.out|apply Zn|apply Zm|apply Zo)|exact HB.out))):w.heap.size≤gb166001));replace HB:=Za (Zt (by repeat(first|(with_reducible first|exact HB.out|apply Zn|apply Zm|apply Zo)|exact HB.out)) hb);clear hb hbox hg;have hcz15_0:w14.cell? ⟨gb166001,0,none⟩=some (.int .i64 a0_0):=(Zp BK166001.out 0).trans rfl;have hcz15_1:w14.cell? ⟨gb166001,1,none⟩=some (.int .i64 a0_1):=(Zp BK166001.out 1).trans rfl))
  go_ret
  exact⟨by first|rfl|(simp[ZA,Zz] <;> rfl)|(simp[*,ZA,Zz] <;> rfl),by repeat(first|(with_reducible first|exact HB.out|apply Zn|apply Zm|apply Zo|refine Zq ?_ GE166001.out)|exact HB.out)⟩
end Go.Proofs.YtoeimopgoaffcaaGreatDoor.Pr
namespace Go.Proofs.YtoeimopgoaffcaaGreatDoor.Pr
open Go.RowKit Go.Proofs.YtoeimopgoaffcaaGreatDoorW.PrintWords Go.Proofs.YtoeimopgoaffcaaGreatDoorW.PrintLast Go.Proofs.YtoeimopgoaffcaaGreatDoorW.PrintMore
attribute [local go_sem] Z2 Z0 Zac Zab ZU ZT Z1 ZZ
set_option linter.unusedVariables false
set_option linter.unusedSimpArgs false
open Go.Proofs.YtoeimopgoaffcaaGreatDoor.Ni
def ivOkB (lo hi:Int):Bool:=decide (-1000000≤lo) && (decide (lo≤hi) && (decide (hi≤1000000) && (!(decide (lo=1000000)) && !(decide (hi=-1000000)))))
theorem ivOk_f (lo hi:Int):Zb5.f lo hi=some (ivOkB lo hi):=by
 unfold Zb5.f ivOkB
 by_cases h1:lo≥-1000000
 ·rw[if_pos h1,Ze (show(-1000000:Int)≤lo from h1),Bool.true_and]
  by_cases h2:lo≤hi
  ·rw[if_pos h2,Ze h2,Bool.true_and]
   by_cases h3:hi≤1000000
   ·rw[if_pos h3,Ze h3,Bool.true_and]
    by_cases h4:lo=1000000
    ·rw[if_pos h4,Ze h4];rfl
    ·rw[if_neg h4,Zf h4]
     congr 1
   ·rw[if_neg h3,Zf h3];rfl
  ·rw[if_neg h2,Zf h2];rfl
 ·rw[if_neg h1,Zf (show ¬(-1000000:Int)≤lo from h1)];rfl
def ZbH (n:Int) (x:S112):Bool:=inN n x.f0 && (inN n x.f1 && ivOkB x.f2.f0 x.f2.f1)
def Zbw (n:Int) (ls:List S112):Bool:=!(decide (n<1)) && (!(decide (8<n)) && (!(decide (40<ls.length)) && !(ls.any fun x=>!ZbH n x)))
def ZbY.f (a0_0:Int) (l0_1:List (S112)):Option Bool:=some (Zbw a0_0 l0_1)
set_option maxHeartbeats 4000000 in
theorem ZeG.clo (B:Nat) (n:Int) (W:World) (hB:W.cell? ⟨B,0,none⟩=some (.int .i64 n)) (x:S112) :
  Calls Tryz.prog 165 #[.agg #[.int .i64 x.f0,.int .i64 x.f1,.int .i64 x.f2.f0,.int .i64 x.f2.f1],.pointer (some ⟨B,0,none⟩)] W fun e w'=>e=.returned (.bool (!ZbH n x))∧Below W.heap.size W w':=by
 have hlt:B<W.heap.size:=Zc W _ hB
 have hu:=Tryz.underlying112
 have hu2:=Tryz.underlying110
 have hu3:=Tryz.underlying54
 obtain⟨f0,f1,⟨f2,f3⟩⟩:=x
 have HE:=Za (show ZbH n ⟨f0,f1,⟨f2,f3⟩⟩=(inN n f0 && (inN n f1 && ivOkB f2 f3)) from rfl)
 have HI:=Za fun (w:World)=>Zb5.calls f2 f3 _ w (ivOk_f f2 f3)
 cases b1:inN n f0 with
 | false=>
  have HF:=Za (show ZbH n ⟨f0,f1,⟨f2,f3⟩⟩=false by rw[HE.out,b1];rfl)
  clear HE
  go_enter Tryz.func165,Tryz.ntmps165
  go_wp2_with (go_at_call 84;refine(Zep _ _ _).mono ?_;rintro e w' ⟨rfl,nd,rfl⟩)
  go_ret
  exact⟨by rw[HF.out];rfl,by repeat(first|exact Below.refl _ _|apply Zn|apply Zm|apply ZaK)⟩
 | true=>
 cases b2:inN n f1 with
 | false=>
  have HF:=Za (show ZbH n ⟨f0,f1,⟨f2,f3⟩⟩=false by rw[HE.out,b1,b2];rfl)
  clear HE
  go_enter Tryz.func165,Tryz.ntmps165
  go_wp2_with (go_at_call 84;refine(Zep _ _ _).mono ?_;rintro e w' ⟨rfl,nd,rfl⟩)
  go_ret
  exact⟨by rw[HF.out];rfl,by repeat(first|exact Below.refl _ _|apply Zn|apply Zm|apply ZaK)⟩
 | true=>
 have HF:=Za (show ZbH n ⟨f0,f1,⟨f2,f3⟩⟩=ivOkB f2 f3 by rw[HE.out,b1,b2];rfl)
 clear HE
 go_enter Tryz.func165,Tryz.ntmps165
 go_wp2_with (first|(go_at_call 84;refine(Zep _ _ _).mono ?_;rintro e w' ⟨rfl,nd,rfl⟩)|(go_at_call 166;refine(HI.out _).mono ?_;rintro e w' ⟨rfl,hb⟩))
 go_ret
 exact⟨by rw[HF.out];rfl,Zt (by repeat(first|exact Below.refl _ _|apply Zn|apply Zm|apply ZaK)) hb⟩
set_option maxHeartbeats 4000000 in
set_option maxRecDepth 100000 in
theorem ZbY.calls (a0_0:Int) (A0_1:Option Addr) (c0_1:Nat) (l0_1:List (S112)) (r:Bool) (w:World) (hr0_1:Kd.C k112 w A0_1 l0_1.length l0_1) (hc0_1:l0_1.length≤c0_1) (h:ZbY.f a0_0 l0_1=some r) :
  Calls Tryz.prog 105 #[.agg #[.int .i64 a0_0,.slice A0_1 l0_1.length c0_1]] w fun e w'=>e=.returned (.bool r)∧Below w.heap.size w w':=by
 obtain rfl:=Zg h
 have hL:l0_1.length≤9223372036854775807:=hr0_1.2.1
 have HC:=Za fun (W:World) (B:Nat) (hb:Below w.heap.size w W) (hcell:W.cell? ⟨B,0,none⟩=some (.int .i64 a0_0))=>ZfA.any (fun x=>!ZbH a0_0 x) 165 #[.pointer (some ⟨B,0,none⟩)] (enters_of Tryz.func165 (by kernel_rfl) rfl) A0_1 c0_1 l0_1 W (Zb hr0_1 hb)
    (fun W' x _ hb'=>ZeG.clo B a0_0 W' (ZE hb' hcell) x)
 have hu:=Tryz.underlying54
 have HB:=Za (Zn (Below.refl w.heap.size w) (.cells #[.int .i64 a0_0,.slice A0_1 l0_1.length c0_1] 54))
 clear hr0_1 h
 cases b1:decide (a0_0<1) with
 | true=>
  have HF:=Za (show Zbw a0_0 l0_1=false by unfold Zbw;rw[b1];rfl)
  go_enter Tryz.func105,Tryz.ntmps105
  go_wp2
  go_ret
  exact⟨by rw[HF.out];rfl,HB.out⟩
 | false=>
 cases b2:decide (8<a0_0) with
 | true=>
  have HF:=Za (show Zbw a0_0 l0_1=false by unfold Zbw;rw[b1,b2];rfl)
  go_enter Tryz.func105,Tryz.ntmps105
  go_wp2
  go_ret
  exact⟨by rw[HF.out];rfl,HB.out⟩
 | false=>
 by_cases q3:40<l0_1.length
 ·have b3:decide (40<l0_1.length)=true:=Ze q3
  have z3:(40:Int)<(l0_1.length:Int):=by omega
  have HF:=Za (show Zbw a0_0 l0_1=false by unfold Zbw;rw[b1,b2,b3];rfl)
  clear b3 q3
  go_enter Tryz.func105,Tryz.ntmps105
  go_wp2
  go_ret
  exact⟨by rw[HF.out];rfl,HB.out⟩
 ·have b3:decide (40<l0_1.length)=false:=Zf q3
  have z3:¬(40:Int)<(l0_1.length:Int):=by omega
  have HF:=Za (show Zbw a0_0 l0_1=!(l0_1.any fun x=>!ZbH a0_0 x) by unfold Zbw;rw[b1,b2,b3];rfl)
  clear b3 q3
  generalize l0_1.any (fun x=>!ZbH a0_0 x)=q at HC HF
  go_enter Tryz.func105,Tryz.ntmps105
  go_wp2_with fail
  refine(HC.out _ _ HB.out (by go_simp)).mono ?_
  rintro e w' ⟨rfl,hb⟩
  go_wp2
  go_ret
  exact⟨by rw[HF.out];rfl,HB.out.trans (hb.mono HB.out.size)⟩
def ZaA.f (k:Nat) (l0_0:List (S39)) (l0_1:List (S82)) (a0_2:Int) (l1_0:List Int) (l1_1:List Int):Option (Int×List S112×Bool):=(ZbZ.f k l0_0 l0_1 a0_2 l1_0 l1_1).bind fun t=>(if t=true then((Zy.f k l0_0 l0_1 a0_2 l1_0 l1_1).bind fun b=>((ZbY.f b.1 b.2.1).bind fun t=>(if t=true then(some (b.1,b.2.1,true)) else(some (0,([]:List S112),false))))) else(some (0,([]:List S112),false)))
set_option maxHeartbeats 8000000 in
set_option maxRecDepth 100000 in
theorem ZaA.calls (k:Nat) (A0_0:Option Addr) (c0_0:Nat) (l0_0:List (S39)) (A0_1:Option Addr) (c0_1:Nat) (l0_1:List (S82)) (a0_2:Int) (A1_0:Option Addr) (c1_0:Nat) (l1_0:List Int) (A1_1:Option Addr) (c1_1:Nat) (l1_1:List Int) (r1:Int) (r2:List S112) (r3:Bool) (w:World) (hr0_0:Kd.C k39 w A0_0 l0_0.length l0_0) (hc0_0:l0_0.length≤c0_0) (hr0_1:Kd.C k82 w A0_1 l0_1.length l0_1) (hc0_1:l0_1.length≤c0_1) (hr1_0:Kd.C (Kd.int .i64) w A1_0 l1_0.length l1_0) (hc1_0:l1_0.length≤c1_0) (hr1_1:Kd.C (Kd.int .i64) w A1_1 l1_1.length l1_1) (hc1_1:l1_1.length≤c1_1) (ht:TW w) (h:ZaA.f k l0_0 l0_1 a0_2 l1_0 l1_1=some (r1,r2,r3)) :
  Calls Tryz.prog 32 #[.agg #[.slice A0_0 l0_0.length c0_0,.slice A0_1 l0_1.length c0_1,.int .i64 a0_2],.agg #[.slice A1_0 l1_0.length c1_0,.slice A1_1 l1_1.length c1_1]] w fun e w'=>∃v1_:Value,e=.returned (.tuple #[.agg #[.int .i64 r1,v1_],.bool r3])∧Kd.R k112 112 w' w.heap.size (fun _=>True) v1_ r2∧Below w.heap.size w w':=by
 unfold ZaA.f at h
 obtain⟨b,hb_,h⟩:=Option.bind_eq_some_iff.1 h
 have HCO:=Za fun (W:World) (hb:Below w.heap.size w W)=>ZbZ.calls k A0_0 c0_0 l0_0 A0_1 c0_1 l0_1 a0_2 A1_0 c1_0 l1_0 A1_1 c1_1 l1_1 b W (Zb hr0_0 hb) hc0_0 (Zb hr0_1 hb) hc0_1 (Zb hr1_0 hb) hc1_0 (Zb hr1_1 hb) hc1_1 hb_
 have HP:=Za fun (W:World) (q1:Int) (q2:List S112) (q3:List ByteArray) (hb:Below w.heap.size w W) (hP:Zy.f k l0_0 l0_1 a0_2 l1_0 l1_1=some (q1,q2,q3))=>Zy.calls k A0_0 c0_0 l0_0 A0_1 c0_1 l0_1 a0_2 A1_0 c1_0 l1_0 A1_1 c1_1 l1_1 q1 q2 q3 W (Zb hr0_0 hb) hc0_0 (Zb hr0_1 hb) hc0_1 (Zb hr1_0 hb) hc1_0 (Zb hr1_1 hb) hc1_1 (TW.below ht hb) hP
 have HB3:=Za (show Below w.heap.size w (((w.alloc (.cells #[.slice A0_0 l0_0.length c0_0,.slice A0_1 l0_1.length c0_1,.int .i64 a0_2] 25)).alloc (.cells #[.slice A1_0 l1_0.length c1_0,.slice A1_1 l1_1.length c1_1] 58)).alloc (.cells #[.int .i64 0,.slice none 0 0] 54)) from Zn (Zn (Zn (Below.refl w.heap.size w) _) _) _)
 have K:=Za (show(((w.alloc (.cells #[.slice A0_0 l0_0.length c0_0,.slice A0_1 l0_1.length c0_1,.int .i64 a0_2] 25)).alloc (.cells #[.slice A1_0 l1_0.length c1_0,.slice A1_1 l1_1.length c1_1] 58)).alloc (.cells #[.int .i64 0,.slice none 0 0] 54)).cell? ⟨w.heap.size,0,none⟩=some (.slice A0_0 l0_0.length c0_0)∧(((w.alloc (.cells #[.slice A0_0 l0_0.length c0_0,.slice A0_1 l0_1.length c0_1,.int .i64 a0_2] 25)).alloc (.cells #[.slice A1_0 l1_0.length c1_0,.slice A1_1 l1_1.length c1_1] 58)).alloc (.cells #[.int .i64 0,.slice none 0 0] 54)).cell? ⟨w.heap.size,1,none⟩=some (.slice A0_1 l0_1.length c0_1)∧(((w.alloc (.cells #[.slice A0_0 l0_0.length c0_0,.slice A0_1 l0_1.length c0_1,.int .i64 a0_2] 25)).alloc (.cells #[.slice A1_0 l1_0.length c1_0,.slice A1_1 l1_1.length c1_1] 58)).alloc (.cells #[.int .i64 0,.slice none 0 0] 54)).cell? ⟨w.heap.size,2,none⟩=some (.int .i64 a0_2)∧(((w.alloc (.cells #[.slice A0_0 l0_0.length c0_0,.slice A0_1 l0_1.length c0_1,.int .i64 a0_2] 25)).alloc (.cells #[.slice A1_0 l1_0.length c1_0,.slice A1_1 l1_1.length c1_1] 58)).alloc (.cells #[.int .i64 0,.slice none 0 0] 54)).cell? ⟨w.heap.size+1,0,none⟩=some (.slice A1_0 l1_0.length c1_0)∧(((w.alloc (.cells #[.slice A0_0 l0_0.length c0_0,.slice A0_1 l0_1.length c0_1,.int .i64 a0_2] 25)).alloc (.cells #[.slice A1_0 l1_0.length c1_0,.slice A1_1 l1_1.length c1_1] 58)).alloc (.cells #[.int .i64 0,.slice none 0 0] 54)).cell? ⟨w.heap.size+1,1,none⟩=some (.slice A1_1 l1_1.length c1_1) from⟨by go_simp,by go_simp,by go_simp,by go_simp,by go_simp⟩)
 have B0:=Za (show(((w.alloc (.cells #[.slice A0_0 l0_0.length c0_0,.slice A0_1 l0_1.length c0_1,.int .i64 a0_2] 25)).alloc (.cells #[.slice A1_0 l1_0.length c1_0,.slice A1_1 l1_1.length c1_1] 58)).alloc (.cells #[.int .i64 0,.slice none 0 0] 54)).heap[w.heap.size+2]? = some (Obj.cells #[.int .i64 0,.slice none 0 0] 54 (0,0)) by
  have h_:=ZcC ((w.alloc (.cells #[.slice A0_0 l0_0.length c0_0,.slice A0_1 l0_1.length c0_1,.int .i64 a0_2] 25)).alloc (.cells #[.slice A1_0 l1_0.length c1_0,.slice A1_1 l1_1.length c1_1] 58)) (.cells #[.int .i64 0,.slice none 0 0] 54)
  simpa using h_)
 have HN:=Za (Nat.le_add_right w.heap.size 2)
 have hu:=Tryz.underlying25
 have hu2:=Tryz.underlying58
 have hu3:=Tryz.underlying54
 clear hr0_0 hc0_0 hr0_1 hc0_1 hr1_0 hc1_0 hr1_1 hc1_1 hb_ ht
 cases b with
 | false=>
  obtain⟨e1,e2,e3⟩:(0:Int)=r1∧[]=r2∧false=r3:=by
   have h_:=Zg ((if_neg (by simp)).symm.trans h)
   exact⟨congrArg Prod.fst h_,congrArg (fun z=>z.2.1) h_,congrArg (fun z=>z.2.2) h_⟩
  subst e1;subst e2;subst e3;clear h HP
  go_enter Tryz.func32,Tryz.ntmps32
  go_wp2_with (go_at_call 103;refine(HCO.out _ HB3.out).mono ?_;rintro e w4 ⟨rfl,hb⟩;have k0:=ZE hb K.out.1;have k1:=ZE hb K.out.2.1;have k2:=ZE hb K.out.2.2.1;have m0:=ZE hb K.out.2.2.2.1;have m1:=ZE hb K.out.2.2.2.2;have B4:=Za (Zx B0.out hb);have z0:w4.cell? ⟨w.heap.size+2,0,none⟩=some (.int .i64 0):=(Zp B4.out 0).trans rfl;have z1:w4.cell? ⟨w.heap.size+2,1,none⟩=some (.slice none 0 0):=(Zp B4.out 1).trans rfl;have fz0:=Zs B4.out 0;have fz1:=Zs B4.out 1;have HB4:=Za (HB3.out.trans (hb.mono HB3.out.size));clear hb)
  refine bodyPost_ret (Zcf rfl _ _ (w.heap.size+2) 54 #[.int .i64 0,.slice none 0 0] (0,0) _ rfl (ZP (cs:=#[.int .i64 0,.slice none 0 0]) (ZP (cs:=#[.int .i64 0,.slice none 0 0]) B4.out 0 _ rfl) 1 _ rfl) Tryz.underlying54 rfl (by kernel_rfl)) rfl ?_
  exact⟨_,rfl,Kd.R_nil _ _ _ _ _,Zq (Zq HB4.out HN.out) HN.out⟩
 | true=>
  replace h:=(if_pos rfl).symm.trans h
  obtain⟨⟨q1,q2,q3⟩,hP,h⟩:=Option.bind_eq_some_iff.1 h
  dsimp only at h
  obtain⟨c,hC,h⟩:=Option.bind_eq_some_iff.1 h
  have HPJ:=Za fun (W:World) (hb:Below w.heap.size w W)=>HP.out W q1 q2 q3 hb hP
  have HS:=Za fun (W:World) (A:Option Addr) (c_:Nat) (hc:q2.length≤c_) (hr:Kd.C k112 W A q2.length q2)=>ZbY.calls q1 A c_ q2 c W hr hc hC
  clear hP hC HP
  cases c with
  | false=>
   obtain⟨e1,e2,e3⟩:(0:Int)=r1∧[]=r2∧false=r3:=by
    have h_:=Zg ((if_neg (by simp)).symm.trans h)
    exact⟨congrArg Prod.fst h_,congrArg (fun z=>z.2.1) h_,congrArg (fun z=>z.2.2) h_⟩
   subst e1;subst e2;subst e3;clear h
   go_enter Tryz.func32,Tryz.ntmps32
   go_wp2_with (first|(go_at_call 103;refine(HCO.out _ HB3.out).mono ?_;rintro e w4 ⟨rfl,hb⟩;have k0:=ZE hb K.out.1;have k1:=ZE hb K.out.2.1;have k2:=ZE hb K.out.2.2.1;have m0:=ZE hb K.out.2.2.2.1;have m1:=ZE hb K.out.2.2.2.2;have B4:=Za (Zx B0.out hb);have z0:w4.cell? ⟨w.heap.size+2,0,none⟩=some (.int .i64 0):=(Zp B4.out 0).trans rfl;have z1:w4.cell? ⟨w.heap.size+2,1,none⟩=some (.slice none 0 0):=(Zp B4.out 1).trans rfl;have fz0:=Zs B4.out 0;have fz1:=Zs B4.out 1;have HB4:=Za (HB3.out.trans (hb.mono HB3.out.size));clear hb)|(go_at_call 104;refine(HPJ.out _ HB4.out).mono ?_;rintro e w5 ⟨v1,v2,rfl,ho,ho2,hb⟩;obtain⟨A5,c5,e5⟩:=Kd.R_slice ho;subst e5;obtain⟨A6,c6,e6⟩:=Kd.R_slice ho2;subst e6;have HO:=Za (Kd.R_lower ho HB4.out.size);have B5:=Za (Zx B4.out hb);have HB5:=Za (HB4.out.trans (hb.mono HB4.out.size));clear ho ho2 hb k0 k1 k2 m0 m1 z0 z1 fz0 fz1)|(go_at_call 105;refine(HS.out _ A5 c5 (Kd.R_reads' HO.out).2.1 (Zb (Kd.R_reads' HO.out).2.2 (Zn (Below.refl _ _) _))).mono ?_;rintro e w6 ⟨rfl,hb⟩;have B6:=Za (Zx (Zv B5.out _) hb);have B7:=Za (Zx (ZcC w5 (.cells #[.int .i64 q1,.slice A5 q2.length c5] 54)) hb);have HO6:=Za (Kd.R_below (Kd.R_alloc HO.out _) hb);have HB6:=Za (Zt (Zn HB5.out _) hb);have y0:w6.cell? ⟨w5.heap.size,0,none⟩=some (.int .i64 q1):=(Zp B7.out 0).trans rfl;have y1:w6.cell? ⟨w5.heap.size,1,none⟩=some (.slice A5 q2.length c5):=(Zp B7.out 1).trans rfl;have z0:w6.cell? ⟨w.heap.size+2,0,none⟩=some (.int .i64 0):=(Zp B6.out 0).trans rfl;have z1:w6.cell? ⟨w.heap.size+2,1,none⟩=some (.slice none 0 0):=(Zp B6.out 1).trans rfl;have fz0:=Zs B6.out 0;have fz1:=Zs B6.out 1;clear hb))
   refine bodyPost_ret (Zcf rfl _ _ (w.heap.size+2) 54 #[.int .i64 0,.slice none 0 0] (0,0) _ rfl (ZP (cs:=#[.int .i64 0,.slice none 0 0]) (ZP (cs:=#[.int .i64 0,.slice none 0 0]) B6.out 0 _ rfl) 1 _ rfl) Tryz.underlying54 rfl (by kernel_rfl)) rfl ?_
   exact⟨_,rfl,Kd.R_nil _ _ _ _ _,Zq (Zq HB6.out HN.out) HN.out⟩
  | true=>
   obtain⟨e1,e2,e3⟩:q1=r1∧q2=r2∧true=r3:=by
    have h_:=Zg ((if_pos rfl).symm.trans h)
    exact⟨congrArg Prod.fst h_,congrArg (fun z=>z.2.1) h_,congrArg (fun z=>z.2.2) h_⟩
   subst e1;subst e2;subst e3;clear h
   go_enter Tryz.func32,Tryz.ntmps32
   go_wp2_with (first|(go_at_call 103;refine(HCO.out _ HB3.out).mono ?_;rintro e w4 ⟨rfl,hb⟩;have k0:=ZE hb K.out.1;have k1:=ZE hb K.out.2.1;have k2:=ZE hb K.out.2.2.1;have m0:=ZE hb K.out.2.2.2.1;have m1:=ZE hb K.out.2.2.2.2;have B4:=Za (Zx B0.out hb);have z0:w4.cell? ⟨w.heap.size+2,0,none⟩=some (.int .i64 0):=(Zp B4.out 0).trans rfl;have z1:w4.cell? ⟨w.heap.size+2,1,none⟩=some (.slice none 0 0):=(Zp B4.out 1).trans rfl;have fz0:=Zs B4.out 0;have fz1:=Zs B4.out 1;have HB4:=Za (HB3.out.trans (hb.mono HB3.out.size));clear hb)|(go_at_call 104;refine(HPJ.out _ HB4.out).mono ?_;rintro e w5 ⟨v1,v2,rfl,ho,ho2,hb⟩;obtain⟨A5,c5,e5⟩:=Kd.R_slice ho;subst e5;obtain⟨A6,c6,e6⟩:=Kd.R_slice ho2;subst e6;have HO:=Za (Kd.R_lower ho HB4.out.size);have B5:=Za (Zx B4.out hb);have HB5:=Za (HB4.out.trans (hb.mono HB4.out.size));clear ho ho2 hb k0 k1 k2 m0 m1 z0 z1 fz0 fz1)|(go_at_call 105;refine(HS.out _ A5 c5 (Kd.R_reads' HO.out).2.1 (Zb (Kd.R_reads' HO.out).2.2 (Zn (Below.refl _ _) _))).mono ?_;rintro e w6 ⟨rfl,hb⟩;have B6:=Za (Zx (Zv B5.out _) hb);have B7:=Za (Zx (ZcC w5 (.cells #[.int .i64 q1,.slice A5 q2.length c5] 54)) hb);have HO6:=Za (Kd.R_below (Kd.R_alloc HO.out _) hb);have HB6:=Za (Zt (Zn HB5.out _) hb);have y0:w6.cell? ⟨w5.heap.size,0,none⟩=some (.int .i64 q1):=(Zp B7.out 0).trans rfl;have y1:w6.cell? ⟨w5.heap.size,1,none⟩=some (.slice A5 q2.length c5):=(Zp B7.out 1).trans rfl;have z0:w6.cell? ⟨w.heap.size+2,0,none⟩=some (.int .i64 0):=(Zp B6.out 0).trans rfl;have z1:w6.cell? ⟨w.heap.size+2,1,none⟩=some (.slice none 0 0):=(Zp B6.out 1).trans rfl;have fz0:=Zs B6.out 0;have fz1:=Zs B6.out 1;clear hb))
   refine bodyPost_ret (Zcf rfl _ _ (w.heap.size+2) 54 #[.int .i64 q1,.slice A5 q2.length c5] (0,0) _ rfl (ZP (cs:=#[.int .i64 q1,.slice none 0 0]) (ZP (cs:=#[.int .i64 0,.slice none 0 0]) B6.out 0 _ rfl) 1 _ rfl) Tryz.underlying54 rfl (by kernel_rfl)) rfl ?_
   exact⟨_,rfl,Kd.R_mono (Kd.R_far (p:=⟨w.heap.size+2,1,none⟩) (Kd.R_far (p:=⟨w.heap.size+2,0,none⟩) (Kd.R_types HO6.out B6.out (by decide)) (fun _ hk=>hk.2) _) (fun _ hk=>hk.2) _) (fun _ _=>trivial),Zq (Zq HB6.out HN.out) HN.out⟩
set_option maxHeartbeats 4000000 in
set_option maxRecDepth 100000 in
theorem markSimple_k (w0 w:World) (b:Nat) (n:Int) (v:Value) (xs:List S112) (hB:Below w0.heap.size w0 w) (hs:Kd.R k112 112 w w0.heap.size (fun k=>k<b) v xs) (hl:xs.length≤1048576) (a:Int) (h0:0≤a) (h1:a≤562949953421312) :
  Calls Tryz.prog 36 #[.agg #[.int .i64 n,v],.int .i64 a] w fun e w'=>e=.returned (.int .i64 (a+4 * xs.length))∧Kd.R k112 112 w' w0.heap.size (fun k=>k<b) v (Zbn a xs.length)∧Below w0.heap.size w0 w'∧Kept w w' (fun k=>k<b):=by
 obtain⟨A,c,rfl⟩:=Kd.R_slice hs
 have HS:=Za hs;have HB:=Za hB
 have hu:=Tryz.underlying54
 have hsz:=hB.size
 have HC1:=Za fun (W:World) (hb:Below w.heap.size w W)=>markLinkS_k w0 W _ _ xs (HB.out.trans (hb.mono hsz)) (Kd.R_below HS.out hb) hl a h0 h1
 have B1:=Za (Zn (Below.refl w.heap.size w) (.cells #[.int .i64 n,.slice A xs.length c] 54))
 clear hs hB hl h0 h1
 go_enter Tryz.func36,Tryz.ntmps36
 go_wp2_with fail
 refine(HC1.out _ B1.out).mono ?_
 rintro e w1 ⟨rfl,hr1,hb1,hk1⟩
 have HR1:=Za hr1;have HB1:=Za hb1
 have HK1:=Za ((Kept.of_below B1.out (fun k=>k<b)).then_ hk1 (fun k hk=>.inl hk))
 clear hb1 hk1 hr1
 go_wp2
 go_ret
 exact⟨rfl,HR1.out,HB1.out,HK1.out⟩
set_option maxHeartbeats 4000000 in
set_option maxRecDepth 100000 in
theorem laws_eqNode.same (a0:ByteArray) (A1:Option Addr) (c1:Nat) (A1':Option Addr) (c1':Nat) (l1:List Int) (a2:Int) (w:World) (hr1:Kd.C (Kd.int .i64) w A1 l1.length l1) (hc1:l1.length≤c1) (hr1':Kd.C (Kd.int .i64) w A1' l1.length l1) (hc1':l1.length≤c1') :
  Calls Tryz.prog 137 #[.agg #[.string a0,.slice A1 l1.length c1,.int .i64 a2],.agg #[.string a0,.slice A1' l1.length c1',.int .i64 a2]] w fun e w'=>e=.returned (.bool true)∧Below w.heap.size w w':=by
 have hu:=Tryz.underlying39
 have H1:=Za fun (W:World) (hb:Below w.heap.size w W)=>(ZaL.calls (2 ^ 64) A1 c1 l1 A1' c1' l1 true W (Zb hr1 hb) hc1 (Zb hr1' hb) hc1' (Zdo l1 hr1.2.1 (2 ^ 64) (Nat.le_refl _))).mono fun e w' ⟨he,hd⟩=>(And.intro he hd.below:e=Ending.returned (.bool true)∧Below W.heap.size W w')
 clear hr1 hc1 hr1' hc1'
 have HB0:=Za (Zn (Zn (Below.refl w.heap.size w) (.cells #[.string a0,.slice A1 l1.length c1,.int .i64 a2] 39)) (.cells #[.string a0,.slice A1' l1.length c1',.int .i64 a2] 39))
 go_enter Tryz.func137,Tryz.ntmps137
 go_wp2_with fail
 refine(H1.out _ HB0.out).mono ?_
 rintro e w1 ⟨rfl,hb⟩
 have HB1:=Za (HB0.out.trans (hb.mono HB0.out.size))
 have s2:w1.cell? ⟨w.heap.size,2,none⟩=some (.int .i64 a2):=ZE hb (by go_simp)
 have t2:w1.cell? ⟨w.heap.size+1,2,none⟩=some (.int .i64 a2):=ZE hb (by go_simp)
 clear hb
 go_wp2
 go_ret
 exact⟨rfl,HB1.out⟩
set_option maxHeartbeats 4000000 in
set_option maxRecDepth 100000 in
theorem laws_eqNodeS.same (A0:Option Addr) (c0:Nat) (A0':Option Addr) (c0':Nat) (l0:List (S39)) (w:World) (hr0:Kd.C k39 w A0 l0.length l0) (hc0:l0.length≤c0) (hr0':Kd.C k39 w A0' l0.length l0) (hc0':l0.length≤c0') :
  Calls Tryz.prog 62 #[.slice A0 l0.length c0,.slice A0' l0.length c0'] w fun e w'=>e=.returned (.bool true)∧Below w.heap.size w w':=by
 have hL:l0.length≤9223372036854775807:=hr0.2.1
 have HR:=Za hr0
 have HS:=Za hr0'
 clear hr0 hr0'
 go_enter Tryz.func62,Tryz.ntmps62
 go_wp2
 go_loopg [5] l0.length (fun gg s5 wr=>∃kk:Nat,Aside0 (kk≤l0.length)∧Aside0 (l0.length - kk≤gg)∧s5=.int .i64 kk∧Aside0 (Below w.heap.size w wr))
 case atStart=>exact⟨0,⟨Nat.zero_le _⟩,⟨by omega⟩,rfl,⟨Below.refl _ _⟩⟩
 case round=>
  obtain⟨kk,HK,HG,rfl,HBr⟩:=hrel
  by_cases hlt:kk<l0.length
  ·have hltz:(kk:Int)<(l0.length:Int):=by omega
   obtain⟨adx,A1x,c1x,ex,hx0,hx1,hx2,l1x,g1x⟩:=ZaG HR.out (kk:Int) (by omega) hltz
   obtain⟨ady,A1y,c1y,ey,hy0,hy1,hy2,l1y,g1y⟩:=ZaG HS.out (kk:Int) (by omega) hltz
   cases ex
   cases ey
   rw[Int.toNat_natCast] at hx0 hx1 hx2 hy0 hy1 hy2
   generalize ZD l0 (kk:Int)=y at hx0 hx1 hx2 l1x g1x hy0 hy1 hy2 l1y g1y
   replace hx0:=ZE HBr.out hx0
   replace hx1:=ZE HBr.out hx1
   replace hx2:=ZE HBr.out hx2
   replace hy0:=ZE HBr.out hy0
   replace hy1:=ZE HBr.out hy1
   replace hy2:=ZE HBr.out hy2
   have hltx:=Zc wr _ hx0
   have hlty:=Zc wr _ hy0
   have G1x:=Za g1x;have G1y:=Za g1y;clear g1x g1y
   go_wp2_with fail
   go_region_held3 (fun w'=>Below wr.heap.size wr w'∧w'.cell? (adx.add (kk * 3))=some (.string y.f0)∧w'.cell? ⟨(adx.add (kk * 3)).block,(adx.add (kk * 3)).off+1,none⟩=some (.slice A1x y.f1.length c1x)∧w'.cell? ⟨(adx.add (kk * 3)).block,(adx.add (kk * 3)).off+2,none⟩=some (.int .i64 y.f2)∧w'.cell? (ady.add (kk * 3))=some (.string y.f0)∧w'.cell? ⟨(ady.add (kk * 3)).block,(ady.add (kk * 3)).off+1,none⟩=some (.slice A1y y.f1.length c1y)∧w'.cell? ⟨(ady.add (kk * 3)).block,(ady.add (kk * 3)).off+2,none⟩=some (.int .i64 y.f2))
    (first|(refine⟨by repeat(first|(with_reducible first|exact Below.refl _ _|apply Zn|apply Zm|apply Zo|exact(‹Below wr.heap.size wr _∧_› : Below wr.heap.size wr _∧_).1)|exact Below.refl _ _),?_⟩;go_simp;done)|(have HQ_:=Zt (‹Below wr.heap.size wr _∧_› : Below wr.heap.size wr _∧_).1 hb;exact⟨HQ_,ZE HQ_ hx0,ZE HQ_ hx1,ZE HQ_ hx2,ZE HQ_ hy0,ZE HQ_ hy1,ZE HQ_ hy2⟩))
    (first|(go_at_call 137;(refine(laws_eqNode.same y.f0 A1x c1x A1y c1y y.f1 y.f2 _ ?p0 l1x ?p1 l1y).mono ?_);(case p0=>exact(Zb (Zb G1x.out HBr.out) (‹Below wr.heap.size wr _∧_› : Below wr.heap.size wr _∧_).1));(case p1=>exact(Zb (Zb G1y.out HBr.out) (‹Below wr.heap.size wr _∧_› : Below wr.heap.size wr _∧_).1));rintro e w3 ⟨rfl,hb⟩))
   have HB3:=Za (‹Below wr.heap.size wr w3∧_› : Below wr.heap.size wr w3∧_).1
   go_wp2
   go_roundg (l0.length - (kk+1))
   case measure=>have:=HG.out;omega
   case rel=>exact⟨kk+1,⟨by omega⟩,⟨by omega⟩,by go_num,⟨HBr.out.trans (HB3.out.mono HBr.out.size)⟩⟩
  ·have hltz:¬(kk:Int)<(l0.length:Int):=by omega
   have:kk=l0.length:=by have:=HK.out;omega
   subst this
   go_wp2
   go_ret
   exact⟨rfl,HBr.out⟩
set_option maxHeartbeats 4000000 in
set_option maxRecDepth 100000 in
theorem laws_eqTie.same (a0:Int) (a1:Int) (a2:Int) (a3:Int) (a4:Bool) (w:World)  :
  Calls Tryz.prog 138 #[.agg #[.int .i64 a0,.int .i64 a1,.int .i64 a2,.int .i64 a3,.bool a4],.agg #[.int .i64 a0,.int .i64 a1,.int .i64 a2,.int .i64 a3,.bool a4]] w fun e w'=>e=.returned (.bool true)∧Below w.heap.size w w':=by
 have hu:=Tryz.underlying82
 have HB0:=Za (Zn (Zn (Below.refl w.heap.size w) (.cells #[.int .i64 a0,.int .i64 a1,.int .i64 a2,.int .i64 a3,.bool a4] 82)) (.cells #[.int .i64 a0,.int .i64 a1,.int .i64 a2,.int .i64 a3,.bool a4] 82))
 go_enter Tryz.func138,Tryz.ntmps138
 go_wp2
 go_ret
 exact⟨rfl,by repeat(first|exact Below.refl _ _|apply Zn|apply Zm|apply ZaK)⟩
set_option maxHeartbeats 4000000 in
set_option maxRecDepth 100000 in
theorem laws_eqTieS.same (A0:Option Addr) (c0:Nat) (A0':Option Addr) (c0':Nat) (l0:List (S82)) (w:World) (hr0:Kd.C k82 w A0 l0.length l0) (hc0:l0.length≤c0) (hr0':Kd.C k82 w A0' l0.length l0) (hc0':l0.length≤c0') :
  Calls Tryz.prog 63 #[.slice A0 l0.length c0,.slice A0' l0.length c0'] w fun e w'=>e=.returned (.bool true)∧Below w.heap.size w w':=by
 have hL:l0.length≤9223372036854775807:=hr0.2.1
 have HR:=Za hr0
 have HS:=Za hr0'
 clear hr0 hr0'
 go_enter Tryz.func63,Tryz.ntmps63
 go_wp2
 go_loopg [5] l0.length (fun gg s5 wr=>∃kk:Nat,Aside0 (kk≤l0.length)∧Aside0 (l0.length - kk≤gg)∧s5=.int .i64 kk∧Aside0 (Below w.heap.size w wr))
 case atStart=>exact⟨0,⟨Nat.zero_le _⟩,⟨by omega⟩,rfl,⟨Below.refl _ _⟩⟩
 case round=>
  obtain⟨kk,HK,HG,rfl,HBr⟩:=hrel
  by_cases hlt:kk<l0.length
  ·have hltz:(kk:Int)<(l0.length:Int):=by omega
   obtain⟨adx,ex,hx0,hx1,hx2,hx3,hx4⟩:=Zbp HR.out (kk:Int) (by omega) hltz
   obtain⟨ady,ey,hy0,hy1,hy2,hy3,hy4⟩:=Zbp HS.out (kk:Int) (by omega) hltz
   cases ex
   cases ey
   rw[Int.toNat_natCast] at hx0 hx1 hx2 hx3 hx4 hy0 hy1 hy2 hy3 hy4
   generalize Zu l0 (kk:Int)=y at hx0 hx1 hx2 hx3 hx4 hy0 hy1 hy2 hy3 hy4
   replace hx0:=ZE HBr.out hx0
   replace hx1:=ZE HBr.out hx1
   replace hx2:=ZE HBr.out hx2
   replace hx3:=ZE HBr.out hx3
   replace hx4:=ZE HBr.out hx4
   replace hy0:=ZE HBr.out hy0
   replace hy1:=ZE HBr.out hy1
   replace hy2:=ZE HBr.out hy2
   replace hy3:=ZE HBr.out hy3
   replace hy4:=ZE HBr.out hy4
   have hltx:=Zc wr _ hx0
   have hlty:=Zc wr _ hy0
   go_wp2_with fail
   go_region_held3 (fun w'=>Below wr.heap.size wr w'∧w'.cell? (adx.add (kk * 5))=some (.int .i64 y.f0)∧w'.cell? ⟨(adx.add (kk * 5)).block,(adx.add (kk * 5)).off+1,none⟩=some (.int .i64 y.f1)∧w'.cell? ⟨(adx.add (kk * 5)).block,(adx.add (kk * 5)).off+2,none⟩=some (.int .i64 y.f2)∧w'.cell? ⟨(adx.add (kk * 5)).block,(adx.add (kk * 5)).off+3,none⟩=some (.int .i64 y.f3)∧w'.cell? ⟨(adx.add (kk * 5)).block,(adx.add (kk * 5)).off+4,none⟩=some (.bool y.f4)∧w'.cell? (ady.add (kk * 5))=some (.int .i64 y.f0)∧w'.cell? ⟨(ady.add (kk * 5)).block,(ady.add (kk * 5)).off+1,none⟩=some (.int .i64 y.f1)∧w'.cell? ⟨(ady.add (kk * 5)).block,(ady.add (kk * 5)).off+2,none⟩=some (.int .i64 y.f2)∧w'.cell? ⟨(ady.add (kk * 5)).block,(ady.add (kk * 5)).off+3,none⟩=some (.int .i64 y.f3)∧w'.cell? ⟨(ady.add (kk * 5)).block,(ady.add (kk * 5)).off+4,none⟩=some (.bool y.f4))
    (first|(refine⟨by repeat(first|(with_reducible first|exact Below.refl _ _|apply Zn|apply Zm|apply Zo|exact(‹Below wr.heap.size wr _∧_› : Below wr.heap.size wr _∧_).1)|exact Below.refl _ _),?_⟩;go_simp;done)|(have HQ_:=Zt (‹Below wr.heap.size wr _∧_› : Below wr.heap.size wr _∧_).1 hb;exact⟨HQ_,ZE HQ_ hx0,ZE HQ_ hx1,ZE HQ_ hx2,ZE HQ_ hx3,ZE HQ_ hx4,ZE HQ_ hy0,ZE HQ_ hy1,ZE HQ_ hy2,ZE HQ_ hy3,ZE HQ_ hy4⟩))
    (first|(go_at_call 138;(refine(laws_eqTie.same y.f0 y.f1 y.f2 y.f3 y.f4 _ ).mono ?_);rintro e w3 ⟨rfl,hb⟩))
   have HB3:=Za (‹Below wr.heap.size wr w3∧_› : Below wr.heap.size wr w3∧_).1
   go_wp2
   go_roundg (l0.length - (kk+1))
   case measure=>have:=HG.out;omega
   case rel=>exact⟨kk+1,⟨by omega⟩,⟨by omega⟩,by go_num,⟨HBr.out.trans (HB3.out.mono HBr.out.size)⟩⟩
  ·have hltz:¬(kk:Int)<(l0.length:Int):=by omega
   have:kk=l0.length:=by have:=HK.out;omega
   subst this
   go_wp2
   go_ret
   exact⟨rfl,HBr.out⟩
set_option maxHeartbeats 4000000 in
set_option maxRecDepth 100000 in
theorem laws_eqShow.same (A0:Option Addr) (c0:Nat) (A0':Option Addr) (c0':Nat) (l0:List (S39)) (A1:Option Addr) (c1:Nat) (A1':Option Addr) (c1':Nat) (l1:List (S82)) (a2:Int) (w:World) (hr0:Kd.C k39 w A0 l0.length l0) (hc0:l0.length≤c0) (hr0':Kd.C k39 w A0' l0.length l0) (hc0':l0.length≤c0') (hr1:Kd.C k82 w A1 l1.length l1) (hc1:l1.length≤c1) (hr1':Kd.C k82 w A1' l1.length l1) (hc1':l1.length≤c1') :
  Calls Tryz.prog 13 #[.agg #[.slice A0 l0.length c0,.slice A1 l1.length c1,.int .i64 a2],.agg #[.slice A0' l0.length c0',.slice A1' l1.length c1',.int .i64 a2]] w fun e w'=>e=.returned (.bool true)∧Below w.heap.size w w':=by
 have hu:=Tryz.underlying25
 have H0:=Za fun (W:World) (hb:Below w.heap.size w W)=>laws_eqNodeS.same A0 c0 A0' c0' l0 W (Zb hr0 hb) hc0 (Zb hr0' hb) hc0'
 have H1:=Za fun (W:World) (hb:Below w.heap.size w W)=>laws_eqTieS.same A1 c1 A1' c1' l1 W (Zb hr1 hb) hc1 (Zb hr1' hb) hc1'
 clear hr0 hc0 hr0' hc0' hr1 hc1 hr1' hc1'
 have HB0:=Za (Zn (Zn (Below.refl w.heap.size w) (.cells #[.slice A0 l0.length c0,.slice A1 l1.length c1,.int .i64 a2] 25)) (.cells #[.slice A0' l0.length c0',.slice A1' l1.length c1',.int .i64 a2] 25))
 go_enter Tryz.func13,Tryz.ntmps13
 go_wp2_with fail
 refine(H0.out _ HB0.out).mono ?_
 rintro e w1 ⟨rfl,hb⟩
 have HB1:=Za (HB0.out.trans (hb.mono HB0.out.size))
 have s1:w1.cell? ⟨w.heap.size,1,none⟩=some (.slice A1 l1.length c1):=ZE hb (by go_simp)
 have t1:w1.cell? ⟨w.heap.size+1,1,none⟩=some (.slice A1' l1.length c1'):=ZE hb (by go_simp)
 have s2:w1.cell? ⟨w.heap.size,2,none⟩=some (.int .i64 a2):=ZE hb (by go_simp)
 have t2:w1.cell? ⟨w.heap.size+1,2,none⟩=some (.int .i64 a2):=ZE hb (by go_simp)
 clear hb
 go_wp2_with fail
 refine(H1.out _ HB1.out).mono ?_
 rintro e w2 ⟨rfl,hb⟩
 have HB2:=Za (HB1.out.trans (hb.mono HB1.out.size))
 replace s2:=ZE hb s2
 replace t2:=ZE hb t2
 clear hb s1 t1
 go_wp2
 go_ret
 exact⟨rfl,HB2.out⟩
set_option maxHeartbeats 4000000 in
set_option maxRecDepth 100000 in
theorem laws_eqLink.same (a0:Int) (a1:Int) (a2:Int) (a3:Int) (w:World)  :
  Calls Tryz.prog 167 #[.agg #[.int .i64 a0,.int .i64 a1,.int .i64 a2,.int .i64 a3],.agg #[.int .i64 a0,.int .i64 a1,.int .i64 a2,.int .i64 a3]] w fun e w'=>e=.returned (.bool true)∧Below w.heap.size w w':=by
 have hu:=Tryz.underlying112
 have HB0:=Za (Zn (Zn (Below.refl w.heap.size w) (.cells #[.int .i64 a0,.int .i64 a1,.int .i64 a2,.int .i64 a3] 112)) (.cells #[.int .i64 a0,.int .i64 a1,.int .i64 a2,.int .i64 a3] 112))
 go_enter Tryz.func167,Tryz.ntmps167
 go_wp2
 go_ret
 exact⟨rfl,by repeat(first|exact Below.refl _ _|apply Zn|apply Zm|apply ZaK)⟩
set_option maxHeartbeats 4000000 in
set_option maxRecDepth 100000 in
theorem laws_eqLinkS.same (A0:Option Addr) (c0:Nat) (A0':Option Addr) (c0':Nat) (l0:List (S112)) (w:World) (hr0:Kd.C k112 w A0 l0.length l0) (hc0:l0.length≤c0) (hr0':Kd.C k112 w A0' l0.length l0) (hc0':l0.length≤c0') :
  Calls Tryz.prog 106 #[.slice A0 l0.length c0,.slice A0' l0.length c0'] w fun e w'=>e=.returned (.bool true)∧Below w.heap.size w w':=by
 have hL:l0.length≤9223372036854775807:=hr0.2.1
 have HR:=Za hr0
 have HS:=Za hr0'
 clear hr0 hr0'
 go_enter Tryz.func106,Tryz.ntmps106
 go_wp2
 go_loopg [5] l0.length (fun gg s5 wr=>∃kk:Nat,Aside0 (kk≤l0.length)∧Aside0 (l0.length - kk≤gg)∧s5=.int .i64 kk∧Aside0 (Below w.heap.size w wr))
 case atStart=>exact⟨0,⟨Nat.zero_le _⟩,⟨by omega⟩,rfl,⟨Below.refl _ _⟩⟩
 case round=>
  obtain⟨kk,HK,HG,rfl,HBr⟩:=hrel
  by_cases hlt:kk<l0.length
  ·have hltz:(kk:Int)<(l0.length:Int):=by omega
   obtain⟨adx,ex,hx0,hx1,hx2,hx3⟩:=Za6 HR.out (kk:Int) (by omega) hltz
   obtain⟨ady,ey,hy0,hy1,hy2,hy3⟩:=Za6 HS.out (kk:Int) (by omega) hltz
   cases ex
   cases ey
   rw[Int.toNat_natCast] at hx0 hx1 hx2 hx3 hy0 hy1 hy2 hy3
   generalize ZQ l0 (kk:Int)=y at hx0 hx1 hx2 hx3 hy0 hy1 hy2 hy3
   replace hx0:=ZE HBr.out hx0
   replace hx1:=ZE HBr.out hx1
   replace hx2:=ZE HBr.out hx2
   replace hx3:=ZE HBr.out hx3
   replace hy0:=ZE HBr.out hy0
   replace hy1:=ZE HBr.out hy1
   replace hy2:=ZE HBr.out hy2
   replace hy3:=ZE HBr.out hy3
   have hltx:=Zc wr _ hx0
   have hlty:=Zc wr _ hy0
   go_wp2_with fail
   go_region_held3 (fun w'=>Below wr.heap.size wr w'∧w'.cell? (adx.add (kk * 4))=some (.int .i64 y.f0)∧w'.cell? ⟨(adx.add (kk * 4)).block,(adx.add (kk * 4)).off+1,none⟩=some (.int .i64 y.f1)∧w'.cell? ⟨(adx.add (kk * 4)).block,(adx.add (kk * 4)).off+2,none⟩=some (.int .i64 y.f2.f0)∧w'.cell? ⟨(adx.add (kk * 4)).block,(adx.add (kk * 4)).off+3,none⟩=some (.int .i64 y.f2.f1)∧w'.cell? (ady.add (kk * 4))=some (.int .i64 y.f0)∧w'.cell? ⟨(ady.add (kk * 4)).block,(ady.add (kk * 4)).off+1,none⟩=some (.int .i64 y.f1)∧w'.cell? ⟨(ady.add (kk * 4)).block,(ady.add (kk * 4)).off+2,none⟩=some (.int .i64 y.f2.f0)∧w'.cell? ⟨(ady.add (kk * 4)).block,(ady.add (kk * 4)).off+3,none⟩=some (.int .i64 y.f2.f1))
    (first|(refine⟨by repeat(first|(with_reducible first|exact Below.refl _ _|apply Zn|apply Zm|apply Zo|exact(‹Below wr.heap.size wr _∧_› : Below wr.heap.size wr _∧_).1)|exact Below.refl _ _),?_⟩;go_simp;done)|(have HQ_:=Zt (‹Below wr.heap.size wr _∧_› : Below wr.heap.size wr _∧_).1 hb;exact⟨HQ_,ZE HQ_ hx0,ZE HQ_ hx1,ZE HQ_ hx2,ZE HQ_ hx3,ZE HQ_ hy0,ZE HQ_ hy1,ZE HQ_ hy2,ZE HQ_ hy3⟩))
    (first|(go_at_call 167;(refine(laws_eqLink.same y.f0 y.f1 y.f2.f0 y.f2.f1 _ ).mono ?_);rintro e w3 ⟨rfl,hb⟩))
   have HB3:=Za (‹Below wr.heap.size wr w3∧_› : Below wr.heap.size wr w3∧_).1
   go_wp2
   go_roundg (l0.length - (kk+1))
   case measure=>have:=HG.out;omega
   case rel=>exact⟨kk+1,⟨by omega⟩,⟨by omega⟩,by go_num,⟨HBr.out.trans (HB3.out.mono HBr.out.size)⟩⟩
  ·have hltz:¬(kk:Int)<(l0.length:Int):=by omega
   have:kk=l0.length:=by have:=HK.out;omega
   subst this
   go_wp2
   go_ret
   exact⟨rfl,HBr.out⟩
set_option maxHeartbeats 4000000 in
set_option maxRecDepth 100000 in
theorem ZcW.same (a0:Int) (A1:Option Addr) (c1:Nat) (A1':Option Addr) (c1':Nat) (l1:List (S112)) (w:World) (hr1:Kd.C k112 w A1 l1.length l1) (hc1:l1.length≤c1) (hr1':Kd.C k112 w A1' l1.length l1) (hc1':l1.length≤c1') :
  Calls Tryz.prog 33 #[.agg #[.int .i64 a0,.slice A1 l1.length c1],.agg #[.int .i64 a0,.slice A1' l1.length c1']] w fun e w'=>e=.returned (.bool true)∧Below w.heap.size w w':=by
 have hu:=Tryz.underlying54
 have H1:=Za fun (W:World) (hb:Below w.heap.size w W)=>laws_eqLinkS.same A1 c1 A1' c1' l1 W (Zb hr1 hb) hc1 (Zb hr1' hb) hc1'
 clear hr1 hc1 hr1' hc1'
 have HB0:=Za (Zn (Zn (Below.refl w.heap.size w) (.cells #[.int .i64 a0,.slice A1 l1.length c1] 54)) (.cells #[.int .i64 a0,.slice A1' l1.length c1'] 54))
 go_enter Tryz.func33,Tryz.ntmps33
 go_wp2_with fail
 refine(H1.out _ HB0.out).mono ?_
 rintro e w1 ⟨rfl,hb⟩
 have HB1:=Za (HB0.out.trans (hb.mono HB0.out.size))
 clear hb
 go_wp2
 go_ret
 exact⟨rfl,HB1.out⟩
set_option maxHeartbeats 4000000 in
set_option maxRecDepth 100000 in
theorem Zfv.same (A0:Option Addr) (c0:Nat) (A0':Option Addr) (c0':Nat) (l0:List Int) (A1:Option Addr) (c1:Nat) (A1':Option Addr) (c1':Nat) (l1:List Int) (w:World) (hr0:Kd.C (Kd.int .i64) w A0 l0.length l0) (hc0:l0.length≤c0) (hr0':Kd.C (Kd.int .i64) w A0' l0.length l0) (hc0':l0.length≤c0') (hr1:Kd.C (Kd.int .i64) w A1 l1.length l1) (hc1:l1.length≤c1) (hr1':Kd.C (Kd.int .i64) w A1' l1.length l1) (hc1':l1.length≤c1') :
  Calls Tryz.prog 34 #[.agg #[.slice A0 l0.length c0,.slice A1 l1.length c1],.agg #[.slice A0' l0.length c0',.slice A1' l1.length c1']] w fun e w'=>e=.returned (.bool true)∧Below w.heap.size w w':=by
 have hu:=Tryz.underlying58
 have H0:=Za fun (W:World) (hb:Below w.heap.size w W)=>(ZaL.calls (2 ^ 64) A0 c0 l0 A0' c0' l0 true W (Zb hr0 hb) hc0 (Zb hr0' hb) hc0' (Zdo l0 hr0.2.1 (2 ^ 64) (Nat.le_refl _))).mono fun e w' ⟨he,hd⟩=>(And.intro he hd.below:e=Ending.returned (.bool true)∧Below W.heap.size W w')
 have H1:=Za fun (W:World) (hb:Below w.heap.size w W)=>(ZaL.calls (2 ^ 64) A1 c1 l1 A1' c1' l1 true W (Zb hr1 hb) hc1 (Zb hr1' hb) hc1' (Zdo l1 hr1.2.1 (2 ^ 64) (Nat.le_refl _))).mono fun e w' ⟨he,hd⟩=>(And.intro he hd.below:e=Ending.returned (.bool true)∧Below W.heap.size W w')
 clear hr0 hc0 hr0' hc0' hr1 hc1 hr1' hc1'
 have HB0:=Za (Zn (Zn (Below.refl w.heap.size w) (.cells #[.slice A0 l0.length c0,.slice A1 l1.length c1] 58)) (.cells #[.slice A0' l0.length c0',.slice A1' l1.length c1'] 58))
 go_enter Tryz.func34,Tryz.ntmps34
 go_wp2_with fail
 refine(H0.out _ HB0.out).mono ?_
 rintro e w1 ⟨rfl,hb⟩
 have HB1:=Za (HB0.out.trans (hb.mono HB0.out.size))
 have s1:w1.cell? ⟨w.heap.size,1,none⟩=some (.slice A1 l1.length c1):=ZE hb (by go_simp)
 have t1:w1.cell? ⟨w.heap.size+1,1,none⟩=some (.slice A1' l1.length c1'):=ZE hb (by go_simp)
 clear hb
 go_wp2_with fail
 refine(H1.out _ HB1.out).mono ?_
 rintro e w2 ⟨rfl,hb⟩
 have HB2:=Za (HB1.out.trans (hb.mono HB1.out.size))
 clear hb s1 t1
 go_wp2
 go_ret
 exact⟨rfl,HB2.out⟩
end Go.Proofs.YtoeimopgoaffcaaGreatDoor.Pr
namespace Go.Proofs.YtoeimopgoaffcaaGreatDoor.Pr
open Go.RowKit Go.Proofs.YtoeimopgoaffcaaGreatDoorW.PrintWords Go.Proofs.YtoeimopgoaffcaaGreatDoorW.PrintLast Go.Proofs.YtoeimopgoaffcaaGreatDoorW.PrintMore
attribute [local go_sem] Z2 Z0 Zac Zab ZU ZT Z1 ZZ
set_option linter.unusedVariables false
set_option linter.unusedSimpArgs false
theorem ZaO.o (k:Nat) (A0_0:Option Addr) (c0_0:Nat) (l0_0:List (S143)) (A0_1:Option Addr) (c0_1:Nat) (l0_1:List (S147)) (a0_2:Int) (r1:List (S39)) (r2:List (S82)) (r3:Int) (w:World) (hr0_0:Kd.C k143 w A0_0 l0_0.length l0_0) (hc0_0:l0_0.length≤c0_0) (hr0_1:Kd.C k147 w A0_1 l0_1.length l0_1) (hc0_1:l0_1.length≤c0_1) (h:ZaO.f k l0_0 l0_1 a0_2=some (r1,r2,r3)) :
  Calls Tryz.prog 30 #[.agg #[.slice A0_0 l0_0.length c0_0,.slice A0_1 l0_1.length c0_1,.int .i64 a0_2]] w fun e w'=>∃A0_ c0_ A1_ c1_,e=.returned (.agg #[.slice A0_ r1.length c0_,.slice A1_ r2.length c1_,.int .i64 r3])∧Aside0 (r1.length≤c0_∧Kd.C k39 w' A0_ r1.length r1)∧Aside0 (r2.length≤c1_∧Kd.C k82 w' A1_ r2.length r2)∧Aside0 (Kd.S k39 39 w' w.heap.size (fun k_=>True∧(w.heap.size≤k_∧k_<w'.heap.size)) (.slice A0_ r1.length c0_) r1∧Kd.R k82 82 w' w.heap.size (fun k_=>True∧(w.heap.size≤k_∧k_<w'.heap.size)) (.slice A1_ r2.length c1_) r2)∧Below w.heap.size w w':=
 (ZaO.calls k A0_0 c0_0 l0_0 A0_1 c0_1 l0_1 a0_2 r1 r2 r3 w hr0_0 hc0_0 hr0_1 hc0_1 h).mono fun e w' ⟨v0_,v1_,he,q0_,q1_,hb⟩=>by
  obtain⟨A0_,c0_,rfl,g0_⟩:=Kd.S_reads q0_
  obtain⟨A1_,c1_,rfl,g1_⟩:=Kd.R_reads q1_
  exact⟨A0_,c0_,A1_,c1_,he,⟨g0_⟩,⟨g1_⟩,⟨Kd.S_mono (Kd.S_bound q0_) (fun k hk=>⟨hk.1,hk.2.1,hk.2.2.1⟩),Kd.R_mono (Kd.R_bound q1_) (fun k hk=>⟨hk.1,hk.2.1,hk.2.2.1⟩)⟩,hb⟩
theorem Zas.o (k:Nat) (A0_0:Option Addr) (c0_0:Nat) (l0_0:List Int) (A0_1:Option Addr) (c0_1:Nat) (l0_1:List Int) (r1:List Int) (r2:List Int) (w:World) (hr0_0:Kd.C (Kd.int .i64) w A0_0 l0_0.length l0_0) (hc0_0:l0_0.length≤c0_0) (hr0_1:Kd.C (Kd.int .i64) w A0_1 l0_1.length l0_1) (hc0_1:l0_1.length≤c0_1) (h:Zas.f k l0_0 l0_1=some (r1,r2)) :
  Calls Tryz.prog 31 #[.agg #[.slice A0_0 l0_0.length c0_0,.slice A0_1 l0_1.length c0_1]] w fun e w'=>∃A0_ c0_ A1_ c1_,e=.returned (.agg #[.slice A0_ r1.length c0_,.slice A1_ r2.length c1_])∧Aside0 (r1.length≤c0_∧Kd.C (Kd.int .i64) w' A0_ r1.length r1)∧Aside0 (r2.length≤c1_∧Kd.C (Kd.int .i64) w' A1_ r2.length r2)∧Aside0 (Kd.R (Kd.int .i64) 3 w' w.heap.size (fun k_=>(some k_≠((.slice A1_ r2.length c1_):Value).ownBlock)∧(w.heap.size≤k_∧k_<w'.heap.size)) (.slice A0_ r1.length c0_) r1∧Kd.R (Kd.int .i64) 3 w' w.heap.size (fun k_=>(some k_≠((.slice A0_ r1.length c0_):Value).ownBlock)∧(w.heap.size≤k_∧k_<w'.heap.size)) (.slice A1_ r2.length c1_) r2)∧Below w.heap.size w w':=
 (Zas.calls k A0_0 c0_0 l0_0 A0_1 c0_1 l0_1 r1 r2 w hr0_0 hc0_0 hr0_1 hc0_1 h).mono fun e w' ⟨v0_,v1_,he,q0_,q1_,hb⟩=>by
  obtain⟨A0_,c0_,rfl,g0_⟩:=Kd.R_reads q0_
  obtain⟨A1_,c1_,rfl,g1_⟩:=Kd.R_reads q1_
  exact⟨A0_,c0_,A1_,c1_,he,⟨g0_⟩,⟨g1_⟩,⟨Kd.R_mono (Kd.R_bound q0_) (fun k hk=>⟨hk.1,hk.2.1,hk.2.2.1⟩),Kd.R_mono (Kd.R_bound q1_) (fun k hk=>⟨hk.1,hk.2.1,hk.2.2.1⟩)⟩,hb⟩
theorem ZaA.o (k:Nat) (A0_0:Option Addr) (c0_0:Nat) (l0_0:List (S39)) (A0_1:Option Addr) (c0_1:Nat) (l0_1:List (S82)) (a0_2:Int) (A1_0:Option Addr) (c1_0:Nat) (l1_0:List Int) (A1_1:Option Addr) (c1_1:Nat) (l1_1:List Int) (r1:Int) (r2:List S112) (r3:Bool) (w:World) (hr0_0:Kd.C k39 w A0_0 l0_0.length l0_0) (hc0_0:l0_0.length≤c0_0) (hr0_1:Kd.C k82 w A0_1 l0_1.length l0_1) (hc0_1:l0_1.length≤c0_1) (hr1_0:Kd.C (Kd.int .i64) w A1_0 l1_0.length l1_0) (hc1_0:l1_0.length≤c1_0) (hr1_1:Kd.C (Kd.int .i64) w A1_1 l1_1.length l1_1) (hc1_1:l1_1.length≤c1_1) (ht:TW w) (h:ZaA.f k l0_0 l0_1 a0_2 l1_0 l1_1=some (r1,r2,r3)) :
  Calls Tryz.prog 32 #[.agg #[.slice A0_0 l0_0.length c0_0,.slice A0_1 l0_1.length c0_1,.int .i64 a0_2],.agg #[.slice A1_0 l1_0.length c1_0,.slice A1_1 l1_1.length c1_1]] w fun e w'=>∃A0_ c0_,e=.returned (.tuple #[.agg #[.int .i64 r1,.slice A0_ r2.length c0_],.bool r3])∧Aside0 (r2.length≤c0_∧Kd.C k112 w' A0_ r2.length r2)∧Aside0 (Kd.R k112 112 w' w.heap.size (fun k_=>True∧(w.heap.size≤k_∧k_<w'.heap.size)) (.slice A0_ r2.length c0_) r2)∧Below w.heap.size w w':=
 (ZaA.calls k A0_0 c0_0 l0_0 A0_1 c0_1 l0_1 a0_2 A1_0 c1_0 l1_0 A1_1 c1_1 l1_1 r1 r2 r3 w hr0_0 hc0_0 hr0_1 hc0_1 hr1_0 hc1_0 hr1_1 hc1_1 ht h).mono fun e w' ⟨v1_,he,q0_,hb⟩=>by
  obtain⟨A0_,c0_,rfl,g0_⟩:=Kd.R_reads q0_
  exact⟨A0_,c0_,he,⟨g0_⟩,⟨Kd.R_mono (Kd.R_bound q0_) (fun k hk=>⟨hk.1,hk.2.1,hk.2.2.1⟩)⟩,hb⟩
end Go.Proofs.YtoeimopgoaffcaaGreatDoor.Pr
namespace Go.Proofs.YtoeimopgoaffcaaGreatDoor.Pr
open Go.RowKit Go.Proofs.YtoeimopgoaffcaaGreatDoorW.PrintWords Go.Proofs.YtoeimopgoaffcaaGreatDoor.Ni
theorem Zem (l:List Int) (hl:l.length≤9223372036854775807) (a:Int) (h0:0≤a) (h1:a≤1048576):ZaP.f l a=some (if a - l.length<0 then -1 else a - l.length):=by
 unfold ZaP.f
 rw[ZaJ (by omega) (by omega)]
 split <;> rfl
theorem szNode_f (s:ByteArray) (l:List Int) (n:Int) (hs:s.size≤9223372036854775807) (hl:l.length≤9223372036854775807) (a:Int) (h0:0≤a) (h1:a≤1048576) :
  ∃r,Zca.f s l n a=some r∧(r<0∨(0≤r∧r≤a∧s.size≤1048576∧l.length≤1048576)):=by
 unfold Zca.f
 rw[ZaJ (by omega) (by omega)]
 by_cases h:a - (s.size:Int)<0
 ·rw[if_pos h];exact⟨_,rfl,.inl (by omega)⟩
 ·rw[if_neg h,Zem l hl _ (by omega) (by omega),Zi]
  by_cases h2:a - (s.size:Int) - l.length<0
  ·rw[if_pos h2,if_pos (by omega)];exact⟨_,rfl,.inl (by omega)⟩
  ·rw[if_neg h2,if_neg h2];exact⟨_,rfl,.inr ⟨by omega,by omega,by omega,by omega⟩⟩
theorem toNode_f (s:ByteArray) (l:List Int) (n:Int) (hl:l.length≤35184372088832) (k:Nat) (hk:2 ^ 64≤k):Zcm.f k s l n=some (s,l,n):=by
 unfold Zcm.f
 rw[Zek l hl k hk];rfl
theorem szNodeS_l (l:List LNode) (hl:l.length≤9223372036854775807) (hb:∀n∈l,n.f0.size≤9223372036854775807∧n.f1.length≤9223372036854775807) (k:Nat) (hk:2 ^ 64≤k) :
  ∀a:Int,0≤a→a≤1048576→∃r,Zaz.l0 k l a 0=some r∧(r<0∨(0≤r∧r≤a∧∀n∈l,n.f0.size≤1048576∧n.f1.length≤1048576)):=by
 have key:=ZaN l.length (fun k i=>∀a:Int,0≤a→a≤1048576→∃r,Zaz.l0 k l a (i:Int)=some r∧(r<0∨(0≤r∧r≤a∧∀n∈l.drop i,n.f0.size≤1048576∧n.f1.length≤1048576))) 0
  (fun k _ a h0 h1=>⟨a,by simp[Zaz.l0],.inr ⟨h0,Int.le_refl _,by simp⟩⟩)
  (fun k i _ hi ih a h0 h1=>by
   simp only[Zaz.l0]
   rw[if_pos (by omega),if_pos (by omega),rdLN_nat,ZR hi (by omega)]
   have hm:=hb _ (Za9 hi z143)
   obtain⟨r,hr,h⟩:=szNode_f (l.getD i z143).f0 (l.getD i z143).f1 (l.getD i z143).f2 hm.1 hm.2 a h0 h1
   rw[hr,Zi]
   rcases h with h|⟨h2,h3,h4,h5⟩
   ·rw[if_pos h];exact⟨_,rfl,.inl (by omega)⟩
   ·rw[if_neg (by omega)]
    obtain⟨q,hq,h⟩:=ih r h2 (by omega)
    refine⟨q,hq,?_⟩
    rcases h with h|⟨h6,h7,h8⟩
    ·exact .inl h
    ·refine .inr ⟨h6,by omega,?_⟩
     rw[Zav hi z143]
     intro n hn
     rcases List.mem_cons.1 hn with rfl|hn
     ·exact⟨h4,h5⟩
     ·exact h8 n hn) 0 k (Nat.zero_le _) (by omega)
 intro a h0 h1
 simpa using key a h0 h1
theorem szShow_f (ns:List LNode) (ts:List LTie) (z:Int) (hn:ns.length≤9223372036854775807) (hb:∀n∈ns,n.f0.size≤9223372036854775807∧n.f1.length≤9223372036854775807) (ht:ts.length≤9223372036854775807) (k:Nat) (hk:2 ^ 64≤k) (a:Int) (h0:0≤a) (h1:a≤1048576) :
  ∃r,ZbN.f k ns ts z a=some r∧(r<0∨(0≤r∧r≤a∧Zdl ns ts)):=by
 unfold ZbN.f Zaz.f
 rw[ZaJ (by omega) (by omega)]
 by_cases h:a - (ns.length:Int)<0
 ·rw[if_pos h,Zi,if_pos (by omega)];exact⟨_,rfl,.inl (by omega)⟩
 ·rw[if_neg h]
  obtain⟨r,hr,h⟩:=szNodeS_l ns hn hb k hk (a - ns.length) (by omega) (by omega)
  rw[hr,Zi]
  rcases h with h|⟨h2,h3,h4⟩
  ·rw[if_pos h];exact⟨_,rfl,.inl (by omega)⟩
  ·rw[if_neg (by omega)]
   unfold Zb9.f
   rw[ZaJ (by omega) (by omega)]
   by_cases h5:r - (ts.length:Int)<0
   ·rw[if_pos h5,Zi,if_pos (by omega)];exact⟨_,rfl,.inl (by omega)⟩
   ·rw[if_neg h5,Zi,if_neg h5];exact⟨_,rfl,.inr ⟨by omega,by omega,by omega,by omega,h4⟩⟩
theorem toNodeS_f (l:List LNode) (hl:l.length≤1048576) (hb:∀n∈l,n.f0.size≤1048576∧n.f1.length≤1048576) (k:Nat) (hk:2 ^ 65≤k):Zay.f k l=some (l.map cvN):=by
 have key:=ZaN l.length (fun k i=>Zay.l0 k l ((l.map cvN).take i ++ List.replicate ((l.map cvN).length - i) z39) (i:Int)=some (l.map cvN)) (2 ^ 64)
  (fun k _=>by simp[Zay.l0];rw[List.take_of_length_le (by simp)])
  (fun k i hk hi ih=>by
   simp only[Zay.l0]
   have hm:=hb _ (Za9 hi z143)
   rw[if_pos (by omega),if_pos (by omega),rdLN_nat,toNode_f _ _ _ (by omega) k hk,Zi,if_pos (by simp;omega),ZR hi (by omega),Int.toNat_natCast,Zeo (l.map cvN) _ z39 i (by simpa using hi) _ (by rw[getD_map cvN l i z143 z39 zN];rfl)]
   exact ih) 0 k (Nat.zero_le _) (by omega)
 unfold Zay.f
 rw[if_pos (by omega),if_pos (by omega),Int.toNat_natCast]
 simpa using key
theorem toTieS_f (l:List LTie) (hl:l.length≤1048576) (k:Nat) (hk:2 ^ 64≤k):ZaI.f k l=some (l.map cvT):=by
 have key:=ZaN l.length (fun k i=>ZaI.l0 k l ((l.map cvT).take i ++ List.replicate ((l.map cvT).length - i) z82) (i:Int)=some (l.map cvT)) 0
  (fun k _=>by simp[ZaI.l0];rw[List.take_of_length_le (by simp)])
  (fun k i hk hi ih=>by
   simp only[ZaI.l0,ZcD.f]
   rw[if_pos (by omega),if_pos (by omega),rdLT_nat,Zi,if_pos (by simp;omega),ZR hi (by omega),Int.toNat_natCast,Zeo (l.map cvT) _ z82 i (by simpa using hi) _ (by rw[getD_map cvT l i z147 z82 zT];rfl)]
   exact ih) 0 k (Nat.zero_le _) (by omega)
 unfold ZaI.f
 rw[if_pos (by omega),if_pos (by omega),Int.toNat_natCast]
 simpa using key
theorem toShow_f (ns:List LNode) (ts:List LTie) (z:Int) (h:Zdl ns ts) (k:Nat) (hk:2 ^ 65≤k):ZaO.f k ns ts z=some (ns.map cvN,ts.map cvT,z):=by
 unfold ZaO.f
 rw[toNodeS_f ns h.1 h.2.2 k hk,Zi,toTieS_f ts h.2.1 k (by omega)];rfl
theorem szChoice_f (t v:List Int) (ht:t.length≤9223372036854775807) (hv:v.length≤9223372036854775807) (a:Int) (h0:0≤a) (h1:a≤1048576) :
  ∃r,ZbK.f t v a=some r∧(r<0∨(0≤r∧r≤a∧t.length≤1048576∧v.length≤1048576)):=by
 unfold ZbK.f
 rw[Zem t ht a h0 h1,Zi]
 by_cases h:a - (t.length:Int)<0
 ·rw[if_pos h,if_pos (by omega)];exact⟨_,rfl,.inl (by omega)⟩
 ·rw[if_neg h,if_neg h,Zem v hv _ (by omega) (by omega),Zi]
  by_cases h2:a - (t.length:Int) - v.length<0
  ·rw[if_pos h2,if_pos (by omega)];exact⟨_,rfl,.inl (by omega)⟩
  ·rw[if_neg h2,if_neg h2];exact⟨_,rfl,.inr ⟨by omega,by omega,by omega,by omega⟩⟩
theorem toChoice_f (t v:List Int) (ht:t.length≤35184372088832) (hv:v.length≤35184372088832) (k:Nat) (hk:2 ^ 64≤k):Zas.f k t v=some (t,v):=by
 unfold Zas.f
 rw[Zek t ht k hk,Zi,Zek v hv k hk];rfl
theorem idx_at {α:Type} (p:α→Bool) (l:List α) (i:Nat) (x:α) (h:l[i]? = some x) (hx:p x=true):decide (ZaZ p l=(i:Int))=(l.take i).all (fun y=>!p y):=by
 have hi:i<l.length:=by
  rcases Nat.lt_or_ge i l.length with h'|h'
  ·exact h'
  ·rw[List.getElem?_eq_none h'] at h;exact absurd h (by simp)
 by_cases ha:(l.take i).all (fun y=>!p y)=true
 ·rw[ha,decide_eq_true_eq]
  refine ZbP p l i x h hx fun j y hj hy=>?_
  have:=List.all_eq_true.1 ha y (List.mem_of_getElem? (i:=j) (by rw[List.getElem?_take_of_lt hj];exact hy))
  simpa using this
 ·rw[Bool.eq_false_iff.2 ha,decide_eq_false_iff_not]
  intro e
  apply ha
  rw[List.all_eq_true]
  intro y hy
  obtain⟨j,hj,rfl⟩:=List.mem_iff_getElem.1 hy
  have hj':j<i:=by rw[Zj] at hj;omega
  unfold ZaZ at e
  cases hf:l.findIdx? p with
  | none=>rw[hf] at e;simp only at e;omega
  | some m=>
   rw[hf] at e
   have:m=i:=by simp only at e;omega
   subst this
   obtain⟨_,_,h3⟩:=List.findIdx?_eq_some_iff_getElem.1 hf
   have:=h3 j hj'
   rw[List.getElem_take]
   simpa using this
theorem all_pair {α:Type} (a b:α→Bool) (c:Bool) (l:List α):l.all (fun m=>a m && (c || b m))=(l.all a && (c || l.all b)):=by
 induction l with
 | nil=>simp
 | cons x l ih=>rw[List.all_cons,List.all_cons,List.all_cons,ih];cases a x <;> cases b x <;> cases c <;> simp
theorem Zd6 (a b:Int):(!(a != b))=decide (a=b):=by rw[Bool.eq_iff_iff];simp
theorem snodeC_at {ns:List ZM} {i:Nat} (h:i<ns.length):Zcd ns (ZD ns (i:Int)) i=Zcj ns i:=by
 rw[ZbQ]
 unfold Zcd Zcj
 have hs:=getD_some h z39
 generalize ns.getD i z39=y at hs
 rw[Zd6,Zd6,Zd6,Zdc,ZbT,idx_at _ ns i y hs (Ze rfl),idx_at _ ns i y hs (Ze rfl),Bool.and_assoc,← all_pair]
 rfl
theorem Zec {ns:List ZM}:∀(d i:Nat),i+d=ns.length→Za3 ns i d=ZbC ns i d
 | 0,_,_=>rfl
 | d+1,i,h=>by rw[Za3,ZbC,snodeC_at (by omega),Zec d (i+1) (by omega)]
theorem Zdx (ns:List ZM) {p:Int} (hp:0<p):Zbm ns p=ZbT ns p:=by
 unfold Zbm ZbT
 rw[Ze hp]
 simp only[Bool.true_and]
theorem ZdO (ns:List ZM) (lb:List Int) {x:Int} (hx:Zbb x=true):ZbS ns lb x=Zcs ns lb x:=by
 unfold ZbS Zdw Zcs Zc1 hasB
 rw[Zdx ns (by have:=ZcH hx;omega)]
 congr 3
 rw[Bool.eq_iff_iff];simp
theorem ZeA {ns:List ZM} {n:ZM} (h:∀x∈n.f1,Zbb x=true):Zcg ns n=Zb1 ns n:=by
 unfold Zcg Zb1
 rw[Bool.eq_iff_iff,Bool.not_eq_true',List.any_eq_false,List.all_eq_true]
 constructor
 ·intro hh x hx
  have:=hh x hx
  rw[← ZdO ns _ (h x hx)];simpa using this
 ·intro hh x hx
  have:=hh x hx
  rw[← ZdO ns _ (h x hx)] at this;simpa using this
theorem nodes_same (ns:List ZM):Zbs ns=(Zak ns && ns.all (Zcg ns)):=by
 have e:Zbs ns=(Zak ns && ns.all (Zb1 ns)):=by
  unfold Zbs Zak inB
  rw[Zec ns.length 0 (by omega),Zd6,show ZD ns 0=ns.getD 0 z39 from ZbQ ns 0]
  rw[show(decide ((1:Int)≤(ns.length:Int)) && decide ((ns.length:Int)≤7))=(decide (1≤ns.length) && decide (ns.length≤7)) by rw[Bool.eq_iff_iff];simp only[Bool.and_eq_true,decide_eq_true_eq];omega]
  rw[show(!(decide (((ns.getD 0 z39).f1.length:Int) > 0)))=decide ((ns.getD 0 z39).f1.length=0) by rw[Bool.eq_iff_iff];simp only[Bool.not_eq_true',decide_eq_true_eq,decide_eq_false_iff_not];omega]
 rw[e]
 cases h:Zak ns with
 | false=>rfl
 | true=>
  rw[Bool.true_and,Bool.true_and,Bool.eq_iff_iff,List.all_eq_true,List.all_eq_true]
  constructor
  ·intro hh n hn;rw[ZeA (ZcY h n hn)];exact hh n hn
  ·intro hh n hn;rw[← ZeA (ZcY h n hn)];exact hh n hn
def ZcO (ns:List ZM) (ts:List PTie) (i:Nat):Nat→Bool
 | 0=>true
 | d+1=>tieB ns ts i && ZcO ns ts (i+1) d
theorem in_same (n:Nat) (x:Int):inB x 0 ((n:Int) - 1)=Zb2 n x:=by
 unfold inB Zb2
 rw[Bool.eq_iff_iff];simp;omega
theorem tie_same {ns:List ZM} {ts:List PTie} {i:Nat} (h:i<ts.length):tieB ns ts i=ptieB ns ts i:=by
 unfold tieB ptieB
 have hs:=getD_some h z82
 rw[Zdv]
 generalize ts.getD i z82=t at hs
 obtain⟨tf,tt,tl,th,tb⟩:=t
 show tieC tf tt tl th tb ns ts i=ZbG tf tt tl th tb ns ts i
 unfold tieC ZbG spanB
 rw[in_same,in_same]
 cases tb with
 | false=>
  rw[Bool.eq_iff_iff]
  simp only[Bool.not_false,Bool.true_or,Bool.and_true,Bool.and_eq_true,Bool.not_eq_true',beq_eq_false_iff_ne,decide_eq_true_eq,decide_eq_false_iff_not]
  constructor
  ·rintro⟨⟨⟨⟨⟨a1,a2⟩,a3⟩,a4⟩,a5⟩,a6⟩
   exact⟨⟨⟨⟨⟨a1,a2⟩,a3⟩,by omega,by omega⟩,by omega,by omega⟩,a6⟩
  ·rintro⟨⟨⟨⟨⟨a1,a2⟩,a3⟩,a4,a5⟩,a6,a7⟩,a8⟩
   exact⟨⟨⟨⟨⟨a1,a2⟩,a3⟩,by omega⟩,by omega⟩,a8⟩
 | true=>
  have hf:(Zcz ts tt == (i:Int))=!((ts.take i).any fun u=>u.f4 && decide (u.f1=tt)):=by
   rw[show(Zcz ts tt == (i:Int))=decide (Zcz ts tt=(i:Int)) by rw[Bool.eq_iff_iff];simp,Zcz,idx_at _ ts i _ hs (by simp),Bool.eq_iff_iff]
   simp
   exact forall_congr' fun x=>forall_congr' fun _=>by cases x.f4 <;> simp
  rw[hf]
  rw[Bool.eq_iff_iff]
  simp only[Bool.not_true,Bool.false_or,Bool.and_eq_true,Bool.not_eq_true',beq_eq_false_iff_ne,decide_eq_true_eq,decide_eq_false_iff_not,beq_iff_eq,bne_eq_false_iff_eq]
  constructor
  ·rintro⟨⟨⟨⟨⟨⟨a1,a2⟩,a3⟩,a4⟩,a5⟩,a6⟩,⟨⟨⟨⟨b1,b2⟩,b3⟩,b4⟩,b5⟩⟩
   exact⟨⟨⟨⟨⟨⟨a1,a2⟩,a3⟩,by omega,by omega⟩,by omega,by omega⟩,a6⟩,⟨⟨⟨⟨by omega,b2⟩,b3⟩,b4.symm⟩,b5⟩⟩
  ·rintro⟨⟨⟨⟨⟨⟨a1,a2⟩,a3⟩,a4,a5⟩,a6,a7⟩,a8⟩,⟨⟨⟨⟨b1,b2⟩,b3⟩,b4⟩,b5⟩⟩
   exact⟨⟨⟨⟨⟨⟨a1,a2⟩,a3⟩,by omega⟩,by omega⟩,a8⟩,⟨⟨⟨⟨by omega,b2⟩,b3⟩,b4.symm⟩,b5⟩⟩
theorem ties_from {ns:List ZM} {ts:List PTie}:∀(d i:Nat),i+d=ts.length→ZcO ns ts i d=ZbJ ns ts i d
 | 0,_,_=>rfl
 | d+1,i,h=>by rw[ZcO,ZbJ,tie_same (by omega),ties_from d (i+1) (by omega)]
theorem Zfp (ns:List ZM) (ts:List PTie) (z:Int) (ht:ts.length≤14):∀(d i k:Nat),i+d=ts.length→d<k→Z9.l0 k ts.length (i:Int) ns ts z=some (ZcO ns ts i d):=by
 intro d
 induction d with
 | zero=>
  intro i k hi hk
  obtain⟨m,rfl⟩:∃m,k=m+1:=⟨k - 1,by omega⟩
  simp only[Z9.l0]
  rw[if_neg (by omega)];rfl
 | succ d ih=>
  intro i k hi hk
  obtain⟨m,rfl⟩:∃m,k=m+1:=⟨k - 1,by omega⟩
  simp only[Z9.l0]
  rw[if_pos (by omega),Zb6.f,if_pos (by omega),Zi,ZcO,ZR (n:=ts.length) (by omega) (by omega),ih (i+1) m (by omega) (by omega)]
  cases tieB ns ts i <;> rfl
theorem Zfq (ns:List ZM) (ts:List PTie) (z:Int) (hf:fitN ns=true) (k:Nat) (hk:2 ^ 64≤k):Z9.f k ns ts z=some (ZaF ns ts z):=by
 obtain⟨m,rfl⟩:∃m,k=m+1:=⟨k - 1,by omega⟩
 unfold Z9.f Zba.f ZaF Zbl
 rw[if_pos hf,Zi,nodes_same]
 simp only[Z9.j0,l01In_f,Zi,if_true]
 cases h1:Zak ns with
 | false=>rfl
 | true=>
  cases h2:ns.all (Zcg ns) with
  | false=>simp
  | true=>
   rw[Bool.and_true,if_pos rfl]
   by_cases h3:(ts.length:Int) > 14
   ·rw[if_pos h3,Zf (show ¬ts.length≤14 by omega)];simp
   ·rw[if_neg h3,Ze (show ts.length≤14 by omega)]
    have hl:=Zfp ns ts z (by omega) ts.length 0 m (by omega) (by omega)
    rw[show((0:Nat):Int)=0 from rfl] at hl
    rw[hl,ties_from _ _ (by omega)]
    by_cases h4:z<1
    ·rw[show inB z 1 10=false by unfold inB;rw[Zf (show ¬(1:Int)≤z by omega)];rfl,Ze h4];simp
    ·by_cases h5:10<z
     ·rw[show inB z 1 10=false by unfold inB;rw[Zf (show ¬z≤(10:Int) by omega)];simp,Ze h5];simp
     ·rw[show inB z 1 10=true by unfold inB;rw[Ze (show(1:Int)≤z by omega),Ze (show z≤(10:Int) by omega)];rfl,Zf h4,Zf h5];simp
theorem fitN_of {ns:List ZM} {ts:List PTie} (h:ZbE ns ts):fitN ns=true:=by
 unfold fitN
 rw[List.all_eq_true]
 intro n hn
 have:=h.2.2 n hn
 simp;omega
theorem Zfw {ns:List ZM} {ts:List PTie} {z:Int} (hf:fitN ns=true):Zbq.f ns ts z=some (ZaF ns ts z):=by
 unfold Zbq.f
 rw[if_pos hf]
theorem ZbB {ns:List ZM} {ts:List PTie} {z:Int} (h:ZaF ns ts z=true):Zak ns=true:=by
 unfold ZaF at h
 simp only[Bool.and_eq_true] at h
 exact h.1.1.1.1
theorem Zcy {ns:List ZM} {ts:List PTie} {z:Int} (h:ZaF ns ts z=true):Zbl ns ts=true:=by
 unfold ZaF at h
 simp only[Bool.and_eq_true] at h
 exact h.1.1.1.2
theorem nodes_watch {ns:List ZM} (h:Zak ns=true):∀n∈ns,0≤n.f2∧n.f2≤3:=by
 intro n hn
 obtain⟨j,hj,rfl⟩:=List.mem_iff_getElem.1 hn
 have:=ZcF h j hj
 unfold Zcj Zcu at this
 rw[show ns.getD j z39=ns[j] by rw[List.getD_eq_getElem?_getD,Zl hj];rfl] at this
 simp only[Bool.and_eq_true,decide_eq_true_eq] at this
 exact this.1.2
theorem pwatch_out {ns:List ZM} (h:Zak ns=true) {p:Int} (hp:¬(1≤p∧p≤3)):Zbm ns p=-1:=by
 unfold Zbm
 refine Zbz _ _ fun j y _ hy=>?_
 have:=nodes_watch h y (List.mem_of_getElem? hy)
 rw[Bool.eq_false_iff]
 intro hh
 simp only[Bool.and_eq_true,decide_eq_true_eq] at hh
 omega
theorem isNode_f (n x:Int):Zby.f n x=some (Zb2 n x):=by
 unfold Zby.f Zb2
 by_cases h:x≥0
 ·rw[if_pos h,Ze (show(0:Int)≤x from h),Bool.true_and]
 ·rw[if_neg h,Zf (show ¬(0:Int)≤x from h),Bool.false_and]
theorem areNodesB_one {ns:List ZM} (h:Zak ns=true):1≤ns.length:=by
 unfold Zak at h
 simp only[Bool.and_eq_true,decide_eq_true_eq] at h
 exact h.1.1.1.1
def Zcq (ts:List PTie) (n:Nat):List Int:=((List.range n).filter fun i=>(ts.getD i z82).f4).map fun i:Nat=>(i:Int)
def Za5 (ts:List PTie):List Int:=Zcq ts ts.length
theorem Zeh (ts:List PTie) (n:Nat):Zcq ts (n+1)=if (ts.getD n z82).f4=true then Zcq ts n ++ [(n:Int)] else Zcq ts n:=by
 unfold Zcq
 rw[List.range_succ,List.filter_append,List.map_append]
 by_cases h:(ts.getD n z82).f4=true
 ·rw[if_pos h,List.filter_cons_of_pos (by simpa using h)];rfl
 ·rw[if_neg h,List.filter_cons_of_neg (by simpa using h)];simp
theorem ZdF (ts:List PTie) (n:Nat):(Zcq ts n).length≤n:=by
 unfold Zcq
 rw[List.length_map]
 exact Nat.le_trans (List.length_filter_le _ _) (by simp)
theorem ZeK (ts:List PTie):(Za5 ts).length≤ts.length:=ZdF ts ts.length
theorem freeIx_in {ts:List PTie} {x:Int} (h:x∈Za5 ts):0≤x∧x<ts.length:=by
 unfold Za5 Zcq at h
 obtain⟨i,hi,rfl⟩:=List.mem_map.1 h
 have:=List.mem_range.1 (List.mem_filter.1 hi).1
 omega
theorem ZeI (ns:List ZM) (ts:List PTie) (z:Int) (hl:ts.length≤1048576) (k:Nat) (hk:2 ^ 64≤k):Zaf.f k ns ts z=some (Za5 ts):=by
 have key:=ZaN ts.length (fun k i=>Zaf.l0 k (Zcq ts i) ts ts.length (i:Int)=some (Za5 ts)) 0
  (fun k _=>by
   simp only[Zaf.l0]
   rw[if_neg (by omega)];rfl)
  (fun k i _ hi ih=>by
   simp only[Zaf.l0]
   have:=ZdF ts i
   rw[Zeh] at ih
   rw[if_pos (by omega),if_pos (by omega),if_pos (by omega),Zdv,ZR hi (by omega)]
   by_cases h:(ts.getD i z82).f4=true
   ·rw[if_pos h,if_pos (by omega)];rw[if_pos h] at ih;exact ih
   ·rw[if_neg h];rw[if_neg h] at ih;exact ih) 0 k (Nat.zero_le _) (by omega)
 unfold Zaf.f
 exact key
theorem l10Free_f (ns:List ZM) (ts:List PTie) (z:Int) (hl:ts.length≤1048576) (k:Nat) (hk:2 ^ 64≤k):Zad.f k ns ts z=some (Za5 ts):=by
 have key:=ZaN ts.length (fun k i=>Zad.l0 k (Zcq ts i) ts ts.length (i:Int)=some (Za5 ts)) 0
  (fun k _=>by
   simp only[Zad.l0]
   rw[if_neg (by omega)];rfl)
  (fun k i _ hi ih=>by
   simp only[Zad.l0]
   have:=ZdF ts i
   rw[Zeh] at ih
   rw[if_pos (by omega),if_pos (by omega),if_pos (by omega),Zdv,ZR hi (by omega)]
   by_cases h:(ts.getD i z82).f4=true
   ·rw[if_pos h,if_pos (by omega)];rw[if_pos h] at ih;exact ih
   ·rw[if_neg h];rw[if_neg h] at ih;exact ih) 0 k (Nat.zero_le _) (by omega)
 unfold Zad.f
 exact key
def ZbO (ns:List ZM) (ts:List PTie) (ln vs:List Int):Bool:=decide (ln.length=(Za5 ts).length) && (decide (vs.length=3) && (Zb8 ts (Za5 ts) ln && Zbf ns 0 vs))
def Zcw (ns:List ZM) (ts:List PTie) (z:Int) (ln vs:List Int):Bool:=ZaF ns ts z && ZbO ns ts ln vs
theorem spec_ch_l1 (ns:List ZM) (ts:List PTie) (z:Int) (vs:List Int) (hn:ns.length≤1048576) (hl:vs.length≤1048576) (k:Nat) (hk:2 ^ 65≤k):ZO.l1 k vs (vs.length:Int) 0 ns ts z=some (Zbf ns 0 vs):=by
 have key:=ZaN vs.length (fun k i=>ZO.l1 k vs (vs.length:Int) (i:Int) ns ts z=some (Zbf ns i (vs.drop i))) (2 ^ 64)
  (fun k _=>by
   simp only[ZO.l1]
   rw[if_neg (by omega),List.drop_length];rfl)
  (fun k i hk hi ih=>by
   simp only[ZO.l1]
   rw[if_pos (by omega),if_pos (by omega),if_pos (by omega),Za0,ZR hi (by omega),ZcE ns ts z _ (by omega) k hk,Zi,← Zdx ns (by omega),Zav hi 0,Zbf,ih]
   unfold valAt
   generalize vs.getD i 0=v
   by_cases h1:v=1
   ·rw[if_pos h1,if_neg (by omega),Ze h1];rfl
   ·rw[if_neg h1,Zf h1,Bool.false_or]
    by_cases h2:v=-1
    ·rw[if_pos h2,Ze h2,Bool.true_and]
     by_cases h3:Zbm ns ((i+1:Nat):Int)<0
     ·rw[if_pos h3,Zf (show ¬(0:Int)≤_ by omega)];rfl
     ·rw[if_neg h3,Ze (show(0:Int)≤_ by omega)];rfl
    ·rw[if_neg h2,Zf h2];rfl) 0 k (Nat.zero_le _) (by omega)
 simpa using key
theorem spec_ch_l0 (ns:List ZM) (ts:List PTie) (z:Int) (L ln vs:List Int) (hN:ns.length≤1048576) (hL:∀x∈L,0≤x∧x<ts.length) (hn:L.length≤1048576) (he:ln.length=L.length) (hl:vs.length≤1048576) (k:Nat) (hk:2 ^ 66≤k) :
  ZO.l0 k L (L.length:Int) 0 ns ts z ln vs=some (Zb8 ts L ln && Zbf ns 0 vs):=by
 have key:=ZaN L.length (fun k i=>ZO.l0 k L (L.length:Int) (i:Int) ns ts z ln vs=some (Zb8 ts (L.drop i) (ln.drop i) && Zbf ns 0 vs)) (2 ^ 65)
  (fun k hk=>by
   simp only[ZO.l0]
   rw[if_neg (by omega),spec_ch_l1 ns ts z vs hN hl k hk,List.drop_length]
   simp[Zb8])
  (fun k i _ hi ih=>by
   simp only[ZO.l0]
   have hm:=hL _ (Za9 hi 0)
   rw[if_pos (by omega),if_pos (by omega),if_pos (by omega),if_pos (by omega),Za0,Za0,if_pos hm.1,if_pos hm.2,ZR hi (by omega),ih,Zav hi 0,Zav (show i<ln.length by omega) 0,Zb8,l01In_f,Zi]
   unfold inB
   generalize ln.getD i 0=n
   generalize Zu ts (L.getD i 0)=t
   cases decide (t.f2≤n) && decide (n≤t.f3) <;> rfl) 0 k (Nat.zero_le _) (by omega)
 simpa using key
theorem ZeF {ns:List ZM} {ts:List PTie} (z:Int) (ln vs:List Int) (hc:ZbE ns ts) (hl:vs.length≤1048576) (k:Nat) (hk:2 ^ 66≤k):Zbu.f k ns ts z ln vs=some (ZbO ns ts ln vs):=by
 unfold Zbu.f ZbO
 rw[ZeI ns ts z hc.2.1 _ (by omega),Zi,if_pos (List.all_eq_true.2 fun x hx=>by have:=freeIx_in hx;simpa using this)]
theorem ZeH {ns:List ZM} {ts:List PTie} {z:Int} (ln vs:List Int) (hc:ZbE ns ts) (hl:vs.length≤1048576) (k:Nat) (hk:2 ^ 66≤k):ZbZ.f k ns ts z ln vs=some (Zcw ns ts z ln vs):=by
 unfold ZbZ.f Zcw
 rw[Zfw (fitN_of hc),Zi]
 cases hs:ZaF ns ts z with
 | false=>rfl
 | true=>rw[if_pos rfl,Bool.true_and,ZeF z ln vs hc hl k hk];rfl
theorem Zex {ns:List ZM} {ts:List PTie} {z:Int} (ln vs:List Int) (hc:ZbE ns ts) (hl:vs.length≤1048576) (k:Nat) (hk:2 ^ 67≤k):ZO.f k ns ts z ln vs=some (Zcw ns ts z ln vs):=by
 obtain⟨k,rfl⟩:∃m,k=m+1:=⟨k - 1,by omega⟩
 have hL:=ZeK ts
 have ht:=hc.2.1
 unfold ZO.f Zcw
 rw[Zfq ns ts z (fitN_of hc) _ (by omega),Zi]
 cases hs:ZaF ns ts z with
 | false=>rfl
 | true=>
  rw[if_pos rfl,Bool.true_and,l10Free_f ns ts z hc.2.1 _ (by omega),Zi]
  unfold ZbO
  by_cases h1:ln.length=(Za5 ts).length
  ·rw[if_pos (by omega),Ze h1,Bool.true_and]
   by_cases h2:vs.length=3
   ·rw[Ze h2,Bool.true_and,show((vs.length:Int) != 3)=false by rw[bne_eq_false_iff_eq];omega]
    simp only[ZO.j0,Bool.false_eq_true,if_false]
    exact spec_ch_l0 ns ts z (Za5 ts) ln vs hc.1 (fun x hx=>freeIx_in hx) (by omega) h1 hl k (by omega)
   ·rw[Zf h2,show((vs.length:Int) != 3)=true by rw[bne_iff_ne];omega];simp[ZO.j0]
  ·rw[if_neg (by omega),Zf h1];simp[ZO.j0]
theorem ZdP {ns:List ZM}:∀(l:List Int) (i:Nat),Zbf ns i l=true→∀n∈l,-1≤n∧n≤1
 | [],_,_,n,hn=>by simp at hn
 | v :: t,i,h,n,hn=>by
  rw[Zbf,Bool.and_eq_true] at h
  rcases List.mem_cons.1 hn with rfl|hn
  ·have h1:=h.1
   unfold valAt at h1
   simp only[Bool.or_eq_true,Bool.and_eq_true,decide_eq_true_eq] at h1
   omega
  ·exact ZdP t _ h.2 n hn
theorem ZdJ {ns:List ZM} {ts:List PTie} {ln vs:List Int} (h:ZbO ns ts ln vs=true):ZbW vs=true:=by
 unfold ZbO at h
 simp only[Bool.and_eq_true,decide_eq_true_eq] at h
 unfold ZbW
 rw[Ze h.2.1,Bool.true_and,List.all_eq_true]
 intro n hn
 have:=ZdP vs 0 h.2.2.2 n hn
 simp;omega
end Go.Proofs.YtoeimopgoaffcaaGreatDoor.Pr
namespace Go.Proofs.YtoeimopgoaffcaaGreatDoor.Pr
open Go.RowKit Go.Proofs.YtoeimopgoaffcaaGreatDoorW.PrintWords Go.Proofs.YtoeimopgoaffcaaGreatDoorW.PrintMore Go.Proofs.YtoeimopgoaffcaaGreatDoor.Ni
theorem labFrom_all:∀(l:List Int) (p:Int),ZbI p l=true→∀x∈l,Zbb x=true:=by
 intro l
 induction l with
 | nil=>intro p _ x hx;simp at hx
 | cons y t ih=>
  intro p h x hx
  simp only[ZbI,Bool.and_eq_true] at h
  rcases List.mem_cons.1 hx with rfl|hx
  ·exact h.1.1
  ·exact ih _ h.2 x hx
theorem ZdC {l:List Int} (h:labB l=true):∀x∈l,Zbb x=true:=labFrom_all l 0 h
theorem valsB_at {v:List Int} (h:ZbW v=true):v.length=3∧∀i,-1≤v.getD i 0∧v.getD i 0≤1:=by
 simp only[ZbW,Bool.and_eq_true,decide_eq_true_eq,List.all_eq_true] at h
 refine⟨h.1,fun i=>?_⟩
 by_cases hi:i<v.length
 ·exact h.2 _ (Za9 hi 0)
 ·rw[List.getD_eq_getElem?_getD,List.getElem?_eq_none (by omega)];simp
theorem mn_min (a b:Int):mn a b=min a b:=by unfold mn;split <;> omega
theorem holds_f {x:Int} {v:List Int} (hx:Zbb x=true) (hv:ZbW v=true):impl_holds.f x v=some (if x<0 then -(v.getD (prp x - 1).toNat 0) else v.getD (prp x - 1).toNat 0):=by
 have hp:=ZcH hx
 obtain⟨h3,hb⟩:=valsB_at hv
 have hb':=hb (prp x - 1).toNat
 unfold impl_holds.f
 rw[Zdb hx,Zi,ZaJ (i:=prp x - 1) (by omega) (by omega),if_pos (by omega),if_pos (by omega)]
 have e:rd v (prp x - 1)=v.getD (prp x - 1).toNat 0:=rfl
 rw[e,ZaJ (by omega) (by omega)]
 split <;> rfl
theorem l07State_f (l v:List Int) (hl:l.length≤9223372036854775807) (h1:∀x∈l,Zbb x=true) (hv:ZbW v=true) (k:Nat) (hk:2 ^ 64≤k):Zah.f k l v=some (stB l v):=by
 obtain⟨h3,hb⟩:=valsB_at hv
 have key:=ZaN l.length (fun k i=>∀a:Int,Zah.l0 k v a l l.length (i:Int)=some (Zc6 v a (l.drop i))) 0
  (fun k _ a=>by simp[Zah.l0,Zc6])
  (fun k i _ hi ih a=>by
   simp only[Zah.l0]
   have hx:=h1 _ (Za9 hi 0)
   have hp:=ZcH hx
   have hb':=hb (prp (l.getD i 0) - 1).toNat
   have e:rd v (prp (l.getD i 0) - 1)=v.getD (prp (l.getD i 0) - 1).toNat 0:=rfl
   rw[if_pos (by omega),if_pos (by omega),if_pos (by omega),Za0,ZR hi (by omega),Zav hi 0,ZcR hx,Zi,ZaJ (i:=prp (l.getD i 0) - 1) (by omega) (by omega),if_pos (by omega),if_pos (by omega),e,ZaJ (by omega) (by omega),ih,ih,mn_min,mn_min]
   simp only[Zc6]
   split <;> rfl) 0 k (Nat.zero_le _) (by omega)
 unfold Zah.f stB
 simpa using key 1
def labStB (l v:List Int):Int:=if labB l && ZbW v then stB l v else -1
theorem Zeb (l v:List Int) (hl:l.length≤9223372036854775807) (k:Nat) (hk:2 ^ 65≤k):ZV.f k l v=some (labStB l v):=by
 unfold ZV.f labStB
 obtain⟨m,rfl⟩:∃m,k=m+1:=⟨k - 1,by omega⟩
 rw[Zcv l hl _ (by omega),Zi]
 cases h:labB l
 ·rfl
 ·rw[if_pos rfl]
  unfold ZbX.f
  rw[Zi]
  cases h2:ZbW v
  ·rfl
  ·simp only[ZV.j0,Bool.not_true,Bool.false_eq_true,if_false]
   have key:=ZaN l.length (fun k i=>∀a:Int,ZV.l0 k v a l l.length (i:Int)=some (Zc6 v a (l.drop i))) 0
    (fun k _ a=>by simp[ZV.l0,Zc6])
    (fun k i _ hi ih a=>by
     simp only[ZV.l0]
     have hx:=ZdC h _ (Za9 hi 0)
     rw[if_pos (by omega),if_pos (by omega),if_pos (by omega),Za0,ZR hi (by omega),Zav hi 0,holds_f hx h2,Zi,ih,mn_min]
     rfl) 0 m (Nat.zero_le _) (by omega)
   have:=key 1
   rw[List.drop_zero] at this
   rw[show((0:Nat):Int)=0 from rfl] at this
   rw[this];rfl
end Go.Proofs.YtoeimopgoaffcaaGreatDoor.Pr
namespace Go.Proofs.YtoeimopgoaffcaaGreatDoor.Pr
open Go.RowKit Go.Proofs.YtoeimopgoaffcaaGreatDoorW.PrintWords Go.Proofs.YtoeimopgoaffcaaGreatDoor.Ni
theorem ZdT {ns:List ZM} (h:Zak ns=true):∀n∈ns,labB n.f1=true:=by
 intro n hn
 obtain⟨j,hj,rfl⟩:=List.mem_iff_getElem.1 hn
 have:=ZcF h j hj
 unfold Zcj Zcu at this
 rw[show ns.getD j z39=ns[j] by rw[List.getD_eq_getElem?_getD,Zl hj];rfl] at this
 simp only[Bool.and_eq_true] at this
 exact this.1.1.2
def hapB (ns:List ZM) (vs:List Int) (i:Int):Bool:=stB (ZD ns i).f1 vs == 1
theorem Zd2 {ns:List ZM} {i:Int} (h0:0≤i) (h1:i<ns.length):ZD ns i∈ns:=by
 obtain⟨m,rfl⟩:=Int.eq_ofNat_of_zero_le h0
 rw[show ZD ns ((m:Nat):Int)=ns.getD m z39 from ZbQ ns m]
 exact Za9 (by omega) _
theorem ZeZ {ns:List ZM} {ts:List PTie} (z:Int) (ln vs:List Int) (i:Int) (hc:ZbE ns ts) (hn:Zak ns=true) (hv:ZbW vs=true) (h0:0≤i) (h1:i<ns.length) (k:Nat) (hk:2 ^ 65≤k):ZaS.f k ns ts z ln vs i=some (hapB ns vs i):=by
 have hm:=Zd2 h0 h1
 have hs:=(hc.2.2 _ hm).2
 unfold ZaS.f hapB
 rw[if_pos h0,if_pos h1,Zeb _ vs (by omega) k hk,Zi]
 unfold labStB
 rw[ZdT hn _ hm,hv];rfl
theorem spec_hap_f {ns:List ZM} {ts:List PTie} (vs:List Int) (i:Int) (hc:ZbE ns ts) (hn:Zak ns=true) (hv:ZbW vs=true) (h0:0≤i) (h1:i<ns.length) (k:Nat) (hk:2 ^ 64≤k):Zah.f k (ZD ns i).f1 vs=some (stB (ZD ns i).f1 vs):=by
 have hm:=Zd2 h0 h1
 have hs:=(hc.2.2 _ hm).2
 exact l07State_f _ vs (by omega) (ZdC (ZdT hn _ hm)) hv k hk
theorem nodeIn_iff {n x:Int} (h:Zb2 n x=true):0≤x∧x<n:=by
 unfold Zb2 at h
 rw[Bool.and_eq_true,decide_eq_true_eq,decide_eq_true_eq] at h
 exact h
theorem Zdp {ns:List ZM} {ts:List PTie} {z:Int} {ln vs:List Int} (h:Zcw ns ts z ln vs=true):ZaF ns ts z=true∧ZbO ns ts ln vs=true:=by
 unfold Zcw at h
 rw[Bool.and_eq_true] at h
 exact h
end Go.Proofs.YtoeimopgoaffcaaGreatDoor.Pr
set_option linter.unusedSimpArgs false
set_option linter.unusedVariables false
namespace Go.Proofs.YtoeimopgoaffcaaGreatDoor.Pr
open Go.RowKit Go.Proofs.YtoeimopgoaffcaaGreatDoorW.PrintWords Go.Proofs.YtoeimopgoaffcaaGreatDoor.Ni
def bs (l:List UInt8):ByteArray:=⟨l.toArray⟩
theorem bs_of (a:ByteArray):bs a.data.toList=a:=by unfold bs;simp
theorem bs_list (l:List UInt8):(bs l).data.toList=l:=by unfold bs;simp
theorem bs_app (a b:List UInt8):bs a ++ bs b=bs (a ++ b):=by
 unfold bs
 ext1
 rw[ByteArray.data_append];simp
theorem bs_size (l:List UInt8):(bs l).size=l.length:=by unfold bs;simp[ByteArray.size]
theorem ba_size (a:ByteArray):a.size=a.data.toList.length:=by show a.data.size=_;rw[Array.length_toList]
theorem Zch (n:Int) (h0 : -9223372036854775808≤n) (h1:n≤9223372036854775807):Zau.f n=some (bs (Lib.itoa n)):=by
 unfold Zau.f
 rw[if_pos ⟨h0,h1⟩];rfl
theorem dec_len:∀(d m:Nat),m<10 ^ (d+1)→(Lib.decDigits m).length≤d+1
 | d,m,hm=>by
  by_cases c:m<10
  ·rw[Lib.decDigits,dif_pos c];simp only[List.length_singleton];omega
  ·cases d with
   | zero=>simp at hm;omega
   | succ d=>
    have h:=dec_len d (m / 10) (by rw[Nat.pow_succ] at hm;omega)
    rw[Lib.decDigits,dif_neg c,List.length_append,List.length_singleton];omega
theorem itoa_len (n:Int) (h0 : -9223372036854775808≤n) (h1:n≤9223372036854775807):(Lib.itoa n).length≤20:=by
 by_cases c:n<0
 ·have:=dec_len 18 n.natAbs (by omega)
  rw[Lib.itoa,if_pos c,List.length_cons];omega
 ·rw[Lib.itoa,if_neg c]
  have:=dec_len 18 n.toNat (by omega)
  omega
abbrev bl (l:List ByteArray):List (List UInt8):=l.map (·.data.toList)
theorem joinTail_cons (s x:List UInt8) (r:List (List UInt8)):Lib.joinTail s (x :: r)=s ++ x ++ Lib.joinTail s r:=by simp[Lib.joinTail]
theorem rdOf_nat (l:List ByteArray) (i:Nat):rdOf ByteArray.empty l (i:Int)=l.getD i ByteArray.empty:=by unfold rdOf;rw[Int.toNat_natCast]
theorem impl_Join_f (l:List ByteArray) (sep:ByteArray) (hl:l.length≤1048576) (hb:(Lib.join (bl l) sep.data.toList).length≤140737488355328):Zbh.f l sep=some (bs (Lib.join (bl l) sep.data.toList)):=by
 unfold Zbh.f
 rw[if_pos ⟨hl,hb⟩];rfl
theorem ZdQ {ns:List ZM} {ts:List PTie}:∀(d i:Nat),ZbJ ns ts i d=true→∀j,i≤j→j<i+d→ptieB ns ts j=true
 | 0,i,_,j,h1,h2=>by omega
 | d+1,i,h,j,h1,h2=>by
  rw[ZbJ,Bool.and_eq_true] at h
  by_cases e:j=i
  ·rw[e];exact h.1
  ·exact ZdQ d (i+1) h.2 j (by omega) (by omega)
theorem tie_bd {ns:List ZM} {ts:List PTie} (h:Zbl ns ts=true) {j:Int} (h0:0≤j) (h1:j<ts.length) :
  (0≤(Zu ts j).f0∧(Zu ts j).f0<ns.length)∧(0≤(Zu ts j).f1∧(Zu ts j).f1<ns.length)∧(-20≤(Zu ts j).f2∧(Zu ts j).f2≤20)∧(-20≤(Zu ts j).f3∧(Zu ts j).f3≤20):=by
 obtain⟨m,rfl⟩:=Int.eq_ofNat_of_zero_le h0
 unfold Zbl at h
 rw[Bool.and_eq_true] at h
 have:=ZdQ _ _ h.1 m (Nat.zero_le _) (by omega)
 unfold ptieB ZbG at this
 simp only[Zb2,spanB,Bool.and_eq_true,decide_eq_true_eq] at this
 obtain⟨⟨⟨⟨⟨⟨a,b⟩,_⟩,c⟩,d⟩,_⟩,_⟩:=this
 omega
theorem ZcX {ns:List ZM} {ts:List PTie} (h:Zbl ns ts=true):ts.length≤14:=by
 unfold Zbl at h
 rw[Bool.and_eq_true,decide_eq_true_eq] at h
 exact h.2
theorem ZcK {ns:List ZM} (h:Zak ns=true):ns.length≤7:=by
 unfold Zak at h
 simp only[Bool.and_eq_true,decide_eq_true_eq] at h
 exact h.1.1.1.2
theorem Zez {ns:List ZM} (h:Zak ns=true) {j:Int} (h0:0≤j) (h1:j<ns.length):(ZD ns j).f0.size≤8∧labB (ZD ns j).f1=true∧0≤(ZD ns j).f2∧(ZD ns j).f2≤3:=by
 obtain⟨m,rfl⟩:=Int.eq_ofNat_of_zero_le h0
 have:=ZcF h m (by omega)
 rw[ZbQ]
 unfold Zcj Zcu nameB at this
 simp only[Bool.and_eq_true,decide_eq_true_eq] at this
 obtain⟨⟨⟨⟨_,_,a⟩,b⟩,c,d⟩,_⟩:=this
 exact⟨a,b,c,d⟩
def nmL (ns:List ZM) (i:Int):List UInt8:=(ZD ns i).f0.data.toList
theorem nm_bs (ns:List ZM) (i:Int):(ZD ns i).f0=bs (nmL ns i):=(bs_of _).symm
theorem nm_len {ns:List ZM} (h:Zak ns=true) {j:Int} (h0:0≤j) (h1:j<ns.length):(nmL ns j).length≤8:=by
 have:=(Zez h h0 h1).1
 rw[nm_bs,bs_size] at this
 exact this
def tieW (b:Bool):List UInt8:=if b=true then[102,114,101,101] else[116,105,101]
def tieT (ns:List ZM) (t:PTie):List UInt8:=tieW t.f4 ++ [32] ++ nmL ns t.f0 ++ [32] ++ nmL ns t.f1 ++ [32] ++ Lib.itoa t.f2 ++ [32] ++ Lib.itoa t.f3
theorem tieT_join (ns:List ZM) (t:PTie):Lib.join [tieW t.f4,nmL ns t.f0,nmL ns t.f1,Lib.itoa t.f2,Lib.itoa t.f3] [32]=tieT ns t:=by
 simp[Lib.join,Lib.joinTail,tieT]
theorem tieT_len {ns:List ZM} {ts:List PTie} (hn:Zak ns=true) (h:Zbl ns ts=true) {j:Int} (h0:0≤j) (h1:j<ts.length):(tieT ns (Zu ts j)).length≤80:=by
 obtain⟨a,b,c,d⟩:=tie_bd h h0 h1
 have e1:=nm_len hn a.1 a.2
 have e2:=nm_len hn b.1 b.2
 have e3:=itoa_len _ (show -9223372036854775808≤(Zu ts j).f2 by omega) (by omega)
 have e4:=itoa_len _ (show -9223372036854775808≤(Zu ts j).f3 by omega) (by omega)
 have e5:(tieW (Zu ts j).f4).length≤4:=by unfold tieW;split <;> simp
 unfold tieT
 simp only[List.length_append,List.length_cons,List.length_nil]
 omega
theorem ZeX {ns:List ZM} {ts:List PTie} (z:Int) (hn:Zak ns=true) (h:Zbl ns ts=true) {j:Int} (h0:0≤j) (h1:j<ts.length):Za8.f ns ts z j=some (bs (tieT ns (Zu ts j))):=by
 obtain⟨a,b,c,d⟩:=tie_bd h h0 h1
 have hl:=tieT_len hn h h0 h1
 unfold Za8.f
 rw[if_pos h0,if_pos h1]
 have hj:∀w:ByteArray,w=bs (tieW (Zu ts j).f4)→Zbh.f [w,(ZD ns (Zu ts j).f0).f0,(ZD ns (Zu ts j).f1).f0,bs (Lib.itoa (Zu ts j).f2),bs (Lib.itoa (Zu ts j).f3)] ⟨#[32]⟩=some (bs (tieT ns (Zu ts j))):=by
  rintro w rfl
  rw[nm_bs,nm_bs,show(⟨#[32]⟩:ByteArray)=bs [32] from rfl]
  have e:bl [bs (tieW (Zu ts j).f4),bs (nmL ns (Zu ts j).f0),bs (nmL ns (Zu ts j).f1),bs (Lib.itoa (Zu ts j).f2),bs (Lib.itoa (Zu ts j).f3)]=[tieW (Zu ts j).f4,nmL ns (Zu ts j).f0,nmL ns (Zu ts j).f1,Lib.itoa (Zu ts j).f2,Lib.itoa (Zu ts j).f3]:=by simp only[bl,List.map_cons,List.map_nil,bs_list]
  rw[impl_Join_f _ _ (by simp) (by rw[e,bs_list,tieT_join];omega),e,bs_list,tieT_join]
 by_cases hb:(Zu ts j).f4=true
 ·rw[if_pos hb,if_pos a.1,if_pos a.2,if_pos b.1,if_pos b.2,Zch _ (by omega) (by omega),Zi,Zch _ (by omega) (by omega),Zi,hj _ (by unfold tieW;rw[if_pos hb];rfl),Zi]
 ·rw[if_neg hb,if_pos a.1,if_pos a.2,if_pos b.1,if_pos b.2,Zch _ (by omega) (by omega),Zi,Zch _ (by omega) (by omega),Zi,hj _ (by unfold tieW;rw[if_neg hb];rfl),Zi]
end Go.Proofs.YtoeimopgoaffcaaGreatDoor.Pr
namespace Go.Proofs.YtoeimopgoaffcaaGreatDoor.Pr
open Go.RowKit Go.Proofs.YtoeimopgoaffcaaGreatDoorW.PrintWords Go.Proofs.YtoeimopgoaffcaaGreatDoor.Ni
def cat {α:Type} (g:Nat→List α):Nat→Nat→List α
 | 0,_=>[]
 | d+1,i=>g i ++ cat g d (i+1)
theorem Zbe {α:Type} {g:Nat→List α} {m:Nat}:∀(d i:Nat),(∀j,i≤j→j<i+d→(g j).length≤m)→(cat g d i).length≤d * m
 | 0,_,_=>by simp[cat]
 | d+1,i,h=>by
  have h1:=h i (Nat.le_refl _) (by omega)
  have h2:=Zbe (g:=g) d (i+1) (fun j a b=>h j (by omega) (by omega))
  rw[cat,List.length_append,Nat.succ_mul]
  omega
theorem Zc2 {α β:Type} {step:Nat→List α×List β→Option (List α×List β)} {g:Nat→List α} {h:Nat→List β} {n B:Nat}
  (hs:∀i x y,i<n→x.length+(g i).length≤B→y.length+(h i).length≤B→step i (x,y)=some (x ++ g i,y ++ h i)):∀(d i:Nat) (x:List α) (y:List β),i+d=n→x.length+(cat g d i).length≤B→y.length+(cat h d i).length≤B→run step d i (x,y)=some (x ++ cat g d i,y ++ cat h d i)
 | 0,i,x,y,_,_,_=>by simp[run,cat]
 | d+1,i,x,y,hi,hx,hy=>by
  rw[cat,List.length_append] at hx hy
  rw[run,hs i x y (by omega) (by omega) (by omega),Zi,Zc2 hs d (i+1) _ _ (by omega) (by rw[List.length_append];omega) (by rw[List.length_append];omega),cat,cat,List.append_assoc,List.append_assoc]
abbrev PLk:=S112
def lkH (z:Int) (i:Nat):PLk:=⟨0,(i:Int),⟨0,z⟩⟩
def lenAt (ts:List PTie) (ln:List Int) (i:Nat):Int:=rd ln (ZaZ (fun y=>decide ((i:Int)=y)) (Za5 ts))
def lkT (ts:List PTie) (ln:List Int) (i:Nat):PLk:=⟨(Zu ts (i:Int)).f0,(Zu ts (i:Int)).f1,if (Zu ts (i:Int)).f4=true then⟨lenAt ts ln i,lenAt ts ln i⟩ else⟨(Zu ts (i:Int)).f2,(Zu ts (i:Int)).f3⟩⟩
def lkW (ns:List ZM) (i:Nat) (x:Int):PLk:=⟨Zbm ns (prp x),(i:Int),⟨1,1000000⟩⟩
def lbL (ns:List ZM) (i:Nat):List Int:=(ZD ns (i:Int)).f1
def tieH (ns:List ZM) (ts:List PTie) (vs:List Int) (i:Nat):Bool:=hapB ns vs (Zu ts (i:Int)).f0 && hapB ns vs (Zu ts (i:Int)).f1
def gA (ns:List ZM) (vs:List Int) (z:Int) (i:Nat):List PLk:=if hapB ns vs (i:Int)=true then[lkH z i] else[]
def gB (ns:List ZM) (ts:List PTie) (ln vs:List Int) (i:Nat):List PLk:=if tieH ns ts vs i=true then[lkT ts ln i] else[]
def gC (ns:List ZM) (vs:List Int) (i:Nat):List PLk:=if hapB ns vs (i:Int)=true then[] else[lkH 0 i]
def gE (ns:List ZM) (vs:List Int) (i:Nat) (j:Nat):List PLk:=if hapB ns vs (i:Int)=true then[lkW ns i (rd (lbL ns i) (j:Int))] else[]
def gD (ns:List ZM) (vs:List Int) (i:Nat):List PLk:=cat (gE ns vs i) (lbL ns i).length 0
def hor (ns:List ZM) (i:Nat):ByteArray:=(⟨#[104,111,114,105,122,111,110,32]⟩:ByteArray) ++ (ZD ns (i:Int)).f0
def rA (ns:List ZM) (vs:List Int) (i:Nat):List ByteArray:=if hapB ns vs (i:Int)=true then[hor ns i] else[]
def rB (ns:List ZM) (ts:List PTie) (vs:List Int) (i:Nat):List ByteArray:=if tieH ns ts vs i=true then[bs (tieT ns (Zu ts (i:Int)))] else[]
def rC (ns:List ZM) (vs:List Int) (t:Nat→ByteArray) (i:Nat):List ByteArray:=if hapB ns vs (i:Int)=true then[] else[t i]
def aft (ns:List ZM) (i:Nat) (x:Int):ByteArray:=Zy.after (ZD ns (Zbm ns (prp x))).f0 (ZD ns (i:Int)).f0
def rE (ns:List ZM) (vs:List Int) (i:Nat) (j:Nat):List ByteArray:=if hapB ns vs (i:Int)=true then[aft ns i (rd (lbL ns i) (j:Int))] else[]
def rD (ns:List ZM) (vs:List Int) (i:Nat):List ByteArray:=cat (rE ns vs i) (lbL ns i).length 0
def ZcZ (ns:List ZM) (ts:List PTie) (z:Int) (ln vs:List Int):List PLk:=cat (gA ns vs z) ns.length 0 ++ cat (gB ns ts ln vs) ts.length 0 ++ cat (gC ns vs) ns.length 0 ++ cat (gD ns vs) ns.length 0
def projR (ns:List ZM) (ts:List PTie) (vs:List Int) (t:Nat→ByteArray):List ByteArray:=cat (rA ns vs) ns.length 0 ++ cat (rB ns ts vs) ts.length 0 ++ cat (rC ns vs t) ns.length 0 ++ cat (rD ns vs) ns.length 0
theorem Zc4 {α:Type} (b:Bool) (x:α):(if b=true then[x] else[]).length≤1:=by cases b <;> simp
theorem ite_len' {α:Type} (b:Bool) (x:α):(if b=true then[] else[x]).length≤1:=by cases b <;> simp
theorem gA_len (ns:List ZM) (vs:List Int) (z:Int) (i:Nat):(gA ns vs z i).length≤1:=Zc4 _ _
theorem gB_len (ns:List ZM) (ts:List PTie) (ln vs:List Int) (i:Nat):(gB ns ts ln vs i).length≤1:=Zc4 _ _
theorem gC_len (ns:List ZM) (vs:List Int) (i:Nat):(gC ns vs i).length≤1:=ite_len' _ _
theorem gE_len (ns:List ZM) (vs:List Int) (i j:Nat):(gE ns vs i j).length≤1:=Zc4 _ _
theorem rA_len (ns:List ZM) (vs:List Int) (i:Nat):(rA ns vs i).length≤1:=Zc4 _ _
theorem rB_len (ns:List ZM) (ts:List PTie) (vs:List Int) (i:Nat):(rB ns ts vs i).length≤1:=Zc4 _ _
theorem rC_len (ns:List ZM) (vs:List Int) (t:Nat→ByteArray) (i:Nat):(rC ns vs t i).length≤1:=ite_len' _ _
theorem rE_len (ns:List ZM) (vs:List Int) (i j:Nat):(rE ns vs i j).length≤1:=Zc4 _ _
theorem Zef:∀(l:List Int) (p:Int),0≤p→p≤3→ZbI p l=true→(l.length:Int)+p≤3
 | [],p,_,h,_=>by simp;omega
 | x :: t,p,h0,h1,h=>by
  rw[ZbI,Bool.and_eq_true,Bool.and_eq_true,decide_eq_true_eq] at h
  have h3:=ZcH h.1.1
  have:=Zef t (prp x) (by omega) (by omega) h.2
  rw[List.length_cons];omega
theorem labB_len {l:List Int} (h:labB l=true):l.length≤3:=by
 have:=Zef l 0 (by omega) (by omega) h
 omega
theorem lbL_ok {ns:List ZM} (h:Zak ns=true) {i:Nat} (hi:i<ns.length):labB (lbL ns i)=true:=ZdT h _ (Zd2 (by omega) (by omega))
theorem gD_len {ns:List ZM} (h:Zak ns=true) (vs:List Int) {i:Nat} (hi:i<ns.length):(gD ns vs i).length≤3:=by
 have h1:=Zbe (m:=1) (g:=gE ns vs i) (lbL ns i).length 0 (fun j _ _=>gE_len ns vs i j)
 have h2:=labB_len (lbL_ok h hi)
 unfold gD
 omega
theorem rD_len {ns:List ZM} (h:Zak ns=true) (vs:List Int) {i:Nat} (hi:i<ns.length):(rD ns vs i).length≤3:=by
 have h1:=Zbe (m:=1) (g:=rE ns vs i) (lbL ns i).length 0 (fun j _ _=>rE_len ns vs i j)
 have h2:=labB_len (lbL_ok h hi)
 unfold rD
 omega
theorem watch_in {ns:List ZM} {ts:List PTie} {z:Int} (h:ZaF ns ts z=true) {i:Nat} (hi:i<ns.length) {x:Int} (hx:x∈lbL ns i):0≤Zbm ns (prp x)∧Zbm ns (prp x)<ns.length:=by
 unfold ZaF at h
 rw[Bool.and_eq_true] at h
 have h1:=List.all_eq_true.1 h.2 _ (Zd2 (ns:=ns) (i:=(i:Int)) (by omega) (by omega))
 unfold Zcg at h1
 rw[Bool.not_eq_true',List.any_eq_false] at h1
 have h2:=h1 x hx
 rw[Bool.not_eq_true',Bool.not_eq_false] at h2
 unfold ZbS Zdw at h2
 simp only[Bool.and_eq_true,decide_eq_true_eq] at h2
 exact⟨h2.1.1.1,(ZdE _ ns).2⟩
theorem free_idx {ts:List PTie} {i:Nat} (hi:i<ts.length) (hf:(Zu ts (i:Int)).f4=true):0≤ZaZ (fun y=>decide ((i:Int)=y)) (Za5 ts)∧ZaZ (fun y=>decide ((i:Int)=y)) (Za5 ts)<(Za5 ts).length:=by
 refine⟨?_,(ZdE _ _).2⟩
 have h:(Za5 ts).any (fun y=>decide ((i:Int)=y))=true:=by
  refine List.any_eq_true.2 ⟨(i:Int),?_,Ze rfl⟩
  unfold Za5 Zcq
  refine List.mem_map.2 ⟨i,List.mem_filter.2 ⟨List.mem_range.2 hi,?_⟩,rfl⟩
  rw[← Zdv]
  exact hf
 rw[← ZcS] at h
 exact Zd h
theorem addB {a:Zy.Acc} {x:PLk} {s:ByteArray} (h1:a.1.length<4398046511104) (h2:a.2.length<4398046511104) (h3:s.size≤9223372036854775807):Zy.add a x s=some (a.1 ++ [x],a.2 ++ [s]):=if_pos ⟨h1,h2,h3⟩
theorem hap_f {ns:List ZM} {ts:List PTie} {z:Int} {ln vs:List Int} (hc:ZbE ns ts) (hs:ZaF ns ts z=true) (hv:ZbW vs=true) (k:Nat) (hk:2 ^ 65≤k) (i:Int) (h0:0≤i) (h1:i<ns.length):Zy.hap k ns ts z ln vs i=some (hapB ns vs i):=
 ZeZ z ln vs i hc (ZbB hs) hv h0 h1 k hk
theorem ZdV {ns:List ZM} (h:Zak ns=true) {i:Int} (h0:0≤i) (h1:i<ns.length):(ZD ns i).f0.size≤8:=(Zez h h0 h1).1
theorem stA_f {ns:List ZM} {ts:List PTie} {z:Int} {vs:List Int} {hp:Int→Option Bool} (hn:Zak ns=true) (hh:∀i:Int,0≤i→i<ns.length→hp i=some (hapB ns vs i)) (i:Nat) (x:List PLk) (y:List ByteArray) (hi:i<ns.length) (hx:x.length+(gA ns vs z i).length≤4194304) (hy:y.length+(rA ns vs i).length≤4194304) :
  Zy.stA hp ns ts z i (x,y)=some (x ++ gA ns vs z i,y ++ rA ns vs i):=by
 unfold Zy.stA
 rw[hh i (by omega) (by omega),Zi]
 unfold gA at hx ⊢
 unfold rA at hy ⊢
 generalize hapB ns vs (i:Int)=b at hx hy ⊢
 cases b with
 | false=>simp only[Bool.false_eq_true,if_false,List.append_nil]
 | true=>
  simp only[if_true] at hx hy ⊢
  have:=ZdV hn (i:=(i:Int)) (by omega) (by omega)
  rw[addB (by show x.length<_;simp only[List.length_cons,List.length_nil] at hx;omega) (by show y.length<_;simp only[List.length_cons,List.length_nil] at hy;omega) (by rw[ByteArray.size_append];show 8+_≤_;omega)]
  rfl
theorem stC_f {ns:List ZM} {vs:List Int} {hp:Int→Option Bool} (hh:∀i:Int,0≤i→i<ns.length→hp i=some (hapB ns vs i)) (i:Nat) (x:List PLk) (y:List ByteArray) (hi:i<ns.length) (hx:x.length+(gC ns vs i).length≤4194304) (hy:y.length+(rC ns vs (fun _=>⟨#[]⟩) i).length≤4194304) :
  Zy.stC hp i (x,y)=some (x ++ gC ns vs i,y ++ rC ns vs (fun _=>⟨#[]⟩) i):=by
 unfold Zy.stC
 rw[hh i (by omega) (by omega),Zi]
 unfold gC at hx ⊢
 unfold rC at hy ⊢
 generalize hapB ns vs (i:Int)=b at hx hy ⊢
 cases b with
 | true=>simp only[if_true,List.append_nil]
 | false=>
  simp only[Bool.false_eq_true,if_false] at hx hy ⊢
  rw[addB (by show x.length<_;simp only[List.length_cons,List.length_nil] at hx;omega) (by show y.length<_;simp only[List.length_cons,List.length_nil] at hy;omega) (by show(0:Nat)≤_;omega)]
  rfl
theorem stE_f {ns:List ZM} {ts:List PTie} {z:Int} {vs:List Int} {hp:Int→Option Bool} (hs:ZaF ns ts z=true) (hh:∀i:Int,0≤i→i<ns.length→hp i=some (hapB ns vs i)) (i:Nat) (hi:i<ns.length) (j:Nat) (x:List PLk) (y:List ByteArray) (hj:j<(lbL ns i).length) (hx:x.length+(gE ns vs i j).length≤4194304) (hy:y.length+(rE ns vs i j).length≤4194304) :
  Zy.stE hp ns ts z i (lbL ns i) j (x,y)=some (x ++ gE ns vs i j,y ++ rE ns vs i j):=by
 have hn:=ZbB hs
 have hm:rd (lbL ns i) (j:Int)∈lbL ns i:=by rw[Za0];exact Za9 hj 0
 have hlit:=ZdC (lbL_ok hn hi) _ hm
 have hw:=watch_in hs hi hm
 unfold Zy.stE
 rw[hh i (by omega) (by omega),Zi]
 unfold gE at hx ⊢
 unfold rE at hy ⊢
 generalize hapB ns vs (i:Int)=b at hx hy ⊢
 cases b with
 | false=>simp only[Bool.false_eq_true,if_false,List.append_nil]
 | true=>
  simp only[if_true] at hx hy ⊢
  rw[Zdb hlit,Zi,ZaX.f,Zi,if_pos hw]
  have h1:=ZdV hn (i:=(i:Int)) (by omega) (by omega)
  have h2:=ZdV hn hw.1 hw.2
  rw[addB (by show x.length<_;simp only[List.length_cons,List.length_nil] at hx;omega) (by show y.length<_;simp only[List.length_cons,List.length_nil] at hy;omega) (by unfold Zy.after;rw[ByteArray.size_append,ByteArray.size_append,ByteArray.size_append];show 6+_+1+_≤_;omega)]
  rfl
theorem stD_f {ns:List ZM} {ts:List PTie} {z:Int} {vs:List Int} {hp:Int→Option Bool} (hs:ZaF ns ts z=true) (hh:∀i:Int,0≤i→i<ns.length→hp i=some (hapB ns vs i)) (i:Nat) (x:List PLk) (y:List ByteArray) (hi:i<ns.length) (hx:x.length+(gD ns vs i).length≤4194304) (hy:y.length+(rD ns vs i).length≤4194304) :
  Zy.stD hp ns ts z i (x,y)=some (x ++ gD ns vs i,y ++ rD ns vs i):=by
 unfold gD at hx ⊢
 unfold rD at hy ⊢
 show run (Zy.stE hp ns ts z i (lbL ns i)) (lbL ns i).length 0 (x,y)=_
 exact Zc2 (n:=(lbL ns i).length) (B:=4194304) (fun j x y hj h1 h2=>stE_f hs hh i hi j x y hj h1 h2) _ 0 x y (by omega) hx hy
theorem stB_f {ns:List ZM} {ts:List PTie} {z:Int} {ln vs:List Int} {hp:Int→Option Bool} (hs:ZaF ns ts z=true) (hl:ln.length=(Za5 ts).length) (hh:∀i:Int,0≤i→i<ns.length→hp i=some (hapB ns vs i)) (i:Nat) (x:List PLk) (y:List ByteArray) (hi:i<ts.length) (hx:x.length+(gB ns ts ln vs i).length≤4194304) (hy:y.length+(rB ns ts vs i).length≤4194304) :
  Zy.stB hp ns ts z ln (Za5 ts) i (x,y)=some (x ++ gB ns ts ln vs i,y ++ rB ns ts vs i):=by
 have hn:=ZbB hs
 have ht:=Zcy hs
 obtain⟨⟨f0,f1⟩,⟨g0,g1⟩,_⟩:=tie_bd ht (j:=(i:Int)) (by omega) (by omega)
 unfold Zy.stB
 rw[hh _ f0 f1,Zi]
 unfold gB tieH at hx ⊢
 unfold rB tieH at hy ⊢
 cases h1:hapB ns vs (Zu ts (i:Int)).f0 with
 | false=>simp only[Bool.false_and,Bool.false_eq_true,if_false,List.append_nil]
 | true=>
  rw[if_pos rfl,hh _ g0 g1,Zi]
  rw[h1,Bool.true_and] at hx hy
  rw[Bool.true_and]
  cases h2:hapB ns vs (Zu ts (i:Int)).f1 with
  | false=>simp only[Bool.false_eq_true,if_false,List.append_nil]
  | true=>
   rw[h2] at hx hy
   simp only[if_true] at hx hy ⊢
   have hspan:Zy.span (Za5 ts) ln i (Zu ts (i:Int))=some ((lkT ts ln i).f2.f0,(lkT ts ln i).f2.f1):=by
    unfold Zy.span lkT lenAt
    cases h4:(Zu ts (i:Int)).f4 with
    | false=>rfl
    | true=>
     have hq:=free_idx hi h4
     rw[if_pos rfl,if_pos ⟨hq.1,by rw[hl];exact hq.2⟩];rfl
   have hsz:=tieT_len hn ht (j:=(i:Int)) (by omega) (by omega)
   rw[hspan,Zi,ZeX z hn ht (by omega) (by omega),Zi,addB (by show x.length<_;simp only[List.length_cons,List.length_nil] at hx;omega) (by show y.length<_;simp only[List.length_cons,List.length_nil] at hy;omega) (by rw[bs_size];omega)]
   unfold lkT
   rfl
theorem ZeY {ns:List ZM} {ts:List PTie} {z:Int} {ln vs:List Int} (hc:ZbE ns ts) (hs:ZaF ns ts z=true) (hch:ZbO ns ts ln vs=true) (k:Nat) (hk:2 ^ 65≤k):Zy.f k ns ts z ln vs=some ((ns.length:Int),ZcZ ns ts z ln vs,projR ns ts vs (fun _=>⟨#[]⟩)):=by
 have hn:=ZbB hs
 have ht:=Zcy hs
 have n7:=ZcK hn
 have t14:=ZcX ht
 have hl:ln.length=(Za5 ts).length:=by
  unfold ZbO at hch
  simp only[Bool.and_eq_true,decide_eq_true_eq] at hch
  exact hch.1
 have hh:∀i:Int,0≤i→i<ns.length→Zy.hap k ns ts z ln vs i=some (hapB ns vs i):=fun i h0 h1=>hap_f hc hs (ZdJ hch) k hk i h0 h1
 have a1:=Zbe (m:=1) (g:=gA ns vs z) ns.length 0 (fun j _ _=>gA_len ns vs z j)
 have a2:=Zbe (m:=1) (g:=rA ns vs) ns.length 0 (fun j _ _=>rA_len ns vs j)
 have b1:=Zbe (m:=1) (g:=gB ns ts ln vs) ts.length 0 (fun j _ _=>gB_len ns ts ln vs j)
 have b2:=Zbe (m:=1) (g:=rB ns ts vs) ts.length 0 (fun j _ _=>rB_len ns ts vs j)
 have c1:=Zbe (m:=1) (g:=gC ns vs) ns.length 0 (fun j _ _=>gC_len ns vs j)
 have c2:=Zbe (m:=1) (g:=rC ns vs (fun _=>⟨#[]⟩)) ns.length 0 (fun j _ _=>rC_len ns vs _ j)
 have d1:=Zbe (m:=3) (g:=gD ns vs) ns.length 0 (fun j _ h=>gD_len hn vs (by omega))
 have d2:=Zbe (m:=3) (g:=rD ns vs) ns.length 0 (fun j _ h=>rD_len hn vs (by omega))
 unfold Zy.f
 rw[Zc2 (g:=gA ns vs z) (h:=rA ns vs) (n:=ns.length) (B:=4194304) (fun i x y hi h1 h2=>stA_f (ts:=ts) hn hh i x y hi h1 h2) _ 0 [] [] (by omega) (by simp only[List.length_nil];omega) (by simp only[List.length_nil];omega),Zi,List.nil_append,List.nil_append]
 unfold Zy.f1
 rw[ZeI ns ts z hc.2.1 k (by omega),Zi]
 rw[Zc2 (g:=gB ns ts ln vs) (h:=rB ns ts vs) (n:=ts.length) (B:=4194304) (fun i x y hi h1 h2=>stB_f hs hl hh i x y hi h1 h2) _ 0 _ _ (by omega) (by omega) (by omega),Zi]
 unfold Zy.f2
 rw[Zc2 (g:=gC ns vs) (h:=rC ns vs (fun _=>⟨#[]⟩)) (n:=ns.length) (B:=4194304) (fun i x y hi h1 h2=>stC_f hh i x y hi h1 h2) _ 0 _ _ (by omega) (by rw[List.length_append];omega) (by rw[List.length_append];omega),Zi]
 unfold Zy.f3
 rw[Zc2 (g:=gD ns vs) (h:=rD ns vs) (n:=ns.length) (B:=4194304) (fun i x y hi h1 h2=>stD_f hs hh i x y hi h1 h2) _ 0 _ _ (by omega) (by simp only[List.length_append];omega) (by simp only[List.length_append];omega),Zi]
 rfl
abbrev PLink:=S112
theorem rdK_nat (l:List PLink) (i:Nat):ZQ l (i:Int)=l.getD i z112:=by unfold ZQ;rw[Int.toNat_natCast]
def inR (a b c:Int):Bool:=decide (b≤a) && decide (a≤c)
theorem inR_f (a b c:Int):ZY.f a b c=some (inR a b c):=by
 unfold ZY.f inR
 by_cases h:a≥b
 ·rw[if_pos h,Ze (show b≤a from h),Bool.true_and]
 ·rw[if_neg h,Zf (show ¬b≤a from h),Bool.false_and]
theorem inR_q (a b c:Int) (w:World):Calls Tryz.prog 127 #[.int .i64 a,.int .i64 b,.int .i64 c] w fun e w'=>e=.returned (.bool (inR a b c))∧∃n,w'=w.drewN n:=
 (ZY.calls a b c _ w (inR_f a b c)).mono fun _ _ ⟨he,hd⟩=>⟨he,hd.out⟩
theorem simpleB_bd {n:Int} {L:List PLink} (h:Zbw n L=true):1≤n∧n≤8∧L.length≤40∧∀x∈L,ZbH n x=true:=by
 unfold Zbw at h
 simp only[Bool.and_eq_true,Bool.not_eq_true',decide_eq_false_iff_not] at h
 obtain⟨h1,h2,h3,h4⟩:=h
 refine⟨by omega,by omega,by omega,fun x hx=>?_⟩
 have:=List.any_eq_false.1 h4 x hx
 simpa using this
theorem sivOk_f (lo hi:Int):ZbF.f lo hi=some (ivOkB lo hi):=ivOk_f lo hi
theorem slink_ok {n:Int} (h0:1≤n) (h8:n≤8) (y:PLink):(inR y.f0 0 (wrap64 (n - 1)) && (inR y.f1 0 (wrap64 (n - 1)) && ivOkB y.f2.f0 y.f2.f1))=ZbH n y:=by
 rw[ZaJ (by omega) (by omega)]
 unfold ZbH
 rw[show inR y.f0 0 (n - 1)=inN n y.f0 by unfold inR inN;rw[Bool.eq_iff_iff];simp only[Bool.and_eq_true,decide_eq_true_eq];omega,show inR y.f1 0 (n - 1)=inN n y.f1 by unfold inR inN;rw[Bool.eq_iff_iff];simp only[Bool.and_eq_true,decide_eq_true_eq];omega]
theorem ssimple_l (n:Int) (L:List PLink) (h0:1≤n) (h8:n≤8) (hl:L.length≤40) (k:Nat) (hk:2 ^ 64≤k):Z8.l0 k L (L.length:Int) 0 n L=some (!(L.any fun x=>!ZbH n x)):=by
 have key:=ZaN L.length (fun k i=>Z8.l0 k L (L.length:Int) (i:Int) n L=some (!((L.drop i).any fun x=>!ZbH n x))) 0
  (fun k _=>by
   simp only[Z8.l0]
   rw[if_neg (by omega),List.drop_length];rfl)
  (fun k i _ hi ih=>by
   simp only[Z8.l0]
   rw[if_pos (by omega),if_pos (by omega),if_pos (by omega),ZR hi (by omega),ih,Zav hi z112,List.any_cons,rdK_nat]
   generalize L.getD i z112=y
   rw[← slink_ok h0 h8 y]
   simp only[inR_f,sivOk_f,Zi]
   cases inR y.f0 0 (wrap64 (n - 1)) <;> cases inR y.f1 0 (wrap64 (n - 1)) <;> cases ivOkB y.f2.f0 y.f2.f1 <;> rfl) 0 k (Nat.zero_le _) (by omega)
 simpa using key
theorem Zew (n:Int) (L:List PLink) (k:Nat) (hk:2 ^ 66≤k):Z8.f k n L=some (Zbw n L):=by
 obtain⟨k,rfl⟩:∃m,k=m+1:=⟨k - 1,by omega⟩
 unfold Z8.f Zbw
 simp only[inR_f,Zi,Z8.j0]
 by_cases h:1≤n∧n≤8
 ·rw[show inR n 1 8=true by unfold inR;simp[h.1,h.2],if_pos rfl,Zf (show ¬n<1 by omega),Zf (show ¬8<n by omega)]
  by_cases h2:(L.length:Int) > 40
  ·rw[Ze h2,if_pos rfl,Ze (show 40<L.length by omega)];rfl
  ·rw[Zf h2,if_neg (by simp),Zf (show ¬40<L.length by omega),ssimple_l n L h.1 h.2 (by omega) k (by omega)]
   simp
 ·rw[show inR n 1 8=false by unfold inR;rw[Bool.eq_false_iff];simp only[ne_eq,Bool.and_eq_true,decide_eq_true_eq];exact h,if_neg (by simp),if_pos trivial]
  by_cases h3:n<1
  ·rw[Ze h3];rfl
  ·rw[Zf h3,Ze (show 8<n by omega)];rfl
def fin2 (e:Int) (L:List PLk):Int×List PLk×Bool:=if Zbw e L=true then(e,L,true) else(0,[],false)
def hbs (ns:List ZM) (vs:List Int) (n:Nat):List Bool:=(List.range n).map fun i:Nat=>hapB ns vs (i:Int)
theorem hbs_len (ns:List ZM) (vs:List Int) (n:Nat):(hbs ns vs n).length=n:=by unfold hbs;simp
theorem hbs_succ (ns:List ZM) (vs:List Int) (n:Nat):hbs ns vs (n+1)=hbs ns vs n ++ [hapB ns vs (n:Int)]:=by unfold hbs;rw[List.range_succ,List.map_append];rfl
theorem hbs_at (ns:List ZM) (vs:List Int) {n:Nat} {i:Int} (h0:0≤i) (h1:i<n):rdOf false (hbs ns vs n) i=hapB ns vs i:=by
 obtain⟨m,rfl⟩:=Int.eq_ofNat_of_zero_le h0
 unfold rdOf hbs
 rw[Int.toNat_natCast,List.getD_eq_getElem?_getD,List.getElem?_map,List.getElem?_range (by omega)]
 rfl
theorem Zda {α:Type} {step:Nat→List α→Option (List α)} {g:Nat→List α} {n B:Nat}
  (hs:∀i x,i<n→x.length+(g i).length≤B→step i x=some (x ++ g i)):∀(d i:Nat) (x:List α),i+d=n→x.length+(cat g d i).length≤B→run step d i x=some (x ++ cat g d i)
 | 0,i,x,_,_=>by simp[run,cat]
 | d+1,i,x,hi,hx=>by
  rw[cat,List.length_append] at hx
  rw[run,hs i x (by omega) (by omega),Zi,Zda hs d (i+1) _ (by omega) (by rw[List.length_append];omega),cat,List.append_assoc]
section
variable {ns:List ZM} {ts:List PTie} {z:Int} {ln vs:List Int}
theorem addLB {L:Zr.Ls} {x:PLk} (h:L.length<4398046511104):Zr.addL L x=some (L ++ [x]):=if_pos h
theorem at_hbs (ns:List ZM) (vs:List Int) {n:Nat} {i:Int} (h0:0≤i) (h1:i<n):Zr.at_ (hbs ns vs n) i=some (hapB ns vs i):=by
 unfold Zr.at_
 rw[if_pos ⟨h0,by rw[hbs_len];exact h1⟩,hbs_at ns vs h0 h1]
theorem sp_stE (hs:ZaF ns ts z=true) (hc:ZbE ns ts) {k:Nat} (hk:2 ^ 64≤k) (i:Nat) (hi:i<ns.length) (j:Nat) (x:List PLk) (hj:j<(lbL ns i).length) (hx:x.length+(gE ns vs i j).length≤4194304):Zr.stE k ns ts z (hbs ns vs ns.length) i (lbL ns i) j x=some (x ++ gE ns vs i j):=by
 have hn:=ZbB hs
 have hN:=hc.1
 have hm:rd (lbL ns i) (j:Int)∈lbL ns i:=by rw[Za0];exact Za9 hj 0
 have hlit:=ZdC (lbL_ok hn hi) _ hm
 have hp:=ZcH hlit
 unfold Zr.stE
 rw[at_hbs ns vs (by omega) (by omega),Zi]
 unfold gE at hx ⊢
 generalize hapB ns vs (i:Int)=b at hx ⊢
 cases b with
 | false=>simp only[Bool.false_eq_true,if_false,List.append_nil]
 | true=>
  simp only[if_true] at hx ⊢
  rw[ZcR hlit,Zi,ZcE ns ts z _ (by omega) k hk,Zi,addLB (by simp only[List.length_cons,List.length_nil] at hx;omega),← Zdx ns (by omega)]
  rfl
theorem sp_stD (hs:ZaF ns ts z=true) (hc:ZbE ns ts) {k:Nat} (hk:2 ^ 64≤k) (i:Nat) (x:List PLk) (hi:i<ns.length) (hx:x.length+(gD ns vs i).length≤4194304):Zr.stD k ns ts z (hbs ns vs ns.length) i x=some (x ++ gD ns vs i):=by
 unfold Zr.stD
 unfold gD at hx ⊢
 show run (Zr.stE k ns ts z (hbs ns vs ns.length) i (lbL ns i)) (lbL ns i).length 0 x=_
 exact Zda (n:=(lbL ns i).length) (B:=4194304) (fun j x hj h1=>sp_stE hs hc hk i hi j x hj h1) _ 0 x (by omega) hx
theorem sp_stC (i:Nat) (x:List PLk) (hi:i<ns.length) (hx:x.length+(gC ns vs i).length≤4194304):Zr.stC (hbs ns vs ns.length) i x=some (x ++ gC ns vs i):=by
 unfold Zr.stC
 rw[at_hbs ns vs (by omega) (by omega),Zi]
 unfold gC at hx ⊢
 generalize hapB ns vs (i:Int)=b at hx ⊢
 cases b with
 | true=>simp only[if_true,List.append_nil]
 | false=>
  simp only[Bool.false_eq_true,if_false] at hx ⊢
  rw[addLB (by simp only[List.length_cons,List.length_nil] at hx;omega)]
  rfl
theorem l10Length_f (hc:ZbE ns ts) (hl:ln.length=(Za5 ts).length) {i:Nat} (hi:i<ts.length) (hf:(Zu ts (i:Int)).f4=true) (k:Nat) (hk:2 ^ 64≤k):Zap.f k ns ts z ln vs (i:Int)=some (lenAt ts ln i):=by
 have hN:=hc.2.1
 have hF:=ZeK ts
 have hq:=free_idx hi hf
 unfold Zap.f
 rw[l10Free_f ns ts z hc.2.1 k (by omega),Zi]
 unfold lenAt
 generalize hL:Za5 ts=L at *
 obtain⟨p,hp⟩:∃p:Nat,(p:Int)=ZaZ (fun y=>decide ((i:Int)=y)) L:=⟨(ZaZ (fun y=>decide ((i:Int)=y)) L).toNat,by omega⟩
 rw[← hp] at hq ⊢
 have hfind:L.findIdx? (fun y=>decide ((i:Int)=y))=some p:=by
  unfold ZaZ at hp
  cases h:L.findIdx? (fun y=>decide ((i:Int)=y)) with
  | none=>rw[h] at hp;simp only at hp;omega
  | some m=>rw[h] at hp;simp only at hp;congr 1;omega
 obtain⟨hpl,hpt,hpb⟩:=List.findIdx?_eq_some_iff_getElem.1 hfind
 have go:∀(d j k:Nat),j+d=p→d<k→Zap.l0 k (i:Int) L (L.length:Int) (j:Int) ln vs=some (rd ln (p:Int)):=by
  intro d
  induction d with
  | zero=>
   intro j k hj hk
   obtain⟨m,rfl⟩:∃m,k=m+1:=⟨k - 1,by omega⟩
   obtain rfl:j=p:=by omega
   simp only[Zap.l0]
   have:rd L (j:Int)=(i:Int):=by
    rw[Za0,List.getD_eq_getElem?_getD,Zl hpl]
    have:=Zd hpt
    exact this.symm
   rw[if_pos (by omega),if_pos (by omega),if_pos (by omega),if_pos this,if_pos (by omega)]
  | succ d ih=>
   intro j k hj hk
   obtain⟨m,rfl⟩:∃m,k=m+1:=⟨k - 1,by omega⟩
   simp only[Zap.l0]
   have hne:¬rd L (j:Int)=(i:Int):=by
    have h:=hpb j (by omega)
    rw[Za0,List.getD_eq_getElem?_getD,Zl (by omega)]
    intro he
    apply h
    exact Ze he.symm
   rw[if_pos (by omega),if_pos (by omega),if_pos (by omega),if_neg hne,ZR (n:=L.length) (by omega) (by omega)]
   exact ih (j+1) m (by omega) (by omega)
 exact go p 0 k (by omega) (by omega)
theorem sp_stB (hs:ZaF ns ts z=true) (hc:ZbE ns ts) (hl:ln.length=(Za5 ts).length) {k:Nat} (hk:2 ^ 64≤k) (i:Nat) (x:List PLk) (hi:i<ts.length) (hx:x.length+(gB ns ts ln vs i).length≤4194304):Zr.stB k ns ts z ln vs (hbs ns vs ns.length) i x=some (x ++ gB ns ts ln vs i):=by
 have ht:=Zcy hs
 obtain⟨⟨f0,f1⟩,⟨g0,g1⟩,_⟩:=tie_bd ht (j:=(i:Int)) (by omega) (by omega)
 unfold Zr.stB
 rw[at_hbs ns vs f0 f1,Zi]
 unfold gB tieH at hx ⊢
 cases h1:hapB ns vs (Zu ts (i:Int)).f0 with
 | false=>simp only[Bool.false_and,Bool.false_eq_true,if_false,List.append_nil]
 | true=>
  rw[if_pos rfl,at_hbs ns vs g0 g1,Zi]
  rw[h1,Bool.true_and] at hx
  rw[Bool.true_and]
  cases h2:hapB ns vs (Zu ts (i:Int)).f1 with
  | false=>simp only[Bool.false_eq_true,if_false,List.append_nil]
  | true=>
   rw[h2] at hx
   simp only[if_true] at hx ⊢
   have hspan:Zr.span k ns ts z ln vs i (Zu ts (i:Int))=some ((lkT ts ln i).f2.f0,(lkT ts ln i).f2.f1):=by
    unfold Zr.span
    cases h4:(Zu ts (i:Int)).f4 with
    | false=>rw[if_neg (by simp)];unfold lkT;rw[h4];rfl
    | true=>rw[if_pos rfl,l10Length_f hc hl hi h4 k hk,Zi];unfold lkT;rw[h4];rfl
   rw[hspan,Zi,addLB (by simp only[List.length_cons,List.length_nil] at hx;omega)]
   rfl
theorem sp_stA (hs:ZaF ns ts z=true) (hc:ZbE ns ts) (hv:ZbW vs=true) {k:Nat} (hk:2 ^ 64≤k):∀(d i:Nat) (x:List PLk),i+d=ns.length→x.length+(cat (gA ns vs z) d i).length≤4194304→run (Zr.stA k ns ts z vs) d i (hbs ns vs i,x)=some (hbs ns vs ns.length,x ++ cat (gA ns vs z) d i)
 | 0,i,x,hi,_=>by
  obtain rfl:i=ns.length:=by omega
  simp[run,cat]
 | d+1,i,x,hi,hx=>by
  have hN:=hc.1
  have hn:=ZbB hs
  rw[cat,List.length_append] at hx
  have hstep:Zr.stA k ns ts z vs i (hbs ns vs i,x)=some (hbs ns vs (i+1),x ++ gA ns vs z i):=by
   unfold Zr.stA
   rw[spec_hap_f vs (i:Int) hc hn hv (by omega) (by omega) k (by omega),Zi,if_pos (by rw[hbs_len];omega)]
   rw[show(stB (ZD ns (i:Int)).f1 vs == 1)=hapB ns vs (i:Int) from rfl,← hbs_succ,at_hbs ns vs (by omega) (by omega),Zi]
   have h2:x.length+(gA ns vs z i).length≤4194304:=by omega
   unfold gA at h2 ⊢
   generalize hapB ns vs (i:Int)=b at h2 ⊢
   cases b with
   | false=>simp only[Bool.false_eq_true,if_false,List.append_nil]
   | true=>
    simp only[if_true] at h2 ⊢
    rw[addLB (by simp only[List.length_cons,List.length_nil] at h2;omega)]
    rfl
  rw[run,hstep,Zi,sp_stA hs hc hv hk d (i+1) _ (by omega) (by rw[List.length_append];omega),cat,List.append_assoc]
def projB (ns:List ZM) (ts:List PTie) (z:Int) (ln vs:List Int):Int×List PLk×Bool:=if Zcw ns ts z ln vs=true then fin2 (ns.length:Int) (ZcZ ns ts z ln vs) else(0,[],false)
theorem ZdR (hc:ZbE ns ts) (hlv:vs.length≤1048576) (k:Nat) (hk:2 ^ 67≤k):Zr.f k ns ts z ln vs=some (projB ns ts z ln vs):=by
 unfold Zr.f projB
 rw[Zex ln vs hc hlv k hk,Zi]
 by_cases h:Zcw ns ts z ln vs=true
 ·rw[if_pos h,if_pos h]
  obtain⟨hs,hch⟩:=Zdp h
  have hn:=ZbB hs
  have n7:=ZcK hn
  have t14:=ZcX (Zcy hs)
  have hl:ln.length=(Za5 ts).length:=by
   unfold ZbO at hch
   simp only[Bool.and_eq_true,decide_eq_true_eq] at hch
   exact hch.1
  have a1:=Zbe (m:=1) (g:=gA ns vs z) ns.length 0 (fun j _ _=>gA_len ns vs z j)
  have b1:=Zbe (m:=1) (g:=gB ns ts ln vs) ts.length 0 (fun j _ _=>gB_len ns ts ln vs j)
  have c1:=Zbe (m:=1) (g:=gC ns vs) ns.length 0 (fun j _ _=>gC_len ns vs j)
  have d1:=Zbe (m:=3) (g:=gD ns vs) ns.length 0 (fun j _ h=>gD_len hn vs (by omega))
  have hA:=sp_stA (z:=z) (vs:=vs) hs hc (ZdJ hch) (k:=k) (by omega) ns.length 0 [] (by omega) (by simp only[List.length_nil];omega)
  rw[List.nil_append] at hA
  rw[show(([],[]):List Bool×Zr.Ls)=(hbs ns vs 0,[]) from rfl,hA,Zi]
  unfold Zr.f1
  rw[Zda (g:=gB ns ts ln vs) (n:=ts.length) (B:=4194304) (fun i x hi h1=>sp_stB hs hc hl (by omega) i x hi h1) _ 0 _ (by omega) (by dsimp only;omega),Zi]
  unfold Zr.f2
  rw[Zda (g:=gC ns vs) (n:=ns.length) (B:=4194304) (fun i x hi h1=>sp_stC i x hi h1) _ 0 _ (by omega) (by simp only[List.length_append];omega),Zi]
  unfold Zr.f3
  rw[Zda (g:=gD ns vs) (n:=ns.length) (B:=4194304) (fun i x hi h1=>sp_stD hs hc (by omega) i x hi h1) _ 0 _ (by omega) (by simp only[List.length_append];omega),Zi]
  unfold Zr.f4
  rw[Zew _ _ k (by omega),Zi]
  unfold fin2 ZcZ
  split <;> rfl
 ·rw[if_neg h,if_neg h]
end
theorem ZdY {ns:List ZM} {ts:List PTie} {z:Int} {ln vs:List Int} (hc:ZbE ns ts) (hlv:vs.length≤1048576) (k:Nat) (hk:2 ^ 67≤k):ZaA.f k ns ts z ln vs=some (projB ns ts z ln vs):=by
 unfold ZaA.f projB
 rw[ZeH ln vs hc hlv k (by omega),Zi]
 by_cases h:Zcw ns ts z ln vs=true
 ·obtain⟨hs,hch⟩:=Zdp h
  rw[if_pos h,if_pos h,ZeY hc hs hch k (by omega),Zi]
  show((ZbY.f (ns.length:Int) (ZcZ ns ts z ln vs)).bind _)=_
  rw[show ZbY.f (ns.length:Int) (ZcZ ns ts z ln vs)=some (Zbw (ns.length:Int) (ZcZ ns ts z ln vs)) from rfl,Zi,fin2]
  split <;> rfl
 ·rw[if_neg h,if_neg h]
theorem projL_len {ns:List ZM} {ts:List PTie} {z:Int} {ln vs:List Int} (hs:ZaF ns ts z=true):(ZcZ ns ts z ln vs).length≤49:=by
 have hn:=ZbB hs
 have n7:=ZcK hn
 have t14:=ZcX (Zcy hs)
 have a1:=Zbe (m:=1) (g:=gA ns vs z) ns.length 0 (fun j _ _=>gA_len ns vs z j)
 have b1:=Zbe (m:=1) (g:=gB ns ts ln vs) ts.length 0 (fun j _ _=>gB_len ns ts ln vs j)
 have c1:=Zbe (m:=1) (g:=gC ns vs) ns.length 0 (fun j _ _=>gC_len ns vs j)
 have d1:=Zbe (m:=3) (g:=gD ns vs) ns.length 0 (fun j _ h=>gD_len hn vs (by omega))
 unfold ZcZ
 simp only[List.length_append]
 omega
theorem projB_len (ns:List ZM) (ts:List PTie) (z:Int) (ln vs:List Int):(projB ns ts z ln vs).2.1.length≤1048576:=by
 unfold projB
 split
 ·rename_i h
  have:=projL_len (ln:=ln) (vs:=vs) (Zdp h).1
  unfold fin2
  split
  ·show(ZcZ ns ts z ln vs).length≤_;omega
  ·exact Nat.zero_le _
 ·exact Nat.zero_le _
end Go.Proofs.YtoeimopgoaffcaaGreatDoor.Pr
