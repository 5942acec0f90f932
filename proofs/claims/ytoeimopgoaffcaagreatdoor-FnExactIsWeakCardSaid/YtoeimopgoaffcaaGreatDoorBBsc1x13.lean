/- The texts of one claim, put together by a program of this session. -/
import Derived.Deep.LoopGhost
import Derived.Shelf.Abstract
import Derived.Deep.RegionHeld3
import Derived.Test.YtoeimopgoaffcaaGreatDoorBBsc1x1
import Derived.Test.YtoeimopgoaffcaaGreatDoorBBsc1x10
import Derived.Test.YtoeimopgoaffcaaGreatDoorBBsc1x12
import Derived.Test.YtoeimopgoaffcaaGreatDoorBBsc1x2
import Derived.Test.YtoeimopgoaffcaaGreatDoorBBsc1x3
import Derived.Test.YtoeimopgoaffcaaGreatDoorBBsc1x7
import Derived.Test.YtoeimopgoaffcaaGreatDoorBBsc1x9
namespace Go.Proofs.YtoeimopgoaffcaaGreatDoor.Pr
open Go.RowKit Go.Proofs.YtoeimopgoaffcaaGreatDoorW.PrintWords Go.Proofs.YtoeimopgoaffcaaGreatDoorW.PrintLast Go.Proofs.YtoeimopgoaffcaaGreatDoorW.PrintMore
attribute [local go_sem] ZU ZS ZW ZV ZO ZN ZT ZR
set_option linter.unusedVariables false
set_option linter.unusedSimpArgs false
open Go.Proofs.YtoeimopgoaffcaaGreatDoor.Ni
set_option maxHeartbeats 4000000 in
theorem Zgq.any (p:S112→Bool) (g:Nat) (lb:Array Value) (eg:∀args w,(callFunc g args).run Tryz.prog w=.ok (.enter g args) w) (A0:Option Addr) (c0:Nat) (l0:List S112) (w:World) (hr0:Kd.C k112 w A0 l0.length l0)
  (hp:∀(W:World) (x:S112),x∈l0→Below w.heap.size w W→Calls Tryz.prog g (#[.agg #[.int .i64 x.f0,.int .i64 x.f1,.int .i64 x.f2.f0,.int .i64 x.f2.f1]] ++ lb) W fun e w'=>e=.returned (.bool (p x))∧Below W.heap.size W w') :
  Calls Tryz.prog 199 #[.slice A0 l0.length c0,.func (.func g) #[] lb] w fun e w'=>e=.returned (.int .i64 (ZaY p l0))∧Below w.heap.size w w':=by
 have HR0:=Za hr0;have HP:=Za hp;clear hr0 hp
 have HL:l0.length≤9223372036854775807:=HR0.out.2.1
 go_enter Tryz.func199,Tryz.ntmps199
 go_wp2
 go_loopg [5,8] l0.length (fun gg _ s8 wr=>∃kk:Nat,Aside0 (kk≤l0.length)∧Aside0 (l0.length - kk≤gg)∧s8=.int .i64 kk∧Aside0 (Below w.heap.size w wr)∧Aside0 (∀j y,j<kk→l0[j]? = some y→p y=false))
 case atStart=>exact⟨0,⟨Nat.zero_le _⟩,⟨by omega⟩,rfl,⟨Below.refl _ _⟩,⟨fun j y hj=>absurd hj (Nat.not_lt_zero _)⟩⟩
 case round=>
  obtain⟨kk,HK,HG,rfl,HB,HN⟩:=hrel
  by_cases hlt:kk<l0.length
  ·have hltz:(kk:Int)<(l0.length:Int):=by omega
   obtain⟨ad,e1,hx0,hx1,hx2,hx3⟩:=ZeV HR0.out (kk:Int) (by omega) hltz
   cases e1
   replace hx0:=(HB.out.cell (Zc w _ hx0)).trans hx0
   rw[Int.toNat_natCast] at hx0
   replace hx1:=(HB.out.cell (Zc w _ hx1)).trans hx1
   rw[Int.toNat_natCast] at hx1
   replace hx2:=(HB.out.cell (Zc w _ hx2)).trans hx2
   rw[Int.toNat_natCast] at hx2
   replace hx3:=(HB.out.cell (Zc w _ hx3)).trans hx3
   rw[Int.toNat_natCast] at hx3
   have hxe:l0[kk]? = some (ZbG l0 (kk:Int)):=by
    unfold ZbG
    rw[Int.toNat_natCast,List.getD_eq_getElem?_getD,Zl hlt];rfl
   generalize ZbG l0 (kk:Int)=y at hx0 hx1 hx2 hx3 hxe
   have HX:=Za hxe;clear hxe
   have hcall:=HP.out wr y (List.mem_of_getElem? HX.out) HB.out
   cases hq:p y with
   | true=>
    have HQ:=Za hq
    rw[hq] at hcall
    clear hq
    go_wp2_with (go_at_fn g;refine hcall.mono ?_;rintro e w' ⟨rfl,hb⟩)
    go_ret
    exact⟨by rw[ZbR p l0 kk y HX.out HQ.out HN.out];rfl,HB.out.trans (hb.mono HB.out.size)⟩
   | false=>
    have HQ:=Za hq
    rw[hq] at hcall
    clear hq
    go_wp2_with (go_at_fn g;refine hcall.mono ?_;rintro e w' ⟨rfl,hb⟩)
    go_roundg (l0.length - (kk+1))
    case measure=>have:=HG.out;omega
    case rel=>
     refine⟨kk+1,⟨by omega⟩,⟨by omega⟩,by go_num,⟨HB.out.trans (hb.mono HB.out.size)⟩,⟨fun j y' hj hy=>?_⟩⟩
     by_cases e:j=kk
     ·subst e
      rw[HX.out] at hy
      cases hy
      exact HQ.out
     ·exact HN.out j y' (by omega) hy
  ·have hltz:¬(kk:Int)<(l0.length:Int):=by omega
   have:kk=l0.length:=by have:=HK.out;omega
   subst this
   go_wp2
   go_ret
   exact⟨by rw[Zbx p l0 HN.out];rfl,HB.out⟩
set_option maxHeartbeats 4000000 in
theorem Zgr.any (p:S112→Bool) (g:Nat) (lb:Array Value) (eg:∀args w,(callFunc g args).run Tryz.prog w=.ok (.enter g args) w) (A0:Option Addr) (c0:Nat) (l0:List S112) (w:World) (hr0:Kd.C k112 w A0 l0.length l0)
  (hp:∀(W:World) (x:S112),x∈l0→Below w.heap.size w W→Calls Tryz.prog g (#[.agg #[.int .i64 x.f0,.int .i64 x.f1,.int .i64 x.f2.f0,.int .i64 x.f2.f1]] ++ lb) W fun e w'=>e=.returned (.bool (p x))∧Below W.heap.size W w') :
  Calls Tryz.prog 164 #[.slice A0 l0.length c0,.func (.func g) #[] lb] w fun e w'=>e=.returned (.bool (l0.any p))∧Below w.heap.size w w':=by
 have HI:=Za (Zgq.any p g lb eg A0 c0 l0 w hr0 hp)
 clear hr0 hp
 have HE:=Za (ZcZ p l0)
 go_enter Tryz.func164,Tryz.ntmps164
 go_wp2_with (go_at_call 199;refine HI.out.mono ?_;rintro e w' ⟨rfl,hb⟩)
 go_ret
 exact⟨by rw[← HE.out];rfl,hb⟩
end Go.Proofs.YtoeimopgoaffcaaGreatDoor.Pr
namespace Go.Proofs.YtoeimopgoaffcaaGreatDoor.Pr
open Go.RowKit Go.Proofs.YtoeimopgoaffcaaGreatDoorW.PrintWords Go.Proofs.YtoeimopgoaffcaaGreatDoorW.PrintLast Go.Proofs.YtoeimopgoaffcaaGreatDoorW.PrintMore
attribute [local go_sem] ZU ZS ZW ZV ZO ZN ZT ZR
set_option linter.unusedVariables false
set_option linter.unusedSimpArgs false
def Zcg.f (a0_0:Int) (a0_1:Int):Option (Bool):=if a0_0≥(-1000000) then(if a0_0≤a0_1 then(if a0_1≤1000000 then(if a0_0=1000000 then(some false) else(some (a0_1 != (-1000000)))) else(some false)) else(some false)) else(some false)
set_option maxHeartbeats 8000000 in
set_option maxRecDepth 100000 in
theorem Zcg.calls (a0_0:Int) (a0_1:Int) (r:Bool) (w:World) (h:Zcg.f a0_0 a0_1=some r) :
  Calls Tryz.prog 166 #[.agg #[.int .i64 a0_0,.int .i64 a0_1]] w fun e w'=>e=.returned (.bool r)∧Below w.heap.size w w':=by
 have hu110:=Tryz.underlying110
 have HB:=Za (Below.refl w.heap.size w)
 have H:(if a0_0≥(-1000000) then(if a0_0≤a0_1 then(if a0_1≤1000000 then(if a0_0=1000000 then(some false) else(some (a0_1 != (-1000000)))) else(some false)) else(some false)) else(some false))=some r:=h
 clear h
 by_cases c2:a0_0≥(-1000000)
 ·rw[if_pos c2] at H
  have c2b0:decide ((-1000000)≤a0_0)=true:=Ze c2
  clear c2
  by_cases c3:a0_0≤a0_1
  ·rw[if_pos c3] at H
   have c3b0:decide (a0_0≤a0_1)=true:=Ze c3
   clear c3
   by_cases c4:a0_1≤1000000
   ·rw[if_pos c4] at H
    have c4b0:decide (a0_1≤1000000)=true:=Ze c4
    clear c4
    by_cases c5:a0_0=1000000
    ·rw[if_pos c5] at H
     have c5b0:(a0_0 == 1000000)=true:=beq_iff_eq.mpr c5
     have c5b1:(a0_0 != 1000000)=false:=bne_eq_false_iff_eq.mpr c5
     clear c5
     obtain rfl:=Zg H
     go_enter Tryz.func166,Tryz.ntmps166
     go_wp2_with (first|((with_reducible refine ZF (N:=1) rfl ?_);refine ZG ?hg (N:=1) ?hd (cs:=#[.int .i64 a0_0,.int .i64 a0_1]) (t:=110) ?hr ?_;(case hd=>rfl);(case hg=>rfl);(case hr=>first|(go_simp;done)|(go_simp;rfl));intro gb166001 hg w6 hbox hb;have BK166001:=Za (hbox);have GW166001:=Za ((by rw[hg];exact(Zy (by repeat(first|(with_reducible first|exact HB.out|apply Zn|apply Zm|apply Zo)|exact HB.out))):w.heap.size≤gb166001));have GE166001:=Za ((by rw[hg];exact(Zy (by repeat(first|(with_reducible first|exact HB.out|apply Zn|apply Zm|apply Zo)|exact HB.out))):w.heap.size≤gb166001));replace HB:=Za (Zw (by repeat(first|(with_reducible first|exact HB.out|apply Zn|apply Zm|apply Zo)|exact HB.out)) hb);clear hb hbox hg;have hcz7_0:w6.cell? ⟨gb166001,0,none⟩=some (.int .i64 a0_0):=(Zp BK166001.out 0).trans rfl;have hcz7_1:w6.cell? ⟨gb166001,1,none⟩=some (.int .i64 a0_1):=(Zp BK166001.out 1).trans rfl))
     go_ret
     exact⟨by first|rfl|(simp[ZC,ZB] <;> rfl)|(simp[*,ZC,ZB] <;> rfl),by repeat(first|(with_reducible first|exact HB.out|apply Zn|apply Zm|apply Zo|refine Zq ?_ GE166001.out)|exact HB.out)⟩
    ·rw[if_neg c5] at H
     have c5b0:(a0_0 == 1000000)=false:=beq_eq_false_iff_ne.mpr c5
     have c5b1:(a0_0 != 1000000)=true:=bne_iff_ne.mpr c5
     obtain rfl:=Zg H
     go_enter Tryz.func166,Tryz.ntmps166
     go_wp2_with (first|((with_reducible refine ZF (N:=1) rfl ?_);refine ZG ?hg (N:=1) ?hd (cs:=#[.int .i64 a0_0,.int .i64 a0_1]) (t:=110) ?hr ?_;(case hd=>rfl);(case hg=>rfl);(case hr=>first|(go_simp;done)|(go_simp;rfl));intro gb166001 hg w8 hbox hb;have BK166001:=Za (hbox);have GW166001:=Za ((by rw[hg];exact(Zy (by repeat(first|(with_reducible first|exact HB.out|apply Zn|apply Zm|apply Zo)|exact HB.out))):w.heap.size≤gb166001));have GE166001:=Za ((by rw[hg];exact(Zy (by repeat(first|(with_reducible first|exact HB.out|apply Zn|apply Zm|apply Zo)|exact HB.out))):w.heap.size≤gb166001));replace HB:=Za (Zw (by repeat(first|(with_reducible first|exact HB.out|apply Zn|apply Zm|apply Zo)|exact HB.out)) hb);clear hb hbox hg;have hcz9_0:w8.cell? ⟨gb166001,0,none⟩=some (.int .i64 a0_0):=(Zp BK166001.out 0).trans rfl;have hcz9_1:w8.cell? ⟨gb166001,1,none⟩=some (.int .i64 a0_1):=(Zp BK166001.out 1).trans rfl))
     go_ret
     exact⟨by first|rfl|(simp[ZC,ZB] <;> rfl)|(simp[*,ZC,ZB] <;> rfl),by repeat(first|(with_reducible first|exact HB.out|apply Zn|apply Zm|apply Zo|refine Zq ?_ GE166001.out)|exact HB.out)⟩
   ·rw[if_neg c4] at H
    have c4b0:decide (a0_1≤1000000)=false:=Zf c4
    clear c4
    obtain rfl:=Zg H
    go_enter Tryz.func166,Tryz.ntmps166
    go_wp2_with (first|((with_reducible refine ZF (N:=1) rfl ?_);refine ZG ?hg (N:=1) ?hd (cs:=#[.int .i64 a0_0,.int .i64 a0_1]) (t:=110) ?hr ?_;(case hd=>rfl);(case hg=>rfl);(case hr=>first|(go_simp;done)|(go_simp;rfl));intro gb166001 hg w10 hbox hb;have BK166001:=Za (hbox);have GW166001:=Za ((by rw[hg];exact(Zy (by repeat(first|(with_reducible first|exact HB.out|apply Zn|apply Zm|apply Zo)|exact HB.out))):w.heap.size≤gb166001));have GE166001:=Za ((by rw[hg];exact(Zy (by repeat(first|(with_reducible first|exact HB.out|apply Zn|apply Zm|apply Zo)|exact HB.out))):w.heap.size≤gb166001));replace HB:=Za (Zw (by repeat(first|(with_reducible first|exact HB.out|apply Zn|apply Zm|apply Zo)|exact HB.out)) hb);clear hb hbox hg;have hcz11_0:w10.cell? ⟨gb166001,0,none⟩=some (.int .i64 a0_0):=(Zp BK166001.out 0).trans rfl;have hcz11_1:w10.cell? ⟨gb166001,1,none⟩=some (.int .i64 a0_1):=(Zp BK166001.out 1).trans rfl))
    go_ret
    exact⟨by first|rfl|(simp[ZC,ZB] <;> rfl)|(simp[*,ZC,ZB] <;> rfl),by repeat(first|(with_reducible first|exact HB.out|apply Zn|apply Zm|apply Zo|refine Zq ?_ GE166001.out)|exact HB.out)⟩
  ·rw[if_neg c3] at H
   have c3b0:decide (a0_0≤a0_1)=false:=Zf c3
   clear c3
   obtain rfl:=Zg H
   go_enter Tryz.func166,Tryz.ntmps166
   go_wp2_with (first|((with_reducible refine ZF (N:=1) rfl ?_);refine ZG ?hg (N:=1) ?hd (cs:=#[.int .i64 a0_0,.int .i64 a0_1]) (t:=110) ?hr ?_;(case hd=>rfl);(case hg=>rfl);(case hr=>first|(go_simp;done)|(go_simp;rfl));intro gb166001 hg w12 hbox hb;have BK166001:=Za (hbox);have GW166001:=Za ((by rw[hg];exact(Zy (by repeat(first|(with_reducible first|exact HB.out|apply Zn|apply Zm|apply Zo)|exact HB.out))):w.heap.size≤gb166001));have GE166001:=Za ((by rw[hg];exact(Zy (by repeat(first|(with_reducible first|exact HB.out|apply Zn|apply Zm|apply Zo)|exact HB.out))):w.heap.size≤gb166001));replace HB:=Za (Zw (by repeat(first|(with_reducible first|exact HB.out|apply Zn|apply Zm|apply Zo)|exact HB.out)) hb);clear hb hbox hg;have hcz13_0:w12.cell? ⟨gb166001,0,none⟩=some (.int .i64 a0_0):=(Zp BK166001.out 0).trans rfl;have hcz13_1:w12.cell? ⟨gb166001,1,none⟩=some (.int .i64 a0_1):=(Zp BK166001.out 1).trans rfl))
   go_ret
   exact⟨by first|rfl|(simp[ZC,ZB] <;> rfl)|(simp[*,ZC,ZB] <;> rfl),by repeat(first|(with_reducible first|exact HB.out|apply Zn|apply Zm|apply Zo|refine Zq ?_ GE166001.out)|exact HB.out)⟩
 ·rw[if_neg c2] at H
  have c2b0:decide ((-1000000)≤a0_0)=false:=Zf c2
  clear c2
  obtain rfl:=Zg H
  go_enter Tryz.func166,Tryz.ntmps166
  go_wp2_with (first|((with_reducible refine ZF (N:=1) rfl ?_);refine ZG ?hg (N:=1) ?hd (cs:=#[.int .i64 a0_0,.int .i64 a0_1]) (t:=110) ?hr ?_;(case hd=>rfl);(case hg=>rfl);(case hr=>first|(go_simp;done)|(go_simp;rfl));intro gb166001 hg w14 hbox hb;have BK166001:=Za (hbox);have GW166001:=Za ((by rw[hg];exact(Zy (by repeat(first|(with_reducible first|exact HB.out|apply Zn|apply Zm|apply Zo)|exact HB.out))):w.heap.size≤gb166001));have GE166001:=Za ((by rw[hg];exact(Zy (by repeat(first|(with_reducible first|exact HB.out|apply Zn|apply Zm|apply Zo)|exact HB.out))):w.heap.size≤gb166001));replace HB:=Za (Zw (by repeat(first|(with_reducible first|exact HB.out|apply Zn|apply Zm|apply Zo)|exact HB.out)) hb);clear hb hbox hg;have hcz15_0:w14.cell? ⟨gb166001,0,none⟩=some (.int .i64 a0_0):=(Zp BK166001.out 0).trans rfl;have hcz15_1:w14.cell? ⟨gb166001,1,none⟩=some (.int .i64 a0_1):=(Zp BK166001.out 1).trans rfl))
  go_ret
  exact⟨by first|rfl|(simp[ZC,ZB] <;> rfl)|(simp[*,ZC,ZB] <;> rfl),by repeat(first|(with_reducible first|exact HB.out|apply Zn|apply Zm|apply Zo|refine Zq ?_ GE166001.out)|exact HB.out)⟩
end Go.Proofs.YtoeimopgoaffcaaGreatDoor.Pr
namespace Go.Proofs.YtoeimopgoaffcaaGreatDoor.Pr
open Go.RowKit Go.Proofs.YtoeimopgoaffcaaGreatDoorW.PrintWords Go.Proofs.YtoeimopgoaffcaaGreatDoorW.PrintLast Go.Proofs.YtoeimopgoaffcaaGreatDoorW.PrintMore
attribute [local go_sem] ZU ZS ZW ZV ZO ZN ZT ZR
set_option linter.unusedVariables false
set_option linter.unusedSimpArgs false
open Go.Proofs.YtoeimopgoaffcaaGreatDoor.Ni
def ivOkB (lo hi:Int):Bool:=decide (-1000000≤lo) && (decide (lo≤hi) && (decide (hi≤1000000) && (!(decide (lo=1000000)) && !(decide (hi=-1000000)))))
theorem ivOk_f (lo hi:Int):Zcg.f lo hi=some (ivOkB lo hi):=by
 unfold Zcg.f ivOkB
 by_cases h1:lo≥-1000000
 ·rw[if_pos h1,Ze (show(-1000000:Int)≤lo from h1),Bool.true_and]
  by_cases h2:lo≤hi
  ·rw[if_pos h2,Ze h2,Bool.true_and]
   by_cases h3:hi≤1000000
   ·rw[if_pos h3,Ze h3,Bool.true_and]
    by_cases h4:lo=1000000
    ·rw[if_pos h4,Ze h4];rfl
    ·rw[if_neg h4,Zf h4]
     congr 1
   ·rw[if_neg h3,Zf h3];rfl
  ·rw[if_neg h2,Zf h2];rfl
 ·rw[if_neg h1,Zf (show ¬(-1000000:Int)≤lo from h1)];rfl
def ZbH (n:Int) (x:S112):Bool:=inN n x.f0 && (inN n x.f1 && ivOkB x.f2.f0 x.f2.f1)
def Zay (n:Int) (ls:List S112):Bool:=!(decide (n<1)) && (!(decide (8<n)) && (!(decide (40<ls.length)) && !(ls.any fun x=>!ZbH n x)))
def ZaL.f (a0_0:Int) (l0_1:List (S112)):Option Bool:=some (Zay a0_0 l0_1)
set_option maxHeartbeats 4000000 in
theorem Zfu.clo (B:Nat) (n:Int) (W:World) (hB:W.cell? ⟨B,0,none⟩=some (.int .i64 n)) (x:S112) :
  Calls Tryz.prog 165 #[.agg #[.int .i64 x.f0,.int .i64 x.f1,.int .i64 x.f2.f0,.int .i64 x.f2.f1],.pointer (some ⟨B,0,none⟩)] W fun e w'=>e=.returned (.bool (!ZbH n x))∧Below W.heap.size W w':=by
 have hlt:B<W.heap.size:=Zc W _ hB
 have hu:=Tryz.underlying112
 have hu2:=Tryz.underlying110
 have hu3:=Tryz.underlying54
 obtain⟨f0,f1,⟨f2,f3⟩⟩:=x
 have HE:=Za (show ZbH n ⟨f0,f1,⟨f2,f3⟩⟩=(inN n f0 && (inN n f1 && ivOkB f2 f3)) from rfl)
 have HI:=Za fun (w:World)=>Zcg.calls f2 f3 _ w (ivOk_f f2 f3)
 cases b1:inN n f0 with
 | false=>
  have HF:=Za (show ZbH n ⟨f0,f1,⟨f2,f3⟩⟩=false by rw[HE.out,b1];rfl)
  clear HE
  go_enter Tryz.func165,Tryz.ntmps165
  go_wp2_with (go_at_call 84;refine(Zde _ _ _).mono ?_;rintro e w' ⟨rfl,nd,rfl⟩)
  go_ret
  exact⟨by rw[HF.out];rfl,by repeat(first|exact Below.refl _ _|apply Zn|apply Zm|apply Zax)⟩
 | true=>
 cases b2:inN n f1 with
 | false=>
  have HF:=Za (show ZbH n ⟨f0,f1,⟨f2,f3⟩⟩=false by rw[HE.out,b1,b2];rfl)
  clear HE
  go_enter Tryz.func165,Tryz.ntmps165
  go_wp2_with (go_at_call 84;refine(Zde _ _ _).mono ?_;rintro e w' ⟨rfl,nd,rfl⟩)
  go_ret
  exact⟨by rw[HF.out];rfl,by repeat(first|exact Below.refl _ _|apply Zn|apply Zm|apply Zax)⟩
 | true=>
 have HF:=Za (show ZbH n ⟨f0,f1,⟨f2,f3⟩⟩=ivOkB f2 f3 by rw[HE.out,b1,b2];rfl)
 clear HE
 go_enter Tryz.func165,Tryz.ntmps165
 go_wp2_with (first|(go_at_call 84;refine(Zde _ _ _).mono ?_;rintro e w' ⟨rfl,nd,rfl⟩)|(go_at_call 166;refine(HI.out _).mono ?_;rintro e w' ⟨rfl,hb⟩))
 go_ret
 exact⟨by rw[HF.out];rfl,Zw (by repeat(first|exact Below.refl _ _|apply Zn|apply Zm|apply Zax)) hb⟩
set_option maxHeartbeats 4000000 in
set_option maxRecDepth 100000 in
theorem ZaL.calls (a0_0:Int) (A0_1:Option Addr) (c0_1:Nat) (l0_1:List (S112)) (r:Bool) (w:World) (hr0_1:Kd.C k112 w A0_1 l0_1.length l0_1) (hc0_1:l0_1.length≤c0_1) (h:ZaL.f a0_0 l0_1=some r) :
  Calls Tryz.prog 105 #[.agg #[.int .i64 a0_0,.slice A0_1 l0_1.length c0_1]] w fun e w'=>e=.returned (.bool r)∧Below w.heap.size w w':=by
 obtain rfl:=Zg h
 have hL:l0_1.length≤9223372036854775807:=hr0_1.2.1
 have HC:=Za fun (W:World) (B:Nat) (hb:Below w.heap.size w W) (hcell:W.cell? ⟨B,0,none⟩=some (.int .i64 a0_0))=>Zgr.any (fun x=>!ZbH a0_0 x) 165 #[.pointer (some ⟨B,0,none⟩)] (enters_of Tryz.func165 (by kernel_rfl) rfl) A0_1 c0_1 l0_1 W (Zb hr0_1 hb)
    (fun W' x _ hb'=>Zfu.clo B a0_0 W' (Zx hb' hcell) x)
 have hu:=Tryz.underlying54
 have HB:=Za (Zn (Below.refl w.heap.size w) (.cells #[.int .i64 a0_0,.slice A0_1 l0_1.length c0_1] 54))
 clear hr0_1 h
 cases b1:decide (a0_0<1) with
 | true=>
  have HF:=Za (show Zay a0_0 l0_1=false by unfold Zay;rw[b1];rfl)
  go_enter Tryz.func105,Tryz.ntmps105
  go_wp2
  go_ret
  exact⟨by rw[HF.out];rfl,HB.out⟩
 | false=>
 cases b2:decide (8<a0_0) with
 | true=>
  have HF:=Za (show Zay a0_0 l0_1=false by unfold Zay;rw[b1,b2];rfl)
  go_enter Tryz.func105,Tryz.ntmps105
  go_wp2
  go_ret
  exact⟨by rw[HF.out];rfl,HB.out⟩
 | false=>
 by_cases q3:40<l0_1.length
 ·have b3:decide (40<l0_1.length)=true:=Ze q3
  have z3:(40:Int)<(l0_1.length:Int):=by omega
  have HF:=Za (show Zay a0_0 l0_1=false by unfold Zay;rw[b1,b2,b3];rfl)
  clear b3 q3
  go_enter Tryz.func105,Tryz.ntmps105
  go_wp2
  go_ret
  exact⟨by rw[HF.out];rfl,HB.out⟩
 ·have b3:decide (40<l0_1.length)=false:=Zf q3
  have z3:¬(40:Int)<(l0_1.length:Int):=by omega
  have HF:=Za (show Zay a0_0 l0_1=!(l0_1.any fun x=>!ZbH a0_0 x) by unfold Zay;rw[b1,b2,b3];rfl)
  clear b3 q3
  generalize l0_1.any (fun x=>!ZbH a0_0 x)=q at HC HF
  go_enter Tryz.func105,Tryz.ntmps105
  go_wp2_with fail
  refine(HC.out _ _ HB.out (by go_simp)).mono ?_
  rintro e w' ⟨rfl,hb⟩
  go_wp2
  go_ret
  exact⟨by rw[HF.out];rfl,HB.out.trans (hb.mono HB.out.size)⟩
end Go.Proofs.YtoeimopgoaffcaaGreatDoor.Pr
namespace Go.Proofs.YtoeimopgoaffcaaGreatDoor.Pr
open Go.RowKit Go.Proofs.YtoeimopgoaffcaaGreatDoorW.PrintWords Go.Proofs.YtoeimopgoaffcaaGreatDoorW.PrintLast Go.Proofs.YtoeimopgoaffcaaGreatDoorW.PrintMore
attribute [local go_sem] ZU ZS ZW ZV ZO ZN ZT ZR
set_option linter.unusedVariables false
set_option linter.unusedSimpArgs false
def ZcF.f (a0_0:Int) (a0_1:Int):Option (Bool):=if a0_0≥(-1000000) then(if a0_0≤a0_1 then(if a0_1≤1000000 then(if a0_0=1000000 then(some false) else(some (a0_1 != (-1000000)))) else(some false)) else(some false)) else(some false)
set_option maxHeartbeats 8000000 in
set_option maxRecDepth 100000 in
theorem ZcF.calls (a0_0:Int) (a0_1:Int) (r:Bool) (w:World) (h:ZcF.f a0_0 a0_1=some r) :
  Calls Tryz.prog 157 #[.agg #[.int .i64 a0_0,.int .i64 a0_1]] w fun e w'=>e=.returned (.bool r)∧Below w.heap.size w w':=by
 have hu110:=Tryz.underlying110
 have HB:=Za (Below.refl w.heap.size w)
 have H:(if a0_0≥(-1000000) then(if a0_0≤a0_1 then(if a0_1≤1000000 then(if a0_0=1000000 then(some false) else(some (a0_1 != (-1000000)))) else(some false)) else(some false)) else(some false))=some r:=h
 clear h
 by_cases c2:a0_0≥(-1000000)
 ·rw[if_pos c2] at H
  have c2b0:decide ((-1000000)≤a0_0)=true:=Ze c2
  clear c2
  by_cases c3:a0_0≤a0_1
  ·rw[if_pos c3] at H
   have c3b0:decide (a0_0≤a0_1)=true:=Ze c3
   clear c3
   by_cases c4:a0_1≤1000000
   ·rw[if_pos c4] at H
    have c4b0:decide (a0_1≤1000000)=true:=Ze c4
    clear c4
    by_cases c5:a0_0=1000000
    ·rw[if_pos c5] at H
     have c5b0:(a0_0 == 1000000)=true:=beq_iff_eq.mpr c5
     have c5b1:(a0_0 != 1000000)=false:=bne_eq_false_iff_eq.mpr c5
     clear c5
     obtain rfl:=Zg H
     go_enter Tryz.func157,Tryz.ntmps157
     go_wp2_with (first|((with_reducible refine ZF (N:=1) rfl ?_);refine ZG ?hg (N:=1) ?hd (cs:=#[.int .i64 a0_0,.int .i64 a0_1]) (t:=110) ?hr ?_;(case hd=>rfl);(case hg=>rfl);(case hr=>first|(go_simp;done)|(go_simp;rfl));intro gb157001 hg w6 hbox hb;have BK157001:=Za (hbox);have GW157001:=Za ((by rw[hg];exact(Zy (by repeat(first|(with_reducible first|exact HB.out|apply Zn|apply Zm|apply Zo)|exact HB.out))):w.heap.size≤gb157001));have GE157001:=Za ((by rw[hg];exact(Zy (by repeat(first|(with_reducible first|exact HB.out|apply Zn|apply Zm|apply Zo)|exact HB.out))):w.heap.size≤gb157001));replace HB:=Za (Zw (by repeat(first|(with_reducible first|exact HB.out|apply Zn|apply Zm|apply Zo)|exact HB.out)) hb);clear hb hbox hg;have hcz7_0:w6.cell? ⟨gb157001,0,none⟩=some (.int .i64 a0_0):=(Zp BK157001.out 0).trans rfl;have hcz7_1:w6.cell? ⟨gb157001,1,none⟩=some (.int .i64 a0_1):=(Zp BK157001.out 1).trans rfl))
     go_ret
     exact⟨by first|rfl|(simp[ZC,ZB] <;> rfl)|(simp[*,ZC,ZB] <;> rfl),by repeat(first|(with_reducible first|exact HB.out|apply Zn|apply Zm|apply Zo|refine Zq ?_ GE157001.out)|exact HB.out)⟩
    ·rw[if_neg c5] at H
     have c5b0:(a0_0 == 1000000)=false:=beq_eq_false_iff_ne.mpr c5
     have c5b1:(a0_0 != 1000000)=true:=bne_iff_ne.mpr c5
     obtain rfl:=Zg H
     go_enter Tryz.func157,Tryz.ntmps157
     go_wp2_with (first|((with_reducible refine ZF (N:=1) rfl ?_);refine ZG ?hg (N:=1) ?hd (cs:=#[.int .i64 a0_0,.int .i64 a0_1]) (t:=110) ?hr ?_;(case hd=>rfl);(case hg=>rfl);(case hr=>first|(go_simp;done)|(go_simp;rfl));intro gb157001 hg w8 hbox hb;have BK157001:=Za (hbox);have GW157001:=Za ((by rw[hg];exact(Zy (by repeat(first|(with_reducible first|exact HB.out|apply Zn|apply Zm|apply Zo)|exact HB.out))):w.heap.size≤gb157001));have GE157001:=Za ((by rw[hg];exact(Zy (by repeat(first|(with_reducible first|exact HB.out|apply Zn|apply Zm|apply Zo)|exact HB.out))):w.heap.size≤gb157001));replace HB:=Za (Zw (by repeat(first|(with_reducible first|exact HB.out|apply Zn|apply Zm|apply Zo)|exact HB.out)) hb);clear hb hbox hg;have hcz9_0:w8.cell? ⟨gb157001,0,none⟩=some (.int .i64 a0_0):=(Zp BK157001.out 0).trans rfl;have hcz9_1:w8.cell? ⟨gb157001,1,none⟩=some (.int .i64 a0_1):=(Zp BK157001.out 1).trans rfl))
     go_ret
     exact⟨by first|rfl|(simp[ZC,ZB] <;> rfl)|(simp[*,ZC,ZB] <;> rfl),by repeat(first|(with_reducible first|exact HB.out|apply Zn|apply Zm|apply Zo|refine Zq ?_ GE157001.out)|exact HB.out)⟩
   ·rw[if_neg c4] at H
    have c4b0:decide (a0_1≤1000000)=false:=Zf c4
    clear c4
    obtain rfl:=Zg H
    go_enter Tryz.func157,Tryz.ntmps157
    go_wp2_with (first|((with_reducible refine ZF (N:=1) rfl ?_);refine ZG ?hg (N:=1) ?hd (cs:=#[.int .i64 a0_0,.int .i64 a0_1]) (t:=110) ?hr ?_;(case hd=>rfl);(case hg=>rfl);(case hr=>first|(go_simp;done)|(go_simp;rfl));intro gb157001 hg w10 hbox hb;have BK157001:=Za (hbox);have GW157001:=Za ((by rw[hg];exact(Zy (by repeat(first|(with_reducible first|exact HB.out|apply Zn|apply Zm|apply Zo)|exact HB.out))):w.heap.size≤gb157001));have GE157001:=Za ((by rw[hg];exact(Zy (by repeat(first|(with_reducible first|exact HB.out|apply Zn|apply Zm|apply Zo)|exact HB.out))):w.heap.size≤gb157001));replace HB:=Za (Zw (by repeat(first|(with_reducible first|exact HB.out|apply Zn|apply Zm|apply Zo)|exact HB.out)) hb);clear hb hbox hg;have hcz11_0:w10.cell? ⟨gb157001,0,none⟩=some (.int .i64 a0_0):=(Zp BK157001.out 0).trans rfl;have hcz11_1:w10.cell? ⟨gb157001,1,none⟩=some (.int .i64 a0_1):=(Zp BK157001.out 1).trans rfl))
    go_ret
    exact⟨by first|rfl|(simp[ZC,ZB] <;> rfl)|(simp[*,ZC,ZB] <;> rfl),by repeat(first|(with_reducible first|exact HB.out|apply Zn|apply Zm|apply Zo|refine Zq ?_ GE157001.out)|exact HB.out)⟩
  ·rw[if_neg c3] at H
   have c3b0:decide (a0_0≤a0_1)=false:=Zf c3
   clear c3
   obtain rfl:=Zg H
   go_enter Tryz.func157,Tryz.ntmps157
   go_wp2_with (first|((with_reducible refine ZF (N:=1) rfl ?_);refine ZG ?hg (N:=1) ?hd (cs:=#[.int .i64 a0_0,.int .i64 a0_1]) (t:=110) ?hr ?_;(case hd=>rfl);(case hg=>rfl);(case hr=>first|(go_simp;done)|(go_simp;rfl));intro gb157001 hg w12 hbox hb;have BK157001:=Za (hbox);have GW157001:=Za ((by rw[hg];exact(Zy (by repeat(first|(with_reducible first|exact HB.out|apply Zn|apply Zm|apply Zo)|exact HB.out))):w.heap.size≤gb157001));have GE157001:=Za ((by rw[hg];exact(Zy (by repeat(first|(with_reducible first|exact HB.out|apply Zn|apply Zm|apply Zo)|exact HB.out))):w.heap.size≤gb157001));replace HB:=Za (Zw (by repeat(first|(with_reducible first|exact HB.out|apply Zn|apply Zm|apply Zo)|exact HB.out)) hb);clear hb hbox hg;have hcz13_0:w12.cell? ⟨gb157001,0,none⟩=some (.int .i64 a0_0):=(Zp BK157001.out 0).trans rfl;have hcz13_1:w12.cell? ⟨gb157001,1,none⟩=some (.int .i64 a0_1):=(Zp BK157001.out 1).trans rfl))
   go_ret
   exact⟨by first|rfl|(simp[ZC,ZB] <;> rfl)|(simp[*,ZC,ZB] <;> rfl),by repeat(first|(with_reducible first|exact HB.out|apply Zn|apply Zm|apply Zo|refine Zq ?_ GE157001.out)|exact HB.out)⟩
 ·rw[if_neg c2] at H
  have c2b0:decide ((-1000000)≤a0_0)=false:=Zf c2
  clear c2
  obtain rfl:=Zg H
  go_enter Tryz.func157,Tryz.ntmps157
  go_wp2_with (first|((with_reducible refine ZF (N:=1) rfl ?_);refine ZG ?hg (N:=1) ?hd (cs:=#[.int .i64 a0_0,.int .i64 a0_1]) (t:=110) ?hr ?_;(case hd=>rfl);(case hg=>rfl);(case hr=>first|(go_simp;done)|(go_simp;rfl));intro gb157001 hg w14 hbox hb;have BK157001:=Za (hbox);have GW157001:=Za ((by rw[hg];exact(Zy (by repeat(first|(with_reducible first|exact HB.out|apply Zn|apply Zm|apply Zo)|exact HB.out))):w.heap.size≤gb157001));have GE157001:=Za ((by rw[hg];exact(Zy (by repeat(first|(with_reducible first|exact HB.out|apply Zn|apply Zm|apply Zo)|exact HB.out))):w.heap.size≤gb157001));replace HB:=Za (Zw (by repeat(first|(with_reducible first|exact HB.out|apply Zn|apply Zm|apply Zo)|exact HB.out)) hb);clear hb hbox hg;have hcz15_0:w14.cell? ⟨gb157001,0,none⟩=some (.int .i64 a0_0):=(Zp BK157001.out 0).trans rfl;have hcz15_1:w14.cell? ⟨gb157001,1,none⟩=some (.int .i64 a0_1):=(Zp BK157001.out 1).trans rfl))
  go_ret
  exact⟨by first|rfl|(simp[ZC,ZB] <;> rfl)|(simp[*,ZC,ZB] <;> rfl),by repeat(first|(with_reducible first|exact HB.out|apply Zn|apply Zm|apply Zo|refine Zq ?_ GE157001.out)|exact HB.out)⟩
end Go.Proofs.YtoeimopgoaffcaaGreatDoor.Pr
namespace Go.Proofs.YtoeimopgoaffcaaGreatDoor.Pr
open Go.RowKit Go.Proofs.YtoeimopgoaffcaaGreatDoorW.PrintWords Go.Proofs.YtoeimopgoaffcaaGreatDoorW.PrintLast Go.Proofs.YtoeimopgoaffcaaGreatDoorW.PrintMore
attribute [local go_sem] ZU ZS ZW ZV ZO ZN ZT ZR
set_option linter.unusedVariables false
set_option linter.unusedSimpArgs false
open Go.Proofs.YtoeimopgoaffcaaGreatDoor.Ni
theorem sivOk_f (lo hi:Int):ZcF.f lo hi=some (ivOkB lo hi):=ivOk_f lo hi
theorem slink_ok {n:Int} (h0:1≤n) (h8:n≤8) (y:S112):(inR y.f0 0 (wrap64 (n - 1)) && (inR y.f1 0 (wrap64 (n - 1)) && ivOkB y.f2.f0 y.f2.f1))=ZbH n y:=by
 rw[Za8 (by omega) (by omega)]
 unfold ZbH
 rw[show inR y.f0 0 (n - 1)=inN n y.f0 by unfold inR inN;rw[Bool.eq_iff_iff];simp only[Bool.and_eq_true,decide_eq_true_eq];omega,show inR y.f1 0 (n - 1)=inN n y.f1 by unfold inR inN;rw[Bool.eq_iff_iff];simp only[Bool.and_eq_true,decide_eq_true_eq];omega]
def ZaV.f (_k:Nat) (a0_0:Int) (l0_1:List (S112)):Option Bool:=some (Zay a0_0 l0_1)
set_option maxHeartbeats 4000000 in
set_option maxRecDepth 100000 in
theorem ZaV.calls (k:Nat) (a0_0:Int) (A0_1:Option Addr) (c0_1:Nat) (l0_1:List (S112)) (r:Bool) (w:World) (hr0_1:Kd.C k112 w A0_1 l0_1.length l0_1) (hc0_1:l0_1.length≤c0_1) (h:ZaV.f k a0_0 l0_1=some r) :
  Calls Tryz.prog 99 #[.agg #[.int .i64 a0_0,.slice A0_1 l0_1.length c0_1]] w fun e w'=>e=.returned (.bool r)∧Below w.heap.size w w':=by
 obtain rfl:=Zg h
 have HR0:=Za hr0_1
 have HN0:=Za (show l0_1.length≤9223372036854775807 from hr0_1.2.1)
 have HB0:=Za (Zn (Below.refl w.heap.size w) (.cells #[.int .i64 a0_0,.slice A0_1 l0_1.length c0_1] 54))
 have hu:=Tryz.underlying112
 have hu2:=Tryz.underlying110
 have hu3:=Tryz.underlying54
 clear hr0_1 hc0_1 h
 cases b1:inR a0_0 1 8 with
 | false=>
  have HE:=Za (show Zay a0_0 l0_1=false by
   unfold inR at b1
   unfold Zay
   by_cases h3:a0_0<1
   ·rw[Ze h3];rfl
   ·rw[Zf h3,Ze (show 8<a0_0 by
     rw[Ze (show 1≤a0_0 by omega),Bool.true_and] at b1
     have:=of_decide_eq_false b1;omega)];rfl)
  go_enter Tryz.func99,Tryz.ntmps99
  go_wp2_with (go_at_call 127;refine(ZdE _ _ _ _).mono ?_;rintro e w' ⟨rfl,nd,rfl⟩)
  go_ret
  exact⟨by rw[HE.out];rfl,by repeat(first|exact HB0.out|apply Zn|apply Zm|apply Zo)⟩
 | true=>
 have hN:1≤a0_0∧a0_0≤8:=by
  unfold inR at b1
  simpa using b1
 have HNN:=Za hN
 cases b2:decide ((40:Int)<(l0_1.length:Int)) with
 | true=>
  have HE:=Za (show Zay a0_0 l0_1=false by
   unfold Zay
   rw[Zf (show ¬a0_0<1 by omega),Zf (show ¬8<a0_0 by omega),Ze (show 40<l0_1.length by have:=Zd b2;omega)];rfl)
  clear hN
  go_enter Tryz.func99,Tryz.ntmps99
  go_wp2_with (go_at_call 127;refine(ZdE _ _ _ _).mono ?_;rintro e w' ⟨rfl,nd,rfl⟩)
  go_ret
  exact⟨by rw[HE.out];rfl,by repeat(first|exact HB0.out|apply Zn|apply Zm|apply Zo)⟩
 | false=>
 have HE0:=Za (show Zay a0_0 l0_1=!((l0_1.drop 0).any fun x=>!ZbH a0_0 x) by
  unfold Zay
  rw[Zf (show ¬a0_0<1 by omega),Zf (show ¬8<a0_0 by omega),Zf (show ¬40<l0_1.length by have:=of_decide_eq_false b2;omega)];rfl)
 clear hN
 go_enter Tryz.func99,Tryz.ntmps99
 go_wp2_with (go_at_call 127;refine(ZdE _ _ _ _).mono ?_;rintro e w' ⟨rfl,nd,rfl⟩)
 clear b1 b2
 go_loopg [18] l0_1.length (fun gg s18 wr=>∃kk:Nat,s18=.int .i64 (kk:Int)∧Aside0 (kk≤l0_1.length)∧Aside0 (l0_1.length - kk≤gg)∧Aside0 (Below w.heap.size w wr)∧Aside0 (wr.cell? ⟨w.heap.size,0,none⟩=some (.int .i64 a0_0))∧Aside0 (Zay a0_0 l0_1=!((l0_1.drop kk).any fun x=>!ZbH a0_0 x)))
 case atStart=>exact⟨0,rfl,⟨Nat.zero_le _⟩,⟨by omega⟩,⟨by repeat(first|exact HB0.out|apply Zn|apply Zm|apply Zo)⟩,⟨by go_simp⟩,HE0⟩
 case round=>
 clear HE0
 obtain⟨kk,rfl,HK,HG,HBr,HX,HE⟩:=hrel
 have k0:=HX.out
 have hk0:=Zc wr _ k0
 by_cases hlt:kk<l0_1.length
 ·have hltz:(kk:Int)<(l0_1.length:Int):=by omega
  obtain⟨ad,e1,hx0,hx1,hx2,hx3⟩:=ZeV (Zb HR0.out HBr.out) (kk:Int) (by omega) hltz
  cases e1
  have hrd:(ZbG l0_1 (kk:Int))=l0_1.getD kk z112:=by unfold ZbG;rw[Int.toNat_natCast]
  rw[hrd] at hx0 hx1 hx2 hx3
  rw[Int.toNat_natCast] at hx0 hx1 hx2 hx3
  have HD:=HE.out
  rw[Zah hlt z112,List.any_cons,← slink_ok HNN.out.1 HNN.out.2] at HD
  clear hrd HE
  generalize l0_1.getD kk z112=x at hx0 hx1 hx2 hx3 HD
  obtain⟨f0,f1,⟨f2,f3⟩⟩:=x
  dsimp only at hx0 hx1 hx2 hx3 HD
  have hlta:=Zc wr _ hx0
  have HDA:=Za HD;clear HD
  cases c1:inR f0 0 (wrap64 (a0_0 - 1)) with
  | false=>
   have HF:=Za (show Zay a0_0 l0_1=false by rw[HDA.out,c1];rfl)
   clear HDA
   go_wp2_with (go_at_call 127;refine(ZdE _ _ _ _).mono ?_;rintro e w' ⟨rfl,nd,rfl⟩)
   go_ret
   exact⟨by rw[HF.out];rfl,by repeat(first|(with_reducible first|exact HBr.out|apply Zn|apply Zm|apply Zo)|exact HBr.out)⟩
  | true=>
  cases c2:inR f1 0 (wrap64 (a0_0 - 1)) with
  | false=>
   have HF:=Za (show Zay a0_0 l0_1=false by rw[HDA.out,c1,c2];rfl)
   clear HDA
   go_wp2_with (go_at_call 127;refine(ZdE _ _ _ _).mono ?_;rintro e w' ⟨rfl,nd,rfl⟩)
   go_ret
   exact⟨by rw[HF.out];rfl,by repeat(first|(with_reducible first|exact HBr.out|apply Zn|apply Zm|apply Zo)|exact HBr.out)⟩
  | true=>
  rw[c1,c2] at HDA
  have HI:=Za fun (W:World)=>ZcF.calls f2 f3 _ W (sivOk_f f2 f3)
  generalize ivOkB f2 f3=q at HI HDA
  cases q with
  | false=>
   have HF:=Za (show Zay a0_0 l0_1=false by rw[HDA.out];rfl)
   clear HDA
   go_wp2_with (first|(go_at_call 127;refine(ZdE _ _ _ _).mono ?_;rintro e w' ⟨rfl,nd,rfl⟩)|(go_at_call 157;refine(HI.out _).mono ?_;rintro e w' ⟨rfl,hb⟩))
   go_ret
   exact⟨by rw[HF.out];rfl,Zw (by repeat(first|(with_reducible first|exact HBr.out|apply Zn|apply Zm|apply Zo)|exact HBr.out)) hb⟩
  | true=>
   have HF:=Za (show Zay a0_0 l0_1=!((l0_1.drop (kk+1)).any fun x=>!ZbH a0_0 x) by rw[HDA.out];rfl)
   clear HDA
   go_wp2_with (first|(go_at_call 127;refine(ZdE _ _ _ _).mono ?_;rintro e w' ⟨rfl,nd,rfl⟩)|(go_at_call 157;refine(HI.out _).mono ?_;rintro e w' ⟨rfl,hb⟩))
   go_roundg (l0_1.length - (kk+1))
   case measure=>have:=HG.out;omega
   case rel=>exact⟨kk+1,by rw[ZL hlt HN0.out],⟨by omega⟩,⟨by omega⟩,⟨Zw (by repeat(first|(with_reducible first|exact HBr.out|apply Zn|apply Zm|apply Zo)|exact HBr.out)) hb⟩,⟨Zx hb (by go_simp)⟩,HF⟩
 ·obtain rfl:kk=l0_1.length:=by have:=HK.out;omega
  have HF:=Za (show Zay a0_0 l0_1=true by rw[HE.out,List.drop_length];rfl)
  clear HE hlt
  go_wp2
  go_ret
  exact⟨by rw[HF.out];rfl,HBr.out⟩
end Go.Proofs.YtoeimopgoaffcaaGreatDoor.Pr
namespace Go.Proofs.YtoeimopgoaffcaaGreatDoor.Pr
open Go.RowKit Go.Proofs.YtoeimopgoaffcaaGreatDoorW.PrintWords Go.Proofs.YtoeimopgoaffcaaGreatDoorW.PrintLast Go.Proofs.YtoeimopgoaffcaaGreatDoorW.PrintMore
attribute [local go_sem] ZU ZS ZW ZV ZO ZN ZT ZR
set_option linter.unusedVariables false
set_option linter.unusedSimpArgs false
def Zbv.f (k:Nat) (a0_0:Int) (l0_1:List (S112)):Option (Int×(List (S184))):=(ZaV.f k a0_0 l0_1).bind fun t169003=>(if t169003=true then((ZbU.f k a0_0 l0_1).bind fun bt169004=>(some (a0_0,bt169004.1))) else(some (0,([]:List (S184)))))
set_option maxHeartbeats 8000000 in
set_option maxRecDepth 100000 in
theorem Zbv.calls (k:Nat) (a0_0:Int) (A0_1:Option Addr) (c0_1:Nat) (l0_1:List (S112)) (r1:Int) (r2:List (S184)) (w:World) (hr0_1:Kd.C k112 w A0_1 l0_1.length l0_1) (hc0_1:l0_1.length≤c0_1) (h:Zbv.f k a0_0 l0_1=some (r1,r2)) :
  Calls Tryz.prog 169 #[.agg #[.int .i64 a0_0,.slice A0_1 l0_1.length c0_1]] w fun e w'=>∃v1_:Value,e=.returned (.agg #[.int .i64 r1,v1_])∧Kd.R k184 184 w' w.heap.size (fun _=>True) v1_ r2∧Below w.heap.size w w':=by
 have hu54:=Tryz.underlying54
 have hu156:=Tryz.underlying156
 have HR0_1:=Za hr0_1;have HC0_1:=Za hc0_1;clear hr0_1 hc0_1
 have HB:=Za (Below.refl w.heap.size w)
 have H:((ZaV.f k a0_0 l0_1).bind fun t169003=>(if t169003=true then((ZbU.f k a0_0 l0_1).bind fun bt169004=>(some (a0_0,bt169004.1))) else(some (0,([]:List (S184))))))=some (r1,r2):=h
 clear h
 replace H:=Zh H
 obtain⟨t169003,A20,H⟩:=H;have A2:=Za A20;clear A20
 by_cases c3:t169003=true
 ·subst c3
  rw[if_pos rfl] at H
  replace H:=Zh H
  obtain⟨⟨t169004,t169007⟩,A40,H⟩:=H;have A4:=Za A40;clear A40
  simp only[Option.some.injEq,Prod.mk.injEq] at H
  obtain⟨rfl,rfl⟩:=H
  go_enter Tryz.func169,Tryz.ntmps169
  go_wp2_with (first|((with_reducible refine ZF (N:=1) rfl ?_);refine ZG ?hg (N:=1) ?hd (cs:=#[.int .i64 a0_0,.slice A0_1 l0_1.length c0_1]) (t:=54) ?hr ?_;(case hd=>rfl);(case hg=>rfl);(case hr=>first|(go_simp;done)|(go_simp;rfl));intro gb169001 hg w5 hbox hb;have BK169001:=Za (hbox);have GW169001:=Za ((by rw[hg];exact(Zy (by repeat(first|(with_reducible first|exact HB.out|apply Zn|apply Zm|apply Zo)|exact HB.out))):w.heap.size≤gb169001));have GE169001:=Za ((by rw[hg];exact(Zy (by repeat(first|(with_reducible first|exact HB.out|apply Zn|apply Zm|apply Zo)|exact HB.out))):w.heap.size≤gb169001));replace HB:=Za (Zw (by repeat(first|(with_reducible first|exact HB.out|apply Zn|apply Zm|apply Zo)|exact HB.out)) hb);clear hb hbox hg)|((with_reducible refine ZF (N:=2) rfl ?_);refine ZG ?hg (N:=2) ?hd (cs:=#[.int .i64 0,.slice none 0 0]) (t:=156) ?hr ?_;(case hd=>rfl);(case hg=>rfl);(case hr=>first|(go_simp;done)|(go_simp;rfl));intro gb169002 hg w6 hbox hb;have BK169002:=Za (hbox);have GW169002:=Za ((by rw[hg];exact(Zy (by repeat(first|(with_reducible first|exact HB.out|apply Zn|apply Zm|apply Zo|refine Zq ?_ GE169001.out)|exact HB.out))):w.heap.size≤gb169002));have GE169002:=Za ((by rw[hg];exact(Zy (by repeat(first|(with_reducible first|exact HB.out|apply Zn|apply Zm|apply Zo|refine Zq ?_ GE169001.out)|exact HB.out))):w.heap.size≤gb169002));have NB169001_169002:=Za ((by rw[hg];exact Nat.ne_of_lt (ZM (g:=gb169001) (o:=.cells #[.int .i64 a0_0,.slice A0_1 l0_1.length c0_1] 54 (0,0)) (by(with_reducible repeat(first|refine Zt ?_ _|refine Zv ?_|refine Zs ?_ _));exact BK169001.out)):gb169001≠gb169002));have NB169002_169001:=Za ((by rw[hg];exact Nat.ne_of_gt (ZM (g:=gb169001) (o:=.cells #[.int .i64 a0_0,.slice A0_1 l0_1.length c0_1] 54 (0,0)) (by(with_reducible repeat(first|refine Zt ?_ _|refine Zv ?_|refine Zs ?_ _));exact BK169001.out)):gb169002≠gb169001));replace BK169001:=Za (ZA (g:=gb169001) (o:=.cells #[.int .i64 a0_0,.slice A0_1 l0_1.length c0_1] 54 (0,0)) (by(with_reducible repeat(first|refine Zt ?_ _|refine Zv ?_|refine Zs ?_ _));exact BK169001.out) hb);replace HB:=Za (Zw (by repeat(first|(with_reducible first|exact HB.out|apply Zn|apply Zm|apply Zo|refine Zq ?_ GE169001.out)|exact HB.out)) hb);clear hb hbox hg;have hcz8_0:w6.cell? ⟨gb169001,0,none⟩=some (.int .i64 a0_0):=(Zp BK169001.out 0).trans rfl;have hcz8_1:w6.cell? ⟨gb169001,1,none⟩=some (.slice A0_1 l0_1.length c0_1):=(Zp BK169001.out 1).trans rfl;have hfz8_0:=Zr BK169001.out 0;have hfz8_1:=Zr BK169001.out 1)|((with_reducible refine ZJ (f:=99) rfl ?_);refine Zaa (some 6) rfl rfl Tryz.func99 (by kernel_rfl) rfl #[.agg #[.int .i64 a0_0,.slice A0_1 l0_1.length c0_1]] rfl (by(try simp only[List.map_toArray,List.map_cons,List.map_nil]);first|done|rfl|(simp only[Zk,Zj];rfl)) ?_;(with_reducible refine(ZaV.calls k a0_0 _ _ l0_1 true _ ?side1 ?side2 A2.out).mono ?_);(case side1=>repeat(first|exact(Zb HR0_1.out HB.out)|(with_reducible refine Kd.C_alloc ?_ _)|(with_reducible refine Kd.C_drewN ?_ _)|(with_reducible refine Kd.C_drew ?_)));(case side2=>exact HC0_1.out);rintro e w9 ⟨rfl,hb⟩;refine⟨_,rfl,?_⟩;replace BK169001:=Za (ZA (g:=gb169001) (o:=.cells #[.int .i64 a0_0,.slice A0_1 l0_1.length c0_1] 54 (0,0)) (by(with_reducible repeat(first|refine Zt ?_ _|refine Zv ?_|refine Zs ?_ _));exact BK169001.out) hb);replace BK169002:=Za (ZA (g:=gb169002) (o:=.cells #[.int .i64 0,.slice none 0 0] 156 (0,0)) (by(with_reducible repeat(first|refine Zt ?_ _|refine Zv ?_|refine Zs ?_ _));exact BK169002.out) hb);replace HB:=Za (Zw (by repeat(first|(with_reducible first|exact HB.out|apply Zn|apply Zm|apply Zo|refine Zq ?_ GE169001.out|refine Zq ?_ GE169002.out)|exact HB.out)) hb);have hcz10_0:w9.cell? ⟨gb169001,0,none⟩=some (.int .i64 a0_0):=(Zp BK169001.out 0).trans rfl;have hcz10_1:w9.cell? ⟨gb169001,1,none⟩=some (.slice A0_1 l0_1.length c0_1):=(Zp BK169001.out 1).trans rfl;have hfz10_0:=Zr BK169001.out 0;have hfz10_1:=Zr BK169001.out 1)|((with_reducible refine ZJ (f:=173) rfl ?_);refine Zaa (some 11) rfl rfl Tryz.func173 (by kernel_rfl) rfl #[.agg #[.int .i64 a0_0,.slice A0_1 l0_1.length c0_1]] rfl (by(try simp only[List.map_toArray,List.map_cons,List.map_nil]);first|done|rfl|(simp only[Zk,Zj];rfl)) ?_;(with_reducible refine(ZbU.calls k a0_0 _ _ l0_1 t169004 t169007 _ ?side1 ?side2 A4.out).mono ?_);(case side1=>repeat(first|exact(Zb HR0_1.out HB.out)|(with_reducible refine Kd.C_alloc ?_ _)|(with_reducible refine Kd.C_drewN ?_ _)|(with_reducible refine Kd.C_drew ?_)));(case side2=>exact HC0_1.out);rintro e w11 ⟨v169005,v169008,rfl,ho0,ho1,hb⟩;refine⟨_,rfl,?_⟩;have HO169006:=Za (Kd.R_lower ho0 (Zy (by repeat(first|(with_reducible first|exact HB.out|apply Zn|apply Zm|apply Zo|refine Zq ?_ GE169001.out|refine Zq ?_ GE169002.out)|exact HB.out))));have HO169009:=Za (Kd.R_lower ho1 (Zy (by repeat(first|(with_reducible first|exact HB.out|apply Zn|apply Zm|apply Zo|refine Zq ?_ GE169001.out|refine Zq ?_ GE169002.out)|exact HB.out))));replace BK169001:=Za (ZA (g:=gb169001) (o:=.cells #[.int .i64 a0_0,.slice A0_1 l0_1.length c0_1] 54 (0,0)) (by(with_reducible repeat(first|refine Zt ?_ _|refine Zv ?_|refine Zs ?_ _));exact BK169001.out) hb);replace BK169002:=Za (ZA (g:=gb169002) (o:=.cells #[.int .i64 0,.slice none 0 0] 156 (0,0)) (by(with_reducible repeat(first|refine Zt ?_ _|refine Zv ?_|refine Zs ?_ _));exact BK169002.out) hb);replace HB:=Za (Zw (by repeat(first|(with_reducible first|exact HB.out|apply Zn|apply Zm|apply Zo|refine Zq ?_ GE169001.out|refine Zq ?_ GE169002.out)|exact HB.out)) hb);have hcz12_0:w11.cell? ⟨gb169001,0,none⟩=some (.int .i64 a0_0):=(Zp BK169001.out 0).trans rfl;have hcz12_1:w11.cell? ⟨gb169001,1,none⟩=some (.slice A0_1 l0_1.length c0_1):=(Zp BK169001.out 1).trans rfl;have hfz12_0:=Zr BK169001.out 0;have hfz12_1:=Zr BK169001.out 1;obtain⟨Ao13,co13,eo13⟩:=Kd.R_slice HO169006.out;subst eo13;have hcz14_0:w11.cell? ⟨gb169002,0,none⟩=some (.int .i64 0):=(Zp BK169002.out 0).trans rfl;have hcz14_1:w11.cell? ⟨gb169002,1,none⟩=some (.slice none 0 0):=(Zp BK169002.out 1).trans rfl;have hfz14_0:=Zr BK169002.out 0;have hfz14_1:=Zr BK169002.out 1))
  refine bodyPost_ret (results_cell_row rfl _ _ gb169002 156 #[.int .i64 a0_0,.slice Ao13 t169004.length co13] (0,0) _ rfl (by(with_reducible repeat(first|refine Zt ?_ _|refine Zv ?_|refine Zs ?_ _));refine ZZ (cs:=#[.int .i64 a0_0,.slice none 0 0]) ?_ 1 _ rfl;(with_reducible repeat(first|refine Zt ?_ _|refine Zv ?_|refine Zs ?_ _));refine ZZ (cs:=#[.int .i64 0,.slice none 0 0]) ?_ 0 _ rfl;(with_reducible repeat(first|refine Zt ?_ _|refine Zv ?_|refine Zs ?_ _));exact BK169002.out) Tryz.underlying156 rfl (by kernel_rfl)) rfl ?_
  exact⟨_,by first|rfl|(simp[ZC,ZB] <;> rfl)|(simp[*,ZC,ZB] <;> rfl),by(with_reducible repeat(first|apply Kd.R_alloc|apply Kd.R_drewN|apply Kd.R_drew));exact Kd.R_mono (Kd.R_far (p:=⟨gb169002,1,none⟩) (Kd.R_far (p:=⟨gb169002,0,none⟩) (Kd.R_types HO169006.out BK169002.out (by decide)) (fun _ hk=>hk.2) (.int .i64 a0_0)) (fun _ hk=>hk.2) (.slice Ao13 t169004.length co13)) (fun _ hk=>trivial),by repeat(first|(with_reducible first|exact HB.out|apply Zn|apply Zm|apply Zo|refine Zq ?_ GE169001.out|refine Zq ?_ GE169002.out)|exact HB.out)⟩
 ·replace c3:=Bool.eq_false_iff.mpr c3
  subst c3
  have H1:(some (0,([]:List (S184))))=some (r1,r2):=by rw[if_neg (show ¬(false=true) by decide)] at H;exact H
  clear H
  have H:=H1
  clear H1
  simp only[Option.some.injEq,Prod.mk.injEq] at H
  obtain⟨rfl,rfl⟩:=H
  go_enter Tryz.func169,Tryz.ntmps169
  go_wp2_with (first|((with_reducible refine ZF (N:=1) rfl ?_);refine ZG ?hg (N:=1) ?hd (cs:=#[.int .i64 a0_0,.slice A0_1 l0_1.length c0_1]) (t:=54) ?hr ?_;(case hd=>rfl);(case hg=>rfl);(case hr=>first|(go_simp;done)|(go_simp;rfl));intro gb169001 hg w15 hbox hb;have BK169001:=Za (hbox);have GW169001:=Za ((by rw[hg];exact(Zy (by repeat(first|(with_reducible first|exact HB.out|apply Zn|apply Zm|apply Zo)|exact HB.out))):w.heap.size≤gb169001));have GE169001:=Za ((by rw[hg];exact(Zy (by repeat(first|(with_reducible first|exact HB.out|apply Zn|apply Zm|apply Zo)|exact HB.out))):w.heap.size≤gb169001));replace HB:=Za (Zw (by repeat(first|(with_reducible first|exact HB.out|apply Zn|apply Zm|apply Zo)|exact HB.out)) hb);clear hb hbox hg)|((with_reducible refine ZF (N:=2) rfl ?_);refine ZG ?hg (N:=2) ?hd (cs:=#[.int .i64 0,.slice none 0 0]) (t:=156) ?hr ?_;(case hd=>rfl);(case hg=>rfl);(case hr=>first|(go_simp;done)|(go_simp;rfl));intro gb169002 hg w16 hbox hb;have BK169002:=Za (hbox);have GW169002:=Za ((by rw[hg];exact(Zy (by repeat(first|(with_reducible first|exact HB.out|apply Zn|apply Zm|apply Zo|refine Zq ?_ GE169001.out)|exact HB.out))):w.heap.size≤gb169002));have GE169002:=Za ((by rw[hg];exact(Zy (by repeat(first|(with_reducible first|exact HB.out|apply Zn|apply Zm|apply Zo|refine Zq ?_ GE169001.out)|exact HB.out))):w.heap.size≤gb169002));have NB169001_169002:=Za ((by rw[hg];exact Nat.ne_of_lt (ZM (g:=gb169001) (o:=.cells #[.int .i64 a0_0,.slice A0_1 l0_1.length c0_1] 54 (0,0)) (by(with_reducible repeat(first|refine Zt ?_ _|refine Zv ?_|refine Zs ?_ _));exact BK169001.out)):gb169001≠gb169002));have NB169002_169001:=Za ((by rw[hg];exact Nat.ne_of_gt (ZM (g:=gb169001) (o:=.cells #[.int .i64 a0_0,.slice A0_1 l0_1.length c0_1] 54 (0,0)) (by(with_reducible repeat(first|refine Zt ?_ _|refine Zv ?_|refine Zs ?_ _));exact BK169001.out)):gb169002≠gb169001));replace BK169001:=Za (ZA (g:=gb169001) (o:=.cells #[.int .i64 a0_0,.slice A0_1 l0_1.length c0_1] 54 (0,0)) (by(with_reducible repeat(first|refine Zt ?_ _|refine Zv ?_|refine Zs ?_ _));exact BK169001.out) hb);replace HB:=Za (Zw (by repeat(first|(with_reducible first|exact HB.out|apply Zn|apply Zm|apply Zo|refine Zq ?_ GE169001.out)|exact HB.out)) hb);clear hb hbox hg;have hcz18_0:w16.cell? ⟨gb169001,0,none⟩=some (.int .i64 a0_0):=(Zp BK169001.out 0).trans rfl;have hcz18_1:w16.cell? ⟨gb169001,1,none⟩=some (.slice A0_1 l0_1.length c0_1):=(Zp BK169001.out 1).trans rfl;have hfz18_0:=Zr BK169001.out 0;have hfz18_1:=Zr BK169001.out 1)|((with_reducible refine ZJ (f:=99) rfl ?_);refine Zaa (some 6) rfl rfl Tryz.func99 (by kernel_rfl) rfl #[.agg #[.int .i64 a0_0,.slice A0_1 l0_1.length c0_1]] rfl (by(try simp only[List.map_toArray,List.map_cons,List.map_nil]);first|done|rfl|(simp only[Zk,Zj];rfl)) ?_;(with_reducible refine(ZaV.calls k a0_0 _ _ l0_1 false _ ?side1 ?side2 A2.out).mono ?_);(case side1=>repeat(first|exact(Zb HR0_1.out HB.out)|(with_reducible refine Kd.C_alloc ?_ _)|(with_reducible refine Kd.C_drewN ?_ _)|(with_reducible refine Kd.C_drew ?_)));(case side2=>exact HC0_1.out);rintro e w19 ⟨rfl,hb⟩;refine⟨_,rfl,?_⟩;replace BK169001:=Za (ZA (g:=gb169001) (o:=.cells #[.int .i64 a0_0,.slice A0_1 l0_1.length c0_1] 54 (0,0)) (by(with_reducible repeat(first|refine Zt ?_ _|refine Zv ?_|refine Zs ?_ _));exact BK169001.out) hb);replace BK169002:=Za (ZA (g:=gb169002) (o:=.cells #[.int .i64 0,.slice none 0 0] 156 (0,0)) (by(with_reducible repeat(first|refine Zt ?_ _|refine Zv ?_|refine Zs ?_ _));exact BK169002.out) hb);replace HB:=Za (Zw (by repeat(first|(with_reducible first|exact HB.out|apply Zn|apply Zm|apply Zo|refine Zq ?_ GE169001.out|refine Zq ?_ GE169002.out)|exact HB.out)) hb);have hcz20_0:w19.cell? ⟨gb169002,0,none⟩=some (.int .i64 0):=(Zp BK169002.out 0).trans rfl;have hcz20_1:w19.cell? ⟨gb169002,1,none⟩=some (.slice none 0 0):=(Zp BK169002.out 1).trans rfl;have hfz20_0:=Zr BK169002.out 0;have hfz20_1:=Zr BK169002.out 1))
  refine bodyPost_ret (results_cell_row rfl _ _ gb169002 156 #[.int .i64 0,.slice none 0 0] (0,0) _ rfl (by(with_reducible repeat(first|refine Zt ?_ _|refine Zv ?_|refine Zs ?_ _));refine ZZ (cs:=#[.int .i64 0,.slice none 0 0]) ?_ 1 _ rfl;(with_reducible repeat(first|refine Zt ?_ _|refine Zv ?_|refine Zs ?_ _));refine ZZ (cs:=#[.int .i64 0,.slice none 0 0]) ?_ 0 _ rfl;(with_reducible repeat(first|refine Zt ?_ _|refine Zv ?_|refine Zs ?_ _));exact BK169002.out) Tryz.underlying156 rfl (by kernel_rfl)) rfl ?_
  exact⟨_,by first|rfl|(simp[ZC,ZB] <;> rfl)|(simp[*,ZC,ZB] <;> rfl),by first|exact Kd.R_nil _ _ _ _ _|exact Kd.N_nil _ _ _ _ _|exact Kd.V_nil _ _ _ _ _|exact Kd.Q_nil _ _ _ _ _|exact Kd.S_nil _ _ _ _ _,by repeat(first|(with_reducible first|exact HB.out|apply Zn|apply Zm|apply Zo|refine Zq ?_ GE169001.out|refine Zq ?_ GE169002.out)|exact HB.out)⟩
def Zbz.f (k:Nat) (a0_0:Int) (l0_1:List (S112)):Option (Bool):=(ZaV.f k a0_0 l0_1).bind fun t111002=>(if t111002=true then((Zbv.f k a0_0 l0_1).bind fun bt111003=>((ZaW.f k bt111003.1 bt111003.2).bind fun t111007=>(some ((t111007.length:Int) == 0)))) else(some false))
set_option maxHeartbeats 8000000 in
set_option maxRecDepth 100000 in
theorem Zbz.calls (k:Nat) (a0_0:Int) (A0_1:Option Addr) (c0_1:Nat) (l0_1:List (S112)) (r:Bool) (w:World) (hr0_1:Kd.C k112 w A0_1 l0_1.length l0_1) (hc0_1:l0_1.length≤c0_1) (h:Zbz.f k a0_0 l0_1=some r) :
  Calls Tryz.prog 111 #[.agg #[.int .i64 a0_0,.slice A0_1 l0_1.length c0_1]] w fun e w'=>e=.returned (.bool r)∧Below w.heap.size w w':=by
 have hu54:=Tryz.underlying54
 have HR0_1:=Za hr0_1;have HC0_1:=Za hc0_1;clear hr0_1 hc0_1
 have HB:=Za (Below.refl w.heap.size w)
 have H:((ZaV.f k a0_0 l0_1).bind fun t111002=>(if t111002=true then((Zbv.f k a0_0 l0_1).bind fun bt111003=>((ZaW.f k bt111003.1 bt111003.2).bind fun t111007=>(some ((t111007.length:Int) == 0)))) else(some false)))=some r:=h
 clear h
 replace H:=Zh H
 obtain⟨t111002,A20,H⟩:=H
 replace H:(if t111002=true then((Zbv.f k a0_0 l0_1).bind fun bt111003=>((ZaW.f k bt111003.1 bt111003.2).bind fun t111007=>(some ((t111007.length:Int) == 0)))) else(some false))=some r:=H
 have A2:=Za A20;clear A20
 by_cases c3:t111002=true
 ·subst c3
  have H1:((Zbv.f k a0_0 l0_1).bind fun bt111003=>((ZaW.f k bt111003.1 bt111003.2).bind fun t111007=>(some ((t111007.length:Int) == 0))))=some r:=by rw[if_pos rfl] at H;exact H
  clear H
  have H:=H1
  clear H1
  replace H:=Zh H
  obtain⟨⟨t111003,t111004⟩,A40,H⟩:=H
  replace H:((ZaW.f k t111003 t111004).bind fun t111007=>(some ((t111007.length:Int) == 0)))=some r:=H
  have A4:=Za A40;clear A40
  replace H:=Zh H
  obtain⟨t111007,A50,H⟩:=H
  replace H:(some ((t111007.length:Int) == 0))=some r:=H
  have A5:=Za A50;clear A50
  obtain rfl:=Zg H
  go_enter Tryz.func111,Tryz.ntmps111
  go_wp2_with (first|((with_reducible refine ZF (N:=1) rfl ?_);(try(refine Zfw (by rfl) ?_;dsimp only));refine ZG ?hg (N:=1) ?hd (cs:=#[.int .i64 a0_0,.slice A0_1 l0_1.length c0_1]) (t:=54) ?hr ?_;(case hd=>rfl);(case hg=>rfl);(case hr=>first|(go_simp;done)|(go_simp;rfl));intro gb111001 hg w6 hbox hb;have BK111001:=Za (hbox);have GW111001:=Za ((by rw[hg];exact(Zy (by repeat(first|(with_reducible first|exact HB.out|apply Zn|apply Zm|apply Zo)|exact HB.out))):w.heap.size≤gb111001));have GE111001:=Za ((by rw[hg];exact(Zy (by repeat(first|(with_reducible first|exact HB.out|apply Zn|apply Zm|apply Zo)|exact HB.out))):w.heap.size≤gb111001));replace HB:=Za (Zw (by repeat(first|(with_reducible first|exact HB.out|apply Zn|apply Zm|apply Zo)|exact HB.out)) hb);clear hb hbox hg;have hcz7_0:w6.cell? ⟨gb111001,0,none⟩=some (.int .i64 a0_0):=(Zp BK111001.out 0).trans rfl;have hcz7_1:w6.cell? ⟨gb111001,1,none⟩=some (.slice A0_1 l0_1.length c0_1):=(Zp BK111001.out 1).trans rfl;have hfz7_0:=Zr BK111001.out 0;have hfz7_1:=Zr BK111001.out 1)|((with_reducible refine ZJ (f:=99) rfl ?_);refine Zaa (some 4) rfl rfl Tryz.func99 (by kernel_rfl) rfl #[.agg #[.int .i64 a0_0,.slice A0_1 l0_1.length c0_1]] rfl (by(try simp only[List.map_toArray,List.map_cons,List.map_nil]);first|done|rfl|(simp only[Zk,Zj];rfl)) ?_;(with_reducible refine(ZaV.calls k a0_0 _ _ l0_1 true _ ?side1 ?side2 A2.out).mono ?_);(case side1=>repeat(first|exact(Zb HR0_1.out HB.out)|(with_reducible refine Kd.C_alloc ?_ _)|(with_reducible refine Kd.C_drewN ?_ _)|(with_reducible refine Kd.C_drew ?_)));(case side2=>exact HC0_1.out);rintro e w8 ⟨rfl,hb⟩;refine⟨_,rfl,?_⟩;replace BK111001:=Za (ZA (g:=gb111001) (o:=.cells #[.int .i64 a0_0,.slice A0_1 l0_1.length c0_1] 54 (0,0)) (by(with_reducible repeat(first|refine Zt ?_ _|refine Zv ?_|refine Zs ?_ _));exact BK111001.out) hb);replace HB:=Za (Zw (by repeat(first|(with_reducible first|exact HB.out|apply Zn|apply Zm|apply Zo|refine Zq ?_ GE111001.out)|exact HB.out)) hb);(try clear hb);(try clear hb2);(try clear hk);(try clear hi);have hcz9_0:w8.cell? ⟨gb111001,0,none⟩=some (.int .i64 a0_0):=(Zp BK111001.out 0).trans rfl;have hcz9_1:w8.cell? ⟨gb111001,1,none⟩=some (.slice A0_1 l0_1.length c0_1):=(Zp BK111001.out 1).trans rfl;have hfz9_0:=Zr BK111001.out 0;have hfz9_1:=Zr BK111001.out 1)|(go_at_call 169;(with_reducible refine(Zbv.calls k a0_0 _ _ l0_1 t111003 t111004 _ ?side1 ?side2 A4.out).mono ?_);(case side1=>repeat(first|exact(Zb HR0_1.out HB.out)|(with_reducible refine Kd.C_alloc ?_ _)|(with_reducible refine Kd.C_drewN ?_ _)|(with_reducible refine Kd.C_drew ?_)));(case side2=>exact HC0_1.out);rintro e w10 ⟨v111005,rfl,ho0,hb⟩;have HO111006:=Za (Kd.R_lower ho0 (Zy (by repeat(first|(with_reducible first|exact HB.out|apply Zn|apply Zm|apply Zo|refine Zq ?_ GE111001.out)|exact HB.out))));replace BK111001:=Za (ZA (g:=gb111001) (o:=.cells #[.int .i64 a0_0,.slice A0_1 l0_1.length c0_1] 54 (0,0)) (by(with_reducible repeat(first|refine Zt ?_ _|refine Zv ?_|refine Zs ?_ _));exact BK111001.out) hb);replace HB:=Za (Zw (by repeat(first|(with_reducible first|exact HB.out|apply Zn|apply Zm|apply Zo|refine Zq ?_ GE111001.out)|exact HB.out)) hb);(try clear hb);(try clear hb2);(try clear hk);(try clear hi);(try clear ho0);obtain⟨Ao11,co11,eo11⟩:=Kd.R_slice HO111006.out;subst eo11)|(go_at_call 168;(with_reducible refine(ZaW.calls k t111003 _ _ t111004 t111007 _ ?side1 ?side2 A5.out).mono ?_);(case side1=>repeat(first|exact(Kd.R_reads' HO111006.out).2.2|(with_reducible refine Kd.C_alloc ?_ _)|(with_reducible refine Kd.C_drewN ?_ _)|(with_reducible refine Kd.C_drew ?_)));(case side2=>exact(Kd.R_reads' HO111006.out).2.1);rintro e w12 ⟨v111008,rfl,ho0,hb⟩;have HO111009:=Za (Kd.R_lower ho0 (Zy (by repeat(first|(with_reducible first|exact HB.out|apply Zn|apply Zm|apply Zo|refine Zq ?_ GE111001.out)|exact HB.out))));replace HO111006:=Za (Kd.R_below (by(with_reducible repeat(first|apply Kd.R_alloc|apply Kd.R_drewN|apply Kd.R_drew));exact HO111006.out) hb);replace BK111001:=Za (ZA (g:=gb111001) (o:=.cells #[.int .i64 a0_0,.slice A0_1 l0_1.length c0_1] 54 (0,0)) (by(with_reducible repeat(first|refine Zt ?_ _|refine Zv ?_|refine Zs ?_ _));exact BK111001.out) hb);replace HB:=Za (Zw (by repeat(first|(with_reducible first|exact HB.out|apply Zn|apply Zm|apply Zo|refine Zq ?_ GE111001.out)|exact HB.out)) hb);(try clear hb);(try clear hb2);(try clear hk);(try clear hi);(try clear ho0);obtain⟨Ao13,co13,eo13⟩:=Kd.R_slice HO111009.out;subst eo13))
  go_ret
  exact⟨by first|rfl|(simp[ZC,ZB] <;> rfl)|(simp[*,ZC,ZB] <;> rfl),by repeat(first|(with_reducible first|exact HB.out|apply Zn|apply Zm|apply Zo|refine Zq ?_ GE111001.out)|exact HB.out)⟩
 ·replace c3:=Bool.eq_false_iff.mpr c3
  subst c3
  have H1:(some false)=some r:=by rw[if_neg (show ¬(false=true) by decide)] at H;exact H
  clear H
  have H:=H1
  clear H1
  obtain rfl:=Zg H
  go_enter Tryz.func111,Tryz.ntmps111
  go_wp2_with (first|((with_reducible refine ZF (N:=1) rfl ?_);(try(refine Zfw (by rfl) ?_;dsimp only));refine ZG ?hg (N:=1) ?hd (cs:=#[.int .i64 a0_0,.slice A0_1 l0_1.length c0_1]) (t:=54) ?hr ?_;(case hd=>rfl);(case hg=>rfl);(case hr=>first|(go_simp;done)|(go_simp;rfl));intro gb111001 hg w14 hbox hb;have BK111001:=Za (hbox);have GW111001:=Za ((by rw[hg];exact(Zy (by repeat(first|(with_reducible first|exact HB.out|apply Zn|apply Zm|apply Zo)|exact HB.out))):w.heap.size≤gb111001));have GE111001:=Za ((by rw[hg];exact(Zy (by repeat(first|(with_reducible first|exact HB.out|apply Zn|apply Zm|apply Zo)|exact HB.out))):w.heap.size≤gb111001));replace HB:=Za (Zw (by repeat(first|(with_reducible first|exact HB.out|apply Zn|apply Zm|apply Zo)|exact HB.out)) hb);clear hb hbox hg;have hcz15_0:w14.cell? ⟨gb111001,0,none⟩=some (.int .i64 a0_0):=(Zp BK111001.out 0).trans rfl;have hcz15_1:w14.cell? ⟨gb111001,1,none⟩=some (.slice A0_1 l0_1.length c0_1):=(Zp BK111001.out 1).trans rfl;have hfz15_0:=Zr BK111001.out 0;have hfz15_1:=Zr BK111001.out 1)|((with_reducible refine ZJ (f:=99) rfl ?_);refine Zaa (some 4) rfl rfl Tryz.func99 (by kernel_rfl) rfl #[.agg #[.int .i64 a0_0,.slice A0_1 l0_1.length c0_1]] rfl (by(try simp only[List.map_toArray,List.map_cons,List.map_nil]);first|done|rfl|(simp only[Zk,Zj];rfl)) ?_;(with_reducible refine(ZaV.calls k a0_0 _ _ l0_1 false _ ?side1 ?side2 A2.out).mono ?_);(case side1=>repeat(first|exact(Zb HR0_1.out HB.out)|(with_reducible refine Kd.C_alloc ?_ _)|(with_reducible refine Kd.C_drewN ?_ _)|(with_reducible refine Kd.C_drew ?_)));(case side2=>exact HC0_1.out);rintro e w16 ⟨rfl,hb⟩;refine⟨_,rfl,?_⟩;replace BK111001:=Za (ZA (g:=gb111001) (o:=.cells #[.int .i64 a0_0,.slice A0_1 l0_1.length c0_1] 54 (0,0)) (by(with_reducible repeat(first|refine Zt ?_ _|refine Zv ?_|refine Zs ?_ _));exact BK111001.out) hb);replace HB:=Za (Zw (by repeat(first|(with_reducible first|exact HB.out|apply Zn|apply Zm|apply Zo|refine Zq ?_ GE111001.out)|exact HB.out)) hb);(try clear hb);(try clear hb2);(try clear hk);(try clear hi)))
  go_ret
  exact⟨by first|rfl|(simp[ZC,ZB] <;> rfl)|(simp[*,ZC,ZB] <;> rfl),by repeat(first|(with_reducible first|exact HB.out|apply Zn|apply Zm|apply Zo|refine Zq ?_ GE111001.out)|exact HB.out)⟩
end Go.Proofs.YtoeimopgoaffcaaGreatDoor.Pr
namespace Go.Proofs.YtoeimopgoaffcaaGreatDoor.Pr
def run {α:Type} (step:Nat→α→Option α):Nat→Nat→α→Option α
 | 0,_,a=>some a
 | d+1,i,a=>(step i a).bind (run step d (i+1))
theorem Zci {α β:Type} {step:Nat→α→Option α} {n i:Nat} {a:α} {F:α→Option β} {r:β} (hi:i<n) (h:(run step (n - i) i a).bind F=some r):∃a',step i a=some a'∧(run step (n - (i+1)) (i+1) a').bind F=some r:=by
 rw[show n - i=(n - (i+1))+1 by omega,run,Option.bind_assoc] at h
 exact Option.bind_eq_some_iff.1 h
theorem ZcB {α β:Type} {step:Nat→α→Option α} {n:Nat} {a:α} {F:α→Option β} {r:β} (h:(run step (n - n) n a).bind F=some r):F a=some r:=by
 rw[Nat.sub_self] at h
 exact h
end Go.Proofs.YtoeimopgoaffcaaGreatDoor.Pr
namespace Go.Proofs.YtoeimopgoaffcaaGreatDoor.Pr
open Go.RowKit Go.Proofs.YtoeimopgoaffcaaGreatDoorW.PrintWords Go.Proofs.YtoeimopgoaffcaaGreatDoorW.PrintLast Go.Proofs.YtoeimopgoaffcaaGreatDoorW.PrintMore
attribute [local go_sem] ZU ZS ZW ZV ZO ZN ZT ZR
set_option linter.unusedVariables false
set_option linter.unusedSimpArgs false
open Go.Proofs.YtoeimopgoaffcaaGreatDoor.Ni
set_option maxHeartbeats 4000000 in
theorem impl_Node_82.any (p:S39→Bool) (g:Nat) (lb:Array Value) (eg:∀args w,(callFunc g args).run Tryz.prog w=.ok (.enter g args) w) (A0:Option Addr) (c0:Nat) (l0:List S39) (w:World) (hr0:Kd.C k39 w A0 l0.length l0)
  (hp:∀(W:World) (x:S39) (A1_:Option Addr) (c1_:Nat),x∈l0→Below w.heap.size w W→x.f1.length≤c1_→Kd.C (Kd.int .i64) W A1_ x.f1.length x.f1→Calls Tryz.prog g (#[.agg #[.string x.f0,.slice A1_ x.f1.length c1_,.int .i64 x.f2]] ++ lb) W fun e w'=>e=.returned (.bool (p x))∧Below W.heap.size W w') :
  Calls Tryz.prog 82 #[.slice A0 l0.length c0,.func (.func g) #[] lb] w fun e w'=>e=.returned (.int .i64 (ZaY p l0))∧Below w.heap.size w w':=by
 have HR0:=Za hr0;have HP:=Za hp;clear hr0 hp
 have HL:l0.length≤9223372036854775807:=HR0.out.2.1
 go_enter Tryz.func82,Tryz.ntmps82
 go_wp2
 go_loopg [5,8] l0.length (fun gg _ s8 wr=>∃kk:Nat,Aside0 (kk≤l0.length)∧Aside0 (l0.length - kk≤gg)∧s8=.int .i64 kk∧Aside0 (Below w.heap.size w wr)∧Aside0 (∀j y,j<kk→l0[j]? = some y→p y=false))
 case atStart=>exact⟨0,⟨Nat.zero_le _⟩,⟨by omega⟩,rfl,⟨Below.refl _ _⟩,⟨fun j y hj=>absurd hj (Nat.not_lt_zero _)⟩⟩
 case round=>
  obtain⟨kk,HK,HG,rfl,HB,HN⟩:=hrel
  by_cases hlt:kk<l0.length
  ·have hltz:(kk:Int)<(l0.length:Int):=by omega
   obtain⟨ad,A1_,c1_,e1,hx0,hx1,hx2,l1_,g1_⟩:=Za0 HR0.out (kk:Int) (by omega) hltz
   cases e1
   replace hx0:=(HB.out.cell (Zc w _ hx0)).trans hx0
   rw[Int.toNat_natCast] at hx0
   replace hx1:=(HB.out.cell (Zc w _ hx1)).trans hx1
   rw[Int.toNat_natCast] at hx1
   replace hx2:=(HB.out.cell (Zc w _ hx2)).trans hx2
   rw[Int.toNat_natCast] at hx2
   have hxe:l0[kk]? = some (ZH l0 (kk:Int)):=by
    unfold ZH
    rw[Int.toNat_natCast,List.getD_eq_getElem?_getD,Zl hlt];rfl
   generalize ZH l0 (kk:Int)=y at hx0 hx1 hx2 l1_ g1_ hxe
   have HX:=Za hxe;clear hxe
   have hcall:=HP.out wr y A1_ c1_ (List.mem_of_getElem? HX.out) HB.out l1_ (Zb g1_ HB.out)
   clear g1_ l1_
   cases hq:p y with
   | true=>
    have HQ:=Za hq
    rw[hq] at hcall
    clear hq
    go_wp2_with (go_at_fn g;refine hcall.mono ?_;rintro e w' ⟨rfl,hb⟩)
    go_ret
    exact⟨by rw[ZbR p l0 kk y HX.out HQ.out HN.out];rfl,HB.out.trans (hb.mono HB.out.size)⟩
   | false=>
    have HQ:=Za hq
    rw[hq] at hcall
    clear hq
    go_wp2_with (go_at_fn g;refine hcall.mono ?_;rintro e w' ⟨rfl,hb⟩)
    go_roundg (l0.length - (kk+1))
    case measure=>have:=HG.out;omega
    case rel=>
     refine⟨kk+1,⟨by omega⟩,⟨by omega⟩,by go_num,⟨HB.out.trans (hb.mono HB.out.size)⟩,⟨fun j y' hj hy=>?_⟩⟩
     by_cases e:j=kk
     ·subst e
      rw[HX.out] at hy
      cases hy
      exact HQ.out
     ·exact HN.out j y' (by omega) hy
  ·have hltz:¬(kk:Int)<(l0.length:Int):=by omega
   have:kk=l0.length:=by have:=HK.out;omega
   subst this
   go_wp2
   go_ret
   exact⟨by rw[Zbx p l0 HN.out];rfl,HB.out⟩
def Za2 (ns:List S39) (p:Int):Int:=ZaY (fun n=>decide (0<p) && decide (n.f2=p)) ns
def ZaN.f (l0_0:List (S39)) (l0_1:List (S82)) (a0_2:Int) (a1:Int):Option Int:=some (Za2 l0_0 a1)
theorem ZfO.clo (B:Nat) (p:Int) (W:World) (hB:W.cell? ⟨B,0,none⟩=some (.int .i64 p)) (x:S39) (A1_:Option Addr) (c1_:Nat) :
  Calls Tryz.prog 154 #[.agg #[.string x.f0,.slice A1_ x.f1.length c1_,.int .i64 x.f2],.pointer (some ⟨B,0,none⟩)] W fun e w'=>e=.returned (.bool (decide (0<p) && decide (x.f2=p)))∧Below W.heap.size W w':=by
 have hlt:B<W.heap.size:=Zc W _ hB
 have HE:=Za (show(x.f2 == p)=decide (x.f2=p) by rw[Bool.eq_iff_iff];simp)
 cases hp:decide (0<p) with
 | false=>
  go_enter Tryz.func154,Tryz.ntmps154
  go_wp2
  go_ret
  exact⟨rfl,(Below.refl _ _).alloc (Nat.le_refl _) _⟩
 | true=>
  go_enter Tryz.func154,Tryz.ntmps154
  go_wp2
  go_ret
  exact⟨by rw[← HE.out];rfl,(Below.refl _ _).alloc (Nat.le_refl _) _⟩
set_option maxHeartbeats 4000000 in
theorem ZaN.calls (A0_0:Option Addr) (c0_0:Nat) (l0_0:List (S39)) (A0_1:Option Addr) (c0_1:Nat) (l0_1:List (S82)) (a0_2:Int) (a1:Int) (r:Int) (w:World) (hr0_0:Kd.C k39 w A0_0 l0_0.length l0_0) (hc0_0:l0_0.length≤c0_0) (hr0_1:Kd.C k82 w A0_1 l0_1.length l0_1) (hc0_1:l0_1.length≤c0_1) (h:ZaN.f l0_0 l0_1 a0_2 a1=some r) :
  Calls Tryz.prog 88 #[.agg #[.slice A0_0 l0_0.length c0_0,.slice A0_1 l0_1.length c0_1,.int .i64 a0_2],.int .i64 a1] w fun e w'=>e=.returned (.int .i64 r)∧Below w.heap.size w w':=by
 obtain rfl:=Zg h
 have HC':=Za fun (W:World) (B:Nat) (hb:Below w.heap.size w W) (hcell:W.cell? ⟨B,0,none⟩=some (.int .i64 a1))=>impl_Node_82.any (fun n=>decide (0<a1) && decide (n.f2=a1)) 154 #[.pointer (some ⟨B,0,none⟩)] (enters_of Tryz.func154 (by kernel_rfl) rfl) A0_0 c0_0 l0_0 W (Zb hr0_0 hb)
    (fun W' x A1_ c1_ _ hb' _ _=>ZfO.clo B a1 W' ((hb'.cell (Zc W _ hcell)).trans hcell) x A1_ c1_)
 clear hr0_0 hr0_1 h
 have HB2:=Za (((Below.refl w.heap.size w).alloc (Nat.le_refl _) (.cells #[.slice A0_0 l0_0.length c0_0,.slice A0_1 l0_1.length c0_1,.int .i64 a0_2] 25)).alloc (by simp) (.cells #[.int .i64 a1] 3))
 have hu:=Tryz.underlying25
 go_enter Tryz.func88,Tryz.ntmps88
 go_wp2_with fail
 refine(HC'.out _ _ HB2.out (by go_simp)).mono ?_
 rintro e w' ⟨rfl,hb⟩
 go_wp2
 go_ret
 exact⟨rfl,HB2.out.trans (hb.mono HB2.out.size)⟩
def ZbI.f (k:Nat) (l0_0:List (S39)) (l0_1:List (S82)) (a0_2:Int) (l1:List Int) (a2:Int):Option Bool:=(ZaD.f a2).bind fun p=>((ZaN.f l0_0 l0_1 a0_2 p).bind fun q=>(if q<0 then(some false) else(if 0≤q then(if q<(l0_0.length:Int) then((Zao.f ((ZH l0_0 q).f1) a2).bind fun s=>(if s=true then(some false) else((Zao.f ((ZH l0_0 q).f1) (wrap64 (-a2))).bind fun t=>(if t=true then(some false) else((Zbl.f k l1 ((ZH l0_0 q).f1)).bind fun u=>(some u)))))) else(none)) else(none))))
set_option maxHeartbeats 4000000 in
set_option maxRecDepth 100000 in
theorem ZbI.calls (k:Nat) (A0_0:Option Addr) (c0_0:Nat) (l0_0:List (S39)) (A0_1:Option Addr) (c0_1:Nat) (l0_1:List (S82)) (a0_2:Int) (A1:Option Addr) (c1:Nat) (l1:List Int) (a2:Int) (r:Bool) (w:World) (hr0_0:Kd.C k39 w A0_0 l0_0.length l0_0) (hc0_0:l0_0.length≤c0_0) (hr0_1:Kd.C k82 w A0_1 l0_1.length l0_1) (hc0_1:l0_1.length≤c0_1) (hr1:Kd.C (Kd.int .i64) w A1 l1.length l1) (hc1:l1.length≤c1) (h:ZbI.f k l0_0 l0_1 a0_2 l1 a2=some r) :
  Calls Tryz.prog 81 #[.agg #[.slice A0_0 l0_0.length c0_0,.slice A0_1 l0_1.length c0_1,.int .i64 a0_2],.slice A1 l1.length c1,.int .i64 a2] w fun e w'=>e=.returned (.bool r)∧Below w.heap.size w w':=by
 unfold ZbI.f at h
 obtain⟨p,hp,h⟩:=Option.bind_eq_some_iff.1 h
 obtain⟨q,hq,h⟩:=Option.bind_eq_some_iff.1 h
 have HP:=Za fun (W:World)=>ZaD.calls a2 p W hp
 have HW:=Za fun (W:World) (hb:Below w.heap.size w W)=>ZaN.calls A0_0 c0_0 l0_0 A0_1 c0_1 l0_1 a0_2 p q W (Zb hr0_0 hb) hc0_0 (Zb hr0_1 hb) hc0_1 hq
 have HR0:=Za hr0_0;have HR1:=Za hr1;have HC1:=Za hc1;have HH:=Za h
 have hu:=Tryz.underlying25
 have hu2:=Tryz.underlying39
 clear hr0_0 hc0_0 hr0_1 hc0_1 hr1 hc1 hp hq h
 go_enter Tryz.func81,Tryz.ntmps81
 go_wp2
 go_region_held3 (fun w'=>Below w.heap.size w w'∧w'.cell? ⟨w.heap.size,0,none⟩=some (.slice A0_0 l0_0.length c0_0)∧w'.cell? ⟨w.heap.size,1,none⟩=some (.slice A0_1 l0_1.length c0_1)∧w'.cell? ⟨w.heap.size,2,none⟩=some (.int .i64 a0_2))
  (first|(refine⟨by repeat(first|(with_reducible first|exact Below.refl _ _|apply Zn|apply Zm|apply Zo|assumption)|exact Below.refl _ _),?_⟩;go_simp;done)|(refine⟨Zw (by repeat(first|(with_reducible first|exact Below.refl _ _|apply Zn|apply Zm|apply Zo|assumption)|exact Below.refl _ _)) hb,Zx hb ?_,Zx hb ?_,Zx hb ?_⟩ <;> (go_simp;done)))
  (first|(go_at_call 144;refine(HP.out _).mono ?_;rintro e w' ⟨rfl,hb⟩;have hbw:Below w.heap.size w _:=Zw (by repeat(first|(with_reducible first|exact Below.refl _ _|apply Zn|apply Zm|apply Zo|assumption)|exact Below.refl _ _)) hb)|(go_at_call 88;(refine(HW.out _ ?s1).mono ?_);(case s1=>exact(by repeat(first|(with_reducible first|exact Below.refl _ _|apply Zn|apply Zm|apply Zo|assumption)|exact Below.refl _ _)));rintro e w' ⟨rfl,hb⟩))
 rename_i hHeld
 obtain⟨hbA,k0,k1,k2⟩:=hHeld
 have HA:=Za hbA
 have hk0:=Zc _ _ k0
 clear hbA HP HW
 cases d1:decide (q<0) with
 | true=>
  have HE:=Za (show false=r from Zg ((if_pos (Zd d1)).symm.trans HH.out))
  go_wp2
  go_ret
  exact⟨by rw[← HE.out];rfl,HA.out⟩
 | false=>
 have h:=HH.out
 rw[if_neg (of_decide_eq_false d1)] at h
 split at h
 case isFalse=>exact absurd h (by simp)
 rename_i h0
 split at h
 case isFalse=>exact absurd h (by simp)
 rename_i h1
 obtain⟨ad,A3,c3,e3,hx0,hx1,hx2,l3,g3⟩:=Za0 (Zb HR0.out HA.out) q h0 h1
 cases e3
 have hlta:=Zc _ _ hx1
 revert hx1 l3 g3 h
 generalize (ZH l0_0 q).f1=lb
 intro h hx1 l3 g3
 have p0:=eq_true h0
 have p1:=eq_true h1
 obtain⟨s,hs,h⟩:=Option.bind_eq_some_iff.1 h
 have HS:=Za fun (W:World) (g:Kd.C (Kd.int .i64) W A3 lb.length lb)=>Zao.calls A3 c3 lb a2 s W g l3 hs
 have G3:=Za g3;have L3:=Za l3;clear hx0 hx2 h0 h1 hs HH g3 l3
 cases s with
 | true=>
  have HE:=Za (show false=r from Zg ((if_pos rfl).symm.trans h))
  clear h
  go_wp2_with (go_at_call 151;refine(HS.out _ G3.out).mono ?_;rintro e w5 ⟨rfl,hb⟩)
  go_ret
  exact⟨by rw[← HE.out];rfl,HA.out.trans (hb.mono HA.out.size)⟩
 | false=>
 rw[if_neg (by simp)] at h
 obtain⟨t,ht,h⟩:=Option.bind_eq_some_iff.1 h
 have HT:=Za fun (W:World) (g:Kd.C (Kd.int .i64) W A3 lb.length lb)=>Zao.calls A3 c3 lb (wrap64 (-a2)) t W g L3.out ht
 clear ht
 cases t with
 | true=>
  have HE:=Za (show false=r from Zg ((if_pos rfl).symm.trans h))
  clear h
  go_wp2_with (first|(go_at_call 151;with_reducible refine(HS.out _ G3.out).mono ?_;rintro e w5 ⟨rfl,hb⟩;have HB5:=Za (HA.out.trans (hb.mono HA.out.size));have G5:=Za (Zb G3.out hb);clear hb)|(go_at_call 151;with_reducible refine(HT.out _ G5.out).mono ?_;rintro e w6 ⟨rfl,hb⟩;have HB6:=Za (HB5.out.trans (hb.mono HB5.out.size));clear hb))
  go_ret
  exact⟨by rw[← HE.out];rfl,HB6.out⟩
 | false=>
 rw[if_neg (by simp)] at h
 obtain⟨u,hu_,h⟩:=Option.bind_eq_some_iff.1 h
 obtain rfl:=Zg h
 have HI:=Za fun (W:World) (g:Kd.C (Kd.int .i64) W A1 l1.length l1) (g2:Kd.C (Kd.int .i64) W A3 lb.length lb)=>Zbl.calls k A1 c1 l1 A3 c3 lb u W g HC1.out g2 L3.out hu_
 clear hu_ h
 go_wp2_with (first|(go_at_call 151;with_reducible refine(HS.out _ G3.out).mono ?_;rintro e w5 ⟨rfl,hb⟩;have HB5:=Za (HA.out.trans (hb.mono HA.out.size));have G5:=Za (Zb G3.out hb);clear hb)|(go_at_call 151;with_reducible refine(HT.out _ G5.out).mono ?_;rintro e w6 ⟨rfl,hb⟩;have HB6:=Za (HB5.out.trans (hb.mono HB5.out.size));have G6:=Za (Zb G5.out hb);clear hb)|(go_at_call 152;refine(HI.out _ (Zb HR1.out HB6.out) G6.out).mono ?_;rintro e w7 ⟨rfl,hb⟩;have HB7:=Za (HB6.out.trans (hb.mono HB6.out.size));clear hb))
 go_ret
 exact⟨rfl,HB7.out⟩
end Go.Proofs.YtoeimopgoaffcaaGreatDoor.Pr
namespace Go.Proofs.YtoeimopgoaffcaaGreatDoor.Pr
open Go.RowKit Go.Proofs.YtoeimopgoaffcaaGreatDoorW.PrintWords Go.Proofs.YtoeimopgoaffcaaGreatDoor.Ni
def Zea (ns:List ZI) (lb:List Int) (x w:Int):Bool:=
 decide (0≤w) && !((ZH ns w).f1.any fun y=>decide (x=y)) && !((ZH ns w).f1.any fun y=>decide (-x=y)) && impB lb (ZH ns w).f1
def Zb2 (ns:List ZI) (lb:List Int) (x:Int):Bool:=Zea ns lb x (Za2 ns (prp x))
theorem isWatched_f (ns:List ZI) (ts:List PTie) (z:Int) (lb:List Int) (x:Int) (hb:∀n∈ns,n.f1.length≤9223372036854775807) (hl:lb.length≤9223372036854775807) (hx:Zbf x=true) (k:Nat) (hk:2 ^ 64≤k) :
  ZbI.f k ns ts z lb x=some (Zb2 ns lb x):=by
 have hx3:=(ZbQ x).1 hx
 have hbd:=Zeh (fun n:ZI=>decide (0<prp x) && decide (n.f2=prp x)) ns
 unfold ZbI.f
 rw[ZdU hx,Zi]
 unfold ZaN.f Zb2 Zea
 rw[Zi]
 have hbd' : -1≤Za2 ns (prp x)∧Za2 ns (prp x)<ns.length:=hbd
 generalize Za2 ns (prp x)=w at hbd' ⊢
 by_cases h:w<0
 ·rw[if_pos h,Zf (show ¬0≤w by omega)];rfl
 ·rw[if_neg h,if_pos (by omega),if_pos (by omega),Ze (show 0≤w by omega)]
  have hm:(ZH ns w).f1.length≤9223372036854775807:=by
   obtain⟨n,rfl⟩:=Int.eq_ofNat_of_zero_le (show 0≤w by omega)
   rw[show ZH ns (n:Int)=ns.getD n z39 from Zcq ns n]
   exact hb _ (ZaJ (by omega) _)
  unfold Zao.f
  rw[Zi,Za8 (i:=-x) (by omega) (by omega),Zew lb _ hl hm k hk]
  simp only[Zi,Bool.true_and]
  cases (ZH ns w).f1.any fun y=>decide (x=y)
  ·cases (ZH ns w).f1.any fun y=>decide (-x=y)
   ·simp
   ·rfl
  ·rfl
end Go.Proofs.YtoeimopgoaffcaaGreatDoor.Pr
namespace Go.Proofs.YtoeimopgoaffcaaGreatDoor.Pr
open Go.RowKit Go.Proofs.YtoeimopgoaffcaaGreatDoorW.PrintWords Go.Proofs.YtoeimopgoaffcaaGreatDoorW.PrintLast Go.Proofs.YtoeimopgoaffcaaGreatDoorW.PrintMore
attribute [local go_sem] ZU ZS ZW ZV ZO ZN ZT ZR
set_option linter.unusedVariables false
set_option linter.unusedSimpArgs false
def Zdi.f (a0:Int):Option (Bool):=if a0≥(-20) then(some (decide (a0≤20))) else(some false)
set_option maxHeartbeats 8000000 in
set_option maxRecDepth 100000 in
theorem Zdi.calls (a0:Int) (r:Bool) (w:World) (h:Zdi.f a0=some r) :
  Calls Tryz.prog 147 #[.int .i64 a0] w fun e w'=>e=.returned (.bool r)∧ZE w w':=by
 have H:(if a0≥(-20) then(some (decide (a0≤20))) else(some false))=some r:=h
 clear h
 by_cases c2:a0≥(-20)
 ·rw[if_pos c2] at H
  have c2b0:decide ((-20)≤a0)=true:=Ze c2
  clear c2
  obtain rfl:=Zg H
  go_enter Tryz.func147,Tryz.ntmps147
  go_wp2
  go_ret
  exact⟨by first|rfl|(simp;done)|(simp[*];done),by repeat(first|exact ZE.refl _|apply ZE.step)⟩
 ·rw[if_neg c2] at H
  have c2b0:decide ((-20)≤a0)=false:=Zf c2
  clear c2
  obtain rfl:=Zg H
  go_enter Tryz.func147,Tryz.ntmps147
  go_wp2
  go_ret
  exact⟨by first|rfl|(simp;done)|(simp[*];done),by repeat(first|exact ZE.refl _|apply ZE.step)⟩
end Go.Proofs.YtoeimopgoaffcaaGreatDoor.Pr
namespace Go.Proofs.YtoeimopgoaffcaaGreatDoor.Pr
open Go.RowKit Go.Proofs.YtoeimopgoaffcaaGreatDoorW.PrintWords Go.Proofs.YtoeimopgoaffcaaGreatDoorW.PrintLast Go.Proofs.YtoeimopgoaffcaaGreatDoorW.PrintMore
attribute [local go_sem] ZU ZS ZW ZV ZO ZN ZT ZR
set_option linter.unusedVariables false
set_option linter.unusedSimpArgs false
open Go.Proofs.YtoeimopgoaffcaaGreatDoor.Ni
set_option maxHeartbeats 4000000 in
theorem impl_Tie_195.any (p:S82→Bool) (g:Nat) (lb:Array Value) (eg:∀args w,(callFunc g args).run Tryz.prog w=.ok (.enter g args) w) (A0:Option Addr) (c0:Nat) (l0:List S82) (w:World) (hr0:Kd.C k82 w A0 l0.length l0)
  (hp:∀(W:World) (x:S82),x∈l0→Below w.heap.size w W→Calls Tryz.prog g (#[.agg #[.int .i64 x.f0,.int .i64 x.f1,.int .i64 x.f2,.int .i64 x.f3,.bool x.f4]] ++ lb) W fun e w'=>e=.returned (.bool (p x))∧Below W.heap.size W w') :
  Calls Tryz.prog 195 #[.slice A0 l0.length c0,.func (.func g) #[] lb] w fun e w'=>e=.returned (.int .i64 (ZaY p l0))∧Below w.heap.size w w':=by
 have HR0:=Za hr0;have HP:=Za hp;clear hr0 hp
 have HL:l0.length≤9223372036854775807:=HR0.out.2.1
 go_enter Tryz.func195,Tryz.ntmps195
 go_wp2
 go_loopg [5,8] l0.length (fun gg _ s8 wr=>∃kk:Nat,Aside0 (kk≤l0.length)∧Aside0 (l0.length - kk≤gg)∧s8=.int .i64 kk∧Aside0 (Below w.heap.size w wr)∧Aside0 (∀j y,j<kk→l0[j]? = some y→p y=false))
 case atStart=>exact⟨0,⟨Nat.zero_le _⟩,⟨by omega⟩,rfl,⟨Below.refl _ _⟩,⟨fun j y hj=>absurd hj (Nat.not_lt_zero _)⟩⟩
 case round=>
  obtain⟨kk,HK,HG,rfl,HB,HN⟩:=hrel
  by_cases hlt:kk<l0.length
  ·have hltz:(kk:Int)<(l0.length:Int):=by omega
   obtain⟨ad,e1,hx0,hx1,hx2,hx3,hx4⟩:=Zbp HR0.out (kk:Int) (by omega) hltz
   cases e1
   replace hx0:=(HB.out.cell (Zc w _ hx0)).trans hx0
   rw[Int.toNat_natCast] at hx0
   replace hx1:=(HB.out.cell (Zc w _ hx1)).trans hx1
   rw[Int.toNat_natCast] at hx1
   replace hx2:=(HB.out.cell (Zc w _ hx2)).trans hx2
   rw[Int.toNat_natCast] at hx2
   replace hx3:=(HB.out.cell (Zc w _ hx3)).trans hx3
   rw[Int.toNat_natCast] at hx3
   replace hx4:=(HB.out.cell (Zc w _ hx4)).trans hx4
   rw[Int.toNat_natCast] at hx4
   have hxe:l0[kk]? = some (ZD l0 (kk:Int)):=by
    unfold ZD
    rw[Int.toNat_natCast,List.getD_eq_getElem?_getD,Zl hlt];rfl
   generalize ZD l0 (kk:Int)=y at hx0 hx1 hx2 hx3 hx4 hxe
   have HX:=Za hxe;clear hxe
   have hcall:=HP.out wr y (List.mem_of_getElem? HX.out) HB.out
   cases hq:p y with
   | true=>
    have HQ:=Za hq
    rw[hq] at hcall
    clear hq
    go_wp2_with (go_at_fn g;refine hcall.mono ?_;rintro e w' ⟨rfl,hb⟩)
    go_ret
    exact⟨by rw[ZbR p l0 kk y HX.out HQ.out HN.out];rfl,HB.out.trans (hb.mono HB.out.size)⟩
   | false=>
    have HQ:=Za hq
    rw[hq] at hcall
    clear hq
    go_wp2_with (go_at_fn g;refine hcall.mono ?_;rintro e w' ⟨rfl,hb⟩)
    go_roundg (l0.length - (kk+1))
    case measure=>have:=HG.out;omega
    case rel=>
     refine⟨kk+1,⟨by omega⟩,⟨by omega⟩,by go_num,⟨HB.out.trans (hb.mono HB.out.size)⟩,⟨fun j y' hj hy=>?_⟩⟩
     by_cases e:j=kk
     ·subst e
      rw[HX.out] at hy
      cases hy
      exact HQ.out
     ·exact HN.out j y' (by omega) hy
  ·have hltz:¬(kk:Int)<(l0.length:Int):=by omega
   have:kk=l0.length:=by have:=HK.out;omega
   subst this
   go_wp2
   go_ret
   exact⟨by rw[Zbx p l0 HN.out];rfl,HB.out⟩
set_option maxHeartbeats 4000000 in
theorem impl_Tie_148.any (p:S82→Bool) (g:Nat) (lb:Array Value) (eg:∀args w,(callFunc g args).run Tryz.prog w=.ok (.enter g args) w) (A0:Option Addr) (c0:Nat) (l0:List S82) (w:World) (hr0:Kd.C k82 w A0 l0.length l0)
  (hp:∀(W:World) (x:S82),x∈l0→Below w.heap.size w W→Calls Tryz.prog g (#[.agg #[.int .i64 x.f0,.int .i64 x.f1,.int .i64 x.f2,.int .i64 x.f3,.bool x.f4]] ++ lb) W fun e w'=>e=.returned (.bool (p x))∧Below W.heap.size W w') :
  Calls Tryz.prog 148 #[.slice A0 l0.length c0,.func (.func g) #[] lb] w fun e w'=>e=.returned (.bool (l0.any p))∧Below w.heap.size w w':=by
 have HI:=Za (impl_Tie_195.any p g lb eg A0 c0 l0 w hr0 hp)
 clear hr0 hp
 have HE:=Za (ZcZ p l0)
 go_enter Tryz.func148,Tryz.ntmps148
 go_wp2_with (go_at_call 195;refine HI.out.mono ?_;rintro e w' ⟨rfl,hb⟩)
 go_ret
 exact⟨by rw[← HE.out];rfl,hb⟩
end Go.Proofs.YtoeimopgoaffcaaGreatDoor.Pr
