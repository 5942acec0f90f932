/- The texts of one claim, put together by a program of this session. -/
import Derived.Deep.LoopGhost
import Derived.Shelf.Abstract
import Derived.WalkKit
import Derived.ProofKit
import Derived.Below
import Derived.Test.YtoeimopgoaffcaaGreatDoorBBqc1x1
import Derived.Test.YtoeimopgoaffcaaGreatDoorBBqc1x2
import Derived.Test.YtoeimopgoaffcaaGreatDoorBBqc1x3
import Derived.Test.YtoeimopgoaffcaaGreatDoorBBqc1x5
namespace Go.Proofs.YtoeimopgoaffcaaGreatDoor.Pr
open Go.RowKit Go.Proofs.YtoeimopgoaffcaaGreatDoorW.PrintWords Go.Proofs.YtoeimopgoaffcaaGreatDoorW.PrintLast Go.Proofs.YtoeimopgoaffcaaGreatDoorW.PrintMore
attribute [local go_sem] ZW ZU ZZ ZY ZP ZO ZV ZT
set_option linter.unusedVariables false
set_option linter.unusedSimpArgs false
open Go.Proofs.YtoeimopgoaffcaaGreatDoor.Ni
set_option maxHeartbeats 4000000 in
theorem Zgc.any (p:S112→Bool) (g:Nat) (lb:Array Value) (eg:∀args w,(callFunc g args).run Tryz.prog w=.ok (.enter g args) w) (A0:Option Addr) (c0:Nat) (l0:List S112) (w:World) (hr0:Kd.C k112 w A0 l0.length l0)
  (hp:∀(W:World) (x:S112),x∈l0→Below w.heap.size w W→Calls Tryz.prog g (#[.agg #[.int .i64 x.f0,.int .i64 x.f1,.int .i64 x.f2.f0,.int .i64 x.f2.f1]] ++ lb) W fun e w'=>e=.returned (.bool (p x))∧Below W.heap.size W w') :
  Calls Tryz.prog 199 #[.slice A0 l0.length c0,.func (.func g) #[] lb] w fun e w'=>e=.returned (.int .i64 (ZaU p l0))∧Below w.heap.size w w':=by
 have HR0:=Za hr0;have HP:=Za hp;clear hr0 hp
 have HL:l0.length≤9223372036854775807:=HR0.out.2.1
 go_enter Tryz.func199,Tryz.ntmps199
 go_wp2
 go_loopg [5,8] l0.length (fun gg _ s8 wr=>∃kk:Nat,Aside0 (kk≤l0.length)∧Aside0 (l0.length - kk≤gg)∧s8=.int .i64 kk∧Aside0 (Below w.heap.size w wr)∧Aside0 (∀j y,j<kk→l0[j]? = some y→p y=false))
 case atStart=>exact⟨0,⟨Nat.zero_le _⟩,⟨by omega⟩,rfl,⟨Below.refl _ _⟩,⟨fun j y hj=>absurd hj (Nat.not_lt_zero _)⟩⟩
 case round=>
  obtain⟨kk,HK,HG,rfl,HB,HN⟩:=hrel
  by_cases hlt:kk<l0.length
  ·have hltz:(kk:Int)<(l0.length:Int):=by omega
   obtain⟨ad,e1,hx0,hx1,hx2,hx3⟩:=ZeD HR0.out (kk:Int) (by omega) hltz
   cases e1
   replace hx0:=(HB.out.cell (Zc w _ hx0)).trans hx0
   rw[Int.toNat_natCast] at hx0
   replace hx1:=(HB.out.cell (Zc w _ hx1)).trans hx1
   rw[Int.toNat_natCast] at hx1
   replace hx2:=(HB.out.cell (Zc w _ hx2)).trans hx2
   rw[Int.toNat_natCast] at hx2
   replace hx3:=(HB.out.cell (Zc w _ hx3)).trans hx3
   rw[Int.toNat_natCast] at hx3
   have hxe:l0[kk]? = some (ZbC l0 (kk:Int)):=by
    unfold ZbC
    rw[Int.toNat_natCast,List.getD_eq_getElem?_getD,Zl hlt];rfl
   generalize ZbC l0 (kk:Int)=y at hx0 hx1 hx2 hx3 hxe
   have HX:=Za hxe;clear hxe
   have hcall:=HP.out wr y (List.mem_of_getElem? HX.out) HB.out
   cases hq:p y with
   | true=>
    have HQ:=Za hq
    rw[hq] at hcall
    clear hq
    go_wp2_with (go_at_fn g;refine hcall.mono ?_;rintro e w' ⟨rfl,hb⟩)
    go_ret
    exact⟨by rw[ZbM p l0 kk y HX.out HQ.out HN.out];rfl,HB.out.trans (hb.mono HB.out.size)⟩
   | false=>
    have HQ:=Za hq
    rw[hq] at hcall
    clear hq
    go_wp2_with (go_at_fn g;refine hcall.mono ?_;rintro e w' ⟨rfl,hb⟩)
    go_roundg (l0.length - (kk+1))
    case measure=>have:=HG.out;omega
    case rel=>
     refine⟨kk+1,⟨by omega⟩,⟨by omega⟩,by go_num,⟨HB.out.trans (hb.mono HB.out.size)⟩,⟨fun j y' hj hy=>?_⟩⟩
     by_cases e:j=kk
     ·subst e
      rw[HX.out] at hy
      cases hy
      exact HQ.out
     ·exact HN.out j y' (by omega) hy
  ·have hltz:¬(kk:Int)<(l0.length:Int):=by omega
   have:kk=l0.length:=by have:=HK.out;omega
   subst this
   go_wp2
   go_ret
   exact⟨by rw[Zbq p l0 HN.out];rfl,HB.out⟩
set_option maxHeartbeats 4000000 in
theorem Zgd.any (p:S112→Bool) (g:Nat) (lb:Array Value) (eg:∀args w,(callFunc g args).run Tryz.prog w=.ok (.enter g args) w) (A0:Option Addr) (c0:Nat) (l0:List S112) (w:World) (hr0:Kd.C k112 w A0 l0.length l0)
  (hp:∀(W:World) (x:S112),x∈l0→Below w.heap.size w W→Calls Tryz.prog g (#[.agg #[.int .i64 x.f0,.int .i64 x.f1,.int .i64 x.f2.f0,.int .i64 x.f2.f1]] ++ lb) W fun e w'=>e=.returned (.bool (p x))∧Below W.heap.size W w') :
  Calls Tryz.prog 164 #[.slice A0 l0.length c0,.func (.func g) #[] lb] w fun e w'=>e=.returned (.bool (l0.any p))∧Below w.heap.size w w':=by
 have HI:=Za (Zgc.any p g lb eg A0 c0 l0 w hr0 hp)
 clear hr0 hp
 have HE:=Za (ZcP p l0)
 go_enter Tryz.func164,Tryz.ntmps164
 go_wp2_with (go_at_call 199;refine HI.out.mono ?_;rintro e w' ⟨rfl,hb⟩)
 go_ret
 exact⟨by rw[← HE.out];rfl,hb⟩
end Go.Proofs.YtoeimopgoaffcaaGreatDoor.Pr
namespace Go.Proofs.YtoeimopgoaffcaaGreatDoor.Pr
open Go.RowKit Go.Proofs.YtoeimopgoaffcaaGreatDoorW.PrintWords Go.Proofs.YtoeimopgoaffcaaGreatDoorW.PrintLast Go.Proofs.YtoeimopgoaffcaaGreatDoorW.PrintMore
attribute [local go_sem] ZW ZU ZZ ZY ZP ZO ZV ZT
set_option linter.unusedVariables false
set_option linter.unusedSimpArgs false
def Zcb.f (a0_0:Int) (a0_1:Int):Option (Bool):=if a0_0≥(-1000000) then(if a0_0≤a0_1 then(if a0_1≤1000000 then(if a0_0=1000000 then(some false) else(some (a0_1 != (-1000000)))) else(some false)) else(some false)) else(some false)
set_option maxHeartbeats 8000000 in
set_option maxRecDepth 100000 in
theorem Zcb.calls (a0_0:Int) (a0_1:Int) (r:Bool) (w:World) (h:Zcb.f a0_0 a0_1=some r) :
  Calls Tryz.prog 166 #[.agg #[.int .i64 a0_0,.int .i64 a0_1]] w fun e w'=>e=.returned (.bool r)∧Below w.heap.size w w':=by
 have hu110:=Tryz.underlying110
 have HB:=Za (Below.refl w.heap.size w)
 have H:(if a0_0≥(-1000000) then(if a0_0≤a0_1 then(if a0_1≤1000000 then(if a0_0=1000000 then(some false) else(some (a0_1 != (-1000000)))) else(some false)) else(some false)) else(some false))=some r:=h
 clear h
 by_cases c2:a0_0≥(-1000000)
 ·rw[if_pos c2] at H
  have c2b0:decide ((-1000000)≤a0_0)=true:=Ze c2
  clear c2
  by_cases c3:a0_0≤a0_1
  ·rw[if_pos c3] at H
   have c3b0:decide (a0_0≤a0_1)=true:=Ze c3
   clear c3
   by_cases c4:a0_1≤1000000
   ·rw[if_pos c4] at H
    have c4b0:decide (a0_1≤1000000)=true:=Ze c4
    clear c4
    by_cases c5:a0_0=1000000
    ·rw[if_pos c5] at H
     have c5b0:(a0_0 == 1000000)=true:=beq_iff_eq.mpr c5
     have c5b1:(a0_0 != 1000000)=false:=bne_eq_false_iff_eq.mpr c5
     clear c5
     obtain rfl:=Zg H
     go_enter Tryz.func166,Tryz.ntmps166
     go_wp2_with (first|((with_reducible refine ZF (N:=1) rfl ?_);refine ZG ?hg (N:=1) ?hd (cs:=#[.int .i64 a0_0,.int .i64 a0_1]) (t:=110) ?hr ?_;(case hd=>rfl);(case hg=>rfl);(case hr=>first|(go_simp;done)|(go_simp;rfl));intro gb166001 hg w6 hbox hb;have BK166001:=Za (hbox);have GW166001:=Za ((by rw[hg];exact(Zx (by repeat(first|(with_reducible first|exact HB.out|apply Zn|apply Zm|apply Zo)|exact HB.out))):w.heap.size≤gb166001));have GE166001:=Za ((by rw[hg];exact(Zx (by repeat(first|(with_reducible first|exact HB.out|apply Zn|apply Zm|apply Zo)|exact HB.out))):w.heap.size≤gb166001));replace HB:=Za (Zw (by repeat(first|(with_reducible first|exact HB.out|apply Zn|apply Zm|apply Zo)|exact HB.out)) hb);clear hb hbox hg;have hcz7_0:w6.cell? ⟨gb166001,0,none⟩=some (.int .i64 a0_0):=(Zp BK166001.out 0).trans rfl;have hcz7_1:w6.cell? ⟨gb166001,1,none⟩=some (.int .i64 a0_1):=(Zp BK166001.out 1).trans rfl))
     go_ret
     exact⟨by first|rfl|(simp[ZC,ZB] <;> rfl)|(simp[*,ZC,ZB] <;> rfl),by repeat(first|(with_reducible first|exact HB.out|apply Zn|apply Zm|apply Zo|refine Zq ?_ GE166001.out)|exact HB.out)⟩
    ·rw[if_neg c5] at H
     have c5b0:(a0_0 == 1000000)=false:=beq_eq_false_iff_ne.mpr c5
     have c5b1:(a0_0 != 1000000)=true:=bne_iff_ne.mpr c5
     obtain rfl:=Zg H
     go_enter Tryz.func166,Tryz.ntmps166
     go_wp2_with (first|((with_reducible refine ZF (N:=1) rfl ?_);refine ZG ?hg (N:=1) ?hd (cs:=#[.int .i64 a0_0,.int .i64 a0_1]) (t:=110) ?hr ?_;(case hd=>rfl);(case hg=>rfl);(case hr=>first|(go_simp;done)|(go_simp;rfl));intro gb166001 hg w8 hbox hb;have BK166001:=Za (hbox);have GW166001:=Za ((by rw[hg];exact(Zx (by repeat(first|(with_reducible first|exact HB.out|apply Zn|apply Zm|apply Zo)|exact HB.out))):w.heap.size≤gb166001));have GE166001:=Za ((by rw[hg];exact(Zx (by repeat(first|(with_reducible first|exact HB.out|apply Zn|apply Zm|apply Zo)|exact HB.out))):w.heap.size≤gb166001));replace HB:=Za (Zw (by repeat(first|(with_reducible first|exact HB.out|apply Zn|apply Zm|apply Zo)|exact HB.out)) hb);clear hb hbox hg;have hcz9_0:w8.cell? ⟨gb166001,0,none⟩=some (.int .i64 a0_0):=(Zp BK166001.out 0).trans rfl;have hcz9_1:w8.cell? ⟨gb166001,1,none⟩=some (.int .i64 a0_1):=(Zp BK166001.out 1).trans rfl))
     go_ret
     exact⟨by first|rfl|(simp[ZC,ZB] <;> rfl)|(simp[*,ZC,ZB] <;> rfl),by repeat(first|(with_reducible first|exact HB.out|apply Zn|apply Zm|apply Zo|refine Zq ?_ GE166001.out)|exact HB.out)⟩
   ·rw[if_neg c4] at H
    have c4b0:decide (a0_1≤1000000)=false:=Zf c4
    clear c4
    obtain rfl:=Zg H
    go_enter Tryz.func166,Tryz.ntmps166
    go_wp2_with (first|((with_reducible refine ZF (N:=1) rfl ?_);refine ZG ?hg (N:=1) ?hd (cs:=#[.int .i64 a0_0,.int .i64 a0_1]) (t:=110) ?hr ?_;(case hd=>rfl);(case hg=>rfl);(case hr=>first|(go_simp;done)|(go_simp;rfl));intro gb166001 hg w10 hbox hb;have BK166001:=Za (hbox);have GW166001:=Za ((by rw[hg];exact(Zx (by repeat(first|(with_reducible first|exact HB.out|apply Zn|apply Zm|apply Zo)|exact HB.out))):w.heap.size≤gb166001));have GE166001:=Za ((by rw[hg];exact(Zx (by repeat(first|(with_reducible first|exact HB.out|apply Zn|apply Zm|apply Zo)|exact HB.out))):w.heap.size≤gb166001));replace HB:=Za (Zw (by repeat(first|(with_reducible first|exact HB.out|apply Zn|apply Zm|apply Zo)|exact HB.out)) hb);clear hb hbox hg;have hcz11_0:w10.cell? ⟨gb166001,0,none⟩=some (.int .i64 a0_0):=(Zp BK166001.out 0).trans rfl;have hcz11_1:w10.cell? ⟨gb166001,1,none⟩=some (.int .i64 a0_1):=(Zp BK166001.out 1).trans rfl))
    go_ret
    exact⟨by first|rfl|(simp[ZC,ZB] <;> rfl)|(simp[*,ZC,ZB] <;> rfl),by repeat(first|(with_reducible first|exact HB.out|apply Zn|apply Zm|apply Zo|refine Zq ?_ GE166001.out)|exact HB.out)⟩
  ·rw[if_neg c3] at H
   have c3b0:decide (a0_0≤a0_1)=false:=Zf c3
   clear c3
   obtain rfl:=Zg H
   go_enter Tryz.func166,Tryz.ntmps166
   go_wp2_with (first|((with_reducible refine ZF (N:=1) rfl ?_);refine ZG ?hg (N:=1) ?hd (cs:=#[.int .i64 a0_0,.int .i64 a0_1]) (t:=110) ?hr ?_;(case hd=>rfl);(case hg=>rfl);(case hr=>first|(go_simp;done)|(go_simp;rfl));intro gb166001 hg w12 hbox hb;have BK166001:=Za (hbox);have GW166001:=Za ((by rw[hg];exact(Zx (by repeat(first|(with_reducible first|exact HB.out|apply Zn|apply Zm|apply Zo)|exact HB.out))):w.heap.size≤gb166001));have GE166001:=Za ((by rw[hg];exact(Zx (by repeat(first|(with_reducible first|exact HB.out|apply Zn|apply Zm|apply Zo)|exact HB.out))):w.heap.size≤gb166001));replace HB:=Za (Zw (by repeat(first|(with_reducible first|exact HB.out|apply Zn|apply Zm|apply Zo)|exact HB.out)) hb);clear hb hbox hg;have hcz13_0:w12.cell? ⟨gb166001,0,none⟩=some (.int .i64 a0_0):=(Zp BK166001.out 0).trans rfl;have hcz13_1:w12.cell? ⟨gb166001,1,none⟩=some (.int .i64 a0_1):=(Zp BK166001.out 1).trans rfl))
   go_ret
   exact⟨by first|rfl|(simp[ZC,ZB] <;> rfl)|(simp[*,ZC,ZB] <;> rfl),by repeat(first|(with_reducible first|exact HB.out|apply Zn|apply Zm|apply Zo|refine Zq ?_ GE166001.out)|exact HB.out)⟩
 ·rw[if_neg c2] at H
  have c2b0:decide ((-1000000)≤a0_0)=false:=Zf c2
  clear c2
  obtain rfl:=Zg H
  go_enter Tryz.func166,Tryz.ntmps166
  go_wp2_with (first|((with_reducible refine ZF (N:=1) rfl ?_);refine ZG ?hg (N:=1) ?hd (cs:=#[.int .i64 a0_0,.int .i64 a0_1]) (t:=110) ?hr ?_;(case hd=>rfl);(case hg=>rfl);(case hr=>first|(go_simp;done)|(go_simp;rfl));intro gb166001 hg w14 hbox hb;have BK166001:=Za (hbox);have GW166001:=Za ((by rw[hg];exact(Zx (by repeat(first|(with_reducible first|exact HB.out|apply Zn|apply Zm|apply Zo)|exact HB.out))):w.heap.size≤gb166001));have GE166001:=Za ((by rw[hg];exact(Zx (by repeat(first|(with_reducible first|exact HB.out|apply Zn|apply Zm|apply Zo)|exact HB.out))):w.heap.size≤gb166001));replace HB:=Za (Zw (by repeat(first|(with_reducible first|exact HB.out|apply Zn|apply Zm|apply Zo)|exact HB.out)) hb);clear hb hbox hg;have hcz15_0:w14.cell? ⟨gb166001,0,none⟩=some (.int .i64 a0_0):=(Zp BK166001.out 0).trans rfl;have hcz15_1:w14.cell? ⟨gb166001,1,none⟩=some (.int .i64 a0_1):=(Zp BK166001.out 1).trans rfl))
  go_ret
  exact⟨by first|rfl|(simp[ZC,ZB] <;> rfl)|(simp[*,ZC,ZB] <;> rfl),by repeat(first|(with_reducible first|exact HB.out|apply Zn|apply Zm|apply Zo|refine Zq ?_ GE166001.out)|exact HB.out)⟩
end Go.Proofs.YtoeimopgoaffcaaGreatDoor.Pr
namespace Go.Proofs.YtoeimopgoaffcaaGreatDoor.Pr
open Go.RowKit Go.Proofs.YtoeimopgoaffcaaGreatDoorW.PrintWords Go.Proofs.YtoeimopgoaffcaaGreatDoorW.PrintLast Go.Proofs.YtoeimopgoaffcaaGreatDoorW.PrintMore
attribute [local go_sem] ZW ZU ZZ ZY ZP ZO ZV ZT
set_option linter.unusedVariables false
set_option linter.unusedSimpArgs false
open Go.Proofs.YtoeimopgoaffcaaGreatDoor.Ni
def ivOkB (lo hi:Int):Bool:=decide (-1000000≤lo) && (decide (lo≤hi) && (decide (hi≤1000000) && (!(decide (lo=1000000)) && !(decide (hi=-1000000)))))
theorem ivOk_f (lo hi:Int):Zcb.f lo hi=some (ivOkB lo hi):=by
 unfold Zcb.f ivOkB
 by_cases h1:lo≥-1000000
 ·rw[if_pos h1,Ze (show(-1000000:Int)≤lo from h1),Bool.true_and]
  by_cases h2:lo≤hi
  ·rw[if_pos h2,Ze h2,Bool.true_and]
   by_cases h3:hi≤1000000
   ·rw[if_pos h3,Ze h3,Bool.true_and]
    by_cases h4:lo=1000000
    ·rw[if_pos h4,Ze h4];rfl
    ·rw[if_neg h4,Zf h4]
     congr 1
   ·rw[if_neg h3,Zf h3];rfl
  ·rw[if_neg h2,Zf h2];rfl
 ·rw[if_neg h1,Zf (show ¬(-1000000:Int)≤lo from h1)];rfl
def ZbD (n:Int) (x:S112):Bool:=inN n x.f0 && (inN n x.f1 && ivOkB x.f2.f0 x.f2.f1)
def Zay (n:Int) (ls:List S112):Bool:=!(decide (n<1)) && (!(decide (8<n)) && (!(decide (40<ls.length)) && !(ls.any fun x=>!ZbD n x)))
def ZaL.f (a0_0:Int) (l0_1:List (S112)):Option Bool:=some (Zay a0_0 l0_1)
set_option maxHeartbeats 4000000 in
theorem Zfa.clo (B:Nat) (n:Int) (W:World) (hB:W.cell? ⟨B,0,none⟩=some (.int .i64 n)) (x:S112) :
  Calls Tryz.prog 165 #[.agg #[.int .i64 x.f0,.int .i64 x.f1,.int .i64 x.f2.f0,.int .i64 x.f2.f1],.pointer (some ⟨B,0,none⟩)] W fun e w'=>e=.returned (.bool (!ZbD n x))∧Below W.heap.size W w':=by
 have hlt:B<W.heap.size:=Zc W _ hB
 have hu:=Tryz.underlying112
 have hu2:=Tryz.underlying110
 have hu3:=Tryz.underlying54
 obtain⟨f0,f1,⟨f2,f3⟩⟩:=x
 have HE:=Za (show ZbD n ⟨f0,f1,⟨f2,f3⟩⟩=(inN n f0 && (inN n f1 && ivOkB f2 f3)) from rfl)
 have HI:=Za fun (w:World)=>Zcb.calls f2 f3 _ w (ivOk_f f2 f3)
 cases b1:inN n f0 with
 | false=>
  have HF:=Za (show ZbD n ⟨f0,f1,⟨f2,f3⟩⟩=false by rw[HE.out,b1];rfl)
  clear HE
  go_enter Tryz.func165,Tryz.ntmps165
  go_wp2_with (go_at_call 84;refine(Zc3 _ _ _).mono ?_;rintro e w' ⟨rfl,nd,rfl⟩)
  go_ret
  exact⟨by rw[HF.out];rfl,by repeat(first|exact Below.refl _ _|apply Zn|apply Zm|apply Zax)⟩
 | true=>
 cases b2:inN n f1 with
 | false=>
  have HF:=Za (show ZbD n ⟨f0,f1,⟨f2,f3⟩⟩=false by rw[HE.out,b1,b2];rfl)
  clear HE
  go_enter Tryz.func165,Tryz.ntmps165
  go_wp2_with (go_at_call 84;refine(Zc3 _ _ _).mono ?_;rintro e w' ⟨rfl,nd,rfl⟩)
  go_ret
  exact⟨by rw[HF.out];rfl,by repeat(first|exact Below.refl _ _|apply Zn|apply Zm|apply Zax)⟩
 | true=>
 have HF:=Za (show ZbD n ⟨f0,f1,⟨f2,f3⟩⟩=ivOkB f2 f3 by rw[HE.out,b1,b2];rfl)
 clear HE
 go_enter Tryz.func165,Tryz.ntmps165
 go_wp2_with (first|(go_at_call 84;refine(Zc3 _ _ _).mono ?_;rintro e w' ⟨rfl,nd,rfl⟩)|(go_at_call 166;refine(HI.out _).mono ?_;rintro e w' ⟨rfl,hb⟩))
 go_ret
 exact⟨by rw[HF.out];rfl,Zw (by repeat(first|exact Below.refl _ _|apply Zn|apply Zm|apply Zax)) hb⟩
set_option maxHeartbeats 4000000 in
set_option maxRecDepth 100000 in
theorem ZaL.calls (a0_0:Int) (A0_1:Option Addr) (c0_1:Nat) (l0_1:List (S112)) (r:Bool) (w:World) (hr0_1:Kd.C k112 w A0_1 l0_1.length l0_1) (hc0_1:l0_1.length≤c0_1) (h:ZaL.f a0_0 l0_1=some r) :
  Calls Tryz.prog 105 #[.agg #[.int .i64 a0_0,.slice A0_1 l0_1.length c0_1]] w fun e w'=>e=.returned (.bool r)∧Below w.heap.size w w':=by
 obtain rfl:=Zg h
 have hL:l0_1.length≤9223372036854775807:=hr0_1.2.1
 have HC:=Za fun (W:World) (B:Nat) (hb:Below w.heap.size w W) (hcell:W.cell? ⟨B,0,none⟩=some (.int .i64 a0_0))=>Zgd.any (fun x=>!ZbD a0_0 x) 165 #[.pointer (some ⟨B,0,none⟩)] (enters_of Tryz.func165 (by kernel_rfl) rfl) A0_1 c0_1 l0_1 W (Zb hr0_1 hb)
    (fun W' x _ hb'=>Zfa.clo B a0_0 W' (Zz hb' hcell) x)
 have hu:=Tryz.underlying54
 have HB:=Za (Zn (Below.refl w.heap.size w) (.cells #[.int .i64 a0_0,.slice A0_1 l0_1.length c0_1] 54))
 clear hr0_1 h
 cases b1:decide (a0_0<1) with
 | true=>
  have HF:=Za (show Zay a0_0 l0_1=false by unfold Zay;rw[b1];rfl)
  go_enter Tryz.func105,Tryz.ntmps105
  go_wp2
  go_ret
  exact⟨by rw[HF.out];rfl,HB.out⟩
 | false=>
 cases b2:decide (8<a0_0) with
 | true=>
  have HF:=Za (show Zay a0_0 l0_1=false by unfold Zay;rw[b1,b2];rfl)
  go_enter Tryz.func105,Tryz.ntmps105
  go_wp2
  go_ret
  exact⟨by rw[HF.out];rfl,HB.out⟩
 | false=>
 by_cases q3:40<l0_1.length
 ·have b3:decide (40<l0_1.length)=true:=Ze q3
  have z3:(40:Int)<(l0_1.length:Int):=by omega
  have HF:=Za (show Zay a0_0 l0_1=false by unfold Zay;rw[b1,b2,b3];rfl)
  clear b3 q3
  go_enter Tryz.func105,Tryz.ntmps105
  go_wp2
  go_ret
  exact⟨by rw[HF.out];rfl,HB.out⟩
 ·have b3:decide (40<l0_1.length)=false:=Zf q3
  have z3:¬(40:Int)<(l0_1.length:Int):=by omega
  have HF:=Za (show Zay a0_0 l0_1=!(l0_1.any fun x=>!ZbD a0_0 x) by unfold Zay;rw[b1,b2,b3];rfl)
  clear b3 q3
  generalize l0_1.any (fun x=>!ZbD a0_0 x)=q at HC HF
  go_enter Tryz.func105,Tryz.ntmps105
  go_wp2_with fail
  refine(HC.out _ _ HB.out (by go_simp)).mono ?_
  rintro e w' ⟨rfl,hb⟩
  go_wp2
  go_ret
  exact⟨by rw[HF.out];rfl,HB.out.trans (hb.mono HB.out.size)⟩
end Go.Proofs.YtoeimopgoaffcaaGreatDoor.Pr
namespace Go.Proofs.YtoeimopgoaffcaaGreatDoor.Pr
open Go.RowKit Go.Proofs.YtoeimopgoaffcaaGreatDoorW.PrintWords Go.Proofs.YtoeimopgoaffcaaGreatDoorW.PrintLast Go.Proofs.YtoeimopgoaffcaaGreatDoorW.PrintMore
attribute [local go_sem] ZW ZU ZZ ZY ZP ZO ZV ZT
set_option linter.unusedVariables false
set_option linter.unusedSimpArgs false
def Zcu.f (a0_0:Int) (a0_1:Int):Option (Bool):=if a0_0≥(-1000000) then(if a0_0≤a0_1 then(if a0_1≤1000000 then(if a0_0=1000000 then(some false) else(some (a0_1 != (-1000000)))) else(some false)) else(some false)) else(some false)
set_option maxHeartbeats 8000000 in
set_option maxRecDepth 100000 in
theorem Zcu.calls (a0_0:Int) (a0_1:Int) (r:Bool) (w:World) (h:Zcu.f a0_0 a0_1=some r) :
  Calls Tryz.prog 157 #[.agg #[.int .i64 a0_0,.int .i64 a0_1]] w fun e w'=>e=.returned (.bool r)∧Below w.heap.size w w':=by
 have hu110:=Tryz.underlying110
 have HB:=Za (Below.refl w.heap.size w)
 have H:(if a0_0≥(-1000000) then(if a0_0≤a0_1 then(if a0_1≤1000000 then(if a0_0=1000000 then(some false) else(some (a0_1 != (-1000000)))) else(some false)) else(some false)) else(some false))=some r:=h
 clear h
 by_cases c2:a0_0≥(-1000000)
 ·rw[if_pos c2] at H
  have c2b0:decide ((-1000000)≤a0_0)=true:=Ze c2
  clear c2
  by_cases c3:a0_0≤a0_1
  ·rw[if_pos c3] at H
   have c3b0:decide (a0_0≤a0_1)=true:=Ze c3
   clear c3
   by_cases c4:a0_1≤1000000
   ·rw[if_pos c4] at H
    have c4b0:decide (a0_1≤1000000)=true:=Ze c4
    clear c4
    by_cases c5:a0_0=1000000
    ·rw[if_pos c5] at H
     have c5b0:(a0_0 == 1000000)=true:=beq_iff_eq.mpr c5
     have c5b1:(a0_0 != 1000000)=false:=bne_eq_false_iff_eq.mpr c5
     clear c5
     obtain rfl:=Zg H
     go_enter Tryz.func157,Tryz.ntmps157
     go_wp2_with (first|((with_reducible refine ZF (N:=1) rfl ?_);refine ZG ?hg (N:=1) ?hd (cs:=#[.int .i64 a0_0,.int .i64 a0_1]) (t:=110) ?hr ?_;(case hd=>rfl);(case hg=>rfl);(case hr=>first|(go_simp;done)|(go_simp;rfl));intro gb157001 hg w6 hbox hb;have BK157001:=Za (hbox);have GW157001:=Za ((by rw[hg];exact(Zx (by repeat(first|(with_reducible first|exact HB.out|apply Zn|apply Zm|apply Zo)|exact HB.out))):w.heap.size≤gb157001));have GE157001:=Za ((by rw[hg];exact(Zx (by repeat(first|(with_reducible first|exact HB.out|apply Zn|apply Zm|apply Zo)|exact HB.out))):w.heap.size≤gb157001));replace HB:=Za (Zw (by repeat(first|(with_reducible first|exact HB.out|apply Zn|apply Zm|apply Zo)|exact HB.out)) hb);clear hb hbox hg;have hcz7_0:w6.cell? ⟨gb157001,0,none⟩=some (.int .i64 a0_0):=(Zp BK157001.out 0).trans rfl;have hcz7_1:w6.cell? ⟨gb157001,1,none⟩=some (.int .i64 a0_1):=(Zp BK157001.out 1).trans rfl))
     go_ret
     exact⟨by first|rfl|(simp[ZC,ZB] <;> rfl)|(simp[*,ZC,ZB] <;> rfl),by repeat(first|(with_reducible first|exact HB.out|apply Zn|apply Zm|apply Zo|refine Zq ?_ GE157001.out)|exact HB.out)⟩
    ·rw[if_neg c5] at H
     have c5b0:(a0_0 == 1000000)=false:=beq_eq_false_iff_ne.mpr c5
     have c5b1:(a0_0 != 1000000)=true:=bne_iff_ne.mpr c5
     obtain rfl:=Zg H
     go_enter Tryz.func157,Tryz.ntmps157
     go_wp2_with (first|((with_reducible refine ZF (N:=1) rfl ?_);refine ZG ?hg (N:=1) ?hd (cs:=#[.int .i64 a0_0,.int .i64 a0_1]) (t:=110) ?hr ?_;(case hd=>rfl);(case hg=>rfl);(case hr=>first|(go_simp;done)|(go_simp;rfl));intro gb157001 hg w8 hbox hb;have BK157001:=Za (hbox);have GW157001:=Za ((by rw[hg];exact(Zx (by repeat(first|(with_reducible first|exact HB.out|apply Zn|apply Zm|apply Zo)|exact HB.out))):w.heap.size≤gb157001));have GE157001:=Za ((by rw[hg];exact(Zx (by repeat(first|(with_reducible first|exact HB.out|apply Zn|apply Zm|apply Zo)|exact HB.out))):w.heap.size≤gb157001));replace HB:=Za (Zw (by repeat(first|(with_reducible first|exact HB.out|apply Zn|apply Zm|apply Zo)|exact HB.out)) hb);clear hb hbox hg;have hcz9_0:w8.cell? ⟨gb157001,0,none⟩=some (.int .i64 a0_0):=(Zp BK157001.out 0).trans rfl;have hcz9_1:w8.cell? ⟨gb157001,1,none⟩=some (.int .i64 a0_1):=(Zp BK157001.out 1).trans rfl))
     go_ret
     exact⟨by first|rfl|(simp[ZC,ZB] <;> rfl)|(simp[*,ZC,ZB] <;> rfl),by repeat(first|(with_reducible first|exact HB.out|apply Zn|apply Zm|apply Zo|refine Zq ?_ GE157001.out)|exact HB.out)⟩
   ·rw[if_neg c4] at H
    have c4b0:decide (a0_1≤1000000)=false:=Zf c4
    clear c4
    obtain rfl:=Zg H
    go_enter Tryz.func157,Tryz.ntmps157
    go_wp2_with (first|((with_reducible refine ZF (N:=1) rfl ?_);refine ZG ?hg (N:=1) ?hd (cs:=#[.int .i64 a0_0,.int .i64 a0_1]) (t:=110) ?hr ?_;(case hd=>rfl);(case hg=>rfl);(case hr=>first|(go_simp;done)|(go_simp;rfl));intro gb157001 hg w10 hbox hb;have BK157001:=Za (hbox);have GW157001:=Za ((by rw[hg];exact(Zx (by repeat(first|(with_reducible first|exact HB.out|apply Zn|apply Zm|apply Zo)|exact HB.out))):w.heap.size≤gb157001));have GE157001:=Za ((by rw[hg];exact(Zx (by repeat(first|(with_reducible first|exact HB.out|apply Zn|apply Zm|apply Zo)|exact HB.out))):w.heap.size≤gb157001));replace HB:=Za (Zw (by repeat(first|(with_reducible first|exact HB.out|apply Zn|apply Zm|apply Zo)|exact HB.out)) hb);clear hb hbox hg;have hcz11_0:w10.cell? ⟨gb157001,0,none⟩=some (.int .i64 a0_0):=(Zp BK157001.out 0).trans rfl;have hcz11_1:w10.cell? ⟨gb157001,1,none⟩=some (.int .i64 a0_1):=(Zp BK157001.out 1).trans rfl))
    go_ret
    exact⟨by first|rfl|(simp[ZC,ZB] <;> rfl)|(simp[*,ZC,ZB] <;> rfl),by repeat(first|(with_reducible first|exact HB.out|apply Zn|apply Zm|apply Zo|refine Zq ?_ GE157001.out)|exact HB.out)⟩
  ·rw[if_neg c3] at H
   have c3b0:decide (a0_0≤a0_1)=false:=Zf c3
   clear c3
   obtain rfl:=Zg H
   go_enter Tryz.func157,Tryz.ntmps157
   go_wp2_with (first|((with_reducible refine ZF (N:=1) rfl ?_);refine ZG ?hg (N:=1) ?hd (cs:=#[.int .i64 a0_0,.int .i64 a0_1]) (t:=110) ?hr ?_;(case hd=>rfl);(case hg=>rfl);(case hr=>first|(go_simp;done)|(go_simp;rfl));intro gb157001 hg w12 hbox hb;have BK157001:=Za (hbox);have GW157001:=Za ((by rw[hg];exact(Zx (by repeat(first|(with_reducible first|exact HB.out|apply Zn|apply Zm|apply Zo)|exact HB.out))):w.heap.size≤gb157001));have GE157001:=Za ((by rw[hg];exact(Zx (by repeat(first|(with_reducible first|exact HB.out|apply Zn|apply Zm|apply Zo)|exact HB.out))):w.heap.size≤gb157001));replace HB:=Za (Zw (by repeat(first|(with_reducible first|exact HB.out|apply Zn|apply Zm|apply Zo)|exact HB.out)) hb);clear hb hbox hg;have hcz13_0:w12.cell? ⟨gb157001,0,none⟩=some (.int .i64 a0_0):=(Zp BK157001.out 0).trans rfl;have hcz13_1:w12.cell? ⟨gb157001,1,none⟩=some (.int .i64 a0_1):=(Zp BK157001.out 1).trans rfl))
   go_ret
   exact⟨by first|rfl|(simp[ZC,ZB] <;> rfl)|(simp[*,ZC,ZB] <;> rfl),by repeat(first|(with_reducible first|exact HB.out|apply Zn|apply Zm|apply Zo|refine Zq ?_ GE157001.out)|exact HB.out)⟩
 ·rw[if_neg c2] at H
  have c2b0:decide ((-1000000)≤a0_0)=false:=Zf c2
  clear c2
  obtain rfl:=Zg H
  go_enter Tryz.func157,Tryz.ntmps157
  go_wp2_with (first|((with_reducible refine ZF (N:=1) rfl ?_);refine ZG ?hg (N:=1) ?hd (cs:=#[.int .i64 a0_0,.int .i64 a0_1]) (t:=110) ?hr ?_;(case hd=>rfl);(case hg=>rfl);(case hr=>first|(go_simp;done)|(go_simp;rfl));intro gb157001 hg w14 hbox hb;have BK157001:=Za (hbox);have GW157001:=Za ((by rw[hg];exact(Zx (by repeat(first|(with_reducible first|exact HB.out|apply Zn|apply Zm|apply Zo)|exact HB.out))):w.heap.size≤gb157001));have GE157001:=Za ((by rw[hg];exact(Zx (by repeat(first|(with_reducible first|exact HB.out|apply Zn|apply Zm|apply Zo)|exact HB.out))):w.heap.size≤gb157001));replace HB:=Za (Zw (by repeat(first|(with_reducible first|exact HB.out|apply Zn|apply Zm|apply Zo)|exact HB.out)) hb);clear hb hbox hg;have hcz15_0:w14.cell? ⟨gb157001,0,none⟩=some (.int .i64 a0_0):=(Zp BK157001.out 0).trans rfl;have hcz15_1:w14.cell? ⟨gb157001,1,none⟩=some (.int .i64 a0_1):=(Zp BK157001.out 1).trans rfl))
  go_ret
  exact⟨by first|rfl|(simp[ZC,ZB] <;> rfl)|(simp[*,ZC,ZB] <;> rfl),by repeat(first|(with_reducible first|exact HB.out|apply Zn|apply Zm|apply Zo|refine Zq ?_ GE157001.out)|exact HB.out)⟩
end Go.Proofs.YtoeimopgoaffcaaGreatDoor.Pr
namespace Go.Proofs.YtoeimopgoaffcaaGreatDoor.Pr
open Go.RowKit Go.Proofs.YtoeimopgoaffcaaGreatDoorW.PrintWords Go.Proofs.YtoeimopgoaffcaaGreatDoorW.PrintLast Go.Proofs.YtoeimopgoaffcaaGreatDoorW.PrintMore
attribute [local go_sem] ZW ZU ZZ ZY ZP ZO ZV ZT
set_option linter.unusedVariables false
set_option linter.unusedSimpArgs false
open Go.Proofs.YtoeimopgoaffcaaGreatDoor.Ni
theorem sivOk_f (lo hi:Int):Zcu.f lo hi=some (ivOkB lo hi):=ivOk_f lo hi
theorem slink_ok {n:Int} (h0:1≤n) (h8:n≤8) (y:S112):(inR y.f0 0 (wrap64 (n - 1)) && (inR y.f1 0 (wrap64 (n - 1)) && ivOkB y.f2.f0 y.f2.f1))=ZbD n y:=by
 rw[Zbt (by omega) (by omega)]
 unfold ZbD
 rw[show inR y.f0 0 (n - 1)=inN n y.f0 by unfold inR inN;rw[Bool.eq_iff_iff];simp only[Bool.and_eq_true,decide_eq_true_eq];omega,show inR y.f1 0 (n - 1)=inN n y.f1 by unfold inR inN;rw[Bool.eq_iff_iff];simp only[Bool.and_eq_true,decide_eq_true_eq];omega]
def ZaS.f (_k:Nat) (a0_0:Int) (l0_1:List (S112)):Option Bool:=some (Zay a0_0 l0_1)
set_option maxHeartbeats 4000000 in
set_option maxRecDepth 100000 in
theorem ZaS.calls (k:Nat) (a0_0:Int) (A0_1:Option Addr) (c0_1:Nat) (l0_1:List (S112)) (r:Bool) (w:World) (hr0_1:Kd.C k112 w A0_1 l0_1.length l0_1) (hc0_1:l0_1.length≤c0_1) (h:ZaS.f k a0_0 l0_1=some r) :
  Calls Tryz.prog 99 #[.agg #[.int .i64 a0_0,.slice A0_1 l0_1.length c0_1]] w fun e w'=>e=.returned (.bool r)∧Below w.heap.size w w':=by
 obtain rfl:=Zg h
 have HR0:=Za hr0_1
 have HN0:=Za (show l0_1.length≤9223372036854775807 from hr0_1.2.1)
 have HB0:=Za (Zn (Below.refl w.heap.size w) (.cells #[.int .i64 a0_0,.slice A0_1 l0_1.length c0_1] 54))
 have hu:=Tryz.underlying112
 have hu2:=Tryz.underlying110
 have hu3:=Tryz.underlying54
 clear hr0_1 hc0_1 h
 cases b1:inR a0_0 1 8 with
 | false=>
  have HE:=Za (show Zay a0_0 l0_1=false by
   unfold inR at b1
   unfold Zay
   by_cases h3:a0_0<1
   ·rw[Ze h3];rfl
   ·rw[Zf h3,Ze (show 8<a0_0 by
     rw[Ze (show 1≤a0_0 by omega),Bool.true_and] at b1
     have:=of_decide_eq_false b1;omega)];rfl)
  go_enter Tryz.func99,Tryz.ntmps99
  go_wp2_with (go_at_call 127;refine(inR_q _ _ _ _).mono ?_;rintro e w' ⟨rfl,nd,rfl⟩)
  go_ret
  exact⟨by rw[HE.out];rfl,by repeat(first|exact HB0.out|apply Zn|apply Zm|apply Zo)⟩
 | true=>
 have hN:1≤a0_0∧a0_0≤8:=by
  unfold inR at b1
  simpa using b1
 have HNN:=Za hN
 cases b2:decide ((40:Int)<(l0_1.length:Int)) with
 | true=>
  have HE:=Za (show Zay a0_0 l0_1=false by
   unfold Zay
   rw[Zf (show ¬a0_0<1 by omega),Zf (show ¬8<a0_0 by omega),Ze (show 40<l0_1.length by have:=Zd b2;omega)];rfl)
  clear hN
  go_enter Tryz.func99,Tryz.ntmps99
  go_wp2_with (go_at_call 127;refine(inR_q _ _ _ _).mono ?_;rintro e w' ⟨rfl,nd,rfl⟩)
  go_ret
  exact⟨by rw[HE.out];rfl,by repeat(first|exact HB0.out|apply Zn|apply Zm|apply Zo)⟩
 | false=>
 have HE0:=Za (show Zay a0_0 l0_1=!((l0_1.drop 0).any fun x=>!ZbD a0_0 x) by
  unfold Zay
  rw[Zf (show ¬a0_0<1 by omega),Zf (show ¬8<a0_0 by omega),Zf (show ¬40<l0_1.length by have:=of_decide_eq_false b2;omega)];rfl)
 clear hN
 go_enter Tryz.func99,Tryz.ntmps99
 go_wp2_with (go_at_call 127;refine(inR_q _ _ _ _).mono ?_;rintro e w' ⟨rfl,nd,rfl⟩)
 clear b1 b2
 go_loopg [18] l0_1.length (fun gg s18 wr=>∃kk:Nat,s18=.int .i64 (kk:Int)∧Aside0 (kk≤l0_1.length)∧Aside0 (l0_1.length - kk≤gg)∧Aside0 (Below w.heap.size w wr)∧Aside0 (wr.cell? ⟨w.heap.size,0,none⟩=some (.int .i64 a0_0))∧Aside0 (Zay a0_0 l0_1=!((l0_1.drop kk).any fun x=>!ZbD a0_0 x)))
 case atStart=>exact⟨0,rfl,⟨Nat.zero_le _⟩,⟨by omega⟩,⟨by repeat(first|exact HB0.out|apply Zn|apply Zm|apply Zo)⟩,⟨by go_simp⟩,HE0⟩
 case round=>
 clear HE0
 obtain⟨kk,rfl,HK,HG,HBr,HX,HE⟩:=hrel
 have k0:=HX.out
 have hk0:=Zc wr _ k0
 by_cases hlt:kk<l0_1.length
 ·have hltz:(kk:Int)<(l0_1.length:Int):=by omega
  obtain⟨ad,e1,hx0,hx1,hx2,hx3⟩:=ZeD (Zb HR0.out HBr.out) (kk:Int) (by omega) hltz
  cases e1
  have hrd:(ZbC l0_1 (kk:Int))=l0_1.getD kk z112:=by unfold ZbC;rw[Int.toNat_natCast]
  rw[hrd] at hx0 hx1 hx2 hx3
  rw[Int.toNat_natCast] at hx0 hx1 hx2 hx3
  have HD:=HE.out
  rw[Zam hlt z112,List.any_cons,← slink_ok HNN.out.1 HNN.out.2] at HD
  clear hrd HE
  generalize l0_1.getD kk z112=x at hx0 hx1 hx2 hx3 HD
  obtain⟨f0,f1,⟨f2,f3⟩⟩:=x
  dsimp only at hx0 hx1 hx2 hx3 HD
  have hlta:=Zc wr _ hx0
  have HDA:=Za HD;clear HD
  cases c1:inR f0 0 (wrap64 (a0_0 - 1)) with
  | false=>
   have HF:=Za (show Zay a0_0 l0_1=false by rw[HDA.out,c1];rfl)
   clear HDA
   go_wp2_with (go_at_call 127;refine(inR_q _ _ _ _).mono ?_;rintro e w' ⟨rfl,nd,rfl⟩)
   go_ret
   exact⟨by rw[HF.out];rfl,by repeat(first|(with_reducible first|exact HBr.out|apply Zn|apply Zm|apply Zo)|exact HBr.out)⟩
  | true=>
  cases c2:inR f1 0 (wrap64 (a0_0 - 1)) with
  | false=>
   have HF:=Za (show Zay a0_0 l0_1=false by rw[HDA.out,c1,c2];rfl)
   clear HDA
   go_wp2_with (go_at_call 127;refine(inR_q _ _ _ _).mono ?_;rintro e w' ⟨rfl,nd,rfl⟩)
   go_ret
   exact⟨by rw[HF.out];rfl,by repeat(first|(with_reducible first|exact HBr.out|apply Zn|apply Zm|apply Zo)|exact HBr.out)⟩
  | true=>
  rw[c1,c2] at HDA
  have HI:=Za fun (W:World)=>Zcu.calls f2 f3 _ W (sivOk_f f2 f3)
  generalize ivOkB f2 f3=q at HI HDA
  cases q with
  | false=>
   have HF:=Za (show Zay a0_0 l0_1=false by rw[HDA.out];rfl)
   clear HDA
   go_wp2_with (first|(go_at_call 127;refine(inR_q _ _ _ _).mono ?_;rintro e w' ⟨rfl,nd,rfl⟩)|(go_at_call 157;refine(HI.out _).mono ?_;rintro e w' ⟨rfl,hb⟩))
   go_ret
   exact⟨by rw[HF.out];rfl,Zw (by repeat(first|(with_reducible first|exact HBr.out|apply Zn|apply Zm|apply Zo)|exact HBr.out)) hb⟩
  | true=>
   have HF:=Za (show Zay a0_0 l0_1=!((l0_1.drop (kk+1)).any fun x=>!ZbD a0_0 x) by rw[HDA.out];rfl)
   clear HDA
   go_wp2_with (first|(go_at_call 127;refine(inR_q _ _ _ _).mono ?_;rintro e w' ⟨rfl,nd,rfl⟩)|(go_at_call 157;refine(HI.out _).mono ?_;rintro e w' ⟨rfl,hb⟩))
   go_roundg (l0_1.length - (kk+1))
   case measure=>have:=HG.out;omega
   case rel=>exact⟨kk+1,by rw[ZR hlt HN0.out],⟨by omega⟩,⟨by omega⟩,⟨Zw (by repeat(first|(with_reducible first|exact HBr.out|apply Zn|apply Zm|apply Zo)|exact HBr.out)) hb⟩,⟨Zz hb (by go_simp)⟩,HF⟩
 ·obtain rfl:kk=l0_1.length:=by have:=HK.out;omega
  have HF:=Za (show Zay a0_0 l0_1=true by rw[HE.out,List.drop_length];rfl)
  clear HE hlt
  go_wp2
  go_ret
  exact⟨by rw[HF.out];rfl,HBr.out⟩
end Go.Proofs.YtoeimopgoaffcaaGreatDoor.Pr
namespace Go.Proofs.YtoeimopgoaffcaaGreatDoor.Pr
open Go.RowKit Go.Proofs.YtoeimopgoaffcaaGreatDoorW.PrintWords Go.Proofs.YtoeimopgoaffcaaGreatDoorW.PrintLast Go.Proofs.YtoeimopgoaffcaaGreatDoorW.PrintMore
attribute [local go_sem] ZW ZU ZZ ZY ZP ZO ZV ZT
set_option linter.unusedVariables false
set_option linter.unusedSimpArgs false
def Zbo.f (k:Nat) (a0_0:Int) (l0_1:List (S112)):Option (Int×(List (S184))):=(ZaS.f k a0_0 l0_1).bind fun t169003=>(if t169003=true then((ZbS.f k a0_0 l0_1).bind fun bt169004=>(some (a0_0,bt169004.1))) else(some (0,([]:List (S184)))))
set_option maxHeartbeats 8000000 in
set_option maxRecDepth 100000 in
theorem Zbo.calls (k:Nat) (a0_0:Int) (A0_1:Option Addr) (c0_1:Nat) (l0_1:List (S112)) (r1:Int) (r2:List (S184)) (w:World) (hr0_1:Kd.C k112 w A0_1 l0_1.length l0_1) (hc0_1:l0_1.length≤c0_1) (h:Zbo.f k a0_0 l0_1=some (r1,r2)) :
  Calls Tryz.prog 169 #[.agg #[.int .i64 a0_0,.slice A0_1 l0_1.length c0_1]] w fun e w'=>∃v1_:Value,e=.returned (.agg #[.int .i64 r1,v1_])∧Kd.R k184 184 w' w.heap.size (fun _=>True) v1_ r2∧Below w.heap.size w w':=by
 have hu54:=Tryz.underlying54
 have hu156:=Tryz.underlying156
 have HR0_1:=Za hr0_1;have HC0_1:=Za hc0_1;clear hr0_1 hc0_1
 have HB:=Za (Below.refl w.heap.size w)
 have H:((ZaS.f k a0_0 l0_1).bind fun t169003=>(if t169003=true then((ZbS.f k a0_0 l0_1).bind fun bt169004=>(some (a0_0,bt169004.1))) else(some (0,([]:List (S184))))))=some (r1,r2):=h
 clear h
 replace H:=Zh H
 obtain⟨t169003,A20,H⟩:=H;have A2:=Za A20;clear A20
 by_cases c3:t169003=true
 ·subst c3
  rw[if_pos rfl] at H
  replace H:=Zh H
  obtain⟨⟨t169004,t169007⟩,A40,H⟩:=H;have A4:=Za A40;clear A40
  simp only[Option.some.injEq,Prod.mk.injEq] at H
  obtain⟨rfl,rfl⟩:=H
  go_enter Tryz.func169,Tryz.ntmps169
  go_wp2_with (first|((with_reducible refine ZF (N:=1) rfl ?_);refine ZG ?hg (N:=1) ?hd (cs:=#[.int .i64 a0_0,.slice A0_1 l0_1.length c0_1]) (t:=54) ?hr ?_;(case hd=>rfl);(case hg=>rfl);(case hr=>first|(go_simp;done)|(go_simp;rfl));intro gb169001 hg w5 hbox hb;have BK169001:=Za (hbox);have GW169001:=Za ((by rw[hg];exact(Zx (by repeat(first|(with_reducible first|exact HB.out|apply Zn|apply Zm|apply Zo)|exact HB.out))):w.heap.size≤gb169001));have GE169001:=Za ((by rw[hg];exact(Zx (by repeat(first|(with_reducible first|exact HB.out|apply Zn|apply Zm|apply Zo)|exact HB.out))):w.heap.size≤gb169001));replace HB:=Za (Zw (by repeat(first|(with_reducible first|exact HB.out|apply Zn|apply Zm|apply Zo)|exact HB.out)) hb);clear hb hbox hg)|((with_reducible refine ZF (N:=2) rfl ?_);refine ZG ?hg (N:=2) ?hd (cs:=#[.int .i64 0,.slice none 0 0]) (t:=156) ?hr ?_;(case hd=>rfl);(case hg=>rfl);(case hr=>first|(go_simp;done)|(go_simp;rfl));intro gb169002 hg w6 hbox hb;have BK169002:=Za (hbox);have GW169002:=Za ((by rw[hg];exact(Zx (by repeat(first|(with_reducible first|exact HB.out|apply Zn|apply Zm|apply Zo|refine Zq ?_ GE169001.out)|exact HB.out))):w.heap.size≤gb169002));have GE169002:=Za ((by rw[hg];exact(Zx (by repeat(first|(with_reducible first|exact HB.out|apply Zn|apply Zm|apply Zo|refine Zq ?_ GE169001.out)|exact HB.out))):w.heap.size≤gb169002));have NB169001_169002:=Za ((by rw[hg];exact Nat.ne_of_lt (ZK (g:=gb169001) (o:=.cells #[.int .i64 a0_0,.slice A0_1 l0_1.length c0_1] 54 (0,0)) (by(with_reducible repeat(first|refine Zs ?_ _|refine Zu ?_|refine Zr ?_ _));exact BK169001.out)):gb169001≠gb169002));have NB169002_169001:=Za ((by rw[hg];exact Nat.ne_of_gt (ZK (g:=gb169001) (o:=.cells #[.int .i64 a0_0,.slice A0_1 l0_1.length c0_1] 54 (0,0)) (by(with_reducible repeat(first|refine Zs ?_ _|refine Zu ?_|refine Zr ?_ _));exact BK169001.out)):gb169002≠gb169001));replace BK169001:=Za (ZA (g:=gb169001) (o:=.cells #[.int .i64 a0_0,.slice A0_1 l0_1.length c0_1] 54 (0,0)) (by(with_reducible repeat(first|refine Zs ?_ _|refine Zu ?_|refine Zr ?_ _));exact BK169001.out) hb);replace HB:=Za (Zw (by repeat(first|(with_reducible first|exact HB.out|apply Zn|apply Zm|apply Zo|refine Zq ?_ GE169001.out)|exact HB.out)) hb);clear hb hbox hg;have hcz8_0:w6.cell? ⟨gb169001,0,none⟩=some (.int .i64 a0_0):=(Zp BK169001.out 0).trans rfl;have hcz8_1:w6.cell? ⟨gb169001,1,none⟩=some (.slice A0_1 l0_1.length c0_1):=(Zp BK169001.out 1).trans rfl;have hfz8_0:=Zv BK169001.out 0;have hfz8_1:=Zv BK169001.out 1)|((with_reducible refine ZI (f:=99) rfl ?_);refine Z5 (some 6) rfl rfl Tryz.func99 (by kernel_rfl) rfl #[.agg #[.int .i64 a0_0,.slice A0_1 l0_1.length c0_1]] rfl (by(try simp only[List.map_toArray,List.map_cons,List.map_nil]);first|done|rfl|(simp only[Zk,Zj];rfl)) ?_;(with_reducible refine(ZaS.calls k a0_0 _ _ l0_1 true _ ?side1 ?side2 A2.out).mono ?_);(case side1=>repeat(first|exact(Zb HR0_1.out HB.out)|(with_reducible refine Kd.C_alloc ?_ _)|(with_reducible refine Kd.C_drewN ?_ _)|(with_reducible refine Kd.C_drew ?_)));(case side2=>exact HC0_1.out);rintro e w9 ⟨rfl,hb⟩;refine⟨_,rfl,?_⟩;replace BK169001:=Za (ZA (g:=gb169001) (o:=.cells #[.int .i64 a0_0,.slice A0_1 l0_1.length c0_1] 54 (0,0)) (by(with_reducible repeat(first|refine Zs ?_ _|refine Zu ?_|refine Zr ?_ _));exact BK169001.out) hb);replace BK169002:=Za (ZA (g:=gb169002) (o:=.cells #[.int .i64 0,.slice none 0 0] 156 (0,0)) (by(with_reducible repeat(first|refine Zs ?_ _|refine Zu ?_|refine Zr ?_ _));exact BK169002.out) hb);replace HB:=Za (Zw (by repeat(first|(with_reducible first|exact HB.out|apply Zn|apply Zm|apply Zo|refine Zq ?_ GE169001.out|refine Zq ?_ GE169002.out)|exact HB.out)) hb);have hcz10_0:w9.cell? ⟨gb169001,0,none⟩=some (.int .i64 a0_0):=(Zp BK169001.out 0).trans rfl;have hcz10_1:w9.cell? ⟨gb169001,1,none⟩=some (.slice A0_1 l0_1.length c0_1):=(Zp BK169001.out 1).trans rfl;have hfz10_0:=Zv BK169001.out 0;have hfz10_1:=Zv BK169001.out 1)|((with_reducible refine ZI (f:=173) rfl ?_);refine Z5 (some 11) rfl rfl Tryz.func173 (by kernel_rfl) rfl #[.agg #[.int .i64 a0_0,.slice A0_1 l0_1.length c0_1]] rfl (by(try simp only[List.map_toArray,List.map_cons,List.map_nil]);first|done|rfl|(simp only[Zk,Zj];rfl)) ?_;(with_reducible refine(ZbS.calls k a0_0 _ _ l0_1 t169004 t169007 _ ?side1 ?side2 A4.out).mono ?_);(case side1=>repeat(first|exact(Zb HR0_1.out HB.out)|(with_reducible refine Kd.C_alloc ?_ _)|(with_reducible refine Kd.C_drewN ?_ _)|(with_reducible refine Kd.C_drew ?_)));(case side2=>exact HC0_1.out);rintro e w11 ⟨v169005,v169008,rfl,ho0,ho1,hb⟩;refine⟨_,rfl,?_⟩;have HO169006:=Za (Kd.R_lower ho0 (Zx (by repeat(first|(with_reducible first|exact HB.out|apply Zn|apply Zm|apply Zo|refine Zq ?_ GE169001.out|refine Zq ?_ GE169002.out)|exact HB.out))));have HO169009:=Za (Kd.R_lower ho1 (Zx (by repeat(first|(with_reducible first|exact HB.out|apply Zn|apply Zm|apply Zo|refine Zq ?_ GE169001.out|refine Zq ?_ GE169002.out)|exact HB.out))));replace BK169001:=Za (ZA (g:=gb169001) (o:=.cells #[.int .i64 a0_0,.slice A0_1 l0_1.length c0_1] 54 (0,0)) (by(with_reducible repeat(first|refine Zs ?_ _|refine Zu ?_|refine Zr ?_ _));exact BK169001.out) hb);replace BK169002:=Za (ZA (g:=gb169002) (o:=.cells #[.int .i64 0,.slice none 0 0] 156 (0,0)) (by(with_reducible repeat(first|refine Zs ?_ _|refine Zu ?_|refine Zr ?_ _));exact BK169002.out) hb);replace HB:=Za (Zw (by repeat(first|(with_reducible first|exact HB.out|apply Zn|apply Zm|apply Zo|refine Zq ?_ GE169001.out|refine Zq ?_ GE169002.out)|exact HB.out)) hb);have hcz12_0:w11.cell? ⟨gb169001,0,none⟩=some (.int .i64 a0_0):=(Zp BK169001.out 0).trans rfl;have hcz12_1:w11.cell? ⟨gb169001,1,none⟩=some (.slice A0_1 l0_1.length c0_1):=(Zp BK169001.out 1).trans rfl;have hfz12_0:=Zv BK169001.out 0;have hfz12_1:=Zv BK169001.out 1;obtain⟨Ao13,co13,eo13⟩:=Kd.R_slice HO169006.out;subst eo13;have hcz14_0:w11.cell? ⟨gb169002,0,none⟩=some (.int .i64 0):=(Zp BK169002.out 0).trans rfl;have hcz14_1:w11.cell? ⟨gb169002,1,none⟩=some (.slice none 0 0):=(Zp BK169002.out 1).trans rfl;have hfz14_0:=Zv BK169002.out 0;have hfz14_1:=Zv BK169002.out 1))
  refine bodyPost_ret (results_cell_row rfl _ _ gb169002 156 #[.int .i64 a0_0,.slice Ao13 t169004.length co13] (0,0) _ rfl (by(with_reducible repeat(first|refine Zs ?_ _|refine Zu ?_|refine Zr ?_ _));refine Z1 (cs:=#[.int .i64 a0_0,.slice none 0 0]) ?_ 1 _ rfl;(with_reducible repeat(first|refine Zs ?_ _|refine Zu ?_|refine Zr ?_ _));refine Z1 (cs:=#[.int .i64 0,.slice none 0 0]) ?_ 0 _ rfl;(with_reducible repeat(first|refine Zs ?_ _|refine Zu ?_|refine Zr ?_ _));exact BK169002.out) Tryz.underlying156 rfl (by kernel_rfl)) rfl ?_
  exact⟨_,by first|rfl|(simp[ZC,ZB] <;> rfl)|(simp[*,ZC,ZB] <;> rfl),by(with_reducible repeat(first|apply Kd.R_alloc|apply Kd.R_drewN|apply Kd.R_drew));exact Kd.R_mono (Kd.R_far (p:=⟨gb169002,1,none⟩) (Kd.R_far (p:=⟨gb169002,0,none⟩) (Kd.R_types HO169006.out BK169002.out (by decide)) (fun _ hk=>hk.2) (.int .i64 a0_0)) (fun _ hk=>hk.2) (.slice Ao13 t169004.length co13)) (fun _ hk=>trivial),by repeat(first|(with_reducible first|exact HB.out|apply Zn|apply Zm|apply Zo|refine Zq ?_ GE169001.out|refine Zq ?_ GE169002.out)|exact HB.out)⟩
 ·replace c3:=Bool.eq_false_iff.mpr c3
  subst c3
  have H1:(some (0,([]:List (S184))))=some (r1,r2):=by rw[if_neg (show ¬(false=true) by decide)] at H;exact H
  clear H
  have H:=H1
  clear H1
  simp only[Option.some.injEq,Prod.mk.injEq] at H
  obtain⟨rfl,rfl⟩:=H
  go_enter Tryz.func169,Tryz.ntmps169
  go_wp2_with (first|((with_reducible refine ZF (N:=1) rfl ?_);refine ZG ?hg (N:=1) ?hd (cs:=#[.int .i64 a0_0,.slice A0_1 l0_1.length c0_1]) (t:=54) ?hr ?_;(case hd=>rfl);(case hg=>rfl);(case hr=>first|(go_simp;done)|(go_simp;rfl));intro gb169001 hg w15 hbox hb;have BK169001:=Za (hbox);have GW169001:=Za ((by rw[hg];exact(Zx (by repeat(first|(with_reducible first|exact HB.out|apply Zn|apply Zm|apply Zo)|exact HB.out))):w.heap.size≤gb169001));have GE169001:=Za ((by rw[hg];exact(Zx (by repeat(first|(with_reducible first|exact HB.out|apply Zn|apply Zm|apply Zo)|exact HB.out))):w.heap.size≤gb169001));replace HB:=Za (Zw (by repeat(first|(with_reducible first|exact HB.out|apply Zn|apply Zm|apply Zo)|exact HB.out)) hb);clear hb hbox hg)|((with_reducible refine ZF (N:=2) rfl ?_);refine ZG ?hg (N:=2) ?hd (cs:=#[.int .i64 0,.slice none 0 0]) (t:=156) ?hr ?_;(case hd=>rfl);(case hg=>rfl);(case hr=>first|(go_simp;done)|(go_simp;rfl));intro gb169002 hg w16 hbox hb;have BK169002:=Za (hbox);have GW169002:=Za ((by rw[hg];exact(Zx (by repeat(first|(with_reducible first|exact HB.out|apply Zn|apply Zm|apply Zo|refine Zq ?_ GE169001.out)|exact HB.out))):w.heap.size≤gb169002));have GE169002:=Za ((by rw[hg];exact(Zx (by repeat(first|(with_reducible first|exact HB.out|apply Zn|apply Zm|apply Zo|refine Zq ?_ GE169001.out)|exact HB.out))):w.heap.size≤gb169002));have NB169001_169002:=Za ((by rw[hg];exact Nat.ne_of_lt (ZK (g:=gb169001) (o:=.cells #[.int .i64 a0_0,.slice A0_1 l0_1.length c0_1] 54 (0,0)) (by(with_reducible repeat(first|refine Zs ?_ _|refine Zu ?_|refine Zr ?_ _));exact BK169001.out)):gb169001≠gb169002));have NB169002_169001:=Za ((by rw[hg];exact Nat.ne_of_gt (ZK (g:=gb169001) (o:=.cells #[.int .i64 a0_0,.slice A0_1 l0_1.length c0_1] 54 (0,0)) (by(with_reducible repeat(first|refine Zs ?_ _|refine Zu ?_|refine Zr ?_ _));exact BK169001.out)):gb169002≠gb169001));replace BK169001:=Za (ZA (g:=gb169001) (o:=.cells #[.int .i64 a0_0,.slice A0_1 l0_1.length c0_1] 54 (0,0)) (by(with_reducible repeat(first|refine Zs ?_ _|refine Zu ?_|refine Zr ?_ _));exact BK169001.out) hb);replace HB:=Za (Zw (by repeat(first|(with_reducible first|exact HB.out|apply Zn|apply Zm|apply Zo|refine Zq ?_ GE169001.out)|exact HB.out)) hb);clear hb hbox hg;have hcz18_0:w16.cell? ⟨gb169001,0,none⟩=some (.int .i64 a0_0):=(Zp BK169001.out 0).trans rfl;have hcz18_1:w16.cell? ⟨gb169001,1,none⟩=some (.slice A0_1 l0_1.length c0_1):=(Zp BK169001.out 1).trans rfl;have hfz18_0:=Zv BK169001.out 0;have hfz18_1:=Zv BK169001.out 1)|((with_reducible refine ZI (f:=99) rfl ?_);refine Z5 (some 6) rfl rfl Tryz.func99 (by kernel_rfl) rfl #[.agg #[.int .i64 a0_0,.slice A0_1 l0_1.length c0_1]] rfl (by(try simp only[List.map_toArray,List.map_cons,List.map_nil]);first|done|rfl|(simp only[Zk,Zj];rfl)) ?_;(with_reducible refine(ZaS.calls k a0_0 _ _ l0_1 false _ ?side1 ?side2 A2.out).mono ?_);(case side1=>repeat(first|exact(Zb HR0_1.out HB.out)|(with_reducible refine Kd.C_alloc ?_ _)|(with_reducible refine Kd.C_drewN ?_ _)|(with_reducible refine Kd.C_drew ?_)));(case side2=>exact HC0_1.out);rintro e w19 ⟨rfl,hb⟩;refine⟨_,rfl,?_⟩;replace BK169001:=Za (ZA (g:=gb169001) (o:=.cells #[.int .i64 a0_0,.slice A0_1 l0_1.length c0_1] 54 (0,0)) (by(with_reducible repeat(first|refine Zs ?_ _|refine Zu ?_|refine Zr ?_ _));exact BK169001.out) hb);replace BK169002:=Za (ZA (g:=gb169002) (o:=.cells #[.int .i64 0,.slice none 0 0] 156 (0,0)) (by(with_reducible repeat(first|refine Zs ?_ _|refine Zu ?_|refine Zr ?_ _));exact BK169002.out) hb);replace HB:=Za (Zw (by repeat(first|(with_reducible first|exact HB.out|apply Zn|apply Zm|apply Zo|refine Zq ?_ GE169001.out|refine Zq ?_ GE169002.out)|exact HB.out)) hb);have hcz20_0:w19.cell? ⟨gb169002,0,none⟩=some (.int .i64 0):=(Zp BK169002.out 0).trans rfl;have hcz20_1:w19.cell? ⟨gb169002,1,none⟩=some (.slice none 0 0):=(Zp BK169002.out 1).trans rfl;have hfz20_0:=Zv BK169002.out 0;have hfz20_1:=Zv BK169002.out 1))
  refine bodyPost_ret (results_cell_row rfl _ _ gb169002 156 #[.int .i64 0,.slice none 0 0] (0,0) _ rfl (by(with_reducible repeat(first|refine Zs ?_ _|refine Zu ?_|refine Zr ?_ _));refine Z1 (cs:=#[.int .i64 0,.slice none 0 0]) ?_ 1 _ rfl;(with_reducible repeat(first|refine Zs ?_ _|refine Zu ?_|refine Zr ?_ _));refine Z1 (cs:=#[.int .i64 0,.slice none 0 0]) ?_ 0 _ rfl;(with_reducible repeat(first|refine Zs ?_ _|refine Zu ?_|refine Zr ?_ _));exact BK169002.out) Tryz.underlying156 rfl (by kernel_rfl)) rfl ?_
  exact⟨_,by first|rfl|(simp[ZC,ZB] <;> rfl)|(simp[*,ZC,ZB] <;> rfl),by first|exact Kd.R_nil _ _ _ _ _|exact Kd.N_nil _ _ _ _ _|exact Kd.V_nil _ _ _ _ _|exact Kd.Q_nil _ _ _ _ _|exact Kd.S_nil _ _ _ _ _,by repeat(first|(with_reducible first|exact HB.out|apply Zn|apply Zm|apply Zo|refine Zq ?_ GE169001.out|refine Zq ?_ GE169002.out)|exact HB.out)⟩
def Zbu.f (k:Nat) (a0_0:Int) (l0_1:List (S112)):Option (Bool):=(ZaS.f k a0_0 l0_1).bind fun t111002=>(if t111002=true then((Zbo.f k a0_0 l0_1).bind fun bt111003=>((ZaT.f k bt111003.1 bt111003.2).bind fun t111007=>(some ((t111007.length:Int) == 0)))) else(some false))
set_option maxHeartbeats 8000000 in
set_option maxRecDepth 100000 in
theorem Zbu.calls (k:Nat) (a0_0:Int) (A0_1:Option Addr) (c0_1:Nat) (l0_1:List (S112)) (r:Bool) (w:World) (hr0_1:Kd.C k112 w A0_1 l0_1.length l0_1) (hc0_1:l0_1.length≤c0_1) (h:Zbu.f k a0_0 l0_1=some r) :
  Calls Tryz.prog 111 #[.agg #[.int .i64 a0_0,.slice A0_1 l0_1.length c0_1]] w fun e w'=>e=.returned (.bool r)∧Below w.heap.size w w':=by
 have hu54:=Tryz.underlying54
 have HR0_1:=Za hr0_1;have HC0_1:=Za hc0_1;clear hr0_1 hc0_1
 have HB:=Za (Below.refl w.heap.size w)
 have H:((ZaS.f k a0_0 l0_1).bind fun t111002=>(if t111002=true then((Zbo.f k a0_0 l0_1).bind fun bt111003=>((ZaT.f k bt111003.1 bt111003.2).bind fun t111007=>(some ((t111007.length:Int) == 0)))) else(some false)))=some r:=h
 clear h
 replace H:=Zh H
 obtain⟨t111002,A20,H⟩:=H
 replace H:(if t111002=true then((Zbo.f k a0_0 l0_1).bind fun bt111003=>((ZaT.f k bt111003.1 bt111003.2).bind fun t111007=>(some ((t111007.length:Int) == 0)))) else(some false))=some r:=H
 have A2:=Za A20;clear A20
 by_cases c3:t111002=true
 ·subst c3
  have H1:((Zbo.f k a0_0 l0_1).bind fun bt111003=>((ZaT.f k bt111003.1 bt111003.2).bind fun t111007=>(some ((t111007.length:Int) == 0))))=some r:=by rw[if_pos rfl] at H;exact H
  clear H
  have H:=H1
  clear H1
  replace H:=Zh H
  obtain⟨⟨t111003,t111004⟩,A40,H⟩:=H
  replace H:((ZaT.f k t111003 t111004).bind fun t111007=>(some ((t111007.length:Int) == 0)))=some r:=H
  have A4:=Za A40;clear A40
  replace H:=Zh H
  obtain⟨t111007,A50,H⟩:=H
  replace H:(some ((t111007.length:Int) == 0))=some r:=H
  have A5:=Za A50;clear A50
  obtain rfl:=Zg H
  go_enter Tryz.func111,Tryz.ntmps111
  go_wp2_with (first|((with_reducible refine ZF (N:=1) rfl ?_);(try(refine Zfc (by rfl) ?_;dsimp only));refine ZG ?hg (N:=1) ?hd (cs:=#[.int .i64 a0_0,.slice A0_1 l0_1.length c0_1]) (t:=54) ?hr ?_;(case hd=>rfl);(case hg=>rfl);(case hr=>first|(go_simp;done)|(go_simp;rfl));intro gb111001 hg w6 hbox hb;have BK111001:=Za (hbox);have GW111001:=Za ((by rw[hg];exact(Zx (by repeat(first|(with_reducible first|exact HB.out|apply Zn|apply Zm|apply Zo)|exact HB.out))):w.heap.size≤gb111001));have GE111001:=Za ((by rw[hg];exact(Zx (by repeat(first|(with_reducible first|exact HB.out|apply Zn|apply Zm|apply Zo)|exact HB.out))):w.heap.size≤gb111001));replace HB:=Za (Zw (by repeat(first|(with_reducible first|exact HB.out|apply Zn|apply Zm|apply Zo)|exact HB.out)) hb);clear hb hbox hg;have hcz7_0:w6.cell? ⟨gb111001,0,none⟩=some (.int .i64 a0_0):=(Zp BK111001.out 0).trans rfl;have hcz7_1:w6.cell? ⟨gb111001,1,none⟩=some (.slice A0_1 l0_1.length c0_1):=(Zp BK111001.out 1).trans rfl;have hfz7_0:=Zv BK111001.out 0;have hfz7_1:=Zv BK111001.out 1)|((with_reducible refine ZI (f:=99) rfl ?_);refine Z5 (some 4) rfl rfl Tryz.func99 (by kernel_rfl) rfl #[.agg #[.int .i64 a0_0,.slice A0_1 l0_1.length c0_1]] rfl (by(try simp only[List.map_toArray,List.map_cons,List.map_nil]);first|done|rfl|(simp only[Zk,Zj];rfl)) ?_;(with_reducible refine(ZaS.calls k a0_0 _ _ l0_1 true _ ?side1 ?side2 A2.out).mono ?_);(case side1=>repeat(first|exact(Zb HR0_1.out HB.out)|(with_reducible refine Kd.C_alloc ?_ _)|(with_reducible refine Kd.C_drewN ?_ _)|(with_reducible refine Kd.C_drew ?_)));(case side2=>exact HC0_1.out);rintro e w8 ⟨rfl,hb⟩;refine⟨_,rfl,?_⟩;replace BK111001:=Za (ZA (g:=gb111001) (o:=.cells #[.int .i64 a0_0,.slice A0_1 l0_1.length c0_1] 54 (0,0)) (by(with_reducible repeat(first|refine Zs ?_ _|refine Zu ?_|refine Zr ?_ _));exact BK111001.out) hb);replace HB:=Za (Zw (by repeat(first|(with_reducible first|exact HB.out|apply Zn|apply Zm|apply Zo|refine Zq ?_ GE111001.out)|exact HB.out)) hb);(try clear hb);(try clear hb2);(try clear hk);(try clear hi);have hcz9_0:w8.cell? ⟨gb111001,0,none⟩=some (.int .i64 a0_0):=(Zp BK111001.out 0).trans rfl;have hcz9_1:w8.cell? ⟨gb111001,1,none⟩=some (.slice A0_1 l0_1.length c0_1):=(Zp BK111001.out 1).trans rfl;have hfz9_0:=Zv BK111001.out 0;have hfz9_1:=Zv BK111001.out 1)|(go_at_call 169;(with_reducible refine(Zbo.calls k a0_0 _ _ l0_1 t111003 t111004 _ ?side1 ?side2 A4.out).mono ?_);(case side1=>repeat(first|exact(Zb HR0_1.out HB.out)|(with_reducible refine Kd.C_alloc ?_ _)|(with_reducible refine Kd.C_drewN ?_ _)|(with_reducible refine Kd.C_drew ?_)));(case side2=>exact HC0_1.out);rintro e w10 ⟨v111005,rfl,ho0,hb⟩;have HO111006:=Za (Kd.R_lower ho0 (Zx (by repeat(first|(with_reducible first|exact HB.out|apply Zn|apply Zm|apply Zo|refine Zq ?_ GE111001.out)|exact HB.out))));replace BK111001:=Za (ZA (g:=gb111001) (o:=.cells #[.int .i64 a0_0,.slice A0_1 l0_1.length c0_1] 54 (0,0)) (by(with_reducible repeat(first|refine Zs ?_ _|refine Zu ?_|refine Zr ?_ _));exact BK111001.out) hb);replace HB:=Za (Zw (by repeat(first|(with_reducible first|exact HB.out|apply Zn|apply Zm|apply Zo|refine Zq ?_ GE111001.out)|exact HB.out)) hb);(try clear hb);(try clear hb2);(try clear hk);(try clear hi);(try clear ho0);obtain⟨Ao11,co11,eo11⟩:=Kd.R_slice HO111006.out;subst eo11)|(go_at_call 168;(with_reducible refine(ZaT.calls k t111003 _ _ t111004 t111007 _ ?side1 ?side2 A5.out).mono ?_);(case side1=>repeat(first|exact(Kd.R_reads' HO111006.out).2.2|(with_reducible refine Kd.C_alloc ?_ _)|(with_reducible refine Kd.C_drewN ?_ _)|(with_reducible refine Kd.C_drew ?_)));(case side2=>exact(Kd.R_reads' HO111006.out).2.1);rintro e w12 ⟨v111008,rfl,ho0,hb⟩;have HO111009:=Za (Kd.R_lower ho0 (Zx (by repeat(first|(with_reducible first|exact HB.out|apply Zn|apply Zm|apply Zo|refine Zq ?_ GE111001.out)|exact HB.out))));replace HO111006:=Za (Kd.R_below (by(with_reducible repeat(first|apply Kd.R_alloc|apply Kd.R_drewN|apply Kd.R_drew));exact HO111006.out) hb);replace BK111001:=Za (ZA (g:=gb111001) (o:=.cells #[.int .i64 a0_0,.slice A0_1 l0_1.length c0_1] 54 (0,0)) (by(with_reducible repeat(first|refine Zs ?_ _|refine Zu ?_|refine Zr ?_ _));exact BK111001.out) hb);replace HB:=Za (Zw (by repeat(first|(with_reducible first|exact HB.out|apply Zn|apply Zm|apply Zo|refine Zq ?_ GE111001.out)|exact HB.out)) hb);(try clear hb);(try clear hb2);(try clear hk);(try clear hi);(try clear ho0);obtain⟨Ao13,co13,eo13⟩:=Kd.R_slice HO111009.out;subst eo13))
  go_ret
  exact⟨by first|rfl|(simp[ZC,ZB] <;> rfl)|(simp[*,ZC,ZB] <;> rfl),by repeat(first|(with_reducible first|exact HB.out|apply Zn|apply Zm|apply Zo|refine Zq ?_ GE111001.out)|exact HB.out)⟩
 ·replace c3:=Bool.eq_false_iff.mpr c3
  subst c3
  have H1:(some false)=some r:=by rw[if_neg (show ¬(false=true) by decide)] at H;exact H
  clear H
  have H:=H1
  clear H1
  obtain rfl:=Zg H
  go_enter Tryz.func111,Tryz.ntmps111
  go_wp2_with (first|((with_reducible refine ZF (N:=1) rfl ?_);(try(refine Zfc (by rfl) ?_;dsimp only));refine ZG ?hg (N:=1) ?hd (cs:=#[.int .i64 a0_0,.slice A0_1 l0_1.length c0_1]) (t:=54) ?hr ?_;(case hd=>rfl);(case hg=>rfl);(case hr=>first|(go_simp;done)|(go_simp;rfl));intro gb111001 hg w14 hbox hb;have BK111001:=Za (hbox);have GW111001:=Za ((by rw[hg];exact(Zx (by repeat(first|(with_reducible first|exact HB.out|apply Zn|apply Zm|apply Zo)|exact HB.out))):w.heap.size≤gb111001));have GE111001:=Za ((by rw[hg];exact(Zx (by repeat(first|(with_reducible first|exact HB.out|apply Zn|apply Zm|apply Zo)|exact HB.out))):w.heap.size≤gb111001));replace HB:=Za (Zw (by repeat(first|(with_reducible first|exact HB.out|apply Zn|apply Zm|apply Zo)|exact HB.out)) hb);clear hb hbox hg;have hcz15_0:w14.cell? ⟨gb111001,0,none⟩=some (.int .i64 a0_0):=(Zp BK111001.out 0).trans rfl;have hcz15_1:w14.cell? ⟨gb111001,1,none⟩=some (.slice A0_1 l0_1.length c0_1):=(Zp BK111001.out 1).trans rfl;have hfz15_0:=Zv BK111001.out 0;have hfz15_1:=Zv BK111001.out 1)|((with_reducible refine ZI (f:=99) rfl ?_);refine Z5 (some 4) rfl rfl Tryz.func99 (by kernel_rfl) rfl #[.agg #[.int .i64 a0_0,.slice A0_1 l0_1.length c0_1]] rfl (by(try simp only[List.map_toArray,List.map_cons,List.map_nil]);first|done|rfl|(simp only[Zk,Zj];rfl)) ?_;(with_reducible refine(ZaS.calls k a0_0 _ _ l0_1 false _ ?side1 ?side2 A2.out).mono ?_);(case side1=>repeat(first|exact(Zb HR0_1.out HB.out)|(with_reducible refine Kd.C_alloc ?_ _)|(with_reducible refine Kd.C_drewN ?_ _)|(with_reducible refine Kd.C_drew ?_)));(case side2=>exact HC0_1.out);rintro e w16 ⟨rfl,hb⟩;refine⟨_,rfl,?_⟩;replace BK111001:=Za (ZA (g:=gb111001) (o:=.cells #[.int .i64 a0_0,.slice A0_1 l0_1.length c0_1] 54 (0,0)) (by(with_reducible repeat(first|refine Zs ?_ _|refine Zu ?_|refine Zr ?_ _));exact BK111001.out) hb);replace HB:=Za (Zw (by repeat(first|(with_reducible first|exact HB.out|apply Zn|apply Zm|apply Zo|refine Zq ?_ GE111001.out)|exact HB.out)) hb);(try clear hb);(try clear hb2);(try clear hk);(try clear hi)))
  go_ret
  exact⟨by first|rfl|(simp[ZC,ZB] <;> rfl)|(simp[*,ZC,ZB] <;> rfl),by repeat(first|(with_reducible first|exact HB.out|apply Zn|apply Zm|apply Zo|refine Zq ?_ GE111001.out)|exact HB.out)⟩
end Go.Proofs.YtoeimopgoaffcaaGreatDoor.Pr
namespace Go.Proofs.YtoeimopgoaffcaaGreatDoor.Pr
def run {α:Type} (step:Nat→α→Option α):Nat→Nat→α→Option α
 | 0,_,a=>some a
 | d+1,i,a=>(step i a).bind (run step d (i+1))
theorem Zcd {α β:Type} {step:Nat→α→Option α} {n i:Nat} {a:α} {F:α→Option β} {r:β} (hi:i<n) (h:(run step (n - i) i a).bind F=some r):∃a',step i a=some a'∧(run step (n - (i+1)) (i+1) a').bind F=some r:=by
 rw[show n - i=(n - (i+1))+1 by omega,run,Option.bind_assoc] at h
 exact Option.bind_eq_some_iff.1 h
theorem Zcq {α β:Type} {step:Nat→α→Option α} {n:Nat} {a:α} {F:α→Option β} {r:β} (h:(run step (n - n) n a).bind F=some r):F a=some r:=by
 rw[Nat.sub_self] at h
 exact h
end Go.Proofs.YtoeimopgoaffcaaGreatDoor.Pr
namespace Go.Proofs.YtoeimopgoaffcaaGreatDoor.Pr
open Go.RowKit Go.Proofs.YtoeimopgoaffcaaGreatDoorW.PrintWords Go.Proofs.YtoeimopgoaffcaaGreatDoor.Ni
abbrev LNode:=S143
abbrev ZN:=S39
abbrev LTie:=S147
abbrev PTie:=S82
def cvN (x:LNode):ZN:=⟨x.f0,x.f1,x.f2⟩
def cvT (x:LTie):PTie:=⟨x.f0,x.f1,x.f2,x.f3,x.f4⟩
theorem Zcj (l:List ZN) (i:Nat):ZH l (i:Int)=l.getD i z39:=by unfold ZH;rw[Int.toNat_natCast]
theorem ZdT (l:List PTie) (i:Nat):ZD l (i:Int)=l.getD i z82:=by unfold ZD;rw[Int.toNat_natCast]
theorem rdLN_nat (l:List LNode) (i:Nat):ZaB l (i:Int)=l.getD i z143:=by unfold ZaB;rw[Int.toNat_natCast]
theorem rdLT_nat (l:List LTie) (i:Nat):ZaY l (i:Int)=l.getD i z147:=by unfold ZaY;rw[Int.toNat_natCast]
theorem zN:cvN z143=z39:=rfl
theorem zT:cvT z147=z82:=rfl
theorem getD_map {α β:Type} (f:α→β) (l:List α) (i:Nat) (a:α) (b:β) (h:f a=b):(l.map f).getD i b=f (l.getD i a):=by
 subst h
 rw[List.getD_eq_getElem?_getD,List.getD_eq_getElem?_getD,List.getElem?_map]
 cases l[i]? <;> rfl
def ZdK (ns:List LNode) (ts:List LTie):Prop:=ns.length≤1048576∧ts.length≤1048576∧∀n∈ns,n.f0.size≤1048576∧n.f1.length≤1048576
def ZbA (ns:List ZN) (ts:List PTie):Prop:=ns.length≤1048576∧ts.length≤1048576∧∀n∈ns,n.f0.size≤1048576∧n.f1.length≤1048576
theorem ZdK.cv {ns:List LNode} {ts:List LTie} (h:ZdK ns ts):ZbA (ns.map cvN) (ts.map cvT):=by
 refine⟨by simpa using h.1,by simpa using h.2.1,fun n hn=>?_⟩
 obtain⟨m,hm,rfl⟩:=List.mem_map.1 hn
 exact h.2.2 m hm
end Go.Proofs.YtoeimopgoaffcaaGreatDoor.Pr
namespace Go.Proofs.YtoeimopgoaffcaaGreatDoor.Pr
open Go.RowKit Go.Proofs.YtoeimopgoaffcaaGreatDoorW.PrintWords Go.Proofs.YtoeimopgoaffcaaGreatDoorW.PrintLast Go.Proofs.YtoeimopgoaffcaaGreatDoorW.PrintMore
attribute [local go_sem] ZW ZU ZZ ZY ZP ZO ZV ZT
set_option linter.unusedVariables false
set_option linter.unusedSimpArgs false
def Zar.l0:Nat→Int→List (S82)→Int→Int→Option (Int)
 | 0,_,_,_,_=>none
 | k+1,x1,x8,x9,x10=>if x10<x9 then(if 0≤x10 then(if x10<(x8.length:Int) then(if (ZD x8 x10).f4=true then(if ((ZD x8 x10).f1)=x1 then(some x10) else(Zar.l0 k x1 x8 x9 (wrap64 (x10+1)))) else(Zar.l0 k x1 x8 x9 (wrap64 (x10+1)))) else(none)) else(none)) else(some (-1))
def Zar.f (k:Nat) (l0_0:List (S39)) (l0_1:List (S82)) (a0_2:Int) (a1:Int):Option (Int):=Zar.l0 k a1 l0_1 (l0_1.length:Int) 0
set_option maxHeartbeats 8000000 in
set_option maxRecDepth 100000 in
theorem Zar.calls (k:Nat) (A0_0:Option Addr) (c0_0:Nat) (l0_0:List (S39)) (A0_1:Option Addr) (c0_1:Nat) (l0_1:List (S82)) (a0_2:Int) (a1:Int) (r:Int) (w:World) (hr0_0:Kd.C k39 w A0_0 l0_0.length l0_0) (hc0_0:l0_0.length≤c0_0) (hr0_1:Kd.C k82 w A0_1 l0_1.length l0_1) (hc0_1:l0_1.length≤c0_1) (h:Zar.f k l0_0 l0_1 a0_2 a1=some r) :
  Calls Tryz.prog 180 #[.agg #[.slice A0_0 l0_0.length c0_0,.slice A0_1 l0_1.length c0_1,.int .i64 a0_2],.int .i64 a1] w fun e w'=>e=.returned (.int .i64 r)∧Below w.heap.size w w':=by
 have hu25:=Tryz.underlying25
 have hu82:=Tryz.underlying82
 have HR0_0:=Za hr0_0;have HC0_0:=Za hc0_0;clear hr0_0 hc0_0;have HR0_1:=Za hr0_1;have HC0_1:=Za hc0_1;clear hr0_1 hc0_1
 have HB:=Za (Below.refl w.heap.size w)
 have H:(Zar.l0 k a1 l0_1 (l0_1.length:Int) 0)=some r:=h
 clear h
 have H':=Za H
 clear H
 go_enter Tryz.func180,Tryz.ntmps180
 go_wp2_with (first|((with_reducible refine ZF (N:=2) rfl ?_);refine ZG ?hg (N:=2) ?hd (cs:=#[.slice A0_0 l0_0.length c0_0,.slice A0_1 l0_1.length c0_1,.int .i64 a0_2]) (t:=25) ?hr ?_;(case hd=>rfl);(case hg=>rfl);(case hr=>first|(go_simp;done)|(go_simp;rfl));intro gb180001 hg w3 hbox hb;have BK180001:=Za (hbox);have GW180001:=Za ((by rw[hg];exact(Zx (by repeat(first|(with_reducible first|exact HB.out|apply Zn|apply Zm|apply Zo)|exact HB.out))):w.heap.size≤gb180001));have GE180001:=Za ((by rw[hg];exact(Zx (by repeat(first|(with_reducible first|exact HB.out|apply Zn|apply Zm|apply Zo)|exact HB.out))):w.heap.size≤gb180001));replace HB:=Za (Zw (by repeat(first|(with_reducible first|exact HB.out|apply Zn|apply Zm|apply Zo)|exact HB.out)) hb);clear hb hbox hg;have hcz4_0:w3.cell? ⟨gb180001,0,none⟩=some (.slice A0_0 l0_0.length c0_0):=(Zp BK180001.out 0).trans rfl;have hcz4_1:w3.cell? ⟨gb180001,1,none⟩=some (.slice A0_1 l0_1.length c0_1):=(Zp BK180001.out 1).trans rfl;have hcz4_2:w3.cell? ⟨gb180001,2,none⟩=some (.int .i64 a0_2):=(Zp BK180001.out 2).trans rfl;have hfz4_0:=Zv BK180001.out 0;have hfz4_1:=Zv BK180001.out 1;have hfz4_2:=Zv BK180001.out 2))
 go_loopg [10] k (fun kq v10 w'=>∃(x10_1:Int),v10=.int .i64 x10_1∧Aside0 (Zar.l0 kq a1 l0_1 (l0_1.length:Int) x10_1=some r)∧Aside0 (kq≤k)∧Aside0 (w'.heap[gb180001]? = some (.cells #[(.slice A0_0 l0_0.length c0_0),(.slice A0_1 l0_1.length c0_1),.int .i64 a0_2] 25 (0,0)))∧Aside0 (Below w.heap.size w w'))
 case atStart=>exact⟨(0),(by first|rfl|(simp;done)|(simp[*];done)),H',⟨Nat.le_refl _⟩,⟨by(with_reducible repeat(first|refine Zs ?_ _|refine Zu ?_|refine Zr ?_ _));exact BK180001.out⟩,⟨by repeat(first|(with_reducible first|exact HB.out|apply Zn|apply Zm|apply Zo|refine Zq ?_ GE180001.out)|exact HB.out)⟩⟩
 case round=>
  clear H'
  try clear c1
  try clear p2
  try clear hcz4_0
  try clear hcz4_1
  try clear hcz4_2
  try clear hfz4_0
  try clear hfz4_1
  try clear hfz4_2
  obtain⟨x10_1,rfl,HA,HK1,BK180001,HB⟩:=hrel
  cases gk with
  | zero=>exact absurd HA.out (by simp[Zar.l0])
  | succ k1=>
   have H:=HA.out
   clear HA
   simp only[Zar.l0] at H
   by_cases c5:x10_1<(l0_1.length:Int)
   ·rw[if_pos c5] at H
    have c5b0:decide (x10_1<(l0_1.length:Int))=true:=Ze c5
    clear c5
    by_cases c6:0≤x10_1
    ·rw[if_pos c6] at H
     have c6b0:decide (0≤x10_1)=true:=Ze c6
     clear c6
     by_cases c7:x10_1<(l0_1.length:Int)
     ·rw[if_pos c7] at H
      have c7b0:decide (x10_1<(l0_1.length:Int))=true:=Ze c7
      clear c7
      obtain⟨bq8,hbq8⟩:∃b_:Bool,b_=((ZD l0_1 x10_1).f4):=⟨_,rfl⟩
      replace H:(if bq8=true then(if ((ZD l0_1 x10_1).f1)=a1 then(some x10_1) else(Zar.l0 k1 a1 l0_1 (l0_1.length:Int) (wrap64 (x10_1+1)))) else(Zar.l0 k1 a1 l0_1 (l0_1.length:Int) (wrap64 (x10_1+1))))=some r:=by rw[← hbq8] at H;exact H
      have Nbq8:=Za hbq8;clear hbq8
      by_cases c9:bq8=true
      ·subst c9
       rw[if_pos rfl] at H
       by_cases c10:((ZD l0_1 x10_1).f1)=a1
       ·rw[if_pos c10] at H
        have c10b0:(((ZD l0_1 x10_1).f1) == a1)=true:=beq_iff_eq.mpr c10
        clear c10
        obtain rfl:=Zg H
        have p180002:0≤(x10_1:Int):=Zd (by first|(with_reducible assumption)|assumption)
        have q180002:x10_1<(l0_1.length:Int):=Zd (by first|(with_reducible assumption)|assumption)
        obtain⟨ad180002,e180002,hx180002_0,hx180002_1,hx180002_2,hx180002_3,hx180002_4⟩:=ZbN HR0_1.out x10_1 p180002 q180002
        (try rw[← Nbq8.out] at hx180002_4)
        cases e180002
        replace hx180002_0:=(HB.out.cell (Zc w _ hx180002_0)).trans hx180002_0
        replace hx180002_1:=(HB.out.cell (Zc w _ hx180002_1)).trans hx180002_1
        replace hx180002_2:=(HB.out.cell (Zc w _ hx180002_2)).trans hx180002_2
        replace hx180002_3:=(HB.out.cell (Zc w _ hx180002_3)).trans hx180002_3
        replace hx180002_4:=(HB.out.cell (Zc w _ hx180002_4)).trans hx180002_4
        replace p180002:=eq_true p180002
        replace q180002:=eq_true q180002
        go_wp2_with (first|((with_reducible refine ZF (N:=6) rfl ?_);refine ZG ?hg (N:=6) ?hd (cs:=#[.int .i64 0,.int .i64 0,.int .i64 0,.int .i64 0,.bool false]) (t:=82) ?hr ?_;(case hd=>rfl);(case hg=>rfl);(case hr=>first|(go_simp;done)|(go_simp;rfl));intro gb180003 hg w11 hbox hb;have BK180003:=Za (hbox);have GW180003:=Za ((by rw[hg];exact(Zx (by repeat(first|(with_reducible first|exact HB.out|apply Zn|apply Zm|apply Zo|refine Zq ?_ GE180001.out)|exact HB.out))):w.heap.size≤gb180003));have GE180003:=Za ((by rw[hg];exact(Zx (by repeat(first|(with_reducible first|exact HB.out|apply Zn|apply Zm|apply Zo|refine Zq ?_ GE180001.out)|exact HB.out))):w.heap.size≤gb180003));have NB180001_180003:=Za ((by rw[hg];exact Nat.ne_of_lt (ZK (g:=gb180001) (o:=.cells #[.slice A0_0 l0_0.length c0_0,.slice (some ad180002) l0_1.length c0_1,.int .i64 a0_2] 25 (0,0)) (by(with_reducible repeat(first|refine Zs ?_ _|refine Zu ?_|refine Zr ?_ _));exact BK180001.out)):gb180001≠gb180003));have NB180003_180001:=Za ((by rw[hg];exact Nat.ne_of_gt (ZK (g:=gb180001) (o:=.cells #[.slice A0_0 l0_0.length c0_0,.slice (some ad180002) l0_1.length c0_1,.int .i64 a0_2] 25 (0,0)) (by(with_reducible repeat(first|refine Zs ?_ _|refine Zu ?_|refine Zr ?_ _));exact BK180001.out)):gb180003≠gb180001));replace BK180001:=Za (ZA (g:=gb180001) (o:=.cells #[.slice A0_0 l0_0.length c0_0,.slice (some ad180002) l0_1.length c0_1,.int .i64 a0_2] 25 (0,0)) (by(with_reducible repeat(first|refine Zs ?_ _|refine Zu ?_|refine Zr ?_ _));exact BK180001.out) hb);replace HB:=Za (Zw (by repeat(first|(with_reducible first|exact HB.out|apply Zn|apply Zm|apply Zo|refine Zq ?_ GE180001.out)|exact HB.out)) hb);clear hb hbox hg;have hcz13_0:w11.cell? ⟨gb180003,0,none⟩=some (.int .i64 0):=(Zp BK180003.out 0).trans rfl;have hcz13_1:w11.cell? ⟨gb180003,1,none⟩=some (.int .i64 0):=(Zp BK180003.out 1).trans rfl;have hcz13_2:w11.cell? ⟨gb180003,2,none⟩=some (.int .i64 0):=(Zp BK180003.out 2).trans rfl;have hcz13_3:w11.cell? ⟨gb180003,3,none⟩=some (.int .i64 0):=(Zp BK180003.out 3).trans rfl;have hcz13_4:w11.cell? ⟨gb180003,4,none⟩=some (.bool false):=(Zp BK180003.out 4).trans rfl;have hfz13_0:=Zv BK180003.out 0;have hfz13_1:=Zv BK180003.out 1;have hfz13_2:=Zv BK180003.out 2;have hfz13_3:=Zv BK180003.out 3;have hfz13_4:=Zv BK180003.out 4))
        go_ret
        exact⟨by first|rfl|(simp[ZC,ZB] <;> rfl)|(simp[*,ZC,ZB] <;> rfl),by repeat(first|(with_reducible first|exact HB.out|apply Zn|apply Zm|apply Zo|refine Zq ?_ GE180001.out|refine Zq ?_ GE180003.out)|exact HB.out)⟩
       ·rw[if_neg c10] at H
        have c10b0:(((ZD l0_1 x10_1).f1) == a1)=false:=beq_eq_false_iff_ne.mpr c10
        have H':=Za H
        clear H
        have p180002:0≤(x10_1:Int):=Zd (by first|(with_reducible assumption)|assumption)
        have q180002:x10_1<(l0_1.length:Int):=Zd (by first|(with_reducible assumption)|assumption)
        obtain⟨ad180002,e180002,hx180002_0,hx180002_1,hx180002_2,hx180002_3,hx180002_4⟩:=ZbN HR0_1.out x10_1 p180002 q180002
        (try rw[← Nbq8.out] at hx180002_4)
        cases e180002
        replace hx180002_0:=(HB.out.cell (Zc w _ hx180002_0)).trans hx180002_0
        replace hx180002_1:=(HB.out.cell (Zc w _ hx180002_1)).trans hx180002_1
        replace hx180002_2:=(HB.out.cell (Zc w _ hx180002_2)).trans hx180002_2
        replace hx180002_3:=(HB.out.cell (Zc w _ hx180002_3)).trans hx180002_3
        replace hx180002_4:=(HB.out.cell (Zc w _ hx180002_4)).trans hx180002_4
        replace p180002:=eq_true p180002
        replace q180002:=eq_true q180002
        go_wp2_with (first|((with_reducible refine ZF (N:=6) rfl ?_);refine ZG ?hg (N:=6) ?hd (cs:=#[.int .i64 0,.int .i64 0,.int .i64 0,.int .i64 0,.bool false]) (t:=82) ?hr ?_;(case hd=>rfl);(case hg=>rfl);(case hr=>first|(go_simp;done)|(go_simp;rfl));intro gb180003 hg w14 hbox hb;have BK180003:=Za (hbox);have GW180003:=Za ((by rw[hg];exact(Zx (by repeat(first|(with_reducible first|exact HB.out|apply Zn|apply Zm|apply Zo|refine Zq ?_ GE180001.out)|exact HB.out))):w.heap.size≤gb180003));have GE180003:=Za ((by rw[hg];exact(Zx (by repeat(first|(with_reducible first|exact HB.out|apply Zn|apply Zm|apply Zo|refine Zq ?_ GE180001.out)|exact HB.out))):w.heap.size≤gb180003));have NB180001_180003:=Za ((by rw[hg];exact Nat.ne_of_lt (ZK (g:=gb180001) (o:=.cells #[.slice A0_0 l0_0.length c0_0,.slice (some ad180002) l0_1.length c0_1,.int .i64 a0_2] 25 (0,0)) (by(with_reducible repeat(first|refine Zs ?_ _|refine Zu ?_|refine Zr ?_ _));exact BK180001.out)):gb180001≠gb180003));have NB180003_180001:=Za ((by rw[hg];exact Nat.ne_of_gt (ZK (g:=gb180001) (o:=.cells #[.slice A0_0 l0_0.length c0_0,.slice (some ad180002) l0_1.length c0_1,.int .i64 a0_2] 25 (0,0)) (by(with_reducible repeat(first|refine Zs ?_ _|refine Zu ?_|refine Zr ?_ _));exact BK180001.out)):gb180003≠gb180001));replace BK180001:=Za (ZA (g:=gb180001) (o:=.cells #[.slice A0_0 l0_0.length c0_0,.slice (some ad180002) l0_1.length c0_1,.int .i64 a0_2] 25 (0,0)) (by(with_reducible repeat(first|refine Zs ?_ _|refine Zu ?_|refine Zr ?_ _));exact BK180001.out) hb);replace HB:=Za (Zw (by repeat(first|(with_reducible first|exact HB.out|apply Zn|apply Zm|apply Zo|refine Zq ?_ GE180001.out)|exact HB.out)) hb);clear hb hbox hg;have hcz16_0:w14.cell? ⟨gb180003,0,none⟩=some (.int .i64 0):=(Zp BK180003.out 0).trans rfl;have hcz16_1:w14.cell? ⟨gb180003,1,none⟩=some (.int .i64 0):=(Zp BK180003.out 1).trans rfl;have hcz16_2:w14.cell? ⟨gb180003,2,none⟩=some (.int .i64 0):=(Zp BK180003.out 2).trans rfl;have hcz16_3:w14.cell? ⟨gb180003,3,none⟩=some (.int .i64 0):=(Zp BK180003.out 3).trans rfl;have hcz16_4:w14.cell? ⟨gb180003,4,none⟩=some (.bool false):=(Zp BK180003.out 4).trans rfl;have hfz16_0:=Zv BK180003.out 0;have hfz16_1:=Zv BK180003.out 1;have hfz16_2:=Zv BK180003.out 2;have hfz16_3:=Zv BK180003.out 3;have hfz16_4:=Zv BK180003.out 4))
        go_roundg k1
        case measure=>have:=HK1.out;omega
        case rel=>exact⟨(wrap64 (x10_1+1)),(by first|rfl|(simp;done)|(simp[*];done)),H',⟨by have:=HK1.out;omega⟩,⟨by(with_reducible repeat(first|refine Zs ?_ _|refine Zu ?_|refine Zr ?_ _));refine ZS ?_ NB180001_180003.out _;(with_reducible repeat(first|refine Zs ?_ _|refine Zu ?_|refine Zr ?_ _));refine ZS ?_ NB180001_180003.out _;(with_reducible repeat(first|refine Zs ?_ _|refine Zu ?_|refine Zr ?_ _));refine ZS ?_ NB180001_180003.out _;(with_reducible repeat(first|refine Zs ?_ _|refine Zu ?_|refine Zr ?_ _));refine ZS ?_ NB180001_180003.out _;(with_reducible repeat(first|refine Zs ?_ _|refine Zu ?_|refine Zr ?_ _));refine ZS ?_ NB180001_180003.out _;(with_reducible repeat(first|refine Zs ?_ _|refine Zu ?_|refine Zr ?_ _));exact BK180001.out⟩,⟨by repeat(first|(with_reducible first|exact HB.out|apply Zn|apply Zm|apply Zo|refine Zq ?_ GE180001.out|refine Zq ?_ GE180003.out)|exact HB.out)⟩⟩
      ·replace c9:=Bool.eq_false_iff.mpr c9
       subst c9
       have H1:(Zar.l0 k1 a1 l0_1 (l0_1.length:Int) (wrap64 (x10_1+1)))=some r:=by rw[if_neg (show ¬(false=true) by decide)] at H;exact H
       clear H
       have H:=H1
       clear H1
       have H':=Za H
       clear H
       have p180002:0≤(x10_1:Int):=Zd (by first|(with_reducible assumption)|assumption)
       have q180002:x10_1<(l0_1.length:Int):=Zd (by first|(with_reducible assumption)|assumption)
       obtain⟨ad180002,e180002,hx180002_0,hx180002_1,hx180002_2,hx180002_3,hx180002_4⟩:=ZbN HR0_1.out x10_1 p180002 q180002
       (try rw[← Nbq8.out] at hx180002_4)
       cases e180002
       replace hx180002_0:=(HB.out.cell (Zc w _ hx180002_0)).trans hx180002_0
       replace hx180002_1:=(HB.out.cell (Zc w _ hx180002_1)).trans hx180002_1
       replace hx180002_2:=(HB.out.cell (Zc w _ hx180002_2)).trans hx180002_2
       replace hx180002_3:=(HB.out.cell (Zc w _ hx180002_3)).trans hx180002_3
       replace hx180002_4:=(HB.out.cell (Zc w _ hx180002_4)).trans hx180002_4
       replace p180002:=eq_true p180002
       replace q180002:=eq_true q180002
       go_wp2_with (first|((with_reducible refine ZF (N:=6) rfl ?_);refine ZG ?hg (N:=6) ?hd (cs:=#[.int .i64 0,.int .i64 0,.int .i64 0,.int .i64 0,.bool false]) (t:=82) ?hr ?_;(case hd=>rfl);(case hg=>rfl);(case hr=>first|(go_simp;done)|(go_simp;rfl));intro gb180003 hg w17 hbox hb;have BK180003:=Za (hbox);have GW180003:=Za ((by rw[hg];exact(Zx (by repeat(first|(with_reducible first|exact HB.out|apply Zn|apply Zm|apply Zo|refine Zq ?_ GE180001.out)|exact HB.out))):w.heap.size≤gb180003));have GE180003:=Za ((by rw[hg];exact(Zx (by repeat(first|(with_reducible first|exact HB.out|apply Zn|apply Zm|apply Zo|refine Zq ?_ GE180001.out)|exact HB.out))):w.heap.size≤gb180003));have NB180001_180003:=Za ((by rw[hg];exact Nat.ne_of_lt (ZK (g:=gb180001) (o:=.cells #[.slice A0_0 l0_0.length c0_0,.slice (some ad180002) l0_1.length c0_1,.int .i64 a0_2] 25 (0,0)) (by(with_reducible repeat(first|refine Zs ?_ _|refine Zu ?_|refine Zr ?_ _));exact BK180001.out)):gb180001≠gb180003));have NB180003_180001:=Za ((by rw[hg];exact Nat.ne_of_gt (ZK (g:=gb180001) (o:=.cells #[.slice A0_0 l0_0.length c0_0,.slice (some ad180002) l0_1.length c0_1,.int .i64 a0_2] 25 (0,0)) (by(with_reducible repeat(first|refine Zs ?_ _|refine Zu ?_|refine Zr ?_ _));exact BK180001.out)):gb180003≠gb180001));replace BK180001:=Za (ZA (g:=gb180001) (o:=.cells #[.slice A0_0 l0_0.length c0_0,.slice (some ad180002) l0_1.length c0_1,.int .i64 a0_2] 25 (0,0)) (by(with_reducible repeat(first|refine Zs ?_ _|refine Zu ?_|refine Zr ?_ _));exact BK180001.out) hb);replace HB:=Za (Zw (by repeat(first|(with_reducible first|exact HB.out|apply Zn|apply Zm|apply Zo|refine Zq ?_ GE180001.out)|exact HB.out)) hb);clear hb hbox hg;have hcz19_0:w17.cell? ⟨gb180003,0,none⟩=some (.int .i64 0):=(Zp BK180003.out 0).trans rfl;have hcz19_1:w17.cell? ⟨gb180003,1,none⟩=some (.int .i64 0):=(Zp BK180003.out 1).trans rfl;have hcz19_2:w17.cell? ⟨gb180003,2,none⟩=some (.int .i64 0):=(Zp BK180003.out 2).trans rfl;have hcz19_3:w17.cell? ⟨gb180003,3,none⟩=some (.int .i64 0):=(Zp BK180003.out 3).trans rfl;have hcz19_4:w17.cell? ⟨gb180003,4,none⟩=some (.bool false):=(Zp BK180003.out 4).trans rfl;have hfz19_0:=Zv BK180003.out 0;have hfz19_1:=Zv BK180003.out 1;have hfz19_2:=Zv BK180003.out 2;have hfz19_3:=Zv BK180003.out 3;have hfz19_4:=Zv BK180003.out 4))
       go_roundg k1
       case measure=>have:=HK1.out;omega
       case rel=>exact⟨(wrap64 (x10_1+1)),(by first|rfl|(simp;done)|(simp[*];done)),H',⟨by have:=HK1.out;omega⟩,⟨by(with_reducible repeat(first|refine Zs ?_ _|refine Zu ?_|refine Zr ?_ _));refine ZS ?_ NB180001_180003.out _;(with_reducible repeat(first|refine Zs ?_ _|refine Zu ?_|refine Zr ?_ _));refine ZS ?_ NB180001_180003.out _;(with_reducible repeat(first|refine Zs ?_ _|refine Zu ?_|refine Zr ?_ _));refine ZS ?_ NB180001_180003.out _;(with_reducible repeat(first|refine Zs ?_ _|refine Zu ?_|refine Zr ?_ _));refine ZS ?_ NB180001_180003.out _;(with_reducible repeat(first|refine Zs ?_ _|refine Zu ?_|refine Zr ?_ _));refine ZS ?_ NB180001_180003.out _;(with_reducible repeat(first|refine Zs ?_ _|refine Zu ?_|refine Zr ?_ _));exact BK180001.out⟩,⟨by repeat(first|(with_reducible first|exact HB.out|apply Zn|apply Zm|apply Zo|refine Zq ?_ GE180001.out|refine Zq ?_ GE180003.out)|exact HB.out)⟩⟩
     ·rw[if_neg c7] at H
      exact absurd H (by simp)
    ·rw[if_neg c6] at H
     exact absurd H (by simp)
   ·rw[if_neg c5] at H
    have c5b0:decide (x10_1<(l0_1.length:Int))=false:=Zf c5
    clear c5
    obtain rfl:=Zg H
    go_wp2
    go_ret
    exact⟨by first|rfl|(simp[ZC,ZB] <;> rfl)|(simp[*,ZC,ZB] <;> rfl),by repeat(first|(with_reducible first|exact HB.out|apply Zn|apply Zm|apply Zo|refine Zq ?_ GE180001.out)|exact HB.out)⟩
def Zag.l0:Nat→Int→List (S39)→Int→Int→Option (Int)
 | 0,_,_,_,_=>none
 | k+1,x1,x8,x9,x10=>if x10<x9 then(if 0≤x10 then(if x10<(x8.length:Int) then(if ((ZH x8 x10).f2)=x1 then(some x10) else(Zag.l0 k x1 x8 x9 (wrap64 (x10+1)))) else(none)) else(none)) else(some (-1))
def Zag.f (k:Nat) (l0_0:List (S39)) (l0_1:List (S82)) (a0_2:Int) (a1:Int):Option (Int):=Zag.l0 k a1 l0_0 (l0_0.length:Int) 0
set_option maxHeartbeats 8000000 in
set_option maxRecDepth 100000 in
theorem Zag.calls (k:Nat) (A0_0:Option Addr) (c0_0:Nat) (l0_0:List (S39)) (A0_1:Option Addr) (c0_1:Nat) (l0_1:List (S82)) (a0_2:Int) (a1:Int) (r:Int) (w:World) (hr0_0:Kd.C k39 w A0_0 l0_0.length l0_0) (hc0_0:l0_0.length≤c0_0) (hr0_1:Kd.C k82 w A0_1 l0_1.length l0_1) (hc0_1:l0_1.length≤c0_1) (h:Zag.f k l0_0 l0_1 a0_2 a1=some r) :
  Calls Tryz.prog 97 #[.agg #[.slice A0_0 l0_0.length c0_0,.slice A0_1 l0_1.length c0_1,.int .i64 a0_2],.int .i64 a1] w fun e w'=>e=.returned (.int .i64 r)∧Below w.heap.size w w':=by
 have hu25:=Tryz.underlying25
 have hu39:=Tryz.underlying39
 have HR0_0:=Za hr0_0;have HC0_0:=Za hc0_0;clear hr0_0 hc0_0;have HR0_1:=Za hr0_1;have HC0_1:=Za hc0_1;clear hr0_1 hc0_1
 have HB:=Za (Below.refl w.heap.size w)
 have H:(Zag.l0 k a1 l0_0 (l0_0.length:Int) 0)=some r:=h
 clear h
 have H':=Za H
 clear H
 go_enter Tryz.func97,Tryz.ntmps97
 go_wp2_with (first|((with_reducible refine ZF (N:=2) rfl ?_);refine ZG ?hg (N:=2) ?hd (cs:=#[.slice A0_0 l0_0.length c0_0,.slice A0_1 l0_1.length c0_1,.int .i64 a0_2]) (t:=25) ?hr ?_;(case hd=>rfl);(case hg=>rfl);(case hr=>first|(go_simp;done)|(go_simp;rfl));intro gb97001 hg w3 hbox hb;have BK97001:=Za (hbox);have GW97001:=Za ((by rw[hg];exact(Zx (by repeat(first|(with_reducible first|exact HB.out|apply Zn|apply Zm|apply Zo)|exact HB.out))):w.heap.size≤gb97001));have GE97001:=Za ((by rw[hg];exact(Zx (by repeat(first|(with_reducible first|exact HB.out|apply Zn|apply Zm|apply Zo)|exact HB.out))):w.heap.size≤gb97001));replace HB:=Za (Zw (by repeat(first|(with_reducible first|exact HB.out|apply Zn|apply Zm|apply Zo)|exact HB.out)) hb);clear hb hbox hg;have hcz4_0:w3.cell? ⟨gb97001,0,none⟩=some (.slice A0_0 l0_0.length c0_0):=(Zp BK97001.out 0).trans rfl;have hcz4_1:w3.cell? ⟨gb97001,1,none⟩=some (.slice A0_1 l0_1.length c0_1):=(Zp BK97001.out 1).trans rfl;have hcz4_2:w3.cell? ⟨gb97001,2,none⟩=some (.int .i64 a0_2):=(Zp BK97001.out 2).trans rfl;have hfz4_0:=Zv BK97001.out 0;have hfz4_1:=Zv BK97001.out 1;have hfz4_2:=Zv BK97001.out 2))
 go_loopg [10] k (fun kq v10 w'=>∃(x10_1:Int),v10=.int .i64 x10_1∧Aside0 (Zag.l0 kq a1 l0_0 (l0_0.length:Int) x10_1=some r)∧Aside0 (kq≤k)∧Aside0 (w'.heap[gb97001]? = some (.cells #[(.slice A0_0 l0_0.length c0_0),(.slice A0_1 l0_1.length c0_1),.int .i64 a0_2] 25 (0,0)))∧Aside0 (Below w.heap.size w w'))
 case atStart=>exact⟨(0),(by first|rfl|(simp;done)|(simp[*];done)),H',⟨Nat.le_refl _⟩,⟨by(with_reducible repeat(first|refine Zs ?_ _|refine Zu ?_|refine Zr ?_ _));exact BK97001.out⟩,⟨by repeat(first|(with_reducible first|exact HB.out|apply Zn|apply Zm|apply Zo|refine Zq ?_ GE97001.out)|exact HB.out)⟩⟩
 case round=>
  clear H'
  try clear p2
  try clear hcz4_0
  try clear hcz4_1
  try clear hcz4_2
  try clear hfz4_0
  try clear hfz4_1
  try clear hfz4_2
  obtain⟨x10_1,rfl,HA,HK1,BK97001,HB⟩:=hrel
  cases gk with
  | zero=>exact absurd HA.out (by simp[Zag.l0])
  | succ k1=>
   have H:=HA.out
   clear HA
   simp only[Zag.l0] at H
   by_cases c5:x10_1<(l0_0.length:Int)
   ·rw[if_pos c5] at H
    have c5b0:decide (x10_1<(l0_0.length:Int))=true:=Ze c5
    clear c5
    by_cases c6:0≤x10_1
    ·rw[if_pos c6] at H
     have c6b0:decide (0≤x10_1)=true:=Ze c6
     clear c6
     by_cases c7:x10_1<(l0_0.length:Int)
     ·rw[if_pos c7] at H
      have c7b0:decide (x10_1<(l0_0.length:Int))=true:=Ze c7
      clear c7
      by_cases c8:((ZH l0_0 x10_1).f2)=a1
      ·rw[if_pos c8] at H
       have c8b0:(((ZH l0_0 x10_1).f2) == a1)=true:=beq_iff_eq.mpr c8
       clear c8
       obtain rfl:=Zg H
       have p97002:0≤(x10_1:Int):=Zd (by first|(with_reducible assumption)|assumption)
       have q97002:x10_1<(l0_0.length:Int):=Zd (by first|(with_reducible assumption)|assumption)
       obtain⟨ad97002,A97002_1,c97002_1,e97002,hx97002_0,hx97002_1,hx97002_2,hl97002_1,hi97002_1⟩:=ZaV HR0_0.out x10_1 p97002 q97002
       cases e97002
       replace hx97002_0:=(HB.out.cell (Zc w _ hx97002_0)).trans hx97002_0
       replace hx97002_1:=(HB.out.cell (Zc w _ hx97002_1)).trans hx97002_1
       replace hx97002_2:=(HB.out.cell (Zc w _ hx97002_2)).trans hx97002_2
       have HR97002_1:=Za hi97002_1;have HC97002_1:=Za hl97002_1;clear hi97002_1 hl97002_1
       replace p97002:=eq_true p97002
       replace q97002:=eq_true q97002
       go_wp2_with (first|((with_reducible refine ZF (N:=6) rfl ?_);refine ZG ?hg (N:=6) ?hd (cs:=#[.string (⟨#[]⟩:ByteArray),.slice none 0 0,.int .i64 0]) (t:=39) ?hr ?_;(case hd=>rfl);(case hg=>rfl);(case hr=>first|(go_simp;done)|(go_simp;rfl));intro gb97003 hg w9 hbox hb;have BK97003:=Za (hbox);have GW97003:=Za ((by rw[hg];exact(Zx (by repeat(first|(with_reducible first|exact HB.out|apply Zn|apply Zm|apply Zo|refine Zq ?_ GE97001.out)|exact HB.out))):w.heap.size≤gb97003));have GE97003:=Za ((by rw[hg];exact(Zx (by repeat(first|(with_reducible first|exact HB.out|apply Zn|apply Zm|apply Zo|refine Zq ?_ GE97001.out)|exact HB.out))):w.heap.size≤gb97003));have NB97001_97003:=Za ((by rw[hg];exact Nat.ne_of_lt (ZK (g:=gb97001) (o:=.cells #[.slice (some ad97002) l0_0.length c0_0,.slice A0_1 l0_1.length c0_1,.int .i64 a0_2] 25 (0,0)) (by(with_reducible repeat(first|refine Zs ?_ _|refine Zu ?_|refine Zr ?_ _));exact BK97001.out)):gb97001≠gb97003));have NB97003_97001:=Za ((by rw[hg];exact Nat.ne_of_gt (ZK (g:=gb97001) (o:=.cells #[.slice (some ad97002) l0_0.length c0_0,.slice A0_1 l0_1.length c0_1,.int .i64 a0_2] 25 (0,0)) (by(with_reducible repeat(first|refine Zs ?_ _|refine Zu ?_|refine Zr ?_ _));exact BK97001.out)):gb97003≠gb97001));replace BK97001:=Za (ZA (g:=gb97001) (o:=.cells #[.slice (some ad97002) l0_0.length c0_0,.slice A0_1 l0_1.length c0_1,.int .i64 a0_2] 25 (0,0)) (by(with_reducible repeat(first|refine Zs ?_ _|refine Zu ?_|refine Zr ?_ _));exact BK97001.out) hb);replace HB:=Za (Zw (by repeat(first|(with_reducible first|exact HB.out|apply Zn|apply Zm|apply Zo|refine Zq ?_ GE97001.out)|exact HB.out)) hb);clear hb hbox hg;have hcz11_0:w9.cell? ⟨gb97003,0,none⟩=some (.string (⟨#[]⟩:ByteArray)):=(Zp BK97003.out 0).trans rfl;have hcz11_1:w9.cell? ⟨gb97003,1,none⟩=some (.slice none 0 0):=(Zp BK97003.out 1).trans rfl;have hcz11_2:w9.cell? ⟨gb97003,2,none⟩=some (.int .i64 0):=(Zp BK97003.out 2).trans rfl;have hfz11_0:=Zv BK97003.out 0;have hfz11_1:=Zv BK97003.out 1;have hfz11_2:=Zv BK97003.out 2))
       go_ret
       exact⟨by first|rfl|(simp[ZC,ZB] <;> rfl)|(simp[*,ZC,ZB] <;> rfl),by repeat(first|(with_reducible first|exact HB.out|apply Zn|apply Zm|apply Zo|refine Zq ?_ GE97001.out|refine Zq ?_ GE97003.out)|exact HB.out)⟩
      ·rw[if_neg c8] at H
       have c8b0:(((ZH l0_0 x10_1).f2) == a1)=false:=beq_eq_false_iff_ne.mpr c8
       have H':=Za H
       clear H
       have p97002:0≤(x10_1:Int):=Zd (by first|(with_reducible assumption)|assumption)
       have q97002:x10_1<(l0_0.length:Int):=Zd (by first|(with_reducible assumption)|assumption)
       obtain⟨ad97002,A97002_1,c97002_1,e97002,hx97002_0,hx97002_1,hx97002_2,hl97002_1,hi97002_1⟩:=ZaV HR0_0.out x10_1 p97002 q97002
       cases e97002
       replace hx97002_0:=(HB.out.cell (Zc w _ hx97002_0)).trans hx97002_0
       replace hx97002_1:=(HB.out.cell (Zc w _ hx97002_1)).trans hx97002_1
       replace hx97002_2:=(HB.out.cell (Zc w _ hx97002_2)).trans hx97002_2
       have HR97002_1:=Za hi97002_1;have HC97002_1:=Za hl97002_1;clear hi97002_1 hl97002_1
       replace p97002:=eq_true p97002
       replace q97002:=eq_true q97002
       go_wp2_with (first|((with_reducible refine ZF (N:=6) rfl ?_);refine ZG ?hg (N:=6) ?hd (cs:=#[.string (⟨#[]⟩:ByteArray),.slice none 0 0,.int .i64 0]) (t:=39) ?hr ?_;(case hd=>rfl);(case hg=>rfl);(case hr=>first|(go_simp;done)|(go_simp;rfl));intro gb97003 hg w12 hbox hb;have BK97003:=Za (hbox);have GW97003:=Za ((by rw[hg];exact(Zx (by repeat(first|(with_reducible first|exact HB.out|apply Zn|apply Zm|apply Zo|refine Zq ?_ GE97001.out)|exact HB.out))):w.heap.size≤gb97003));have GE97003:=Za ((by rw[hg];exact(Zx (by repeat(first|(with_reducible first|exact HB.out|apply Zn|apply Zm|apply Zo|refine Zq ?_ GE97001.out)|exact HB.out))):w.heap.size≤gb97003));have NB97001_97003:=Za ((by rw[hg];exact Nat.ne_of_lt (ZK (g:=gb97001) (o:=.cells #[.slice (some ad97002) l0_0.length c0_0,.slice A0_1 l0_1.length c0_1,.int .i64 a0_2] 25 (0,0)) (by(with_reducible repeat(first|refine Zs ?_ _|refine Zu ?_|refine Zr ?_ _));exact BK97001.out)):gb97001≠gb97003));have NB97003_97001:=Za ((by rw[hg];exact Nat.ne_of_gt (ZK (g:=gb97001) (o:=.cells #[.slice (some ad97002) l0_0.length c0_0,.slice A0_1 l0_1.length c0_1,.int .i64 a0_2] 25 (0,0)) (by(with_reducible repeat(first|refine Zs ?_ _|refine Zu ?_|refine Zr ?_ _));exact BK97001.out)):gb97003≠gb97001));replace BK97001:=Za (ZA (g:=gb97001) (o:=.cells #[.slice (some ad97002) l0_0.length c0_0,.slice A0_1 l0_1.length c0_1,.int .i64 a0_2] 25 (0,0)) (by(with_reducible repeat(first|refine Zs ?_ _|refine Zu ?_|refine Zr ?_ _));exact BK97001.out) hb);replace HB:=Za (Zw (by repeat(first|(with_reducible first|exact HB.out|apply Zn|apply Zm|apply Zo|refine Zq ?_ GE97001.out)|exact HB.out)) hb);clear hb hbox hg;have hcz14_0:w12.cell? ⟨gb97003,0,none⟩=some (.string (⟨#[]⟩:ByteArray)):=(Zp BK97003.out 0).trans rfl;have hcz14_1:w12.cell? ⟨gb97003,1,none⟩=some (.slice none 0 0):=(Zp BK97003.out 1).trans rfl;have hcz14_2:w12.cell? ⟨gb97003,2,none⟩=some (.int .i64 0):=(Zp BK97003.out 2).trans rfl;have hfz14_0:=Zv BK97003.out 0;have hfz14_1:=Zv BK97003.out 1;have hfz14_2:=Zv BK97003.out 2))
       go_roundg k1
       case measure=>have:=HK1.out;omega
       case rel=>exact⟨(wrap64 (x10_1+1)),(by first|rfl|(simp;done)|(simp[*];done)),H',⟨by have:=HK1.out;omega⟩,⟨by(with_reducible repeat(first|refine Zs ?_ _|refine Zu ?_|refine Zr ?_ _));refine ZS ?_ NB97001_97003.out _;(with_reducible repeat(first|refine Zs ?_ _|refine Zu ?_|refine Zr ?_ _));refine ZS ?_ NB97001_97003.out _;(with_reducible repeat(first|refine Zs ?_ _|refine Zu ?_|refine Zr ?_ _));refine ZS ?_ NB97001_97003.out _;(with_reducible repeat(first|refine Zs ?_ _|refine Zu ?_|refine Zr ?_ _));exact BK97001.out⟩,⟨by repeat(first|(with_reducible first|exact HB.out|apply Zn|apply Zm|apply Zo|refine Zq ?_ GE97001.out|refine Zq ?_ GE97003.out)|exact HB.out)⟩⟩
     ·rw[if_neg c7] at H
      exact absurd H (by simp)
    ·rw[if_neg c6] at H
     exact absurd H (by simp)
   ·rw[if_neg c5] at H
    have c5b0:decide (x10_1<(l0_0.length:Int))=false:=Zf c5
    clear c5
    obtain rfl:=Zg H
    go_wp2
    go_ret
    exact⟨by first|rfl|(simp[ZC,ZB] <;> rfl)|(simp[*,ZC,ZB] <;> rfl),by repeat(first|(with_reducible first|exact HB.out|apply Zn|apply Zm|apply Zo|refine Zq ?_ GE97001.out)|exact HB.out)⟩
end Go.Proofs.YtoeimopgoaffcaaGreatDoor.Pr
namespace Go.Proofs.YtoeimopgoaffcaaGreatDoor.Pr
open Go.RowKit Go.Proofs.YtoeimopgoaffcaaGreatDoorW.PrintWords Go.Proofs.YtoeimopgoaffcaaGreatDoor.Ni
def ZcM (ts:List PTie) (node:Int):Int:=ZaU (fun t=>t.f4 && decide (t.f1=node)) ts
def ZbZ (ns:List ZN) (p:Int):Int:=ZaU (fun n=>decide (n.f2=p)) ns
def inB (a b c:Int):Bool:=decide (b≤a) && decide (a≤c)
theorem l01In_f (a b c:Int):Z3.f a b c=some (inB a b c):=by
 unfold Z3.f inB
 by_cases h:a≥b
 ·rw[if_pos h,Ze (show b≤a from h),Bool.true_and]
 ·rw[if_neg h,Zf (show ¬b≤a from h),Bool.false_and]
theorem l08Free_f (ns:List ZN) (ts:List PTie) (z:Int) (node:Int) (hl:ts.length≤9223372036854775807) (k:Nat) (hk:2 ^ 64≤k):Zar.f k ns ts z node=some (ZcM ts node):=by
 have key:=Za3 ts.length (fun k i=>(∀j y,j<i→ts[j]? = some y→(y.f4 && decide (y.f1=node))=false)→Zar.l0 k node ts ts.length (i:Int)=some (ZcM ts node)) 0
  (fun k _ hb=>by
   simp only[Zar.l0]
   rw[if_neg (by omega),ZcM,Zbq _ _ hb])
  (fun k i _ hi ih hb=>by
   simp only[Zar.l0]
   have next:((ts.getD i z82).f4 && decide ((ts.getD i z82).f1=node))=false→Zar.l0 k node ts ts.length ((i+1:Nat):Int)=some (ZcM ts node):=fun h=>ih (by
    intro j y hj hy
    by_cases e:j=i
    ·subst e
     rw[getD_some hi z82] at hy
     cases hy
     exact h
    ·exact hb j y (by omega) hy)
   rw[if_pos (by omega),if_pos (by omega),if_pos (by omega),ZdT,ZR hi (by omega)]
   by_cases h:(ts.getD i z82).f4=true
   ·rw[if_pos h]
    by_cases h2:(ts.getD i z82).f1=node
    ·rw[if_pos h2,ZcM,ZbM _ ts i _ (getD_some hi z82) (by rw[h,Ze h2];rfl) hb]
    ·rw[if_neg h2,next (by rw[Zf h2,Bool.and_false])]
   ·rw[if_neg h,next (by rw[Bool.eq_false_iff.2 h,Bool.false_and])]) 0 k (Nat.zero_le _) (by omega)
 unfold Zar.f
 exact key (fun j y hj=>absurd hj (by omega))
theorem ZcV (ns:List ZN) (ts:List PTie) (z:Int) (p:Int) (hl:ns.length≤9223372036854775807) (k:Nat) (hk:2 ^ 64≤k):Zag.f k ns ts z p=some (ZbZ ns p):=by
 have key:=Za3 ns.length (fun k i=>(∀j y,j<i→ns[j]? = some y→decide (y.f2=p)=false)→Zag.l0 k p ns ns.length (i:Int)=some (ZbZ ns p)) 0
  (fun k _ hb=>by
   simp only[Zag.l0]
   rw[if_neg (by omega),ZbZ,Zbq _ _ hb])
  (fun k i _ hi ih hb=>by
   simp only[Zag.l0]
   rw[if_pos (by omega),if_pos (by omega),if_pos (by omega),Zcj,ZR hi (by omega)]
   by_cases h:(ns.getD i z39).f2=p
   ·rw[if_pos h,ZbZ,ZbM _ ns i _ (getD_some hi z39) (Ze h) hb]
   ·rw[if_neg h,ih]
    intro j y hj hy
    by_cases e:j=i
    ·subst e
     rw[getD_some hi z39] at hy
     cases hy
     exact Zf h
    ·exact hb j y (by omega) hy) 0 k (Nat.zero_le _) (by omega)
 unfold Zag.f
 exact key (fun j y hj=>absurd hj (by omega))
def fitN (ns:List ZN):Bool:=ns.all fun n=>decide (n.f0.size≤9223372036854775807) && decide (n.f1.length≤9223372036854775807)
theorem fitN_iff {ns:List ZN} (h:fitN ns=true):∀n∈ns,n.f0.size≤9223372036854775807∧n.f1.length≤9223372036854775807:=fun n hn=>by
 have:=List.all_eq_true.1 h n hn
 simpa using this
theorem showCell0 (w:World) (x y z:Value) (t:TypeId):(w.alloc (.cells #[x,y,z] t)).cell? ⟨w.heap.size,0,none⟩=some x:=by go_simp
theorem showCell1 (w:World) (x y z:Value) (t:TypeId):(w.alloc (.cells #[x,y,z] t)).cell? ⟨w.heap.size,1,none⟩=some y:=by go_simp
theorem showCell2 (w:World) (x y z:Value) (t:TypeId):(w.alloc (.cells #[x,y,z] t)).cell? ⟨w.heap.size,2,none⟩=some z:=by go_simp
theorem Zbf (a b c:Int) (w:World):Calls Tryz.prog 127 #[.int .i64 a,.int .i64 b,.int .i64 c] w fun e w'=>e=.returned (.bool (inB a b c))∧∃n,w'=w.drewN n:=
 (Z3.calls a b c _ w (l01In_f a b c)).mono fun _ _ ⟨he,hd⟩=>⟨he,hd.out⟩
theorem quietX {P:Program} {f:FuncId} {args:Array Value} {W:World} {a x:Nat} {v:Value} (h:Calls P f args (W.drewN (a+x)) fun e w'=>e=.returned v∧∃m,w'=(W.drewN (a+x)).drewN m):Calls P f args (W.drewN (a+x)) fun e w''=>e=.returned v∧∃n,w''=W.drewN (a+n):=
 h.mono fun _ _ ⟨he,m,hm⟩=>⟨he,x+m,by rw[hm,World.drewN_drewN,Nat.add_assoc]⟩
theorem quiet0 {P:Program} {f:FuncId} {args:Array Value} {W:World} {x:Nat} {v:Value} (h:Calls P f args (W.drewN x) fun e w'=>e=.returned v∧∃m,w'=(W.drewN x).drewN m):Calls P f args (W.drewN x) fun e w''=>e=.returned v∧∃n,w''=W.drewN n:=
 h.mono fun _ _ ⟨he,m,hm⟩=>⟨he,x+m,by rw[hm,World.drewN_drewN]⟩
end Go.Proofs.YtoeimopgoaffcaaGreatDoor.Pr
namespace Go.Proofs.YtoeimopgoaffcaaGreatDoor.Pr
open Go.RowKit Go.Proofs.YtoeimopgoaffcaaGreatDoorW.PrintWords Go.Proofs.YtoeimopgoaffcaaGreatDoorW.PrintLast Go.Proofs.YtoeimopgoaffcaaGreatDoorW.PrintMore
attribute [local go_sem] ZW ZU ZZ ZY ZP ZO ZV ZT
set_option linter.unusedVariables false
set_option linter.unusedSimpArgs false
def Zau.l0:Nat→ByteArray→Int→Option (Bool)
 | 0,_,_=>none
 | k+1,x0,x3=>if x3<(x0.size:Int) then(if 0≤x3 then(if (bt x0 x3)≥97 then(if ((bt x0 x3)≤122) then(Zau.l0 k x0 (wrap64 (x3+1))) else(if x3=0 then(some false) else(if (bt x0 x3)<48 then(some false) else(if (bt x0 x3) > 57 then(some false) else(Zau.l0 k x0 (wrap64 (x3+1))))))) else(if x3=0 then(some false) else(if (bt x0 x3)<48 then(some false) else(if (bt x0 x3) > 57 then(some false) else(Zau.l0 k x0 (wrap64 (x3+1))))))) else(none)) else((Z3.f (x0.size:Int) 1 8).bind fun t206001=>(some t206001))
def Zau.f (k:Nat) (a0:ByteArray):Option (Bool):=Zau.l0 k a0 0
set_option maxHeartbeats 8000000 in
set_option maxRecDepth 100000 in
theorem Zau.calls (k:Nat) (a0:ByteArray) (r:Bool) (w:World) (h:Zau.f k a0=some r) :
  Calls Tryz.prog 206 #[.string a0] w fun e w'=>e=.returned (.bool r)∧ZE w w':=by
 have H:(Zau.l0 k a0 0)=some r:=h
 clear h
 have H':=Za H
 clear H
 go_enter Tryz.func206,Tryz.ntmps206
 go_wp2
 go_loopg [3] k (fun kq v3 w'=>∃(x3_1:Int),v3=.int .i64 x3_1∧Aside0 (Zau.l0 kq a0 x3_1=some r)∧Aside0 (kq≤k)∧ZE w w')
 case atStart=>exact⟨(0),(by first|rfl|(simp;done)|(simp[*];done)),H',⟨Nat.le_refl _⟩,by repeat(first|exact ZE.refl _|apply ZE.step)⟩
 case round=>
  clear H'
  obtain⟨x3_1,rfl,HA,HK1,⟨m1,rfl⟩⟩:=hrel
  cases gk with
  | zero=>exact absurd HA.out (by simp[Zau.l0])
  | succ k1=>
   have H:=HA.out
   clear HA
   simp only[Zau.l0] at H
   by_cases c2:x3_1<(a0.size:Int)
   ·rw[if_pos c2] at H
    have c2b0:decide (x3_1<(a0.size:Int))=true:=Ze c2
    clear c2
    by_cases c3:0≤x3_1
    ·rw[if_pos c3] at H
     have c3b0:decide (0≤x3_1)=true:=Ze c3
     clear c3
     by_cases c5:(bt a0 x3_1)≥97
     ·rw[if_pos c5] at H
      have c5b0:decide (97≤(bt a0 x3_1))=true:=Ze c5
      clear c5
      by_cases c7:((bt a0 x3_1)≤122)
      ·rw[if_pos c7] at H
       have c7b0:decide ((bt a0 x3_1)≤122)=true:=Ze c7
       clear c7
       have H':=Za H
       clear H
       have p4:0≤(x3_1:Int):=Zd (by first|(with_reducible assumption)|assumption)
       have q4:x3_1<(a0.size:Int):=Zd (by first|(with_reducible assumption)|assumption)
       have hx4:=Zak a0 x3_1
       replace p4:=eq_true p4
       replace q4:=eq_true q4
       have p6:0≤(x3_1:Int):=Zd (by first|(with_reducible assumption)|assumption)
       have q6:x3_1<(a0.size:Int):=Zd (by first|(with_reducible assumption)|assumption)
       have hx6:=Zak a0 x3_1
       replace p6:=eq_true p6
       replace q6:=eq_true q6
       go_wp2
       go_roundg k1
       case measure=>have:=HK1.out;omega
       case rel=>exact⟨(wrap64 (x3_1+1)),(by first|rfl|(simp;done)|(simp[*];done)),H',⟨by have:=HK1.out;omega⟩,by repeat(first|exact ZE.refl _|apply ZE.step)⟩
      ·rw[if_neg c7] at H
       have c7b0:decide ((bt a0 x3_1)≤122)=false:=Zf c7
       clear c7
       by_cases c8:x3_1=0
       ·rw[if_pos c8] at H
        have c8b0:(x3_1 == 0)=true:=beq_iff_eq.mpr c8
        clear c8
        obtain rfl:=Zg H
        have p4:0≤(x3_1:Int):=Zd (by first|(with_reducible assumption)|assumption)
        have q4:x3_1<(a0.size:Int):=Zd (by first|(with_reducible assumption)|assumption)
        have hx4:=Zak a0 x3_1
        replace p4:=eq_true p4
        replace q4:=eq_true q4
        have p6:0≤(x3_1:Int):=Zd (by first|(with_reducible assumption)|assumption)
        have q6:x3_1<(a0.size:Int):=Zd (by first|(with_reducible assumption)|assumption)
        have hx6:=Zak a0 x3_1
        replace p6:=eq_true p6
        replace q6:=eq_true q6
        go_wp2
        go_ret
        exact⟨by first|rfl|(simp;done)|(simp[*];done),by repeat(first|exact ZE.refl _|apply ZE.step)⟩
       ·rw[if_neg c8] at H
        have c8b0:(x3_1 == 0)=false:=beq_eq_false_iff_ne.mpr c8
        by_cases c10:(bt a0 x3_1)<48
        ·rw[if_pos c10] at H
         have c10b0:decide ((bt a0 x3_1)<48)=true:=Ze c10
         clear c10
         obtain rfl:=Zg H
         have p4:0≤(x3_1:Int):=Zd (by first|(with_reducible assumption)|assumption)
         have q4:x3_1<(a0.size:Int):=Zd (by first|(with_reducible assumption)|assumption)
         have hx4:=Zak a0 x3_1
         replace p4:=eq_true p4
         replace q4:=eq_true q4
         have p6:0≤(x3_1:Int):=Zd (by first|(with_reducible assumption)|assumption)
         have q6:x3_1<(a0.size:Int):=Zd (by first|(with_reducible assumption)|assumption)
         have hx6:=Zak a0 x3_1
         replace p6:=eq_true p6
         replace q6:=eq_true q6
         have p9:0≤(x3_1:Int):=Zd (by first|(with_reducible assumption)|assumption)
         have q9:x3_1<(a0.size:Int):=Zd (by first|(with_reducible assumption)|assumption)
         have hx9:=Zak a0 x3_1
         replace p9:=eq_true p9
         replace q9:=eq_true q9
         go_wp2
         go_ret
         exact⟨by first|rfl|(simp;done)|(simp[*];done),by repeat(first|exact ZE.refl _|apply ZE.step)⟩
        ·rw[if_neg c10] at H
         have c10b0:decide ((bt a0 x3_1)<48)=false:=Zf c10
         clear c10
         by_cases c12:(bt a0 x3_1) > 57
         ·rw[if_pos c12] at H
          have c12b0:decide (57<(bt a0 x3_1))=true:=Ze c12
          clear c12
          obtain rfl:=Zg H
          have p4:0≤(x3_1:Int):=Zd (by first|(with_reducible assumption)|assumption)
          have q4:x3_1<(a0.size:Int):=Zd (by first|(with_reducible assumption)|assumption)
          have hx4:=Zak a0 x3_1
          replace p4:=eq_true p4
          replace q4:=eq_true q4
          have p6:0≤(x3_1:Int):=Zd (by first|(with_reducible assumption)|assumption)
          have q6:x3_1<(a0.size:Int):=Zd (by first|(with_reducible assumption)|assumption)
          have hx6:=Zak a0 x3_1
          replace p6:=eq_true p6
          replace q6:=eq_true q6
          have p9:0≤(x3_1:Int):=Zd (by first|(with_reducible assumption)|assumption)
          have q9:x3_1<(a0.size:Int):=Zd (by first|(with_reducible assumption)|assumption)
          have hx9:=Zak a0 x3_1
          replace p9:=eq_true p9
          replace q9:=eq_true q9
          have p11:0≤(x3_1:Int):=Zd (by first|(with_reducible assumption)|assumption)
          have q11:x3_1<(a0.size:Int):=Zd (by first|(with_reducible assumption)|assumption)
          have hx11:=Zak a0 x3_1
          replace p11:=eq_true p11
          replace q11:=eq_true q11
          go_wp2
          go_ret
          exact⟨by first|rfl|(simp;done)|(simp[*];done),by repeat(first|exact ZE.refl _|apply ZE.step)⟩
         ·rw[if_neg c12] at H
          have c12b0:decide (57<(bt a0 x3_1))=false:=Zf c12
          clear c12
          have H':=Za H
          clear H
          have p4:0≤(x3_1:Int):=Zd (by first|(with_reducible assumption)|assumption)
          have q4:x3_1<(a0.size:Int):=Zd (by first|(with_reducible assumption)|assumption)
          have hx4:=Zak a0 x3_1
          replace p4:=eq_true p4
          replace q4:=eq_true q4
          have p6:0≤(x3_1:Int):=Zd (by first|(with_reducible assumption)|assumption)
          have q6:x3_1<(a0.size:Int):=Zd (by first|(with_reducible assumption)|assumption)
          have hx6:=Zak a0 x3_1
          replace p6:=eq_true p6
          replace q6:=eq_true q6
          have p9:0≤(x3_1:Int):=Zd (by first|(with_reducible assumption)|assumption)
          have q9:x3_1<(a0.size:Int):=Zd (by first|(with_reducible assumption)|assumption)
          have hx9:=Zak a0 x3_1
          replace p9:=eq_true p9
          replace q9:=eq_true q9
          have p11:0≤(x3_1:Int):=Zd (by first|(with_reducible assumption)|assumption)
          have q11:x3_1<(a0.size:Int):=Zd (by first|(with_reducible assumption)|assumption)
          have hx11:=Zak a0 x3_1
          replace p11:=eq_true p11
          replace q11:=eq_true q11
          go_wp2
          go_roundg k1
          case measure=>have:=HK1.out;omega
          case rel=>exact⟨(wrap64 (x3_1+1)),(by first|rfl|(simp;done)|(simp[*];done)),H',⟨by have:=HK1.out;omega⟩,by repeat(first|exact ZE.refl _|apply ZE.step)⟩
     ·rw[if_neg c5] at H
      have c5b0:decide (97≤(bt a0 x3_1))=false:=Zf c5
      clear c5
      by_cases c13:x3_1=0
      ·rw[if_pos c13] at H
       have c13b0:(x3_1 == 0)=true:=beq_iff_eq.mpr c13
       clear c13
       obtain rfl:=Zg H
       have p4:0≤(x3_1:Int):=Zd (by first|(with_reducible assumption)|assumption)
       have q4:x3_1<(a0.size:Int):=Zd (by first|(with_reducible assumption)|assumption)
       have hx4:=Zak a0 x3_1
       replace p4:=eq_true p4
       replace q4:=eq_true q4
       go_wp2
       go_ret
       exact⟨by first|rfl|(simp;done)|(simp[*];done),by repeat(first|exact ZE.refl _|apply ZE.step)⟩
      ·rw[if_neg c13] at H
       have c13b0:(x3_1 == 0)=false:=beq_eq_false_iff_ne.mpr c13
       by_cases c15:(bt a0 x3_1)<48
       ·rw[if_pos c15] at H
        have c15b0:decide ((bt a0 x3_1)<48)=true:=Ze c15
        clear c15
        obtain rfl:=Zg H
        have p4:0≤(x3_1:Int):=Zd (by first|(with_reducible assumption)|assumption)
        have q4:x3_1<(a0.size:Int):=Zd (by first|(with_reducible assumption)|assumption)
        have hx4:=Zak a0 x3_1
        replace p4:=eq_true p4
        replace q4:=eq_true q4
        have p14:0≤(x3_1:Int):=Zd (by first|(with_reducible assumption)|assumption)
        have q14:x3_1<(a0.size:Int):=Zd (by first|(with_reducible assumption)|assumption)
        have hx14:=Zak a0 x3_1
        replace p14:=eq_true p14
        replace q14:=eq_true q14
        go_wp2
        go_ret
        exact⟨by first|rfl|(simp;done)|(simp[*];done),by repeat(first|exact ZE.refl _|apply ZE.step)⟩
       ·rw[if_neg c15] at H
        have c15b0:decide ((bt a0 x3_1)<48)=false:=Zf c15
        clear c15
        by_cases c17:(bt a0 x3_1) > 57
        ·rw[if_pos c17] at H
         have c17b0:decide (57<(bt a0 x3_1))=true:=Ze c17
         clear c17
         obtain rfl:=Zg H
         have p4:0≤(x3_1:Int):=Zd (by first|(with_reducible assumption)|assumption)
         have q4:x3_1<(a0.size:Int):=Zd (by first|(with_reducible assumption)|assumption)
         have hx4:=Zak a0 x3_1
         replace p4:=eq_true p4
         replace q4:=eq_true q4
         have p14:0≤(x3_1:Int):=Zd (by first|(with_reducible assumption)|assumption)
         have q14:x3_1<(a0.size:Int):=Zd (by first|(with_reducible assumption)|assumption)
         have hx14:=Zak a0 x3_1
         replace p14:=eq_true p14
         replace q14:=eq_true q14
         have p16:0≤(x3_1:Int):=Zd (by first|(with_reducible assumption)|assumption)
         have q16:x3_1<(a0.size:Int):=Zd (by first|(with_reducible assumption)|assumption)
         have hx16:=Zak a0 x3_1
         replace p16:=eq_true p16
         replace q16:=eq_true q16
         go_wp2
         go_ret
         exact⟨by first|rfl|(simp;done)|(simp[*];done),by repeat(first|exact ZE.refl _|apply ZE.step)⟩
        ·rw[if_neg c17] at H
         have c17b0:decide (57<(bt a0 x3_1))=false:=Zf c17
         clear c17
         have H':=Za H
         clear H
         have p4:0≤(x3_1:Int):=Zd (by first|(with_reducible assumption)|assumption)
         have q4:x3_1<(a0.size:Int):=Zd (by first|(with_reducible assumption)|assumption)
         have hx4:=Zak a0 x3_1
         replace p4:=eq_true p4
         replace q4:=eq_true q4
         have p14:0≤(x3_1:Int):=Zd (by first|(with_reducible assumption)|assumption)
         have q14:x3_1<(a0.size:Int):=Zd (by first|(with_reducible assumption)|assumption)
         have hx14:=Zak a0 x3_1
         replace p14:=eq_true p14
         replace q14:=eq_true q14
         have p16:0≤(x3_1:Int):=Zd (by first|(with_reducible assumption)|assumption)
         have q16:x3_1<(a0.size:Int):=Zd (by first|(with_reducible assumption)|assumption)
         have hx16:=Zak a0 x3_1
         replace p16:=eq_true p16
         replace q16:=eq_true q16
         go_wp2
         go_roundg k1
         case measure=>have:=HK1.out;omega
         case rel=>exact⟨(wrap64 (x3_1+1)),(by first|rfl|(simp;done)|(simp[*];done)),H',⟨by have:=HK1.out;omega⟩,by repeat(first|exact ZE.refl _|apply ZE.step)⟩
    ·rw[if_neg c3] at H
     exact absurd H (by simp)
   ·rw[if_neg c2] at H
    have c2b0:decide (x3_1<(a0.size:Int))=false:=Zf c2
    clear c2
    replace H:=Zh H
    obtain⟨t206001,A180,H⟩:=H;have A18:=Za A180;clear A180
    obtain rfl:=Zg H
    go_wp2_with (first|((with_reducible refine ZI (f:=127) rfl ?_);refine Z5 (some 41) rfl rfl Tryz.func127 (by kernel_rfl) rfl #[.int .i64 (a0.size:Int),.int .i64 1,.int .i64 8] rfl (by(try simp only[List.map_toArray,List.map_cons,List.map_nil]);first|done|rfl|(simp only[Zk,Zj];rfl)) ?_;(with_reducible refine(Z3.calls (a0.size:Int) 1 8 t206001 _ A18.out).mono ?_);rintro e w' ⟨rfl,⟨nd,rfl⟩⟩;refine⟨_,rfl,?_⟩))
    go_ret
    exact⟨by first|rfl|(simp;done)|(simp[*];done),by repeat(first|exact ZE.refl _|apply ZE.step)⟩
def Zao.l0:Nat→ByteArray→Int→Option (Bool)
 | 0,_,_=>none
 | k+1,x0,x3=>if x3<(x0.size:Int) then(if 0≤x3 then(if (bt x0 x3)≥97 then(if (bt x0 x3)≥48 then(if ((bt x0 x3)≤122) then(Zao.l0 k x0 (wrap64 (x3+1))) else(if ((bt x0 x3)≤57) then(if x3=0 then(some false) else(Zao.l0 k x0 (wrap64 (x3+1)))) else(some false))) else(if ((bt x0 x3)≤122) then(Zao.l0 k x0 (wrap64 (x3+1))) else(some false))) else(if (bt x0 x3)≥48 then(if ((bt x0 x3)≤57) then(if x3=0 then(some false) else(Zao.l0 k x0 (wrap64 (x3+1)))) else(some false)) else(some false))) else(none)) else(if (x0.size:Int)≥1 then(some (decide ((x0.size:Int)≤8))) else(some false))
def Zao.f (k:Nat) (a0:ByteArray):Option (Bool):=Zao.l0 k a0 0
set_option maxHeartbeats 8000000 in
set_option maxRecDepth 100000 in
theorem Zao.calls (k:Nat) (a0:ByteArray) (r:Bool) (w:World) (h:Zao.f k a0=some r) :
  Calls Tryz.prog 86 #[.string a0] w fun e w'=>e=.returned (.bool r)∧ZE w w':=by
 have H:(Zao.l0 k a0 0)=some r:=h
 clear h
 have H':=Za H
 clear H
 go_enter Tryz.func86,Tryz.ntmps86
 go_wp2
 repeat(go_quiet (fail);try go_wp2)
 go_loopg [3] k (fun kq v3 w'=>∃(x3_1:Int),v3=.int .i64 x3_1∧Aside0 (Zao.l0 kq a0 x3_1=some r)∧Aside0 (kq≤k)∧ZE w w')
 case atStart=>exact⟨(0),(by first|rfl|(simp;done)|(simp[*];done)),H',⟨Nat.le_refl _⟩,by repeat(first|exact ZE.refl _|apply ZE.step)⟩
 case round=>
  clear H'
  obtain⟨x3_1,rfl,HA,HK1,⟨m1,rfl⟩⟩:=hrel
  cases gk with
  | zero=>exact absurd HA.out (by simp[Zao.l0])
  | succ k1=>
   have H:=HA.out
   clear HA
   simp only[Zao.l0] at H
   by_cases c2:x3_1<(a0.size:Int)
   ·rw[if_pos c2] at H
    have c2b0:decide (x3_1<(a0.size:Int))=true:=Ze c2
    clear c2
    by_cases c3:0≤x3_1
    ·rw[if_pos c3] at H
     have c3b0:decide (0≤x3_1)=true:=Ze c3
     clear c3
     by_cases c5:(bt a0 x3_1)≥97
     ·rw[if_pos c5] at H
      have c5b0:decide (97≤(bt a0 x3_1))=true:=Ze c5
      clear c5
      by_cases c8:(bt a0 x3_1)≥48
      ·rw[if_pos c8] at H
       have c8b0:decide (48≤(bt a0 x3_1))=true:=Ze c8
       clear c8
       by_cases c10:((bt a0 x3_1)≤122)
       ·rw[if_pos c10] at H
        have c10b0:decide ((bt a0 x3_1)≤122)=true:=Ze c10
        clear c10
        have H':=Za H
        clear H
        have p4:0≤(x3_1:Int):=Zd (by first|(with_reducible assumption)|assumption)
        have q4:x3_1<(a0.size:Int):=Zd (by first|(with_reducible assumption)|assumption)
        have hx4:=Zak a0 x3_1
        replace p4:=eq_true p4
        replace q4:=eq_true q4
        have p6:0≤(x3_1:Int):=Zd (by first|(with_reducible assumption)|assumption)
        have q6:x3_1<(a0.size:Int):=Zd (by first|(with_reducible assumption)|assumption)
        have hx6:=Zak a0 x3_1
        replace p6:=eq_true p6
        replace q6:=eq_true q6
        have p7:0≤(x3_1:Int):=Zd (by first|(with_reducible assumption)|assumption)
        have q7:x3_1<(a0.size:Int):=Zd (by first|(with_reducible assumption)|assumption)
        have hx7:=Zak a0 x3_1
        replace p7:=eq_true p7
        replace q7:=eq_true q7
        have p9:0≤(x3_1:Int):=Zd (by first|(with_reducible assumption)|assumption)
        have q9:x3_1<(a0.size:Int):=Zd (by first|(with_reducible assumption)|assumption)
        have hx9:=Zak a0 x3_1
        replace p9:=eq_true p9
        replace q9:=eq_true q9
        go_wp2
        repeat(go_quiet (fail);try go_wp2)
        go_roundg k1
        case measure=>have:=HK1.out;omega
        case rel=>exact⟨(wrap64 (x3_1+1)),(by first|rfl|(simp;done)|(simp[*];done)),H',⟨by have:=HK1.out;omega⟩,by repeat(first|exact ZE.refl _|apply ZE.step)⟩
       ·rw[if_neg c10] at H
        have c10b0:decide ((bt a0 x3_1)≤122)=false:=Zf c10
        clear c10
        by_cases c11:((bt a0 x3_1)≤57)
        ·rw[if_pos c11] at H
         have c11b0:decide ((bt a0 x3_1)≤57)=true:=Ze c11
         clear c11
         by_cases c12:x3_1=0
         ·rw[if_pos c12] at H
          have c12b0:(x3_1 == 0)=true:=beq_iff_eq.mpr c12
          clear c12
          obtain rfl:=Zg H
          have p4:0≤(x3_1:Int):=Zd (by first|(with_reducible assumption)|assumption)
          have q4:x3_1<(a0.size:Int):=Zd (by first|(with_reducible assumption)|assumption)
          have hx4:=Zak a0 x3_1
          replace p4:=eq_true p4
          replace q4:=eq_true q4
          have p6:0≤(x3_1:Int):=Zd (by first|(with_reducible assumption)|assumption)
          have q6:x3_1<(a0.size:Int):=Zd (by first|(with_reducible assumption)|assumption)
          have hx6:=Zak a0 x3_1
          replace p6:=eq_true p6
          replace q6:=eq_true q6
          have p7:0≤(x3_1:Int):=Zd (by first|(with_reducible assumption)|assumption)
          have q7:x3_1<(a0.size:Int):=Zd (by first|(with_reducible assumption)|assumption)
          have hx7:=Zak a0 x3_1
          replace p7:=eq_true p7
          replace q7:=eq_true q7
          have p9:0≤(x3_1:Int):=Zd (by first|(with_reducible assumption)|assumption)
          have q9:x3_1<(a0.size:Int):=Zd (by first|(with_reducible assumption)|assumption)
          have hx9:=Zak a0 x3_1
          replace p9:=eq_true p9
          replace q9:=eq_true q9
          go_wp2
          repeat(go_quiet (fail);try go_wp2)
          go_ret
          exact⟨by first|rfl|(simp;done)|(simp[*];done),by repeat(first|exact ZE.refl _|apply ZE.step)⟩
         ·rw[if_neg c12] at H
          have c12b0:(x3_1 == 0)=false:=beq_eq_false_iff_ne.mpr c12
          have H':=Za H
          clear H
          have p4:0≤(x3_1:Int):=Zd (by first|(with_reducible assumption)|assumption)
          have q4:x3_1<(a0.size:Int):=Zd (by first|(with_reducible assumption)|assumption)
          have hx4:=Zak a0 x3_1
          replace p4:=eq_true p4
          replace q4:=eq_true q4
          have p6:0≤(x3_1:Int):=Zd (by first|(with_reducible assumption)|assumption)
          have q6:x3_1<(a0.size:Int):=Zd (by first|(with_reducible assumption)|assumption)
          have hx6:=Zak a0 x3_1
          replace p6:=eq_true p6
          replace q6:=eq_true q6
          have p7:0≤(x3_1:Int):=Zd (by first|(with_reducible assumption)|assumption)
          have q7:x3_1<(a0.size:Int):=Zd (by first|(with_reducible assumption)|assumption)
          have hx7:=Zak a0 x3_1
          replace p7:=eq_true p7
          replace q7:=eq_true q7
          have p9:0≤(x3_1:Int):=Zd (by first|(with_reducible assumption)|assumption)
          have q9:x3_1<(a0.size:Int):=Zd (by first|(with_reducible assumption)|assumption)
          have hx9:=Zak a0 x3_1
          replace p9:=eq_true p9
          replace q9:=eq_true q9
          go_wp2
          repeat(go_quiet (fail);try go_wp2)
          go_roundg k1
          case measure=>have:=HK1.out;omega
          case rel=>exact⟨(wrap64 (x3_1+1)),(by first|rfl|(simp;done)|(simp[*];done)),H',⟨by have:=HK1.out;omega⟩,by repeat(first|exact ZE.refl _|apply ZE.step)⟩
        ·rw[if_neg c11] at H
         have c11b0:decide ((bt a0 x3_1)≤57)=false:=Zf c11
         clear c11
         obtain rfl:=Zg H
         have p4:0≤(x3_1:Int):=Zd (by first|(with_reducible assumption)|assumption)
         have q4:x3_1<(a0.size:Int):=Zd (by first|(with_reducible assumption)|assumption)
         have hx4:=Zak a0 x3_1
         replace p4:=eq_true p4
         replace q4:=eq_true q4
         have p6:0≤(x3_1:Int):=Zd (by first|(with_reducible assumption)|assumption)
         have q6:x3_1<(a0.size:Int):=Zd (by first|(with_reducible assumption)|assumption)
         have hx6:=Zak a0 x3_1
         replace p6:=eq_true p6
         replace q6:=eq_true q6
         have p7:0≤(x3_1:Int):=Zd (by first|(with_reducible assumption)|assumption)
         have q7:x3_1<(a0.size:Int):=Zd (by first|(with_reducible assumption)|assumption)
         have hx7:=Zak a0 x3_1
         replace p7:=eq_true p7
         replace q7:=eq_true q7
         have p9:0≤(x3_1:Int):=Zd (by first|(with_reducible assumption)|assumption)
         have q9:x3_1<(a0.size:Int):=Zd (by first|(with_reducible assumption)|assumption)
         have hx9:=Zak a0 x3_1
         replace p9:=eq_true p9
         replace q9:=eq_true q9
         go_wp2
         repeat(go_quiet (fail);try go_wp2)
         go_ret
         exact⟨by first|rfl|(simp;done)|(simp[*];done),by repeat(first|exact ZE.refl _|apply ZE.step)⟩
      ·rw[if_neg c8] at H
       have c8b0:decide (48≤(bt a0 x3_1))=false:=Zf c8
       clear c8
       by_cases c13:((bt a0 x3_1)≤122)
       ·rw[if_pos c13] at H
        have c13b0:decide ((bt a0 x3_1)≤122)=true:=Ze c13
        clear c13
        have H':=Za H
        clear H
        have p4:0≤(x3_1:Int):=Zd (by first|(with_reducible assumption)|assumption)
        have q4:x3_1<(a0.size:Int):=Zd (by first|(with_reducible assumption)|assumption)
        have hx4:=Zak a0 x3_1
        replace p4:=eq_true p4
        replace q4:=eq_true q4
        have p6:0≤(x3_1:Int):=Zd (by first|(with_reducible assumption)|assumption)
        have q6:x3_1<(a0.size:Int):=Zd (by first|(with_reducible assumption)|assumption)
        have hx6:=Zak a0 x3_1
        replace p6:=eq_true p6
        replace q6:=eq_true q6
        have p7:0≤(x3_1:Int):=Zd (by first|(with_reducible assumption)|assumption)
        have q7:x3_1<(a0.size:Int):=Zd (by first|(with_reducible assumption)|assumption)
        have hx7:=Zak a0 x3_1
        replace p7:=eq_true p7
        replace q7:=eq_true q7
        go_wp2
        repeat(go_quiet (fail);try go_wp2)
        go_roundg k1
        case measure=>have:=HK1.out;omega
        case rel=>exact⟨(wrap64 (x3_1+1)),(by first|rfl|(simp;done)|(simp[*];done)),H',⟨by have:=HK1.out;omega⟩,by repeat(first|exact ZE.refl _|apply ZE.step)⟩
       ·rw[if_neg c13] at H
        have c13b0:decide ((bt a0 x3_1)≤122)=false:=Zf c13
        clear c13
        obtain rfl:=Zg H
        have p4:0≤(x3_1:Int):=Zd (by first|(with_reducible assumption)|assumption)
        have q4:x3_1<(a0.size:Int):=Zd (by first|(with_reducible assumption)|assumption)
        have hx4:=Zak a0 x3_1
        replace p4:=eq_true p4
        replace q4:=eq_true q4
        have p6:0≤(x3_1:Int):=Zd (by first|(with_reducible assumption)|assumption)
        have q6:x3_1<(a0.size:Int):=Zd (by first|(with_reducible assumption)|assumption)
        have hx6:=Zak a0 x3_1
        replace p6:=eq_true p6
        replace q6:=eq_true q6
        have p7:0≤(x3_1:Int):=Zd (by first|(with_reducible assumption)|assumption)
        have q7:x3_1<(a0.size:Int):=Zd (by first|(with_reducible assumption)|assumption)
        have hx7:=Zak a0 x3_1
        replace p7:=eq_true p7
        replace q7:=eq_true q7
        go_wp2
        repeat(go_quiet (fail);try go_wp2)
        go_ret
        exact⟨by first|rfl|(simp;done)|(simp[*];done),by repeat(first|exact ZE.refl _|apply ZE.step)⟩
     ·rw[if_neg c5] at H
      have c5b0:decide (97≤(bt a0 x3_1))=false:=Zf c5
      clear c5
      by_cases c15:(bt a0 x3_1)≥48
      ·rw[if_pos c15] at H
       have c15b0:decide (48≤(bt a0 x3_1))=true:=Ze c15
       clear c15
       by_cases c17:((bt a0 x3_1)≤57)
       ·rw[if_pos c17] at H
        have c17b0:decide ((bt a0 x3_1)≤57)=true:=Ze c17
        clear c17
        by_cases c18:x3_1=0
        ·rw[if_pos c18] at H
         have c18b0:(x3_1 == 0)=true:=beq_iff_eq.mpr c18
         clear c18
         obtain rfl:=Zg H
         have p4:0≤(x3_1:Int):=Zd (by first|(with_reducible assumption)|assumption)
         have q4:x3_1<(a0.size:Int):=Zd (by first|(with_reducible assumption)|assumption)
         have hx4:=Zak a0 x3_1
         replace p4:=eq_true p4
         replace q4:=eq_true q4
         have p14:0≤(x3_1:Int):=Zd (by first|(with_reducible assumption)|assumption)
         have q14:x3_1<(a0.size:Int):=Zd (by first|(with_reducible assumption)|assumption)
         have hx14:=Zak a0 x3_1
         replace p14:=eq_true p14
         replace q14:=eq_true q14
         have p16:0≤(x3_1:Int):=Zd (by first|(with_reducible assumption)|assumption)
         have q16:x3_1<(a0.size:Int):=Zd (by first|(with_reducible assumption)|assumption)
         have hx16:=Zak a0 x3_1
         replace p16:=eq_true p16
         replace q16:=eq_true q16
         go_wp2
         repeat(go_quiet (fail);try go_wp2)
         go_ret
         exact⟨by first|rfl|(simp;done)|(simp[*];done),by repeat(first|exact ZE.refl _|apply ZE.step)⟩
        ·rw[if_neg c18] at H
         have c18b0:(x3_1 == 0)=false:=beq_eq_false_iff_ne.mpr c18
         have H':=Za H
         clear H
         have p4:0≤(x3_1:Int):=Zd (by first|(with_reducible assumption)|assumption)
         have q4:x3_1<(a0.size:Int):=Zd (by first|(with_reducible assumption)|assumption)
         have hx4:=Zak a0 x3_1
         replace p4:=eq_true p4
         replace q4:=eq_true q4
         have p14:0≤(x3_1:Int):=Zd (by first|(with_reducible assumption)|assumption)
         have q14:x3_1<(a0.size:Int):=Zd (by first|(with_reducible assumption)|assumption)
         have hx14:=Zak a0 x3_1
         replace p14:=eq_true p14
         replace q14:=eq_true q14
         have p16:0≤(x3_1:Int):=Zd (by first|(with_reducible assumption)|assumption)
         have q16:x3_1<(a0.size:Int):=Zd (by first|(with_reducible assumption)|assumption)
         have hx16:=Zak a0 x3_1
         replace p16:=eq_true p16
         replace q16:=eq_true q16
         go_wp2
         repeat(go_quiet (fail);try go_wp2)
         go_roundg k1
         case measure=>have:=HK1.out;omega
         case rel=>exact⟨(wrap64 (x3_1+1)),(by first|rfl|(simp;done)|(simp[*];done)),H',⟨by have:=HK1.out;omega⟩,by repeat(first|exact ZE.refl _|apply ZE.step)⟩
       ·rw[if_neg c17] at H
        have c17b0:decide ((bt a0 x3_1)≤57)=false:=Zf c17
        clear c17
        obtain rfl:=Zg H
        have p4:0≤(x3_1:Int):=Zd (by first|(with_reducible assumption)|assumption)
        have q4:x3_1<(a0.size:Int):=Zd (by first|(with_reducible assumption)|assumption)
        have hx4:=Zak a0 x3_1
        replace p4:=eq_true p4
        replace q4:=eq_true q4
        have p14:0≤(x3_1:Int):=Zd (by first|(with_reducible assumption)|assumption)
        have q14:x3_1<(a0.size:Int):=Zd (by first|(with_reducible assumption)|assumption)
        have hx14:=Zak a0 x3_1
        replace p14:=eq_true p14
        replace q14:=eq_true q14
        have p16:0≤(x3_1:Int):=Zd (by first|(with_reducible assumption)|assumption)
        have q16:x3_1<(a0.size:Int):=Zd (by first|(with_reducible assumption)|assumption)
        have hx16:=Zak a0 x3_1
        replace p16:=eq_true p16
        replace q16:=eq_true q16
        go_wp2
        repeat(go_quiet (fail);try go_wp2)
        go_ret
        exact⟨by first|rfl|(simp;done)|(simp[*];done),by repeat(first|exact ZE.refl _|apply ZE.step)⟩
      ·rw[if_neg c15] at H
       have c15b0:decide (48≤(bt a0 x3_1))=false:=Zf c15
       clear c15
       obtain rfl:=Zg H
       have p4:0≤(x3_1:Int):=Zd (by first|(with_reducible assumption)|assumption)
       have q4:x3_1<(a0.size:Int):=Zd (by first|(with_reducible assumption)|assumption)
       have hx4:=Zak a0 x3_1
       replace p4:=eq_true p4
       replace q4:=eq_true q4
       have p14:0≤(x3_1:Int):=Zd (by first|(with_reducible assumption)|assumption)
       have q14:x3_1<(a0.size:Int):=Zd (by first|(with_reducible assumption)|assumption)
       have hx14:=Zak a0 x3_1
       replace p14:=eq_true p14
       replace q14:=eq_true q14
       go_wp2
       repeat(go_quiet (fail);try go_wp2)
       go_ret
       exact⟨by first|rfl|(simp;done)|(simp[*];done),by repeat(first|exact ZE.refl _|apply ZE.step)⟩
    ·rw[if_neg c3] at H
     exact absurd H (by simp)
   ·rw[if_neg c2] at H
    have c2b0:decide (x3_1<(a0.size:Int))=false:=Zf c2
    clear c2
    by_cases c19:(a0.size:Int)≥1
    ·rw[if_pos c19] at H
     have c19b0:decide (1≤(a0.size:Int))=true:=Ze c19
     clear c19
     obtain rfl:=Zg H
     go_wp2
     repeat(go_quiet (fail);try go_wp2)
     go_ret
     exact⟨by first|rfl|(simp;done)|(simp[*];done),by repeat(first|exact ZE.refl _|apply ZE.step)⟩
    ·rw[if_neg c19] at H
     have c19b0:decide (1≤(a0.size:Int))=false:=Zf c19
     clear c19
     obtain rfl:=Zg H
     go_wp2
     repeat(go_quiet (fail);try go_wp2)
     go_ret
     exact⟨by first|rfl|(simp;done)|(simp[*];done),by repeat(first|exact ZE.refl _|apply ZE.step)⟩
end Go.Proofs.YtoeimopgoaffcaaGreatDoor.Pr
namespace Go.Proofs.YtoeimopgoaffcaaGreatDoor.Pr
open Go.RowKit Go.Proofs.YtoeimopgoaffcaaGreatDoorW.PrintWords Go.Proofs.YtoeimopgoaffcaaGreatDoor.Ni
def chB (s:ByteArray) (i:Nat):Bool:=(decide (97≤bt s i) && decide (bt s i≤122)) || (decide (0<i) && decide (48≤bt s i) && decide (bt s i≤57))
def chsB (s:ByteArray) (i:Nat):Nat→Bool
 | 0=>true
 | d+1=>chB s i && chsB s (i+1) d
def nameB (s:ByteArray):Bool:=chsB s 0 s.size && (decide (1≤s.size) && decide (s.size≤8))
theorem Zf6 (s:ByteArray) (hs:s.size≤9223372036854775807) (k:Nat) (hk:2 ^ 64≤k):Zau.f k s=some (nameB s):=by
 have key:=Za3 s.size (fun k i=>Zau.l0 k s (i:Int)=some (chsB s i (s.size - i) && (decide (1≤s.size) && decide (s.size≤8)))) 0
  (fun k _=>by
   simp only[Zau.l0]
   rw[if_neg (by omega),Nat.sub_self]
   unfold Z3.f chsB
   by_cases h1:1≤s.size
   ·rw[if_pos (by omega),Ze h1]
    simp only[Zi,Bool.true_and]
    congr 1
    rw[Bool.eq_iff_iff];simp;omega
   ·rw[if_neg (by omega),Zf h1];rfl)
  (fun k i _ hi ih=>by
   simp only[Zau.l0]
   rw[if_pos (by omega),if_pos (by omega),ZR hi (by omega),ih,show chsB s i (s.size - i)=(chB s i && chsB s (i+1) (s.size - (i+1))) by rw[show s.size - i=(s.size - (i+1))+1 by omega];rfl]
   have hF:chB s i=false→(chB s i && chsB s (i+1) (s.size - (i+1)) && (decide (1≤s.size) && decide (s.size≤8)))=false:=fun h=>by rw[h];rfl
   have hT:chB s i=true→(chB s i && chsB s (i+1) (s.size - (i+1)) && (decide (1≤s.size) && decide (s.size≤8)))=(chsB s (i+1) (s.size - (i+1)) && (decide (1≤s.size) && decide (s.size≤8))):=fun h=>by rw[h,Bool.true_and]
   generalize hc:bt s (i:Int)=c at *
   have hch:chB s i=((decide (97≤c) && decide (c≤122)) || (decide (0<i) && decide (48≤c) && decide (c≤57))):=by unfold chB;rw[hc]
   by_cases a1:c≥97
   ·rw[if_pos a1]
    by_cases a2:c≤122
    ·rw[if_pos a2,hT (by rw[hch];simp;omega)]
    ·rw[if_neg a2,hF (by rw[hch];simp;omega)]
     split
     ·rfl
     ·split
      ·rfl
      ·rw[if_pos (by omega)]
   ·rw[if_neg a1]
    by_cases b0:(i:Int)=0
    ·rw[if_pos b0,hF (by rw[hch];simp;omega)]
    ·rw[if_neg b0]
     by_cases b1:c<48
     ·rw[if_pos b1,hF (by rw[hch];simp;omega)]
     ·rw[if_neg b1]
      by_cases b2:c > 57
      ·rw[if_pos b2,hF (by rw[hch];simp;omega)]
      ·rw[if_neg b2,hT (by rw[hch];simp;omega)]) 0 k (Nat.zero_le _) (by omega)
 unfold Zau.f nameB
 simpa using key
theorem Zge (s:ByteArray) (hs:s.size≤9223372036854775807) (k:Nat) (hk:2 ^ 64≤k):Zao.f k s=some (nameB s):=by
 have key:=Za3 s.size (fun k i=>Zao.l0 k s (i:Int)=some (chsB s i (s.size - i) && (decide (1≤s.size) && decide (s.size≤8)))) 0
  (fun k _=>by
   simp only[Zao.l0]
   rw[if_neg (by omega),Nat.sub_self]
   unfold chsB
   by_cases h1:1≤s.size
   ·rw[if_pos (by omega),Ze h1]
    simp only[Bool.true_and]
    congr 1
    rw[Bool.eq_iff_iff];simp;omega
   ·rw[if_neg (by omega),Zf h1];rfl)
  (fun k i _ hi ih=>by
   simp only[Zao.l0]
   rw[if_pos (by omega),if_pos (by omega),ZR hi (by omega),ih,show chsB s i (s.size - i)=(chB s i && chsB s (i+1) (s.size - (i+1))) by rw[show s.size - i=(s.size - (i+1))+1 by omega];rfl]
   have hF:chB s i=false→(chB s i && chsB s (i+1) (s.size - (i+1)) && (decide (1≤s.size) && decide (s.size≤8)))=false:=fun h=>by rw[h];rfl
   have hT:chB s i=true→(chB s i && chsB s (i+1) (s.size - (i+1)) && (decide (1≤s.size) && decide (s.size≤8)))=(chsB s (i+1) (s.size - (i+1)) && (decide (1≤s.size) && decide (s.size≤8))):=fun h=>by rw[h,Bool.true_and]
   generalize hc:bt s (i:Int)=c at *
   have hch:chB s i=((decide (97≤c) && decide (c≤122)) || (decide (0<i) && decide (48≤c) && decide (c≤57))):=by unfold chB;rw[hc]
   by_cases a1:c≥97
   ·rw[if_pos a1,if_pos (by omega)]
    by_cases a2:c≤122
    ·rw[if_pos a2,hT (by rw[hch];simp;omega)]
    ·rw[if_neg a2,if_neg (by omega),hF (by rw[hch];simp;omega)]
   ·rw[if_neg a1]
    by_cases b1:c≥48
    ·rw[if_pos b1]
     by_cases b2:c≤57
     ·rw[if_pos b2]
      by_cases b0:(i:Int)=0
      ·rw[if_pos b0,hF (by rw[hch];simp;omega)]
      ·rw[if_neg b0,hT (by rw[hch];simp;omega)]
     ·rw[if_neg b2,hF (by rw[hch];simp;omega)]
    ·rw[if_neg b1,hF (by rw[hch];simp;omega)]) 0 k (Nat.zero_le _) (by omega)
 unfold Zao.f nameB
 simpa using key
end Go.Proofs.YtoeimopgoaffcaaGreatDoor.Pr
namespace Go.Proofs.YtoeimopgoaffcaaGreatDoor.Pr
open Go.RowKit Go.Proofs.YtoeimopgoaffcaaGreatDoorW.PrintWords Go.Proofs.YtoeimopgoaffcaaGreatDoorW.PrintLast Go.Proofs.YtoeimopgoaffcaaGreatDoorW.PrintMore
attribute [local go_sem] ZW ZU ZZ ZY ZP ZO ZV ZT
set_option linter.unusedVariables false
set_option linter.unusedSimpArgs false
def ZaD.f (a0:Int):Option (Int):=if a0<0 then(some (wrap64 (-a0))) else(some a0)
set_option maxHeartbeats 8000000 in
set_option maxRecDepth 100000 in
theorem ZaD.calls (a0:Int) (r:Int) (w:World) (h:ZaD.f a0=some r) :
  Calls Tryz.prog 98 #[.int .i64 a0] w fun e w'=>e=.returned (.int .i64 r)∧ZE w w':=by
 have H:(if a0<0 then(some (wrap64 (-a0))) else(some a0))=some r:=h
 clear h
 by_cases c2:a0<0
 ·rw[if_pos c2] at H
  have c2b0:decide (a0<0)=true:=Ze c2
  clear c2
  obtain rfl:=Zg H
  go_enter Tryz.func98,Tryz.ntmps98
  go_wp2
  go_ret
  exact⟨by first|rfl|(simp;done)|(simp[*];done),by repeat(first|exact ZE.refl _|apply ZE.step)⟩
 ·rw[if_neg c2] at H
  have c2b0:decide (a0<0)=false:=Zf c2
  clear c2
  obtain rfl:=Zg H
  go_enter Tryz.func98,Tryz.ntmps98
  go_wp2
  go_ret
  exact⟨by first|rfl|(simp;done)|(simp[*];done),by repeat(first|exact ZE.refl _|apply ZE.step)⟩
def Zab.l0:Nat→List Int→List Int→Int→Int→Option (Bool)
 | 0,_,_,_,_=>none
 | k+1,x0,x5,x6,x7=>if x7<x6 then(if 0≤x7 then(if x7<(x5.length:Int) then(if (rd x5 x7)=0 then(some false) else((Z3.f (rd x5 x7) (-3) 3).bind fun t175002=>(if t175002=true then(if x7 > 0 then(if 0≤(wrap64 (x7 - 1)) then(if (wrap64 (x7 - 1))<(x0.length:Int) then((ZaD.f (rd x0 (wrap64 (x7 - 1)))).bind fun t175004=>((ZaD.f (rd x5 x7)).bind fun t175005=>(if t175004≥t175005 then(some false) else(Zab.l0 k x0 x5 x6 (wrap64 (x7+1)))))) else(none)) else(none)) else(Zab.l0 k x0 x5 x6 (wrap64 (x7+1)))) else(some false)))) else(none)) else(none)) else(some true)
def Zab.f (k:Nat) (l0:List Int):Option (Bool):=Zab.l0 k l0 l0 (l0.length:Int) 0
set_option maxHeartbeats 8000000 in
set_option maxRecDepth 100000 in
theorem Zab.calls (k:Nat) (A0:Option Addr) (c0:Nat) (l0:List Int) (r:Bool) (w:World) (hr0:Kd.C (Kd.int .i64) w A0 l0.length l0) (hc0:l0.length≤c0) (h:Zab.f k l0=some r) :
  Calls Tryz.prog 175 #[.slice A0 l0.length c0] w fun e w'=>e=.returned (.bool r)∧ZE w w':=by
 have HR0:=Za hr0;have HC0:=Za hc0;clear hr0 hc0
 have H:(Zab.l0 k l0 l0 (l0.length:Int) 0)=some r:=h
 clear h
 have H':=Za H
 clear H
 go_enter Tryz.func175,Tryz.ntmps175
 go_wp2
 go_loopg [7] k (fun kq v7 w'=>∃(x7_1:Int),v7=.int .i64 x7_1∧Aside0 (Zab.l0 kq l0 l0 (l0.length:Int) x7_1=some r)∧Aside0 (kq≤k)∧ZE w w')
 case atStart=>exact⟨(0),(by first|rfl|(simp;done)|(simp[*];done)),H',⟨Nat.le_refl _⟩,by repeat(first|exact ZE.refl _|apply ZE.step)⟩
 case round=>
  clear H'
  try clear c1
  obtain⟨x7_1,rfl,HA,HK1,⟨m1,rfl⟩⟩:=hrel
  cases gk with
  | zero=>exact absurd HA.out (by simp[Zab.l0])
  | succ k1=>
   have H:=HA.out
   clear HA
   simp only[Zab.l0] at H
   by_cases c2:x7_1<(l0.length:Int)
   ·rw[if_pos c2] at H
    have c2b0:decide (x7_1<(l0.length:Int))=true:=Ze c2
    clear c2
    by_cases c3:0≤x7_1
    ·rw[if_pos c3] at H
     have c3b0:decide (0≤x7_1)=true:=Ze c3
     clear c3
     by_cases c4:x7_1<(l0.length:Int)
     ·rw[if_pos c4] at H
      have c4b0:decide (x7_1<(l0.length:Int))=true:=Ze c4
      clear c4
      by_cases c5:(rd l0 x7_1)=0
      ·rw[if_pos c5] at H
       have c5b0:((rd l0 x7_1) == 0)=true:=beq_iff_eq.mpr c5
       clear c5
       obtain rfl:=Zg H
       have p175001:0≤(x7_1:Int):=Zd (by first|(with_reducible assumption)|assumption)
       have q175001:x7_1<(l0.length:Int):=Zd (by first|(with_reducible assumption)|assumption)
       obtain⟨ad175001,e175001,hx175001_0⟩:=Kd.at_int HR0.out x7_1 p175001 q175001
       cases e175001
       replace p175001:=eq_true p175001
       replace q175001:=eq_true q175001
       go_wp2
       go_ret
       exact⟨by first|rfl|(simp;done)|(simp[*];done),by repeat(first|exact ZE.refl _|apply ZE.step)⟩
      ·rw[if_neg c5] at H
       have c5b0:((rd l0 x7_1) == 0)=false:=beq_eq_false_iff_ne.mpr c5
       replace H:=Zh H
       obtain⟨t175002,A60,H⟩:=H;have A6:=Za A60;clear A60
       by_cases c7:t175002=true
       ·subst c7
        rw[if_pos rfl] at H
        by_cases c8:x7_1 > 0
        ·rw[if_pos c8] at H
         have c8b0:decide (0<x7_1)=true:=Ze c8
         clear c8
         obtain⟨ji9,hji9⟩:∃j_:Int,(wrap64 (x7_1 - 1))=j_:=⟨_,rfl⟩
         replace H:(if 0≤(ji9) then(if (ji9)<(l0.length:Int) then((ZaD.f (rd l0 (ji9))).bind fun t175004=>((ZaD.f (rd l0 x7_1)).bind fun t175005=>(if t175004≥t175005 then(some false) else(Zab.l0 k1 l0 l0 (l0.length:Int) (wrap64 (x7_1+1)))))) else(none)) else(none))=some r:=by first|(rw[hji9] at H;exact H)|(simp only[hji9] at H ⊢;exact H)
         (try rw[hji9] at A6)
         have hji9w:(IntKind.i64.wrap (x7_1 - 1))=ji9:=(ZL _).trans hji9
         by_cases c10:0≤(ji9)
         ·rw[if_pos c10] at H
          have c10b0:decide (0≤(ji9))=true:=Ze c10
          clear c10
          by_cases c11:(ji9)<(l0.length:Int)
          ·rw[if_pos c11] at H
           have c11b0:decide ((ji9)<(l0.length:Int))=true:=Ze c11
           clear c11
           replace H:=Zh H
           obtain⟨t175004,A120,H⟩:=H;have A12:=Za A120;clear A120
           replace H:=Zh H
           obtain⟨t175005,A130,H⟩:=H;have A13:=Za A130;clear A130
           by_cases c14:t175004≥t175005
           ·rw[if_pos c14] at H
            have c14b0:decide (t175005≤t175004)=true:=Ze c14
            clear c14
            obtain rfl:=Zg H
            have p175001:0≤(x7_1:Int):=Zd (by first|(with_reducible assumption)|assumption)
            have q175001:x7_1<(l0.length:Int):=Zd (by first|(with_reducible assumption)|assumption)
            obtain⟨ad175001,e175001,hx175001_0⟩:=Kd.at_int HR0.out x7_1 p175001 q175001
            cases e175001
            replace p175001:=eq_true p175001
            replace q175001:=eq_true q175001
            go_wp2_with (first|(go_at_call 127;(with_reducible refine(Z3.calls (rd l0 x7_1) (-3) 3 true _ A6.out).mono ?_);rintro e w' ⟨rfl,⟨nd,rfl⟩⟩;have p175003:0≤((ji9):Int):=Zd (by first|(with_reducible assumption)|assumption);have q175003:(ji9)<(l0.length:Int):=Zd (by first|(with_reducible assumption)|assumption);obtain⟨ad175003,e175003,hx175003_0⟩:=Kd.at_int HR0.out (ji9) p175003 q175003;obtain rfl:ad175001=ad175003:=(by injection e175003);replace p175003:=eq_true p175003;replace q175003:=eq_true q175003)|(go_at_call 98;(with_reducible refine(ZaD.calls (rd l0 (ji9)) t175004 _ A12.out).mono ?_);rintro e w' ⟨rfl,⟨nd,rfl⟩⟩)|(go_at_call 98;(with_reducible refine(ZaD.calls (rd l0 x7_1) t175005 _ A13.out).mono ?_);rintro e w' ⟨rfl,⟨nd,rfl⟩⟩))
            go_ret
            exact⟨by first|rfl|(simp;done)|(simp only[← hji9] <;> (first|rfl|simp))|(simp[*];done),by repeat(first|exact ZE.refl _|apply ZE.step)⟩
           ·rw[if_neg c14] at H
            have c14b0:decide (t175005≤t175004)=false:=Zf c14
            clear c14
            have H':=Za H
            clear H
            have p175001:0≤(x7_1:Int):=Zd (by first|(with_reducible assumption)|assumption)
            have q175001:x7_1<(l0.length:Int):=Zd (by first|(with_reducible assumption)|assumption)
            obtain⟨ad175001,e175001,hx175001_0⟩:=Kd.at_int HR0.out x7_1 p175001 q175001
            cases e175001
            replace p175001:=eq_true p175001
            replace q175001:=eq_true q175001
            go_wp2_with (first|(go_at_call 127;(with_reducible refine(Z3.calls (rd l0 x7_1) (-3) 3 true _ A6.out).mono ?_);rintro e w' ⟨rfl,⟨nd,rfl⟩⟩;have p175003:0≤((ji9):Int):=Zd (by first|(with_reducible assumption)|assumption);have q175003:(ji9)<(l0.length:Int):=Zd (by first|(with_reducible assumption)|assumption);obtain⟨ad175003,e175003,hx175003_0⟩:=Kd.at_int HR0.out (ji9) p175003 q175003;obtain rfl:ad175001=ad175003:=(by injection e175003);replace p175003:=eq_true p175003;replace q175003:=eq_true q175003)|(go_at_call 98;(with_reducible refine(ZaD.calls (rd l0 (ji9)) t175004 _ A12.out).mono ?_);rintro e w' ⟨rfl,⟨nd,rfl⟩⟩)|(go_at_call 98;(with_reducible refine(ZaD.calls (rd l0 x7_1) t175005 _ A13.out).mono ?_);rintro e w' ⟨rfl,⟨nd,rfl⟩⟩))
            go_roundg k1
            case measure=>have:=HK1.out;omega
            case rel=>exact⟨(wrap64 (x7_1+1)),(by first|rfl|(simp;done)|(simp[*];done)),H',⟨by have:=HK1.out;omega⟩,by repeat(first|exact ZE.refl _|apply ZE.step)⟩
          ·rw[if_neg c11] at H
           exact absurd H (by simp)
         ·rw[if_neg c10] at H
          exact absurd H (by simp)
        ·rw[if_neg c8] at H
         have c8b0:decide (0<x7_1)=false:=Zf c8
         clear c8
         have H':=Za H
         clear H
         have p175001:0≤(x7_1:Int):=Zd (by first|(with_reducible assumption)|assumption)
         have q175001:x7_1<(l0.length:Int):=Zd (by first|(with_reducible assumption)|assumption)
         obtain⟨ad175001,e175001,hx175001_0⟩:=Kd.at_int HR0.out x7_1 p175001 q175001
         cases e175001
         replace p175001:=eq_true p175001
         replace q175001:=eq_true q175001
         go_wp2_with (first|(go_at_call 127;(with_reducible refine(Z3.calls (rd l0 x7_1) (-3) 3 true _ A6.out).mono ?_);rintro e w' ⟨rfl,⟨nd,rfl⟩⟩))
         go_roundg k1
         case measure=>have:=HK1.out;omega
         case rel=>exact⟨(wrap64 (x7_1+1)),(by first|rfl|(simp;done)|(simp[*];done)),H',⟨by have:=HK1.out;omega⟩,by repeat(first|exact ZE.refl _|apply ZE.step)⟩
       ·replace c7:=Bool.eq_false_iff.mpr c7
        subst c7
        have H1:(some false)=some r:=by rw[if_neg (show ¬(false=true) by decide)] at H;exact H
        clear H
        have H:=H1
        clear H1
        obtain rfl:=Zg H
        have p175001:0≤(x7_1:Int):=Zd (by first|(with_reducible assumption)|assumption)
        have q175001:x7_1<(l0.length:Int):=Zd (by first|(with_reducible assumption)|assumption)
        obtain⟨ad175001,e175001,hx175001_0⟩:=Kd.at_int HR0.out x7_1 p175001 q175001
        cases e175001
        replace p175001:=eq_true p175001
        replace q175001:=eq_true q175001
        go_wp2_with (first|(go_at_call 127;(with_reducible refine(Z3.calls (rd l0 x7_1) (-3) 3 false _ A6.out).mono ?_);rintro e w' ⟨rfl,⟨nd,rfl⟩⟩))
        go_ret
        exact⟨by first|rfl|(simp;done)|(simp[*];done),by repeat(first|exact ZE.refl _|apply ZE.step)⟩
     ·rw[if_neg c4] at H
      exact absurd H (by simp)
    ·rw[if_neg c3] at H
     exact absurd H (by simp)
   ·rw[if_neg c2] at H
    have c2b0:decide (x7_1<(l0.length:Int))=false:=Zf c2
    clear c2
    obtain rfl:=Zg H
    go_wp2
    go_ret
    exact⟨by first|rfl|(simp;done)|(simp[*];done),by repeat(first|exact ZE.refl _|apply ZE.step)⟩
def ZaC.f (a0:Int):Option (Int):=some (mx a0 (wrap64 (-a0)))
set_option maxHeartbeats 8000000 in
set_option maxRecDepth 100000 in
theorem ZaC.calls (a0:Int) (r:Int) (w:World) (h:ZaC.f a0=some r) :
  Calls Tryz.prog 144 #[.int .i64 a0] w fun e w'=>e=.returned (.int .i64 r)∧Below w.heap.size w w':=by
 have HB:=Za (Below.refl w.heap.size w)
 have H:(some (mx a0 (wrap64 (-a0))))=some r:=h
 clear h
 obtain⟨ji2,hji2⟩:∃j_:Int,(mx a0 (wrap64 (-a0)))=j_:=⟨_,rfl⟩
 replace H:(some ji2)=some r:=by first|(rw[hji2] at H;exact H)|(simp only[hji2] at H ⊢;exact H)
 have hji2_:(if a0<(wrap64 (-a0)) then(wrap64 (-a0)) else a0)=ji2:=hji2
 obtain rfl:=Zg H
 go_enter Tryz.func144,Tryz.ntmps144
 go_wp2
 go_ret
 exact⟨by first|rfl|(simp[ZC,ZB] <;> rfl)|(simp only[← hji2];first|rfl|(simp[ZC,ZB] <;> rfl))|(simp[*,ZC,ZB] <;> rfl),by repeat(first|(with_reducible first|exact HB.out|apply Zn|apply Zm|apply Zo)|exact HB.out)⟩
end Go.Proofs.YtoeimopgoaffcaaGreatDoor.Pr
