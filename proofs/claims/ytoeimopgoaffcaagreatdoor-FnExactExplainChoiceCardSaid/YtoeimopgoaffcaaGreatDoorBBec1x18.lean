/- By a program of this session. -/
import Derived.Test.YtoeimopgoaffcaaGreatDoorBBec1x10
import Derived.Test.YtoeimopgoaffcaaGreatDoorBBec1x15
import Derived.Test.YtoeimopgoaffcaaGreatDoorBBec1x17
set_option maxHeartbeats 8000000
set_option maxRecDepth 100000
namespace Go.Proofs.YtoeimopgoaffcaaGreatDoor.Pr
open RowKit YtoeimopgoaffcaaGreatDoorW.PrintWords YtoeimopgoaffcaaGreatDoorW.PrintLast YtoeimopgoaffcaaGreatDoorW.PrintMore
attribute [local go_sem] Zau Zas ZaL ZaK Zaf Zae Zat Zar
set_option linter.unusedVariables false
set_option linter.unusedSimpArgs false
open Ni
theorem ZgO.any (p:S112→Bool) (g:Nat) (lb:Array Value) (eg:∀args w,(callFunc g args).run Tryz.prog w=.ok (.enter g args) w) (A0:Option Addr) (c0:Nat) (l0:List S112) (w:World) (hr0:Kd.C k112 w A0 l0.length l0)
  (hp:∀(W:World) (x:S112),x∈l0→Below w.heap.size w W→Calls Tryz.prog g (#[.agg #[.int .i64 x.f0,.int .i64 x.f1,.int .i64 x.f2.f0,.int .i64 x.f2.f1]] ++ lb) W fun e w'=>e=.returned (.bool (p x))∧Below W.heap.size W w') :
  Calls Tryz.prog 199 #[.slice A0 l0.length c0,.func (.func g) #[] lb] w fun e w'=>e=.returned (.int .i64 (Za9 p l0))∧Below w.heap.size w w':=by
 have HR0:=Za hr0;have HP:=Za hp;clear hr0 hp
 have HL:l0.length≤9223372036854775807:=HR0.out.2.1
 go_enter Tryz.func199,Tryz.ntmps199
 go_wp2
 go_loopg [5,8] l0.length (fun gg _ s8 wr=>∃kk:Nat,Aside0 (kk≤l0.length)∧Aside0 (l0.length - kk≤gg)∧s8=.int .i64 kk∧Aside0 (Below w.heap.size w wr)∧Aside0 (∀j y,j<kk→l0[j]? = some y→p y=false))
 case atStart=>exact⟨0,⟨Nat.zero_le _⟩,⟨by omega⟩,rfl,⟨Below.refl _ _⟩,⟨fun j y hj=>absurd hj (Nat.not_lt_zero _)⟩⟩
 case round=>
  obtain⟨kk,HK,HG,rfl,HB,HN⟩:=hrel
  by_cases hlt:kk<l0.length
  ·have hltz:(kk:Int)<(l0.length:Int):=by omega
   obtain⟨ad,e1,hx0,hx1,hx2,hx3⟩:=Zfa HR0.out (kk:Int) (by omega) hltz
   cases e1
   replace hx0:=(HB.out.cell (Zc w _ hx0)).trans hx0
   rw[Int.toNat_natCast] at hx0
   replace hx1:=(HB.out.cell (Zc w _ hx1)).trans hx1
   rw[Int.toNat_natCast] at hx1
   replace hx2:=(HB.out.cell (Zc w _ hx2)).trans hx2
   rw[Int.toNat_natCast] at hx2
   replace hx3:=(HB.out.cell (Zc w _ hx3)).trans hx3
   rw[Int.toNat_natCast] at hx3
   have hxe:l0[kk]? = some (Zcf l0 (kk:Int)):=by
    unfold Zcf
    rw[Int.toNat_natCast,List.getD_eq_getElem?_getD,Zl hlt];rfl
   generalize Zcf l0 (kk:Int)=y at hx0 hx1 hx2 hx3 hxe
   have HX:=Za hxe;clear hxe
   have hcall:=HP.out wr y (List.mem_of_getElem? HX.out) HB.out
   cases hq:p y with
   | true=>
    have HQ:=Za hq
    rw[hq] at hcall
    clear hq
    go_wp2_with (go_at_fn g;refine hcall.mono ?_;rintro e w' ⟨rfl,hb⟩)
    go_ret
    exact⟨by rw[Zb1 p l0 kk y HX.out HQ.out HN.out];rfl,HB.out.trans (hb.mono HB.out.size)⟩
   | false=>
    have HQ:=Za hq
    rw[hq] at hcall
    clear hq
    go_wp2_with (go_at_fn g;refine hcall.mono ?_;rintro e w' ⟨rfl,hb⟩)
    go_roundg (l0.length - (kk+1))
    case measure=>have:=HG.out;omega
    case rel=>
     refine⟨kk+1,⟨by omega⟩,⟨by omega⟩,by go_num,⟨HB.out.trans (hb.mono HB.out.size)⟩,⟨fun j y' hj hy=>?_⟩⟩
     by_cases e:j=kk
     ·subst e
      rw[HX.out] at hy
      cases hy
      exact HQ.out
     ·exact HN.out j y' (by omega) hy
  ·have hltz:¬(kk:Int)<(l0.length:Int):=by omega
   have:kk=l0.length:=by have:=HK.out;omega
   subst this
   go_wp2
   go_ret
   exact⟨by rw[ZbX p l0 HN.out];rfl,HB.out⟩
theorem ZgP.any (p:S112→Bool) (g:Nat) (lb:Array Value) (eg:∀args w,(callFunc g args).run Tryz.prog w=.ok (.enter g args) w) (A0:Option Addr) (c0:Nat) (l0:List S112) (w:World) (hr0:Kd.C k112 w A0 l0.length l0)
  (hp:∀(W:World) (x:S112),x∈l0→Below w.heap.size w W→Calls Tryz.prog g (#[.agg #[.int .i64 x.f0,.int .i64 x.f1,.int .i64 x.f2.f0,.int .i64 x.f2.f1]] ++ lb) W fun e w'=>e=.returned (.bool (p x))∧Below W.heap.size W w') :
  Calls Tryz.prog 164 #[.slice A0 l0.length c0,.func (.func g) #[] lb] w fun e w'=>e=.returned (.bool (l0.any p))∧Below w.heap.size w w':=by
 have HI:=Za (ZgO.any p g lb eg A0 c0 l0 w hr0 hp)
 clear hr0 hp
 have HE:=Za (Zdh p l0)
 go_enter Tryz.func164,Tryz.ntmps164
 go_wp2_with (go_at_call 199;refine HI.out.mono ?_;rintro e w' ⟨rfl,hb⟩)
 go_ret
 exact⟨by rw[← HE.out];rfl,hb⟩
def Zcv.f (a0_0:Int) (a0_1:Int):Option (Bool):=if a0_0≥(-1000000) then(if a0_0≤a0_1 then(if a0_1≤1000000 then(if a0_0=1000000 then(some false) else(some (a0_1 != (-1000000)))) else(some false)) else(some false)) else(some false)
theorem Zcv.calls (a0_0:Int) (a0_1:Int) (r:Bool) (w:World) (h:Zcv.f a0_0 a0_1=some r) :
  Calls Tryz.prog 166 #[.agg #[.int .i64 a0_0,.int .i64 a0_1]] w fun e w'=>e=.returned (.bool r)∧Below w.heap.size w w':=by
 have hu110:=Tryz.underlying110
 have HB:=Za (Below.refl w.heap.size w)
 have H:(if a0_0≥(-1000000) then(if a0_0≤a0_1 then(if a0_1≤1000000 then(if a0_0=1000000 then(some false) else(some (a0_1 != (-1000000)))) else(some false)) else(some false)) else(some false))=some r:=h
 clear h
 by_cases c2:a0_0≥(-1000000)
 ·rw[if_pos c2] at H
  have c2b0:decide ((-1000000)≤a0_0)=true:=Ze c2
  clear c2
  by_cases c3:a0_0≤a0_1
  ·rw[if_pos c3] at H
   have c3b0:decide (a0_0≤a0_1)=true:=Ze c3
   clear c3
   by_cases c4:a0_1≤1000000
   ·rw[if_pos c4] at H
    have c4b0:decide (a0_1≤1000000)=true:=Ze c4
    clear c4
    by_cases c5:a0_0=1000000
    ·rw[if_pos c5] at H
     have c5b0:(a0_0 == 1000000)=true:=beq_iff_eq.mpr c5
     have c5b1:(a0_0 != 1000000)=false:=bne_eq_false_iff_eq.mpr c5
     clear c5
     obtain rfl:=Zg H
     go_enter Tryz.func166,Tryz.ntmps166
     go_wp2_with (first|((with_reducible refine ZG (N:=1) rfl ?_);refine ZH ?hg (N:=1) ?hd (cs:=#[.int .i64 a0_0,.int .i64 a0_1]) (t:=110) ?hr ?_;(case hd=>rfl);(case hg=>rfl);(case hr=>first|(go_simp;done)|(go_simp;rfl));intro gb1 hg w6 hbox hb;have BK1:=Za (hbox);have GW1:=Za ((by rw[hg];exact(Zv (by repeat(first|(with_reducible first|exact HB.out|apply Zo|apply Zm|apply Zp)|exact HB.out))):w.heap.size≤gb1));have GE1:=Za ((by rw[hg];exact(Zv (by repeat(first|(with_reducible first|exact HB.out|apply Zo|apply Zm|apply Zp)|exact HB.out))):w.heap.size≤gb1));replace HB:=Za (Zq (by repeat(first|(with_reducible first|exact HB.out|apply Zo|apply Zm|apply Zp)|exact HB.out)) hb);clear hb hbox hg;have hcz7_0:w6.cell? ⟨gb1,0,none⟩=some (.int .i64 a0_0):=(Zn BK1.out 0).trans rfl;have hcz7_1:w6.cell? ⟨gb1,1,none⟩=some (.int .i64 a0_1):=(Zn BK1.out 1).trans rfl))
     go_ret
     exact⟨by first|rfl|(simp[ZB,ZA] <;> rfl)|(simp[*,ZB,ZA] <;> rfl),by repeat(first|(with_reducible first|exact HB.out|apply Zo|apply Zm|apply Zp|refine Zs ?_ GE1.out)|exact HB.out)⟩
    ·rw[if_neg c5] at H
     have c5b0:(a0_0 == 1000000)=false:=beq_eq_false_iff_ne.mpr c5
     have c5b1:(a0_0 != 1000000)=true:=bne_iff_ne.mpr c5
     obtain rfl:=Zg H
     go_enter Tryz.func166,Tryz.ntmps166
     go_wp2_with (first|((with_reducible refine ZG (N:=1) rfl ?_);refine ZH ?hg (N:=1) ?hd (cs:=#[.int .i64 a0_0,.int .i64 a0_1]) (t:=110) ?hr ?_;(case hd=>rfl);(case hg=>rfl);(case hr=>first|(go_simp;done)|(go_simp;rfl));intro gb1 hg w8 hbox hb;have BK1:=Za (hbox);have GW1:=Za ((by rw[hg];exact(Zv (by repeat(first|(with_reducible first|exact HB.out|apply Zo|apply Zm|apply Zp)|exact HB.out))):w.heap.size≤gb1));have GE1:=Za ((by rw[hg];exact(Zv (by repeat(first|(with_reducible first|exact HB.out|apply Zo|apply Zm|apply Zp)|exact HB.out))):w.heap.size≤gb1));replace HB:=Za (Zq (by repeat(first|(with_reducible first|exact HB.out|apply Zo|apply Zm|apply Zp)|exact HB.out)) hb);clear hb hbox hg;have hcz9_0:w8.cell? ⟨gb1,0,none⟩=some (.int .i64 a0_0):=(Zn BK1.out 0).trans rfl;have hcz9_1:w8.cell? ⟨gb1,1,none⟩=some (.int .i64 a0_1):=(Zn BK1.out 1).trans rfl))
     go_ret
     exact⟨by first|rfl|(simp[ZB,ZA] <;> rfl)|(simp[*,ZB,ZA] <;> rfl),by repeat(first|(with_reducible first|exact HB.out|apply Zo|apply Zm|apply Zp|refine Zs ?_ GE1.out)|exact HB.out)⟩
   ·rw[if_neg c4] at H
    have c4b0:decide (a0_1≤1000000)=false:=Zf c4
    clear c4
    obtain rfl:=Zg H
    go_enter Tryz.func166,Tryz.ntmps166
    go_wp2_with (first|((with_reducible refine ZG (N:=1) rfl ?_);refine ZH ?hg (N:=1) ?hd (cs:=#[.int .i64 a0_0,.int .i64 a0_1]) (t:=110) ?hr ?_;(case hd=>rfl);(case hg=>rfl);(case hr=>first|(go_simp;done)|(go_simp;rfl));intro gb1 hg w10 hbox hb;have BK1:=Za (hbox);have GW1:=Za ((by rw[hg];exact(Zv (by repeat(first|(with_reducible first|exact HB.out|apply Zo|apply Zm|apply Zp)|exact HB.out))):w.heap.size≤gb1));have GE1:=Za ((by rw[hg];exact(Zv (by repeat(first|(with_reducible first|exact HB.out|apply Zo|apply Zm|apply Zp)|exact HB.out))):w.heap.size≤gb1));replace HB:=Za (Zq (by repeat(first|(with_reducible first|exact HB.out|apply Zo|apply Zm|apply Zp)|exact HB.out)) hb);clear hb hbox hg;have hcz11_0:w10.cell? ⟨gb1,0,none⟩=some (.int .i64 a0_0):=(Zn BK1.out 0).trans rfl;have hcz11_1:w10.cell? ⟨gb1,1,none⟩=some (.int .i64 a0_1):=(Zn BK1.out 1).trans rfl))
    go_ret
    exact⟨by first|rfl|(simp[ZB,ZA] <;> rfl)|(simp[*,ZB,ZA] <;> rfl),by repeat(first|(with_reducible first|exact HB.out|apply Zo|apply Zm|apply Zp|refine Zs ?_ GE1.out)|exact HB.out)⟩
  ·rw[if_neg c3] at H
   have c3b0:decide (a0_0≤a0_1)=false:=Zf c3
   clear c3
   obtain rfl:=Zg H
   go_enter Tryz.func166,Tryz.ntmps166
   go_wp2_with (first|((with_reducible refine ZG (N:=1) rfl ?_);refine ZH ?hg (N:=1) ?hd (cs:=#[.int .i64 a0_0,.int .i64 a0_1]) (t:=110) ?hr ?_;(case hd=>rfl);(case hg=>rfl);(case hr=>first|(go_simp;done)|(go_simp;rfl));intro gb1 hg w12 hbox hb;have BK1:=Za (hbox);have GW1:=Za ((by rw[hg];exact(Zv (by repeat(first|(with_reducible first|exact HB.out|apply Zo|apply Zm|apply Zp)|exact HB.out))):w.heap.size≤gb1));have GE1:=Za ((by rw[hg];exact(Zv (by repeat(first|(with_reducible first|exact HB.out|apply Zo|apply Zm|apply Zp)|exact HB.out))):w.heap.size≤gb1));replace HB:=Za (Zq (by repeat(first|(with_reducible first|exact HB.out|apply Zo|apply Zm|apply Zp)|exact HB.out)) hb);clear hb hbox hg;have hcz13_0:w12.cell? ⟨gb1,0,none⟩=some (.int .i64 a0_0):=(Zn BK1.out 0).trans rfl;have hcz13_1:w12.cell? ⟨gb1,1,none⟩=some (.int .i64 a0_1):=(Zn BK1.out 1).trans rfl))
   go_ret
   exact⟨by first|rfl|(simp[ZB,ZA] <;> rfl)|(simp[*,ZB,ZA] <;> rfl),by repeat(first|(with_reducible first|exact HB.out|apply Zo|apply Zm|apply Zp|refine Zs ?_ GE1.out)|exact HB.out)⟩
 ·rw[if_neg c2] at H
  have c2b0:decide ((-1000000)≤a0_0)=false:=Zf c2
  clear c2
  obtain rfl:=Zg H
  go_enter Tryz.func166,Tryz.ntmps166
  go_wp2_with (first|((with_reducible refine ZG (N:=1) rfl ?_);refine ZH ?hg (N:=1) ?hd (cs:=#[.int .i64 a0_0,.int .i64 a0_1]) (t:=110) ?hr ?_;(case hd=>rfl);(case hg=>rfl);(case hr=>first|(go_simp;done)|(go_simp;rfl));intro gb1 hg w14 hbox hb;have BK1:=Za (hbox);have GW1:=Za ((by rw[hg];exact(Zv (by repeat(first|(with_reducible first|exact HB.out|apply Zo|apply Zm|apply Zp)|exact HB.out))):w.heap.size≤gb1));have GE1:=Za ((by rw[hg];exact(Zv (by repeat(first|(with_reducible first|exact HB.out|apply Zo|apply Zm|apply Zp)|exact HB.out))):w.heap.size≤gb1));replace HB:=Za (Zq (by repeat(first|(with_reducible first|exact HB.out|apply Zo|apply Zm|apply Zp)|exact HB.out)) hb);clear hb hbox hg;have hcz15_0:w14.cell? ⟨gb1,0,none⟩=some (.int .i64 a0_0):=(Zn BK1.out 0).trans rfl;have hcz15_1:w14.cell? ⟨gb1,1,none⟩=some (.int .i64 a0_1):=(Zn BK1.out 1).trans rfl))
  go_ret
  exact⟨by first|rfl|(simp[ZB,ZA] <;> rfl)|(simp[*,ZB,ZA] <;> rfl),by repeat(first|(with_reducible first|exact HB.out|apply Zo|apply Zm|apply Zp|refine Zs ?_ GE1.out)|exact HB.out)⟩
def ivOkB (lo hi:Int):Bool:=decide (-1000000≤lo) && (decide (lo≤hi) && (decide (hi≤1000000) && (!(decide (lo=1000000)) && !(decide (hi=-1000000)))))
theorem ivOk_f (lo hi:Int):Zcv.f lo hi=some (ivOkB lo hi):=by
 unfold Zcv.f ivOkB
 by_cases h1:lo≥-1000000
 ·rw[if_pos h1,Ze (show(-1000000:Int)≤lo from h1),Bool.true_and]
  by_cases h2:lo≤hi
  ·rw[if_pos h2,Ze h2,Bool.true_and]
   by_cases h3:hi≤1000000
   ·rw[if_pos h3,Ze h3,Bool.true_and]
    by_cases h4:lo=1000000
    ·rw[if_pos h4,Ze h4];rfl
    ·rw[if_neg h4,Zf h4]
     congr 1
   ·rw[if_neg h3,Zf h3];rfl
  ·rw[if_neg h2,Zf h2];rfl
 ·rw[if_neg h1,Zf (show ¬(-1000000:Int)≤lo from h1)];rfl
def ZbU (n:Int) (x:S112):Bool:=inN n x.f0 && (inN n x.f1 && ivOkB x.f2.f0 x.f2.f1)
def ZaI (n:Int) (ls:List S112):Bool:=!(decide (n<1)) && (!(decide (8<n)) && (!(decide (40<ls.length)) && !(ls.any fun x=>!ZbU n x)))
def Za7.f (a0_0:Int) (l0_1:List (S112)):Option Bool:=some (ZaI a0_0 l0_1)
theorem ZfM.clo (B:Nat) (n:Int) (W:World) (hB:W.cell? ⟨B,0,none⟩=some (.int .i64 n)) (x:S112) :
  Calls Tryz.prog 165 #[.agg #[.int .i64 x.f0,.int .i64 x.f1,.int .i64 x.f2.f0,.int .i64 x.f2.f1],.pointer (some ⟨B,0,none⟩)] W fun e w'=>e=.returned (.bool (!ZbU n x))∧Below W.heap.size W w':=by
 have hlt:B<W.heap.size:=Zc W _ hB
 have hu:=Tryz.underlying112
 have hu2:=Tryz.underlying110
 have hu3:=Tryz.underlying54
 obtain⟨f0,f1,⟨f2,f3⟩⟩:=x
 have HE:=Za (show ZbU n ⟨f0,f1,⟨f2,f3⟩⟩=(inN n f0 && (inN n f1 && ivOkB f2 f3)) from rfl)
 have HI:=Za fun (w:World)=>Zcv.calls f2 f3 _ w (ivOk_f f2 f3)
 cases b1:inN n f0 with
 | false=>
  have HF:=Za (show ZbU n ⟨f0,f1,⟨f2,f3⟩⟩=false by rw[HE.out,b1];rfl)
  clear HE
  go_enter Tryz.func165,Tryz.ntmps165
  go_wp2_with (go_at_call 84;refine(Zdt _ _ _).mono ?_;rintro e w' ⟨rfl,nd,rfl⟩)
  go_ret
  exact⟨by rw[HF.out];rfl,by repeat(first|exact Below.refl _ _|apply Zo|apply Zm|apply ZaN)⟩
 | true=>
 cases b2:inN n f1 with
 | false=>
  have HF:=Za (show ZbU n ⟨f0,f1,⟨f2,f3⟩⟩=false by rw[HE.out,b1,b2];rfl)
  clear HE
  go_enter Tryz.func165,Tryz.ntmps165
  go_wp2_with (go_at_call 84;refine(Zdt _ _ _).mono ?_;rintro e w' ⟨rfl,nd,rfl⟩)
  go_ret
  exact⟨by rw[HF.out];rfl,by repeat(first|exact Below.refl _ _|apply Zo|apply Zm|apply ZaN)⟩
 | true=>
 have HF:=Za (show ZbU n ⟨f0,f1,⟨f2,f3⟩⟩=ivOkB f2 f3 by rw[HE.out,b1,b2];rfl)
 clear HE
 go_enter Tryz.func165,Tryz.ntmps165
 go_wp2_with (first|(go_at_call 84;refine(Zdt _ _ _).mono ?_;rintro e w' ⟨rfl,nd,rfl⟩)|(go_at_call 166;refine(HI.out _).mono ?_;rintro e w' ⟨rfl,hb⟩))
 go_ret
 exact⟨by rw[HF.out];rfl,Zq (by repeat(first|exact Below.refl _ _|apply Zo|apply Zm|apply ZaN)) hb⟩
theorem Za7.calls (a0_0:Int) (A0_1:Option Addr) (c0_1:Nat) (l0_1:List (S112)) (r:Bool) (w:World) (hr0_1:Kd.C k112 w A0_1 l0_1.length l0_1) (hc0_1:l0_1.length≤c0_1) (h:Za7.f a0_0 l0_1=some r) :
  Calls Tryz.prog 105 #[.agg #[.int .i64 a0_0,.slice A0_1 l0_1.length c0_1]] w fun e w'=>e=.returned (.bool r)∧Below w.heap.size w w':=by
 obtain rfl:=Zg h
 have hL:l0_1.length≤9223372036854775807:=hr0_1.2.1
 have HC:=Za fun (W:World) (B:Nat) (hb:Below w.heap.size w W) (hcell:W.cell? ⟨B,0,none⟩=some (.int .i64 a0_0))=>ZgP.any (fun x=>!ZbU a0_0 x) 165 #[.pointer (some ⟨B,0,none⟩)] (enters_of Tryz.func165 (by kernel_rfl) rfl) A0_1 c0_1 l0_1 W (Zb hr0_1 hb)
    (fun W' x _ hb'=>ZfM.clo B a0_0 W' (Zx hb' hcell) x)
 have hu:=Tryz.underlying54
 have HB:=Za (Zo (Below.refl w.heap.size w) (.cells #[.int .i64 a0_0,.slice A0_1 l0_1.length c0_1] 54))
 clear hr0_1 h
 cases b1:decide (a0_0<1) with
 | true=>
  have HF:=Za (show ZaI a0_0 l0_1=false by unfold ZaI;rw[b1];rfl)
  go_enter Tryz.func105,Tryz.ntmps105
  go_wp2
  go_ret
  exact⟨by rw[HF.out];rfl,HB.out⟩
 | false=>
 cases b2:decide (8<a0_0) with
 | true=>
  have HF:=Za (show ZaI a0_0 l0_1=false by unfold ZaI;rw[b1,b2];rfl)
  go_enter Tryz.func105,Tryz.ntmps105
  go_wp2
  go_ret
  exact⟨by rw[HF.out];rfl,HB.out⟩
 | false=>
 by_cases q3:40<l0_1.length
 ·have b3:decide (40<l0_1.length)=true:=Ze q3
  have z3:(40:Int)<(l0_1.length:Int):=by omega
  have HF:=Za (show ZaI a0_0 l0_1=false by unfold ZaI;rw[b1,b2,b3];rfl)
  clear b3 q3
  go_enter Tryz.func105,Tryz.ntmps105
  go_wp2
  go_ret
  exact⟨by rw[HF.out];rfl,HB.out⟩
 ·have b3:decide (40<l0_1.length)=false:=Zf q3
  have z3:¬(40:Int)<(l0_1.length:Int):=by omega
  have HF:=Za (show ZaI a0_0 l0_1=!(l0_1.any fun x=>!ZbU a0_0 x) by unfold ZaI;rw[b1,b2,b3];rfl)
  clear b3 q3
  generalize l0_1.any (fun x=>!ZbU a0_0 x)=q at HC HF
  go_enter Tryz.func105,Tryz.ntmps105
  go_wp2_with fail
  refine(HC.out _ _ HB.out (by go_simp)).mono ?_
  rintro e w' ⟨rfl,hb⟩
  go_wp2
  go_ret
  exact⟨by rw[HF.out];rfl,HB.out.trans (hb.mono HB.out.size)⟩
def ZcS.f (a0_0:Int) (a0_1:Int):Option (Bool):=if a0_0≥(-1000000) then(if a0_0≤a0_1 then(if a0_1≤1000000 then(if a0_0=1000000 then(some false) else(some (a0_1 != (-1000000)))) else(some false)) else(some false)) else(some false)
theorem ZcS.calls (a0_0:Int) (a0_1:Int) (r:Bool) (w:World) (h:ZcS.f a0_0 a0_1=some r) :
  Calls Tryz.prog 157 #[.agg #[.int .i64 a0_0,.int .i64 a0_1]] w fun e w'=>e=.returned (.bool r)∧Below w.heap.size w w':=by
 have hu110:=Tryz.underlying110
 have HB:=Za (Below.refl w.heap.size w)
 have H:(if a0_0≥(-1000000) then(if a0_0≤a0_1 then(if a0_1≤1000000 then(if a0_0=1000000 then(some false) else(some (a0_1 != (-1000000)))) else(some false)) else(some false)) else(some false))=some r:=h
 clear h
 by_cases c2:a0_0≥(-1000000)
 ·rw[if_pos c2] at H
  have c2b0:decide ((-1000000)≤a0_0)=true:=Ze c2
  clear c2
  by_cases c3:a0_0≤a0_1
  ·rw[if_pos c3] at H
   have c3b0:decide (a0_0≤a0_1)=true:=Ze c3
   clear c3
   by_cases c4:a0_1≤1000000
   ·rw[if_pos c4] at H
    have c4b0:decide (a0_1≤1000000)=true:=Ze c4
    clear c4
    by_cases c5:a0_0=1000000
    ·rw[if_pos c5] at H
     have c5b0:(a0_0 == 1000000)=true:=beq_iff_eq.mpr c5
     have c5b1:(a0_0 != 1000000)=false:=bne_eq_false_iff_eq.mpr c5
     clear c5
     obtain rfl:=Zg H
     go_enter Tryz.func157,Tryz.ntmps157
     go_wp2_with (first|((with_reducible refine ZG (N:=1) rfl ?_);refine ZH ?hg (N:=1) ?hd (cs:=#[.int .i64 a0_0,.int .i64 a0_1]) (t:=110) ?hr ?_;(case hd=>rfl);(case hg=>rfl);(case hr=>first|(go_simp;done)|(go_simp;rfl));intro gb1 hg w6 hbox hb;have BK1:=Za (hbox);have GW1:=Za ((by rw[hg];exact(Zv (by repeat(first|(with_reducible first|exact HB.out|apply Zo|apply Zm|apply Zp)|exact HB.out))):w.heap.size≤gb1));have GE1:=Za ((by rw[hg];exact(Zv (by repeat(first|(with_reducible first|exact HB.out|apply Zo|apply Zm|apply Zp)|exact HB.out))):w.heap.size≤gb1));replace HB:=Za (Zq (by repeat(first|(with_reducible first|exact HB.out|apply Zo|apply Zm|apply Zp)|exact HB.out)) hb);clear hb hbox hg;have hcz7_0:w6.cell? ⟨gb1,0,none⟩=some (.int .i64 a0_0):=(Zn BK1.out 0).trans rfl;have hcz7_1:w6.cell? ⟨gb1,1,none⟩=some (.int .i64 a0_1):=(Zn BK1.out 1).trans rfl))
     go_ret
     exact⟨by first|rfl|(simp[ZB,ZA] <;> rfl)|(simp[*,ZB,ZA] <;> rfl),by repeat(first|(with_reducible first|exact HB.out|apply Zo|apply Zm|apply Zp|refine Zs ?_ GE1.out)|exact HB.out)⟩
    ·rw[if_neg c5] at H
     have c5b0:(a0_0 == 1000000)=false:=beq_eq_false_iff_ne.mpr c5
     have c5b1:(a0_0 != 1000000)=true:=bne_iff_ne.mpr c5
     obtain rfl:=Zg H
     go_enter Tryz.func157,Tryz.ntmps157
     go_wp2_with (first|((with_reducible refine ZG (N:=1) rfl ?_);refine ZH ?hg (N:=1) ?hd (cs:=#[.int .i64 a0_0,.int .i64 a0_1]) (t:=110) ?hr ?_;(case hd=>rfl);(case hg=>rfl);(case hr=>first|(go_simp;done)|(go_simp;rfl));intro gb1 hg w8 hbox hb;have BK1:=Za (hbox);have GW1:=Za ((by rw[hg];exact(Zv (by repeat(first|(with_reducible first|exact HB.out|apply Zo|apply Zm|apply Zp)|exact HB.out))):w.heap.size≤gb1));have GE1:=Za ((by rw[hg];exact(Zv (by repeat(first|(with_reducible first|exact HB.out|apply Zo|apply Zm|apply Zp)|exact HB.out))):w.heap.size≤gb1));replace HB:=Za (Zq (by repeat(first|(with_reducible first|exact HB.out|apply Zo|apply Zm|apply Zp)|exact HB.out)) hb);clear hb hbox hg;have hcz9_0:w8.cell? ⟨gb1,0,none⟩=some (.int .i64 a0_0):=(Zn BK1.out 0).trans rfl;have hcz9_1:w8.cell? ⟨gb1,1,none⟩=some (.int .i64 a0_1):=(Zn BK1.out 1).trans rfl))
     go_ret
     exact⟨by first|rfl|(simp[ZB,ZA] <;> rfl)|(simp[*,ZB,ZA] <;> rfl),by repeat(first|(with_reducible first|exact HB.out|apply Zo|apply Zm|apply Zp|refine Zs ?_ GE1.out)|exact HB.out)⟩
   ·rw[if_neg c4] at H
    have c4b0:decide (a0_1≤1000000)=false:=Zf c4
    clear c4
    obtain rfl:=Zg H
    go_enter Tryz.func157,Tryz.ntmps157
    go_wp2_with (first|((with_reducible refine ZG (N:=1) rfl ?_);refine ZH ?hg (N:=1) ?hd (cs:=#[.int .i64 a0_0,.int .i64 a0_1]) (t:=110) ?hr ?_;(case hd=>rfl);(case hg=>rfl);(case hr=>first|(go_simp;done)|(go_simp;rfl));intro gb1 hg w10 hbox hb;have BK1:=Za (hbox);have GW1:=Za ((by rw[hg];exact(Zv (by repeat(first|(with_reducible first|exact HB.out|apply Zo|apply Zm|apply Zp)|exact HB.out))):w.heap.size≤gb1));have GE1:=Za ((by rw[hg];exact(Zv (by repeat(first|(with_reducible first|exact HB.out|apply Zo|apply Zm|apply Zp)|exact HB.out))):w.heap.size≤gb1));replace HB:=Za (Zq (by repeat(first|(with_reducible first|exact HB.out|apply Zo|apply Zm|apply Zp)|exact HB.out)) hb);clear hb hbox hg;have hcz11_0:w10.cell? ⟨gb1,0,none⟩=some (.int .i64 a0_0):=(Zn BK1.out 0).trans rfl;have hcz11_1:w10.cell? ⟨gb1,1,none⟩=some (.int .i64 a0_1):=(Zn BK1.out 1).trans rfl))
    go_ret
    exact⟨by first|rfl|(simp[ZB,ZA] <;> rfl)|(simp[*,ZB,ZA] <;> rfl),by repeat(first|(with_reducible first|exact HB.out|apply Zo|apply Zm|apply Zp|refine Zs ?_ GE1.out)|exact HB.out)⟩
  ·rw[if_neg c3] at H
   have c3b0:decide (a0_0≤a0_1)=false:=Zf c3
   clear c3
   obtain rfl:=Zg H
   go_enter Tryz.func157,Tryz.ntmps157
   go_wp2_with (first|((with_reducible refine ZG (N:=1) rfl ?_);refine ZH ?hg (N:=1) ?hd (cs:=#[.int .i64 a0_0,.int .i64 a0_1]) (t:=110) ?hr ?_;(case hd=>rfl);(case hg=>rfl);(case hr=>first|(go_simp;done)|(go_simp;rfl));intro gb1 hg w12 hbox hb;have BK1:=Za (hbox);have GW1:=Za ((by rw[hg];exact(Zv (by repeat(first|(with_reducible first|exact HB.out|apply Zo|apply Zm|apply Zp)|exact HB.out))):w.heap.size≤gb1));have GE1:=Za ((by rw[hg];exact(Zv (by repeat(first|(with_reducible first|exact HB.out|apply Zo|apply Zm|apply Zp)|exact HB.out))):w.heap.size≤gb1));replace HB:=Za (Zq (by repeat(first|(with_reducible first|exact HB.out|apply Zo|apply Zm|apply Zp)|exact HB.out)) hb);clear hb hbox hg;have hcz13_0:w12.cell? ⟨gb1,0,none⟩=some (.int .i64 a0_0):=(Zn BK1.out 0).trans rfl;have hcz13_1:w12.cell? ⟨gb1,1,none⟩=some (.int .i64 a0_1):=(Zn BK1.out 1).trans rfl))
   go_ret
   exact⟨by first|rfl|(simp[ZB,ZA] <;> rfl)|(simp[*,ZB,ZA] <;> rfl),by repeat(first|(with_reducible first|exact HB.out|apply Zo|apply Zm|apply Zp|refine Zs ?_ GE1.out)|exact HB.out)⟩
 ·rw[if_neg c2] at H
  have c2b0:decide ((-1000000)≤a0_0)=false:=Zf c2
  clear c2
  obtain rfl:=Zg H
  go_enter Tryz.func157,Tryz.ntmps157
  go_wp2_with (first|((with_reducible refine ZG (N:=1) rfl ?_);refine ZH ?hg (N:=1) ?hd (cs:=#[.int .i64 a0_0,.int .i64 a0_1]) (t:=110) ?hr ?_;(case hd=>rfl);(case hg=>rfl);(case hr=>first|(go_simp;done)|(go_simp;rfl));intro gb1 hg w14 hbox hb;have BK1:=Za (hbox);have GW1:=Za ((by rw[hg];exact(Zv (by repeat(first|(with_reducible first|exact HB.out|apply Zo|apply Zm|apply Zp)|exact HB.out))):w.heap.size≤gb1));have GE1:=Za ((by rw[hg];exact(Zv (by repeat(first|(with_reducible first|exact HB.out|apply Zo|apply Zm|apply Zp)|exact HB.out))):w.heap.size≤gb1));replace HB:=Za (Zq (by repeat(first|(with_reducible first|exact HB.out|apply Zo|apply Zm|apply Zp)|exact HB.out)) hb);clear hb hbox hg;have hcz15_0:w14.cell? ⟨gb1,0,none⟩=some (.int .i64 a0_0):=(Zn BK1.out 0).trans rfl;have hcz15_1:w14.cell? ⟨gb1,1,none⟩=some (.int .i64 a0_1):=(Zn BK1.out 1).trans rfl))
  go_ret
  exact⟨by first|rfl|(simp[ZB,ZA] <;> rfl)|(simp[*,ZB,ZA] <;> rfl),by repeat(first|(with_reducible first|exact HB.out|apply Zo|apply Zm|apply Zp|refine Zs ?_ GE1.out)|exact HB.out)⟩
theorem sivOk_f (lo hi:Int):ZcS.f lo hi=some (ivOkB lo hi):=ivOk_f lo hi
theorem slink_ok {n:Int} (h0:1≤n) (h8:n≤8) (y:S112):(inR y.f0 0 (wrap64 (n - 1)) && (inR y.f1 0 (wrap64 (n - 1)) && ivOkB y.f2.f0 y.f2.f1))=ZbU n y:=by
 rw[Zay (by omega) (by omega)]
 unfold ZbU
 rw[show inR y.f0 0 (n - 1)=inN n y.f0 by unfold inR inN;rw[Bool.eq_iff_iff];simp only[Bool.and_eq_true,decide_eq_true_eq];omega,show inR y.f1 0 (n - 1)=inN n y.f1 by unfold inR inN;rw[Bool.eq_iff_iff];simp only[Bool.and_eq_true,decide_eq_true_eq];omega]
def ZaU.f (_k:Nat) (a0_0:Int) (l0_1:List (S112)):Option Bool:=some (ZaI a0_0 l0_1)
theorem ZaU.calls (k:Nat) (a0_0:Int) (A0_1:Option Addr) (c0_1:Nat) (l0_1:List (S112)) (r:Bool) (w:World) (hr0_1:Kd.C k112 w A0_1 l0_1.length l0_1) (hc0_1:l0_1.length≤c0_1) (h:ZaU.f k a0_0 l0_1=some r) :
  Calls Tryz.prog 99 #[.agg #[.int .i64 a0_0,.slice A0_1 l0_1.length c0_1]] w fun e w'=>e=.returned (.bool r)∧Below w.heap.size w w':=by
 obtain rfl:=Zg h
 have HR0:=Za hr0_1
 have HN0:=Za (show l0_1.length≤9223372036854775807 from hr0_1.2.1)
 have HB0:=Za (Zo (Below.refl w.heap.size w) (.cells #[.int .i64 a0_0,.slice A0_1 l0_1.length c0_1] 54))
 have hu:=Tryz.underlying112
 have hu2:=Tryz.underlying110
 have hu3:=Tryz.underlying54
 clear hr0_1 hc0_1 h
 cases b1:inR a0_0 1 8 with
 | false=>
  have HE:=Za (show ZaI a0_0 l0_1=false by
   unfold inR at b1
   unfold ZaI
   by_cases h3:a0_0<1
   ·rw[Ze h3];rfl
   ·rw[Zf h3,Ze (show 8<a0_0 by
     rw[Ze (show 1≤a0_0 by omega),Bool.true_and] at b1
     have:=of_decide_eq_false b1;omega)];rfl)
  go_enter Tryz.func99,Tryz.ntmps99
  go_wp2_with (go_at_call 127;refine(inR_q _ _ _ _).mono ?_;rintro e w' ⟨rfl,nd,rfl⟩)
  go_ret
  exact⟨by rw[HE.out];rfl,by repeat(first|exact HB0.out|apply Zo|apply Zm|apply Zp)⟩
 | true=>
 have hN:1≤a0_0∧a0_0≤8:=by
  unfold inR at b1
  simpa using b1
 have HNN:=Za hN
 cases b2:decide ((40:Int)<(l0_1.length:Int)) with
 | true=>
  have HE:=Za (show ZaI a0_0 l0_1=false by
   unfold ZaI
   rw[Zf (show ¬a0_0<1 by omega),Zf (show ¬8<a0_0 by omega),Ze (show 40<l0_1.length by have:=Zd b2;omega)];rfl)
  clear hN
  go_enter Tryz.func99,Tryz.ntmps99
  go_wp2_with (go_at_call 127;refine(inR_q _ _ _ _).mono ?_;rintro e w' ⟨rfl,nd,rfl⟩)
  go_ret
  exact⟨by rw[HE.out];rfl,by repeat(first|exact HB0.out|apply Zo|apply Zm|apply Zp)⟩
 | false=>
 have HE0:=Za (show ZaI a0_0 l0_1=!((l0_1.drop 0).any fun x=>!ZbU a0_0 x) by
  unfold ZaI
  rw[Zf (show ¬a0_0<1 by omega),Zf (show ¬8<a0_0 by omega),Zf (show ¬40<l0_1.length by have:=of_decide_eq_false b2;omega)];rfl)
 clear hN
 go_enter Tryz.func99,Tryz.ntmps99
 go_wp2_with (go_at_call 127;refine(inR_q _ _ _ _).mono ?_;rintro e w' ⟨rfl,nd,rfl⟩)
 clear b1 b2
 go_loopg [18] l0_1.length (fun gg s18 wr=>∃kk:Nat,s18=.int .i64 (kk:Int)∧Aside0 (kk≤l0_1.length)∧Aside0 (l0_1.length - kk≤gg)∧Aside0 (Below w.heap.size w wr)∧Aside0 (wr.cell? ⟨w.heap.size,0,none⟩=some (.int .i64 a0_0))∧Aside0 (ZaI a0_0 l0_1=!((l0_1.drop kk).any fun x=>!ZbU a0_0 x)))
 case atStart=>exact⟨0,rfl,⟨Nat.zero_le _⟩,⟨by omega⟩,⟨by repeat(first|exact HB0.out|apply Zo|apply Zm|apply Zp)⟩,⟨by go_simp⟩,HE0⟩
 case round=>
 clear HE0
 obtain⟨kk,rfl,HK,HG,HBr,HX,HE⟩:=hrel
 have k0:=HX.out
 have hk0:=Zc wr _ k0
 by_cases hlt:kk<l0_1.length
 ·have hltz:(kk:Int)<(l0_1.length:Int):=by omega
  obtain⟨ad,e1,hx0,hx1,hx2,hx3⟩:=Zfa (Zb HR0.out HBr.out) (kk:Int) (by omega) hltz
  cases e1
  have hrd:(Zcf l0_1 (kk:Int))=l0_1.getD kk z112:=by unfold Zcf;rw[Int.toNat_natCast]
  rw[hrd] at hx0 hx1 hx2 hx3
  rw[Int.toNat_natCast] at hx0 hx1 hx2 hx3
  have HD:=HE.out
  rw[Z8 hlt z112,List.any_cons,← slink_ok HNN.out.1 HNN.out.2] at HD
  clear hrd HE
  generalize l0_1.getD kk z112=x at hx0 hx1 hx2 hx3 HD
  obtain⟨f0,f1,⟨f2,f3⟩⟩:=x
  dsimp only at hx0 hx1 hx2 hx3 HD
  have hlta:=Zc wr _ hx0
  have HDA:=Za HD;clear HD
  cases c1:inR f0 0 (wrap64 (a0_0 - 1)) with
  | false=>
   have HF:=Za (show ZaI a0_0 l0_1=false by rw[HDA.out,c1];rfl)
   clear HDA
   go_wp2_with (go_at_call 127;refine(inR_q _ _ _ _).mono ?_;rintro e w' ⟨rfl,nd,rfl⟩)
   go_ret
   exact⟨by rw[HF.out];rfl,by repeat(first|(with_reducible first|exact HBr.out|apply Zo|apply Zm|apply Zp)|exact HBr.out)⟩
  | true=>
  cases c2:inR f1 0 (wrap64 (a0_0 - 1)) with
  | false=>
   have HF:=Za (show ZaI a0_0 l0_1=false by rw[HDA.out,c1,c2];rfl)
   clear HDA
   go_wp2_with (go_at_call 127;refine(inR_q _ _ _ _).mono ?_;rintro e w' ⟨rfl,nd,rfl⟩)
   go_ret
   exact⟨by rw[HF.out];rfl,by repeat(first|(with_reducible first|exact HBr.out|apply Zo|apply Zm|apply Zp)|exact HBr.out)⟩
  | true=>
  rw[c1,c2] at HDA
  have HI:=Za fun (W:World)=>ZcS.calls f2 f3 _ W (sivOk_f f2 f3)
  generalize ivOkB f2 f3=q at HI HDA
  cases q with
  | false=>
   have HF:=Za (show ZaI a0_0 l0_1=false by rw[HDA.out];rfl)
   clear HDA
   go_wp2_with (first|(go_at_call 127;refine(inR_q _ _ _ _).mono ?_;rintro e w' ⟨rfl,nd,rfl⟩)|(go_at_call 157;refine(HI.out _).mono ?_;rintro e w' ⟨rfl,hb⟩))
   go_ret
   exact⟨by rw[HF.out];rfl,Zq (by repeat(first|(with_reducible first|exact HBr.out|apply Zo|apply Zm|apply Zp)|exact HBr.out)) hb⟩
  | true=>
   have HF:=Za (show ZaI a0_0 l0_1=!((l0_1.drop (kk+1)).any fun x=>!ZbU a0_0 x) by rw[HDA.out];rfl)
   clear HDA
   go_wp2_with (first|(go_at_call 127;refine(inR_q _ _ _ _).mono ?_;rintro e w' ⟨rfl,nd,rfl⟩)|(go_at_call 157;refine(HI.out _).mono ?_;rintro e w' ⟨rfl,hb⟩))
   go_roundg (l0_1.length - (kk+1))
   case measure=>have:=HG.out;omega
   case rel=>exact⟨kk+1,by rw[ZL hlt HN0.out],⟨by omega⟩,⟨by omega⟩,⟨Zq (by repeat(first|(with_reducible first|exact HBr.out|apply Zo|apply Zm|apply Zp)|exact HBr.out)) hb⟩,⟨Zx hb (by go_simp)⟩,HF⟩
 ·obtain rfl:kk=l0_1.length:=by have:=HK.out;omega
  have HF:=Za (show ZaI a0_0 l0_1=true by rw[HE.out,List.drop_length];rfl)
  clear HE hlt
  go_wp2
  go_ret
  exact⟨by rw[HF.out];rfl,HBr.out⟩
def Zbj.f (k:Nat) (a0_0:Int) (l0_1:List (S112)):Option (Int×(List (S184))):=(ZaU.f k a0_0 l0_1).bind fun t3=>(if t3=true then((Zbo.f k a0_0 l0_1).bind fun bt4=>(some (a0_0,bt4.1))) else(some (0,([]:List (S184)))))
theorem Zbj.calls (k:Nat) (a0_0:Int) (A0_1:Option Addr) (c0_1:Nat) (l0_1:List (S112)) (r1:Int) (r2:List (S184)) (w:World) (hr0_1:Kd.C k112 w A0_1 l0_1.length l0_1) (hc0_1:l0_1.length≤c0_1) (h:Zbj.f k a0_0 l0_1=some (r1,r2)) :
  Calls Tryz.prog 169 #[.agg #[.int .i64 a0_0,.slice A0_1 l0_1.length c0_1]] w fun e w'=>∃v1_:Value,e=.returned (.agg #[.int .i64 r1,v1_])∧Kd.R k184 184 w' w.heap.size (fun _=>True) v1_ r2∧Below w.heap.size w w':=by
 have hu54:=Tryz.underlying54
 have hu156:=Tryz.underlying156
 have HR0_1:=Za hr0_1;have HC0_1:=Za hc0_1;clear hr0_1 hc0_1
 have HB:=Za (Below.refl w.heap.size w)
 have H:((ZaU.f k a0_0 l0_1).bind fun t3=>(if t3=true then((Zbo.f k a0_0 l0_1).bind fun bt4=>(some (a0_0,bt4.1))) else(some (0,([]:List (S184))))))=some (r1,r2):=h
 clear h
 replace H:=Zh H
 obtain⟨t3,A20,H⟩:=H;have A2:=Za A20;clear A20
 by_cases c3:t3=true
 ·subst c3
  rw[if_pos rfl] at H
  replace H:=Zh H
  obtain⟨⟨t4,t7⟩,A40,H⟩:=H;have A4:=Za A40;clear A40
  simp only[Option.some.injEq,Prod.mk.injEq] at H
  obtain⟨rfl,rfl⟩:=H
  go_enter Tryz.func169,Tryz.ntmps169
  go_wp2_with (first|((with_reducible refine ZG (N:=1) rfl ?_);refine ZH ?hg (N:=1) ?hd (cs:=#[.int .i64 a0_0,.slice A0_1 l0_1.length c0_1]) (t:=54) ?hr ?_;(case hd=>rfl);(case hg=>rfl);(case hr=>first|(go_simp;done)|(go_simp;rfl));intro gb1 hg w5 hbox hb;have BK1:=Za (hbox);have GW1:=Za ((by rw[hg];exact(Zv (by exact HB.out)):w.heap.size≤gb1));have GE1:=Za ((by rw[hg];exact(Zv (by exact HB.out)):w.heap.size≤gb1));replace HB:=Za (Zq (by exact HB.out) hb);clear hb hbox hg)|((with_reducible refine ZG (N:=2) rfl ?_);refine ZH ?hg (N:=2) ?hd (cs:=#[.int .i64 0,.slice none 0 0]) (t:=156) ?hr ?_;(case hd=>rfl);(case hg=>rfl);(case hr=>first|(go_simp;done)|(go_simp;rfl));intro gb2 hg w6 hbox hb;have BK2:=Za (hbox);have GW2:=Za ((by rw[hg];exact(Zv (by exact HB.out)):w.heap.size≤gb2));have GE2:=Za ((by rw[hg];exact(Zv (by exact HB.out)):w.heap.size≤gb2));have NB1_2:=Za ((by rw[hg];exact Nat.ne_of_lt (ZK (g:=gb1) (o:=.cells #[.int .i64 a0_0,.slice A0_1 l0_1.length c0_1] 54 (0,0)) (by exact BK1.out)):gb1≠gb2));have NB2_1:=Za ((by rw[hg];exact Nat.ne_of_gt (ZK (g:=gb1) (o:=.cells #[.int .i64 a0_0,.slice A0_1 l0_1.length c0_1] 54 (0,0)) (by exact BK1.out)):gb2≠gb1));replace BK1:=Za (Zw (g:=gb1) (o:=.cells #[.int .i64 a0_0,.slice A0_1 l0_1.length c0_1] 54 (0,0)) (by exact BK1.out) hb);replace HB:=Za (Zq (by exact HB.out) hb);clear hb hbox hg;have hcz8_0:w6.cell? ⟨gb1,0,none⟩=some (.int .i64 a0_0):=(Zn BK1.out 0).trans rfl;have hcz8_1:w6.cell? ⟨gb1,1,none⟩=some (.slice A0_1 l0_1.length c0_1):=(Zn BK1.out 1).trans rfl;have hfz8_0:=Zt BK1.out 0;have hfz8_1:=Zt BK1.out 1)|((with_reducible refine ZJ (f:=99) rfl ?_);refine ZY (some 6) rfl rfl Tryz.func99 (by kernel_rfl) rfl #[.agg #[.int .i64 a0_0,.slice A0_1 l0_1.length c0_1]] rfl (by(try simp only[List.map_toArray,List.map_cons,List.map_nil]);first|done|rfl|(simp only[Zk,Zj];rfl)) ?_;(with_reducible refine(ZaU.calls k a0_0 _ _ l0_1 true _ ?side1 ?side2 A2.out).mono ?_);(case side1=>exact(Zb HR0_1.out HB.out));(case side2=>exact HC0_1.out);rintro e w9 ⟨rfl,hb⟩;refine⟨_,rfl,?_⟩;replace BK1:=Za (Zw (g:=gb1) (o:=.cells #[.int .i64 a0_0,.slice A0_1 l0_1.length c0_1] 54 (0,0)) (by exact BK1.out) hb);replace BK2:=Za (Zw (g:=gb2) (o:=.cells #[.int .i64 0,.slice none 0 0] 156 (0,0)) (by exact BK2.out) hb);replace HB:=Za (Zq (by exact HB.out) hb);have hcz10_0:w9.cell? ⟨gb1,0,none⟩=some (.int .i64 a0_0):=(Zn BK1.out 0).trans rfl;have hcz10_1:w9.cell? ⟨gb1,1,none⟩=some (.slice A0_1 l0_1.length c0_1):=(Zn BK1.out 1).trans rfl;have hfz10_0:=Zt BK1.out 0;have hfz10_1:=Zt BK1.out 1)|((with_reducible refine ZJ (f:=173) rfl ?_);refine ZY (some 11) rfl rfl Tryz.func173 (by kernel_rfl) rfl #[.agg #[.int .i64 a0_0,.slice A0_1 l0_1.length c0_1]] rfl (by(try simp only[List.map_toArray,List.map_cons,List.map_nil]);first|done|rfl|(simp only[Zk,Zj];rfl)) ?_;(with_reducible refine(Zbo.calls k a0_0 _ _ l0_1 t4 t7 _ ?side1 ?side2 A4.out).mono ?_);(case side1=>exact(Zb HR0_1.out HB.out));(case side2=>exact HC0_1.out);rintro e w11 ⟨v5,v8,rfl,ho0,ho1,hb⟩;refine⟨_,rfl,?_⟩;have HO6:=Za (Kd.R_lower ho0 (Zv (by exact HB.out)));have HO9:=Za (Kd.R_lower ho1 (Zv (by exact HB.out)));replace BK1:=Za (Zw (g:=gb1) (o:=.cells #[.int .i64 a0_0,.slice A0_1 l0_1.length c0_1] 54 (0,0)) (by exact BK1.out) hb);replace BK2:=Za (Zw (g:=gb2) (o:=.cells #[.int .i64 0,.slice none 0 0] 156 (0,0)) (by exact BK2.out) hb);replace HB:=Za (Zq (by exact HB.out) hb);have hcz12_0:w11.cell? ⟨gb1,0,none⟩=some (.int .i64 a0_0):=(Zn BK1.out 0).trans rfl;have hcz12_1:w11.cell? ⟨gb1,1,none⟩=some (.slice A0_1 l0_1.length c0_1):=(Zn BK1.out 1).trans rfl;have hfz12_0:=Zt BK1.out 0;have hfz12_1:=Zt BK1.out 1;obtain⟨Ao13,co13,eo13⟩:=Kd.R_slice HO6.out;subst eo13;have hcz14_0:w11.cell? ⟨gb2,0,none⟩=some (.int .i64 0):=(Zn BK2.out 0).trans rfl;have hcz14_1:w11.cell? ⟨gb2,1,none⟩=some (.slice none 0 0):=(Zn BK2.out 1).trans rfl;have hfz14_0:=Zt BK2.out 0;have hfz14_1:=Zt BK2.out 1))
  refine bodyPost_ret (results_cell_row rfl _ _ gb2 156 #[.int .i64 a0_0,.slice Ao13 t4.length co13] (0,0) _ rfl (by(with_reducible repeat(first|refine ZD ?_ _|refine ZE ?_|refine ZC ?_ _));refine ZW (cs:=#[.int .i64 a0_0,.slice none 0 0]) ?_ 1 _ rfl;(with_reducible repeat(first|refine ZD ?_ _|refine ZE ?_|refine ZC ?_ _));refine ZW (cs:=#[.int .i64 0,.slice none 0 0]) ?_ 0 _ rfl;(with_reducible repeat(first|refine ZD ?_ _|refine ZE ?_|refine ZC ?_ _));exact BK2.out) Tryz.underlying156 rfl (by kernel_rfl)) rfl ?_
  exact⟨_,by first|rfl|(simp[ZB,ZA] <;> rfl)|(simp[*,ZB,ZA] <;> rfl),by(with_reducible repeat(first|apply Kd.R_alloc|apply Kd.R_drewN|apply Kd.R_drew));exact Kd.R_mono (Kd.R_far (p:=⟨gb2,1,none⟩) (Kd.R_far (p:=⟨gb2,0,none⟩) (Kd.R_types HO6.out BK2.out (by decide)) (fun _ hk=>hk.2) (.int .i64 a0_0)) (fun _ hk=>hk.2) (.slice Ao13 t4.length co13)) (fun _ hk=>trivial),by repeat(first|(with_reducible first|exact HB.out|apply Zo|apply Zm|apply Zp|refine Zs ?_ GE1.out|refine Zs ?_ GE2.out)|exact HB.out)⟩
 ·replace c3:=Bool.eq_false_iff.mpr c3
  subst c3
  have H1:(some (0,([]:List (S184))))=some (r1,r2):=by rw[if_neg (show ¬(false=true) by decide)] at H;exact H
  clear H
  have H:=H1
  clear H1
  simp only[Option.some.injEq,Prod.mk.injEq] at H
  obtain⟨rfl,rfl⟩:=H
  go_enter Tryz.func169,Tryz.ntmps169
  go_wp2_with (first|((with_reducible refine ZG (N:=1) rfl ?_);refine ZH ?hg (N:=1) ?hd (cs:=#[.int .i64 a0_0,.slice A0_1 l0_1.length c0_1]) (t:=54) ?hr ?_;(case hd=>rfl);(case hg=>rfl);(case hr=>first|(go_simp;done)|(go_simp;rfl));intro gb1 hg w15 hbox hb;have BK1:=Za (hbox);have GW1:=Za ((by rw[hg];exact(Zv (by exact HB.out)):w.heap.size≤gb1));have GE1:=Za ((by rw[hg];exact(Zv (by exact HB.out)):w.heap.size≤gb1));replace HB:=Za (Zq (by exact HB.out) hb);clear hb hbox hg)|((with_reducible refine ZG (N:=2) rfl ?_);refine ZH ?hg (N:=2) ?hd (cs:=#[.int .i64 0,.slice none 0 0]) (t:=156) ?hr ?_;(case hd=>rfl);(case hg=>rfl);(case hr=>first|(go_simp;done)|(go_simp;rfl));intro gb2 hg w16 hbox hb;have BK2:=Za (hbox);have GW2:=Za ((by rw[hg];exact(Zv (by exact HB.out)):w.heap.size≤gb2));have GE2:=Za ((by rw[hg];exact(Zv (by exact HB.out)):w.heap.size≤gb2));have NB1_2:=Za ((by rw[hg];exact Nat.ne_of_lt (ZK (g:=gb1) (o:=.cells #[.int .i64 a0_0,.slice A0_1 l0_1.length c0_1] 54 (0,0)) (by exact BK1.out)):gb1≠gb2));have NB2_1:=Za ((by rw[hg];exact Nat.ne_of_gt (ZK (g:=gb1) (o:=.cells #[.int .i64 a0_0,.slice A0_1 l0_1.length c0_1] 54 (0,0)) (by exact BK1.out)):gb2≠gb1));replace BK1:=Za (Zw (g:=gb1) (o:=.cells #[.int .i64 a0_0,.slice A0_1 l0_1.length c0_1] 54 (0,0)) (by exact BK1.out) hb);replace HB:=Za (Zq (by exact HB.out) hb);clear hb hbox hg;have hcz18_0:w16.cell? ⟨gb1,0,none⟩=some (.int .i64 a0_0):=(Zn BK1.out 0).trans rfl;have hcz18_1:w16.cell? ⟨gb1,1,none⟩=some (.slice A0_1 l0_1.length c0_1):=(Zn BK1.out 1).trans rfl;have hfz18_0:=Zt BK1.out 0;have hfz18_1:=Zt BK1.out 1)|((with_reducible refine ZJ (f:=99) rfl ?_);refine ZY (some 6) rfl rfl Tryz.func99 (by kernel_rfl) rfl #[.agg #[.int .i64 a0_0,.slice A0_1 l0_1.length c0_1]] rfl (by(try simp only[List.map_toArray,List.map_cons,List.map_nil]);first|done|rfl|(simp only[Zk,Zj];rfl)) ?_;(with_reducible refine(ZaU.calls k a0_0 _ _ l0_1 false _ ?side1 ?side2 A2.out).mono ?_);(case side1=>exact(Zb HR0_1.out HB.out));(case side2=>exact HC0_1.out);rintro e w19 ⟨rfl,hb⟩;refine⟨_,rfl,?_⟩;replace BK1:=Za (Zw (g:=gb1) (o:=.cells #[.int .i64 a0_0,.slice A0_1 l0_1.length c0_1] 54 (0,0)) (by exact BK1.out) hb);replace BK2:=Za (Zw (g:=gb2) (o:=.cells #[.int .i64 0,.slice none 0 0] 156 (0,0)) (by exact BK2.out) hb);replace HB:=Za (Zq (by exact HB.out) hb);have hcz20_0:w19.cell? ⟨gb2,0,none⟩=some (.int .i64 0):=(Zn BK2.out 0).trans rfl;have hcz20_1:w19.cell? ⟨gb2,1,none⟩=some (.slice none 0 0):=(Zn BK2.out 1).trans rfl;have hfz20_0:=Zt BK2.out 0;have hfz20_1:=Zt BK2.out 1))
  refine bodyPost_ret (results_cell_row rfl _ _ gb2 156 #[.int .i64 0,.slice none 0 0] (0,0) _ rfl (by(with_reducible repeat(first|refine ZD ?_ _|refine ZE ?_|refine ZC ?_ _));refine ZW (cs:=#[.int .i64 0,.slice none 0 0]) ?_ 1 _ rfl;(with_reducible repeat(first|refine ZD ?_ _|refine ZE ?_|refine ZC ?_ _));refine ZW (cs:=#[.int .i64 0,.slice none 0 0]) ?_ 0 _ rfl;(with_reducible repeat(first|refine ZD ?_ _|refine ZE ?_|refine ZC ?_ _));exact BK2.out) Tryz.underlying156 rfl (by kernel_rfl)) rfl ?_
  exact⟨_,by first|rfl|(simp[ZB,ZA] <;> rfl)|(simp[*,ZB,ZA] <;> rfl),by first|exact Kd.R_nil _ _ _ _ _|exact Kd.N_nil _ _ _ _ _|exact Kd.V_nil _ _ _ _ _|exact Kd.Q_nil _ _ _ _ _|exact Kd.S_nil _ _ _ _ _,by repeat(first|(with_reducible first|exact HB.out|apply Zo|apply Zm|apply Zp|refine Zs ?_ GE1.out|refine Zs ?_ GE2.out)|exact HB.out)⟩
def ZbF.f (k:Nat) (a0_0:Int) (l0_1:List (S112)):Option (List Int):=(ZaU.f k a0_0 l0_1).bind fun b=>if b=true then((Zbo.f k a0_0 l0_1).bind fun t=>(Zbj.f k a0_0 l0_1).bind fun u=>(ZaR.f k u.1 u.2).bind fun I=>gath 0 t.2 I) else some []
theorem ZbF.calls (k:Nat) (a0_0:Int) (A0_1:Option Addr) (c0_1:Nat) (l0_1:List (S112)) (r:List Int) (w:World) (hr0_1:Kd.C k112 w A0_1 l0_1.length l0_1) (hc0_1:l0_1.length≤c0_1) (h:ZbF.f k a0_0 l0_1=some r) :
  Calls Tryz.prog 117 #[.agg #[.int .i64 a0_0,.slice A0_1 l0_1.length c0_1]] w fun e w'=>∃v0_:Value,e=.returned (v0_)∧Kd.R (Kd.int .i64) 3 w' w.heap.size (fun _=>True) v0_ r∧Below w.heap.size w w':=by
 unfold ZbF.f at h
 obtain⟨b,hb_,h⟩:=Option.bind_eq_some_iff.1 h
 have HO:=Za fun (W:World) (hb:Below w.heap.size w W)=>ZaU.calls k a0_0 A0_1 c0_1 l0_1 b W (Zb hr0_1 hb) hc0_1 hb_
 clear hb_
 cases b with
 | false=>
  obtain rfl:[]=r:=Zg ((if_neg (by simp)).symm.trans h)
  clear h
  have hu0:=Tryz.underlying54
  have hu1:=Tryz.underlying156
  clear hr0_1 hc0_1
  go_enter Tryz.func117,Tryz.ntmps117
  go_wp2_with (first|((with_reducible refine ZG (N:=1) rfl ?_);refine ZH ?hg (N:=1) ?hd (cs:=#[.int .i64 a0_0,.slice A0_1 l0_1.length c0_1]) (t:=54) ?hr ?_;(case hd=>rfl);(case hg=>rfl);(case hr=>first|(go_simp;done)|(go_simp;rfl));intro gs hg w1 hbox hb;have BS:=Za hbox;have HB:=Za hb;have s0:w1.cell? ⟨gs,0,none⟩=some (.int .i64 a0_0):=(Zn BS.out 0).trans rfl;have s1:w1.cell? ⟨gs,1,none⟩=some (.slice A0_1 l0_1.length c0_1):=(Zn BS.out 1).trans rfl;clear hbox hb hg)|(go_at_call 99;refine(HO.out _ HB.out).mono ?_;rintro e w3 ⟨rfl,hb⟩;replace BS:=Za (Zw BS.out hb);replace HB:=Za (Zq HB.out hb);clear s0 s1;have s0:w3.cell? ⟨gs,0,none⟩=some (.int .i64 a0_0):=(Zn BS.out 0).trans rfl;have s1:w3.cell? ⟨gs,1,none⟩=some (.slice A0_1 l0_1.length c0_1):=(Zn BS.out 1).trans rfl;clear hb))
  go_ret
  exact⟨_,rfl,Kd.R_nil _ _ _ _ _,HB.out⟩
 | true=>
 rw[if_pos rfl] at h
 obtain⟨t,ht_,h⟩:=Option.bind_eq_some_iff.1 h
 obtain⟨E0,S⟩:=t
 dsimp only at h
 obtain⟨u,hu_,h⟩:=Option.bind_eq_some_iff.1 h
 obtain⟨n1,E1⟩:=u
 dsimp only at h
 obtain⟨I,hI_,h⟩:=Option.bind_eq_some_iff.1 h
 have HG_:=Za fun (W:World) (hb:Below w.heap.size w W)=>Zbo.calls k a0_0 A0_1 c0_1 l0_1 E0 S W (Zb hr0_1 hb) hc0_1 ht_
 have HH:=Za fun (W:World) (hb:Below w.heap.size w W)=>Zbj.calls k a0_0 A0_1 c0_1 l0_1 n1 E1 W (Zb hr0_1 hb) hc0_1 hu_
 have HN:=Za fun (W:World) (A1:Option Addr) (c1:Nat) (g1:E1.length≤c1) (g2:Kd.C k184 W A1 E1.length E1)=>ZaR.calls k n1 A1 c1 E1 I W g2 g1 hI_
 clear ht_ hI_ hu_
 have OK:=Za (Zee h)
 clear h
 have hu0:=Tryz.underlying54
 have hu1:=Tryz.underlying156
 clear hr0_1 hc0_1
 go_enter Tryz.func117,Tryz.ntmps117
 go_wp2_with (first|((with_reducible refine ZG (N:=1) rfl ?_);refine ZH ?hg (N:=1) ?hd (cs:=#[.int .i64 a0_0,.slice A0_1 l0_1.length c0_1]) (t:=54) ?hr ?_;(case hd=>rfl);(case hg=>rfl);(case hr=>first|(go_simp;done)|(go_simp;rfl));intro gs hg w1 hbox hb;have BS:=Za hbox;have HB:=Za hb;have s0:w1.cell? ⟨gs,0,none⟩=some (.int .i64 a0_0):=(Zn BS.out 0).trans rfl;have s1:w1.cell? ⟨gs,1,none⟩=some (.slice A0_1 l0_1.length c0_1):=(Zn BS.out 1).trans rfl;clear hbox hb hg)|(go_at_call 99;refine(HO.out _ HB.out).mono ?_;rintro e w3 ⟨rfl,hb⟩;replace BS:=Za (Zw BS.out hb);replace HB:=Za (Zq HB.out hb);clear s0 s1;have s0:w3.cell? ⟨gs,0,none⟩=some (.int .i64 a0_0):=(Zn BS.out 0).trans rfl;have s1:w3.cell? ⟨gs,1,none⟩=some (.slice A0_1 l0_1.length c0_1):=(Zn BS.out 1).trans rfl;clear hb)|(go_at_call 173;have HBp:=HB;refine(HG_.out _ HB.out).mono ?_;rintro e w4 ⟨vE,vS,rfl,q0,qS,hb⟩;replace BS:=Za (Zw BS.out hb);replace HB:=Za (Zq HB.out hb);clear s0 s1;have s0:w4.cell? ⟨gs,0,none⟩=some (.int .i64 a0_0):=(Zn BS.out 0).trans rfl;have s1:w4.cell? ⟨gs,1,none⟩=some (.slice A0_1 l0_1.length c0_1):=(Zn BS.out 1).trans rfl;obtain⟨AE,cE,eE⟩:=Kd.R_slice q0;subst eE;obtain⟨AS,cS,eS⟩:=Kd.R_slice qS;subst eS;have QS:=Za (Kd.R_lower qS HBp.out.size);clear q0 qS;clear hb)|((with_reducible refine ZG (N:=16) rfl ?_);refine Kd.R_lit (Kd.int .i64) _ 3 ?hg (N:=16) ?hd (xs:=([]:List Int)) (inner:=[]) (ok:=fun _=>True) (okp:=fun _=>True) ?hr ?hp (fun _ hk=>hk) trivial (Below.refl _ _) (Nat.le_refl _) (by simp) ?_;(case hd=>rfl);(case hg=>rfl);(case hr=>first|(go_simp;done)|(go_simp;rfl));(case hp=>exact(Reps.none _ _));intro vO w5 ho hb hg_ hnew_;have L0:=Za (And.intro (Kd.R_lt QS.out) HB.out.size);have QO:=Za ho;have OL:=Za (Kd.R_lt ho);replace QS:=Za (Kd.R_below QS.out hb);obtain⟨AO,cO,eO⟩:=Kd.R_slice ho;subst eO;replace BS:=Za (Zw BS.out hb);replace HB:=Za (Zq HB.out hb);clear s0 s1;have s0:w5.cell? ⟨gs,0,none⟩=some (.int .i64 a0_0):=(Zn BS.out 0).trans rfl;have s1:w5.cell? ⟨gs,1,none⟩=some (.slice A0_1 l0_1.length c0_1):=(Zn BS.out 1).trans rfl;clear ho hb hg_ hnew_)|(go_at_call 169;refine(HH.out _ HB.out).mono ?_;rintro e w6 ⟨vE,rfl,q0,hb⟩;replace BS:=Za (Zw BS.out hb);replace HB:=Za (Zq HB.out hb);clear s0 s1;have s0:w6.cell? ⟨gs,0,none⟩=some (.int .i64 a0_0):=(Zn BS.out 0).trans rfl;have s1:w6.cell? ⟨gs,1,none⟩=some (.slice A0_1 l0_1.length c0_1):=(Zn BS.out 1).trans rfl;replace QS:=Za (Kd.R_below QS.out hb);replace QO:=Za (Kd.R_below QO.out hb);replace OL:=Za (fun k hk=>Nat.lt_of_lt_of_le (OL.out k hk) hb.size);obtain⟨AG,cG,rfl,gE_⟩:=Kd.R_reads q0;have GE:=Za gE_;clear q0 gE_;clear hb)|(go_at_call 168;refine(HN.out _ _ _ GE.out.1 (Zb GE.out.2 (by repeat(first|(with_reducible first|exact(Below.refl _ _)|apply Zo|apply Zm|apply Zp)|exact(Below.refl _ _))))).mono ?_;rintro e w9 ⟨vI,rfl,qI,hb⟩;have I0:=Za (Gat.lit (kd:=(Kd.int .i64)) (e:=3) rfl (Kd.R_below QS.out (Zq (by repeat(first|(with_reducible first|exact(Below.refl _ _)|apply Zo|apply Zm|apply Zp)|exact(Below.refl _ _))) hb)) qI (Kd.R_below QO.out (Zq (by repeat(first|(with_reducible first|exact(Below.refl _ _)|apply Zo|apply Zm|apply Zp)|exact(Below.refl _ _))) hb)) L0.out.1 (fun k hk=>Nat.lt_of_lt_of_le (OL.out k hk) (Zv (by repeat(first|(with_reducible first|exact(Below.refl _ _)|apply Zo|apply Zm|apply Zp)|exact(Below.refl _ _))))) L0.out.2 (Zv (by repeat(first|(with_reducible first|exact HB.out|apply Zo|apply Zm|apply Zp)|exact HB.out))) (Zq (by repeat(first|(with_reducible first|exact HB.out|apply Zo|apply Zm|apply Zp)|exact HB.out)) hb));obtain⟨AI,cI,eI⟩:=Kd.R_slice qI;subst eI;clear qI hb s0 s1))
 clear HG_ HN
 go_loopg [5,21] I.length (fun gg s5 s21 wr=>∃(i:Nat) (O:List Int),s21=.int .i64 (i:Int)∧Aside0 (i≤I.length)∧Aside0 (I.length - i≤gg)∧Aside0 (O.length≤i∧O ++ (I.drop i).map (fun x=>S.getD x.toNat 0)=r)∧Aside0 (Gat (Kd.int .i64) 3 w wr (.slice AS S.length cS) (.slice AI I.length cI) s5 S I O))
 case atStart=>exact⟨0,[],rfl,⟨Nat.zero_le _⟩,⟨by omega⟩,⟨Nat.le_refl _,OK.out.2.2⟩,I0⟩
 case round=>
 clear I0
 obtain⟨i,O,rfl,HK,HG,HE,HI⟩:=hrel
 by_cases hlt:i<I.length
 ·have hltz:(i:Int)<(I.length:Int):=by omega
  obtain⟨ad,q1,hx⟩:=Kd.at_int (Kd.R_reads' HI.out.ri).2.2 (i:Int) (by omega) hltz
  cases q1
  have hm:=OK.out.2.1 _ (ZaG hlt 0)
  have HD:=HE.out.2
  rw[Z8 hlt 0,List.map_cons] at HD
  rw[Int.toNat_natCast,ZaO] at hx
  generalize I.getD i 0=x at hx hm HD
  obtain⟨ad2,q2,hy⟩:=Kd.at_int (Kd.R_reads' HI.out.rs).2.2 x hm.1 hm.2
  cases q2
  have px:=eq_true hm.1
  have py:=eq_true hm.2
  obtain⟨O1,hO1⟩:∃O1,O1=O ++ [rd S x]:=⟨_,rfl⟩
  have NO:=Za hO1
  have HD2:=Za (show O1.length≤i+1∧O1 ++ (I.drop (i+1)).map (fun x=>S.getD x.toNat 0)=r from⟨by rw[hO1,List.length_append,List.length_singleton];have:=HE.out.1;omega,by rw[hO1,List.append_assoc];exact HD⟩)
  clear hm hO1 HD
  go_wp2_with ((with_reducible refine ZT (b:=.append) (xs:=#[.tmp 25,.tmp 30]) rfl ?_);at_builtin;refine Kd.R_append (Kd.int .i64) (w0:=w) w.heap.size rfl (.tmp 25) (.tmp 30) 37 3 (.int .i64 0) 8 rfl Tryz.underlying37 ZbI rfl (by decide) (by omega) u5 O (rd S x) [.int .i64 (rd S x)] (fun k=>some k≠(Value.slice (some ad2) S.length cS).ownBlock∧some k≠(Value.slice (some ad) I.length cI).ownBlock) (fun _=>False) rfl rfl ?aP (fun _ hk=>hk.elim) ?aF ?aO ?aB ?aS ?aL ?_;(case aP=>exact rfl);(case aB=>exact HI.out.hb);(case aF=>exact fun k hk=>⟨Kd.fresh' (Kd.R_lt HI.out.rs) k hk,Kd.fresh' (Kd.R_lt HI.out.ri) k hk⟩);(case aO=>exact HI.out.ro);(case aS=>exact HI.out.hb.size);(case aL=>have:=HE.out.1;have:=HK.out;have:=OK.out.1;omega);intro v1 w8 ho hb hg hat;rw[← NO.out] at ho;have J:=Za (HI.out.grow ho hb hg hat);clear ho hb hg hat)
  go_roundg (I.length - (i+1))
  case measure=>have:=HG.out;omega
  case rel=>exact⟨i+1,O1,by rw[ZL hlt (by have:=OK.out.1;omega)],⟨by omega⟩,⟨by omega⟩,HD2,J⟩
 ·obtain rfl:i=I.length:=by have:=HK.out;omega
  obtain rfl:O=r:=by
   have h:=HE.out.2
   rw[List.drop_length,List.map_nil,List.append_nil] at h
   exact h
  clear HE hlt
  go_wp2
  go_ret
  exact⟨_,rfl,Kd.R_mono HI.out.ro (fun _ _=>trivial),HI.out.hb⟩
def Zaq.l0:Nat→Int→List Int→Int→Int→List Int→List Int→Option (Int)
 | 0,_,_,_,_,_,_=>none
 | k+1,x2,x10,x11,x12,x96003000,x96003001=>if x12<x11 then(if 0≤x12 then(if x12<(x10.length:Int) then(if (rd x10 x12)=x2 then(if x12<(x96003000.length:Int) then(some (rd x96003000 x12)) else(none)) else(Zaq.l0 k x2 x10 x11 (wrap64 (x12+1)) x96003000 x96003001)) else(none)) else(none)) else(some 0)
def Zaq.f (k:Nat) (l0_0:List (S39)) (l0_1:List (S82)) (a0_2:Int) (l1_0:List Int) (l1_1:List Int) (a2:Int):Option (Int):=(Zab.f k l0_0 l0_1 a0_2).bind fun t3=>(Zaq.l0 k a2 t3 (t3.length:Int) 0 l1_0 l1_1)
theorem Zaq.calls (k:Nat) (A0_0:Option Addr) (c0_0:Nat) (l0_0:List (S39)) (A0_1:Option Addr) (c0_1:Nat) (l0_1:List (S82)) (a0_2:Int) (A1_0:Option Addr) (c1_0:Nat) (l1_0:List Int) (A1_1:Option Addr) (c1_1:Nat) (l1_1:List Int) (a2:Int) (r:Int) (w:World) (hr0_0:Kd.C k39 w A0_0 l0_0.length l0_0) (hc0_0:l0_0.length≤c0_0) (hr0_1:Kd.C k82 w A0_1 l0_1.length l0_1) (hc0_1:l0_1.length≤c0_1) (hr1_0:Kd.C (Kd.int .i64) w A1_0 l1_0.length l1_0) (hc1_0:l1_0.length≤c1_0) (hr1_1:Kd.C (Kd.int .i64) w A1_1 l1_1.length l1_1) (hc1_1:l1_1.length≤c1_1) (h:Zaq.f k l0_0 l0_1 a0_2 l1_0 l1_1 a2=some r) :
  Calls Tryz.prog 96 #[.agg #[.slice A0_0 l0_0.length c0_0,.slice A0_1 l0_1.length c0_1,.int .i64 a0_2],.agg #[.slice A1_0 l1_0.length c1_0,.slice A1_1 l1_1.length c1_1],.int .i64 a2] w fun e w'=>e=.returned (.int .i64 r)∧Below w.heap.size w w':=by
 have hu25:=Tryz.underlying25
 have hu58:=Tryz.underlying58
 have HR0_0:=Za hr0_0;have HC0_0:=Za hc0_0;clear hr0_0 hc0_0;have HR0_1:=Za hr0_1;have HC0_1:=Za hc0_1;clear hr0_1 hc0_1;have HR1_0:=Za hr1_0;have HC1_0:=Za hc1_0;clear hr1_0 hc1_0;have HR1_1:=Za hr1_1;have HC1_1:=Za hc1_1;clear hr1_1 hc1_1
 have HB:=Za (Below.refl w.heap.size w)
 have H:((Zab.f k l0_0 l0_1 a0_2).bind fun t3=>(Zaq.l0 k a2 t3 (t3.length:Int) 0 l1_0 l1_1))=some r:=h
 clear h
 replace H:=Zh H
 obtain⟨t3,A40,H⟩:=H;have A4:=Za A40;clear A40
 have H':=Za H
 clear H
 go_enter Tryz.func96,Tryz.ntmps96
 go_wp2_with (first|((with_reducible refine ZG (N:=3) rfl ?_);refine ZH ?hg (N:=3) ?hd (cs:=#[.slice A0_0 l0_0.length c0_0,.slice A0_1 l0_1.length c0_1,.int .i64 a0_2]) (t:=25) ?hr ?_;(case hd=>rfl);(case hg=>rfl);(case hr=>first|(go_simp;done)|(go_simp;rfl));intro gb1 hg w5 hbox hb;have BK1:=Za (hbox);have GW1:=Za ((by rw[hg];exact(Zv (by exact HB.out)):w.heap.size≤gb1));have GE1:=Za ((by rw[hg];exact(Zv (by exact HB.out)):w.heap.size≤gb1));replace HB:=Za (Zq (by exact HB.out) hb);clear hb hbox hg)|((with_reducible refine ZG (N:=4) rfl ?_);refine ZH ?hg (N:=4) ?hd (cs:=#[.slice A1_0 l1_0.length c1_0,.slice A1_1 l1_1.length c1_1]) (t:=58) ?hr ?_;(case hd=>rfl);(case hg=>rfl);(case hr=>first|(go_simp;done)|(go_simp;rfl));intro gb2 hg w6 hbox hb;have BK2:=Za (hbox);have GW2:=Za ((by rw[hg];exact(Zv (by exact HB.out)):w.heap.size≤gb2));have GE2:=Za ((by rw[hg];exact(Zv (by exact HB.out)):w.heap.size≤gb2));have NB1_2:=Za ((by rw[hg];exact Nat.ne_of_lt (ZK (g:=gb1) (o:=.cells #[.slice A0_0 l0_0.length c0_0,.slice A0_1 l0_1.length c0_1,.int .i64 a0_2] 25 (0,0)) (by exact BK1.out)):gb1≠gb2));have NB2_1:=Za ((by rw[hg];exact Nat.ne_of_gt (ZK (g:=gb1) (o:=.cells #[.slice A0_0 l0_0.length c0_0,.slice A0_1 l0_1.length c0_1,.int .i64 a0_2] 25 (0,0)) (by exact BK1.out)):gb2≠gb1));replace BK1:=Za (Zw (g:=gb1) (o:=.cells #[.slice A0_0 l0_0.length c0_0,.slice A0_1 l0_1.length c0_1,.int .i64 a0_2] 25 (0,0)) (by exact BK1.out) hb);replace HB:=Za (Zq (by exact HB.out) hb);clear hb hbox hg;have hcz8_0:w6.cell? ⟨gb1,0,none⟩=some (.slice A0_0 l0_0.length c0_0):=(Zn BK1.out 0).trans rfl;have hcz8_1:w6.cell? ⟨gb1,1,none⟩=some (.slice A0_1 l0_1.length c0_1):=(Zn BK1.out 1).trans rfl;have hcz8_2:w6.cell? ⟨gb1,2,none⟩=some (.int .i64 a0_2):=(Zn BK1.out 2).trans rfl;have hfz8_0:=Zt BK1.out 0;have hfz8_1:=Zt BK1.out 1;have hfz8_2:=Zt BK1.out 2)|((with_reducible refine ZJ (f:=156) rfl ?_);refine ZY (some 10) rfl rfl Tryz.func156 (by kernel_rfl) rfl #[.agg #[.slice A0_0 l0_0.length c0_0,.slice A0_1 l0_1.length c0_1,.int .i64 a0_2]] rfl (by(try simp only[List.map_toArray,List.map_cons,List.map_nil]);first|done|rfl|(simp only[Zk,Zj];rfl)) ?_;(with_reducible refine(Zab.calls k _ _ l0_0 _ _ l0_1 a0_2 t3 _ ?side1 ?side2 ?side3 ?side4 A4.out).mono ?_);(case side1=>exact(Zb HR0_0.out HB.out));(case side2=>exact HC0_0.out);(case side3=>exact(Zb HR0_1.out HB.out));(case side4=>exact HC0_1.out);rintro e w9 ⟨v4,rfl,ho0,hb⟩;refine⟨_,rfl,?_⟩;have HO5:=Za (Kd.R_lower ho0 (Zv (by exact HB.out)));replace BK1:=Za (Zw (g:=gb1) (o:=.cells #[.slice A0_0 l0_0.length c0_0,.slice A0_1 l0_1.length c0_1,.int .i64 a0_2] 25 (0,0)) (by exact BK1.out) hb);replace BK2:=Za (Zw (g:=gb2) (o:=.cells #[.slice A1_0 l1_0.length c1_0,.slice A1_1 l1_1.length c1_1] 58 (0,0)) (by exact BK2.out) hb);replace HB:=Za (Zq (by exact HB.out) hb);(try clear hb);(try clear hb2);(try clear hk);(try clear hi);(try clear ho0);obtain⟨Ao10,co10,eo10⟩:=Kd.R_slice HO5.out;subst eo10))
 go_loopg [12] k (fun kq v12 w'=>∃(x12_1:Int),v12=.int .i64 x12_1∧Aside0 (Zaq.l0 kq a2 t3 (t3.length:Int) x12_1 l1_0 l1_1=some r)∧Aside0 (kq≤k)∧Aside0 (Kd.R (Kd.int .i64) 3 w' w.heap.size (fun _=>True) (.slice Ao10 t3.length co10) t3)∧Aside0 (w'.heap[gb1]? = some (.cells #[(.slice A0_0 l0_0.length c0_0),(.slice A0_1 l0_1.length c0_1),.int .i64 a0_2] 25 (0,0)))∧Aside0 (w'.heap[gb2]? = some (.cells #[(.slice A1_0 l1_0.length c1_0),(.slice A1_1 l1_1.length c1_1)] 58 (0,0)))∧Aside0 (Below w.heap.size w w'))
 case atStart=>exact⟨(0),(by first|rfl|(simp;done)|(simp[*];done)),H',⟨Nat.le_refl _⟩,⟨by(with_reducible repeat(first|apply Kd.R_alloc|apply Kd.R_drewN|apply Kd.R_drew));exact HO5.out⟩,⟨by(with_reducible repeat(first|refine ZD ?_ _|refine ZE ?_|refine ZC ?_ _));exact BK1.out⟩,⟨by(with_reducible repeat(first|refine ZD ?_ _|refine ZE ?_|refine ZC ?_ _));exact BK2.out⟩,⟨by repeat(first|(with_reducible first|exact HB.out|apply Zo|apply Zm|apply Zp|refine Zs ?_ GE1.out|refine Zs ?_ GE2.out)|exact HB.out)⟩⟩
 case round=>
  clear H'
  try clear c1
  try clear p2
  try clear c7
  try clear c9
  try clear hcz8_0
  try clear hcz8_1
  try clear hcz8_2
  try clear hfz8_0
  try clear hfz8_1
  try clear hfz8_2
  obtain⟨x12_1,rfl,HA,HK1,HO_10,BK1,BK2,HB⟩:=hrel
  cases gk with
  | zero=>exact absurd HA.out (by simp[Zaq.l0])
  | succ k1=>
   have H:=HA.out
   clear HA
   simp only[Zaq.l0] at H
   by_cases c11:x12_1<(t3.length:Int)
   ·rw[if_pos c11] at H
    have c11b0:decide (x12_1<(t3.length:Int))=true:=Ze c11
    clear c11
    by_cases c12:0≤x12_1
    ·rw[if_pos c12] at H
     have c12b0:decide (0≤x12_1)=true:=Ze c12
     clear c12
     by_cases c13:x12_1<(t3.length:Int)
     ·rw[if_pos c13] at H
      have c13b0:decide (x12_1<(t3.length:Int))=true:=Ze c13
      clear c13
      by_cases c14:(rd t3 x12_1)=a2
      ·rw[if_pos c14] at H
       have c14b0:((rd t3 x12_1) == a2)=true:=beq_iff_eq.mpr c14
       clear c14
       by_cases c15:x12_1<(l1_0.length:Int)
       ·rw[if_pos c15] at H
        have c15b0:decide (x12_1<(l1_0.length:Int))=true:=Ze c15
        clear c15
        obtain rfl:=Zg H
        have p6:0≤(x12_1:Int):=Zd (by with_reducible assumption)
        have q6:x12_1<(t3.length:Int):=Zd (by with_reducible assumption)
        obtain⟨ad6,e6,hx6_0⟩:=Kd.at_int (Kd.R_reads' HO_10.out).2.2 x12_1 p6 q6
        cases e6
        replace p6:=eq_true p6
        replace q6:=eq_true q6
        have hcz17_0:wr.cell? ⟨gb2,0,none⟩=some (.slice A1_0 l1_0.length c1_0):=(Zn BK2.out 0).trans rfl
        have hcz17_1:wr.cell? ⟨gb2,1,none⟩=some (.slice A1_1 l1_1.length c1_1):=(Zn BK2.out 1).trans rfl
        have hfz17_0:=Zt BK2.out 0
        have hfz17_1:=Zt BK2.out 1
        have p7:0≤(x12_1:Int):=Zd (by with_reducible assumption)
        have q7:x12_1<(l1_0.length:Int):=Zd (by with_reducible assumption)
        obtain⟨ad7,e7,hx7_0⟩:=Kd.at_int HR1_0.out x12_1 p7 q7
        cases e7
        replace hx7_0:=(HB.out.cell (Zc w _ hx7_0)).trans hx7_0
        replace p7:=eq_true p7
        replace q7:=eq_true q7
        go_wp2
        go_ret
        exact⟨by first|rfl|(simp[ZB,ZA] <;> rfl)|(simp[*,ZB,ZA] <;> rfl),by repeat(first|(with_reducible first|exact HB.out|apply Zo|apply Zm|apply Zp|refine Zs ?_ GE1.out|refine Zs ?_ GE2.out)|exact HB.out)⟩
       ·rw[if_neg c15] at H
        exact absurd H (by simp)
      ·rw[if_neg c14] at H
       have c14b0:((rd t3 x12_1) == a2)=false:=beq_eq_false_iff_ne.mpr c14
       have H':=Za H
       clear H
       have p6:0≤(x12_1:Int):=Zd (by with_reducible assumption)
       have q6:x12_1<(t3.length:Int):=Zd (by with_reducible assumption)
       obtain⟨ad6,e6,hx6_0⟩:=Kd.at_int (Kd.R_reads' HO_10.out).2.2 x12_1 p6 q6
       cases e6
       replace p6:=eq_true p6
       replace q6:=eq_true q6
       go_wp2
       go_roundg k1
       case measure=>have:=HK1.out;omega
       case rel=>exact⟨(wrap64 (x12_1+1)),(by first|rfl|(simp;done)|(simp[*];done)),H',⟨by have:=HK1.out;omega⟩,⟨by(with_reducible repeat(first|apply Kd.R_alloc|apply Kd.R_drewN|apply Kd.R_drew));exact HO_10.out⟩,⟨by(with_reducible repeat(first|refine ZD ?_ _|refine ZE ?_|refine ZC ?_ _));exact BK1.out⟩,⟨by(with_reducible repeat(first|refine ZD ?_ _|refine ZE ?_|refine ZC ?_ _));exact BK2.out⟩,⟨by repeat(first|(with_reducible first|exact HB.out|apply Zo|apply Zm|apply Zp|refine Zs ?_ GE1.out|refine Zs ?_ GE2.out)|exact HB.out)⟩⟩
     ·rw[if_neg c13] at H
      exact absurd H (by simp)
    ·rw[if_neg c12] at H
     exact absurd H (by simp)
   ·rw[if_neg c11] at H
    have c11b0:decide (x12_1<(t3.length:Int))=false:=Zf c11
    clear c11
    obtain rfl:=Zg H
    go_wp2
    go_ret
    exact⟨by first|rfl|(simp[ZB,ZA] <;> rfl)|(simp[*,ZB,ZA] <;> rfl),by repeat(first|(with_reducible first|exact HB.out|apply Zo|apply Zm|apply Zp|refine Zs ?_ GE1.out|refine Zs ?_ GE2.out)|exact HB.out)⟩
end Go.Proofs.YtoeimopgoaffcaaGreatDoor.Pr
