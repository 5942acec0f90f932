/- The texts of one claim, put together by a program of this session. -/
import Derived.Deep.LoopGhost
import Derived.Shelf.Abstract
import Derived.WalkKit
import Derived.ProofKit
import Derived.Below
import Derived.Test.YtoeimopgoaffcaaGreatDoorBBpc1x1
import Derived.Test.YtoeimopgoaffcaaGreatDoorBBpc1x2
import Derived.Test.YtoeimopgoaffcaaGreatDoorBBpc1x3
namespace Go.Proofs.YtoeimopgoaffcaaGreatDoor.Pr
open Go.RowKit Go.Proofs.YtoeimopgoaffcaaGreatDoorW.PrintWords Go.Proofs.YtoeimopgoaffcaaGreatDoorW.PrintLast Go.Proofs.YtoeimopgoaffcaaGreatDoorW.PrintMore
attribute [local go_sem] Z2 Z0 Zac Zab ZU ZT Z1 ZZ
set_option linter.unusedVariables false
set_option linter.unusedSimpArgs false
mutual
def ZS.j0:Nat→List Int→List Int→Bool→Option (Bool)
 | 0,_,_,_=>none
 | k+1,x0,x1,x14=>if x14=true then(some false) else(ZS.l0 k x0 x1 (x1.length:Int) 0)
def ZS.l0:Nat→List Int→List Int→Int→Int→Option (Bool)
 | 0,_,_,_,_=>none
 | k+1,x0,x15,x16,x17=>if x17<x16 then(if 0≤x17 then(if x17<(x15.length:Int) then((ZaB.f k x0 (rd x15 x17)).bind fun t178004=>(if t178004=true then(ZS.l0 k x0 x15 x16 (wrap64 (x17+1))) else(some false))) else(none)) else(none)) else(some true)
end
def ZS.f (k:Nat) (l0:List Int) (l1:List Int):Option (Bool):=(Zae.f k l0).bind fun t178001=>(if t178001=true then((Zae.f k l1).bind fun t178002=>(ZS.j0 k l0 l1 (!t178002))) else(ZS.j0 k l0 l1 true))
set_option maxHeartbeats 8000000 in
set_option maxRecDepth 100000 in
theorem ZS.calls (k:Nat) (A0:Option Addr) (c0:Nat) (l0:List Int) (A1:Option Addr) (c1:Nat) (l1:List Int) (r:Bool) (w:World) (hr0:Kd.C (Kd.int .i64) w A0 l0.length l0) (hc0:l0.length≤c0) (hr1:Kd.C (Kd.int .i64) w A1 l1.length l1) (hc1:l1.length≤c1) (h:ZS.f k l0 l1=some r) :
  Calls Tryz.prog 178 #[.slice A0 l0.length c0,.slice A1 l1.length c1] w fun e w'=>e=.returned (.bool r)∧ZF w w':=by
 have HR0:=Za hr0;have HC0:=Za hc0;clear hr0 hc0;have HR1:=Za hr1;have HC1:=Za hc1;clear hr1 hc1
 have H:((Zae.f k l0).bind fun t178001=>(if t178001=true then((Zae.f k l1).bind fun t178002=>(ZS.j0 k l0 l1 (!t178002))) else(ZS.j0 k l0 l1 true)))=some r:=h
 clear h;have HC3:=Za H;clear H
 go_enter Tryz.func178,Tryz.ntmps178
 go_upto_region 1 with (fail)
 go_cut [14] (fun v14 wc=>∃(kq:Nat) (x14_2:Bool),v14=.bool x14_2∧Aside0 (ZS.j0 kq l0 l1 x14_2=some r)∧Aside0 (kq≤k)∧ZF w wc)
 case first=>
  have H:=HC3.out
  clear HC3
  replace H:=Zh H
  obtain⟨t178001,A40,H⟩:=H;have A4:=Za A40;clear A40
  by_cases c5:t178001=true
  ·subst c5
   rw[if_pos rfl] at H
   replace H:=Zh H
   obtain⟨t178002,A60,H⟩:=H;have A6:=Za A60;clear A60
   have H':=Za H
   clear H
   go_wp2_with (first|((with_reducible refine ZK (f:=175) rfl ?_);refine Z6 (some 8) rfl rfl Tryz.func175 (by kernel_rfl) rfl #[.slice A0 l0.length c0] rfl (by(try simp only[List.map_toArray,List.map_cons,List.map_nil]);first|done|rfl|(simp only[Zk,Zj];rfl)) ?_;(with_reducible refine(Zae.calls k _ _ l0 true _ ?side1 ?side2 A4.out).mono ?_);(case side1=>repeat(first|exact HR0.out|(with_reducible refine Kd.C_alloc ?_ _)|(with_reducible refine Kd.C_drewN ?_ _)|(with_reducible refine Kd.C_drew ?_)));(case side2=>exact HC0.out);rintro e w' ⟨rfl,⟨nd,rfl⟩⟩;refine⟨_,rfl,?_⟩)|(go_at_call 175;(with_reducible refine(Zae.calls k _ _ l1 t178002 _ ?side1 ?side2 A6.out).mono ?_);(case side1=>repeat(first|exact HR1.out|(with_reducible refine Kd.C_alloc ?_ _)|(with_reducible refine Kd.C_drewN ?_ _)|(with_reducible refine Kd.C_drew ?_)));(case side2=>exact HC1.out);rintro e w' ⟨rfl,⟨nd,rfl⟩⟩))
   go_meet
   case rel=>exact⟨_,(!t178002),(by first|rfl|(simp;done)|(simp[*];done)),H',⟨by first|omega|exact Nat.le_refl _⟩,by repeat(first|exact ZF.refl _|apply ZF.step)⟩
  ·replace c5:=Bool.eq_false_iff.mpr c5
   subst c5
   have H1:(ZS.j0 k l0 l1 true)=some r:=by rw[if_neg (show ¬(false=true) by decide)] at H;exact H
   clear H
   have H:=H1
   clear H1
   have H':=Za H
   clear H
   go_wp2_with (first|((with_reducible refine ZK (f:=175) rfl ?_);refine Z6 (some 8) rfl rfl Tryz.func175 (by kernel_rfl) rfl #[.slice A0 l0.length c0] rfl (by(try simp only[List.map_toArray,List.map_cons,List.map_nil]);first|done|rfl|(simp only[Zk,Zj];rfl)) ?_;(with_reducible refine(Zae.calls k _ _ l0 false _ ?side1 ?side2 A4.out).mono ?_);(case side1=>repeat(first|exact HR0.out|(with_reducible refine Kd.C_alloc ?_ _)|(with_reducible refine Kd.C_drewN ?_ _)|(with_reducible refine Kd.C_drew ?_)));(case side2=>exact HC0.out);rintro e w' ⟨rfl,⟨nd,rfl⟩⟩;refine⟨_,rfl,?_⟩))
   go_meet
   case rel=>exact⟨_,(true),(by first|rfl|(simp;done)|(simp[*];done)),H',⟨by first|omega|exact Nat.le_refl _⟩,by repeat(first|exact ZF.refl _|apply ZF.step)⟩
 case rest=>
  clear HC3
  try clear c1
  try clear p2
  try clear c5
  obtain⟨kq,x14_2,rfl,HA,HJ2,⟨mc2,rfl⟩⟩:=hcut
  cases kq with
  | zero=>exact absurd HA.out (by simp[ZS.j0])
  | succ kj2=>
   have H:=HA.out
   clear HA
   simp only[ZS.j0] at H
   by_cases c7:x14_2=true
   ·subst c7
    rw[if_pos rfl] at H
    obtain rfl:=Zg H
    go_wp2
    go_ret
    exact⟨by first|rfl|(simp;done)|(simp[*];done),by repeat(first|exact ZF.refl _|apply ZF.step)⟩
   ·replace c7:=Bool.eq_false_iff.mpr c7
    subst c7
    have H1:(ZS.l0 kj2 l0 l1 (l1.length:Int) 0)=some r:=by rw[if_neg (show ¬(false=true) by decide)] at H;exact H
    clear H
    have H:=H1
    clear H1
    have H':=Za H
    clear H
    go_wp2
    go_loopg [17] kj2 (fun kq v17 w'=>∃(x17_2:Int),v17=.int .i64 x17_2∧Aside0 (ZS.l0 kq l0 l1 (l1.length:Int) x17_2=some r)∧Aside0 (kq≤kj2)∧ZF w w')
    case atStart=>exact⟨(0),(by first|rfl|(simp;done)|(simp[*];done)),H',⟨Nat.le_refl _⟩,by repeat(first|exact ZF.refl _|apply ZF.step)⟩
    case round=>
     clear H'
     try clear c1
     try clear c2
     try clear p2
     try clear c5
     try clear c7
     try clear p2
     obtain⟨x17_2,rfl,HA,HK2,⟨m2,rfl⟩⟩:=hrel
     cases gk with
     | zero=>exact absurd HA.out (by simp[ZS.l0])
     | succ k2=>
      have H:=HA.out
      clear HA
      simp only[ZS.l0] at H
      by_cases c8:x17_2<(l1.length:Int)
      ·rw[if_pos c8] at H
       have c8b0:decide (x17_2<(l1.length:Int))=true:=Ze c8
       clear c8
       by_cases c9:0≤x17_2
       ·rw[if_pos c9] at H
        have c9b0:decide (0≤x17_2)=true:=Ze c9
        clear c9
        by_cases c10:x17_2<(l1.length:Int)
        ·rw[if_pos c10] at H
         have c10b0:decide (x17_2<(l1.length:Int))=true:=Ze c10
         clear c10
         replace H:=Zh H
         obtain⟨t178004,A110,H⟩:=H;have A11:=Za A110;clear A110
         by_cases c12:t178004=true
         ·subst c12
          rw[if_pos rfl] at H
          have H':=Za H
          clear H
          have p178003:0≤(x17_2:Int):=Zd (by first|(with_reducible assumption)|assumption)
          have q178003:x17_2<(l1.length:Int):=Zd (by first|(with_reducible assumption)|assumption)
          obtain⟨ad178003,e178003,hx178003_0⟩:=Kd.at_int HR1.out x17_2 p178003 q178003
          cases e178003
          replace p178003:=eq_true p178003
          replace q178003:=eq_true q178003
          go_wp2_with (first|((with_reducible refine ZK (f:=177) rfl ?_);refine Z6 (some 23) rfl rfl Tryz.func177 (by kernel_rfl) rfl #[.slice A0 l0.length c0,.int .i64 (rd l1 x17_2)] rfl (by(try simp only[List.map_toArray,List.map_cons,List.map_nil]);first|done|rfl|(simp only[Zk,Zj];rfl)) ?_;(with_reducible refine(ZaB.calls k2 _ _ l0 (rd l1 x17_2) true _ ?side1 ?side2 A11.out).mono ?_);(case side1=>repeat(first|exact HR0.out|(with_reducible refine Kd.C_alloc ?_ _)|(with_reducible refine Kd.C_drewN ?_ _)|(with_reducible refine Kd.C_drew ?_)));(case side2=>exact HC0.out);rintro e w' ⟨rfl,⟨nd,rfl⟩⟩;refine⟨_,rfl,?_⟩))
          go_roundg k2
          case measure=>have:=HJ2.out;have:=HK2.out;omega
          case rel=>exact⟨(wrap64 (x17_2+1)),(by first|rfl|(simp;done)|(simp[*];done)),H',⟨by have:=HJ2.out;have:=HK2.out;omega⟩,by repeat(first|exact ZF.refl _|apply ZF.step)⟩
         ·replace c12:=Bool.eq_false_iff.mpr c12
          subst c12
          have H1:(some false)=some r:=by rw[if_neg (show ¬(false=true) by decide)] at H;exact H
          clear H
          have H:=H1
          clear H1
          obtain rfl:=Zg H
          have p178003:0≤(x17_2:Int):=Zd (by first|(with_reducible assumption)|assumption)
          have q178003:x17_2<(l1.length:Int):=Zd (by first|(with_reducible assumption)|assumption)
          obtain⟨ad178003,e178003,hx178003_0⟩:=Kd.at_int HR1.out x17_2 p178003 q178003
          cases e178003
          replace p178003:=eq_true p178003
          replace q178003:=eq_true q178003
          go_wp2_with (first|((with_reducible refine ZK (f:=177) rfl ?_);refine Z6 (some 23) rfl rfl Tryz.func177 (by kernel_rfl) rfl #[.slice A0 l0.length c0,.int .i64 (rd l1 x17_2)] rfl (by(try simp only[List.map_toArray,List.map_cons,List.map_nil]);first|done|rfl|(simp only[Zk,Zj];rfl)) ?_;(with_reducible refine(ZaB.calls k2 _ _ l0 (rd l1 x17_2) false _ ?side1 ?side2 A11.out).mono ?_);(case side1=>repeat(first|exact HR0.out|(with_reducible refine Kd.C_alloc ?_ _)|(with_reducible refine Kd.C_drewN ?_ _)|(with_reducible refine Kd.C_drew ?_)));(case side2=>exact HC0.out);rintro e w' ⟨rfl,⟨nd,rfl⟩⟩;refine⟨_,rfl,?_⟩))
          go_ret
          exact⟨by first|rfl|(simp;done)|(simp[*];done),by repeat(first|exact ZF.refl _|apply ZF.step)⟩
        ·rw[if_neg c10] at H
         exact absurd H (by simp)
       ·rw[if_neg c9] at H
        exact absurd H (by simp)
      ·rw[if_neg c8] at H
       have c8b0:decide (x17_2<(l1.length:Int))=false:=Zf c8
       clear c8
       obtain rfl:=Zg H
       go_wp2
       go_ret
       exact⟨by first|rfl|(simp;done)|(simp[*];done),by repeat(first|exact ZF.refl _|apply ZF.step)⟩
end Go.Proofs.YtoeimopgoaffcaaGreatDoor.Pr
namespace Go.Proofs.YtoeimopgoaffcaaGreatDoor.Pr
open Go.RowKit Go.Proofs.YtoeimopgoaffcaaGreatDoorW.PrintWords Go.Proofs.YtoeimopgoaffcaaGreatDoorW.PrintLast Go.Proofs.YtoeimopgoaffcaaGreatDoorW.PrintMore
attribute [local go_sem] Z2 Z0 Zac Zab ZU ZT Z1 ZZ
set_option linter.unusedVariables false
set_option linter.unusedSimpArgs false
open Go.Proofs.YtoeimopgoaffcaaGreatDoor.Ni
def Zbr.f (l0:List Int) (a1:Int):Option Int:=some (ZaZ (fun y=>decide (a1=y)) l0)
set_option maxHeartbeats 4000000 in
theorem Zbr.calls (A0:Option Addr) (c0:Nat) (l0:List Int) (a1:Int) (r:Int) (w:World) (hr0:Kd.C (Kd.int .i64) w A0 l0.length l0) (hc0:l0.length≤c0) (h:Zbr.f l0 a1=some r) :
  Calls Tryz.prog 163 #[.slice A0 l0.length c0,.int .i64 a1] w fun e w'=>e=.returned (.int .i64 r)∧Below w.heap.size w w':=by
 obtain rfl:=Zg h
 have HR0:=Za hr0
 have HL:l0.length≤9223372036854775807:=HR0.out.2.1
 clear hr0 h hc0
 go_enter Tryz.func163,Tryz.ntmps163
 go_wp2
 go_loopg [5,8] l0.length (fun gg _ s8 wr=>∃kk:Nat,Aside0 (kk≤l0.length)∧Aside0 (l0.length - kk≤gg)∧s8=.int .i64 kk∧Aside0 (Below w.heap.size w wr)∧Aside0 (∀j y,j<kk→l0[j]? = some y→decide (a1=y)=false))
 case atStart=>exact⟨0,⟨Nat.zero_le _⟩,⟨by omega⟩,rfl,⟨Below.refl _ _⟩,⟨fun j y hj=>absurd hj (Nat.not_lt_zero _)⟩⟩
 case round=>
  obtain⟨kk,HK,HG,rfl,HB,HN⟩:=hrel
  by_cases hlt:kk<l0.length
  ·have hltz:(kk:Int)<(l0.length:Int):=by omega
   obtain⟨ad,e1,hx⟩:=Kd.at_int HR0.out (kk:Int) (by omega) hltz
   cases e1
   replace hx:=(HB.out.cell (Zc w _ hx)).trans hx
   rw[Int.toNat_natCast] at hx
   have hxe:l0[kk]? = some (rd l0 (kk:Int)):=by
    unfold rd
    rw[Int.toNat_natCast,List.getD_eq_getElem?_getD,Zl hlt];rfl
   generalize rd l0 (kk:Int)=y at hx hxe
   have HX:=Za hxe;clear hxe
   by_cases hq:a1=y
   ·have hqb:(a1 == y)=true:=beq_iff_eq.2 hq
    have HQ:=Za (Ze hq)
    clear hq
    go_wp2
    go_ret
    exact⟨by rw[ZbP _ l0 kk y HX.out HQ.out HN.out];rfl,HB.out⟩
   ·have hqb:(a1 == y)=false:=beq_eq_false_iff_ne.2 hq
    have HQ:=Za (Zf hq)
    clear hq
    go_wp2
    go_roundg (l0.length - (kk+1))
    case measure=>have:=HG.out;omega
    case rel=>
     refine⟨kk+1,⟨by omega⟩,⟨by omega⟩,by go_num,HB,⟨fun j y' hj hy=>?_⟩⟩
     by_cases e:j=kk
     ·subst e
      rw[HX.out] at hy
      cases hy
      exact HQ.out
     ·exact HN.out j y' (by omega) hy
  ·have hltz:¬(kk:Int)<(l0.length:Int):=by omega
   have:kk=l0.length:=by have:=HK.out;omega
   subst this
   go_wp2
   go_ret
   exact⟨by rw[Zbz _ l0 HN.out];rfl,HB.out⟩
set_option maxHeartbeats 4000000 in
theorem Zbr.quiet (A0:Option Addr) (c0:Nat) (l0:List Int) (a1:Int) (w:World) (hr0:Kd.C (Kd.int .i64) w A0 l0.length l0) :
  Calls Tryz.prog 163 #[.slice A0 l0.length c0,.int .i64 a1] w fun e w'=>e=.returned (.int .i64 (ZaZ (fun y=>decide (a1=y)) l0))∧∃n,w'=w.drewN n:=by
 have HR0:=Za hr0
 have HL:l0.length≤9223372036854775807:=HR0.out.2.1
 clear hr0
 go_enter Tryz.func163,Tryz.ntmps163
 go_wp2
 go_loopg [5,8] l0.length (fun gg _ s8 wr=>∃kk:Nat,Aside0 (kk≤l0.length)∧Aside0 (l0.length - kk≤gg)∧s8=.int .i64 kk∧wr=w∧Aside0 (∀j y,j<kk→l0[j]? = some y→decide (a1=y)=false))
 case atStart=>exact⟨0,⟨Nat.zero_le _⟩,⟨by omega⟩,rfl,rfl,⟨fun j y hj=>absurd hj (Nat.not_lt_zero _)⟩⟩
 case round=>
  obtain⟨kk,HK,HG,rfl,rfl,HN⟩:=hrel
  by_cases hlt:kk<l0.length
  ·have hltz:(kk:Int)<(l0.length:Int):=by omega
   obtain⟨ad,e1,hx⟩:=Kd.at_int HR0.out (kk:Int) (by omega) hltz
   cases e1
   rw[Int.toNat_natCast] at hx
   have hxe:l0[kk]? = some (rd l0 (kk:Int)):=by
    unfold rd
    rw[Int.toNat_natCast,List.getD_eq_getElem?_getD,Zl hlt];rfl
   generalize rd l0 (kk:Int)=y at hx hxe
   have HX:=Za hxe;clear hxe
   by_cases hq:a1=y
   ·have hqb:(a1 == y)=true:=beq_iff_eq.2 hq
    have HQ:=Za (Ze hq)
    clear hq
    go_wp2
    go_ret
    exact⟨by rw[ZbP _ l0 kk y HX.out HQ.out HN.out];rfl,0,(World.drewN_zero _).symm⟩
   ·have hqb:(a1 == y)=false:=beq_eq_false_iff_ne.2 hq
    have HQ:=Za (Zf hq)
    clear hq
    go_wp2
    go_roundg (l0.length - (kk+1))
    case measure=>have:=HG.out;omega
    case rel=>
     refine⟨kk+1,⟨by omega⟩,⟨by omega⟩,by go_num,rfl,⟨fun j y' hj hy=>?_⟩⟩
     by_cases e:j=kk
     ·subst e
      rw[HX.out] at hy
      cases hy
      exact HQ.out
     ·exact HN.out j y' (by omega) hy
  ·have hltz:¬(kk:Int)<(l0.length:Int):=by omega
   have:kk=l0.length:=by have:=HK.out;omega
   subst this
   go_wp2
   go_ret
   exact⟨by rw[Zbz _ l0 HN.out];rfl,0,(World.drewN_zero _).symm⟩
def Z4.f (l0:List Int) (a1:Int):Option Bool:=some (l0.any fun y=>decide (a1=y))
theorem Z4.calls (A0:Option Addr) (c0:Nat) (l0:List Int) (a1:Int) (r:Bool) (w:World) (hr0:Kd.C (Kd.int .i64) w A0 l0.length l0) (hc0:l0.length≤c0) (h:Z4.f l0 a1=some r) :
  Calls Tryz.prog 151 #[.slice A0 l0.length c0,.int .i64 a1] w fun e w'=>e=.returned (.bool r)∧Below w.heap.size w w':=by
 obtain rfl:=Zg h
 have HI:=Za (Zbr.calls A0 c0 l0 a1 (ZaZ (fun y=>decide (a1=y)) l0) w hr0 hc0 rfl)
 have HE:=Za (ZcS (fun y=>decide (a1=y)) l0)
 clear hr0 hc0 h
 go_enter Tryz.func151,Tryz.ntmps151
 go_wp2_with (go_at_call 163;refine HI.out.mono ?_;rintro e w' ⟨rfl,hb⟩)
 go_ret
 exact⟨by rw[← HE.out];rfl,hb⟩
theorem Z4.hand (A0:Option Addr) (c0:Nat) (l0:List Int) (a1:Int) (w:World) (hr0:Kd.C (Kd.int .i64) w A0 l0.length l0) (hc0:l0.length≤c0) :
  Calls Tryz.prog 151 #[.slice A0 l0.length c0,.int .i64 a1] w fun e w'=>e=.returned (.bool (l0.any fun y=>decide (a1=y)))∧Below w.heap.size w w':=Z4.calls A0 c0 l0 a1 _ w hr0 hc0 rfl
set_option maxHeartbeats 4000000 in
theorem Zc7.any (p:Int→Bool) (g:Nat) (lb:Array Value) (eg:∀args w,(callFunc g args).run Tryz.prog w=.ok (.enter g args) w) (A0:Option Addr) (c0:Nat) (l0:List Int) (w:World) (hr0:Kd.C (Kd.int .i64) w A0 l0.length l0)
  (hp:∀(W:World) (x:Int),x∈l0→Below w.heap.size w W→Calls Tryz.prog g (#[.int .i64 x] ++ lb) W fun e w'=>e=.returned (.bool (p x))∧Below W.heap.size W w') :
  Calls Tryz.prog 150 #[.slice A0 l0.length c0,.func (.func g) #[] lb] w fun e w'=>e=.returned (.int .i64 (ZaZ p l0))∧Below w.heap.size w w':=by
 have HR0:=Za hr0;have HP:=Za hp;clear hr0 hp
 have HL:l0.length≤9223372036854775807:=HR0.out.2.1
 go_enter Tryz.func150,Tryz.ntmps150
 go_wp2
 go_loopg [5,8] l0.length (fun gg _ s8 wr=>∃kk:Nat,Aside0 (kk≤l0.length)∧Aside0 (l0.length - kk≤gg)∧s8=.int .i64 kk∧Aside0 (Below w.heap.size w wr)∧Aside0 (∀j y,j<kk→l0[j]? = some y→p y=false))
 case atStart=>exact⟨0,⟨Nat.zero_le _⟩,⟨by omega⟩,rfl,⟨Below.refl _ _⟩,⟨fun j y hj=>absurd hj (Nat.not_lt_zero _)⟩⟩
 case round=>
  obtain⟨kk,HK,HG,rfl,HB,HN⟩:=hrel
  by_cases hlt:kk<l0.length
  ·have hltz:(kk:Int)<(l0.length:Int):=by omega
   obtain⟨ad,e1,hx0⟩:=Kd.at_int HR0.out (kk:Int) (by omega) hltz
   cases e1
   replace hx0:=(HB.out.cell (Zc w _ hx0)).trans hx0
   rw[Int.toNat_natCast] at hx0
   have hxe:l0[kk]? = some (rd l0 (kk:Int)):=by
    unfold rd
    rw[Int.toNat_natCast,List.getD_eq_getElem?_getD,Zl hlt];rfl
   generalize rd l0 (kk:Int)=y at hx0 hxe
   have HX:=Za hxe;clear hxe
   have hcall:=HP.out wr y (List.mem_of_getElem? HX.out) HB.out
   cases hq:p y with
   | true=>
    have HQ:=Za hq
    rw[hq] at hcall
    clear hq
    go_wp2_with (go_at_fn g;refine hcall.mono ?_;rintro e w' ⟨rfl,hb⟩)
    go_ret
    exact⟨by rw[ZbP p l0 kk y HX.out HQ.out HN.out];rfl,HB.out.trans (hb.mono HB.out.size)⟩
   | false=>
    have HQ:=Za hq
    rw[hq] at hcall
    clear hq
    go_wp2_with (go_at_fn g;refine hcall.mono ?_;rintro e w' ⟨rfl,hb⟩)
    go_roundg (l0.length - (kk+1))
    case measure=>have:=HG.out;omega
    case rel=>
     refine⟨kk+1,⟨by omega⟩,⟨by omega⟩,by go_num,⟨HB.out.trans (hb.mono HB.out.size)⟩,⟨fun j y' hj hy=>?_⟩⟩
     by_cases e:j=kk
     ·subst e
      rw[HX.out] at hy
      cases hy
      exact HQ.out
     ·exact HN.out j y' (by omega) hy
  ·have hltz:¬(kk:Int)<(l0.length:Int):=by omega
   have:kk=l0.length:=by have:=HK.out;omega
   subst this
   go_wp2
   go_ret
   exact⟨by rw[Zbz p l0 HN.out];rfl,HB.out⟩
set_option maxHeartbeats 4000000 in
theorem ZbA.any (p:Int→Bool) (g:Nat) (lb:Array Value) (eg:∀args w,(callFunc g args).run Tryz.prog w=.ok (.enter g args) w) (A0:Option Addr) (c0:Nat) (l0:List Int) (w:World) (hr0:Kd.C (Kd.int .i64) w A0 l0.length l0)
  (hp:∀(W:World) (x:Int),x∈l0→Below w.heap.size w W→Calls Tryz.prog g (#[.int .i64 x] ++ lb) W fun e w'=>e=.returned (.bool (p x))∧Below W.heap.size W w') :
  Calls Tryz.prog 79 #[.slice A0 l0.length c0,.func (.func g) #[] lb] w fun e w'=>e=.returned (.bool (l0.any p))∧Below w.heap.size w w':=by
 have HI:=Za (Zc7.any p g lb eg A0 c0 l0 w hr0 hp)
 clear hr0 hp
 have HE:=Za (ZcS p l0)
 go_enter Tryz.func79,Tryz.ntmps79
 go_wp2_with (go_at_call 150;refine HI.out.mono ?_;rintro e w' ⟨rfl,hb⟩)
 go_ret
 exact⟨by rw[← HE.out];rfl,hb⟩
def ZaU.f (k:Nat) (l0 l1:List Int):Option Bool:=(Zaa.f k l0).bind fun a=>if a=true then(Zaa.f k l1).bind fun b=>if b=true then some (l1.all fun x=>l0.any fun y=>decide (x=y)) else some false else some false
theorem ZdN.clo (B:Nat) (A0:Option Addr) (c0:Nat) (l0:List Int) (x:Int) (W:World) (hB:W.cell? ⟨B,0,none⟩=some (.slice A0 l0.length c0)) (hr0:Kd.C (Kd.int .i64) W A0 l0.length l0) (hc0:l0.length≤c0) :
  Calls Tryz.prog 196 #[.int .i64 x,.pointer (some ⟨B,0,none⟩)] W fun e w'=>e=.returned (.bool (!(l0.any fun y=>decide (x=y))))∧Below W.heap.size W w':=by
 have HC:=Za ((Z4.hand A0 c0 l0 x W hr0 hc0))
 clear hr0 hc0
 go_enter Tryz.func196,Tryz.ntmps196
 go_wp2_with (go_at_call 151;refine HC.out.mono ?_;rintro e w' ⟨rfl,hb⟩)
 go_ret
 exact⟨rfl,hb⟩
set_option maxHeartbeats 4000000 in
theorem ZaU.calls (k:Nat) (A0:Option Addr) (c0:Nat) (l0:List Int) (A1:Option Addr) (c1:Nat) (l1:List Int) (r:Bool) (w:World) (hr0:Kd.C (Kd.int .i64) w A0 l0.length l0) (hc0:l0.length≤c0) (hr1:Kd.C (Kd.int .i64) w A1 l1.length l1) (hc1:l1.length≤c1) (h:ZaU.f k l0 l1=some r) :
  Calls Tryz.prog 152 #[.slice A0 l0.length c0,.slice A1 l1.length c1] w fun e w'=>e=.returned (.bool r)∧Below w.heap.size w w':=by
 unfold ZaU.f at h
 obtain⟨a,ha,h⟩:=Option.bind_eq_some_iff.1 h
 have LA:=Za fun (W:World) (hb:Below w.heap.size w W)=>(Zaa.calls k A0 c0 l0 a W (Zb hr0 hb) hc0 ha).mono fun e w' ⟨he,hd⟩=>(⟨he,by first|exact hd|exact hd.below⟩:e=Ending.returned (.bool a)∧Below W.heap.size W w')
 have B0:=Za ((Below.refl w.heap.size w).alloc (Nat.le_refl _) (.cells #[.slice A0 l0.length c0] 37))
 cases a with
 | false=>
  rw[if_neg (by decide)] at h
  obtain rfl:=Zg h
  clear hr0 hr1 ha h hc0 hc1
  go_enter Tryz.func152,Tryz.ntmps152
  go_wp2_with fail
  refine(LA.out _ B0.out).mono ?_
  rintro e w1 ⟨rfl,hb1⟩
  have B1:=Za (B0.out.trans (hb1.mono B0.out.size))
  clear hb1
  go_wp2
  go_ret
  exact⟨rfl,B1.out⟩
 | true=>
  rw[if_pos rfl] at h
  obtain⟨b,hb_,h⟩:=Option.bind_eq_some_iff.1 h
  have LB:=Za fun (W:World) (hb:Below w.heap.size w W)=>(Zaa.calls k A1 c1 l1 b W (Zb hr1 hb) hc1 hb_).mono fun e w' ⟨he,hd⟩=>(⟨he,by first|exact hd|exact hd.below⟩:e=Ending.returned (.bool b)∧Below W.heap.size W w')
  cases b with
  | false=>
   rw[if_neg (by decide)] at h
   obtain rfl:=Zg h
   clear hr0 hr1 ha h hc0 hc1 hb_
   go_enter Tryz.func152,Tryz.ntmps152
   go_wp2_with fail
   refine(LA.out _ B0.out).mono ?_
   rintro e w1 ⟨rfl,hb1⟩
   have B1:=Za (B0.out.trans (hb1.mono B0.out.size))
   clear hb1
   go_wp2_with fail
   refine(LB.out _ B1.out).mono ?_
   rintro e w2 ⟨rfl,hb2⟩
   have B2:=Za (B1.out.trans (hb2.mono B1.out.size))
   clear hb2
   go_wp2
   go_ret
   exact⟨rfl,B2.out⟩
  | true=>
   rw[if_pos rfl] at h
   obtain rfl:=Zg h
   have HC:=Za fun (W:World) (hb:Below w.heap.size w W) (hcell:W.cell? ⟨w.heap.size,0,none⟩=some (.slice A0 l0.length c0))=>ZbA.any (fun x=>!(l0.any fun y=>decide (x=y))) 196 #[.pointer (some ⟨w.heap.size,0,none⟩)] (enters_of Tryz.func196 (by kernel_rfl) rfl) A1 c1 l1 W (Zb hr1 hb)
    (fun W' x _ hb'=>ZdN.clo w.heap.size A0 c0 l0 x W' ((hb'.cell (Zc W _ hcell)).trans hcell) (Zb hr0 (hb.trans (hb'.mono hb.size))) hc0)
   have HV:=Za (show(!(l1.any fun x=>!(l0.any fun y=>decide (x=y))))=l1.all fun x=>l0.any fun y=>decide (x=y) by rw[List.not_any_eq_all_not];simp)
   have C0:=Za (show(w.alloc (.cells #[.slice A0 l0.length c0] 37)).cell? ⟨w.heap.size,0,none⟩=some (.slice A0 l0.length c0) by go_simp)
   clear hr0 hr1 ha h hc0 hc1 hb_
   go_enter Tryz.func152,Tryz.ntmps152
   go_wp2_with fail
   refine(LA.out _ B0.out).mono ?_
   rintro e w1 ⟨rfl,hb1⟩
   have B1:=Za (B0.out.trans (hb1.mono B0.out.size))
   have C1:=Za ((hb1.cell (Zc _ _ C0.out)).trans C0.out)
   clear hb1
   go_wp2_with fail
   refine(LB.out _ B1.out).mono ?_
   rintro e w2 ⟨rfl,hb2⟩
   have B2:=Za (B1.out.trans (hb2.mono B1.out.size))
   have C2:=Za ((hb2.cell (Zc _ _ C1.out)).trans C1.out)
   clear hb2
   go_wp2_with fail
   refine(HC.out _ B2.out C2.out).mono ?_
   rintro e w3 ⟨rfl,hb3⟩
   go_wp2
   go_ret
   exact⟨by rw[← HV.out];rfl,B2.out.trans (hb3.mono B2.out.size)⟩
end Go.Proofs.YtoeimopgoaffcaaGreatDoor.Pr
namespace Go.Proofs.YtoeimopgoaffcaaGreatDoor.Pr
open Go.RowKit Go.Proofs.YtoeimopgoaffcaaGreatDoorW.PrintWords Go.Proofs.YtoeimopgoaffcaaGreatDoor.Ni
theorem ZdD (l:List Int) (x:Int) (hl:l.length≤9223372036854775807) (k:Nat) (hk:2 ^ 64≤k):ZaB.f k l x=some (l.any fun y=>decide (x=y)):=by
 have key:=ZaN l.length (fun k i=>ZaB.l0 k x l l.length (i:Int)=some ((l.drop i).any fun y=>decide (x=y))) 0
  (fun k _=>by simp[ZaB.l0])
  (fun k i _ hi ih=>by
   simp only[ZaB.l0]
   rw[if_pos (by omega),if_pos (by omega),if_pos (by omega),Za0,ZR hi (by omega),Zav hi 0,List.any_cons]
   by_cases h:l.getD i 0=x
   ·rw[if_pos h,Ze h.symm];rfl
   ·rw[if_neg h,ih,Zf (fun e=>h e.symm)];rfl) 0 k (Nat.zero_le _) (by omega)
 unfold ZaB.f
 simpa using key
def impB (a b:List Int):Bool:=labB a && labB b && b.all fun x=>a.any fun y=>decide (x=y)
theorem ZdK (a b:List Int) (ha:a.length≤9223372036854775807) (hb:b.length≤9223372036854775807) (k:Nat) (hk:2 ^ 65≤k):ZS.f k a b=some (impB a b):=by
 have key:∀k,2 ^ 64+b.length<k→ZS.l0 k a b b.length 0=some (b.all fun x=>a.any fun y=>decide (x=y)):=by
  intro k hk
  have:=ZaN b.length (fun k i=>ZS.l0 k a b b.length (i:Int)=some ((b.drop i).all fun x=>a.any fun y=>decide (x=y))) (2 ^ 64)
   (fun k _=>by simp[ZS.l0])
   (fun k i hk hi ih=>by
    simp only[ZS.l0]
    rw[if_pos (by omega),if_pos (by omega),if_pos (by omega),Za0,ZR hi (by omega),Zav hi 0,List.all_cons,ZdD a _ ha k hk,Zi]
    cases h:a.any fun y=>decide (b.getD i 0=y)
    ·rfl
    ·rw[if_pos rfl,ih];rfl) 0 k (Nat.zero_le _) (by omega)
  simpa using this
 unfold ZS.f impB
 obtain⟨m,rfl⟩:∃m,k=m+1:=⟨k - 1,by omega⟩
 rw[ZcG a ha _ (by omega),Zi,ZcG b hb _ (by omega)]
 cases labB a
 ·rfl
 ·rw[if_pos rfl,Zi]
  cases labB b
  ·rfl
  ·simp only[ZS.j0,Bool.not_true,Bool.false_eq_true,if_false]
   rw[key m (by omega)];rfl
theorem ZdM (a b:List Int) (ha:a.length≤9223372036854775807) (hb:b.length≤9223372036854775807) (k:Nat) (hk:2 ^ 64≤k):ZaU.f k a b=some (impB a b):=by
 unfold ZaU.f impB
 rw[Zcv a ha k hk,Zi,Zcv b hb k hk]
 cases labB a
 ·rfl
 ·rw[if_pos rfl,Zi]
  cases labB b <;> rfl
end Go.Proofs.YtoeimopgoaffcaaGreatDoor.Pr
namespace Go.Proofs.YtoeimopgoaffcaaGreatDoor.Pr
open Go.RowKit Go.Proofs.YtoeimopgoaffcaaGreatDoorW.PrintWords Go.Proofs.YtoeimopgoaffcaaGreatDoorW.PrintLast Go.Proofs.YtoeimopgoaffcaaGreatDoorW.PrintMore
attribute [local go_sem] Z2 Z0 Zac Zab ZU ZT Z1 ZZ
set_option linter.unusedVariables false
set_option linter.unusedSimpArgs false
def Zat.l0:Nat→Int→List (S82)→Int→Int→Option (Int)
 | 0,_,_,_,_=>none
 | k+1,x1,x8,x9,x10=>if x10<x9 then(if 0≤x10 then(if x10<(x8.length:Int) then(if (Zu x8 x10).f4=true then(if ((Zu x8 x10).f1)=x1 then(some x10) else(Zat.l0 k x1 x8 x9 (wrap64 (x10+1)))) else(Zat.l0 k x1 x8 x9 (wrap64 (x10+1)))) else(none)) else(none)) else(some (-1))
def Zat.f (k:Nat) (l0_0:List (S39)) (l0_1:List (S82)) (a0_2:Int) (a1:Int):Option (Int):=Zat.l0 k a1 l0_1 (l0_1.length:Int) 0
set_option maxHeartbeats 8000000 in
set_option maxRecDepth 100000 in
theorem Zat.calls (k:Nat) (A0_0:Option Addr) (c0_0:Nat) (l0_0:List (S39)) (A0_1:Option Addr) (c0_1:Nat) (l0_1:List (S82)) (a0_2:Int) (a1:Int) (r:Int) (w:World) (hr0_0:Kd.C k39 w A0_0 l0_0.length l0_0) (hc0_0:l0_0.length≤c0_0) (hr0_1:Kd.C k82 w A0_1 l0_1.length l0_1) (hc0_1:l0_1.length≤c0_1) (h:Zat.f k l0_0 l0_1 a0_2 a1=some r) :
  Calls Tryz.prog 180 #[.agg #[.slice A0_0 l0_0.length c0_0,.slice A0_1 l0_1.length c0_1,.int .i64 a0_2],.int .i64 a1] w fun e w'=>e=.returned (.int .i64 r)∧Below w.heap.size w w':=by
 have hu25:=Tryz.underlying25
 have hu82:=Tryz.underlying82
 have HR0_0:=Za hr0_0;have HC0_0:=Za hc0_0;clear hr0_0 hc0_0;have HR0_1:=Za hr0_1;have HC0_1:=Za hc0_1;clear hr0_1 hc0_1
 have HB:=Za (Below.refl w.heap.size w)
 have H:(Zat.l0 k a1 l0_1 (l0_1.length:Int) 0)=some r:=h
 clear h
 have H':=Za H
 clear H
 go_enter Tryz.func180,Tryz.ntmps180
 go_wp2_with (first|((with_reducible refine ZI (N:=2) rfl ?_);refine ZG ?hg (N:=2) ?hd (cs:=#[.slice A0_0 l0_0.length c0_0,.slice A0_1 l0_1.length c0_1,.int .i64 a0_2]) (t:=25) ?hr ?_;(case hd=>rfl);(case hg=>rfl);(case hr=>first|(go_simp;done)|(go_simp;rfl));intro gb180001 hg w3 hbox hb;have BK180001:=Za (hbox);have GW180001:=Za ((by rw[hg];exact(ZC (by repeat(first|(with_reducible first|exact HB.out|apply Zn|apply Zm|apply Zo)|exact HB.out))):w.heap.size≤gb180001));have GE180001:=Za ((by rw[hg];exact(ZC (by repeat(first|(with_reducible first|exact HB.out|apply Zn|apply Zm|apply Zo)|exact HB.out))):w.heap.size≤gb180001));replace HB:=Za (Zt (by repeat(first|(with_reducible first|exact HB.out|apply Zn|apply Zm|apply Zo)|exact HB.out)) hb);clear hb hbox hg;have hcz4_0:w3.cell? ⟨gb180001,0,none⟩=some (.slice A0_0 l0_0.length c0_0):=(Zp BK180001.out 0).trans rfl;have hcz4_1:w3.cell? ⟨gb180001,1,none⟩=some (.slice A0_1 l0_1.length c0_1):=(Zp BK180001.out 1).trans rfl;have hcz4_2:w3.cell? ⟨gb180001,2,none⟩=some (.int .i64 a0_2):=(Zp BK180001.out 2).trans rfl;have hfz4_0:=Zs BK180001.out 0;have hfz4_1:=Zs BK180001.out 1;have hfz4_2:=Zs BK180001.out 2))
 go_loopg [10] k (fun kq v10 w'=>∃(x10_1:Int),v10=.int .i64 x10_1∧Aside0 (Zat.l0 kq a1 l0_1 (l0_1.length:Int) x10_1=some r)∧Aside0 (kq≤k)∧Aside0 (w'.heap[gb180001]? = some (.cells #[(.slice A0_0 l0_0.length c0_0),(.slice A0_1 l0_1.length c0_1),.int .i64 a0_2] 25 (0,0)))∧Aside0 (Below w.heap.size w w'))
 case atStart=>exact⟨(0),(by first|rfl|(simp;done)|(simp[*];done)),H',⟨Nat.le_refl _⟩,⟨by(with_reducible repeat(first|refine Zw ?_ _|refine ZB ?_|refine Zv ?_ _));exact BK180001.out⟩,⟨by repeat(first|(with_reducible first|exact HB.out|apply Zn|apply Zm|apply Zo|refine Zq ?_ GE180001.out)|exact HB.out)⟩⟩
 case round=>
  clear H'
  try clear c1
  try clear p2
  obtain⟨x10_1,rfl,HA,HK1,BK180001,HB⟩:=hrel
  cases gk with
  | zero=>exact absurd HA.out (by simp[Zat.l0])
  | succ k1=>
   have H:=HA.out
   clear HA
   simp only[Zat.l0] at H
   by_cases c5:x10_1<(l0_1.length:Int)
   ·rw[if_pos c5] at H
    have c5b0:decide (x10_1<(l0_1.length:Int))=true:=Ze c5
    clear c5
    by_cases c6:0≤x10_1
    ·rw[if_pos c6] at H
     have c6b0:decide (0≤x10_1)=true:=Ze c6
     clear c6
     by_cases c7:x10_1<(l0_1.length:Int)
     ·rw[if_pos c7] at H
      have c7b0:decide (x10_1<(l0_1.length:Int))=true:=Ze c7
      clear c7
      obtain⟨bq8,hbq8⟩:∃b_:Bool,b_=((Zu l0_1 x10_1).f4):=⟨_,rfl⟩
      replace H:(if bq8=true then(if ((Zu l0_1 x10_1).f1)=a1 then(some x10_1) else(Zat.l0 k1 a1 l0_1 (l0_1.length:Int) (wrap64 (x10_1+1)))) else(Zat.l0 k1 a1 l0_1 (l0_1.length:Int) (wrap64 (x10_1+1))))=some r:=by rw[← hbq8] at H;exact H
      have Nbq8:=Za hbq8;clear hbq8
      by_cases c9:bq8=true
      ·subst c9
       rw[if_pos rfl] at H
       by_cases c10:((Zu l0_1 x10_1).f1)=a1
       ·rw[if_pos c10] at H
        have c10b0:(((Zu l0_1 x10_1).f1) == a1)=true:=beq_iff_eq.mpr c10
        clear c10
        obtain rfl:=Zg H
        have p180002:0≤(x10_1:Int):=Zd (by first|(with_reducible assumption)|assumption)
        have q180002:x10_1<(l0_1.length:Int):=Zd (by first|(with_reducible assumption)|assumption)
        obtain⟨ad180002,e180002,hx180002_0,hx180002_1,hx180002_2,hx180002_3,hx180002_4⟩:=Zbp HR0_1.out x10_1 p180002 q180002
        (try rw[← Nbq8.out] at hx180002_4)
        cases e180002
        replace hx180002_0:=(HB.out.cell (Zc w _ hx180002_0)).trans hx180002_0
        replace hx180002_1:=(HB.out.cell (Zc w _ hx180002_1)).trans hx180002_1
        replace hx180002_2:=(HB.out.cell (Zc w _ hx180002_2)).trans hx180002_2
        replace hx180002_3:=(HB.out.cell (Zc w _ hx180002_3)).trans hx180002_3
        replace hx180002_4:=(HB.out.cell (Zc w _ hx180002_4)).trans hx180002_4
        replace p180002:=eq_true p180002
        replace q180002:=eq_true q180002
        go_wp2_with (first|((with_reducible refine ZI (N:=6) rfl ?_);refine ZG ?hg (N:=6) ?hd (cs:=#[.int .i64 0,.int .i64 0,.int .i64 0,.int .i64 0,.bool false]) (t:=82) ?hr ?_;(case hd=>rfl);(case hg=>rfl);(case hr=>first|(go_simp;done)|(go_simp;rfl));intro gb180003 hg w11 hbox hb;have n0_:=Za (Zx (g:=gb180001) (o:=.cells #[.slice A0_0 l0_0.length c0_0,.slice (some ad180002) l0_1.length c0_1,.int .i64 a0_2] 25 (0,0)) BK180001.out hb);have n1_:=Za (Zt (by repeat(first|(with_reducible first|exact HB.out|apply Zn|apply Zm|apply Zo|refine Zq ?_ GE180001.out)|exact HB.out)) hb);have n2_:=Za (hbox);have n3_:=Za ((by rw[hg];exact(ZC (by repeat(first|(with_reducible first|exact HB.out|apply Zn|apply Zm|apply Zo|refine Zq ?_ GE180001.out)|exact HB.out))):w.heap.size≤gb180003));have n4_:=n3_;have n5_:=Za ((by rw[hg];exact Nat.ne_of_lt (ZW (g:=gb180001) (o:=.cells #[.slice A0_0 l0_0.length c0_0,.slice (some ad180002) l0_1.length c0_1,.int .i64 a0_2] 25 (0,0)) BK180001.out):gb180001≠gb180003));have n6_:=Za n5_.out.symm;clear BK180001;clear HB;have BK180001:=n0_;have HB:=n1_;have BK180003:=n2_;have GW180003:=n3_;have GE180003:=n4_;have NB180001_180003:=n5_;have NB180003_180001:=n6_;clear n0_ n1_ n2_ n3_ n4_ n5_ n6_;clear hb hbox hg;have hcz13_0:w11.cell? ⟨gb180003,0,none⟩=some (.int .i64 0):=(Zp BK180003.out 0).trans rfl;have hcz13_1:w11.cell? ⟨gb180003,1,none⟩=some (.int .i64 0):=(Zp BK180003.out 1).trans rfl;have hcz13_2:w11.cell? ⟨gb180003,2,none⟩=some (.int .i64 0):=(Zp BK180003.out 2).trans rfl;have hcz13_3:w11.cell? ⟨gb180003,3,none⟩=some (.int .i64 0):=(Zp BK180003.out 3).trans rfl;have hcz13_4:w11.cell? ⟨gb180003,4,none⟩=some (.bool false):=(Zp BK180003.out 4).trans rfl;have hfz13_0:=Zs BK180003.out 0;have hfz13_1:=Zs BK180003.out 1;have hfz13_2:=Zs BK180003.out 2;have hfz13_3:=Zs BK180003.out 3;have hfz13_4:=Zs BK180003.out 4))
        go_ret
        exact⟨by first|rfl|(simp[ZA,Zz] <;> rfl)|(simp[*,ZA,Zz] <;> rfl),by repeat(first|(with_reducible first|exact HB.out|apply Zn|apply Zm|apply Zo|refine Zq ?_ GE180001.out|refine Zq ?_ GE180003.out)|exact HB.out)⟩
       ·rw[if_neg c10] at H
        have c10b0:(((Zu l0_1 x10_1).f1) == a1)=false:=beq_eq_false_iff_ne.mpr c10
        have H':=Za H
        clear H
        have p180002:0≤(x10_1:Int):=Zd (by first|(with_reducible assumption)|assumption)
        have q180002:x10_1<(l0_1.length:Int):=Zd (by first|(with_reducible assumption)|assumption)
        obtain⟨ad180002,e180002,hx180002_0,hx180002_1,hx180002_2,hx180002_3,hx180002_4⟩:=Zbp HR0_1.out x10_1 p180002 q180002
        (try rw[← Nbq8.out] at hx180002_4)
        cases e180002
        replace hx180002_0:=(HB.out.cell (Zc w _ hx180002_0)).trans hx180002_0
        replace hx180002_1:=(HB.out.cell (Zc w _ hx180002_1)).trans hx180002_1
        replace hx180002_2:=(HB.out.cell (Zc w _ hx180002_2)).trans hx180002_2
        replace hx180002_3:=(HB.out.cell (Zc w _ hx180002_3)).trans hx180002_3
        replace hx180002_4:=(HB.out.cell (Zc w _ hx180002_4)).trans hx180002_4
        replace p180002:=eq_true p180002
        replace q180002:=eq_true q180002
        go_wp2_with (first|((with_reducible refine ZI (N:=6) rfl ?_);refine ZG ?hg (N:=6) ?hd (cs:=#[.int .i64 0,.int .i64 0,.int .i64 0,.int .i64 0,.bool false]) (t:=82) ?hr ?_;(case hd=>rfl);(case hg=>rfl);(case hr=>first|(go_simp;done)|(go_simp;rfl));intro gb180003 hg w14 hbox hb;have n0_:=Za (Zx (g:=gb180001) (o:=.cells #[.slice A0_0 l0_0.length c0_0,.slice (some ad180002) l0_1.length c0_1,.int .i64 a0_2] 25 (0,0)) BK180001.out hb);have n1_:=Za (Zt (by repeat(first|(with_reducible first|exact HB.out|apply Zn|apply Zm|apply Zo|refine Zq ?_ GE180001.out)|exact HB.out)) hb);have n2_:=Za (hbox);have n3_:=Za ((by rw[hg];exact(ZC (by repeat(first|(with_reducible first|exact HB.out|apply Zn|apply Zm|apply Zo|refine Zq ?_ GE180001.out)|exact HB.out))):w.heap.size≤gb180003));have n4_:=n3_;have n5_:=Za ((by rw[hg];exact Nat.ne_of_lt (ZW (g:=gb180001) (o:=.cells #[.slice A0_0 l0_0.length c0_0,.slice (some ad180002) l0_1.length c0_1,.int .i64 a0_2] 25 (0,0)) BK180001.out):gb180001≠gb180003));have n6_:=Za n5_.out.symm;clear BK180001;clear HB;have BK180001:=n0_;have HB:=n1_;have BK180003:=n2_;have GW180003:=n3_;have GE180003:=n4_;have NB180001_180003:=n5_;have NB180003_180001:=n6_;clear n0_ n1_ n2_ n3_ n4_ n5_ n6_;clear hb hbox hg;have hcz16_0:w14.cell? ⟨gb180003,0,none⟩=some (.int .i64 0):=(Zp BK180003.out 0).trans rfl;have hcz16_1:w14.cell? ⟨gb180003,1,none⟩=some (.int .i64 0):=(Zp BK180003.out 1).trans rfl;have hcz16_2:w14.cell? ⟨gb180003,2,none⟩=some (.int .i64 0):=(Zp BK180003.out 2).trans rfl;have hcz16_3:w14.cell? ⟨gb180003,3,none⟩=some (.int .i64 0):=(Zp BK180003.out 3).trans rfl;have hcz16_4:w14.cell? ⟨gb180003,4,none⟩=some (.bool false):=(Zp BK180003.out 4).trans rfl;have hfz16_0:=Zs BK180003.out 0;have hfz16_1:=Zs BK180003.out 1;have hfz16_2:=Zs BK180003.out 2;have hfz16_3:=Zs BK180003.out 3;have hfz16_4:=Zs BK180003.out 4))
        go_roundg k1
        case measure=>have:=HK1.out;omega
        case rel=>exact⟨(wrap64 (x10_1+1)),(by first|rfl|(simp;done)|(simp[*];done)),H',⟨by have:=HK1.out;omega⟩,⟨by(with_reducible repeat(first|refine Zw ?_ _|refine ZB ?_|refine Zv ?_ _));refine ZL ?_ NB180001_180003.out _;(with_reducible repeat(first|refine Zw ?_ _|refine ZB ?_|refine Zv ?_ _));refine ZL ?_ NB180001_180003.out _;(with_reducible repeat(first|refine Zw ?_ _|refine ZB ?_|refine Zv ?_ _));refine ZL ?_ NB180001_180003.out _;(with_reducible repeat(first|refine Zw ?_ _|refine ZB ?_|refine Zv ?_ _));refine ZL ?_ NB180001_180003.out _;(with_reducible repeat(first|refine Zw ?_ _|refine ZB ?_|refine Zv ?_ _));refine ZL ?_ NB180001_180003.out _;(with_reducible repeat(first|refine Zw ?_ _|refine ZB ?_|refine Zv ?_ _));exact BK180001.out⟩,⟨by repeat(first|(with_reducible first|exact HB.out|apply Zn|apply Zm|apply Zo|refine Zq ?_ GE180001.out|refine Zq ?_ GE180003.out)|exact HB.out)⟩⟩
      ·replace c9:=Bool.eq_false_iff.mpr c9
       subst c9
       have H1:(Zat.l0 k1 a1 l0_1 (l0_1.length:Int) (wrap64 (x10_1+1)))=some r:=by rw[if_neg (show ¬(false=true) by decide)] at H;exact H
       clear H
       have H:=H1
       clear H1
       have H':=Za H
       clear H
       have p180002:0≤(x10_1:Int):=Zd (by first|(with_reducible assumption)|assumption)
       have q180002:x10_1<(l0_1.length:Int):=Zd (by first|(with_reducible assumption)|assumption)
       obtain⟨ad180002,e180002,hx180002_0,hx180002_1,hx180002_2,hx180002_3,hx180002_4⟩:=Zbp HR0_1.out x10_1 p180002 q180002
       (try rw[← Nbq8.out] at hx180002_4)
       cases e180002
       replace hx180002_0:=(HB.out.cell (Zc w _ hx180002_0)).trans hx180002_0
       replace hx180002_1:=(HB.out.cell (Zc w _ hx180002_1)).trans hx180002_1
       replace hx180002_2:=(HB.out.cell (Zc w _ hx180002_2)).trans hx180002_2
       replace hx180002_3:=(HB.out.cell (Zc w _ hx180002_3)).trans hx180002_3
       replace hx180002_4:=(HB.out.cell (Zc w _ hx180002_4)).trans hx180002_4
       replace p180002:=eq_true p180002
       replace q180002:=eq_true q180002
       go_wp2_with (first|((with_reducible refine ZI (N:=6) rfl ?_);refine ZG ?hg (N:=6) ?hd (cs:=#[.int .i64 0,.int .i64 0,.int .i64 0,.int .i64 0,.bool false]) (t:=82) ?hr ?_;(case hd=>rfl);(case hg=>rfl);(case hr=>first|(go_simp;done)|(go_simp;rfl));intro gb180003 hg w17 hbox hb;have n0_:=Za (Zx (g:=gb180001) (o:=.cells #[.slice A0_0 l0_0.length c0_0,.slice (some ad180002) l0_1.length c0_1,.int .i64 a0_2] 25 (0,0)) BK180001.out hb);have n1_:=Za (Zt (by repeat(first|(with_reducible first|exact HB.out|apply Zn|apply Zm|apply Zo|refine Zq ?_ GE180001.out)|exact HB.out)) hb);have n2_:=Za (hbox);have n3_:=Za ((by rw[hg];exact(ZC (by repeat(first|(with_reducible first|exact HB.out|apply Zn|apply Zm|apply Zo|refine Zq ?_ GE180001.out)|exact HB.out))):w.heap.size≤gb180003));have n4_:=n3_;have n5_:=Za ((by rw[hg];exact Nat.ne_of_lt (ZW (g:=gb180001) (o:=.cells #[.slice A0_0 l0_0.length c0_0,.slice (some ad180002) l0_1.length c0_1,.int .i64 a0_2] 25 (0,0)) BK180001.out):gb180001≠gb180003));have n6_:=Za n5_.out.symm;clear BK180001;clear HB;have BK180001:=n0_;have HB:=n1_;have BK180003:=n2_;have GW180003:=n3_;have GE180003:=n4_;have NB180001_180003:=n5_;have NB180003_180001:=n6_;clear n0_ n1_ n2_ n3_ n4_ n5_ n6_;clear hb hbox hg;have hcz19_0:w17.cell? ⟨gb180003,0,none⟩=some (.int .i64 0):=(Zp BK180003.out 0).trans rfl;have hcz19_1:w17.cell? ⟨gb180003,1,none⟩=some (.int .i64 0):=(Zp BK180003.out 1).trans rfl;have hcz19_2:w17.cell? ⟨gb180003,2,none⟩=some (.int .i64 0):=(Zp BK180003.out 2).trans rfl;have hcz19_3:w17.cell? ⟨gb180003,3,none⟩=some (.int .i64 0):=(Zp BK180003.out 3).trans rfl;have hcz19_4:w17.cell? ⟨gb180003,4,none⟩=some (.bool false):=(Zp BK180003.out 4).trans rfl;have hfz19_0:=Zs BK180003.out 0;have hfz19_1:=Zs BK180003.out 1;have hfz19_2:=Zs BK180003.out 2;have hfz19_3:=Zs BK180003.out 3;have hfz19_4:=Zs BK180003.out 4))
       go_roundg k1
       case measure=>have:=HK1.out;omega
       case rel=>exact⟨(wrap64 (x10_1+1)),(by first|rfl|(simp;done)|(simp[*];done)),H',⟨by have:=HK1.out;omega⟩,⟨by(with_reducible repeat(first|refine Zw ?_ _|refine ZB ?_|refine Zv ?_ _));refine ZL ?_ NB180001_180003.out _;(with_reducible repeat(first|refine Zw ?_ _|refine ZB ?_|refine Zv ?_ _));refine ZL ?_ NB180001_180003.out _;(with_reducible repeat(first|refine Zw ?_ _|refine ZB ?_|refine Zv ?_ _));refine ZL ?_ NB180001_180003.out _;(with_reducible repeat(first|refine Zw ?_ _|refine ZB ?_|refine Zv ?_ _));refine ZL ?_ NB180001_180003.out _;(with_reducible repeat(first|refine Zw ?_ _|refine ZB ?_|refine Zv ?_ _));refine ZL ?_ NB180001_180003.out _;(with_reducible repeat(first|refine Zw ?_ _|refine ZB ?_|refine Zv ?_ _));exact BK180001.out⟩,⟨by repeat(first|(with_reducible first|exact HB.out|apply Zn|apply Zm|apply Zo|refine Zq ?_ GE180001.out|refine Zq ?_ GE180003.out)|exact HB.out)⟩⟩
     ·rw[if_neg c7] at H
      exact absurd H (by simp)
    ·rw[if_neg c6] at H
     exact absurd H (by simp)
   ·rw[if_neg c5] at H
    have c5b0:decide (x10_1<(l0_1.length:Int))=false:=Zf c5
    clear c5
    obtain rfl:=Zg H
    go_wp2
    go_ret
    exact⟨by first|rfl|(simp[ZA,Zz] <;> rfl)|(simp[*,ZA,Zz] <;> rfl),by repeat(first|(with_reducible first|exact HB.out|apply Zn|apply Zm|apply Zo|refine Zq ?_ GE180001.out)|exact HB.out)⟩
def Z5.l0:Nat→Int→List (S39)→Int→Int→Option (Int)
 | 0,_,_,_,_=>none
 | k+1,x1,x8,x9,x10=>if x10<x9 then(if 0≤x10 then(if x10<(x8.length:Int) then(if ((ZD x8 x10).f2)=x1 then(some x10) else(Z5.l0 k x1 x8 x9 (wrap64 (x10+1)))) else(none)) else(none)) else(some (-1))
def Z5.f (k:Nat) (l0_0:List (S39)) (l0_1:List (S82)) (a0_2:Int) (a1:Int):Option (Int):=Z5.l0 k a1 l0_0 (l0_0.length:Int) 0
set_option maxHeartbeats 8000000 in
set_option maxRecDepth 100000 in
theorem Z5.calls (k:Nat) (A0_0:Option Addr) (c0_0:Nat) (l0_0:List (S39)) (A0_1:Option Addr) (c0_1:Nat) (l0_1:List (S82)) (a0_2:Int) (a1:Int) (r:Int) (w:World) (hr0_0:Kd.C k39 w A0_0 l0_0.length l0_0) (hc0_0:l0_0.length≤c0_0) (hr0_1:Kd.C k82 w A0_1 l0_1.length l0_1) (hc0_1:l0_1.length≤c0_1) (h:Z5.f k l0_0 l0_1 a0_2 a1=some r) :
  Calls Tryz.prog 97 #[.agg #[.slice A0_0 l0_0.length c0_0,.slice A0_1 l0_1.length c0_1,.int .i64 a0_2],.int .i64 a1] w fun e w'=>e=.returned (.int .i64 r)∧Below w.heap.size w w':=by
 have hu25:=Tryz.underlying25
 have hu39:=Tryz.underlying39
 have HR0_0:=Za hr0_0;have HC0_0:=Za hc0_0;clear hr0_0 hc0_0;have HR0_1:=Za hr0_1;have HC0_1:=Za hc0_1;clear hr0_1 hc0_1
 have HB:=Za (Below.refl w.heap.size w)
 have H:(Z5.l0 k a1 l0_0 (l0_0.length:Int) 0)=some r:=h
 clear h
 have H':=Za H
 clear H
 go_enter Tryz.func97,Tryz.ntmps97
 go_wp2_with (first|((with_reducible refine ZI (N:=2) rfl ?_);refine ZG ?hg (N:=2) ?hd (cs:=#[.slice A0_0 l0_0.length c0_0,.slice A0_1 l0_1.length c0_1,.int .i64 a0_2]) (t:=25) ?hr ?_;(case hd=>rfl);(case hg=>rfl);(case hr=>first|(go_simp;done)|(go_simp;rfl));intro gb97001 hg w3 hbox hb;have BK97001:=Za (hbox);have GW97001:=Za ((by rw[hg];exact(ZC (by repeat(first|(with_reducible first|exact HB.out|apply Zn|apply Zm|apply Zo)|exact HB.out))):w.heap.size≤gb97001));have GE97001:=Za ((by rw[hg];exact(ZC (by repeat(first|(with_reducible first|exact HB.out|apply Zn|apply Zm|apply Zo)|exact HB.out))):w.heap.size≤gb97001));replace HB:=Za (Zt (by repeat(first|(with_reducible first|exact HB.out|apply Zn|apply Zm|apply Zo)|exact HB.out)) hb);clear hb hbox hg;have hcz4_0:w3.cell? ⟨gb97001,0,none⟩=some (.slice A0_0 l0_0.length c0_0):=(Zp BK97001.out 0).trans rfl;have hcz4_1:w3.cell? ⟨gb97001,1,none⟩=some (.slice A0_1 l0_1.length c0_1):=(Zp BK97001.out 1).trans rfl;have hcz4_2:w3.cell? ⟨gb97001,2,none⟩=some (.int .i64 a0_2):=(Zp BK97001.out 2).trans rfl;have hfz4_0:=Zs BK97001.out 0;have hfz4_1:=Zs BK97001.out 1;have hfz4_2:=Zs BK97001.out 2))
 go_loopg [10] k (fun kq v10 w'=>∃(x10_1:Int),v10=.int .i64 x10_1∧Aside0 (Z5.l0 kq a1 l0_0 (l0_0.length:Int) x10_1=some r)∧Aside0 (kq≤k)∧Aside0 (w'.heap[gb97001]? = some (.cells #[(.slice A0_0 l0_0.length c0_0),(.slice A0_1 l0_1.length c0_1),.int .i64 a0_2] 25 (0,0)))∧Aside0 (Below w.heap.size w w'))
 case atStart=>exact⟨(0),(by first|rfl|(simp;done)|(simp[*];done)),H',⟨Nat.le_refl _⟩,⟨by(with_reducible repeat(first|refine Zw ?_ _|refine ZB ?_|refine Zv ?_ _));exact BK97001.out⟩,⟨by repeat(first|(with_reducible first|exact HB.out|apply Zn|apply Zm|apply Zo|refine Zq ?_ GE97001.out)|exact HB.out)⟩⟩
 case round=>
  clear H'
  try clear p2
  obtain⟨x10_1,rfl,HA,HK1,BK97001,HB⟩:=hrel
  cases gk with
  | zero=>exact absurd HA.out (by simp[Z5.l0])
  | succ k1=>
   have H:=HA.out
   clear HA
   simp only[Z5.l0] at H
   by_cases c5:x10_1<(l0_0.length:Int)
   ·rw[if_pos c5] at H
    have c5b0:decide (x10_1<(l0_0.length:Int))=true:=Ze c5
    clear c5
    by_cases c6:0≤x10_1
    ·rw[if_pos c6] at H
     have c6b0:decide (0≤x10_1)=true:=Ze c6
     clear c6
     by_cases c7:x10_1<(l0_0.length:Int)
     ·rw[if_pos c7] at H
      have c7b0:decide (x10_1<(l0_0.length:Int))=true:=Ze c7
      clear c7
      by_cases c8:((ZD l0_0 x10_1).f2)=a1
      ·rw[if_pos c8] at H
       have c8b0:(((ZD l0_0 x10_1).f2) == a1)=true:=beq_iff_eq.mpr c8
       clear c8
       obtain rfl:=Zg H
       have p97002:0≤(x10_1:Int):=Zd (by first|(with_reducible assumption)|assumption)
       have q97002:x10_1<(l0_0.length:Int):=Zd (by first|(with_reducible assumption)|assumption)
       obtain⟨ad97002,A97002_1,c97002_1,e97002,hx97002_0,hx97002_1,hx97002_2,hl97002_1,hi97002_1⟩:=ZaG HR0_0.out x10_1 p97002 q97002
       cases e97002
       replace hx97002_0:=(HB.out.cell (Zc w _ hx97002_0)).trans hx97002_0
       replace hx97002_1:=(HB.out.cell (Zc w _ hx97002_1)).trans hx97002_1
       replace hx97002_2:=(HB.out.cell (Zc w _ hx97002_2)).trans hx97002_2
       have HR97002_1:=Za hi97002_1;have HC97002_1:=Za hl97002_1;clear hi97002_1 hl97002_1
       replace p97002:=eq_true p97002
       replace q97002:=eq_true q97002
       go_wp2_with (first|((with_reducible refine ZI (N:=6) rfl ?_);refine ZG ?hg (N:=6) ?hd (cs:=#[.string (⟨#[]⟩:ByteArray),.slice none 0 0,.int .i64 0]) (t:=39) ?hr ?_;(case hd=>rfl);(case hg=>rfl);(case hr=>first|(go_simp;done)|(go_simp;rfl));intro gb97003 hg w9 hbox hb;have n0_:=Za (Zx (g:=gb97001) (o:=.cells #[.slice (some ad97002) l0_0.length c0_0,.slice A0_1 l0_1.length c0_1,.int .i64 a0_2] 25 (0,0)) BK97001.out hb);have n1_:=Za (Zt (by repeat(first|(with_reducible first|exact HB.out|apply Zn|apply Zm|apply Zo|refine Zq ?_ GE97001.out)|exact HB.out)) hb);have n2_:=Za (hbox);have n3_:=Za ((by rw[hg];exact(ZC (by repeat(first|(with_reducible first|exact HB.out|apply Zn|apply Zm|apply Zo|refine Zq ?_ GE97001.out)|exact HB.out))):w.heap.size≤gb97003));have n4_:=n3_;have n5_:=Za ((by rw[hg];exact Nat.ne_of_lt (ZW (g:=gb97001) (o:=.cells #[.slice (some ad97002) l0_0.length c0_0,.slice A0_1 l0_1.length c0_1,.int .i64 a0_2] 25 (0,0)) BK97001.out):gb97001≠gb97003));have n6_:=Za n5_.out.symm;clear BK97001;clear HB;have BK97001:=n0_;have HB:=n1_;have BK97003:=n2_;have GW97003:=n3_;have GE97003:=n4_;have NB97001_97003:=n5_;have NB97003_97001:=n6_;clear n0_ n1_ n2_ n3_ n4_ n5_ n6_;clear hb hbox hg;have hcz11_0:w9.cell? ⟨gb97003,0,none⟩=some (.string (⟨#[]⟩:ByteArray)):=(Zp BK97003.out 0).trans rfl;have hcz11_1:w9.cell? ⟨gb97003,1,none⟩=some (.slice none 0 0):=(Zp BK97003.out 1).trans rfl;have hcz11_2:w9.cell? ⟨gb97003,2,none⟩=some (.int .i64 0):=(Zp BK97003.out 2).trans rfl;have hfz11_0:=Zs BK97003.out 0;have hfz11_1:=Zs BK97003.out 1;have hfz11_2:=Zs BK97003.out 2))
       go_ret
       exact⟨by first|rfl|(simp[ZA,Zz] <;> rfl)|(simp[*,ZA,Zz] <;> rfl),by repeat(first|(with_reducible first|exact HB.out|apply Zn|apply Zm|apply Zo|refine Zq ?_ GE97001.out|refine Zq ?_ GE97003.out)|exact HB.out)⟩
      ·rw[if_neg c8] at H
       have c8b0:(((ZD l0_0 x10_1).f2) == a1)=false:=beq_eq_false_iff_ne.mpr c8
       have H':=Za H
       clear H
       have p97002:0≤(x10_1:Int):=Zd (by first|(with_reducible assumption)|assumption)
       have q97002:x10_1<(l0_0.length:Int):=Zd (by first|(with_reducible assumption)|assumption)
       obtain⟨ad97002,A97002_1,c97002_1,e97002,hx97002_0,hx97002_1,hx97002_2,hl97002_1,hi97002_1⟩:=ZaG HR0_0.out x10_1 p97002 q97002
       cases e97002
       replace hx97002_0:=(HB.out.cell (Zc w _ hx97002_0)).trans hx97002_0
       replace hx97002_1:=(HB.out.cell (Zc w _ hx97002_1)).trans hx97002_1
       replace hx97002_2:=(HB.out.cell (Zc w _ hx97002_2)).trans hx97002_2
       have HR97002_1:=Za hi97002_1;have HC97002_1:=Za hl97002_1;clear hi97002_1 hl97002_1
       replace p97002:=eq_true p97002
       replace q97002:=eq_true q97002
       go_wp2_with (first|((with_reducible refine ZI (N:=6) rfl ?_);refine ZG ?hg (N:=6) ?hd (cs:=#[.string (⟨#[]⟩:ByteArray),.slice none 0 0,.int .i64 0]) (t:=39) ?hr ?_;(case hd=>rfl);(case hg=>rfl);(case hr=>first|(go_simp;done)|(go_simp;rfl));intro gb97003 hg w12 hbox hb;have n0_:=Za (Zx (g:=gb97001) (o:=.cells #[.slice (some ad97002) l0_0.length c0_0,.slice A0_1 l0_1.length c0_1,.int .i64 a0_2] 25 (0,0)) BK97001.out hb);have n1_:=Za (Zt (by repeat(first|(with_reducible first|exact HB.out|apply Zn|apply Zm|apply Zo|refine Zq ?_ GE97001.out)|exact HB.out)) hb);have n2_:=Za (hbox);have n3_:=Za ((by rw[hg];exact(ZC (by repeat(first|(with_reducible first|exact HB.out|apply Zn|apply Zm|apply Zo|refine Zq ?_ GE97001.out)|exact HB.out))):w.heap.size≤gb97003));have n4_:=n3_;have n5_:=Za ((by rw[hg];exact Nat.ne_of_lt (ZW (g:=gb97001) (o:=.cells #[.slice (some ad97002) l0_0.length c0_0,.slice A0_1 l0_1.length c0_1,.int .i64 a0_2] 25 (0,0)) BK97001.out):gb97001≠gb97003));have n6_:=Za n5_.out.symm;clear BK97001;clear HB;have BK97001:=n0_;have HB:=n1_;have BK97003:=n2_;have GW97003:=n3_;have GE97003:=n4_;have NB97001_97003:=n5_;have NB97003_97001:=n6_;clear n0_ n1_ n2_ n3_ n4_ n5_ n6_;clear hb hbox hg;have hcz14_0:w12.cell? ⟨gb97003,0,none⟩=some (.string (⟨#[]⟩:ByteArray)):=(Zp BK97003.out 0).trans rfl;have hcz14_1:w12.cell? ⟨gb97003,1,none⟩=some (.slice none 0 0):=(Zp BK97003.out 1).trans rfl;have hcz14_2:w12.cell? ⟨gb97003,2,none⟩=some (.int .i64 0):=(Zp BK97003.out 2).trans rfl;have hfz14_0:=Zs BK97003.out 0;have hfz14_1:=Zs BK97003.out 1;have hfz14_2:=Zs BK97003.out 2))
       go_roundg k1
       case measure=>have:=HK1.out;omega
       case rel=>exact⟨(wrap64 (x10_1+1)),(by first|rfl|(simp;done)|(simp[*];done)),H',⟨by have:=HK1.out;omega⟩,⟨by(with_reducible repeat(first|refine Zw ?_ _|refine ZB ?_|refine Zv ?_ _));refine ZL ?_ NB97001_97003.out _;(with_reducible repeat(first|refine Zw ?_ _|refine ZB ?_|refine Zv ?_ _));refine ZL ?_ NB97001_97003.out _;(with_reducible repeat(first|refine Zw ?_ _|refine ZB ?_|refine Zv ?_ _));refine ZL ?_ NB97001_97003.out _;(with_reducible repeat(first|refine Zw ?_ _|refine ZB ?_|refine Zv ?_ _));exact BK97001.out⟩,⟨by repeat(first|(with_reducible first|exact HB.out|apply Zn|apply Zm|apply Zo|refine Zq ?_ GE97001.out|refine Zq ?_ GE97003.out)|exact HB.out)⟩⟩
     ·rw[if_neg c7] at H
      exact absurd H (by simp)
    ·rw[if_neg c6] at H
     exact absurd H (by simp)
   ·rw[if_neg c5] at H
    have c5b0:decide (x10_1<(l0_0.length:Int))=false:=Zf c5
    clear c5
    obtain rfl:=Zg H
    go_wp2
    go_ret
    exact⟨by first|rfl|(simp[ZA,Zz] <;> rfl)|(simp[*,ZA,Zz] <;> rfl),by repeat(first|(with_reducible first|exact HB.out|apply Zn|apply Zm|apply Zo|refine Zq ?_ GE97001.out)|exact HB.out)⟩
end Go.Proofs.YtoeimopgoaffcaaGreatDoor.Pr
namespace Go.Proofs.YtoeimopgoaffcaaGreatDoor.Pr
open Go.RowKit Go.Proofs.YtoeimopgoaffcaaGreatDoorW.PrintWords Go.Proofs.YtoeimopgoaffcaaGreatDoor.Ni
def Zcz (ts:List PTie) (node:Int):Int:=ZaZ (fun t=>t.f4 && decide (t.f1=node)) ts
def ZbT (ns:List ZM) (p:Int):Int:=ZaZ (fun n=>decide (n.f2=p)) ns
def inB (a b c:Int):Bool:=decide (b≤a) && decide (a≤c)
theorem l01In_f (a b c:Int):ZY.f a b c=some (inB a b c):=by
 unfold ZY.f inB
 by_cases h:a≥b
 ·rw[if_pos h,Ze (show b≤a from h),Bool.true_and]
 ·rw[if_neg h,Zf (show ¬b≤a from h),Bool.false_and]
theorem l08Free_f (ns:List ZM) (ts:List PTie) (z:Int) (node:Int) (hl:ts.length≤9223372036854775807) (k:Nat) (hk:2 ^ 64≤k):Zat.f k ns ts z node=some (Zcz ts node):=by
 have key:=ZaN ts.length (fun k i=>(∀j y,j<i→ts[j]? = some y→(y.f4 && decide (y.f1=node))=false)→Zat.l0 k node ts ts.length (i:Int)=some (Zcz ts node)) 0
  (fun k _ hb=>by
   simp only[Zat.l0]
   rw[if_neg (by omega),Zcz,Zbz _ _ hb])
  (fun k i _ hi ih hb=>by
   simp only[Zat.l0]
   have next:((ts.getD i z82).f4 && decide ((ts.getD i z82).f1=node))=false→Zat.l0 k node ts ts.length ((i+1:Nat):Int)=some (Zcz ts node):=fun h=>ih (by
    intro j y hj hy
    by_cases e:j=i
    ·subst e
     rw[getD_some hi z82] at hy
     cases hy
     exact h
    ·exact hb j y (by omega) hy)
   rw[if_pos (by omega),if_pos (by omega),if_pos (by omega),Zdv,ZR hi (by omega)]
   by_cases h:(ts.getD i z82).f4=true
   ·rw[if_pos h]
    by_cases h2:(ts.getD i z82).f1=node
    ·rw[if_pos h2,Zcz,ZbP _ ts i _ (getD_some hi z82) (by rw[h,Ze h2];rfl) hb]
    ·rw[if_neg h2,next (by rw[Zf h2,Bool.and_false])]
   ·rw[if_neg h,next (by rw[Bool.eq_false_iff.2 h,Bool.false_and])]) 0 k (Nat.zero_le _) (by omega)
 unfold Zat.f
 exact key (fun j y hj=>absurd hj (by omega))
theorem ZcE (ns:List ZM) (ts:List PTie) (z:Int) (p:Int) (hl:ns.length≤9223372036854775807) (k:Nat) (hk:2 ^ 64≤k):Z5.f k ns ts z p=some (ZbT ns p):=by
 have key:=ZaN ns.length (fun k i=>(∀j y,j<i→ns[j]? = some y→decide (y.f2=p)=false)→Z5.l0 k p ns ns.length (i:Int)=some (ZbT ns p)) 0
  (fun k _ hb=>by
   simp only[Z5.l0]
   rw[if_neg (by omega),ZbT,Zbz _ _ hb])
  (fun k i _ hi ih hb=>by
   simp only[Z5.l0]
   rw[if_pos (by omega),if_pos (by omega),if_pos (by omega),ZbQ,ZR hi (by omega)]
   by_cases h:(ns.getD i z39).f2=p
   ·rw[if_pos h,ZbT,ZbP _ ns i _ (getD_some hi z39) (Ze h) hb]
   ·rw[if_neg h,ih]
    intro j y hj hy
    by_cases e:j=i
    ·subst e
     rw[getD_some hi z39] at hy
     cases hy
     exact Zf h
    ·exact hb j y (by omega) hy) 0 k (Nat.zero_le _) (by omega)
 unfold Z5.f
 exact key (fun j y hj=>absurd hj (by omega))
def fitN (ns:List ZM):Bool:=ns.all fun n=>decide (n.f0.size≤9223372036854775807) && decide (n.f1.length≤9223372036854775807)
theorem fitN_iff {ns:List ZM} (h:fitN ns=true):∀n∈ns,n.f0.size≤9223372036854775807∧n.f1.length≤9223372036854775807:=fun n hn=>by
 have:=List.all_eq_true.1 h n hn
 simpa using this
theorem showCell0 (w:World) (x y z:Value) (t:TypeId):(w.alloc (.cells #[x,y,z] t)).cell? ⟨w.heap.size,0,none⟩=some x:=by go_simp
theorem showCell1 (w:World) (x y z:Value) (t:TypeId):(w.alloc (.cells #[x,y,z] t)).cell? ⟨w.heap.size,1,none⟩=some y:=by go_simp
theorem showCell2 (w:World) (x y z:Value) (t:TypeId):(w.alloc (.cells #[x,y,z] t)).cell? ⟨w.heap.size,2,none⟩=some z:=by go_simp
theorem Zbo (a b c:Int) (w:World):Calls Tryz.prog 127 #[.int .i64 a,.int .i64 b,.int .i64 c] w fun e w'=>e=.returned (.bool (inB a b c))∧∃n,w'=w.drewN n:=
 (ZY.calls a b c _ w (l01In_f a b c)).mono fun _ _ ⟨he,hd⟩=>⟨he,hd.out⟩
theorem quietX {P:Program} {f:FuncId} {args:Array Value} {W:World} {a x:Nat} {v:Value} (h:Calls P f args (W.drewN (a+x)) fun e w'=>e=.returned v∧∃m,w'=(W.drewN (a+x)).drewN m):Calls P f args (W.drewN (a+x)) fun e w''=>e=.returned v∧∃n,w''=W.drewN (a+n):=
 h.mono fun _ _ ⟨he,m,hm⟩=>⟨he,x+m,by rw[hm,World.drewN_drewN,Nat.add_assoc]⟩
theorem quiet0 {P:Program} {f:FuncId} {args:Array Value} {W:World} {x:Nat} {v:Value} (h:Calls P f args (W.drewN x) fun e w'=>e=.returned v∧∃m,w'=(W.drewN x).drewN m):Calls P f args (W.drewN x) fun e w''=>e=.returned v∧∃n,w''=W.drewN n:=
 h.mono fun _ _ ⟨he,m,hm⟩=>⟨he,x+m,by rw[hm,World.drewN_drewN]⟩
end Go.Proofs.YtoeimopgoaffcaaGreatDoor.Pr
