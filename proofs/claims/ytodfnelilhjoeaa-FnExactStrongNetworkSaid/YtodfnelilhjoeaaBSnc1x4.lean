/- The texts of one claim, put together by a program of this session. -/
import Derived.Deep.LoopGhost
import Derived.Shelf.Abstract
import Derived.Test.YtodfnelilhjoeaaBSnc1x1
namespace Go.Proofs.Ytodfnelilhjoeaa.Pr
open Go.RowKit Go.Proofs.YtodfnelilhjoeaaW.PrintWords Go.Proofs.YtodfnelilhjoeaaW.PrintLast Go.Proofs.YtodfnelilhjoeaaW.PrintMore
attribute [local go_sem] Zac Zaa Zam Zal Z5 Z4 Zab Z9
set_option linter.unusedVariables false
set_option linter.unusedSimpArgs false
def ZaG.l0:Nat→List Int→List Int→Int→Int→Option (Bool)
 | 0,_,_,_,_=>none
 | k+1,x1,x12,x13,x14=>if x14<x13 then(if 0≤x14 then(if x14<(x12.length:Int) then(if x14<(x1.length:Int) then(if (rd x12 x14)=(rd x1 x14) then(ZaG.l0 k x1 x12 x13 (wrap64 (x14+1))) else(some false)) else(none)) else(none)) else(none)) else(some true)
def ZaG.f (k:Nat) (l0:List Int) (l1:List Int):Option (Bool):=if (l0.length:Int)=(l1.length:Int) then(ZaG.l0 k l1 l0 (l0.length:Int) 0) else(some false)
set_option maxHeartbeats 8000000 in
set_option maxRecDepth 100000 in
theorem ZaG.calls (k:Nat) (A0:Option Addr) (c0:Nat) (l0:List Int) (A1:Option Addr) (c1:Nat) (l1:List Int) (r:Bool) (w:World) (hr0:Kd.C (Kd.int .i64) w A0 l0.length l0) (hc0:l0.length≤c0) (hr1:Kd.C (Kd.int .i64) w A1 l1.length l1) (hc1:l1.length≤c1) (h:ZaG.f k l0 l1=some r) :
  Calls Try.prog 156 #[.slice A0 l0.length c0,.slice A1 l1.length c1] w fun e w'=>e=.returned (.bool r)∧ZE w w':=by
 have HR0:=Za hr0;have HC0:=Za hc0;clear hr0 hc0;have HR1:=Za hr1;have HC1:=Za hc1;clear hr1 hc1
 have H:(if (l0.length:Int)=(l1.length:Int) then(ZaG.l0 k l1 l0 (l0.length:Int) 0) else(some false))=some r:=h
 clear h
 by_cases c3:(l0.length:Int)=(l1.length:Int)
 ·rw[if_pos c3] at H
  have c3b0:((l0.length:Int) == (l1.length:Int))=true:=beq_iff_eq.mpr c3
  have c3b1:((l0.length:Int) != (l1.length:Int))=false:=bne_eq_false_iff_eq.mpr c3
  have c3b2:(l0.length == l1.length)=true:=by first|simpa using c3|(simp at c3 ⊢;omega)
  clear c3
  have H':=Za H
  clear H
  go_enter Try.func156,Try.ntmps156
  go_wp2
  go_loopg [14] k (fun kq v14 w'=>∃(x14_1:Int),v14=.int .i64 x14_1∧Aside0 (ZaG.l0 kq l1 l0 (l0.length:Int) x14_1=some r)∧Aside0 (kq≤k)∧ZE w w')
  case atStart=>exact⟨(0),(by first|rfl|(simp;done)|(simp[*];done)),H',⟨Nat.le_refl _⟩,by repeat(first|exact ZE.refl _|apply ZE.step)⟩
  case round=>
   clear H'
   try clear c1
   try clear p2
   try clear c3
   try clear c3b0
   try clear c3b1
   try clear c3b2
   obtain⟨x14_1,rfl,HA,HK1,⟨m1,rfl⟩⟩:=hrel
   cases gk with
   | zero=>exact absurd HA.out (by simp[ZaG.l0])
   | succ k1=>
    have H:=HA.out
    clear HA
    simp only[ZaG.l0] at H
    by_cases c4:x14_1<(l0.length:Int)
    ·rw[if_pos c4] at H
     have c4b0:decide (x14_1<(l0.length:Int))=true:=Ze c4
     clear c4
     by_cases c5:0≤x14_1
     ·rw[if_pos c5] at H
      have c5b0:decide (0≤x14_1)=true:=Ze c5
      clear c5
      by_cases c6:x14_1<(l0.length:Int)
      ·rw[if_pos c6] at H
       have c6b0:decide (x14_1<(l0.length:Int))=true:=Ze c6
       clear c6
       by_cases c7:x14_1<(l1.length:Int)
       ·rw[if_pos c7] at H
        have c7b0:decide (x14_1<(l1.length:Int))=true:=Ze c7
        clear c7
        by_cases c8:(rd l0 x14_1)=(rd l1 x14_1)
        ·rw[if_pos c8] at H
         have c8b0:((rd l0 x14_1) == (rd l1 x14_1))=true:=beq_iff_eq.mpr c8
         have c8b1:((rd l0 x14_1) != (rd l1 x14_1))=false:=bne_eq_false_iff_eq.mpr c8
         clear c8
         have H':=Za H
         clear H
         have p156001:0≤(x14_1:Int):=Zd (by first|(with_reducible assumption)|assumption)
         have q156001:x14_1<(l0.length:Int):=Zd (by first|(with_reducible assumption)|assumption)
         obtain⟨ad156001,e156001,hx156001_0⟩:=Kd.at_int HR0.out x14_1 p156001 q156001
         cases e156001
         replace p156001:=eq_true p156001
         replace q156001:=eq_true q156001
         have p156002:0≤(x14_1:Int):=Zd (by first|(with_reducible assumption)|assumption)
         have q156002:x14_1<(l1.length:Int):=Zd (by first|(with_reducible assumption)|assumption)
         obtain⟨ad156002,e156002,hx156002_0⟩:=Kd.at_int HR1.out x14_1 p156002 q156002
         cases e156002
         replace p156002:=eq_true p156002
         replace q156002:=eq_true q156002
         go_wp2
         go_roundg k1
         case measure=>have:=HK1.out;omega
         case rel=>exact⟨(wrap64 (x14_1+1)),(by first|rfl|(simp;done)|(simp[*];done)),H',⟨by have:=HK1.out;omega⟩,by repeat(first|exact ZE.refl _|apply ZE.step)⟩
        ·rw[if_neg c8] at H
         have c8b0:((rd l0 x14_1) == (rd l1 x14_1))=false:=beq_eq_false_iff_ne.mpr c8
         have c8b1:((rd l0 x14_1) != (rd l1 x14_1))=true:=bne_iff_ne.mpr c8
         obtain rfl:=Zg H
         have p156001:0≤(x14_1:Int):=Zd (by first|(with_reducible assumption)|assumption)
         have q156001:x14_1<(l0.length:Int):=Zd (by first|(with_reducible assumption)|assumption)
         obtain⟨ad156001,e156001,hx156001_0⟩:=Kd.at_int HR0.out x14_1 p156001 q156001
         cases e156001
         replace p156001:=eq_true p156001
         replace q156001:=eq_true q156001
         have p156002:0≤(x14_1:Int):=Zd (by first|(with_reducible assumption)|assumption)
         have q156002:x14_1<(l1.length:Int):=Zd (by first|(with_reducible assumption)|assumption)
         obtain⟨ad156002,e156002,hx156002_0⟩:=Kd.at_int HR1.out x14_1 p156002 q156002
         cases e156002
         replace p156002:=eq_true p156002
         replace q156002:=eq_true q156002
         go_wp2
         go_ret
         exact⟨by first|rfl|(simp;done)|(simp[*];done),by repeat(first|exact ZE.refl _|apply ZE.step)⟩
       ·rw[if_neg c7] at H
        exact absurd H (by simp)
      ·rw[if_neg c6] at H
       exact absurd H (by simp)
     ·rw[if_neg c5] at H
      exact absurd H (by simp)
    ·rw[if_neg c4] at H
     have c4b0:decide (x14_1<(l0.length:Int))=false:=Zf c4
     clear c4
     obtain rfl:=Zg H
     go_wp2
     go_ret
     exact⟨by first|rfl|(simp;done)|(simp[*];done),by repeat(first|exact ZE.refl _|apply ZE.step)⟩
 ·rw[if_neg c3] at H
  have c3b0:((l0.length:Int) == (l1.length:Int))=false:=beq_eq_false_iff_ne.mpr c3
  have c3b1:((l0.length:Int) != (l1.length:Int))=true:=bne_iff_ne.mpr c3
  have c3b2:(l0.length == l1.length)=false:=by first|simpa using c3|(simp at c3 ⊢;omega)
  obtain rfl:=Zg H
  go_enter Try.func156,Try.ntmps156
  go_wp2
  go_ret
  exact⟨by first|rfl|(simp;done)|(simp[*];done),by repeat(first|exact ZE.refl _|apply ZE.step)⟩
def Z7.l0:Nat→List Int→List Int→Int→Int→Option (Bool)
 | 0,_,_,_,_=>none
 | k+1,x0,x1,x12,x13=>if x13<x12 then(if 0≤x13 then(if x13<(x0.length:Int) then(if x13<(x1.length:Int) then(if (rd x0 x13)=(rd x1 x13) then(Z7.l0 k x0 x1 x12 (wrap64 (x13+1))) else(some false)) else(none)) else(none)) else(none)) else(some true)
def Z7.f (k:Nat) (l0:List Int) (l1:List Int):Option (Bool):=if (l0.length:Int)=(l1.length:Int) then(Z7.l0 k l0 l1 (l0.length:Int) 0) else(some false)
set_option maxHeartbeats 8000000 in
set_option maxRecDepth 100000 in
theorem Z7.calls (k:Nat) (A0:Option Addr) (c0:Nat) (l0:List Int) (A1:Option Addr) (c1:Nat) (l1:List Int) (r:Bool) (w:World) (hr0:Kd.C (Kd.int .i64) w A0 l0.length l0) (hc0:l0.length≤c0) (hr1:Kd.C (Kd.int .i64) w A1 l1.length l1) (hc1:l1.length≤c1) (h:Z7.f k l0 l1=some r) :
  Calls Try.prog 159 #[.slice A0 l0.length c0,.slice A1 l1.length c1] w fun e w'=>e=.returned (.bool r)∧ZE w w':=by
 have HR0:=Za hr0;have HC0:=Za hc0;clear hr0 hc0;have HR1:=Za hr1;have HC1:=Za hc1;clear hr1 hc1
 have H:(if (l0.length:Int)=(l1.length:Int) then(Z7.l0 k l0 l1 (l0.length:Int) 0) else(some false))=some r:=h
 clear h
 by_cases c3:(l0.length:Int)=(l1.length:Int)
 ·rw[if_pos c3] at H
  have c3b0:((l0.length:Int) == (l1.length:Int))=true:=beq_iff_eq.mpr c3
  have c3b1:((l0.length:Int) != (l1.length:Int))=false:=bne_eq_false_iff_eq.mpr c3
  have c3b2:(l0.length == l1.length)=true:=by first|simpa using c3|(simp at c3 ⊢;omega)
  clear c3
  have H':=Za H
  clear H
  go_enter Try.func159,Try.ntmps159
  go_wp2
  repeat(go_quiet (fail);try go_wp2)
  go_loopg [13] k (fun kq v13 w'=>∃(x13_1:Int),v13=.int .i64 x13_1∧Aside0 (Z7.l0 kq l0 l1 (l0.length:Int) x13_1=some r)∧Aside0 (kq≤k)∧ZE w w')
  case atStart=>exact⟨(0),(by first|rfl|(simp;done)|(simp[*];done)),H',⟨Nat.le_refl _⟩,by repeat(first|exact ZE.refl _|apply ZE.step)⟩
  case round=>
   clear H'
   try clear c1
   try clear p2
   try clear c3
   try clear c3b0
   try clear c3b1
   try clear c3b2
   obtain⟨x13_1,rfl,HA,HK1,⟨m1,rfl⟩⟩:=hrel
   cases gk with
   | zero=>exact absurd HA.out (by simp[Z7.l0])
   | succ k1=>
    have H:=HA.out
    clear HA
    simp only[Z7.l0] at H
    by_cases c4:x13_1<(l0.length:Int)
    ·rw[if_pos c4] at H
     have c4b0:decide (x13_1<(l0.length:Int))=true:=Ze c4
     clear c4
     by_cases c5:0≤x13_1
     ·rw[if_pos c5] at H
      have c5b0:decide (0≤x13_1)=true:=Ze c5
      clear c5
      by_cases c6:x13_1<(l0.length:Int)
      ·rw[if_pos c6] at H
       have c6b0:decide (x13_1<(l0.length:Int))=true:=Ze c6
       clear c6
       by_cases c7:x13_1<(l1.length:Int)
       ·rw[if_pos c7] at H
        have c7b0:decide (x13_1<(l1.length:Int))=true:=Ze c7
        clear c7
        by_cases c8:(rd l0 x13_1)=(rd l1 x13_1)
        ·rw[if_pos c8] at H
         have c8b0:((rd l0 x13_1) == (rd l1 x13_1))=true:=beq_iff_eq.mpr c8
         have c8b1:((rd l0 x13_1) != (rd l1 x13_1))=false:=bne_eq_false_iff_eq.mpr c8
         clear c8
         have H':=Za H
         clear H
         have p159001:0≤(x13_1:Int):=Zd (by first|(with_reducible assumption)|assumption)
         have q159001:x13_1<(l0.length:Int):=Zd (by first|(with_reducible assumption)|assumption)
         obtain⟨ad159001,e159001,hx159001_0⟩:=Kd.at_int HR0.out x13_1 p159001 q159001
         cases e159001
         replace p159001:=eq_true p159001
         replace q159001:=eq_true q159001
         have p159002:0≤(x13_1:Int):=Zd (by first|(with_reducible assumption)|assumption)
         have q159002:x13_1<(l1.length:Int):=Zd (by first|(with_reducible assumption)|assumption)
         obtain⟨ad159002,e159002,hx159002_0⟩:=Kd.at_int HR1.out x13_1 p159002 q159002
         cases e159002
         replace p159002:=eq_true p159002
         replace q159002:=eq_true q159002
         go_wp2
         repeat(go_quiet (fail);try go_wp2)
         go_roundg k1
         case measure=>have:=HK1.out;omega
         case rel=>exact⟨(wrap64 (x13_1+1)),(by first|rfl|(simp;done)|(simp[*];done)),H',⟨by have:=HK1.out;omega⟩,by repeat(first|exact ZE.refl _|apply ZE.step)⟩
        ·rw[if_neg c8] at H
         have c8b0:((rd l0 x13_1) == (rd l1 x13_1))=false:=beq_eq_false_iff_ne.mpr c8
         have c8b1:((rd l0 x13_1) != (rd l1 x13_1))=true:=bne_iff_ne.mpr c8
         obtain rfl:=Zg H
         have p159001:0≤(x13_1:Int):=Zd (by first|(with_reducible assumption)|assumption)
         have q159001:x13_1<(l0.length:Int):=Zd (by first|(with_reducible assumption)|assumption)
         obtain⟨ad159001,e159001,hx159001_0⟩:=Kd.at_int HR0.out x13_1 p159001 q159001
         cases e159001
         replace p159001:=eq_true p159001
         replace q159001:=eq_true q159001
         have p159002:0≤(x13_1:Int):=Zd (by first|(with_reducible assumption)|assumption)
         have q159002:x13_1<(l1.length:Int):=Zd (by first|(with_reducible assumption)|assumption)
         obtain⟨ad159002,e159002,hx159002_0⟩:=Kd.at_int HR1.out x13_1 p159002 q159002
         cases e159002
         replace p159002:=eq_true p159002
         replace q159002:=eq_true q159002
         go_wp2
         repeat(go_quiet (fail);try go_wp2)
         go_ret
         exact⟨by first|rfl|(simp;done)|(simp[*];done),by repeat(first|exact ZE.refl _|apply ZE.step)⟩
       ·rw[if_neg c7] at H
        exact absurd H (by simp)
      ·rw[if_neg c6] at H
       exact absurd H (by simp)
     ·rw[if_neg c5] at H
      exact absurd H (by simp)
    ·rw[if_neg c4] at H
     have c4b0:decide (x13_1<(l0.length:Int))=false:=Zf c4
     clear c4
     obtain rfl:=Zg H
     go_wp2
     repeat(go_quiet (fail);try go_wp2)
     go_ret
     exact⟨by first|rfl|(simp;done)|(simp[*];done),by repeat(first|exact ZE.refl _|apply ZE.step)⟩
 ·rw[if_neg c3] at H
  have c3b0:((l0.length:Int) == (l1.length:Int))=false:=beq_eq_false_iff_ne.mpr c3
  have c3b1:((l0.length:Int) != (l1.length:Int))=true:=bne_iff_ne.mpr c3
  have c3b2:(l0.length == l1.length)=false:=by first|simpa using c3|(simp at c3 ⊢;omega)
  obtain rfl:=Zg H
  go_enter Try.func159,Try.ntmps159
  go_wp2
  repeat(go_quiet (fail);try go_wp2)
  go_ret
  exact⟨by first|rfl|(simp;done)|(simp[*];done),by repeat(first|exact ZE.refl _|apply ZE.step)⟩
end Go.Proofs.Ytodfnelilhjoeaa.Pr
namespace Go.Proofs.Ytodfnelilhjoeaa.Pr
open Go.RowKit Go.Proofs.YtodfnelilhjoeaaW.PrintWords Go.Proofs.Ytodfnelilhjoeaa.Ni
theorem l08Same_f (l m:List Int) (hl:l.length≤9223372036854775807) (k:Nat) (hk:2 ^ 64≤k):ZaG.f k l m=some (decide (l=m)):=by
 unfold ZaG.f
 by_cases e:l.length=m.length
 ·rw[if_pos (by omega)]
  have key:=ZaC l.length (fun k i=>ZaG.l0 k m l l.length (i:Int)=some (decide (l.drop i=m.drop i))) 0
   (fun k _=>by
    simp only[ZaG.l0]
    rw[if_neg (by omega),List.drop_of_length_le (Nat.le_refl _),List.drop_of_length_le (by omega)]
    simp)
   (fun k i _ hi ih=>by
    simp only[ZaG.l0]
    rw[if_pos (by omega),if_pos (by omega),if_pos (by omega),if_pos (by omega),Zbk,Zbk,Z6 hi (by omega),ZaE hi 0,ZaE (show i<m.length by omega) 0]
    by_cases h:l.getD i 0=m.getD i 0
    ·rw[if_pos h,ih,h];simp
    ·rw[if_neg h]
     simp only[List.cons.injEq,h,false_and,decide_false]) 0 k (Nat.zero_le _) (by omega)
  simpa using key
 ·rw[if_neg (by omega)]
  have:l≠m:=fun h=>e (by rw[h])
  simp[this]
theorem sEqual_f (l m:List Int) (hl:l.length≤9223372036854775807) (k:Nat) (hk:2 ^ 64≤k):Z7.f k l m=some (decide (l=m)):=by
 unfold Z7.f
 by_cases e:l.length=m.length
 ·rw[if_pos (by omega)]
  have key:=ZaC l.length (fun k i=>Z7.l0 k l m l.length (i:Int)=some (decide (l.drop i=m.drop i))) 0
   (fun k _=>by
    simp only[Z7.l0]
    rw[if_neg (by omega),List.drop_of_length_le (Nat.le_refl _),List.drop_of_length_le (by omega)]
    simp)
   (fun k i _ hi ih=>by
    simp only[Z7.l0]
    rw[if_pos (by omega),if_pos (by omega),if_pos (by omega),if_pos (by omega),Zbk,Zbk,Z6 hi (by omega),ZaE hi 0,ZaE (show i<m.length by omega) 0]
    by_cases h:l.getD i 0=m.getD i 0
    ·rw[if_pos h,ih,h];simp
    ·rw[if_neg h]
     simp only[List.cons.injEq,h,false_and,decide_false]) 0 k (Nat.zero_le _) (by omega)
  simpa using key
 ·rw[if_neg (by omega)]
  have:l≠m:=fun h=>e (by rw[h])
  simp[this]
end Go.Proofs.Ytodfnelilhjoeaa.Pr
namespace Go.Proofs.Ytodfnelilhjoeaa.Pr
open Go.RowKit Go.Proofs.YtodfnelilhjoeaaW.PrintWords Go.Proofs.YtodfnelilhjoeaaW.PrintLast Go.Proofs.YtodfnelilhjoeaaW.PrintMore
attribute [local go_sem] Zac Zaa Zam Zal Z5 Z4 Zab Z9
set_option linter.unusedVariables false
set_option linter.unusedSimpArgs false
open Go.Proofs.Ytodfnelilhjoeaa.Ni
set_option maxHeartbeats 4000000 in
theorem Zdp.any (p:S90→Bool) (g:Nat) (lb:Array Value) (eg:∀args w,(callFunc g args).run Try.prog w=.ok (.enter g args) w) (A0:Option Addr) (c0:Nat) (l0:List S90) (w:World) (hr0:Kd.C k90 w A0 l0.length l0)
  (hp:∀(W:World) (x:S90),x∈l0→Below w.heap.size w W→Calls Try.prog g (#[.agg #[.int .i64 x.f0,.int .i64 x.f1,.int .i64 x.f2,.int .i64 x.f3,.bool x.f4]] ++ lb) W fun e w'=>e=.returned (.bool (p x))∧Below W.heap.size W w') :
  Calls Try.prog 135 #[.slice A0 l0.length c0,.func (.func g) #[] lb] w fun e w'=>e=.returned (.int .i64 (Za8 p l0))∧Below w.heap.size w w':=by
 have HR0:=Za hr0;have HP:=Za hp;clear hr0 hp
 have HL:l0.length≤9223372036854775807:=HR0.out.2.1
 go_enter Try.func135,Try.ntmps135
 go_wp2
 go_loopg [5,8] l0.length (fun gg _ s8 wr=>∃kk:Nat,Aside0 (kk≤l0.length)∧Aside0 (l0.length - kk≤gg)∧s8=.int .i64 kk∧Aside0 (Below w.heap.size w wr)∧Aside0 (∀j y,j<kk→l0[j]? = some y→p y=false))
 case atStart=>exact⟨0,⟨Nat.zero_le _⟩,⟨by omega⟩,rfl,⟨Below.refl _ _⟩,⟨fun j y hj=>absurd hj (Nat.not_lt_zero _)⟩⟩
 case round=>
  obtain⟨kk,HK,HG,rfl,HB,HN⟩:=hrel
  by_cases hlt:kk<l0.length
  ·have hltz:(kk:Int)<(l0.length:Int):=by omega
   obtain⟨ad,e1,hx0,hx1,hx2,hx3,hx4⟩:=ZaH HR0.out (kk:Int) (by omega) hltz
   cases e1
   replace hx0:=(HB.out.cell (Zc w _ hx0)).trans hx0
   rw[Int.toNat_natCast] at hx0
   replace hx1:=(HB.out.cell (Zc w _ hx1)).trans hx1
   rw[Int.toNat_natCast] at hx1
   replace hx2:=(HB.out.cell (Zc w _ hx2)).trans hx2
   rw[Int.toNat_natCast] at hx2
   replace hx3:=(HB.out.cell (Zc w _ hx3)).trans hx3
   rw[Int.toNat_natCast] at hx3
   replace hx4:=(HB.out.cell (Zc w _ hx4)).trans hx4
   rw[Int.toNat_natCast] at hx4
   have hxe:l0[kk]? = some (Zv l0 (kk:Int)):=by
    unfold Zv
    rw[Int.toNat_natCast,List.getD_eq_getElem?_getD,Zl hlt];rfl
   generalize Zv l0 (kk:Int)=y at hx0 hx1 hx2 hx3 hx4 hxe
   have HX:=Za hxe;clear hxe
   have hcall:=HP.out wr y (List.mem_of_getElem? HX.out) HB.out
   cases hq:p y with
   | true=>
    have HQ:=Za hq
    rw[hq] at hcall
    clear hq
    go_wp2_with (go_at_fn g;refine hcall.mono ?_;rintro e w' ⟨rfl,hb⟩)
    go_ret
    exact⟨by rw[ZbI p l0 kk y HX.out HQ.out HN.out];rfl,HB.out.trans (hb.mono HB.out.size)⟩
   | false=>
    have HQ:=Za hq
    rw[hq] at hcall
    clear hq
    go_wp2_with (go_at_fn g;refine hcall.mono ?_;rintro e w' ⟨rfl,hb⟩)
    go_roundg (l0.length - (kk+1))
    case measure=>have:=HG.out;omega
    case rel=>
     refine⟨kk+1,⟨by omega⟩,⟨by omega⟩,by go_num,⟨HB.out.trans (hb.mono HB.out.size)⟩,⟨fun j y' hj hy=>?_⟩⟩
     by_cases e:j=kk
     ·subst e
      rw[HX.out] at hy
      cases hy
      exact HQ.out
     ·exact HN.out j y' (by omega) hy
  ·have hltz:¬(kk:Int)<(l0.length:Int):=by omega
   have:kk=l0.length:=by have:=HK.out;omega
   subst this
   go_wp2
   go_ret
   exact⟨by rw[Zbu p l0 HN.out];rfl,HB.out⟩
set_option maxHeartbeats 4000000 in
theorem impl_Tie_146.any (p:S90→Bool) (g:Nat) (lb:Array Value) (eg:∀args w,(callFunc g args).run Try.prog w=.ok (.enter g args) w) (A0:Option Addr) (c0:Nat) (l0:List S90) (w:World) (hr0:Kd.C k90 w A0 l0.length l0)
  (hp:∀(W:World) (x:S90),x∈l0→Below w.heap.size w W→Calls Try.prog g (#[.agg #[.int .i64 x.f0,.int .i64 x.f1,.int .i64 x.f2,.int .i64 x.f3,.bool x.f4]] ++ lb) W fun e w'=>e=.returned (.bool (p x))∧Below W.heap.size W w') :
  Calls Try.prog 146 #[.slice A0 l0.length c0,.func (.func g) #[] lb] w fun e w'=>e=.returned (.bool (l0.any p))∧Below w.heap.size w w':=by
 have HI:=Za (Zdp.any p g lb eg A0 c0 l0 w hr0 hp)
 clear hr0 hp
 have HE:=Za (ZcO p l0)
 go_enter Try.func146,Try.ntmps146
 go_wp2_with (go_at_call 135;refine HI.out.mono ?_;rintro e w' ⟨rfl,hb⟩)
 go_ret
 exact⟨by rw[← HE.out];rfl,hb⟩
end Go.Proofs.Ytodfnelilhjoeaa.Pr
namespace Go.Proofs.Ytodfnelilhjoeaa.Pr
open Go.RowKit Go.Proofs.YtodfnelilhjoeaaW.PrintWords Go.Proofs.YtodfnelilhjoeaaW.PrintLast Go.Proofs.YtodfnelilhjoeaaW.PrintMore
attribute [local go_sem] Zac Zaa Zam Zal Z5 Z4 Zab Z9
set_option linter.unusedVariables false
set_option linter.unusedSimpArgs false
def Zcp.f (a0:Int):Option (Bool):=if a0≥(-20) then(some (decide (a0≤20))) else(some false)
set_option maxHeartbeats 8000000 in
set_option maxRecDepth 100000 in
theorem Zcp.calls (a0:Int) (r:Bool) (w:World) (h:Zcp.f a0=some r) :
  Calls Try.prog 158 #[.int .i64 a0] w fun e w'=>e=.returned (.bool r)∧ZE w w':=by
 have H:(if a0≥(-20) then(some (decide (a0≤20))) else(some false))=some r:=h
 clear h
 by_cases c2:a0≥(-20)
 ·rw[if_pos c2] at H
  have c2b0:decide ((-20)≤a0)=true:=Ze c2
  clear c2
  obtain rfl:=Zg H
  go_enter Try.func158,Try.ntmps158
  go_wp2
  go_ret
  exact⟨by first|rfl|(simp;done)|(simp[*];done),by repeat(first|exact ZE.refl _|apply ZE.step)⟩
 ·rw[if_neg c2] at H
  have c2b0:decide ((-20)≤a0)=false:=Zf c2
  clear c2
  obtain rfl:=Zg H
  go_enter Try.func158,Try.ntmps158
  go_wp2
  go_ret
  exact⟨by first|rfl|(simp;done)|(simp[*];done),by repeat(first|exact ZE.refl _|apply ZE.step)⟩
def ZbN.f (a0:Int) (a1:Int):Option (Bool):=if a1≥0 then(some (decide (a1<a0))) else(some false)
set_option maxHeartbeats 8000000 in
set_option maxRecDepth 100000 in
theorem ZbN.calls (a0:Int) (a1:Int) (r:Bool) (w:World) (h:ZbN.f a0 a1=some r) :
  Calls Try.prog 90 #[.int .i64 a0,.int .i64 a1] w fun e w'=>e=.returned (.bool r)∧ZE w w':=by
 have H:(if a1≥0 then(some (decide (a1<a0))) else(some false))=some r:=h
 clear h
 by_cases c3:a1≥0
 ·rw[if_pos c3] at H
  have c3b0:decide (0≤a1)=true:=Ze c3
  clear c3
  obtain rfl:=Zg H
  go_enter Try.func90,Try.ntmps90
  go_wp2
  go_ret
  exact⟨by first|rfl|(simp;done)|(simp[*];done),by repeat(first|exact ZE.refl _|apply ZE.step)⟩
 ·rw[if_neg c3] at H
  have c3b0:decide (0≤a1)=false:=Zf c3
  clear c3
  obtain rfl:=Zg H
  go_enter Try.func90,Try.ntmps90
  go_wp2
  go_ret
  exact⟨by first|rfl|(simp;done)|(simp[*];done),by repeat(first|exact ZE.refl _|apply ZE.step)⟩
end Go.Proofs.Ytodfnelilhjoeaa.Pr
