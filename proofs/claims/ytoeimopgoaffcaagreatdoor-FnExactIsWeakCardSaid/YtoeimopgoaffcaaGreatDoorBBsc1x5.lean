/- The texts of one claim, put together by a program of this session. -/
import Derived.Test.YtoeimopgoaffcaaGreatDoorBBsc1x1
namespace Go.Proofs.YtoeimopgoaffcaaGreatDoor.Pr
open Go.RowKit Go.Proofs.YtoeimopgoaffcaaGreatDoorW.PrintWords Go.Proofs.YtoeimopgoaffcaaGreatDoorW.PrintLast Go.Proofs.YtoeimopgoaffcaaGreatDoorW.PrintMore
attribute [local go_sem] ZU ZS ZW ZV ZO ZN ZT ZR
set_option linter.unusedVariables false
set_option linter.unusedSimpArgs false
def ZaM.l0:Nat→List Int→List Int→Int→Int→Option (Bool)
 | 0,_,_,_,_=>none
 | k+1,x1,x12,x13,x14=>if x14<x13 then(if 0≤x14 then(if x14<(x12.length:Int) then(if x14<(x1.length:Int) then(if (rd x12 x14)=(rd x1 x14) then(ZaM.l0 k x1 x12 x13 (wrap64 (x14+1))) else(some false)) else(none)) else(none)) else(none)) else(some true)
def ZaM.f (k:Nat) (l0:List Int) (l1:List Int):Option (Bool):=if (l0.length:Int)=(l1.length:Int) then(ZaM.l0 k l1 l0 (l0.length:Int) 0) else(some false)
set_option maxHeartbeats 8000000 in
set_option maxRecDepth 100000 in
theorem ZaM.calls (k:Nat) (A0:Option Addr) (c0:Nat) (l0:List Int) (A1:Option Addr) (c1:Nat) (l1:List Int) (r:Bool) (w:World) (hr0:Kd.C (Kd.int .i64) w A0 l0.length l0) (hc0:l0.length≤c0) (hr1:Kd.C (Kd.int .i64) w A1 l1.length l1) (hc1:l1.length≤c1) (h:ZaM.f k l0 l1=some r) :
  Calls Tryz.prog 179 #[.slice A0 l0.length c0,.slice A1 l1.length c1] w fun e w'=>e=.returned (.bool r)∧ZE w w':=by
 have HR0:=Za hr0;have HC0:=Za hc0;clear hr0 hc0;have HR1:=Za hr1;have HC1:=Za hc1;clear hr1 hc1
 have H:(if (l0.length:Int)=(l1.length:Int) then(ZaM.l0 k l1 l0 (l0.length:Int) 0) else(some false))=some r:=h
 clear h
 by_cases c3:(l0.length:Int)=(l1.length:Int)
 ·rw[if_pos c3] at H
  have c3b0:((l0.length:Int) == (l1.length:Int))=true:=beq_iff_eq.mpr c3
  clear c3
  have H':=Za H
  clear H
  go_enter Tryz.func179,Tryz.ntmps179
  go_wp2
  go_loopg [14] k (fun kq v14 w'=>∃(x14_1:Int),v14=.int .i64 x14_1∧Aside0 (ZaM.l0 kq l1 l0 (l0.length:Int) x14_1=some r)∧Aside0 (kq≤k)∧ZE w w')
  case atStart=>exact⟨(0),(by first|rfl|(simp;done)|(simp[*];done)),H',⟨Nat.le_refl _⟩,by repeat(first|exact ZE.refl _|apply ZE.step)⟩
  case round=>
   clear H'
   try clear c1
   try clear p2
   try clear c3
   try clear c3b0
   try clear c3b1
   try clear c3b2
   obtain⟨x14_1,rfl,HA,HK1,⟨m1,rfl⟩⟩:=hrel
   cases gk with
   | zero=>exact absurd HA.out (by simp[ZaM.l0])
   | succ k1=>
    have H:=HA.out
    clear HA
    simp only[ZaM.l0] at H
    by_cases c4:x14_1<(l0.length:Int)
    ·rw[if_pos c4] at H
     have c4b0:decide (x14_1<(l0.length:Int))=true:=Ze c4
     clear c4
     by_cases c5:0≤x14_1
     ·rw[if_pos c5] at H
      have c5b0:decide (0≤x14_1)=true:=Ze c5
      clear c5
      by_cases c6:x14_1<(l0.length:Int)
      ·rw[if_pos c6] at H
       have c6b0:decide (x14_1<(l0.length:Int))=true:=Ze c6
       clear c6
       by_cases c7:x14_1<(l1.length:Int)
       ·rw[if_pos c7] at H
        have c7b0:decide (x14_1<(l1.length:Int))=true:=Ze c7
        clear c7
        by_cases c8:(rd l0 x14_1)=(rd l1 x14_1)
        ·rw[if_pos c8] at H
         have c8b0:((rd l0 x14_1) == (rd l1 x14_1))=true:=beq_iff_eq.mpr c8
         clear c8
         have H':=Za H
         clear H
         have p179001:0≤(x14_1:Int):=Zd (by first|(with_reducible assumption)|assumption)
         have q179001:x14_1<(l0.length:Int):=Zd (by first|(with_reducible assumption)|assumption)
         obtain⟨ad179001,e179001,hx179001_0⟩:=Kd.at_int HR0.out x14_1 p179001 q179001
         cases e179001
         replace p179001:=eq_true p179001
         replace q179001:=eq_true q179001
         have p179002:0≤(x14_1:Int):=Zd (by first|(with_reducible assumption)|assumption)
         have q179002:x14_1<(l1.length:Int):=Zd (by first|(with_reducible assumption)|assumption)
         obtain⟨ad179002,e179002,hx179002_0⟩:=Kd.at_int HR1.out x14_1 p179002 q179002
         cases e179002
         replace p179002:=eq_true p179002
         replace q179002:=eq_true q179002
         go_wp2
         go_roundg k1
         case measure=>have:=HK1.out;omega
         case rel=>exact⟨(wrap64 (x14_1+1)),(by first|rfl|(simp;done)|(simp[*];done)),H',⟨by have:=HK1.out;omega⟩,by repeat(first|exact ZE.refl _|apply ZE.step)⟩
        ·rw[if_neg c8] at H
         have c8b0:((rd l0 x14_1) == (rd l1 x14_1))=false:=beq_eq_false_iff_ne.mpr c8
         obtain rfl:=Zg H
         have p179001:0≤(x14_1:Int):=Zd (by first|(with_reducible assumption)|assumption)
         have q179001:x14_1<(l0.length:Int):=Zd (by first|(with_reducible assumption)|assumption)
         obtain⟨ad179001,e179001,hx179001_0⟩:=Kd.at_int HR0.out x14_1 p179001 q179001
         cases e179001
         replace p179001:=eq_true p179001
         replace q179001:=eq_true q179001
         have p179002:0≤(x14_1:Int):=Zd (by first|(with_reducible assumption)|assumption)
         have q179002:x14_1<(l1.length:Int):=Zd (by first|(with_reducible assumption)|assumption)
         obtain⟨ad179002,e179002,hx179002_0⟩:=Kd.at_int HR1.out x14_1 p179002 q179002
         cases e179002
         replace p179002:=eq_true p179002
         replace q179002:=eq_true q179002
         go_wp2
         go_ret
         exact⟨by first|rfl|(simp;done)|(simp[*];done),by repeat(first|exact ZE.refl _|apply ZE.step)⟩
       ·rw[if_neg c7] at H
        exact absurd H (by simp)
      ·rw[if_neg c6] at H
       exact absurd H (by simp)
     ·rw[if_neg c5] at H
      exact absurd H (by simp)
    ·rw[if_neg c4] at H
     have c4b0:decide (x14_1<(l0.length:Int))=false:=Zf c4
     clear c4
     obtain rfl:=Zg H
     go_wp2
     go_ret
     exact⟨by first|rfl|(simp;done)|(simp[*];done),by repeat(first|exact ZE.refl _|apply ZE.step)⟩
 ·rw[if_neg c3] at H
  have c3b0:((l0.length:Int) == (l1.length:Int))=false:=beq_eq_false_iff_ne.mpr c3
  obtain rfl:=Zg H
  go_enter Tryz.func179,Tryz.ntmps179
  go_wp2
  go_ret
  exact⟨by first|rfl|(simp;done)|(simp[*];done),by repeat(first|exact ZE.refl _|apply ZE.step)⟩
def Zag.l0:Nat→List Int→List Int→Int→Int→Option (Bool)
 | 0,_,_,_,_=>none
 | k+1,x0,x1,x12,x13=>if x13<x12 then(if 0≤x13 then(if x13<(x0.length:Int) then(if x13<(x1.length:Int) then(if (rd x0 x13)=(rd x1 x13) then(Zag.l0 k x0 x1 x12 (wrap64 (x13+1))) else(some false)) else(none)) else(none)) else(none)) else(some true)
def Zag.f (k:Nat) (l0:List Int) (l1:List Int):Option (Bool):=if (l0.length:Int)=(l1.length:Int) then(Zag.l0 k l0 l1 (l0.length:Int) 0) else(some false)
set_option maxHeartbeats 8000000 in
set_option maxRecDepth 100000 in
theorem Zag.calls (k:Nat) (A0:Option Addr) (c0:Nat) (l0:List Int) (A1:Option Addr) (c1:Nat) (l1:List Int) (r:Bool) (w:World) (hr0:Kd.C (Kd.int .i64) w A0 l0.length l0) (hc0:l0.length≤c0) (hr1:Kd.C (Kd.int .i64) w A1 l1.length l1) (hc1:l1.length≤c1) (h:Zag.f k l0 l1=some r) :
  Calls Tryz.prog 146 #[.slice A0 l0.length c0,.slice A1 l1.length c1] w fun e w'=>e=.returned (.bool r)∧ZE w w':=by
 have HR0:=Za hr0;have HC0:=Za hc0;clear hr0 hc0;have HR1:=Za hr1;have HC1:=Za hc1;clear hr1 hc1
 have H:(if (l0.length:Int)=(l1.length:Int) then(Zag.l0 k l0 l1 (l0.length:Int) 0) else(some false))=some r:=h
 clear h
 by_cases c3:(l0.length:Int)=(l1.length:Int)
 ·rw[if_pos c3] at H
  have c3b0:((l0.length:Int) == (l1.length:Int))=true:=beq_iff_eq.mpr c3
  clear c3
  have H':=Za H
  clear H
  go_enter Tryz.func146,Tryz.ntmps146
  go_wp2
  repeat(go_quiet (fail);try go_wp2)
  go_loopg [13] k (fun kq v13 w'=>∃(x13_1:Int),v13=.int .i64 x13_1∧Aside0 (Zag.l0 kq l0 l1 (l0.length:Int) x13_1=some r)∧Aside0 (kq≤k)∧ZE w w')
  case atStart=>exact⟨(0),(by first|rfl|(simp;done)|(simp[*];done)),H',⟨Nat.le_refl _⟩,by repeat(first|exact ZE.refl _|apply ZE.step)⟩
  case round=>
   clear H'
   try clear c1
   try clear p2
   try clear c3
   try clear c3b0
   try clear c3b1
   try clear c3b2
   obtain⟨x13_1,rfl,HA,HK1,⟨m1,rfl⟩⟩:=hrel
   cases gk with
   | zero=>exact absurd HA.out (by simp[Zag.l0])
   | succ k1=>
    have H:=HA.out
    clear HA
    simp only[Zag.l0] at H
    by_cases c4:x13_1<(l0.length:Int)
    ·rw[if_pos c4] at H
     have c4b0:decide (x13_1<(l0.length:Int))=true:=Ze c4
     clear c4
     by_cases c5:0≤x13_1
     ·rw[if_pos c5] at H
      have c5b0:decide (0≤x13_1)=true:=Ze c5
      clear c5
      by_cases c6:x13_1<(l0.length:Int)
      ·rw[if_pos c6] at H
       have c6b0:decide (x13_1<(l0.length:Int))=true:=Ze c6
       clear c6
       by_cases c7:x13_1<(l1.length:Int)
       ·rw[if_pos c7] at H
        have c7b0:decide (x13_1<(l1.length:Int))=true:=Ze c7
        clear c7
        by_cases c8:(rd l0 x13_1)=(rd l1 x13_1)
        ·rw[if_pos c8] at H
         have c8b0:((rd l0 x13_1) == (rd l1 x13_1))=true:=beq_iff_eq.mpr c8
         clear c8
         have H':=Za H
         clear H
         have p146001:0≤(x13_1:Int):=Zd (by first|(with_reducible assumption)|assumption)
         have q146001:x13_1<(l0.length:Int):=Zd (by first|(with_reducible assumption)|assumption)
         obtain⟨ad146001,e146001,hx146001_0⟩:=Kd.at_int HR0.out x13_1 p146001 q146001
         cases e146001
         replace p146001:=eq_true p146001
         replace q146001:=eq_true q146001
         have p146002:0≤(x13_1:Int):=Zd (by first|(with_reducible assumption)|assumption)
         have q146002:x13_1<(l1.length:Int):=Zd (by first|(with_reducible assumption)|assumption)
         obtain⟨ad146002,e146002,hx146002_0⟩:=Kd.at_int HR1.out x13_1 p146002 q146002
         cases e146002
         replace p146002:=eq_true p146002
         replace q146002:=eq_true q146002
         go_wp2
         repeat(go_quiet (fail);try go_wp2)
         go_roundg k1
         case measure=>have:=HK1.out;omega
         case rel=>exact⟨(wrap64 (x13_1+1)),(by first|rfl|(simp;done)|(simp[*];done)),H',⟨by have:=HK1.out;omega⟩,by repeat(first|exact ZE.refl _|apply ZE.step)⟩
        ·rw[if_neg c8] at H
         have c8b0:((rd l0 x13_1) == (rd l1 x13_1))=false:=beq_eq_false_iff_ne.mpr c8
         obtain rfl:=Zg H
         have p146001:0≤(x13_1:Int):=Zd (by first|(with_reducible assumption)|assumption)
         have q146001:x13_1<(l0.length:Int):=Zd (by first|(with_reducible assumption)|assumption)
         obtain⟨ad146001,e146001,hx146001_0⟩:=Kd.at_int HR0.out x13_1 p146001 q146001
         cases e146001
         replace p146001:=eq_true p146001
         replace q146001:=eq_true q146001
         have p146002:0≤(x13_1:Int):=Zd (by first|(with_reducible assumption)|assumption)
         have q146002:x13_1<(l1.length:Int):=Zd (by first|(with_reducible assumption)|assumption)
         obtain⟨ad146002,e146002,hx146002_0⟩:=Kd.at_int HR1.out x13_1 p146002 q146002
         cases e146002
         replace p146002:=eq_true p146002
         replace q146002:=eq_true q146002
         go_wp2
         repeat(go_quiet (fail);try go_wp2)
         go_ret
         exact⟨by first|rfl|(simp;done)|(simp[*];done),by repeat(first|exact ZE.refl _|apply ZE.step)⟩
       ·rw[if_neg c7] at H
        exact absurd H (by simp)
      ·rw[if_neg c6] at H
       exact absurd H (by simp)
     ·rw[if_neg c5] at H
      exact absurd H (by simp)
    ·rw[if_neg c4] at H
     have c4b0:decide (x13_1<(l0.length:Int))=false:=Zf c4
     clear c4
     obtain rfl:=Zg H
     go_wp2
     repeat(go_quiet (fail);try go_wp2)
     go_ret
     exact⟨by first|rfl|(simp;done)|(simp[*];done),by repeat(first|exact ZE.refl _|apply ZE.step)⟩
 ·rw[if_neg c3] at H
  have c3b0:((l0.length:Int) == (l1.length:Int))=false:=beq_eq_false_iff_ne.mpr c3
  obtain rfl:=Zg H
  go_enter Tryz.func146,Tryz.ntmps146
  go_wp2
  repeat(go_quiet (fail);try go_wp2)
  go_ret
  exact⟨by first|rfl|(simp;done)|(simp[*];done),by repeat(first|exact ZE.refl _|apply ZE.step)⟩
end Go.Proofs.YtoeimopgoaffcaaGreatDoor.Pr
namespace Go.Proofs.YtoeimopgoaffcaaGreatDoor.Pr
open Go.RowKit Go.Proofs.YtoeimopgoaffcaaGreatDoorW.PrintWords Go.Proofs.YtoeimopgoaffcaaGreatDoor.Ni
theorem l08Same_f (l m:List Int) (hl:l.length≤9223372036854775807) (k:Nat) (hk:2 ^ 64≤k):ZaM.f k l m=some (decide (l=m)):=by
 unfold ZaM.f
 by_cases e:l.length=m.length
 ·rw[if_pos (by omega)]
  have key:=Za9 l.length (fun k i=>ZaM.l0 k m l l.length (i:Int)=some (decide (l.drop i=m.drop i))) 0
   (fun k _=>by
    simp only[ZaM.l0]
    rw[if_neg (by omega),List.drop_of_length_le (Nat.le_refl _),List.drop_of_length_le (by omega)]
    simp)
   (fun k i _ hi ih=>by
    simp only[ZaM.l0]
    rw[if_pos (by omega),if_pos (by omega),if_pos (by omega),if_pos (by omega),ZaI,ZaI,ZL hi (by omega),Zah hi 0,Zah (show i<m.length by omega) 0]
    by_cases h:l.getD i 0=m.getD i 0
    ·rw[if_pos h,ih,h];simp
    ·rw[if_neg h]
     simp only[List.cons.injEq,h,false_and,decide_false]) 0 k (Nat.zero_le _) (by omega)
  simpa using key
 ·rw[if_neg (by omega)]
  have:l≠m:=fun h=>e (by rw[h])
  simp[this]
theorem sEqual_f (l m:List Int) (hl:l.length≤9223372036854775807) (k:Nat) (hk:2 ^ 64≤k):Zag.f k l m=some (decide (l=m)):=by
 unfold Zag.f
 by_cases e:l.length=m.length
 ·rw[if_pos (by omega)]
  have key:=Za9 l.length (fun k i=>Zag.l0 k l m l.length (i:Int)=some (decide (l.drop i=m.drop i))) 0
   (fun k _=>by
    simp only[Zag.l0]
    rw[if_neg (by omega),List.drop_of_length_le (Nat.le_refl _),List.drop_of_length_le (by omega)]
    simp)
   (fun k i _ hi ih=>by
    simp only[Zag.l0]
    rw[if_pos (by omega),if_pos (by omega),if_pos (by omega),if_pos (by omega),ZaI,ZaI,ZL hi (by omega),Zah hi 0,Zah (show i<m.length by omega) 0]
    by_cases h:l.getD i 0=m.getD i 0
    ·rw[if_pos h,ih,h];simp
    ·rw[if_neg h]
     simp only[List.cons.injEq,h,false_and,decide_false]) 0 k (Nat.zero_le _) (by omega)
  simpa using key
 ·rw[if_neg (by omega)]
  have:l≠m:=fun h=>e (by rw[h])
  simp[this]
end Go.Proofs.YtoeimopgoaffcaaGreatDoor.Pr
