/- The texts of one claim, put together by a program of this session. -/
import Derived.Test.YthphnhmabieflaaDoorBFtc1x1
namespace Go.Proofs.YthphnhmabieflaaDoor.Pr
open Go.RowKit Go.Proofs.YthphnhmabieflaaDoorW.PrintWords Go.Proofs.YthphnhmabieflaaDoorW.PrintLast Go.Proofs.YthphnhmabieflaaDoorW.PrintMore
attribute [local go_sem] Zah Zaf Zas Zar Z8 Z7 Zag Zae
set_option linter.unusedVariables false
set_option linter.unusedSimpArgs false
def Zav.l0:Nat→ByteArray→Int→Option (Bool)
 | 0,_,_=>none
 | k+1,x0,x3=>if x3<(x0.size:Int) then(if 0≤x3 then(if (bt x0 x3)≥97 then(if ((bt x0 x3)≤122) then(Zav.l0 k x0 (wrap64 (x3+1))) else(if x3=0 then(some false) else(if (bt x0 x3)<48 then(some false) else(if (bt x0 x3) > 57 then(some false) else(Zav.l0 k x0 (wrap64 (x3+1))))))) else(if x3=0 then(some false) else(if (bt x0 x3)<48 then(some false) else(if (bt x0 x3) > 57 then(some false) else(Zav.l0 k x0 (wrap64 (x3+1))))))) else(none)) else((Z5.f (x0.size:Int) 1 8).bind fun t132001=>(some t132001))
def Zav.f (k:Nat) (a0:ByteArray):Option (Bool):=Zav.l0 k a0 0
set_option maxHeartbeats 8000000 in
set_option maxRecDepth 100000 in
theorem Zav.calls (k:Nat) (a0:ByteArray) (r:Bool) (w:World) (h:Zav.f k a0=some r) :
  Calls Tryd.prog 132 #[.string a0] w fun e w'=>e=.returned (.bool r)∧ZE w w':=by
 have H:(Zav.l0 k a0 0)=some r:=h
 clear h
 have H':=Za H
 clear H
 go_enter Tryd.func132,Tryd.ntmps132
 go_wp2
 go_loopg [3] k (fun kq v3 w'=>∃(x3_1:Int),v3=.int .i64 x3_1∧Aside0 (Zav.l0 kq a0 x3_1=some r)∧Aside0 (kq≤k)∧ZE w w')
 case atStart=>exact⟨(0),(by first|rfl|(simp;done)|(simp[*];done)),H',⟨Nat.le_refl _⟩,by repeat(first|exact ZE.refl _|apply ZE.step)⟩
 case round=>
  clear H'
  try clear c1
  obtain⟨x3_1,rfl,HA,HK1,⟨m1,rfl⟩⟩:=hrel
  cases gk with
  | zero=>exact absurd HA.out (by simp[Zav.l0])
  | succ k1=>
   have H:=HA.out
   clear HA
   simp only[Zav.l0] at H
   by_cases c2:x3_1<(a0.size:Int)
   ·rw[if_pos c2] at H
    have c2b0:decide (x3_1<(a0.size:Int))=true:=Ze c2
    clear c2
    by_cases c3:0≤x3_1
    ·rw[if_pos c3] at H
     have c3b0:decide (0≤x3_1)=true:=Ze c3
     clear c3
     by_cases c5:(bt a0 x3_1)≥97
     ·rw[if_pos c5] at H
      have c5b0:decide (97≤(bt a0 x3_1))=true:=Ze c5
      clear c5
      by_cases c7:((bt a0 x3_1)≤122)
      ·rw[if_pos c7] at H
       have c7b0:decide ((bt a0 x3_1)≤122)=true:=Ze c7
       clear c7
       have H':=Za H
       clear H
       have p4:0≤(x3_1:Int):=Zd (by first|(with_reducible assumption)|assumption)
       have q4:x3_1<(a0.size:Int):=Zd (by first|(with_reducible assumption)|assumption)
       have hx4:=Zad a0 x3_1
       replace p4:=eq_true p4
       replace q4:=eq_true q4
       have p6:0≤(x3_1:Int):=Zd (by first|(with_reducible assumption)|assumption)
       have q6:x3_1<(a0.size:Int):=Zd (by first|(with_reducible assumption)|assumption)
       have hx6:=Zad a0 x3_1
       replace p6:=eq_true p6
       replace q6:=eq_true q6
       go_wp2
       go_roundg k1
       case measure=>have:=HK1.out;omega
       case rel=>exact⟨(wrap64 (x3_1+1)),(by first|rfl|(simp;done)|(simp[*];done)),H',⟨by have:=HK1.out;omega⟩,by repeat(first|exact ZE.refl _|apply ZE.step)⟩
      ·rw[if_neg c7] at H
       have c7b0:decide ((bt a0 x3_1)≤122)=false:=Zf c7
       clear c7
       by_cases c8:x3_1=0
       ·rw[if_pos c8] at H
        have c8b0:(x3_1 == 0)=true:=beq_iff_eq.mpr c8
        have c8b1:(x3_1 != 0)=false:=bne_eq_false_iff_eq.mpr c8
        clear c8
        obtain rfl:=Zg H
        have p4:0≤(x3_1:Int):=Zd (by first|(with_reducible assumption)|assumption)
        have q4:x3_1<(a0.size:Int):=Zd (by first|(with_reducible assumption)|assumption)
        have hx4:=Zad a0 x3_1
        replace p4:=eq_true p4
        replace q4:=eq_true q4
        have p6:0≤(x3_1:Int):=Zd (by first|(with_reducible assumption)|assumption)
        have q6:x3_1<(a0.size:Int):=Zd (by first|(with_reducible assumption)|assumption)
        have hx6:=Zad a0 x3_1
        replace p6:=eq_true p6
        replace q6:=eq_true q6
        go_wp2
        go_ret
        exact⟨by first|rfl|(simp;done)|(simp[*];done),by repeat(first|exact ZE.refl _|apply ZE.step)⟩
       ·rw[if_neg c8] at H
        have c8b0:(x3_1 == 0)=false:=beq_eq_false_iff_ne.mpr c8
        have c8b1:(x3_1 != 0)=true:=bne_iff_ne.mpr c8
        by_cases c10:(bt a0 x3_1)<48
        ·rw[if_pos c10] at H
         have c10b0:decide ((bt a0 x3_1)<48)=true:=Ze c10
         clear c10
         obtain rfl:=Zg H
         have p4:0≤(x3_1:Int):=Zd (by first|(with_reducible assumption)|assumption)
         have q4:x3_1<(a0.size:Int):=Zd (by first|(with_reducible assumption)|assumption)
         have hx4:=Zad a0 x3_1
         replace p4:=eq_true p4
         replace q4:=eq_true q4
         have p6:0≤(x3_1:Int):=Zd (by first|(with_reducible assumption)|assumption)
         have q6:x3_1<(a0.size:Int):=Zd (by first|(with_reducible assumption)|assumption)
         have hx6:=Zad a0 x3_1
         replace p6:=eq_true p6
         replace q6:=eq_true q6
         have p9:0≤(x3_1:Int):=Zd (by first|(with_reducible assumption)|assumption)
         have q9:x3_1<(a0.size:Int):=Zd (by first|(with_reducible assumption)|assumption)
         have hx9:=Zad a0 x3_1
         replace p9:=eq_true p9
         replace q9:=eq_true q9
         go_wp2
         go_ret
         exact⟨by first|rfl|(simp;done)|(simp[*];done),by repeat(first|exact ZE.refl _|apply ZE.step)⟩
        ·rw[if_neg c10] at H
         have c10b0:decide ((bt a0 x3_1)<48)=false:=Zf c10
         clear c10
         by_cases c12:(bt a0 x3_1) > 57
         ·rw[if_pos c12] at H
          have c12b0:decide (57<(bt a0 x3_1))=true:=Ze c12
          clear c12
          obtain rfl:=Zg H
          have p4:0≤(x3_1:Int):=Zd (by first|(with_reducible assumption)|assumption)
          have q4:x3_1<(a0.size:Int):=Zd (by first|(with_reducible assumption)|assumption)
          have hx4:=Zad a0 x3_1
          replace p4:=eq_true p4
          replace q4:=eq_true q4
          have p6:0≤(x3_1:Int):=Zd (by first|(with_reducible assumption)|assumption)
          have q6:x3_1<(a0.size:Int):=Zd (by first|(with_reducible assumption)|assumption)
          have hx6:=Zad a0 x3_1
          replace p6:=eq_true p6
          replace q6:=eq_true q6
          have p9:0≤(x3_1:Int):=Zd (by first|(with_reducible assumption)|assumption)
          have q9:x3_1<(a0.size:Int):=Zd (by first|(with_reducible assumption)|assumption)
          have hx9:=Zad a0 x3_1
          replace p9:=eq_true p9
          replace q9:=eq_true q9
          have p11:0≤(x3_1:Int):=Zd (by first|(with_reducible assumption)|assumption)
          have q11:x3_1<(a0.size:Int):=Zd (by first|(with_reducible assumption)|assumption)
          have hx11:=Zad a0 x3_1
          replace p11:=eq_true p11
          replace q11:=eq_true q11
          go_wp2
          go_ret
          exact⟨by first|rfl|(simp;done)|(simp[*];done),by repeat(first|exact ZE.refl _|apply ZE.step)⟩
         ·rw[if_neg c12] at H
          have c12b0:decide (57<(bt a0 x3_1))=false:=Zf c12
          clear c12
          have H':=Za H
          clear H
          have p4:0≤(x3_1:Int):=Zd (by first|(with_reducible assumption)|assumption)
          have q4:x3_1<(a0.size:Int):=Zd (by first|(with_reducible assumption)|assumption)
          have hx4:=Zad a0 x3_1
          replace p4:=eq_true p4
          replace q4:=eq_true q4
          have p6:0≤(x3_1:Int):=Zd (by first|(with_reducible assumption)|assumption)
          have q6:x3_1<(a0.size:Int):=Zd (by first|(with_reducible assumption)|assumption)
          have hx6:=Zad a0 x3_1
          replace p6:=eq_true p6
          replace q6:=eq_true q6
          have p9:0≤(x3_1:Int):=Zd (by first|(with_reducible assumption)|assumption)
          have q9:x3_1<(a0.size:Int):=Zd (by first|(with_reducible assumption)|assumption)
          have hx9:=Zad a0 x3_1
          replace p9:=eq_true p9
          replace q9:=eq_true q9
          have p11:0≤(x3_1:Int):=Zd (by first|(with_reducible assumption)|assumption)
          have q11:x3_1<(a0.size:Int):=Zd (by first|(with_reducible assumption)|assumption)
          have hx11:=Zad a0 x3_1
          replace p11:=eq_true p11
          replace q11:=eq_true q11
          go_wp2
          go_roundg k1
          case measure=>have:=HK1.out;omega
          case rel=>exact⟨(wrap64 (x3_1+1)),(by first|rfl|(simp;done)|(simp[*];done)),H',⟨by have:=HK1.out;omega⟩,by repeat(first|exact ZE.refl _|apply ZE.step)⟩
     ·rw[if_neg c5] at H
      have c5b0:decide (97≤(bt a0 x3_1))=false:=Zf c5
      clear c5
      by_cases c13:x3_1=0
      ·rw[if_pos c13] at H
       have c13b0:(x3_1 == 0)=true:=beq_iff_eq.mpr c13
       have c13b1:(x3_1 != 0)=false:=bne_eq_false_iff_eq.mpr c13
       clear c13
       obtain rfl:=Zg H
       have p4:0≤(x3_1:Int):=Zd (by first|(with_reducible assumption)|assumption)
       have q4:x3_1<(a0.size:Int):=Zd (by first|(with_reducible assumption)|assumption)
       have hx4:=Zad a0 x3_1
       replace p4:=eq_true p4
       replace q4:=eq_true q4
       go_wp2
       go_ret
       exact⟨by first|rfl|(simp;done)|(simp[*];done),by repeat(first|exact ZE.refl _|apply ZE.step)⟩
      ·rw[if_neg c13] at H
       have c13b0:(x3_1 == 0)=false:=beq_eq_false_iff_ne.mpr c13
       have c13b1:(x3_1 != 0)=true:=bne_iff_ne.mpr c13
       by_cases c15:(bt a0 x3_1)<48
       ·rw[if_pos c15] at H
        have c15b0:decide ((bt a0 x3_1)<48)=true:=Ze c15
        clear c15
        obtain rfl:=Zg H
        have p4:0≤(x3_1:Int):=Zd (by first|(with_reducible assumption)|assumption)
        have q4:x3_1<(a0.size:Int):=Zd (by first|(with_reducible assumption)|assumption)
        have hx4:=Zad a0 x3_1
        replace p4:=eq_true p4
        replace q4:=eq_true q4
        have p14:0≤(x3_1:Int):=Zd (by first|(with_reducible assumption)|assumption)
        have q14:x3_1<(a0.size:Int):=Zd (by first|(with_reducible assumption)|assumption)
        have hx14:=Zad a0 x3_1
        replace p14:=eq_true p14
        replace q14:=eq_true q14
        go_wp2
        go_ret
        exact⟨by first|rfl|(simp;done)|(simp[*];done),by repeat(first|exact ZE.refl _|apply ZE.step)⟩
       ·rw[if_neg c15] at H
        have c15b0:decide ((bt a0 x3_1)<48)=false:=Zf c15
        clear c15
        by_cases c17:(bt a0 x3_1) > 57
        ·rw[if_pos c17] at H
         have c17b0:decide (57<(bt a0 x3_1))=true:=Ze c17
         clear c17
         obtain rfl:=Zg H
         have p4:0≤(x3_1:Int):=Zd (by first|(with_reducible assumption)|assumption)
         have q4:x3_1<(a0.size:Int):=Zd (by first|(with_reducible assumption)|assumption)
         have hx4:=Zad a0 x3_1
         replace p4:=eq_true p4
         replace q4:=eq_true q4
         have p14:0≤(x3_1:Int):=Zd (by first|(with_reducible assumption)|assumption)
         have q14:x3_1<(a0.size:Int):=Zd (by first|(with_reducible assumption)|assumption)
         have hx14:=Zad a0 x3_1
         replace p14:=eq_true p14
         replace q14:=eq_true q14
         have p16:0≤(x3_1:Int):=Zd (by first|(with_reducible assumption)|assumption)
         have q16:x3_1<(a0.size:Int):=Zd (by first|(with_reducible assumption)|assumption)
         have hx16:=Zad a0 x3_1
         replace p16:=eq_true p16
         replace q16:=eq_true q16
         go_wp2
         go_ret
         exact⟨by first|rfl|(simp;done)|(simp[*];done),by repeat(first|exact ZE.refl _|apply ZE.step)⟩
        ·rw[if_neg c17] at H
         have c17b0:decide (57<(bt a0 x3_1))=false:=Zf c17
         clear c17
         have H':=Za H
         clear H
         have p4:0≤(x3_1:Int):=Zd (by first|(with_reducible assumption)|assumption)
         have q4:x3_1<(a0.size:Int):=Zd (by first|(with_reducible assumption)|assumption)
         have hx4:=Zad a0 x3_1
         replace p4:=eq_true p4
         replace q4:=eq_true q4
         have p14:0≤(x3_1:Int):=Zd (by first|(with_reducible assumption)|assumption)
         have q14:x3_1<(a0.size:Int):=Zd (by first|(with_reducible assumption)|assumption)
         have hx14:=Zad a0 x3_1
         replace p14:=eq_true p14
         replace q14:=eq_true q14
         have p16:0≤(x3_1:Int):=Zd (by first|(with_reducible assumption)|assumption)
         have q16:x3_1<(a0.size:Int):=Zd (by first|(with_reducible assumption)|assumption)
         have hx16:=Zad a0 x3_1
         replace p16:=eq_true p16
         replace q16:=eq_true q16
         go_wp2
         go_roundg k1
         case measure=>have:=HK1.out;omega
         case rel=>exact⟨(wrap64 (x3_1+1)),(by first|rfl|(simp;done)|(simp[*];done)),H',⟨by have:=HK1.out;omega⟩,by repeat(first|exact ZE.refl _|apply ZE.step)⟩
    ·rw[if_neg c3] at H
     exact absurd H (by simp)
   ·rw[if_neg c2] at H
    have c2b0:decide (x3_1<(a0.size:Int))=false:=Zf c2
    clear c2
    replace H:=Zh H
    obtain⟨t132001,A180,H⟩:=H
    replace H:(some t132001)=some r:=H
    have A18:=Za A180;clear A180
    obtain rfl:=Zg H
    go_wp2_with (first|((with_reducible refine ZG (f:=44) rfl ?_);refine ZX (some 41) rfl rfl Tryd.func44 (by kernel_rfl) rfl #[.int .i64 (a0.size:Int),.int .i64 1,.int .i64 8] rfl (by(try simp only[List.map_toArray,List.map_cons,List.map_nil]);first|done|rfl|(simp only[Zk,Zj];rfl)) ?_;(with_reducible refine(Z5.calls (a0.size:Int) 1 8 t132001 _ A18.out).mono ?_);rintro e w' ⟨rfl,⟨nd,rfl⟩⟩;refine⟨_,rfl,?_⟩))
    go_ret
    exact⟨by first|rfl|(simp;done)|(simp[*];done),by repeat(first|exact ZE.refl _|apply ZE.step)⟩
def Zam.l0:Nat→ByteArray→Int→Option (Bool)
 | 0,_,_=>none
 | k+1,x0,x3=>if x3<(x0.size:Int) then(if 0≤x3 then(if (bt x0 x3)≥97 then(if (bt x0 x3)≥48 then(if ((bt x0 x3)≤122) then(Zam.l0 k x0 (wrap64 (x3+1))) else(if ((bt x0 x3)≤57) then(if x3=0 then(some false) else(Zam.l0 k x0 (wrap64 (x3+1)))) else(some false))) else(if ((bt x0 x3)≤122) then(Zam.l0 k x0 (wrap64 (x3+1))) else(some false))) else(if (bt x0 x3)≥48 then(if ((bt x0 x3)≤57) then(if x3=0 then(some false) else(Zam.l0 k x0 (wrap64 (x3+1)))) else(some false)) else(some false))) else(none)) else(if (x0.size:Int)≥1 then(some (decide ((x0.size:Int)≤8))) else(some false))
def Zam.f (k:Nat) (a0:ByteArray):Option (Bool):=Zam.l0 k a0 0
set_option maxHeartbeats 8000000 in
set_option maxRecDepth 100000 in
theorem Zam.calls (k:Nat) (a0:ByteArray) (r:Bool) (w:World) (h:Zam.f k a0=some r) :
  Calls Tryd.prog 133 #[.string a0] w fun e w'=>e=.returned (.bool r)∧ZE w w':=by
 have H:(Zam.l0 k a0 0)=some r:=h
 clear h
 have H':=Za H
 clear H
 go_enter Tryd.func133,Tryd.ntmps133
 go_wp2
 repeat(go_quiet (fail);try go_wp2)
 go_loopg [3] k (fun kq v3 w'=>∃(x3_1:Int),v3=.int .i64 x3_1∧Aside0 (Zam.l0 kq a0 x3_1=some r)∧Aside0 (kq≤k)∧ZE w w')
 case atStart=>exact⟨(0),(by first|rfl|(simp;done)|(simp[*];done)),H',⟨Nat.le_refl _⟩,by repeat(first|exact ZE.refl _|apply ZE.step)⟩
 case round=>
  clear H'
  try clear c1
  obtain⟨x3_1,rfl,HA,HK1,⟨m1,rfl⟩⟩:=hrel
  cases gk with
  | zero=>exact absurd HA.out (by simp[Zam.l0])
  | succ k1=>
   have H:=HA.out
   clear HA
   simp only[Zam.l0] at H
   by_cases c2:x3_1<(a0.size:Int)
   ·rw[if_pos c2] at H
    have c2b0:decide (x3_1<(a0.size:Int))=true:=Ze c2
    clear c2
    by_cases c3:0≤x3_1
    ·rw[if_pos c3] at H
     have c3b0:decide (0≤x3_1)=true:=Ze c3
     clear c3
     by_cases c5:(bt a0 x3_1)≥97
     ·rw[if_pos c5] at H
      have c5b0:decide (97≤(bt a0 x3_1))=true:=Ze c5
      clear c5
      by_cases c8:(bt a0 x3_1)≥48
      ·rw[if_pos c8] at H
       have c8b0:decide (48≤(bt a0 x3_1))=true:=Ze c8
       clear c8
       by_cases c10:((bt a0 x3_1)≤122)
       ·rw[if_pos c10] at H
        have c10b0:decide ((bt a0 x3_1)≤122)=true:=Ze c10
        clear c10
        have H':=Za H
        clear H
        have p4:0≤(x3_1:Int):=Zd (by first|(with_reducible assumption)|assumption)
        have q4:x3_1<(a0.size:Int):=Zd (by first|(with_reducible assumption)|assumption)
        have hx4:=Zad a0 x3_1
        replace p4:=eq_true p4
        replace q4:=eq_true q4
        have p6:0≤(x3_1:Int):=Zd (by first|(with_reducible assumption)|assumption)
        have q6:x3_1<(a0.size:Int):=Zd (by first|(with_reducible assumption)|assumption)
        have hx6:=Zad a0 x3_1
        replace p6:=eq_true p6
        replace q6:=eq_true q6
        have p7:0≤(x3_1:Int):=Zd (by first|(with_reducible assumption)|assumption)
        have q7:x3_1<(a0.size:Int):=Zd (by first|(with_reducible assumption)|assumption)
        have hx7:=Zad a0 x3_1
        replace p7:=eq_true p7
        replace q7:=eq_true q7
        have p9:0≤(x3_1:Int):=Zd (by first|(with_reducible assumption)|assumption)
        have q9:x3_1<(a0.size:Int):=Zd (by first|(with_reducible assumption)|assumption)
        have hx9:=Zad a0 x3_1
        replace p9:=eq_true p9
        replace q9:=eq_true q9
        go_wp2
        repeat(go_quiet (fail);try go_wp2)
        go_roundg k1
        case measure=>have:=HK1.out;omega
        case rel=>exact⟨(wrap64 (x3_1+1)),(by first|rfl|(simp;done)|(simp[*];done)),H',⟨by have:=HK1.out;omega⟩,by repeat(first|exact ZE.refl _|apply ZE.step)⟩
       ·rw[if_neg c10] at H
        have c10b0:decide ((bt a0 x3_1)≤122)=false:=Zf c10
        clear c10
        by_cases c11:((bt a0 x3_1)≤57)
        ·rw[if_pos c11] at H
         have c11b0:decide ((bt a0 x3_1)≤57)=true:=Ze c11
         clear c11
         by_cases c12:x3_1=0
         ·rw[if_pos c12] at H
          have c12b0:(x3_1 == 0)=true:=beq_iff_eq.mpr c12
          have c12b1:(x3_1 != 0)=false:=bne_eq_false_iff_eq.mpr c12
          clear c12
          obtain rfl:=Zg H
          have p4:0≤(x3_1:Int):=Zd (by first|(with_reducible assumption)|assumption)
          have q4:x3_1<(a0.size:Int):=Zd (by first|(with_reducible assumption)|assumption)
          have hx4:=Zad a0 x3_1
          replace p4:=eq_true p4
          replace q4:=eq_true q4
          have p6:0≤(x3_1:Int):=Zd (by first|(with_reducible assumption)|assumption)
          have q6:x3_1<(a0.size:Int):=Zd (by first|(with_reducible assumption)|assumption)
          have hx6:=Zad a0 x3_1
          replace p6:=eq_true p6
          replace q6:=eq_true q6
          have p7:0≤(x3_1:Int):=Zd (by first|(with_reducible assumption)|assumption)
          have q7:x3_1<(a0.size:Int):=Zd (by first|(with_reducible assumption)|assumption)
          have hx7:=Zad a0 x3_1
          replace p7:=eq_true p7
          replace q7:=eq_true q7
          have p9:0≤(x3_1:Int):=Zd (by first|(with_reducible assumption)|assumption)
          have q9:x3_1<(a0.size:Int):=Zd (by first|(with_reducible assumption)|assumption)
          have hx9:=Zad a0 x3_1
          replace p9:=eq_true p9
          replace q9:=eq_true q9
          go_wp2
          repeat(go_quiet (fail);try go_wp2)
          go_ret
          exact⟨by first|rfl|(simp;done)|(simp[*];done),by repeat(first|exact ZE.refl _|apply ZE.step)⟩
         ·rw[if_neg c12] at H
          have c12b0:(x3_1 == 0)=false:=beq_eq_false_iff_ne.mpr c12
          have c12b1:(x3_1 != 0)=true:=bne_iff_ne.mpr c12
          have H':=Za H
          clear H
          have p4:0≤(x3_1:Int):=Zd (by first|(with_reducible assumption)|assumption)
          have q4:x3_1<(a0.size:Int):=Zd (by first|(with_reducible assumption)|assumption)
          have hx4:=Zad a0 x3_1
          replace p4:=eq_true p4
          replace q4:=eq_true q4
          have p6:0≤(x3_1:Int):=Zd (by first|(with_reducible assumption)|assumption)
          have q6:x3_1<(a0.size:Int):=Zd (by first|(with_reducible assumption)|assumption)
          have hx6:=Zad a0 x3_1
          replace p6:=eq_true p6
          replace q6:=eq_true q6
          have p7:0≤(x3_1:Int):=Zd (by first|(with_reducible assumption)|assumption)
          have q7:x3_1<(a0.size:Int):=Zd (by first|(with_reducible assumption)|assumption)
          have hx7:=Zad a0 x3_1
          replace p7:=eq_true p7
          replace q7:=eq_true q7
          have p9:0≤(x3_1:Int):=Zd (by first|(with_reducible assumption)|assumption)
          have q9:x3_1<(a0.size:Int):=Zd (by first|(with_reducible assumption)|assumption)
          have hx9:=Zad a0 x3_1
          replace p9:=eq_true p9
          replace q9:=eq_true q9
          go_wp2
          repeat(go_quiet (fail);try go_wp2)
          go_roundg k1
          case measure=>have:=HK1.out;omega
          case rel=>exact⟨(wrap64 (x3_1+1)),(by first|rfl|(simp;done)|(simp[*];done)),H',⟨by have:=HK1.out;omega⟩,by repeat(first|exact ZE.refl _|apply ZE.step)⟩
        ·rw[if_neg c11] at H
         have c11b0:decide ((bt a0 x3_1)≤57)=false:=Zf c11
         clear c11
         obtain rfl:=Zg H
         have p4:0≤(x3_1:Int):=Zd (by first|(with_reducible assumption)|assumption)
         have q4:x3_1<(a0.size:Int):=Zd (by first|(with_reducible assumption)|assumption)
         have hx4:=Zad a0 x3_1
         replace p4:=eq_true p4
         replace q4:=eq_true q4
         have p6:0≤(x3_1:Int):=Zd (by first|(with_reducible assumption)|assumption)
         have q6:x3_1<(a0.size:Int):=Zd (by first|(with_reducible assumption)|assumption)
         have hx6:=Zad a0 x3_1
         replace p6:=eq_true p6
         replace q6:=eq_true q6
         have p7:0≤(x3_1:Int):=Zd (by first|(with_reducible assumption)|assumption)
         have q7:x3_1<(a0.size:Int):=Zd (by first|(with_reducible assumption)|assumption)
         have hx7:=Zad a0 x3_1
         replace p7:=eq_true p7
         replace q7:=eq_true q7
         have p9:0≤(x3_1:Int):=Zd (by first|(with_reducible assumption)|assumption)
         have q9:x3_1<(a0.size:Int):=Zd (by first|(with_reducible assumption)|assumption)
         have hx9:=Zad a0 x3_1
         replace p9:=eq_true p9
         replace q9:=eq_true q9
         go_wp2
         repeat(go_quiet (fail);try go_wp2)
         go_ret
         exact⟨by first|rfl|(simp;done)|(simp[*];done),by repeat(first|exact ZE.refl _|apply ZE.step)⟩
      ·rw[if_neg c8] at H
       have c8b0:decide (48≤(bt a0 x3_1))=false:=Zf c8
       clear c8
       by_cases c13:((bt a0 x3_1)≤122)
       ·rw[if_pos c13] at H
        have c13b0:decide ((bt a0 x3_1)≤122)=true:=Ze c13
        clear c13
        have H':=Za H
        clear H
        have p4:0≤(x3_1:Int):=Zd (by first|(with_reducible assumption)|assumption)
        have q4:x3_1<(a0.size:Int):=Zd (by first|(with_reducible assumption)|assumption)
        have hx4:=Zad a0 x3_1
        replace p4:=eq_true p4
        replace q4:=eq_true q4
        have p6:0≤(x3_1:Int):=Zd (by first|(with_reducible assumption)|assumption)
        have q6:x3_1<(a0.size:Int):=Zd (by first|(with_reducible assumption)|assumption)
        have hx6:=Zad a0 x3_1
        replace p6:=eq_true p6
        replace q6:=eq_true q6
        have p7:0≤(x3_1:Int):=Zd (by first|(with_reducible assumption)|assumption)
        have q7:x3_1<(a0.size:Int):=Zd (by first|(with_reducible assumption)|assumption)
        have hx7:=Zad a0 x3_1
        replace p7:=eq_true p7
        replace q7:=eq_true q7
        go_wp2
        repeat(go_quiet (fail);try go_wp2)
        go_roundg k1
        case measure=>have:=HK1.out;omega
        case rel=>exact⟨(wrap64 (x3_1+1)),(by first|rfl|(simp;done)|(simp[*];done)),H',⟨by have:=HK1.out;omega⟩,by repeat(first|exact ZE.refl _|apply ZE.step)⟩
       ·rw[if_neg c13] at H
        have c13b0:decide ((bt a0 x3_1)≤122)=false:=Zf c13
        clear c13
        obtain rfl:=Zg H
        have p4:0≤(x3_1:Int):=Zd (by first|(with_reducible assumption)|assumption)
        have q4:x3_1<(a0.size:Int):=Zd (by first|(with_reducible assumption)|assumption)
        have hx4:=Zad a0 x3_1
        replace p4:=eq_true p4
        replace q4:=eq_true q4
        have p6:0≤(x3_1:Int):=Zd (by first|(with_reducible assumption)|assumption)
        have q6:x3_1<(a0.size:Int):=Zd (by first|(with_reducible assumption)|assumption)
        have hx6:=Zad a0 x3_1
        replace p6:=eq_true p6
        replace q6:=eq_true q6
        have p7:0≤(x3_1:Int):=Zd (by first|(with_reducible assumption)|assumption)
        have q7:x3_1<(a0.size:Int):=Zd (by first|(with_reducible assumption)|assumption)
        have hx7:=Zad a0 x3_1
        replace p7:=eq_true p7
        replace q7:=eq_true q7
        go_wp2
        repeat(go_quiet (fail);try go_wp2)
        go_ret
        exact⟨by first|rfl|(simp;done)|(simp[*];done),by repeat(first|exact ZE.refl _|apply ZE.step)⟩
     ·rw[if_neg c5] at H
      have c5b0:decide (97≤(bt a0 x3_1))=false:=Zf c5
      clear c5
      by_cases c15:(bt a0 x3_1)≥48
      ·rw[if_pos c15] at H
       have c15b0:decide (48≤(bt a0 x3_1))=true:=Ze c15
       clear c15
       by_cases c17:((bt a0 x3_1)≤57)
       ·rw[if_pos c17] at H
        have c17b0:decide ((bt a0 x3_1)≤57)=true:=Ze c17
        clear c17
        by_cases c18:x3_1=0
        ·rw[if_pos c18] at H
         have c18b0:(x3_1 == 0)=true:=beq_iff_eq.mpr c18
         have c18b1:(x3_1 != 0)=false:=bne_eq_false_iff_eq.mpr c18
         clear c18
         obtain rfl:=Zg H
         have p4:0≤(x3_1:Int):=Zd (by first|(with_reducible assumption)|assumption)
         have q4:x3_1<(a0.size:Int):=Zd (by first|(with_reducible assumption)|assumption)
         have hx4:=Zad a0 x3_1
         replace p4:=eq_true p4
         replace q4:=eq_true q4
         have p14:0≤(x3_1:Int):=Zd (by first|(with_reducible assumption)|assumption)
         have q14:x3_1<(a0.size:Int):=Zd (by first|(with_reducible assumption)|assumption)
         have hx14:=Zad a0 x3_1
         replace p14:=eq_true p14
         replace q14:=eq_true q14
         have p16:0≤(x3_1:Int):=Zd (by first|(with_reducible assumption)|assumption)
         have q16:x3_1<(a0.size:Int):=Zd (by first|(with_reducible assumption)|assumption)
         have hx16:=Zad a0 x3_1
         replace p16:=eq_true p16
         replace q16:=eq_true q16
         go_wp2
         repeat(go_quiet (fail);try go_wp2)
         go_ret
         exact⟨by first|rfl|(simp;done)|(simp[*];done),by repeat(first|exact ZE.refl _|apply ZE.step)⟩
        ·rw[if_neg c18] at H
         have c18b0:(x3_1 == 0)=false:=beq_eq_false_iff_ne.mpr c18
         have c18b1:(x3_1 != 0)=true:=bne_iff_ne.mpr c18
         have H':=Za H
         clear H
         have p4:0≤(x3_1:Int):=Zd (by first|(with_reducible assumption)|assumption)
         have q4:x3_1<(a0.size:Int):=Zd (by first|(with_reducible assumption)|assumption)
         have hx4:=Zad a0 x3_1
         replace p4:=eq_true p4
         replace q4:=eq_true q4
         have p14:0≤(x3_1:Int):=Zd (by first|(with_reducible assumption)|assumption)
         have q14:x3_1<(a0.size:Int):=Zd (by first|(with_reducible assumption)|assumption)
         have hx14:=Zad a0 x3_1
         replace p14:=eq_true p14
         replace q14:=eq_true q14
         have p16:0≤(x3_1:Int):=Zd (by first|(with_reducible assumption)|assumption)
         have q16:x3_1<(a0.size:Int):=Zd (by first|(with_reducible assumption)|assumption)
         have hx16:=Zad a0 x3_1
         replace p16:=eq_true p16
         replace q16:=eq_true q16
         go_wp2
         repeat(go_quiet (fail);try go_wp2)
         go_roundg k1
         case measure=>have:=HK1.out;omega
         case rel=>exact⟨(wrap64 (x3_1+1)),(by first|rfl|(simp;done)|(simp[*];done)),H',⟨by have:=HK1.out;omega⟩,by repeat(first|exact ZE.refl _|apply ZE.step)⟩
       ·rw[if_neg c17] at H
        have c17b0:decide ((bt a0 x3_1)≤57)=false:=Zf c17
        clear c17
        obtain rfl:=Zg H
        have p4:0≤(x3_1:Int):=Zd (by first|(with_reducible assumption)|assumption)
        have q4:x3_1<(a0.size:Int):=Zd (by first|(with_reducible assumption)|assumption)
        have hx4:=Zad a0 x3_1
        replace p4:=eq_true p4
        replace q4:=eq_true q4
        have p14:0≤(x3_1:Int):=Zd (by first|(with_reducible assumption)|assumption)
        have q14:x3_1<(a0.size:Int):=Zd (by first|(with_reducible assumption)|assumption)
        have hx14:=Zad a0 x3_1
        replace p14:=eq_true p14
        replace q14:=eq_true q14
        have p16:0≤(x3_1:Int):=Zd (by first|(with_reducible assumption)|assumption)
        have q16:x3_1<(a0.size:Int):=Zd (by first|(with_reducible assumption)|assumption)
        have hx16:=Zad a0 x3_1
        replace p16:=eq_true p16
        replace q16:=eq_true q16
        go_wp2
        repeat(go_quiet (fail);try go_wp2)
        go_ret
        exact⟨by first|rfl|(simp;done)|(simp[*];done),by repeat(first|exact ZE.refl _|apply ZE.step)⟩
      ·rw[if_neg c15] at H
       have c15b0:decide (48≤(bt a0 x3_1))=false:=Zf c15
       clear c15
       obtain rfl:=Zg H
       have p4:0≤(x3_1:Int):=Zd (by first|(with_reducible assumption)|assumption)
       have q4:x3_1<(a0.size:Int):=Zd (by first|(with_reducible assumption)|assumption)
       have hx4:=Zad a0 x3_1
       replace p4:=eq_true p4
       replace q4:=eq_true q4
       have p14:0≤(x3_1:Int):=Zd (by first|(with_reducible assumption)|assumption)
       have q14:x3_1<(a0.size:Int):=Zd (by first|(with_reducible assumption)|assumption)
       have hx14:=Zad a0 x3_1
       replace p14:=eq_true p14
       replace q14:=eq_true q14
       go_wp2
       repeat(go_quiet (fail);try go_wp2)
       go_ret
       exact⟨by first|rfl|(simp;done)|(simp[*];done),by repeat(first|exact ZE.refl _|apply ZE.step)⟩
    ·rw[if_neg c3] at H
     exact absurd H (by simp)
   ·rw[if_neg c2] at H
    have c2b0:decide (x3_1<(a0.size:Int))=false:=Zf c2
    clear c2
    by_cases c19:(a0.size:Int)≥1
    ·rw[if_pos c19] at H
     have c19b0:decide (1≤(a0.size:Int))=true:=Ze c19
     have c19b1:decide (1≤a0.size)=true:=Ze (by omega)
     clear c19
     obtain rfl:=Zg H
     go_wp2
     repeat(go_quiet (fail);try go_wp2)
     go_ret
     exact⟨by first|rfl|(simp;done)|(simp[*];done),by repeat(first|exact ZE.refl _|apply ZE.step)⟩
    ·rw[if_neg c19] at H
     have c19b0:decide (1≤(a0.size:Int))=false:=Zf c19
     have c19b1:decide (1≤a0.size)=false:=Zf (by omega)
     clear c19
     obtain rfl:=Zg H
     go_wp2
     repeat(go_quiet (fail);try go_wp2)
     go_ret
     exact⟨by first|rfl|(simp;done)|(simp[*];done),by repeat(first|exact ZE.refl _|apply ZE.step)⟩
end Go.Proofs.YthphnhmabieflaaDoor.Pr
namespace Go.Proofs.YthphnhmabieflaaDoor.Pr
open Go.RowKit Go.Proofs.YthphnhmabieflaaDoorW.PrintWords Go.Proofs.YthphnhmabieflaaDoor.Ni
def chB (s:ByteArray) (i:Nat):Bool:=(decide (97≤bt s i) && decide (bt s i≤122)) || (decide (0<i) && decide (48≤bt s i) && decide (bt s i≤57))
def chsB (s:ByteArray) (i:Nat):Nat→Bool
 | 0=>true
 | d+1=>chB s i && chsB s (i+1) d
def nameB (s:ByteArray):Bool:=chsB s 0 s.size && (decide (1≤s.size) && decide (s.size≤8))
theorem ZeL (s:ByteArray) (hs:s.size≤9223372036854775807) (k:Nat) (hk:2 ^ 64≤k):Zav.f k s=some (nameB s):=by
 have key:=ZaM s.size (fun k i=>Zav.l0 k s (i:Int)=some (chsB s i (s.size - i) && (decide (1≤s.size) && decide (s.size≤8)))) 0
  (fun k _=>by
   simp only[Zav.l0]
   rw[if_neg (by omega),Nat.sub_self]
   unfold Z5.f chsB
   by_cases h1:1≤s.size
   ·rw[if_pos (by omega),Ze h1]
    simp only[Zi,Bool.true_and]
    congr 1
    rw[Bool.eq_iff_iff];simp;omega
   ·rw[if_neg (by omega),Zf h1];rfl)
  (fun k i _ hi ih=>by
   simp only[Zav.l0]
   rw[if_pos (by omega),if_pos (by omega),Zax hi (by omega),ih,show chsB s i (s.size - i)=(chB s i && chsB s (i+1) (s.size - (i+1))) by rw[show s.size - i=(s.size - (i+1))+1 by omega];rfl]
   have hF:chB s i=false→(chB s i && chsB s (i+1) (s.size - (i+1)) && (decide (1≤s.size) && decide (s.size≤8)))=false:=fun h=>by rw[h];rfl
   have hT:chB s i=true→(chB s i && chsB s (i+1) (s.size - (i+1)) && (decide (1≤s.size) && decide (s.size≤8)))=(chsB s (i+1) (s.size - (i+1)) && (decide (1≤s.size) && decide (s.size≤8))):=fun h=>by rw[h,Bool.true_and]
   generalize hc:bt s (i:Int)=c at *
   have hch:chB s i=((decide (97≤c) && decide (c≤122)) || (decide (0<i) && decide (48≤c) && decide (c≤57))):=by unfold chB;rw[hc]
   by_cases a1:c≥97
   ·rw[if_pos a1]
    by_cases a2:c≤122
    ·rw[if_pos a2,hT (by rw[hch];simp;omega)]
    ·rw[if_neg a2,hF (by rw[hch];simp;omega)]
     split
     ·rfl
     ·split
      ·rfl
      ·rw[if_pos (by omega)]
   ·rw[if_neg a1]
    by_cases b0:(i:Int)=0
    ·rw[if_pos b0,hF (by rw[hch];simp;omega)]
    ·rw[if_neg b0]
     by_cases b1:c<48
     ·rw[if_pos b1,hF (by rw[hch];simp;omega)]
     ·rw[if_neg b1]
      by_cases b2:c > 57
      ·rw[if_pos b2,hF (by rw[hch];simp;omega)]
      ·rw[if_neg b2,hT (by rw[hch];simp;omega)]) 0 k (Nat.zero_le _) (by omega)
 unfold Zav.f nameB
 simpa using key
theorem ZeQ (s:ByteArray) (hs:s.size≤9223372036854775807) (k:Nat) (hk:2 ^ 64≤k):Zam.f k s=some (nameB s):=by
 have key:=ZaM s.size (fun k i=>Zam.l0 k s (i:Int)=some (chsB s i (s.size - i) && (decide (1≤s.size) && decide (s.size≤8)))) 0
  (fun k _=>by
   simp only[Zam.l0]
   rw[if_neg (by omega),Nat.sub_self]
   unfold chsB
   by_cases h1:1≤s.size
   ·rw[if_pos (by omega),Ze h1]
    simp only[Bool.true_and]
    congr 1
    rw[Bool.eq_iff_iff];simp;omega
   ·rw[if_neg (by omega),Zf h1];rfl)
  (fun k i _ hi ih=>by
   simp only[Zam.l0]
   rw[if_pos (by omega),if_pos (by omega),Zax hi (by omega),ih,show chsB s i (s.size - i)=(chB s i && chsB s (i+1) (s.size - (i+1))) by rw[show s.size - i=(s.size - (i+1))+1 by omega];rfl]
   have hF:chB s i=false→(chB s i && chsB s (i+1) (s.size - (i+1)) && (decide (1≤s.size) && decide (s.size≤8)))=false:=fun h=>by rw[h];rfl
   have hT:chB s i=true→(chB s i && chsB s (i+1) (s.size - (i+1)) && (decide (1≤s.size) && decide (s.size≤8)))=(chsB s (i+1) (s.size - (i+1)) && (decide (1≤s.size) && decide (s.size≤8))):=fun h=>by rw[h,Bool.true_and]
   generalize hc:bt s (i:Int)=c at *
   have hch:chB s i=((decide (97≤c) && decide (c≤122)) || (decide (0<i) && decide (48≤c) && decide (c≤57))):=by unfold chB;rw[hc]
   by_cases a1:c≥97
   ·rw[if_pos a1,if_pos (by omega)]
    by_cases a2:c≤122
    ·rw[if_pos a2,hT (by rw[hch];simp;omega)]
    ·rw[if_neg a2,if_neg (by omega),hF (by rw[hch];simp;omega)]
   ·rw[if_neg a1]
    by_cases b1:c≥48
    ·rw[if_pos b1]
     by_cases b2:c≤57
     ·rw[if_pos b2]
      by_cases b0:(i:Int)=0
      ·rw[if_pos b0,hF (by rw[hch];simp;omega)]
      ·rw[if_neg b0,hT (by rw[hch];simp;omega)]
     ·rw[if_neg b2,hF (by rw[hch];simp;omega)]
    ·rw[if_neg b1,hF (by rw[hch];simp;omega)]) 0 k (Nat.zero_le _) (by omega)
 unfold Zam.f nameB
 simpa using key
end Go.Proofs.YthphnhmabieflaaDoor.Pr
namespace Go.Proofs.YthphnhmabieflaaDoor.Pr
open Go.RowKit Go.Proofs.YthphnhmabieflaaDoorW.PrintWords Go.Proofs.YthphnhmabieflaaDoorW.PrintLast Go.Proofs.YthphnhmabieflaaDoorW.PrintMore
attribute [local go_sem] Zah Zaf Zas Zar Z8 Z7 Zag Zae
set_option linter.unusedVariables false
set_option linter.unusedSimpArgs false
def Zal.f (a0:Int):Option (Int):=if a0<0 then(some (wrap64 (-a0))) else(some a0)
set_option maxHeartbeats 8000000 in
set_option maxRecDepth 100000 in
theorem Zal.calls (a0:Int) (r:Int) (w:World) (h:Zal.f a0=some r) :
  Calls Tryd.prog 36 #[.int .i64 a0] w fun e w'=>e=.returned (.int .i64 r)∧ZE w w':=by
 have H:(if a0<0 then(some (wrap64 (-a0))) else(some a0))=some r:=h
 clear h
 by_cases c2:a0<0
 ·rw[if_pos c2] at H
  have c2b0:decide (a0<0)=true:=Ze c2
  clear c2
  obtain rfl:=Zg H
  go_enter Tryd.func36,Tryd.ntmps36
  go_wp2
  go_ret
  exact⟨by first|rfl|(simp;done)|(simp[*];done),by repeat(first|exact ZE.refl _|apply ZE.step)⟩
 ·rw[if_neg c2] at H
  have c2b0:decide (a0<0)=false:=Zf c2
  clear c2
  obtain rfl:=Zg H
  go_enter Tryd.func36,Tryd.ntmps36
  go_wp2
  go_ret
  exact⟨by first|rfl|(simp;done)|(simp[*];done),by repeat(first|exact ZE.refl _|apply ZE.step)⟩
def ZU.l0:Nat→List Int→List Int→Int→Int→Option (Bool)
 | 0,_,_,_,_=>none
 | k+1,x0,x5,x6,x7=>if x7<x6 then(if 0≤x7 then(if x7<(x5.length:Int) then(if (rd x5 x7)=0 then(some false) else((Z5.f (rd x5 x7) (-3) 3).bind fun t34002=>(if t34002=true then(if x7 > 0 then(if 0≤(wrap64 (x7 - 1)) then(if (wrap64 (x7 - 1))<(x0.length:Int) then((Zal.f (rd x0 (wrap64 (x7 - 1)))).bind fun t34004=>((Zal.f (rd x5 x7)).bind fun t34005=>(if t34004≥t34005 then(some false) else(ZU.l0 k x0 x5 x6 (wrap64 (x7+1)))))) else(none)) else(none)) else(ZU.l0 k x0 x5 x6 (wrap64 (x7+1)))) else(some false)))) else(none)) else(none)) else(some true)
def ZU.f (k:Nat) (l0:List Int):Option (Bool):=ZU.l0 k l0 l0 (l0.length:Int) 0
set_option maxHeartbeats 8000000 in
set_option maxRecDepth 100000 in
theorem ZU.calls (k:Nat) (A0:Option Addr) (c0:Nat) (l0:List Int) (r:Bool) (w:World) (hr0:Kd.C (Kd.int .i64) w A0 l0.length l0) (hc0:l0.length≤c0) (h:ZU.f k l0=some r) :
  Calls Tryd.prog 34 #[.slice A0 l0.length c0] w fun e w'=>e=.returned (.bool r)∧ZE w w':=by
 have HR0:=Za hr0;have HC0:=Za hc0;clear hr0 hc0
 have H:(ZU.l0 k l0 l0 (l0.length:Int) 0)=some r:=h
 clear h
 have H':=Za H
 clear H
 go_enter Tryd.func34,Tryd.ntmps34
 go_wp2
 go_loopg [7] k (fun kq v7 w'=>∃(x7_1:Int),v7=.int .i64 x7_1∧Aside0 (ZU.l0 kq l0 l0 (l0.length:Int) x7_1=some r)∧Aside0 (kq≤k)∧ZE w w')
 case atStart=>exact⟨(0),(by first|rfl|(simp;done)|(simp[*];done)),H',⟨Nat.le_refl _⟩,by repeat(first|exact ZE.refl _|apply ZE.step)⟩
 case round=>
  clear H'
  obtain⟨x7_1,rfl,HA,HK1,⟨m1,rfl⟩⟩:=hrel
  cases gk with
  | zero=>exact absurd HA.out (by simp[ZU.l0])
  | succ k1=>
   have H:=HA.out
   clear HA
   simp only[ZU.l0] at H
   by_cases c2:x7_1<(l0.length:Int)
   ·rw[if_pos c2] at H
    have c2b0:decide (x7_1<(l0.length:Int))=true:=Ze c2
    clear c2
    by_cases c3:0≤x7_1
    ·rw[if_pos c3] at H
     have c3b0:decide (0≤x7_1)=true:=Ze c3
     clear c3
     by_cases c4:x7_1<(l0.length:Int)
     ·rw[if_pos c4] at H
      have c4b0:decide (x7_1<(l0.length:Int))=true:=Ze c4
      clear c4
      by_cases c5:(rd l0 x7_1)=0
      ·rw[if_pos c5] at H
       have c5b0:((rd l0 x7_1) == 0)=true:=beq_iff_eq.mpr c5
       have c5b1:((rd l0 x7_1) != 0)=false:=bne_eq_false_iff_eq.mpr c5
       clear c5
       obtain rfl:=Zg H
       have p34001:0≤(x7_1:Int):=Zd (by first|(with_reducible assumption)|assumption)
       have q34001:x7_1<(l0.length:Int):=Zd (by first|(with_reducible assumption)|assumption)
       obtain⟨ad34001,e34001,hx34001_0⟩:=Kd.at_int HR0.out x7_1 p34001 q34001
       cases e34001
       replace p34001:=eq_true p34001
       replace q34001:=eq_true q34001
       go_wp2
       go_ret
       exact⟨by first|rfl|(simp;done)|(simp[*];done),by repeat(first|exact ZE.refl _|apply ZE.step)⟩
      ·rw[if_neg c5] at H
       have c5b0:((rd l0 x7_1) == 0)=false:=beq_eq_false_iff_ne.mpr c5
       have c5b1:((rd l0 x7_1) != 0)=true:=bne_iff_ne.mpr c5
       replace H:=Zh H
       obtain⟨t34002,A60,H⟩:=H
       replace H:(if t34002=true then(if x7_1 > 0 then(if 0≤(wrap64 (x7_1 - 1)) then(if (wrap64 (x7_1 - 1))<(l0.length:Int) then((Zal.f (rd l0 (wrap64 (x7_1 - 1)))).bind fun t34004=>((Zal.f (rd l0 x7_1)).bind fun t34005=>(if t34004≥t34005 then(some false) else(ZU.l0 k1 l0 l0 (l0.length:Int) (wrap64 (x7_1+1)))))) else(none)) else(none)) else(ZU.l0 k1 l0 l0 (l0.length:Int) (wrap64 (x7_1+1)))) else(some false))=some r:=H
       have A6:=Za A60;clear A60
       by_cases c7:t34002=true
       ·subst c7
        have H1:(if x7_1 > 0 then(if 0≤(wrap64 (x7_1 - 1)) then(if (wrap64 (x7_1 - 1))<(l0.length:Int) then((Zal.f (rd l0 (wrap64 (x7_1 - 1)))).bind fun t34004=>((Zal.f (rd l0 x7_1)).bind fun t34005=>(if t34004≥t34005 then(some false) else(ZU.l0 k1 l0 l0 (l0.length:Int) (wrap64 (x7_1+1)))))) else(none)) else(none)) else(ZU.l0 k1 l0 l0 (l0.length:Int) (wrap64 (x7_1+1))))=some r:=by rw[if_pos rfl] at H;exact H
        clear H
        have H:=H1
        clear H1
        by_cases c8:x7_1 > 0
        ·rw[if_pos c8] at H
         have c8b0:decide (0<x7_1)=true:=Ze c8
         clear c8
         obtain⟨ji9,hji9⟩:∃j_:Int,(wrap64 (x7_1 - 1))=j_:=⟨_,rfl⟩
         replace H:(if 0≤(ji9) then(if (ji9)<(l0.length:Int) then((Zal.f (rd l0 (ji9))).bind fun t34004=>((Zal.f (rd l0 x7_1)).bind fun t34005=>(if t34004≥t34005 then(some false) else(ZU.l0 k1 l0 l0 (l0.length:Int) (wrap64 (x7_1+1)))))) else(none)) else(none))=some r:=by first|(rw[hji9] at H;exact H)|(simp only[hji9] at H ⊢;exact H)
         (try rw[hji9] at A6)
         have hji9w:(IntKind.i64.wrap (x7_1 - 1))=ji9:=(ZC _).trans hji9
         by_cases c10:0≤(ji9)
         ·rw[if_pos c10] at H
          have c10b0:decide (0≤(ji9))=true:=Ze c10
          clear c10
          by_cases c11:(ji9)<(l0.length:Int)
          ·rw[if_pos c11] at H
           have c11b0:decide ((ji9)<(l0.length:Int))=true:=Ze c11
           clear c11
           replace H:=Zh H
           obtain⟨t34004,A120,H⟩:=H
           replace H:((Zal.f (rd l0 x7_1)).bind fun t34005=>(if t34004≥t34005 then(some false) else(ZU.l0 k1 l0 l0 (l0.length:Int) (wrap64 (x7_1+1)))))=some r:=H
           have A12:=Za A120;clear A120
           replace H:=Zh H
           obtain⟨t34005,A130,H⟩:=H
           replace H:(if t34004≥t34005 then(some false) else(ZU.l0 k1 l0 l0 (l0.length:Int) (wrap64 (x7_1+1))))=some r:=H
           have A13:=Za A130;clear A130
           by_cases c14:t34004≥t34005
           ·rw[if_pos c14] at H
            have c14b0:decide (t34005≤t34004)=true:=Ze c14
            clear c14
            obtain rfl:=Zg H
            have p34001:0≤(x7_1:Int):=Zd (by first|(with_reducible assumption)|assumption)
            have q34001:x7_1<(l0.length:Int):=Zd (by first|(with_reducible assumption)|assumption)
            obtain⟨ad34001,e34001,hx34001_0⟩:=Kd.at_int HR0.out x7_1 p34001 q34001
            cases e34001
            replace p34001:=eq_true p34001
            replace q34001:=eq_true q34001
            go_wp2_with (first|(go_at_call 44;(with_reducible refine(Z5.calls (rd l0 x7_1) (-3) 3 true _ A6.out).mono ?_);rintro e w' ⟨rfl,⟨nd,rfl⟩⟩;have p34003:0≤((ji9):Int):=Zd (by first|(with_reducible assumption)|assumption);have q34003:(ji9)<(l0.length:Int):=Zd (by first|(with_reducible assumption)|assumption);obtain⟨ad34003,e34003,hx34003_0⟩:=Kd.at_int HR0.out (ji9) p34003 q34003;obtain rfl:ad34001=ad34003:=(by injection e34003);replace p34003:=eq_true p34003;replace q34003:=eq_true q34003)|(go_at_call 36;(with_reducible refine(Zal.calls (rd l0 (ji9)) t34004 _ A12.out).mono ?_);rintro e w' ⟨rfl,⟨nd,rfl⟩⟩)|(go_at_call 36;(with_reducible refine(Zal.calls (rd l0 x7_1) t34005 _ A13.out).mono ?_);rintro e w' ⟨rfl,⟨nd,rfl⟩⟩))
            go_ret
            exact⟨by first|rfl|(simp;done)|(simp only[← hji9] <;> (first|rfl|simp))|(simp[*];done),by repeat(first|exact ZE.refl _|apply ZE.step)⟩
           ·rw[if_neg c14] at H
            have c14b0:decide (t34005≤t34004)=false:=Zf c14
            clear c14
            have H':=Za H
            clear H
            have p34001:0≤(x7_1:Int):=Zd (by first|(with_reducible assumption)|assumption)
            have q34001:x7_1<(l0.length:Int):=Zd (by first|(with_reducible assumption)|assumption)
            obtain⟨ad34001,e34001,hx34001_0⟩:=Kd.at_int HR0.out x7_1 p34001 q34001
            cases e34001
            replace p34001:=eq_true p34001
            replace q34001:=eq_true q34001
            go_wp2_with (first|(go_at_call 44;(with_reducible refine(Z5.calls (rd l0 x7_1) (-3) 3 true _ A6.out).mono ?_);rintro e w' ⟨rfl,⟨nd,rfl⟩⟩;have p34003:0≤((ji9):Int):=Zd (by first|(with_reducible assumption)|assumption);have q34003:(ji9)<(l0.length:Int):=Zd (by first|(with_reducible assumption)|assumption);obtain⟨ad34003,e34003,hx34003_0⟩:=Kd.at_int HR0.out (ji9) p34003 q34003;obtain rfl:ad34001=ad34003:=(by injection e34003);replace p34003:=eq_true p34003;replace q34003:=eq_true q34003)|(go_at_call 36;(with_reducible refine(Zal.calls (rd l0 (ji9)) t34004 _ A12.out).mono ?_);rintro e w' ⟨rfl,⟨nd,rfl⟩⟩)|(go_at_call 36;(with_reducible refine(Zal.calls (rd l0 x7_1) t34005 _ A13.out).mono ?_);rintro e w' ⟨rfl,⟨nd,rfl⟩⟩))
            go_roundg k1
            case measure=>have:=HK1.out;omega
            case rel=>exact⟨(wrap64 (x7_1+1)),(by first|rfl|(simp;done)|(simp[*];done)),H',⟨by have:=HK1.out;omega⟩,by repeat(first|exact ZE.refl _|apply ZE.step)⟩
          ·rw[if_neg c11] at H
           exact absurd H (by simp)
         ·rw[if_neg c10] at H
          exact absurd H (by simp)
        ·rw[if_neg c8] at H
         have c8b0:decide (0<x7_1)=false:=Zf c8
         clear c8
         have H':=Za H
         clear H
         have p34001:0≤(x7_1:Int):=Zd (by first|(with_reducible assumption)|assumption)
         have q34001:x7_1<(l0.length:Int):=Zd (by first|(with_reducible assumption)|assumption)
         obtain⟨ad34001,e34001,hx34001_0⟩:=Kd.at_int HR0.out x7_1 p34001 q34001
         cases e34001
         replace p34001:=eq_true p34001
         replace q34001:=eq_true q34001
         go_wp2_with (first|(go_at_call 44;(with_reducible refine(Z5.calls (rd l0 x7_1) (-3) 3 true _ A6.out).mono ?_);rintro e w' ⟨rfl,⟨nd,rfl⟩⟩))
         go_roundg k1
         case measure=>have:=HK1.out;omega
         case rel=>exact⟨(wrap64 (x7_1+1)),(by first|rfl|(simp;done)|(simp[*];done)),H',⟨by have:=HK1.out;omega⟩,by repeat(first|exact ZE.refl _|apply ZE.step)⟩
       ·replace c7:=Bool.eq_false_iff.mpr c7
        subst c7
        have H1:(some false)=some r:=by rw[if_neg (show ¬(false=true) by decide)] at H;exact H
        clear H
        have H:=H1
        clear H1
        obtain rfl:=Zg H
        have p34001:0≤(x7_1:Int):=Zd (by first|(with_reducible assumption)|assumption)
        have q34001:x7_1<(l0.length:Int):=Zd (by first|(with_reducible assumption)|assumption)
        obtain⟨ad34001,e34001,hx34001_0⟩:=Kd.at_int HR0.out x7_1 p34001 q34001
        cases e34001
        replace p34001:=eq_true p34001
        replace q34001:=eq_true q34001
        go_wp2_with (first|(go_at_call 44;(with_reducible refine(Z5.calls (rd l0 x7_1) (-3) 3 false _ A6.out).mono ?_);rintro e w' ⟨rfl,⟨nd,rfl⟩⟩))
        go_ret
        exact⟨by first|rfl|(simp;done)|(simp[*];done),by repeat(first|exact ZE.refl _|apply ZE.step)⟩
     ·rw[if_neg c4] at H
      exact absurd H (by simp)
    ·rw[if_neg c3] at H
     exact absurd H (by simp)
   ·rw[if_neg c2] at H
    have c2b0:decide (x7_1<(l0.length:Int))=false:=Zf c2
    clear c2
    obtain rfl:=Zg H
    go_wp2
    go_ret
    exact⟨by first|rfl|(simp;done)|(simp[*];done),by repeat(first|exact ZE.refl _|apply ZE.step)⟩
def Zaq.f (a0:Int):Option (Int):=some (mx a0 (wrap64 (-a0)))
set_option maxHeartbeats 8000000 in
set_option maxRecDepth 100000 in
theorem Zaq.calls (a0:Int) (r:Int) (w:World) (h:Zaq.f a0=some r) :
  Calls Tryd.prog 39 #[.int .i64 a0] w fun e w'=>e=.returned (.int .i64 r)∧Below w.heap.size w w':=by
 have HB:=Za (Below.refl w.heap.size w)
 have H:(some (mx a0 (wrap64 (-a0))))=some r:=h
 clear h
 obtain⟨ji2,hji2⟩:∃j_:Int,(mx a0 (wrap64 (-a0)))=j_:=⟨_,rfl⟩
 replace H:(some ji2)=some r:=by first|(rw[hji2] at H;exact H)|(simp only[hji2] at H ⊢;exact H)
 have hji2_:(if a0<(wrap64 (-a0)) then(wrap64 (-a0)) else a0)=ji2:=hji2
 obtain rfl:=Zg H
 go_enter Tryd.func39,Tryd.ntmps39
 go_wp2
 go_ret
 exact⟨by first|rfl|(simp[ZA,Zz] <;> rfl)|(simp only[← hji2];first|rfl|(simp[ZA,Zz] <;> rfl))|(simp[*,ZA,Zz] <;> rfl),by repeat(first|(with_reducible first|exact HB.out|apply Zn|apply Zm|apply Zo)|exact HB.out)⟩
def Z1.l0:Nat→List Int→List Int→Int→Int→Option (Bool)
 | 0,_,_,_,_=>none
 | k+1,x0,x5,x6,x7=>if x7<x6 then(if 0≤x7 then(if x7<(x5.length:Int) then(if (rd x5 x7)=0 then(some false) else(if (rd x5 x7)<(-3) then(some false) else(if (rd x5 x7) > 3 then(some false) else(if x7 > 0 then(if 0≤(wrap64 (x7 - 1)) then(if (wrap64 (x7 - 1))<(x0.length:Int) then((Zaq.f (rd x0 (wrap64 (x7 - 1)))).bind fun t27003=>((Zaq.f (rd x5 x7)).bind fun t27004=>(if t27003≥t27004 then(some false) else(Z1.l0 k x0 x5 x6 (wrap64 (x7+1)))))) else(none)) else(none)) else(Z1.l0 k x0 x5 x6 (wrap64 (x7+1))))))) else(none)) else(none)) else(some true)
def Z1.f (k:Nat) (l0:List Int):Option (Bool):=Z1.l0 k l0 l0 (l0.length:Int) 0
set_option maxHeartbeats 8000000 in
set_option maxRecDepth 100000 in
theorem Z1.calls (k:Nat) (A0:Option Addr) (c0:Nat) (l0:List Int) (r:Bool) (w:World) (hr0:Kd.C (Kd.int .i64) w A0 l0.length l0) (hc0:l0.length≤c0) (h:Z1.f k l0=some r) :
  Calls Tryd.prog 27 #[.slice A0 l0.length c0] w fun e w'=>e=.returned (.bool r)∧Below w.heap.size w w':=by
 have HR0:=Za hr0;have HC0:=Za hc0;clear hr0 hc0
 have HB:=Za (Below.refl w.heap.size w)
 have H:(Z1.l0 k l0 l0 (l0.length:Int) 0)=some r:=h
 clear h
 have H':=Za H
 clear H
 go_enter Tryd.func27,Tryd.ntmps27
 go_wp2
 go_loopg [7] k (fun kq v7 w'=>∃(x7_1:Int),v7=.int .i64 x7_1∧Aside0 (Z1.l0 kq l0 l0 (l0.length:Int) x7_1=some r)∧Aside0 (kq≤k)∧Aside0 (Below w.heap.size w w'))
 case atStart=>exact⟨(0),(by first|rfl|(simp;done)|(simp[*];done)),H',⟨Nat.le_refl _⟩,⟨by repeat(first|(with_reducible first|exact HB.out|apply Zn|apply Zm|apply Zo)|exact HB.out)⟩⟩
 case round=>
  clear H'
  obtain⟨x7_1,rfl,HA,HK1,HB⟩:=hrel
  cases gk with
  | zero=>exact absurd HA.out (by simp[Z1.l0])
  | succ k1=>
   have H:=HA.out
   clear HA
   simp only[Z1.l0] at H
   by_cases c2:x7_1<(l0.length:Int)
   ·rw[if_pos c2] at H
    have c2b0:decide (x7_1<(l0.length:Int))=true:=Ze c2
    clear c2
    by_cases c3:0≤x7_1
    ·rw[if_pos c3] at H
     have c3b0:decide (0≤x7_1)=true:=Ze c3
     clear c3
     by_cases c4:x7_1<(l0.length:Int)
     ·rw[if_pos c4] at H
      have c4b0:decide (x7_1<(l0.length:Int))=true:=Ze c4
      clear c4
      by_cases c5:(rd l0 x7_1)=0
      ·rw[if_pos c5] at H
       have c5b0:((rd l0 x7_1) == 0)=true:=beq_iff_eq.mpr c5
       have c5b1:((rd l0 x7_1) != 0)=false:=bne_eq_false_iff_eq.mpr c5
       clear c5
       obtain rfl:=Zg H
       have p27001:0≤(x7_1:Int):=Zd (by first|(with_reducible assumption)|assumption)
       have q27001:x7_1<(l0.length:Int):=Zd (by first|(with_reducible assumption)|assumption)
       obtain⟨ad27001,e27001,hx27001_0⟩:=Kd.at_int HR0.out x7_1 p27001 q27001
       cases e27001
       replace hx27001_0:=(HB.out.cell (Zc w _ hx27001_0)).trans hx27001_0
       replace p27001:=eq_true p27001
       replace q27001:=eq_true q27001
       go_wp2
       go_ret
       exact⟨by first|rfl|(simp[ZA,Zz] <;> rfl)|(simp[*,ZA,Zz] <;> rfl),by repeat(first|(with_reducible first|exact HB.out|apply Zn|apply Zm|apply Zo)|exact HB.out)⟩
      ·rw[if_neg c5] at H
       have c5b0:((rd l0 x7_1) == 0)=false:=beq_eq_false_iff_ne.mpr c5
       have c5b1:((rd l0 x7_1) != 0)=true:=bne_iff_ne.mpr c5
       by_cases c6:(rd l0 x7_1)<(-3)
       ·rw[if_pos c6] at H
        have c6b0:decide ((rd l0 x7_1)<(-3))=true:=Ze c6
        clear c6
        obtain rfl:=Zg H
        have p27001:0≤(x7_1:Int):=Zd (by first|(with_reducible assumption)|assumption)
        have q27001:x7_1<(l0.length:Int):=Zd (by first|(with_reducible assumption)|assumption)
        obtain⟨ad27001,e27001,hx27001_0⟩:=Kd.at_int HR0.out x7_1 p27001 q27001
        cases e27001
        replace hx27001_0:=(HB.out.cell (Zc w _ hx27001_0)).trans hx27001_0
        replace p27001:=eq_true p27001
        replace q27001:=eq_true q27001
        go_wp2
        go_ret
        exact⟨by first|rfl|(simp[ZA,Zz] <;> rfl)|(simp[*,ZA,Zz] <;> rfl),by repeat(first|(with_reducible first|exact HB.out|apply Zn|apply Zm|apply Zo)|exact HB.out)⟩
       ·rw[if_neg c6] at H
        have c6b0:decide ((rd l0 x7_1)<(-3))=false:=Zf c6
        clear c6
        by_cases c7:(rd l0 x7_1) > 3
        ·rw[if_pos c7] at H
         have c7b0:decide (3<(rd l0 x7_1))=true:=Ze c7
         clear c7
         obtain rfl:=Zg H
         have p27001:0≤(x7_1:Int):=Zd (by first|(with_reducible assumption)|assumption)
         have q27001:x7_1<(l0.length:Int):=Zd (by first|(with_reducible assumption)|assumption)
         obtain⟨ad27001,e27001,hx27001_0⟩:=Kd.at_int HR0.out x7_1 p27001 q27001
         cases e27001
         replace hx27001_0:=(HB.out.cell (Zc w _ hx27001_0)).trans hx27001_0
         replace p27001:=eq_true p27001
         replace q27001:=eq_true q27001
         go_wp2
         go_ret
         exact⟨by first|rfl|(simp[ZA,Zz] <;> rfl)|(simp[*,ZA,Zz] <;> rfl),by repeat(first|(with_reducible first|exact HB.out|apply Zn|apply Zm|apply Zo)|exact HB.out)⟩
        ·rw[if_neg c7] at H
         have c7b0:decide (3<(rd l0 x7_1))=false:=Zf c7
         clear c7
         by_cases c8:x7_1 > 0
         ·rw[if_pos c8] at H
          have c8b0:decide (0<x7_1)=true:=Ze c8
          clear c8
          obtain⟨ji9,hji9⟩:∃j_:Int,(wrap64 (x7_1 - 1))=j_:=⟨_,rfl⟩
          replace H:(if 0≤(ji9) then(if (ji9)<(l0.length:Int) then((Zaq.f (rd l0 (ji9))).bind fun t27003=>((Zaq.f (rd l0 x7_1)).bind fun t27004=>(if t27003≥t27004 then(some false) else(Z1.l0 k1 l0 l0 (l0.length:Int) (wrap64 (x7_1+1)))))) else(none)) else(none))=some r:=by first|(rw[hji9] at H;exact H)|(simp only[hji9] at H ⊢;exact H)
          have hji9w:(IntKind.i64.wrap (x7_1 - 1))=ji9:=(ZC _).trans hji9
          by_cases c10:0≤(ji9)
          ·rw[if_pos c10] at H
           have c10b0:decide (0≤(ji9))=true:=Ze c10
           clear c10
           by_cases c11:(ji9)<(l0.length:Int)
           ·rw[if_pos c11] at H
            have c11b0:decide ((ji9)<(l0.length:Int))=true:=Ze c11
            clear c11
            replace H:=Zh H
            obtain⟨t27003,A120,H⟩:=H
            replace H:((Zaq.f (rd l0 x7_1)).bind fun t27004=>(if t27003≥t27004 then(some false) else(Z1.l0 k1 l0 l0 (l0.length:Int) (wrap64 (x7_1+1)))))=some r:=H
            have A12:=Za A120;clear A120
            replace H:=Zh H
            obtain⟨t27004,A130,H⟩:=H
            replace H:(if t27003≥t27004 then(some false) else(Z1.l0 k1 l0 l0 (l0.length:Int) (wrap64 (x7_1+1))))=some r:=H
            have A13:=Za A130;clear A130
            by_cases c14:t27003≥t27004
            ·rw[if_pos c14] at H
             have c14b0:decide (t27004≤t27003)=true:=Ze c14
             clear c14
             obtain rfl:=Zg H
             have p27001:0≤(x7_1:Int):=Zd (by first|(with_reducible assumption)|assumption)
             have q27001:x7_1<(l0.length:Int):=Zd (by first|(with_reducible assumption)|assumption)
             obtain⟨ad27001,e27001,hx27001_0⟩:=Kd.at_int HR0.out x7_1 p27001 q27001
             cases e27001
             replace hx27001_0:=(HB.out.cell (Zc w _ hx27001_0)).trans hx27001_0
             replace p27001:=eq_true p27001
             replace q27001:=eq_true q27001
             have p27002:0≤((ji9):Int):=Zd (by first|(with_reducible assumption)|assumption)
             have q27002:(ji9)<(l0.length:Int):=Zd (by first|(with_reducible assumption)|assumption)
             obtain⟨ad27002,e27002,hx27002_0⟩:=Kd.at_int HR0.out (ji9) p27002 q27002
             obtain rfl:ad27001=ad27002:=(by injection e27002)
             replace hx27002_0:=(HB.out.cell (Zc w _ hx27002_0)).trans hx27002_0
             replace p27002:=eq_true p27002
             replace q27002:=eq_true q27002
             go_wp2_with (first|(go_at_call 39;(with_reducible refine(Zaq.calls (rd l0 (ji9)) t27003 _ A12.out).mono ?_);rintro e w15 ⟨rfl,hb⟩;replace HB:=Za (Zx (by repeat(first|(with_reducible first|exact HB.out|apply Zn|apply Zm|apply Zo)|exact HB.out)) hb);(try clear hb);(try clear hb2);(try clear hk);(try clear hi))|(go_at_call 39;(with_reducible refine(Zaq.calls (rd l0 x7_1) t27004 _ A13.out).mono ?_);rintro e w16 ⟨rfl,hb⟩;replace HB:=Za (Zx (by repeat(first|(with_reducible first|exact HB.out|apply Zn|apply Zm|apply Zo)|exact HB.out)) hb);(try clear hb);(try clear hb2);(try clear hk);(try clear hi)))
             go_ret
             exact⟨by first|rfl|(simp[ZA,Zz] <;> rfl)|(simp only[← hji9];first|rfl|(simp[ZA,Zz] <;> rfl))|(simp[*,ZA,Zz] <;> rfl),by repeat(first|(with_reducible first|exact HB.out|apply Zn|apply Zm|apply Zo)|exact HB.out)⟩
            ·rw[if_neg c14] at H
             have c14b0:decide (t27004≤t27003)=false:=Zf c14
             clear c14
             have H':=Za H
             clear H
             have p27001:0≤(x7_1:Int):=Zd (by first|(with_reducible assumption)|assumption)
             have q27001:x7_1<(l0.length:Int):=Zd (by first|(with_reducible assumption)|assumption)
             obtain⟨ad27001,e27001,hx27001_0⟩:=Kd.at_int HR0.out x7_1 p27001 q27001
             cases e27001
             replace hx27001_0:=(HB.out.cell (Zc w _ hx27001_0)).trans hx27001_0
             replace p27001:=eq_true p27001
             replace q27001:=eq_true q27001
             have p27002:0≤((ji9):Int):=Zd (by first|(with_reducible assumption)|assumption)
             have q27002:(ji9)<(l0.length:Int):=Zd (by first|(with_reducible assumption)|assumption)
             obtain⟨ad27002,e27002,hx27002_0⟩:=Kd.at_int HR0.out (ji9) p27002 q27002
             obtain rfl:ad27001=ad27002:=(by injection e27002)
             replace hx27002_0:=(HB.out.cell (Zc w _ hx27002_0)).trans hx27002_0
             replace p27002:=eq_true p27002
             replace q27002:=eq_true q27002
             go_wp2_with (first|(go_at_call 39;(with_reducible refine(Zaq.calls (rd l0 (ji9)) t27003 _ A12.out).mono ?_);rintro e w17 ⟨rfl,hb⟩;replace HB:=Za (Zx (by repeat(first|(with_reducible first|exact HB.out|apply Zn|apply Zm|apply Zo)|exact HB.out)) hb);(try clear hb);(try clear hb2);(try clear hk);(try clear hi))|(go_at_call 39;(with_reducible refine(Zaq.calls (rd l0 x7_1) t27004 _ A13.out).mono ?_);rintro e w18 ⟨rfl,hb⟩;replace HB:=Za (Zx (by repeat(first|(with_reducible first|exact HB.out|apply Zn|apply Zm|apply Zo)|exact HB.out)) hb);(try clear hb);(try clear hb2);(try clear hk);(try clear hi)))
             go_roundg k1
             case measure=>have:=HK1.out;omega
             case rel=>exact⟨(wrap64 (x7_1+1)),(by first|rfl|(simp;done)|(simp[*];done)),H',⟨by have:=HK1.out;omega⟩,⟨by repeat(first|(with_reducible first|exact HB.out|apply Zn|apply Zm|apply Zo)|exact HB.out)⟩⟩
           ·rw[if_neg c11] at H
            exact absurd H (by simp)
          ·rw[if_neg c10] at H
           exact absurd H (by simp)
         ·rw[if_neg c8] at H
          have c8b0:decide (0<x7_1)=false:=Zf c8
          clear c8
          have H':=Za H
          clear H
          have p27001:0≤(x7_1:Int):=Zd (by first|(with_reducible assumption)|assumption)
          have q27001:x7_1<(l0.length:Int):=Zd (by first|(with_reducible assumption)|assumption)
          obtain⟨ad27001,e27001,hx27001_0⟩:=Kd.at_int HR0.out x7_1 p27001 q27001
          cases e27001
          replace hx27001_0:=(HB.out.cell (Zc w _ hx27001_0)).trans hx27001_0
          replace p27001:=eq_true p27001
          replace q27001:=eq_true q27001
          go_wp2
          go_roundg k1
          case measure=>have:=HK1.out;omega
          case rel=>exact⟨(wrap64 (x7_1+1)),(by first|rfl|(simp;done)|(simp[*];done)),H',⟨by have:=HK1.out;omega⟩,⟨by repeat(first|(with_reducible first|exact HB.out|apply Zn|apply Zm|apply Zo)|exact HB.out)⟩⟩
     ·rw[if_neg c4] at H
      exact absurd H (by simp)
    ·rw[if_neg c3] at H
     exact absurd H (by simp)
   ·rw[if_neg c2] at H
    have c2b0:decide (x7_1<(l0.length:Int))=false:=Zf c2
    clear c2
    obtain rfl:=Zg H
    go_wp2
    go_ret
    exact⟨by first|rfl|(simp[ZA,Zz] <;> rfl)|(simp[*,ZA,Zz] <;> rfl),by repeat(first|(with_reducible first|exact HB.out|apply Zn|apply Zm|apply Zo)|exact HB.out)⟩
end Go.Proofs.YthphnhmabieflaaDoor.Pr
namespace Go.Proofs.YthphnhmabieflaaDoor.Pr
open Go.RowKit Go.Proofs.YthphnhmabieflaaDoorW.PrintWords Go.Proofs.YthphnhmabieflaaDoorW.PrintMore Go.Proofs.YthphnhmabieflaaDoor.Ni
theorem ZcS {x:Int} (h:Za7 x=true):Zal.f x=some (prp x):=by
 have:=(Zbk x).1 h
 unfold Zal.f prp
 split
 ·rw[Zbb (by omega) (by omega)]
 ·rfl
theorem Zc4 {x:Int} (h:Za7 x=true):Zaq.f x=some (prp x):=by
 have:=(Zbk x).1 h
 unfold Zaq.f prp mx
 rw[Zbb (by omega) (by omega)]
 congr 1
 split <;> split <;> omega
theorem Zb0 (l:List Int) (hl:l.length≤9223372036854775807) (k:Nat) (hk:2 ^ 64≤k):ZU.f k l=some (labB l):=by
 have key:=ZaM l.length (fun k i=>(0<i→Za7 (l.getD (i - 1) 0)=true)→ZU.l0 k l l l.length (i:Int)=some (Zbm (if i=0 then 0 else prp (l.getD (i - 1) 0)) (l.drop i))) 0
  (fun k _ _=>by simp[ZU.l0,Zbm])
  (fun k i _ hi ih hb=>by
   simp only[ZU.l0]
   rw[if_pos (by omega),if_pos (by omega),if_pos (by omega),Zbg,Zax hi (by omega),ZaA hi 0]
   unfold Zbm
   have ih':=fun h=>ih (fun _=>h)
   simp only[Nat.add_sub_cancel,Nat.add_eq_zero_iff,Nat.one_ne_zero,and_false,if_false] at ih'
   by_cases h0:l.getD i 0=0
   ·rw[if_pos h0,h0];simp[Za7]
   rw[if_neg h0]
   unfold Z5.f
   by_cases h1:l.getD i 0≥-3
   ·rw[if_pos h1,Zi]
    by_cases h2:l.getD i 0≤3
    ·have hok:Za7 (l.getD i 0)=true:=(Zbk _).2 ⟨h0,h1,h2⟩
     have hp:=Zcf hok
     rw[if_pos (by simpa using h2)]
     by_cases hi0:i=0
     ·subst hi0
      rw[if_neg (by omega),ih' hok,hok]
      simp only[Bool.true_and,if_true]
      rw[Ze (show(0:Int)<prp (l.getD 0 0) by omega)]
      rfl
     ·rw[if_pos (by omega),wrap_pred (by omega) (by omega),if_pos (by omega),if_pos (by omega),Zbg,ZcS (hb (by omega)),Zi,ZcS hok,Zi,if_neg hi0,hok]
      by_cases hlt:prp (l.getD (i - 1) 0)<prp (l.getD i 0)
      ·rw[if_neg (by omega),ih' hok,Ze hlt];rfl
      ·rw[if_pos (by omega),Zf hlt];rfl
    ·rw[if_neg (by simpa using h2)]
     rw[show Za7 (l.getD i 0)=false from Bool.eq_false_iff.2 fun h=>by have:=(Zbk _).1 h;omega];rfl
   ·rw[if_neg h1,Zi,if_neg (by decide)]
    rw[show Za7 (l.getD i 0)=false from Bool.eq_false_iff.2 fun h=>by have:=(Zbk _).1 h;omega];rfl) 0 k (Nat.zero_le _) (by omega)
 unfold ZU.f labB
 have:=key (fun h=>absurd h (by omega))
 simpa using this
theorem Zb3 (l:List Int) (hl:l.length≤9223372036854775807) (k:Nat) (hk:2 ^ 64≤k):Z1.f k l=some (labB l):=by
 have key:=ZaM l.length (fun k i=>(0<i→Za7 (l.getD (i - 1) 0)=true)→Z1.l0 k l l l.length (i:Int)=some (Zbm (if i=0 then 0 else prp (l.getD (i - 1) 0)) (l.drop i))) 0
  (fun k _ _=>by simp[Z1.l0,Zbm])
  (fun k i _ hi ih hb=>by
   simp only[Z1.l0]
   rw[if_pos (by omega),if_pos (by omega),if_pos (by omega),Zbg,Zax hi (by omega),ZaA hi 0]
   unfold Zbm
   have ih':=fun h=>ih (fun _=>h)
   simp only[Nat.add_sub_cancel,Nat.add_eq_zero_iff,Nat.one_ne_zero,and_false,if_false] at ih'
   by_cases h0:l.getD i 0=0
   ·rw[if_pos h0,h0];simp[Za7]
   rw[if_neg h0]
   by_cases h1:l.getD i 0≥-3
   ·rw[if_neg (by omega)]
    by_cases h2:l.getD i 0≤3
    ·have hok:Za7 (l.getD i 0)=true:=(Zbk _).2 ⟨h0,h1,h2⟩
     have hp:=Zcf hok
     rw[if_neg (by omega)]
     by_cases hi0:i=0
     ·subst hi0
      rw[if_neg (by omega),ih' hok,hok]
      simp only[Bool.true_and,if_true]
      rw[Ze (show(0:Int)<prp (l.getD 0 0) by omega)]
      rfl
     ·rw[if_pos (by omega),wrap_pred (by omega) (by omega),if_pos (by omega),if_pos (by omega),Zbg,Zc4 (hb (by omega)),Zi,Zc4 hok,Zi,if_neg hi0,hok]
      by_cases hlt:prp (l.getD (i - 1) 0)<prp (l.getD i 0)
      ·rw[if_neg (by omega),ih' hok,Ze hlt];rfl
      ·rw[if_pos (by omega),Zf hlt];rfl
    ·rw[if_pos (by omega)]
     rw[show Za7 (l.getD i 0)=false from Bool.eq_false_iff.2 fun h=>by have:=(Zbk _).1 h;omega];rfl
   ·rw[if_pos (by omega)]
    rw[show Za7 (l.getD i 0)=false from Bool.eq_false_iff.2 fun h=>by have:=(Zbk _).1 h;omega];rfl) 0 k (Nat.zero_le _) (by omega)
 unfold Z1.f labB
 have:=key (fun h=>absurd h (by omega))
 simpa using this
end Go.Proofs.YthphnhmabieflaaDoor.Pr
namespace Go.Proofs.YthphnhmabieflaaDoor.Pr
open Go.RowKit Go.Proofs.YthphnhmabieflaaDoorW.PrintWords Go.Proofs.YthphnhmabieflaaDoorW.PrintLast Go.Proofs.YthphnhmabieflaaDoorW.PrintMore
attribute [local go_sem] Zah Zaf Zas Zar Z8 Z7 Zag Zae
set_option linter.unusedVariables false
set_option linter.unusedSimpArgs false
def Zb5.f (k:Nat) (a0_0:ByteArray) (l0_1:List Int) (a0_2:Int):Option (Bool):=(Zav.f k a0_0).bind fun t103002=>(if t103002=true then((ZU.f k l0_1).bind fun t103003=>(if t103003=true then((Z5.f a0_2 0 3).bind fun t103004=>(some t103004)) else(some false))) else(some false))
set_option maxHeartbeats 8000000 in
set_option maxRecDepth 100000 in
theorem Zb5.calls (k:Nat) (a0_0:ByteArray) (A0_1:Option Addr) (c0_1:Nat) (l0_1:List Int) (a0_2:Int) (r:Bool) (w:World) (hr0_1:Kd.C (Kd.int .i64) w A0_1 l0_1.length l0_1) (hc0_1:l0_1.length≤c0_1) (h:Zb5.f k a0_0 l0_1 a0_2=some r) :
  Calls Tryd.prog 103 #[.agg #[.string a0_0,.slice A0_1 l0_1.length c0_1,.int .i64 a0_2]] w fun e w'=>e=.returned (.bool r)∧Below w.heap.size w w':=by
 have hu73:=Tryd.underlying73
 have HR0_1:=Za hr0_1;have HC0_1:=Za hc0_1;clear hr0_1 hc0_1
 have HB:=Za (Below.refl w.heap.size w)
 have H:((Zav.f k a0_0).bind fun t103002=>(if t103002=true then((ZU.f k l0_1).bind fun t103003=>(if t103003=true then((Z5.f a0_2 0 3).bind fun t103004=>(some t103004)) else(some false))) else(some false)))=some r:=h
 clear h
 replace H:=Zh H
 obtain⟨t103002,A20,H⟩:=H
 replace H:(if t103002=true then((ZU.f k l0_1).bind fun t103003=>(if t103003=true then((Z5.f a0_2 0 3).bind fun t103004=>(some t103004)) else(some false))) else(some false))=some r:=H
 have A2:=Za A20;clear A20
 by_cases c3:t103002=true
 ·subst c3
  have H1:((ZU.f k l0_1).bind fun t103003=>(if t103003=true then((Z5.f a0_2 0 3).bind fun t103004=>(some t103004)) else(some false)))=some r:=by rw[if_pos rfl] at H;exact H
  clear H
  have H:=H1
  clear H1
  replace H:=Zh H
  obtain⟨t103003,A40,H⟩:=H
  replace H:(if t103003=true then((Z5.f a0_2 0 3).bind fun t103004=>(some t103004)) else(some false))=some r:=H
  have A4:=Za A40;clear A40
  by_cases c5:t103003=true
  ·subst c5
   have H1:((Z5.f a0_2 0 3).bind fun t103004=>(some t103004))=some r:=by rw[if_pos rfl] at H;exact H
   clear H
   have H:=H1
   clear H1
   replace H:=Zh H
   obtain⟨t103004,A60,H⟩:=H
   replace H:(some t103004)=some r:=H
   have A6:=Za A60;clear A60
   obtain rfl:=Zg H
   go_enter Tryd.func103,Tryd.ntmps103
   go_wp2_with (first|((with_reducible refine ZN (N:=1) rfl ?_);refine ZP ?hg (N:=1) ?hd (cs:=#[.string a0_0,.slice A0_1 l0_1.length c0_1,.int .i64 a0_2]) (t:=73) ?hr ?_;(case hd=>rfl);(case hg=>rfl);(case hr=>first|(go_simp;done)|(go_simp;rfl));intro gb103001 hg w7 hbox hb;have BK103001:=Za (hbox);have GW103001:=Za ((by rw[hg];exact(Zy (by repeat(first|(with_reducible first|exact HB.out|apply Zn|apply Zm|apply Zo)|exact HB.out))):w.heap.size≤gb103001));have GE103001:=Za ((by rw[hg];exact(Zy (by repeat(first|(with_reducible first|exact HB.out|apply Zn|apply Zm|apply Zo)|exact HB.out))):w.heap.size≤gb103001));replace HB:=Za (Zx (by repeat(first|(with_reducible first|exact HB.out|apply Zn|apply Zm|apply Zo)|exact HB.out)) hb);clear hb hbox hg;have hcz8_0:w7.cell? ⟨gb103001,0,none⟩=some (.string a0_0):=(Zq BK103001.out 0).trans rfl;have hcz8_1:w7.cell? ⟨gb103001,1,none⟩=some (.slice A0_1 l0_1.length c0_1):=(Zq BK103001.out 1).trans rfl;have hcz8_2:w7.cell? ⟨gb103001,2,none⟩=some (.int .i64 a0_2):=(Zq BK103001.out 2).trans rfl;have hfz8_0:=Zt BK103001.out 0;have hfz8_1:=Zt BK103001.out 1;have hfz8_2:=Zt BK103001.out 2)|((with_reducible refine ZG (f:=132) rfl ?_);refine ZX (some 5) rfl rfl Tryd.func132 (by kernel_rfl) rfl #[.string a0_0] rfl (by(try simp only[List.map_toArray,List.map_cons,List.map_nil]);first|done|rfl|(simp only[Zk,Zj];rfl)) ?_;(with_reducible refine(Zav.calls k a0_0 true _ A2.out).mono ?_);rintro e w' ⟨rfl,⟨nd,rfl⟩⟩;refine⟨_,rfl,?_⟩)|(go_at_call 34;(with_reducible refine(ZU.calls k _ _ l0_1 true _ ?side1 ?side2 A4.out).mono ?_);(case side1=>repeat(first|exact(Zb HR0_1.out (by repeat(first|(with_reducible first|exact HB.out|apply Zn|apply Zm|apply Zo|refine Zr ?_ GE103001.out)|exact HB.out)))|(with_reducible refine Kd.C_alloc ?_ _)|(with_reducible refine Kd.C_drewN ?_ _)|(with_reducible refine Kd.C_drew ?_)));(case side2=>exact HC0_1.out);rintro e w' ⟨rfl,⟨nd,rfl⟩⟩)|(go_at_call 44;(with_reducible refine(Z5.calls a0_2 0 3 t103004 _ A6.out).mono ?_);rintro e w' ⟨rfl,⟨nd,rfl⟩⟩))
   go_ret
   exact⟨by first|rfl|(simp[ZA,Zz] <;> rfl)|(simp[*,ZA,Zz] <;> rfl),by repeat(first|(with_reducible first|exact HB.out|apply Zn|apply Zm|apply Zo|refine Zr ?_ GE103001.out)|exact HB.out)⟩
  ·replace c5:=Bool.eq_false_iff.mpr c5
   subst c5
   have H1:(some false)=some r:=by rw[if_neg (show ¬(false=true) by decide)] at H;exact H
   clear H
   have H:=H1
   clear H1
   obtain rfl:=Zg H
   go_enter Tryd.func103,Tryd.ntmps103
   go_wp2_with (first|((with_reducible refine ZN (N:=1) rfl ?_);refine ZP ?hg (N:=1) ?hd (cs:=#[.string a0_0,.slice A0_1 l0_1.length c0_1,.int .i64 a0_2]) (t:=73) ?hr ?_;(case hd=>rfl);(case hg=>rfl);(case hr=>first|(go_simp;done)|(go_simp;rfl));intro gb103001 hg w9 hbox hb;have BK103001:=Za (hbox);have GW103001:=Za ((by rw[hg];exact(Zy (by repeat(first|(with_reducible first|exact HB.out|apply Zn|apply Zm|apply Zo)|exact HB.out))):w.heap.size≤gb103001));have GE103001:=Za ((by rw[hg];exact(Zy (by repeat(first|(with_reducible first|exact HB.out|apply Zn|apply Zm|apply Zo)|exact HB.out))):w.heap.size≤gb103001));replace HB:=Za (Zx (by repeat(first|(with_reducible first|exact HB.out|apply Zn|apply Zm|apply Zo)|exact HB.out)) hb);clear hb hbox hg;have hcz10_0:w9.cell? ⟨gb103001,0,none⟩=some (.string a0_0):=(Zq BK103001.out 0).trans rfl;have hcz10_1:w9.cell? ⟨gb103001,1,none⟩=some (.slice A0_1 l0_1.length c0_1):=(Zq BK103001.out 1).trans rfl;have hcz10_2:w9.cell? ⟨gb103001,2,none⟩=some (.int .i64 a0_2):=(Zq BK103001.out 2).trans rfl;have hfz10_0:=Zt BK103001.out 0;have hfz10_1:=Zt BK103001.out 1;have hfz10_2:=Zt BK103001.out 2)|((with_reducible refine ZG (f:=132) rfl ?_);refine ZX (some 5) rfl rfl Tryd.func132 (by kernel_rfl) rfl #[.string a0_0] rfl (by(try simp only[List.map_toArray,List.map_cons,List.map_nil]);first|done|rfl|(simp only[Zk,Zj];rfl)) ?_;(with_reducible refine(Zav.calls k a0_0 true _ A2.out).mono ?_);rintro e w' ⟨rfl,⟨nd,rfl⟩⟩;refine⟨_,rfl,?_⟩)|(go_at_call 34;(with_reducible refine(ZU.calls k _ _ l0_1 false _ ?side1 ?side2 A4.out).mono ?_);(case side1=>repeat(first|exact(Zb HR0_1.out (by repeat(first|(with_reducible first|exact HB.out|apply Zn|apply Zm|apply Zo|refine Zr ?_ GE103001.out)|exact HB.out)))|(with_reducible refine Kd.C_alloc ?_ _)|(with_reducible refine Kd.C_drewN ?_ _)|(with_reducible refine Kd.C_drew ?_)));(case side2=>exact HC0_1.out);rintro e w' ⟨rfl,⟨nd,rfl⟩⟩))
   go_ret
   exact⟨by first|rfl|(simp[ZA,Zz] <;> rfl)|(simp[*,ZA,Zz] <;> rfl),by repeat(first|(with_reducible first|exact HB.out|apply Zn|apply Zm|apply Zo|refine Zr ?_ GE103001.out)|exact HB.out)⟩
 ·replace c3:=Bool.eq_false_iff.mpr c3
  subst c3
  have H1:(some false)=some r:=by rw[if_neg (show ¬(false=true) by decide)] at H;exact H
  clear H
  have H:=H1
  clear H1
  obtain rfl:=Zg H
  go_enter Tryd.func103,Tryd.ntmps103
  go_wp2_with (first|((with_reducible refine ZN (N:=1) rfl ?_);refine ZP ?hg (N:=1) ?hd (cs:=#[.string a0_0,.slice A0_1 l0_1.length c0_1,.int .i64 a0_2]) (t:=73) ?hr ?_;(case hd=>rfl);(case hg=>rfl);(case hr=>first|(go_simp;done)|(go_simp;rfl));intro gb103001 hg w11 hbox hb;have BK103001:=Za (hbox);have GW103001:=Za ((by rw[hg];exact(Zy (by repeat(first|(with_reducible first|exact HB.out|apply Zn|apply Zm|apply Zo)|exact HB.out))):w.heap.size≤gb103001));have GE103001:=Za ((by rw[hg];exact(Zy (by repeat(first|(with_reducible first|exact HB.out|apply Zn|apply Zm|apply Zo)|exact HB.out))):w.heap.size≤gb103001));replace HB:=Za (Zx (by repeat(first|(with_reducible first|exact HB.out|apply Zn|apply Zm|apply Zo)|exact HB.out)) hb);clear hb hbox hg;have hcz12_0:w11.cell? ⟨gb103001,0,none⟩=some (.string a0_0):=(Zq BK103001.out 0).trans rfl;have hcz12_1:w11.cell? ⟨gb103001,1,none⟩=some (.slice A0_1 l0_1.length c0_1):=(Zq BK103001.out 1).trans rfl;have hcz12_2:w11.cell? ⟨gb103001,2,none⟩=some (.int .i64 a0_2):=(Zq BK103001.out 2).trans rfl;have hfz12_0:=Zt BK103001.out 0;have hfz12_1:=Zt BK103001.out 1;have hfz12_2:=Zt BK103001.out 2)|((with_reducible refine ZG (f:=132) rfl ?_);refine ZX (some 5) rfl rfl Tryd.func132 (by kernel_rfl) rfl #[.string a0_0] rfl (by(try simp only[List.map_toArray,List.map_cons,List.map_nil]);first|done|rfl|(simp only[Zk,Zj];rfl)) ?_;(with_reducible refine(Zav.calls k a0_0 false _ A2.out).mono ?_);rintro e w' ⟨rfl,⟨nd,rfl⟩⟩;refine⟨_,rfl,?_⟩))
  go_ret
  exact⟨by first|rfl|(simp[ZA,Zz] <;> rfl)|(simp[*,ZA,Zz] <;> rfl),by repeat(first|(with_reducible first|exact HB.out|apply Zn|apply Zm|apply Zo|refine Zr ?_ GE103001.out)|exact HB.out)⟩
def ZbH.f (k:Nat) (a0_0:ByteArray) (l0_1:List Int) (a0_2:Int):Option (Bool):=(Zam.f k a0_0).bind fun t110002=>(if t110002=true then((Z1.f k l0_1).bind fun t110003=>(if t110003=true then(if a0_2≥0 then(some (decide (a0_2≤3))) else(some false)) else(some false))) else(some false))
set_option maxHeartbeats 8000000 in
set_option maxRecDepth 100000 in
theorem ZbH.calls (k:Nat) (a0_0:ByteArray) (A0_1:Option Addr) (c0_1:Nat) (l0_1:List Int) (a0_2:Int) (r:Bool) (w:World) (hr0_1:Kd.C (Kd.int .i64) w A0_1 l0_1.length l0_1) (hc0_1:l0_1.length≤c0_1) (h:ZbH.f k a0_0 l0_1 a0_2=some r) :
  Calls Tryd.prog 110 #[.agg #[.string a0_0,.slice A0_1 l0_1.length c0_1,.int .i64 a0_2]] w fun e w'=>e=.returned (.bool r)∧Below w.heap.size w w':=by
 have hu73:=Tryd.underlying73
 have HR0_1:=Za hr0_1;have HC0_1:=Za hc0_1;clear hr0_1 hc0_1
 have HB:=Za (Below.refl w.heap.size w)
 have H:((Zam.f k a0_0).bind fun t110002=>(if t110002=true then((Z1.f k l0_1).bind fun t110003=>(if t110003=true then(if a0_2≥0 then(some (decide (a0_2≤3))) else(some false)) else(some false))) else(some false)))=some r:=h
 clear h
 replace H:=Zh H
 obtain⟨t110002,A20,H⟩:=H
 replace H:(if t110002=true then((Z1.f k l0_1).bind fun t110003=>(if t110003=true then(if a0_2≥0 then(some (decide (a0_2≤3))) else(some false)) else(some false))) else(some false))=some r:=H
 have A2:=Za A20;clear A20
 by_cases c3:t110002=true
 ·subst c3
  have H1:((Z1.f k l0_1).bind fun t110003=>(if t110003=true then(if a0_2≥0 then(some (decide (a0_2≤3))) else(some false)) else(some false)))=some r:=by rw[if_pos rfl] at H;exact H
  clear H
  have H:=H1
  clear H1
  replace H:=Zh H
  obtain⟨t110003,A40,H⟩:=H
  replace H:(if t110003=true then(if a0_2≥0 then(some (decide (a0_2≤3))) else(some false)) else(some false))=some r:=H
  have A4:=Za A40;clear A40
  by_cases c5:t110003=true
  ·subst c5
   have H1:(if a0_2≥0 then(some (decide (a0_2≤3))) else(some false))=some r:=by rw[if_pos rfl] at H;exact H
   clear H
   have H:=H1
   clear H1
   by_cases c6:a0_2≥0
   ·rw[if_pos c6] at H
    have c6b0:decide (0≤a0_2)=true:=Ze c6
    clear c6
    obtain rfl:=Zg H
    go_enter Tryd.func110,Tryd.ntmps110
    go_wp2_with (first|((with_reducible refine ZN (N:=1) rfl ?_);refine ZP ?hg (N:=1) ?hd (cs:=#[.string a0_0,.slice A0_1 l0_1.length c0_1,.int .i64 a0_2]) (t:=73) ?hr ?_;(case hd=>rfl);(case hg=>rfl);(case hr=>first|(go_simp;done)|(go_simp;rfl));intro gb110001 hg w7 hbox hb;have BK110001:=Za (hbox);have GW110001:=Za ((by rw[hg];exact(Zy (by repeat(first|(with_reducible first|exact HB.out|apply Zn|apply Zm|apply Zo)|exact HB.out))):w.heap.size≤gb110001));have GE110001:=Za ((by rw[hg];exact(Zy (by repeat(first|(with_reducible first|exact HB.out|apply Zn|apply Zm|apply Zo)|exact HB.out))):w.heap.size≤gb110001));replace HB:=Za (Zx (by repeat(first|(with_reducible first|exact HB.out|apply Zn|apply Zm|apply Zo)|exact HB.out)) hb);clear hb hbox hg;have hcz8_0:w7.cell? ⟨gb110001,0,none⟩=some (.string a0_0):=(Zq BK110001.out 0).trans rfl;have hcz8_1:w7.cell? ⟨gb110001,1,none⟩=some (.slice A0_1 l0_1.length c0_1):=(Zq BK110001.out 1).trans rfl;have hcz8_2:w7.cell? ⟨gb110001,2,none⟩=some (.int .i64 a0_2):=(Zq BK110001.out 2).trans rfl;have hfz8_0:=Zt BK110001.out 0;have hfz8_1:=Zt BK110001.out 1;have hfz8_2:=Zt BK110001.out 2)|((with_reducible refine ZG (f:=133) rfl ?_);refine ZX (some 5) rfl rfl Tryd.func133 (by kernel_rfl) rfl #[.string a0_0] rfl (by(try simp only[List.map_toArray,List.map_cons,List.map_nil]);first|done|rfl|(simp only[Zk,Zj];rfl)) ?_;(with_reducible refine(Zam.calls k a0_0 true _ A2.out).mono ?_);rintro e w' ⟨rfl,⟨nd,rfl⟩⟩;refine⟨_,rfl,?_⟩)|(go_at_call 27;(with_reducible refine(Z1.calls k _ _ l0_1 true _ ?side1 ?side2 A4.out).mono ?_);(case side1=>repeat(first|exact(Zb HR0_1.out (by repeat(first|(with_reducible first|exact HB.out|apply Zn|apply Zm|apply Zo|refine Zr ?_ GE110001.out)|exact HB.out)))|(with_reducible refine Kd.C_alloc ?_ _)|(with_reducible refine Kd.C_drewN ?_ _)|(with_reducible refine Kd.C_drew ?_)));(case side2=>exact HC0_1.out);rintro e w9 ⟨rfl,hb⟩;replace BK110001:=Za (ZB (g:=gb110001) (o:=.cells #[.string a0_0,.slice A0_1 l0_1.length c0_1,.int .i64 a0_2] 73 (0,0)) (by(with_reducible repeat(first|refine Zu ?_ _|refine Zv ?_|refine Zs ?_ _));exact BK110001.out) hb);replace HB:=Za (Zx (by repeat(first|(with_reducible first|exact HB.out|apply Zn|apply Zm|apply Zo|refine Zr ?_ GE110001.out)|exact HB.out)) hb);(try clear hb);(try clear hb2);(try clear hk);(try clear hi);have hcz10_0:w9.cell? ⟨gb110001,0,none⟩=some (.string a0_0):=(Zq BK110001.out 0).trans rfl;have hcz10_1:w9.cell? ⟨gb110001,1,none⟩=some (.slice A0_1 l0_1.length c0_1):=(Zq BK110001.out 1).trans rfl;have hcz10_2:w9.cell? ⟨gb110001,2,none⟩=some (.int .i64 a0_2):=(Zq BK110001.out 2).trans rfl;have hfz10_0:=Zt BK110001.out 0;have hfz10_1:=Zt BK110001.out 1;have hfz10_2:=Zt BK110001.out 2))
    go_ret
    exact⟨by first|rfl|(simp[ZA,Zz] <;> rfl)|(simp[*,ZA,Zz] <;> rfl),by repeat(first|(with_reducible first|exact HB.out|apply Zn|apply Zm|apply Zo|refine Zr ?_ GE110001.out)|exact HB.out)⟩
   ·rw[if_neg c6] at H
    have c6b0:decide (0≤a0_2)=false:=Zf c6
    clear c6
    obtain rfl:=Zg H
    go_enter Tryd.func110,Tryd.ntmps110
    go_wp2_with (first|((with_reducible refine ZN (N:=1) rfl ?_);refine ZP ?hg (N:=1) ?hd (cs:=#[.string a0_0,.slice A0_1 l0_1.length c0_1,.int .i64 a0_2]) (t:=73) ?hr ?_;(case hd=>rfl);(case hg=>rfl);(case hr=>first|(go_simp;done)|(go_simp;rfl));intro gb110001 hg w11 hbox hb;have BK110001:=Za (hbox);have GW110001:=Za ((by rw[hg];exact(Zy (by repeat(first|(with_reducible first|exact HB.out|apply Zn|apply Zm|apply Zo)|exact HB.out))):w.heap.size≤gb110001));have GE110001:=Za ((by rw[hg];exact(Zy (by repeat(first|(with_reducible first|exact HB.out|apply Zn|apply Zm|apply Zo)|exact HB.out))):w.heap.size≤gb110001));replace HB:=Za (Zx (by repeat(first|(with_reducible first|exact HB.out|apply Zn|apply Zm|apply Zo)|exact HB.out)) hb);clear hb hbox hg;have hcz12_0:w11.cell? ⟨gb110001,0,none⟩=some (.string a0_0):=(Zq BK110001.out 0).trans rfl;have hcz12_1:w11.cell? ⟨gb110001,1,none⟩=some (.slice A0_1 l0_1.length c0_1):=(Zq BK110001.out 1).trans rfl;have hcz12_2:w11.cell? ⟨gb110001,2,none⟩=some (.int .i64 a0_2):=(Zq BK110001.out 2).trans rfl;have hfz12_0:=Zt BK110001.out 0;have hfz12_1:=Zt BK110001.out 1;have hfz12_2:=Zt BK110001.out 2)|((with_reducible refine ZG (f:=133) rfl ?_);refine ZX (some 5) rfl rfl Tryd.func133 (by kernel_rfl) rfl #[.string a0_0] rfl (by(try simp only[List.map_toArray,List.map_cons,List.map_nil]);first|done|rfl|(simp only[Zk,Zj];rfl)) ?_;(with_reducible refine(Zam.calls k a0_0 true _ A2.out).mono ?_);rintro e w' ⟨rfl,⟨nd,rfl⟩⟩;refine⟨_,rfl,?_⟩)|(go_at_call 27;(with_reducible refine(Z1.calls k _ _ l0_1 true _ ?side1 ?side2 A4.out).mono ?_);(case side1=>repeat(first|exact(Zb HR0_1.out (by repeat(first|(with_reducible first|exact HB.out|apply Zn|apply Zm|apply Zo|refine Zr ?_ GE110001.out)|exact HB.out)))|(with_reducible refine Kd.C_alloc ?_ _)|(with_reducible refine Kd.C_drewN ?_ _)|(with_reducible refine Kd.C_drew ?_)));(case side2=>exact HC0_1.out);rintro e w13 ⟨rfl,hb⟩;replace BK110001:=Za (ZB (g:=gb110001) (o:=.cells #[.string a0_0,.slice A0_1 l0_1.length c0_1,.int .i64 a0_2] 73 (0,0)) (by(with_reducible repeat(first|refine Zu ?_ _|refine Zv ?_|refine Zs ?_ _));exact BK110001.out) hb);replace HB:=Za (Zx (by repeat(first|(with_reducible first|exact HB.out|apply Zn|apply Zm|apply Zo|refine Zr ?_ GE110001.out)|exact HB.out)) hb);(try clear hb);(try clear hb2);(try clear hk);(try clear hi);have hcz14_0:w13.cell? ⟨gb110001,0,none⟩=some (.string a0_0):=(Zq BK110001.out 0).trans rfl;have hcz14_1:w13.cell? ⟨gb110001,1,none⟩=some (.slice A0_1 l0_1.length c0_1):=(Zq BK110001.out 1).trans rfl;have hcz14_2:w13.cell? ⟨gb110001,2,none⟩=some (.int .i64 a0_2):=(Zq BK110001.out 2).trans rfl;have hfz14_0:=Zt BK110001.out 0;have hfz14_1:=Zt BK110001.out 1;have hfz14_2:=Zt BK110001.out 2))
    go_ret
    exact⟨by first|rfl|(simp[ZA,Zz] <;> rfl)|(simp[*,ZA,Zz] <;> rfl),by repeat(first|(with_reducible first|exact HB.out|apply Zn|apply Zm|apply Zo|refine Zr ?_ GE110001.out)|exact HB.out)⟩
  ·replace c5:=Bool.eq_false_iff.mpr c5
   subst c5
   have H1:(some false)=some r:=by rw[if_neg (show ¬(false=true) by decide)] at H;exact H
   clear H
   have H:=H1
   clear H1
   obtain rfl:=Zg H
   go_enter Tryd.func110,Tryd.ntmps110
   go_wp2_with (first|((with_reducible refine ZN (N:=1) rfl ?_);refine ZP ?hg (N:=1) ?hd (cs:=#[.string a0_0,.slice A0_1 l0_1.length c0_1,.int .i64 a0_2]) (t:=73) ?hr ?_;(case hd=>rfl);(case hg=>rfl);(case hr=>first|(go_simp;done)|(go_simp;rfl));intro gb110001 hg w15 hbox hb;have BK110001:=Za (hbox);have GW110001:=Za ((by rw[hg];exact(Zy (by repeat(first|(with_reducible first|exact HB.out|apply Zn|apply Zm|apply Zo)|exact HB.out))):w.heap.size≤gb110001));have GE110001:=Za ((by rw[hg];exact(Zy (by repeat(first|(with_reducible first|exact HB.out|apply Zn|apply Zm|apply Zo)|exact HB.out))):w.heap.size≤gb110001));replace HB:=Za (Zx (by repeat(first|(with_reducible first|exact HB.out|apply Zn|apply Zm|apply Zo)|exact HB.out)) hb);clear hb hbox hg;have hcz16_0:w15.cell? ⟨gb110001,0,none⟩=some (.string a0_0):=(Zq BK110001.out 0).trans rfl;have hcz16_1:w15.cell? ⟨gb110001,1,none⟩=some (.slice A0_1 l0_1.length c0_1):=(Zq BK110001.out 1).trans rfl;have hcz16_2:w15.cell? ⟨gb110001,2,none⟩=some (.int .i64 a0_2):=(Zq BK110001.out 2).trans rfl;have hfz16_0:=Zt BK110001.out 0;have hfz16_1:=Zt BK110001.out 1;have hfz16_2:=Zt BK110001.out 2)|((with_reducible refine ZG (f:=133) rfl ?_);refine ZX (some 5) rfl rfl Tryd.func133 (by kernel_rfl) rfl #[.string a0_0] rfl (by(try simp only[List.map_toArray,List.map_cons,List.map_nil]);first|done|rfl|(simp only[Zk,Zj];rfl)) ?_;(with_reducible refine(Zam.calls k a0_0 true _ A2.out).mono ?_);rintro e w' ⟨rfl,⟨nd,rfl⟩⟩;refine⟨_,rfl,?_⟩)|(go_at_call 27;(with_reducible refine(Z1.calls k _ _ l0_1 false _ ?side1 ?side2 A4.out).mono ?_);(case side1=>repeat(first|exact(Zb HR0_1.out (by repeat(first|(with_reducible first|exact HB.out|apply Zn|apply Zm|apply Zo|refine Zr ?_ GE110001.out)|exact HB.out)))|(with_reducible refine Kd.C_alloc ?_ _)|(with_reducible refine Kd.C_drewN ?_ _)|(with_reducible refine Kd.C_drew ?_)));(case side2=>exact HC0_1.out);rintro e w17 ⟨rfl,hb⟩;replace BK110001:=Za (ZB (g:=gb110001) (o:=.cells #[.string a0_0,.slice A0_1 l0_1.length c0_1,.int .i64 a0_2] 73 (0,0)) (by(with_reducible repeat(first|refine Zu ?_ _|refine Zv ?_|refine Zs ?_ _));exact BK110001.out) hb);replace HB:=Za (Zx (by repeat(first|(with_reducible first|exact HB.out|apply Zn|apply Zm|apply Zo|refine Zr ?_ GE110001.out)|exact HB.out)) hb);(try clear hb);(try clear hb2);(try clear hk);(try clear hi)))
   go_ret
   exact⟨by first|rfl|(simp[ZA,Zz] <;> rfl)|(simp[*,ZA,Zz] <;> rfl),by repeat(first|(with_reducible first|exact HB.out|apply Zn|apply Zm|apply Zo|refine Zr ?_ GE110001.out)|exact HB.out)⟩
 ·replace c3:=Bool.eq_false_iff.mpr c3
  subst c3
  have H1:(some false)=some r:=by rw[if_neg (show ¬(false=true) by decide)] at H;exact H
  clear H
  have H:=H1
  clear H1
  obtain rfl:=Zg H
  go_enter Tryd.func110,Tryd.ntmps110
  go_wp2_with (first|((with_reducible refine ZN (N:=1) rfl ?_);refine ZP ?hg (N:=1) ?hd (cs:=#[.string a0_0,.slice A0_1 l0_1.length c0_1,.int .i64 a0_2]) (t:=73) ?hr ?_;(case hd=>rfl);(case hg=>rfl);(case hr=>first|(go_simp;done)|(go_simp;rfl));intro gb110001 hg w18 hbox hb;have BK110001:=Za (hbox);have GW110001:=Za ((by rw[hg];exact(Zy (by repeat(first|(with_reducible first|exact HB.out|apply Zn|apply Zm|apply Zo)|exact HB.out))):w.heap.size≤gb110001));have GE110001:=Za ((by rw[hg];exact(Zy (by repeat(first|(with_reducible first|exact HB.out|apply Zn|apply Zm|apply Zo)|exact HB.out))):w.heap.size≤gb110001));replace HB:=Za (Zx (by repeat(first|(with_reducible first|exact HB.out|apply Zn|apply Zm|apply Zo)|exact HB.out)) hb);clear hb hbox hg;have hcz19_0:w18.cell? ⟨gb110001,0,none⟩=some (.string a0_0):=(Zq BK110001.out 0).trans rfl;have hcz19_1:w18.cell? ⟨gb110001,1,none⟩=some (.slice A0_1 l0_1.length c0_1):=(Zq BK110001.out 1).trans rfl;have hcz19_2:w18.cell? ⟨gb110001,2,none⟩=some (.int .i64 a0_2):=(Zq BK110001.out 2).trans rfl;have hfz19_0:=Zt BK110001.out 0;have hfz19_1:=Zt BK110001.out 1;have hfz19_2:=Zt BK110001.out 2)|((with_reducible refine ZG (f:=133) rfl ?_);refine ZX (some 5) rfl rfl Tryd.func133 (by kernel_rfl) rfl #[.string a0_0] rfl (by(try simp only[List.map_toArray,List.map_cons,List.map_nil]);first|done|rfl|(simp only[Zk,Zj];rfl)) ?_;(with_reducible refine(Zam.calls k a0_0 false _ A2.out).mono ?_);rintro e w' ⟨rfl,⟨nd,rfl⟩⟩;refine⟨_,rfl,?_⟩))
  go_ret
  exact⟨by first|rfl|(simp[ZA,Zz] <;> rfl)|(simp[*,ZA,Zz] <;> rfl),by repeat(first|(with_reducible first|exact HB.out|apply Zn|apply Zm|apply Zo|refine Zr ?_ GE110001.out)|exact HB.out)⟩
end Go.Proofs.YthphnhmabieflaaDoor.Pr
namespace Go.Proofs.YthphnhmabieflaaDoor.Pr
open Go.RowKit Go.Proofs.YthphnhmabieflaaDoorW.PrintWords Go.Proofs.YthphnhmabieflaaDoor.Ni
def Zb7 (s:ByteArray) (l:List Int) (n:Int):Bool:=nameB s && labB l && (decide (0≤n) && decide (n≤3))
theorem ZeK (s:ByteArray) (l:List Int) (n:Int) (hs:s.size≤9223372036854775807) (hl:l.length≤9223372036854775807) (k:Nat) (hk:2 ^ 64≤k):Zb5.f k s l n=some (Zb7 s l n):=by
 unfold Zb5.f Zb7 Z5.f
 rw[ZeL s hs k hk,Zi,Zb0 l hl k hk]
 cases nameB s
 ·rfl
 ·rw[if_pos rfl,Zi]
  cases labB l
  ·rfl
  ·rw[if_pos rfl]
   by_cases h:n≥0
   ·rw[if_pos h,Ze (show(0:Int)≤n from h)];rfl
   ·rw[if_neg h,Zf (show ¬(0:Int)≤n from h)];rfl
theorem ZeP (s:ByteArray) (l:List Int) (n:Int) (hs:s.size≤9223372036854775807) (hl:l.length≤9223372036854775807) (k:Nat) (hk:2 ^ 64≤k):ZbH.f k s l n=some (Zb7 s l n):=by
 unfold ZbH.f Zb7
 rw[ZeQ s hs k hk,Zi,Zb3 l hl k hk]
 cases nameB s
 ·rfl
 ·rw[if_pos rfl,Zi]
  cases labB l
  ·rfl
  ·rw[if_pos rfl]
   by_cases h:n≥0
   ·rw[if_pos h,Ze (show(0:Int)≤n from h)];rfl
   ·rw[if_neg h,Zf (show ¬(0:Int)≤n from h)];rfl
end Go.Proofs.YthphnhmabieflaaDoor.Pr
namespace Go.Proofs.YthphnhmabieflaaDoor.Pr
open Go.RowKit Go.Proofs.YthphnhmabieflaaDoorW.PrintWords Go.Proofs.YthphnhmabieflaaDoorW.PrintLast Go.Proofs.YthphnhmabieflaaDoorW.PrintMore
attribute [local go_sem] Zah Zaf Zas Zar Z8 Z7 Zag Zae
set_option linter.unusedVariables false
set_option linter.unusedSimpArgs false
mutual
def ZQ.j0:Nat→Bool→List (S73)→List (S66)→Int→Option (Bool)
 | 0,_,_,_,_=>none
 | k+1,x33,x80002000,x80002001,x80002002=>if x33=true then(some false) else(ZQ.l0 k x80002000 (x80002000.length:Int) 0 x80002000 x80002001 x80002002)
def ZQ.l0:Nat→List (S73)→Int→Int→List (S73)→List (S66)→Int→Option (Bool)
 | 0,_,_,_,_,_,_=>none
 | k+1,x35,x36,x37,x80002000,x80002001,x80002002=>if x37<x36 then(if 0≤x37 then(if x37<(x35.length:Int) then((ZbH.f k ((Zp x35 x37).f0) ((Zp x35 x37).f1) ((Zp x35 x37).f2)).bind fun t80006=>(if t80006=true then(if x37≤(x80002000.length:Int) then((some (x80002000.take (x37:Int).toNat:List (S73))).bind fun y80007=>(ZQ.l1 k x35 x36 x37 y80007 (y80007.length:Int) 0 x80002000 x80002001 x80002002 ((Zp x35 x37).f0) ((Zp x35 x37).f1) ((Zp x35 x37).f2))) else(none)) else(some false))) else(none)) else(none)) else(some true)
def ZQ.l1:Nat→List (S73)→Int→Int→List (S73)→Int→Int→List (S73)→List (S66)→Int→ByteArray→List Int→Int→Option (Bool)
 | 0,_,_,_,_,_,_,_,_,_,_,_,_=>none
 | k+1,x35,x36,x37,x48,x49,x50,x80002000,x80002001,x80002002,x80006000,x80006001,x80006002=>if x50<x49 then(if 0≤x50 then(if x50<(x48.length:Int) then(if ((Zp x48 x50).f0).toList=x80006000.toList then(some false) else(if x80006002=0 then(ZQ.l1 k x35 x36 x37 x48 x49 (wrap64 (x50+1)) x80002000 x80002001 x80002002 x80006000 x80006001 x80006002) else(if ((Zp x48 x50).f2)=x80006002 then(some false) else(ZQ.l1 k x35 x36 x37 x48 x49 (wrap64 (x50+1)) x80002000 x80002001 x80002002 x80006000 x80006001 x80006002)))) else(none)) else(none)) else(ZQ.l0 k x35 x36 (wrap64 (x37+1)) x80002000 x80002001 x80002002)
end
def ZQ.f (k:Nat) (l0_0:List (S73)) (l0_1:List (S66)) (a0_2:Int):Option (Bool):=if (l0_0.length:Int)<1 then(ZQ.j0 k true l0_0 l0_1 a0_2) else(if (l0_0.length:Int) > 7 then(ZQ.j0 k true l0_0 l0_1 a0_2) else(if 0<(l0_0.length:Int) then(if (((Zp l0_0 0).f1).length:Int) > 0 then(ZQ.j0 k true l0_0 l0_1 a0_2) else(ZQ.j0 k (((Zp l0_0 0).f2) != 0) l0_0 l0_1 a0_2)) else(none)))
set_option maxHeartbeats 8000000 in
set_option maxRecDepth 100000 in
theorem ZQ.calls (k:Nat) (A0_0:Option Addr) (c0_0:Nat) (l0_0:List (S73)) (A0_1:Option Addr) (c0_1:Nat) (l0_1:List (S66)) (a0_2:Int) (r:Bool) (w:World) (hr0_0:Kd.C k73 w A0_0 l0_0.length l0_0) (hc0_0:l0_0.length≤c0_0) (hr0_1:Kd.C k66 w A0_1 l0_1.length l0_1) (hc0_1:l0_1.length≤c0_1) (h:ZQ.f k l0_0 l0_1 a0_2=some r) :
  Calls Tryd.prog 80 #[.agg #[.slice A0_0 l0_0.length c0_0,.slice A0_1 l0_1.length c0_1,.int .i64 a0_2]] w fun e w'=>e=.returned (.bool r)∧Below w.heap.size w w':=by
 have hu36:=Tryd.underlying36
 have hu73:=Tryd.underlying73
 have HR0_0:=Za hr0_0;have HC0_0:=Za hc0_0;clear hr0_0 hc0_0;have HR0_1:=Za hr0_1;have HC0_1:=Za hc0_1;clear hr0_1 hc0_1
 have HB:=Za (Below.refl w.heap.size w)
 have H:(if (l0_0.length:Int)<1 then(ZQ.j0 k true l0_0 l0_1 a0_2) else(if (l0_0.length:Int) > 7 then(ZQ.j0 k true l0_0 l0_1 a0_2) else(if 0<(l0_0.length:Int) then(if (((Zp l0_0 0).f1).length:Int) > 0 then(ZQ.j0 k true l0_0 l0_1 a0_2) else(ZQ.j0 k (((Zp l0_0 0).f2) != 0) l0_0 l0_1 a0_2)) else(none))))=some r:=h
 clear h;have HC2:=Za H;clear H
 go_enter Tryd.func80,Tryd.ntmps80
 go_upto_region 1 with (first|((with_reducible refine ZN (N:=1) rfl ?_);(try(refine ZaP (by rfl) ?_;dsimp only));refine ZP ?hg (N:=1) ?hd (cs:=#[.slice A0_0 l0_0.length c0_0,.slice A0_1 l0_1.length c0_1,.int .i64 a0_2]) (t:=36) ?hr ?_;(case hd=>rfl);(case hg=>rfl);(case hr=>first|(go_simp;done)|(go_simp;rfl));intro gb80001 hg w3 hbox hb;have BK80001:=Za (hbox);have GW80001:=Za ((by rw[hg];exact(Zy (by repeat(first|(with_reducible first|exact HB.out|apply Zn|apply Zm|apply Zo)|exact HB.out))):w.heap.size≤gb80001));have GE80001:=Za ((by rw[hg];exact(Zy (by repeat(first|(with_reducible first|exact HB.out|apply Zn|apply Zm|apply Zo)|exact HB.out))):w.heap.size≤gb80001));replace HB:=Za (Zx (by repeat(first|(with_reducible first|exact HB.out|apply Zn|apply Zm|apply Zo)|exact HB.out)) hb);clear hb hbox hg))
 (try simp only[Act.put,List.setIfInBounds_toArray,List.set_cons_zero,List.set_cons_succ])
 go_cut [33] (fun v33 wc=>∃(kq:Nat) (x33_1:Bool),v33=.bool x33_1∧Aside0 (ZQ.j0 kq x33_1 l0_0 l0_1 a0_2=some r)∧Aside0 (kq≤k)∧Aside0 (wc.heap[gb80001]? = some (.cells #[(.slice A0_0 l0_0.length c0_0),(.slice A0_1 l0_1.length c0_1),.int .i64 a0_2] 36 (0,0)))∧Aside0 (Below w.heap.size w wc))
 case first=>
  have H:=HC2.out
  clear HC2
  by_cases c4:(l0_0.length:Int)<1
  ·rw[if_pos c4] at H
   have c4b0:decide ((l0_0.length:Int)<1)=true:=Ze c4
   have c4b1:decide (l0_0.length<1)=true:=Ze (by omega)
   clear c4
   (first|rw[c4b0]|(simp only[ZC,ZD];rw[c4b0])|skip)
   have H':=Za H
   clear H
   have hcz5_0:w3.cell? ⟨gb80001,0,none⟩=some (.slice A0_0 l0_0.length c0_0):=(Zq BK80001.out 0).trans rfl
   have hcz5_1:w3.cell? ⟨gb80001,1,none⟩=some (.slice A0_1 l0_1.length c0_1):=(Zq BK80001.out 1).trans rfl
   have hcz5_2:w3.cell? ⟨gb80001,2,none⟩=some (.int .i64 a0_2):=(Zq BK80001.out 2).trans rfl
   have hfz5_0:=Zt BK80001.out 0
   have hfz5_1:=Zt BK80001.out 1
   have hfz5_2:=Zt BK80001.out 2
   go_wp2
   go_meet
   case rel=>exact⟨_,(true),(by first|rfl|(simp;done)|(simp[*];done)),H',⟨by first|omega|exact Nat.le_refl _⟩,⟨by(with_reducible repeat(first|refine Zu ?_ _|refine Zv ?_|refine Zs ?_ _));exact BK80001.out⟩,⟨by repeat(first|(with_reducible first|exact HB.out|apply Zn|apply Zm|apply Zo|refine Zr ?_ GE80001.out)|exact HB.out)⟩⟩
  ·rw[if_neg c4] at H
   have c4b0:decide ((l0_0.length:Int)<1)=false:=Zf c4
   have c4b1:decide (l0_0.length<1)=false:=Zf (by omega)
   clear c4
   (first|rw[c4b0]|(simp only[ZC,ZD];rw[c4b0])|skip)
   by_cases c6:(l0_0.length:Int) > 7
   ·rw[if_pos c6] at H
    have c6b0:decide (7<(l0_0.length:Int))=true:=Ze c6
    have c6b1:decide (7<l0_0.length)=true:=Ze (by omega)
    clear c6
    have H':=Za H
    clear H
    have hcz7_0:w3.cell? ⟨gb80001,0,none⟩=some (.slice A0_0 l0_0.length c0_0):=(Zq BK80001.out 0).trans rfl
    have hcz7_1:w3.cell? ⟨gb80001,1,none⟩=some (.slice A0_1 l0_1.length c0_1):=(Zq BK80001.out 1).trans rfl
    have hcz7_2:w3.cell? ⟨gb80001,2,none⟩=some (.int .i64 a0_2):=(Zq BK80001.out 2).trans rfl
    have hfz7_0:=Zt BK80001.out 0
    have hfz7_1:=Zt BK80001.out 1
    have hfz7_2:=Zt BK80001.out 2
    go_wp2
    go_meet
    case rel=>exact⟨_,(true),(by first|rfl|(simp;done)|(simp[*];done)),H',⟨by first|omega|exact Nat.le_refl _⟩,⟨by(with_reducible repeat(first|refine Zu ?_ _|refine Zv ?_|refine Zs ?_ _));exact BK80001.out⟩,⟨by repeat(first|(with_reducible first|exact HB.out|apply Zn|apply Zm|apply Zo|refine Zr ?_ GE80001.out)|exact HB.out)⟩⟩
   ·rw[if_neg c6] at H
    have c6b0:decide (7<(l0_0.length:Int))=false:=Zf c6
    have c6b1:decide (7<l0_0.length)=false:=Zf (by omega)
    clear c6
    by_cases c8:0<(l0_0.length:Int)
    ·rw[if_pos c8] at H
     have c8b0:decide (0<(l0_0.length:Int))=true:=Ze c8
     have c8b1:decide (0<l0_0.length)=true:=Ze (by omega)
     clear c8
     by_cases c9:(((Zp l0_0 0).f1).length:Int) > 0
     ·rw[if_pos c9] at H
      have c9b0:decide (0<(((Zp l0_0 0).f1).length:Int))=true:=Ze c9
      have c9b1:decide (0<((Zp l0_0 0).f1).length)=true:=Ze (by omega)
      clear c9
      have H':=Za H
      clear H
      have hcz10_0:w3.cell? ⟨gb80001,0,none⟩=some (.slice A0_0 l0_0.length c0_0):=(Zq BK80001.out 0).trans rfl
      have hcz10_1:w3.cell? ⟨gb80001,1,none⟩=some (.slice A0_1 l0_1.length c0_1):=(Zq BK80001.out 1).trans rfl
      have hcz10_2:w3.cell? ⟨gb80001,2,none⟩=some (.int .i64 a0_2):=(Zq BK80001.out 2).trans rfl
      have hfz10_0:=Zt BK80001.out 0
      have hfz10_1:=Zt BK80001.out 1
      have hfz10_2:=Zt BK80001.out 2
      have p80002:0≤(0:Int):=(by omega)
      have q80002:0<(l0_0.length:Int):=Zd (by first|(with_reducible assumption)|assumption)
      obtain⟨ad80002,A80002_1,c80002_1,e80002,hx80002_0,hx80002_1,hx80002_2,hl80002_1,hi80002_1⟩:=Zan HR0_0.out 0 p80002 q80002
      cases e80002
      have qi80002:(0<l0_0.length)=True:=eq_true (by omega)
      (try rw[show((0:Int)).toNat=0 from rfl] at hx80002_0)
      (try rw[show 0 * 3=0 from rfl] at hx80002_0)
      (try rw[Addr.add_zero'] at hx80002_0)
      (try rw[show((0:Int)).toNat=0 from rfl] at hx80002_1)
      (try rw[show 0 * 3=0 from rfl] at hx80002_1)
      (try rw[Addr.add_zero'] at hx80002_1)
      (try rw[show((0:Int)).toNat=0 from rfl] at hx80002_2)
      (try rw[show 0 * 3=0 from rfl] at hx80002_2)
      (try rw[Addr.add_zero'] at hx80002_2)
      replace hx80002_0:=(HB.out.cell (Zc w _ hx80002_0)).trans hx80002_0
      replace hx80002_1:=(HB.out.cell (Zc w _ hx80002_1)).trans hx80002_1
      replace hx80002_2:=(HB.out.cell (Zc w _ hx80002_2)).trans hx80002_2
      have HR80002_1:=Za hi80002_1;have HC80002_1:=Za hl80002_1;clear hi80002_1 hl80002_1
      replace p80002:=eq_true p80002
      replace q80002:=eq_true q80002
      go_wp2
      go_meet
      case rel=>exact⟨_,(true),(by first|rfl|(simp;done)|(simp[*];done)),H',⟨by first|omega|exact Nat.le_refl _⟩,⟨by(with_reducible repeat(first|refine Zu ?_ _|refine Zv ?_|refine Zs ?_ _));exact BK80001.out⟩,⟨by repeat(first|(with_reducible first|exact HB.out|apply Zn|apply Zm|apply Zo|refine Zr ?_ GE80001.out)|exact HB.out)⟩⟩
     ·rw[if_neg c9] at H
      have c9b0:decide (0<(((Zp l0_0 0).f1).length:Int))=false:=Zf c9
      have c9b1:decide (0<((Zp l0_0 0).f1).length)=false:=Zf (by omega)
      clear c9
      have H':=Za H
      clear H
      have hcz11_0:w3.cell? ⟨gb80001,0,none⟩=some (.slice A0_0 l0_0.length c0_0):=(Zq BK80001.out 0).trans rfl
      have hcz11_1:w3.cell? ⟨gb80001,1,none⟩=some (.slice A0_1 l0_1.length c0_1):=(Zq BK80001.out 1).trans rfl
      have hcz11_2:w3.cell? ⟨gb80001,2,none⟩=some (.int .i64 a0_2):=(Zq BK80001.out 2).trans rfl
      have hfz11_0:=Zt BK80001.out 0
      have hfz11_1:=Zt BK80001.out 1
      have hfz11_2:=Zt BK80001.out 2
      have p80002:0≤(0:Int):=(by omega)
      have q80002:0<(l0_0.length:Int):=Zd (by first|(with_reducible assumption)|assumption)
      obtain⟨ad80002,A80002_1,c80002_1,e80002,hx80002_0,hx80002_1,hx80002_2,hl80002_1,hi80002_1⟩:=Zan HR0_0.out 0 p80002 q80002
      cases e80002
      have qi80002:(0<l0_0.length)=True:=eq_true (by omega)
      (try rw[show((0:Int)).toNat=0 from rfl] at hx80002_0)
      (try rw[show 0 * 3=0 from rfl] at hx80002_0)
      (try rw[Addr.add_zero'] at hx80002_0)
      (try rw[show((0:Int)).toNat=0 from rfl] at hx80002_1)
      (try rw[show 0 * 3=0 from rfl] at hx80002_1)
      (try rw[Addr.add_zero'] at hx80002_1)
      (try rw[show((0:Int)).toNat=0 from rfl] at hx80002_2)
      (try rw[show 0 * 3=0 from rfl] at hx80002_2)
      (try rw[Addr.add_zero'] at hx80002_2)
      replace hx80002_0:=(HB.out.cell (Zc w _ hx80002_0)).trans hx80002_0
      replace hx80002_1:=(HB.out.cell (Zc w _ hx80002_1)).trans hx80002_1
      replace hx80002_2:=(HB.out.cell (Zc w _ hx80002_2)).trans hx80002_2
      have HR80002_1:=Za hi80002_1;have HC80002_1:=Za hl80002_1;clear hi80002_1 hl80002_1
      replace p80002:=eq_true p80002
      replace q80002:=eq_true q80002
      have p80003:0≤(0:Int):=(by omega)
      have q80003:0<(l0_0.length:Int):=Zd (by first|(with_reducible assumption)|assumption)
      obtain⟨ad80003,A80003_1,c80003_1,e80003,hx80003_0,hx80003_1,hx80003_2,hl80003_1,hi80003_1⟩:=Zan HR0_0.out 0 p80003 q80003
      obtain rfl:ad80002=ad80003:=(by injection e80003)
      have qi80003:(0<l0_0.length)=True:=eq_true (by omega)
      (try rw[show((0:Int)).toNat=0 from rfl] at hx80003_0)
      (try rw[show 0 * 3=0 from rfl] at hx80003_0)
      (try rw[Addr.add_zero'] at hx80003_0)
      (try rw[show((0:Int)).toNat=0 from rfl] at hx80003_1)
      (try rw[show 0 * 3=0 from rfl] at hx80003_1)
      (try rw[Addr.add_zero'] at hx80003_1)
      (try rw[show((0:Int)).toNat=0 from rfl] at hx80003_2)
      (try rw[show 0 * 3=0 from rfl] at hx80003_2)
      (try rw[Addr.add_zero'] at hx80003_2)
      replace hx80003_0:=(HB.out.cell (Zc w _ hx80003_0)).trans hx80003_0
      replace hx80003_1:=(HB.out.cell (Zc w _ hx80003_1)).trans hx80003_1
      replace hx80003_2:=(HB.out.cell (Zc w _ hx80003_2)).trans hx80003_2
      have HR80003_1:=Za hi80003_1;have HC80003_1:=Za hl80003_1;clear hi80003_1 hl80003_1
      replace p80003:=eq_true p80003
      replace q80003:=eq_true q80003
      have ea_:=Zg (hx80002_1.symm.trans hx80003_1)
      injection ea_ with ea_ en_ ec_
      subst ea_;subst ec_;clear en_
      go_wp2
      go_meet
      case rel=>exact⟨_,((((Zp l0_0 0).f2) != 0)),(by first|rfl|(simp;done)|(simp[*];done)),H',⟨by first|omega|exact Nat.le_refl _⟩,⟨by(with_reducible repeat(first|refine Zu ?_ _|refine Zv ?_|refine Zs ?_ _));exact BK80001.out⟩,⟨by repeat(first|(with_reducible first|exact HB.out|apply Zn|apply Zm|apply Zo|refine Zr ?_ GE80001.out)|exact HB.out)⟩⟩
    ·rw[if_neg c8] at H
     exact absurd H (by simp)
 case rest=>
  clear HC2
  try clear p2
  try clear c4
  try clear c4b0
  try clear c4b1
  try clear c6
  try clear c6b0
  try clear c6b1
  try clear c8
  try clear c8b0
  try clear c8b1
  try clear p8
  try clear q8
  try clear hx8
  try clear qi8
  try clear c9
  try clear c9b0
  try clear c9b1
  try clear hcz10_0
  try clear hcz10_1
  try clear hcz10_2
  try clear hcz11_0
  try clear hcz11_1
  try clear hcz11_2
  try clear hcz5_0
  try clear hcz5_1
  try clear hcz5_2
  try clear hcz7_0
  try clear hcz7_1
  try clear hcz7_2
  try clear hfz10_0
  try clear hfz10_1
  try clear hfz10_2
  try clear hfz11_0
  try clear hfz11_1
  try clear hfz11_2
  try clear hfz5_0
  try clear hfz5_1
  try clear hfz5_2
  try clear hfz7_0
  try clear hfz7_1
  try clear hfz7_2
  try clear hx80002_0
  try clear hx80002_1
  try clear hx80002_2
  try clear hx80003_0
  try clear hx80003_1
  try clear hx80003_2
  try clear p80002
  try clear p80003
  try clear q80002
  try clear q80003
  obtain⟨kq,x33_1,rfl,HA,HJ1,BK80001,HB⟩:=hcut
  cases kq with
  | zero=>exact absurd HA.out (by simp[ZQ.j0])
  | succ kj1=>
   have H:=HA.out
   clear HA
   simp only[ZQ.j0] at H
   by_cases c12:x33_1=true
   ·subst c12
    have H1:(some false)=some r:=by rw[if_pos rfl] at H;exact H
    clear H
    have H:=H1
    clear H1
    obtain rfl:=Zg H
    go_wp2
    go_ret
    exact⟨by first|rfl|(simp[ZA,Zz] <;> rfl)|(simp[*,ZA,Zz] <;> rfl),by repeat(first|(with_reducible first|exact HB.out|apply Zn|apply Zm|apply Zo|refine Zr ?_ GE80001.out)|exact HB.out)⟩
   ·replace c12:=Bool.eq_false_iff.mpr c12
    subst c12
    have H1:(ZQ.l0 kj1 l0_0 (l0_0.length:Int) 0 l0_0 l0_1 a0_2)=some r:=by rw[if_neg (show ¬(false=true) by decide)] at H;exact H
    clear H
    have H:=H1
    clear H1
    have H':=Za H
    clear H
    have hcz13_0:wc.cell? ⟨gb80001,0,none⟩=some (.slice A0_0 l0_0.length c0_0):=(Zq BK80001.out 0).trans rfl
    have hcz13_1:wc.cell? ⟨gb80001,1,none⟩=some (.slice A0_1 l0_1.length c0_1):=(Zq BK80001.out 1).trans rfl
    have hcz13_2:wc.cell? ⟨gb80001,2,none⟩=some (.int .i64 a0_2):=(Zq BK80001.out 2).trans rfl
    have hfz13_0:=Zt BK80001.out 0
    have hfz13_1:=Zt BK80001.out 1
    have hfz13_2:=Zt BK80001.out 2
    go_wp2
    go_loopg [37] kj1 (fun kq v37 w'=>∃(x37_2:Int),v37=.int .i64 x37_2∧Aside0 (ZQ.l0 kq l0_0 (l0_0.length:Int) x37_2 l0_0 l0_1 a0_2=some r)∧Aside0 (kq≤kj1)∧Aside0 (w'.heap[gb80001]? = some (.cells #[(.slice A0_0 l0_0.length c0_0),(.slice A0_1 l0_1.length c0_1),.int .i64 a0_2] 36 (0,0)))∧Aside0 (Below w.heap.size w w'))
    case atStart=>exact⟨(0),(by first|rfl|(simp;done)|(simp[*];done)),H',⟨Nat.le_refl _⟩,⟨by(with_reducible repeat(first|refine Zu ?_ _|refine Zv ?_|refine Zs ?_ _));exact BK80001.out⟩,⟨by repeat(first|(with_reducible first|exact HB.out|apply Zn|apply Zm|apply Zo|refine Zr ?_ GE80001.out)|exact HB.out)⟩⟩
    case round=>
     clear H'
     try clear c1
     try clear p2
     try clear c4
     try clear c4b0
     try clear c4b1
     try clear c6
     try clear c6b0
     try clear c6b1
     try clear c8
     try clear c8b0
     try clear c8b1
     try clear p8
     try clear q8
     try clear hx8
     try clear qi8
     try clear c9
     try clear c9b0
     try clear c9b1
     try clear c12
     try clear hcz10_0
     try clear hcz10_1
     try clear hcz10_2
     try clear hcz11_0
     try clear hcz11_1
     try clear hcz11_2
     try clear hcz13_0
     try clear hcz13_1
     try clear hcz13_2
     try clear hcz5_0
     try clear hcz5_1
     try clear hcz5_2
     try clear hcz7_0
     try clear hcz7_1
     try clear hcz7_2
     try clear hfz10_0
     try clear hfz10_1
     try clear hfz10_2
     try clear hfz11_0
     try clear hfz11_1
     try clear hfz11_2
     try clear hfz13_0
     try clear hfz13_1
     try clear hfz13_2
     try clear hfz5_0
     try clear hfz5_1
     try clear hfz5_2
     try clear hfz7_0
     try clear hfz7_1
     try clear hfz7_2
     try clear hx80002_0
     try clear hx80002_1
     try clear hx80002_2
     try clear hx80003_0
     try clear hx80003_1
     try clear hx80003_2
     try clear p2
     try clear p8
     try clear p80002
     try clear p80003
     try clear q8
     try clear q80002
     try clear q80003
     obtain⟨x37_2,rfl,HA,HK2,BK80001,HB⟩:=hrel
     cases gk with
     | zero=>exact absurd HA.out (by simp[ZQ.l0])
     | succ k2=>
      have H:=HA.out
      clear HA
      simp only[ZQ.l0] at H
      by_cases c14:x37_2<(l0_0.length:Int)
      ·rw[if_pos c14] at H
       have c14b0:decide (x37_2<(l0_0.length:Int))=true:=Ze c14
       clear c14
       by_cases c15:0≤x37_2
       ·rw[if_pos c15] at H
        have c15b0:decide (0≤x37_2)=true:=Ze c15
        clear c15
        by_cases c16:x37_2<(l0_0.length:Int)
        ·rw[if_pos c16] at H
         have c16b0:decide (x37_2<(l0_0.length:Int))=true:=Ze c16
         clear c16
         replace H:=Zh H
         obtain⟨t80006,A170,H⟩:=H
         replace H:(if t80006=true then(if x37_2≤(l0_0.length:Int) then((some (l0_0.take (x37_2:Int).toNat:List (S73))).bind fun y80007=>(ZQ.l1 k2 l0_0 (l0_0.length:Int) x37_2 y80007 (y80007.length:Int) 0 l0_0 l0_1 a0_2 ((Zp l0_0 x37_2).f0) ((Zp l0_0 x37_2).f1) ((Zp l0_0 x37_2).f2))) else(none)) else(some false))=some r:=H
         have A17:=Za A170;clear A170
         by_cases c18:t80006=true
         ·subst c18
          have H1:(if x37_2≤(l0_0.length:Int) then((some (l0_0.take (x37_2:Int).toNat:List (S73))).bind fun y80007=>(ZQ.l1 k2 l0_0 (l0_0.length:Int) x37_2 y80007 (y80007.length:Int) 0 l0_0 l0_1 a0_2 ((Zp l0_0 x37_2).f0) ((Zp l0_0 x37_2).f1) ((Zp l0_0 x37_2).f2))) else(none))=some r:=by rw[if_pos rfl] at H;exact H
          clear H
          have H:=H1
          clear H1
          have c19b0:=eq_true (Zd (by first|(with_reducible assumption)|assumption):0≤x37_2)
          by_cases c20:x37_2≤(l0_0.length:Int)
          ·rw[if_pos c20] at H
           have c20b0:=eq_true c20
           have c20b1:decide (x37_2≤(l0_0.length:Int))=true:=Ze c20
           clear c20
           obtain⟨y80007,hy80007⟩:∃y_:List (S73),y_=(l0_0.take (x37_2:Int).toNat):=⟨_,rfl⟩
           replace H:(ZQ.l1 k2 l0_0 (l0_0.length:Int) x37_2 y80007 (y80007.length:Int) 0 l0_0 l0_1 a0_2 ((Zp l0_0 x37_2).f0) ((Zp l0_0 x37_2).f1) ((Zp l0_0 x37_2).f2))=some r:=by first|(rw[hy80007];with_reducible exact H)|(have H2_:=(Zi _ _).symm.trans H;rw[hy80007];with_reducible exact H2_)|(have H2_:=(Zi _ _).symm.trans H;with_reducible exact H2_)|with_reducible exact H|(rw[hy80007];exact H)|exact H
           have Ny80007:=Za hy80007;clear hy80007
           have H':=Za H
           clear H
           have p80004:0≤(x37_2:Int):=Zd (by first|(with_reducible assumption)|assumption)
           have q80004:x37_2<(l0_0.length:Int):=Zd (by first|(with_reducible assumption)|assumption)
           obtain⟨ad80004,A80004_1,c80004_1,e80004,hx80004_0,hx80004_1,hx80004_2,hl80004_1,hi80004_1⟩:=Zan HR0_0.out x37_2 p80004 q80004
           cases e80004
           replace hx80004_0:=(HB.out.cell (Zc w _ hx80004_0)).trans hx80004_0
           replace hx80004_1:=(HB.out.cell (Zc w _ hx80004_1)).trans hx80004_1
           replace hx80004_2:=(HB.out.cell (Zc w _ hx80004_2)).trans hx80004_2
           have HR80004_1:=Za hi80004_1;have HC80004_1:=Za hl80004_1;clear hi80004_1 hl80004_1
           replace p80004:=eq_true p80004
           replace q80004:=eq_true q80004
           go_wp2_with (first|((with_reducible refine ZN (N:=4) rfl ?_);(try(refine ZaP (by rfl) ?_;dsimp only));refine ZP ?hg (N:=4) ?hd (cs:=#[.string (⟨#[]⟩:ByteArray),.slice none 0 0,.int .i64 0]) (t:=73) ?hr ?_;(case hd=>rfl);(case hg=>rfl);(case hr=>first|(go_simp;done)|(go_simp;rfl));intro gb80005 hg w21 hbox hb;have BK80005:=Za (hbox);have GW80005:=Za ((by rw[hg];exact(Zy (by repeat(first|(with_reducible first|exact HB.out|apply Zn|apply Zm|apply Zo|refine Zr ?_ GE80001.out)|exact HB.out))):w.heap.size≤gb80005));have GE80005:=Za ((by rw[hg];exact(Zy (by repeat(first|(with_reducible first|exact HB.out|apply Zn|apply Zm|apply Zo|refine Zr ?_ GE80001.out)|exact HB.out))):w.heap.size≤gb80005));have NB80001_80005:=Za ((by rw[hg];exact Nat.ne_of_lt (ZY (g:=gb80001) (o:=.cells #[.slice (some ad80004) l0_0.length c0_0,.slice A0_1 l0_1.length c0_1,.int .i64 a0_2] 36 (0,0)) (by(with_reducible repeat(first|refine Zu ?_ _|refine Zv ?_|refine Zs ?_ _));exact BK80001.out)):gb80001≠gb80005));have NB80005_80001:=Za ((by rw[hg];exact Nat.ne_of_gt (ZY (g:=gb80001) (o:=.cells #[.slice (some ad80004) l0_0.length c0_0,.slice A0_1 l0_1.length c0_1,.int .i64 a0_2] 36 (0,0)) (by(with_reducible repeat(first|refine Zu ?_ _|refine Zv ?_|refine Zs ?_ _));exact BK80001.out)):gb80005≠gb80001));replace BK80001:=Za (ZB (g:=gb80001) (o:=.cells #[.slice (some ad80004) l0_0.length c0_0,.slice A0_1 l0_1.length c0_1,.int .i64 a0_2] 36 (0,0)) (by(with_reducible repeat(first|refine Zu ?_ _|refine Zv ?_|refine Zs ?_ _));exact BK80001.out) hb);replace HB:=Za (Zx (by repeat(first|(with_reducible first|exact HB.out|apply Zn|apply Zm|apply Zo|refine Zr ?_ GE80001.out)|exact HB.out)) hb);clear hb hbox hg;have hnb22:=NB80005_80001.out;have hnc22:=NB80001_80005.out;have hcz23_0:w21.cell? ⟨gb80005,0,none⟩=some (.string (⟨#[]⟩:ByteArray)):=(Zq BK80005.out 0).trans rfl;have hcz23_1:w21.cell? ⟨gb80005,1,none⟩=some (.slice none 0 0):=(Zq BK80005.out 1).trans rfl;have hcz23_2:w21.cell? ⟨gb80005,2,none⟩=some (.int .i64 0):=(Zq BK80005.out 2).trans rfl;have hfz23_0:=Zt BK80005.out 0;have hfz23_1:=Zt BK80005.out 1;have hfz23_2:=Zt BK80005.out 2)|((with_reducible refine ZG (f:=110) rfl ?_);refine ZX (some 43) rfl rfl Tryd.func110 (by kernel_rfl) rfl #[.agg #[.string ((Zp l0_0 x37_2).f0),.slice A80004_1 ((Zp l0_0 x37_2).f1).length c80004_1,.int .i64 ((Zp l0_0 x37_2).f2)]] rfl (by(try simp only[List.map_toArray,List.map_cons,List.map_nil]);first|done|rfl|(simp only[Zk,Zj];rfl)) ?_;(with_reducible refine(ZbH.calls k2 ((Zp l0_0 x37_2).f0) _ _ ((Zp l0_0 x37_2).f1) ((Zp l0_0 x37_2).f2) true _ ?side1 ?side2 A17.out).mono ?_);(case side1=>exact Zb HR80004_1.out (by repeat(first|(with_reducible first|exact HB.out|apply Zn|apply Zm|apply Zo|refine Zr ?_ GE80001.out|refine Zr ?_ GE80005.out)|exact HB.out)));(case side2=>exact HC80004_1.out);rintro e w24 ⟨rfl,hb⟩;refine⟨_,rfl,?_⟩;replace BK80001:=Za (ZB (g:=gb80001) (o:=.cells #[.slice (some ad80004) l0_0.length c0_0,.slice A0_1 l0_1.length c0_1,.int .i64 a0_2] 36 (0,0)) (by(with_reducible repeat(first|refine Zu ?_ _|refine Zv ?_|refine Zs ?_ _));refine ZV ?_ NB80001_80005.out _;(with_reducible repeat(first|refine Zu ?_ _|refine Zv ?_|refine Zs ?_ _));refine ZV ?_ NB80001_80005.out _;(with_reducible repeat(first|refine Zu ?_ _|refine Zv ?_|refine Zs ?_ _));refine ZV ?_ NB80001_80005.out _;(with_reducible repeat(first|refine Zu ?_ _|refine Zv ?_|refine Zs ?_ _));exact BK80001.out) hb);replace BK80005:=Za (ZB (g:=gb80005) (o:=.cells #[.string ((Zp l0_0 x37_2).f0),.slice A80004_1 ((Zp l0_0 x37_2).f1).length c80004_1,.int .i64 ((Zp l0_0 x37_2).f2)] 73 (0,0)) (by(with_reducible repeat(first|refine Zu ?_ _|refine Zv ?_|refine Zs ?_ _));refine Z6 (cs:=#[.string ((Zp l0_0 x37_2).f0),.slice A80004_1 ((Zp l0_0 x37_2).f1).length c80004_1,.int .i64 0]) ?_ 2 _ rfl;(with_reducible repeat(first|refine Zu ?_ _|refine Zv ?_|refine Zs ?_ _));refine Z6 (cs:=#[.string ((Zp l0_0 x37_2).f0),.slice none 0 0,.int .i64 0]) ?_ 1 _ rfl;(with_reducible repeat(first|refine Zu ?_ _|refine Zv ?_|refine Zs ?_ _));refine Z6 (cs:=#[.string (⟨#[]⟩:ByteArray),.slice none 0 0,.int .i64 0]) ?_ 0 _ rfl;(with_reducible repeat(first|refine Zu ?_ _|refine Zv ?_|refine Zs ?_ _));exact BK80005.out) hb);replace HB:=Za (Zx (by repeat(first|(with_reducible first|exact HB.out|apply Zn|apply Zm|apply Zo|refine Zr ?_ GE80001.out|refine Zr ?_ GE80005.out)|exact HB.out)) hb);(try clear hb);(try clear hb2);(try clear hk);(try clear hi);have hcz25_0:w24.cell? ⟨gb80001,0,none⟩=some (.slice (some ad80004) l0_0.length c0_0):=(Zq BK80001.out 0).trans rfl;have hcz25_1:w24.cell? ⟨gb80001,1,none⟩=some (.slice A0_1 l0_1.length c0_1):=(Zq BK80001.out 1).trans rfl;have hcz25_2:w24.cell? ⟨gb80001,2,none⟩=some (.int .i64 a0_2):=(Zq BK80001.out 2).trans rfl;have hfz25_0:=Zt BK80001.out 0;have hfz25_1:=Zt BK80001.out 1;have hfz25_2:=Zt BK80001.out 2;have q26:(x37_2:Int)≤((l0_0.length:Int):Int):=Zd (by first|(with_reducible assumption)|assumption);obtain⟨i026,hi026,_,hsz26,_⟩:=info_parts info73;have hroom26:l0_0.length≤c0_0:=HC0_0.out;have hC26:Kd.C k73 _ (some ad80004) l0_0.length l0_0:=HR0_0.out;have hcut26:=cut_to (P:=Tryd.prog) 33 73 .i64 Tryd.underlying33 hi026 (some ad80004) l0_0.length c0_0 x37_2 (Zd (by first|(with_reducible assumption)|assumption)) q26 hroom26;have hr26:=Kd.C_take (m:=(x37_2:Int).toNat) hC26 (by omega);have hy26:y80007.length=(x37_2:Int).toNat:=(by rw[Ny80007.out,Zj];omega);rw[← Ny80007.out] at hr26;rw[← hy26] at hcut26;have HR80010:=Za hr26;have HC80010:=Za (show y80007.length≤c0_0 from by omega);clear hr26 hC26 hroom26 hi026 hsz26;have KY26:=Za hy26;clear hy26;replace q26:=eq_true q26))
           go_loopg [50] k2 (fun kq v50 w'=>∃(x50_3:Int),v50=.int .i64 x50_3∧Aside0 (ZQ.l1 kq l0_0 (l0_0.length:Int) x37_2 y80007 (y80007.length:Int) x50_3 l0_0 l0_1 a0_2 ((Zp l0_0 x37_2).f0) ((Zp l0_0 x37_2).f1) ((Zp l0_0 x37_2).f2)=some r)∧Aside0 (kq≤k2)∧Aside0 (w'.heap[gb80001]? = some (.cells #[(.slice (some ad80004) l0_0.length c0_0),(.slice A0_1 l0_1.length c0_1),.int .i64 a0_2] 36 (0,0)))∧Aside0 (w'.heap[gb80005]? = some (.cells #[.string ((Zp l0_0 x37_2).f0),(.slice A80004_1 ((Zp l0_0 x37_2).f1).length c80004_1),.int .i64 ((Zp l0_0 x37_2).f2)] 73 (0,0)))∧Aside0 (Below w.heap.size w w'))
           case atStart=>exact⟨(0),(by first|rfl|(simp;done)|(simp[*];done)),H',⟨Nat.le_refl _⟩,⟨by(with_reducible repeat(first|refine Zu ?_ _|refine Zv ?_|refine Zs ?_ _));exact BK80001.out⟩,⟨by(with_reducible repeat(first|refine Zu ?_ _|refine Zv ?_|refine Zs ?_ _));exact BK80005.out⟩,⟨by repeat(first|(with_reducible first|exact HB.out|apply Zn|apply Zm|apply Zo|refine Zr ?_ GE80001.out|refine Zr ?_ GE80005.out)|exact HB.out)⟩⟩
           case round=>
            clear H'
            try clear c1
            try clear c2
            try clear p2
            try clear q2
            try clear c4
            try clear c4b0
            try clear c4b1
            try clear c6
            try clear c6b0
            try clear c6b1
            try clear c8
            try clear c8b0
            try clear c8b1
            try clear p8
            try clear q8
            try clear hx8
            try clear qi8
            try clear c9
            try clear c9b0
            try clear c9b1
            try clear c11
            try clear c12
            try clear c14
            try clear c14b0
            try clear c15
            try clear c15b0
            try clear c16
            try clear c16b0
            try clear c18
            try clear c19
            try clear c19b0
            try clear c20
            try clear c20b0
            try clear c20b1
            try clear c22
            try clear q26
            try clear hcz10_0
            try clear hcz10_1
            try clear hcz10_2
            try clear hcz11_0
            try clear hcz11_1
            try clear hcz11_2
            try clear hcz13_0
            try clear hcz13_1
            try clear hcz13_2
            try clear hcz23_0
            try clear hcz23_1
            try clear hcz23_2
            try clear hcz25_0
            try clear hcz25_1
            try clear hcz25_2
            try clear hcz5_0
            try clear hcz5_1
            try clear hcz5_2
            try clear hcz7_0
            try clear hcz7_1
            try clear hcz7_2
            try clear hfz10_0
            try clear hfz10_1
            try clear hfz10_2
            try clear hfz11_0
            try clear hfz11_1
            try clear hfz11_2
            try clear hfz13_0
            try clear hfz13_1
            try clear hfz13_2
            try clear hfz23_0
            try clear hfz23_1
            try clear hfz23_2
            try clear hfz25_0
            try clear hfz25_1
            try clear hfz25_2
            try clear hfz5_0
            try clear hfz5_1
            try clear hfz5_2
            try clear hfz7_0
            try clear hfz7_1
            try clear hfz7_2
            try clear hx80002_0
            try clear hx80002_1
            try clear hx80002_2
            try clear hx80003_0
            try clear hx80003_1
            try clear hx80003_2
            try clear hx80004_0
            try clear hx80004_1
            try clear hx80004_2
            try clear p2
            try clear p8
            try clear p80002
            try clear p80003
            try clear p80004
            try clear q26
            try clear q8
            try clear q80002
            try clear q80003
            try clear q80004
            obtain⟨x50_3,rfl,HA,HK3,BK80001,BK80005,HB⟩:=hrel
            cases gk with
            | zero=>exact absurd HA.out (by simp[ZQ.l1])
            | succ k3=>
             have H:=HA.out
             clear HA
             simp only[ZQ.l1] at H
             by_cases c27:x50_3<(y80007.length:Int)
             ·rw[if_pos c27] at H
              have c27b0:decide (x50_3<(y80007.length:Int))=true:=Ze c27
              clear c27
              by_cases c28:0≤x50_3
              ·rw[if_pos c28] at H
               have c28b0:decide (0≤x50_3)=true:=Ze c28
               clear c28
               by_cases c29:x50_3<(y80007.length:Int)
               ·rw[if_pos c29] at H
                have c29b0:decide (x50_3<(y80007.length:Int))=true:=Ze c29
                clear c29
                by_cases c30:((Zp y80007 x50_3).f0).toList=((Zp l0_0 x37_2).f0).toList
                ·rw[if_pos c30] at H
                 have c30b0:(((Zp y80007 x50_3).f0).toList == ((Zp l0_0 x37_2).f0).toList)=true:=beq_iff_eq.mpr c30
                 have c30b1:(((Zp y80007 x50_3).f0).toList != ((Zp l0_0 x37_2).f0).toList)=false:=bne_eq_false_iff_eq.mpr c30
                 clear c30
                 obtain rfl:=Zg H
                 have p80011:0≤(x50_3:Int):=Zd (by first|(with_reducible assumption)|assumption)
                 have q80011:x50_3<(y80007.length:Int):=Zd (by first|(with_reducible assumption)|assumption)
                 obtain⟨ad80011,A80011_1,c80011_1,e80011,hx80011_0,hx80011_1,hx80011_2,hl80011_1,hi80011_1⟩:=Zan HR80010.out x50_3 p80011 q80011
                 obtain rfl:ad80004=ad80011:=(by injection e80011)
                 replace hx80011_0:=(HB.out.cell (Zc w _ hx80011_0)).trans hx80011_0
                 replace hx80011_1:=(HB.out.cell (Zc w _ hx80011_1)).trans hx80011_1
                 replace hx80011_2:=(HB.out.cell (Zc w _ hx80011_2)).trans hx80011_2
                 have HR80011_1:=Za hi80011_1;have HC80011_1:=Za hl80011_1;clear hi80011_1 hl80011_1
                 replace p80011:=eq_true p80011
                 replace q80011:=eq_true q80011
                 go_wp2_with (first|((with_reducible refine ZN (N:=6) rfl ?_);(try(refine ZaP (by rfl) ?_;dsimp only));refine ZP ?hg (N:=6) ?hd (cs:=#[.string (⟨#[]⟩:ByteArray),.slice none 0 0,.int .i64 0]) (t:=73) ?hr ?_;(case hd=>rfl);(case hg=>rfl);(case hr=>first|(go_simp;done)|(go_simp;rfl));intro gb80012 hg w31 hbox hb;have BK80012:=Za (hbox);have GW80012:=Za ((by rw[hg];exact(Zy (by repeat(first|(with_reducible first|exact HB.out|apply Zn|apply Zm|apply Zo|refine Zr ?_ GE80001.out|refine Zr ?_ GE80005.out)|exact HB.out))):w.heap.size≤gb80012));have GE80012:=Za ((by rw[hg];exact(Zy (by repeat(first|(with_reducible first|exact HB.out|apply Zn|apply Zm|apply Zo|refine Zr ?_ GE80001.out|refine Zr ?_ GE80005.out)|exact HB.out))):w.heap.size≤gb80012));have NB80001_80012:=Za ((by rw[hg];exact Nat.ne_of_lt (ZY (g:=gb80001) (o:=.cells #[.slice (some ad80004) l0_0.length c0_0,.slice A0_1 l0_1.length c0_1,.int .i64 a0_2] 36 (0,0)) (by(with_reducible repeat(first|refine Zu ?_ _|refine Zv ?_|refine Zs ?_ _));exact BK80001.out)):gb80001≠gb80012));have NB80012_80001:=Za ((by rw[hg];exact Nat.ne_of_gt (ZY (g:=gb80001) (o:=.cells #[.slice (some ad80004) l0_0.length c0_0,.slice A0_1 l0_1.length c0_1,.int .i64 a0_2] 36 (0,0)) (by(with_reducible repeat(first|refine Zu ?_ _|refine Zv ?_|refine Zs ?_ _));exact BK80001.out)):gb80012≠gb80001));have NB80005_80012:=Za ((by rw[hg];exact Nat.ne_of_lt (ZY (g:=gb80005) (o:=.cells #[.string ((Zp l0_0 x37_2).f0),.slice A80004_1 ((Zp l0_0 x37_2).f1).length c80004_1,.int .i64 ((Zp l0_0 x37_2).f2)] 73 (0,0)) (by(with_reducible repeat(first|refine Zu ?_ _|refine Zv ?_|refine Zs ?_ _));exact BK80005.out)):gb80005≠gb80012));have NB80012_80005:=Za ((by rw[hg];exact Nat.ne_of_gt (ZY (g:=gb80005) (o:=.cells #[.string ((Zp l0_0 x37_2).f0),.slice A80004_1 ((Zp l0_0 x37_2).f1).length c80004_1,.int .i64 ((Zp l0_0 x37_2).f2)] 73 (0,0)) (by(with_reducible repeat(first|refine Zu ?_ _|refine Zv ?_|refine Zs ?_ _));exact BK80005.out)):gb80012≠gb80005));replace BK80001:=Za (ZB (g:=gb80001) (o:=.cells #[.slice (some ad80004) l0_0.length c0_0,.slice A0_1 l0_1.length c0_1,.int .i64 a0_2] 36 (0,0)) (by(with_reducible repeat(first|refine Zu ?_ _|refine Zv ?_|refine Zs ?_ _));exact BK80001.out) hb);replace BK80005:=Za (ZB (g:=gb80005) (o:=.cells #[.string ((Zp l0_0 x37_2).f0),.slice A80004_1 ((Zp l0_0 x37_2).f1).length c80004_1,.int .i64 ((Zp l0_0 x37_2).f2)] 73 (0,0)) (by(with_reducible repeat(first|refine Zu ?_ _|refine Zv ?_|refine Zs ?_ _));exact BK80005.out) hb);replace HB:=Za (Zx (by repeat(first|(with_reducible first|exact HB.out|apply Zn|apply Zm|apply Zo|refine Zr ?_ GE80001.out|refine Zr ?_ GE80005.out)|exact HB.out)) hb);clear hb hbox hg;have hnb32:=NB80012_80001.out;have hnc32:=NB80001_80012.out;have hnb33:=NB80012_80005.out;have hnc33:=NB80005_80012.out;have hcz34_0:w31.cell? ⟨gb80012,0,none⟩=some (.string (⟨#[]⟩:ByteArray)):=(Zq BK80012.out 0).trans rfl;have hcz34_1:w31.cell? ⟨gb80012,1,none⟩=some (.slice none 0 0):=(Zq BK80012.out 1).trans rfl;have hcz34_2:w31.cell? ⟨gb80012,2,none⟩=some (.int .i64 0):=(Zq BK80012.out 2).trans rfl;have hfz34_0:=Zt BK80012.out 0;have hfz34_1:=Zt BK80012.out 1;have hfz34_2:=Zt BK80012.out 2;have hnb35:=NB80005_80001.out;have hnc35:=NB80001_80005.out;have hcz36_0:w31.cell? ⟨gb80005,0,none⟩=some (.string ((Zp l0_0 x37_2).f0)):=(Zq BK80005.out 0).trans rfl;have hcz36_1:w31.cell? ⟨gb80005,1,none⟩=some (.slice A80004_1 ((Zp l0_0 x37_2).f1).length c80004_1):=(Zq BK80005.out 1).trans rfl;have hcz36_2:w31.cell? ⟨gb80005,2,none⟩=some (.int .i64 ((Zp l0_0 x37_2).f2)):=(Zq BK80005.out 2).trans rfl;have hfz36_0:=Zt BK80005.out 0;have hfz36_1:=Zt BK80005.out 1;have hfz36_2:=Zt BK80005.out 2))
                 go_ret
                 exact⟨by first|rfl|(simp[ZA,Zz] <;> rfl)|(simp[*,ZA,Zz] <;> rfl),by repeat(first|(with_reducible first|exact HB.out|apply Zn|apply Zm|apply Zo|refine Zr ?_ GE80001.out|refine Zr ?_ GE80005.out|refine Zr ?_ GE80012.out)|exact HB.out)⟩
                ·rw[if_neg c30] at H
                 have c30b0:(((Zp y80007 x50_3).f0).toList == ((Zp l0_0 x37_2).f0).toList)=false:=beq_eq_false_iff_ne.mpr c30
                 have c30b1:(((Zp y80007 x50_3).f0).toList != ((Zp l0_0 x37_2).f0).toList)=true:=bne_iff_ne.mpr c30
                 by_cases c37:((Zp l0_0 x37_2).f2)=0
                 ·rw[if_pos c37] at H
                  have c37b0:(((Zp l0_0 x37_2).f2) == 0)=true:=beq_iff_eq.mpr c37
                  have c37b1:(((Zp l0_0 x37_2).f2) != 0)=false:=bne_eq_false_iff_eq.mpr c37
                  clear c37
                  have H':=Za H
                  clear H
                  have p80011:0≤(x50_3:Int):=Zd (by first|(with_reducible assumption)|assumption)
                  have q80011:x50_3<(y80007.length:Int):=Zd (by first|(with_reducible assumption)|assumption)
                  obtain⟨ad80011,A80011_1,c80011_1,e80011,hx80011_0,hx80011_1,hx80011_2,hl80011_1,hi80011_1⟩:=Zan HR80010.out x50_3 p80011 q80011
                  obtain rfl:ad80004=ad80011:=(by injection e80011)
                  replace hx80011_0:=(HB.out.cell (Zc w _ hx80011_0)).trans hx80011_0
                  replace hx80011_1:=(HB.out.cell (Zc w _ hx80011_1)).trans hx80011_1
                  replace hx80011_2:=(HB.out.cell (Zc w _ hx80011_2)).trans hx80011_2
                  have HR80011_1:=Za hi80011_1;have HC80011_1:=Za hl80011_1;clear hi80011_1 hl80011_1
                  replace p80011:=eq_true p80011
                  replace q80011:=eq_true q80011
                  go_wp2_with (first|((with_reducible refine ZN (N:=6) rfl ?_);(try(refine ZaP (by rfl) ?_;dsimp only));refine ZP ?hg (N:=6) ?hd (cs:=#[.string (⟨#[]⟩:ByteArray),.slice none 0 0,.int .i64 0]) (t:=73) ?hr ?_;(case hd=>rfl);(case hg=>rfl);(case hr=>first|(go_simp;done)|(go_simp;rfl));intro gb80012 hg w38 hbox hb;have BK80012:=Za (hbox);have GW80012:=Za ((by rw[hg];exact(Zy (by repeat(first|(with_reducible first|exact HB.out|apply Zn|apply Zm|apply Zo|refine Zr ?_ GE80001.out|refine Zr ?_ GE80005.out)|exact HB.out))):w.heap.size≤gb80012));have GE80012:=Za ((by rw[hg];exact(Zy (by repeat(first|(with_reducible first|exact HB.out|apply Zn|apply Zm|apply Zo|refine Zr ?_ GE80001.out|refine Zr ?_ GE80005.out)|exact HB.out))):w.heap.size≤gb80012));have NB80001_80012:=Za ((by rw[hg];exact Nat.ne_of_lt (ZY (g:=gb80001) (o:=.cells #[.slice (some ad80004) l0_0.length c0_0,.slice A0_1 l0_1.length c0_1,.int .i64 a0_2] 36 (0,0)) (by(with_reducible repeat(first|refine Zu ?_ _|refine Zv ?_|refine Zs ?_ _));exact BK80001.out)):gb80001≠gb80012));have NB80012_80001:=Za ((by rw[hg];exact Nat.ne_of_gt (ZY (g:=gb80001) (o:=.cells #[.slice (some ad80004) l0_0.length c0_0,.slice A0_1 l0_1.length c0_1,.int .i64 a0_2] 36 (0,0)) (by(with_reducible repeat(first|refine Zu ?_ _|refine Zv ?_|refine Zs ?_ _));exact BK80001.out)):gb80012≠gb80001));have NB80005_80012:=Za ((by rw[hg];exact Nat.ne_of_lt (ZY (g:=gb80005) (o:=.cells #[.string ((Zp l0_0 x37_2).f0),.slice A80004_1 ((Zp l0_0 x37_2).f1).length c80004_1,.int .i64 ((Zp l0_0 x37_2).f2)] 73 (0,0)) (by(with_reducible repeat(first|refine Zu ?_ _|refine Zv ?_|refine Zs ?_ _));exact BK80005.out)):gb80005≠gb80012));have NB80012_80005:=Za ((by rw[hg];exact Nat.ne_of_gt (ZY (g:=gb80005) (o:=.cells #[.string ((Zp l0_0 x37_2).f0),.slice A80004_1 ((Zp l0_0 x37_2).f1).length c80004_1,.int .i64 ((Zp l0_0 x37_2).f2)] 73 (0,0)) (by(with_reducible repeat(first|refine Zu ?_ _|refine Zv ?_|refine Zs ?_ _));exact BK80005.out)):gb80012≠gb80005));replace BK80001:=Za (ZB (g:=gb80001) (o:=.cells #[.slice (some ad80004) l0_0.length c0_0,.slice A0_1 l0_1.length c0_1,.int .i64 a0_2] 36 (0,0)) (by(with_reducible repeat(first|refine Zu ?_ _|refine Zv ?_|refine Zs ?_ _));exact BK80001.out) hb);replace BK80005:=Za (ZB (g:=gb80005) (o:=.cells #[.string ((Zp l0_0 x37_2).f0),.slice A80004_1 ((Zp l0_0 x37_2).f1).length c80004_1,.int .i64 ((Zp l0_0 x37_2).f2)] 73 (0,0)) (by(with_reducible repeat(first|refine Zu ?_ _|refine Zv ?_|refine Zs ?_ _));exact BK80005.out) hb);replace HB:=Za (Zx (by repeat(first|(with_reducible first|exact HB.out|apply Zn|apply Zm|apply Zo|refine Zr ?_ GE80001.out|refine Zr ?_ GE80005.out)|exact HB.out)) hb);clear hb hbox hg;have hnb39:=NB80012_80001.out;have hnc39:=NB80001_80012.out;have hnb40:=NB80012_80005.out;have hnc40:=NB80005_80012.out;have hcz41_0:w38.cell? ⟨gb80012,0,none⟩=some (.string (⟨#[]⟩:ByteArray)):=(Zq BK80012.out 0).trans rfl;have hcz41_1:w38.cell? ⟨gb80012,1,none⟩=some (.slice none 0 0):=(Zq BK80012.out 1).trans rfl;have hcz41_2:w38.cell? ⟨gb80012,2,none⟩=some (.int .i64 0):=(Zq BK80012.out 2).trans rfl;have hfz41_0:=Zt BK80012.out 0;have hfz41_1:=Zt BK80012.out 1;have hfz41_2:=Zt BK80012.out 2;have hnb42:=NB80005_80001.out;have hnc42:=NB80001_80005.out;have hcz43_0:w38.cell? ⟨gb80005,0,none⟩=some (.string ((Zp l0_0 x37_2).f0)):=(Zq BK80005.out 0).trans rfl;have hcz43_1:w38.cell? ⟨gb80005,1,none⟩=some (.slice A80004_1 ((Zp l0_0 x37_2).f1).length c80004_1):=(Zq BK80005.out 1).trans rfl;have hcz43_2:w38.cell? ⟨gb80005,2,none⟩=some (.int .i64 ((Zp l0_0 x37_2).f2)):=(Zq BK80005.out 2).trans rfl;have hfz43_0:=Zt BK80005.out 0;have hfz43_1:=Zt BK80005.out 1;have hfz43_2:=Zt BK80005.out 2))
                  go_roundg k3
                  case measure=>have:=HJ1.out;have:=HK2.out;have:=HK3.out;omega
                  case rel=>exact⟨(wrap64 (x50_3+1)),(by first|rfl|(simp;done)|(simp[*];done)),H',⟨by have:=HJ1.out;have:=HK2.out;have:=HK3.out;omega⟩,⟨by(with_reducible repeat(first|refine Zu ?_ _|refine Zv ?_|refine Zs ?_ _));refine ZV ?_ NB80001_80012.out _;(with_reducible repeat(first|refine Zu ?_ _|refine Zv ?_|refine Zs ?_ _));refine ZV ?_ NB80001_80012.out _;(with_reducible repeat(first|refine Zu ?_ _|refine Zv ?_|refine Zs ?_ _));refine ZV ?_ NB80001_80012.out _;(with_reducible repeat(first|refine Zu ?_ _|refine Zv ?_|refine Zs ?_ _));exact BK80001.out⟩,⟨by(with_reducible repeat(first|refine Zu ?_ _|refine Zv ?_|refine Zs ?_ _));refine ZV ?_ NB80005_80012.out _;(with_reducible repeat(first|refine Zu ?_ _|refine Zv ?_|refine Zs ?_ _));refine ZV ?_ NB80005_80012.out _;(with_reducible repeat(first|refine Zu ?_ _|refine Zv ?_|refine Zs ?_ _));refine ZV ?_ NB80005_80012.out _;(with_reducible repeat(first|refine Zu ?_ _|refine Zv ?_|refine Zs ?_ _));exact BK80005.out⟩,⟨by repeat(first|(with_reducible first|exact HB.out|apply Zn|apply Zm|apply Zo|refine Zr ?_ GE80001.out|refine Zr ?_ GE80005.out|refine Zr ?_ GE80012.out)|exact HB.out)⟩⟩
                 ·rw[if_neg c37] at H
                  have c37b0:(((Zp l0_0 x37_2).f2) == 0)=false:=beq_eq_false_iff_ne.mpr c37
                  have c37b1:(((Zp l0_0 x37_2).f2) != 0)=true:=bne_iff_ne.mpr c37
                  by_cases c44:((Zp y80007 x50_3).f2)=((Zp l0_0 x37_2).f2)
                  ·rw[if_pos c44] at H
                   have c44b0:(((Zp y80007 x50_3).f2) == ((Zp l0_0 x37_2).f2))=true:=beq_iff_eq.mpr c44
                   have c44b1:(((Zp y80007 x50_3).f2) != ((Zp l0_0 x37_2).f2))=false:=bne_eq_false_iff_eq.mpr c44
                   clear c44
                   obtain rfl:=Zg H
                   have p80011:0≤(x50_3:Int):=Zd (by first|(with_reducible assumption)|assumption)
                   have q80011:x50_3<(y80007.length:Int):=Zd (by first|(with_reducible assumption)|assumption)
                   obtain⟨ad80011,A80011_1,c80011_1,e80011,hx80011_0,hx80011_1,hx80011_2,hl80011_1,hi80011_1⟩:=Zan HR80010.out x50_3 p80011 q80011
                   obtain rfl:ad80004=ad80011:=(by injection e80011)
                   replace hx80011_0:=(HB.out.cell (Zc w _ hx80011_0)).trans hx80011_0
                   replace hx80011_1:=(HB.out.cell (Zc w _ hx80011_1)).trans hx80011_1
                   replace hx80011_2:=(HB.out.cell (Zc w _ hx80011_2)).trans hx80011_2
                   have HR80011_1:=Za hi80011_1;have HC80011_1:=Za hl80011_1;clear hi80011_1 hl80011_1
                   replace p80011:=eq_true p80011
                   replace q80011:=eq_true q80011
                   go_wp2_with (first|((with_reducible refine ZN (N:=6) rfl ?_);(try(refine ZaP (by rfl) ?_;dsimp only));refine ZP ?hg (N:=6) ?hd (cs:=#[.string (⟨#[]⟩:ByteArray),.slice none 0 0,.int .i64 0]) (t:=73) ?hr ?_;(case hd=>rfl);(case hg=>rfl);(case hr=>first|(go_simp;done)|(go_simp;rfl));intro gb80012 hg w45 hbox hb;have BK80012:=Za (hbox);have GW80012:=Za ((by rw[hg];exact(Zy (by repeat(first|(with_reducible first|exact HB.out|apply Zn|apply Zm|apply Zo|refine Zr ?_ GE80001.out|refine Zr ?_ GE80005.out)|exact HB.out))):w.heap.size≤gb80012));have GE80012:=Za ((by rw[hg];exact(Zy (by repeat(first|(with_reducible first|exact HB.out|apply Zn|apply Zm|apply Zo|refine Zr ?_ GE80001.out|refine Zr ?_ GE80005.out)|exact HB.out))):w.heap.size≤gb80012));have NB80001_80012:=Za ((by rw[hg];exact Nat.ne_of_lt (ZY (g:=gb80001) (o:=.cells #[.slice (some ad80004) l0_0.length c0_0,.slice A0_1 l0_1.length c0_1,.int .i64 a0_2] 36 (0,0)) (by(with_reducible repeat(first|refine Zu ?_ _|refine Zv ?_|refine Zs ?_ _));exact BK80001.out)):gb80001≠gb80012));have NB80012_80001:=Za ((by rw[hg];exact Nat.ne_of_gt (ZY (g:=gb80001) (o:=.cells #[.slice (some ad80004) l0_0.length c0_0,.slice A0_1 l0_1.length c0_1,.int .i64 a0_2] 36 (0,0)) (by(with_reducible repeat(first|refine Zu ?_ _|refine Zv ?_|refine Zs ?_ _));exact BK80001.out)):gb80012≠gb80001));have NB80005_80012:=Za ((by rw[hg];exact Nat.ne_of_lt (ZY (g:=gb80005) (o:=.cells #[.string ((Zp l0_0 x37_2).f0),.slice A80004_1 ((Zp l0_0 x37_2).f1).length c80004_1,.int .i64 ((Zp l0_0 x37_2).f2)] 73 (0,0)) (by(with_reducible repeat(first|refine Zu ?_ _|refine Zv ?_|refine Zs ?_ _));exact BK80005.out)):gb80005≠gb80012));have NB80012_80005:=Za ((by rw[hg];exact Nat.ne_of_gt (ZY (g:=gb80005) (o:=.cells #[.string ((Zp l0_0 x37_2).f0),.slice A80004_1 ((Zp l0_0 x37_2).f1).length c80004_1,.int .i64 ((Zp l0_0 x37_2).f2)] 73 (0,0)) (by(with_reducible repeat(first|refine Zu ?_ _|refine Zv ?_|refine Zs ?_ _));exact BK80005.out)):gb80012≠gb80005));replace BK80001:=Za (ZB (g:=gb80001) (o:=.cells #[.slice (some ad80004) l0_0.length c0_0,.slice A0_1 l0_1.length c0_1,.int .i64 a0_2] 36 (0,0)) (by(with_reducible repeat(first|refine Zu ?_ _|refine Zv ?_|refine Zs ?_ _));exact BK80001.out) hb);replace BK80005:=Za (ZB (g:=gb80005) (o:=.cells #[.string ((Zp l0_0 x37_2).f0),.slice A80004_1 ((Zp l0_0 x37_2).f1).length c80004_1,.int .i64 ((Zp l0_0 x37_2).f2)] 73 (0,0)) (by(with_reducible repeat(first|refine Zu ?_ _|refine Zv ?_|refine Zs ?_ _));exact BK80005.out) hb);replace HB:=Za (Zx (by repeat(first|(with_reducible first|exact HB.out|apply Zn|apply Zm|apply Zo|refine Zr ?_ GE80001.out|refine Zr ?_ GE80005.out)|exact HB.out)) hb);clear hb hbox hg;have hnb46:=NB80012_80001.out;have hnc46:=NB80001_80012.out;have hnb47:=NB80012_80005.out;have hnc47:=NB80005_80012.out;have hcz48_0:w45.cell? ⟨gb80012,0,none⟩=some (.string (⟨#[]⟩:ByteArray)):=(Zq BK80012.out 0).trans rfl;have hcz48_1:w45.cell? ⟨gb80012,1,none⟩=some (.slice none 0 0):=(Zq BK80012.out 1).trans rfl;have hcz48_2:w45.cell? ⟨gb80012,2,none⟩=some (.int .i64 0):=(Zq BK80012.out 2).trans rfl;have hfz48_0:=Zt BK80012.out 0;have hfz48_1:=Zt BK80012.out 1;have hfz48_2:=Zt BK80012.out 2;have hnb49:=NB80005_80001.out;have hnc49:=NB80001_80005.out;have hcz50_0:w45.cell? ⟨gb80005,0,none⟩=some (.string ((Zp l0_0 x37_2).f0)):=(Zq BK80005.out 0).trans rfl;have hcz50_1:w45.cell? ⟨gb80005,1,none⟩=some (.slice A80004_1 ((Zp l0_0 x37_2).f1).length c80004_1):=(Zq BK80005.out 1).trans rfl;have hcz50_2:w45.cell? ⟨gb80005,2,none⟩=some (.int .i64 ((Zp l0_0 x37_2).f2)):=(Zq BK80005.out 2).trans rfl;have hfz50_0:=Zt BK80005.out 0;have hfz50_1:=Zt BK80005.out 1;have hfz50_2:=Zt BK80005.out 2))
                   go_ret
                   exact⟨by first|rfl|(simp[ZA,Zz] <;> rfl)|(simp[*,ZA,Zz] <;> rfl),by repeat(first|(with_reducible first|exact HB.out|apply Zn|apply Zm|apply Zo|refine Zr ?_ GE80001.out|refine Zr ?_ GE80005.out|refine Zr ?_ GE80012.out)|exact HB.out)⟩
                  ·rw[if_neg c44] at H
                   have c44b0:(((Zp y80007 x50_3).f2) == ((Zp l0_0 x37_2).f2))=false:=beq_eq_false_iff_ne.mpr c44
                   have c44b1:(((Zp y80007 x50_3).f2) != ((Zp l0_0 x37_2).f2))=true:=bne_iff_ne.mpr c44
                   have H':=Za H
                   clear H
                   have p80011:0≤(x50_3:Int):=Zd (by first|(with_reducible assumption)|assumption)
                   have q80011:x50_3<(y80007.length:Int):=Zd (by first|(with_reducible assumption)|assumption)
                   obtain⟨ad80011,A80011_1,c80011_1,e80011,hx80011_0,hx80011_1,hx80011_2,hl80011_1,hi80011_1⟩:=Zan HR80010.out x50_3 p80011 q80011
                   obtain rfl:ad80004=ad80011:=(by injection e80011)
                   replace hx80011_0:=(HB.out.cell (Zc w _ hx80011_0)).trans hx80011_0
                   replace hx80011_1:=(HB.out.cell (Zc w _ hx80011_1)).trans hx80011_1
                   replace hx80011_2:=(HB.out.cell (Zc w _ hx80011_2)).trans hx80011_2
                   have HR80011_1:=Za hi80011_1;have HC80011_1:=Za hl80011_1;clear hi80011_1 hl80011_1
                   replace p80011:=eq_true p80011
                   replace q80011:=eq_true q80011
                   go_wp2_with (first|((with_reducible refine ZN (N:=6) rfl ?_);(try(refine ZaP (by rfl) ?_;dsimp only));refine ZP ?hg (N:=6) ?hd (cs:=#[.string (⟨#[]⟩:ByteArray),.slice none 0 0,.int .i64 0]) (t:=73) ?hr ?_;(case hd=>rfl);(case hg=>rfl);(case hr=>first|(go_simp;done)|(go_simp;rfl));intro gb80012 hg w51 hbox hb;have BK80012:=Za (hbox);have GW80012:=Za ((by rw[hg];exact(Zy (by repeat(first|(with_reducible first|exact HB.out|apply Zn|apply Zm|apply Zo|refine Zr ?_ GE80001.out|refine Zr ?_ GE80005.out)|exact HB.out))):w.heap.size≤gb80012));have GE80012:=Za ((by rw[hg];exact(Zy (by repeat(first|(with_reducible first|exact HB.out|apply Zn|apply Zm|apply Zo|refine Zr ?_ GE80001.out|refine Zr ?_ GE80005.out)|exact HB.out))):w.heap.size≤gb80012));have NB80001_80012:=Za ((by rw[hg];exact Nat.ne_of_lt (ZY (g:=gb80001) (o:=.cells #[.slice (some ad80004) l0_0.length c0_0,.slice A0_1 l0_1.length c0_1,.int .i64 a0_2] 36 (0,0)) (by(with_reducible repeat(first|refine Zu ?_ _|refine Zv ?_|refine Zs ?_ _));exact BK80001.out)):gb80001≠gb80012));have NB80012_80001:=Za ((by rw[hg];exact Nat.ne_of_gt (ZY (g:=gb80001) (o:=.cells #[.slice (some ad80004) l0_0.length c0_0,.slice A0_1 l0_1.length c0_1,.int .i64 a0_2] 36 (0,0)) (by(with_reducible repeat(first|refine Zu ?_ _|refine Zv ?_|refine Zs ?_ _));exact BK80001.out)):gb80012≠gb80001));have NB80005_80012:=Za ((by rw[hg];exact Nat.ne_of_lt (ZY (g:=gb80005) (o:=.cells #[.string ((Zp l0_0 x37_2).f0),.slice A80004_1 ((Zp l0_0 x37_2).f1).length c80004_1,.int .i64 ((Zp l0_0 x37_2).f2)] 73 (0,0)) (by(with_reducible repeat(first|refine Zu ?_ _|refine Zv ?_|refine Zs ?_ _));exact BK80005.out)):gb80005≠gb80012));have NB80012_80005:=Za ((by rw[hg];exact Nat.ne_of_gt (ZY (g:=gb80005) (o:=.cells #[.string ((Zp l0_0 x37_2).f0),.slice A80004_1 ((Zp l0_0 x37_2).f1).length c80004_1,.int .i64 ((Zp l0_0 x37_2).f2)] 73 (0,0)) (by(with_reducible repeat(first|refine Zu ?_ _|refine Zv ?_|refine Zs ?_ _));exact BK80005.out)):gb80012≠gb80005));replace BK80001:=Za (ZB (g:=gb80001) (o:=.cells #[.slice (some ad80004) l0_0.length c0_0,.slice A0_1 l0_1.length c0_1,.int .i64 a0_2] 36 (0,0)) (by(with_reducible repeat(first|refine Zu ?_ _|refine Zv ?_|refine Zs ?_ _));exact BK80001.out) hb);replace BK80005:=Za (ZB (g:=gb80005) (o:=.cells #[.string ((Zp l0_0 x37_2).f0),.slice A80004_1 ((Zp l0_0 x37_2).f1).length c80004_1,.int .i64 ((Zp l0_0 x37_2).f2)] 73 (0,0)) (by(with_reducible repeat(first|refine Zu ?_ _|refine Zv ?_|refine Zs ?_ _));exact BK80005.out) hb);replace HB:=Za (Zx (by repeat(first|(with_reducible first|exact HB.out|apply Zn|apply Zm|apply Zo|refine Zr ?_ GE80001.out|refine Zr ?_ GE80005.out)|exact HB.out)) hb);clear hb hbox hg;have hnb52:=NB80012_80001.out;have hnc52:=NB80001_80012.out;have hnb53:=NB80012_80005.out;have hnc53:=NB80005_80012.out;have hcz54_0:w51.cell? ⟨gb80012,0,none⟩=some (.string (⟨#[]⟩:ByteArray)):=(Zq BK80012.out 0).trans rfl;have hcz54_1:w51.cell? ⟨gb80012,1,none⟩=some (.slice none 0 0):=(Zq BK80012.out 1).trans rfl;have hcz54_2:w51.cell? ⟨gb80012,2,none⟩=some (.int .i64 0):=(Zq BK80012.out 2).trans rfl;have hfz54_0:=Zt BK80012.out 0;have hfz54_1:=Zt BK80012.out 1;have hfz54_2:=Zt BK80012.out 2;have hnb55:=NB80005_80001.out;have hnc55:=NB80001_80005.out;have hcz56_0:w51.cell? ⟨gb80005,0,none⟩=some (.string ((Zp l0_0 x37_2).f0)):=(Zq BK80005.out 0).trans rfl;have hcz56_1:w51.cell? ⟨gb80005,1,none⟩=some (.slice A80004_1 ((Zp l0_0 x37_2).f1).length c80004_1):=(Zq BK80005.out 1).trans rfl;have hcz56_2:w51.cell? ⟨gb80005,2,none⟩=some (.int .i64 ((Zp l0_0 x37_2).f2)):=(Zq BK80005.out 2).trans rfl;have hfz56_0:=Zt BK80005.out 0;have hfz56_1:=Zt BK80005.out 1;have hfz56_2:=Zt BK80005.out 2))
                   go_roundg k3
                   case measure=>have:=HJ1.out;have:=HK2.out;have:=HK3.out;omega
                   case rel=>exact⟨(wrap64 (x50_3+1)),(by first|rfl|(simp;done)|(simp[*];done)),H',⟨by have:=HJ1.out;have:=HK2.out;have:=HK3.out;omega⟩,⟨by(with_reducible repeat(first|refine Zu ?_ _|refine Zv ?_|refine Zs ?_ _));refine ZV ?_ NB80001_80012.out _;(with_reducible repeat(first|refine Zu ?_ _|refine Zv ?_|refine Zs ?_ _));refine ZV ?_ NB80001_80012.out _;(with_reducible repeat(first|refine Zu ?_ _|refine Zv ?_|refine Zs ?_ _));refine ZV ?_ NB80001_80012.out _;(with_reducible repeat(first|refine Zu ?_ _|refine Zv ?_|refine Zs ?_ _));exact BK80001.out⟩,⟨by(with_reducible repeat(first|refine Zu ?_ _|refine Zv ?_|refine Zs ?_ _));refine ZV ?_ NB80005_80012.out _;(with_reducible repeat(first|refine Zu ?_ _|refine Zv ?_|refine Zs ?_ _));refine ZV ?_ NB80005_80012.out _;(with_reducible repeat(first|refine Zu ?_ _|refine Zv ?_|refine Zs ?_ _));refine ZV ?_ NB80005_80012.out _;(with_reducible repeat(first|refine Zu ?_ _|refine Zv ?_|refine Zs ?_ _));exact BK80005.out⟩,⟨by repeat(first|(with_reducible first|exact HB.out|apply Zn|apply Zm|apply Zo|refine Zr ?_ GE80001.out|refine Zr ?_ GE80005.out|refine Zr ?_ GE80012.out)|exact HB.out)⟩⟩
               ·rw[if_neg c29] at H
                exact absurd H (by simp)
              ·rw[if_neg c28] at H
               exact absurd H (by simp)
             ·rw[if_neg c27] at H
              have c27b0:decide (x50_3<(y80007.length:Int))=false:=Zf c27
              clear c27
              have H':=Za H
              clear H
              go_wp2
              go_roundg k3
              case measure=>have:=HJ1.out;have:=HK2.out;have:=HK3.out;omega
              case rel=>exact⟨(wrap64 (x37_2+1)),(by first|rfl|(simp;done)|(simp[*];done)),H',⟨by have:=HJ1.out;have:=HK2.out;have:=HK3.out;omega⟩,⟨by(with_reducible repeat(first|refine Zu ?_ _|refine Zv ?_|refine Zs ?_ _));exact BK80001.out⟩,⟨by repeat(first|(with_reducible first|exact HB.out|apply Zn|apply Zm|apply Zo|refine Zr ?_ GE80001.out|refine Zr ?_ GE80005.out)|exact HB.out)⟩⟩
          ·rw[if_neg c20] at H
           exact absurd H (by simp)
         ·replace c18:=Bool.eq_false_iff.mpr c18
          subst c18
          have H1:(some false)=some r:=by rw[if_neg (show ¬(false=true) by decide)] at H;exact H
          clear H
          have H:=H1
          clear H1
          obtain rfl:=Zg H
          have p80004:0≤(x37_2:Int):=Zd (by first|(with_reducible assumption)|assumption)
          have q80004:x37_2<(l0_0.length:Int):=Zd (by first|(with_reducible assumption)|assumption)
          obtain⟨ad80004,A80004_1,c80004_1,e80004,hx80004_0,hx80004_1,hx80004_2,hl80004_1,hi80004_1⟩:=Zan HR0_0.out x37_2 p80004 q80004
          cases e80004
          replace hx80004_0:=(HB.out.cell (Zc w _ hx80004_0)).trans hx80004_0
          replace hx80004_1:=(HB.out.cell (Zc w _ hx80004_1)).trans hx80004_1
          replace hx80004_2:=(HB.out.cell (Zc w _ hx80004_2)).trans hx80004_2
          have HR80004_1:=Za hi80004_1;have HC80004_1:=Za hl80004_1;clear hi80004_1 hl80004_1
          replace p80004:=eq_true p80004
          replace q80004:=eq_true q80004
          go_wp2_with (first|((with_reducible refine ZN (N:=4) rfl ?_);(try(refine ZaP (by rfl) ?_;dsimp only));refine ZP ?hg (N:=4) ?hd (cs:=#[.string (⟨#[]⟩:ByteArray),.slice none 0 0,.int .i64 0]) (t:=73) ?hr ?_;(case hd=>rfl);(case hg=>rfl);(case hr=>first|(go_simp;done)|(go_simp;rfl));intro gb80005 hg w57 hbox hb;have BK80005:=Za (hbox);have GW80005:=Za ((by rw[hg];exact(Zy (by repeat(first|(with_reducible first|exact HB.out|apply Zn|apply Zm|apply Zo|refine Zr ?_ GE80001.out)|exact HB.out))):w.heap.size≤gb80005));have GE80005:=Za ((by rw[hg];exact(Zy (by repeat(first|(with_reducible first|exact HB.out|apply Zn|apply Zm|apply Zo|refine Zr ?_ GE80001.out)|exact HB.out))):w.heap.size≤gb80005));have NB80001_80005:=Za ((by rw[hg];exact Nat.ne_of_lt (ZY (g:=gb80001) (o:=.cells #[.slice (some ad80004) l0_0.length c0_0,.slice A0_1 l0_1.length c0_1,.int .i64 a0_2] 36 (0,0)) (by(with_reducible repeat(first|refine Zu ?_ _|refine Zv ?_|refine Zs ?_ _));exact BK80001.out)):gb80001≠gb80005));have NB80005_80001:=Za ((by rw[hg];exact Nat.ne_of_gt (ZY (g:=gb80001) (o:=.cells #[.slice (some ad80004) l0_0.length c0_0,.slice A0_1 l0_1.length c0_1,.int .i64 a0_2] 36 (0,0)) (by(with_reducible repeat(first|refine Zu ?_ _|refine Zv ?_|refine Zs ?_ _));exact BK80001.out)):gb80005≠gb80001));replace BK80001:=Za (ZB (g:=gb80001) (o:=.cells #[.slice (some ad80004) l0_0.length c0_0,.slice A0_1 l0_1.length c0_1,.int .i64 a0_2] 36 (0,0)) (by(with_reducible repeat(first|refine Zu ?_ _|refine Zv ?_|refine Zs ?_ _));exact BK80001.out) hb);replace HB:=Za (Zx (by repeat(first|(with_reducible first|exact HB.out|apply Zn|apply Zm|apply Zo|refine Zr ?_ GE80001.out)|exact HB.out)) hb);clear hb hbox hg;have hnb58:=NB80005_80001.out;have hnc58:=NB80001_80005.out;have hcz59_0:w57.cell? ⟨gb80005,0,none⟩=some (.string (⟨#[]⟩:ByteArray)):=(Zq BK80005.out 0).trans rfl;have hcz59_1:w57.cell? ⟨gb80005,1,none⟩=some (.slice none 0 0):=(Zq BK80005.out 1).trans rfl;have hcz59_2:w57.cell? ⟨gb80005,2,none⟩=some (.int .i64 0):=(Zq BK80005.out 2).trans rfl;have hfz59_0:=Zt BK80005.out 0;have hfz59_1:=Zt BK80005.out 1;have hfz59_2:=Zt BK80005.out 2)|((with_reducible refine ZG (f:=110) rfl ?_);refine ZX (some 43) rfl rfl Tryd.func110 (by kernel_rfl) rfl #[.agg #[.string ((Zp l0_0 x37_2).f0),.slice A80004_1 ((Zp l0_0 x37_2).f1).length c80004_1,.int .i64 ((Zp l0_0 x37_2).f2)]] rfl (by(try simp only[List.map_toArray,List.map_cons,List.map_nil]);first|done|rfl|(simp only[Zk,Zj];rfl)) ?_;(with_reducible refine(ZbH.calls k2 ((Zp l0_0 x37_2).f0) _ _ ((Zp l0_0 x37_2).f1) ((Zp l0_0 x37_2).f2) false _ ?side1 ?side2 A17.out).mono ?_);(case side1=>exact Zb HR80004_1.out (by repeat(first|(with_reducible first|exact HB.out|apply Zn|apply Zm|apply Zo|refine Zr ?_ GE80001.out|refine Zr ?_ GE80005.out)|exact HB.out)));(case side2=>exact HC80004_1.out);rintro e w60 ⟨rfl,hb⟩;refine⟨_,rfl,?_⟩;replace BK80001:=Za (ZB (g:=gb80001) (o:=.cells #[.slice (some ad80004) l0_0.length c0_0,.slice A0_1 l0_1.length c0_1,.int .i64 a0_2] 36 (0,0)) (by(with_reducible repeat(first|refine Zu ?_ _|refine Zv ?_|refine Zs ?_ _));refine ZV ?_ NB80001_80005.out _;(with_reducible repeat(first|refine Zu ?_ _|refine Zv ?_|refine Zs ?_ _));refine ZV ?_ NB80001_80005.out _;(with_reducible repeat(first|refine Zu ?_ _|refine Zv ?_|refine Zs ?_ _));refine ZV ?_ NB80001_80005.out _;(with_reducible repeat(first|refine Zu ?_ _|refine Zv ?_|refine Zs ?_ _));exact BK80001.out) hb);replace BK80005:=Za (ZB (g:=gb80005) (o:=.cells #[.string ((Zp l0_0 x37_2).f0),.slice A80004_1 ((Zp l0_0 x37_2).f1).length c80004_1,.int .i64 ((Zp l0_0 x37_2).f2)] 73 (0,0)) (by(with_reducible repeat(first|refine Zu ?_ _|refine Zv ?_|refine Zs ?_ _));refine Z6 (cs:=#[.string ((Zp l0_0 x37_2).f0),.slice A80004_1 ((Zp l0_0 x37_2).f1).length c80004_1,.int .i64 0]) ?_ 2 _ rfl;(with_reducible repeat(first|refine Zu ?_ _|refine Zv ?_|refine Zs ?_ _));refine Z6 (cs:=#[.string ((Zp l0_0 x37_2).f0),.slice none 0 0,.int .i64 0]) ?_ 1 _ rfl;(with_reducible repeat(first|refine Zu ?_ _|refine Zv ?_|refine Zs ?_ _));refine Z6 (cs:=#[.string (⟨#[]⟩:ByteArray),.slice none 0 0,.int .i64 0]) ?_ 0 _ rfl;(with_reducible repeat(first|refine Zu ?_ _|refine Zv ?_|refine Zs ?_ _));exact BK80005.out) hb);replace HB:=Za (Zx (by repeat(first|(with_reducible first|exact HB.out|apply Zn|apply Zm|apply Zo|refine Zr ?_ GE80001.out|refine Zr ?_ GE80005.out)|exact HB.out)) hb);(try clear hb);(try clear hb2);(try clear hk);(try clear hi)))
          go_ret
          exact⟨by first|rfl|(simp[ZA,Zz] <;> rfl)|(simp[*,ZA,Zz] <;> rfl),by repeat(first|(with_reducible first|exact HB.out|apply Zn|apply Zm|apply Zo|refine Zr ?_ GE80001.out|refine Zr ?_ GE80005.out)|exact HB.out)⟩
        ·rw[if_neg c16] at H
         exact absurd H (by simp)
       ·rw[if_neg c15] at H
        exact absurd H (by simp)
      ·rw[if_neg c14] at H
       have c14b0:decide (x37_2<(l0_0.length:Int))=false:=Zf c14
       clear c14
       obtain rfl:=Zg H
       go_wp2
       go_ret
       exact⟨by first|rfl|(simp[ZA,Zz] <;> rfl)|(simp[*,ZA,Zz] <;> rfl),by repeat(first|(with_reducible first|exact HB.out|apply Zn|apply Zm|apply Zo|refine Zr ?_ GE80001.out)|exact HB.out)⟩
end Go.Proofs.YthphnhmabieflaaDoor.Pr
