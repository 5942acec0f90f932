/- The texts of one claim, put together by a program of this session. -/
import Derived.Test.YtoeimopgoaffcaaGreatDoorBBpc1x1
import Derived.Test.YtoeimopgoaffcaaGreatDoorBBpc1x2
namespace Go.Proofs.YtoeimopgoaffcaaGreatDoor.Pr
open Go.RowKit Go.Proofs.YtoeimopgoaffcaaGreatDoorW.PrintWords Go.Proofs.YtoeimopgoaffcaaGreatDoorW.PrintLast Go.Proofs.YtoeimopgoaffcaaGreatDoorW.PrintMore
attribute [local go_sem] Z2 Z0 Zac Zab ZU ZT Z1 ZZ
set_option linter.unusedVariables false
set_option linter.unusedSimpArgs false
def Zax.l0:Nat→ByteArray→Int→Option (Bool)
 | 0,_,_=>none
 | k+1,x0,x3=>if x3<(x0.size:Int) then(if 0≤x3 then(if (bt x0 x3)≥97 then(if ((bt x0 x3)≤122) then(Zax.l0 k x0 (wrap64 (x3+1))) else(if x3=0 then(some false) else(if (bt x0 x3)<48 then(some false) else(if (bt x0 x3) > 57 then(some false) else(Zax.l0 k x0 (wrap64 (x3+1))))))) else(if x3=0 then(some false) else(if (bt x0 x3)<48 then(some false) else(if (bt x0 x3) > 57 then(some false) else(Zax.l0 k x0 (wrap64 (x3+1))))))) else(none)) else((ZY.f (x0.size:Int) 1 8).bind fun t206001=>(some t206001))
def Zax.f (k:Nat) (a0:ByteArray):Option (Bool):=Zax.l0 k a0 0
set_option maxHeartbeats 8000000 in
set_option maxRecDepth 100000 in
theorem Zax.calls (k:Nat) (a0:ByteArray) (r:Bool) (w:World) (h:Zax.f k a0=some r) :
  Calls Tryz.prog 206 #[.string a0] w fun e w'=>e=.returned (.bool r)∧ZF w w':=by
 have H:(Zax.l0 k a0 0)=some r:=h
 clear h
 have H':=Za H
 clear H
 go_enter Tryz.func206,Tryz.ntmps206
 go_wp2
 go_loopg [3] k (fun kq v3 w'=>∃(x3_1:Int),v3=.int .i64 x3_1∧Aside0 (Zax.l0 kq a0 x3_1=some r)∧Aside0 (kq≤k)∧ZF w w')
 case atStart=>exact⟨(0),(by first|rfl|(simp;done)|(simp[*];done)),H',⟨Nat.le_refl _⟩,by repeat(first|exact ZF.refl _|apply ZF.step)⟩
 case round=>
  clear H'
  obtain⟨x3_1,rfl,HA,HK1,⟨m1,rfl⟩⟩:=hrel
  cases gk with
  | zero=>exact absurd HA.out (by simp[Zax.l0])
  | succ k1=>
   have H:=HA.out
   clear HA
   simp only[Zax.l0] at H
   by_cases c2:x3_1<(a0.size:Int)
   ·rw[if_pos c2] at H
    have c2b0:decide (x3_1<(a0.size:Int))=true:=Ze c2
    clear c2
    by_cases c3:0≤x3_1
    ·rw[if_pos c3] at H
     have c3b0:decide (0≤x3_1)=true:=Ze c3
     clear c3
     by_cases c5:(bt a0 x3_1)≥97
     ·rw[if_pos c5] at H
      have c5b0:decide (97≤(bt a0 x3_1))=true:=Ze c5
      clear c5
      by_cases c7:((bt a0 x3_1)≤122)
      ·rw[if_pos c7] at H
       have c7b0:decide ((bt a0 x3_1)≤122)=true:=Ze c7
       clear c7
       have H':=Za H
       clear H
       have p4:0≤(x3_1:Int):=Zd (by first|(with_reducible assumption)|assumption)
       have q4:x3_1<(a0.size:Int):=Zd (by first|(with_reducible assumption)|assumption)
       have hx4:=Zal a0 x3_1
       replace p4:=eq_true p4
       replace q4:=eq_true q4
       have p6:0≤(x3_1:Int):=Zd (by first|(with_reducible assumption)|assumption)
       have q6:x3_1<(a0.size:Int):=Zd (by first|(with_reducible assumption)|assumption)
       have hx6:=Zal a0 x3_1
       replace p6:=eq_true p6
       replace q6:=eq_true q6
       go_wp2
       go_roundg k1
       case measure=>have:=HK1.out;omega
       case rel=>exact⟨(wrap64 (x3_1+1)),(by first|rfl|(simp;done)|(simp[*];done)),H',⟨by have:=HK1.out;omega⟩,by repeat(first|exact ZF.refl _|apply ZF.step)⟩
      ·rw[if_neg c7] at H
       have c7b0:decide ((bt a0 x3_1)≤122)=false:=Zf c7
       clear c7
       by_cases c8:x3_1=0
       ·rw[if_pos c8] at H
        have c8b0:(x3_1 == 0)=true:=beq_iff_eq.mpr c8
        clear c8
        obtain rfl:=Zg H
        have p4:0≤(x3_1:Int):=Zd (by first|(with_reducible assumption)|assumption)
        have q4:x3_1<(a0.size:Int):=Zd (by first|(with_reducible assumption)|assumption)
        have hx4:=Zal a0 x3_1
        replace p4:=eq_true p4
        replace q4:=eq_true q4
        have p6:0≤(x3_1:Int):=Zd (by first|(with_reducible assumption)|assumption)
        have q6:x3_1<(a0.size:Int):=Zd (by first|(with_reducible assumption)|assumption)
        have hx6:=Zal a0 x3_1
        replace p6:=eq_true p6
        replace q6:=eq_true q6
        go_wp2
        go_ret
        exact⟨by first|rfl|(simp;done)|(simp[*];done),by repeat(first|exact ZF.refl _|apply ZF.step)⟩
       ·rw[if_neg c8] at H
        have c8b0:(x3_1 == 0)=false:=beq_eq_false_iff_ne.mpr c8
        by_cases c10:(bt a0 x3_1)<48
        ·rw[if_pos c10] at H
         have c10b0:decide ((bt a0 x3_1)<48)=true:=Ze c10
         clear c10
         obtain rfl:=Zg H
         have p4:0≤(x3_1:Int):=Zd (by first|(with_reducible assumption)|assumption)
         have q4:x3_1<(a0.size:Int):=Zd (by first|(with_reducible assumption)|assumption)
         have hx4:=Zal a0 x3_1
         replace p4:=eq_true p4
         replace q4:=eq_true q4
         have p6:0≤(x3_1:Int):=Zd (by first|(with_reducible assumption)|assumption)
         have q6:x3_1<(a0.size:Int):=Zd (by first|(with_reducible assumption)|assumption)
         have hx6:=Zal a0 x3_1
         replace p6:=eq_true p6
         replace q6:=eq_true q6
         have p9:0≤(x3_1:Int):=Zd (by first|(with_reducible assumption)|assumption)
         have q9:x3_1<(a0.size:Int):=Zd (by first|(with_reducible assumption)|assumption)
         have hx9:=Zal a0 x3_1
         replace p9:=eq_true p9
         replace q9:=eq_true q9
         go_wp2
         go_ret
         exact⟨by first|rfl|(simp;done)|(simp[*];done),by repeat(first|exact ZF.refl _|apply ZF.step)⟩
        ·rw[if_neg c10] at H
         have c10b0:decide ((bt a0 x3_1)<48)=false:=Zf c10
         clear c10
         by_cases c12:(bt a0 x3_1) > 57
         ·rw[if_pos c12] at H
          have c12b0:decide (57<(bt a0 x3_1))=true:=Ze c12
          clear c12
          obtain rfl:=Zg H
          have p4:0≤(x3_1:Int):=Zd (by first|(with_reducible assumption)|assumption)
          have q4:x3_1<(a0.size:Int):=Zd (by first|(with_reducible assumption)|assumption)
          have hx4:=Zal a0 x3_1
          replace p4:=eq_true p4
          replace q4:=eq_true q4
          have p6:0≤(x3_1:Int):=Zd (by first|(with_reducible assumption)|assumption)
          have q6:x3_1<(a0.size:Int):=Zd (by first|(with_reducible assumption)|assumption)
          have hx6:=Zal a0 x3_1
          replace p6:=eq_true p6
          replace q6:=eq_true q6
          have p9:0≤(x3_1:Int):=Zd (by first|(with_reducible assumption)|assumption)
          have q9:x3_1<(a0.size:Int):=Zd (by first|(with_reducible assumption)|assumption)
          have hx9:=Zal a0 x3_1
          replace p9:=eq_true p9
          replace q9:=eq_true q9
          have p11:0≤(x3_1:Int):=Zd (by first|(with_reducible assumption)|assumption)
          have q11:x3_1<(a0.size:Int):=Zd (by first|(with_reducible assumption)|assumption)
          have hx11:=Zal a0 x3_1
          replace p11:=eq_true p11
          replace q11:=eq_true q11
          go_wp2
          go_ret
          exact⟨by first|rfl|(simp;done)|(simp[*];done),by repeat(first|exact ZF.refl _|apply ZF.step)⟩
         ·rw[if_neg c12] at H
          have c12b0:decide (57<(bt a0 x3_1))=false:=Zf c12
          clear c12
          have H':=Za H
          clear H
          have p4:0≤(x3_1:Int):=Zd (by first|(with_reducible assumption)|assumption)
          have q4:x3_1<(a0.size:Int):=Zd (by first|(with_reducible assumption)|assumption)
          have hx4:=Zal a0 x3_1
          replace p4:=eq_true p4
          replace q4:=eq_true q4
          have p6:0≤(x3_1:Int):=Zd (by first|(with_reducible assumption)|assumption)
          have q6:x3_1<(a0.size:Int):=Zd (by first|(with_reducible assumption)|assumption)
          have hx6:=Zal a0 x3_1
          replace p6:=eq_true p6
          replace q6:=eq_true q6
          have p9:0≤(x3_1:Int):=Zd (by first|(with_reducible assumption)|assumption)
          have q9:x3_1<(a0.size:Int):=Zd (by first|(with_reducible assumption)|assumption)
          have hx9:=Zal a0 x3_1
          replace p9:=eq_true p9
          replace q9:=eq_true q9
          have p11:0≤(x3_1:Int):=Zd (by first|(with_reducible assumption)|assumption)
          have q11:x3_1<(a0.size:Int):=Zd (by first|(with_reducible assumption)|assumption)
          have hx11:=Zal a0 x3_1
          replace p11:=eq_true p11
          replace q11:=eq_true q11
          go_wp2
          go_roundg k1
          case measure=>have:=HK1.out;omega
          case rel=>exact⟨(wrap64 (x3_1+1)),(by first|rfl|(simp;done)|(simp[*];done)),H',⟨by have:=HK1.out;omega⟩,by repeat(first|exact ZF.refl _|apply ZF.step)⟩
     ·rw[if_neg c5] at H
      have c5b0:decide (97≤(bt a0 x3_1))=false:=Zf c5
      clear c5
      by_cases c13:x3_1=0
      ·rw[if_pos c13] at H
       have c13b0:(x3_1 == 0)=true:=beq_iff_eq.mpr c13
       clear c13
       obtain rfl:=Zg H
       have p4:0≤(x3_1:Int):=Zd (by first|(with_reducible assumption)|assumption)
       have q4:x3_1<(a0.size:Int):=Zd (by first|(with_reducible assumption)|assumption)
       have hx4:=Zal a0 x3_1
       replace p4:=eq_true p4
       replace q4:=eq_true q4
       go_wp2
       go_ret
       exact⟨by first|rfl|(simp;done)|(simp[*];done),by repeat(first|exact ZF.refl _|apply ZF.step)⟩
      ·rw[if_neg c13] at H
       have c13b0:(x3_1 == 0)=false:=beq_eq_false_iff_ne.mpr c13
       by_cases c15:(bt a0 x3_1)<48
       ·rw[if_pos c15] at H
        have c15b0:decide ((bt a0 x3_1)<48)=true:=Ze c15
        clear c15
        obtain rfl:=Zg H
        have p4:0≤(x3_1:Int):=Zd (by first|(with_reducible assumption)|assumption)
        have q4:x3_1<(a0.size:Int):=Zd (by first|(with_reducible assumption)|assumption)
        have hx4:=Zal a0 x3_1
        replace p4:=eq_true p4
        replace q4:=eq_true q4
        have p14:0≤(x3_1:Int):=Zd (by first|(with_reducible assumption)|assumption)
        have q14:x3_1<(a0.size:Int):=Zd (by first|(with_reducible assumption)|assumption)
        have hx14:=Zal a0 x3_1
        replace p14:=eq_true p14
        replace q14:=eq_true q14
        go_wp2
        go_ret
        exact⟨by first|rfl|(simp;done)|(simp[*];done),by repeat(first|exact ZF.refl _|apply ZF.step)⟩
       ·rw[if_neg c15] at H
        have c15b0:decide ((bt a0 x3_1)<48)=false:=Zf c15
        clear c15
        by_cases c17:(bt a0 x3_1) > 57
        ·rw[if_pos c17] at H
         have c17b0:decide (57<(bt a0 x3_1))=true:=Ze c17
         clear c17
         obtain rfl:=Zg H
         have p4:0≤(x3_1:Int):=Zd (by first|(with_reducible assumption)|assumption)
         have q4:x3_1<(a0.size:Int):=Zd (by first|(with_reducible assumption)|assumption)
         have hx4:=Zal a0 x3_1
         replace p4:=eq_true p4
         replace q4:=eq_true q4
         have p14:0≤(x3_1:Int):=Zd (by first|(with_reducible assumption)|assumption)
         have q14:x3_1<(a0.size:Int):=Zd (by first|(with_reducible assumption)|assumption)
         have hx14:=Zal a0 x3_1
         replace p14:=eq_true p14
         replace q14:=eq_true q14
         have p16:0≤(x3_1:Int):=Zd (by first|(with_reducible assumption)|assumption)
         have q16:x3_1<(a0.size:Int):=Zd (by first|(with_reducible assumption)|assumption)
         have hx16:=Zal a0 x3_1
         replace p16:=eq_true p16
         replace q16:=eq_true q16
         go_wp2
         go_ret
         exact⟨by first|rfl|(simp;done)|(simp[*];done),by repeat(first|exact ZF.refl _|apply ZF.step)⟩
        ·rw[if_neg c17] at H
         have c17b0:decide (57<(bt a0 x3_1))=false:=Zf c17
         clear c17
         have H':=Za H
         clear H
         have p4:0≤(x3_1:Int):=Zd (by first|(with_reducible assumption)|assumption)
         have q4:x3_1<(a0.size:Int):=Zd (by first|(with_reducible assumption)|assumption)
         have hx4:=Zal a0 x3_1
         replace p4:=eq_true p4
         replace q4:=eq_true q4
         have p14:0≤(x3_1:Int):=Zd (by first|(with_reducible assumption)|assumption)
         have q14:x3_1<(a0.size:Int):=Zd (by first|(with_reducible assumption)|assumption)
         have hx14:=Zal a0 x3_1
         replace p14:=eq_true p14
         replace q14:=eq_true q14
         have p16:0≤(x3_1:Int):=Zd (by first|(with_reducible assumption)|assumption)
         have q16:x3_1<(a0.size:Int):=Zd (by first|(with_reducible assumption)|assumption)
         have hx16:=Zal a0 x3_1
         replace p16:=eq_true p16
         replace q16:=eq_true q16
         go_wp2
         go_roundg k1
         case measure=>have:=HK1.out;omega
         case rel=>exact⟨(wrap64 (x3_1+1)),(by first|rfl|(simp;done)|(simp[*];done)),H',⟨by have:=HK1.out;omega⟩,by repeat(first|exact ZF.refl _|apply ZF.step)⟩
    ·rw[if_neg c3] at H
     exact absurd H (by simp)
   ·rw[if_neg c2] at H
    have c2b0:decide (x3_1<(a0.size:Int))=false:=Zf c2
    clear c2
    replace H:=Zh H
    obtain⟨t206001,A180,H⟩:=H;have A18:=Za A180;clear A180
    obtain rfl:=Zg H
    go_wp2_with (first|((with_reducible refine ZK (f:=127) rfl ?_);refine Z6 (some 41) rfl rfl Tryz.func127 (by kernel_rfl) rfl #[.int .i64 (a0.size:Int),.int .i64 1,.int .i64 8] rfl (by(try simp only[List.map_toArray,List.map_cons,List.map_nil]);first|done|rfl|(simp only[Zk,Zj];rfl)) ?_;(with_reducible refine(ZY.calls (a0.size:Int) 1 8 t206001 _ A18.out).mono ?_);rintro e w' ⟨rfl,⟨nd,rfl⟩⟩;refine⟨_,rfl,?_⟩))
    go_ret
    exact⟨by first|rfl|(simp;done)|(simp[*];done),by repeat(first|exact ZF.refl _|apply ZF.step)⟩
def Zar.l0:Nat→ByteArray→Int→Option (Bool)
 | 0,_,_=>none
 | k+1,x0,x3=>if x3<(x0.size:Int) then(if 0≤x3 then(if (bt x0 x3)≥97 then(if (bt x0 x3)≥48 then(if ((bt x0 x3)≤122) then(Zar.l0 k x0 (wrap64 (x3+1))) else(if ((bt x0 x3)≤57) then(if x3=0 then(some false) else(Zar.l0 k x0 (wrap64 (x3+1)))) else(some false))) else(if ((bt x0 x3)≤122) then(Zar.l0 k x0 (wrap64 (x3+1))) else(some false))) else(if (bt x0 x3)≥48 then(if ((bt x0 x3)≤57) then(if x3=0 then(some false) else(Zar.l0 k x0 (wrap64 (x3+1)))) else(some false)) else(some false))) else(none)) else(if (x0.size:Int)≥1 then(some (decide ((x0.size:Int)≤8))) else(some false))
def Zar.f (k:Nat) (a0:ByteArray):Option (Bool):=Zar.l0 k a0 0
set_option maxHeartbeats 8000000 in
set_option maxRecDepth 100000 in
theorem Zar.calls (k:Nat) (a0:ByteArray) (r:Bool) (w:World) (h:Zar.f k a0=some r) :
  Calls Tryz.prog 86 #[.string a0] w fun e w'=>e=.returned (.bool r)∧ZF w w':=by
 have H:(Zar.l0 k a0 0)=some r:=h
 clear h
 have H':=Za H
 clear H
 go_enter Tryz.func86,Tryz.ntmps86
 go_wp2
 repeat(go_quiet (fail);try go_wp2)
 go_loopg [3] k (fun kq v3 w'=>∃(x3_1:Int),v3=.int .i64 x3_1∧Aside0 (Zar.l0 kq a0 x3_1=some r)∧Aside0 (kq≤k)∧ZF w w')
 case atStart=>exact⟨(0),(by first|rfl|(simp;done)|(simp[*];done)),H',⟨Nat.le_refl _⟩,by repeat(first|exact ZF.refl _|apply ZF.step)⟩
 case round=>
  clear H'
  obtain⟨x3_1,rfl,HA,HK1,⟨m1,rfl⟩⟩:=hrel
  cases gk with
  | zero=>exact absurd HA.out (by simp[Zar.l0])
  | succ k1=>
   have H:=HA.out
   clear HA
   simp only[Zar.l0] at H
   by_cases c2:x3_1<(a0.size:Int)
   ·rw[if_pos c2] at H
    have c2b0:decide (x3_1<(a0.size:Int))=true:=Ze c2
    clear c2
    by_cases c3:0≤x3_1
    ·rw[if_pos c3] at H
     have c3b0:decide (0≤x3_1)=true:=Ze c3
     clear c3
     by_cases c5:(bt a0 x3_1)≥97
     ·rw[if_pos c5] at H
      have c5b0:decide (97≤(bt a0 x3_1))=true:=Ze c5
      clear c5
      by_cases c8:(bt a0 x3_1)≥48
      ·rw[if_pos c8] at H
       have c8b0:decide (48≤(bt a0 x3_1))=true:=Ze c8
       clear c8
       by_cases c10:((bt a0 x3_1)≤122)
       ·rw[if_pos c10] at H
        have c10b0:decide ((bt a0 x3_1)≤122)=true:=Ze c10
        clear c10
        have H':=Za H
        clear H
        have p4:0≤(x3_1:Int):=Zd (by first|(with_reducible assumption)|assumption)
        have q4:x3_1<(a0.size:Int):=Zd (by first|(with_reducible assumption)|assumption)
        have hx4:=Zal a0 x3_1
        replace p4:=eq_true p4
        replace q4:=eq_true q4
        have p6:0≤(x3_1:Int):=Zd (by first|(with_reducible assumption)|assumption)
        have q6:x3_1<(a0.size:Int):=Zd (by first|(with_reducible assumption)|assumption)
        have hx6:=Zal a0 x3_1
        replace p6:=eq_true p6
        replace q6:=eq_true q6
        have p7:0≤(x3_1:Int):=Zd (by first|(with_reducible assumption)|assumption)
        have q7:x3_1<(a0.size:Int):=Zd (by first|(with_reducible assumption)|assumption)
        have hx7:=Zal a0 x3_1
        replace p7:=eq_true p7
        replace q7:=eq_true q7
        have p9:0≤(x3_1:Int):=Zd (by first|(with_reducible assumption)|assumption)
        have q9:x3_1<(a0.size:Int):=Zd (by first|(with_reducible assumption)|assumption)
        have hx9:=Zal a0 x3_1
        replace p9:=eq_true p9
        replace q9:=eq_true q9
        go_wp2
        repeat(go_quiet (fail);try go_wp2)
        go_roundg k1
        case measure=>have:=HK1.out;omega
        case rel=>exact⟨(wrap64 (x3_1+1)),(by first|rfl|(simp;done)|(simp[*];done)),H',⟨by have:=HK1.out;omega⟩,by repeat(first|exact ZF.refl _|apply ZF.step)⟩
       ·rw[if_neg c10] at H
        have c10b0:decide ((bt a0 x3_1)≤122)=false:=Zf c10
        clear c10
        by_cases c11:((bt a0 x3_1)≤57)
        ·rw[if_pos c11] at H
         have c11b0:decide ((bt a0 x3_1)≤57)=true:=Ze c11
         clear c11
         by_cases c12:x3_1=0
         ·rw[if_pos c12] at H
          have c12b0:(x3_1 == 0)=true:=beq_iff_eq.mpr c12
          clear c12
          obtain rfl:=Zg H
          have p4:0≤(x3_1:Int):=Zd (by first|(with_reducible assumption)|assumption)
          have q4:x3_1<(a0.size:Int):=Zd (by first|(with_reducible assumption)|assumption)
          have hx4:=Zal a0 x3_1
          replace p4:=eq_true p4
          replace q4:=eq_true q4
          have p6:0≤(x3_1:Int):=Zd (by first|(with_reducible assumption)|assumption)
          have q6:x3_1<(a0.size:Int):=Zd (by first|(with_reducible assumption)|assumption)
          have hx6:=Zal a0 x3_1
          replace p6:=eq_true p6
          replace q6:=eq_true q6
          have p7:0≤(x3_1:Int):=Zd (by first|(with_reducible assumption)|assumption)
          have q7:x3_1<(a0.size:Int):=Zd (by first|(with_reducible assumption)|assumption)
          have hx7:=Zal a0 x3_1
          replace p7:=eq_true p7
          replace q7:=eq_true q7
          have p9:0≤(x3_1:Int):=Zd (by first|(with_reducible assumption)|assumption)
          have q9:x3_1<(a0.size:Int):=Zd (by first|(with_reducible assumption)|assumption)
          have hx9:=Zal a0 x3_1
          replace p9:=eq_true p9
          replace q9:=eq_true q9
          go_wp2
          repeat(go_quiet (fail);try go_wp2)
          go_ret
          exact⟨by first|rfl|(simp;done)|(simp[*];done),by repeat(first|exact ZF.refl _|apply ZF.step)⟩
         ·rw[if_neg c12] at H
          have c12b0:(x3_1 == 0)=false:=beq_eq_false_iff_ne.mpr c12
          have H':=Za H
          clear H
          have p4:0≤(x3_1:Int):=Zd (by first|(with_reducible assumption)|assumption)
          have q4:x3_1<(a0.size:Int):=Zd (by first|(with_reducible assumption)|assumption)
          have hx4:=Zal a0 x3_1
          replace p4:=eq_true p4
          replace q4:=eq_true q4
          have p6:0≤(x3_1:Int):=Zd (by first|(with_reducible assumption)|assumption)
          have q6:x3_1<(a0.size:Int):=Zd (by first|(with_reducible assumption)|assumption)
          have hx6:=Zal a0 x3_1
          replace p6:=eq_true p6
          replace q6:=eq_true q6
          have p7:0≤(x3_1:Int):=Zd (by first|(with_reducible assumption)|assumption)
          have q7:x3_1<(a0.size:Int):=Zd (by first|(with_reducible assumption)|assumption)
          have hx7:=Zal a0 x3_1
          replace p7:=eq_true p7
          replace q7:=eq_true q7
          have p9:0≤(x3_1:Int):=Zd (by first|(with_reducible assumption)|assumption)
          have q9:x3_1<(a0.size:Int):=Zd (by first|(with_reducible assumption)|assumption)
          have hx9:=Zal a0 x3_1
          replace p9:=eq_true p9
          replace q9:=eq_true q9
          go_wp2
          repeat(go_quiet (fail);try go_wp2)
          go_roundg k1
          case measure=>have:=HK1.out;omega
          case rel=>exact⟨(wrap64 (x3_1+1)),(by first|rfl|(simp;done)|(simp[*];done)),H',⟨by have:=HK1.out;omega⟩,by repeat(first|exact ZF.refl _|apply ZF.step)⟩
        ·rw[if_neg c11] at H
         have c11b0:decide ((bt a0 x3_1)≤57)=false:=Zf c11
         clear c11
         obtain rfl:=Zg H
         have p4:0≤(x3_1:Int):=Zd (by first|(with_reducible assumption)|assumption)
         have q4:x3_1<(a0.size:Int):=Zd (by first|(with_reducible assumption)|assumption)
         have hx4:=Zal a0 x3_1
         replace p4:=eq_true p4
         replace q4:=eq_true q4
         have p6:0≤(x3_1:Int):=Zd (by first|(with_reducible assumption)|assumption)
         have q6:x3_1<(a0.size:Int):=Zd (by first|(with_reducible assumption)|assumption)
         have hx6:=Zal a0 x3_1
         replace p6:=eq_true p6
         replace q6:=eq_true q6
         have p7:0≤(x3_1:Int):=Zd (by first|(with_reducible assumption)|assumption)
         have q7:x3_1<(a0.size:Int):=Zd (by first|(with_reducible assumption)|assumption)
         have hx7:=Zal a0 x3_1
         replace p7:=eq_true p7
         replace q7:=eq_true q7
         have p9:0≤(x3_1:Int):=Zd (by first|(with_reducible assumption)|assumption)
         have q9:x3_1<(a0.size:Int):=Zd (by first|(with_reducible assumption)|assumption)
         have hx9:=Zal a0 x3_1
         replace p9:=eq_true p9
         replace q9:=eq_true q9
         go_wp2
         repeat(go_quiet (fail);try go_wp2)
         go_ret
         exact⟨by first|rfl|(simp;done)|(simp[*];done),by repeat(first|exact ZF.refl _|apply ZF.step)⟩
      ·rw[if_neg c8] at H
       have c8b0:decide (48≤(bt a0 x3_1))=false:=Zf c8
       clear c8
       by_cases c13:((bt a0 x3_1)≤122)
       ·rw[if_pos c13] at H
        have c13b0:decide ((bt a0 x3_1)≤122)=true:=Ze c13
        clear c13
        have H':=Za H
        clear H
        have p4:0≤(x3_1:Int):=Zd (by first|(with_reducible assumption)|assumption)
        have q4:x3_1<(a0.size:Int):=Zd (by first|(with_reducible assumption)|assumption)
        have hx4:=Zal a0 x3_1
        replace p4:=eq_true p4
        replace q4:=eq_true q4
        have p6:0≤(x3_1:Int):=Zd (by first|(with_reducible assumption)|assumption)
        have q6:x3_1<(a0.size:Int):=Zd (by first|(with_reducible assumption)|assumption)
        have hx6:=Zal a0 x3_1
        replace p6:=eq_true p6
        replace q6:=eq_true q6
        have p7:0≤(x3_1:Int):=Zd (by first|(with_reducible assumption)|assumption)
        have q7:x3_1<(a0.size:Int):=Zd (by first|(with_reducible assumption)|assumption)
        have hx7:=Zal a0 x3_1
        replace p7:=eq_true p7
        replace q7:=eq_true q7
        go_wp2
        repeat(go_quiet (fail);try go_wp2)
        go_roundg k1
        case measure=>have:=HK1.out;omega
        case rel=>exact⟨(wrap64 (x3_1+1)),(by first|rfl|(simp;done)|(simp[*];done)),H',⟨by have:=HK1.out;omega⟩,by repeat(first|exact ZF.refl _|apply ZF.step)⟩
       ·rw[if_neg c13] at H
        have c13b0:decide ((bt a0 x3_1)≤122)=false:=Zf c13
        clear c13
        obtain rfl:=Zg H
        have p4:0≤(x3_1:Int):=Zd (by first|(with_reducible assumption)|assumption)
        have q4:x3_1<(a0.size:Int):=Zd (by first|(with_reducible assumption)|assumption)
        have hx4:=Zal a0 x3_1
        replace p4:=eq_true p4
        replace q4:=eq_true q4
        have p6:0≤(x3_1:Int):=Zd (by first|(with_reducible assumption)|assumption)
        have q6:x3_1<(a0.size:Int):=Zd (by first|(with_reducible assumption)|assumption)
        have hx6:=Zal a0 x3_1
        replace p6:=eq_true p6
        replace q6:=eq_true q6
        have p7:0≤(x3_1:Int):=Zd (by first|(with_reducible assumption)|assumption)
        have q7:x3_1<(a0.size:Int):=Zd (by first|(with_reducible assumption)|assumption)
        have hx7:=Zal a0 x3_1
        replace p7:=eq_true p7
        replace q7:=eq_true q7
        go_wp2
        repeat(go_quiet (fail);try go_wp2)
        go_ret
        exact⟨by first|rfl|(simp;done)|(simp[*];done),by repeat(first|exact ZF.refl _|apply ZF.step)⟩
     ·rw[if_neg c5] at H
      have c5b0:decide (97≤(bt a0 x3_1))=false:=Zf c5
      clear c5
      by_cases c15:(bt a0 x3_1)≥48
      ·rw[if_pos c15] at H
       have c15b0:decide (48≤(bt a0 x3_1))=true:=Ze c15
       clear c15
       by_cases c17:((bt a0 x3_1)≤57)
       ·rw[if_pos c17] at H
        have c17b0:decide ((bt a0 x3_1)≤57)=true:=Ze c17
        clear c17
        by_cases c18:x3_1=0
        ·rw[if_pos c18] at H
         have c18b0:(x3_1 == 0)=true:=beq_iff_eq.mpr c18
         clear c18
         obtain rfl:=Zg H
         have p4:0≤(x3_1:Int):=Zd (by first|(with_reducible assumption)|assumption)
         have q4:x3_1<(a0.size:Int):=Zd (by first|(with_reducible assumption)|assumption)
         have hx4:=Zal a0 x3_1
         replace p4:=eq_true p4
         replace q4:=eq_true q4
         have p14:0≤(x3_1:Int):=Zd (by first|(with_reducible assumption)|assumption)
         have q14:x3_1<(a0.size:Int):=Zd (by first|(with_reducible assumption)|assumption)
         have hx14:=Zal a0 x3_1
         replace p14:=eq_true p14
         replace q14:=eq_true q14
         have p16:0≤(x3_1:Int):=Zd (by first|(with_reducible assumption)|assumption)
         have q16:x3_1<(a0.size:Int):=Zd (by first|(with_reducible assumption)|assumption)
         have hx16:=Zal a0 x3_1
         replace p16:=eq_true p16
         replace q16:=eq_true q16
         go_wp2
         repeat(go_quiet (fail);try go_wp2)
         go_ret
         exact⟨by first|rfl|(simp;done)|(simp[*];done),by repeat(first|exact ZF.refl _|apply ZF.step)⟩
        ·rw[if_neg c18] at H
         have c18b0:(x3_1 == 0)=false:=beq_eq_false_iff_ne.mpr c18
         have H':=Za H
         clear H
         have p4:0≤(x3_1:Int):=Zd (by first|(with_reducible assumption)|assumption)
         have q4:x3_1<(a0.size:Int):=Zd (by first|(with_reducible assumption)|assumption)
         have hx4:=Zal a0 x3_1
         replace p4:=eq_true p4
         replace q4:=eq_true q4
         have p14:0≤(x3_1:Int):=Zd (by first|(with_reducible assumption)|assumption)
         have q14:x3_1<(a0.size:Int):=Zd (by first|(with_reducible assumption)|assumption)
         have hx14:=Zal a0 x3_1
         replace p14:=eq_true p14
         replace q14:=eq_true q14
         have p16:0≤(x3_1:Int):=Zd (by first|(with_reducible assumption)|assumption)
         have q16:x3_1<(a0.size:Int):=Zd (by first|(with_reducible assumption)|assumption)
         have hx16:=Zal a0 x3_1
         replace p16:=eq_true p16
         replace q16:=eq_true q16
         go_wp2
         repeat(go_quiet (fail);try go_wp2)
         go_roundg k1
         case measure=>have:=HK1.out;omega
         case rel=>exact⟨(wrap64 (x3_1+1)),(by first|rfl|(simp;done)|(simp[*];done)),H',⟨by have:=HK1.out;omega⟩,by repeat(first|exact ZF.refl _|apply ZF.step)⟩
       ·rw[if_neg c17] at H
        have c17b0:decide ((bt a0 x3_1)≤57)=false:=Zf c17
        clear c17
        obtain rfl:=Zg H
        have p4:0≤(x3_1:Int):=Zd (by first|(with_reducible assumption)|assumption)
        have q4:x3_1<(a0.size:Int):=Zd (by first|(with_reducible assumption)|assumption)
        have hx4:=Zal a0 x3_1
        replace p4:=eq_true p4
        replace q4:=eq_true q4
        have p14:0≤(x3_1:Int):=Zd (by first|(with_reducible assumption)|assumption)
        have q14:x3_1<(a0.size:Int):=Zd (by first|(with_reducible assumption)|assumption)
        have hx14:=Zal a0 x3_1
        replace p14:=eq_true p14
        replace q14:=eq_true q14
        have p16:0≤(x3_1:Int):=Zd (by first|(with_reducible assumption)|assumption)
        have q16:x3_1<(a0.size:Int):=Zd (by first|(with_reducible assumption)|assumption)
        have hx16:=Zal a0 x3_1
        replace p16:=eq_true p16
        replace q16:=eq_true q16
        go_wp2
        repeat(go_quiet (fail);try go_wp2)
        go_ret
        exact⟨by first|rfl|(simp;done)|(simp[*];done),by repeat(first|exact ZF.refl _|apply ZF.step)⟩
      ·rw[if_neg c15] at H
       have c15b0:decide (48≤(bt a0 x3_1))=false:=Zf c15
       clear c15
       obtain rfl:=Zg H
       have p4:0≤(x3_1:Int):=Zd (by first|(with_reducible assumption)|assumption)
       have q4:x3_1<(a0.size:Int):=Zd (by first|(with_reducible assumption)|assumption)
       have hx4:=Zal a0 x3_1
       replace p4:=eq_true p4
       replace q4:=eq_true q4
       have p14:0≤(x3_1:Int):=Zd (by first|(with_reducible assumption)|assumption)
       have q14:x3_1<(a0.size:Int):=Zd (by first|(with_reducible assumption)|assumption)
       have hx14:=Zal a0 x3_1
       replace p14:=eq_true p14
       replace q14:=eq_true q14
       go_wp2
       repeat(go_quiet (fail);try go_wp2)
       go_ret
       exact⟨by first|rfl|(simp;done)|(simp[*];done),by repeat(first|exact ZF.refl _|apply ZF.step)⟩
    ·rw[if_neg c3] at H
     exact absurd H (by simp)
   ·rw[if_neg c2] at H
    have c2b0:decide (x3_1<(a0.size:Int))=false:=Zf c2
    clear c2
    by_cases c19:(a0.size:Int)≥1
    ·rw[if_pos c19] at H
     have c19b0:decide (1≤(a0.size:Int))=true:=Ze c19
     clear c19
     obtain rfl:=Zg H
     go_wp2
     repeat(go_quiet (fail);try go_wp2)
     go_ret
     exact⟨by first|rfl|(simp;done)|(simp[*];done),by repeat(first|exact ZF.refl _|apply ZF.step)⟩
    ·rw[if_neg c19] at H
     have c19b0:decide (1≤(a0.size:Int))=false:=Zf c19
     clear c19
     obtain rfl:=Zg H
     go_wp2
     repeat(go_quiet (fail);try go_wp2)
     go_ret
     exact⟨by first|rfl|(simp;done)|(simp[*];done),by repeat(first|exact ZF.refl _|apply ZF.step)⟩
end Go.Proofs.YtoeimopgoaffcaaGreatDoor.Pr
namespace Go.Proofs.YtoeimopgoaffcaaGreatDoor.Pr
open Go.RowKit Go.Proofs.YtoeimopgoaffcaaGreatDoorW.PrintWords Go.Proofs.YtoeimopgoaffcaaGreatDoor.Ni
def chB (s:ByteArray) (i:Nat):Bool:=(decide (97≤bt s i) && decide (bt s i≤122)) || (decide (0<i) && decide (48≤bt s i) && decide (bt s i≤57))
def chsB (s:ByteArray) (i:Nat):Nat→Bool
 | 0=>true
 | d+1=>chB s i && chsB s (i+1) d
def nameB (s:ByteArray):Bool:=chsB s 0 s.size && (decide (1≤s.size) && decide (s.size≤8))
theorem Zfs (s:ByteArray) (hs:s.size≤9223372036854775807) (k:Nat) (hk:2 ^ 64≤k):Zax.f k s=some (nameB s):=by
 have key:=ZaN s.size (fun k i=>Zax.l0 k s (i:Int)=some (chsB s i (s.size - i) && (decide (1≤s.size) && decide (s.size≤8)))) 0
  (fun k _=>by
   simp only[Zax.l0]
   rw[if_neg (by omega),Nat.sub_self]
   unfold ZY.f chsB
   by_cases h1:1≤s.size
   ·rw[if_pos (by omega),Ze h1]
    simp only[Zi,Bool.true_and]
    congr 1
    rw[Bool.eq_iff_iff];simp;omega
   ·rw[if_neg (by omega),Zf h1];rfl)
  (fun k i _ hi ih=>by
   simp only[Zax.l0]
   rw[if_pos (by omega),if_pos (by omega),ZR hi (by omega),ih,show chsB s i (s.size - i)=(chB s i && chsB s (i+1) (s.size - (i+1))) by rw[show s.size - i=(s.size - (i+1))+1 by omega];rfl]
   have hF:chB s i=false→(chB s i && chsB s (i+1) (s.size - (i+1)) && (decide (1≤s.size) && decide (s.size≤8)))=false:=fun h=>by rw[h];rfl
   have hT:chB s i=true→(chB s i && chsB s (i+1) (s.size - (i+1)) && (decide (1≤s.size) && decide (s.size≤8)))=(chsB s (i+1) (s.size - (i+1)) && (decide (1≤s.size) && decide (s.size≤8))):=fun h=>by rw[h,Bool.true_and]
   generalize hc:bt s (i:Int)=c at *
   have hch:chB s i=((decide (97≤c) && decide (c≤122)) || (decide (0<i) && decide (48≤c) && decide (c≤57))):=by unfold chB;rw[hc]
   by_cases a1:c≥97
   ·rw[if_pos a1]
    by_cases a2:c≤122
    ·rw[if_pos a2,hT (by rw[hch];simp;omega)]
    ·rw[if_neg a2,hF (by rw[hch];simp;omega)]
     split
     ·rfl
     ·split
      ·rfl
      ·rw[if_pos (by omega)]
   ·rw[if_neg a1]
    by_cases b0:(i:Int)=0
    ·rw[if_pos b0,hF (by rw[hch];simp;omega)]
    ·rw[if_neg b0]
     by_cases b1:c<48
     ·rw[if_pos b1,hF (by rw[hch];simp;omega)]
     ·rw[if_neg b1]
      by_cases b2:c > 57
      ·rw[if_pos b2,hF (by rw[hch];simp;omega)]
      ·rw[if_neg b2,hT (by rw[hch];simp;omega)]) 0 k (Nat.zero_le _) (by omega)
 unfold Zax.f nameB
 simpa using key
theorem ZfB (s:ByteArray) (hs:s.size≤9223372036854775807) (k:Nat) (hk:2 ^ 64≤k):Zar.f k s=some (nameB s):=by
 have key:=ZaN s.size (fun k i=>Zar.l0 k s (i:Int)=some (chsB s i (s.size - i) && (decide (1≤s.size) && decide (s.size≤8)))) 0
  (fun k _=>by
   simp only[Zar.l0]
   rw[if_neg (by omega),Nat.sub_self]
   unfold chsB
   by_cases h1:1≤s.size
   ·rw[if_pos (by omega),Ze h1]
    simp only[Bool.true_and]
    congr 1
    rw[Bool.eq_iff_iff];simp;omega
   ·rw[if_neg (by omega),Zf h1];rfl)
  (fun k i _ hi ih=>by
   simp only[Zar.l0]
   rw[if_pos (by omega),if_pos (by omega),ZR hi (by omega),ih,show chsB s i (s.size - i)=(chB s i && chsB s (i+1) (s.size - (i+1))) by rw[show s.size - i=(s.size - (i+1))+1 by omega];rfl]
   have hF:chB s i=false→(chB s i && chsB s (i+1) (s.size - (i+1)) && (decide (1≤s.size) && decide (s.size≤8)))=false:=fun h=>by rw[h];rfl
   have hT:chB s i=true→(chB s i && chsB s (i+1) (s.size - (i+1)) && (decide (1≤s.size) && decide (s.size≤8)))=(chsB s (i+1) (s.size - (i+1)) && (decide (1≤s.size) && decide (s.size≤8))):=fun h=>by rw[h,Bool.true_and]
   generalize hc:bt s (i:Int)=c at *
   have hch:chB s i=((decide (97≤c) && decide (c≤122)) || (decide (0<i) && decide (48≤c) && decide (c≤57))):=by unfold chB;rw[hc]
   by_cases a1:c≥97
   ·rw[if_pos a1,if_pos (by omega)]
    by_cases a2:c≤122
    ·rw[if_pos a2,hT (by rw[hch];simp;omega)]
    ·rw[if_neg a2,if_neg (by omega),hF (by rw[hch];simp;omega)]
   ·rw[if_neg a1]
    by_cases b1:c≥48
    ·rw[if_pos b1]
     by_cases b2:c≤57
     ·rw[if_pos b2]
      by_cases b0:(i:Int)=0
      ·rw[if_pos b0,hF (by rw[hch];simp;omega)]
      ·rw[if_neg b0,hT (by rw[hch];simp;omega)]
     ·rw[if_neg b2,hF (by rw[hch];simp;omega)]
    ·rw[if_neg b1,hF (by rw[hch];simp;omega)]) 0 k (Nat.zero_le _) (by omega)
 unfold Zar.f nameB
 simpa using key
end Go.Proofs.YtoeimopgoaffcaaGreatDoor.Pr
namespace Go.Proofs.YtoeimopgoaffcaaGreatDoor.Pr
open Go.RowKit Go.Proofs.YtoeimopgoaffcaaGreatDoorW.PrintWords Go.Proofs.YtoeimopgoaffcaaGreatDoorW.PrintLast Go.Proofs.YtoeimopgoaffcaaGreatDoorW.PrintMore
attribute [local go_sem] Z2 Z0 Zac Zab ZU ZT Z1 ZZ
set_option linter.unusedVariables false
set_option linter.unusedSimpArgs false
def ZaD.f (a0:Int):Option (Int):=if a0<0 then(some (wrap64 (-a0))) else(some a0)
set_option maxHeartbeats 8000000 in
set_option maxRecDepth 100000 in
theorem ZaD.calls (a0:Int) (r:Int) (w:World) (h:ZaD.f a0=some r) :
  Calls Tryz.prog 98 #[.int .i64 a0] w fun e w'=>e=.returned (.int .i64 r)∧ZF w w':=by
 have H:(if a0<0 then(some (wrap64 (-a0))) else(some a0))=some r:=h
 clear h
 by_cases c2:a0<0
 ·rw[if_pos c2] at H
  have c2b0:decide (a0<0)=true:=Ze c2
  clear c2
  obtain rfl:=Zg H
  go_enter Tryz.func98,Tryz.ntmps98
  go_wp2
  go_ret
  exact⟨by first|rfl|(simp;done)|(simp[*];done),by repeat(first|exact ZF.refl _|apply ZF.step)⟩
 ·rw[if_neg c2] at H
  have c2b0:decide (a0<0)=false:=Zf c2
  clear c2
  obtain rfl:=Zg H
  go_enter Tryz.func98,Tryz.ntmps98
  go_wp2
  go_ret
  exact⟨by first|rfl|(simp;done)|(simp[*];done),by repeat(first|exact ZF.refl _|apply ZF.step)⟩
def Zae.l0:Nat→List Int→List Int→Int→Int→Option (Bool)
 | 0,_,_,_,_=>none
 | k+1,x0,x5,x6,x7=>if x7<x6 then(if 0≤x7 then(if x7<(x5.length:Int) then(if (rd x5 x7)=0 then(some false) else((ZY.f (rd x5 x7) (-3) 3).bind fun t175002=>(if t175002=true then(if x7 > 0 then(if 0≤(wrap64 (x7 - 1)) then(if (wrap64 (x7 - 1))<(x0.length:Int) then((ZaD.f (rd x0 (wrap64 (x7 - 1)))).bind fun t175004=>((ZaD.f (rd x5 x7)).bind fun t175005=>(if t175004≥t175005 then(some false) else(Zae.l0 k x0 x5 x6 (wrap64 (x7+1)))))) else(none)) else(none)) else(Zae.l0 k x0 x5 x6 (wrap64 (x7+1)))) else(some false)))) else(none)) else(none)) else(some true)
def Zae.f (k:Nat) (l0:List Int):Option (Bool):=Zae.l0 k l0 l0 (l0.length:Int) 0
set_option maxHeartbeats 8000000 in
set_option maxRecDepth 100000 in
theorem Zae.calls (k:Nat) (A0:Option Addr) (c0:Nat) (l0:List Int) (r:Bool) (w:World) (hr0:Kd.C (Kd.int .i64) w A0 l0.length l0) (hc0:l0.length≤c0) (h:Zae.f k l0=some r) :
  Calls Tryz.prog 175 #[.slice A0 l0.length c0] w fun e w'=>e=.returned (.bool r)∧ZF w w':=by
 have HR0:=Za hr0;have HC0:=Za hc0;clear hr0 hc0
 have H:(Zae.l0 k l0 l0 (l0.length:Int) 0)=some r:=h
 clear h
 have H':=Za H
 clear H
 go_enter Tryz.func175,Tryz.ntmps175
 go_wp2
 go_loopg [7] k (fun kq v7 w'=>∃(x7_1:Int),v7=.int .i64 x7_1∧Aside0 (Zae.l0 kq l0 l0 (l0.length:Int) x7_1=some r)∧Aside0 (kq≤k)∧ZF w w')
 case atStart=>exact⟨(0),(by first|rfl|(simp;done)|(simp[*];done)),H',⟨Nat.le_refl _⟩,by repeat(first|exact ZF.refl _|apply ZF.step)⟩
 case round=>
  clear H'
  try clear c1
  obtain⟨x7_1,rfl,HA,HK1,⟨m1,rfl⟩⟩:=hrel
  cases gk with
  | zero=>exact absurd HA.out (by simp[Zae.l0])
  | succ k1=>
   have H:=HA.out
   clear HA
   simp only[Zae.l0] at H
   by_cases c2:x7_1<(l0.length:Int)
   ·rw[if_pos c2] at H
    have c2b0:decide (x7_1<(l0.length:Int))=true:=Ze c2
    clear c2
    by_cases c3:0≤x7_1
    ·rw[if_pos c3] at H
     have c3b0:decide (0≤x7_1)=true:=Ze c3
     clear c3
     by_cases c4:x7_1<(l0.length:Int)
     ·rw[if_pos c4] at H
      have c4b0:decide (x7_1<(l0.length:Int))=true:=Ze c4
      clear c4
      by_cases c5:(rd l0 x7_1)=0
      ·rw[if_pos c5] at H
       have c5b0:((rd l0 x7_1) == 0)=true:=beq_iff_eq.mpr c5
       clear c5
       obtain rfl:=Zg H
       have p175001:0≤(x7_1:Int):=Zd (by first|(with_reducible assumption)|assumption)
       have q175001:x7_1<(l0.length:Int):=Zd (by first|(with_reducible assumption)|assumption)
       obtain⟨ad175001,e175001,hx175001_0⟩:=Kd.at_int HR0.out x7_1 p175001 q175001
       cases e175001
       replace p175001:=eq_true p175001
       replace q175001:=eq_true q175001
       go_wp2
       go_ret
       exact⟨by first|rfl|(simp;done)|(simp[*];done),by repeat(first|exact ZF.refl _|apply ZF.step)⟩
      ·rw[if_neg c5] at H
       have c5b0:((rd l0 x7_1) == 0)=false:=beq_eq_false_iff_ne.mpr c5
       replace H:=Zh H
       obtain⟨t175002,A60,H⟩:=H;have A6:=Za A60;clear A60
       by_cases c7:t175002=true
       ·subst c7
        rw[if_pos rfl] at H
        by_cases c8:x7_1 > 0
        ·rw[if_pos c8] at H
         have c8b0:decide (0<x7_1)=true:=Ze c8
         clear c8
         obtain⟨ji9,hji9⟩:∃j_:Int,(wrap64 (x7_1 - 1))=j_:=⟨_,rfl⟩
         replace H:(if 0≤(ji9) then(if (ji9)<(l0.length:Int) then((ZaD.f (rd l0 (ji9))).bind fun t175004=>((ZaD.f (rd l0 x7_1)).bind fun t175005=>(if t175004≥t175005 then(some false) else(Zae.l0 k1 l0 l0 (l0.length:Int) (wrap64 (x7_1+1)))))) else(none)) else(none))=some r:=by first|(rw[hji9] at H;exact H)|(simp only[hji9] at H ⊢;exact H)
         (try rw[hji9] at A6)
         have hji9w:(IntKind.i64.wrap (x7_1 - 1))=ji9:=(ZH _).trans hji9
         by_cases c10:0≤(ji9)
         ·rw[if_pos c10] at H
          have c10b0:decide (0≤(ji9))=true:=Ze c10
          clear c10
          by_cases c11:(ji9)<(l0.length:Int)
          ·rw[if_pos c11] at H
           have c11b0:decide ((ji9)<(l0.length:Int))=true:=Ze c11
           clear c11
           replace H:=Zh H
           obtain⟨t175004,A120,H⟩:=H;have A12:=Za A120;clear A120
           replace H:=Zh H
           obtain⟨t175005,A130,H⟩:=H;have A13:=Za A130;clear A130
           by_cases c14:t175004≥t175005
           ·rw[if_pos c14] at H
            have c14b0:decide (t175005≤t175004)=true:=Ze c14
            clear c14
            obtain rfl:=Zg H
            have p175001:0≤(x7_1:Int):=Zd (by first|(with_reducible assumption)|assumption)
            have q175001:x7_1<(l0.length:Int):=Zd (by first|(with_reducible assumption)|assumption)
            obtain⟨ad175001,e175001,hx175001_0⟩:=Kd.at_int HR0.out x7_1 p175001 q175001
            cases e175001
            replace p175001:=eq_true p175001
            replace q175001:=eq_true q175001
            go_wp2_with (first|(go_at_call 127;(with_reducible refine(ZY.calls (rd l0 x7_1) (-3) 3 true _ A6.out).mono ?_);rintro e w' ⟨rfl,⟨nd,rfl⟩⟩;have p175003:0≤((ji9):Int):=Zd (by first|(with_reducible assumption)|assumption);have q175003:(ji9)<(l0.length:Int):=Zd (by first|(with_reducible assumption)|assumption);obtain⟨ad175003,e175003,hx175003_0⟩:=Kd.at_int HR0.out (ji9) p175003 q175003;obtain rfl:ad175001=ad175003:=(by injection e175003);replace p175003:=eq_true p175003;replace q175003:=eq_true q175003)|(go_at_call 98;(with_reducible refine(ZaD.calls (rd l0 (ji9)) t175004 _ A12.out).mono ?_);rintro e w' ⟨rfl,⟨nd,rfl⟩⟩)|(go_at_call 98;(with_reducible refine(ZaD.calls (rd l0 x7_1) t175005 _ A13.out).mono ?_);rintro e w' ⟨rfl,⟨nd,rfl⟩⟩))
            go_ret
            exact⟨by first|rfl|(simp;done)|(simp only[← hji9] <;> (first|rfl|simp))|(simp[*];done),by repeat(first|exact ZF.refl _|apply ZF.step)⟩
           ·rw[if_neg c14] at H
            have c14b0:decide (t175005≤t175004)=false:=Zf c14
            clear c14
            have H':=Za H
            clear H
            have p175001:0≤(x7_1:Int):=Zd (by first|(with_reducible assumption)|assumption)
            have q175001:x7_1<(l0.length:Int):=Zd (by first|(with_reducible assumption)|assumption)
            obtain⟨ad175001,e175001,hx175001_0⟩:=Kd.at_int HR0.out x7_1 p175001 q175001
            cases e175001
            replace p175001:=eq_true p175001
            replace q175001:=eq_true q175001
            go_wp2_with (first|(go_at_call 127;(with_reducible refine(ZY.calls (rd l0 x7_1) (-3) 3 true _ A6.out).mono ?_);rintro e w' ⟨rfl,⟨nd,rfl⟩⟩;have p175003:0≤((ji9):Int):=Zd (by first|(with_reducible assumption)|assumption);have q175003:(ji9)<(l0.length:Int):=Zd (by first|(with_reducible assumption)|assumption);obtain⟨ad175003,e175003,hx175003_0⟩:=Kd.at_int HR0.out (ji9) p175003 q175003;obtain rfl:ad175001=ad175003:=(by injection e175003);replace p175003:=eq_true p175003;replace q175003:=eq_true q175003)|(go_at_call 98;(with_reducible refine(ZaD.calls (rd l0 (ji9)) t175004 _ A12.out).mono ?_);rintro e w' ⟨rfl,⟨nd,rfl⟩⟩)|(go_at_call 98;(with_reducible refine(ZaD.calls (rd l0 x7_1) t175005 _ A13.out).mono ?_);rintro e w' ⟨rfl,⟨nd,rfl⟩⟩))
            go_roundg k1
            case measure=>have:=HK1.out;omega
            case rel=>exact⟨(wrap64 (x7_1+1)),(by first|rfl|(simp;done)|(simp[*];done)),H',⟨by have:=HK1.out;omega⟩,by repeat(first|exact ZF.refl _|apply ZF.step)⟩
          ·rw[if_neg c11] at H
           exact absurd H (by simp)
         ·rw[if_neg c10] at H
          exact absurd H (by simp)
        ·rw[if_neg c8] at H
         have c8b0:decide (0<x7_1)=false:=Zf c8
         clear c8
         have H':=Za H
         clear H
         have p175001:0≤(x7_1:Int):=Zd (by first|(with_reducible assumption)|assumption)
         have q175001:x7_1<(l0.length:Int):=Zd (by first|(with_reducible assumption)|assumption)
         obtain⟨ad175001,e175001,hx175001_0⟩:=Kd.at_int HR0.out x7_1 p175001 q175001
         cases e175001
         replace p175001:=eq_true p175001
         replace q175001:=eq_true q175001
         go_wp2_with (first|(go_at_call 127;(with_reducible refine(ZY.calls (rd l0 x7_1) (-3) 3 true _ A6.out).mono ?_);rintro e w' ⟨rfl,⟨nd,rfl⟩⟩))
         go_roundg k1
         case measure=>have:=HK1.out;omega
         case rel=>exact⟨(wrap64 (x7_1+1)),(by first|rfl|(simp;done)|(simp[*];done)),H',⟨by have:=HK1.out;omega⟩,by repeat(first|exact ZF.refl _|apply ZF.step)⟩
       ·replace c7:=Bool.eq_false_iff.mpr c7
        subst c7
        have H1:(some false)=some r:=by rw[if_neg (show ¬(false=true) by decide)] at H;exact H
        clear H
        have H:=H1
        clear H1
        obtain rfl:=Zg H
        have p175001:0≤(x7_1:Int):=Zd (by first|(with_reducible assumption)|assumption)
        have q175001:x7_1<(l0.length:Int):=Zd (by first|(with_reducible assumption)|assumption)
        obtain⟨ad175001,e175001,hx175001_0⟩:=Kd.at_int HR0.out x7_1 p175001 q175001
        cases e175001
        replace p175001:=eq_true p175001
        replace q175001:=eq_true q175001
        go_wp2_with (first|(go_at_call 127;(with_reducible refine(ZY.calls (rd l0 x7_1) (-3) 3 false _ A6.out).mono ?_);rintro e w' ⟨rfl,⟨nd,rfl⟩⟩))
        go_ret
        exact⟨by first|rfl|(simp;done)|(simp[*];done),by repeat(first|exact ZF.refl _|apply ZF.step)⟩
     ·rw[if_neg c4] at H
      exact absurd H (by simp)
    ·rw[if_neg c3] at H
     exact absurd H (by simp)
   ·rw[if_neg c2] at H
    have c2b0:decide (x7_1<(l0.length:Int))=false:=Zf c2
    clear c2
    obtain rfl:=Zg H
    go_wp2
    go_ret
    exact⟨by first|rfl|(simp;done)|(simp[*];done),by repeat(first|exact ZF.refl _|apply ZF.step)⟩
def Zan.f (a0:Int):Option (Int):=some (mx a0 (wrap64 (-a0)))
set_option maxHeartbeats 8000000 in
set_option maxRecDepth 100000 in
theorem Zan.calls (a0:Int) (r:Int) (w:World) (h:Zan.f a0=some r) :
  Calls Tryz.prog 144 #[.int .i64 a0] w fun e w'=>e=.returned (.int .i64 r)∧Below w.heap.size w w':=by
 have HB:=Za (Below.refl w.heap.size w)
 have H:(some (mx a0 (wrap64 (-a0))))=some r:=h
 clear h
 obtain⟨ji2,hji2⟩:∃j_:Int,(mx a0 (wrap64 (-a0)))=j_:=⟨_,rfl⟩
 replace H:(some ji2)=some r:=by first|(rw[hji2] at H;exact H)|(simp only[hji2] at H ⊢;exact H)
 have hji2_:(if a0<(wrap64 (-a0)) then(wrap64 (-a0)) else a0)=ji2:=hji2
 obtain rfl:=Zg H
 go_enter Tryz.func144,Tryz.ntmps144
 go_wp2
 go_ret
 exact⟨by first|rfl|(simp[ZA,Zz] <;> rfl)|(simp only[← hji2];first|rfl|(simp[ZA,Zz] <;> rfl))|(simp[*,ZA,Zz] <;> rfl),by repeat(first|(with_reducible first|exact HB.out|apply Zn|apply Zm|apply Zo)|exact HB.out)⟩
def Zaa.l0:Nat→List Int→List Int→Int→Int→Option (Bool)
 | 0,_,_,_,_=>none
 | k+1,x0,x5,x6,x7=>if x7<x6 then(if 0≤x7 then(if x7<(x5.length:Int) then(if (rd x5 x7)=0 then(some false) else(if (rd x5 x7)<(-3) then(some false) else(if (rd x5 x7) > 3 then(some false) else(if x7 > 0 then(if 0≤(wrap64 (x7 - 1)) then(if (wrap64 (x7 - 1))<(x0.length:Int) then((Zan.f (rd x0 (wrap64 (x7 - 1)))).bind fun t87003=>((Zan.f (rd x5 x7)).bind fun t87004=>(if t87003≥t87004 then(some false) else(Zaa.l0 k x0 x5 x6 (wrap64 (x7+1)))))) else(none)) else(none)) else(Zaa.l0 k x0 x5 x6 (wrap64 (x7+1))))))) else(none)) else(none)) else(some true)
def Zaa.f (k:Nat) (l0:List Int):Option (Bool):=Zaa.l0 k l0 l0 (l0.length:Int) 0
set_option maxHeartbeats 8000000 in
set_option maxRecDepth 100000 in
theorem Zaa.calls (k:Nat) (A0:Option Addr) (c0:Nat) (l0:List Int) (r:Bool) (w:World) (hr0:Kd.C (Kd.int .i64) w A0 l0.length l0) (hc0:l0.length≤c0) (h:Zaa.f k l0=some r) :
  Calls Tryz.prog 87 #[.slice A0 l0.length c0] w fun e w'=>e=.returned (.bool r)∧Below w.heap.size w w':=by
 have HR0:=Za hr0;have HC0:=Za hc0;clear hr0 hc0
 have HB:=Za (Below.refl w.heap.size w)
 have H:(Zaa.l0 k l0 l0 (l0.length:Int) 0)=some r:=h
 clear h
 have H':=Za H
 clear H
 go_enter Tryz.func87,Tryz.ntmps87
 go_wp2
 go_loopg [7] k (fun kq v7 w'=>∃(x7_1:Int),v7=.int .i64 x7_1∧Aside0 (Zaa.l0 kq l0 l0 (l0.length:Int) x7_1=some r)∧Aside0 (kq≤k)∧Aside0 (Below w.heap.size w w'))
 case atStart=>exact⟨(0),(by first|rfl|(simp;done)|(simp[*];done)),H',⟨Nat.le_refl _⟩,⟨by repeat(first|(with_reducible first|exact HB.out|apply Zn|apply Zm|apply Zo)|exact HB.out)⟩⟩
 case round=>
  clear H'
  obtain⟨x7_1,rfl,HA,HK1,HB⟩:=hrel
  cases gk with
  | zero=>exact absurd HA.out (by simp[Zaa.l0])
  | succ k1=>
   have H:=HA.out
   clear HA
   simp only[Zaa.l0] at H
   by_cases c2:x7_1<(l0.length:Int)
   ·rw[if_pos c2] at H
    have c2b0:decide (x7_1<(l0.length:Int))=true:=Ze c2
    clear c2
    by_cases c3:0≤x7_1
    ·rw[if_pos c3] at H
     have c3b0:decide (0≤x7_1)=true:=Ze c3
     clear c3
     by_cases c4:x7_1<(l0.length:Int)
     ·rw[if_pos c4] at H
      have c4b0:decide (x7_1<(l0.length:Int))=true:=Ze c4
      clear c4
      by_cases c5:(rd l0 x7_1)=0
      ·rw[if_pos c5] at H
       have c5b0:((rd l0 x7_1) == 0)=true:=beq_iff_eq.mpr c5
       clear c5
       obtain rfl:=Zg H
       have p87001:0≤(x7_1:Int):=Zd (by first|(with_reducible assumption)|assumption)
       have q87001:x7_1<(l0.length:Int):=Zd (by first|(with_reducible assumption)|assumption)
       obtain⟨ad87001,e87001,hx87001_0⟩:=Kd.at_int HR0.out x7_1 p87001 q87001
       cases e87001
       replace hx87001_0:=(HB.out.cell (Zc w _ hx87001_0)).trans hx87001_0
       replace p87001:=eq_true p87001
       replace q87001:=eq_true q87001
       go_wp2
       go_ret
       exact⟨by first|rfl|(simp[ZA,Zz] <;> rfl)|(simp[*,ZA,Zz] <;> rfl),by repeat(first|(with_reducible first|exact HB.out|apply Zn|apply Zm|apply Zo)|exact HB.out)⟩
      ·rw[if_neg c5] at H
       have c5b0:((rd l0 x7_1) == 0)=false:=beq_eq_false_iff_ne.mpr c5
       by_cases c6:(rd l0 x7_1)<(-3)
       ·rw[if_pos c6] at H
        have c6b0:decide ((rd l0 x7_1)<(-3))=true:=Ze c6
        clear c6
        obtain rfl:=Zg H
        have p87001:0≤(x7_1:Int):=Zd (by first|(with_reducible assumption)|assumption)
        have q87001:x7_1<(l0.length:Int):=Zd (by first|(with_reducible assumption)|assumption)
        obtain⟨ad87001,e87001,hx87001_0⟩:=Kd.at_int HR0.out x7_1 p87001 q87001
        cases e87001
        replace hx87001_0:=(HB.out.cell (Zc w _ hx87001_0)).trans hx87001_0
        replace p87001:=eq_true p87001
        replace q87001:=eq_true q87001
        go_wp2
        go_ret
        exact⟨by first|rfl|(simp[ZA,Zz] <;> rfl)|(simp[*,ZA,Zz] <;> rfl),by repeat(first|(with_reducible first|exact HB.out|apply Zn|apply Zm|apply Zo)|exact HB.out)⟩
       ·rw[if_neg c6] at H
        have c6b0:decide ((rd l0 x7_1)<(-3))=false:=Zf c6
        clear c6
        by_cases c7:(rd l0 x7_1) > 3
        ·rw[if_pos c7] at H
         have c7b0:decide (3<(rd l0 x7_1))=true:=Ze c7
         clear c7
         obtain rfl:=Zg H
         have p87001:0≤(x7_1:Int):=Zd (by first|(with_reducible assumption)|assumption)
         have q87001:x7_1<(l0.length:Int):=Zd (by first|(with_reducible assumption)|assumption)
         obtain⟨ad87001,e87001,hx87001_0⟩:=Kd.at_int HR0.out x7_1 p87001 q87001
         cases e87001
         replace hx87001_0:=(HB.out.cell (Zc w _ hx87001_0)).trans hx87001_0
         replace p87001:=eq_true p87001
         replace q87001:=eq_true q87001
         go_wp2
         go_ret
         exact⟨by first|rfl|(simp[ZA,Zz] <;> rfl)|(simp[*,ZA,Zz] <;> rfl),by repeat(first|(with_reducible first|exact HB.out|apply Zn|apply Zm|apply Zo)|exact HB.out)⟩
        ·rw[if_neg c7] at H
         have c7b0:decide (3<(rd l0 x7_1))=false:=Zf c7
         clear c7
         by_cases c8:x7_1 > 0
         ·rw[if_pos c8] at H
          have c8b0:decide (0<x7_1)=true:=Ze c8
          clear c8
          obtain⟨ji9,hji9⟩:∃j_:Int,(wrap64 (x7_1 - 1))=j_:=⟨_,rfl⟩
          replace H:(if 0≤(ji9) then(if (ji9)<(l0.length:Int) then((Zan.f (rd l0 (ji9))).bind fun t87003=>((Zan.f (rd l0 x7_1)).bind fun t87004=>(if t87003≥t87004 then(some false) else(Zaa.l0 k1 l0 l0 (l0.length:Int) (wrap64 (x7_1+1)))))) else(none)) else(none))=some r:=by first|(rw[hji9] at H;exact H)|(simp only[hji9] at H ⊢;exact H)
          have hji9w:(IntKind.i64.wrap (x7_1 - 1))=ji9:=(ZH _).trans hji9
          by_cases c10:0≤(ji9)
          ·rw[if_pos c10] at H
           have c10b0:decide (0≤(ji9))=true:=Ze c10
           clear c10
           by_cases c11:(ji9)<(l0.length:Int)
           ·rw[if_pos c11] at H
            have c11b0:decide ((ji9)<(l0.length:Int))=true:=Ze c11
            clear c11
            replace H:=Zh H
            obtain⟨t87003,A120,H⟩:=H;have A12:=Za A120;clear A120
            replace H:=Zh H
            obtain⟨t87004,A130,H⟩:=H;have A13:=Za A130;clear A130
            by_cases c14:t87003≥t87004
            ·rw[if_pos c14] at H
             have c14b0:decide (t87004≤t87003)=true:=Ze c14
             clear c14
             obtain rfl:=Zg H
             have p87001:0≤(x7_1:Int):=Zd (by first|(with_reducible assumption)|assumption)
             have q87001:x7_1<(l0.length:Int):=Zd (by first|(with_reducible assumption)|assumption)
             obtain⟨ad87001,e87001,hx87001_0⟩:=Kd.at_int HR0.out x7_1 p87001 q87001
             cases e87001
             replace hx87001_0:=(HB.out.cell (Zc w _ hx87001_0)).trans hx87001_0
             replace p87001:=eq_true p87001
             replace q87001:=eq_true q87001
             have p87002:0≤((ji9):Int):=Zd (by first|(with_reducible assumption)|assumption)
             have q87002:(ji9)<(l0.length:Int):=Zd (by first|(with_reducible assumption)|assumption)
             obtain⟨ad87002,e87002,hx87002_0⟩:=Kd.at_int HR0.out (ji9) p87002 q87002
             obtain rfl:ad87001=ad87002:=(by injection e87002)
             replace hx87002_0:=(HB.out.cell (Zc w _ hx87002_0)).trans hx87002_0
             replace p87002:=eq_true p87002
             replace q87002:=eq_true q87002
             go_wp2_with (first|(go_at_call 144;(with_reducible refine(Zan.calls (rd l0 (ji9)) t87003 _ A12.out).mono ?_);rintro e w15 ⟨rfl,hb⟩;replace HB:=Za (Zt (by repeat(first|(with_reducible first|exact HB.out|apply Zn|apply Zm|apply Zo)|exact HB.out)) hb);(try clear hi))|(go_at_call 144;(with_reducible refine(Zan.calls (rd l0 x7_1) t87004 _ A13.out).mono ?_);rintro e w16 ⟨rfl,hb⟩;replace HB:=Za (Zt (by repeat(first|(with_reducible first|exact HB.out|apply Zn|apply Zm|apply Zo)|exact HB.out)) hb);(try clear hi)))
             go_ret
             exact⟨by first|rfl|(simp[ZA,Zz] <;> rfl)|(simp only[← hji9];first|rfl|(simp[ZA,Zz] <;> rfl))|(simp[*,ZA,Zz] <;> rfl),by repeat(first|(with_reducible first|exact HB.out|apply Zn|apply Zm|apply Zo)|exact HB.out)⟩
            ·rw[if_neg c14] at H
             have c14b0:decide (t87004≤t87003)=false:=Zf c14
             clear c14
             have H':=Za H
             clear H
             have p87001:0≤(x7_1:Int):=Zd (by first|(with_reducible assumption)|assumption)
             have q87001:x7_1<(l0.length:Int):=Zd (by first|(with_reducible assumption)|assumption)
             obtain⟨ad87001,e87001,hx87001_0⟩:=Kd.at_int HR0.out x7_1 p87001 q87001
             cases e87001
             replace hx87001_0:=(HB.out.cell (Zc w _ hx87001_0)).trans hx87001_0
             replace p87001:=eq_true p87001
             replace q87001:=eq_true q87001
             have p87002:0≤((ji9):Int):=Zd (by first|(with_reducible assumption)|assumption)
             have q87002:(ji9)<(l0.length:Int):=Zd (by first|(with_reducible assumption)|assumption)
             obtain⟨ad87002,e87002,hx87002_0⟩:=Kd.at_int HR0.out (ji9) p87002 q87002
             obtain rfl:ad87001=ad87002:=(by injection e87002)
             replace hx87002_0:=(HB.out.cell (Zc w _ hx87002_0)).trans hx87002_0
             replace p87002:=eq_true p87002
             replace q87002:=eq_true q87002
             go_wp2_with (first|(go_at_call 144;(with_reducible refine(Zan.calls (rd l0 (ji9)) t87003 _ A12.out).mono ?_);rintro e w17 ⟨rfl,hb⟩;replace HB:=Za (Zt (by repeat(first|(with_reducible first|exact HB.out|apply Zn|apply Zm|apply Zo)|exact HB.out)) hb);(try clear hi))|(go_at_call 144;(with_reducible refine(Zan.calls (rd l0 x7_1) t87004 _ A13.out).mono ?_);rintro e w18 ⟨rfl,hb⟩;replace HB:=Za (Zt (by repeat(first|(with_reducible first|exact HB.out|apply Zn|apply Zm|apply Zo)|exact HB.out)) hb);(try clear hi)))
             go_roundg k1
             case measure=>have:=HK1.out;omega
             case rel=>exact⟨(wrap64 (x7_1+1)),(by first|rfl|(simp;done)|(simp[*];done)),H',⟨by have:=HK1.out;omega⟩,⟨by repeat(first|(with_reducible first|exact HB.out|apply Zn|apply Zm|apply Zo)|exact HB.out)⟩⟩
           ·rw[if_neg c11] at H
            exact absurd H (by simp)
          ·rw[if_neg c10] at H
           exact absurd H (by simp)
         ·rw[if_neg c8] at H
          have c8b0:decide (0<x7_1)=false:=Zf c8
          clear c8
          have H':=Za H
          clear H
          have p87001:0≤(x7_1:Int):=Zd (by first|(with_reducible assumption)|assumption)
          have q87001:x7_1<(l0.length:Int):=Zd (by first|(with_reducible assumption)|assumption)
          obtain⟨ad87001,e87001,hx87001_0⟩:=Kd.at_int HR0.out x7_1 p87001 q87001
          cases e87001
          replace hx87001_0:=(HB.out.cell (Zc w _ hx87001_0)).trans hx87001_0
          replace p87001:=eq_true p87001
          replace q87001:=eq_true q87001
          go_wp2
          go_roundg k1
          case measure=>have:=HK1.out;omega
          case rel=>exact⟨(wrap64 (x7_1+1)),(by first|rfl|(simp;done)|(simp[*];done)),H',⟨by have:=HK1.out;omega⟩,⟨by repeat(first|(with_reducible first|exact HB.out|apply Zn|apply Zm|apply Zo)|exact HB.out)⟩⟩
     ·rw[if_neg c4] at H
      exact absurd H (by simp)
    ·rw[if_neg c3] at H
     exact absurd H (by simp)
   ·rw[if_neg c2] at H
    have c2b0:decide (x7_1<(l0.length:Int))=false:=Zf c2
    clear c2
    obtain rfl:=Zg H
    go_wp2
    go_ret
    exact⟨by first|rfl|(simp[ZA,Zz] <;> rfl)|(simp[*,ZA,Zz] <;> rfl),by repeat(first|(with_reducible first|exact HB.out|apply Zn|apply Zm|apply Zo)|exact HB.out)⟩
end Go.Proofs.YtoeimopgoaffcaaGreatDoor.Pr
namespace Go.Proofs.YtoeimopgoaffcaaGreatDoor.Pr
open Go.RowKit Go.Proofs.YtoeimopgoaffcaaGreatDoorW.PrintWords Go.Proofs.YtoeimopgoaffcaaGreatDoorW.PrintMore Go.Proofs.YtoeimopgoaffcaaGreatDoor.Ni
theorem ZcR {x:Int} (h:Zbb x=true):ZaD.f x=some (prp x):=by
 have:=(ZbD x).1 h
 unfold ZaD.f prp
 split
 ·rw[ZaJ (by omega) (by omega)]
 ·rfl
theorem Zdb {x:Int} (h:Zbb x=true):Zan.f x=some (prp x):=by
 have:=(ZbD x).1 h
 unfold Zan.f prp mx
 rw[ZaJ (by omega) (by omega)]
 congr 1
 split <;> split <;> omega
theorem ZcG (l:List Int) (hl:l.length≤9223372036854775807) (k:Nat) (hk:2 ^ 64≤k):Zae.f k l=some (labB l):=by
 have key:=ZaN l.length (fun k i=>(0<i→Zbb (l.getD (i - 1) 0)=true)→Zae.l0 k l l l.length (i:Int)=some (ZbI (if i=0 then 0 else prp (l.getD (i - 1) 0)) (l.drop i))) 0
  (fun k _ _=>by simp[Zae.l0,ZbI])
  (fun k i _ hi ih hb=>by
   simp only[Zae.l0]
   rw[if_pos (by omega),if_pos (by omega),if_pos (by omega),Za0,ZR hi (by omega),Zav hi 0]
   unfold ZbI
   have ih':=fun h=>ih (fun _=>h)
   simp only[Nat.add_sub_cancel,Nat.add_eq_zero_iff,Nat.one_ne_zero,and_false,if_false] at ih'
   by_cases h0:l.getD i 0=0
   ·rw[if_pos h0,h0];simp[Zbb]
   rw[if_neg h0]
   unfold ZY.f
   by_cases h1:l.getD i 0≥-3
   ·rw[if_pos h1,Zi]
    by_cases h2:l.getD i 0≤3
    ·have hok:Zbb (l.getD i 0)=true:=(ZbD _).2 ⟨h0,h1,h2⟩
     have hp:=ZcH hok
     rw[if_pos (by simpa using h2)]
     by_cases hi0:i=0
     ·subst hi0
      rw[if_neg (by omega),ih' hok,hok]
      simp only[Bool.true_and,if_true]
      rw[Ze (show(0:Int)<prp (l.getD 0 0) by omega)]
      rfl
     ·rw[if_pos (by omega),wrap_pred (by omega) (by omega),if_pos (by omega),if_pos (by omega),Za0,ZcR (hb (by omega)),Zi,ZcR hok,Zi,if_neg hi0,hok]
      by_cases hlt:prp (l.getD (i - 1) 0)<prp (l.getD i 0)
      ·rw[if_neg (by omega),ih' hok,Ze hlt];rfl
      ·rw[if_pos (by omega),Zf hlt];rfl
    ·rw[if_neg (by simpa using h2)]
     rw[show Zbb (l.getD i 0)=false from Bool.eq_false_iff.2 fun h=>by have:=(ZbD _).1 h;omega];rfl
   ·rw[if_neg h1,Zi,if_neg (by decide)]
    rw[show Zbb (l.getD i 0)=false from Bool.eq_false_iff.2 fun h=>by have:=(ZbD _).1 h;omega];rfl) 0 k (Nat.zero_le _) (by omega)
 unfold Zae.f labB
 have:=key (fun h=>absurd h (by omega))
 simpa using this
theorem Zcv (l:List Int) (hl:l.length≤9223372036854775807) (k:Nat) (hk:2 ^ 64≤k):Zaa.f k l=some (labB l):=by
 have key:=ZaN l.length (fun k i=>(0<i→Zbb (l.getD (i - 1) 0)=true)→Zaa.l0 k l l l.length (i:Int)=some (ZbI (if i=0 then 0 else prp (l.getD (i - 1) 0)) (l.drop i))) 0
  (fun k _ _=>by simp[Zaa.l0,ZbI])
  (fun k i _ hi ih hb=>by
   simp only[Zaa.l0]
   rw[if_pos (by omega),if_pos (by omega),if_pos (by omega),Za0,ZR hi (by omega),Zav hi 0]
   unfold ZbI
   have ih':=fun h=>ih (fun _=>h)
   simp only[Nat.add_sub_cancel,Nat.add_eq_zero_iff,Nat.one_ne_zero,and_false,if_false] at ih'
   by_cases h0:l.getD i 0=0
   ·rw[if_pos h0,h0];simp[Zbb]
   rw[if_neg h0]
   by_cases h1:l.getD i 0≥-3
   ·rw[if_neg (by omega)]
    by_cases h2:l.getD i 0≤3
    ·have hok:Zbb (l.getD i 0)=true:=(ZbD _).2 ⟨h0,h1,h2⟩
     have hp:=ZcH hok
     rw[if_neg (by omega)]
     by_cases hi0:i=0
     ·subst hi0
      rw[if_neg (by omega),ih' hok,hok]
      simp only[Bool.true_and,if_true]
      rw[Ze (show(0:Int)<prp (l.getD 0 0) by omega)]
      rfl
     ·rw[if_pos (by omega),wrap_pred (by omega) (by omega),if_pos (by omega),if_pos (by omega),Za0,Zdb (hb (by omega)),Zi,Zdb hok,Zi,if_neg hi0,hok]
      by_cases hlt:prp (l.getD (i - 1) 0)<prp (l.getD i 0)
      ·rw[if_neg (by omega),ih' hok,Ze hlt];rfl
      ·rw[if_pos (by omega),Zf hlt];rfl
    ·rw[if_pos (by omega)]
     rw[show Zbb (l.getD i 0)=false from Bool.eq_false_iff.2 fun h=>by have:=(ZbD _).1 h;omega];rfl
   ·rw[if_pos (by omega)]
    rw[show Zbb (l.getD i 0)=false from Bool.eq_false_iff.2 fun h=>by have:=(ZbD _).1 h;omega];rfl) 0 k (Nat.zero_le _) (by omega)
 unfold Zaa.f labB
 have:=key (fun h=>absurd h (by omega))
 simpa using this
end Go.Proofs.YtoeimopgoaffcaaGreatDoor.Pr
namespace Go.Proofs.YtoeimopgoaffcaaGreatDoor.Pr
open Go.RowKit Go.Proofs.YtoeimopgoaffcaaGreatDoorW.PrintWords Go.Proofs.YtoeimopgoaffcaaGreatDoorW.PrintLast Go.Proofs.YtoeimopgoaffcaaGreatDoorW.PrintMore
attribute [local go_sem] Z2 Z0 Zac Zab ZU ZT Z1 ZZ
set_option linter.unusedVariables false
set_option linter.unusedSimpArgs false
def Zcx.f (k:Nat) (a0_0:ByteArray) (l0_1:List Int) (a0_2:Int):Option (Bool):=(Zax.f k a0_0).bind fun t176002=>(if t176002=true then((Zae.f k l0_1).bind fun t176003=>(if t176003=true then((ZY.f a0_2 0 3).bind fun t176004=>(some t176004)) else(some false))) else(some false))
set_option maxHeartbeats 8000000 in
set_option maxRecDepth 100000 in
theorem Zcx.calls (k:Nat) (a0_0:ByteArray) (A0_1:Option Addr) (c0_1:Nat) (l0_1:List Int) (a0_2:Int) (r:Bool) (w:World) (hr0_1:Kd.C (Kd.int .i64) w A0_1 l0_1.length l0_1) (hc0_1:l0_1.length≤c0_1) (h:Zcx.f k a0_0 l0_1 a0_2=some r) :
  Calls Tryz.prog 176 #[.agg #[.string a0_0,.slice A0_1 l0_1.length c0_1,.int .i64 a0_2]] w fun e w'=>e=.returned (.bool r)∧Below w.heap.size w w':=by
 have hu39:=Tryz.underlying39
 have HR0_1:=Za hr0_1;have HC0_1:=Za hc0_1;clear hr0_1 hc0_1
 have HB:=Za (Below.refl w.heap.size w)
 have H:((Zax.f k a0_0).bind fun t176002=>(if t176002=true then((Zae.f k l0_1).bind fun t176003=>(if t176003=true then((ZY.f a0_2 0 3).bind fun t176004=>(some t176004)) else(some false))) else(some false)))=some r:=h
 clear h
 replace H:=Zh H
 obtain⟨t176002,A20,H⟩:=H;have A2:=Za A20;clear A20
 by_cases c3:t176002=true
 ·subst c3
  rw[if_pos rfl] at H
  replace H:=Zh H
  obtain⟨t176003,A40,H⟩:=H;have A4:=Za A40;clear A40
  by_cases c5:t176003=true
  ·subst c5
   rw[if_pos rfl] at H
   replace H:=Zh H
   obtain⟨t176004,A60,H⟩:=H;have A6:=Za A60;clear A60
   obtain rfl:=Zg H
   go_enter Tryz.func176,Tryz.ntmps176
   go_wp2_with (first|((with_reducible refine ZI (N:=1) rfl ?_);refine ZG ?hg (N:=1) ?hd (cs:=#[.string a0_0,.slice A0_1 l0_1.length c0_1,.int .i64 a0_2]) (t:=39) ?hr ?_;(case hd=>rfl);(case hg=>rfl);(case hr=>first|(go_simp;done)|(go_simp;rfl));intro gb176001 hg w7 hbox hb;have BK176001:=Za (hbox);have GW176001:=Za ((by rw[hg];exact(ZC (by repeat(first|(with_reducible first|exact HB.out|apply Zn|apply Zm|apply Zo)|exact HB.out))):w.heap.size≤gb176001));have GE176001:=Za ((by rw[hg];exact(ZC (by repeat(first|(with_reducible first|exact HB.out|apply Zn|apply Zm|apply Zo)|exact HB.out))):w.heap.size≤gb176001));replace HB:=Za (Zt (by repeat(first|(with_reducible first|exact HB.out|apply Zn|apply Zm|apply Zo)|exact HB.out)) hb);clear hb hbox hg;have hcz8_0:w7.cell? ⟨gb176001,0,none⟩=some (.string a0_0):=(Zp BK176001.out 0).trans rfl;have hcz8_1:w7.cell? ⟨gb176001,1,none⟩=some (.slice A0_1 l0_1.length c0_1):=(Zp BK176001.out 1).trans rfl;have hcz8_2:w7.cell? ⟨gb176001,2,none⟩=some (.int .i64 a0_2):=(Zp BK176001.out 2).trans rfl)|((with_reducible refine ZK (f:=206) rfl ?_);refine Z6 (some 5) rfl rfl Tryz.func206 (by kernel_rfl) rfl #[.string a0_0] rfl (by(try simp only[List.map_toArray,List.map_cons,List.map_nil]);first|done|rfl|(simp only[Zk,Zj];rfl)) ?_;(with_reducible refine(Zax.calls k a0_0 true _ A2.out).mono ?_);rintro e w' ⟨rfl,⟨nd,rfl⟩⟩;refine⟨_,rfl,?_⟩)|(go_at_call 175;(with_reducible refine(Zae.calls k _ _ l0_1 true _ ?side1 ?side2 A4.out).mono ?_);(case side1=>repeat(first|exact(Zb HR0_1.out (by repeat(first|(with_reducible first|exact HB.out|apply Zn|apply Zm|apply Zo|refine Zq ?_ GE176001.out)|exact HB.out)))|(with_reducible refine Kd.C_alloc ?_ _)|(with_reducible refine Kd.C_drewN ?_ _)|(with_reducible refine Kd.C_drew ?_)));(case side2=>exact HC0_1.out);rintro e w' ⟨rfl,⟨nd,rfl⟩⟩)|(go_at_call 127;(with_reducible refine(ZY.calls a0_2 0 3 t176004 _ A6.out).mono ?_);rintro e w' ⟨rfl,⟨nd,rfl⟩⟩))
   go_ret
   exact⟨by first|rfl|(simp[ZA,Zz] <;> rfl)|(simp[*,ZA,Zz] <;> rfl),by repeat(first|(with_reducible first|exact HB.out|apply Zn|apply Zm|apply Zo|refine Zq ?_ GE176001.out)|exact HB.out)⟩
  ·replace c5:=Bool.eq_false_iff.mpr c5
   subst c5
   have H1:(some false)=some r:=by rw[if_neg (show ¬(false=true) by decide)] at H;exact H
   clear H
   have H:=H1
   clear H1
   obtain rfl:=Zg H
   go_enter Tryz.func176,Tryz.ntmps176
   go_wp2_with (first|((with_reducible refine ZI (N:=1) rfl ?_);refine ZG ?hg (N:=1) ?hd (cs:=#[.string a0_0,.slice A0_1 l0_1.length c0_1,.int .i64 a0_2]) (t:=39) ?hr ?_;(case hd=>rfl);(case hg=>rfl);(case hr=>first|(go_simp;done)|(go_simp;rfl));intro gb176001 hg w9 hbox hb;have BK176001:=Za (hbox);have GW176001:=Za ((by rw[hg];exact(ZC (by repeat(first|(with_reducible first|exact HB.out|apply Zn|apply Zm|apply Zo)|exact HB.out))):w.heap.size≤gb176001));have GE176001:=Za ((by rw[hg];exact(ZC (by repeat(first|(with_reducible first|exact HB.out|apply Zn|apply Zm|apply Zo)|exact HB.out))):w.heap.size≤gb176001));replace HB:=Za (Zt (by repeat(first|(with_reducible first|exact HB.out|apply Zn|apply Zm|apply Zo)|exact HB.out)) hb);clear hb hbox hg;have hcz10_0:w9.cell? ⟨gb176001,0,none⟩=some (.string a0_0):=(Zp BK176001.out 0).trans rfl;have hcz10_1:w9.cell? ⟨gb176001,1,none⟩=some (.slice A0_1 l0_1.length c0_1):=(Zp BK176001.out 1).trans rfl;have hcz10_2:w9.cell? ⟨gb176001,2,none⟩=some (.int .i64 a0_2):=(Zp BK176001.out 2).trans rfl)|((with_reducible refine ZK (f:=206) rfl ?_);refine Z6 (some 5) rfl rfl Tryz.func206 (by kernel_rfl) rfl #[.string a0_0] rfl (by(try simp only[List.map_toArray,List.map_cons,List.map_nil]);first|done|rfl|(simp only[Zk,Zj];rfl)) ?_;(with_reducible refine(Zax.calls k a0_0 true _ A2.out).mono ?_);rintro e w' ⟨rfl,⟨nd,rfl⟩⟩;refine⟨_,rfl,?_⟩)|(go_at_call 175;(with_reducible refine(Zae.calls k _ _ l0_1 false _ ?side1 ?side2 A4.out).mono ?_);(case side1=>repeat(first|exact(Zb HR0_1.out (by repeat(first|(with_reducible first|exact HB.out|apply Zn|apply Zm|apply Zo|refine Zq ?_ GE176001.out)|exact HB.out)))|(with_reducible refine Kd.C_alloc ?_ _)|(with_reducible refine Kd.C_drewN ?_ _)|(with_reducible refine Kd.C_drew ?_)));(case side2=>exact HC0_1.out);rintro e w' ⟨rfl,⟨nd,rfl⟩⟩))
   go_ret
   exact⟨by first|rfl|(simp[ZA,Zz] <;> rfl)|(simp[*,ZA,Zz] <;> rfl),by repeat(first|(with_reducible first|exact HB.out|apply Zn|apply Zm|apply Zo|refine Zq ?_ GE176001.out)|exact HB.out)⟩
 ·replace c3:=Bool.eq_false_iff.mpr c3
  subst c3
  have H1:(some false)=some r:=by rw[if_neg (show ¬(false=true) by decide)] at H;exact H
  clear H
  have H:=H1
  clear H1
  obtain rfl:=Zg H
  go_enter Tryz.func176,Tryz.ntmps176
  go_wp2_with (first|((with_reducible refine ZI (N:=1) rfl ?_);refine ZG ?hg (N:=1) ?hd (cs:=#[.string a0_0,.slice A0_1 l0_1.length c0_1,.int .i64 a0_2]) (t:=39) ?hr ?_;(case hd=>rfl);(case hg=>rfl);(case hr=>first|(go_simp;done)|(go_simp;rfl));intro gb176001 hg w11 hbox hb;have BK176001:=Za (hbox);have GW176001:=Za ((by rw[hg];exact(ZC (by repeat(first|(with_reducible first|exact HB.out|apply Zn|apply Zm|apply Zo)|exact HB.out))):w.heap.size≤gb176001));have GE176001:=Za ((by rw[hg];exact(ZC (by repeat(first|(with_reducible first|exact HB.out|apply Zn|apply Zm|apply Zo)|exact HB.out))):w.heap.size≤gb176001));replace HB:=Za (Zt (by repeat(first|(with_reducible first|exact HB.out|apply Zn|apply Zm|apply Zo)|exact HB.out)) hb);clear hb hbox hg;have hcz12_0:w11.cell? ⟨gb176001,0,none⟩=some (.string a0_0):=(Zp BK176001.out 0).trans rfl;have hcz12_1:w11.cell? ⟨gb176001,1,none⟩=some (.slice A0_1 l0_1.length c0_1):=(Zp BK176001.out 1).trans rfl;have hcz12_2:w11.cell? ⟨gb176001,2,none⟩=some (.int .i64 a0_2):=(Zp BK176001.out 2).trans rfl)|((with_reducible refine ZK (f:=206) rfl ?_);refine Z6 (some 5) rfl rfl Tryz.func206 (by kernel_rfl) rfl #[.string a0_0] rfl (by(try simp only[List.map_toArray,List.map_cons,List.map_nil]);first|done|rfl|(simp only[Zk,Zj];rfl)) ?_;(with_reducible refine(Zax.calls k a0_0 false _ A2.out).mono ?_);rintro e w' ⟨rfl,⟨nd,rfl⟩⟩;refine⟨_,rfl,?_⟩))
  go_ret
  exact⟨by first|rfl|(simp[ZA,Zz] <;> rfl)|(simp[*,ZA,Zz] <;> rfl),by repeat(first|(with_reducible first|exact HB.out|apply Zn|apply Zm|apply Zo|refine Zq ?_ GE176001.out)|exact HB.out)⟩
def Zcb.f (k:Nat) (a0_0:ByteArray) (l0_1:List Int) (a0_2:Int):Option (Bool):=(Zar.f k a0_0).bind fun t23002=>(if t23002=true then((Zaa.f k l0_1).bind fun t23003=>(if t23003=true then(if a0_2≥0 then(some (decide (a0_2≤3))) else(some false)) else(some false))) else(some false))
set_option maxHeartbeats 8000000 in
set_option maxRecDepth 100000 in
theorem Zcb.calls (k:Nat) (a0_0:ByteArray) (A0_1:Option Addr) (c0_1:Nat) (l0_1:List Int) (a0_2:Int) (r:Bool) (w:World) (hr0_1:Kd.C (Kd.int .i64) w A0_1 l0_1.length l0_1) (hc0_1:l0_1.length≤c0_1) (h:Zcb.f k a0_0 l0_1 a0_2=some r) :
  Calls Tryz.prog 23 #[.agg #[.string a0_0,.slice A0_1 l0_1.length c0_1,.int .i64 a0_2]] w fun e w'=>e=.returned (.bool r)∧Below w.heap.size w w':=by
 have hu39:=Tryz.underlying39
 have HR0_1:=Za hr0_1;have HC0_1:=Za hc0_1;clear hr0_1 hc0_1
 have HB:=Za (Below.refl w.heap.size w)
 have H:((Zar.f k a0_0).bind fun t23002=>(if t23002=true then((Zaa.f k l0_1).bind fun t23003=>(if t23003=true then(if a0_2≥0 then(some (decide (a0_2≤3))) else(some false)) else(some false))) else(some false)))=some r:=h
 clear h
 replace H:=Zh H
 obtain⟨t23002,A20,H⟩:=H;have A2:=Za A20;clear A20
 by_cases c3:t23002=true
 ·subst c3
  rw[if_pos rfl] at H
  replace H:=Zh H
  obtain⟨t23003,A40,H⟩:=H;have A4:=Za A40;clear A40
  by_cases c5:t23003=true
  ·subst c5
   rw[if_pos rfl] at H
   by_cases c6:a0_2≥0
   ·rw[if_pos c6] at H
    have c6b0:decide (0≤a0_2)=true:=Ze c6
    clear c6
    obtain rfl:=Zg H
    go_enter Tryz.func23,Tryz.ntmps23
    go_wp2_with (first|((with_reducible refine ZI (N:=1) rfl ?_);refine ZG ?hg (N:=1) ?hd (cs:=#[.string a0_0,.slice A0_1 l0_1.length c0_1,.int .i64 a0_2]) (t:=39) ?hr ?_;(case hd=>rfl);(case hg=>rfl);(case hr=>first|(go_simp;done)|(go_simp;rfl));intro gb23001 hg w7 hbox hb;have BK23001:=Za (hbox);have GW23001:=Za ((by rw[hg];exact(ZC (by repeat(first|(with_reducible first|exact HB.out|apply Zn|apply Zm|apply Zo)|exact HB.out))):w.heap.size≤gb23001));have GE23001:=Za ((by rw[hg];exact(ZC (by repeat(first|(with_reducible first|exact HB.out|apply Zn|apply Zm|apply Zo)|exact HB.out))):w.heap.size≤gb23001));replace HB:=Za (Zt (by repeat(first|(with_reducible first|exact HB.out|apply Zn|apply Zm|apply Zo)|exact HB.out)) hb);clear hb hbox hg;have hcz8_0:w7.cell? ⟨gb23001,0,none⟩=some (.string a0_0):=(Zp BK23001.out 0).trans rfl;have hcz8_1:w7.cell? ⟨gb23001,1,none⟩=some (.slice A0_1 l0_1.length c0_1):=(Zp BK23001.out 1).trans rfl;have hcz8_2:w7.cell? ⟨gb23001,2,none⟩=some (.int .i64 a0_2):=(Zp BK23001.out 2).trans rfl)|((with_reducible refine ZK (f:=86) rfl ?_);refine Z6 (some 5) rfl rfl Tryz.func86 (by kernel_rfl) rfl #[.string a0_0] rfl (by(try simp only[List.map_toArray,List.map_cons,List.map_nil]);first|done|rfl|(simp only[Zk,Zj];rfl)) ?_;(with_reducible refine(Zar.calls k a0_0 true _ A2.out).mono ?_);rintro e w' ⟨rfl,⟨nd,rfl⟩⟩;refine⟨_,rfl,?_⟩)|(go_at_call 87;(with_reducible refine(Zaa.calls k _ _ l0_1 true _ ?side1 ?side2 A4.out).mono ?_);(case side1=>repeat(first|exact(Zb HR0_1.out (by repeat(first|(with_reducible first|exact HB.out|apply Zn|apply Zm|apply Zo|refine Zq ?_ GE23001.out)|exact HB.out)))|(with_reducible refine Kd.C_alloc ?_ _)|(with_reducible refine Kd.C_drewN ?_ _)|(with_reducible refine Kd.C_drew ?_)));(case side2=>exact HC0_1.out);rintro e w9 ⟨rfl,hb⟩;replace BK23001:=Za (Zx (g:=gb23001) (o:=.cells #[.string a0_0,.slice A0_1 l0_1.length c0_1,.int .i64 a0_2] 39 (0,0)) (by(with_reducible repeat(first|refine Zw ?_ _|refine ZB ?_|refine Zv ?_ _));exact BK23001.out) hb);replace HB:=Za (Zt (by repeat(first|(with_reducible first|exact HB.out|apply Zn|apply Zm|apply Zo|refine Zq ?_ GE23001.out)|exact HB.out)) hb);have hcz10_0:w9.cell? ⟨gb23001,0,none⟩=some (.string a0_0):=(Zp BK23001.out 0).trans rfl;have hcz10_1:w9.cell? ⟨gb23001,1,none⟩=some (.slice A0_1 l0_1.length c0_1):=(Zp BK23001.out 1).trans rfl;have hcz10_2:w9.cell? ⟨gb23001,2,none⟩=some (.int .i64 a0_2):=(Zp BK23001.out 2).trans rfl))
    go_ret
    exact⟨by first|rfl|(simp[ZA,Zz] <;> rfl)|(simp[*,ZA,Zz] <;> rfl),by repeat(first|(with_reducible first|exact HB.out|apply Zn|apply Zm|apply Zo|refine Zq ?_ GE23001.out)|exact HB.out)⟩
   ·rw[if_neg c6] at H
    have c6b0:decide (0≤a0_2)=false:=Zf c6
    clear c6
    obtain rfl:=Zg H
    go_enter Tryz.func23,Tryz.ntmps23
    go_wp2_with (first|((with_reducible refine ZI (N:=1) rfl ?_);refine ZG ?hg (N:=1) ?hd (cs:=#[.string a0_0,.slice A0_1 l0_1.length c0_1,.int .i64 a0_2]) (t:=39) ?hr ?_;(case hd=>rfl);(case hg=>rfl);(case hr=>first|(go_simp;done)|(go_simp;rfl));intro gb23001 hg w11 hbox hb;have BK23001:=Za (hbox);have GW23001:=Za ((by rw[hg];exact(ZC (by repeat(first|(with_reducible first|exact HB.out|apply Zn|apply Zm|apply Zo)|exact HB.out))):w.heap.size≤gb23001));have GE23001:=Za ((by rw[hg];exact(ZC (by repeat(first|(with_reducible first|exact HB.out|apply Zn|apply Zm|apply Zo)|exact HB.out))):w.heap.size≤gb23001));replace HB:=Za (Zt (by repeat(first|(with_reducible first|exact HB.out|apply Zn|apply Zm|apply Zo)|exact HB.out)) hb);clear hb hbox hg;have hcz12_0:w11.cell? ⟨gb23001,0,none⟩=some (.string a0_0):=(Zp BK23001.out 0).trans rfl;have hcz12_1:w11.cell? ⟨gb23001,1,none⟩=some (.slice A0_1 l0_1.length c0_1):=(Zp BK23001.out 1).trans rfl;have hcz12_2:w11.cell? ⟨gb23001,2,none⟩=some (.int .i64 a0_2):=(Zp BK23001.out 2).trans rfl)|((with_reducible refine ZK (f:=86) rfl ?_);refine Z6 (some 5) rfl rfl Tryz.func86 (by kernel_rfl) rfl #[.string a0_0] rfl (by(try simp only[List.map_toArray,List.map_cons,List.map_nil]);first|done|rfl|(simp only[Zk,Zj];rfl)) ?_;(with_reducible refine(Zar.calls k a0_0 true _ A2.out).mono ?_);rintro e w' ⟨rfl,⟨nd,rfl⟩⟩;refine⟨_,rfl,?_⟩)|(go_at_call 87;(with_reducible refine(Zaa.calls k _ _ l0_1 true _ ?side1 ?side2 A4.out).mono ?_);(case side1=>repeat(first|exact(Zb HR0_1.out (by repeat(first|(with_reducible first|exact HB.out|apply Zn|apply Zm|apply Zo|refine Zq ?_ GE23001.out)|exact HB.out)))|(with_reducible refine Kd.C_alloc ?_ _)|(with_reducible refine Kd.C_drewN ?_ _)|(with_reducible refine Kd.C_drew ?_)));(case side2=>exact HC0_1.out);rintro e w13 ⟨rfl,hb⟩;replace BK23001:=Za (Zx (g:=gb23001) (o:=.cells #[.string a0_0,.slice A0_1 l0_1.length c0_1,.int .i64 a0_2] 39 (0,0)) (by(with_reducible repeat(first|refine Zw ?_ _|refine ZB ?_|refine Zv ?_ _));exact BK23001.out) hb);replace HB:=Za (Zt (by repeat(first|(with_reducible first|exact HB.out|apply Zn|apply Zm|apply Zo|refine Zq ?_ GE23001.out)|exact HB.out)) hb);have hcz14_0:w13.cell? ⟨gb23001,0,none⟩=some (.string a0_0):=(Zp BK23001.out 0).trans rfl;have hcz14_1:w13.cell? ⟨gb23001,1,none⟩=some (.slice A0_1 l0_1.length c0_1):=(Zp BK23001.out 1).trans rfl;have hcz14_2:w13.cell? ⟨gb23001,2,none⟩=some (.int .i64 a0_2):=(Zp BK23001.out 2).trans rfl))
    go_ret
    exact⟨by first|rfl|(simp[ZA,Zz] <;> rfl)|(simp[*,ZA,Zz] <;> rfl),by repeat(first|(with_reducible first|exact HB.out|apply Zn|apply Zm|apply Zo|refine Zq ?_ GE23001.out)|exact HB.out)⟩
  ·replace c5:=Bool.eq_false_iff.mpr c5
   subst c5
   have H1:(some false)=some r:=by rw[if_neg (show ¬(false=true) by decide)] at H;exact H
   clear H
   have H:=H1
   clear H1
   obtain rfl:=Zg H
   go_enter Tryz.func23,Tryz.ntmps23
   go_wp2_with (first|((with_reducible refine ZI (N:=1) rfl ?_);refine ZG ?hg (N:=1) ?hd (cs:=#[.string a0_0,.slice A0_1 l0_1.length c0_1,.int .i64 a0_2]) (t:=39) ?hr ?_;(case hd=>rfl);(case hg=>rfl);(case hr=>first|(go_simp;done)|(go_simp;rfl));intro gb23001 hg w15 hbox hb;have BK23001:=Za (hbox);have GW23001:=Za ((by rw[hg];exact(ZC (by repeat(first|(with_reducible first|exact HB.out|apply Zn|apply Zm|apply Zo)|exact HB.out))):w.heap.size≤gb23001));have GE23001:=Za ((by rw[hg];exact(ZC (by repeat(first|(with_reducible first|exact HB.out|apply Zn|apply Zm|apply Zo)|exact HB.out))):w.heap.size≤gb23001));replace HB:=Za (Zt (by repeat(first|(with_reducible first|exact HB.out|apply Zn|apply Zm|apply Zo)|exact HB.out)) hb);clear hb hbox hg;have hcz16_0:w15.cell? ⟨gb23001,0,none⟩=some (.string a0_0):=(Zp BK23001.out 0).trans rfl;have hcz16_1:w15.cell? ⟨gb23001,1,none⟩=some (.slice A0_1 l0_1.length c0_1):=(Zp BK23001.out 1).trans rfl;have hcz16_2:w15.cell? ⟨gb23001,2,none⟩=some (.int .i64 a0_2):=(Zp BK23001.out 2).trans rfl)|((with_reducible refine ZK (f:=86) rfl ?_);refine Z6 (some 5) rfl rfl Tryz.func86 (by kernel_rfl) rfl #[.string a0_0] rfl (by(try simp only[List.map_toArray,List.map_cons,List.map_nil]);first|done|rfl|(simp only[Zk,Zj];rfl)) ?_;(with_reducible refine(Zar.calls k a0_0 true _ A2.out).mono ?_);rintro e w' ⟨rfl,⟨nd,rfl⟩⟩;refine⟨_,rfl,?_⟩)|(go_at_call 87;(with_reducible refine(Zaa.calls k _ _ l0_1 false _ ?side1 ?side2 A4.out).mono ?_);(case side1=>repeat(first|exact(Zb HR0_1.out (by repeat(first|(with_reducible first|exact HB.out|apply Zn|apply Zm|apply Zo|refine Zq ?_ GE23001.out)|exact HB.out)))|(with_reducible refine Kd.C_alloc ?_ _)|(with_reducible refine Kd.C_drewN ?_ _)|(with_reducible refine Kd.C_drew ?_)));(case side2=>exact HC0_1.out);rintro e w17 ⟨rfl,hb⟩;replace BK23001:=Za (Zx (g:=gb23001) (o:=.cells #[.string a0_0,.slice A0_1 l0_1.length c0_1,.int .i64 a0_2] 39 (0,0)) (by(with_reducible repeat(first|refine Zw ?_ _|refine ZB ?_|refine Zv ?_ _));exact BK23001.out) hb);replace HB:=Za (Zt (by repeat(first|(with_reducible first|exact HB.out|apply Zn|apply Zm|apply Zo|refine Zq ?_ GE23001.out)|exact HB.out)) hb);(try clear hi)))
   go_ret
   exact⟨by first|rfl|(simp[ZA,Zz] <;> rfl)|(simp[*,ZA,Zz] <;> rfl),by repeat(first|(with_reducible first|exact HB.out|apply Zn|apply Zm|apply Zo|refine Zq ?_ GE23001.out)|exact HB.out)⟩
 ·replace c3:=Bool.eq_false_iff.mpr c3
  subst c3
  have H1:(some false)=some r:=by rw[if_neg (show ¬(false=true) by decide)] at H;exact H
  clear H
  have H:=H1
  clear H1
  obtain rfl:=Zg H
  go_enter Tryz.func23,Tryz.ntmps23
  go_wp2_with (first|((with_reducible refine ZI (N:=1) rfl ?_);refine ZG ?hg (N:=1) ?hd (cs:=#[.string a0_0,.slice A0_1 l0_1.length c0_1,.int .i64 a0_2]) (t:=39) ?hr ?_;(case hd=>rfl);(case hg=>rfl);(case hr=>first|(go_simp;done)|(go_simp;rfl));intro gb23001 hg w18 hbox hb;have BK23001:=Za (hbox);have GW23001:=Za ((by rw[hg];exact(ZC (by repeat(first|(with_reducible first|exact HB.out|apply Zn|apply Zm|apply Zo)|exact HB.out))):w.heap.size≤gb23001));have GE23001:=Za ((by rw[hg];exact(ZC (by repeat(first|(with_reducible first|exact HB.out|apply Zn|apply Zm|apply Zo)|exact HB.out))):w.heap.size≤gb23001));replace HB:=Za (Zt (by repeat(first|(with_reducible first|exact HB.out|apply Zn|apply Zm|apply Zo)|exact HB.out)) hb);clear hb hbox hg;have hcz19_0:w18.cell? ⟨gb23001,0,none⟩=some (.string a0_0):=(Zp BK23001.out 0).trans rfl;have hcz19_1:w18.cell? ⟨gb23001,1,none⟩=some (.slice A0_1 l0_1.length c0_1):=(Zp BK23001.out 1).trans rfl;have hcz19_2:w18.cell? ⟨gb23001,2,none⟩=some (.int .i64 a0_2):=(Zp BK23001.out 2).trans rfl)|((with_reducible refine ZK (f:=86) rfl ?_);refine Z6 (some 5) rfl rfl Tryz.func86 (by kernel_rfl) rfl #[.string a0_0] rfl (by(try simp only[List.map_toArray,List.map_cons,List.map_nil]);first|done|rfl|(simp only[Zk,Zj];rfl)) ?_;(with_reducible refine(Zar.calls k a0_0 false _ A2.out).mono ?_);rintro e w' ⟨rfl,⟨nd,rfl⟩⟩;refine⟨_,rfl,?_⟩))
  go_ret
  exact⟨by first|rfl|(simp[ZA,Zz] <;> rfl)|(simp[*,ZA,Zz] <;> rfl),by repeat(first|(with_reducible first|exact HB.out|apply Zn|apply Zm|apply Zo|refine Zq ?_ GE23001.out)|exact HB.out)⟩
end Go.Proofs.YtoeimopgoaffcaaGreatDoor.Pr
namespace Go.Proofs.YtoeimopgoaffcaaGreatDoor.Pr
open Go.RowKit Go.Proofs.YtoeimopgoaffcaaGreatDoorW.PrintWords Go.Proofs.YtoeimopgoaffcaaGreatDoor.Ni
def Zcu (s:ByteArray) (l:List Int) (n:Int):Bool:=nameB s && labB l && (decide (0≤n) && decide (n≤3))
theorem Zfr (s:ByteArray) (l:List Int) (n:Int) (hs:s.size≤9223372036854775807) (hl:l.length≤9223372036854775807) (k:Nat) (hk:2 ^ 64≤k):Zcx.f k s l n=some (Zcu s l n):=by
 unfold Zcx.f Zcu ZY.f
 rw[Zfs s hs k hk,Zi,ZcG l hl k hk]
 cases nameB s
 ·rfl
 ·rw[if_pos rfl,Zi]
  cases labB l
  ·rfl
  ·rw[if_pos rfl]
   by_cases h:n≥0
   ·rw[if_pos h,Ze (show(0:Int)≤n from h)];rfl
   ·rw[if_neg h,Zf (show ¬(0:Int)≤n from h)];rfl
theorem Zfy (s:ByteArray) (l:List Int) (n:Int) (hs:s.size≤9223372036854775807) (hl:l.length≤9223372036854775807) (k:Nat) (hk:2 ^ 64≤k):Zcb.f k s l n=some (Zcu s l n):=by
 unfold Zcb.f Zcu
 rw[ZfB s hs k hk,Zi,Zcv l hl k hk]
 cases nameB s
 ·rfl
 ·rw[if_pos rfl,Zi]
  cases labB l
  ·rfl
  ·rw[if_pos rfl]
   by_cases h:n≥0
   ·rw[if_pos h,Ze (show(0:Int)≤n from h)];rfl
   ·rw[if_neg h,Zf (show ¬(0:Int)≤n from h)];rfl
end Go.Proofs.YtoeimopgoaffcaaGreatDoor.Pr
namespace Go.Proofs.YtoeimopgoaffcaaGreatDoor.Pr
open Go.RowKit Go.Proofs.YtoeimopgoaffcaaGreatDoorW.PrintWords Go.Proofs.YtoeimopgoaffcaaGreatDoorW.PrintLast Go.Proofs.YtoeimopgoaffcaaGreatDoorW.PrintMore
attribute [local go_sem] Z2 Z0 Zac Zab ZU ZT Z1 ZZ
set_option linter.unusedVariables false
set_option linter.unusedSimpArgs false
mutual
def ZN.j0:Nat→Bool→List (S39)→List (S82)→Int→Option (Bool)
 | 0,_,_,_,_=>none
 | k+1,x33,x77002000,x77002001,x77002002=>if x33=true then(some false) else(ZN.l0 k x77002000 (x77002000.length:Int) 0 x77002000 x77002001 x77002002)
def ZN.l0:Nat→List (S39)→Int→Int→List (S39)→List (S82)→Int→Option (Bool)
 | 0,_,_,_,_,_,_=>none
 | k+1,x35,x36,x37,x77002000,x77002001,x77002002=>if x37<x36 then(if 0≤x37 then(if x37<(x35.length:Int) then((Zcb.f k ((ZD x35 x37).f0) ((ZD x35 x37).f1) ((ZD x35 x37).f2)).bind fun t77006=>(if t77006=true then(if x37≤(x77002000.length:Int) then((some (x77002000.take (x37:Int).toNat:List (S39))).bind fun y77007=>(ZN.l1 k x35 x36 x37 y77007 (y77007.length:Int) 0 x77002000 x77002001 x77002002 ((ZD x35 x37).f0) ((ZD x35 x37).f1) ((ZD x35 x37).f2))) else(none)) else(some false))) else(none)) else(none)) else(some true)
def ZN.l1:Nat→List (S39)→Int→Int→List (S39)→Int→Int→List (S39)→List (S82)→Int→ByteArray→List Int→Int→Option (Bool)
 | 0,_,_,_,_,_,_,_,_,_,_,_,_=>none
 | k+1,x35,x36,x37,x48,x49,x50,x77002000,x77002001,x77002002,x77006000,x77006001,x77006002=>if x50<x49 then(if 0≤x50 then(if x50<(x48.length:Int) then(if ((ZD x48 x50).f0).toList=x77006000.toList then(some false) else(if x77006002=0 then(ZN.l1 k x35 x36 x37 x48 x49 (wrap64 (x50+1)) x77002000 x77002001 x77002002 x77006000 x77006001 x77006002) else(if ((ZD x48 x50).f2)=x77006002 then(some false) else(ZN.l1 k x35 x36 x37 x48 x49 (wrap64 (x50+1)) x77002000 x77002001 x77002002 x77006000 x77006001 x77006002)))) else(none)) else(none)) else(ZN.l0 k x35 x36 (wrap64 (x37+1)) x77002000 x77002001 x77002002)
end
def ZN.f (k:Nat) (l0_0:List (S39)) (l0_1:List (S82)) (a0_2:Int):Option (Bool):=if (l0_0.length:Int)<1 then(ZN.j0 k true l0_0 l0_1 a0_2) else(if (l0_0.length:Int) > 7 then(ZN.j0 k true l0_0 l0_1 a0_2) else(if 0<(l0_0.length:Int) then(if (((ZD l0_0 0).f1).length:Int) > 0 then(ZN.j0 k true l0_0 l0_1 a0_2) else(ZN.j0 k (((ZD l0_0 0).f2) != 0) l0_0 l0_1 a0_2)) else(none)))
set_option maxHeartbeats 8000000 in
set_option maxRecDepth 100000 in
theorem ZN.calls (k:Nat) (A0_0:Option Addr) (c0_0:Nat) (l0_0:List (S39)) (A0_1:Option Addr) (c0_1:Nat) (l0_1:List (S82)) (a0_2:Int) (r:Bool) (w:World) (hr0_0:Kd.C k39 w A0_0 l0_0.length l0_0) (hc0_0:l0_0.length≤c0_0) (hr0_1:Kd.C k82 w A0_1 l0_1.length l0_1) (hc0_1:l0_1.length≤c0_1) (h:ZN.f k l0_0 l0_1 a0_2=some r) :
  Calls Tryz.prog 77 #[.agg #[.slice A0_0 l0_0.length c0_0,.slice A0_1 l0_1.length c0_1,.int .i64 a0_2]] w fun e w'=>e=.returned (.bool r)∧Below w.heap.size w w':=by
 have hu25:=Tryz.underlying25
 have hu39:=Tryz.underlying39
 have HR0_0:=Za hr0_0;have HC0_0:=Za hc0_0;clear hr0_0 hc0_0;have HR0_1:=Za hr0_1;have HC0_1:=Za hc0_1;clear hr0_1 hc0_1
 have HB:=Za (Below.refl w.heap.size w)
 have H:(if (l0_0.length:Int)<1 then(ZN.j0 k true l0_0 l0_1 a0_2) else(if (l0_0.length:Int) > 7 then(ZN.j0 k true l0_0 l0_1 a0_2) else(if 0<(l0_0.length:Int) then(if (((ZD l0_0 0).f1).length:Int) > 0 then(ZN.j0 k true l0_0 l0_1 a0_2) else(ZN.j0 k (((ZD l0_0 0).f2) != 0) l0_0 l0_1 a0_2)) else(none))))=some r:=h
 clear h;have HC2:=Za H;clear H
 go_enter Tryz.func77,Tryz.ntmps77
 go_upto_region 1 with (first|((with_reducible refine ZI (N:=1) rfl ?_);refine ZG ?hg (N:=1) ?hd (cs:=#[.slice A0_0 l0_0.length c0_0,.slice A0_1 l0_1.length c0_1,.int .i64 a0_2]) (t:=25) ?hr ?_;(case hd=>rfl);(case hg=>rfl);(case hr=>first|(go_simp;done)|(go_simp;rfl));intro gb77001 hg w3 hbox hb;have BK77001:=Za (hbox);have GW77001:=Za ((by rw[hg];exact(ZC (by repeat(first|(with_reducible first|exact HB.out|apply Zn|apply Zm|apply Zo)|exact HB.out))):w.heap.size≤gb77001));have GE77001:=Za ((by rw[hg];exact(ZC (by repeat(first|(with_reducible first|exact HB.out|apply Zn|apply Zm|apply Zo)|exact HB.out))):w.heap.size≤gb77001));replace HB:=Za (Zt (by repeat(first|(with_reducible first|exact HB.out|apply Zn|apply Zm|apply Zo)|exact HB.out)) hb);clear hb hbox hg))
 (try simp only[Act.put,List.setIfInBounds_toArray,List.set_cons_zero,List.set_cons_succ])
 go_cut [33] (fun v33 wc=>∃(kq:Nat) (x33_1:Bool),v33=.bool x33_1∧Aside0 (ZN.j0 kq x33_1 l0_0 l0_1 a0_2=some r)∧Aside0 (kq≤k)∧Aside0 (wc.heap[gb77001]? = some (.cells #[(.slice A0_0 l0_0.length c0_0),(.slice A0_1 l0_1.length c0_1),.int .i64 a0_2] 25 (0,0)))∧Aside0 (Below w.heap.size w wc))
 case first=>
  have H:=HC2.out
  clear HC2
  by_cases c4:(l0_0.length:Int)<1
  ·rw[if_pos c4] at H
   have c4b0:decide ((l0_0.length:Int)<1)=true:=Ze c4
   have c4b1:decide (l0_0.length<1)=true:=Ze (by omega)
   clear c4
   (first|rw[c4b0]|(simp only[ZH,ZJ];rw[c4b0])|skip)
   have H':=Za H
   clear H
   have hcz5_0:w3.cell? ⟨gb77001,0,none⟩=some (.slice A0_0 l0_0.length c0_0):=(Zp BK77001.out 0).trans rfl
   have hcz5_1:w3.cell? ⟨gb77001,1,none⟩=some (.slice A0_1 l0_1.length c0_1):=(Zp BK77001.out 1).trans rfl
   have hcz5_2:w3.cell? ⟨gb77001,2,none⟩=some (.int .i64 a0_2):=(Zp BK77001.out 2).trans rfl
   have hfz5_0:=Zs BK77001.out 0
   have hfz5_1:=Zs BK77001.out 1
   have hfz5_2:=Zs BK77001.out 2
   go_wp2
   go_meet
   case rel=>exact⟨_,(true),(by first|rfl|(simp;done)|(simp[*];done)),H',⟨by first|omega|exact Nat.le_refl _⟩,⟨by(with_reducible repeat(first|refine Zw ?_ _|refine ZB ?_|refine Zv ?_ _));exact BK77001.out⟩,⟨by repeat(first|(with_reducible first|exact HB.out|apply Zn|apply Zm|apply Zo|refine Zq ?_ GE77001.out)|exact HB.out)⟩⟩
  ·rw[if_neg c4] at H
   have c4b0:decide ((l0_0.length:Int)<1)=false:=Zf c4
   have c4b1:decide (l0_0.length<1)=false:=Zf (by omega)
   clear c4
   (first|rw[c4b0]|(simp only[ZH,ZJ];rw[c4b0])|skip)
   by_cases c6:(l0_0.length:Int) > 7
   ·rw[if_pos c6] at H
    have c6b0:decide (7<(l0_0.length:Int))=true:=Ze c6
    have c6b1:decide (7<l0_0.length)=true:=Ze (by omega)
    clear c6
    have H':=Za H
    clear H
    have hcz7_0:w3.cell? ⟨gb77001,0,none⟩=some (.slice A0_0 l0_0.length c0_0):=(Zp BK77001.out 0).trans rfl
    have hcz7_1:w3.cell? ⟨gb77001,1,none⟩=some (.slice A0_1 l0_1.length c0_1):=(Zp BK77001.out 1).trans rfl
    have hcz7_2:w3.cell? ⟨gb77001,2,none⟩=some (.int .i64 a0_2):=(Zp BK77001.out 2).trans rfl
    have hfz7_0:=Zs BK77001.out 0
    have hfz7_1:=Zs BK77001.out 1
    have hfz7_2:=Zs BK77001.out 2
    go_wp2
    go_meet
    case rel=>exact⟨_,(true),(by first|rfl|(simp;done)|(simp[*];done)),H',⟨by first|omega|exact Nat.le_refl _⟩,⟨by(with_reducible repeat(first|refine Zw ?_ _|refine ZB ?_|refine Zv ?_ _));exact BK77001.out⟩,⟨by repeat(first|(with_reducible first|exact HB.out|apply Zn|apply Zm|apply Zo|refine Zq ?_ GE77001.out)|exact HB.out)⟩⟩
   ·rw[if_neg c6] at H
    have c6b0:decide (7<(l0_0.length:Int))=false:=Zf c6
    have c6b1:decide (7<l0_0.length)=false:=Zf (by omega)
    clear c6
    by_cases c8:0<(l0_0.length:Int)
    ·rw[if_pos c8] at H
     have c8b0:decide (0<(l0_0.length:Int))=true:=Ze c8
     have c8b1:decide (0<l0_0.length)=true:=Ze (by omega)
     clear c8
     by_cases c9:(((ZD l0_0 0).f1).length:Int) > 0
     ·rw[if_pos c9] at H
      have c9b0:decide (0<(((ZD l0_0 0).f1).length:Int))=true:=Ze c9
      have c9b1:decide (0<((ZD l0_0 0).f1).length)=true:=Ze (by omega)
      clear c9
      have H':=Za H
      clear H
      have hcz10_0:w3.cell? ⟨gb77001,0,none⟩=some (.slice A0_0 l0_0.length c0_0):=(Zp BK77001.out 0).trans rfl
      have hcz10_1:w3.cell? ⟨gb77001,1,none⟩=some (.slice A0_1 l0_1.length c0_1):=(Zp BK77001.out 1).trans rfl
      have hcz10_2:w3.cell? ⟨gb77001,2,none⟩=some (.int .i64 a0_2):=(Zp BK77001.out 2).trans rfl
      have hfz10_0:=Zs BK77001.out 0
      have hfz10_1:=Zs BK77001.out 1
      have hfz10_2:=Zs BK77001.out 2
      have p77002:0≤(0:Int):=(by omega)
      have q77002:0<(l0_0.length:Int):=Zd (by first|(with_reducible assumption)|assumption)
      obtain⟨ad77002,A77002_1,c77002_1,e77002,hx77002_0,hx77002_1,hx77002_2,hl77002_1,hi77002_1⟩:=ZaG HR0_0.out 0 p77002 q77002
      cases e77002
      have qi77002:(0<l0_0.length)=True:=eq_true (by omega)
      (try rw[show((0:Int)).toNat=0 from rfl] at hx77002_0)
      (try rw[show 0 * 3=0 from rfl] at hx77002_0)
      (try rw[Addr.add_zero'] at hx77002_0)
      (try rw[show((0:Int)).toNat=0 from rfl] at hx77002_1)
      (try rw[show 0 * 3=0 from rfl] at hx77002_1)
      (try rw[Addr.add_zero'] at hx77002_1)
      (try rw[show((0:Int)).toNat=0 from rfl] at hx77002_2)
      (try rw[show 0 * 3=0 from rfl] at hx77002_2)
      (try rw[Addr.add_zero'] at hx77002_2)
      replace hx77002_0:=(HB.out.cell (Zc w _ hx77002_0)).trans hx77002_0
      replace hx77002_1:=(HB.out.cell (Zc w _ hx77002_1)).trans hx77002_1
      replace hx77002_2:=(HB.out.cell (Zc w _ hx77002_2)).trans hx77002_2
      have HR77002_1:=Za hi77002_1;have HC77002_1:=Za hl77002_1;clear hi77002_1 hl77002_1
      replace p77002:=eq_true p77002
      replace q77002:=eq_true q77002
      go_wp2
      go_meet
      case rel=>exact⟨_,(true),(by first|rfl|(simp;done)|(simp[*];done)),H',⟨by first|omega|exact Nat.le_refl _⟩,⟨by(with_reducible repeat(first|refine Zw ?_ _|refine ZB ?_|refine Zv ?_ _));exact BK77001.out⟩,⟨by repeat(first|(with_reducible first|exact HB.out|apply Zn|apply Zm|apply Zo|refine Zq ?_ GE77001.out)|exact HB.out)⟩⟩
     ·rw[if_neg c9] at H
      have c9b0:decide (0<(((ZD l0_0 0).f1).length:Int))=false:=Zf c9
      have c9b1:decide (0<((ZD l0_0 0).f1).length)=false:=Zf (by omega)
      clear c9
      have H':=Za H
      clear H
      have hcz11_0:w3.cell? ⟨gb77001,0,none⟩=some (.slice A0_0 l0_0.length c0_0):=(Zp BK77001.out 0).trans rfl
      have hcz11_1:w3.cell? ⟨gb77001,1,none⟩=some (.slice A0_1 l0_1.length c0_1):=(Zp BK77001.out 1).trans rfl
      have hcz11_2:w3.cell? ⟨gb77001,2,none⟩=some (.int .i64 a0_2):=(Zp BK77001.out 2).trans rfl
      have hfz11_0:=Zs BK77001.out 0
      have hfz11_1:=Zs BK77001.out 1
      have hfz11_2:=Zs BK77001.out 2
      have p77002:0≤(0:Int):=(by omega)
      have q77002:0<(l0_0.length:Int):=Zd (by first|(with_reducible assumption)|assumption)
      obtain⟨ad77002,A77002_1,c77002_1,e77002,hx77002_0,hx77002_1,hx77002_2,hl77002_1,hi77002_1⟩:=ZaG HR0_0.out 0 p77002 q77002
      cases e77002
      have qi77002:(0<l0_0.length)=True:=eq_true (by omega)
      (try rw[show((0:Int)).toNat=0 from rfl] at hx77002_0)
      (try rw[show 0 * 3=0 from rfl] at hx77002_0)
      (try rw[Addr.add_zero'] at hx77002_0)
      (try rw[show((0:Int)).toNat=0 from rfl] at hx77002_1)
      (try rw[show 0 * 3=0 from rfl] at hx77002_1)
      (try rw[Addr.add_zero'] at hx77002_1)
      (try rw[show((0:Int)).toNat=0 from rfl] at hx77002_2)
      (try rw[show 0 * 3=0 from rfl] at hx77002_2)
      (try rw[Addr.add_zero'] at hx77002_2)
      replace hx77002_0:=(HB.out.cell (Zc w _ hx77002_0)).trans hx77002_0
      replace hx77002_1:=(HB.out.cell (Zc w _ hx77002_1)).trans hx77002_1
      replace hx77002_2:=(HB.out.cell (Zc w _ hx77002_2)).trans hx77002_2
      have HR77002_1:=Za hi77002_1;have HC77002_1:=Za hl77002_1;clear hi77002_1 hl77002_1
      replace p77002:=eq_true p77002
      replace q77002:=eq_true q77002
      have p77003:0≤(0:Int):=(by omega)
      have q77003:0<(l0_0.length:Int):=Zd (by first|(with_reducible assumption)|assumption)
      obtain⟨ad77003,A77003_1,c77003_1,e77003,hx77003_0,hx77003_1,hx77003_2,hl77003_1,hi77003_1⟩:=ZaG HR0_0.out 0 p77003 q77003
      obtain rfl:ad77002=ad77003:=(by injection e77003)
      have qi77003:(0<l0_0.length)=True:=eq_true (by omega)
      (try rw[show((0:Int)).toNat=0 from rfl] at hx77003_0)
      (try rw[show 0 * 3=0 from rfl] at hx77003_0)
      (try rw[Addr.add_zero'] at hx77003_0)
      (try rw[show((0:Int)).toNat=0 from rfl] at hx77003_1)
      (try rw[show 0 * 3=0 from rfl] at hx77003_1)
      (try rw[Addr.add_zero'] at hx77003_1)
      (try rw[show((0:Int)).toNat=0 from rfl] at hx77003_2)
      (try rw[show 0 * 3=0 from rfl] at hx77003_2)
      (try rw[Addr.add_zero'] at hx77003_2)
      replace hx77003_0:=(HB.out.cell (Zc w _ hx77003_0)).trans hx77003_0
      replace hx77003_1:=(HB.out.cell (Zc w _ hx77003_1)).trans hx77003_1
      replace hx77003_2:=(HB.out.cell (Zc w _ hx77003_2)).trans hx77003_2
      have HR77003_1:=Za hi77003_1;have HC77003_1:=Za hl77003_1;clear hi77003_1 hl77003_1
      replace p77003:=eq_true p77003
      replace q77003:=eq_true q77003
      have ea_:=Zg (hx77002_1.symm.trans hx77003_1)
      injection ea_ with ea_ en_ ec_
      subst ea_;subst ec_;clear en_
      go_wp2
      go_meet
      case rel=>exact⟨_,((((ZD l0_0 0).f2) != 0)),(by first|rfl|(simp;done)|(simp[*];done)),H',⟨by first|omega|exact Nat.le_refl _⟩,⟨by(with_reducible repeat(first|refine Zw ?_ _|refine ZB ?_|refine Zv ?_ _));exact BK77001.out⟩,⟨by repeat(first|(with_reducible first|exact HB.out|apply Zn|apply Zm|apply Zo|refine Zq ?_ GE77001.out)|exact HB.out)⟩⟩
    ·rw[if_neg c8] at H
     exact absurd H (by simp)
 case rest=>
  clear HC2
  try clear p2
  try clear c4
  try clear c4b0
  try clear c4b1
  try clear c6
  try clear c6b0
  try clear c6b1
  try clear c7
  try clear p7
  try clear q7
  try clear qi7
  try clear c8
  try clear c8b0
  try clear c8b1
  try clear c9
  try clear c9b0
  try clear c9b1
  try clear p77002
  try clear p77003
  try clear q77002
  try clear q77003
  obtain⟨kq,x33_1,rfl,HA,HJ1,BK77001,HB⟩:=hcut
  cases kq with
  | zero=>exact absurd HA.out (by simp[ZN.j0])
  | succ kj1=>
   have H:=HA.out
   clear HA
   simp only[ZN.j0] at H
   by_cases c12:x33_1=true
   ·subst c12
    rw[if_pos rfl] at H
    obtain rfl:=Zg H
    go_wp2
    go_ret
    exact⟨by first|rfl|(simp[ZA,Zz] <;> rfl)|(simp[*,ZA,Zz] <;> rfl),by repeat(first|(with_reducible first|exact HB.out|apply Zn|apply Zm|apply Zo|refine Zq ?_ GE77001.out)|exact HB.out)⟩
   ·replace c12:=Bool.eq_false_iff.mpr c12
    subst c12
    have H1:(ZN.l0 kj1 l0_0 (l0_0.length:Int) 0 l0_0 l0_1 a0_2)=some r:=by rw[if_neg (show ¬(false=true) by decide)] at H;exact H
    clear H
    have H:=H1
    clear H1
    have H':=Za H
    clear H
    have hcz13_0:wc.cell? ⟨gb77001,0,none⟩=some (.slice A0_0 l0_0.length c0_0):=(Zp BK77001.out 0).trans rfl
    have hcz13_1:wc.cell? ⟨gb77001,1,none⟩=some (.slice A0_1 l0_1.length c0_1):=(Zp BK77001.out 1).trans rfl
    have hcz13_2:wc.cell? ⟨gb77001,2,none⟩=some (.int .i64 a0_2):=(Zp BK77001.out 2).trans rfl
    have hfz13_0:=Zs BK77001.out 0
    have hfz13_1:=Zs BK77001.out 1
    have hfz13_2:=Zs BK77001.out 2
    go_wp2
    go_loopg [37] kj1 (fun kq v37 w'=>∃(x37_2:Int),v37=.int .i64 x37_2∧Aside0 (ZN.l0 kq l0_0 (l0_0.length:Int) x37_2 l0_0 l0_1 a0_2=some r)∧Aside0 (kq≤kj1)∧Aside0 (w'.heap[gb77001]? = some (.cells #[(.slice A0_0 l0_0.length c0_0),(.slice A0_1 l0_1.length c0_1),.int .i64 a0_2] 25 (0,0)))∧Aside0 (Below w.heap.size w w'))
    case atStart=>exact⟨(0),(by first|rfl|(simp;done)|(simp[*];done)),H',⟨Nat.le_refl _⟩,⟨by(with_reducible repeat(first|refine Zw ?_ _|refine ZB ?_|refine Zv ?_ _));exact BK77001.out⟩,⟨by repeat(first|(with_reducible first|exact HB.out|apply Zn|apply Zm|apply Zo|refine Zq ?_ GE77001.out)|exact HB.out)⟩⟩
    case round=>
     clear H'
     try clear c1
     try clear p2
     try clear c4
     try clear c4b0
     try clear c4b1
     try clear c6
     try clear c6b0
     try clear c6b1
     try clear c7
     try clear p7
     try clear q7
     try clear qi7
     try clear c8
     try clear c8b0
     try clear c8b1
     try clear c9
     try clear c9b0
     try clear c9b1
     try clear c12
     try clear p2
     try clear p7
     try clear p77002
     try clear p77003
     try clear q7
     try clear q77002
     try clear q77003
     obtain⟨x37_2,rfl,HA,HK2,BK77001,HB⟩:=hrel
     cases gk with
     | zero=>exact absurd HA.out (by simp[ZN.l0])
     | succ k2=>
      have H:=HA.out
      clear HA
      simp only[ZN.l0] at H
      by_cases c14:x37_2<(l0_0.length:Int)
      ·rw[if_pos c14] at H
       have c14b0:decide (x37_2<(l0_0.length:Int))=true:=Ze c14
       clear c14
       by_cases c15:0≤x37_2
       ·rw[if_pos c15] at H
        have c15b0:decide (0≤x37_2)=true:=Ze c15
        clear c15
        by_cases c16:x37_2<(l0_0.length:Int)
        ·rw[if_pos c16] at H
         have c16b0:decide (x37_2<(l0_0.length:Int))=true:=Ze c16
         clear c16
         replace H:=Zh H
         obtain⟨t77006,A170,H⟩:=H;have A17:=Za A170;clear A170
         by_cases c18:t77006=true
         ·subst c18
          rw[if_pos rfl] at H
          have c19b0:=eq_true (Zd (by first|(with_reducible assumption)|assumption):0≤x37_2)
          by_cases c20:x37_2≤(l0_0.length:Int)
          ·rw[if_pos c20] at H
           have c20b0:=eq_true c20
           have c20b1:decide (x37_2≤(l0_0.length:Int))=true:=Ze c20
           clear c20
           obtain⟨y77007,hy77007⟩:∃y_:List (S39),y_=(l0_0.take (x37_2:Int).toNat):=⟨_,rfl⟩
           replace H:(ZN.l1 k2 l0_0 (l0_0.length:Int) x37_2 y77007 (y77007.length:Int) 0 l0_0 l0_1 a0_2 ((ZD l0_0 x37_2).f0) ((ZD l0_0 x37_2).f1) ((ZD l0_0 x37_2).f2))=some r:=by first|(rw[hy77007];with_reducible exact H)|(have H2_:=(Zi _ _).symm.trans H;rw[hy77007];with_reducible exact H2_)|(have H2_:=(Zi _ _).symm.trans H;with_reducible exact H2_)|with_reducible exact H|(rw[hy77007];exact H)|exact H
           have Ny77007:=Za hy77007;clear hy77007
           have H':=Za H
           clear H
           have p77004:0≤(x37_2:Int):=Zd (by first|(with_reducible assumption)|assumption)
           have q77004:x37_2<(l0_0.length:Int):=Zd (by first|(with_reducible assumption)|assumption)
           obtain⟨ad77004,A77004_1,c77004_1,e77004,hx77004_0,hx77004_1,hx77004_2,hl77004_1,hi77004_1⟩:=ZaG HR0_0.out x37_2 p77004 q77004
           cases e77004
           replace hx77004_0:=(HB.out.cell (Zc w _ hx77004_0)).trans hx77004_0
           replace hx77004_1:=(HB.out.cell (Zc w _ hx77004_1)).trans hx77004_1
           replace hx77004_2:=(HB.out.cell (Zc w _ hx77004_2)).trans hx77004_2
           have HR77004_1:=Za hi77004_1;have HC77004_1:=Za hl77004_1;clear hi77004_1 hl77004_1
           replace p77004:=eq_true p77004
           replace q77004:=eq_true q77004
           go_wp2_with (first|((with_reducible refine ZI (N:=4) rfl ?_);refine ZG ?hg (N:=4) ?hd (cs:=#[.string (⟨#[]⟩:ByteArray),.slice none 0 0,.int .i64 0]) (t:=39) ?hr ?_;(case hd=>rfl);(case hg=>rfl);(case hr=>first|(go_simp;done)|(go_simp;rfl));intro gb77005 hg w21 hbox hb;have n0_:=Za (Zx (g:=gb77001) (o:=.cells #[.slice (some ad77004) l0_0.length c0_0,.slice A0_1 l0_1.length c0_1,.int .i64 a0_2] 25 (0,0)) BK77001.out hb);have n1_:=Za (Zt (by repeat(first|(with_reducible first|exact HB.out|apply Zn|apply Zm|apply Zo|refine Zq ?_ GE77001.out)|exact HB.out)) hb);have n2_:=Za (hbox);have n3_:=Za ((by rw[hg];exact(ZC (by repeat(first|(with_reducible first|exact HB.out|apply Zn|apply Zm|apply Zo|refine Zq ?_ GE77001.out)|exact HB.out))):w.heap.size≤gb77005));have n4_:=n3_;have n5_:=Za ((by rw[hg];exact Nat.ne_of_lt (ZW (g:=gb77001) (o:=.cells #[.slice (some ad77004) l0_0.length c0_0,.slice A0_1 l0_1.length c0_1,.int .i64 a0_2] 25 (0,0)) BK77001.out):gb77001≠gb77005));have n6_:=Za n5_.out.symm;clear BK77001;clear HB;have BK77001:=n0_;have HB:=n1_;have BK77005:=n2_;have GW77005:=n3_;have GE77005:=n4_;have NB77001_77005:=n5_;have NB77005_77001:=n6_;clear n0_ n1_ n2_ n3_ n4_ n5_ n6_;clear hb hbox hg;have hnb22:=NB77005_77001.out;have hnc22:=NB77001_77005.out;have hcz23_0:w21.cell? ⟨gb77005,0,none⟩=some (.string (⟨#[]⟩:ByteArray)):=(Zp BK77005.out 0).trans rfl;have hcz23_1:w21.cell? ⟨gb77005,1,none⟩=some (.slice none 0 0):=(Zp BK77005.out 1).trans rfl;have hcz23_2:w21.cell? ⟨gb77005,2,none⟩=some (.int .i64 0):=(Zp BK77005.out 2).trans rfl;have hfz23_0:=Zs BK77005.out 0;have hfz23_1:=Zs BK77005.out 1;have hfz23_2:=Zs BK77005.out 2)|((with_reducible refine ZK (f:=23) rfl ?_);refine Z6 (some 43) rfl rfl Tryz.func23 (by kernel_rfl) rfl #[.agg #[.string ((ZD l0_0 x37_2).f0),.slice A77004_1 ((ZD l0_0 x37_2).f1).length c77004_1,.int .i64 ((ZD l0_0 x37_2).f2)]] rfl (by(try simp only[List.map_toArray,List.map_cons,List.map_nil]);first|done|rfl|(simp only[Zk,Zj];rfl)) ?_;(with_reducible refine(Zcb.calls k2 ((ZD l0_0 x37_2).f0) _ _ ((ZD l0_0 x37_2).f1) ((ZD l0_0 x37_2).f2) true _ ?side1 ?side2 A17.out).mono ?_);(case side1=>exact Zb HR77004_1.out (by repeat(first|(with_reducible first|exact HB.out|apply Zn|apply Zm|apply Zo|refine Zq ?_ GE77001.out|refine Zq ?_ GE77005.out)|exact HB.out)));(case side2=>exact HC77004_1.out);rintro e w24 ⟨rfl,hb⟩;refine⟨_,rfl,?_⟩;replace BK77001:=Za (Zx (g:=gb77001) (o:=.cells #[.slice (some ad77004) l0_0.length c0_0,.slice A0_1 l0_1.length c0_1,.int .i64 a0_2] 25 (0,0)) (by(with_reducible repeat(first|refine Zw ?_ _|refine ZB ?_|refine Zv ?_ _));refine ZL ?_ NB77001_77005.out _;(with_reducible repeat(first|refine Zw ?_ _|refine ZB ?_|refine Zv ?_ _));refine ZL ?_ NB77001_77005.out _;(with_reducible repeat(first|refine Zw ?_ _|refine ZB ?_|refine Zv ?_ _));refine ZL ?_ NB77001_77005.out _;(with_reducible repeat(first|refine Zw ?_ _|refine ZB ?_|refine Zv ?_ _));exact BK77001.out) hb);replace BK77005:=Za (Zx (g:=gb77005) (o:=.cells #[.string ((ZD l0_0 x37_2).f0),.slice A77004_1 ((ZD l0_0 x37_2).f1).length c77004_1,.int .i64 ((ZD l0_0 x37_2).f2)] 39 (0,0)) (by(with_reducible repeat(first|refine Zw ?_ _|refine ZB ?_|refine Zv ?_ _));refine ZP (cs:=#[.string ((ZD l0_0 x37_2).f0),.slice A77004_1 ((ZD l0_0 x37_2).f1).length c77004_1,.int .i64 0]) ?_ 2 _ rfl;(with_reducible repeat(first|refine Zw ?_ _|refine ZB ?_|refine Zv ?_ _));refine ZP (cs:=#[.string ((ZD l0_0 x37_2).f0),.slice none 0 0,.int .i64 0]) ?_ 1 _ rfl;(with_reducible repeat(first|refine Zw ?_ _|refine ZB ?_|refine Zv ?_ _));refine ZP (cs:=#[.string (⟨#[]⟩:ByteArray),.slice none 0 0,.int .i64 0]) ?_ 0 _ rfl;(with_reducible repeat(first|refine Zw ?_ _|refine ZB ?_|refine Zv ?_ _));exact BK77005.out) hb);replace HB:=Za (Zt (by repeat(first|(with_reducible first|exact HB.out|apply Zn|apply Zm|apply Zo|refine Zq ?_ GE77001.out|refine Zq ?_ GE77005.out)|exact HB.out)) hb);have hcz25_0:w24.cell? ⟨gb77001,0,none⟩=some (.slice (some ad77004) l0_0.length c0_0):=(Zp BK77001.out 0).trans rfl;have hcz25_1:w24.cell? ⟨gb77001,1,none⟩=some (.slice A0_1 l0_1.length c0_1):=(Zp BK77001.out 1).trans rfl;have hcz25_2:w24.cell? ⟨gb77001,2,none⟩=some (.int .i64 a0_2):=(Zp BK77001.out 2).trans rfl;have hfz25_0:=Zs BK77001.out 0;have hfz25_1:=Zs BK77001.out 1;have hfz25_2:=Zs BK77001.out 2;have q26:(x37_2:Int)≤((l0_0.length:Int):Int):=Zd (by first|(with_reducible assumption)|assumption);obtain⟨i026,hi026,_,hsz26,_⟩:=info_parts info39;have hroom26:l0_0.length≤c0_0:=HC0_0.out;have hC26:Kd.C k39 _ (some ad77004) l0_0.length l0_0:=HR0_0.out;have hcut26:=cut_to (P:=Tryz.prog) 22 39 .i64 Tryz.underlying22 hi026 (some ad77004) l0_0.length c0_0 x37_2 (Zd (by first|(with_reducible assumption)|assumption)) q26 hroom26;have hr26:=Kd.C_take (m:=(x37_2:Int).toNat) hC26 (by omega);have hy26:y77007.length=(x37_2:Int).toNat:=(by rw[Ny77007.out,Zj];omega);rw[← Ny77007.out] at hr26;rw[← hy26] at hcut26;have HR77010:=Za hr26;have HC77010:=Za (show y77007.length≤c0_0 from by omega);clear hr26 hC26 hroom26 hi026 hsz26;have KY26:=Za hy26;clear hy26;replace q26:=eq_true q26))
           go_loopg [50] k2 (fun kq v50 w'=>∃(x50_3:Int),v50=.int .i64 x50_3∧Aside0 (ZN.l1 kq l0_0 (l0_0.length:Int) x37_2 y77007 (y77007.length:Int) x50_3 l0_0 l0_1 a0_2 ((ZD l0_0 x37_2).f0) ((ZD l0_0 x37_2).f1) ((ZD l0_0 x37_2).f2)=some r)∧Aside0 (kq≤k2)∧Aside0 (w'.heap[gb77001]? = some (.cells #[(.slice (some ad77004) l0_0.length c0_0),(.slice A0_1 l0_1.length c0_1),.int .i64 a0_2] 25 (0,0)))∧Aside0 (w'.heap[gb77005]? = some (.cells #[.string ((ZD l0_0 x37_2).f0),(.slice A77004_1 ((ZD l0_0 x37_2).f1).length c77004_1),.int .i64 ((ZD l0_0 x37_2).f2)] 39 (0,0)))∧Aside0 (Below w.heap.size w w'))
           case atStart=>exact⟨(0),(by first|rfl|(simp;done)|(simp[*];done)),H',⟨Nat.le_refl _⟩,⟨by(with_reducible repeat(first|refine Zw ?_ _|refine ZB ?_|refine Zv ?_ _));exact BK77001.out⟩,⟨by(with_reducible repeat(first|refine Zw ?_ _|refine ZB ?_|refine Zv ?_ _));exact BK77005.out⟩,⟨by repeat(first|(with_reducible first|exact HB.out|apply Zn|apply Zm|apply Zo|refine Zq ?_ GE77001.out|refine Zq ?_ GE77005.out)|exact HB.out)⟩⟩
           case round=>
            clear H'
            try clear c1
            try clear c2
            try clear p2
            try clear q2
            try clear c4
            try clear c4b0
            try clear c4b1
            try clear c6
            try clear c6b0
            try clear c6b1
            try clear c7
            try clear p7
            try clear q7
            try clear qi7
            try clear c8
            try clear c8b0
            try clear c8b1
            try clear c9
            try clear c9b0
            try clear c9b1
            try clear c12
            try clear c14
            try clear c14b0
            try clear c15
            try clear c15b0
            try clear c16
            try clear c16b0
            try clear c18
            try clear c19
            try clear c19b0
            try clear c20
            try clear c20b0
            try clear c20b1
            try clear c22
            try clear c23
            try clear q26
            try clear p2
            try clear p7
            try clear p77002
            try clear p77003
            try clear p77004
            try clear q26
            try clear q7
            try clear q77002
            try clear q77003
            try clear q77004
            obtain⟨x50_3,rfl,HA,HK3,BK77001,BK77005,HB⟩:=hrel
            cases gk with
            | zero=>exact absurd HA.out (by simp[ZN.l1])
            | succ k3=>
             have H:=HA.out
             clear HA
             simp only[ZN.l1] at H
             by_cases c27:x50_3<(y77007.length:Int)
             ·rw[if_pos c27] at H
              have c27b0:decide (x50_3<(y77007.length:Int))=true:=Ze c27
              clear c27
              by_cases c28:0≤x50_3
              ·rw[if_pos c28] at H
               have c28b0:decide (0≤x50_3)=true:=Ze c28
               clear c28
               by_cases c29:x50_3<(y77007.length:Int)
               ·rw[if_pos c29] at H
                have c29b0:decide (x50_3<(y77007.length:Int))=true:=Ze c29
                clear c29
                by_cases c30:((ZD y77007 x50_3).f0).toList=((ZD l0_0 x37_2).f0).toList
                ·rw[if_pos c30] at H
                 have c30b0:(((ZD y77007 x50_3).f0).toList == ((ZD l0_0 x37_2).f0).toList)=true:=beq_iff_eq.mpr c30
                 have c30b1:(((ZD y77007 x50_3).f0).toList != ((ZD l0_0 x37_2).f0).toList)=false:=bne_eq_false_iff_eq.mpr c30
                 clear c30
                 obtain rfl:=Zg H
                 have p77011:0≤(x50_3:Int):=Zd (by first|(with_reducible assumption)|assumption)
                 have q77011:x50_3<(y77007.length:Int):=Zd (by first|(with_reducible assumption)|assumption)
                 obtain⟨ad77011,A77011_1,c77011_1,e77011,hx77011_0,hx77011_1,hx77011_2,hl77011_1,hi77011_1⟩:=ZaG HR77010.out x50_3 p77011 q77011
                 obtain rfl:ad77004=ad77011:=(by injection e77011)
                 replace hx77011_0:=(HB.out.cell (Zc w _ hx77011_0)).trans hx77011_0
                 replace hx77011_1:=(HB.out.cell (Zc w _ hx77011_1)).trans hx77011_1
                 replace hx77011_2:=(HB.out.cell (Zc w _ hx77011_2)).trans hx77011_2
                 have HR77011_1:=Za hi77011_1;have HC77011_1:=Za hl77011_1;clear hi77011_1 hl77011_1
                 replace p77011:=eq_true p77011
                 replace q77011:=eq_true q77011
                 go_wp2_with (first|((with_reducible refine ZI (N:=6) rfl ?_);refine ZG ?hg (N:=6) ?hd (cs:=#[.string (⟨#[]⟩:ByteArray),.slice none 0 0,.int .i64 0]) (t:=39) ?hr ?_;(case hd=>rfl);(case hg=>rfl);(case hr=>first|(go_simp;done)|(go_simp;rfl));intro gb77012 hg w31 hbox hb;have n0_:=Za (Zx (g:=gb77001) (o:=.cells #[.slice (some ad77004) l0_0.length c0_0,.slice A0_1 l0_1.length c0_1,.int .i64 a0_2] 25 (0,0)) BK77001.out hb);have n1_:=Za (Zx (g:=gb77005) (o:=.cells #[.string ((ZD l0_0 x37_2).f0),.slice A77004_1 ((ZD l0_0 x37_2).f1).length c77004_1,.int .i64 ((ZD l0_0 x37_2).f2)] 39 (0,0)) BK77005.out hb);have n2_:=Za (Zt (by repeat(first|(with_reducible first|exact HB.out|apply Zn|apply Zm|apply Zo|refine Zq ?_ GE77001.out|refine Zq ?_ GE77005.out)|exact HB.out)) hb);have n3_:=Za (hbox);have n4_:=Za ((by rw[hg];exact(ZC (by repeat(first|(with_reducible first|exact HB.out|apply Zn|apply Zm|apply Zo|refine Zq ?_ GE77001.out|refine Zq ?_ GE77005.out)|exact HB.out))):w.heap.size≤gb77012));have n5_:=n4_;have n6_:=Za ((by rw[hg];exact Nat.ne_of_lt (ZW (g:=gb77001) (o:=.cells #[.slice (some ad77004) l0_0.length c0_0,.slice A0_1 l0_1.length c0_1,.int .i64 a0_2] 25 (0,0)) BK77001.out):gb77001≠gb77012));have n7_:=Za n6_.out.symm;have n8_:=Za ((by rw[hg];exact Nat.ne_of_lt (ZW (g:=gb77005) (o:=.cells #[.string ((ZD l0_0 x37_2).f0),.slice A77004_1 ((ZD l0_0 x37_2).f1).length c77004_1,.int .i64 ((ZD l0_0 x37_2).f2)] 39 (0,0)) BK77005.out):gb77005≠gb77012));have n9_:=Za n8_.out.symm;clear BK77001;clear BK77005;clear HB;have BK77001:=n0_;have BK77005:=n1_;have HB:=n2_;have BK77012:=n3_;have GW77012:=n4_;have GE77012:=n5_;have NB77001_77012:=n6_;have NB77012_77001:=n7_;have NB77005_77012:=n8_;have NB77012_77005:=n9_;clear n0_ n1_ n2_ n3_ n4_ n5_ n6_ n7_ n8_ n9_;clear hb hbox hg;have hnb32:=NB77012_77001.out;have hnc32:=NB77001_77012.out;have hnb33:=NB77012_77005.out;have hnc33:=NB77005_77012.out;have hcz34_0:w31.cell? ⟨gb77012,0,none⟩=some (.string (⟨#[]⟩:ByteArray)):=(Zp BK77012.out 0).trans rfl;have hcz34_1:w31.cell? ⟨gb77012,1,none⟩=some (.slice none 0 0):=(Zp BK77012.out 1).trans rfl;have hcz34_2:w31.cell? ⟨gb77012,2,none⟩=some (.int .i64 0):=(Zp BK77012.out 2).trans rfl;have hfz34_0:=Zs BK77012.out 0;have hfz34_1:=Zs BK77012.out 1;have hfz34_2:=Zs BK77012.out 2;have hnb35:=NB77005_77001.out;have hnc35:=NB77001_77005.out;have hcz36_0:w31.cell? ⟨gb77005,0,none⟩=some (.string ((ZD l0_0 x37_2).f0)):=(Zp BK77005.out 0).trans rfl;have hcz36_1:w31.cell? ⟨gb77005,1,none⟩=some (.slice A77004_1 ((ZD l0_0 x37_2).f1).length c77004_1):=(Zp BK77005.out 1).trans rfl;have hcz36_2:w31.cell? ⟨gb77005,2,none⟩=some (.int .i64 ((ZD l0_0 x37_2).f2)):=(Zp BK77005.out 2).trans rfl;have hfz36_0:=Zs BK77005.out 0;have hfz36_1:=Zs BK77005.out 1;have hfz36_2:=Zs BK77005.out 2))
                 go_ret
                 exact⟨by first|rfl|(simp[ZA,Zz] <;> rfl)|(simp[*,ZA,Zz] <;> rfl),by repeat(first|(with_reducible first|exact HB.out|apply Zn|apply Zm|apply Zo|refine Zq ?_ GE77001.out|refine Zq ?_ GE77005.out|refine Zq ?_ GE77012.out)|exact HB.out)⟩
                ·rw[if_neg c30] at H
                 have c30b0:(((ZD y77007 x50_3).f0).toList == ((ZD l0_0 x37_2).f0).toList)=false:=beq_eq_false_iff_ne.mpr c30
                 have c30b1:(((ZD y77007 x50_3).f0).toList != ((ZD l0_0 x37_2).f0).toList)=true:=bne_iff_ne.mpr c30
                 by_cases c37:((ZD l0_0 x37_2).f2)=0
                 ·rw[if_pos c37] at H
                  have c37b0:(((ZD l0_0 x37_2).f2) == 0)=true:=beq_iff_eq.mpr c37
                  have c37b1:(((ZD l0_0 x37_2).f2) != 0)=false:=bne_eq_false_iff_eq.mpr c37
                  clear c37
                  have H':=Za H
                  clear H
                  have p77011:0≤(x50_3:Int):=Zd (by first|(with_reducible assumption)|assumption)
                  have q77011:x50_3<(y77007.length:Int):=Zd (by first|(with_reducible assumption)|assumption)
                  obtain⟨ad77011,A77011_1,c77011_1,e77011,hx77011_0,hx77011_1,hx77011_2,hl77011_1,hi77011_1⟩:=ZaG HR77010.out x50_3 p77011 q77011
                  obtain rfl:ad77004=ad77011:=(by injection e77011)
                  replace hx77011_0:=(HB.out.cell (Zc w _ hx77011_0)).trans hx77011_0
                  replace hx77011_1:=(HB.out.cell (Zc w _ hx77011_1)).trans hx77011_1
                  replace hx77011_2:=(HB.out.cell (Zc w _ hx77011_2)).trans hx77011_2
                  have HR77011_1:=Za hi77011_1;have HC77011_1:=Za hl77011_1;clear hi77011_1 hl77011_1
                  replace p77011:=eq_true p77011
                  replace q77011:=eq_true q77011
                  go_wp2_with (first|((with_reducible refine ZI (N:=6) rfl ?_);refine ZG ?hg (N:=6) ?hd (cs:=#[.string (⟨#[]⟩:ByteArray),.slice none 0 0,.int .i64 0]) (t:=39) ?hr ?_;(case hd=>rfl);(case hg=>rfl);(case hr=>first|(go_simp;done)|(go_simp;rfl));intro gb77012 hg w38 hbox hb;have n0_:=Za (Zx (g:=gb77001) (o:=.cells #[.slice (some ad77004) l0_0.length c0_0,.slice A0_1 l0_1.length c0_1,.int .i64 a0_2] 25 (0,0)) BK77001.out hb);have n1_:=Za (Zx (g:=gb77005) (o:=.cells #[.string ((ZD l0_0 x37_2).f0),.slice A77004_1 ((ZD l0_0 x37_2).f1).length c77004_1,.int .i64 ((ZD l0_0 x37_2).f2)] 39 (0,0)) BK77005.out hb);have n2_:=Za (Zt (by repeat(first|(with_reducible first|exact HB.out|apply Zn|apply Zm|apply Zo|refine Zq ?_ GE77001.out|refine Zq ?_ GE77005.out)|exact HB.out)) hb);have n3_:=Za (hbox);have n4_:=Za ((by rw[hg];exact(ZC (by repeat(first|(with_reducible first|exact HB.out|apply Zn|apply Zm|apply Zo|refine Zq ?_ GE77001.out|refine Zq ?_ GE77005.out)|exact HB.out))):w.heap.size≤gb77012));have n5_:=n4_;have n6_:=Za ((by rw[hg];exact Nat.ne_of_lt (ZW (g:=gb77001) (o:=.cells #[.slice (some ad77004) l0_0.length c0_0,.slice A0_1 l0_1.length c0_1,.int .i64 a0_2] 25 (0,0)) BK77001.out):gb77001≠gb77012));have n7_:=Za n6_.out.symm;have n8_:=Za ((by rw[hg];exact Nat.ne_of_lt (ZW (g:=gb77005) (o:=.cells #[.string ((ZD l0_0 x37_2).f0),.slice A77004_1 ((ZD l0_0 x37_2).f1).length c77004_1,.int .i64 ((ZD l0_0 x37_2).f2)] 39 (0,0)) BK77005.out):gb77005≠gb77012));have n9_:=Za n8_.out.symm;clear BK77001;clear BK77005;clear HB;have BK77001:=n0_;have BK77005:=n1_;have HB:=n2_;have BK77012:=n3_;have GW77012:=n4_;have GE77012:=n5_;have NB77001_77012:=n6_;have NB77012_77001:=n7_;have NB77005_77012:=n8_;have NB77012_77005:=n9_;clear n0_ n1_ n2_ n3_ n4_ n5_ n6_ n7_ n8_ n9_;clear hb hbox hg;have hnb39:=NB77012_77001.out;have hnc39:=NB77001_77012.out;have hnb40:=NB77012_77005.out;have hnc40:=NB77005_77012.out;have hcz41_0:w38.cell? ⟨gb77012,0,none⟩=some (.string (⟨#[]⟩:ByteArray)):=(Zp BK77012.out 0).trans rfl;have hcz41_1:w38.cell? ⟨gb77012,1,none⟩=some (.slice none 0 0):=(Zp BK77012.out 1).trans rfl;have hcz41_2:w38.cell? ⟨gb77012,2,none⟩=some (.int .i64 0):=(Zp BK77012.out 2).trans rfl;have hfz41_0:=Zs BK77012.out 0;have hfz41_1:=Zs BK77012.out 1;have hfz41_2:=Zs BK77012.out 2;have hnb42:=NB77005_77001.out;have hnc42:=NB77001_77005.out;have hcz43_0:w38.cell? ⟨gb77005,0,none⟩=some (.string ((ZD l0_0 x37_2).f0)):=(Zp BK77005.out 0).trans rfl;have hcz43_1:w38.cell? ⟨gb77005,1,none⟩=some (.slice A77004_1 ((ZD l0_0 x37_2).f1).length c77004_1):=(Zp BK77005.out 1).trans rfl;have hcz43_2:w38.cell? ⟨gb77005,2,none⟩=some (.int .i64 ((ZD l0_0 x37_2).f2)):=(Zp BK77005.out 2).trans rfl;have hfz43_0:=Zs BK77005.out 0;have hfz43_1:=Zs BK77005.out 1;have hfz43_2:=Zs BK77005.out 2))
                  go_roundg k3
                  case measure=>have:=HJ1.out;have:=HK2.out;have:=HK3.out;omega
                  case rel=>exact⟨(wrap64 (x50_3+1)),(by first|rfl|(simp;done)|(simp[*];done)),H',⟨by have:=HJ1.out;have:=HK2.out;have:=HK3.out;omega⟩,⟨by(with_reducible repeat(first|refine Zw ?_ _|refine ZB ?_|refine Zv ?_ _));refine ZL ?_ NB77001_77012.out _;(with_reducible repeat(first|refine Zw ?_ _|refine ZB ?_|refine Zv ?_ _));refine ZL ?_ NB77001_77012.out _;(with_reducible repeat(first|refine Zw ?_ _|refine ZB ?_|refine Zv ?_ _));refine ZL ?_ NB77001_77012.out _;(with_reducible repeat(first|refine Zw ?_ _|refine ZB ?_|refine Zv ?_ _));exact BK77001.out⟩,⟨by(with_reducible repeat(first|refine Zw ?_ _|refine ZB ?_|refine Zv ?_ _));refine ZL ?_ NB77005_77012.out _;(with_reducible repeat(first|refine Zw ?_ _|refine ZB ?_|refine Zv ?_ _));refine ZL ?_ NB77005_77012.out _;(with_reducible repeat(first|refine Zw ?_ _|refine ZB ?_|refine Zv ?_ _));refine ZL ?_ NB77005_77012.out _;(with_reducible repeat(first|refine Zw ?_ _|refine ZB ?_|refine Zv ?_ _));exact BK77005.out⟩,⟨by repeat(first|(with_reducible first|exact HB.out|apply Zn|apply Zm|apply Zo|refine Zq ?_ GE77001.out|refine Zq ?_ GE77005.out|refine Zq ?_ GE77012.out)|exact HB.out)⟩⟩
                 ·rw[if_neg c37] at H
                  have c37b0:(((ZD l0_0 x37_2).f2) == 0)=false:=beq_eq_false_iff_ne.mpr c37
                  have c37b1:(((ZD l0_0 x37_2).f2) != 0)=true:=bne_iff_ne.mpr c37
                  by_cases c44:((ZD y77007 x50_3).f2)=((ZD l0_0 x37_2).f2)
                  ·rw[if_pos c44] at H
                   have c44b0:(((ZD y77007 x50_3).f2) == ((ZD l0_0 x37_2).f2))=true:=beq_iff_eq.mpr c44
                   have c44b1:(((ZD y77007 x50_3).f2) != ((ZD l0_0 x37_2).f2))=false:=bne_eq_false_iff_eq.mpr c44
                   clear c44
                   obtain rfl:=Zg H
                   have p77011:0≤(x50_3:Int):=Zd (by first|(with_reducible assumption)|assumption)
                   have q77011:x50_3<(y77007.length:Int):=Zd (by first|(with_reducible assumption)|assumption)
                   obtain⟨ad77011,A77011_1,c77011_1,e77011,hx77011_0,hx77011_1,hx77011_2,hl77011_1,hi77011_1⟩:=ZaG HR77010.out x50_3 p77011 q77011
                   obtain rfl:ad77004=ad77011:=(by injection e77011)
                   replace hx77011_0:=(HB.out.cell (Zc w _ hx77011_0)).trans hx77011_0
                   replace hx77011_1:=(HB.out.cell (Zc w _ hx77011_1)).trans hx77011_1
                   replace hx77011_2:=(HB.out.cell (Zc w _ hx77011_2)).trans hx77011_2
                   have HR77011_1:=Za hi77011_1;have HC77011_1:=Za hl77011_1;clear hi77011_1 hl77011_1
                   replace p77011:=eq_true p77011
                   replace q77011:=eq_true q77011
                   go_wp2_with (first|((with_reducible refine ZI (N:=6) rfl ?_);refine ZG ?hg (N:=6) ?hd (cs:=#[.string (⟨#[]⟩:ByteArray),.slice none 0 0,.int .i64 0]) (t:=39) ?hr ?_;(case hd=>rfl);(case hg=>rfl);(case hr=>first|(go_simp;done)|(go_simp;rfl));intro gb77012 hg w45 hbox hb;have n0_:=Za (Zx (g:=gb77001) (o:=.cells #[.slice (some ad77004) l0_0.length c0_0,.slice A0_1 l0_1.length c0_1,.int .i64 a0_2] 25 (0,0)) BK77001.out hb);have n1_:=Za (Zx (g:=gb77005) (o:=.cells #[.string ((ZD l0_0 x37_2).f0),.slice A77004_1 ((ZD l0_0 x37_2).f1).length c77004_1,.int .i64 ((ZD l0_0 x37_2).f2)] 39 (0,0)) BK77005.out hb);have n2_:=Za (Zt (by repeat(first|(with_reducible first|exact HB.out|apply Zn|apply Zm|apply Zo|refine Zq ?_ GE77001.out|refine Zq ?_ GE77005.out)|exact HB.out)) hb);have n3_:=Za (hbox);have n4_:=Za ((by rw[hg];exact(ZC (by repeat(first|(with_reducible first|exact HB.out|apply Zn|apply Zm|apply Zo|refine Zq ?_ GE77001.out|refine Zq ?_ GE77005.out)|exact HB.out))):w.heap.size≤gb77012));have n5_:=n4_;have n6_:=Za ((by rw[hg];exact Nat.ne_of_lt (ZW (g:=gb77001) (o:=.cells #[.slice (some ad77004) l0_0.length c0_0,.slice A0_1 l0_1.length c0_1,.int .i64 a0_2] 25 (0,0)) BK77001.out):gb77001≠gb77012));have n7_:=Za n6_.out.symm;have n8_:=Za ((by rw[hg];exact Nat.ne_of_lt (ZW (g:=gb77005) (o:=.cells #[.string ((ZD l0_0 x37_2).f0),.slice A77004_1 ((ZD l0_0 x37_2).f1).length c77004_1,.int .i64 ((ZD l0_0 x37_2).f2)] 39 (0,0)) BK77005.out):gb77005≠gb77012));have n9_:=Za n8_.out.symm;clear BK77001;clear BK77005;clear HB;have BK77001:=n0_;have BK77005:=n1_;have HB:=n2_;have BK77012:=n3_;have GW77012:=n4_;have GE77012:=n5_;have NB77001_77012:=n6_;have NB77012_77001:=n7_;have NB77005_77012:=n8_;have NB77012_77005:=n9_;clear n0_ n1_ n2_ n3_ n4_ n5_ n6_ n7_ n8_ n9_;clear hb hbox hg;have hnb46:=NB77012_77001.out;have hnc46:=NB77001_77012.out;have hnb47:=NB77012_77005.out;have hnc47:=NB77005_77012.out;have hcz48_0:w45.cell? ⟨gb77012,0,none⟩=some (.string (⟨#[]⟩:ByteArray)):=(Zp BK77012.out 0).trans rfl;have hcz48_1:w45.cell? ⟨gb77012,1,none⟩=some (.slice none 0 0):=(Zp BK77012.out 1).trans rfl;have hcz48_2:w45.cell? ⟨gb77012,2,none⟩=some (.int .i64 0):=(Zp BK77012.out 2).trans rfl;have hfz48_0:=Zs BK77012.out 0;have hfz48_1:=Zs BK77012.out 1;have hfz48_2:=Zs BK77012.out 2;have hnb49:=NB77005_77001.out;have hnc49:=NB77001_77005.out;have hcz50_0:w45.cell? ⟨gb77005,0,none⟩=some (.string ((ZD l0_0 x37_2).f0)):=(Zp BK77005.out 0).trans rfl;have hcz50_1:w45.cell? ⟨gb77005,1,none⟩=some (.slice A77004_1 ((ZD l0_0 x37_2).f1).length c77004_1):=(Zp BK77005.out 1).trans rfl;have hcz50_2:w45.cell? ⟨gb77005,2,none⟩=some (.int .i64 ((ZD l0_0 x37_2).f2)):=(Zp BK77005.out 2).trans rfl;have hfz50_0:=Zs BK77005.out 0;have hfz50_1:=Zs BK77005.out 1;have hfz50_2:=Zs BK77005.out 2))
                   go_ret
                   exact⟨by first|rfl|(simp[ZA,Zz] <;> rfl)|(simp[*,ZA,Zz] <;> rfl),by repeat(first|(with_reducible first|exact HB.out|apply Zn|apply Zm|apply Zo|refine Zq ?_ GE77001.out|refine Zq ?_ GE77005.out|refine Zq ?_ GE77012.out)|exact HB.out)⟩
                  ·rw[if_neg c44] at H
                   have c44b0:(((ZD y77007 x50_3).f2) == ((ZD l0_0 x37_2).f2))=false:=beq_eq_false_iff_ne.mpr c44
                   have c44b1:(((ZD y77007 x50_3).f2) != ((ZD l0_0 x37_2).f2))=true:=bne_iff_ne.mpr c44
                   have H':=Za H
                   clear H
                   have p77011:0≤(x50_3:Int):=Zd (by first|(with_reducible assumption)|assumption)
                   have q77011:x50_3<(y77007.length:Int):=Zd (by first|(with_reducible assumption)|assumption)
                   obtain⟨ad77011,A77011_1,c77011_1,e77011,hx77011_0,hx77011_1,hx77011_2,hl77011_1,hi77011_1⟩:=ZaG HR77010.out x50_3 p77011 q77011
                   obtain rfl:ad77004=ad77011:=(by injection e77011)
                   replace hx77011_0:=(HB.out.cell (Zc w _ hx77011_0)).trans hx77011_0
                   replace hx77011_1:=(HB.out.cell (Zc w _ hx77011_1)).trans hx77011_1
                   replace hx77011_2:=(HB.out.cell (Zc w _ hx77011_2)).trans hx77011_2
                   have HR77011_1:=Za hi77011_1;have HC77011_1:=Za hl77011_1;clear hi77011_1 hl77011_1
                   replace p77011:=eq_true p77011
                   replace q77011:=eq_true q77011
                   go_wp2_with (first|((with_reducible refine ZI (N:=6) rfl ?_);refine ZG ?hg (N:=6) ?hd (cs:=#[.string (⟨#[]⟩:ByteArray),.slice none 0 0,.int .i64 0]) (t:=39) ?hr ?_;(case hd=>rfl);(case hg=>rfl);(case hr=>first|(go_simp;done)|(go_simp;rfl));intro gb77012 hg w51 hbox hb;have n0_:=Za (Zx (g:=gb77001) (o:=.cells #[.slice (some ad77004) l0_0.length c0_0,.slice A0_1 l0_1.length c0_1,.int .i64 a0_2] 25 (0,0)) BK77001.out hb);have n1_:=Za (Zx (g:=gb77005) (o:=.cells #[.string ((ZD l0_0 x37_2).f0),.slice A77004_1 ((ZD l0_0 x37_2).f1).length c77004_1,.int .i64 ((ZD l0_0 x37_2).f2)] 39 (0,0)) BK77005.out hb);have n2_:=Za (Zt (by repeat(first|(with_reducible first|exact HB.out|apply Zn|apply Zm|apply Zo|refine Zq ?_ GE77001.out|refine Zq ?_ GE77005.out)|exact HB.out)) hb);have n3_:=Za (hbox);have n4_:=Za ((by rw[hg];exact(ZC (by repeat(first|(with_reducible first|exact HB.out|apply Zn|apply Zm|apply Zo|refine Zq ?_ GE77001.out|refine Zq ?_ GE77005.out)|exact HB.out))):w.heap.size≤gb77012));have n5_:=n4_;have n6_:=Za ((by rw[hg];exact Nat.ne_of_lt (ZW (g:=gb77001) (o:=.cells #[.slice (some ad77004) l0_0.length c0_0,.slice A0_1 l0_1.length c0_1,.int .i64 a0_2] 25 (0,0)) BK77001.out):gb77001≠gb77012));have n7_:=Za n6_.out.symm;have n8_:=Za ((by rw[hg];exact Nat.ne_of_lt (ZW (g:=gb77005) (o:=.cells #[.string ((ZD l0_0 x37_2).f0),.slice A77004_1 ((ZD l0_0 x37_2).f1).length c77004_1,.int .i64 ((ZD l0_0 x37_2).f2)] 39 (0,0)) BK77005.out):gb77005≠gb77012));have n9_:=Za n8_.out.symm;clear BK77001;clear BK77005;clear HB;have BK77001:=n0_;have BK77005:=n1_;have HB:=n2_;have BK77012:=n3_;have GW77012:=n4_;have GE77012:=n5_;have NB77001_77012:=n6_;have NB77012_77001:=n7_;have NB77005_77012:=n8_;have NB77012_77005:=n9_;clear n0_ n1_ n2_ n3_ n4_ n5_ n6_ n7_ n8_ n9_;clear hb hbox hg;have hnb52:=NB77012_77001.out;have hnc52:=NB77001_77012.out;have hnb53:=NB77012_77005.out;have hnc53:=NB77005_77012.out;have hcz54_0:w51.cell? ⟨gb77012,0,none⟩=some (.string (⟨#[]⟩:ByteArray)):=(Zp BK77012.out 0).trans rfl;have hcz54_1:w51.cell? ⟨gb77012,1,none⟩=some (.slice none 0 0):=(Zp BK77012.out 1).trans rfl;have hcz54_2:w51.cell? ⟨gb77012,2,none⟩=some (.int .i64 0):=(Zp BK77012.out 2).trans rfl;have hfz54_0:=Zs BK77012.out 0;have hfz54_1:=Zs BK77012.out 1;have hfz54_2:=Zs BK77012.out 2;have hnb55:=NB77005_77001.out;have hnc55:=NB77001_77005.out;have hcz56_0:w51.cell? ⟨gb77005,0,none⟩=some (.string ((ZD l0_0 x37_2).f0)):=(Zp BK77005.out 0).trans rfl;have hcz56_1:w51.cell? ⟨gb77005,1,none⟩=some (.slice A77004_1 ((ZD l0_0 x37_2).f1).length c77004_1):=(Zp BK77005.out 1).trans rfl;have hcz56_2:w51.cell? ⟨gb77005,2,none⟩=some (.int .i64 ((ZD l0_0 x37_2).f2)):=(Zp BK77005.out 2).trans rfl;have hfz56_0:=Zs BK77005.out 0;have hfz56_1:=Zs BK77005.out 1;have hfz56_2:=Zs BK77005.out 2))
                   go_roundg k3
                   case measure=>have:=HJ1.out;have:=HK2.out;have:=HK3.out;omega
                   case rel=>exact⟨(wrap64 (x50_3+1)),(by first|rfl|(simp;done)|(simp[*];done)),H',⟨by have:=HJ1.out;have:=HK2.out;have:=HK3.out;omega⟩,⟨by(with_reducible repeat(first|refine Zw ?_ _|refine ZB ?_|refine Zv ?_ _));refine ZL ?_ NB77001_77012.out _;(with_reducible repeat(first|refine Zw ?_ _|refine ZB ?_|refine Zv ?_ _));refine ZL ?_ NB77001_77012.out _;(with_reducible repeat(first|refine Zw ?_ _|refine ZB ?_|refine Zv ?_ _));refine ZL ?_ NB77001_77012.out _;(with_reducible repeat(first|refine Zw ?_ _|refine ZB ?_|refine Zv ?_ _));exact BK77001.out⟩,⟨by(with_reducible repeat(first|refine Zw ?_ _|refine ZB ?_|refine Zv ?_ _));refine ZL ?_ NB77005_77012.out _;(with_reducible repeat(first|refine Zw ?_ _|refine ZB ?_|refine Zv ?_ _));refine ZL ?_ NB77005_77012.out _;(with_reducible repeat(first|refine Zw ?_ _|refine ZB ?_|refine Zv ?_ _));refine ZL ?_ NB77005_77012.out _;(with_reducible repeat(first|refine Zw ?_ _|refine ZB ?_|refine Zv ?_ _));exact BK77005.out⟩,⟨by repeat(first|(with_reducible first|exact HB.out|apply Zn|apply Zm|apply Zo|refine Zq ?_ GE77001.out|refine Zq ?_ GE77005.out|refine Zq ?_ GE77012.out)|exact HB.out)⟩⟩
               ·rw[if_neg c29] at H
                exact absurd H (by simp)
              ·rw[if_neg c28] at H
               exact absurd H (by simp)
             ·rw[if_neg c27] at H
              have c27b0:decide (x50_3<(y77007.length:Int))=false:=Zf c27
              clear c27
              have H':=Za H
              clear H
              go_wp2
              go_roundg k3
              case measure=>have:=HJ1.out;have:=HK2.out;have:=HK3.out;omega
              case rel=>exact⟨(wrap64 (x37_2+1)),(by first|rfl|(simp;done)|(simp[*];done)),H',⟨by have:=HJ1.out;have:=HK2.out;have:=HK3.out;omega⟩,⟨by(with_reducible repeat(first|refine Zw ?_ _|refine ZB ?_|refine Zv ?_ _));exact BK77001.out⟩,⟨by repeat(first|(with_reducible first|exact HB.out|apply Zn|apply Zm|apply Zo|refine Zq ?_ GE77001.out|refine Zq ?_ GE77005.out)|exact HB.out)⟩⟩
          ·rw[if_neg c20] at H
           exact absurd H (by simp)
         ·replace c18:=Bool.eq_false_iff.mpr c18
          subst c18
          have H1:(some false)=some r:=by rw[if_neg (show ¬(false=true) by decide)] at H;exact H
          clear H
          have H:=H1
          clear H1
          obtain rfl:=Zg H
          have p77004:0≤(x37_2:Int):=Zd (by first|(with_reducible assumption)|assumption)
          have q77004:x37_2<(l0_0.length:Int):=Zd (by first|(with_reducible assumption)|assumption)
          obtain⟨ad77004,A77004_1,c77004_1,e77004,hx77004_0,hx77004_1,hx77004_2,hl77004_1,hi77004_1⟩:=ZaG HR0_0.out x37_2 p77004 q77004
          cases e77004
          replace hx77004_0:=(HB.out.cell (Zc w _ hx77004_0)).trans hx77004_0
          replace hx77004_1:=(HB.out.cell (Zc w _ hx77004_1)).trans hx77004_1
          replace hx77004_2:=(HB.out.cell (Zc w _ hx77004_2)).trans hx77004_2
          have HR77004_1:=Za hi77004_1;have HC77004_1:=Za hl77004_1;clear hi77004_1 hl77004_1
          replace p77004:=eq_true p77004
          replace q77004:=eq_true q77004
          go_wp2_with (first|((with_reducible refine ZI (N:=4) rfl ?_);refine ZG ?hg (N:=4) ?hd (cs:=#[.string (⟨#[]⟩:ByteArray),.slice none 0 0,.int .i64 0]) (t:=39) ?hr ?_;(case hd=>rfl);(case hg=>rfl);(case hr=>first|(go_simp;done)|(go_simp;rfl));intro gb77005 hg w57 hbox hb;have n0_:=Za (Zx (g:=gb77001) (o:=.cells #[.slice (some ad77004) l0_0.length c0_0,.slice A0_1 l0_1.length c0_1,.int .i64 a0_2] 25 (0,0)) BK77001.out hb);have n1_:=Za (Zt (by repeat(first|(with_reducible first|exact HB.out|apply Zn|apply Zm|apply Zo|refine Zq ?_ GE77001.out)|exact HB.out)) hb);have n2_:=Za (hbox);have n3_:=Za ((by rw[hg];exact(ZC (by repeat(first|(with_reducible first|exact HB.out|apply Zn|apply Zm|apply Zo|refine Zq ?_ GE77001.out)|exact HB.out))):w.heap.size≤gb77005));have n4_:=n3_;have n5_:=Za ((by rw[hg];exact Nat.ne_of_lt (ZW (g:=gb77001) (o:=.cells #[.slice (some ad77004) l0_0.length c0_0,.slice A0_1 l0_1.length c0_1,.int .i64 a0_2] 25 (0,0)) BK77001.out):gb77001≠gb77005));have n6_:=Za n5_.out.symm;clear BK77001;clear HB;have BK77001:=n0_;have HB:=n1_;have BK77005:=n2_;have GW77005:=n3_;have GE77005:=n4_;have NB77001_77005:=n5_;have NB77005_77001:=n6_;clear n0_ n1_ n2_ n3_ n4_ n5_ n6_;clear hb hbox hg;have hnb58:=NB77005_77001.out;have hnc58:=NB77001_77005.out;have hcz59_0:w57.cell? ⟨gb77005,0,none⟩=some (.string (⟨#[]⟩:ByteArray)):=(Zp BK77005.out 0).trans rfl;have hcz59_1:w57.cell? ⟨gb77005,1,none⟩=some (.slice none 0 0):=(Zp BK77005.out 1).trans rfl;have hcz59_2:w57.cell? ⟨gb77005,2,none⟩=some (.int .i64 0):=(Zp BK77005.out 2).trans rfl;have hfz59_0:=Zs BK77005.out 0;have hfz59_1:=Zs BK77005.out 1;have hfz59_2:=Zs BK77005.out 2)|((with_reducible refine ZK (f:=23) rfl ?_);refine Z6 (some 43) rfl rfl Tryz.func23 (by kernel_rfl) rfl #[.agg #[.string ((ZD l0_0 x37_2).f0),.slice A77004_1 ((ZD l0_0 x37_2).f1).length c77004_1,.int .i64 ((ZD l0_0 x37_2).f2)]] rfl (by(try simp only[List.map_toArray,List.map_cons,List.map_nil]);first|done|rfl|(simp only[Zk,Zj];rfl)) ?_;(with_reducible refine(Zcb.calls k2 ((ZD l0_0 x37_2).f0) _ _ ((ZD l0_0 x37_2).f1) ((ZD l0_0 x37_2).f2) false _ ?side1 ?side2 A17.out).mono ?_);(case side1=>exact Zb HR77004_1.out (by repeat(first|(with_reducible first|exact HB.out|apply Zn|apply Zm|apply Zo|refine Zq ?_ GE77001.out|refine Zq ?_ GE77005.out)|exact HB.out)));(case side2=>exact HC77004_1.out);rintro e w60 ⟨rfl,hb⟩;refine⟨_,rfl,?_⟩;replace BK77001:=Za (Zx (g:=gb77001) (o:=.cells #[.slice (some ad77004) l0_0.length c0_0,.slice A0_1 l0_1.length c0_1,.int .i64 a0_2] 25 (0,0)) (by(with_reducible repeat(first|refine Zw ?_ _|refine ZB ?_|refine Zv ?_ _));refine ZL ?_ NB77001_77005.out _;(with_reducible repeat(first|refine Zw ?_ _|refine ZB ?_|refine Zv ?_ _));refine ZL ?_ NB77001_77005.out _;(with_reducible repeat(first|refine Zw ?_ _|refine ZB ?_|refine Zv ?_ _));refine ZL ?_ NB77001_77005.out _;(with_reducible repeat(first|refine Zw ?_ _|refine ZB ?_|refine Zv ?_ _));exact BK77001.out) hb);replace BK77005:=Za (Zx (g:=gb77005) (o:=.cells #[.string ((ZD l0_0 x37_2).f0),.slice A77004_1 ((ZD l0_0 x37_2).f1).length c77004_1,.int .i64 ((ZD l0_0 x37_2).f2)] 39 (0,0)) (by(with_reducible repeat(first|refine Zw ?_ _|refine ZB ?_|refine Zv ?_ _));refine ZP (cs:=#[.string ((ZD l0_0 x37_2).f0),.slice A77004_1 ((ZD l0_0 x37_2).f1).length c77004_1,.int .i64 0]) ?_ 2 _ rfl;(with_reducible repeat(first|refine Zw ?_ _|refine ZB ?_|refine Zv ?_ _));refine ZP (cs:=#[.string ((ZD l0_0 x37_2).f0),.slice none 0 0,.int .i64 0]) ?_ 1 _ rfl;(with_reducible repeat(first|refine Zw ?_ _|refine ZB ?_|refine Zv ?_ _));refine ZP (cs:=#[.string (⟨#[]⟩:ByteArray),.slice none 0 0,.int .i64 0]) ?_ 0 _ rfl;(with_reducible repeat(first|refine Zw ?_ _|refine ZB ?_|refine Zv ?_ _));exact BK77005.out) hb);replace HB:=Za (Zt (by repeat(first|(with_reducible first|exact HB.out|apply Zn|apply Zm|apply Zo|refine Zq ?_ GE77001.out|refine Zq ?_ GE77005.out)|exact HB.out)) hb);(try clear hi)))
          go_ret
          exact⟨by first|rfl|(simp[ZA,Zz] <;> rfl)|(simp[*,ZA,Zz] <;> rfl),by repeat(first|(with_reducible first|exact HB.out|apply Zn|apply Zm|apply Zo|refine Zq ?_ GE77001.out|refine Zq ?_ GE77005.out)|exact HB.out)⟩
        ·rw[if_neg c16] at H
         exact absurd H (by simp)
       ·rw[if_neg c15] at H
        exact absurd H (by simp)
      ·rw[if_neg c14] at H
       have c14b0:decide (x37_2<(l0_0.length:Int))=false:=Zf c14
       clear c14
       obtain rfl:=Zg H
       go_wp2
       go_ret
       exact⟨by first|rfl|(simp[ZA,Zz] <;> rfl)|(simp[*,ZA,Zz] <;> rfl),by repeat(first|(with_reducible first|exact HB.out|apply Zn|apply Zm|apply Zo|refine Zq ?_ GE77001.out)|exact HB.out)⟩
end Go.Proofs.YtoeimopgoaffcaaGreatDoor.Pr
namespace Go.Proofs.YtoeimopgoaffcaaGreatDoor.Pr
open Go.RowKit Go.Proofs.YtoeimopgoaffcaaGreatDoorW.PrintWords Go.Proofs.YtoeimopgoaffcaaGreatDoor.Ni
def Zci (n m:ZM):Bool:=!(decide (m.f0.toList=n.f0.toList)) && (decide (n.f2=0) || !(decide (m.f2=n.f2)))
def Zcj (ns:List ZM) (i:Nat):Bool:=Zcu (ns.getD i z39).f0 (ns.getD i z39).f1 (ns.getD i z39).f2 && (ns.take i).all (Zci (ns.getD i z39))
def ZbC (ns:List ZM) (i:Nat):Nat→Bool
 | 0=>true
 | d+1=>Zcj ns i && ZbC ns (i+1) d
def Zak (ns:List ZM):Bool:=decide (1≤ns.length) && decide (ns.length≤7) && decide ((ns.getD 0 z39).f1.length=0) && decide ((ns.getD 0 z39).f2=0) && ZbC ns 0 ns.length
theorem nodesFrom_step {ns:List ZM} {i:Nat} (h:i<ns.length):ZbC ns i (ns.length - i)=(Zcj ns i && ZbC ns (i+1) (ns.length - (i+1))):=by
 rw[show ns.length - i=(ns.length - (i+1))+1 by omega];rfl
theorem areNodes_l1 (ns:List ZM) (ts:List PTie) (z:Int) (i:Nat) (hi:i<ns.length) (h7:ns.length≤7) (K:Nat) (R:Option Bool) (s:ByteArray) (lb:List Int) (p:Int)
  (hR:∀k,K≤k→ZN.l0 k ns ns.length (wrap64 ((i:Int)+1)) ns ts z=R) :
  ∀k,K+8<k→ZN.l1 k ns ns.length i (ns.take i) (ns.take i).length 0 ns ts z s lb p=if (ns.take i).all (Zci ⟨s,lb,p⟩)=true then R else some false:=by
 intro k hk
 have hlen:(ns.take i).length=i:=by rw[Zj];omega
 have key:=ZaN (ns.take i).length (fun k j=>ZN.l1 k ns ns.length i (ns.take i) (ns.take i).length (j:Int) ns ts z s lb p=if ((ns.take i).drop j).all (Zci ⟨s,lb,p⟩)=true then R else some false) K
  (fun k hk=>by
   simp only[ZN.l1]
   rw[if_neg (by omega),hR k hk,List.drop_of_length_le (Nat.le_refl _),List.all_nil,if_pos rfl])
  (fun k j hk hj ih=>by
   simp only[ZN.l1]
   rw[if_pos (by omega),if_pos (by omega),if_pos (by omega),ZbQ,ZR hj (by omega),ih,Zav hj z39,List.all_cons]
   generalize (ns.take i).getD j z39=m
   by_cases h1:m.f0.toList=s.toList
   ·rw[if_pos h1,show Zci ⟨s,lb,p⟩ m=false by simp[Zci,h1]];rfl
   ·rw[if_neg h1]
    by_cases h2:p=0
    ·rw[if_pos h2,show Zci ⟨s,lb,p⟩ m=true by simp[Zci,h1,h2],Bool.true_and]
    ·rw[if_neg h2]
     by_cases h3:m.f2=p
     ·rw[if_pos h3,show Zci ⟨s,lb,p⟩ m=false by simp[Zci,h2,h3]];rfl
     ·rw[if_neg h3,show Zci ⟨s,lb,p⟩ m=true by simp[Zci,h1,h3],Bool.true_and]) 0 k (Nat.zero_le _) (by omega)
 simpa using key
theorem areNodes_l0 (ns:List ZM) (ts:List PTie) (z:Int) (h7:ns.length≤7) (hb:∀n∈ns,n.f0.size≤9223372036854775807∧n.f1.length≤9223372036854775807) :
  ∀(d i k:Nat),i+d=ns.length→2 ^ 64+10 * d<k→ZN.l0 k ns ns.length (i:Int) ns ts z=some (ZbC ns i d):=by
 intro d
 induction d with
 | zero=>
  intro i k hi hk
  obtain⟨m,rfl⟩:∃m,k=m+1:=⟨k - 1,by omega⟩
  simp only[ZN.l0]
  rw[if_neg (by omega)];rfl
 | succ d ih=>
  intro i k hi hk
  obtain⟨m,rfl⟩:∃m,k=m+1:=⟨k - 1,by omega⟩
  have hlt:i<ns.length:=by omega
  simp only[ZN.l0]
  have hm:=hb _ (Za9 hlt z39)
  rw[if_pos (by omega),if_pos (by omega),if_pos (by omega),ZbQ,Zfy _ _ _ hm.1 hm.2 m (by omega),Zi]
  show(if _ then _ else _)=some (Zcj ns i && ZbC ns (i+1) d)
  unfold Zcj
  cases hn:Zcu (ns.getD i z39).f0 (ns.getD i z39).f1 (ns.getD i z39).f2 with
  | false=>rfl
  | true=>
   rw[if_pos rfl,if_pos (by omega),Zi,Int.toNat_natCast]
   rw[areNodes_l1 ns ts z i hlt h7 (2 ^ 64+10 * d+1) (some (ZbC ns (i+1) d)) _ _ _ (fun k hk=>by rw[ZR hlt (by omega)];exact ih (i+1) k (by omega) (by omega)) m (by omega)]
   cases (ns.take i).all (Zci (ns.getD i z39)) <;> rfl
theorem areNodes_f (ns:List ZM) (ts:List PTie) (z:Int) (hb:∀n∈ns,n.f0.size≤9223372036854775807∧n.f1.length≤9223372036854775807) (k:Nat) (hk:2 ^ 65≤k):ZN.f k ns ts z=some (Zak ns):=by
 obtain⟨m,rfl⟩:∃m,k=m+1:=⟨k - 1,by omega⟩
 unfold ZN.f Zak
 by_cases h1:(ns.length:Int)<1
 ·rw[if_pos h1,Zf (show ¬1≤ns.length by omega)]
  simp[ZN.j0]
 ·rw[if_neg h1,Ze (show 1≤ns.length by omega)]
  by_cases h2:(ns.length:Int) > 7
  ·rw[if_pos h2,Zf (show ¬ns.length≤7 by omega)]
   simp[ZN.j0]
  ·rw[if_neg h2,if_pos (by omega),Ze (show ns.length≤7 by omega)]
   have e0:ZD ns 0=ns.getD 0 z39:=rfl
   rw[e0]
   by_cases h3:((ns.getD 0 z39).f1.length:Int) > 0
   ·rw[if_pos h3,Zf (show ¬(ns.getD 0 z39).f1.length=0 by omega)]
    simp[ZN.j0]
   ·rw[if_neg h3,Ze (show(ns.getD 0 z39).f1.length=0 by omega)]
    by_cases h4:(ns.getD 0 z39).f2=0
    ·rw[Ze h4,show((ns.getD 0 z39).f2 != 0)=false by rw[h4];rfl]
     simp only[ZN.j0,Bool.false_eq_true,if_false]
     have:=areNodes_l0 ns ts z (by omega) hb ns.length 0 m (by omega) (by omega)
     rw[show((0:Nat):Int)=0 from rfl] at this
     rw[this];rfl
    ·rw[Zf h4,show((ns.getD 0 z39).f2 != 0)=true by rw[bne_iff_ne];exact h4]
     simp[ZN.j0]
theorem Zdn:∀(l:List Int) (p:Int),ZbI p l=true→∀x∈l,Zbb x=true
 | [],_,_,x,hx=>by simp at hx
 | y :: l,p,h,x,hx=>by
  unfold ZbI at h
  simp only[Bool.and_eq_true] at h
  rcases List.mem_cons.1 hx with rfl|hx
  ·exact h.1.1
  ·exact Zdn l _ h.2 x hx
theorem ZdU {ns:List ZM}:∀(d i:Nat),ZbC ns i d=true→∀j,i≤j→j<i+d→Zcj ns j=true
 | 0,i,_,j,h1,h2=>by omega
 | d+1,i,h,j,h1,h2=>by
  rw[ZbC,Bool.and_eq_true] at h
  by_cases e:j=i
  ·rw[e];exact h.1
  ·exact ZdU d (i+1) h.2 j (by omega) (by omega)
theorem ZcF {ns:List ZM} (h:Zak ns=true):∀j,j<ns.length→Zcj ns j=true:=by
 unfold Zak at h
 rw[Bool.and_eq_true] at h
 exact fun j hj=>ZdU _ _ h.2 j (Nat.zero_le _) (by omega)
theorem ZcY {ns:List ZM} (h:Zak ns=true):∀n∈ns,∀x∈n.f1,Zbb x=true:=by
 intro n hn x hx
 obtain⟨j,hj,rfl⟩:=List.mem_iff_getElem.1 hn
 have:=ZcF h j hj
 unfold Zcj Zcu labB at this
 rw[show ns.getD j z39=ns[j] by rw[List.getD_eq_getElem?_getD,Zl hj];rfl] at this
 simp only[Bool.and_eq_true] at this
 exact Zdn _ _ this.1.1.2 x hx
end Go.Proofs.YtoeimopgoaffcaaGreatDoor.Pr
namespace Go.Proofs.YtoeimopgoaffcaaGreatDoor.Pr
open Go.RowKit Go.Proofs.YtoeimopgoaffcaaGreatDoorW.PrintWords Go.Proofs.YtoeimopgoaffcaaGreatDoorW.PrintLast Go.Proofs.YtoeimopgoaffcaaGreatDoorW.PrintMore
attribute [local go_sem] Z2 Z0 Zac Zab ZU ZT Z1 ZZ
set_option linter.unusedVariables false
set_option linter.unusedSimpArgs false
def ZaB.l0:Nat→Int→List Int→Int→Int→Option (Bool)
 | 0,_,_,_,_=>none
 | k+1,x1,x7,x8,x9=>if x9<x8 then(if 0≤x9 then(if x9<(x7.length:Int) then(if (rd x7 x9)=x1 then(some true) else(ZaB.l0 k x1 x7 x8 (wrap64 (x9+1)))) else(none)) else(none)) else(some false)
def ZaB.f (k:Nat) (l0:List Int) (a1:Int):Option (Bool):=ZaB.l0 k a1 l0 (l0.length:Int) 0
set_option maxHeartbeats 8000000 in
set_option maxRecDepth 100000 in
theorem ZaB.calls (k:Nat) (A0:Option Addr) (c0:Nat) (l0:List Int) (a1:Int) (r:Bool) (w:World) (hr0:Kd.C (Kd.int .i64) w A0 l0.length l0) (hc0:l0.length≤c0) (h:ZaB.f k l0 a1=some r) :
  Calls Tryz.prog 177 #[.slice A0 l0.length c0,.int .i64 a1] w fun e w'=>e=.returned (.bool r)∧ZF w w':=by
 have HR0:=Za hr0;have HC0:=Za hc0;clear hr0 hc0
 have H:(ZaB.l0 k a1 l0 (l0.length:Int) 0)=some r:=h
 clear h
 have H':=Za H
 clear H
 go_enter Tryz.func177,Tryz.ntmps177
 go_wp2
 go_loopg [9] k (fun kq v9 w'=>∃(x9_1:Int),v9=.int .i64 x9_1∧Aside0 (ZaB.l0 kq a1 l0 (l0.length:Int) x9_1=some r)∧Aside0 (kq≤k)∧ZF w w')
 case atStart=>exact⟨(0),(by first|rfl|(simp;done)|(simp[*];done)),H',⟨Nat.le_refl _⟩,by repeat(first|exact ZF.refl _|apply ZF.step)⟩
 case round=>
  clear H'
  try clear c1
  try clear p2
  obtain⟨x9_1,rfl,HA,HK1,⟨m1,rfl⟩⟩:=hrel
  cases gk with
  | zero=>exact absurd HA.out (by simp[ZaB.l0])
  | succ k1=>
   have H:=HA.out
   clear HA
   simp only[ZaB.l0] at H
   by_cases c3:x9_1<(l0.length:Int)
   ·rw[if_pos c3] at H
    have c3b0:decide (x9_1<(l0.length:Int))=true:=Ze c3
    clear c3
    by_cases c4:0≤x9_1
    ·rw[if_pos c4] at H
     have c4b0:decide (0≤x9_1)=true:=Ze c4
     clear c4
     by_cases c5:x9_1<(l0.length:Int)
     ·rw[if_pos c5] at H
      have c5b0:decide (x9_1<(l0.length:Int))=true:=Ze c5
      clear c5
      by_cases c6:(rd l0 x9_1)=a1
      ·rw[if_pos c6] at H
       have c6b0:((rd l0 x9_1) == a1)=true:=beq_iff_eq.mpr c6
       have c6b1:((rd l0 x9_1) != a1)=false:=bne_eq_false_iff_eq.mpr c6
       clear c6
       obtain rfl:=Zg H
       have p177001:0≤(x9_1:Int):=Zd (by first|(with_reducible assumption)|assumption)
       have q177001:x9_1<(l0.length:Int):=Zd (by first|(with_reducible assumption)|assumption)
       obtain⟨ad177001,e177001,hx177001_0⟩:=Kd.at_int HR0.out x9_1 p177001 q177001
       cases e177001
       replace p177001:=eq_true p177001
       replace q177001:=eq_true q177001
       go_wp2
       go_ret
       exact⟨by first|rfl|(simp;done)|(simp[*];done),by repeat(first|exact ZF.refl _|apply ZF.step)⟩
      ·rw[if_neg c6] at H
       have c6b0:((rd l0 x9_1) == a1)=false:=beq_eq_false_iff_ne.mpr c6
       have c6b1:((rd l0 x9_1) != a1)=true:=bne_iff_ne.mpr c6
       have H':=Za H
       clear H
       have p177001:0≤(x9_1:Int):=Zd (by first|(with_reducible assumption)|assumption)
       have q177001:x9_1<(l0.length:Int):=Zd (by first|(with_reducible assumption)|assumption)
       obtain⟨ad177001,e177001,hx177001_0⟩:=Kd.at_int HR0.out x9_1 p177001 q177001
       cases e177001
       replace p177001:=eq_true p177001
       replace q177001:=eq_true q177001
       go_wp2
       go_roundg k1
       case measure=>have:=HK1.out;omega
       case rel=>exact⟨(wrap64 (x9_1+1)),(by first|rfl|(simp;done)|(simp[*];done)),H',⟨by have:=HK1.out;omega⟩,by repeat(first|exact ZF.refl _|apply ZF.step)⟩
     ·rw[if_neg c5] at H
      exact absurd H (by simp)
    ·rw[if_neg c4] at H
     exact absurd H (by simp)
   ·rw[if_neg c3] at H
    have c3b0:decide (x9_1<(l0.length:Int))=false:=Zf c3
    clear c3
    obtain rfl:=Zg H
    go_wp2
    go_ret
    exact⟨by first|rfl|(simp;done)|(simp[*];done),by repeat(first|exact ZF.refl _|apply ZF.step)⟩
end Go.Proofs.YtoeimopgoaffcaaGreatDoor.Pr
