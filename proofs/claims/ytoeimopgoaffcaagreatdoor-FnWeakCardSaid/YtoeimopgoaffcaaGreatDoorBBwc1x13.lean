/- By a program of this session. -/
import Derived.ProofKit
import Derived.Shelf.Abstract
import Derived.Test.YtoeimopgoaffcaaGreatDoorBBwc1x1
set_option maxHeartbeats 8000000
set_option maxRecDepth 100000
namespace Go.Proofs.YtoeimopgoaffcaaGreatDoor.Pr
open RowKit YtoeimopgoaffcaaGreatDoorW.PrintWords Ni
abbrev LNode:=S143
abbrev ZK:=S39
abbrev LTie:=S147
abbrev PTie:=S82
def cvN (x:LNode):ZK:=⟨x.f0,x.f1,x.f2⟩
def cvT (x:LTie):PTie:=⟨x.f0,x.f1,x.f2,x.f3,x.f4⟩
theorem Zcm (l:List ZK) (i:Nat):ZJ l (i:Int)=l.getD i z39:=by unfold ZJ;rw[Int.toNat_natCast]
theorem Zeg (l:List PTie) (i:Nat):ZE l (i:Int)=l.getD i z82:=by unfold ZE;rw[Int.toNat_natCast]
def SmallShow (ns:List LNode) (ts:List LTie):Prop:=ns.length≤1048576∧ts.length≤1048576∧∀n∈ns,n.f0.size≤1048576∧n.f1.length≤1048576
def Zck (ns:List ZK) (ts:List PTie):Prop:=ns.length≤1048576∧ts.length≤1048576∧∀n∈ns,n.f0.size≤1048576∧n.f1.length≤1048576
theorem SmallShow.cv {ns:List LNode} {ts:List LTie} (h:SmallShow ns ts):Zck (ns.map cvN) (ts.map cvT):=by
 refine⟨by simpa using h.1,by simpa using h.2.1,fun n hn=>?_⟩
 obtain⟨m,hm,rfl⟩:=List.mem_map.1 hn
 exact h.2.2 m hm
open YtoeimopgoaffcaaGreatDoorW.PrintLast YtoeimopgoaffcaaGreatDoorW.PrintMore
attribute [local go_sem] Zak Zai Zax Zaw Zac Zab Zaj Zah
set_option linter.unusedVariables false
set_option linter.unusedSimpArgs false
def ZX.f (a0:Int) (a1:Int) (a2:Int):Option (Bool):=if a0≥a1 then(some (decide (a0≤a2))) else(some false)
theorem ZX.calls (a0:Int) (a1:Int) (a2:Int) (r:Bool) (w:World) (h:ZX.f a0 a1 a2=some r) :
  Calls Tryz.prog 127 #[.int .i64 a0,.int .i64 a1,.int .i64 a2] w fun e w'=>e=.returned (.bool r)∧ZH w w':=by
 have H:(if a0≥a1 then(some (decide (a0≤a2))) else(some false))=some r:=h
 clear h
 by_cases c4:a0≥a1
 ·rw[if_pos c4] at H
  have c4b0:decide (a1≤a0)=true:=Ze c4
  clear c4
  obtain rfl:=Zg H
  go_enter Tryz.func127,Tryz.ntmps127
  go_wp2
  go_ret
  exact⟨by first|rfl|(simp;done)|(simp[*];done),by repeat(first|exact ZH.refl _|apply ZH.step)⟩
 ·rw[if_neg c4] at H
  have c4b0:decide (a1≤a0)=false:=Zf c4
  clear c4
  obtain rfl:=Zg H
  go_enter Tryz.func127,Tryz.ntmps127
  go_wp2
  go_ret
  exact⟨by first|rfl|(simp;done)|(simp[*];done),by repeat(first|exact ZH.refl _|apply ZH.step)⟩
def ZaM.l0:Nat→ByteArray→Int→Option (Bool)
 | 0,_,_=>none
 | k+1,x0,x3=>if x3<(x0.size:Int) then(if 0≤x3 then(if (bt x0 x3)≥97 then(if ((bt x0 x3)≤122) then(ZaM.l0 k x0 (wrap64 (x3+1))) else(if x3=0 then(some false) else(if (bt x0 x3)<48 then(some false) else(if (bt x0 x3) > 57 then(some false) else(ZaM.l0 k x0 (wrap64 (x3+1))))))) else(if x3=0 then(some false) else(if (bt x0 x3)<48 then(some false) else(if (bt x0 x3) > 57 then(some false) else(ZaM.l0 k x0 (wrap64 (x3+1))))))) else(none)) else((ZX.f (x0.size:Int) 1 8).bind fun t1=>(some t1))
def ZaM.f (k:Nat) (a0:ByteArray):Option (Bool):=ZaM.l0 k a0 0
theorem ZaM.calls (k:Nat) (a0:ByteArray) (r:Bool) (w:World) (h:ZaM.f k a0=some r) :
  Calls Tryz.prog 206 #[.string a0] w fun e w'=>e=.returned (.bool r)∧ZH w w':=by
 have H:(ZaM.l0 k a0 0)=some r:=h
 clear h
 have H':=Za H
 clear H
 go_enter Tryz.func206,Tryz.ntmps206
 go_wp2
 go_loopg [3] k (fun kq v3 w'=>∃(x3_1:Int),v3=.int .i64 x3_1∧Aside0 (ZaM.l0 kq a0 x3_1=some r)∧Aside0 (kq≤k)∧ZH w w')
 case atStart=>exact⟨(0),(by first|rfl|(simp;done)|(simp[*];done)),H',⟨Nat.le_refl _⟩,by repeat(first|exact ZH.refl _|apply ZH.step)⟩
 case round=>
  clear H'
  obtain⟨x3_1,rfl,HA,HK1,⟨m1,rfl⟩⟩:=hrel
  cases gk with
  | zero=>exact absurd HA.out (by simp[ZaM.l0])
  | succ k1=>
   have H:=HA.out
   clear HA
   simp only[ZaM.l0] at H
   by_cases c2:x3_1<(a0.size:Int)
   ·rw[if_pos c2] at H
    have c2b0:decide (x3_1<(a0.size:Int))=true:=Ze c2
    clear c2
    by_cases c3:0≤x3_1
    ·rw[if_pos c3] at H
     have c3b0:decide (0≤x3_1)=true:=Ze c3
     clear c3
     by_cases c5:(bt a0 x3_1)≥97
     ·rw[if_pos c5] at H
      have c5b0:decide (97≤(bt a0 x3_1))=true:=Ze c5
      clear c5
      by_cases c7:((bt a0 x3_1)≤122)
      ·rw[if_pos c7] at H
       have c7b0:decide ((bt a0 x3_1)≤122)=true:=Ze c7
       clear c7
       have H':=Za H
       clear H
       have p4:0≤(x3_1:Int):=Zd (by with_reducible assumption)
       have q4:x3_1<(a0.size:Int):=Zd (by with_reducible assumption)
       have hx4:=Zap a0 x3_1
       replace p4:=eq_true p4
       replace q4:=eq_true q4
       have p6:0≤(x3_1:Int):=Zd (by with_reducible assumption)
       have q6:x3_1<(a0.size:Int):=Zd (by with_reducible assumption)
       have hx6:=Zap a0 x3_1
       replace p6:=eq_true p6
       replace q6:=eq_true q6
       go_wp2
       go_roundg k1
       case measure=>have:=HK1.out;omega
       case rel=>exact⟨(wrap64 (x3_1+1)),(by first|rfl|(simp;done)|(simp[*];done)),H',⟨by have:=HK1.out;omega⟩,by repeat(first|exact ZH.refl _|apply ZH.step)⟩
      ·rw[if_neg c7] at H
       have c7b0:decide ((bt a0 x3_1)≤122)=false:=Zf c7
       clear c7
       by_cases c8:x3_1=0
       ·rw[if_pos c8] at H
        have c8b0:(x3_1 == 0)=true:=beq_iff_eq.mpr c8
        clear c8
        obtain rfl:=Zg H
        have p4:0≤(x3_1:Int):=Zd (by with_reducible assumption)
        have q4:x3_1<(a0.size:Int):=Zd (by with_reducible assumption)
        have hx4:=Zap a0 x3_1
        replace p4:=eq_true p4
        replace q4:=eq_true q4
        have p6:0≤(x3_1:Int):=Zd (by with_reducible assumption)
        have q6:x3_1<(a0.size:Int):=Zd (by with_reducible assumption)
        have hx6:=Zap a0 x3_1
        replace p6:=eq_true p6
        replace q6:=eq_true q6
        go_wp2
        go_ret
        exact⟨by first|rfl|(simp;done)|(simp[*];done),by repeat(first|exact ZH.refl _|apply ZH.step)⟩
       ·rw[if_neg c8] at H
        have c8b0:(x3_1 == 0)=false:=beq_eq_false_iff_ne.mpr c8
        by_cases c10:(bt a0 x3_1)<48
        ·rw[if_pos c10] at H
         have c10b0:decide ((bt a0 x3_1)<48)=true:=Ze c10
         clear c10
         obtain rfl:=Zg H
         have p4:0≤(x3_1:Int):=Zd (by with_reducible assumption)
         have q4:x3_1<(a0.size:Int):=Zd (by with_reducible assumption)
         have hx4:=Zap a0 x3_1
         replace p4:=eq_true p4
         replace q4:=eq_true q4
         have p6:0≤(x3_1:Int):=Zd (by with_reducible assumption)
         have q6:x3_1<(a0.size:Int):=Zd (by with_reducible assumption)
         have hx6:=Zap a0 x3_1
         replace p6:=eq_true p6
         replace q6:=eq_true q6
         have p9:0≤(x3_1:Int):=Zd (by with_reducible assumption)
         have q9:x3_1<(a0.size:Int):=Zd (by with_reducible assumption)
         have hx9:=Zap a0 x3_1
         replace p9:=eq_true p9
         replace q9:=eq_true q9
         go_wp2
         go_ret
         exact⟨by first|rfl|(simp;done)|(simp[*];done),by repeat(first|exact ZH.refl _|apply ZH.step)⟩
        ·rw[if_neg c10] at H
         have c10b0:decide ((bt a0 x3_1)<48)=false:=Zf c10
         clear c10
         by_cases c12:(bt a0 x3_1) > 57
         ·rw[if_pos c12] at H
          have c12b0:decide (57<(bt a0 x3_1))=true:=Ze c12
          clear c12
          obtain rfl:=Zg H
          have p4:0≤(x3_1:Int):=Zd (by with_reducible assumption)
          have q4:x3_1<(a0.size:Int):=Zd (by with_reducible assumption)
          have hx4:=Zap a0 x3_1
          replace p4:=eq_true p4
          replace q4:=eq_true q4
          have p6:0≤(x3_1:Int):=Zd (by with_reducible assumption)
          have q6:x3_1<(a0.size:Int):=Zd (by with_reducible assumption)
          have hx6:=Zap a0 x3_1
          replace p6:=eq_true p6
          replace q6:=eq_true q6
          have p9:0≤(x3_1:Int):=Zd (by with_reducible assumption)
          have q9:x3_1<(a0.size:Int):=Zd (by with_reducible assumption)
          have hx9:=Zap a0 x3_1
          replace p9:=eq_true p9
          replace q9:=eq_true q9
          have p11:0≤(x3_1:Int):=Zd (by with_reducible assumption)
          have q11:x3_1<(a0.size:Int):=Zd (by with_reducible assumption)
          have hx11:=Zap a0 x3_1
          replace p11:=eq_true p11
          replace q11:=eq_true q11
          go_wp2
          go_ret
          exact⟨by first|rfl|(simp;done)|(simp[*];done),by repeat(first|exact ZH.refl _|apply ZH.step)⟩
         ·rw[if_neg c12] at H
          have c12b0:decide (57<(bt a0 x3_1))=false:=Zf c12
          clear c12
          have H':=Za H
          clear H
          have p4:0≤(x3_1:Int):=Zd (by with_reducible assumption)
          have q4:x3_1<(a0.size:Int):=Zd (by with_reducible assumption)
          have hx4:=Zap a0 x3_1
          replace p4:=eq_true p4
          replace q4:=eq_true q4
          have p6:0≤(x3_1:Int):=Zd (by with_reducible assumption)
          have q6:x3_1<(a0.size:Int):=Zd (by with_reducible assumption)
          have hx6:=Zap a0 x3_1
          replace p6:=eq_true p6
          replace q6:=eq_true q6
          have p9:0≤(x3_1:Int):=Zd (by with_reducible assumption)
          have q9:x3_1<(a0.size:Int):=Zd (by with_reducible assumption)
          have hx9:=Zap a0 x3_1
          replace p9:=eq_true p9
          replace q9:=eq_true q9
          have p11:0≤(x3_1:Int):=Zd (by with_reducible assumption)
          have q11:x3_1<(a0.size:Int):=Zd (by with_reducible assumption)
          have hx11:=Zap a0 x3_1
          replace p11:=eq_true p11
          replace q11:=eq_true q11
          go_wp2
          go_roundg k1
          case measure=>have:=HK1.out;omega
          case rel=>exact⟨(wrap64 (x3_1+1)),(by first|rfl|(simp;done)|(simp[*];done)),H',⟨by have:=HK1.out;omega⟩,by repeat(first|exact ZH.refl _|apply ZH.step)⟩
     ·rw[if_neg c5] at H
      have c5b0:decide (97≤(bt a0 x3_1))=false:=Zf c5
      clear c5
      by_cases c13:x3_1=0
      ·rw[if_pos c13] at H
       have c13b0:(x3_1 == 0)=true:=beq_iff_eq.mpr c13
       clear c13
       obtain rfl:=Zg H
       have p4:0≤(x3_1:Int):=Zd (by with_reducible assumption)
       have q4:x3_1<(a0.size:Int):=Zd (by with_reducible assumption)
       have hx4:=Zap a0 x3_1
       replace p4:=eq_true p4
       replace q4:=eq_true q4
       go_wp2
       go_ret
       exact⟨by first|rfl|(simp;done)|(simp[*];done),by repeat(first|exact ZH.refl _|apply ZH.step)⟩
      ·rw[if_neg c13] at H
       have c13b0:(x3_1 == 0)=false:=beq_eq_false_iff_ne.mpr c13
       by_cases c15:(bt a0 x3_1)<48
       ·rw[if_pos c15] at H
        have c15b0:decide ((bt a0 x3_1)<48)=true:=Ze c15
        clear c15
        obtain rfl:=Zg H
        have p4:0≤(x3_1:Int):=Zd (by with_reducible assumption)
        have q4:x3_1<(a0.size:Int):=Zd (by with_reducible assumption)
        have hx4:=Zap a0 x3_1
        replace p4:=eq_true p4
        replace q4:=eq_true q4
        have p14:0≤(x3_1:Int):=Zd (by with_reducible assumption)
        have q14:x3_1<(a0.size:Int):=Zd (by with_reducible assumption)
        have hx14:=Zap a0 x3_1
        replace p14:=eq_true p14
        replace q14:=eq_true q14
        go_wp2
        go_ret
        exact⟨by first|rfl|(simp;done)|(simp[*];done),by repeat(first|exact ZH.refl _|apply ZH.step)⟩
       ·rw[if_neg c15] at H
        have c15b0:decide ((bt a0 x3_1)<48)=false:=Zf c15
        clear c15
        by_cases c17:(bt a0 x3_1) > 57
        ·rw[if_pos c17] at H
         have c17b0:decide (57<(bt a0 x3_1))=true:=Ze c17
         clear c17
         obtain rfl:=Zg H
         have p4:0≤(x3_1:Int):=Zd (by with_reducible assumption)
         have q4:x3_1<(a0.size:Int):=Zd (by with_reducible assumption)
         have hx4:=Zap a0 x3_1
         replace p4:=eq_true p4
         replace q4:=eq_true q4
         have p14:0≤(x3_1:Int):=Zd (by with_reducible assumption)
         have q14:x3_1<(a0.size:Int):=Zd (by with_reducible assumption)
         have hx14:=Zap a0 x3_1
         replace p14:=eq_true p14
         replace q14:=eq_true q14
         have p16:0≤(x3_1:Int):=Zd (by with_reducible assumption)
         have q16:x3_1<(a0.size:Int):=Zd (by with_reducible assumption)
         have hx16:=Zap a0 x3_1
         replace p16:=eq_true p16
         replace q16:=eq_true q16
         go_wp2
         go_ret
         exact⟨by first|rfl|(simp;done)|(simp[*];done),by repeat(first|exact ZH.refl _|apply ZH.step)⟩
        ·rw[if_neg c17] at H
         have c17b0:decide (57<(bt a0 x3_1))=false:=Zf c17
         clear c17
         have H':=Za H
         clear H
         have p4:0≤(x3_1:Int):=Zd (by with_reducible assumption)
         have q4:x3_1<(a0.size:Int):=Zd (by with_reducible assumption)
         have hx4:=Zap a0 x3_1
         replace p4:=eq_true p4
         replace q4:=eq_true q4
         have p14:0≤(x3_1:Int):=Zd (by with_reducible assumption)
         have q14:x3_1<(a0.size:Int):=Zd (by with_reducible assumption)
         have hx14:=Zap a0 x3_1
         replace p14:=eq_true p14
         replace q14:=eq_true q14
         have p16:0≤(x3_1:Int):=Zd (by with_reducible assumption)
         have q16:x3_1<(a0.size:Int):=Zd (by with_reducible assumption)
         have hx16:=Zap a0 x3_1
         replace p16:=eq_true p16
         replace q16:=eq_true q16
         go_wp2
         go_roundg k1
         case measure=>have:=HK1.out;omega
         case rel=>exact⟨(wrap64 (x3_1+1)),(by first|rfl|(simp;done)|(simp[*];done)),H',⟨by have:=HK1.out;omega⟩,by repeat(first|exact ZH.refl _|apply ZH.step)⟩
    ·rw[if_neg c3] at H
     exact absurd H (by simp)
   ·rw[if_neg c2] at H
    have c2b0:decide (x3_1<(a0.size:Int))=false:=Zf c2
    clear c2
    replace H:=Zh H
    obtain⟨t1,A180,H⟩:=H;have A18:=Za A180;clear A180
    obtain rfl:=Zg H
    go_wp2_with (first|((with_reducible refine ZM (f:=127) rfl ?_);refine Z7 (some 41) rfl rfl Tryz.func127 (by kernel_rfl) rfl #[.int .i64 (a0.size:Int),.int .i64 1,.int .i64 8] rfl (by(try simp only[List.map_toArray,List.map_cons,List.map_nil]);first|done|rfl|(simp only[Zk,Zj];rfl)) ?_;(with_reducible refine(ZX.calls (a0.size:Int) 1 8 t1 _ A18.out).mono ?_);rintro e w' ⟨rfl,⟨nd,rfl⟩⟩;refine⟨_,rfl,?_⟩))
    go_ret
    exact⟨by first|rfl|(simp;done)|(simp[*];done),by repeat(first|exact ZH.refl _|apply ZH.step)⟩
def ZaA.l0:Nat→ByteArray→Int→Option (Bool)
 | 0,_,_=>none
 | k+1,x0,x3=>if x3<(x0.size:Int) then(if 0≤x3 then(if (bt x0 x3)≥97 then(if (bt x0 x3)≥48 then(if ((bt x0 x3)≤122) then(ZaA.l0 k x0 (wrap64 (x3+1))) else(if ((bt x0 x3)≤57) then(if x3=0 then(some false) else(ZaA.l0 k x0 (wrap64 (x3+1)))) else(some false))) else(if ((bt x0 x3)≤122) then(ZaA.l0 k x0 (wrap64 (x3+1))) else(some false))) else(if (bt x0 x3)≥48 then(if ((bt x0 x3)≤57) then(if x3=0 then(some false) else(ZaA.l0 k x0 (wrap64 (x3+1)))) else(some false)) else(some false))) else(none)) else(if (x0.size:Int)≥1 then(some (decide ((x0.size:Int)≤8))) else(some false))
def ZaA.f (k:Nat) (a0:ByteArray):Option (Bool):=ZaA.l0 k a0 0
theorem ZaA.calls (k:Nat) (a0:ByteArray) (r:Bool) (w:World) (h:ZaA.f k a0=some r) :
  Calls Tryz.prog 86 #[.string a0] w fun e w'=>e=.returned (.bool r)∧ZH w w':=by
 have H:(ZaA.l0 k a0 0)=some r:=h
 clear h
 have H':=Za H
 clear H
 go_enter Tryz.func86,Tryz.ntmps86
 go_wp2
 repeat(go_quiet (fail);try go_wp2)
 go_loopg [3] k (fun kq v3 w'=>∃(x3_1:Int),v3=.int .i64 x3_1∧Aside0 (ZaA.l0 kq a0 x3_1=some r)∧Aside0 (kq≤k)∧ZH w w')
 case atStart=>exact⟨(0),(by first|rfl|(simp;done)|(simp[*];done)),H',⟨Nat.le_refl _⟩,by repeat(first|exact ZH.refl _|apply ZH.step)⟩
 case round=>
  clear H'
  obtain⟨x3_1,rfl,HA,HK1,⟨m1,rfl⟩⟩:=hrel
  cases gk with
  | zero=>exact absurd HA.out (by simp[ZaA.l0])
  | succ k1=>
   have H:=HA.out
   clear HA
   simp only[ZaA.l0] at H
   by_cases c2:x3_1<(a0.size:Int)
   ·rw[if_pos c2] at H
    have c2b0:decide (x3_1<(a0.size:Int))=true:=Ze c2
    clear c2
    by_cases c3:0≤x3_1
    ·rw[if_pos c3] at H
     have c3b0:decide (0≤x3_1)=true:=Ze c3
     clear c3
     by_cases c5:(bt a0 x3_1)≥97
     ·rw[if_pos c5] at H
      have c5b0:decide (97≤(bt a0 x3_1))=true:=Ze c5
      clear c5
      by_cases c8:(bt a0 x3_1)≥48
      ·rw[if_pos c8] at H
       have c8b0:decide (48≤(bt a0 x3_1))=true:=Ze c8
       clear c8
       by_cases c10:((bt a0 x3_1)≤122)
       ·rw[if_pos c10] at H
        have c10b0:decide ((bt a0 x3_1)≤122)=true:=Ze c10
        clear c10
        have H':=Za H
        clear H
        have p4:0≤(x3_1:Int):=Zd (by with_reducible assumption)
        have q4:x3_1<(a0.size:Int):=Zd (by with_reducible assumption)
        have hx4:=Zap a0 x3_1
        replace p4:=eq_true p4
        replace q4:=eq_true q4
        have p6:0≤(x3_1:Int):=Zd (by with_reducible assumption)
        have q6:x3_1<(a0.size:Int):=Zd (by with_reducible assumption)
        have hx6:=Zap a0 x3_1
        replace p6:=eq_true p6
        replace q6:=eq_true q6
        have p7:0≤(x3_1:Int):=Zd (by with_reducible assumption)
        have q7:x3_1<(a0.size:Int):=Zd (by with_reducible assumption)
        have hx7:=Zap a0 x3_1
        replace p7:=eq_true p7
        replace q7:=eq_true q7
        have p9:0≤(x3_1:Int):=Zd (by with_reducible assumption)
        have q9:x3_1<(a0.size:Int):=Zd (by with_reducible assumption)
        have hx9:=Zap a0 x3_1
        replace p9:=eq_true p9
        replace q9:=eq_true q9
        go_wp2
        repeat(go_quiet (fail);try go_wp2)
        go_roundg k1
        case measure=>have:=HK1.out;omega
        case rel=>exact⟨(wrap64 (x3_1+1)),(by first|rfl|(simp;done)|(simp[*];done)),H',⟨by have:=HK1.out;omega⟩,by repeat(first|exact ZH.refl _|apply ZH.step)⟩
       ·rw[if_neg c10] at H
        have c10b0:decide ((bt a0 x3_1)≤122)=false:=Zf c10
        clear c10
        by_cases c11:((bt a0 x3_1)≤57)
        ·rw[if_pos c11] at H
         have c11b0:decide ((bt a0 x3_1)≤57)=true:=Ze c11
         clear c11
         by_cases c12:x3_1=0
         ·rw[if_pos c12] at H
          have c12b0:(x3_1 == 0)=true:=beq_iff_eq.mpr c12
          clear c12
          obtain rfl:=Zg H
          have p4:0≤(x3_1:Int):=Zd (by with_reducible assumption)
          have q4:x3_1<(a0.size:Int):=Zd (by with_reducible assumption)
          have hx4:=Zap a0 x3_1
          replace p4:=eq_true p4
          replace q4:=eq_true q4
          have p6:0≤(x3_1:Int):=Zd (by with_reducible assumption)
          have q6:x3_1<(a0.size:Int):=Zd (by with_reducible assumption)
          have hx6:=Zap a0 x3_1
          replace p6:=eq_true p6
          replace q6:=eq_true q6
          have p7:0≤(x3_1:Int):=Zd (by with_reducible assumption)
          have q7:x3_1<(a0.size:Int):=Zd (by with_reducible assumption)
          have hx7:=Zap a0 x3_1
          replace p7:=eq_true p7
          replace q7:=eq_true q7
          have p9:0≤(x3_1:Int):=Zd (by with_reducible assumption)
          have q9:x3_1<(a0.size:Int):=Zd (by with_reducible assumption)
          have hx9:=Zap a0 x3_1
          replace p9:=eq_true p9
          replace q9:=eq_true q9
          go_wp2
          repeat(go_quiet (fail);try go_wp2)
          go_ret
          exact⟨by first|rfl|(simp;done)|(simp[*];done),by repeat(first|exact ZH.refl _|apply ZH.step)⟩
         ·rw[if_neg c12] at H
          have c12b0:(x3_1 == 0)=false:=beq_eq_false_iff_ne.mpr c12
          have H':=Za H
          clear H
          have p4:0≤(x3_1:Int):=Zd (by with_reducible assumption)
          have q4:x3_1<(a0.size:Int):=Zd (by with_reducible assumption)
          have hx4:=Zap a0 x3_1
          replace p4:=eq_true p4
          replace q4:=eq_true q4
          have p6:0≤(x3_1:Int):=Zd (by with_reducible assumption)
          have q6:x3_1<(a0.size:Int):=Zd (by with_reducible assumption)
          have hx6:=Zap a0 x3_1
          replace p6:=eq_true p6
          replace q6:=eq_true q6
          have p7:0≤(x3_1:Int):=Zd (by with_reducible assumption)
          have q7:x3_1<(a0.size:Int):=Zd (by with_reducible assumption)
          have hx7:=Zap a0 x3_1
          replace p7:=eq_true p7
          replace q7:=eq_true q7
          have p9:0≤(x3_1:Int):=Zd (by with_reducible assumption)
          have q9:x3_1<(a0.size:Int):=Zd (by with_reducible assumption)
          have hx9:=Zap a0 x3_1
          replace p9:=eq_true p9
          replace q9:=eq_true q9
          go_wp2
          repeat(go_quiet (fail);try go_wp2)
          go_roundg k1
          case measure=>have:=HK1.out;omega
          case rel=>exact⟨(wrap64 (x3_1+1)),(by first|rfl|(simp;done)|(simp[*];done)),H',⟨by have:=HK1.out;omega⟩,by repeat(first|exact ZH.refl _|apply ZH.step)⟩
        ·rw[if_neg c11] at H
         have c11b0:decide ((bt a0 x3_1)≤57)=false:=Zf c11
         clear c11
         obtain rfl:=Zg H
         have p4:0≤(x3_1:Int):=Zd (by with_reducible assumption)
         have q4:x3_1<(a0.size:Int):=Zd (by with_reducible assumption)
         have hx4:=Zap a0 x3_1
         replace p4:=eq_true p4
         replace q4:=eq_true q4
         have p6:0≤(x3_1:Int):=Zd (by with_reducible assumption)
         have q6:x3_1<(a0.size:Int):=Zd (by with_reducible assumption)
         have hx6:=Zap a0 x3_1
         replace p6:=eq_true p6
         replace q6:=eq_true q6
         have p7:0≤(x3_1:Int):=Zd (by with_reducible assumption)
         have q7:x3_1<(a0.size:Int):=Zd (by with_reducible assumption)
         have hx7:=Zap a0 x3_1
         replace p7:=eq_true p7
         replace q7:=eq_true q7
         have p9:0≤(x3_1:Int):=Zd (by with_reducible assumption)
         have q9:x3_1<(a0.size:Int):=Zd (by with_reducible assumption)
         have hx9:=Zap a0 x3_1
         replace p9:=eq_true p9
         replace q9:=eq_true q9
         go_wp2
         repeat(go_quiet (fail);try go_wp2)
         go_ret
         exact⟨by first|rfl|(simp;done)|(simp[*];done),by repeat(first|exact ZH.refl _|apply ZH.step)⟩
      ·rw[if_neg c8] at H
       have c8b0:decide (48≤(bt a0 x3_1))=false:=Zf c8
       clear c8
       by_cases c13:((bt a0 x3_1)≤122)
       ·rw[if_pos c13] at H
        have c13b0:decide ((bt a0 x3_1)≤122)=true:=Ze c13
        clear c13
        have H':=Za H
        clear H
        have p4:0≤(x3_1:Int):=Zd (by with_reducible assumption)
        have q4:x3_1<(a0.size:Int):=Zd (by with_reducible assumption)
        have hx4:=Zap a0 x3_1
        replace p4:=eq_true p4
        replace q4:=eq_true q4
        have p6:0≤(x3_1:Int):=Zd (by with_reducible assumption)
        have q6:x3_1<(a0.size:Int):=Zd (by with_reducible assumption)
        have hx6:=Zap a0 x3_1
        replace p6:=eq_true p6
        replace q6:=eq_true q6
        have p7:0≤(x3_1:Int):=Zd (by with_reducible assumption)
        have q7:x3_1<(a0.size:Int):=Zd (by with_reducible assumption)
        have hx7:=Zap a0 x3_1
        replace p7:=eq_true p7
        replace q7:=eq_true q7
        go_wp2
        repeat(go_quiet (fail);try go_wp2)
        go_roundg k1
        case measure=>have:=HK1.out;omega
        case rel=>exact⟨(wrap64 (x3_1+1)),(by first|rfl|(simp;done)|(simp[*];done)),H',⟨by have:=HK1.out;omega⟩,by repeat(first|exact ZH.refl _|apply ZH.step)⟩
       ·rw[if_neg c13] at H
        have c13b0:decide ((bt a0 x3_1)≤122)=false:=Zf c13
        clear c13
        obtain rfl:=Zg H
        have p4:0≤(x3_1:Int):=Zd (by with_reducible assumption)
        have q4:x3_1<(a0.size:Int):=Zd (by with_reducible assumption)
        have hx4:=Zap a0 x3_1
        replace p4:=eq_true p4
        replace q4:=eq_true q4
        have p6:0≤(x3_1:Int):=Zd (by with_reducible assumption)
        have q6:x3_1<(a0.size:Int):=Zd (by with_reducible assumption)
        have hx6:=Zap a0 x3_1
        replace p6:=eq_true p6
        replace q6:=eq_true q6
        have p7:0≤(x3_1:Int):=Zd (by with_reducible assumption)
        have q7:x3_1<(a0.size:Int):=Zd (by with_reducible assumption)
        have hx7:=Zap a0 x3_1
        replace p7:=eq_true p7
        replace q7:=eq_true q7
        go_wp2
        repeat(go_quiet (fail);try go_wp2)
        go_ret
        exact⟨by first|rfl|(simp;done)|(simp[*];done),by repeat(first|exact ZH.refl _|apply ZH.step)⟩
     ·rw[if_neg c5] at H
      have c5b0:decide (97≤(bt a0 x3_1))=false:=Zf c5
      clear c5
      by_cases c15:(bt a0 x3_1)≥48
      ·rw[if_pos c15] at H
       have c15b0:decide (48≤(bt a0 x3_1))=true:=Ze c15
       clear c15
       by_cases c17:((bt a0 x3_1)≤57)
       ·rw[if_pos c17] at H
        have c17b0:decide ((bt a0 x3_1)≤57)=true:=Ze c17
        clear c17
        by_cases c18:x3_1=0
        ·rw[if_pos c18] at H
         have c18b0:(x3_1 == 0)=true:=beq_iff_eq.mpr c18
         clear c18
         obtain rfl:=Zg H
         have p4:0≤(x3_1:Int):=Zd (by with_reducible assumption)
         have q4:x3_1<(a0.size:Int):=Zd (by with_reducible assumption)
         have hx4:=Zap a0 x3_1
         replace p4:=eq_true p4
         replace q4:=eq_true q4
         have p14:0≤(x3_1:Int):=Zd (by with_reducible assumption)
         have q14:x3_1<(a0.size:Int):=Zd (by with_reducible assumption)
         have hx14:=Zap a0 x3_1
         replace p14:=eq_true p14
         replace q14:=eq_true q14
         have p16:0≤(x3_1:Int):=Zd (by with_reducible assumption)
         have q16:x3_1<(a0.size:Int):=Zd (by with_reducible assumption)
         have hx16:=Zap a0 x3_1
         replace p16:=eq_true p16
         replace q16:=eq_true q16
         go_wp2
         repeat(go_quiet (fail);try go_wp2)
         go_ret
         exact⟨by first|rfl|(simp;done)|(simp[*];done),by repeat(first|exact ZH.refl _|apply ZH.step)⟩
        ·rw[if_neg c18] at H
         have c18b0:(x3_1 == 0)=false:=beq_eq_false_iff_ne.mpr c18
         have H':=Za H
         clear H
         have p4:0≤(x3_1:Int):=Zd (by with_reducible assumption)
         have q4:x3_1<(a0.size:Int):=Zd (by with_reducible assumption)
         have hx4:=Zap a0 x3_1
         replace p4:=eq_true p4
         replace q4:=eq_true q4
         have p14:0≤(x3_1:Int):=Zd (by with_reducible assumption)
         have q14:x3_1<(a0.size:Int):=Zd (by with_reducible assumption)
         have hx14:=Zap a0 x3_1
         replace p14:=eq_true p14
         replace q14:=eq_true q14
         have p16:0≤(x3_1:Int):=Zd (by with_reducible assumption)
         have q16:x3_1<(a0.size:Int):=Zd (by with_reducible assumption)
         have hx16:=Zap a0 x3_1
         replace p16:=eq_true p16
         replace q16:=eq_true q16
         go_wp2
         repeat(go_quiet (fail);try go_wp2)
         go_roundg k1
         case measure=>have:=HK1.out;omega
         case rel=>exact⟨(wrap64 (x3_1+1)),(by first|rfl|(simp;done)|(simp[*];done)),H',⟨by have:=HK1.out;omega⟩,by repeat(first|exact ZH.refl _|apply ZH.step)⟩
       ·rw[if_neg c17] at H
        have c17b0:decide ((bt a0 x3_1)≤57)=false:=Zf c17
        clear c17
        obtain rfl:=Zg H
        have p4:0≤(x3_1:Int):=Zd (by with_reducible assumption)
        have q4:x3_1<(a0.size:Int):=Zd (by with_reducible assumption)
        have hx4:=Zap a0 x3_1
        replace p4:=eq_true p4
        replace q4:=eq_true q4
        have p14:0≤(x3_1:Int):=Zd (by with_reducible assumption)
        have q14:x3_1<(a0.size:Int):=Zd (by with_reducible assumption)
        have hx14:=Zap a0 x3_1
        replace p14:=eq_true p14
        replace q14:=eq_true q14
        have p16:0≤(x3_1:Int):=Zd (by with_reducible assumption)
        have q16:x3_1<(a0.size:Int):=Zd (by with_reducible assumption)
        have hx16:=Zap a0 x3_1
        replace p16:=eq_true p16
        replace q16:=eq_true q16
        go_wp2
        repeat(go_quiet (fail);try go_wp2)
        go_ret
        exact⟨by first|rfl|(simp;done)|(simp[*];done),by repeat(first|exact ZH.refl _|apply ZH.step)⟩
      ·rw[if_neg c15] at H
       have c15b0:decide (48≤(bt a0 x3_1))=false:=Zf c15
       clear c15
       obtain rfl:=Zg H
       have p4:0≤(x3_1:Int):=Zd (by with_reducible assumption)
       have q4:x3_1<(a0.size:Int):=Zd (by with_reducible assumption)
       have hx4:=Zap a0 x3_1
       replace p4:=eq_true p4
       replace q4:=eq_true q4
       have p14:0≤(x3_1:Int):=Zd (by with_reducible assumption)
       have q14:x3_1<(a0.size:Int):=Zd (by with_reducible assumption)
       have hx14:=Zap a0 x3_1
       replace p14:=eq_true p14
       replace q14:=eq_true q14
       go_wp2
       repeat(go_quiet (fail);try go_wp2)
       go_ret
       exact⟨by first|rfl|(simp;done)|(simp[*];done),by repeat(first|exact ZH.refl _|apply ZH.step)⟩
    ·rw[if_neg c3] at H
     exact absurd H (by simp)
   ·rw[if_neg c2] at H
    have c2b0:decide (x3_1<(a0.size:Int))=false:=Zf c2
    clear c2
    by_cases c19:(a0.size:Int)≥1
    ·rw[if_pos c19] at H
     have c19b0:decide (1≤(a0.size:Int))=true:=Ze c19
     clear c19
     obtain rfl:=Zg H
     go_wp2
     repeat(go_quiet (fail);try go_wp2)
     go_ret
     exact⟨by first|rfl|(simp;done)|(simp[*];done),by repeat(first|exact ZH.refl _|apply ZH.step)⟩
    ·rw[if_neg c19] at H
     have c19b0:decide (1≤(a0.size:Int))=false:=Zf c19
     clear c19
     obtain rfl:=Zg H
     go_wp2
     repeat(go_quiet (fail);try go_wp2)
     go_ret
     exact⟨by first|rfl|(simp;done)|(simp[*];done),by repeat(first|exact ZH.refl _|apply ZH.step)⟩
def chB (s:ByteArray) (i:Nat):Bool:=(decide (97≤bt s i) && decide (bt s i≤122)) || (decide (0<i) && decide (48≤bt s i) && decide (bt s i≤57))
def chsB (s:ByteArray) (i:Nat):Nat→Bool
 | 0=>true
 | d+1=>chB s i && chsB s (i+1) d
def nameB (s:ByteArray):Bool:=chsB s 0 s.size && (decide (1≤s.size) && decide (s.size≤8))
theorem Zgy (s:ByteArray) (hs:s.size≤9223372036854775807) (k:Nat) (hk:2 ^ 64≤k):ZaM.f k s=some (nameB s):=by
 have key:=Zb7 s.size (fun k i=>ZaM.l0 k s (i:Int)=some (chsB s i (s.size - i) && (decide (1≤s.size) && decide (s.size≤8)))) 0
  (fun k _=>by
   simp only[ZaM.l0]
   rw[if_neg (by omega),Nat.sub_self]
   unfold ZX.f chsB
   by_cases h1:1≤s.size
   ·rw[if_pos (by omega),Ze h1]
    simp only[Zi,Bool.true_and]
    congr 1
    rw[Bool.eq_iff_iff];simp;omega
   ·rw[if_neg (by omega),Zf h1];rfl)
  (fun k i _ hi ih=>by
   simp only[ZaM.l0]
   rw[if_pos (by omega),if_pos (by omega),ZO hi (by omega),ih,show chsB s i (s.size - i)=(chB s i && chsB s (i+1) (s.size - (i+1))) by rw[show s.size - i=(s.size - (i+1))+1 by omega];rfl]
   have hF:chB s i=false→(chB s i && chsB s (i+1) (s.size - (i+1)) && (decide (1≤s.size) && decide (s.size≤8)))=false:=fun h=>by rw[h];rfl
   have hT:chB s i=true→(chB s i && chsB s (i+1) (s.size - (i+1)) && (decide (1≤s.size) && decide (s.size≤8)))=(chsB s (i+1) (s.size - (i+1)) && (decide (1≤s.size) && decide (s.size≤8))):=fun h=>by rw[h,Bool.true_and]
   generalize hc:bt s (i:Int)=c at *
   have hch:chB s i=((decide (97≤c) && decide (c≤122)) || (decide (0<i) && decide (48≤c) && decide (c≤57))):=by unfold chB;rw[hc]
   by_cases a1:c≥97
   ·rw[if_pos a1]
    by_cases a2:c≤122
    ·rw[if_pos a2,hT (by rw[hch];simp;omega)]
    ·rw[if_neg a2,hF (by rw[hch];simp;omega)]
     split
     ·rfl
     ·split
      ·rfl
      ·rw[if_pos (by omega)]
   ·rw[if_neg a1]
    by_cases b0:(i:Int)=0
    ·rw[if_pos b0,hF (by rw[hch];simp;omega)]
    ·rw[if_neg b0]
     by_cases b1:c<48
     ·rw[if_pos b1,hF (by rw[hch];simp;omega)]
     ·rw[if_neg b1]
      by_cases b2:c > 57
      ·rw[if_pos b2,hF (by rw[hch];simp;omega)]
      ·rw[if_neg b2,hT (by rw[hch];simp;omega)]) 0 k (Nat.zero_le _) (by omega)
 unfold ZaM.f nameB
 simpa using key
theorem ZgF (s:ByteArray) (hs:s.size≤9223372036854775807) (k:Nat) (hk:2 ^ 64≤k):ZaA.f k s=some (nameB s):=by
 have key:=Zb7 s.size (fun k i=>ZaA.l0 k s (i:Int)=some (chsB s i (s.size - i) && (decide (1≤s.size) && decide (s.size≤8)))) 0
  (fun k _=>by
   simp only[ZaA.l0]
   rw[if_neg (by omega),Nat.sub_self]
   unfold chsB
   by_cases h1:1≤s.size
   ·rw[if_pos (by omega),Ze h1]
    simp only[Bool.true_and]
    congr 1
    rw[Bool.eq_iff_iff];simp;omega
   ·rw[if_neg (by omega),Zf h1];rfl)
  (fun k i _ hi ih=>by
   simp only[ZaA.l0]
   rw[if_pos (by omega),if_pos (by omega),ZO hi (by omega),ih,show chsB s i (s.size - i)=(chB s i && chsB s (i+1) (s.size - (i+1))) by rw[show s.size - i=(s.size - (i+1))+1 by omega];rfl]
   have hF:chB s i=false→(chB s i && chsB s (i+1) (s.size - (i+1)) && (decide (1≤s.size) && decide (s.size≤8)))=false:=fun h=>by rw[h];rfl
   have hT:chB s i=true→(chB s i && chsB s (i+1) (s.size - (i+1)) && (decide (1≤s.size) && decide (s.size≤8)))=(chsB s (i+1) (s.size - (i+1)) && (decide (1≤s.size) && decide (s.size≤8))):=fun h=>by rw[h,Bool.true_and]
   generalize hc:bt s (i:Int)=c at *
   have hch:chB s i=((decide (97≤c) && decide (c≤122)) || (decide (0<i) && decide (48≤c) && decide (c≤57))):=by unfold chB;rw[hc]
   by_cases a1:c≥97
   ·rw[if_pos a1,if_pos (by omega)]
    by_cases a2:c≤122
    ·rw[if_pos a2,hT (by rw[hch];simp;omega)]
    ·rw[if_neg a2,if_neg (by omega),hF (by rw[hch];simp;omega)]
   ·rw[if_neg a1]
    by_cases b1:c≥48
    ·rw[if_pos b1]
     by_cases b2:c≤57
     ·rw[if_pos b2]
      by_cases b0:(i:Int)=0
      ·rw[if_pos b0,hF (by rw[hch];simp;omega)]
      ·rw[if_neg b0,hT (by rw[hch];simp;omega)]
     ·rw[if_neg b2,hF (by rw[hch];simp;omega)]
    ·rw[if_neg b1,hF (by rw[hch];simp;omega)]) 0 k (Nat.zero_le _) (by omega)
 unfold ZaA.f nameB
 simpa using key
def ZaH.f (a0:Int):Option (Int):=if a0<0 then(some (wrap64 (-a0))) else(some a0)
theorem ZaH.calls (a0:Int) (r:Int) (w:World) (h:ZaH.f a0=some r) :
  Calls Tryz.prog 98 #[.int .i64 a0] w fun e w'=>e=.returned (.int .i64 r)∧ZH w w':=by
 have H:(if a0<0 then(some (wrap64 (-a0))) else(some a0))=some r:=h
 clear h
 by_cases c2:a0<0
 ·rw[if_pos c2] at H
  have c2b0:decide (a0<0)=true:=Ze c2
  clear c2
  obtain rfl:=Zg H
  go_enter Tryz.func98,Tryz.ntmps98
  go_wp2
  go_ret
  exact⟨by first|rfl|(simp;done)|(simp[*];done),by repeat(first|exact ZH.refl _|apply ZH.step)⟩
 ·rw[if_neg c2] at H
  have c2b0:decide (a0<0)=false:=Zf c2
  clear c2
  obtain rfl:=Zg H
  go_enter Tryz.func98,Tryz.ntmps98
  go_wp2
  go_ret
  exact⟨by first|rfl|(simp;done)|(simp[*];done),by repeat(first|exact ZH.refl _|apply ZH.step)⟩
def Zae.l0:Nat→List Int→List Int→Int→Int→Option (Bool)
 | 0,_,_,_,_=>none
 | k+1,x0,x5,x6,x7=>if x7<x6 then(if 0≤x7 then(if x7<(x5.length:Int) then(if (rd x5 x7)=0 then(some false) else((ZX.f (rd x5 x7) (-3) 3).bind fun t2=>(if t2=true then(if x7 > 0 then(if 0≤(wrap64 (x7 - 1)) then(if (wrap64 (x7 - 1))<(x0.length:Int) then((ZaH.f (rd x0 (wrap64 (x7 - 1)))).bind fun t4=>((ZaH.f (rd x5 x7)).bind fun t5=>(if t4≥t5 then(some false) else(Zae.l0 k x0 x5 x6 (wrap64 (x7+1)))))) else(none)) else(none)) else(Zae.l0 k x0 x5 x6 (wrap64 (x7+1)))) else(some false)))) else(none)) else(none)) else(some true)
def Zae.f (k:Nat) (l0:List Int):Option (Bool):=Zae.l0 k l0 l0 (l0.length:Int) 0
theorem Zae.calls (k:Nat) (A0:Option Addr) (c0:Nat) (l0:List Int) (r:Bool) (w:World) (hr0:Kd.C (Kd.int .i64) w A0 l0.length l0) (hc0:l0.length≤c0) (h:Zae.f k l0=some r) :
  Calls Tryz.prog 175 #[.slice A0 l0.length c0] w fun e w'=>e=.returned (.bool r)∧ZH w w':=by
 have HR0:=Za hr0;have HC0:=Za hc0;clear hr0 hc0
 have H:(Zae.l0 k l0 l0 (l0.length:Int) 0)=some r:=h
 clear h
 have H':=Za H
 clear H
 go_enter Tryz.func175,Tryz.ntmps175
 go_wp2
 go_loopg [7] k (fun kq v7 w'=>∃(x7_1:Int),v7=.int .i64 x7_1∧Aside0 (Zae.l0 kq l0 l0 (l0.length:Int) x7_1=some r)∧Aside0 (kq≤k)∧ZH w w')
 case atStart=>exact⟨(0),(by first|rfl|(simp;done)|(simp[*];done)),H',⟨Nat.le_refl _⟩,by repeat(first|exact ZH.refl _|apply ZH.step)⟩
 case round=>
  clear H'
  try clear c1
  obtain⟨x7_1,rfl,HA,HK1,⟨m1,rfl⟩⟩:=hrel
  cases gk with
  | zero=>exact absurd HA.out (by simp[Zae.l0])
  | succ k1=>
   have H:=HA.out
   clear HA
   simp only[Zae.l0] at H
   by_cases c2:x7_1<(l0.length:Int)
   ·rw[if_pos c2] at H
    have c2b0:decide (x7_1<(l0.length:Int))=true:=Ze c2
    clear c2
    by_cases c3:0≤x7_1
    ·rw[if_pos c3] at H
     have c3b0:decide (0≤x7_1)=true:=Ze c3
     clear c3
     by_cases c4:x7_1<(l0.length:Int)
     ·rw[if_pos c4] at H
      have c4b0:decide (x7_1<(l0.length:Int))=true:=Ze c4
      clear c4
      by_cases c5:(rd l0 x7_1)=0
      ·rw[if_pos c5] at H
       have c5b0:((rd l0 x7_1) == 0)=true:=beq_iff_eq.mpr c5
       clear c5
       obtain rfl:=Zg H
       have p1:0≤(x7_1:Int):=Zd (by with_reducible assumption)
       have q1:x7_1<(l0.length:Int):=Zd (by with_reducible assumption)
       obtain⟨ad1,e1,hx1_0⟩:=Kd.at_int HR0.out x7_1 p1 q1
       cases e1
       replace p1:=eq_true p1
       replace q1:=eq_true q1
       go_wp2
       go_ret
       exact⟨by first|rfl|(simp;done)|(simp[*];done),by repeat(first|exact ZH.refl _|apply ZH.step)⟩
      ·rw[if_neg c5] at H
       have c5b0:((rd l0 x7_1) == 0)=false:=beq_eq_false_iff_ne.mpr c5
       replace H:=Zh H
       obtain⟨t2,A60,H⟩:=H;have A6:=Za A60;clear A60
       by_cases c7:t2=true
       ·subst c7
        rw[if_pos rfl] at H
        by_cases c8:x7_1 > 0
        ·rw[if_pos c8] at H
         have c8b0:decide (0<x7_1)=true:=Ze c8
         clear c8
         obtain⟨ji9,hji9⟩:∃j_:Int,(wrap64 (x7_1 - 1))=j_:=⟨_,rfl⟩
         replace H:(if 0≤(ji9) then(if (ji9)<(l0.length:Int) then((ZaH.f (rd l0 (ji9))).bind fun t4=>((ZaH.f (rd l0 x7_1)).bind fun t5=>(if t4≥t5 then(some false) else(Zae.l0 k1 l0 l0 (l0.length:Int) (wrap64 (x7_1+1)))))) else(none)) else(none))=some r:=by first|(rw[hji9] at H;exact H)|(simp only[hji9] at H ⊢;exact H)
         (try rw[hji9] at A6)
         have hji9w:(IntKind.i64.wrap (x7_1 - 1))=ji9:=(i64_w _).trans hji9
         by_cases c10:0≤(ji9)
         ·rw[if_pos c10] at H
          have c10b0:decide (0≤(ji9))=true:=Ze c10
          clear c10
          by_cases c11:(ji9)<(l0.length:Int)
          ·rw[if_pos c11] at H
           have c11b0:decide ((ji9)<(l0.length:Int))=true:=Ze c11
           clear c11
           replace H:=Zh H
           obtain⟨t4,A120,H⟩:=H;have A12:=Za A120;clear A120
           replace H:=Zh H
           obtain⟨t5,A130,H⟩:=H;have A13:=Za A130;clear A130
           by_cases c14:t4≥t5
           ·rw[if_pos c14] at H
            have c14b0:decide (t5≤t4)=true:=Ze c14
            clear c14
            obtain rfl:=Zg H
            have p1:0≤(x7_1:Int):=Zd (by with_reducible assumption)
            have q1:x7_1<(l0.length:Int):=Zd (by with_reducible assumption)
            obtain⟨ad1,e1,hx1_0⟩:=Kd.at_int HR0.out x7_1 p1 q1
            cases e1
            replace p1:=eq_true p1
            replace q1:=eq_true q1
            go_wp2_with (first|(go_at_call 127;(with_reducible refine(ZX.calls (rd l0 x7_1) (-3) 3 true _ A6.out).mono ?_);rintro e w' ⟨rfl,⟨nd,rfl⟩⟩;have p3:0≤((ji9):Int):=Zd (by with_reducible assumption);have q3:(ji9)<(l0.length:Int):=Zd (by with_reducible assumption);obtain⟨ad3,e3,hx3_0⟩:=Kd.at_int HR0.out (ji9) p3 q3;obtain rfl:ad1=ad3:=(by injection e3);replace p3:=eq_true p3;replace q3:=eq_true q3)|(go_at_call 98;(with_reducible refine(ZaH.calls (rd l0 (ji9)) t4 _ A12.out).mono ?_);rintro e w' ⟨rfl,⟨nd,rfl⟩⟩)|(go_at_call 98;(with_reducible refine(ZaH.calls (rd l0 x7_1) t5 _ A13.out).mono ?_);rintro e w' ⟨rfl,⟨nd,rfl⟩⟩))
            go_ret
            exact⟨by first|rfl|(simp;done)|(simp only[← hji9] <;> (first|rfl|simp))|(simp[*];done),by repeat(first|exact ZH.refl _|apply ZH.step)⟩
           ·rw[if_neg c14] at H
            have c14b0:decide (t5≤t4)=false:=Zf c14
            clear c14
            have H':=Za H
            clear H
            have p1:0≤(x7_1:Int):=Zd (by with_reducible assumption)
            have q1:x7_1<(l0.length:Int):=Zd (by with_reducible assumption)
            obtain⟨ad1,e1,hx1_0⟩:=Kd.at_int HR0.out x7_1 p1 q1
            cases e1
            replace p1:=eq_true p1
            replace q1:=eq_true q1
            go_wp2_with (first|(go_at_call 127;(with_reducible refine(ZX.calls (rd l0 x7_1) (-3) 3 true _ A6.out).mono ?_);rintro e w' ⟨rfl,⟨nd,rfl⟩⟩;have p3:0≤((ji9):Int):=Zd (by with_reducible assumption);have q3:(ji9)<(l0.length:Int):=Zd (by with_reducible assumption);obtain⟨ad3,e3,hx3_0⟩:=Kd.at_int HR0.out (ji9) p3 q3;obtain rfl:ad1=ad3:=(by injection e3);replace p3:=eq_true p3;replace q3:=eq_true q3)|(go_at_call 98;(with_reducible refine(ZaH.calls (rd l0 (ji9)) t4 _ A12.out).mono ?_);rintro e w' ⟨rfl,⟨nd,rfl⟩⟩)|(go_at_call 98;(with_reducible refine(ZaH.calls (rd l0 x7_1) t5 _ A13.out).mono ?_);rintro e w' ⟨rfl,⟨nd,rfl⟩⟩))
            go_roundg k1
            case measure=>have:=HK1.out;omega
            case rel=>exact⟨(wrap64 (x7_1+1)),(by first|rfl|(simp;done)|(simp[*];done)),H',⟨by have:=HK1.out;omega⟩,by repeat(first|exact ZH.refl _|apply ZH.step)⟩
          ·rw[if_neg c11] at H
           exact absurd H (by simp)
         ·rw[if_neg c10] at H
          exact absurd H (by simp)
        ·rw[if_neg c8] at H
         have c8b0:decide (0<x7_1)=false:=Zf c8
         clear c8
         have H':=Za H
         clear H
         have p1:0≤(x7_1:Int):=Zd (by with_reducible assumption)
         have q1:x7_1<(l0.length:Int):=Zd (by with_reducible assumption)
         obtain⟨ad1,e1,hx1_0⟩:=Kd.at_int HR0.out x7_1 p1 q1
         cases e1
         replace p1:=eq_true p1
         replace q1:=eq_true q1
         go_wp2_with (first|(go_at_call 127;(with_reducible refine(ZX.calls (rd l0 x7_1) (-3) 3 true _ A6.out).mono ?_);rintro e w' ⟨rfl,⟨nd,rfl⟩⟩))
         go_roundg k1
         case measure=>have:=HK1.out;omega
         case rel=>exact⟨(wrap64 (x7_1+1)),(by first|rfl|(simp;done)|(simp[*];done)),H',⟨by have:=HK1.out;omega⟩,by repeat(first|exact ZH.refl _|apply ZH.step)⟩
       ·replace c7:=Bool.eq_false_iff.mpr c7
        subst c7
        have H1:(some false)=some r:=by rw[if_neg (show ¬(false=true) by decide)] at H;exact H
        clear H
        have H:=H1
        clear H1
        obtain rfl:=Zg H
        have p1:0≤(x7_1:Int):=Zd (by with_reducible assumption)
        have q1:x7_1<(l0.length:Int):=Zd (by with_reducible assumption)
        obtain⟨ad1,e1,hx1_0⟩:=Kd.at_int HR0.out x7_1 p1 q1
        cases e1
        replace p1:=eq_true p1
        replace q1:=eq_true q1
        go_wp2_with (first|(go_at_call 127;(with_reducible refine(ZX.calls (rd l0 x7_1) (-3) 3 false _ A6.out).mono ?_);rintro e w' ⟨rfl,⟨nd,rfl⟩⟩))
        go_ret
        exact⟨by first|rfl|(simp;done)|(simp[*];done),by repeat(first|exact ZH.refl _|apply ZH.step)⟩
     ·rw[if_neg c4] at H
      exact absurd H (by simp)
    ·rw[if_neg c3] at H
     exact absurd H (by simp)
   ·rw[if_neg c2] at H
    have c2b0:decide (x7_1<(l0.length:Int))=false:=Zf c2
    clear c2
    obtain rfl:=Zg H
    go_wp2
    go_ret
    exact⟨by first|rfl|(simp;done)|(simp[*];done),by repeat(first|exact ZH.refl _|apply ZH.step)⟩
def ZaP.f (a0:Int):Option (Int):=some (mx a0 (wrap64 (-a0)))
theorem ZaP.calls (a0:Int) (r:Int) (w:World) (h:ZaP.f a0=some r) :
  Calls Tryz.prog 144 #[.int .i64 a0] w fun e w'=>e=.returned (.int .i64 r)∧Below w.heap.size w w':=by
 have HB:=Za (Below.refl w.heap.size w)
 have H:(some (mx a0 (wrap64 (-a0))))=some r:=h
 clear h
 obtain⟨ji2,hji2⟩:∃j_:Int,(mx a0 (wrap64 (-a0)))=j_:=⟨_,rfl⟩
 replace H:(some ji2)=some r:=by first|(rw[hji2] at H;exact H)|(simp only[hji2] at H ⊢;exact H)
 have hji2_:(if a0<(wrap64 (-a0)) then(wrap64 (-a0)) else a0)=ji2:=hji2
 obtain rfl:=Zg H
 go_enter Tryz.func144,Tryz.ntmps144
 go_wp2
 go_ret
 exact⟨by first|rfl|(simp[ZC,ZB] <;> rfl)|(simp only[← hji2];first|rfl|(simp[ZC,ZB] <;> rfl))|(simp[*,ZC,ZB] <;> rfl),by repeat(first|(with_reducible first|exact HB.out|apply Zo|apply Zn|apply Zp)|exact HB.out)⟩
def Z8.l0:Nat→List Int→List Int→Int→Int→Option (Bool)
 | 0,_,_,_,_=>none
 | k+1,x0,x5,x6,x7=>if x7<x6 then(if 0≤x7 then(if x7<(x5.length:Int) then(if (rd x5 x7)=0 then(some false) else(if (rd x5 x7)<(-3) then(some false) else(if (rd x5 x7) > 3 then(some false) else(if x7 > 0 then(if 0≤(wrap64 (x7 - 1)) then(if (wrap64 (x7 - 1))<(x0.length:Int) then((ZaP.f (rd x0 (wrap64 (x7 - 1)))).bind fun t3=>((ZaP.f (rd x5 x7)).bind fun t4=>(if t3≥t4 then(some false) else(Z8.l0 k x0 x5 x6 (wrap64 (x7+1)))))) else(none)) else(none)) else(Z8.l0 k x0 x5 x6 (wrap64 (x7+1))))))) else(none)) else(none)) else(some true)
def Z8.f (k:Nat) (l0:List Int):Option (Bool):=Z8.l0 k l0 l0 (l0.length:Int) 0
theorem Z8.calls (k:Nat) (A0:Option Addr) (c0:Nat) (l0:List Int) (r:Bool) (w:World) (hr0:Kd.C (Kd.int .i64) w A0 l0.length l0) (hc0:l0.length≤c0) (h:Z8.f k l0=some r) :
  Calls Tryz.prog 87 #[.slice A0 l0.length c0] w fun e w'=>e=.returned (.bool r)∧Below w.heap.size w w':=by
 have HR0:=Za hr0;have HC0:=Za hc0;clear hr0 hc0
 have HB:=Za (Below.refl w.heap.size w)
 have H:(Z8.l0 k l0 l0 (l0.length:Int) 0)=some r:=h
 clear h
 have H':=Za H
 clear H
 go_enter Tryz.func87,Tryz.ntmps87
 go_wp2
 go_loopg [7] k (fun kq v7 w'=>∃(x7_1:Int),v7=.int .i64 x7_1∧Aside0 (Z8.l0 kq l0 l0 (l0.length:Int) x7_1=some r)∧Aside0 (kq≤k)∧Aside0 (Below w.heap.size w w'))
 case atStart=>exact⟨(0),(by first|rfl|(simp;done)|(simp[*];done)),H',⟨Nat.le_refl _⟩,⟨by repeat(first|(with_reducible first|exact HB.out|apply Zo|apply Zn|apply Zp)|exact HB.out)⟩⟩
 case round=>
  clear H'
  obtain⟨x7_1,rfl,HA,HK1,HB⟩:=hrel
  cases gk with
  | zero=>exact absurd HA.out (by simp[Z8.l0])
  | succ k1=>
   have H:=HA.out
   clear HA
   simp only[Z8.l0] at H
   by_cases c2:x7_1<(l0.length:Int)
   ·rw[if_pos c2] at H
    have c2b0:decide (x7_1<(l0.length:Int))=true:=Ze c2
    clear c2
    by_cases c3:0≤x7_1
    ·rw[if_pos c3] at H
     have c3b0:decide (0≤x7_1)=true:=Ze c3
     clear c3
     by_cases c4:x7_1<(l0.length:Int)
     ·rw[if_pos c4] at H
      have c4b0:decide (x7_1<(l0.length:Int))=true:=Ze c4
      clear c4
      by_cases c5:(rd l0 x7_1)=0
      ·rw[if_pos c5] at H
       have c5b0:((rd l0 x7_1) == 0)=true:=beq_iff_eq.mpr c5
       clear c5
       obtain rfl:=Zg H
       have p1:0≤(x7_1:Int):=Zd (by with_reducible assumption)
       have q1:x7_1<(l0.length:Int):=Zd (by with_reducible assumption)
       obtain⟨ad1,e1,hx1_0⟩:=Kd.at_int HR0.out x7_1 p1 q1
       cases e1
       replace hx1_0:=(HB.out.cell (Zc w _ hx1_0)).trans hx1_0
       replace p1:=eq_true p1
       replace q1:=eq_true q1
       go_wp2
       go_ret
       exact⟨by first|rfl|(simp[ZC,ZB] <;> rfl)|(simp[*,ZC,ZB] <;> rfl),by repeat(first|(with_reducible first|exact HB.out|apply Zo|apply Zn|apply Zp)|exact HB.out)⟩
      ·rw[if_neg c5] at H
       have c5b0:((rd l0 x7_1) == 0)=false:=beq_eq_false_iff_ne.mpr c5
       by_cases c6:(rd l0 x7_1)<(-3)
       ·rw[if_pos c6] at H
        have c6b0:decide ((rd l0 x7_1)<(-3))=true:=Ze c6
        clear c6
        obtain rfl:=Zg H
        have p1:0≤(x7_1:Int):=Zd (by with_reducible assumption)
        have q1:x7_1<(l0.length:Int):=Zd (by with_reducible assumption)
        obtain⟨ad1,e1,hx1_0⟩:=Kd.at_int HR0.out x7_1 p1 q1
        cases e1
        replace hx1_0:=(HB.out.cell (Zc w _ hx1_0)).trans hx1_0
        replace p1:=eq_true p1
        replace q1:=eq_true q1
        go_wp2
        go_ret
        exact⟨by first|rfl|(simp[ZC,ZB] <;> rfl)|(simp[*,ZC,ZB] <;> rfl),by repeat(first|(with_reducible first|exact HB.out|apply Zo|apply Zn|apply Zp)|exact HB.out)⟩
       ·rw[if_neg c6] at H
        have c6b0:decide ((rd l0 x7_1)<(-3))=false:=Zf c6
        clear c6
        by_cases c7:(rd l0 x7_1) > 3
        ·rw[if_pos c7] at H
         have c7b0:decide (3<(rd l0 x7_1))=true:=Ze c7
         clear c7
         obtain rfl:=Zg H
         have p1:0≤(x7_1:Int):=Zd (by with_reducible assumption)
         have q1:x7_1<(l0.length:Int):=Zd (by with_reducible assumption)
         obtain⟨ad1,e1,hx1_0⟩:=Kd.at_int HR0.out x7_1 p1 q1
         cases e1
         replace hx1_0:=(HB.out.cell (Zc w _ hx1_0)).trans hx1_0
         replace p1:=eq_true p1
         replace q1:=eq_true q1
         go_wp2
         go_ret
         exact⟨by first|rfl|(simp[ZC,ZB] <;> rfl)|(simp[*,ZC,ZB] <;> rfl),by repeat(first|(with_reducible first|exact HB.out|apply Zo|apply Zn|apply Zp)|exact HB.out)⟩
        ·rw[if_neg c7] at H
         have c7b0:decide (3<(rd l0 x7_1))=false:=Zf c7
         clear c7
         by_cases c8:x7_1 > 0
         ·rw[if_pos c8] at H
          have c8b0:decide (0<x7_1)=true:=Ze c8
          clear c8
          obtain⟨ji9,hji9⟩:∃j_:Int,(wrap64 (x7_1 - 1))=j_:=⟨_,rfl⟩
          replace H:(if 0≤(ji9) then(if (ji9)<(l0.length:Int) then((ZaP.f (rd l0 (ji9))).bind fun t3=>((ZaP.f (rd l0 x7_1)).bind fun t4=>(if t3≥t4 then(some false) else(Z8.l0 k1 l0 l0 (l0.length:Int) (wrap64 (x7_1+1)))))) else(none)) else(none))=some r:=by first|(rw[hji9] at H;exact H)|(simp only[hji9] at H ⊢;exact H)
          have hji9w:(IntKind.i64.wrap (x7_1 - 1))=ji9:=(i64_w _).trans hji9
          by_cases c10:0≤(ji9)
          ·rw[if_pos c10] at H
           have c10b0:decide (0≤(ji9))=true:=Ze c10
           clear c10
           by_cases c11:(ji9)<(l0.length:Int)
           ·rw[if_pos c11] at H
            have c11b0:decide ((ji9)<(l0.length:Int))=true:=Ze c11
            clear c11
            replace H:=Zh H
            obtain⟨t3,A120,H⟩:=H;have A12:=Za A120;clear A120
            replace H:=Zh H
            obtain⟨t4,A130,H⟩:=H;have A13:=Za A130;clear A130
            by_cases c14:t3≥t4
            ·rw[if_pos c14] at H
             have c14b0:decide (t4≤t3)=true:=Ze c14
             clear c14
             obtain rfl:=Zg H
             have p1:0≤(x7_1:Int):=Zd (by with_reducible assumption)
             have q1:x7_1<(l0.length:Int):=Zd (by with_reducible assumption)
             obtain⟨ad1,e1,hx1_0⟩:=Kd.at_int HR0.out x7_1 p1 q1
             cases e1
             replace hx1_0:=(HB.out.cell (Zc w _ hx1_0)).trans hx1_0
             replace p1:=eq_true p1
             replace q1:=eq_true q1
             have p2:0≤((ji9):Int):=Zd (by with_reducible assumption)
             have q2:(ji9)<(l0.length:Int):=Zd (by with_reducible assumption)
             obtain⟨ad2,e2,hx2_0⟩:=Kd.at_int HR0.out (ji9) p2 q2
             obtain rfl:ad1=ad2:=(by injection e2)
             replace hx2_0:=(HB.out.cell (Zc w _ hx2_0)).trans hx2_0
             replace p2:=eq_true p2
             replace q2:=eq_true q2
             go_wp2_with (first|(go_at_call 144;(with_reducible refine(ZaP.calls (rd l0 (ji9)) t3 _ A12.out).mono ?_);rintro e w15 ⟨rfl,hb⟩;replace HB:=Za (Zr (by exact HB.out) hb);(try clear hi))|(go_at_call 144;(with_reducible refine(ZaP.calls (rd l0 x7_1) t4 _ A13.out).mono ?_);rintro e w16 ⟨rfl,hb⟩;replace HB:=Za (Zr (by exact HB.out) hb);(try clear hi)))
             go_ret
             exact⟨by first|rfl|(simp[ZC,ZB] <;> rfl)|(simp only[← hji9];first|rfl|(simp[ZC,ZB] <;> rfl))|(simp[*,ZC,ZB] <;> rfl),by repeat(first|(with_reducible first|exact HB.out|apply Zo|apply Zn|apply Zp)|exact HB.out)⟩
            ·rw[if_neg c14] at H
             have c14b0:decide (t4≤t3)=false:=Zf c14
             clear c14
             have H':=Za H
             clear H
             have p1:0≤(x7_1:Int):=Zd (by with_reducible assumption)
             have q1:x7_1<(l0.length:Int):=Zd (by with_reducible assumption)
             obtain⟨ad1,e1,hx1_0⟩:=Kd.at_int HR0.out x7_1 p1 q1
             cases e1
             replace hx1_0:=(HB.out.cell (Zc w _ hx1_0)).trans hx1_0
             replace p1:=eq_true p1
             replace q1:=eq_true q1
             have p2:0≤((ji9):Int):=Zd (by with_reducible assumption)
             have q2:(ji9)<(l0.length:Int):=Zd (by with_reducible assumption)
             obtain⟨ad2,e2,hx2_0⟩:=Kd.at_int HR0.out (ji9) p2 q2
             obtain rfl:ad1=ad2:=(by injection e2)
             replace hx2_0:=(HB.out.cell (Zc w _ hx2_0)).trans hx2_0
             replace p2:=eq_true p2
             replace q2:=eq_true q2
             go_wp2_with (first|(go_at_call 144;(with_reducible refine(ZaP.calls (rd l0 (ji9)) t3 _ A12.out).mono ?_);rintro e w17 ⟨rfl,hb⟩;replace HB:=Za (Zr (by exact HB.out) hb);(try clear hi))|(go_at_call 144;(with_reducible refine(ZaP.calls (rd l0 x7_1) t4 _ A13.out).mono ?_);rintro e w18 ⟨rfl,hb⟩;replace HB:=Za (Zr (by exact HB.out) hb);(try clear hi)))
             go_roundg k1
             case measure=>have:=HK1.out;omega
             case rel=>exact⟨(wrap64 (x7_1+1)),(by first|rfl|(simp;done)|(simp[*];done)),H',⟨by have:=HK1.out;omega⟩,⟨by repeat(first|(with_reducible first|exact HB.out|apply Zo|apply Zn|apply Zp)|exact HB.out)⟩⟩
           ·rw[if_neg c11] at H
            exact absurd H (by simp)
          ·rw[if_neg c10] at H
           exact absurd H (by simp)
         ·rw[if_neg c8] at H
          have c8b0:decide (0<x7_1)=false:=Zf c8
          clear c8
          have H':=Za H
          clear H
          have p1:0≤(x7_1:Int):=Zd (by with_reducible assumption)
          have q1:x7_1<(l0.length:Int):=Zd (by with_reducible assumption)
          obtain⟨ad1,e1,hx1_0⟩:=Kd.at_int HR0.out x7_1 p1 q1
          cases e1
          replace hx1_0:=(HB.out.cell (Zc w _ hx1_0)).trans hx1_0
          replace p1:=eq_true p1
          replace q1:=eq_true q1
          go_wp2
          go_roundg k1
          case measure=>have:=HK1.out;omega
          case rel=>exact⟨(wrap64 (x7_1+1)),(by first|rfl|(simp;done)|(simp[*];done)),H',⟨by have:=HK1.out;omega⟩,⟨by repeat(first|(with_reducible first|exact HB.out|apply Zo|apply Zn|apply Zp)|exact HB.out)⟩⟩
     ·rw[if_neg c4] at H
      exact absurd H (by simp)
    ·rw[if_neg c3] at H
     exact absurd H (by simp)
   ·rw[if_neg c2] at H
    have c2b0:decide (x7_1<(l0.length:Int))=false:=Zf c2
    clear c2
    obtain rfl:=Zg H
    go_wp2
    go_ret
    exact⟨by first|rfl|(simp[ZC,ZB] <;> rfl)|(simp[*,ZC,ZB] <;> rfl),by repeat(first|(with_reducible first|exact HB.out|apply Zo|apply Zn|apply Zp)|exact HB.out)⟩
theorem ZeR {x:Int} (h:ZbH x=true):ZaH.f x=some (prp x):=by
 have:=(Zb4 x).1 h
 unfold ZaH.f prp
 split
 ·rw[Z9 (by omega) (by omega)]
 ·rfl
theorem ZdT {x:Int} (h:ZbH x=true):ZaP.f x=some (prp x):=by
 have:=(Zb4 x).1 h
 unfold ZaP.f prp mx
 rw[Z9 (by omega) (by omega)]
 congr 1
 split <;> split <;> omega
theorem Zdo (l:List Int) (hl:l.length≤9223372036854775807) (k:Nat) (hk:2 ^ 64≤k):Zae.f k l=some (labB l):=by
 have key:=Zb7 l.length (fun k i=>(0<i→ZbH (l.getD (i - 1) 0)=true)→Zae.l0 k l l l.length (i:Int)=some (Zb8 (if i=0 then 0 else prp (l.getD (i - 1) 0)) (l.drop i))) 0
  (fun k _ _=>by simp[Zae.l0,Zb8])
  (fun k i _ hi ih hb=>by
   simp only[Zae.l0]
   rw[if_pos (by omega),if_pos (by omega),if_pos (by omega),ZaW,ZO hi (by omega),Zal hi 0]
   unfold Zb8
   have ih':=fun h=>ih (fun _=>h)
   simp only[Nat.add_sub_cancel,Nat.add_eq_zero_iff,Nat.one_ne_zero,and_false,if_false] at ih'
   by_cases h0:l.getD i 0=0
   ·rw[if_pos h0,h0];simp[ZbH]
   rw[if_neg h0]
   unfold ZX.f
   by_cases h1:l.getD i 0≥-3
   ·rw[if_pos h1,Zi]
    by_cases h2:l.getD i 0≤3
    ·have hok:ZbH (l.getD i 0)=true:=(Zb4 _).2 ⟨h0,h1,h2⟩
     have hp:=Ze3 hok
     rw[if_pos (by simpa using h2)]
     by_cases hi0:i=0
     ·subst hi0
      rw[if_neg (by omega),ih' hok,hok]
      simp only[Bool.true_and,if_true]
      rw[Ze (show(0:Int)<prp (l.getD 0 0) by omega)]
      rfl
     ·rw[if_pos (by omega),wrap_pred (by omega) (by omega),if_pos (by omega),if_pos (by omega),ZaW,ZeR (hb (by omega)),Zi,ZeR hok,Zi,if_neg hi0,hok]
      by_cases hlt:prp (l.getD (i - 1) 0)<prp (l.getD i 0)
      ·rw[if_neg (by omega),ih' hok,Ze hlt];rfl
      ·rw[if_pos (by omega),Zf hlt];rfl
    ·rw[if_neg (by simpa using h2)]
     rw[show ZbH (l.getD i 0)=false from Bool.eq_false_iff.2 fun h=>by have:=(Zb4 _).1 h;omega];rfl
   ·rw[if_neg h1,Zi,if_neg (by decide)]
    rw[show ZbH (l.getD i 0)=false from Bool.eq_false_iff.2 fun h=>by have:=(Zb4 _).1 h;omega];rfl) 0 k (Nat.zero_le _) (by omega)
 unfold Zae.f labB
 have:=key (fun h=>absurd h (by omega))
 simpa using this
theorem Zc7 (l:List Int) (hl:l.length≤9223372036854775807) (k:Nat) (hk:2 ^ 64≤k):Z8.f k l=some (labB l):=by
 have key:=Zb7 l.length (fun k i=>(0<i→ZbH (l.getD (i - 1) 0)=true)→Z8.l0 k l l l.length (i:Int)=some (Zb8 (if i=0 then 0 else prp (l.getD (i - 1) 0)) (l.drop i))) 0
  (fun k _ _=>by simp[Z8.l0,Zb8])
  (fun k i _ hi ih hb=>by
   simp only[Z8.l0]
   rw[if_pos (by omega),if_pos (by omega),if_pos (by omega),ZaW,ZO hi (by omega),Zal hi 0]
   unfold Zb8
   have ih':=fun h=>ih (fun _=>h)
   simp only[Nat.add_sub_cancel,Nat.add_eq_zero_iff,Nat.one_ne_zero,and_false,if_false] at ih'
   by_cases h0:l.getD i 0=0
   ·rw[if_pos h0,h0];simp[ZbH]
   rw[if_neg h0]
   by_cases h1:l.getD i 0≥-3
   ·rw[if_neg (by omega)]
    by_cases h2:l.getD i 0≤3
    ·have hok:ZbH (l.getD i 0)=true:=(Zb4 _).2 ⟨h0,h1,h2⟩
     have hp:=Ze3 hok
     rw[if_neg (by omega)]
     by_cases hi0:i=0
     ·subst hi0
      rw[if_neg (by omega),ih' hok,hok]
      simp only[Bool.true_and,if_true]
      rw[Ze (show(0:Int)<prp (l.getD 0 0) by omega)]
      rfl
     ·rw[if_pos (by omega),wrap_pred (by omega) (by omega),if_pos (by omega),if_pos (by omega),ZaW,ZdT (hb (by omega)),Zi,ZdT hok,Zi,if_neg hi0,hok]
      by_cases hlt:prp (l.getD (i - 1) 0)<prp (l.getD i 0)
      ·rw[if_neg (by omega),ih' hok,Ze hlt];rfl
      ·rw[if_pos (by omega),Zf hlt];rfl
    ·rw[if_pos (by omega)]
     rw[show ZbH (l.getD i 0)=false from Bool.eq_false_iff.2 fun h=>by have:=(Zb4 _).1 h;omega];rfl
   ·rw[if_pos (by omega)]
    rw[show ZbH (l.getD i 0)=false from Bool.eq_false_iff.2 fun h=>by have:=(Zb4 _).1 h;omega];rfl) 0 k (Nat.zero_le _) (by omega)
 unfold Z8.f labB
 have:=key (fun h=>absurd h (by omega))
 simpa using this
def Zda.f (k:Nat) (a0_0:ByteArray) (l0_1:List Int) (a0_2:Int):Option (Bool):=(ZaM.f k a0_0).bind fun t2=>(if t2=true then((Zae.f k l0_1).bind fun t3=>(if t3=true then((ZX.f a0_2 0 3).bind fun t4=>(some t4)) else(some false))) else(some false))
theorem Zda.calls (k:Nat) (a0_0:ByteArray) (A0_1:Option Addr) (c0_1:Nat) (l0_1:List Int) (a0_2:Int) (r:Bool) (w:World) (hr0_1:Kd.C (Kd.int .i64) w A0_1 l0_1.length l0_1) (hc0_1:l0_1.length≤c0_1) (h:Zda.f k a0_0 l0_1 a0_2=some r) :
  Calls Tryz.prog 176 #[.agg #[.string a0_0,.slice A0_1 l0_1.length c0_1,.int .i64 a0_2]] w fun e w'=>e=.returned (.bool r)∧Below w.heap.size w w':=by
 have hu39:=Tryz.underlying39
 have HR0_1:=Za hr0_1;have HC0_1:=Za hc0_1;clear hr0_1 hc0_1
 have HB:=Za (Below.refl w.heap.size w)
 have H:((ZaM.f k a0_0).bind fun t2=>(if t2=true then((Zae.f k l0_1).bind fun t3=>(if t3=true then((ZX.f a0_2 0 3).bind fun t4=>(some t4)) else(some false))) else(some false)))=some r:=h
 clear h
 replace H:=Zh H
 obtain⟨t2,A20,H⟩:=H;have A2:=Za A20;clear A20
 by_cases c3:t2=true
 ·subst c3
  rw[if_pos rfl] at H
  replace H:=Zh H
  obtain⟨t3,A40,H⟩:=H;have A4:=Za A40;clear A40
  by_cases c5:t3=true
  ·subst c5
   rw[if_pos rfl] at H
   replace H:=Zh H
   obtain⟨t4,A60,H⟩:=H;have A6:=Za A60;clear A60
   obtain rfl:=Zg H
   go_enter Tryz.func176,Tryz.ntmps176
   go_wp2_with (first|((with_reducible refine ZF (N:=1) rfl ?_);refine ZG ?hg (N:=1) ?hd (cs:=#[.string a0_0,.slice A0_1 l0_1.length c0_1,.int .i64 a0_2]) (t:=39) ?hr ?_;(case hd=>rfl);(case hg=>rfl);(case hr=>first|(go_simp;done)|(go_simp;rfl));intro gb1 hg w7 hbox hb;have BK1:=Za (hbox);have GW1:=Za ((by rw[hg];exact(Zv (by repeat(first|(with_reducible first|exact HB.out|apply Zo|apply Zn|apply Zp)|exact HB.out))):w.heap.size≤gb1));have GE1:=Za ((by rw[hg];exact(Zv (by repeat(first|(with_reducible first|exact HB.out|apply Zo|apply Zn|apply Zp)|exact HB.out))):w.heap.size≤gb1));replace HB:=Za (Zr (by repeat(first|(with_reducible first|exact HB.out|apply Zo|apply Zn|apply Zp)|exact HB.out)) hb);clear hb hbox hg;have hcz8_0:w7.cell? ⟨gb1,0,none⟩=some (.string a0_0):=(Zm BK1.out 0).trans rfl;have hcz8_1:w7.cell? ⟨gb1,1,none⟩=some (.slice A0_1 l0_1.length c0_1):=(Zm BK1.out 1).trans rfl;have hcz8_2:w7.cell? ⟨gb1,2,none⟩=some (.int .i64 a0_2):=(Zm BK1.out 2).trans rfl)|((with_reducible refine ZM (f:=206) rfl ?_);refine Z7 (some 5) rfl rfl Tryz.func206 (by kernel_rfl) rfl #[.string a0_0] rfl (by(try simp only[List.map_toArray,List.map_cons,List.map_nil]);first|done|rfl|(simp only[Zk,Zj];rfl)) ?_;(with_reducible refine(ZaM.calls k a0_0 true _ A2.out).mono ?_);rintro e w' ⟨rfl,⟨nd,rfl⟩⟩;refine⟨_,rfl,?_⟩)|(go_at_call 175;(with_reducible refine(Zae.calls k _ _ l0_1 true _ ?side1 ?side2 A4.out).mono ?_);(case side1=>repeat(first|exact(Zb HR0_1.out (by repeat(first|(with_reducible first|exact HB.out|apply Zo|apply Zn|apply Zp|refine Zt ?_ GE1.out)|exact HB.out)))|(with_reducible refine Kd.C_alloc ?_ _)|(with_reducible refine Kd.C_drewN ?_ _)|(with_reducible refine Kd.C_drew ?_)));(case side2=>exact HC0_1.out);rintro e w' ⟨rfl,⟨nd,rfl⟩⟩)|(go_at_call 127;(with_reducible refine(ZX.calls a0_2 0 3 t4 _ A6.out).mono ?_);rintro e w' ⟨rfl,⟨nd,rfl⟩⟩))
   go_ret
   exact⟨by first|rfl|(simp[ZC,ZB] <;> rfl)|(simp[*,ZC,ZB] <;> rfl),by repeat(first|(with_reducible first|exact HB.out|apply Zo|apply Zn|apply Zp|refine Zt ?_ GE1.out)|exact HB.out)⟩
  ·replace c5:=Bool.eq_false_iff.mpr c5
   subst c5
   have H1:(some false)=some r:=by rw[if_neg (show ¬(false=true) by decide)] at H;exact H
   clear H
   have H:=H1
   clear H1
   obtain rfl:=Zg H
   go_enter Tryz.func176,Tryz.ntmps176
   go_wp2_with (first|((with_reducible refine ZF (N:=1) rfl ?_);refine ZG ?hg (N:=1) ?hd (cs:=#[.string a0_0,.slice A0_1 l0_1.length c0_1,.int .i64 a0_2]) (t:=39) ?hr ?_;(case hd=>rfl);(case hg=>rfl);(case hr=>first|(go_simp;done)|(go_simp;rfl));intro gb1 hg w9 hbox hb;have BK1:=Za (hbox);have GW1:=Za ((by rw[hg];exact(Zv (by repeat(first|(with_reducible first|exact HB.out|apply Zo|apply Zn|apply Zp)|exact HB.out))):w.heap.size≤gb1));have GE1:=Za ((by rw[hg];exact(Zv (by repeat(first|(with_reducible first|exact HB.out|apply Zo|apply Zn|apply Zp)|exact HB.out))):w.heap.size≤gb1));replace HB:=Za (Zr (by repeat(first|(with_reducible first|exact HB.out|apply Zo|apply Zn|apply Zp)|exact HB.out)) hb);clear hb hbox hg;have hcz10_0:w9.cell? ⟨gb1,0,none⟩=some (.string a0_0):=(Zm BK1.out 0).trans rfl;have hcz10_1:w9.cell? ⟨gb1,1,none⟩=some (.slice A0_1 l0_1.length c0_1):=(Zm BK1.out 1).trans rfl;have hcz10_2:w9.cell? ⟨gb1,2,none⟩=some (.int .i64 a0_2):=(Zm BK1.out 2).trans rfl)|((with_reducible refine ZM (f:=206) rfl ?_);refine Z7 (some 5) rfl rfl Tryz.func206 (by kernel_rfl) rfl #[.string a0_0] rfl (by(try simp only[List.map_toArray,List.map_cons,List.map_nil]);first|done|rfl|(simp only[Zk,Zj];rfl)) ?_;(with_reducible refine(ZaM.calls k a0_0 true _ A2.out).mono ?_);rintro e w' ⟨rfl,⟨nd,rfl⟩⟩;refine⟨_,rfl,?_⟩)|(go_at_call 175;(with_reducible refine(Zae.calls k _ _ l0_1 false _ ?side1 ?side2 A4.out).mono ?_);(case side1=>repeat(first|exact(Zb HR0_1.out (by repeat(first|(with_reducible first|exact HB.out|apply Zo|apply Zn|apply Zp|refine Zt ?_ GE1.out)|exact HB.out)))|(with_reducible refine Kd.C_alloc ?_ _)|(with_reducible refine Kd.C_drewN ?_ _)|(with_reducible refine Kd.C_drew ?_)));(case side2=>exact HC0_1.out);rintro e w' ⟨rfl,⟨nd,rfl⟩⟩))
   go_ret
   exact⟨by first|rfl|(simp[ZC,ZB] <;> rfl)|(simp[*,ZC,ZB] <;> rfl),by repeat(first|(with_reducible first|exact HB.out|apply Zo|apply Zn|apply Zp|refine Zt ?_ GE1.out)|exact HB.out)⟩
 ·replace c3:=Bool.eq_false_iff.mpr c3
  subst c3
  have H1:(some false)=some r:=by rw[if_neg (show ¬(false=true) by decide)] at H;exact H
  clear H
  have H:=H1
  clear H1
  obtain rfl:=Zg H
  go_enter Tryz.func176,Tryz.ntmps176
  go_wp2_with (first|((with_reducible refine ZF (N:=1) rfl ?_);refine ZG ?hg (N:=1) ?hd (cs:=#[.string a0_0,.slice A0_1 l0_1.length c0_1,.int .i64 a0_2]) (t:=39) ?hr ?_;(case hd=>rfl);(case hg=>rfl);(case hr=>first|(go_simp;done)|(go_simp;rfl));intro gb1 hg w11 hbox hb;have BK1:=Za (hbox);have GW1:=Za ((by rw[hg];exact(Zv (by repeat(first|(with_reducible first|exact HB.out|apply Zo|apply Zn|apply Zp)|exact HB.out))):w.heap.size≤gb1));have GE1:=Za ((by rw[hg];exact(Zv (by repeat(first|(with_reducible first|exact HB.out|apply Zo|apply Zn|apply Zp)|exact HB.out))):w.heap.size≤gb1));replace HB:=Za (Zr (by repeat(first|(with_reducible first|exact HB.out|apply Zo|apply Zn|apply Zp)|exact HB.out)) hb);clear hb hbox hg;have hcz12_0:w11.cell? ⟨gb1,0,none⟩=some (.string a0_0):=(Zm BK1.out 0).trans rfl;have hcz12_1:w11.cell? ⟨gb1,1,none⟩=some (.slice A0_1 l0_1.length c0_1):=(Zm BK1.out 1).trans rfl;have hcz12_2:w11.cell? ⟨gb1,2,none⟩=some (.int .i64 a0_2):=(Zm BK1.out 2).trans rfl)|((with_reducible refine ZM (f:=206) rfl ?_);refine Z7 (some 5) rfl rfl Tryz.func206 (by kernel_rfl) rfl #[.string a0_0] rfl (by(try simp only[List.map_toArray,List.map_cons,List.map_nil]);first|done|rfl|(simp only[Zk,Zj];rfl)) ?_;(with_reducible refine(ZaM.calls k a0_0 false _ A2.out).mono ?_);rintro e w' ⟨rfl,⟨nd,rfl⟩⟩;refine⟨_,rfl,?_⟩))
  go_ret
  exact⟨by first|rfl|(simp[ZC,ZB] <;> rfl)|(simp[*,ZC,ZB] <;> rfl),by repeat(first|(with_reducible first|exact HB.out|apply Zo|apply Zn|apply Zp|refine Zt ?_ GE1.out)|exact HB.out)⟩
def Zdb.f (k:Nat) (a0_0:ByteArray) (l0_1:List Int) (a0_2:Int):Option (Bool):=(ZaA.f k a0_0).bind fun t2=>(if t2=true then((Z8.f k l0_1).bind fun t3=>(if t3=true then(if a0_2≥0 then(some (decide (a0_2≤3))) else(some false)) else(some false))) else(some false))
theorem Zdb.calls (k:Nat) (a0_0:ByteArray) (A0_1:Option Addr) (c0_1:Nat) (l0_1:List Int) (a0_2:Int) (r:Bool) (w:World) (hr0_1:Kd.C (Kd.int .i64) w A0_1 l0_1.length l0_1) (hc0_1:l0_1.length≤c0_1) (h:Zdb.f k a0_0 l0_1 a0_2=some r) :
  Calls Tryz.prog 23 #[.agg #[.string a0_0,.slice A0_1 l0_1.length c0_1,.int .i64 a0_2]] w fun e w'=>e=.returned (.bool r)∧Below w.heap.size w w':=by
 have hu39:=Tryz.underlying39
 have HR0_1:=Za hr0_1;have HC0_1:=Za hc0_1;clear hr0_1 hc0_1
 have HB:=Za (Below.refl w.heap.size w)
 have H:((ZaA.f k a0_0).bind fun t2=>(if t2=true then((Z8.f k l0_1).bind fun t3=>(if t3=true then(if a0_2≥0 then(some (decide (a0_2≤3))) else(some false)) else(some false))) else(some false)))=some r:=h
 clear h
 replace H:=Zh H
 obtain⟨t2,A20,H⟩:=H;have A2:=Za A20;clear A20
 by_cases c3:t2=true
 ·subst c3
  rw[if_pos rfl] at H
  replace H:=Zh H
  obtain⟨t3,A40,H⟩:=H;have A4:=Za A40;clear A40
  by_cases c5:t3=true
  ·subst c5
   rw[if_pos rfl] at H
   by_cases c6:a0_2≥0
   ·rw[if_pos c6] at H
    have c6b0:decide (0≤a0_2)=true:=Ze c6
    clear c6
    obtain rfl:=Zg H
    go_enter Tryz.func23,Tryz.ntmps23
    go_wp2_with (first|((with_reducible refine ZF (N:=1) rfl ?_);refine ZG ?hg (N:=1) ?hd (cs:=#[.string a0_0,.slice A0_1 l0_1.length c0_1,.int .i64 a0_2]) (t:=39) ?hr ?_;(case hd=>rfl);(case hg=>rfl);(case hr=>first|(go_simp;done)|(go_simp;rfl));intro gb1 hg w7 hbox hb;have BK1:=Za (hbox);have GW1:=Za ((by rw[hg];exact(Zv (by exact HB.out)):w.heap.size≤gb1));have GE1:=Za ((by rw[hg];exact(Zv (by exact HB.out)):w.heap.size≤gb1));replace HB:=Za (Zr (by exact HB.out) hb);clear hb hbox hg;have hcz8_0:w7.cell? ⟨gb1,0,none⟩=some (.string a0_0):=(Zm BK1.out 0).trans rfl;have hcz8_1:w7.cell? ⟨gb1,1,none⟩=some (.slice A0_1 l0_1.length c0_1):=(Zm BK1.out 1).trans rfl;have hcz8_2:w7.cell? ⟨gb1,2,none⟩=some (.int .i64 a0_2):=(Zm BK1.out 2).trans rfl)|((with_reducible refine ZM (f:=86) rfl ?_);refine Z7 (some 5) rfl rfl Tryz.func86 (by kernel_rfl) rfl #[.string a0_0] rfl (by(try simp only[List.map_toArray,List.map_cons,List.map_nil]);first|done|rfl|(simp only[Zk,Zj];rfl)) ?_;(with_reducible refine(ZaA.calls k a0_0 true _ A2.out).mono ?_);rintro e w' ⟨rfl,⟨nd,rfl⟩⟩;refine⟨_,rfl,?_⟩)|(go_at_call 87;(with_reducible refine(Z8.calls k _ _ l0_1 true _ ?side1 ?side2 A4.out).mono ?_);(case side1=>exact(Zb HR0_1.out (by repeat(first|(with_reducible first|exact HB.out|apply Zo|apply Zn|apply Zp|refine Zt ?_ GE1.out)|exact HB.out))));(case side2=>exact HC0_1.out);rintro e w9 ⟨rfl,hb⟩;replace BK1:=Za (Zs (g:=gb1) (o:=.cells #[.string a0_0,.slice A0_1 l0_1.length c0_1,.int .i64 a0_2] 39 (0,0)) (by exact BK1.out) hb);replace HB:=Za (Zr (by repeat(first|(with_reducible first|exact HB.out|apply Zo|apply Zn|apply Zp|refine Zt ?_ GE1.out)|exact HB.out)) hb);have hcz10_0:w9.cell? ⟨gb1,0,none⟩=some (.string a0_0):=(Zm BK1.out 0).trans rfl;have hcz10_1:w9.cell? ⟨gb1,1,none⟩=some (.slice A0_1 l0_1.length c0_1):=(Zm BK1.out 1).trans rfl;have hcz10_2:w9.cell? ⟨gb1,2,none⟩=some (.int .i64 a0_2):=(Zm BK1.out 2).trans rfl))
    go_ret
    exact⟨by first|rfl|(simp[ZC,ZB] <;> rfl)|(simp[*,ZC,ZB] <;> rfl),by repeat(first|(with_reducible first|exact HB.out|apply Zo|apply Zn|apply Zp|refine Zt ?_ GE1.out)|exact HB.out)⟩
   ·rw[if_neg c6] at H
    have c6b0:decide (0≤a0_2)=false:=Zf c6
    clear c6
    obtain rfl:=Zg H
    go_enter Tryz.func23,Tryz.ntmps23
    go_wp2_with (first|((with_reducible refine ZF (N:=1) rfl ?_);refine ZG ?hg (N:=1) ?hd (cs:=#[.string a0_0,.slice A0_1 l0_1.length c0_1,.int .i64 a0_2]) (t:=39) ?hr ?_;(case hd=>rfl);(case hg=>rfl);(case hr=>first|(go_simp;done)|(go_simp;rfl));intro gb1 hg w11 hbox hb;have BK1:=Za (hbox);have GW1:=Za ((by rw[hg];exact(Zv (by exact HB.out)):w.heap.size≤gb1));have GE1:=Za ((by rw[hg];exact(Zv (by exact HB.out)):w.heap.size≤gb1));replace HB:=Za (Zr (by exact HB.out) hb);clear hb hbox hg;have hcz12_0:w11.cell? ⟨gb1,0,none⟩=some (.string a0_0):=(Zm BK1.out 0).trans rfl;have hcz12_1:w11.cell? ⟨gb1,1,none⟩=some (.slice A0_1 l0_1.length c0_1):=(Zm BK1.out 1).trans rfl;have hcz12_2:w11.cell? ⟨gb1,2,none⟩=some (.int .i64 a0_2):=(Zm BK1.out 2).trans rfl)|((with_reducible refine ZM (f:=86) rfl ?_);refine Z7 (some 5) rfl rfl Tryz.func86 (by kernel_rfl) rfl #[.string a0_0] rfl (by(try simp only[List.map_toArray,List.map_cons,List.map_nil]);first|done|rfl|(simp only[Zk,Zj];rfl)) ?_;(with_reducible refine(ZaA.calls k a0_0 true _ A2.out).mono ?_);rintro e w' ⟨rfl,⟨nd,rfl⟩⟩;refine⟨_,rfl,?_⟩)|(go_at_call 87;(with_reducible refine(Z8.calls k _ _ l0_1 true _ ?side1 ?side2 A4.out).mono ?_);(case side1=>exact(Zb HR0_1.out (by repeat(first|(with_reducible first|exact HB.out|apply Zo|apply Zn|apply Zp|refine Zt ?_ GE1.out)|exact HB.out))));(case side2=>exact HC0_1.out);rintro e w13 ⟨rfl,hb⟩;replace BK1:=Za (Zs (g:=gb1) (o:=.cells #[.string a0_0,.slice A0_1 l0_1.length c0_1,.int .i64 a0_2] 39 (0,0)) (by exact BK1.out) hb);replace HB:=Za (Zr (by repeat(first|(with_reducible first|exact HB.out|apply Zo|apply Zn|apply Zp|refine Zt ?_ GE1.out)|exact HB.out)) hb);have hcz14_0:w13.cell? ⟨gb1,0,none⟩=some (.string a0_0):=(Zm BK1.out 0).trans rfl;have hcz14_1:w13.cell? ⟨gb1,1,none⟩=some (.slice A0_1 l0_1.length c0_1):=(Zm BK1.out 1).trans rfl;have hcz14_2:w13.cell? ⟨gb1,2,none⟩=some (.int .i64 a0_2):=(Zm BK1.out 2).trans rfl))
    go_ret
    exact⟨by first|rfl|(simp[ZC,ZB] <;> rfl)|(simp[*,ZC,ZB] <;> rfl),by repeat(first|(with_reducible first|exact HB.out|apply Zo|apply Zn|apply Zp|refine Zt ?_ GE1.out)|exact HB.out)⟩
  ·replace c5:=Bool.eq_false_iff.mpr c5
   subst c5
   have H1:(some false)=some r:=by rw[if_neg (show ¬(false=true) by decide)] at H;exact H
   clear H
   have H:=H1
   clear H1
   obtain rfl:=Zg H
   go_enter Tryz.func23,Tryz.ntmps23
   go_wp2_with (first|((with_reducible refine ZF (N:=1) rfl ?_);refine ZG ?hg (N:=1) ?hd (cs:=#[.string a0_0,.slice A0_1 l0_1.length c0_1,.int .i64 a0_2]) (t:=39) ?hr ?_;(case hd=>rfl);(case hg=>rfl);(case hr=>first|(go_simp;done)|(go_simp;rfl));intro gb1 hg w15 hbox hb;have BK1:=Za (hbox);have GW1:=Za ((by rw[hg];exact(Zv (by exact HB.out)):w.heap.size≤gb1));have GE1:=Za ((by rw[hg];exact(Zv (by exact HB.out)):w.heap.size≤gb1));replace HB:=Za (Zr (by exact HB.out) hb);clear hb hbox hg;have hcz16_0:w15.cell? ⟨gb1,0,none⟩=some (.string a0_0):=(Zm BK1.out 0).trans rfl;have hcz16_1:w15.cell? ⟨gb1,1,none⟩=some (.slice A0_1 l0_1.length c0_1):=(Zm BK1.out 1).trans rfl;have hcz16_2:w15.cell? ⟨gb1,2,none⟩=some (.int .i64 a0_2):=(Zm BK1.out 2).trans rfl)|((with_reducible refine ZM (f:=86) rfl ?_);refine Z7 (some 5) rfl rfl Tryz.func86 (by kernel_rfl) rfl #[.string a0_0] rfl (by(try simp only[List.map_toArray,List.map_cons,List.map_nil]);first|done|rfl|(simp only[Zk,Zj];rfl)) ?_;(with_reducible refine(ZaA.calls k a0_0 true _ A2.out).mono ?_);rintro e w' ⟨rfl,⟨nd,rfl⟩⟩;refine⟨_,rfl,?_⟩)|(go_at_call 87;(with_reducible refine(Z8.calls k _ _ l0_1 false _ ?side1 ?side2 A4.out).mono ?_);(case side1=>exact(Zb HR0_1.out (by repeat(first|(with_reducible first|exact HB.out|apply Zo|apply Zn|apply Zp|refine Zt ?_ GE1.out)|exact HB.out))));(case side2=>exact HC0_1.out);rintro e w17 ⟨rfl,hb⟩;replace BK1:=Za (Zs (g:=gb1) (o:=.cells #[.string a0_0,.slice A0_1 l0_1.length c0_1,.int .i64 a0_2] 39 (0,0)) (by exact BK1.out) hb);replace HB:=Za (Zr (by repeat(first|(with_reducible first|exact HB.out|apply Zo|apply Zn|apply Zp|refine Zt ?_ GE1.out)|exact HB.out)) hb);(try clear hi)))
   go_ret
   exact⟨by first|rfl|(simp[ZC,ZB] <;> rfl)|(simp[*,ZC,ZB] <;> rfl),by repeat(first|(with_reducible first|exact HB.out|apply Zo|apply Zn|apply Zp|refine Zt ?_ GE1.out)|exact HB.out)⟩
 ·replace c3:=Bool.eq_false_iff.mpr c3
  subst c3
  have H1:(some false)=some r:=by rw[if_neg (show ¬(false=true) by decide)] at H;exact H
  clear H
  have H:=H1
  clear H1
  obtain rfl:=Zg H
  go_enter Tryz.func23,Tryz.ntmps23
  go_wp2_with (first|((with_reducible refine ZF (N:=1) rfl ?_);refine ZG ?hg (N:=1) ?hd (cs:=#[.string a0_0,.slice A0_1 l0_1.length c0_1,.int .i64 a0_2]) (t:=39) ?hr ?_;(case hd=>rfl);(case hg=>rfl);(case hr=>first|(go_simp;done)|(go_simp;rfl));intro gb1 hg w18 hbox hb;have BK1:=Za (hbox);have GW1:=Za ((by rw[hg];exact(Zv (by exact HB.out)):w.heap.size≤gb1));have GE1:=Za ((by rw[hg];exact(Zv (by exact HB.out)):w.heap.size≤gb1));replace HB:=Za (Zr (by exact HB.out) hb);clear hb hbox hg;have hcz19_0:w18.cell? ⟨gb1,0,none⟩=some (.string a0_0):=(Zm BK1.out 0).trans rfl;have hcz19_1:w18.cell? ⟨gb1,1,none⟩=some (.slice A0_1 l0_1.length c0_1):=(Zm BK1.out 1).trans rfl;have hcz19_2:w18.cell? ⟨gb1,2,none⟩=some (.int .i64 a0_2):=(Zm BK1.out 2).trans rfl)|((with_reducible refine ZM (f:=86) rfl ?_);refine Z7 (some 5) rfl rfl Tryz.func86 (by kernel_rfl) rfl #[.string a0_0] rfl (by(try simp only[List.map_toArray,List.map_cons,List.map_nil]);first|done|rfl|(simp only[Zk,Zj];rfl)) ?_;(with_reducible refine(ZaA.calls k a0_0 false _ A2.out).mono ?_);rintro e w' ⟨rfl,⟨nd,rfl⟩⟩;refine⟨_,rfl,?_⟩))
  go_ret
  exact⟨by first|rfl|(simp[ZC,ZB] <;> rfl)|(simp[*,ZC,ZB] <;> rfl),by repeat(first|(with_reducible first|exact HB.out|apply Zo|apply Zn|apply Zp|refine Zt ?_ GE1.out)|exact HB.out)⟩
def nodeB (s:ByteArray) (l:List Int) (n:Int):Bool:=nameB s && labB l && (decide (0≤n) && decide (n≤3))
theorem Zgx (s:ByteArray) (l:List Int) (n:Int) (hs:s.size≤9223372036854775807) (hl:l.length≤9223372036854775807) (k:Nat) (hk:2 ^ 64≤k):Zda.f k s l n=some (nodeB s l n):=by
 unfold Zda.f nodeB ZX.f
 rw[Zgy s hs k hk,Zi,Zdo l hl k hk]
 cases nameB s
 ·rfl
 ·rw[if_pos rfl,Zi]
  cases labB l
  ·rfl
  ·rw[if_pos rfl]
   by_cases h:n≥0
   ·rw[if_pos h,Ze (show(0:Int)≤n from h)];rfl
   ·rw[if_neg h,Zf (show ¬(0:Int)≤n from h)];rfl
theorem ZgC (s:ByteArray) (l:List Int) (n:Int) (hs:s.size≤9223372036854775807) (hl:l.length≤9223372036854775807) (k:Nat) (hk:2 ^ 64≤k):Zdb.f k s l n=some (nodeB s l n):=by
 unfold Zdb.f nodeB
 rw[ZgF s hs k hk,Zi,Zc7 l hl k hk]
 cases nameB s
 ·rfl
 ·rw[if_pos rfl,Zi]
  cases labB l
  ·rfl
  ·rw[if_pos rfl]
   by_cases h:n≥0
   ·rw[if_pos h,Ze (show(0:Int)≤n from h)];rfl
   ·rw[if_neg h,Zf (show ¬(0:Int)≤n from h)];rfl
def Zdh (n m:S39):Bool:=!(decide (m.f0.toList=n.f0.toList)) && (decide (n.f2=0) || !(decide (m.f2=n.f2)))
def Zdz (ns:List S39) (i:Nat):Bool:=nodeB (ns.getD i z39).f0 (ns.getD i z39).f1 (ns.getD i z39).f2 && (ns.take i).all (Zdh (ns.getD i z39))
def Zb3 (ns:List S39) (i:Nat):Nat→Bool
 | 0=>true
 | d+1=>Zdz ns i && Zb3 ns (i+1) d
def Z2 (ns:List S39):Bool:=decide (1≤ns.length) && decide (ns.length≤7) && decide ((ns.getD 0 z39).f1.length=0) && decide ((ns.getD 0 z39).f2=0) && Zb3 ns 0 ns.length
theorem ZfZ {ns:List S39} {i:Nat} (h:i<ns.length):Zb3 ns i (ns.length - i)=(Zdz ns i && Zb3 ns (i+1) (ns.length - (i+1))):=by
 rw[show ns.length - i=(ns.length - (i+1))+1 by omega];rfl
theorem take_step {ns:List S39} {i j:Nat} (hj:j<i) (hi:i≤ns.length) (p:S39→Bool):((ns.take i).drop j).all p=(p (ns.getD j z39) && ((ns.take i).drop (j+1)).all p):=by
 rw[Zal (show j<(ns.take i).length by rw[Zj];omega) z39,List.all_cons]
 congr 2
 rw[List.getD_eq_getElem?_getD,List.getD_eq_getElem?_getD,List.getElem?_take_of_lt hj]
def Zcn.f (l0_0:List (S39)) (l0_1:List (S82)) (a0_2:Int):Option Bool:=if l0_0.all (fun n=>decide (n.f0.size≤9223372036854775807) && decide (n.f1.length≤9223372036854775807))=true then some (Z2 l0_0) else none
theorem Zcn.calls (A0_0:Option Addr) (c0_0:Nat) (l0_0:List (S39)) (A0_1:Option Addr) (c0_1:Nat) (l0_1:List (S82)) (a0_2:Int) (r:Bool) (w:World) (hr0_0:Kd.C k39 w A0_0 l0_0.length l0_0) (hc0_0:l0_0.length≤c0_0) (hr0_1:Kd.C k82 w A0_1 l0_1.length l0_1) (hc0_1:l0_1.length≤c0_1) (h:Zcn.f l0_0 l0_1 a0_2=some r) :
  Calls Tryz.prog 77 #[.agg #[.slice A0_0 l0_0.length c0_0,.slice A0_1 l0_1.length c0_1,.int .i64 a0_2]] w fun e w'=>e=.returned (.bool r)∧Below w.heap.size w w':=by
 unfold Zcn.f at h
 by_cases hall:l0_0.all (fun n=>decide (n.f0.size≤9223372036854775807) && decide (n.f1.length≤9223372036854775807))=true
 case neg=>rw[if_neg hall] at h;exact absurd h (by simp)
 rw[if_pos hall] at h
 obtain rfl:=Zg h
 have HFIT:=Za (show ∀x∈l0_0,x.f0.size≤9223372036854775807∧x.f1.length≤9223372036854775807 from fun x hx=>by
  have:=List.all_eq_true.1 hall x hx
  simpa using this)
 have HR0:=Za hr0_0;have HC0:=Za hc0_0
 have HN0:=Za (show l0_0.length≤9223372036854775807 from hr0_0.2.1)
 have hu:=Tryz.underlying25
 have hu2:=Tryz.underlying39
 clear hr0_0 hc0_0 hr0_1 hc0_1 h hall
 have HB0:=Za (Zo (Below.refl w.heap.size w) (.cells #[.slice A0_0 l0_0.length c0_0,.slice A0_1 l0_1.length c0_1,.int .i64 a0_2] 25))
 cases b1:decide ((l0_0.length:Int)<1) with
 | true=>
  have HE:=Za (show Z2 l0_0=false by
   unfold Z2
   rw[Zf (show ¬1≤l0_0.length by have:=Zd b1;omega)];rfl)
  go_enter Tryz.func77,Tryz.ntmps77
  go_wp2
  go_ret
  exact⟨by rw[HE.out];rfl,HB0.out⟩
 | false=>
 cases b2:decide ((7:Int)<(l0_0.length:Int)) with
 | true=>
  have HE:=Za (show Z2 l0_0=false by
   unfold Z2
   rw[Zf (show ¬l0_0.length≤7 by have:=Zd b2;omega)];simp)
  go_enter Tryz.func77,Tryz.ntmps77
  go_wp2
  go_ret
  exact⟨by rw[HE.out];rfl,HB0.out⟩
 | false=>
 have h0z:(0:Int)<(l0_0.length:Int):=by have:=of_decide_eq_false b1;omega
 obtain⟨ad,A1,c1,e1,hx0,hx1,hx2,l1,g1⟩:=ZaX HR0.out 0 (Int.le_refl 0) h0z
 cases e1
 have hrd:(ZJ l0_0 0)=l0_0.getD 0 z39:=rfl
 simp only[Int.toNat_zero,Nat.zero_mul,Addr.add_zero',hrd] at hx0 hx1 hx2
 have HE0:=Za (show Z2 l0_0=(decide ((l0_0.getD 0 z39).f1.length=0) && decide ((l0_0.getD 0 z39).f2=0) && Zb3 l0_0 0 l0_0.length) by
  unfold Z2
  rw[Ze (show 1≤l0_0.length by omega),Ze (show l0_0.length≤7 by have:=of_decide_eq_false b2;omega)];rfl)
 have h0n:0<l0_0.length:=by omega
 have hlta:=Zc w _ hx2
 revert hx1 hx2 HE0
 generalize (l0_0.getD 0 z39).f1.length=m1
 generalize (l0_0.getD 0 z39).f2=m2
 intro hx1 hx2 HE0
 clear hx0 l1 g1 hrd
 cases m1 with
 | succ m1=>
  have HE:=Za (show Z2 l0_0=false by
   rw[HE0.out,Zf (show ¬m1+1=0 by omega)];rfl)
  clear HE0
  go_enter Tryz.func77,Tryz.ntmps77
  go_wp2
  go_ret
  exact⟨by rw[HE.out];rfl,HB0.out⟩
 | zero=>
 rw[Ze rfl,Bool.true_and] at HE0
 cases b4:(m2 != 0) with
 | true=>
  have HE:=Za (show Z2 l0_0=false by
   rw[HE0.out,Zf (bne_iff_ne.1 b4)];rfl)
  clear HE0
  go_enter Tryz.func77,Tryz.ntmps77
  go_wp2
  go_ret
  exact⟨by rw[HE.out];rfl,HB0.out⟩
 | false=>
 rw[Ze (bne_eq_false_iff_eq.1 b4),Bool.true_and] at HE0
 go_enter Tryz.func77,Tryz.ntmps77
 go_wp2
 clear b1 b2 b4 hx1 hx2 h0n h0z hlta
 go_loopg [37] l0_0.length (fun gg s37 wr=>∃kk:Nat,s37=.int .i64 (kk:Int)∧Aside0 (kk≤l0_0.length)∧Aside0 (l0_0.length - kk≤gg)∧Aside0 (Below w.heap.size w wr)∧Aside0 (wr.cell? ⟨w.heap.size,0,none⟩=some (.slice (some ad) l0_0.length c0_0))∧Aside0 (Z2 l0_0=Zb3 l0_0 kk (l0_0.length - kk)))
 case atStart=>exact⟨0,rfl,⟨Nat.zero_le _⟩,⟨by omega⟩,HB0,⟨by go_simp⟩,HE0⟩
 case round=>
 clear HE0
 obtain⟨kk,rfl,HK,HG,HBr,HX,HE⟩:=hrel
 have k0:=HX.out
 have hk0:=Zc wr _ k0
 by_cases hlt:kk<l0_0.length
 ·have hltz:(kk:Int)<(l0_0.length:Int):=by omega
  have hkc:kk≤c0_0:=by have:=HC0.out;omega
  obtain⟨ad',A1,c1,e1,hx0,hx1,hx2,l1,g1⟩:=ZaX (Zb HR0.out HBr.out) (kk:Int) (by omega) hltz
  cases e1
  have hrd:(ZJ l0_0 (kk:Int))=l0_0.getD kk z39:=by unfold ZJ;rw[Int.toNat_natCast]
  have hfit:=HFIT.out _ (ZaJ hlt z39)
  rw[hrd] at hx0 hx1 hx2 l1 g1
  rw[Int.toNat_natCast] at hx0 hx1 hx2
  have HD:=HE.out
  rw[ZfZ hlt,Zdz] at HD
  clear hrd HE
  generalize l0_0.getD kk z39=nd at hx0 hx1 hx2 l1 g1 HD hfit
  obtain⟨nm,lb,wt⟩:=nd
  dsimp only at hx0 hx1 hx2 l1 g1 HD hfit
  have HNO:=Za fun (W:World) (hb:Below wr.heap.size wr W)=>Zdb.calls (2 ^ 64) nm A1 c1 lb wt (nodeB nm lb wt) W (Zb g1 hb) l1 (ZgC nm lb wt hfit.1 hfit.2 _ (Nat.le_refl _))
  have hlta:=Zc wr _ hx0
  have HB1:=Za (Zo (Below.refl wr.heap.size wr) (.cells #[.string nm,.slice A1 lb.length c1,.int .i64 wt] 39))
  clear g1 l1 hfit
  generalize nodeB nm lb wt=q at HNO HD
  cases q with
  | false=>
   go_wp2_with (go_at_call 23;refine(HNO.out _ HB1.out).mono ?_;rintro e w3 ⟨rfl,hb⟩;have HB3:=Za (HB1.out.trans (hb.mono HB1.out.size));clear hb)
   go_ret
   exact⟨by rw[HD];rfl,HBr.out.trans (HB3.out.mono HBr.out.size)⟩
  | true=>
  rw[Bool.true_and] at HD
  have HDA:=Za HD
  have K1:=Za (show(wr.alloc (.cells #[.string nm,.slice A1 lb.length c1,.int .i64 wt] 39)).cell? ⟨wr.heap.size,0,none⟩=some (.string nm)∧(wr.alloc (.cells #[.string nm,.slice A1 lb.length c1,.int .i64 wt] 39)).cell? ⟨wr.heap.size,2,none⟩=some (.int .i64 wt)∧(wr.alloc (.cells #[.string nm,.slice A1 lb.length c1,.int .i64 wt] 39)).cell? ⟨w.heap.size,0,none⟩=some (.slice (some ad) l0_0.length c0_0) from⟨by go_simp,by go_simp,by go_simp⟩)
  clear HD
  go_wp2_with (go_at_call 23;refine(HNO.out _ HB1.out).mono ?_;rintro e w3 ⟨rfl,hb⟩;have HB3:=Za (HB1.out.trans (hb.mono HB1.out.size));have n0:=Zx hb K1.out.1;have n2:=Zx hb K1.out.2.1;have n3:=Zx hb K1.out.2.2;have hn0:=Zc w3 _ n0;clear hb)
  have KN:=Za (And.intro n0 (And.intro n2 n3))
  have HBw:=Za (HBr.out.trans (HB3.out.mono HBr.out.size))
  clear n0 n2 n3 hx0 hx1 hx2 k0 HNO K1 HB1 HX hn0 hk0 hlta
  obtain⟨wo,hwo⟩:∃wo,wo=wr:=⟨_,rfl⟩
  subst hwo
  have HGo:=HG
  clear HG
  go_loopg [50] kk (fun gg s50 wr=>∃jj:Nat,s50=.int .i64 (jj:Int)∧Aside0 (jj≤kk)∧Aside0 (kk - jj≤gg)∧Aside0 (Below w3.heap.size w3 wr)∧Aside0 (Z2 l0_0=(((l0_0.take kk).drop jj).all (Zdh ⟨nm,lb,wt⟩) && Zb3 l0_0 (kk+1) (l0_0.length - (kk+1)))))
  case atStart=>exact⟨0,rfl,⟨Nat.zero_le _⟩,⟨by omega⟩,⟨Below.refl _ _⟩,HDA⟩
  case round=>
  clear HDA
  obtain⟨jj,rfl,HJ,HG,HBs,HE⟩:=hrel
  have n0:=Zx HBs.out KN.out.1
  have n2:=Zx HBs.out KN.out.2.1
  have n3:=Zx HBs.out KN.out.2.2
  have HBx:=Za (HBw.out.trans (HBs.out.mono HBw.out.size))
  by_cases hjt:jj<kk
  ·have hjz:(jj:Int)<(kk:Int):=by omega
   have hjl:(jj:Int)<(l0_0.length:Int):=by omega
   obtain⟨ad',A2,c2,e1,hx0,hx1,hx2,l2,g2⟩:=ZaX (Zb HR0.out HBx.out) (jj:Int) (by omega) hjl
   cases e1
   have hrd:(ZJ l0_0 (jj:Int))=l0_0.getD jj z39:=by unfold ZJ;rw[Int.toNat_natCast]
   rw[hrd] at hx0 hx1 hx2
   rw[Int.toNat_natCast] at hx0 hx1 hx2
   have HD:=HE.out
   rw[take_step hjt (by omega)] at HD
   clear hrd HE l2 g2
   generalize l0_0.getD jj z39=ne at hx0 hx1 hx2 HD
   obtain⟨nm2,lb2,wt2⟩:=ne
   dsimp only at hx0 hx1 hx2
   have hlta:=Zc wr _ hx0
   have hltb:=Zc wr _ n0
   have HDB:=Za HD;clear HD
   have HBy:=Za (Zo (Below.refl wr.heap.size wr) (.cells #[.string nm2,.slice A2 lb2.length c2,.int .i64 wt2] 39))
   have bad:Zdh ⟨nm,lb,wt⟩ ⟨nm2,lb2,wt2⟩=false→Aside0 (Z2 l0_0=false):=fun hh=>⟨by rw[HDB.out,hh];rfl⟩
   have good:Zdh ⟨nm,lb,wt⟩ ⟨nm2,lb2,wt2⟩=true→Aside0 (Z2 l0_0=(((l0_0.take kk).drop (jj+1)).all (Zdh ⟨nm,lb,wt⟩) && Zb3 l0_0 (kk+1) (l0_0.length - (kk+1)))):=fun hh=>⟨by rw[HDB.out,hh,Bool.true_and]⟩
   clear HDB
   cases b1:(nm2.toList == nm.toList) with
   | true=>
    have HF:=bad (by simp only[Zdh,Ze (beq_iff_eq.1 b1)];rfl)
    clear bad good
    go_wp2
    go_ret
    exact⟨by rw[HF.out];rfl,HBx.out.trans (HBy.out.mono HBx.out.size)⟩
   | false=>
   have d1:=Zf (beq_eq_false_iff_ne.1 b1)
   cases b2:(wt != 0) with
   | false=>
    have HF:=good (by simp only[Zdh,d1,Ze (bne_eq_false_iff_eq.1 b2)];rfl)
    clear bad good d1
    go_wp2
    go_roundg (kk - (jj+1))
    case measure=>have:=HG.out;omega
    case rel=>exact⟨jj+1,by rw[ZO hjt (by have:=HN0.out;omega)],⟨by omega⟩,⟨by omega⟩,⟨HBs.out.trans (HBy.out.mono HBs.out.size)⟩,HF⟩
   | true=>
   cases b3:(wt2 == wt) with
   | true=>
    have HF:=bad (by simp only[Zdh,d1,Zf (bne_iff_ne.1 b2),Ze (beq_iff_eq.1 b3)];rfl)
    clear bad good d1
    go_wp2
    go_ret
    exact⟨by rw[HF.out];rfl,HBx.out.trans (HBy.out.mono HBx.out.size)⟩
   | false=>
    have HF:=good (by simp only[Zdh,d1,Zf (bne_iff_ne.1 b2),Zf (beq_eq_false_iff_ne.1 b3)];rfl)
    clear bad good d1
    go_wp2
    go_roundg (kk - (jj+1))
    case measure=>have:=HG.out;omega
    case rel=>exact⟨jj+1,by rw[ZO hjt (by have:=HN0.out;omega)],⟨by omega⟩,⟨by omega⟩,⟨HBs.out.trans (HBy.out.mono HBs.out.size)⟩,HF⟩
  ·obtain rfl:jj=kk:=by have:=HJ.out;omega
   have HF:=Za (show Z2 l0_0=Zb3 l0_0 (jj+1) (l0_0.length - (jj+1)) by
    rw[HE.out,List.drop_of_length_le (by rw[Zj];omega)];rfl)
   clear HE hjt
   go_wp2
   go_roundg (l0_0.length - (jj+1))
   case measure=>have:=HGo.out;omega
   case rel=>exact⟨jj+1,by rw[ZO hlt HN0.out],⟨by omega⟩,⟨by omega⟩,HBx,⟨n3⟩,HF⟩
 ·obtain rfl:kk=l0_0.length:=by have:=HK.out;omega
  have HF:=Za (show Z2 l0_0=true by rw[HE.out,Nat.sub_self];rfl)
  clear HE hlt
  go_wp2
  go_ret
  exact⟨by rw[HF.out];rfl,HBr.out⟩
theorem areNodes_f (ns:List ZK) (ts:List PTie) (z:Int) (hb:∀n∈ns,n.f0.size≤9223372036854775807∧n.f1.length≤9223372036854775807):Zcn.f ns ts z=some (Z2 ns):=by
 unfold Zcn.f
 rw[if_pos (List.all_eq_true.2 fun x hx=>by have:=hb x hx;simpa using this)]
theorem Zec:∀(l:List Int) (p:Int),Zb8 p l=true→∀x∈l,ZbH x=true
 | [],_,_,x,hx=>by simp at hx
 | y :: l,p,h,x,hx=>by
  unfold Zb8 at h
  simp only[Bool.and_eq_true] at h
  rcases List.mem_cons.1 hx with rfl|hx
  ·exact h.1.1
  ·exact Zec l _ h.2 x hx
theorem ZeO {ns:List ZK}:∀(d i:Nat),Zb3 ns i d=true→∀j,i≤j→j<i+d→Zdz ns j=true
 | 0,i,_,j,h1,h2=>by omega
 | d+1,i,h,j,h1,h2=>by
  rw[Zb3,Bool.and_eq_true] at h
  by_cases e:j=i
  ·rw[e];exact h.1
  ·exact ZeO d (i+1) h.2 j (by omega) (by omega)
theorem Zd3 {ns:List ZK} (h:Z2 ns=true):∀j,j<ns.length→Zdz ns j=true:=by
 unfold Z2 at h
 rw[Bool.and_eq_true] at h
 exact fun j hj=>ZeO _ _ h.2 j (Nat.zero_le _) (by omega)
theorem ZgJ {ns:List ZK} (h:Z2 ns=true):∀n∈ns,∀x∈n.f1,ZbH x=true:=by
 intro n hn x hx
 obtain⟨j,hj,rfl⟩:=List.mem_iff_getElem.1 hn
 have:=Zd3 h j hj
 unfold Zdz nodeB labB at this
 rw[show ns.getD j z39=ns[j] by rw[List.getD_eq_getElem?_getD,Zl hj];rfl] at this
 simp only[Bool.and_eq_true] at this
 exact Zec _ _ this.1.1.2 x hx
def ZaG.l0:Nat→Int→List (S82)→Int→Int→Option (Int)
 | 0,_,_,_,_=>none
 | k+1,x1,x8,x9,x10=>if x10<x9 then(if 0≤x10 then(if x10<(x8.length:Int) then(if (ZE x8 x10).f4=true then(if ((ZE x8 x10).f1)=x1 then(some x10) else(ZaG.l0 k x1 x8 x9 (wrap64 (x10+1)))) else(ZaG.l0 k x1 x8 x9 (wrap64 (x10+1)))) else(none)) else(none)) else(some (-1))
def ZaG.f (k:Nat) (l0_0:List (S39)) (l0_1:List (S82)) (a0_2:Int) (a1:Int):Option (Int):=ZaG.l0 k a1 l0_1 (l0_1.length:Int) 0
theorem ZaG.calls (k:Nat) (A0_0:Option Addr) (c0_0:Nat) (l0_0:List (S39)) (A0_1:Option Addr) (c0_1:Nat) (l0_1:List (S82)) (a0_2:Int) (a1:Int) (r:Int) (w:World) (hr0_0:Kd.C k39 w A0_0 l0_0.length l0_0) (hc0_0:l0_0.length≤c0_0) (hr0_1:Kd.C k82 w A0_1 l0_1.length l0_1) (hc0_1:l0_1.length≤c0_1) (h:ZaG.f k l0_0 l0_1 a0_2 a1=some r) :
  Calls Tryz.prog 180 #[.agg #[.slice A0_0 l0_0.length c0_0,.slice A0_1 l0_1.length c0_1,.int .i64 a0_2],.int .i64 a1] w fun e w'=>e=.returned (.int .i64 r)∧Below w.heap.size w w':=by
 have hu25:=Tryz.underlying25
 have hu82:=Tryz.underlying82
 have HR0_0:=Za hr0_0;have HC0_0:=Za hc0_0;clear hr0_0 hc0_0;have HR0_1:=Za hr0_1;have HC0_1:=Za hc0_1;clear hr0_1 hc0_1
 have HB:=Za (Below.refl w.heap.size w)
 have H:(ZaG.l0 k a1 l0_1 (l0_1.length:Int) 0)=some r:=h
 clear h
 have H':=Za H
 clear H
 go_enter Tryz.func180,Tryz.ntmps180
 go_wp2_with (first|((with_reducible refine ZF (N:=2) rfl ?_);refine ZG ?hg (N:=2) ?hd (cs:=#[.slice A0_0 l0_0.length c0_0,.slice A0_1 l0_1.length c0_1,.int .i64 a0_2]) (t:=25) ?hr ?_;(case hd=>rfl);(case hg=>rfl);(case hr=>first|(go_simp;done)|(go_simp;rfl));intro gb1 hg w3 hbox hb;have BK1:=Za (hbox);have GW1:=Za ((by rw[hg];exact(Zv (by exact HB.out)):w.heap.size≤gb1));have GE1:=Za ((by rw[hg];exact(Zv (by exact HB.out)):w.heap.size≤gb1));replace HB:=Za (Zr (by exact HB.out) hb);clear hb hbox hg;have hcz4_0:w3.cell? ⟨gb1,0,none⟩=some (.slice A0_0 l0_0.length c0_0):=(Zm BK1.out 0).trans rfl;have hcz4_1:w3.cell? ⟨gb1,1,none⟩=some (.slice A0_1 l0_1.length c0_1):=(Zm BK1.out 1).trans rfl;have hcz4_2:w3.cell? ⟨gb1,2,none⟩=some (.int .i64 a0_2):=(Zm BK1.out 2).trans rfl;have hfz4_0:=Zq BK1.out 0;have hfz4_1:=Zq BK1.out 1;have hfz4_2:=Zq BK1.out 2))
 go_loopg [10] k (fun kq v10 w'=>∃(x10_1:Int),v10=.int .i64 x10_1∧Aside0 (ZaG.l0 kq a1 l0_1 (l0_1.length:Int) x10_1=some r)∧Aside0 (kq≤k)∧Aside0 (w'.heap[gb1]? = some (.cells #[(.slice A0_0 l0_0.length c0_0),(.slice A0_1 l0_1.length c0_1),.int .i64 a0_2] 25 (0,0)))∧Aside0 (Below w.heap.size w w'))
 case atStart=>exact⟨(0),(by first|rfl|(simp;done)|(simp[*];done)),H',⟨Nat.le_refl _⟩,⟨by(with_reducible repeat(first|refine ZD ?_ _|refine Zz ?_|refine Zy ?_ _));exact BK1.out⟩,⟨by repeat(first|(with_reducible first|exact HB.out|apply Zo|apply Zn|apply Zp|refine Zt ?_ GE1.out)|exact HB.out)⟩⟩
 case round=>
  clear H'
  try clear c1
  try clear p2
  try clear hcz4_0
  try clear hcz4_1
  try clear hcz4_2
  try clear hfz4_0
  try clear hfz4_1
  try clear hfz4_2
  obtain⟨x10_1,rfl,HA,HK1,BK1,HB⟩:=hrel
  cases gk with
  | zero=>exact absurd HA.out (by simp[ZaG.l0])
  | succ k1=>
   have H:=HA.out
   clear HA
   simp only[ZaG.l0] at H
   by_cases c5:x10_1<(l0_1.length:Int)
   ·rw[if_pos c5] at H
    have c5b0:decide (x10_1<(l0_1.length:Int))=true:=Ze c5
    clear c5
    by_cases c6:0≤x10_1
    ·rw[if_pos c6] at H
     have c6b0:decide (0≤x10_1)=true:=Ze c6
     clear c6
     by_cases c7:x10_1<(l0_1.length:Int)
     ·rw[if_pos c7] at H
      have c7b0:decide (x10_1<(l0_1.length:Int))=true:=Ze c7
      clear c7
      obtain⟨bq8,hbq8⟩:∃b_:Bool,b_=((ZE l0_1 x10_1).f4):=⟨_,rfl⟩
      replace H:(if bq8=true then(if ((ZE l0_1 x10_1).f1)=a1 then(some x10_1) else(ZaG.l0 k1 a1 l0_1 (l0_1.length:Int) (wrap64 (x10_1+1)))) else(ZaG.l0 k1 a1 l0_1 (l0_1.length:Int) (wrap64 (x10_1+1))))=some r:=by rw[← hbq8] at H;exact H
      have Nbq8:=Za hbq8;clear hbq8
      by_cases c9:bq8=true
      ·subst c9
       rw[if_pos rfl] at H
       by_cases c10:((ZE l0_1 x10_1).f1)=a1
       ·rw[if_pos c10] at H
        have c10b0:(((ZE l0_1 x10_1).f1) == a1)=true:=beq_iff_eq.mpr c10
        clear c10
        obtain rfl:=Zg H
        have p180002:0≤(x10_1:Int):=Zd (by with_reducible assumption)
        have q2:x10_1<(l0_1.length:Int):=Zd (by with_reducible assumption)
        obtain⟨ad2,e2,hx2_0,hx2_1,hx2_2,hx2_3,hx2_4⟩:=ZbG HR0_1.out x10_1 p180002 q2
        (try rw[← Nbq8.out] at hx2_4)
        cases e2
        replace hx2_0:=(HB.out.cell (Zc w _ hx2_0)).trans hx2_0
        replace hx2_1:=(HB.out.cell (Zc w _ hx2_1)).trans hx2_1
        replace hx2_2:=(HB.out.cell (Zc w _ hx2_2)).trans hx2_2
        replace hx2_3:=(HB.out.cell (Zc w _ hx2_3)).trans hx2_3
        replace hx2_4:=(HB.out.cell (Zc w _ hx2_4)).trans hx2_4
        replace p180002:=eq_true p180002
        replace q2:=eq_true q2
        go_wp2_with (first|((with_reducible refine ZF (N:=6) rfl ?_);refine ZG ?hg (N:=6) ?hd (cs:=#[.int .i64 0,.int .i64 0,.int .i64 0,.int .i64 0,.bool false]) (t:=82) ?hr ?_;(case hd=>rfl);(case hg=>rfl);(case hr=>first|(go_simp;done)|(go_simp;rfl));intro gb3 hg w11 hbox hb;have BK3:=Za (hbox);have GW3:=Za ((by rw[hg];exact(Zv (by exact HB.out)):w.heap.size≤gb3));have GE3:=Za ((by rw[hg];exact(Zv (by exact HB.out)):w.heap.size≤gb3));have NB1_3:=Za ((by rw[hg];exact Nat.ne_of_lt (ZN (g:=gb1) (o:=.cells #[.slice A0_0 l0_0.length c0_0,.slice (some ad2) l0_1.length c0_1,.int .i64 a0_2] 25 (0,0)) (by exact BK1.out)):gb1≠gb3));have NB3_1:=Za ((by rw[hg];exact Nat.ne_of_gt (ZN (g:=gb1) (o:=.cells #[.slice A0_0 l0_0.length c0_0,.slice (some ad2) l0_1.length c0_1,.int .i64 a0_2] 25 (0,0)) (by exact BK1.out)):gb3≠gb1));replace BK1:=Za (Zs (g:=gb1) (o:=.cells #[.slice A0_0 l0_0.length c0_0,.slice (some ad2) l0_1.length c0_1,.int .i64 a0_2] 25 (0,0)) (by exact BK1.out) hb);replace HB:=Za (Zr (by exact HB.out) hb);clear hb hbox hg;have hcz13_0:w11.cell? ⟨gb3,0,none⟩=some (.int .i64 0):=(Zm BK3.out 0).trans rfl;have hcz13_1:w11.cell? ⟨gb3,1,none⟩=some (.int .i64 0):=(Zm BK3.out 1).trans rfl;have hcz13_2:w11.cell? ⟨gb3,2,none⟩=some (.int .i64 0):=(Zm BK3.out 2).trans rfl;have hcz13_3:w11.cell? ⟨gb3,3,none⟩=some (.int .i64 0):=(Zm BK3.out 3).trans rfl;have hcz13_4:w11.cell? ⟨gb3,4,none⟩=some (.bool false):=(Zm BK3.out 4).trans rfl;have hfz13_0:=Zq BK3.out 0;have hfz13_1:=Zq BK3.out 1;have hfz13_2:=Zq BK3.out 2;have hfz13_3:=Zq BK3.out 3;have hfz13_4:=Zq BK3.out 4))
        go_ret
        exact⟨by first|rfl|(simp[ZC,ZB] <;> rfl)|(simp[*,ZC,ZB] <;> rfl),by repeat(first|(with_reducible first|exact HB.out|apply Zo|apply Zn|apply Zp|refine Zt ?_ GE1.out|refine Zt ?_ GE3.out)|exact HB.out)⟩
       ·rw[if_neg c10] at H
        have c10b0:(((ZE l0_1 x10_1).f1) == a1)=false:=beq_eq_false_iff_ne.mpr c10
        have H':=Za H
        clear H
        have p180002:0≤(x10_1:Int):=Zd (by with_reducible assumption)
        have q2:x10_1<(l0_1.length:Int):=Zd (by with_reducible assumption)
        obtain⟨ad2,e2,hx2_0,hx2_1,hx2_2,hx2_3,hx2_4⟩:=ZbG HR0_1.out x10_1 p180002 q2
        (try rw[← Nbq8.out] at hx2_4)
        cases e2
        replace hx2_0:=(HB.out.cell (Zc w _ hx2_0)).trans hx2_0
        replace hx2_1:=(HB.out.cell (Zc w _ hx2_1)).trans hx2_1
        replace hx2_2:=(HB.out.cell (Zc w _ hx2_2)).trans hx2_2
        replace hx2_3:=(HB.out.cell (Zc w _ hx2_3)).trans hx2_3
        replace hx2_4:=(HB.out.cell (Zc w _ hx2_4)).trans hx2_4
        replace p180002:=eq_true p180002
        replace q2:=eq_true q2
        go_wp2_with (first|((with_reducible refine ZF (N:=6) rfl ?_);refine ZG ?hg (N:=6) ?hd (cs:=#[.int .i64 0,.int .i64 0,.int .i64 0,.int .i64 0,.bool false]) (t:=82) ?hr ?_;(case hd=>rfl);(case hg=>rfl);(case hr=>first|(go_simp;done)|(go_simp;rfl));intro gb3 hg w14 hbox hb;have BK3:=Za (hbox);have GW3:=Za ((by rw[hg];exact(Zv (by exact HB.out)):w.heap.size≤gb3));have GE3:=Za ((by rw[hg];exact(Zv (by exact HB.out)):w.heap.size≤gb3));have NB1_3:=Za ((by rw[hg];exact Nat.ne_of_lt (ZN (g:=gb1) (o:=.cells #[.slice A0_0 l0_0.length c0_0,.slice (some ad2) l0_1.length c0_1,.int .i64 a0_2] 25 (0,0)) (by exact BK1.out)):gb1≠gb3));have NB3_1:=Za ((by rw[hg];exact Nat.ne_of_gt (ZN (g:=gb1) (o:=.cells #[.slice A0_0 l0_0.length c0_0,.slice (some ad2) l0_1.length c0_1,.int .i64 a0_2] 25 (0,0)) (by exact BK1.out)):gb3≠gb1));replace BK1:=Za (Zs (g:=gb1) (o:=.cells #[.slice A0_0 l0_0.length c0_0,.slice (some ad2) l0_1.length c0_1,.int .i64 a0_2] 25 (0,0)) (by exact BK1.out) hb);replace HB:=Za (Zr (by exact HB.out) hb);clear hb hbox hg;have hcz16_0:w14.cell? ⟨gb3,0,none⟩=some (.int .i64 0):=(Zm BK3.out 0).trans rfl;have hcz16_1:w14.cell? ⟨gb3,1,none⟩=some (.int .i64 0):=(Zm BK3.out 1).trans rfl;have hcz16_2:w14.cell? ⟨gb3,2,none⟩=some (.int .i64 0):=(Zm BK3.out 2).trans rfl;have hcz16_3:w14.cell? ⟨gb3,3,none⟩=some (.int .i64 0):=(Zm BK3.out 3).trans rfl;have hcz16_4:w14.cell? ⟨gb3,4,none⟩=some (.bool false):=(Zm BK3.out 4).trans rfl;have hfz16_0:=Zq BK3.out 0;have hfz16_1:=Zq BK3.out 1;have hfz16_2:=Zq BK3.out 2;have hfz16_3:=Zq BK3.out 3;have hfz16_4:=Zq BK3.out 4))
        go_roundg k1
        case measure=>have:=HK1.out;omega
        case rel=>exact⟨(wrap64 (x10_1+1)),(by first|rfl|(simp;done)|(simp[*];done)),H',⟨by have:=HK1.out;omega⟩,⟨by(with_reducible repeat(first|refine ZD ?_ _|refine Zz ?_|refine Zy ?_ _));refine ZL ?_ NB1_3.out _;(with_reducible repeat(first|refine ZD ?_ _|refine Zz ?_|refine Zy ?_ _));refine ZL ?_ NB1_3.out _;(with_reducible repeat(first|refine ZD ?_ _|refine Zz ?_|refine Zy ?_ _));refine ZL ?_ NB1_3.out _;(with_reducible repeat(first|refine ZD ?_ _|refine Zz ?_|refine Zy ?_ _));refine ZL ?_ NB1_3.out _;(with_reducible repeat(first|refine ZD ?_ _|refine Zz ?_|refine Zy ?_ _));refine ZL ?_ NB1_3.out _;(with_reducible repeat(first|refine ZD ?_ _|refine Zz ?_|refine Zy ?_ _));exact BK1.out⟩,⟨by repeat(first|(with_reducible first|exact HB.out|apply Zo|apply Zn|apply Zp|refine Zt ?_ GE1.out|refine Zt ?_ GE3.out)|exact HB.out)⟩⟩
      ·replace c9:=Bool.eq_false_iff.mpr c9
       subst c9
       have H1:(ZaG.l0 k1 a1 l0_1 (l0_1.length:Int) (wrap64 (x10_1+1)))=some r:=by rw[if_neg (show ¬(false=true) by decide)] at H;exact H
       clear H
       have H:=H1
       clear H1
       have H':=Za H
       clear H
       have p180002:0≤(x10_1:Int):=Zd (by with_reducible assumption)
       have q2:x10_1<(l0_1.length:Int):=Zd (by with_reducible assumption)
       obtain⟨ad2,e2,hx2_0,hx2_1,hx2_2,hx2_3,hx2_4⟩:=ZbG HR0_1.out x10_1 p180002 q2
       (try rw[← Nbq8.out] at hx2_4)
       cases e2
       replace hx2_0:=(HB.out.cell (Zc w _ hx2_0)).trans hx2_0
       replace hx2_1:=(HB.out.cell (Zc w _ hx2_1)).trans hx2_1
       replace hx2_2:=(HB.out.cell (Zc w _ hx2_2)).trans hx2_2
       replace hx2_3:=(HB.out.cell (Zc w _ hx2_3)).trans hx2_3
       replace hx2_4:=(HB.out.cell (Zc w _ hx2_4)).trans hx2_4
       replace p180002:=eq_true p180002
       replace q2:=eq_true q2
       go_wp2_with (first|((with_reducible refine ZF (N:=6) rfl ?_);refine ZG ?hg (N:=6) ?hd (cs:=#[.int .i64 0,.int .i64 0,.int .i64 0,.int .i64 0,.bool false]) (t:=82) ?hr ?_;(case hd=>rfl);(case hg=>rfl);(case hr=>first|(go_simp;done)|(go_simp;rfl));intro gb3 hg w17 hbox hb;have BK3:=Za (hbox);have GW3:=Za ((by rw[hg];exact(Zv (by exact HB.out)):w.heap.size≤gb3));have GE3:=Za ((by rw[hg];exact(Zv (by exact HB.out)):w.heap.size≤gb3));have NB1_3:=Za ((by rw[hg];exact Nat.ne_of_lt (ZN (g:=gb1) (o:=.cells #[.slice A0_0 l0_0.length c0_0,.slice (some ad2) l0_1.length c0_1,.int .i64 a0_2] 25 (0,0)) (by exact BK1.out)):gb1≠gb3));have NB3_1:=Za ((by rw[hg];exact Nat.ne_of_gt (ZN (g:=gb1) (o:=.cells #[.slice A0_0 l0_0.length c0_0,.slice (some ad2) l0_1.length c0_1,.int .i64 a0_2] 25 (0,0)) (by exact BK1.out)):gb3≠gb1));replace BK1:=Za (Zs (g:=gb1) (o:=.cells #[.slice A0_0 l0_0.length c0_0,.slice (some ad2) l0_1.length c0_1,.int .i64 a0_2] 25 (0,0)) (by exact BK1.out) hb);replace HB:=Za (Zr (by exact HB.out) hb);clear hb hbox hg;have hcz19_0:w17.cell? ⟨gb3,0,none⟩=some (.int .i64 0):=(Zm BK3.out 0).trans rfl;have hcz19_1:w17.cell? ⟨gb3,1,none⟩=some (.int .i64 0):=(Zm BK3.out 1).trans rfl;have hcz19_2:w17.cell? ⟨gb3,2,none⟩=some (.int .i64 0):=(Zm BK3.out 2).trans rfl;have hcz19_3:w17.cell? ⟨gb3,3,none⟩=some (.int .i64 0):=(Zm BK3.out 3).trans rfl;have hcz19_4:w17.cell? ⟨gb3,4,none⟩=some (.bool false):=(Zm BK3.out 4).trans rfl;have hfz19_0:=Zq BK3.out 0;have hfz19_1:=Zq BK3.out 1;have hfz19_2:=Zq BK3.out 2;have hfz19_3:=Zq BK3.out 3;have hfz19_4:=Zq BK3.out 4))
       go_roundg k1
       case measure=>have:=HK1.out;omega
       case rel=>exact⟨(wrap64 (x10_1+1)),(by first|rfl|(simp;done)|(simp[*];done)),H',⟨by have:=HK1.out;omega⟩,⟨by(with_reducible repeat(first|refine ZD ?_ _|refine Zz ?_|refine Zy ?_ _));refine ZL ?_ NB1_3.out _;(with_reducible repeat(first|refine ZD ?_ _|refine Zz ?_|refine Zy ?_ _));refine ZL ?_ NB1_3.out _;(with_reducible repeat(first|refine ZD ?_ _|refine Zz ?_|refine Zy ?_ _));refine ZL ?_ NB1_3.out _;(with_reducible repeat(first|refine ZD ?_ _|refine Zz ?_|refine Zy ?_ _));refine ZL ?_ NB1_3.out _;(with_reducible repeat(first|refine ZD ?_ _|refine Zz ?_|refine Zy ?_ _));refine ZL ?_ NB1_3.out _;(with_reducible repeat(first|refine ZD ?_ _|refine Zz ?_|refine Zy ?_ _));exact BK1.out⟩,⟨by repeat(first|(with_reducible first|exact HB.out|apply Zo|apply Zn|apply Zp|refine Zt ?_ GE1.out|refine Zt ?_ GE3.out)|exact HB.out)⟩⟩
     ·rw[if_neg c7] at H
      exact absurd H (by simp)
    ·rw[if_neg c6] at H
     exact absurd H (by simp)
   ·rw[if_neg c5] at H
    have c5b0:decide (x10_1<(l0_1.length:Int))=false:=Zf c5
    clear c5
    obtain rfl:=Zg H
    go_wp2
    go_ret
    exact⟨by first|rfl|(simp[ZC,ZB] <;> rfl)|(simp[*,ZC,ZB] <;> rfl),by repeat(first|(with_reducible first|exact HB.out|apply Zo|apply Zn|apply Zp|refine Zt ?_ GE1.out)|exact HB.out)⟩
def ZZ.l0:Nat→Int→List (S39)→Int→Int→Option (Int)
 | 0,_,_,_,_=>none
 | k+1,x1,x8,x9,x10=>if x10<x9 then(if 0≤x10 then(if x10<(x8.length:Int) then(if ((ZJ x8 x10).f2)=x1 then(some x10) else(ZZ.l0 k x1 x8 x9 (wrap64 (x10+1)))) else(none)) else(none)) else(some (-1))
def ZZ.f (k:Nat) (l0_0:List (S39)) (l0_1:List (S82)) (a0_2:Int) (a1:Int):Option (Int):=ZZ.l0 k a1 l0_0 (l0_0.length:Int) 0
theorem ZZ.calls (k:Nat) (A0_0:Option Addr) (c0_0:Nat) (l0_0:List (S39)) (A0_1:Option Addr) (c0_1:Nat) (l0_1:List (S82)) (a0_2:Int) (a1:Int) (r:Int) (w:World) (hr0_0:Kd.C k39 w A0_0 l0_0.length l0_0) (hc0_0:l0_0.length≤c0_0) (hr0_1:Kd.C k82 w A0_1 l0_1.length l0_1) (hc0_1:l0_1.length≤c0_1) (h:ZZ.f k l0_0 l0_1 a0_2 a1=some r) :
  Calls Tryz.prog 97 #[.agg #[.slice A0_0 l0_0.length c0_0,.slice A0_1 l0_1.length c0_1,.int .i64 a0_2],.int .i64 a1] w fun e w'=>e=.returned (.int .i64 r)∧Below w.heap.size w w':=by
 have hu25:=Tryz.underlying25
 have hu39:=Tryz.underlying39
 have HR0_0:=Za hr0_0;have HC0_0:=Za hc0_0;clear hr0_0 hc0_0;have HR0_1:=Za hr0_1;have HC0_1:=Za hc0_1;clear hr0_1 hc0_1
 have HB:=Za (Below.refl w.heap.size w)
 have H:(ZZ.l0 k a1 l0_0 (l0_0.length:Int) 0)=some r:=h
 clear h
 have H':=Za H
 clear H
 go_enter Tryz.func97,Tryz.ntmps97
 go_wp2_with (first|((with_reducible refine ZF (N:=2) rfl ?_);refine ZG ?hg (N:=2) ?hd (cs:=#[.slice A0_0 l0_0.length c0_0,.slice A0_1 l0_1.length c0_1,.int .i64 a0_2]) (t:=25) ?hr ?_;(case hd=>rfl);(case hg=>rfl);(case hr=>first|(go_simp;done)|(go_simp;rfl));intro gb1 hg w3 hbox hb;have BK1:=Za (hbox);have GW1:=Za ((by rw[hg];exact(Zv (by exact HB.out)):w.heap.size≤gb1));have GE1:=Za ((by rw[hg];exact(Zv (by exact HB.out)):w.heap.size≤gb1));replace HB:=Za (Zr (by exact HB.out) hb);clear hb hbox hg;have hcz4_0:w3.cell? ⟨gb1,0,none⟩=some (.slice A0_0 l0_0.length c0_0):=(Zm BK1.out 0).trans rfl;have hcz4_1:w3.cell? ⟨gb1,1,none⟩=some (.slice A0_1 l0_1.length c0_1):=(Zm BK1.out 1).trans rfl;have hcz4_2:w3.cell? ⟨gb1,2,none⟩=some (.int .i64 a0_2):=(Zm BK1.out 2).trans rfl;have hfz4_0:=Zq BK1.out 0;have hfz4_1:=Zq BK1.out 1;have hfz4_2:=Zq BK1.out 2))
 go_loopg [10] k (fun kq v10 w'=>∃(x10_1:Int),v10=.int .i64 x10_1∧Aside0 (ZZ.l0 kq a1 l0_0 (l0_0.length:Int) x10_1=some r)∧Aside0 (kq≤k)∧Aside0 (w'.heap[gb1]? = some (.cells #[(.slice A0_0 l0_0.length c0_0),(.slice A0_1 l0_1.length c0_1),.int .i64 a0_2] 25 (0,0)))∧Aside0 (Below w.heap.size w w'))
 case atStart=>exact⟨(0),(by first|rfl|(simp;done)|(simp[*];done)),H',⟨Nat.le_refl _⟩,⟨by(with_reducible repeat(first|refine ZD ?_ _|refine Zz ?_|refine Zy ?_ _));exact BK1.out⟩,⟨by repeat(first|(with_reducible first|exact HB.out|apply Zo|apply Zn|apply Zp|refine Zt ?_ GE1.out)|exact HB.out)⟩⟩
 case round=>
  clear H'
  try clear p2
  try clear hcz4_0
  try clear hcz4_1
  try clear hcz4_2
  try clear hfz4_0
  try clear hfz4_1
  try clear hfz4_2
  obtain⟨x10_1,rfl,HA,HK1,BK1,HB⟩:=hrel
  cases gk with
  | zero=>exact absurd HA.out (by simp[ZZ.l0])
  | succ k1=>
   have H:=HA.out
   clear HA
   simp only[ZZ.l0] at H
   by_cases c5:x10_1<(l0_0.length:Int)
   ·rw[if_pos c5] at H
    have c5b0:decide (x10_1<(l0_0.length:Int))=true:=Ze c5
    clear c5
    by_cases c6:0≤x10_1
    ·rw[if_pos c6] at H
     have c6b0:decide (0≤x10_1)=true:=Ze c6
     clear c6
     by_cases c7:x10_1<(l0_0.length:Int)
     ·rw[if_pos c7] at H
      have c7b0:decide (x10_1<(l0_0.length:Int))=true:=Ze c7
      clear c7
      by_cases c8:((ZJ l0_0 x10_1).f2)=a1
      ·rw[if_pos c8] at H
       have c8b0:(((ZJ l0_0 x10_1).f2) == a1)=true:=beq_iff_eq.mpr c8
       clear c8
       obtain rfl:=Zg H
       have p97002:0≤(x10_1:Int):=Zd (by with_reducible assumption)
       have q2:x10_1<(l0_0.length:Int):=Zd (by with_reducible assumption)
       obtain⟨ad2,A2_1,c2_1,e2,hx2_0,hx2_1,hx2_2,hl2_1,hi2_1⟩:=ZaX HR0_0.out x10_1 p97002 q2
       cases e2
       replace hx2_0:=(HB.out.cell (Zc w _ hx2_0)).trans hx2_0
       replace hx2_1:=(HB.out.cell (Zc w _ hx2_1)).trans hx2_1
       replace hx2_2:=(HB.out.cell (Zc w _ hx2_2)).trans hx2_2
       have HR2_1:=Za hi2_1;have HC2_1:=Za hl2_1;clear hi2_1 hl2_1
       replace p97002:=eq_true p97002
       replace q2:=eq_true q2
       go_wp2_with (first|((with_reducible refine ZF (N:=6) rfl ?_);refine ZG ?hg (N:=6) ?hd (cs:=#[.string (⟨#[]⟩:ByteArray),.slice none 0 0,.int .i64 0]) (t:=39) ?hr ?_;(case hd=>rfl);(case hg=>rfl);(case hr=>first|(go_simp;done)|(go_simp;rfl));intro gb3 hg w9 hbox hb;have BK3:=Za (hbox);have GW3:=Za ((by rw[hg];exact(Zv (by exact HB.out)):w.heap.size≤gb3));have GE3:=Za ((by rw[hg];exact(Zv (by exact HB.out)):w.heap.size≤gb3));have NB1_3:=Za ((by rw[hg];exact Nat.ne_of_lt (ZN (g:=gb1) (o:=.cells #[.slice (some ad2) l0_0.length c0_0,.slice A0_1 l0_1.length c0_1,.int .i64 a0_2] 25 (0,0)) (by exact BK1.out)):gb1≠gb3));have NB3_1:=Za ((by rw[hg];exact Nat.ne_of_gt (ZN (g:=gb1) (o:=.cells #[.slice (some ad2) l0_0.length c0_0,.slice A0_1 l0_1.length c0_1,.int .i64 a0_2] 25 (0,0)) (by exact BK1.out)):gb3≠gb1));replace BK1:=Za (Zs (g:=gb1) (o:=.cells #[.slice (some ad2) l0_0.length c0_0,.slice A0_1 l0_1.length c0_1,.int .i64 a0_2] 25 (0,0)) (by exact BK1.out) hb);replace HB:=Za (Zr (by exact HB.out) hb);clear hb hbox hg;have hcz11_0:w9.cell? ⟨gb3,0,none⟩=some (.string (⟨#[]⟩:ByteArray)):=(Zm BK3.out 0).trans rfl;have hcz11_1:w9.cell? ⟨gb3,1,none⟩=some (.slice none 0 0):=(Zm BK3.out 1).trans rfl;have hcz11_2:w9.cell? ⟨gb3,2,none⟩=some (.int .i64 0):=(Zm BK3.out 2).trans rfl;have hfz11_0:=Zq BK3.out 0;have hfz11_1:=Zq BK3.out 1;have hfz11_2:=Zq BK3.out 2))
       go_ret
       exact⟨by first|rfl|(simp[ZC,ZB] <;> rfl)|(simp[*,ZC,ZB] <;> rfl),by repeat(first|(with_reducible first|exact HB.out|apply Zo|apply Zn|apply Zp|refine Zt ?_ GE1.out|refine Zt ?_ GE3.out)|exact HB.out)⟩
      ·rw[if_neg c8] at H
       have c8b0:(((ZJ l0_0 x10_1).f2) == a1)=false:=beq_eq_false_iff_ne.mpr c8
       have H':=Za H
       clear H
       have p97002:0≤(x10_1:Int):=Zd (by with_reducible assumption)
       have q2:x10_1<(l0_0.length:Int):=Zd (by with_reducible assumption)
       obtain⟨ad2,A2_1,c2_1,e2,hx2_0,hx2_1,hx2_2,hl2_1,hi2_1⟩:=ZaX HR0_0.out x10_1 p97002 q2
       cases e2
       replace hx2_0:=(HB.out.cell (Zc w _ hx2_0)).trans hx2_0
       replace hx2_1:=(HB.out.cell (Zc w _ hx2_1)).trans hx2_1
       replace hx2_2:=(HB.out.cell (Zc w _ hx2_2)).trans hx2_2
       have HR2_1:=Za hi2_1;have HC2_1:=Za hl2_1;clear hi2_1 hl2_1
       replace p97002:=eq_true p97002
       replace q2:=eq_true q2
       go_wp2_with (first|((with_reducible refine ZF (N:=6) rfl ?_);refine ZG ?hg (N:=6) ?hd (cs:=#[.string (⟨#[]⟩:ByteArray),.slice none 0 0,.int .i64 0]) (t:=39) ?hr ?_;(case hd=>rfl);(case hg=>rfl);(case hr=>first|(go_simp;done)|(go_simp;rfl));intro gb3 hg w12 hbox hb;have BK3:=Za (hbox);have GW3:=Za ((by rw[hg];exact(Zv (by exact HB.out)):w.heap.size≤gb3));have GE3:=Za ((by rw[hg];exact(Zv (by exact HB.out)):w.heap.size≤gb3));have NB1_3:=Za ((by rw[hg];exact Nat.ne_of_lt (ZN (g:=gb1) (o:=.cells #[.slice (some ad2) l0_0.length c0_0,.slice A0_1 l0_1.length c0_1,.int .i64 a0_2] 25 (0,0)) (by exact BK1.out)):gb1≠gb3));have NB3_1:=Za ((by rw[hg];exact Nat.ne_of_gt (ZN (g:=gb1) (o:=.cells #[.slice (some ad2) l0_0.length c0_0,.slice A0_1 l0_1.length c0_1,.int .i64 a0_2] 25 (0,0)) (by exact BK1.out)):gb3≠gb1));replace BK1:=Za (Zs (g:=gb1) (o:=.cells #[.slice (some ad2) l0_0.length c0_0,.slice A0_1 l0_1.length c0_1,.int .i64 a0_2] 25 (0,0)) (by exact BK1.out) hb);replace HB:=Za (Zr (by exact HB.out) hb);clear hb hbox hg;have hcz14_0:w12.cell? ⟨gb3,0,none⟩=some (.string (⟨#[]⟩:ByteArray)):=(Zm BK3.out 0).trans rfl;have hcz14_1:w12.cell? ⟨gb3,1,none⟩=some (.slice none 0 0):=(Zm BK3.out 1).trans rfl;have hcz14_2:w12.cell? ⟨gb3,2,none⟩=some (.int .i64 0):=(Zm BK3.out 2).trans rfl;have hfz14_0:=Zq BK3.out 0;have hfz14_1:=Zq BK3.out 1;have hfz14_2:=Zq BK3.out 2))
       go_roundg k1
       case measure=>have:=HK1.out;omega
       case rel=>exact⟨(wrap64 (x10_1+1)),(by first|rfl|(simp;done)|(simp[*];done)),H',⟨by have:=HK1.out;omega⟩,⟨by(with_reducible repeat(first|refine ZD ?_ _|refine Zz ?_|refine Zy ?_ _));refine ZL ?_ NB1_3.out _;(with_reducible repeat(first|refine ZD ?_ _|refine Zz ?_|refine Zy ?_ _));refine ZL ?_ NB1_3.out _;(with_reducible repeat(first|refine ZD ?_ _|refine Zz ?_|refine Zy ?_ _));refine ZL ?_ NB1_3.out _;(with_reducible repeat(first|refine ZD ?_ _|refine Zz ?_|refine Zy ?_ _));exact BK1.out⟩,⟨by repeat(first|(with_reducible first|exact HB.out|apply Zo|apply Zn|apply Zp|refine Zt ?_ GE1.out|refine Zt ?_ GE3.out)|exact HB.out)⟩⟩
     ·rw[if_neg c7] at H
      exact absurd H (by simp)
    ·rw[if_neg c6] at H
     exact absurd H (by simp)
   ·rw[if_neg c5] at H
    have c5b0:decide (x10_1<(l0_0.length:Int))=false:=Zf c5
    clear c5
    obtain rfl:=Zg H
    go_wp2
    go_ret
    exact⟨by first|rfl|(simp[ZC,ZB] <;> rfl)|(simp[*,ZC,ZB] <;> rfl),by repeat(first|(with_reducible first|exact HB.out|apply Zo|apply Zn|apply Zp|refine Zt ?_ GE1.out)|exact HB.out)⟩
def freeI (ts:List PTie) (node:Int):Int:=Zbc (fun t=>t.f4 && decide (t.f1=node)) ts
def Zcr (ns:List ZK) (p:Int):Int:=Zbc (fun n=>decide (n.f2=p)) ns
def inB (a b c:Int):Bool:=decide (b≤a) && decide (a≤c)
theorem l01In_f (a b c:Int):ZX.f a b c=some (inB a b c):=by
 unfold ZX.f inB
 by_cases h:a≥b
 ·rw[if_pos h,Ze (show b≤a from h),Bool.true_and]
 ·rw[if_neg h,Zf (show ¬b≤a from h),Bool.false_and]
theorem l08Free_f (ns:List ZK) (ts:List PTie) (z:Int) (node:Int) (hl:ts.length≤9223372036854775807) (k:Nat) (hk:2 ^ 64≤k):ZaG.f k ns ts z node=some (freeI ts node):=by
 have key:=Zb7 ts.length (fun k i=>(∀j y,j<i→ts[j]? = some y→(y.f4 && decide (y.f1=node))=false)→ZaG.l0 k node ts ts.length (i:Int)=some (freeI ts node)) 0
  (fun k _ hb=>by
   simp only[ZaG.l0]
   rw[if_neg (by omega),freeI,Zb0 _ _ hb])
  (fun k i _ hi ih hb=>by
   simp only[ZaG.l0]
   have next:((ts.getD i z82).f4 && decide ((ts.getD i z82).f1=node))=false→ZaG.l0 k node ts ts.length ((i+1:Nat):Int)=some (freeI ts node):=fun h=>ih (by
    intro j y hj hy
    by_cases e:j=i
    ·subst e
     rw[getD_some hi z82] at hy
     cases hy
     exact h
    ·exact hb j y (by omega) hy)
   rw[if_pos (by omega),if_pos (by omega),if_pos (by omega),Zeg,ZO hi (by omega)]
   by_cases h:(ts.getD i z82).f4=true
   ·rw[if_pos h]
    by_cases h2:(ts.getD i z82).f1=node
    ·rw[if_pos h2,freeI,Zcd _ ts i _ (getD_some hi z82) (by rw[h,Ze h2];rfl) hb]
    ·rw[if_neg h2,next (by rw[Zf h2,Bool.and_false])]
   ·rw[if_neg h,next (by rw[Bool.eq_false_iff.2 h,Bool.false_and])]) 0 k (Nat.zero_le _) (by omega)
 unfold ZaG.f
 exact key (fun j y hj=>absurd hj (by omega))
theorem ZdU (ns:List ZK) (ts:List PTie) (z:Int) (p:Int) (hl:ns.length≤9223372036854775807) (k:Nat) (hk:2 ^ 64≤k):ZZ.f k ns ts z p=some (Zcr ns p):=by
 have key:=Zb7 ns.length (fun k i=>(∀j y,j<i→ns[j]? = some y→decide (y.f2=p)=false)→ZZ.l0 k p ns ns.length (i:Int)=some (Zcr ns p)) 0
  (fun k _ hb=>by
   simp only[ZZ.l0]
   rw[if_neg (by omega),Zcr,Zb0 _ _ hb])
  (fun k i _ hi ih hb=>by
   simp only[ZZ.l0]
   rw[if_pos (by omega),if_pos (by omega),if_pos (by omega),Zcm,ZO hi (by omega)]
   by_cases h:(ns.getD i z39).f2=p
   ·rw[if_pos h,Zcr,Zcd _ ns i _ (getD_some hi z39) (Ze h) hb]
   ·rw[if_neg h,ih]
    intro j y hj hy
    by_cases e:j=i
    ·subst e
     rw[getD_some hi z39] at hy
     cases hy
     exact Zf h
    ·exact hb j y (by omega) hy) 0 k (Nat.zero_le _) (by omega)
 unfold ZZ.f
 exact key (fun j y hj=>absurd hj (by omega))
def fitN (ns:List ZK):Bool:=ns.all fun n=>decide (n.f0.size≤9223372036854775807) && decide (n.f1.length≤9223372036854775807)
theorem fitN_iff {ns:List ZK} (h:fitN ns=true):∀n∈ns,n.f0.size≤9223372036854775807∧n.f1.length≤9223372036854775807:=fun n hn=>by
 have:=List.all_eq_true.1 h n hn
 simpa using this
theorem showCell0 (w:World) (x y z:Value) (t:TypeId):(w.alloc (.cells #[x,y,z] t)).cell? ⟨w.heap.size,0,none⟩=some x:=by go_simp
theorem showCell1 (w:World) (x y z:Value) (t:TypeId):(w.alloc (.cells #[x,y,z] t)).cell? ⟨w.heap.size,1,none⟩=some y:=by go_simp
theorem showCell2 (w:World) (x y z:Value) (t:TypeId):(w.alloc (.cells #[x,y,z] t)).cell? ⟨w.heap.size,2,none⟩=some z:=by go_simp
theorem Zbz (a b c:Int) (w:World):Calls Tryz.prog 127 #[.int .i64 a,.int .i64 b,.int .i64 c] w fun e w'=>e=.returned (.bool (inB a b c))∧∃n,w'=w.drewN n:=
 (ZX.calls a b c _ w (l01In_f a b c)).mono fun _ _ ⟨he,hd⟩=>⟨he,hd.out⟩
theorem quietX {P:Program} {f:FuncId} {args:Array Value} {W:World} {a x:Nat} {v:Value} (h:Calls P f args (W.drewN (a+x)) fun e w'=>e=.returned v∧∃m,w'=(W.drewN (a+x)).drewN m):Calls P f args (W.drewN (a+x)) fun e w''=>e=.returned v∧∃n,w''=W.drewN (a+n):=
 h.mono fun _ _ ⟨he,m,hm⟩=>⟨he,x+m,by rw[hm,World.drewN_drewN,Nat.add_assoc]⟩
theorem quiet0 {P:Program} {f:FuncId} {args:Array Value} {W:World} {x:Nat} {v:Value} (h:Calls P f args (W.drewN x) fun e w'=>e=.returned v∧∃m,w'=(W.drewN x).drewN m):Calls P f args (W.drewN x) fun e w''=>e=.returned v∧∃n,w''=W.drewN n:=
 h.mono fun _ _ ⟨he,m,hm⟩=>⟨he,x+m,by rw[hm,World.drewN_drewN]⟩
def ZaO.l0:Nat→Int→List Int→Int→Int→Option (Bool)
 | 0,_,_,_,_=>none
 | k+1,x1,x7,x8,x9=>if x9<x8 then(if 0≤x9 then(if x9<(x7.length:Int) then(if (rd x7 x9)=x1 then(some true) else(ZaO.l0 k x1 x7 x8 (wrap64 (x9+1)))) else(none)) else(none)) else(some false)
def ZaO.f (k:Nat) (l0:List Int) (a1:Int):Option (Bool):=ZaO.l0 k a1 l0 (l0.length:Int) 0
theorem ZaO.calls (k:Nat) (A0:Option Addr) (c0:Nat) (l0:List Int) (a1:Int) (r:Bool) (w:World) (hr0:Kd.C (Kd.int .i64) w A0 l0.length l0) (hc0:l0.length≤c0) (h:ZaO.f k l0 a1=some r) :
  Calls Tryz.prog 177 #[.slice A0 l0.length c0,.int .i64 a1] w fun e w'=>e=.returned (.bool r)∧ZH w w':=by
 have HR0:=Za hr0;have HC0:=Za hc0;clear hr0 hc0
 have H:(ZaO.l0 k a1 l0 (l0.length:Int) 0)=some r:=h
 clear h
 have H':=Za H
 clear H
 go_enter Tryz.func177,Tryz.ntmps177
 go_wp2
 go_loopg [9] k (fun kq v9 w'=>∃(x9_1:Int),v9=.int .i64 x9_1∧Aside0 (ZaO.l0 kq a1 l0 (l0.length:Int) x9_1=some r)∧Aside0 (kq≤k)∧ZH w w')
 case atStart=>exact⟨(0),(by first|rfl|(simp;done)|(simp[*];done)),H',⟨Nat.le_refl _⟩,by repeat(first|exact ZH.refl _|apply ZH.step)⟩
 case round=>
  clear H'
  try clear c1
  try clear p2
  obtain⟨x9_1,rfl,HA,HK1,⟨m1,rfl⟩⟩:=hrel
  cases gk with
  | zero=>exact absurd HA.out (by simp[ZaO.l0])
  | succ k1=>
   have H:=HA.out
   clear HA
   simp only[ZaO.l0] at H
   by_cases c3:x9_1<(l0.length:Int)
   ·rw[if_pos c3] at H
    have c3b0:decide (x9_1<(l0.length:Int))=true:=Ze c3
    clear c3
    by_cases c4:0≤x9_1
    ·rw[if_pos c4] at H
     have c4b0:decide (0≤x9_1)=true:=Ze c4
     clear c4
     by_cases c5:x9_1<(l0.length:Int)
     ·rw[if_pos c5] at H
      have c5b0:decide (x9_1<(l0.length:Int))=true:=Ze c5
      clear c5
      by_cases c6:(rd l0 x9_1)=a1
      ·rw[if_pos c6] at H
       have c6b0:((rd l0 x9_1) == a1)=true:=beq_iff_eq.mpr c6
       have c6b1:((rd l0 x9_1) != a1)=false:=bne_eq_false_iff_eq.mpr c6
       clear c6
       obtain rfl:=Zg H
       have p1:0≤(x9_1:Int):=Zd (by first|(with_reducible assumption)|assumption)
       have q1:x9_1<(l0.length:Int):=Zd (by first|(with_reducible assumption)|assumption)
       obtain⟨ad1,e1,hx1_0⟩:=Kd.at_int HR0.out x9_1 p1 q1
       cases e1
       replace p1:=eq_true p1
       replace q1:=eq_true q1
       go_wp2
       go_ret
       exact⟨by first|rfl|(simp;done)|(simp[*];done),by repeat(first|exact ZH.refl _|apply ZH.step)⟩
      ·rw[if_neg c6] at H
       have c6b0:((rd l0 x9_1) == a1)=false:=beq_eq_false_iff_ne.mpr c6
       have c6b1:((rd l0 x9_1) != a1)=true:=bne_iff_ne.mpr c6
       have H':=Za H
       clear H
       have p1:0≤(x9_1:Int):=Zd (by first|(with_reducible assumption)|assumption)
       have q1:x9_1<(l0.length:Int):=Zd (by first|(with_reducible assumption)|assumption)
       obtain⟨ad1,e1,hx1_0⟩:=Kd.at_int HR0.out x9_1 p1 q1
       cases e1
       replace p1:=eq_true p1
       replace q1:=eq_true q1
       go_wp2
       go_roundg k1
       case measure=>have:=HK1.out;omega
       case rel=>exact⟨(wrap64 (x9_1+1)),(by first|rfl|(simp;done)|(simp[*];done)),H',⟨by have:=HK1.out;omega⟩,by repeat(first|exact ZH.refl _|apply ZH.step)⟩
     ·rw[if_neg c5] at H
      exact absurd H (by simp)
    ·rw[if_neg c4] at H
     exact absurd H (by simp)
   ·rw[if_neg c3] at H
    have c3b0:decide (x9_1<(l0.length:Int))=false:=Zf c3
    clear c3
    obtain rfl:=Zg H
    go_wp2
    go_ret
    exact⟨by first|rfl|(simp;done)|(simp[*];done),by repeat(first|exact ZH.refl _|apply ZH.step)⟩
mutual
def ZW.j0:Nat→List Int→List Int→Bool→Option (Bool)
 | 0,_,_,_=>none
 | k+1,x0,x1,x14=>if x14=true then(some false) else(ZW.l0 k x0 x1 (x1.length:Int) 0)
def ZW.l0:Nat→List Int→List Int→Int→Int→Option (Bool)
 | 0,_,_,_,_=>none
 | k+1,x0,x15,x16,x17=>if x17<x16 then(if 0≤x17 then(if x17<(x15.length:Int) then((ZaO.f k x0 (rd x15 x17)).bind fun t4=>(if t4=true then(ZW.l0 k x0 x15 x16 (wrap64 (x17+1))) else(some false))) else(none)) else(none)) else(some true)
end
def ZW.f (k:Nat) (l0:List Int) (l1:List Int):Option (Bool):=(Zae.f k l0).bind fun t1=>(if t1=true then((Zae.f k l1).bind fun t2=>(ZW.j0 k l0 l1 (!t2))) else(ZW.j0 k l0 l1 true))
theorem ZW.calls (k:Nat) (A0:Option Addr) (c0:Nat) (l0:List Int) (A1:Option Addr) (c1:Nat) (l1:List Int) (r:Bool) (w:World) (hr0:Kd.C (Kd.int .i64) w A0 l0.length l0) (hc0:l0.length≤c0) (hr1:Kd.C (Kd.int .i64) w A1 l1.length l1) (hc1:l1.length≤c1) (h:ZW.f k l0 l1=some r) :
  Calls Tryz.prog 178 #[.slice A0 l0.length c0,.slice A1 l1.length c1] w fun e w'=>e=.returned (.bool r)∧ZH w w':=by
 have HR0:=Za hr0;have HC0:=Za hc0;clear hr0 hc0;have HR1:=Za hr1;have HC1:=Za hc1;clear hr1 hc1
 have H:((Zae.f k l0).bind fun t1=>(if t1=true then((Zae.f k l1).bind fun t2=>(ZW.j0 k l0 l1 (!t2))) else(ZW.j0 k l0 l1 true)))=some r:=h
 clear h;have HC3:=Za H;clear H
 go_enter Tryz.func178,Tryz.ntmps178
 go_upto_region 1 with (fail)
 go_cut [14] (fun v14 wc=>∃(kq:Nat) (x14_2:Bool),v14=.bool x14_2∧Aside0 (ZW.j0 kq l0 l1 x14_2=some r)∧Aside0 (kq≤k)∧ZH w wc)
 case first=>
  have H:=HC3.out
  clear HC3
  replace H:=Zh H
  obtain⟨t1,A40,H⟩:=H;have A4:=Za A40;clear A40
  by_cases c5:t1=true
  ·subst c5
   rw[if_pos rfl] at H
   replace H:=Zh H
   obtain⟨t2,A60,H⟩:=H;have A6:=Za A60;clear A60
   have H':=Za H
   clear H
   go_wp2_with (first|((with_reducible refine ZM (f:=175) rfl ?_);refine Z7 (some 8) rfl rfl Tryz.func175 (by kernel_rfl) rfl #[.slice A0 l0.length c0] rfl (by(try simp only[List.map_toArray,List.map_cons,List.map_nil]);first|done|rfl|(simp only[Zk,Zj];rfl)) ?_;(with_reducible refine(Zae.calls k _ _ l0 true _ ?side1 ?side2 A4.out).mono ?_);(case side1=>repeat(first|exact HR0.out|(with_reducible refine Kd.C_alloc ?_ _)|(with_reducible refine Kd.C_drewN ?_ _)|(with_reducible refine Kd.C_drew ?_)));(case side2=>exact HC0.out);rintro e w' ⟨rfl,⟨nd,rfl⟩⟩;refine⟨_,rfl,?_⟩)|(go_at_call 175;(with_reducible refine(Zae.calls k _ _ l1 t2 _ ?side1 ?side2 A6.out).mono ?_);(case side1=>repeat(first|exact HR1.out|(with_reducible refine Kd.C_alloc ?_ _)|(with_reducible refine Kd.C_drewN ?_ _)|(with_reducible refine Kd.C_drew ?_)));(case side2=>exact HC1.out);rintro e w' ⟨rfl,⟨nd,rfl⟩⟩))
   go_meet
   case rel=>exact⟨_,(!t2),(by first|rfl|(simp;done)|(simp[*];done)),H',⟨by first|omega|exact Nat.le_refl _⟩,by repeat(first|exact ZH.refl _|apply ZH.step)⟩
  ·replace c5:=Bool.eq_false_iff.mpr c5
   subst c5
   have H1:(ZW.j0 k l0 l1 true)=some r:=by rw[if_neg (show ¬(false=true) by decide)] at H;exact H
   clear H
   have H:=H1
   clear H1
   have H':=Za H
   clear H
   go_wp2_with (first|((with_reducible refine ZM (f:=175) rfl ?_);refine Z7 (some 8) rfl rfl Tryz.func175 (by kernel_rfl) rfl #[.slice A0 l0.length c0] rfl (by(try simp only[List.map_toArray,List.map_cons,List.map_nil]);first|done|rfl|(simp only[Zk,Zj];rfl)) ?_;(with_reducible refine(Zae.calls k _ _ l0 false _ ?side1 ?side2 A4.out).mono ?_);(case side1=>repeat(first|exact HR0.out|(with_reducible refine Kd.C_alloc ?_ _)|(with_reducible refine Kd.C_drewN ?_ _)|(with_reducible refine Kd.C_drew ?_)));(case side2=>exact HC0.out);rintro e w' ⟨rfl,⟨nd,rfl⟩⟩;refine⟨_,rfl,?_⟩))
   go_meet
   case rel=>exact⟨_,(true),(by first|rfl|(simp;done)|(simp[*];done)),H',⟨by first|omega|exact Nat.le_refl _⟩,by repeat(first|exact ZH.refl _|apply ZH.step)⟩
 case rest=>
  clear HC3
  try clear c1
  try clear p2
  try clear c5
  obtain⟨kq,x14_2,rfl,HA,HJ2,⟨mc2,rfl⟩⟩:=hcut
  cases kq with
  | zero=>exact absurd HA.out (by simp[ZW.j0])
  | succ kj2=>
   have H:=HA.out
   clear HA
   simp only[ZW.j0] at H
   by_cases c7:x14_2=true
   ·subst c7
    rw[if_pos rfl] at H
    obtain rfl:=Zg H
    go_wp2
    go_ret
    exact⟨by first|rfl|(simp;done)|(simp[*];done),by repeat(first|exact ZH.refl _|apply ZH.step)⟩
   ·replace c7:=Bool.eq_false_iff.mpr c7
    subst c7
    have H1:(ZW.l0 kj2 l0 l1 (l1.length:Int) 0)=some r:=by rw[if_neg (show ¬(false=true) by decide)] at H;exact H
    clear H
    have H:=H1
    clear H1
    have H':=Za H
    clear H
    go_wp2
    go_loopg [17] kj2 (fun kq v17 w'=>∃(x17_2:Int),v17=.int .i64 x17_2∧Aside0 (ZW.l0 kq l0 l1 (l1.length:Int) x17_2=some r)∧Aside0 (kq≤kj2)∧ZH w w')
    case atStart=>exact⟨(0),(by first|rfl|(simp;done)|(simp[*];done)),H',⟨Nat.le_refl _⟩,by repeat(first|exact ZH.refl _|apply ZH.step)⟩
    case round=>
     clear H'
     try clear c1
     try clear c2
     try clear p2
     try clear c5
     try clear c7
     try clear p2
     obtain⟨x17_2,rfl,HA,HK2,⟨m2,rfl⟩⟩:=hrel
     cases gk with
     | zero=>exact absurd HA.out (by simp[ZW.l0])
     | succ k2=>
      have H:=HA.out
      clear HA
      simp only[ZW.l0] at H
      by_cases c8:x17_2<(l1.length:Int)
      ·rw[if_pos c8] at H
       have c8b0:decide (x17_2<(l1.length:Int))=true:=Ze c8
       clear c8
       by_cases c9:0≤x17_2
       ·rw[if_pos c9] at H
        have c9b0:decide (0≤x17_2)=true:=Ze c9
        clear c9
        by_cases c10:x17_2<(l1.length:Int)
        ·rw[if_pos c10] at H
         have c10b0:decide (x17_2<(l1.length:Int))=true:=Ze c10
         clear c10
         replace H:=Zh H
         obtain⟨t4,A110,H⟩:=H;have A11:=Za A110;clear A110
         by_cases c12:t4=true
         ·subst c12
          rw[if_pos rfl] at H
          have H':=Za H
          clear H
          have p3:0≤(x17_2:Int):=Zd (by first|(with_reducible assumption)|assumption)
          have q3:x17_2<(l1.length:Int):=Zd (by first|(with_reducible assumption)|assumption)
          obtain⟨ad3,e3,hx3_0⟩:=Kd.at_int HR1.out x17_2 p3 q3
          cases e3
          replace p3:=eq_true p3
          replace q3:=eq_true q3
          go_wp2_with (first|((with_reducible refine ZM (f:=177) rfl ?_);refine Z7 (some 23) rfl rfl Tryz.func177 (by kernel_rfl) rfl #[.slice A0 l0.length c0,.int .i64 (rd l1 x17_2)] rfl (by(try simp only[List.map_toArray,List.map_cons,List.map_nil]);first|done|rfl|(simp only[Zk,Zj];rfl)) ?_;(with_reducible refine(ZaO.calls k2 _ _ l0 (rd l1 x17_2) true _ ?side1 ?side2 A11.out).mono ?_);(case side1=>repeat(first|exact HR0.out|(with_reducible refine Kd.C_alloc ?_ _)|(with_reducible refine Kd.C_drewN ?_ _)|(with_reducible refine Kd.C_drew ?_)));(case side2=>exact HC0.out);rintro e w' ⟨rfl,⟨nd,rfl⟩⟩;refine⟨_,rfl,?_⟩))
          go_roundg k2
          case measure=>have:=HJ2.out;have:=HK2.out;omega
          case rel=>exact⟨(wrap64 (x17_2+1)),(by first|rfl|(simp;done)|(simp[*];done)),H',⟨by have:=HJ2.out;have:=HK2.out;omega⟩,by repeat(first|exact ZH.refl _|apply ZH.step)⟩
         ·replace c12:=Bool.eq_false_iff.mpr c12
          subst c12
          have H1:(some false)=some r:=by rw[if_neg (show ¬(false=true) by decide)] at H;exact H
          clear H
          have H:=H1
          clear H1
          obtain rfl:=Zg H
          have p3:0≤(x17_2:Int):=Zd (by first|(with_reducible assumption)|assumption)
          have q3:x17_2<(l1.length:Int):=Zd (by first|(with_reducible assumption)|assumption)
          obtain⟨ad3,e3,hx3_0⟩:=Kd.at_int HR1.out x17_2 p3 q3
          cases e3
          replace p3:=eq_true p3
          replace q3:=eq_true q3
          go_wp2_with (first|((with_reducible refine ZM (f:=177) rfl ?_);refine Z7 (some 23) rfl rfl Tryz.func177 (by kernel_rfl) rfl #[.slice A0 l0.length c0,.int .i64 (rd l1 x17_2)] rfl (by(try simp only[List.map_toArray,List.map_cons,List.map_nil]);first|done|rfl|(simp only[Zk,Zj];rfl)) ?_;(with_reducible refine(ZaO.calls k2 _ _ l0 (rd l1 x17_2) false _ ?side1 ?side2 A11.out).mono ?_);(case side1=>repeat(first|exact HR0.out|(with_reducible refine Kd.C_alloc ?_ _)|(with_reducible refine Kd.C_drewN ?_ _)|(with_reducible refine Kd.C_drew ?_)));(case side2=>exact HC0.out);rintro e w' ⟨rfl,⟨nd,rfl⟩⟩;refine⟨_,rfl,?_⟩))
          go_ret
          exact⟨by first|rfl|(simp;done)|(simp[*];done),by repeat(first|exact ZH.refl _|apply ZH.step)⟩
        ·rw[if_neg c10] at H
         exact absurd H (by simp)
       ·rw[if_neg c9] at H
        exact absurd H (by simp)
      ·rw[if_neg c8] at H
       have c8b0:decide (x17_2<(l1.length:Int))=false:=Zf c8
       clear c8
       obtain rfl:=Zg H
       go_wp2
       go_ret
       exact⟨by first|rfl|(simp;done)|(simp[*];done),by repeat(first|exact ZH.refl _|apply ZH.step)⟩
def ZbK.f (l0:List Int) (a1:Int):Option Int:=some (Zbc (fun y=>decide (a1=y)) l0)
theorem ZbK.calls (A0:Option Addr) (c0:Nat) (l0:List Int) (a1:Int) (r:Int) (w:World) (hr0:Kd.C (Kd.int .i64) w A0 l0.length l0) (hc0:l0.length≤c0) (h:ZbK.f l0 a1=some r) :
  Calls Tryz.prog 163 #[.slice A0 l0.length c0,.int .i64 a1] w fun e w'=>e=.returned (.int .i64 r)∧Below w.heap.size w w':=by
 obtain rfl:=Zg h
 have HR0:=Za hr0
 have HL:l0.length≤9223372036854775807:=HR0.out.2.1
 clear hr0 h hc0
 go_enter Tryz.func163,Tryz.ntmps163
 go_wp2
 go_loopg [5,8] l0.length (fun gg _ s8 wr=>∃kk:Nat,Aside0 (kk≤l0.length)∧Aside0 (l0.length - kk≤gg)∧s8=.int .i64 kk∧Aside0 (Below w.heap.size w wr)∧Aside0 (∀j y,j<kk→l0[j]? = some y→decide (a1=y)=false))
 case atStart=>exact⟨0,⟨Nat.zero_le _⟩,⟨by omega⟩,rfl,⟨Below.refl _ _⟩,⟨fun j y hj=>absurd hj (Nat.not_lt_zero _)⟩⟩
 case round=>
  obtain⟨kk,HK,HG,rfl,HB,HN⟩:=hrel
  by_cases hlt:kk<l0.length
  ·have hltz:(kk:Int)<(l0.length:Int):=by omega
   obtain⟨ad,e1,hx⟩:=Kd.at_int HR0.out (kk:Int) (by omega) hltz
   cases e1
   replace hx:=(HB.out.cell (Zc w _ hx)).trans hx
   rw[Int.toNat_natCast] at hx
   have hxe:l0[kk]? = some (rd l0 (kk:Int)):=by
    unfold rd
    rw[Int.toNat_natCast,List.getD_eq_getElem?_getD,Zl hlt];rfl
   generalize rd l0 (kk:Int)=y at hx hxe
   have HX:=Za hxe;clear hxe
   by_cases hq:a1=y
   ·have hqb:(a1 == y)=true:=beq_iff_eq.2 hq
    have HQ:=Za (Ze hq)
    clear hq
    go_wp2
    go_ret
    exact⟨by rw[Zcd _ l0 kk y HX.out HQ.out HN.out];rfl,HB.out⟩
   ·have hqb:(a1 == y)=false:=beq_eq_false_iff_ne.2 hq
    have HQ:=Za (Zf hq)
    clear hq
    go_wp2
    go_roundg (l0.length - (kk+1))
    case measure=>have:=HG.out;omega
    case rel=>
     refine⟨kk+1,⟨by omega⟩,⟨by omega⟩,by go_num,HB,⟨fun j y' hj hy=>?_⟩⟩
     by_cases e:j=kk
     ·subst e
      rw[HX.out] at hy
      cases hy
      exact HQ.out
     ·exact HN.out j y' (by omega) hy
  ·have hltz:¬(kk:Int)<(l0.length:Int):=by omega
   have:kk=l0.length:=by have:=HK.out;omega
   subst this
   go_wp2
   go_ret
   exact⟨by rw[Zb0 _ l0 HN.out];rfl,HB.out⟩
theorem ZbK.quiet (A0:Option Addr) (c0:Nat) (l0:List Int) (a1:Int) (w:World) (hr0:Kd.C (Kd.int .i64) w A0 l0.length l0) :
  Calls Tryz.prog 163 #[.slice A0 l0.length c0,.int .i64 a1] w fun e w'=>e=.returned (.int .i64 (Zbc (fun y=>decide (a1=y)) l0))∧∃n,w'=w.drewN n:=by
 have HR0:=Za hr0
 have HL:l0.length≤9223372036854775807:=HR0.out.2.1
 clear hr0
 go_enter Tryz.func163,Tryz.ntmps163
 go_wp2
 go_loopg [5,8] l0.length (fun gg _ s8 wr=>∃kk:Nat,Aside0 (kk≤l0.length)∧Aside0 (l0.length - kk≤gg)∧s8=.int .i64 kk∧wr=w∧Aside0 (∀j y,j<kk→l0[j]? = some y→decide (a1=y)=false))
 case atStart=>exact⟨0,⟨Nat.zero_le _⟩,⟨by omega⟩,rfl,rfl,⟨fun j y hj=>absurd hj (Nat.not_lt_zero _)⟩⟩
 case round=>
  obtain⟨kk,HK,HG,rfl,rfl,HN⟩:=hrel
  by_cases hlt:kk<l0.length
  ·have hltz:(kk:Int)<(l0.length:Int):=by omega
   obtain⟨ad,e1,hx⟩:=Kd.at_int HR0.out (kk:Int) (by omega) hltz
   cases e1
   rw[Int.toNat_natCast] at hx
   have hxe:l0[kk]? = some (rd l0 (kk:Int)):=by
    unfold rd
    rw[Int.toNat_natCast,List.getD_eq_getElem?_getD,Zl hlt];rfl
   generalize rd l0 (kk:Int)=y at hx hxe
   have HX:=Za hxe;clear hxe
   by_cases hq:a1=y
   ·have hqb:(a1 == y)=true:=beq_iff_eq.2 hq
    have HQ:=Za (Ze hq)
    clear hq
    go_wp2
    go_ret
    exact⟨by rw[Zcd _ l0 kk y HX.out HQ.out HN.out];rfl,0,(World.drewN_zero _).symm⟩
   ·have hqb:(a1 == y)=false:=beq_eq_false_iff_ne.2 hq
    have HQ:=Za (Zf hq)
    clear hq
    go_wp2
    go_roundg (l0.length - (kk+1))
    case measure=>have:=HG.out;omega
    case rel=>
     refine⟨kk+1,⟨by omega⟩,⟨by omega⟩,by go_num,rfl,⟨fun j y' hj hy=>?_⟩⟩
     by_cases e:j=kk
     ·subst e
      rw[HX.out] at hy
      cases hy
      exact HQ.out
     ·exact HN.out j y' (by omega) hy
  ·have hltz:¬(kk:Int)<(l0.length:Int):=by omega
   have:kk=l0.length:=by have:=HK.out;omega
   subst this
   go_wp2
   go_ret
   exact⟨by rw[Zb0 _ l0 HN.out];rfl,0,(World.drewN_zero _).symm⟩
def ZaF.f (l0:List Int) (a1:Int):Option Bool:=some (l0.any fun y=>decide (a1=y))
theorem ZaF.calls (A0:Option Addr) (c0:Nat) (l0:List Int) (a1:Int) (r:Bool) (w:World) (hr0:Kd.C (Kd.int .i64) w A0 l0.length l0) (hc0:l0.length≤c0) (h:ZaF.f l0 a1=some r) :
  Calls Tryz.prog 151 #[.slice A0 l0.length c0,.int .i64 a1] w fun e w'=>e=.returned (.bool r)∧Below w.heap.size w w':=by
 obtain rfl:=Zg h
 have HI:=Za (ZbK.calls A0 c0 l0 a1 (Zbc (fun y=>decide (a1=y)) l0) w hr0 hc0 rfl)
 have HE:=Za (Zdg (fun y=>decide (a1=y)) l0)
 clear hr0 hc0 h
 go_enter Tryz.func151,Tryz.ntmps151
 go_wp2_with (go_at_call 163;refine HI.out.mono ?_;rintro e w' ⟨rfl,hb⟩)
 go_ret
 exact⟨by rw[← HE.out];rfl,hb⟩
theorem ZaF.hand (A0:Option Addr) (c0:Nat) (l0:List Int) (a1:Int) (w:World) (hr0:Kd.C (Kd.int .i64) w A0 l0.length l0) (hc0:l0.length≤c0) :
  Calls Tryz.prog 151 #[.slice A0 l0.length c0,.int .i64 a1] w fun e w'=>e=.returned (.bool (l0.any fun y=>decide (a1=y)))∧Below w.heap.size w w':=ZaF.calls A0 c0 l0 a1 _ w hr0 hc0 rfl
theorem ZdR.any (p:Int→Bool) (g:Nat) (lb:Array Value) (eg:∀args w,(callFunc g args).run Tryz.prog w=.ok (.enter g args) w) (A0:Option Addr) (c0:Nat) (l0:List Int) (w:World) (hr0:Kd.C (Kd.int .i64) w A0 l0.length l0)
  (hp:∀(W:World) (x:Int),x∈l0→Below w.heap.size w W→Calls Tryz.prog g (#[.int .i64 x] ++ lb) W fun e w'=>e=.returned (.bool (p x))∧Below W.heap.size W w') :
  Calls Tryz.prog 150 #[.slice A0 l0.length c0,.func (.func g) #[] lb] w fun e w'=>e=.returned (.int .i64 (Zbc p l0))∧Below w.heap.size w w':=by
 have HR0:=Za hr0;have HP:=Za hp;clear hr0 hp
 have HL:l0.length≤9223372036854775807:=HR0.out.2.1
 go_enter Tryz.func150,Tryz.ntmps150
 go_wp2
 go_loopg [5,8] l0.length (fun gg _ s8 wr=>∃kk:Nat,Aside0 (kk≤l0.length)∧Aside0 (l0.length - kk≤gg)∧s8=.int .i64 kk∧Aside0 (Below w.heap.size w wr)∧Aside0 (∀j y,j<kk→l0[j]? = some y→p y=false))
 case atStart=>exact⟨0,⟨Nat.zero_le _⟩,⟨by omega⟩,rfl,⟨Below.refl _ _⟩,⟨fun j y hj=>absurd hj (Nat.not_lt_zero _)⟩⟩
 case round=>
  obtain⟨kk,HK,HG,rfl,HB,HN⟩:=hrel
  by_cases hlt:kk<l0.length
  ·have hltz:(kk:Int)<(l0.length:Int):=by omega
   obtain⟨ad,e1,hx0⟩:=Kd.at_int HR0.out (kk:Int) (by omega) hltz
   cases e1
   replace hx0:=(HB.out.cell (Zc w _ hx0)).trans hx0
   rw[Int.toNat_natCast] at hx0
   have hxe:l0[kk]? = some (rd l0 (kk:Int)):=by
    unfold rd
    rw[Int.toNat_natCast,List.getD_eq_getElem?_getD,Zl hlt];rfl
   generalize rd l0 (kk:Int)=y at hx0 hxe
   have HX:=Za hxe;clear hxe
   have hcall:=HP.out wr y (List.mem_of_getElem? HX.out) HB.out
   cases hq:p y with
   | true=>
    have HQ:=Za hq
    rw[hq] at hcall
    clear hq
    go_wp2_with (go_at_fn g;refine hcall.mono ?_;rintro e w' ⟨rfl,hb⟩)
    go_ret
    exact⟨by rw[Zcd p l0 kk y HX.out HQ.out HN.out];rfl,HB.out.trans (hb.mono HB.out.size)⟩
   | false=>
    have HQ:=Za hq
    rw[hq] at hcall
    clear hq
    go_wp2_with (go_at_fn g;refine hcall.mono ?_;rintro e w' ⟨rfl,hb⟩)
    go_roundg (l0.length - (kk+1))
    case measure=>have:=HG.out;omega
    case rel=>
     refine⟨kk+1,⟨by omega⟩,⟨by omega⟩,by go_num,⟨HB.out.trans (hb.mono HB.out.size)⟩,⟨fun j y' hj hy=>?_⟩⟩
     by_cases e:j=kk
     ·subst e
      rw[HX.out] at hy
      cases hy
      exact HQ.out
     ·exact HN.out j y' (by omega) hy
  ·have hltz:¬(kk:Int)<(l0.length:Int):=by omega
   have:kk=l0.length:=by have:=HK.out;omega
   subst this
   go_wp2
   go_ret
   exact⟨by rw[Zb0 p l0 HN.out];rfl,HB.out⟩
theorem Zb2.any (p:Int→Bool) (g:Nat) (lb:Array Value) (eg:∀args w,(callFunc g args).run Tryz.prog w=.ok (.enter g args) w) (A0:Option Addr) (c0:Nat) (l0:List Int) (w:World) (hr0:Kd.C (Kd.int .i64) w A0 l0.length l0)
  (hp:∀(W:World) (x:Int),x∈l0→Below w.heap.size w W→Calls Tryz.prog g (#[.int .i64 x] ++ lb) W fun e w'=>e=.returned (.bool (p x))∧Below W.heap.size W w') :
  Calls Tryz.prog 79 #[.slice A0 l0.length c0,.func (.func g) #[] lb] w fun e w'=>e=.returned (.bool (l0.any p))∧Below w.heap.size w w':=by
 have HI:=Za (ZdR.any p g lb eg A0 c0 l0 w hr0 hp)
 clear hr0 hp
 have HE:=Za (Zdg p l0)
 go_enter Tryz.func79,Tryz.ntmps79
 go_wp2_with (go_at_call 150;refine HI.out.mono ?_;rintro e w' ⟨rfl,hb⟩)
 go_ret
 exact⟨by rw[← HE.out];rfl,hb⟩
end Go.Proofs.YtoeimopgoaffcaaGreatDoor.Pr
