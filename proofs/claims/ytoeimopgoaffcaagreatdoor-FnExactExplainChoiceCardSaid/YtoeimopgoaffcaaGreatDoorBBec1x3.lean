/- By a program of this session. -/
import Derived.Shelf.Abstract
import Derived.Test.YtoeimopgoaffcaaGreatDoorBBec1x2
set_option maxHeartbeats 8000000
set_option maxRecDepth 100000
namespace Go.Proofs.YtoeimopgoaffcaaGreatDoor.Pr
open RowKit YtoeimopgoaffcaaGreatDoorW.PrintWords YtoeimopgoaffcaaGreatDoorW.PrintLast YtoeimopgoaffcaaGreatDoorW.PrintMore
attribute [local go_sem] Zau Zas ZaL ZaK Zaf Zae Zat Zar
set_option linter.unusedVariables false
set_option linter.unusedSimpArgs false
def Z5.l0:Nat→List Int→List Int→Int→Int→Option (Bool)
 | 0,_,_,_,_=>none
 | k+1,x0,x5,x6,x7=>if x7<x6 then(if 0≤x7 then(if x7<(x5.length:Int) then(if (rd x5 x7)=0 then(some false) else((ZU.f (rd x5 x7) (-3) 3).bind fun t2=>(if t2=true then(if x7 > 0 then(if 0≤(wrap64 (x7 - 1)) then(if (wrap64 (x7 - 1))<(x0.length:Int) then((ZaA.f (rd x0 (wrap64 (x7 - 1)))).bind fun t4=>((ZaA.f (rd x5 x7)).bind fun t5=>(if t4≥t5 then(some false) else(Z5.l0 k x0 x5 x6 (wrap64 (x7+1)))))) else(none)) else(none)) else(Z5.l0 k x0 x5 x6 (wrap64 (x7+1)))) else(some false)))) else(none)) else(none)) else(some true)
def Z5.f (k:Nat) (l0:List Int):Option (Bool):=Z5.l0 k l0 l0 (l0.length:Int) 0
theorem Z5.calls (k:Nat) (A0:Option Addr) (c0:Nat) (l0:List Int) (r:Bool) (w:World) (hr0:Kd.C (Kd.int .i64) w A0 l0.length l0) (hc0:l0.length≤c0) (h:Z5.f k l0=some r) :
  Calls Tryz.prog 175 #[.slice A0 l0.length c0] w fun e w'=>e=.returned (.bool r)∧ZF w w':=by
 have HR0:=Za hr0;have HC0:=Za hc0;clear hr0 hc0
 have H:(Z5.l0 k l0 l0 (l0.length:Int) 0)=some r:=h
 clear h
 have H':=Za H
 clear H
 go_enter Tryz.func175,Tryz.ntmps175
 go_wp2
 go_loopg [7] k (fun kq v7 w'=>∃(x7_1:Int),v7=.int .i64 x7_1∧Aside0 (Z5.l0 kq l0 l0 (l0.length:Int) x7_1=some r)∧Aside0 (kq≤k)∧ZF w w')
 case atStart=>exact⟨(0),(by first|rfl|(simp;done)|(simp[*];done)),H',⟨Nat.le_refl _⟩,by repeat(first|exact ZF.refl _|apply ZF.step)⟩
 case round=>
  clear H'
  try clear c1
  obtain⟨x7_1,rfl,HA,HK1,⟨m1,rfl⟩⟩:=hrel
  cases gk with
  | zero=>exact absurd HA.out (by simp[Z5.l0])
  | succ k1=>
   have H:=HA.out
   clear HA
   simp only[Z5.l0] at H
   by_cases c2:x7_1<(l0.length:Int)
   ·rw[if_pos c2] at H
    have c2b0:decide (x7_1<(l0.length:Int))=true:=Ze c2
    clear c2
    by_cases c3:0≤x7_1
    ·rw[if_pos c3] at H
     have c3b0:decide (0≤x7_1)=true:=Ze c3
     clear c3
     by_cases c4:x7_1<(l0.length:Int)
     ·rw[if_pos c4] at H
      have c4b0:decide (x7_1<(l0.length:Int))=true:=Ze c4
      clear c4
      by_cases c5:(rd l0 x7_1)=0
      ·rw[if_pos c5] at H
       have c5b0:((rd l0 x7_1) == 0)=true:=beq_iff_eq.mpr c5
       clear c5
       obtain rfl:=Zg H
       have p1:0≤(x7_1:Int):=Zd (by with_reducible assumption)
       have q1:x7_1<(l0.length:Int):=Zd (by with_reducible assumption)
       obtain⟨ad1,e1,hx1_0⟩:=Kd.at_int HR0.out x7_1 p1 q1
       cases e1
       replace p1:=eq_true p1
       replace q1:=eq_true q1
       go_wp2
       go_ret
       exact⟨by first|rfl|(simp;done)|(simp[*];done),by repeat(first|exact ZF.refl _|apply ZF.step)⟩
      ·rw[if_neg c5] at H
       have c5b0:((rd l0 x7_1) == 0)=false:=beq_eq_false_iff_ne.mpr c5
       replace H:=Zh H
       obtain⟨t2,A60,H⟩:=H;have A6:=Za A60;clear A60
       by_cases c7:t2=true
       ·subst c7
        rw[if_pos rfl] at H
        by_cases c8:x7_1 > 0
        ·rw[if_pos c8] at H
         have c8b0:decide (0<x7_1)=true:=Ze c8
         clear c8
         obtain⟨ji9,hji9⟩:∃j_:Int,(wrap64 (x7_1 - 1))=j_:=⟨_,rfl⟩
         replace H:(if 0≤(ji9) then(if (ji9)<(l0.length:Int) then((ZaA.f (rd l0 (ji9))).bind fun t4=>((ZaA.f (rd l0 x7_1)).bind fun t5=>(if t4≥t5 then(some false) else(Z5.l0 k1 l0 l0 (l0.length:Int) (wrap64 (x7_1+1)))))) else(none)) else(none))=some r:=by first|(rw[hji9] at H;exact H)|(simp only[hji9] at H ⊢;exact H)
         (try rw[hji9] at A6)
         have hji9w:(IntKind.i64.wrap (x7_1 - 1))=ji9:=(i64_w _).trans hji9
         by_cases c10:0≤(ji9)
         ·rw[if_pos c10] at H
          have c10b0:decide (0≤(ji9))=true:=Ze c10
          clear c10
          by_cases c11:(ji9)<(l0.length:Int)
          ·rw[if_pos c11] at H
           have c11b0:decide ((ji9)<(l0.length:Int))=true:=Ze c11
           clear c11
           replace H:=Zh H
           obtain⟨t4,A120,H⟩:=H;have A12:=Za A120;clear A120
           replace H:=Zh H
           obtain⟨t5,A130,H⟩:=H;have A13:=Za A130;clear A130
           by_cases c14:t4≥t5
           ·rw[if_pos c14] at H
            have c14b0:decide (t5≤t4)=true:=Ze c14
            clear c14
            obtain rfl:=Zg H
            have p1:0≤(x7_1:Int):=Zd (by with_reducible assumption)
            have q1:x7_1<(l0.length:Int):=Zd (by with_reducible assumption)
            obtain⟨ad1,e1,hx1_0⟩:=Kd.at_int HR0.out x7_1 p1 q1
            cases e1
            replace p1:=eq_true p1
            replace q1:=eq_true q1
            go_wp2_with (first|(go_at_call 127;(with_reducible refine(ZU.calls (rd l0 x7_1) (-3) 3 true _ A6.out).mono ?_);rintro e w' ⟨rfl,⟨nd,rfl⟩⟩;have p3:0≤((ji9):Int):=Zd (by with_reducible assumption);have q3:(ji9)<(l0.length:Int):=Zd (by with_reducible assumption);obtain⟨ad3,e3,hx3_0⟩:=Kd.at_int HR0.out (ji9) p3 q3;obtain rfl:ad1=ad3:=(by injection e3);replace p3:=eq_true p3;replace q3:=eq_true q3)|(go_at_call 98;(with_reducible refine(ZaA.calls (rd l0 (ji9)) t4 _ A12.out).mono ?_);rintro e w' ⟨rfl,⟨nd,rfl⟩⟩)|(go_at_call 98;(with_reducible refine(ZaA.calls (rd l0 x7_1) t5 _ A13.out).mono ?_);rintro e w' ⟨rfl,⟨nd,rfl⟩⟩))
            go_ret
            exact⟨by first|rfl|(simp;done)|(simp only[← hji9] <;> (first|rfl|simp))|(simp[*];done),by repeat(first|exact ZF.refl _|apply ZF.step)⟩
           ·rw[if_neg c14] at H
            have c14b0:decide (t5≤t4)=false:=Zf c14
            clear c14
            have H':=Za H
            clear H
            have p1:0≤(x7_1:Int):=Zd (by with_reducible assumption)
            have q1:x7_1<(l0.length:Int):=Zd (by with_reducible assumption)
            obtain⟨ad1,e1,hx1_0⟩:=Kd.at_int HR0.out x7_1 p1 q1
            cases e1
            replace p1:=eq_true p1
            replace q1:=eq_true q1
            go_wp2_with (first|(go_at_call 127;(with_reducible refine(ZU.calls (rd l0 x7_1) (-3) 3 true _ A6.out).mono ?_);rintro e w' ⟨rfl,⟨nd,rfl⟩⟩;have p3:0≤((ji9):Int):=Zd (by with_reducible assumption);have q3:(ji9)<(l0.length:Int):=Zd (by with_reducible assumption);obtain⟨ad3,e3,hx3_0⟩:=Kd.at_int HR0.out (ji9) p3 q3;obtain rfl:ad1=ad3:=(by injection e3);replace p3:=eq_true p3;replace q3:=eq_true q3)|(go_at_call 98;(with_reducible refine(ZaA.calls (rd l0 (ji9)) t4 _ A12.out).mono ?_);rintro e w' ⟨rfl,⟨nd,rfl⟩⟩)|(go_at_call 98;(with_reducible refine(ZaA.calls (rd l0 x7_1) t5 _ A13.out).mono ?_);rintro e w' ⟨rfl,⟨nd,rfl⟩⟩))
            go_roundg k1
            case measure=>have:=HK1.out;omega
            case rel=>exact⟨(wrap64 (x7_1+1)),(by first|rfl|(simp;done)|(simp[*];done)),H',⟨by have:=HK1.out;omega⟩,by repeat(first|exact ZF.refl _|apply ZF.step)⟩
          ·rw[if_neg c11] at H
           exact absurd H (by simp)
         ·rw[if_neg c10] at H
          exact absurd H (by simp)
        ·rw[if_neg c8] at H
         have c8b0:decide (0<x7_1)=false:=Zf c8
         clear c8
         have H':=Za H
         clear H
         have p1:0≤(x7_1:Int):=Zd (by with_reducible assumption)
         have q1:x7_1<(l0.length:Int):=Zd (by with_reducible assumption)
         obtain⟨ad1,e1,hx1_0⟩:=Kd.at_int HR0.out x7_1 p1 q1
         cases e1
         replace p1:=eq_true p1
         replace q1:=eq_true q1
         go_wp2_with (first|(go_at_call 127;(with_reducible refine(ZU.calls (rd l0 x7_1) (-3) 3 true _ A6.out).mono ?_);rintro e w' ⟨rfl,⟨nd,rfl⟩⟩))
         go_roundg k1
         case measure=>have:=HK1.out;omega
         case rel=>exact⟨(wrap64 (x7_1+1)),(by first|rfl|(simp;done)|(simp[*];done)),H',⟨by have:=HK1.out;omega⟩,by repeat(first|exact ZF.refl _|apply ZF.step)⟩
       ·replace c7:=Bool.eq_false_iff.mpr c7
        subst c7
        have H1:(some false)=some r:=by rw[if_neg (show ¬(false=true) by decide)] at H;exact H
        clear H
        have H:=H1
        clear H1
        obtain rfl:=Zg H
        have p1:0≤(x7_1:Int):=Zd (by with_reducible assumption)
        have q1:x7_1<(l0.length:Int):=Zd (by with_reducible assumption)
        obtain⟨ad1,e1,hx1_0⟩:=Kd.at_int HR0.out x7_1 p1 q1
        cases e1
        replace p1:=eq_true p1
        replace q1:=eq_true q1
        go_wp2_with (first|(go_at_call 127;(with_reducible refine(ZU.calls (rd l0 x7_1) (-3) 3 false _ A6.out).mono ?_);rintro e w' ⟨rfl,⟨nd,rfl⟩⟩))
        go_ret
        exact⟨by first|rfl|(simp;done)|(simp[*];done),by repeat(first|exact ZF.refl _|apply ZF.step)⟩
     ·rw[if_neg c4] at H
      exact absurd H (by simp)
    ·rw[if_neg c3] at H
     exact absurd H (by simp)
   ·rw[if_neg c2] at H
    have c2b0:decide (x7_1<(l0.length:Int))=false:=Zf c2
    clear c2
    obtain rfl:=Zg H
    go_wp2
    go_ret
    exact⟨by first|rfl|(simp;done)|(simp[*];done),by repeat(first|exact ZF.refl _|apply ZF.step)⟩
def ZaM.f (a0:Int):Option (Int):=some (mx a0 (wrap64 (-a0)))
theorem ZaM.calls (a0:Int) (r:Int) (w:World) (h:ZaM.f a0=some r) :
  Calls Tryz.prog 144 #[.int .i64 a0] w fun e w'=>e=.returned (.int .i64 r)∧Below w.heap.size w w':=by
 have HB:=Za (Below.refl w.heap.size w)
 have H:(some (mx a0 (wrap64 (-a0))))=some r:=h
 clear h
 obtain⟨ji2,hji2⟩:∃j_:Int,(mx a0 (wrap64 (-a0)))=j_:=⟨_,rfl⟩
 replace H:(some ji2)=some r:=by first|(rw[hji2] at H;exact H)|(simp only[hji2] at H ⊢;exact H)
 have hji2_:(if a0<(wrap64 (-a0)) then(wrap64 (-a0)) else a0)=ji2:=hji2
 obtain rfl:=Zg H
 go_enter Tryz.func144,Tryz.ntmps144
 go_wp2
 go_ret
 exact⟨by first|rfl|(simp[ZB,ZA] <;> rfl)|(simp only[← hji2];first|rfl|(simp[ZB,ZA] <;> rfl))|(simp[*,ZB,ZA] <;> rfl),by repeat(first|(with_reducible first|exact HB.out|apply Zo|apply Zm|apply Zp)|exact HB.out)⟩
def Z2.l0:Nat→List Int→List Int→Int→Int→Option (Bool)
 | 0,_,_,_,_=>none
 | k+1,x0,x5,x6,x7=>if x7<x6 then(if 0≤x7 then(if x7<(x5.length:Int) then(if (rd x5 x7)=0 then(some false) else(if (rd x5 x7)<(-3) then(some false) else(if (rd x5 x7) > 3 then(some false) else(if x7 > 0 then(if 0≤(wrap64 (x7 - 1)) then(if (wrap64 (x7 - 1))<(x0.length:Int) then((ZaM.f (rd x0 (wrap64 (x7 - 1)))).bind fun t3=>((ZaM.f (rd x5 x7)).bind fun t4=>(if t3≥t4 then(some false) else(Z2.l0 k x0 x5 x6 (wrap64 (x7+1)))))) else(none)) else(none)) else(Z2.l0 k x0 x5 x6 (wrap64 (x7+1))))))) else(none)) else(none)) else(some true)
def Z2.f (k:Nat) (l0:List Int):Option (Bool):=Z2.l0 k l0 l0 (l0.length:Int) 0
theorem Z2.calls (k:Nat) (A0:Option Addr) (c0:Nat) (l0:List Int) (r:Bool) (w:World) (hr0:Kd.C (Kd.int .i64) w A0 l0.length l0) (hc0:l0.length≤c0) (h:Z2.f k l0=some r) :
  Calls Tryz.prog 87 #[.slice A0 l0.length c0] w fun e w'=>e=.returned (.bool r)∧Below w.heap.size w w':=by
 have HR0:=Za hr0;have HC0:=Za hc0;clear hr0 hc0
 have HB:=Za (Below.refl w.heap.size w)
 have H:(Z2.l0 k l0 l0 (l0.length:Int) 0)=some r:=h
 clear h
 have H':=Za H
 clear H
 go_enter Tryz.func87,Tryz.ntmps87
 go_wp2
 go_loopg [7] k (fun kq v7 w'=>∃(x7_1:Int),v7=.int .i64 x7_1∧Aside0 (Z2.l0 kq l0 l0 (l0.length:Int) x7_1=some r)∧Aside0 (kq≤k)∧Aside0 (Below w.heap.size w w'))
 case atStart=>exact⟨(0),(by first|rfl|(simp;done)|(simp[*];done)),H',⟨Nat.le_refl _⟩,⟨by repeat(first|(with_reducible first|exact HB.out|apply Zo|apply Zm|apply Zp)|exact HB.out)⟩⟩
 case round=>
  clear H'
  obtain⟨x7_1,rfl,HA,HK1,HB⟩:=hrel
  cases gk with
  | zero=>exact absurd HA.out (by simp[Z2.l0])
  | succ k1=>
   have H:=HA.out
   clear HA
   simp only[Z2.l0] at H
   by_cases c2:x7_1<(l0.length:Int)
   ·rw[if_pos c2] at H
    have c2b0:decide (x7_1<(l0.length:Int))=true:=Ze c2
    clear c2
    by_cases c3:0≤x7_1
    ·rw[if_pos c3] at H
     have c3b0:decide (0≤x7_1)=true:=Ze c3
     clear c3
     by_cases c4:x7_1<(l0.length:Int)
     ·rw[if_pos c4] at H
      have c4b0:decide (x7_1<(l0.length:Int))=true:=Ze c4
      clear c4
      by_cases c5:(rd l0 x7_1)=0
      ·rw[if_pos c5] at H
       have c5b0:((rd l0 x7_1) == 0)=true:=beq_iff_eq.mpr c5
       clear c5
       obtain rfl:=Zg H
       have p1:0≤(x7_1:Int):=Zd (by with_reducible assumption)
       have q1:x7_1<(l0.length:Int):=Zd (by with_reducible assumption)
       obtain⟨ad1,e1,hx1_0⟩:=Kd.at_int HR0.out x7_1 p1 q1
       cases e1
       replace hx1_0:=(HB.out.cell (Zc w _ hx1_0)).trans hx1_0
       replace p1:=eq_true p1
       replace q1:=eq_true q1
       go_wp2
       go_ret
       exact⟨by first|rfl|(simp[ZB,ZA] <;> rfl)|(simp[*,ZB,ZA] <;> rfl),by repeat(first|(with_reducible first|exact HB.out|apply Zo|apply Zm|apply Zp)|exact HB.out)⟩
      ·rw[if_neg c5] at H
       have c5b0:((rd l0 x7_1) == 0)=false:=beq_eq_false_iff_ne.mpr c5
       by_cases c6:(rd l0 x7_1)<(-3)
       ·rw[if_pos c6] at H
        have c6b0:decide ((rd l0 x7_1)<(-3))=true:=Ze c6
        clear c6
        obtain rfl:=Zg H
        have p1:0≤(x7_1:Int):=Zd (by with_reducible assumption)
        have q1:x7_1<(l0.length:Int):=Zd (by with_reducible assumption)
        obtain⟨ad1,e1,hx1_0⟩:=Kd.at_int HR0.out x7_1 p1 q1
        cases e1
        replace hx1_0:=(HB.out.cell (Zc w _ hx1_0)).trans hx1_0
        replace p1:=eq_true p1
        replace q1:=eq_true q1
        go_wp2
        go_ret
        exact⟨by first|rfl|(simp[ZB,ZA] <;> rfl)|(simp[*,ZB,ZA] <;> rfl),by repeat(first|(with_reducible first|exact HB.out|apply Zo|apply Zm|apply Zp)|exact HB.out)⟩
       ·rw[if_neg c6] at H
        have c6b0:decide ((rd l0 x7_1)<(-3))=false:=Zf c6
        clear c6
        by_cases c7:(rd l0 x7_1) > 3
        ·rw[if_pos c7] at H
         have c7b0:decide (3<(rd l0 x7_1))=true:=Ze c7
         clear c7
         obtain rfl:=Zg H
         have p1:0≤(x7_1:Int):=Zd (by with_reducible assumption)
         have q1:x7_1<(l0.length:Int):=Zd (by with_reducible assumption)
         obtain⟨ad1,e1,hx1_0⟩:=Kd.at_int HR0.out x7_1 p1 q1
         cases e1
         replace hx1_0:=(HB.out.cell (Zc w _ hx1_0)).trans hx1_0
         replace p1:=eq_true p1
         replace q1:=eq_true q1
         go_wp2
         go_ret
         exact⟨by first|rfl|(simp[ZB,ZA] <;> rfl)|(simp[*,ZB,ZA] <;> rfl),by repeat(first|(with_reducible first|exact HB.out|apply Zo|apply Zm|apply Zp)|exact HB.out)⟩
        ·rw[if_neg c7] at H
         have c7b0:decide (3<(rd l0 x7_1))=false:=Zf c7
         clear c7
         by_cases c8:x7_1 > 0
         ·rw[if_pos c8] at H
          have c8b0:decide (0<x7_1)=true:=Ze c8
          clear c8
          obtain⟨ji9,hji9⟩:∃j_:Int,(wrap64 (x7_1 - 1))=j_:=⟨_,rfl⟩
          replace H:(if 0≤(ji9) then(if (ji9)<(l0.length:Int) then((ZaM.f (rd l0 (ji9))).bind fun t3=>((ZaM.f (rd l0 x7_1)).bind fun t4=>(if t3≥t4 then(some false) else(Z2.l0 k1 l0 l0 (l0.length:Int) (wrap64 (x7_1+1)))))) else(none)) else(none))=some r:=by first|(rw[hji9] at H;exact H)|(simp only[hji9] at H ⊢;exact H)
          have hji9w:(IntKind.i64.wrap (x7_1 - 1))=ji9:=(i64_w _).trans hji9
          by_cases c10:0≤(ji9)
          ·rw[if_pos c10] at H
           have c10b0:decide (0≤(ji9))=true:=Ze c10
           clear c10
           by_cases c11:(ji9)<(l0.length:Int)
           ·rw[if_pos c11] at H
            have c11b0:decide ((ji9)<(l0.length:Int))=true:=Ze c11
            clear c11
            replace H:=Zh H
            obtain⟨t3,A120,H⟩:=H;have A12:=Za A120;clear A120
            replace H:=Zh H
            obtain⟨t4,A130,H⟩:=H;have A13:=Za A130;clear A130
            by_cases c14:t3≥t4
            ·rw[if_pos c14] at H
             have c14b0:decide (t4≤t3)=true:=Ze c14
             clear c14
             obtain rfl:=Zg H
             have p1:0≤(x7_1:Int):=Zd (by with_reducible assumption)
             have q1:x7_1<(l0.length:Int):=Zd (by with_reducible assumption)
             obtain⟨ad1,e1,hx1_0⟩:=Kd.at_int HR0.out x7_1 p1 q1
             cases e1
             replace hx1_0:=(HB.out.cell (Zc w _ hx1_0)).trans hx1_0
             replace p1:=eq_true p1
             replace q1:=eq_true q1
             have p2:0≤((ji9):Int):=Zd (by with_reducible assumption)
             have q2:(ji9)<(l0.length:Int):=Zd (by with_reducible assumption)
             obtain⟨ad2,e2,hx2_0⟩:=Kd.at_int HR0.out (ji9) p2 q2
             obtain rfl:ad1=ad2:=(by injection e2)
             replace hx2_0:=(HB.out.cell (Zc w _ hx2_0)).trans hx2_0
             replace p2:=eq_true p2
             replace q2:=eq_true q2
             go_wp2_with (first|(go_at_call 144;(with_reducible refine(ZaM.calls (rd l0 (ji9)) t3 _ A12.out).mono ?_);rintro e w15 ⟨rfl,hb⟩;replace HB:=Za (Zq (by exact HB.out) hb);(try clear hi))|(go_at_call 144;(with_reducible refine(ZaM.calls (rd l0 x7_1) t4 _ A13.out).mono ?_);rintro e w16 ⟨rfl,hb⟩;replace HB:=Za (Zq (by exact HB.out) hb);(try clear hi)))
             go_ret
             exact⟨by first|rfl|(simp[ZB,ZA] <;> rfl)|(simp only[← hji9];first|rfl|(simp[ZB,ZA] <;> rfl))|(simp[*,ZB,ZA] <;> rfl),by repeat(first|(with_reducible first|exact HB.out|apply Zo|apply Zm|apply Zp)|exact HB.out)⟩
            ·rw[if_neg c14] at H
             have c14b0:decide (t4≤t3)=false:=Zf c14
             clear c14
             have H':=Za H
             clear H
             have p1:0≤(x7_1:Int):=Zd (by with_reducible assumption)
             have q1:x7_1<(l0.length:Int):=Zd (by with_reducible assumption)
             obtain⟨ad1,e1,hx1_0⟩:=Kd.at_int HR0.out x7_1 p1 q1
             cases e1
             replace hx1_0:=(HB.out.cell (Zc w _ hx1_0)).trans hx1_0
             replace p1:=eq_true p1
             replace q1:=eq_true q1
             have p2:0≤((ji9):Int):=Zd (by with_reducible assumption)
             have q2:(ji9)<(l0.length:Int):=Zd (by with_reducible assumption)
             obtain⟨ad2,e2,hx2_0⟩:=Kd.at_int HR0.out (ji9) p2 q2
             obtain rfl:ad1=ad2:=(by injection e2)
             replace hx2_0:=(HB.out.cell (Zc w _ hx2_0)).trans hx2_0
             replace p2:=eq_true p2
             replace q2:=eq_true q2
             go_wp2_with (first|(go_at_call 144;(with_reducible refine(ZaM.calls (rd l0 (ji9)) t3 _ A12.out).mono ?_);rintro e w17 ⟨rfl,hb⟩;replace HB:=Za (Zq (by exact HB.out) hb);(try clear hi))|(go_at_call 144;(with_reducible refine(ZaM.calls (rd l0 x7_1) t4 _ A13.out).mono ?_);rintro e w18 ⟨rfl,hb⟩;replace HB:=Za (Zq (by exact HB.out) hb);(try clear hi)))
             go_roundg k1
             case measure=>have:=HK1.out;omega
             case rel=>exact⟨(wrap64 (x7_1+1)),(by first|rfl|(simp;done)|(simp[*];done)),H',⟨by have:=HK1.out;omega⟩,⟨by repeat(first|(with_reducible first|exact HB.out|apply Zo|apply Zm|apply Zp)|exact HB.out)⟩⟩
           ·rw[if_neg c11] at H
            exact absurd H (by simp)
          ·rw[if_neg c10] at H
           exact absurd H (by simp)
         ·rw[if_neg c8] at H
          have c8b0:decide (0<x7_1)=false:=Zf c8
          clear c8
          have H':=Za H
          clear H
          have p1:0≤(x7_1:Int):=Zd (by with_reducible assumption)
          have q1:x7_1<(l0.length:Int):=Zd (by with_reducible assumption)
          obtain⟨ad1,e1,hx1_0⟩:=Kd.at_int HR0.out x7_1 p1 q1
          cases e1
          replace hx1_0:=(HB.out.cell (Zc w _ hx1_0)).trans hx1_0
          replace p1:=eq_true p1
          replace q1:=eq_true q1
          go_wp2
          go_roundg k1
          case measure=>have:=HK1.out;omega
          case rel=>exact⟨(wrap64 (x7_1+1)),(by first|rfl|(simp;done)|(simp[*];done)),H',⟨by have:=HK1.out;omega⟩,⟨by repeat(first|(with_reducible first|exact HB.out|apply Zo|apply Zm|apply Zp)|exact HB.out)⟩⟩
     ·rw[if_neg c4] at H
      exact absurd H (by simp)
    ·rw[if_neg c3] at H
     exact absurd H (by simp)
   ·rw[if_neg c2] at H
    have c2b0:decide (x7_1<(l0.length:Int))=false:=Zf c2
    clear c2
    obtain rfl:=Zg H
    go_wp2
    go_ret
    exact⟨by first|rfl|(simp[ZB,ZA] <;> rfl)|(simp[*,ZB,ZA] <;> rfl),by repeat(first|(with_reducible first|exact HB.out|apply Zo|apply Zm|apply Zp)|exact HB.out)⟩
open Ni
theorem Zdf {x:Int} (h:Zbp x=true):ZaA.f x=some (prp x):=by
 have:=(Zb0 x).1 h
 unfold ZaA.f prp
 split
 ·rw[Zay (by omega) (by omega)]
 ·rfl
theorem ZdY {x:Int} (h:Zbp x=true):ZaM.f x=some (prp x):=by
 have:=(Zb0 x).1 h
 unfold ZaM.f prp mx
 rw[Zay (by omega) (by omega)]
 congr 1
 split <;> split <;> omega
theorem Zdp (l:List Int) (hl:l.length≤9223372036854775807) (k:Nat) (hk:2 ^ 64≤k):Z5.f k l=some (labB l):=by
 have key:=Za2 l.length (fun k i=>(0<i→Zbp (l.getD (i - 1) 0)=true)→Z5.l0 k l l l.length (i:Int)=some (Zb5 (if i=0 then 0 else prp (l.getD (i - 1) 0)) (l.drop i))) 0
  (fun k _ _=>by simp[Z5.l0,Zb5])
  (fun k i _ hi ih hb=>by
   simp only[Z5.l0]
   rw[if_pos (by omega),if_pos (by omega),if_pos (by omega),ZaO,ZL hi (by omega),Z8 hi 0]
   unfold Zb5
   have ih':=fun h=>ih (fun _=>h)
   simp only[Nat.add_sub_cancel,Nat.add_eq_zero_iff,Nat.one_ne_zero,and_false,if_false] at ih'
   by_cases h0:l.getD i 0=0
   ·rw[if_pos h0,h0];simp[Zbp]
   rw[if_neg h0]
   unfold ZU.f
   by_cases h1:l.getD i 0≥-3
   ·rw[if_pos h1,Zi]
    by_cases h2:l.getD i 0≤3
    ·have hok:Zbp (l.getD i 0)=true:=(Zb0 _).2 ⟨h0,h1,h2⟩
     have hp:=Zde hok
     rw[if_pos (by simpa using h2)]
     by_cases hi0:i=0
     ·subst hi0
      rw[if_neg (by omega),ih' hok,hok]
      simp only[Bool.true_and,if_true]
      rw[Ze (show(0:Int)<prp (l.getD 0 0) by omega)]
      rfl
     ·rw[if_pos (by omega),wrap_pred (by omega) (by omega),if_pos (by omega),if_pos (by omega),ZaO,Zdf (hb (by omega)),Zi,Zdf hok,Zi,if_neg hi0,hok]
      by_cases hlt:prp (l.getD (i - 1) 0)<prp (l.getD i 0)
      ·rw[if_neg (by omega),ih' hok,Ze hlt];rfl
      ·rw[if_pos (by omega),Zf hlt];rfl
    ·rw[if_neg (by simpa using h2)]
     rw[show Zbp (l.getD i 0)=false from Bool.eq_false_iff.2 fun h=>by have:=(Zb0 _).1 h;omega];rfl
   ·rw[if_neg h1,Zi,if_neg (by decide)]
    rw[show Zbp (l.getD i 0)=false from Bool.eq_false_iff.2 fun h=>by have:=(Zb0 _).1 h;omega];rfl) 0 k (Nat.zero_le _) (by omega)
 unfold Z5.f labB
 have:=key (fun h=>absurd h (by omega))
 simpa using this
theorem Zc3 (l:List Int) (hl:l.length≤9223372036854775807) (k:Nat) (hk:2 ^ 64≤k):Z2.f k l=some (labB l):=by
 have key:=Za2 l.length (fun k i=>(0<i→Zbp (l.getD (i - 1) 0)=true)→Z2.l0 k l l l.length (i:Int)=some (Zb5 (if i=0 then 0 else prp (l.getD (i - 1) 0)) (l.drop i))) 0
  (fun k _ _=>by simp[Z2.l0,Zb5])
  (fun k i _ hi ih hb=>by
   simp only[Z2.l0]
   rw[if_pos (by omega),if_pos (by omega),if_pos (by omega),ZaO,ZL hi (by omega),Z8 hi 0]
   unfold Zb5
   have ih':=fun h=>ih (fun _=>h)
   simp only[Nat.add_sub_cancel,Nat.add_eq_zero_iff,Nat.one_ne_zero,and_false,if_false] at ih'
   by_cases h0:l.getD i 0=0
   ·rw[if_pos h0,h0];simp[Zbp]
   rw[if_neg h0]
   by_cases h1:l.getD i 0≥-3
   ·rw[if_neg (by omega)]
    by_cases h2:l.getD i 0≤3
    ·have hok:Zbp (l.getD i 0)=true:=(Zb0 _).2 ⟨h0,h1,h2⟩
     have hp:=Zde hok
     rw[if_neg (by omega)]
     by_cases hi0:i=0
     ·subst hi0
      rw[if_neg (by omega),ih' hok,hok]
      simp only[Bool.true_and,if_true]
      rw[Ze (show(0:Int)<prp (l.getD 0 0) by omega)]
      rfl
     ·rw[if_pos (by omega),wrap_pred (by omega) (by omega),if_pos (by omega),if_pos (by omega),ZaO,ZdY (hb (by omega)),Zi,ZdY hok,Zi,if_neg hi0,hok]
      by_cases hlt:prp (l.getD (i - 1) 0)<prp (l.getD i 0)
      ·rw[if_neg (by omega),ih' hok,Ze hlt];rfl
      ·rw[if_pos (by omega),Zf hlt];rfl
    ·rw[if_pos (by omega)]
     rw[show Zbp (l.getD i 0)=false from Bool.eq_false_iff.2 fun h=>by have:=(Zb0 _).1 h;omega];rfl
   ·rw[if_pos (by omega)]
    rw[show Zbp (l.getD i 0)=false from Bool.eq_false_iff.2 fun h=>by have:=(Zb0 _).1 h;omega];rfl) 0 k (Nat.zero_le _) (by omega)
 unfold Z2.f labB
 have:=key (fun h=>absurd h (by omega))
 simpa using this
def Zc7.f (k:Nat) (a0_0:ByteArray) (l0_1:List Int) (a0_2:Int):Option (Bool):=(ZaD.f k a0_0).bind fun t2=>(if t2=true then((Z5.f k l0_1).bind fun t3=>(if t3=true then((ZU.f a0_2 0 3).bind fun t4=>(some t4)) else(some false))) else(some false))
theorem Zc7.calls (k:Nat) (a0_0:ByteArray) (A0_1:Option Addr) (c0_1:Nat) (l0_1:List Int) (a0_2:Int) (r:Bool) (w:World) (hr0_1:Kd.C (Kd.int .i64) w A0_1 l0_1.length l0_1) (hc0_1:l0_1.length≤c0_1) (h:Zc7.f k a0_0 l0_1 a0_2=some r) :
  Calls Tryz.prog 176 #[.agg #[.string a0_0,.slice A0_1 l0_1.length c0_1,.int .i64 a0_2]] w fun e w'=>e=.returned (.bool r)∧Below w.heap.size w w':=by
 have hu39:=Tryz.underlying39
 have HR0_1:=Za hr0_1;have HC0_1:=Za hc0_1;clear hr0_1 hc0_1
 have HB:=Za (Below.refl w.heap.size w)
 have H:((ZaD.f k a0_0).bind fun t2=>(if t2=true then((Z5.f k l0_1).bind fun t3=>(if t3=true then((ZU.f a0_2 0 3).bind fun t4=>(some t4)) else(some false))) else(some false)))=some r:=h
 clear h
 replace H:=Zh H
 obtain⟨t2,A20,H⟩:=H;have A2:=Za A20;clear A20
 by_cases c3:t2=true
 ·subst c3
  rw[if_pos rfl] at H
  replace H:=Zh H
  obtain⟨t3,A40,H⟩:=H;have A4:=Za A40;clear A40
  by_cases c5:t3=true
  ·subst c5
   rw[if_pos rfl] at H
   replace H:=Zh H
   obtain⟨t4,A60,H⟩:=H;have A6:=Za A60;clear A60
   obtain rfl:=Zg H
   go_enter Tryz.func176,Tryz.ntmps176
   go_wp2_with (first|((with_reducible refine ZG (N:=1) rfl ?_);refine ZH ?hg (N:=1) ?hd (cs:=#[.string a0_0,.slice A0_1 l0_1.length c0_1,.int .i64 a0_2]) (t:=39) ?hr ?_;(case hd=>rfl);(case hg=>rfl);(case hr=>first|(go_simp;done)|(go_simp;rfl));intro gb1 hg w7 hbox hb;have BK1:=Za (hbox);have GW1:=Za ((by rw[hg];exact(Zv (by repeat(first|(with_reducible first|exact HB.out|apply Zo|apply Zm|apply Zp)|exact HB.out))):w.heap.size≤gb1));have GE1:=Za ((by rw[hg];exact(Zv (by repeat(first|(with_reducible first|exact HB.out|apply Zo|apply Zm|apply Zp)|exact HB.out))):w.heap.size≤gb1));replace HB:=Za (Zq (by repeat(first|(with_reducible first|exact HB.out|apply Zo|apply Zm|apply Zp)|exact HB.out)) hb);clear hb hbox hg;have hcz8_0:w7.cell? ⟨gb1,0,none⟩=some (.string a0_0):=(Zn BK1.out 0).trans rfl;have hcz8_1:w7.cell? ⟨gb1,1,none⟩=some (.slice A0_1 l0_1.length c0_1):=(Zn BK1.out 1).trans rfl;have hcz8_2:w7.cell? ⟨gb1,2,none⟩=some (.int .i64 a0_2):=(Zn BK1.out 2).trans rfl)|((with_reducible refine ZJ (f:=206) rfl ?_);refine ZY (some 5) rfl rfl Tryz.func206 (by kernel_rfl) rfl #[.string a0_0] rfl (by(try simp only[List.map_toArray,List.map_cons,List.map_nil]);first|done|rfl|(simp only[Zk,Zj];rfl)) ?_;(with_reducible refine(ZaD.calls k a0_0 true _ A2.out).mono ?_);rintro e w' ⟨rfl,⟨nd,rfl⟩⟩;refine⟨_,rfl,?_⟩)|(go_at_call 175;(with_reducible refine(Z5.calls k _ _ l0_1 true _ ?side1 ?side2 A4.out).mono ?_);(case side1=>repeat(first|exact(Zb HR0_1.out (by repeat(first|(with_reducible first|exact HB.out|apply Zo|apply Zm|apply Zp|refine Zs ?_ GE1.out)|exact HB.out)))|(with_reducible refine Kd.C_alloc ?_ _)|(with_reducible refine Kd.C_drewN ?_ _)|(with_reducible refine Kd.C_drew ?_)));(case side2=>exact HC0_1.out);rintro e w' ⟨rfl,⟨nd,rfl⟩⟩)|(go_at_call 127;(with_reducible refine(ZU.calls a0_2 0 3 t4 _ A6.out).mono ?_);rintro e w' ⟨rfl,⟨nd,rfl⟩⟩))
   go_ret
   exact⟨by first|rfl|(simp[ZB,ZA] <;> rfl)|(simp[*,ZB,ZA] <;> rfl),by repeat(first|(with_reducible first|exact HB.out|apply Zo|apply Zm|apply Zp|refine Zs ?_ GE1.out)|exact HB.out)⟩
  ·replace c5:=Bool.eq_false_iff.mpr c5
   subst c5
   have H1:(some false)=some r:=by rw[if_neg (show ¬(false=true) by decide)] at H;exact H
   clear H
   have H:=H1
   clear H1
   obtain rfl:=Zg H
   go_enter Tryz.func176,Tryz.ntmps176
   go_wp2_with (first|((with_reducible refine ZG (N:=1) rfl ?_);refine ZH ?hg (N:=1) ?hd (cs:=#[.string a0_0,.slice A0_1 l0_1.length c0_1,.int .i64 a0_2]) (t:=39) ?hr ?_;(case hd=>rfl);(case hg=>rfl);(case hr=>first|(go_simp;done)|(go_simp;rfl));intro gb1 hg w9 hbox hb;have BK1:=Za (hbox);have GW1:=Za ((by rw[hg];exact(Zv (by repeat(first|(with_reducible first|exact HB.out|apply Zo|apply Zm|apply Zp)|exact HB.out))):w.heap.size≤gb1));have GE1:=Za ((by rw[hg];exact(Zv (by repeat(first|(with_reducible first|exact HB.out|apply Zo|apply Zm|apply Zp)|exact HB.out))):w.heap.size≤gb1));replace HB:=Za (Zq (by repeat(first|(with_reducible first|exact HB.out|apply Zo|apply Zm|apply Zp)|exact HB.out)) hb);clear hb hbox hg;have hcz10_0:w9.cell? ⟨gb1,0,none⟩=some (.string a0_0):=(Zn BK1.out 0).trans rfl;have hcz10_1:w9.cell? ⟨gb1,1,none⟩=some (.slice A0_1 l0_1.length c0_1):=(Zn BK1.out 1).trans rfl;have hcz10_2:w9.cell? ⟨gb1,2,none⟩=some (.int .i64 a0_2):=(Zn BK1.out 2).trans rfl)|((with_reducible refine ZJ (f:=206) rfl ?_);refine ZY (some 5) rfl rfl Tryz.func206 (by kernel_rfl) rfl #[.string a0_0] rfl (by(try simp only[List.map_toArray,List.map_cons,List.map_nil]);first|done|rfl|(simp only[Zk,Zj];rfl)) ?_;(with_reducible refine(ZaD.calls k a0_0 true _ A2.out).mono ?_);rintro e w' ⟨rfl,⟨nd,rfl⟩⟩;refine⟨_,rfl,?_⟩)|(go_at_call 175;(with_reducible refine(Z5.calls k _ _ l0_1 false _ ?side1 ?side2 A4.out).mono ?_);(case side1=>repeat(first|exact(Zb HR0_1.out (by repeat(first|(with_reducible first|exact HB.out|apply Zo|apply Zm|apply Zp|refine Zs ?_ GE1.out)|exact HB.out)))|(with_reducible refine Kd.C_alloc ?_ _)|(with_reducible refine Kd.C_drewN ?_ _)|(with_reducible refine Kd.C_drew ?_)));(case side2=>exact HC0_1.out);rintro e w' ⟨rfl,⟨nd,rfl⟩⟩))
   go_ret
   exact⟨by first|rfl|(simp[ZB,ZA] <;> rfl)|(simp[*,ZB,ZA] <;> rfl),by repeat(first|(with_reducible first|exact HB.out|apply Zo|apply Zm|apply Zp|refine Zs ?_ GE1.out)|exact HB.out)⟩
 ·replace c3:=Bool.eq_false_iff.mpr c3
  subst c3
  have H1:(some false)=some r:=by rw[if_neg (show ¬(false=true) by decide)] at H;exact H
  clear H
  have H:=H1
  clear H1
  obtain rfl:=Zg H
  go_enter Tryz.func176,Tryz.ntmps176
  go_wp2_with (first|((with_reducible refine ZG (N:=1) rfl ?_);refine ZH ?hg (N:=1) ?hd (cs:=#[.string a0_0,.slice A0_1 l0_1.length c0_1,.int .i64 a0_2]) (t:=39) ?hr ?_;(case hd=>rfl);(case hg=>rfl);(case hr=>first|(go_simp;done)|(go_simp;rfl));intro gb1 hg w11 hbox hb;have BK1:=Za (hbox);have GW1:=Za ((by rw[hg];exact(Zv (by repeat(first|(with_reducible first|exact HB.out|apply Zo|apply Zm|apply Zp)|exact HB.out))):w.heap.size≤gb1));have GE1:=Za ((by rw[hg];exact(Zv (by repeat(first|(with_reducible first|exact HB.out|apply Zo|apply Zm|apply Zp)|exact HB.out))):w.heap.size≤gb1));replace HB:=Za (Zq (by repeat(first|(with_reducible first|exact HB.out|apply Zo|apply Zm|apply Zp)|exact HB.out)) hb);clear hb hbox hg;have hcz12_0:w11.cell? ⟨gb1,0,none⟩=some (.string a0_0):=(Zn BK1.out 0).trans rfl;have hcz12_1:w11.cell? ⟨gb1,1,none⟩=some (.slice A0_1 l0_1.length c0_1):=(Zn BK1.out 1).trans rfl;have hcz12_2:w11.cell? ⟨gb1,2,none⟩=some (.int .i64 a0_2):=(Zn BK1.out 2).trans rfl)|((with_reducible refine ZJ (f:=206) rfl ?_);refine ZY (some 5) rfl rfl Tryz.func206 (by kernel_rfl) rfl #[.string a0_0] rfl (by(try simp only[List.map_toArray,List.map_cons,List.map_nil]);first|done|rfl|(simp only[Zk,Zj];rfl)) ?_;(with_reducible refine(ZaD.calls k a0_0 false _ A2.out).mono ?_);rintro e w' ⟨rfl,⟨nd,rfl⟩⟩;refine⟨_,rfl,?_⟩))
  go_ret
  exact⟨by first|rfl|(simp[ZB,ZA] <;> rfl)|(simp[*,ZB,ZA] <;> rfl),by repeat(first|(with_reducible first|exact HB.out|apply Zo|apply Zm|apply Zp|refine Zs ?_ GE1.out)|exact HB.out)⟩
def Zda.f (k:Nat) (a0_0:ByteArray) (l0_1:List Int) (a0_2:Int):Option (Bool):=(Zav.f k a0_0).bind fun t2=>(if t2=true then((Z2.f k l0_1).bind fun t3=>(if t3=true then(if a0_2≥0 then(some (decide (a0_2≤3))) else(some false)) else(some false))) else(some false))
theorem Zda.calls (k:Nat) (a0_0:ByteArray) (A0_1:Option Addr) (c0_1:Nat) (l0_1:List Int) (a0_2:Int) (r:Bool) (w:World) (hr0_1:Kd.C (Kd.int .i64) w A0_1 l0_1.length l0_1) (hc0_1:l0_1.length≤c0_1) (h:Zda.f k a0_0 l0_1 a0_2=some r) :
  Calls Tryz.prog 23 #[.agg #[.string a0_0,.slice A0_1 l0_1.length c0_1,.int .i64 a0_2]] w fun e w'=>e=.returned (.bool r)∧Below w.heap.size w w':=by
 have hu39:=Tryz.underlying39
 have HR0_1:=Za hr0_1;have HC0_1:=Za hc0_1;clear hr0_1 hc0_1
 have HB:=Za (Below.refl w.heap.size w)
 have H:((Zav.f k a0_0).bind fun t2=>(if t2=true then((Z2.f k l0_1).bind fun t3=>(if t3=true then(if a0_2≥0 then(some (decide (a0_2≤3))) else(some false)) else(some false))) else(some false)))=some r:=h
 clear h
 replace H:=Zh H
 obtain⟨t2,A20,H⟩:=H;have A2:=Za A20;clear A20
 by_cases c3:t2=true
 ·subst c3
  rw[if_pos rfl] at H
  replace H:=Zh H
  obtain⟨t3,A40,H⟩:=H;have A4:=Za A40;clear A40
  by_cases c5:t3=true
  ·subst c5
   rw[if_pos rfl] at H
   by_cases c6:a0_2≥0
   ·rw[if_pos c6] at H
    have c6b0:decide (0≤a0_2)=true:=Ze c6
    clear c6
    obtain rfl:=Zg H
    go_enter Tryz.func23,Tryz.ntmps23
    go_wp2_with (first|((with_reducible refine ZG (N:=1) rfl ?_);refine ZH ?hg (N:=1) ?hd (cs:=#[.string a0_0,.slice A0_1 l0_1.length c0_1,.int .i64 a0_2]) (t:=39) ?hr ?_;(case hd=>rfl);(case hg=>rfl);(case hr=>first|(go_simp;done)|(go_simp;rfl));intro gb1 hg w7 hbox hb;have BK1:=Za (hbox);have GW1:=Za ((by rw[hg];exact(Zv (by exact HB.out)):w.heap.size≤gb1));have GE1:=Za ((by rw[hg];exact(Zv (by exact HB.out)):w.heap.size≤gb1));replace HB:=Za (Zq (by exact HB.out) hb);clear hb hbox hg;have hcz8_0:w7.cell? ⟨gb1,0,none⟩=some (.string a0_0):=(Zn BK1.out 0).trans rfl;have hcz8_1:w7.cell? ⟨gb1,1,none⟩=some (.slice A0_1 l0_1.length c0_1):=(Zn BK1.out 1).trans rfl;have hcz8_2:w7.cell? ⟨gb1,2,none⟩=some (.int .i64 a0_2):=(Zn BK1.out 2).trans rfl)|((with_reducible refine ZJ (f:=86) rfl ?_);refine ZY (some 5) rfl rfl Tryz.func86 (by kernel_rfl) rfl #[.string a0_0] rfl (by(try simp only[List.map_toArray,List.map_cons,List.map_nil]);first|done|rfl|(simp only[Zk,Zj];rfl)) ?_;(with_reducible refine(Zav.calls k a0_0 true _ A2.out).mono ?_);rintro e w' ⟨rfl,⟨nd,rfl⟩⟩;refine⟨_,rfl,?_⟩)|(go_at_call 87;(with_reducible refine(Z2.calls k _ _ l0_1 true _ ?side1 ?side2 A4.out).mono ?_);(case side1=>exact(Zb HR0_1.out (by repeat(first|(with_reducible first|exact HB.out|apply Zo|apply Zm|apply Zp|refine Zs ?_ GE1.out)|exact HB.out))));(case side2=>exact HC0_1.out);rintro e w9 ⟨rfl,hb⟩;replace BK1:=Za (Zw (g:=gb1) (o:=.cells #[.string a0_0,.slice A0_1 l0_1.length c0_1,.int .i64 a0_2] 39 (0,0)) (by exact BK1.out) hb);replace HB:=Za (Zq (by repeat(first|(with_reducible first|exact HB.out|apply Zo|apply Zm|apply Zp|refine Zs ?_ GE1.out)|exact HB.out)) hb);have hcz10_0:w9.cell? ⟨gb1,0,none⟩=some (.string a0_0):=(Zn BK1.out 0).trans rfl;have hcz10_1:w9.cell? ⟨gb1,1,none⟩=some (.slice A0_1 l0_1.length c0_1):=(Zn BK1.out 1).trans rfl;have hcz10_2:w9.cell? ⟨gb1,2,none⟩=some (.int .i64 a0_2):=(Zn BK1.out 2).trans rfl))
    go_ret
    exact⟨by first|rfl|(simp[ZB,ZA] <;> rfl)|(simp[*,ZB,ZA] <;> rfl),by repeat(first|(with_reducible first|exact HB.out|apply Zo|apply Zm|apply Zp|refine Zs ?_ GE1.out)|exact HB.out)⟩
   ·rw[if_neg c6] at H
    have c6b0:decide (0≤a0_2)=false:=Zf c6
    clear c6
    obtain rfl:=Zg H
    go_enter Tryz.func23,Tryz.ntmps23
    go_wp2_with (first|((with_reducible refine ZG (N:=1) rfl ?_);refine ZH ?hg (N:=1) ?hd (cs:=#[.string a0_0,.slice A0_1 l0_1.length c0_1,.int .i64 a0_2]) (t:=39) ?hr ?_;(case hd=>rfl);(case hg=>rfl);(case hr=>first|(go_simp;done)|(go_simp;rfl));intro gb1 hg w11 hbox hb;have BK1:=Za (hbox);have GW1:=Za ((by rw[hg];exact(Zv (by exact HB.out)):w.heap.size≤gb1));have GE1:=Za ((by rw[hg];exact(Zv (by exact HB.out)):w.heap.size≤gb1));replace HB:=Za (Zq (by exact HB.out) hb);clear hb hbox hg;have hcz12_0:w11.cell? ⟨gb1,0,none⟩=some (.string a0_0):=(Zn BK1.out 0).trans rfl;have hcz12_1:w11.cell? ⟨gb1,1,none⟩=some (.slice A0_1 l0_1.length c0_1):=(Zn BK1.out 1).trans rfl;have hcz12_2:w11.cell? ⟨gb1,2,none⟩=some (.int .i64 a0_2):=(Zn BK1.out 2).trans rfl)|((with_reducible refine ZJ (f:=86) rfl ?_);refine ZY (some 5) rfl rfl Tryz.func86 (by kernel_rfl) rfl #[.string a0_0] rfl (by(try simp only[List.map_toArray,List.map_cons,List.map_nil]);first|done|rfl|(simp only[Zk,Zj];rfl)) ?_;(with_reducible refine(Zav.calls k a0_0 true _ A2.out).mono ?_);rintro e w' ⟨rfl,⟨nd,rfl⟩⟩;refine⟨_,rfl,?_⟩)|(go_at_call 87;(with_reducible refine(Z2.calls k _ _ l0_1 true _ ?side1 ?side2 A4.out).mono ?_);(case side1=>exact(Zb HR0_1.out (by repeat(first|(with_reducible first|exact HB.out|apply Zo|apply Zm|apply Zp|refine Zs ?_ GE1.out)|exact HB.out))));(case side2=>exact HC0_1.out);rintro e w13 ⟨rfl,hb⟩;replace BK1:=Za (Zw (g:=gb1) (o:=.cells #[.string a0_0,.slice A0_1 l0_1.length c0_1,.int .i64 a0_2] 39 (0,0)) (by exact BK1.out) hb);replace HB:=Za (Zq (by repeat(first|(with_reducible first|exact HB.out|apply Zo|apply Zm|apply Zp|refine Zs ?_ GE1.out)|exact HB.out)) hb);have hcz14_0:w13.cell? ⟨gb1,0,none⟩=some (.string a0_0):=(Zn BK1.out 0).trans rfl;have hcz14_1:w13.cell? ⟨gb1,1,none⟩=some (.slice A0_1 l0_1.length c0_1):=(Zn BK1.out 1).trans rfl;have hcz14_2:w13.cell? ⟨gb1,2,none⟩=some (.int .i64 a0_2):=(Zn BK1.out 2).trans rfl))
    go_ret
    exact⟨by first|rfl|(simp[ZB,ZA] <;> rfl)|(simp[*,ZB,ZA] <;> rfl),by repeat(first|(with_reducible first|exact HB.out|apply Zo|apply Zm|apply Zp|refine Zs ?_ GE1.out)|exact HB.out)⟩
  ·replace c5:=Bool.eq_false_iff.mpr c5
   subst c5
   have H1:(some false)=some r:=by rw[if_neg (show ¬(false=true) by decide)] at H;exact H
   clear H
   have H:=H1
   clear H1
   obtain rfl:=Zg H
   go_enter Tryz.func23,Tryz.ntmps23
   go_wp2_with (first|((with_reducible refine ZG (N:=1) rfl ?_);refine ZH ?hg (N:=1) ?hd (cs:=#[.string a0_0,.slice A0_1 l0_1.length c0_1,.int .i64 a0_2]) (t:=39) ?hr ?_;(case hd=>rfl);(case hg=>rfl);(case hr=>first|(go_simp;done)|(go_simp;rfl));intro gb1 hg w15 hbox hb;have BK1:=Za (hbox);have GW1:=Za ((by rw[hg];exact(Zv (by exact HB.out)):w.heap.size≤gb1));have GE1:=Za ((by rw[hg];exact(Zv (by exact HB.out)):w.heap.size≤gb1));replace HB:=Za (Zq (by exact HB.out) hb);clear hb hbox hg;have hcz16_0:w15.cell? ⟨gb1,0,none⟩=some (.string a0_0):=(Zn BK1.out 0).trans rfl;have hcz16_1:w15.cell? ⟨gb1,1,none⟩=some (.slice A0_1 l0_1.length c0_1):=(Zn BK1.out 1).trans rfl;have hcz16_2:w15.cell? ⟨gb1,2,none⟩=some (.int .i64 a0_2):=(Zn BK1.out 2).trans rfl)|((with_reducible refine ZJ (f:=86) rfl ?_);refine ZY (some 5) rfl rfl Tryz.func86 (by kernel_rfl) rfl #[.string a0_0] rfl (by(try simp only[List.map_toArray,List.map_cons,List.map_nil]);first|done|rfl|(simp only[Zk,Zj];rfl)) ?_;(with_reducible refine(Zav.calls k a0_0 true _ A2.out).mono ?_);rintro e w' ⟨rfl,⟨nd,rfl⟩⟩;refine⟨_,rfl,?_⟩)|(go_at_call 87;(with_reducible refine(Z2.calls k _ _ l0_1 false _ ?side1 ?side2 A4.out).mono ?_);(case side1=>exact(Zb HR0_1.out (by repeat(first|(with_reducible first|exact HB.out|apply Zo|apply Zm|apply Zp|refine Zs ?_ GE1.out)|exact HB.out))));(case side2=>exact HC0_1.out);rintro e w17 ⟨rfl,hb⟩;replace BK1:=Za (Zw (g:=gb1) (o:=.cells #[.string a0_0,.slice A0_1 l0_1.length c0_1,.int .i64 a0_2] 39 (0,0)) (by exact BK1.out) hb);replace HB:=Za (Zq (by repeat(first|(with_reducible first|exact HB.out|apply Zo|apply Zm|apply Zp|refine Zs ?_ GE1.out)|exact HB.out)) hb);(try clear hi)))
   go_ret
   exact⟨by first|rfl|(simp[ZB,ZA] <;> rfl)|(simp[*,ZB,ZA] <;> rfl),by repeat(first|(with_reducible first|exact HB.out|apply Zo|apply Zm|apply Zp|refine Zs ?_ GE1.out)|exact HB.out)⟩
 ·replace c3:=Bool.eq_false_iff.mpr c3
  subst c3
  have H1:(some false)=some r:=by rw[if_neg (show ¬(false=true) by decide)] at H;exact H
  clear H
  have H:=H1
  clear H1
  obtain rfl:=Zg H
  go_enter Tryz.func23,Tryz.ntmps23
  go_wp2_with (first|((with_reducible refine ZG (N:=1) rfl ?_);refine ZH ?hg (N:=1) ?hd (cs:=#[.string a0_0,.slice A0_1 l0_1.length c0_1,.int .i64 a0_2]) (t:=39) ?hr ?_;(case hd=>rfl);(case hg=>rfl);(case hr=>first|(go_simp;done)|(go_simp;rfl));intro gb1 hg w18 hbox hb;have BK1:=Za (hbox);have GW1:=Za ((by rw[hg];exact(Zv (by exact HB.out)):w.heap.size≤gb1));have GE1:=Za ((by rw[hg];exact(Zv (by exact HB.out)):w.heap.size≤gb1));replace HB:=Za (Zq (by exact HB.out) hb);clear hb hbox hg;have hcz19_0:w18.cell? ⟨gb1,0,none⟩=some (.string a0_0):=(Zn BK1.out 0).trans rfl;have hcz19_1:w18.cell? ⟨gb1,1,none⟩=some (.slice A0_1 l0_1.length c0_1):=(Zn BK1.out 1).trans rfl;have hcz19_2:w18.cell? ⟨gb1,2,none⟩=some (.int .i64 a0_2):=(Zn BK1.out 2).trans rfl)|((with_reducible refine ZJ (f:=86) rfl ?_);refine ZY (some 5) rfl rfl Tryz.func86 (by kernel_rfl) rfl #[.string a0_0] rfl (by(try simp only[List.map_toArray,List.map_cons,List.map_nil]);first|done|rfl|(simp only[Zk,Zj];rfl)) ?_;(with_reducible refine(Zav.calls k a0_0 false _ A2.out).mono ?_);rintro e w' ⟨rfl,⟨nd,rfl⟩⟩;refine⟨_,rfl,?_⟩))
  go_ret
  exact⟨by first|rfl|(simp[ZB,ZA] <;> rfl)|(simp[*,ZB,ZA] <;> rfl),by repeat(first|(with_reducible first|exact HB.out|apply Zo|apply Zm|apply Zp|refine Zs ?_ GE1.out)|exact HB.out)⟩
def Zc2 (s:ByteArray) (l:List Int) (n:Int):Bool:=nameB s && labB l && (decide (0≤n) && decide (n≤3))
theorem ZgE (s:ByteArray) (l:List Int) (n:Int) (hs:s.size≤9223372036854775807) (hl:l.length≤9223372036854775807) (k:Nat) (hk:2 ^ 64≤k):Zc7.f k s l n=some (Zc2 s l n):=by
 unfold Zc7.f Zc2 ZU.f
 rw[ZgF s hs k hk,Zi,Zdp l hl k hk]
 cases nameB s
 ·rfl
 ·rw[if_pos rfl,Zi]
  cases labB l
  ·rfl
  ·rw[if_pos rfl]
   by_cases h:n≥0
   ·rw[if_pos h,Ze (show(0:Int)≤n from h)];rfl
   ·rw[if_neg h,Zf (show ¬(0:Int)≤n from h)];rfl
theorem ZgN (s:ByteArray) (l:List Int) (n:Int) (hs:s.size≤9223372036854775807) (hl:l.length≤9223372036854775807) (k:Nat) (hk:2 ^ 64≤k):Zda.f k s l n=some (Zc2 s l n):=by
 unfold Zda.f Zc2
 rw[ZgQ s hs k hk,Zi,Zc3 l hl k hk]
 cases nameB s
 ·rfl
 ·rw[if_pos rfl,Zi]
  cases labB l
  ·rfl
  ·rw[if_pos rfl]
   by_cases h:n≥0
   ·rw[if_pos h,Ze (show(0:Int)≤n from h)];rfl
   ·rw[if_neg h,Zf (show ¬(0:Int)≤n from h)];rfl
def Zdl (n m:S39):Bool:=!(decide (m.f0.toList=n.f0.toList)) && (decide (n.f2=0) || !(decide (m.f2=n.f2)))
def Zc8 (ns:List S39) (i:Nat):Bool:=Zc2 (ns.getD i z39).f0 (ns.getD i z39).f1 (ns.getD i z39).f2 && (ns.take i).all (Zdl (ns.getD i z39))
def ZbB (ns:List S39) (i:Nat):Nat→Bool
 | 0=>true
 | d+1=>Zc8 ns i && ZbB ns (i+1) d
def ZV (ns:List S39):Bool:=decide (1≤ns.length) && decide (ns.length≤7) && decide ((ns.getD 0 z39).f1.length=0) && decide ((ns.getD 0 z39).f2=0) && ZbB ns 0 ns.length
theorem Zf3 {ns:List S39} {i:Nat} (h:i<ns.length):ZbB ns i (ns.length - i)=(Zc8 ns i && ZbB ns (i+1) (ns.length - (i+1))):=by
 rw[show ns.length - i=(ns.length - (i+1))+1 by omega];rfl
theorem take_step {ns:List S39} {i j:Nat} (hj:j<i) (hi:i≤ns.length) (p:S39→Bool):((ns.take i).drop j).all p=(p (ns.getD j z39) && ((ns.take i).drop (j+1)).all p):=by
 rw[Z8 (show j<(ns.take i).length by rw[Zj];omega) z39,List.all_cons]
 congr 2
 rw[List.getD_eq_getElem?_getD,List.getD_eq_getElem?_getD,List.getElem?_take_of_lt hj]
def Zco.f (l0_0:List (S39)) (l0_1:List (S82)) (a0_2:Int):Option Bool:=if l0_0.all (fun n=>decide (n.f0.size≤9223372036854775807) && decide (n.f1.length≤9223372036854775807))=true then some (ZV l0_0) else none
theorem Zco.calls (A0_0:Option Addr) (c0_0:Nat) (l0_0:List (S39)) (A0_1:Option Addr) (c0_1:Nat) (l0_1:List (S82)) (a0_2:Int) (r:Bool) (w:World) (hr0_0:Kd.C k39 w A0_0 l0_0.length l0_0) (hc0_0:l0_0.length≤c0_0) (hr0_1:Kd.C k82 w A0_1 l0_1.length l0_1) (hc0_1:l0_1.length≤c0_1) (h:Zco.f l0_0 l0_1 a0_2=some r) :
  Calls Tryz.prog 77 #[.agg #[.slice A0_0 l0_0.length c0_0,.slice A0_1 l0_1.length c0_1,.int .i64 a0_2]] w fun e w'=>e=.returned (.bool r)∧Below w.heap.size w w':=by
 unfold Zco.f at h
 by_cases hall:l0_0.all (fun n=>decide (n.f0.size≤9223372036854775807) && decide (n.f1.length≤9223372036854775807))=true
 case neg=>rw[if_neg hall] at h;exact absurd h (by simp)
 rw[if_pos hall] at h
 obtain rfl:=Zg h
 have HFIT:=Za (show ∀x∈l0_0,x.f0.size≤9223372036854775807∧x.f1.length≤9223372036854775807 from fun x hx=>by
  have:=List.all_eq_true.1 hall x hx
  simpa using this)
 have HR0:=Za hr0_0;have HC0:=Za hc0_0
 have HN0:=Za (show l0_0.length≤9223372036854775807 from hr0_0.2.1)
 have hu:=Tryz.underlying25
 have hu2:=Tryz.underlying39
 clear hr0_0 hc0_0 hr0_1 hc0_1 h hall
 have HB0:=Za (Zo (Below.refl w.heap.size w) (.cells #[.slice A0_0 l0_0.length c0_0,.slice A0_1 l0_1.length c0_1,.int .i64 a0_2] 25))
 cases b1:decide ((l0_0.length:Int)<1) with
 | true=>
  have HE:=Za (show ZV l0_0=false by
   unfold ZV
   rw[Zf (show ¬1≤l0_0.length by have:=Zd b1;omega)];rfl)
  go_enter Tryz.func77,Tryz.ntmps77
  go_wp2
  go_ret
  exact⟨by rw[HE.out];rfl,HB0.out⟩
 | false=>
 cases b2:decide ((7:Int)<(l0_0.length:Int)) with
 | true=>
  have HE:=Za (show ZV l0_0=false by
   unfold ZV
   rw[Zf (show ¬l0_0.length≤7 by have:=Zd b2;omega)];simp)
  go_enter Tryz.func77,Tryz.ntmps77
  go_wp2
  go_ret
  exact⟨by rw[HE.out];rfl,HB0.out⟩
 | false=>
 have h0z:(0:Int)<(l0_0.length:Int):=by have:=of_decide_eq_false b1;omega
 obtain⟨ad,A1,c1,e1,hx0,hx1,hx2,l1,g1⟩:=ZaS HR0.out 0 (Int.le_refl 0) h0z
 cases e1
 have hrd:(ZI l0_0 0)=l0_0.getD 0 z39:=rfl
 simp only[Int.toNat_zero,Nat.zero_mul,Addr.add_zero',hrd] at hx0 hx1 hx2
 have HE0:=Za (show ZV l0_0=(decide ((l0_0.getD 0 z39).f1.length=0) && decide ((l0_0.getD 0 z39).f2=0) && ZbB l0_0 0 l0_0.length) by
  unfold ZV
  rw[Ze (show 1≤l0_0.length by omega),Ze (show l0_0.length≤7 by have:=of_decide_eq_false b2;omega)];rfl)
 have h0n:0<l0_0.length:=by omega
 have hlta:=Zc w _ hx2
 revert hx1 hx2 HE0
 generalize (l0_0.getD 0 z39).f1.length=m1
 generalize (l0_0.getD 0 z39).f2=m2
 intro hx1 hx2 HE0
 clear hx0 l1 g1 hrd
 cases m1 with
 | succ m1=>
  have HE:=Za (show ZV l0_0=false by
   rw[HE0.out,Zf (show ¬m1+1=0 by omega)];rfl)
  clear HE0
  go_enter Tryz.func77,Tryz.ntmps77
  go_wp2
  go_ret
  exact⟨by rw[HE.out];rfl,HB0.out⟩
 | zero=>
 rw[Ze rfl,Bool.true_and] at HE0
 cases b4:(m2 != 0) with
 | true=>
  have HE:=Za (show ZV l0_0=false by
   rw[HE0.out,Zf (bne_iff_ne.1 b4)];rfl)
  clear HE0
  go_enter Tryz.func77,Tryz.ntmps77
  go_wp2
  go_ret
  exact⟨by rw[HE.out];rfl,HB0.out⟩
 | false=>
 rw[Ze (bne_eq_false_iff_eq.1 b4),Bool.true_and] at HE0
 go_enter Tryz.func77,Tryz.ntmps77
 go_wp2
 clear b1 b2 b4 hx1 hx2 h0n h0z hlta
 go_loopg [37] l0_0.length (fun gg s37 wr=>∃kk:Nat,s37=.int .i64 (kk:Int)∧Aside0 (kk≤l0_0.length)∧Aside0 (l0_0.length - kk≤gg)∧Aside0 (Below w.heap.size w wr)∧Aside0 (wr.cell? ⟨w.heap.size,0,none⟩=some (.slice (some ad) l0_0.length c0_0))∧Aside0 (ZV l0_0=ZbB l0_0 kk (l0_0.length - kk)))
 case atStart=>exact⟨0,rfl,⟨Nat.zero_le _⟩,⟨by omega⟩,HB0,⟨by go_simp⟩,HE0⟩
 case round=>
 clear HE0
 obtain⟨kk,rfl,HK,HG,HBr,HX,HE⟩:=hrel
 have k0:=HX.out
 have hk0:=Zc wr _ k0
 by_cases hlt:kk<l0_0.length
 ·have hltz:(kk:Int)<(l0_0.length:Int):=by omega
  have hkc:kk≤c0_0:=by have:=HC0.out;omega
  obtain⟨ad',A1,c1,e1,hx0,hx1,hx2,l1,g1⟩:=ZaS (Zb HR0.out HBr.out) (kk:Int) (by omega) hltz
  cases e1
  have hrd:(ZI l0_0 (kk:Int))=l0_0.getD kk z39:=by unfold ZI;rw[Int.toNat_natCast]
  have hfit:=HFIT.out _ (ZaG hlt z39)
  rw[hrd] at hx0 hx1 hx2 l1 g1
  rw[Int.toNat_natCast] at hx0 hx1 hx2
  have HD:=HE.out
  rw[Zf3 hlt,Zc8] at HD
  clear hrd HE
  generalize l0_0.getD kk z39=nd at hx0 hx1 hx2 l1 g1 HD hfit
  obtain⟨nm,lb,wt⟩:=nd
  dsimp only at hx0 hx1 hx2 l1 g1 HD hfit
  have HNO:=Za fun (W:World) (hb:Below wr.heap.size wr W)=>Zda.calls (2 ^ 64) nm A1 c1 lb wt (Zc2 nm lb wt) W (Zb g1 hb) l1 (ZgN nm lb wt hfit.1 hfit.2 _ (Nat.le_refl _))
  have hlta:=Zc wr _ hx0
  have HB1:=Za (Zo (Below.refl wr.heap.size wr) (.cells #[.string nm,.slice A1 lb.length c1,.int .i64 wt] 39))
  clear g1 l1 hfit
  generalize Zc2 nm lb wt=q at HNO HD
  cases q with
  | false=>
   go_wp2_with (go_at_call 23;refine(HNO.out _ HB1.out).mono ?_;rintro e w3 ⟨rfl,hb⟩;have HB3:=Za (HB1.out.trans (hb.mono HB1.out.size));clear hb)
   go_ret
   exact⟨by rw[HD];rfl,HBr.out.trans (HB3.out.mono HBr.out.size)⟩
  | true=>
  rw[Bool.true_and] at HD
  have HDA:=Za HD
  have K1:=Za (show(wr.alloc (.cells #[.string nm,.slice A1 lb.length c1,.int .i64 wt] 39)).cell? ⟨wr.heap.size,0,none⟩=some (.string nm)∧(wr.alloc (.cells #[.string nm,.slice A1 lb.length c1,.int .i64 wt] 39)).cell? ⟨wr.heap.size,2,none⟩=some (.int .i64 wt)∧(wr.alloc (.cells #[.string nm,.slice A1 lb.length c1,.int .i64 wt] 39)).cell? ⟨w.heap.size,0,none⟩=some (.slice (some ad) l0_0.length c0_0) from⟨by go_simp,by go_simp,by go_simp⟩)
  clear HD
  go_wp2_with (go_at_call 23;refine(HNO.out _ HB1.out).mono ?_;rintro e w3 ⟨rfl,hb⟩;have HB3:=Za (HB1.out.trans (hb.mono HB1.out.size));have n0:=Zx hb K1.out.1;have n2:=Zx hb K1.out.2.1;have n3:=Zx hb K1.out.2.2;have hn0:=Zc w3 _ n0;clear hb)
  have KN:=Za (And.intro n0 (And.intro n2 n3))
  have HBw:=Za (HBr.out.trans (HB3.out.mono HBr.out.size))
  clear n0 n2 n3 hx0 hx1 hx2 k0 HNO K1 HB1 HX hn0 hk0 hlta
  obtain⟨wo,hwo⟩:∃wo,wo=wr:=⟨_,rfl⟩
  subst hwo
  have HGo:=HG
  clear HG
  go_loopg [50] kk (fun gg s50 wr=>∃jj:Nat,s50=.int .i64 (jj:Int)∧Aside0 (jj≤kk)∧Aside0 (kk - jj≤gg)∧Aside0 (Below w3.heap.size w3 wr)∧Aside0 (ZV l0_0=(((l0_0.take kk).drop jj).all (Zdl ⟨nm,lb,wt⟩) && ZbB l0_0 (kk+1) (l0_0.length - (kk+1)))))
  case atStart=>exact⟨0,rfl,⟨Nat.zero_le _⟩,⟨by omega⟩,⟨Below.refl _ _⟩,HDA⟩
  case round=>
  clear HDA
  obtain⟨jj,rfl,HJ,HG,HBs,HE⟩:=hrel
  have n0:=Zx HBs.out KN.out.1
  have n2:=Zx HBs.out KN.out.2.1
  have n3:=Zx HBs.out KN.out.2.2
  have HBx:=Za (HBw.out.trans (HBs.out.mono HBw.out.size))
  by_cases hjt:jj<kk
  ·have hjz:(jj:Int)<(kk:Int):=by omega
   have hjl:(jj:Int)<(l0_0.length:Int):=by omega
   obtain⟨ad',A2,c2,e1,hx0,hx1,hx2,l2,g2⟩:=ZaS (Zb HR0.out HBx.out) (jj:Int) (by omega) hjl
   cases e1
   have hrd:(ZI l0_0 (jj:Int))=l0_0.getD jj z39:=by unfold ZI;rw[Int.toNat_natCast]
   rw[hrd] at hx0 hx1 hx2
   rw[Int.toNat_natCast] at hx0 hx1 hx2
   have HD:=HE.out
   rw[take_step hjt (by omega)] at HD
   clear hrd HE l2 g2
   generalize l0_0.getD jj z39=ne at hx0 hx1 hx2 HD
   obtain⟨nm2,lb2,wt2⟩:=ne
   dsimp only at hx0 hx1 hx2
   have hlta:=Zc wr _ hx0
   have hltb:=Zc wr _ n0
   have HDB:=Za HD;clear HD
   have HBy:=Za (Zo (Below.refl wr.heap.size wr) (.cells #[.string nm2,.slice A2 lb2.length c2,.int .i64 wt2] 39))
   have bad:Zdl ⟨nm,lb,wt⟩ ⟨nm2,lb2,wt2⟩=false→Aside0 (ZV l0_0=false):=fun hh=>⟨by rw[HDB.out,hh];rfl⟩
   have good:Zdl ⟨nm,lb,wt⟩ ⟨nm2,lb2,wt2⟩=true→Aside0 (ZV l0_0=(((l0_0.take kk).drop (jj+1)).all (Zdl ⟨nm,lb,wt⟩) && ZbB l0_0 (kk+1) (l0_0.length - (kk+1)))):=fun hh=>⟨by rw[HDB.out,hh,Bool.true_and]⟩
   clear HDB
   cases b1:(nm2.toList == nm.toList) with
   | true=>
    have HF:=bad (by simp only[Zdl,Ze (beq_iff_eq.1 b1)];rfl)
    clear bad good
    go_wp2
    go_ret
    exact⟨by rw[HF.out];rfl,HBx.out.trans (HBy.out.mono HBx.out.size)⟩
   | false=>
   have d1:=Zf (beq_eq_false_iff_ne.1 b1)
   cases b2:(wt != 0) with
   | false=>
    have HF:=good (by simp only[Zdl,d1,Ze (bne_eq_false_iff_eq.1 b2)];rfl)
    clear bad good d1
    go_wp2
    go_roundg (kk - (jj+1))
    case measure=>have:=HG.out;omega
    case rel=>exact⟨jj+1,by rw[ZL hjt (by have:=HN0.out;omega)],⟨by omega⟩,⟨by omega⟩,⟨HBs.out.trans (HBy.out.mono HBs.out.size)⟩,HF⟩
   | true=>
   cases b3:(wt2 == wt) with
   | true=>
    have HF:=bad (by simp only[Zdl,d1,Zf (bne_iff_ne.1 b2),Ze (beq_iff_eq.1 b3)];rfl)
    clear bad good d1
    go_wp2
    go_ret
    exact⟨by rw[HF.out];rfl,HBx.out.trans (HBy.out.mono HBx.out.size)⟩
   | false=>
    have HF:=good (by simp only[Zdl,d1,Zf (bne_iff_ne.1 b2),Zf (beq_eq_false_iff_ne.1 b3)];rfl)
    clear bad good d1
    go_wp2
    go_roundg (kk - (jj+1))
    case measure=>have:=HG.out;omega
    case rel=>exact⟨jj+1,by rw[ZL hjt (by have:=HN0.out;omega)],⟨by omega⟩,⟨by omega⟩,⟨HBs.out.trans (HBy.out.mono HBs.out.size)⟩,HF⟩
  ·obtain rfl:jj=kk:=by have:=HJ.out;omega
   have HF:=Za (show ZV l0_0=ZbB l0_0 (jj+1) (l0_0.length - (jj+1)) by
    rw[HE.out,List.drop_of_length_le (by rw[Zj];omega)];rfl)
   clear HE hjt
   go_wp2
   go_roundg (l0_0.length - (jj+1))
   case measure=>have:=HGo.out;omega
   case rel=>exact⟨jj+1,by rw[ZL hlt HN0.out],⟨by omega⟩,⟨by omega⟩,HBx,⟨n3⟩,HF⟩
 ·obtain rfl:kk=l0_0.length:=by have:=HK.out;omega
  have HF:=Za (show ZV l0_0=true by rw[HE.out,Nat.sub_self];rfl)
  clear HE hlt
  go_wp2
  go_ret
  exact⟨by rw[HF.out];rfl,HBr.out⟩
theorem areNodes_f (ns:List ZM) (ts:List PTie) (z:Int) (hb:∀n∈ns,n.f0.size≤9223372036854775807∧n.f1.length≤9223372036854775807):Zco.f ns ts z=some (ZV ns):=by
 unfold Zco.f
 rw[if_pos (List.all_eq_true.2 fun x hx=>by have:=hb x hx;simpa using this)]
theorem Zeh:∀(l:List Int) (p:Int),Zb5 p l=true→∀x∈l,Zbp x=true
 | [],_,_,x,hx=>by simp at hx
 | y :: l,p,h,x,hx=>by
  unfold Zb5 at h
  simp only[Bool.and_eq_true] at h
  rcases List.mem_cons.1 hx with rfl|hx
  ·exact h.1.1
  ·exact Zeh l _ h.2 x hx
theorem ZeW {ns:List ZM}:∀(d i:Nat),ZbB ns i d=true→∀j,i≤j→j<i+d→Zc8 ns j=true
 | 0,i,_,j,h1,h2=>by omega
 | d+1,i,h,j,h1,h2=>by
  rw[ZbB,Bool.and_eq_true] at h
  by_cases e:j=i
  ·rw[e];exact h.1
  ·exact ZeW d (i+1) h.2 j (by omega) (by omega)
theorem Zd7 {ns:List ZM} (h:ZV ns=true):∀j,j<ns.length→Zc8 ns j=true:=by
 unfold ZV at h
 rw[Bool.and_eq_true] at h
 exact fun j hj=>ZeW _ _ h.2 j (Nat.zero_le _) (by omega)
theorem ZdG {ns:List ZM} (h:ZV ns=true):∀n∈ns,∀x∈n.f1,Zbp x=true:=by
 intro n hn x hx
 obtain⟨j,hj,rfl⟩:=List.mem_iff_getElem.1 hn
 have:=Zd7 h j hj
 unfold Zc8 Zc2 labB at this
 rw[show ns.getD j z39=ns[j] by rw[List.getD_eq_getElem?_getD,Zl hj];rfl] at this
 simp only[Bool.and_eq_true] at this
 exact Zeh _ _ this.1.1.2 x hx
def ZaH.l0:Nat→Int→List Int→Int→Int→Option (Bool)
 | 0,_,_,_,_=>none
 | k+1,x1,x7,x8,x9=>if x9<x8 then(if 0≤x9 then(if x9<(x7.length:Int) then(if (rd x7 x9)=x1 then(some true) else(ZaH.l0 k x1 x7 x8 (wrap64 (x9+1)))) else(none)) else(none)) else(some false)
def ZaH.f (k:Nat) (l0:List Int) (a1:Int):Option (Bool):=ZaH.l0 k a1 l0 (l0.length:Int) 0
theorem ZaH.calls (k:Nat) (A0:Option Addr) (c0:Nat) (l0:List Int) (a1:Int) (r:Bool) (w:World) (hr0:Kd.C (Kd.int .i64) w A0 l0.length l0) (hc0:l0.length≤c0) (h:ZaH.f k l0 a1=some r) :
  Calls Tryz.prog 177 #[.slice A0 l0.length c0,.int .i64 a1] w fun e w'=>e=.returned (.bool r)∧ZF w w':=by
 have HR0:=Za hr0;have HC0:=Za hc0;clear hr0 hc0
 have H:(ZaH.l0 k a1 l0 (l0.length:Int) 0)=some r:=h
 clear h
 have H':=Za H
 clear H
 go_enter Tryz.func177,Tryz.ntmps177
 go_wp2
 go_loopg [9] k (fun kq v9 w'=>∃(x9_1:Int),v9=.int .i64 x9_1∧Aside0 (ZaH.l0 kq a1 l0 (l0.length:Int) x9_1=some r)∧Aside0 (kq≤k)∧ZF w w')
 case atStart=>exact⟨(0),(by first|rfl|(simp;done)|(simp[*];done)),H',⟨Nat.le_refl _⟩,by repeat(first|exact ZF.refl _|apply ZF.step)⟩
 case round=>
  clear H'
  try clear c1
  try clear p2
  obtain⟨x9_1,rfl,HA,HK1,⟨m1,rfl⟩⟩:=hrel
  cases gk with
  | zero=>exact absurd HA.out (by simp[ZaH.l0])
  | succ k1=>
   have H:=HA.out
   clear HA
   simp only[ZaH.l0] at H
   by_cases c3:x9_1<(l0.length:Int)
   ·rw[if_pos c3] at H
    have c3b0:decide (x9_1<(l0.length:Int))=true:=Ze c3
    clear c3
    by_cases c4:0≤x9_1
    ·rw[if_pos c4] at H
     have c4b0:decide (0≤x9_1)=true:=Ze c4
     clear c4
     by_cases c5:x9_1<(l0.length:Int)
     ·rw[if_pos c5] at H
      have c5b0:decide (x9_1<(l0.length:Int))=true:=Ze c5
      clear c5
      by_cases c6:(rd l0 x9_1)=a1
      ·rw[if_pos c6] at H
       have c6b0:((rd l0 x9_1) == a1)=true:=beq_iff_eq.mpr c6
       have c6b1:((rd l0 x9_1) != a1)=false:=bne_eq_false_iff_eq.mpr c6
       clear c6
       obtain rfl:=Zg H
       have p1:0≤(x9_1:Int):=Zd (by first|(with_reducible assumption)|assumption)
       have q1:x9_1<(l0.length:Int):=Zd (by first|(with_reducible assumption)|assumption)
       obtain⟨ad1,e1,hx1_0⟩:=Kd.at_int HR0.out x9_1 p1 q1
       cases e1
       replace p1:=eq_true p1
       replace q1:=eq_true q1
       go_wp2
       go_ret
       exact⟨by first|rfl|(simp;done)|(simp[*];done),by repeat(first|exact ZF.refl _|apply ZF.step)⟩
      ·rw[if_neg c6] at H
       have c6b0:((rd l0 x9_1) == a1)=false:=beq_eq_false_iff_ne.mpr c6
       have c6b1:((rd l0 x9_1) != a1)=true:=bne_iff_ne.mpr c6
       have H':=Za H
       clear H
       have p1:0≤(x9_1:Int):=Zd (by first|(with_reducible assumption)|assumption)
       have q1:x9_1<(l0.length:Int):=Zd (by first|(with_reducible assumption)|assumption)
       obtain⟨ad1,e1,hx1_0⟩:=Kd.at_int HR0.out x9_1 p1 q1
       cases e1
       replace p1:=eq_true p1
       replace q1:=eq_true q1
       go_wp2
       go_roundg k1
       case measure=>have:=HK1.out;omega
       case rel=>exact⟨(wrap64 (x9_1+1)),(by first|rfl|(simp;done)|(simp[*];done)),H',⟨by have:=HK1.out;omega⟩,by repeat(first|exact ZF.refl _|apply ZF.step)⟩
     ·rw[if_neg c5] at H
      exact absurd H (by simp)
    ·rw[if_neg c4] at H
     exact absurd H (by simp)
   ·rw[if_neg c3] at H
    have c3b0:decide (x9_1<(l0.length:Int))=false:=Zf c3
    clear c3
    obtain rfl:=Zg H
    go_wp2
    go_ret
    exact⟨by first|rfl|(simp;done)|(simp[*];done),by repeat(first|exact ZF.refl _|apply ZF.step)⟩
mutual
def ZS.j0:Nat→List Int→List Int→Bool→Option (Bool)
 | 0,_,_,_=>none
 | k+1,x0,x1,x14=>if x14=true then(some false) else(ZS.l0 k x0 x1 (x1.length:Int) 0)
def ZS.l0:Nat→List Int→List Int→Int→Int→Option (Bool)
 | 0,_,_,_,_=>none
 | k+1,x0,x15,x16,x17=>if x17<x16 then(if 0≤x17 then(if x17<(x15.length:Int) then((ZaH.f k x0 (rd x15 x17)).bind fun t4=>(if t4=true then(ZS.l0 k x0 x15 x16 (wrap64 (x17+1))) else(some false))) else(none)) else(none)) else(some true)
end
def ZS.f (k:Nat) (l0:List Int) (l1:List Int):Option (Bool):=(Z5.f k l0).bind fun t1=>(if t1=true then((Z5.f k l1).bind fun t2=>(ZS.j0 k l0 l1 (!t2))) else(ZS.j0 k l0 l1 true))
theorem ZS.calls (k:Nat) (A0:Option Addr) (c0:Nat) (l0:List Int) (A1:Option Addr) (c1:Nat) (l1:List Int) (r:Bool) (w:World) (hr0:Kd.C (Kd.int .i64) w A0 l0.length l0) (hc0:l0.length≤c0) (hr1:Kd.C (Kd.int .i64) w A1 l1.length l1) (hc1:l1.length≤c1) (h:ZS.f k l0 l1=some r) :
  Calls Tryz.prog 178 #[.slice A0 l0.length c0,.slice A1 l1.length c1] w fun e w'=>e=.returned (.bool r)∧ZF w w':=by
 have HR0:=Za hr0;have HC0:=Za hc0;clear hr0 hc0;have HR1:=Za hr1;have HC1:=Za hc1;clear hr1 hc1
 have H:((Z5.f k l0).bind fun t1=>(if t1=true then((Z5.f k l1).bind fun t2=>(ZS.j0 k l0 l1 (!t2))) else(ZS.j0 k l0 l1 true)))=some r:=h
 clear h;have HC3:=Za H;clear H
 go_enter Tryz.func178,Tryz.ntmps178
 go_upto_region 1 with (fail)
 go_cut [14] (fun v14 wc=>∃(kq:Nat) (x14_2:Bool),v14=.bool x14_2∧Aside0 (ZS.j0 kq l0 l1 x14_2=some r)∧Aside0 (kq≤k)∧ZF w wc)
 case first=>
  have H:=HC3.out
  clear HC3
  replace H:=Zh H
  obtain⟨t1,A40,H⟩:=H;have A4:=Za A40;clear A40
  by_cases c5:t1=true
  ·subst c5
   rw[if_pos rfl] at H
   replace H:=Zh H
   obtain⟨t2,A60,H⟩:=H;have A6:=Za A60;clear A60
   have H':=Za H
   clear H
   go_wp2_with (first|((with_reducible refine ZJ (f:=175) rfl ?_);refine ZY (some 8) rfl rfl Tryz.func175 (by kernel_rfl) rfl #[.slice A0 l0.length c0] rfl (by(try simp only[List.map_toArray,List.map_cons,List.map_nil]);first|done|rfl|(simp only[Zk,Zj];rfl)) ?_;(with_reducible refine(Z5.calls k _ _ l0 true _ ?side1 ?side2 A4.out).mono ?_);(case side1=>repeat(first|exact HR0.out|(with_reducible refine Kd.C_alloc ?_ _)|(with_reducible refine Kd.C_drewN ?_ _)|(with_reducible refine Kd.C_drew ?_)));(case side2=>exact HC0.out);rintro e w' ⟨rfl,⟨nd,rfl⟩⟩;refine⟨_,rfl,?_⟩)|(go_at_call 175;(with_reducible refine(Z5.calls k _ _ l1 t2 _ ?side1 ?side2 A6.out).mono ?_);(case side1=>repeat(first|exact HR1.out|(with_reducible refine Kd.C_alloc ?_ _)|(with_reducible refine Kd.C_drewN ?_ _)|(with_reducible refine Kd.C_drew ?_)));(case side2=>exact HC1.out);rintro e w' ⟨rfl,⟨nd,rfl⟩⟩))
   go_meet
   case rel=>exact⟨_,(!t2),(by first|rfl|(simp;done)|(simp[*];done)),H',⟨by first|omega|exact Nat.le_refl _⟩,by repeat(first|exact ZF.refl _|apply ZF.step)⟩
  ·replace c5:=Bool.eq_false_iff.mpr c5
   subst c5
   have H1:(ZS.j0 k l0 l1 true)=some r:=by rw[if_neg (show ¬(false=true) by decide)] at H;exact H
   clear H
   have H:=H1
   clear H1
   have H':=Za H
   clear H
   go_wp2_with (first|((with_reducible refine ZJ (f:=175) rfl ?_);refine ZY (some 8) rfl rfl Tryz.func175 (by kernel_rfl) rfl #[.slice A0 l0.length c0] rfl (by(try simp only[List.map_toArray,List.map_cons,List.map_nil]);first|done|rfl|(simp only[Zk,Zj];rfl)) ?_;(with_reducible refine(Z5.calls k _ _ l0 false _ ?side1 ?side2 A4.out).mono ?_);(case side1=>repeat(first|exact HR0.out|(with_reducible refine Kd.C_alloc ?_ _)|(with_reducible refine Kd.C_drewN ?_ _)|(with_reducible refine Kd.C_drew ?_)));(case side2=>exact HC0.out);rintro e w' ⟨rfl,⟨nd,rfl⟩⟩;refine⟨_,rfl,?_⟩))
   go_meet
   case rel=>exact⟨_,(true),(by first|rfl|(simp;done)|(simp[*];done)),H',⟨by first|omega|exact Nat.le_refl _⟩,by repeat(first|exact ZF.refl _|apply ZF.step)⟩
 case rest=>
  clear HC3
  try clear c1
  try clear p2
  try clear c5
  obtain⟨kq,x14_2,rfl,HA,HJ2,⟨mc2,rfl⟩⟩:=hcut
  cases kq with
  | zero=>exact absurd HA.out (by simp[ZS.j0])
  | succ kj2=>
   have H:=HA.out
   clear HA
   simp only[ZS.j0] at H
   by_cases c7:x14_2=true
   ·subst c7
    rw[if_pos rfl] at H
    obtain rfl:=Zg H
    go_wp2
    go_ret
    exact⟨by first|rfl|(simp;done)|(simp[*];done),by repeat(first|exact ZF.refl _|apply ZF.step)⟩
   ·replace c7:=Bool.eq_false_iff.mpr c7
    subst c7
    have H1:(ZS.l0 kj2 l0 l1 (l1.length:Int) 0)=some r:=by rw[if_neg (show ¬(false=true) by decide)] at H;exact H
    clear H
    have H:=H1
    clear H1
    have H':=Za H
    clear H
    go_wp2
    go_loopg [17] kj2 (fun kq v17 w'=>∃(x17_2:Int),v17=.int .i64 x17_2∧Aside0 (ZS.l0 kq l0 l1 (l1.length:Int) x17_2=some r)∧Aside0 (kq≤kj2)∧ZF w w')
    case atStart=>exact⟨(0),(by first|rfl|(simp;done)|(simp[*];done)),H',⟨Nat.le_refl _⟩,by repeat(first|exact ZF.refl _|apply ZF.step)⟩
    case round=>
     clear H'
     try clear c1
     try clear c2
     try clear p2
     try clear c5
     try clear c7
     try clear p2
     obtain⟨x17_2,rfl,HA,HK2,⟨m2,rfl⟩⟩:=hrel
     cases gk with
     | zero=>exact absurd HA.out (by simp[ZS.l0])
     | succ k2=>
      have H:=HA.out
      clear HA
      simp only[ZS.l0] at H
      by_cases c8:x17_2<(l1.length:Int)
      ·rw[if_pos c8] at H
       have c8b0:decide (x17_2<(l1.length:Int))=true:=Ze c8
       clear c8
       by_cases c9:0≤x17_2
       ·rw[if_pos c9] at H
        have c9b0:decide (0≤x17_2)=true:=Ze c9
        clear c9
        by_cases c10:x17_2<(l1.length:Int)
        ·rw[if_pos c10] at H
         have c10b0:decide (x17_2<(l1.length:Int))=true:=Ze c10
         clear c10
         replace H:=Zh H
         obtain⟨t4,A110,H⟩:=H;have A11:=Za A110;clear A110
         by_cases c12:t4=true
         ·subst c12
          rw[if_pos rfl] at H
          have H':=Za H
          clear H
          have p3:0≤(x17_2:Int):=Zd (by first|(with_reducible assumption)|assumption)
          have q3:x17_2<(l1.length:Int):=Zd (by first|(with_reducible assumption)|assumption)
          obtain⟨ad3,e3,hx3_0⟩:=Kd.at_int HR1.out x17_2 p3 q3
          cases e3
          replace p3:=eq_true p3
          replace q3:=eq_true q3
          go_wp2_with (first|((with_reducible refine ZJ (f:=177) rfl ?_);refine ZY (some 23) rfl rfl Tryz.func177 (by kernel_rfl) rfl #[.slice A0 l0.length c0,.int .i64 (rd l1 x17_2)] rfl (by(try simp only[List.map_toArray,List.map_cons,List.map_nil]);first|done|rfl|(simp only[Zk,Zj];rfl)) ?_;(with_reducible refine(ZaH.calls k2 _ _ l0 (rd l1 x17_2) true _ ?side1 ?side2 A11.out).mono ?_);(case side1=>repeat(first|exact HR0.out|(with_reducible refine Kd.C_alloc ?_ _)|(with_reducible refine Kd.C_drewN ?_ _)|(with_reducible refine Kd.C_drew ?_)));(case side2=>exact HC0.out);rintro e w' ⟨rfl,⟨nd,rfl⟩⟩;refine⟨_,rfl,?_⟩))
          go_roundg k2
          case measure=>have:=HJ2.out;have:=HK2.out;omega
          case rel=>exact⟨(wrap64 (x17_2+1)),(by first|rfl|(simp;done)|(simp[*];done)),H',⟨by have:=HJ2.out;have:=HK2.out;omega⟩,by repeat(first|exact ZF.refl _|apply ZF.step)⟩
         ·replace c12:=Bool.eq_false_iff.mpr c12
          subst c12
          have H1:(some false)=some r:=by rw[if_neg (show ¬(false=true) by decide)] at H;exact H
          clear H
          have H:=H1
          clear H1
          obtain rfl:=Zg H
          have p3:0≤(x17_2:Int):=Zd (by first|(with_reducible assumption)|assumption)
          have q3:x17_2<(l1.length:Int):=Zd (by first|(with_reducible assumption)|assumption)
          obtain⟨ad3,e3,hx3_0⟩:=Kd.at_int HR1.out x17_2 p3 q3
          cases e3
          replace p3:=eq_true p3
          replace q3:=eq_true q3
          go_wp2_with (first|((with_reducible refine ZJ (f:=177) rfl ?_);refine ZY (some 23) rfl rfl Tryz.func177 (by kernel_rfl) rfl #[.slice A0 l0.length c0,.int .i64 (rd l1 x17_2)] rfl (by(try simp only[List.map_toArray,List.map_cons,List.map_nil]);first|done|rfl|(simp only[Zk,Zj];rfl)) ?_;(with_reducible refine(ZaH.calls k2 _ _ l0 (rd l1 x17_2) false _ ?side1 ?side2 A11.out).mono ?_);(case side1=>repeat(first|exact HR0.out|(with_reducible refine Kd.C_alloc ?_ _)|(with_reducible refine Kd.C_drewN ?_ _)|(with_reducible refine Kd.C_drew ?_)));(case side2=>exact HC0.out);rintro e w' ⟨rfl,⟨nd,rfl⟩⟩;refine⟨_,rfl,?_⟩))
          go_ret
          exact⟨by first|rfl|(simp;done)|(simp[*];done),by repeat(first|exact ZF.refl _|apply ZF.step)⟩
        ·rw[if_neg c10] at H
         exact absurd H (by simp)
       ·rw[if_neg c9] at H
        exact absurd H (by simp)
      ·rw[if_neg c8] at H
       have c8b0:decide (x17_2<(l1.length:Int))=false:=Zf c8
       clear c8
       obtain rfl:=Zg H
       go_wp2
       go_ret
       exact⟨by first|rfl|(simp;done)|(simp[*];done),by repeat(first|exact ZF.refl _|apply ZF.step)⟩
def ZbG.f (l0:List Int) (a1:Int):Option Int:=some (Za9 (fun y=>decide (a1=y)) l0)
theorem ZbG.calls (A0:Option Addr) (c0:Nat) (l0:List Int) (a1:Int) (r:Int) (w:World) (hr0:Kd.C (Kd.int .i64) w A0 l0.length l0) (hc0:l0.length≤c0) (h:ZbG.f l0 a1=some r) :
  Calls Tryz.prog 163 #[.slice A0 l0.length c0,.int .i64 a1] w fun e w'=>e=.returned (.int .i64 r)∧Below w.heap.size w w':=by
 obtain rfl:=Zg h
 have HR0:=Za hr0
 have HL:l0.length≤9223372036854775807:=HR0.out.2.1
 clear hr0 h hc0
 go_enter Tryz.func163,Tryz.ntmps163
 go_wp2
 go_loopg [5,8] l0.length (fun gg _ s8 wr=>∃kk:Nat,Aside0 (kk≤l0.length)∧Aside0 (l0.length - kk≤gg)∧s8=.int .i64 kk∧Aside0 (Below w.heap.size w wr)∧Aside0 (∀j y,j<kk→l0[j]? = some y→decide (a1=y)=false))
 case atStart=>exact⟨0,⟨Nat.zero_le _⟩,⟨by omega⟩,rfl,⟨Below.refl _ _⟩,⟨fun j y hj=>absurd hj (Nat.not_lt_zero _)⟩⟩
 case round=>
  obtain⟨kk,HK,HG,rfl,HB,HN⟩:=hrel
  by_cases hlt:kk<l0.length
  ·have hltz:(kk:Int)<(l0.length:Int):=by omega
   obtain⟨ad,e1,hx⟩:=Kd.at_int HR0.out (kk:Int) (by omega) hltz
   cases e1
   replace hx:=(HB.out.cell (Zc w _ hx)).trans hx
   rw[Int.toNat_natCast] at hx
   have hxe:l0[kk]? = some (rd l0 (kk:Int)):=by
    unfold rd
    rw[Int.toNat_natCast,List.getD_eq_getElem?_getD,Zl hlt];rfl
   generalize rd l0 (kk:Int)=y at hx hxe
   have HX:=Za hxe;clear hxe
   by_cases hq:a1=y
   ·have hqb:(a1 == y)=true:=beq_iff_eq.2 hq
    have HQ:=Za (Ze hq)
    clear hq
    go_wp2
    go_ret
    exact⟨by rw[Zb1 _ l0 kk y HX.out HQ.out HN.out];rfl,HB.out⟩
   ·have hqb:(a1 == y)=false:=beq_eq_false_iff_ne.2 hq
    have HQ:=Za (Zf hq)
    clear hq
    go_wp2
    go_roundg (l0.length - (kk+1))
    case measure=>have:=HG.out;omega
    case rel=>
     refine⟨kk+1,⟨by omega⟩,⟨by omega⟩,by go_num,HB,⟨fun j y' hj hy=>?_⟩⟩
     by_cases e:j=kk
     ·subst e
      rw[HX.out] at hy
      cases hy
      exact HQ.out
     ·exact HN.out j y' (by omega) hy
  ·have hltz:¬(kk:Int)<(l0.length:Int):=by omega
   have:kk=l0.length:=by have:=HK.out;omega
   subst this
   go_wp2
   go_ret
   exact⟨by rw[ZbX _ l0 HN.out];rfl,HB.out⟩
theorem ZbG.quiet (A0:Option Addr) (c0:Nat) (l0:List Int) (a1:Int) (w:World) (hr0:Kd.C (Kd.int .i64) w A0 l0.length l0) :
  Calls Tryz.prog 163 #[.slice A0 l0.length c0,.int .i64 a1] w fun e w'=>e=.returned (.int .i64 (Za9 (fun y=>decide (a1=y)) l0))∧∃n,w'=w.drewN n:=by
 have HR0:=Za hr0
 have HL:l0.length≤9223372036854775807:=HR0.out.2.1
 clear hr0
 go_enter Tryz.func163,Tryz.ntmps163
 go_wp2
 go_loopg [5,8] l0.length (fun gg _ s8 wr=>∃kk:Nat,Aside0 (kk≤l0.length)∧Aside0 (l0.length - kk≤gg)∧s8=.int .i64 kk∧wr=w∧Aside0 (∀j y,j<kk→l0[j]? = some y→decide (a1=y)=false))
 case atStart=>exact⟨0,⟨Nat.zero_le _⟩,⟨by omega⟩,rfl,rfl,⟨fun j y hj=>absurd hj (Nat.not_lt_zero _)⟩⟩
 case round=>
  obtain⟨kk,HK,HG,rfl,rfl,HN⟩:=hrel
  by_cases hlt:kk<l0.length
  ·have hltz:(kk:Int)<(l0.length:Int):=by omega
   obtain⟨ad,e1,hx⟩:=Kd.at_int HR0.out (kk:Int) (by omega) hltz
   cases e1
   rw[Int.toNat_natCast] at hx
   have hxe:l0[kk]? = some (rd l0 (kk:Int)):=by
    unfold rd
    rw[Int.toNat_natCast,List.getD_eq_getElem?_getD,Zl hlt];rfl
   generalize rd l0 (kk:Int)=y at hx hxe
   have HX:=Za hxe;clear hxe
   by_cases hq:a1=y
   ·have hqb:(a1 == y)=true:=beq_iff_eq.2 hq
    have HQ:=Za (Ze hq)
    clear hq
    go_wp2
    go_ret
    exact⟨by rw[Zb1 _ l0 kk y HX.out HQ.out HN.out];rfl,0,(World.drewN_zero _).symm⟩
   ·have hqb:(a1 == y)=false:=beq_eq_false_iff_ne.2 hq
    have HQ:=Za (Zf hq)
    clear hq
    go_wp2
    go_roundg (l0.length - (kk+1))
    case measure=>have:=HG.out;omega
    case rel=>
     refine⟨kk+1,⟨by omega⟩,⟨by omega⟩,by go_num,rfl,⟨fun j y' hj hy=>?_⟩⟩
     by_cases e:j=kk
     ·subst e
      rw[HX.out] at hy
      cases hy
      exact HQ.out
     ·exact HN.out j y' (by omega) hy
  ·have hltz:¬(kk:Int)<(l0.length:Int):=by omega
   have:kk=l0.length:=by have:=HK.out;omega
   subst this
   go_wp2
   go_ret
   exact⟨by rw[ZbX _ l0 HN.out];rfl,0,(World.drewN_zero _).symm⟩
def Zax.f (l0:List Int) (a1:Int):Option Bool:=some (l0.any fun y=>decide (a1=y))
theorem Zax.calls (A0:Option Addr) (c0:Nat) (l0:List Int) (a1:Int) (r:Bool) (w:World) (hr0:Kd.C (Kd.int .i64) w A0 l0.length l0) (hc0:l0.length≤c0) (h:Zax.f l0 a1=some r) :
  Calls Tryz.prog 151 #[.slice A0 l0.length c0,.int .i64 a1] w fun e w'=>e=.returned (.bool r)∧Below w.heap.size w w':=by
 obtain rfl:=Zg h
 have HI:=Za (ZbG.calls A0 c0 l0 a1 (Za9 (fun y=>decide (a1=y)) l0) w hr0 hc0 rfl)
 have HE:=Za (Zdh (fun y=>decide (a1=y)) l0)
 clear hr0 hc0 h
 go_enter Tryz.func151,Tryz.ntmps151
 go_wp2_with (go_at_call 163;refine HI.out.mono ?_;rintro e w' ⟨rfl,hb⟩)
 go_ret
 exact⟨by rw[← HE.out];rfl,hb⟩
theorem Zax.hand (A0:Option Addr) (c0:Nat) (l0:List Int) (a1:Int) (w:World) (hr0:Kd.C (Kd.int .i64) w A0 l0.length l0) (hc0:l0.length≤c0) :
  Calls Tryz.prog 151 #[.slice A0 l0.length c0,.int .i64 a1] w fun e w'=>e=.returned (.bool (l0.any fun y=>decide (a1=y)))∧Below w.heap.size w w':=Zax.calls A0 c0 l0 a1 _ w hr0 hc0 rfl
theorem ZdT.any (p:Int→Bool) (g:Nat) (lb:Array Value) (eg:∀args w,(callFunc g args).run Tryz.prog w=.ok (.enter g args) w) (A0:Option Addr) (c0:Nat) (l0:List Int) (w:World) (hr0:Kd.C (Kd.int .i64) w A0 l0.length l0)
  (hp:∀(W:World) (x:Int),x∈l0→Below w.heap.size w W→Calls Tryz.prog g (#[.int .i64 x] ++ lb) W fun e w'=>e=.returned (.bool (p x))∧Below W.heap.size W w') :
  Calls Tryz.prog 150 #[.slice A0 l0.length c0,.func (.func g) #[] lb] w fun e w'=>e=.returned (.int .i64 (Za9 p l0))∧Below w.heap.size w w':=by
 have HR0:=Za hr0;have HP:=Za hp;clear hr0 hp
 have HL:l0.length≤9223372036854775807:=HR0.out.2.1
 go_enter Tryz.func150,Tryz.ntmps150
 go_wp2
 go_loopg [5,8] l0.length (fun gg _ s8 wr=>∃kk:Nat,Aside0 (kk≤l0.length)∧Aside0 (l0.length - kk≤gg)∧s8=.int .i64 kk∧Aside0 (Below w.heap.size w wr)∧Aside0 (∀j y,j<kk→l0[j]? = some y→p y=false))
 case atStart=>exact⟨0,⟨Nat.zero_le _⟩,⟨by omega⟩,rfl,⟨Below.refl _ _⟩,⟨fun j y hj=>absurd hj (Nat.not_lt_zero _)⟩⟩
 case round=>
  obtain⟨kk,HK,HG,rfl,HB,HN⟩:=hrel
  by_cases hlt:kk<l0.length
  ·have hltz:(kk:Int)<(l0.length:Int):=by omega
   obtain⟨ad,e1,hx0⟩:=Kd.at_int HR0.out (kk:Int) (by omega) hltz
   cases e1
   replace hx0:=(HB.out.cell (Zc w _ hx0)).trans hx0
   rw[Int.toNat_natCast] at hx0
   have hxe:l0[kk]? = some (rd l0 (kk:Int)):=by
    unfold rd
    rw[Int.toNat_natCast,List.getD_eq_getElem?_getD,Zl hlt];rfl
   generalize rd l0 (kk:Int)=y at hx0 hxe
   have HX:=Za hxe;clear hxe
   have hcall:=HP.out wr y (List.mem_of_getElem? HX.out) HB.out
   cases hq:p y with
   | true=>
    have HQ:=Za hq
    rw[hq] at hcall
    clear hq
    go_wp2_with (go_at_fn g;refine hcall.mono ?_;rintro e w' ⟨rfl,hb⟩)
    go_ret
    exact⟨by rw[Zb1 p l0 kk y HX.out HQ.out HN.out];rfl,HB.out.trans (hb.mono HB.out.size)⟩
   | false=>
    have HQ:=Za hq
    rw[hq] at hcall
    clear hq
    go_wp2_with (go_at_fn g;refine hcall.mono ?_;rintro e w' ⟨rfl,hb⟩)
    go_roundg (l0.length - (kk+1))
    case measure=>have:=HG.out;omega
    case rel=>
     refine⟨kk+1,⟨by omega⟩,⟨by omega⟩,by go_num,⟨HB.out.trans (hb.mono HB.out.size)⟩,⟨fun j y' hj hy=>?_⟩⟩
     by_cases e:j=kk
     ·subst e
      rw[HX.out] at hy
      cases hy
      exact HQ.out
     ·exact HN.out j y' (by omega) hy
  ·have hltz:¬(kk:Int)<(l0.length:Int):=by omega
   have:kk=l0.length:=by have:=HK.out;omega
   subst this
   go_wp2
   go_ret
   exact⟨by rw[ZbX p l0 HN.out];rfl,HB.out⟩
theorem ZbZ.any (p:Int→Bool) (g:Nat) (lb:Array Value) (eg:∀args w,(callFunc g args).run Tryz.prog w=.ok (.enter g args) w) (A0:Option Addr) (c0:Nat) (l0:List Int) (w:World) (hr0:Kd.C (Kd.int .i64) w A0 l0.length l0)
  (hp:∀(W:World) (x:Int),x∈l0→Below w.heap.size w W→Calls Tryz.prog g (#[.int .i64 x] ++ lb) W fun e w'=>e=.returned (.bool (p x))∧Below W.heap.size W w') :
  Calls Tryz.prog 79 #[.slice A0 l0.length c0,.func (.func g) #[] lb] w fun e w'=>e=.returned (.bool (l0.any p))∧Below w.heap.size w w':=by
 have HI:=Za (ZdT.any p g lb eg A0 c0 l0 w hr0 hp)
 clear hr0 hp
 have HE:=Za (Zdh p l0)
 go_enter Tryz.func79,Tryz.ntmps79
 go_wp2_with (go_at_call 150;refine HI.out.mono ?_;rintro e w' ⟨rfl,hb⟩)
 go_ret
 exact⟨by rw[← HE.out];rfl,hb⟩
def Zbt.f (k:Nat) (l0 l1:List Int):Option Bool:=(Z2.f k l0).bind fun a=>if a=true then(Z2.f k l1).bind fun b=>if b=true then some (l1.all fun x=>l0.any fun y=>decide (x=y)) else some false else some false
theorem ZeO.clo (B:Nat) (A0:Option Addr) (c0:Nat) (l0:List Int) (x:Int) (W:World) (hB:W.cell? ⟨B,0,none⟩=some (.slice A0 l0.length c0)) (hr0:Kd.C (Kd.int .i64) W A0 l0.length l0) (hc0:l0.length≤c0) :
  Calls Tryz.prog 196 #[.int .i64 x,.pointer (some ⟨B,0,none⟩)] W fun e w'=>e=.returned (.bool (!(l0.any fun y=>decide (x=y))))∧Below W.heap.size W w':=by
 have HC:=Za ((Zax.hand A0 c0 l0 x W hr0 hc0))
 clear hr0 hc0
 go_enter Tryz.func196,Tryz.ntmps196
 go_wp2_with (go_at_call 151;refine HC.out.mono ?_;rintro e w' ⟨rfl,hb⟩)
 go_ret
 exact⟨rfl,hb⟩
theorem Zbt.calls (k:Nat) (A0:Option Addr) (c0:Nat) (l0:List Int) (A1:Option Addr) (c1:Nat) (l1:List Int) (r:Bool) (w:World) (hr0:Kd.C (Kd.int .i64) w A0 l0.length l0) (hc0:l0.length≤c0) (hr1:Kd.C (Kd.int .i64) w A1 l1.length l1) (hc1:l1.length≤c1) (h:Zbt.f k l0 l1=some r) :
  Calls Tryz.prog 152 #[.slice A0 l0.length c0,.slice A1 l1.length c1] w fun e w'=>e=.returned (.bool r)∧Below w.heap.size w w':=by
 unfold Zbt.f at h
 obtain⟨a,ha,h⟩:=Option.bind_eq_some_iff.1 h
 have LA:=Za fun (W:World) (hb:Below w.heap.size w W)=>(Z2.calls k A0 c0 l0 a W (Zb hr0 hb) hc0 ha).mono fun e w' ⟨he,hd⟩=>(⟨he,by first|exact hd|exact hd.below⟩:e=Ending.returned (.bool a)∧Below W.heap.size W w')
 have B0:=Za ((Below.refl w.heap.size w).alloc (Nat.le_refl _) (.cells #[.slice A0 l0.length c0] 37))
 cases a with
 | false=>
  rw[if_neg (by decide)] at h
  obtain rfl:=Zg h
  clear hr0 hr1 ha h hc0 hc1
  go_enter Tryz.func152,Tryz.ntmps152
  go_wp2_with fail
  refine(LA.out _ B0.out).mono ?_
  rintro e w1 ⟨rfl,hb1⟩
  have B1:=Za (B0.out.trans (hb1.mono B0.out.size))
  clear hb1
  go_wp2
  go_ret
  exact⟨rfl,B1.out⟩
 | true=>
  rw[if_pos rfl] at h
  obtain⟨b,hb_,h⟩:=Option.bind_eq_some_iff.1 h
  have LB:=Za fun (W:World) (hb:Below w.heap.size w W)=>(Z2.calls k A1 c1 l1 b W (Zb hr1 hb) hc1 hb_).mono fun e w' ⟨he,hd⟩=>(⟨he,by first|exact hd|exact hd.below⟩:e=Ending.returned (.bool b)∧Below W.heap.size W w')
  cases b with
  | false=>
   rw[if_neg (by decide)] at h
   obtain rfl:=Zg h
   clear hr0 hr1 ha h hc0 hc1 hb_
   go_enter Tryz.func152,Tryz.ntmps152
   go_wp2_with fail
   refine(LA.out _ B0.out).mono ?_
   rintro e w1 ⟨rfl,hb1⟩
   have B1:=Za (B0.out.trans (hb1.mono B0.out.size))
   clear hb1
   go_wp2_with fail
   refine(LB.out _ B1.out).mono ?_
   rintro e w2 ⟨rfl,hb2⟩
   have B2:=Za (B1.out.trans (hb2.mono B1.out.size))
   clear hb2
   go_wp2
   go_ret
   exact⟨rfl,B2.out⟩
  | true=>
   rw[if_pos rfl] at h
   obtain rfl:=Zg h
   have HC:=Za fun (W:World) (hb:Below w.heap.size w W) (hcell:W.cell? ⟨w.heap.size,0,none⟩=some (.slice A0 l0.length c0))=>ZbZ.any (fun x=>!(l0.any fun y=>decide (x=y))) 196 #[.pointer (some ⟨w.heap.size,0,none⟩)] (enters_of Tryz.func196 (by kernel_rfl) rfl) A1 c1 l1 W (Zb hr1 hb)
    (fun W' x _ hb'=>ZeO.clo w.heap.size A0 c0 l0 x W' ((hb'.cell (Zc W _ hcell)).trans hcell) (Zb hr0 (hb.trans (hb'.mono hb.size))) hc0)
   have HV:=Za (show(!(l1.any fun x=>!(l0.any fun y=>decide (x=y))))=l1.all fun x=>l0.any fun y=>decide (x=y) by rw[List.not_any_eq_all_not];simp)
   have C0:=Za (show(w.alloc (.cells #[.slice A0 l0.length c0] 37)).cell? ⟨w.heap.size,0,none⟩=some (.slice A0 l0.length c0) by go_simp)
   clear hr0 hr1 ha h hc0 hc1 hb_
   go_enter Tryz.func152,Tryz.ntmps152
   go_wp2_with fail
   refine(LA.out _ B0.out).mono ?_
   rintro e w1 ⟨rfl,hb1⟩
   have B1:=Za (B0.out.trans (hb1.mono B0.out.size))
   have C1:=Za ((hb1.cell (Zc _ _ C0.out)).trans C0.out)
   clear hb1
   go_wp2_with fail
   refine(LB.out _ B1.out).mono ?_
   rintro e w2 ⟨rfl,hb2⟩
   have B2:=Za (B1.out.trans (hb2.mono B1.out.size))
   have C2:=Za ((hb2.cell (Zc _ _ C1.out)).trans C1.out)
   clear hb2
   go_wp2_with fail
   refine(HC.out _ B2.out C2.out).mono ?_
   rintro e w3 ⟨rfl,hb3⟩
   go_wp2
   go_ret
   exact⟨by rw[← HV.out];rfl,B2.out.trans (hb3.mono B2.out.size)⟩
theorem Zez (l:List Int) (x:Int) (hl:l.length≤9223372036854775807) (k:Nat) (hk:2 ^ 64≤k):ZaH.f k l x=some (l.any fun y=>decide (x=y)):=by
 have key:=Za2 l.length (fun k i=>ZaH.l0 k x l l.length (i:Int)=some ((l.drop i).any fun y=>decide (x=y))) 0
  (fun k _=>by simp[ZaH.l0])
  (fun k i _ hi ih=>by
   simp only[ZaH.l0]
   rw[if_pos (by omega),if_pos (by omega),if_pos (by omega),ZaO,ZL hi (by omega),Z8 hi 0,List.any_cons]
   by_cases h:l.getD i 0=x
   ·rw[if_pos h,Ze h.symm];rfl
   ·rw[if_neg h,ih,Zf (fun e=>h e.symm)];rfl) 0 k (Nat.zero_le _) (by omega)
 unfold ZaH.f
 simpa using key
def impB (a b:List Int):Bool:=labB a && labB b && b.all fun x=>a.any fun y=>decide (x=y)
theorem ZeL (a b:List Int) (ha:a.length≤9223372036854775807) (hb:b.length≤9223372036854775807) (k:Nat) (hk:2 ^ 65≤k):ZS.f k a b=some (impB a b):=by
 have key:∀k,2 ^ 64+b.length<k→ZS.l0 k a b b.length 0=some (b.all fun x=>a.any fun y=>decide (x=y)):=by
  intro k hk
  have:=Za2 b.length (fun k i=>ZS.l0 k a b b.length (i:Int)=some ((b.drop i).all fun x=>a.any fun y=>decide (x=y))) (2 ^ 64)
   (fun k _=>by simp[ZS.l0])
   (fun k i hk hi ih=>by
    simp only[ZS.l0]
    rw[if_pos (by omega),if_pos (by omega),if_pos (by omega),ZaO,ZL hi (by omega),Z8 hi 0,List.all_cons,Zez a _ ha k hk,Zi]
    cases h:a.any fun y=>decide (b.getD i 0=y)
    ·rfl
    ·rw[if_pos rfl,ih];rfl) 0 k (Nat.zero_le _) (by omega)
  simpa using this
 unfold ZS.f impB
 obtain⟨m,rfl⟩:∃m,k=m+1:=⟨k - 1,by omega⟩
 rw[Zdp a ha _ (by omega),Zi,Zdp b hb _ (by omega)]
 cases labB a
 ·rfl
 ·rw[if_pos rfl,Zi]
  cases labB b
  ·rfl
  ·simp only[ZS.j0,Bool.not_true,Bool.false_eq_true,if_false]
   rw[key m (by omega)];rfl
theorem ZeN (a b:List Int) (ha:a.length≤9223372036854775807) (hb:b.length≤9223372036854775807) (k:Nat) (hk:2 ^ 64≤k):Zbt.f k a b=some (impB a b):=by
 unfold Zbt.f impB
 rw[Zc3 a ha k hk,Zi,Zc3 b hb k hk]
 cases labB a
 ·rfl
 ·rw[if_pos rfl,Zi]
  cases labB b <;> rfl
theorem impl_Node_82.any (p:S39→Bool) (g:Nat) (lb:Array Value) (eg:∀args w,(callFunc g args).run Tryz.prog w=.ok (.enter g args) w) (A0:Option Addr) (c0:Nat) (l0:List S39) (w:World) (hr0:Kd.C k39 w A0 l0.length l0)
  (hp:∀(W:World) (x:S39) (A1_:Option Addr) (c1_:Nat),x∈l0→Below w.heap.size w W→x.f1.length≤c1_→Kd.C (Kd.int .i64) W A1_ x.f1.length x.f1→Calls Tryz.prog g (#[.agg #[.string x.f0,.slice A1_ x.f1.length c1_,.int .i64 x.f2]] ++ lb) W fun e w'=>e=.returned (.bool (p x))∧Below W.heap.size W w') :
  Calls Tryz.prog 82 #[.slice A0 l0.length c0,.func (.func g) #[] lb] w fun e w'=>e=.returned (.int .i64 (Za9 p l0))∧Below w.heap.size w w':=by
 have HR0:=Za hr0;have HP:=Za hp;clear hr0 hp
 have HL:l0.length≤9223372036854775807:=HR0.out.2.1
 go_enter Tryz.func82,Tryz.ntmps82
 go_wp2
 go_loopg [5,8] l0.length (fun gg _ s8 wr=>∃kk:Nat,Aside0 (kk≤l0.length)∧Aside0 (l0.length - kk≤gg)∧s8=.int .i64 kk∧Aside0 (Below w.heap.size w wr)∧Aside0 (∀j y,j<kk→l0[j]? = some y→p y=false))
 case atStart=>exact⟨0,⟨Nat.zero_le _⟩,⟨by omega⟩,rfl,⟨Below.refl _ _⟩,⟨fun j y hj=>absurd hj (Nat.not_lt_zero _)⟩⟩
 case round=>
  obtain⟨kk,HK,HG,rfl,HB,HN⟩:=hrel
  by_cases hlt:kk<l0.length
  ·have hltz:(kk:Int)<(l0.length:Int):=by omega
   obtain⟨ad,A1_,c1_,e1,hx0,hx1,hx2,l1_,g1_⟩:=ZaS HR0.out (kk:Int) (by omega) hltz
   cases e1
   replace hx0:=(HB.out.cell (Zc w _ hx0)).trans hx0
   rw[Int.toNat_natCast] at hx0
   replace hx1:=(HB.out.cell (Zc w _ hx1)).trans hx1
   rw[Int.toNat_natCast] at hx1
   replace hx2:=(HB.out.cell (Zc w _ hx2)).trans hx2
   rw[Int.toNat_natCast] at hx2
   have hxe:l0[kk]? = some (ZI l0 (kk:Int)):=by
    unfold ZI
    rw[Int.toNat_natCast,List.getD_eq_getElem?_getD,Zl hlt];rfl
   generalize ZI l0 (kk:Int)=y at hx0 hx1 hx2 l1_ g1_ hxe
   have HX:=Za hxe;clear hxe
   have hcall:=HP.out wr y A1_ c1_ (List.mem_of_getElem? HX.out) HB.out l1_ (Zb g1_ HB.out)
   clear g1_ l1_
   cases hq:p y with
   | true=>
    have HQ:=Za hq
    rw[hq] at hcall
    clear hq
    go_wp2_with (go_at_fn g;refine hcall.mono ?_;rintro e w' ⟨rfl,hb⟩)
    go_ret
    exact⟨by rw[Zb1 p l0 kk y HX.out HQ.out HN.out];rfl,HB.out.trans (hb.mono HB.out.size)⟩
   | false=>
    have HQ:=Za hq
    rw[hq] at hcall
    clear hq
    go_wp2_with (go_at_fn g;refine hcall.mono ?_;rintro e w' ⟨rfl,hb⟩)
    go_roundg (l0.length - (kk+1))
    case measure=>have:=HG.out;omega
    case rel=>
     refine⟨kk+1,⟨by omega⟩,⟨by omega⟩,by go_num,⟨HB.out.trans (hb.mono HB.out.size)⟩,⟨fun j y' hj hy=>?_⟩⟩
     by_cases e:j=kk
     ·subst e
      rw[HX.out] at hy
      cases hy
      exact HQ.out
     ·exact HN.out j y' (by omega) hy
  ·have hltz:¬(kk:Int)<(l0.length:Int):=by omega
   have:kk=l0.length:=by have:=HK.out;omega
   subst this
   go_wp2
   go_ret
   exact⟨by rw[ZbX p l0 HN.out];rfl,HB.out⟩
def ZbA (ns:List S39) (p:Int):Int:=Za9 (fun n=>decide (0<p) && decide (n.f2=p)) ns
def Zbw.f (l0_0:List (S39)) (l0_1:List (S82)) (a0_2:Int) (a1:Int):Option Int:=some (ZbA l0_0 a1)
theorem Zf6.clo (B:Nat) (p:Int) (W:World) (hB:W.cell? ⟨B,0,none⟩=some (.int .i64 p)) (x:S39) (A1_:Option Addr) (c1_:Nat) :
  Calls Tryz.prog 154 #[.agg #[.string x.f0,.slice A1_ x.f1.length c1_,.int .i64 x.f2],.pointer (some ⟨B,0,none⟩)] W fun e w'=>e=.returned (.bool (decide (0<p) && decide (x.f2=p)))∧Below W.heap.size W w':=by
 have hlt:B<W.heap.size:=Zc W _ hB
 have HE:=Za (show(x.f2 == p)=decide (x.f2=p) by rw[Bool.eq_iff_iff];simp)
 cases hp:decide (0<p) with
 | false=>
  go_enter Tryz.func154,Tryz.ntmps154
  go_wp2
  go_ret
  exact⟨rfl,(Below.refl _ _).alloc (Nat.le_refl _) _⟩
 | true=>
  go_enter Tryz.func154,Tryz.ntmps154
  go_wp2
  go_ret
  exact⟨by rw[← HE.out];rfl,(Below.refl _ _).alloc (Nat.le_refl _) _⟩
theorem Zbw.calls (A0_0:Option Addr) (c0_0:Nat) (l0_0:List (S39)) (A0_1:Option Addr) (c0_1:Nat) (l0_1:List (S82)) (a0_2:Int) (a1:Int) (r:Int) (w:World) (hr0_0:Kd.C k39 w A0_0 l0_0.length l0_0) (hc0_0:l0_0.length≤c0_0) (hr0_1:Kd.C k82 w A0_1 l0_1.length l0_1) (hc0_1:l0_1.length≤c0_1) (h:Zbw.f l0_0 l0_1 a0_2 a1=some r) :
  Calls Tryz.prog 88 #[.agg #[.slice A0_0 l0_0.length c0_0,.slice A0_1 l0_1.length c0_1,.int .i64 a0_2],.int .i64 a1] w fun e w'=>e=.returned (.int .i64 r)∧Below w.heap.size w w':=by
 obtain rfl:=Zg h
 have HC':=Za fun (W:World) (B:Nat) (hb:Below w.heap.size w W) (hcell:W.cell? ⟨B,0,none⟩=some (.int .i64 a1))=>impl_Node_82.any (fun n=>decide (0<a1) && decide (n.f2=a1)) 154 #[.pointer (some ⟨B,0,none⟩)] (enters_of Tryz.func154 (by kernel_rfl) rfl) A0_0 c0_0 l0_0 W (Zb hr0_0 hb)
    (fun W' x A1_ c1_ _ hb' _ _=>Zf6.clo B a1 W' ((hb'.cell (Zc W _ hcell)).trans hcell) x A1_ c1_)
 clear hr0_0 hr0_1 h
 have HB2:=Za (((Below.refl w.heap.size w).alloc (Nat.le_refl _) (.cells #[.slice A0_0 l0_0.length c0_0,.slice A0_1 l0_1.length c0_1,.int .i64 a0_2] 25)).alloc (by simp) (.cells #[.int .i64 a1] 3))
 have hu:=Tryz.underlying25
 go_enter Tryz.func88,Tryz.ntmps88
 go_wp2_with fail
 refine(HC'.out _ _ HB2.out (by go_simp)).mono ?_
 rintro e w' ⟨rfl,hb⟩
 go_wp2
 go_ret
 exact⟨rfl,HB2.out.trans (hb.mono HB2.out.size)⟩
def ZbV.f (k:Nat) (l0_0:List (S39)) (l0_1:List (S82)) (a0_2:Int) (l1:List Int) (a2:Int):Option Bool:=(ZaM.f a2).bind fun p=>((Zbw.f l0_0 l0_1 a0_2 p).bind fun q=>(if q<0 then(some false) else(if 0≤q then(if q<(l0_0.length:Int) then((Zax.f ((ZI l0_0 q).f1) a2).bind fun s=>(if s=true then(some false) else((Zax.f ((ZI l0_0 q).f1) (wrap64 (-a2))).bind fun t=>(if t=true then(some false) else((Zbt.f k l1 ((ZI l0_0 q).f1)).bind fun u=>(some u)))))) else(none)) else(none))))
theorem ZbV.calls (k:Nat) (A0_0:Option Addr) (c0_0:Nat) (l0_0:List (S39)) (A0_1:Option Addr) (c0_1:Nat) (l0_1:List (S82)) (a0_2:Int) (A1:Option Addr) (c1:Nat) (l1:List Int) (a2:Int) (r:Bool) (w:World) (hr0_0:Kd.C k39 w A0_0 l0_0.length l0_0) (hc0_0:l0_0.length≤c0_0) (hr0_1:Kd.C k82 w A0_1 l0_1.length l0_1) (hc0_1:l0_1.length≤c0_1) (hr1:Kd.C (Kd.int .i64) w A1 l1.length l1) (hc1:l1.length≤c1) (h:ZbV.f k l0_0 l0_1 a0_2 l1 a2=some r) :
  Calls Tryz.prog 81 #[.agg #[.slice A0_0 l0_0.length c0_0,.slice A0_1 l0_1.length c0_1,.int .i64 a0_2],.slice A1 l1.length c1,.int .i64 a2] w fun e w'=>e=.returned (.bool r)∧Below w.heap.size w w':=by
 unfold ZbV.f at h
 obtain⟨p,hp,h⟩:=Option.bind_eq_some_iff.1 h
 obtain⟨q,hq,h⟩:=Option.bind_eq_some_iff.1 h
 have HP:=Za fun (W:World)=>ZaM.calls a2 p W hp
 have HW:=Za fun (W:World) (hb:Below w.heap.size w W)=>Zbw.calls A0_0 c0_0 l0_0 A0_1 c0_1 l0_1 a0_2 p q W (Zb hr0_0 hb) hc0_0 (Zb hr0_1 hb) hc0_1 hq
 have HR0:=Za hr0_0;have HR1:=Za hr1;have HC1:=Za hc1;have HH:=Za h
 have hu:=Tryz.underlying25
 have hu2:=Tryz.underlying39
 clear hr0_0 hc0_0 hr0_1 hc0_1 hr1 hc1 hp hq h
 go_enter Tryz.func81,Tryz.ntmps81
 go_wp2
 go_region_held3 (fun w'=>Below w.heap.size w w'∧w'.cell? ⟨w.heap.size,0,none⟩=some (.slice A0_0 l0_0.length c0_0)∧w'.cell? ⟨w.heap.size,1,none⟩=some (.slice A0_1 l0_1.length c0_1)∧w'.cell? ⟨w.heap.size,2,none⟩=some (.int .i64 a0_2))
  (first|(refine⟨by repeat(first|(with_reducible first|exact Below.refl _ _|apply Zo|apply Zm|apply Zp|assumption)|exact Below.refl _ _),?_⟩;go_simp;done)|(refine⟨Zq (by repeat(first|(with_reducible first|exact Below.refl _ _|apply Zo|apply Zm|apply Zp|assumption)|exact Below.refl _ _)) hb,Zx hb ?_,Zx hb ?_,Zx hb ?_⟩ <;> (go_simp;done)))
  (first|(go_at_call 144;refine(HP.out _).mono ?_;rintro e w' ⟨rfl,hb⟩;have hbw:Below w.heap.size w _:=Zq (by repeat(first|(with_reducible first|exact Below.refl _ _|apply Zo|apply Zm|apply Zp|assumption)|exact Below.refl _ _)) hb)|(go_at_call 88;(refine(HW.out _ ?s1).mono ?_);(case s1=>exact(by repeat(first|(with_reducible first|exact Below.refl _ _|apply Zo|apply Zm|apply Zp|assumption)|exact Below.refl _ _)));rintro e w' ⟨rfl,hb⟩))
 rename_i hHeld
 obtain⟨hbA,k0,k1,k2⟩:=hHeld
 have HA:=Za hbA
 have hk0:=Zc _ _ k0
 clear hbA HP HW
 cases d1:decide (q<0) with
 | true=>
  have HE:=Za (show false=r from Zg ((if_pos (Zd d1)).symm.trans HH.out))
  go_wp2
  go_ret
  exact⟨by rw[← HE.out];rfl,HA.out⟩
 | false=>
 have h:=HH.out
 rw[if_neg (of_decide_eq_false d1)] at h
 split at h
 case isFalse=>exact absurd h (by simp)
 rename_i h0
 split at h
 case isFalse=>exact absurd h (by simp)
 rename_i h1
 obtain⟨ad,A3,c3,e3,hx0,hx1,hx2,l3,g3⟩:=ZaS (Zb HR0.out HA.out) q h0 h1
 cases e3
 have hlta:=Zc _ _ hx1
 revert hx1 l3 g3 h
 generalize (ZI l0_0 q).f1=lb
 intro h hx1 l3 g3
 have p0:=eq_true h0
 have p1:=eq_true h1
 obtain⟨s,hs,h⟩:=Option.bind_eq_some_iff.1 h
 have HS:=Za fun (W:World) (g:Kd.C (Kd.int .i64) W A3 lb.length lb)=>Zax.calls A3 c3 lb a2 s W g l3 hs
 have G3:=Za g3;have L3:=Za l3;clear hx0 hx2 h0 h1 hs HH g3 l3
 cases s with
 | true=>
  have HE:=Za (show false=r from Zg ((if_pos rfl).symm.trans h))
  clear h
  go_wp2_with (go_at_call 151;refine(HS.out _ G3.out).mono ?_;rintro e w5 ⟨rfl,hb⟩)
  go_ret
  exact⟨by rw[← HE.out];rfl,HA.out.trans (hb.mono HA.out.size)⟩
 | false=>
 rw[if_neg (by simp)] at h
 obtain⟨t,ht,h⟩:=Option.bind_eq_some_iff.1 h
 have HT:=Za fun (W:World) (g:Kd.C (Kd.int .i64) W A3 lb.length lb)=>Zax.calls A3 c3 lb (wrap64 (-a2)) t W g L3.out ht
 clear ht
 cases t with
 | true=>
  have HE:=Za (show false=r from Zg ((if_pos rfl).symm.trans h))
  clear h
  go_wp2_with (first|(go_at_call 151;with_reducible refine(HS.out _ G3.out).mono ?_;rintro e w5 ⟨rfl,hb⟩;have HB5:=Za (HA.out.trans (hb.mono HA.out.size));have G5:=Za (Zb G3.out hb);clear hb)|(go_at_call 151;with_reducible refine(HT.out _ G5.out).mono ?_;rintro e w6 ⟨rfl,hb⟩;have HB6:=Za (HB5.out.trans (hb.mono HB5.out.size));clear hb))
  go_ret
  exact⟨by rw[← HE.out];rfl,HB6.out⟩
 | false=>
 rw[if_neg (by simp)] at h
 obtain⟨u,hu_,h⟩:=Option.bind_eq_some_iff.1 h
 obtain rfl:=Zg h
 have HI:=Za fun (W:World) (g:Kd.C (Kd.int .i64) W A1 l1.length l1) (g2:Kd.C (Kd.int .i64) W A3 lb.length lb)=>Zbt.calls k A1 c1 l1 A3 c3 lb u W g HC1.out g2 L3.out hu_
 clear hu_ h
 go_wp2_with (first|(go_at_call 151;with_reducible refine(HS.out _ G3.out).mono ?_;rintro e w5 ⟨rfl,hb⟩;have HB5:=Za (HA.out.trans (hb.mono HA.out.size));have G5:=Za (Zb G3.out hb);clear hb)|(go_at_call 151;with_reducible refine(HT.out _ G5.out).mono ?_;rintro e w6 ⟨rfl,hb⟩;have HB6:=Za (HB5.out.trans (hb.mono HB5.out.size));have G6:=Za (Zb G5.out hb);clear hb)|(go_at_call 152;refine(HI.out _ (Zb HR1.out HB6.out) G6.out).mono ?_;rintro e w7 ⟨rfl,hb⟩;have HB7:=Za (HB6.out.trans (hb.mono HB6.out.size));clear hb))
 go_ret
 exact⟨rfl,HB7.out⟩
def ZdR (ns:List ZM) (lb:List Int) (x w:Int):Bool:=
 decide (0≤w) && !((ZI ns w).f1.any fun y=>decide (x=y)) && !((ZI ns w).f1.any fun y=>decide (-x=y)) && impB lb (ZI ns w).f1
def Zb7 (ns:List ZM) (lb:List Int) (x:Int):Bool:=ZdR ns lb x (ZbA ns (prp x))
theorem isWatched_f (ns:List ZM) (ts:List PTie) (z:Int) (lb:List Int) (x:Int) (hb:∀n∈ns,n.f1.length≤9223372036854775807) (hl:lb.length≤9223372036854775807) (hx:Zbp x=true) (k:Nat) (hk:2 ^ 64≤k) :
  ZbV.f k ns ts z lb x=some (Zb7 ns lb x):=by
 have hx3:=(Zb0 x).1 hx
 have hbd:=ZeE (fun n:ZM=>decide (0<prp x) && decide (n.f2=prp x)) ns
 unfold ZbV.f
 rw[ZdY hx,Zi]
 unfold Zbw.f Zb7 ZdR
 rw[Zi]
 have hbd' : -1≤ZbA ns (prp x)∧ZbA ns (prp x)<ns.length:=hbd
 generalize ZbA ns (prp x)=w at hbd' ⊢
 by_cases h:w<0
 ·rw[if_pos h,Zf (show ¬0≤w by omega)];rfl
 ·rw[if_neg h,if_pos (by omega),if_pos (by omega),Ze (show 0≤w by omega)]
  have hm:(ZI ns w).f1.length≤9223372036854775807:=by
   obtain⟨n,rfl⟩:=Int.eq_ofNat_of_zero_le (show 0≤w by omega)
   rw[show ZI ns (n:Int)=ns.getD n z39 from Zcn ns n]
   exact hb _ (ZaG (by omega) _)
  unfold Zax.f
  rw[Zi,Zay (i:=-x) (by omega) (by omega),ZeN lb _ hl hm k hk]
  simp only[Zi,Bool.true_and]
  cases (ZI ns w).f1.any fun y=>decide (x=y)
  ·cases (ZI ns w).f1.any fun y=>decide (-x=y)
   ·simp
   ·rfl
  ·rfl
def Za0.l0:Nat→List Int→List Int→Int→Int→Option (Bool)
 | 0,_,_,_,_=>none
 | k+1,x1,x12,x13,x14=>if x14<x13 then(if 0≤x14 then(if x14<(x12.length:Int) then(if x14<(x1.length:Int) then(if (rd x12 x14)=(rd x1 x14) then(Za0.l0 k x1 x12 x13 (wrap64 (x14+1))) else(some false)) else(none)) else(none)) else(none)) else(some true)
def Za0.f (k:Nat) (l0:List Int) (l1:List Int):Option (Bool):=if (l0.length:Int)=(l1.length:Int) then(Za0.l0 k l1 l0 (l0.length:Int) 0) else(some false)
theorem Za0.calls (k:Nat) (A0:Option Addr) (c0:Nat) (l0:List Int) (A1:Option Addr) (c1:Nat) (l1:List Int) (r:Bool) (w:World) (hr0:Kd.C (Kd.int .i64) w A0 l0.length l0) (hc0:l0.length≤c0) (hr1:Kd.C (Kd.int .i64) w A1 l1.length l1) (hc1:l1.length≤c1) (h:Za0.f k l0 l1=some r) :
  Calls Tryz.prog 179 #[.slice A0 l0.length c0,.slice A1 l1.length c1] w fun e w'=>e=.returned (.bool r)∧ZF w w':=by
 have HR0:=Za hr0;have HC0:=Za hc0;clear hr0 hc0;have HR1:=Za hr1;have HC1:=Za hc1;clear hr1 hc1
 have H:(if (l0.length:Int)=(l1.length:Int) then(Za0.l0 k l1 l0 (l0.length:Int) 0) else(some false))=some r:=h
 clear h
 by_cases c3:(l0.length:Int)=(l1.length:Int)
 ·rw[if_pos c3] at H
  have c3b0:((l0.length:Int) == (l1.length:Int))=true:=beq_iff_eq.mpr c3
  clear c3
  have H':=Za H
  clear H
  go_enter Tryz.func179,Tryz.ntmps179
  go_wp2
  go_loopg [14] k (fun kq v14 w'=>∃(x14_1:Int),v14=.int .i64 x14_1∧Aside0 (Za0.l0 kq l1 l0 (l0.length:Int) x14_1=some r)∧Aside0 (kq≤k)∧ZF w w')
  case atStart=>exact⟨(0),(by first|rfl|(simp;done)|(simp[*];done)),H',⟨Nat.le_refl _⟩,by repeat(first|exact ZF.refl _|apply ZF.step)⟩
  case round=>
   clear H'
   try clear c1
   try clear p2
   try clear c3
   try clear c3b0
   try clear c3b1
   try clear c3b2
   obtain⟨x14_1,rfl,HA,HK1,⟨m1,rfl⟩⟩:=hrel
   cases gk with
   | zero=>exact absurd HA.out (by simp[Za0.l0])
   | succ k1=>
    have H:=HA.out
    clear HA
    simp only[Za0.l0] at H
    by_cases c4:x14_1<(l0.length:Int)
    ·rw[if_pos c4] at H
     have c4b0:decide (x14_1<(l0.length:Int))=true:=Ze c4
     clear c4
     by_cases c5:0≤x14_1
     ·rw[if_pos c5] at H
      have c5b0:decide (0≤x14_1)=true:=Ze c5
      clear c5
      by_cases c6:x14_1<(l0.length:Int)
      ·rw[if_pos c6] at H
       have c6b0:decide (x14_1<(l0.length:Int))=true:=Ze c6
       clear c6
       by_cases c7:x14_1<(l1.length:Int)
       ·rw[if_pos c7] at H
        have c7b0:decide (x14_1<(l1.length:Int))=true:=Ze c7
        clear c7
        by_cases c8:(rd l0 x14_1)=(rd l1 x14_1)
        ·rw[if_pos c8] at H
         have c8b0:((rd l0 x14_1) == (rd l1 x14_1))=true:=beq_iff_eq.mpr c8
         clear c8
         have H':=Za H
         clear H
         have p1:0≤(x14_1:Int):=Zd (by first|(with_reducible assumption)|assumption)
         have q1:x14_1<(l0.length:Int):=Zd (by first|(with_reducible assumption)|assumption)
         obtain⟨ad1,e1,hx1_0⟩:=Kd.at_int HR0.out x14_1 p1 q1
         cases e1
         replace p1:=eq_true p1
         replace q1:=eq_true q1
         have p179002:0≤(x14_1:Int):=Zd (by first|(with_reducible assumption)|assumption)
         have q2:x14_1<(l1.length:Int):=Zd (by first|(with_reducible assumption)|assumption)
         obtain⟨ad2,e2,hx2_0⟩:=Kd.at_int HR1.out x14_1 p179002 q2
         cases e2
         replace p179002:=eq_true p179002
         replace q2:=eq_true q2
         go_wp2
         go_roundg k1
         case measure=>have:=HK1.out;omega
         case rel=>exact⟨(wrap64 (x14_1+1)),(by first|rfl|(simp;done)|(simp[*];done)),H',⟨by have:=HK1.out;omega⟩,by repeat(first|exact ZF.refl _|apply ZF.step)⟩
        ·rw[if_neg c8] at H
         have c8b0:((rd l0 x14_1) == (rd l1 x14_1))=false:=beq_eq_false_iff_ne.mpr c8
         obtain rfl:=Zg H
         have p1:0≤(x14_1:Int):=Zd (by first|(with_reducible assumption)|assumption)
         have q1:x14_1<(l0.length:Int):=Zd (by first|(with_reducible assumption)|assumption)
         obtain⟨ad1,e1,hx1_0⟩:=Kd.at_int HR0.out x14_1 p1 q1
         cases e1
         replace p1:=eq_true p1
         replace q1:=eq_true q1
         have p179002:0≤(x14_1:Int):=Zd (by first|(with_reducible assumption)|assumption)
         have q2:x14_1<(l1.length:Int):=Zd (by first|(with_reducible assumption)|assumption)
         obtain⟨ad2,e2,hx2_0⟩:=Kd.at_int HR1.out x14_1 p179002 q2
         cases e2
         replace p179002:=eq_true p179002
         replace q2:=eq_true q2
         go_wp2
         go_ret
         exact⟨by first|rfl|(simp;done)|(simp[*];done),by repeat(first|exact ZF.refl _|apply ZF.step)⟩
       ·rw[if_neg c7] at H
        exact absurd H (by simp)
      ·rw[if_neg c6] at H
       exact absurd H (by simp)
     ·rw[if_neg c5] at H
      exact absurd H (by simp)
    ·rw[if_neg c4] at H
     have c4b0:decide (x14_1<(l0.length:Int))=false:=Zf c4
     clear c4
     obtain rfl:=Zg H
     go_wp2
     go_ret
     exact⟨by first|rfl|(simp;done)|(simp[*];done),by repeat(first|exact ZF.refl _|apply ZF.step)⟩
 ·rw[if_neg c3] at H
  have c3b0:((l0.length:Int) == (l1.length:Int))=false:=beq_eq_false_iff_ne.mpr c3
  obtain rfl:=Zg H
  go_enter Tryz.func179,Tryz.ntmps179
  go_wp2
  go_ret
  exact⟨by first|rfl|(simp;done)|(simp[*];done),by repeat(first|exact ZF.refl _|apply ZF.step)⟩
def Z9.l0:Nat→List Int→List Int→Int→Int→Option (Bool)
 | 0,_,_,_,_=>none
 | k+1,x0,x1,x12,x13=>if x13<x12 then(if 0≤x13 then(if x13<(x0.length:Int) then(if x13<(x1.length:Int) then(if (rd x0 x13)=(rd x1 x13) then(Z9.l0 k x0 x1 x12 (wrap64 (x13+1))) else(some false)) else(none)) else(none)) else(none)) else(some true)
def Z9.f (k:Nat) (l0:List Int) (l1:List Int):Option (Bool):=if (l0.length:Int)=(l1.length:Int) then(Z9.l0 k l0 l1 (l0.length:Int) 0) else(some false)
theorem Z9.calls (k:Nat) (A0:Option Addr) (c0:Nat) (l0:List Int) (A1:Option Addr) (c1:Nat) (l1:List Int) (r:Bool) (w:World) (hr0:Kd.C (Kd.int .i64) w A0 l0.length l0) (hc0:l0.length≤c0) (hr1:Kd.C (Kd.int .i64) w A1 l1.length l1) (hc1:l1.length≤c1) (h:Z9.f k l0 l1=some r) :
  Calls Tryz.prog 146 #[.slice A0 l0.length c0,.slice A1 l1.length c1] w fun e w'=>e=.returned (.bool r)∧ZF w w':=by
 have HR0:=Za hr0;have HC0:=Za hc0;clear hr0 hc0;have HR1:=Za hr1;have HC1:=Za hc1;clear hr1 hc1
 have H:(if (l0.length:Int)=(l1.length:Int) then(Z9.l0 k l0 l1 (l0.length:Int) 0) else(some false))=some r:=h
 clear h
 by_cases c3:(l0.length:Int)=(l1.length:Int)
 ·rw[if_pos c3] at H
  have c3b0:((l0.length:Int) == (l1.length:Int))=true:=beq_iff_eq.mpr c3
  clear c3
  have H':=Za H
  clear H
  go_enter Tryz.func146,Tryz.ntmps146
  go_wp2
  repeat(go_quiet (fail);try go_wp2)
  go_loopg [13] k (fun kq v13 w'=>∃(x13_1:Int),v13=.int .i64 x13_1∧Aside0 (Z9.l0 kq l0 l1 (l0.length:Int) x13_1=some r)∧Aside0 (kq≤k)∧ZF w w')
  case atStart=>exact⟨(0),(by first|rfl|(simp;done)|(simp[*];done)),H',⟨Nat.le_refl _⟩,by repeat(first|exact ZF.refl _|apply ZF.step)⟩
  case round=>
   clear H'
   try clear c1
   try clear p2
   try clear c3
   try clear c3b0
   try clear c3b1
   try clear c3b2
   obtain⟨x13_1,rfl,HA,HK1,⟨m1,rfl⟩⟩:=hrel
   cases gk with
   | zero=>exact absurd HA.out (by simp[Z9.l0])
   | succ k1=>
    have H:=HA.out
    clear HA
    simp only[Z9.l0] at H
    by_cases c4:x13_1<(l0.length:Int)
    ·rw[if_pos c4] at H
     have c4b0:decide (x13_1<(l0.length:Int))=true:=Ze c4
     clear c4
     by_cases c5:0≤x13_1
     ·rw[if_pos c5] at H
      have c5b0:decide (0≤x13_1)=true:=Ze c5
      clear c5
      by_cases c6:x13_1<(l0.length:Int)
      ·rw[if_pos c6] at H
       have c6b0:decide (x13_1<(l0.length:Int))=true:=Ze c6
       clear c6
       by_cases c7:x13_1<(l1.length:Int)
       ·rw[if_pos c7] at H
        have c7b0:decide (x13_1<(l1.length:Int))=true:=Ze c7
        clear c7
        by_cases c8:(rd l0 x13_1)=(rd l1 x13_1)
        ·rw[if_pos c8] at H
         have c8b0:((rd l0 x13_1) == (rd l1 x13_1))=true:=beq_iff_eq.mpr c8
         clear c8
         have H':=Za H
         clear H
         have p1:0≤(x13_1:Int):=Zd (by first|(with_reducible assumption)|assumption)
         have q1:x13_1<(l0.length:Int):=Zd (by first|(with_reducible assumption)|assumption)
         obtain⟨ad1,e1,hx1_0⟩:=Kd.at_int HR0.out x13_1 p1 q1
         cases e1
         replace p1:=eq_true p1
         replace q1:=eq_true q1
         have p146002:0≤(x13_1:Int):=Zd (by first|(with_reducible assumption)|assumption)
         have q2:x13_1<(l1.length:Int):=Zd (by first|(with_reducible assumption)|assumption)
         obtain⟨ad2,e2,hx2_0⟩:=Kd.at_int HR1.out x13_1 p146002 q2
         cases e2
         replace p146002:=eq_true p146002
         replace q2:=eq_true q2
         go_wp2
         repeat(go_quiet (fail);try go_wp2)
         go_roundg k1
         case measure=>have:=HK1.out;omega
         case rel=>exact⟨(wrap64 (x13_1+1)),(by first|rfl|(simp;done)|(simp[*];done)),H',⟨by have:=HK1.out;omega⟩,by repeat(first|exact ZF.refl _|apply ZF.step)⟩
        ·rw[if_neg c8] at H
         have c8b0:((rd l0 x13_1) == (rd l1 x13_1))=false:=beq_eq_false_iff_ne.mpr c8
         obtain rfl:=Zg H
         have p1:0≤(x13_1:Int):=Zd (by first|(with_reducible assumption)|assumption)
         have q1:x13_1<(l0.length:Int):=Zd (by first|(with_reducible assumption)|assumption)
         obtain⟨ad1,e1,hx1_0⟩:=Kd.at_int HR0.out x13_1 p1 q1
         cases e1
         replace p1:=eq_true p1
         replace q1:=eq_true q1
         have p146002:0≤(x13_1:Int):=Zd (by first|(with_reducible assumption)|assumption)
         have q2:x13_1<(l1.length:Int):=Zd (by first|(with_reducible assumption)|assumption)
         obtain⟨ad2,e2,hx2_0⟩:=Kd.at_int HR1.out x13_1 p146002 q2
         cases e2
         replace p146002:=eq_true p146002
         replace q2:=eq_true q2
         go_wp2
         repeat(go_quiet (fail);try go_wp2)
         go_ret
         exact⟨by first|rfl|(simp;done)|(simp[*];done),by repeat(first|exact ZF.refl _|apply ZF.step)⟩
       ·rw[if_neg c7] at H
        exact absurd H (by simp)
      ·rw[if_neg c6] at H
       exact absurd H (by simp)
     ·rw[if_neg c5] at H
      exact absurd H (by simp)
    ·rw[if_neg c4] at H
     have c4b0:decide (x13_1<(l0.length:Int))=false:=Zf c4
     clear c4
     obtain rfl:=Zg H
     go_wp2
     repeat(go_quiet (fail);try go_wp2)
     go_ret
     exact⟨by first|rfl|(simp;done)|(simp[*];done),by repeat(first|exact ZF.refl _|apply ZF.step)⟩
 ·rw[if_neg c3] at H
  have c3b0:((l0.length:Int) == (l1.length:Int))=false:=beq_eq_false_iff_ne.mpr c3
  obtain rfl:=Zg H
  go_enter Tryz.func146,Tryz.ntmps146
  go_wp2
  repeat(go_quiet (fail);try go_wp2)
  go_ret
  exact⟨by first|rfl|(simp;done)|(simp[*];done),by repeat(first|exact ZF.refl _|apply ZF.step)⟩
theorem l08Same_f (l m:List Int) (hl:l.length≤9223372036854775807) (k:Nat) (hk:2 ^ 64≤k):Za0.f k l m=some (decide (l=m)):=by
 unfold Za0.f
 by_cases e:l.length=m.length
 ·rw[if_pos (by omega)]
  have key:=Za2 l.length (fun k i=>Za0.l0 k m l l.length (i:Int)=some (decide (l.drop i=m.drop i))) 0
   (fun k _=>by
    simp only[Za0.l0]
    rw[if_neg (by omega),List.drop_of_length_le (Nat.le_refl _),List.drop_of_length_le (by omega)]
    simp)
   (fun k i _ hi ih=>by
    simp only[Za0.l0]
    rw[if_pos (by omega),if_pos (by omega),if_pos (by omega),if_pos (by omega),ZaO,ZaO,ZL hi (by omega),Z8 hi 0,Z8 (show i<m.length by omega) 0]
    by_cases h:l.getD i 0=m.getD i 0
    ·rw[if_pos h,ih,h];simp
    ·rw[if_neg h]
     simp only[List.cons.injEq,h,false_and,decide_false]) 0 k (Nat.zero_le _) (by omega)
  simpa using key
 ·rw[if_neg (by omega)]
  have:l≠m:=fun h=>e (by rw[h])
  simp[this]
theorem sEqual_f (l m:List Int) (hl:l.length≤9223372036854775807) (k:Nat) (hk:2 ^ 64≤k):Z9.f k l m=some (decide (l=m)):=by
 unfold Z9.f
 by_cases e:l.length=m.length
 ·rw[if_pos (by omega)]
  have key:=Za2 l.length (fun k i=>Z9.l0 k l m l.length (i:Int)=some (decide (l.drop i=m.drop i))) 0
   (fun k _=>by
    simp only[Z9.l0]
    rw[if_neg (by omega),List.drop_of_length_le (Nat.le_refl _),List.drop_of_length_le (by omega)]
    simp)
   (fun k i _ hi ih=>by
    simp only[Z9.l0]
    rw[if_pos (by omega),if_pos (by omega),if_pos (by omega),if_pos (by omega),ZaO,ZaO,ZL hi (by omega),Z8 hi 0,Z8 (show i<m.length by omega) 0]
    by_cases h:l.getD i 0=m.getD i 0
    ·rw[if_pos h,ih,h];simp
    ·rw[if_neg h]
     simp only[List.cons.injEq,h,false_and,decide_false]) 0 k (Nat.zero_le _) (by omega)
  simpa using key
 ·rw[if_neg (by omega)]
  have:l≠m:=fun h=>e (by rw[h])
  simp[this]
def Zdx.f (a0:Int):Option (Bool):=if a0≥(-20) then(some (decide (a0≤20))) else(some false)
theorem Zdx.calls (a0:Int) (r:Bool) (w:World) (h:Zdx.f a0=some r) :
  Calls Tryz.prog 147 #[.int .i64 a0] w fun e w'=>e=.returned (.bool r)∧ZF w w':=by
 have H:(if a0≥(-20) then(some (decide (a0≤20))) else(some false))=some r:=h
 clear h
 by_cases c2:a0≥(-20)
 ·rw[if_pos c2] at H
  have c2b0:decide ((-20)≤a0)=true:=Ze c2
  clear c2
  obtain rfl:=Zg H
  go_enter Tryz.func147,Tryz.ntmps147
  go_wp2
  go_ret
  exact⟨by first|rfl|(simp;done)|(simp[*];done),by repeat(first|exact ZF.refl _|apply ZF.step)⟩
 ·rw[if_neg c2] at H
  have c2b0:decide ((-20)≤a0)=false:=Zf c2
  clear c2
  obtain rfl:=Zg H
  go_enter Tryz.func147,Tryz.ntmps147
  go_wp2
  go_ret
  exact⟨by first|rfl|(simp;done)|(simp[*];done),by repeat(first|exact ZF.refl _|apply ZF.step)⟩
theorem impl_Tie_195.any (p:S82→Bool) (g:Nat) (lb:Array Value) (eg:∀args w,(callFunc g args).run Tryz.prog w=.ok (.enter g args) w) (A0:Option Addr) (c0:Nat) (l0:List S82) (w:World) (hr0:Kd.C k82 w A0 l0.length l0)
  (hp:∀(W:World) (x:S82),x∈l0→Below w.heap.size w W→Calls Tryz.prog g (#[.agg #[.int .i64 x.f0,.int .i64 x.f1,.int .i64 x.f2,.int .i64 x.f3,.bool x.f4]] ++ lb) W fun e w'=>e=.returned (.bool (p x))∧Below W.heap.size W w') :
  Calls Tryz.prog 195 #[.slice A0 l0.length c0,.func (.func g) #[] lb] w fun e w'=>e=.returned (.int .i64 (Za9 p l0))∧Below w.heap.size w w':=by
 have HR0:=Za hr0;have HP:=Za hp;clear hr0 hp
 have HL:l0.length≤9223372036854775807:=HR0.out.2.1
 go_enter Tryz.func195,Tryz.ntmps195
 go_wp2
 go_loopg [5,8] l0.length (fun gg _ s8 wr=>∃kk:Nat,Aside0 (kk≤l0.length)∧Aside0 (l0.length - kk≤gg)∧s8=.int .i64 kk∧Aside0 (Below w.heap.size w wr)∧Aside0 (∀j y,j<kk→l0[j]? = some y→p y=false))
 case atStart=>exact⟨0,⟨Nat.zero_le _⟩,⟨by omega⟩,rfl,⟨Below.refl _ _⟩,⟨fun j y hj=>absurd hj (Nat.not_lt_zero _)⟩⟩
 case round=>
  obtain⟨kk,HK,HG,rfl,HB,HN⟩:=hrel
  by_cases hlt:kk<l0.length
  ·have hltz:(kk:Int)<(l0.length:Int):=by omega
   obtain⟨ad,e1,hx0,hx1,hx2,hx3,hx4⟩:=ZbS HR0.out (kk:Int) (by omega) hltz
   cases e1
   replace hx0:=(HB.out.cell (Zc w _ hx0)).trans hx0
   rw[Int.toNat_natCast] at hx0
   replace hx1:=(HB.out.cell (Zc w _ hx1)).trans hx1
   rw[Int.toNat_natCast] at hx1
   replace hx2:=(HB.out.cell (Zc w _ hx2)).trans hx2
   rw[Int.toNat_natCast] at hx2
   replace hx3:=(HB.out.cell (Zc w _ hx3)).trans hx3
   rw[Int.toNat_natCast] at hx3
   replace hx4:=(HB.out.cell (Zc w _ hx4)).trans hx4
   rw[Int.toNat_natCast] at hx4
   have hxe:l0[kk]? = some (Zu l0 (kk:Int)):=by
    unfold Zu
    rw[Int.toNat_natCast,List.getD_eq_getElem?_getD,Zl hlt];rfl
   generalize Zu l0 (kk:Int)=y at hx0 hx1 hx2 hx3 hx4 hxe
   have HX:=Za hxe;clear hxe
   have hcall:=HP.out wr y (List.mem_of_getElem? HX.out) HB.out
   cases hq:p y with
   | true=>
    have HQ:=Za hq
    rw[hq] at hcall
    clear hq
    go_wp2_with (go_at_fn g;refine hcall.mono ?_;rintro e w' ⟨rfl,hb⟩)
    go_ret
    exact⟨by rw[Zb1 p l0 kk y HX.out HQ.out HN.out];rfl,HB.out.trans (hb.mono HB.out.size)⟩
   | false=>
    have HQ:=Za hq
    rw[hq] at hcall
    clear hq
    go_wp2_with (go_at_fn g;refine hcall.mono ?_;rintro e w' ⟨rfl,hb⟩)
    go_roundg (l0.length - (kk+1))
    case measure=>have:=HG.out;omega
    case rel=>
     refine⟨kk+1,⟨by omega⟩,⟨by omega⟩,by go_num,⟨HB.out.trans (hb.mono HB.out.size)⟩,⟨fun j y' hj hy=>?_⟩⟩
     by_cases e:j=kk
     ·subst e
      rw[HX.out] at hy
      cases hy
      exact HQ.out
     ·exact HN.out j y' (by omega) hy
  ·have hltz:¬(kk:Int)<(l0.length:Int):=by omega
   have:kk=l0.length:=by have:=HK.out;omega
   subst this
   go_wp2
   go_ret
   exact⟨by rw[ZbX p l0 HN.out];rfl,HB.out⟩
theorem impl_Tie_148.any (p:S82→Bool) (g:Nat) (lb:Array Value) (eg:∀args w,(callFunc g args).run Tryz.prog w=.ok (.enter g args) w) (A0:Option Addr) (c0:Nat) (l0:List S82) (w:World) (hr0:Kd.C k82 w A0 l0.length l0)
  (hp:∀(W:World) (x:S82),x∈l0→Below w.heap.size w W→Calls Tryz.prog g (#[.agg #[.int .i64 x.f0,.int .i64 x.f1,.int .i64 x.f2,.int .i64 x.f3,.bool x.f4]] ++ lb) W fun e w'=>e=.returned (.bool (p x))∧Below W.heap.size W w') :
  Calls Tryz.prog 148 #[.slice A0 l0.length c0,.func (.func g) #[] lb] w fun e w'=>e=.returned (.bool (l0.any p))∧Below w.heap.size w w':=by
 have HI:=Za (impl_Tie_195.any p g lb eg A0 c0 l0 w hr0 hp)
 clear hr0 hp
 have HE:=Za (Zdh p l0)
 go_enter Tryz.func148,Tryz.ntmps148
 go_wp2_with (go_at_call 195;refine HI.out.mono ?_;rintro e w' ⟨rfl,hb⟩)
 go_ret
 exact⟨by rw[← HE.out];rfl,hb⟩
def ZcA.f (a0:Int) (a1:Int):Option (Bool):=if a1≥0 then(some (decide (a1<a0))) else(some false)
theorem ZcA.calls (a0:Int) (a1:Int) (r:Bool) (w:World) (h:ZcA.f a0 a1=some r) :
  Calls Tryz.prog 84 #[.int .i64 a0,.int .i64 a1] w fun e w'=>e=.returned (.bool r)∧ZF w w':=by
 have H:(if a1≥0 then(some (decide (a1<a0))) else(some false))=some r:=h
 clear h
 by_cases c3:a1≥0
 ·rw[if_pos c3] at H
  have c3b0:decide (0≤a1)=true:=Ze c3
  clear c3
  obtain rfl:=Zg H
  go_enter Tryz.func84,Tryz.ntmps84
  go_wp2
  go_ret
  exact⟨by first|rfl|(simp;done)|(simp[*];done),by repeat(first|exact ZF.refl _|apply ZF.step)⟩
 ·rw[if_neg c3] at H
  have c3b0:decide (0≤a1)=false:=Zf c3
  clear c3
  obtain rfl:=Zg H
  go_enter Tryz.func84,Tryz.ntmps84
  go_wp2
  go_ret
  exact⟨by first|rfl|(simp;done)|(simp[*];done),by repeat(first|exact ZF.refl _|apply ZF.step)⟩
end Go.Proofs.YtoeimopgoaffcaaGreatDoor.Pr
