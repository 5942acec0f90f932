/- The texts of one claim, put together by a program of this session. -/
import Derived.Lib.ItoaNum
import Derived.Lib.Join
import Derived.Lib.AtoiAllCases
import Derived.Lib.Bytealg
import Derived.Test.YthphnhmabieflaaDoorBPlc1x1
import Derived.Test.YthphnhmabieflaaDoorBPlc1x2
namespace Go.Proofs.YthphnhmabieflaaDoor.Pr
open Go.RowKit Go.Proofs.YthphnhmabieflaaDoorW.PrintWords Go.Proofs.YthphnhmabieflaaDoorW.PrintLast Go.Proofs.YthphnhmabieflaaDoorW.PrintMore
attribute [local go_sem] Zal Zaj Zas Zar Zaf Zae Zak Zai
set_option linter.unusedVariables false
set_option linter.unusedSimpArgs false
mutual
def Zo.l0:Nat→ByteArray→List Int→List ByteArray→Int→Int→Option (List Int×Bool)
 | 0,_,_,_,_,_=>none
 | k+1,x0,x4,x13,x14,x15=>if x15<x14 then(if 0≤x15 then(if x15<(x13.length:Int) then(if ((rdOf ByteArray.empty x13 x15).size:Int) > 0 then(if 0<((rdOf ByteArray.empty x13 x15).size:Int) then(Zo.j1 k x0 x4 (rdOf ByteArray.empty x13 x15) ((bt (rdOf ByteArray.empty x13 x15) 0) == 33) x13 x14 x15) else(none)) else(Zo.j1 k x0 x4 (rdOf ByteArray.empty x13 x15) false x13 x14 x15)) else(none)) else(none)) else((Zx.f k x4).bind fun t23004=>(if t23004.toList=x0.toList then(some (x4,true)) else(some (([]:List Int),false))))
def Zo.j1:Nat→ByteArray→List Int→ByteArray→Bool→List ByteArray→Int→Int→Option (List Int×Bool)
 | 0,_,_,_,_,_,_,_=>none
 | k+1,x0,x4,x6,x7,x13,x14,x15=>if x7=true then(if 1≤(x6.size:Int) then(Zo.j2 k x0 x4 (x6.extract 1 x6.size) x7 x13 x14 x15) else(none)) else(Zo.j2 k x0 x4 x6 x7 x13 x14 x15)
def Zo.j2:Nat→ByteArray→List Int→ByteArray→Bool→List ByteArray→Int→Int→Option (List Int×Bool)
 | 0,_,_,_,_,_,_,_=>none
 | k+1,x0,x4,x6,x7,x13,x14,x15=>if (x6.size:Int)<2 then(Zo.j3 k x0 x4 x6 x7 x13 x14 x15 true) else(if 0<(x6.size:Int) then(Zo.j3 k x0 x4 x6 x7 x13 x14 x15 ((bt x6 0) != 112)) else(none))
def Zo.j3:Nat→ByteArray→List Int→ByteArray→Bool→List ByteArray→Int→Int→Bool→Option (List Int×Bool)
 | 0,_,_,_,_,_,_,_,_=>none
 | k+1,x0,x4,x6,x7,x13,x14,x15,x37=>if x37=true then(some (([]:List Int),false)) else(if 1≤(x6.size:Int) then((ZO.f (x6.extract 1 x6.size)).bind fun bt23006=>(if bt23006.2=true then(if bt23006.1<1 then(Zo.j4 k x0 x4 x7 bt23006.1 x13 x14 x15 true) else(Zo.j4 k x0 x4 x7 bt23006.1 x13 x14 x15 (decide (bt23006.1 > 3)))) else(Zo.j4 k x0 x4 x7 bt23006.1 x13 x14 x15 true))) else(none))
def Zo.j4:Nat→ByteArray→List Int→Bool→Int→List ByteArray→Int→Int→Bool→Option (List Int×Bool)
 | 0,_,_,_,_,_,_,_,_=>none
 | k+1,x0,x4,x7,x8,x13,x14,x15,x53=>if x53=true then(some (([]:List Int),false)) else(if x7=true then(if x4.length<17592186044416 then(Zo.l0 k x0 (x4 ++ [wrap64 (-x8)]) x13 x14 (wrap64 (x15+1))) else(none)) else(if x4.length<17592186044416 then(Zo.l0 k x0 (x4 ++ [x8]) x13 x14 (wrap64 (x15+1))) else(none)))
end
def Zo.f (k:Nat) (a0:ByteArray):Option (List Int×Bool):=if a0.toList=([45]:List UInt8) then(some (([]:List Int),true)) else((ZI.f k a0 (⟨#[38]⟩:ByteArray)).bind fun t23001=>(Zo.l0 k a0 ([]:List Int) t23001 (t23001.length:Int) 0))
set_option maxHeartbeats 8000000 in
set_option maxRecDepth 100000 in
theorem Zo.calls (k:Nat) (a0:ByteArray) (r1:List Int) (r2:Bool) (w:World) (ht:TW w) (hev:EW w) (h:Zo.f k a0=some (r1,r2)) :
  Calls Tryd.prog 23 #[.string a0] w fun e w'=>∃v0_:Value,e=.returned (.tuple #[v0_,.bool r2])∧Kd.R (Kd.int .i64) 3 w' w.heap.size (fun _=>True) v0_ r1∧Below w.heap.size w w':=by
 have HTW:=Za ht;clear ht;have HEW:=Za hev;clear hev
 have HB:=Za (Below.refl w.heap.size w)
 have H:(if a0.toList=([45]:List UInt8) then(some (([]:List Int),true)) else((ZI.f k a0 (⟨#[38]⟩:ByteArray)).bind fun t23001=>(Zo.l0 k a0 ([]:List Int) t23001 (t23001.length:Int) 0)))=some (r1,r2):=h
 clear h
 by_cases c2:a0.toList=([45]:List UInt8)
 ·rw[if_pos c2] at H
  have c2b0:(a0.toList == ([45]:List UInt8))=true:=beq_iff_eq.mpr c2
  have c2b1:(a0.toList != ([45]:List UInt8))=false:=bne_eq_false_iff_eq.mpr c2
  clear c2
  simp only[Option.some.injEq,Prod.mk.injEq] at H
  obtain⟨rfl,rfl⟩:=H
  go_enter Tryd.func23,Tryd.ntmps23
  go_wp2
  go_ret2
  exact⟨_,by first|rfl|(simp[Zr,Zq] <;> rfl)|(simp[*,Zr,Zq] <;> rfl),by first|exact Kd.R_nil _ _ _ _ _|exact Kd.N_nil _ _ _ _ _|exact Kd.V_nil _ _ _ _ _|exact Kd.Q_nil _ _ _ _ _|exact Kd.S_nil _ _ _ _ _,by repeat(first|(with_reducible first|exact HB.out|apply Zm|apply Zl|apply Zn)|exact HB.out)⟩
 ·rw[if_neg c2] at H
  have c2b0:(a0.toList == ([45]:List UInt8))=false:=beq_eq_false_iff_ne.mpr c2
  have c2b1:(a0.toList != ([45]:List UInt8))=true:=bne_iff_ne.mpr c2
  replace H:=Zg H
  obtain⟨t23001,A30,H⟩:=H
  replace H:(Zo.l0 k a0 ([]:List Int) t23001 (t23001.length:Int) 0)=some (r1,r2):=H
  have A3:=Za A30;clear A30
  have H':=Za H
  clear H
  go_enter Tryd.func23,Tryd.ntmps23
  go_wp2_with (first|((with_reducible refine ZA (f:=56) rfl ?_);refine ZT (some 13) rfl rfl Tryd.func56 (by kernel_rfl) rfl #[.string a0,.string (⟨#[38]⟩:ByteArray)] rfl (by(try simp only[List.map_toArray,List.map_cons,List.map_nil]);first|done|rfl|(simp only[Zj,Zi];rfl)) ?_;(with_reducible refine(ZI.calls k a0 (⟨#[38]⟩:ByteArray) t23001 _ A3.out).mono ?_);rintro e w4 ⟨v23002,rfl,ho0,hb⟩;refine⟨_,rfl,?_⟩;have HO23003:=Za (Kd.R_lower ho0 (Zy (by repeat(first|(with_reducible first|exact HB.out|apply Zm|apply Zl|apply Zn)|exact HB.out))));replace HB:=Za (Zu (by repeat(first|(with_reducible first|exact HB.out|apply Zm|apply Zl|apply Zn)|exact HB.out)) hb);(try clear hb);(try clear hb2);(try clear hk);(try clear hi);(try clear ho0);obtain⟨Ao5,co5,eo5⟩:=Kd.R_slice HO23003.out;subst eo5))
  go_loopg [4,15] k (fun kq v4 v15 w'=>∃(x4_1:List Int) (x15_1:Int),v15=.int .i64 x15_1∧Aside0 (Zo.l0 kq a0 x4_1 t23001 (t23001.length:Int) x15_1=some (r1,r2))∧Aside0 (kq≤k)∧Aside0 (Kd.R (Kd.int .i64) 3 w' w.heap.size (fun _=>True) v4 x4_1)∧Aside0 (Kd.R Kd.string 9 w' w.heap.size (fun _=>True) (.slice Ao5 t23001.length co5) t23001)∧Aside0 (Below w.heap.size w w'))
  case atStart=>exact⟨(([]:List Int)),(0),(by first|rfl|(simp;done)|(simp[*];done)),H',⟨Nat.le_refl _⟩,⟨by first|exact Kd.R_nil _ _ _ _ _|exact Kd.N_nil _ _ _ _ _|exact Kd.V_nil _ _ _ _ _|exact Kd.Q_nil _ _ _ _ _|exact Kd.S_nil _ _ _ _ _⟩,⟨by(with_reducible repeat(first|apply Kd.R_alloc|apply Kd.R_drewN|apply Kd.R_drew));exact HO23003.out⟩,⟨by repeat(first|(with_reducible first|exact HB.out|apply Zm|apply Zl|apply Zn)|exact HB.out)⟩⟩
  case round=>
   clear H'
   try clear c2
   try clear c2b0
   try clear c2b1
   try clear p2
   try clear c5
   obtain⟨x4_1,x15_1,rfl,HA,HK1,HO_4,HO_13,HB⟩:=hrel
   cases gk with
   | zero=>exact absurd HA.out (by simp[Zo.l0])
   | succ k1=>
    have H:=HA.out
    clear HA
    simp only[Zo.l0] at H
    by_cases c6:x15_1<(t23001.length:Int)
    ·rw[if_pos c6] at H
     have c6b0:decide (x15_1<(t23001.length:Int))=true:=Zd c6
     clear c6
     by_cases c7:0≤x15_1
     ·rw[if_pos c7] at H
      have c7b0:decide (0≤x15_1)=true:=Zd c7
      clear c7
      by_cases c8:x15_1<(t23001.length:Int)
      ·rw[if_pos c8] at H
       have c8b0:decide (x15_1<(t23001.length:Int))=true:=Zd c8
       clear c8;have HC9:=Za H;clear H
       have p23005:0≤(x15_1:Int):=Zc (by first|(with_reducible assumption)|assumption)
       have q23005:x15_1<(t23001.length:Int):=Zc (by first|(with_reducible assumption)|assumption)
       obtain⟨ad23005,e23005,hx23005_0⟩:=Kd.at_string (Kd.R_reads' HO_13.out).2.2 x15_1 p23005 q23005
       cases e23005
       replace p23005:=eq_true p23005
       replace q23005:=eq_true q23005
       go_upto_region 7 with (fail)
       go_cut [7] (fun v7 wc=>∃(kq:Nat) (x7_8:Bool),v7=.bool x7_8∧Aside0 (Zo.j1 kq a0 x4_1 (rdOf ByteArray.empty t23001 x15_1) x7_8 t23001 (t23001.length:Int) x15_1=some (r1,r2))∧Aside0 (kq≤k1)∧Aside0 (Kd.R (Kd.int .i64) 3 wc w.heap.size (fun _=>True) u4 x4_1)∧Aside0 (Kd.R Kd.string 9 wc w.heap.size (fun _=>True) (.slice (some ad23005) t23001.length co5) t23001)∧Aside0 (Below w.heap.size w wc))
       case first=>
        have H:=HC9.out
        clear HC9
        by_cases c10:((rdOf ByteArray.empty t23001 x15_1).size:Int) > 0
        ·rw[if_pos c10] at H
         have c10b0:decide (0<((rdOf ByteArray.empty t23001 x15_1).size:Int))=true:=Zd c10
         have c10b1:decide (0<(rdOf ByteArray.empty t23001 x15_1).size)=true:=Zd (by omega)
         clear c10
         (first|rw[c10b0]|(simp only[Z6,Z8];rw[c10b0])|skip)
         by_cases c11:0<((rdOf ByteArray.empty t23001 x15_1).size:Int)
         ·rw[if_pos c11] at H
          have c11b0:decide (0<((rdOf ByteArray.empty t23001 x15_1).size:Int))=true:=Zd c11
          have c11b1:decide (0<(rdOf ByteArray.empty t23001 x15_1).size)=true:=Zd (by omega)
          clear c11
          have H':=Za H
          clear H
          have p12:0≤(0:Int):=(by omega)
          have q12:0<(rdOf ByteArray.empty t23001 x15_1).size:=(by have:(0:Int)<((rdOf ByteArray.empty t23001 x15_1).size:Int):=Zc (by first|(with_reducible assumption)|assumption);omega)
          have hx12:∀h:0<(rdOf ByteArray.empty t23001 x15_1).size,(((rdOf ByteArray.empty t23001 x15_1)[0]'h).toNat:Int)=bt (rdOf ByteArray.empty t23001 x15_1) 0:=Zaw (rdOf ByteArray.empty t23001 x15_1) 0
          clear p12
          have qi12:(0<((rdOf ByteArray.empty t23001 x15_1).size:Int))=True:=eq_true (Zc (by first|(with_reducible assumption)|assumption))
          replace q12:=eq_true q12
          go_wp2
          go_meet
          case rel=>exact⟨_,(((bt (rdOf ByteArray.empty t23001 x15_1) 0) == 33)),(by first|rfl|(simp;done)|(simp[*];done)),H',⟨by have:=HK1.out;first|omega|exact Nat.le_refl _⟩,⟨by(with_reducible repeat(first|apply Kd.R_alloc|apply Kd.R_drewN|apply Kd.R_drew));exact HO_4.out⟩,⟨by(with_reducible repeat(first|apply Kd.R_alloc|apply Kd.R_drewN|apply Kd.R_drew));exact HO_13.out⟩,⟨by repeat(first|(with_reducible first|exact HB.out|apply Zm|apply Zl|apply Zn)|exact HB.out)⟩⟩
         ·rw[if_neg c11] at H
          exact absurd H (by simp)
        ·rw[if_neg c10] at H
         have c10b0:decide (0<((rdOf ByteArray.empty t23001 x15_1).size:Int))=false:=Ze c10
         have c10b1:decide (0<(rdOf ByteArray.empty t23001 x15_1).size)=false:=Ze (by omega)
         clear c10
         (first|rw[c10b0]|(simp only[Z6,Z8];rw[c10b0])|skip)
         have H':=Za H
         clear H
         go_wp2
         go_meet
         case rel=>exact⟨_,(false),(by first|rfl|(simp;done)|(simp[*];done)),H',⟨by have:=HK1.out;first|omega|exact Nat.le_refl _⟩,⟨by(with_reducible repeat(first|apply Kd.R_alloc|apply Kd.R_drewN|apply Kd.R_drew));exact HO_4.out⟩,⟨by(with_reducible repeat(first|apply Kd.R_alloc|apply Kd.R_drewN|apply Kd.R_drew));exact HO_13.out⟩,⟨by repeat(first|(with_reducible first|exact HB.out|apply Zm|apply Zl|apply Zn)|exact HB.out)⟩⟩
       case rest=>
        clear HC9
        try clear c1
        try clear p1
        try clear q1
        try clear hx1
        try clear qi1
        try clear c2
        try clear c2b0
        try clear c2b1
        try clear p2
        try clear q2
        try clear hx2
        try clear c5
        try clear c6
        try clear c6b0
        try clear c7
        try clear c7b0
        try clear c8
        try clear c8b0
        try clear c10
        try clear c10b0
        try clear c10b1
        try clear c11
        try clear c11b0
        try clear c11b1
        try clear p12
        try clear q12
        try clear hx12
        try clear qi12
        try clear hx23005_0
        try clear p12
        try clear p2
        try clear p23005
        try clear q12
        try clear q23005
        obtain⟨kq,x7_8,rfl,HA,HJ8,HO_4,HO_13,HB⟩:=hcut
        cases kq with
        | zero=>exact absurd HA.out (by simp[Zo.j1])
        | succ kj8=>
         have H:=HA.out
         clear HA
         simp only[Zo.j1] at H
         have HC13:=Za H;clear H
         go_upto_if 27 with (fail)
         go_cut [6] (fun v6 wc=>∃(kq:Nat) (x6_12:ByteArray),v6=.string x6_12∧Aside0 (Zo.j2 kq a0 x4_1 x6_12 x7_8 t23001 (t23001.length:Int) x15_1=some (r1,r2))∧Aside0 (kq≤kj8)∧Aside0 (Kd.R (Kd.int .i64) 3 wc w.heap.size (fun _=>True) u4 x4_1)∧Aside0 (Kd.R Kd.string 9 wc w.heap.size (fun _=>True) (.slice (some ad23005) t23001.length co5) t23001)∧Aside0 (Below w.heap.size w wc))
         case first=>
          have H:=HC13.out
          clear HC13
          by_cases c14:x7_8=true
          ·subst c14
           have H1:(if 1≤((rdOf ByteArray.empty t23001 x15_1).size:Int) then(Zo.j2 kj8 a0 x4_1 ((rdOf ByteArray.empty t23001 x15_1).extract 1 (rdOf ByteArray.empty t23001 x15_1).size) true t23001 (t23001.length:Int) x15_1) else(none))=some (r1,r2):=by rw[if_pos rfl] at H;exact H
           clear H
           have H:=H1
           clear H1
           by_cases c15:1≤((rdOf ByteArray.empty t23001 x15_1).size:Int)
           ·rw[if_pos c15] at H
            have c15b0:=eq_true c15
            have c15b1:decide (1≤((rdOf ByteArray.empty t23001 x15_1).size:Int))=true:=Zd c15
            clear c15
            have H':=Za H
            clear H
            go_wp2
            go_meet
            case rel=>exact⟨_,((rdOf ByteArray.empty t23001 x15_1).extract 1 (rdOf ByteArray.empty t23001 x15_1).size),(by first|rfl|(simp;done)|(simp[*];done)),H',⟨by have:=HK1.out;have:=HJ8.out;first|omega|exact Nat.le_refl _⟩,⟨by(with_reducible repeat(first|apply Kd.R_alloc|apply Kd.R_drewN|apply Kd.R_drew));exact HO_4.out⟩,⟨by(with_reducible repeat(first|apply Kd.R_alloc|apply Kd.R_drewN|apply Kd.R_drew));exact HO_13.out⟩,⟨by repeat(first|(with_reducible first|exact HB.out|apply Zm|apply Zl|apply Zn)|exact HB.out)⟩⟩
           ·rw[if_neg c15] at H
            exact absurd H (by simp)
          ·replace c14:=Bool.eq_false_iff.mpr c14
           subst c14
           have H1:(Zo.j2 kj8 a0 x4_1 (rdOf ByteArray.empty t23001 x15_1) false t23001 (t23001.length:Int) x15_1)=some (r1,r2):=by rw[if_neg (show ¬(false=true) by decide)] at H;exact H
           clear H
           have H:=H1
           clear H1
           have H':=Za H
           clear H
           go_wp2
           go_meet
           case rel=>exact⟨_,((rdOf ByteArray.empty t23001 x15_1)),(by first|rfl|(simp;done)|(simp[*];done)),H',⟨by have:=HK1.out;have:=HJ8.out;first|omega|exact Nat.le_refl _⟩,⟨by(with_reducible repeat(first|apply Kd.R_alloc|apply Kd.R_drewN|apply Kd.R_drew));exact HO_4.out⟩,⟨by(with_reducible repeat(first|apply Kd.R_alloc|apply Kd.R_drewN|apply Kd.R_drew));exact HO_13.out⟩,⟨by repeat(first|(with_reducible first|exact HB.out|apply Zm|apply Zl|apply Zn)|exact HB.out)⟩⟩
         case rest=>
          clear HC13
          try clear c1
          try clear p1
          try clear q1
          try clear hx1
          try clear qi1
          try clear c2
          try clear c2b0
          try clear c2b1
          try clear p2
          try clear q2
          try clear hx2
          try clear c5
          try clear c6
          try clear c6b0
          try clear c7
          try clear c7b0
          try clear c8
          try clear c8b0
          try clear c10
          try clear c10b0
          try clear c10b1
          try clear c11
          try clear c11b0
          try clear c11b1
          try clear p12
          try clear q12
          try clear hx12
          try clear qi12
          try clear c14
          try clear c15
          try clear c15b0
          try clear c15b1
          try clear hx23005_0
          try clear p1
          try clear p12
          try clear p2
          try clear p23005
          try clear q1
          try clear q12
          try clear q2
          try clear q23005
          obtain⟨kq,x6_12,rfl,HA,HJ12,HO_4,HO_13,HB⟩:=hcut
          cases kq with
          | zero=>exact absurd HA.out (by simp[Zo.j2])
          | succ kj12=>
           have H:=HA.out
           clear HA
           simp only[Zo.j2] at H
           have HC16:=Za H;clear H
           go_upto_region 10 with (fail)
           go_cut [37] (fun v37 wc=>∃(kq:Nat) (x37_15:Bool),v37=.bool x37_15∧Aside0 (Zo.j3 kq a0 x4_1 x6_12 x7_8 t23001 (t23001.length:Int) x15_1 x37_15=some (r1,r2))∧Aside0 (kq≤kj12)∧Aside0 (Kd.R (Kd.int .i64) 3 wc w.heap.size (fun _=>True) u4 x4_1)∧Aside0 (Kd.R Kd.string 9 wc w.heap.size (fun _=>True) (.slice (some ad23005) t23001.length co5) t23001)∧Aside0 (Below w.heap.size w wc))
           case first=>
            have H:=HC16.out
            clear HC16
            by_cases c17:(x6_12.size:Int)<2
            ·rw[if_pos c17] at H
             have c17b0:decide ((x6_12.size:Int)<2)=true:=Zd c17
             have c17b1:decide (x6_12.size<2)=true:=Zd (by omega)
             clear c17
             (first|rw[c17b0]|(simp only[Z6,Z8];rw[c17b0])|skip)
             have H':=Za H
             clear H
             go_wp2
             go_meet
             case rel=>exact⟨_,(true),(by first|rfl|(simp;done)|(simp[*];done)),H',⟨by have:=HK1.out;have:=HJ8.out;have:=HJ12.out;first|omega|exact Nat.le_refl _⟩,⟨by(with_reducible repeat(first|apply Kd.R_alloc|apply Kd.R_drewN|apply Kd.R_drew));exact HO_4.out⟩,⟨by(with_reducible repeat(first|apply Kd.R_alloc|apply Kd.R_drewN|apply Kd.R_drew));exact HO_13.out⟩,⟨by repeat(first|(with_reducible first|exact HB.out|apply Zm|apply Zl|apply Zn)|exact HB.out)⟩⟩
            ·rw[if_neg c17] at H
             have c17b0:decide ((x6_12.size:Int)<2)=false:=Ze c17
             have c17b1:decide (x6_12.size<2)=false:=Ze (by omega)
             clear c17
             (first|rw[c17b0]|(simp only[Z6,Z8];rw[c17b0])|skip)
             by_cases c18:0<(x6_12.size:Int)
             ·rw[if_pos c18] at H
              have c18b0:decide (0<(x6_12.size:Int))=true:=Zd c18
              have c18b1:decide (0<x6_12.size)=true:=Zd (by omega)
              clear c18
              have H':=Za H
              clear H
              have p19:0≤(0:Int):=(by omega)
              have q19:0<x6_12.size:=(by have:(0:Int)<(x6_12.size:Int):=Zc (by first|(with_reducible assumption)|assumption);omega)
              have hx19:∀h:0<x6_12.size,((x6_12[0]'h).toNat:Int)=bt x6_12 0:=Zaw x6_12 0
              clear p19
              have qi19:(0<(x6_12.size:Int))=True:=eq_true (Zc (by first|(with_reducible assumption)|assumption))
              replace q19:=eq_true q19
              go_wp2
              go_meet
              case rel=>exact⟨_,(((bt x6_12 0) != 112)),(by first|rfl|(simp;done)|(simp[*];done)),H',⟨by have:=HK1.out;have:=HJ8.out;have:=HJ12.out;first|omega|exact Nat.le_refl _⟩,⟨by(with_reducible repeat(first|apply Kd.R_alloc|apply Kd.R_drewN|apply Kd.R_drew));exact HO_4.out⟩,⟨by(with_reducible repeat(first|apply Kd.R_alloc|apply Kd.R_drewN|apply Kd.R_drew));exact HO_13.out⟩,⟨by repeat(first|(with_reducible first|exact HB.out|apply Zm|apply Zl|apply Zn)|exact HB.out)⟩⟩
             ·rw[if_neg c18] at H
              exact absurd H (by simp)
           case rest=>
            clear HC16
            try clear c1
            try clear p1
            try clear q1
            try clear hx1
            try clear qi1
            try clear c2
            try clear c2b0
            try clear c2b1
            try clear p2
            try clear q2
            try clear hx2
            try clear c5
            try clear c6
            try clear c6b0
            try clear c7
            try clear c7b0
            try clear c8
            try clear c8b0
            try clear c10
            try clear c10b0
            try clear c10b1
            try clear c11
            try clear c11b0
            try clear c11b1
            try clear p12
            try clear q12
            try clear hx12
            try clear qi12
            try clear c14
            try clear c15
            try clear c15b0
            try clear c15b1
            try clear c17
            try clear c17b0
            try clear c17b1
            try clear c18
            try clear c18b0
            try clear c18b1
            try clear p19
            try clear q19
            try clear hx19
            try clear qi19
            try clear hx23005_0
            try clear p1
            try clear p12
            try clear p19
            try clear p2
            try clear p23005
            try clear q1
            try clear q12
            try clear q19
            try clear q2
            try clear q23005
            obtain⟨kq,x37_15,rfl,HA,HJ15,HO_4,HO_13,HB⟩:=hcut
            cases kq with
            | zero=>exact absurd HA.out (by simp[Zo.j3])
            | succ kj15=>
             have H:=HA.out
             clear HA
             simp only[Zo.j3] at H
             by_cases c20:x37_15=true
             ·subst c20
              have H1:(some (([]:List Int),false))=some (r1,r2):=by rw[if_pos rfl] at H;exact H
              clear H
              have H:=H1
              clear H1
              simp only[Option.some.injEq,Prod.mk.injEq] at H
              obtain⟨rfl,rfl⟩:=H
              go_wp2
              go_ret2
              exact⟨_,by first|rfl|(simp[Zr,Zq] <;> rfl)|(simp[*,Zr,Zq] <;> rfl),by first|exact Kd.R_nil _ _ _ _ _|exact Kd.N_nil _ _ _ _ _|exact Kd.V_nil _ _ _ _ _|exact Kd.Q_nil _ _ _ _ _|exact Kd.S_nil _ _ _ _ _,by repeat(first|(with_reducible first|exact HB.out|apply Zm|apply Zl|apply Zn)|exact HB.out)⟩
             ·replace c20:=Bool.eq_false_iff.mpr c20
              subst c20
              have H1:(if 1≤(x6_12.size:Int) then((ZO.f (x6_12.extract 1 x6_12.size)).bind fun bt23006=>(if bt23006.2=true then(if bt23006.1<1 then(Zo.j4 kj15 a0 x4_1 x7_8 bt23006.1 t23001 (t23001.length:Int) x15_1 true) else(Zo.j4 kj15 a0 x4_1 x7_8 bt23006.1 t23001 (t23001.length:Int) x15_1 (decide (bt23006.1 > 3)))) else(Zo.j4 kj15 a0 x4_1 x7_8 bt23006.1 t23001 (t23001.length:Int) x15_1 true))) else(none))=some (r1,r2):=by rw[if_neg (show ¬(false=true) by decide)] at H;exact H
              clear H
              have H:=H1
              clear H1
              by_cases c21:1≤(x6_12.size:Int)
              ·rw[if_pos c21] at H
               have c21b0:=eq_true c21
               have c21b1:decide (1≤(x6_12.size:Int))=true:=Zd c21
               clear c21
               replace H:=Zg H
               obtain⟨⟨t23006,t23007⟩,A220,H⟩:=H
               replace H:(if t23007=true then(if t23006<1 then(Zo.j4 kj15 a0 x4_1 x7_8 t23006 t23001 (t23001.length:Int) x15_1 true) else(Zo.j4 kj15 a0 x4_1 x7_8 t23006 t23001 (t23001.length:Int) x15_1 (decide (t23006 > 3)))) else(Zo.j4 kj15 a0 x4_1 x7_8 t23006 t23001 (t23001.length:Int) x15_1 true))=some (r1,r2):=H
               have A22:=Za A220;clear A220;have HC23:=Za H;clear H
               go_upto_region 13 with (first|((with_reducible refine ZA (f:=57) rfl ?_);refine ZT (some 41) rfl rfl Tryd.func57 (by kernel_rfl) rfl #[.string (x6_12.extract 1 x6_12.size)] rfl (by(try simp only[List.map_toArray,List.map_cons,List.map_nil]);first|done|rfl|(simp only[Zj,Zi];rfl)) ?_;(with_reducible refine(ZO.calls (x6_12.extract 1 x6_12.size) t23006 t23007 _ ?sideT ?sideE A22.out).mono ?_);(case sideT=>exact TW.below HTW.out (by repeat(first|(with_reducible first|exact HB.out|apply Zm|apply Zl|apply Zn)|exact HB.out)));(case sideE=>exact EW.below HEW.out (by repeat(first|(with_reducible first|exact HB.out|apply Zm|apply Zl|apply Zn)|exact HB.out)));rintro e w24 ⟨rfl,hb⟩;refine⟨_,rfl,?_⟩;replace HO_4:=Za (Kd.R_below (by(with_reducible repeat(first|apply Kd.R_alloc|apply Kd.R_drewN|apply Kd.R_drew));exact HO_4.out) hb);replace HO_13:=Za (Kd.R_below (by(with_reducible repeat(first|apply Kd.R_alloc|apply Kd.R_drewN|apply Kd.R_drew));exact HO_13.out) hb);replace HB:=Za (Zu (by repeat(first|(with_reducible first|exact HB.out|apply Zm|apply Zl|apply Zn)|exact HB.out)) hb);(try clear hb);(try clear hb2);(try clear hk);(try clear hi)))
               (try simp only[Act.put,List.setIfInBounds_toArray,List.set_cons_zero,List.set_cons_succ])
               go_cut [53] (fun v53 wc=>∃(kq:Nat) (x53_22:Bool),v53=.bool x53_22∧Aside0 (Zo.j4 kq a0 x4_1 x7_8 t23006 t23001 (t23001.length:Int) x15_1 x53_22=some (r1,r2))∧Aside0 (kq≤kj15)∧Aside0 (Kd.R (Kd.int .i64) 3 wc w.heap.size (fun _=>True) u4 x4_1)∧Aside0 (Kd.R Kd.string 9 wc w.heap.size (fun _=>True) (.slice (some ad23005) t23001.length co5) t23001)∧Aside0 (Below w.heap.size w wc))
               case first=>
                have H:=HC23.out
                clear HC23
                by_cases c25:t23007=true
                ·subst c25
                 have H1:(if t23006<1 then(Zo.j4 kj15 a0 x4_1 x7_8 t23006 t23001 (t23001.length:Int) x15_1 true) else(Zo.j4 kj15 a0 x4_1 x7_8 t23006 t23001 (t23001.length:Int) x15_1 (decide (t23006 > 3))))=some (r1,r2):=by rw[if_pos rfl] at H;exact H
                 clear H
                 have H:=H1
                 clear H1
                 by_cases c26:t23006<1
                 ·rw[if_pos c26] at H
                  have c26b0:decide (t23006<1)=true:=Zd c26
                  clear c26
                  (first|rw[c26b0]|(simp only[Z6,Z8];rw[c26b0])|skip)
                  have H':=Za H
                  clear H
                  go_wp2
                  go_meet
                  case rel=>exact⟨_,(true),(by first|rfl|(simp;done)|(simp[*];done)),H',⟨by have:=HK1.out;have:=HJ8.out;have:=HJ12.out;have:=HJ15.out;first|omega|exact Nat.le_refl _⟩,⟨by(with_reducible repeat(first|apply Kd.R_alloc|apply Kd.R_drewN|apply Kd.R_drew));exact HO_4.out⟩,⟨by(with_reducible repeat(first|apply Kd.R_alloc|apply Kd.R_drewN|apply Kd.R_drew));exact HO_13.out⟩,⟨by repeat(first|(with_reducible first|exact HB.out|apply Zm|apply Zl|apply Zn)|exact HB.out)⟩⟩
                 ·rw[if_neg c26] at H
                  have c26b0:decide (t23006<1)=false:=Ze c26
                  clear c26
                  (first|rw[c26b0]|(simp only[Z6,Z8];rw[c26b0])|skip)
                  have H':=Za H
                  clear H
                  go_wp2
                  go_meet
                  case rel=>exact⟨_,(decide (t23006 > 3)),(by first|rfl|(simp;done)|(simp[*];done)),H',⟨by have:=HK1.out;have:=HJ8.out;have:=HJ12.out;have:=HJ15.out;first|omega|exact Nat.le_refl _⟩,⟨by(with_reducible repeat(first|apply Kd.R_alloc|apply Kd.R_drewN|apply Kd.R_drew));exact HO_4.out⟩,⟨by(with_reducible repeat(first|apply Kd.R_alloc|apply Kd.R_drewN|apply Kd.R_drew));exact HO_13.out⟩,⟨by repeat(first|(with_reducible first|exact HB.out|apply Zm|apply Zl|apply Zn)|exact HB.out)⟩⟩
                ·replace c25:=Bool.eq_false_iff.mpr c25
                 subst c25
                 have H1:(Zo.j4 kj15 a0 x4_1 x7_8 t23006 t23001 (t23001.length:Int) x15_1 true)=some (r1,r2):=by rw[if_neg (show ¬(false=true) by decide)] at H;exact H
                 clear H
                 have H:=H1
                 clear H1
                 have H':=Za H
                 clear H
                 go_wp2
                 go_meet
                 case rel=>exact⟨_,(true),(by first|rfl|(simp;done)|(simp[*];done)),H',⟨by have:=HK1.out;have:=HJ8.out;have:=HJ12.out;have:=HJ15.out;first|omega|exact Nat.le_refl _⟩,⟨by(with_reducible repeat(first|apply Kd.R_alloc|apply Kd.R_drewN|apply Kd.R_drew));exact HO_4.out⟩,⟨by(with_reducible repeat(first|apply Kd.R_alloc|apply Kd.R_drewN|apply Kd.R_drew));exact HO_13.out⟩,⟨by repeat(first|(with_reducible first|exact HB.out|apply Zm|apply Zl|apply Zn)|exact HB.out)⟩⟩
               case rest=>
                clear HC23
                try clear c1
                try clear p1
                try clear q1
                try clear hx1
                try clear qi1
                try clear c2
                try clear c2b0
                try clear c2b1
                try clear p2
                try clear q2
                try clear hx2
                try clear c5
                try clear c6
                try clear c6b0
                try clear c7
                try clear c7b0
                try clear c8
                try clear c8b0
                try clear c10
                try clear c10b0
                try clear c10b1
                try clear c11
                try clear c11b0
                try clear c11b1
                try clear p12
                try clear q12
                try clear hx12
                try clear qi12
                try clear c14
                try clear c15
                try clear c15b0
                try clear c15b1
                try clear c17
                try clear c17b0
                try clear c17b1
                try clear c18
                try clear c18b0
                try clear c18b1
                try clear p19
                try clear q19
                try clear hx19
                try clear qi19
                try clear c20
                try clear c21
                try clear c21b0
                try clear c21b1
                try clear c23
                try clear p23
                try clear q23
                try clear hx23
                try clear c25
                try clear c26
                try clear c26b0
                try clear hx23005_0
                try clear p1
                try clear p12
                try clear p19
                try clear p2
                try clear p23005
                try clear q1
                try clear q12
                try clear q19
                try clear q2
                try clear q23005
                obtain⟨kq,x53_22,rfl,HA,HJ22,HO_4,HO_13,HB⟩:=hcut
                cases kq with
                | zero=>exact absurd HA.out (by simp[Zo.j4])
                | succ kj22=>
                 have H:=HA.out
                 clear HA
                 simp only[Zo.j4] at H
                 by_cases c27:x53_22=true
                 ·subst c27
                  have H1:(some (([]:List Int),false))=some (r1,r2):=by rw[if_pos rfl] at H;exact H
                  clear H
                  have H:=H1
                  clear H1
                  simp only[Option.some.injEq,Prod.mk.injEq] at H
                  obtain⟨rfl,rfl⟩:=H
                  go_wp2
                  go_ret2
                  exact⟨_,by first|rfl|(simp[Zr,Zq] <;> rfl)|(simp[*,Zr,Zq] <;> rfl),by first|exact Kd.R_nil _ _ _ _ _|exact Kd.N_nil _ _ _ _ _|exact Kd.V_nil _ _ _ _ _|exact Kd.Q_nil _ _ _ _ _|exact Kd.S_nil _ _ _ _ _,by repeat(first|(with_reducible first|exact HB.out|apply Zm|apply Zl|apply Zn)|exact HB.out)⟩
                 ·replace c27:=Bool.eq_false_iff.mpr c27
                  subst c27
                  have H1:(if x7_8=true then(if x4_1.length<17592186044416 then(Zo.l0 kj22 a0 (x4_1 ++ [wrap64 (-t23006)]) t23001 (t23001.length:Int) (wrap64 (x15_1+1))) else(none)) else(if x4_1.length<17592186044416 then(Zo.l0 kj22 a0 (x4_1 ++ [t23006]) t23001 (t23001.length:Int) (wrap64 (x15_1+1))) else(none)))=some (r1,r2):=by rw[if_neg (show ¬(false=true) by decide)] at H;exact H
                  clear H
                  have H:=H1
                  clear H1
                  by_cases c28:x7_8=true
                  ·subst c28
                   have H1:(if x4_1.length<17592186044416 then(Zo.l0 kj22 a0 (x4_1 ++ [wrap64 (-t23006)]) t23001 (t23001.length:Int) (wrap64 (x15_1+1))) else(none))=some (r1,r2):=by rw[if_pos rfl] at H;exact H
                   clear H
                   have H:=H1
                   clear H1
                   by_cases c29:x4_1.length<17592186044416
                   ·rw[if_pos c29] at H
                    have LMc29:=Za c29;clear c29
                    obtain⟨y23008,hy23008⟩:∃y_:List Int,y_=(x4_1 ++ [wrap64 (-t23006)]):=⟨_,rfl⟩
                    replace H:(Zo.l0 kj22 a0 y23008 t23001 (t23001.length:Int) (wrap64 (x15_1+1)))=some (r1,r2):=by first|(rw[hy23008];with_reducible exact H)|(have H2_:=(Zh _ _).symm.trans H;rw[hy23008];with_reducible exact H2_)|(have H2_:=(Zh _ _).symm.trans H;with_reducible exact H2_)|with_reducible exact H|(rw[hy23008];exact H)|exact H
                    have Ny23008:=Za hy23008;clear hy23008
                    have H':=Za H
                    clear H
                    go_wp2_with (first|((with_reducible refine ZW (b:=.append) (xs:=#[.tmp 57,.tmp 59]) rfl ?_);at_builtin;refine Kd.R_append (Kd.int .i64) (w0:=w) w.heap.size rfl (.tmp 57) (.tmp 59) 22 3 (.int .i64 0) 8 rfl Tryd.underlying22 info3 rfl (by decide) (by omega) u4 x4_1 (wrap64 (-t23006)) [.int .i64 (wrap64 (-t23006))] (fun _=>True) (fun _=>False) rfl rfl ?aP (fun _ hk=>hk.elim) ?aF ?aO ?aB ?aS ?aL ?_;(case aP=>exact rfl);(case aB=>exact(by repeat(first|(with_reducible first|exact HB.out|apply Zm|apply Zl|apply Zn)|exact HB.out)));(case aF=>exact(fun _ _=>trivial));(case aO=>exact(by(with_reducible repeat(first|apply Kd.R_alloc|apply Kd.R_drewN|apply Kd.R_drew));exact HO_4.out));(case aS=>exact(Zy (by repeat(first|(with_reducible first|exact HB.out|apply Zm|apply Zl|apply Zn)|exact HB.out))));(case aL=>have:=LMc29.out;omega);intro v23009 w30 ho hb hg hat;rw[← Ny23008.out] at ho;have HO23010:=Za (ho);replace HO_13:=Za (Kd.R_over' (by(with_reducible repeat(first|apply Kd.R_alloc|apply Kd.R_drewN|apply Kd.R_drew));exact HO_13.out) (Kd.R_typed (by(with_reducible repeat(first|apply Kd.R_alloc|apply Kd.R_drewN|apply Kd.R_drew));exact HO_4.out)) (by decide) hg);replace HB:=Za (hb);clear HO_4;clear ho hb hg hat))
                    go_roundg kj22
                    case measure=>have:=HK1.out;have:=HJ8.out;have:=HJ12.out;have:=HJ15.out;have:=HJ22.out;omega
                    case rel=>exact⟨(y23008),(wrap64 (x15_1+1)),(by first|rfl|(simp;done)|(simp[*];done)),H',⟨by have:=HK1.out;have:=HJ8.out;have:=HJ12.out;have:=HJ15.out;have:=HJ22.out;omega⟩,⟨by(with_reducible repeat(first|apply Kd.R_alloc|apply Kd.R_drewN|apply Kd.R_drew));exact HO23010.out⟩,⟨by(with_reducible repeat(first|apply Kd.R_alloc|apply Kd.R_drewN|apply Kd.R_drew));exact HO_13.out⟩,⟨by repeat(first|(with_reducible first|exact HB.out|apply Zm|apply Zl|apply Zn)|exact HB.out)⟩⟩
                   ·rw[if_neg c29] at H
                    exact absurd H (by simp)
                  ·replace c28:=Bool.eq_false_iff.mpr c28
                   subst c28
                   have H1:(if x4_1.length<17592186044416 then(Zo.l0 kj22 a0 (x4_1 ++ [t23006]) t23001 (t23001.length:Int) (wrap64 (x15_1+1))) else(none))=some (r1,r2):=by rw[if_neg (show ¬(false=true) by decide)] at H;exact H
                   clear H
                   have H:=H1
                   clear H1
                   by_cases c31:x4_1.length<17592186044416
                   ·rw[if_pos c31] at H
                    have LMc31:=Za c31;clear c31
                    obtain⟨y23011,hy23011⟩:∃y_:List Int,y_=(x4_1 ++ [t23006]):=⟨_,rfl⟩
                    replace H:(Zo.l0 kj22 a0 y23011 t23001 (t23001.length:Int) (wrap64 (x15_1+1)))=some (r1,r2):=by first|(rw[hy23011];with_reducible exact H)|(have H2_:=(Zh _ _).symm.trans H;rw[hy23011];with_reducible exact H2_)|(have H2_:=(Zh _ _).symm.trans H;with_reducible exact H2_)|with_reducible exact H|(rw[hy23011];exact H)|exact H
                    have Ny23011:=Za hy23011;clear hy23011
                    have H':=Za H
                    clear H
                    go_wp2_with (first|((with_reducible refine ZW (b:=.append) (xs:=#[.tmp 57,.tmp 59]) rfl ?_);at_builtin;refine Kd.R_append (Kd.int .i64) (w0:=w) w.heap.size rfl (.tmp 57) (.tmp 59) 22 3 (.int .i64 0) 8 rfl Tryd.underlying22 info3 rfl (by decide) (by omega) u4 x4_1 t23006 [.int .i64 t23006] (fun _=>True) (fun _=>False) rfl rfl ?aP (fun _ hk=>hk.elim) ?aF ?aO ?aB ?aS ?aL ?_;(case aP=>exact rfl);(case aB=>exact(by repeat(first|(with_reducible first|exact HB.out|apply Zm|apply Zl|apply Zn)|exact HB.out)));(case aF=>exact(fun _ _=>trivial));(case aO=>exact(by(with_reducible repeat(first|apply Kd.R_alloc|apply Kd.R_drewN|apply Kd.R_drew));exact HO_4.out));(case aS=>exact(Zy (by repeat(first|(with_reducible first|exact HB.out|apply Zm|apply Zl|apply Zn)|exact HB.out))));(case aL=>have:=LMc31.out;omega);intro v23012 w32 ho hb hg hat;rw[← Ny23011.out] at ho;have HO23013:=Za (ho);replace HO_13:=Za (Kd.R_over' (by(with_reducible repeat(first|apply Kd.R_alloc|apply Kd.R_drewN|apply Kd.R_drew));exact HO_13.out) (Kd.R_typed (by(with_reducible repeat(first|apply Kd.R_alloc|apply Kd.R_drewN|apply Kd.R_drew));exact HO_4.out)) (by decide) hg);replace HB:=Za (hb);clear HO_4;clear ho hb hg hat))
                    go_roundg kj22
                    case measure=>have:=HK1.out;have:=HJ8.out;have:=HJ12.out;have:=HJ15.out;have:=HJ22.out;omega
                    case rel=>exact⟨(y23011),(wrap64 (x15_1+1)),(by first|rfl|(simp;done)|(simp[*];done)),H',⟨by have:=HK1.out;have:=HJ8.out;have:=HJ12.out;have:=HJ15.out;have:=HJ22.out;omega⟩,⟨by(with_reducible repeat(first|apply Kd.R_alloc|apply Kd.R_drewN|apply Kd.R_drew));exact HO23013.out⟩,⟨by(with_reducible repeat(first|apply Kd.R_alloc|apply Kd.R_drewN|apply Kd.R_drew));exact HO_13.out⟩,⟨by repeat(first|(with_reducible first|exact HB.out|apply Zm|apply Zl|apply Zn)|exact HB.out)⟩⟩
                   ·rw[if_neg c31] at H
                    exact absurd H (by simp)
              ·rw[if_neg c21] at H
               exact absurd H (by simp)
      ·rw[if_neg c8] at H
       exact absurd H (by simp)
     ·rw[if_neg c7] at H
      exact absurd H (by simp)
    ·rw[if_neg c6] at H
     have c6b0:decide (x15_1<(t23001.length:Int))=false:=Ze c6
     clear c6
     replace H:=Zg H
     obtain⟨t23004,A330,H⟩:=H
     replace H:(if t23004.toList=a0.toList then(some (x4_1,true)) else(some (([]:List Int),false)))=some (r1,r2):=H
     have A33:=Za A330;clear A330
     by_cases c34:t23004.toList=a0.toList
     ·rw[if_pos c34] at H
      have c34b0:(t23004.toList == a0.toList)=true:=beq_iff_eq.mpr c34
      have c34b1:(t23004.toList != a0.toList)=false:=bne_eq_false_iff_eq.mpr c34
      clear c34
      simp only[Option.some.injEq,Prod.mk.injEq] at H
      obtain⟨rfl,rfl⟩:=H
      obtain⟨Ao35,co35,eo35⟩:=Kd.R_slice HO_4.out
      subst eo35
      go_wp2_with (first|((with_reducible refine ZA (f:=11) rfl ?_);refine ZT (some 63) rfl rfl Tryd.func11 (by kernel_rfl) rfl #[.slice Ao35 x4_1.length co35] rfl (by(try simp only[List.map_toArray,List.map_cons,List.map_nil]);first|done|rfl|(simp only[Zj,Zi];rfl)) ?_;(with_reducible refine(Zx.calls k1 _ _ x4_1 t23004 _ ?side1 ?side2 ?sideT A33.out).mono ?_);(case sideT=>exact TW.below HTW.out (by repeat(first|(with_reducible first|exact HB.out|apply Zm|apply Zl|apply Zn)|exact HB.out)));(case side1=>repeat(first|exact(Kd.R_reads' HO_4.out).2.2|(with_reducible refine Kd.C_alloc ?_ _)|(with_reducible refine Kd.C_drewN ?_ _)|(with_reducible refine Kd.C_drew ?_)));(case side2=>exact(Kd.R_reads' HO_4.out).2.1);rintro e w36 ⟨rfl,hb⟩;refine⟨_,rfl,?_⟩;replace HO_4:=Za (Kd.R_below (by(with_reducible repeat(first|apply Kd.R_alloc|apply Kd.R_drewN|apply Kd.R_drew));exact HO_4.out) hb);replace HO_13:=Za (Kd.R_below (by(with_reducible repeat(first|apply Kd.R_alloc|apply Kd.R_drewN|apply Kd.R_drew));exact HO_13.out) hb);replace HB:=Za (Zu (by repeat(first|(with_reducible first|exact HB.out|apply Zm|apply Zl|apply Zn)|exact HB.out)) hb);(try clear hb);(try clear hb2);(try clear hk);(try clear hi)))
      go_ret2
      exact⟨_,by first|rfl|(simp[Zr,Zq] <;> rfl)|(simp[*,Zr,Zq] <;> rfl),by(with_reducible repeat(first|apply Kd.R_alloc|apply Kd.R_drewN|apply Kd.R_drew));exact HO_4.out,by repeat(first|(with_reducible first|exact HB.out|apply Zm|apply Zl|apply Zn)|exact HB.out)⟩
     ·rw[if_neg c34] at H
      have c34b0:(t23004.toList == a0.toList)=false:=beq_eq_false_iff_ne.mpr c34
      have c34b1:(t23004.toList != a0.toList)=true:=bne_iff_ne.mpr c34
      simp only[Option.some.injEq,Prod.mk.injEq] at H
      obtain⟨rfl,rfl⟩:=H
      obtain⟨Ao37,co37,eo37⟩:=Kd.R_slice HO_4.out
      subst eo37
      go_wp2_with (first|((with_reducible refine ZA (f:=11) rfl ?_);refine ZT (some 63) rfl rfl Tryd.func11 (by kernel_rfl) rfl #[.slice Ao37 x4_1.length co37] rfl (by(try simp only[List.map_toArray,List.map_cons,List.map_nil]);first|done|rfl|(simp only[Zj,Zi];rfl)) ?_;(with_reducible refine(Zx.calls k1 _ _ x4_1 t23004 _ ?side1 ?side2 ?sideT A33.out).mono ?_);(case sideT=>exact TW.below HTW.out (by repeat(first|(with_reducible first|exact HB.out|apply Zm|apply Zl|apply Zn)|exact HB.out)));(case side1=>repeat(first|exact(Kd.R_reads' HO_4.out).2.2|(with_reducible refine Kd.C_alloc ?_ _)|(with_reducible refine Kd.C_drewN ?_ _)|(with_reducible refine Kd.C_drew ?_)));(case side2=>exact(Kd.R_reads' HO_4.out).2.1);rintro e w38 ⟨rfl,hb⟩;refine⟨_,rfl,?_⟩;replace HO_4:=Za (Kd.R_below (by(with_reducible repeat(first|apply Kd.R_alloc|apply Kd.R_drewN|apply Kd.R_drew));exact HO_4.out) hb);replace HO_13:=Za (Kd.R_below (by(with_reducible repeat(first|apply Kd.R_alloc|apply Kd.R_drewN|apply Kd.R_drew));exact HO_13.out) hb);replace HB:=Za (Zu (by repeat(first|(with_reducible first|exact HB.out|apply Zm|apply Zl|apply Zn)|exact HB.out)) hb);(try clear hb);(try clear hb2);(try clear hk);(try clear hi)))
      go_ret2
      exact⟨_,by first|rfl|(simp[Zr,Zq] <;> rfl)|(simp[*,Zr,Zq] <;> rfl),by first|exact Kd.R_nil _ _ _ _ _|exact Kd.N_nil _ _ _ _ _|exact Kd.V_nil _ _ _ _ _|exact Kd.Q_nil _ _ _ _ _|exact Kd.S_nil _ _ _ _ _,by repeat(first|(with_reducible first|exact HB.out|apply Zm|apply Zl|apply Zn)|exact HB.out)⟩
theorem Zo.o (k:Nat) (a0:ByteArray) (r1:List Int) (r2:Bool) (w:World) (ht:TW w) (hev:EW w) (h:Zo.f k a0=some (r1,r2)) :
  Calls Tryd.prog 23 #[.string a0] w fun e w'=>∃A0_ c0_,e=.returned (.tuple #[.slice A0_ r1.length c0_,.bool r2])∧Aside0 (r1.length≤c0_∧Kd.C (Kd.int .i64) w' A0_ r1.length r1)∧Aside0 (Kd.R (Kd.int .i64) 3 w' w.heap.size (fun k_=>True∧(w.heap.size≤k_∧k_<w'.heap.size)) (.slice A0_ r1.length c0_) r1)∧Below w.heap.size w w':=
 (Zo.calls k a0 r1 r2 w ht hev h).mono fun e w' ⟨v0_,he,q0_,hb⟩=>by
  obtain⟨A0_,c0_,rfl,g0_⟩:=Kd.R_reads q0_
  exact⟨A0_,c0_,he,⟨g0_⟩,⟨Kd.R_mono (Kd.R_bound q0_) (fun k hk=>⟨hk.1,hk.2.1,hk.2.2.1⟩)⟩,hb⟩
end Go.Proofs.YthphnhmabieflaaDoor.Pr
set_option linter.unusedSimpArgs false
set_option linter.unusedVariables false
namespace Go.Proofs.YthphnhmabieflaaDoor.Pr
open Go.RowKit Go.Proofs.YthphnhmabieflaaDoorW.PrintWords Go.Proofs.YthphnhmabieflaaDoor.Ni
def bs (l:List UInt8):ByteArray:=⟨l.toArray⟩
theorem bs_of (a:ByteArray):bs a.data.toList=a:=by unfold bs;simp
theorem ZaF (l:List UInt8):(bs l).data.toList=l:=by unfold bs;simp
theorem ZaH (a b:List UInt8):bs a ++ bs b=bs (a ++ b):=by
 unfold bs
 ext1
 rw[ByteArray.data_append];simp
theorem ZM (l:List UInt8):(bs l).size=l.length:=by unfold bs;simp[ByteArray.size]
theorem ZbK (a:ByteArray):a.size=a.data.toList.length:=by show a.data.size=_;rw[Array.length_toList]
theorem Zbq (x:Int) (h0:0≤x) (h1:x<256):strOfNums [x]=bs [UInt8.ofNat x.toNat]:=by
 unfold strOfNums bs
 simp
theorem dig_pos {x:Int} (h0:0≤x):wrap64 (48+Int.tmod x 10) % 256=((48+x.toNat % 10:Nat):Int):=by
 rw[Int.tmod_eq_emod_of_nonneg h0,Z4 (by omega) (by omega)];omega
theorem fmt_l0:∀(d:Nat) (x:Int) (s:List UInt8) (k:Nat),0≤x→x≤9223372036854775807→x<(10:Int) ^ (d+1)→s.length+d≤1000→d<k→Zt.l0 k x (bs s)=some (bs (Lib.decDigits x.toNat ++ s))
 | d,x,s,k,h0,h63,hx,hs,hk=>by
  obtain⟨m,rfl⟩:∃m,k=m+1:=⟨k - 1,by omega⟩
  simp only[Zt.l0]
  by_cases c:x > 9
  ·rw[if_pos c]
   cases d with
   | zero=>simp at hx;omega
   | succ d=>
    rw[dig_pos h0,Zh,Zbq _ (by omega) (by omega),ZM,ZM,if_pos (by simp only[List.length_singleton];omega),Int.tdiv_eq_ediv_of_nonneg h0]
    have hx2:x / 10<(10:Int) ^ (d+1):=by
     rw[Int.pow_succ] at hx
     exact Int.ediv_lt_of_lt_mul (by omega) hx
    rw[Z4 (by omega) (by omega),ZaH,fmt_l0 d (x / 10) _ m (by omega) (by omega) hx2 (by simp only[List.length_append,List.length_singleton];omega) (by omega)]
    have e:Lib.decDigits x.toNat=Lib.decDigits (x / 10).toNat ++ [UInt8.ofNat (48+x.toNat % 10)]:=by
     rw[Lib.decDigits,dif_neg (by omega),show x.toNat / 10=(x / 10).toNat by omega]
    rw[e,Int.toNat_natCast,List.append_assoc]
  ·rw[if_neg c]
   rw[Z4 (by omega) (by omega),show(48+x) % 256=((48+x.toNat:Nat):Int) by omega,Zh,Zbq _ (by omega) (by omega),ZM,ZM,if_pos (by simp only[List.length_singleton];omega),ZaH,Lib.decDigits,dif_pos (by omega),Int.toNat_natCast]
theorem Zbo:∀(d m k:Nat),1≤m→m≤9223372036854775808→m<10 ^ (d+1)→d<k→d≤900→Zt.f k (-(m:Int))=some (bs (45 :: Lib.decDigits m))∧(Lib.decDigits m).length≤d+1
 | d,m,k,h1,h63,hm,hk,hd=>by
  obtain⟨k,rfl⟩:∃j,k=j+1:=⟨k - 1,by omega⟩
  have e1:Int.tdiv (-(m:Int)) 10 = -((m / 10:Nat):Int):=by rw[Int.neg_tdiv];rfl
  have e2:Int.tmod (-(m:Int)) 10 = -((m % 10:Nat):Int):=by rw[Int.neg_tmod];rfl
  simp only[Zt.f]
  rw[if_pos (by omega),e1,e2,Z4 (i:=-((m / 10:Nat):Int)) (by omega) (by omega)]
  by_cases c:m<10
  ·rw[if_pos (by omega),Z4 (by omega) (by omega),show(48 - -(m:Int)) % 256=((48+m:Nat):Int) by omega,Zh,Zbq _ (by omega) (by omega),ZM,if_pos (by simp only[List.length_singleton];omega),Lib.decDigits,dif_pos c,Int.toNat_natCast]
   refine⟨?_,by simp only[List.length_singleton];omega⟩
   show some (bs [45] ++ _)=_
   rw[ZaH];rfl
  ·rw[if_neg (by omega)]
   cases d with
   | zero=>simp at hm;omega
   | succ d=>
    obtain⟨ih,il⟩:=Zbo d (m / 10) k (by omega) (by omega) (by rw[Nat.pow_succ] at hm;omega) (by omega) (by omega)
    rw[ih,Zh,Z4 (by omega) (by omega),show(48 - -((m % 10:Nat):Int)) % 256=((48+m % 10:Nat):Int) by omega,Zh,Zbq _ (by omega) (by omega),ZM,ZM,if_pos (by simp only[List.length_cons,List.length_nil];omega),ZaH,Int.toNat_natCast]
    have e:Lib.decDigits m=Lib.decDigits (m / 10) ++ [UInt8.ofNat (48+m % 10)]:=by rw[Lib.decDigits,dif_neg c]
    rw[e]
    exact⟨rfl,by simp only[List.length_append,List.length_singleton];omega⟩
theorem ZaN (n:Int) (h0 : -9223372036854775808≤n) (h1:n≤9223372036854775807) (k:Nat) (hk:2 ^ 64≤k):Zt.f k n=some (bs (Lib.itoa n)):=by
 by_cases c:n<0
 ·have:=(Zbo 18 n.natAbs k (by omega) (by omega) (by omega) (by omega) (by omega)).1
  rw[show -((n.natAbs:Nat):Int)=n by omega] at this
  rw[this,Lib.itoa,if_pos c]
 ·obtain⟨m,rfl⟩:∃m,k=m+1:=⟨k - 1,by omega⟩
  simp only[Zt.f]
  rw[if_neg c,Lib.itoa,if_neg c]
  have:=fmt_l0 18 n [] m (by omega) h1 (by omega) (by simp) (by omega)
  rw[List.append_nil] at this
  exact this
theorem ZbZ (n:Int) (h0 : -9223372036854775808≤n) (h1:n≤9223372036854775807):Z7.f n=some (bs (Lib.itoa n)):=by
 unfold Z7.f
 rw[if_pos ⟨h0,h1⟩];rfl
theorem ZbY (n:Int) (h0 : -9223372036854775808≤n) (h1:n≤9223372036854775807):(Lib.itoa n).length≤20:=by
 by_cases c:n<0
 ·have:=(Zbo 18 n.natAbs 1000 (by omega) (by omega) (by omega) (by omega) (by omega)).2
  rw[Lib.itoa,if_pos c,List.length_cons];omega
 ·rw[Lib.itoa,if_neg c]
  by_cases c0:n=0
  ·subst c0
   rw[show Int.toNat 0=0 from rfl,Lib.decDigits,dif_pos (by omega)];simp only[List.length_singleton];omega
  ·have:=(Zbo 18 n.toNat 1000 (by omega) (by omega) (by omega) (by omega) (by omega)).2
   omega
abbrev bl (l:List ByteArray):List (List UInt8):=l.map (·.data.toList)
theorem Zbw (s x:List UInt8) (r:List (List UInt8)):Lib.joinTail s (x :: r)=s ++ x ++ Lib.joinTail s r:=by simp[Lib.joinTail]
theorem rdOf_nat (l:List ByteArray) (i:Nat):rdOf ByteArray.empty l (i:Int)=l.getD i ByteArray.empty:=by unfold rdOf;rw[Int.toNat_natCast]
theorem spec_Join_f (l:List ByteArray) (sep:ByteArray) (hl:l.length≤1048576) (hb:(Lib.join (bl l) sep.data.toList).length≤140737488355328) (k:Nat) (hk:2 ^ 64≤k):Z1.f k l sep=some (bs (Lib.join (bl l) sep.data.toList)):=by
 have key:=Zat l.length (fun k i=>0<i→∀acc:List UInt8,acc.length+(Lib.joinTail sep.data.toList (bl (l.drop i))).length≤140737488355328→Z1.l0 k sep (bs acc) l (l.length:Int) (i:Int)=some (bs (acc ++ Lib.joinTail sep.data.toList (bl (l.drop i))))) 0
  (fun k _ _ acc _=>by
   simp only[Z1.l0]
   rw[if_neg (by omega),List.drop_length]
   simp[Lib.joinTail])
  (fun k i _ hi ih hp acc ha=>by
   simp only[Z1.l0]
   rw[Zag hi ByteArray.empty] at ha ⊢
   simp only[bl,List.map_cons,Zbw,List.length_append] at ha ⊢
   rw[if_pos (by omega),if_pos (by omega),if_pos (by omega),if_pos (by omega),rdOf_nat]
   generalize l.getD i ByteArray.empty=x at ha ⊢
   have e:bs acc ++ sep=bs (acc ++ sep.data.toList):=by rw[← ZaH,bs_of]
   rw[e,ZM,ZM,if_pos (by rw[ZbK];omega),if_pos (by rw[ZbK];simp only[List.length_append];omega),Z9 hi (by omega)]
   have e2:bs (acc ++ sep.data.toList) ++ x=bs (acc ++ sep.data.toList ++ x.data.toList):=by rw[← ZaH (acc ++ sep.data.toList),bs_of]
   rw[e2,ih (by omega) _ (by simp only[List.length_append,bl];omega)]
   simp only[List.append_assoc,bl])
 unfold Z1.f
 cases l with
 | nil=>
  obtain⟨m,rfl⟩:∃m,k=m+1:=⟨k - 1,by omega⟩
  simp only[Z1.l0]
  rw[if_neg (by simp)];rfl
 | cons x t=>
  obtain⟨m,rfl⟩:∃m,k=m+1:=⟨k - 1,by omega⟩
  simp only[bl,List.map_cons,Lib.join_cons,List.length_append] at hb ⊢
  simp only[Z1.l0]
  rw[if_pos (by rw[List.length_cons];omega),if_pos (by omega),if_pos (by rw[List.length_cons];omega),if_neg (by omega)]
  have e0:rdOf ByteArray.empty (x :: t) 0=x:=rfl
  rw[e0,show(⟨#[]⟩:ByteArray)=bs [] from rfl,show bs [] ++ x=bs x.data.toList by rw[← bs_of x,ZaH,ZaF];rfl,ZM,if_pos (by rw[ZbK];simp only[List.length_nil];omega)]
  rw[show wrap64 (0+1)=((1:Nat):Int) by rw[Z4 (by omega) (by omega)];rfl,key 1 m (by rw[List.length_cons];omega) (by omega) (by omega) _ (by simpa [bl] using hb)]
  rfl
theorem impl_Join_f (l:List ByteArray) (sep:ByteArray) (hl:l.length≤1048576) (hb:(Lib.join (bl l) sep.data.toList).length≤140737488355328):ZaA.f l sep=some (bs (Lib.join (bl l) sep.data.toList)):=by
 unfold ZaA.f
 rw[if_pos ⟨hl,hb⟩];rfl
theorem Zao (l:List UInt8):(bs l).toList=l:=by rw[ByteArray.toList_eq];exact ZaF l
theorem bt_bs (l:List UInt8) (i:Nat):bt (bs l) (i:Int)=((l.getD i 0).toNat:Int):=by
 rw[← rd_bytesOf,ZaG]
 unfold bytesOf
 rw[ZaF,List.getD_eq_getElem?_getD,List.getElem?_map,List.getD_eq_getElem?_getD]
 cases l[i]? <;> rfl
theorem ZaS (l:List UInt8) (a b:Nat):(bs l).extract a b=bs ((l.drop a).take (b - a)):=by
 ext1
 simp[bs,ByteArray.data_extract]
def dgB (c:UInt8):Bool:=decide (48≤c.toNat) && decide (c.toNat≤57)
theorem ZaK (c:UInt8):dgB c=true↔48≤c.toNat∧c.toNat≤57:=by unfold dgB;simp
def stp (a:Nat) (c:UInt8):Nat:=10 * a+(c.toNat - 48)
theorem stp_eq (a:Nat) (c:UInt8):stp a c=10 * a+(c.toNat - 48):=rfl
def vl (a:Nat) (l:List UInt8):Nat:=l.foldl stp a
theorem vl_nil (a:Nat):vl a []=a:=rfl
theorem ZbF (a:Nat) (c:UInt8) (r:List UInt8):vl a (c :: r)=vl (10 * a+(c.toNat - 48)) r:=by unfold vl;rw[List.foldl_cons,stp_eq]
theorem vl_app (c:UInt8) (l:List UInt8) (a:Nat):vl a (l ++ [c])=10 * vl a l+(c.toNat - 48):=by unfold vl;rw[List.foldl_append,List.foldl_cons,List.foldl_nil,stp_eq]
theorem vl_ge:∀(l:List UInt8) (a:Nat),a≤vl a l
 | [],a=>Nat.le_refl _
 | c :: r,a=>by
  have:=vl_ge r (10 * a+(c.toNat - 48))
  rw[ZbF];omega
attribute [irreducible] vl stp
theorem dig_nat {i:Nat} (h:i<10):(UInt8.ofNat (48+i)).toNat=48+i:=by rw[UInt8.toNat_ofNat'];omega
theorem Zbg:∀n:Nat,(Lib.decDigits n).all dgB=true∧vl 0 (Lib.decDigits n)=n∧Lib.decDigits n≠[]:=by
 intro n
 induction n using Nat.strongRecOn with
 | _ n ih=>
  by_cases h:n<10
  ·have e:Lib.decDigits n=[UInt8.ofNat (48+n)]:=Lib.decDigits_one h
   have:=dig_nat h
   rw[e]
   refine⟨?_,?_,by simp⟩
   ·rw[List.all_cons,List.all_nil,Bool.and_true,ZaK];omega
   ·rw[ZbF,vl_nil];omega
  ·have e:Lib.decDigits n=Lib.decDigits (n / 10) ++ [UInt8.ofNat (48+n % 10)]:=by rw[Lib.decDigits,dif_neg h]
   obtain⟨h1,h2,h3⟩:=ih (n / 10) (by omega)
   have:=dig_nat (show n % 10<10 by omega)
   rw[e]
   refine⟨?_,?_,by simp⟩
   ·rw[List.all_append,h1,Bool.true_and,List.all_cons,List.all_nil,Bool.and_true,ZaK];omega
   ·rw[vl_app,h2];omega
theorem dec_len {n:Nat} (h:n≤9223372036854775808):(Lib.decDigits n).length≤19:=by
 by_cases h0:n=0
 ·subst h0;rw[Lib.decDigits_one (by omega)];simp
 ·have:=(Zbo 18 n 1000 (by omega) h (by omega) (by omega) (by omega)).2
  omega
theorem pu_vl:∀(l:List UInt8) (a:Nat),l.all dgB=true→vl a l<18446744073709551616→Lib.parseUint10 a l=.ok (vl a l)
 | [],a,_,_=>by rw[vl_nil];rfl
 | c :: r,a,hd,hv=>by
  rw[List.all_cons,Bool.and_eq_true,ZaK] at hd
  rw[ZbF] at hv ⊢
  have:=vl_ge r (10 * a+(c.toNat - 48))
  rw[Lib.parseUint10,if_pos hd.1,if_neg (by omega),if_neg (by omega),Nat.mul_comm a 10,pu_vl r _ hd.2 hv]
theorem atoi_itoa (v:Int) (h0 : -9223372036854775808≤v) (h1:v≤9223372036854775807):Lib.atoiAll (Lib.itoa v)=.ok v:=by
 by_cases c:v<0
 ·obtain⟨d1,d2,d3⟩:=Zbg v.natAbs
  rw[Lib.itoa,if_pos c,Lib.atoiAll_minus,Lib.parseMag,if_neg d3,pu_vl _ _ d1 (by rw[d2];omega),d2]
  simp only[Lib.signed]
  rw[if_neg (by omega),show -((v.natAbs:Nat):Int)=v by omega]
 ·obtain⟨d1,d2,d3⟩:=Zbg v.toNat
  rw[Lib.itoa,if_neg c]
  obtain⟨x,t,e⟩:=List.exists_cons_of_ne_nil d3
  have hx:=d1
  rw[e,List.all_cons,Bool.and_eq_true,ZaK] at hx
  rw[e,Lib.atoiAll_plain x t (by omega) (by omega),← e,Lib.parseMag,if_neg d3,pu_vl _ _ d1 (by rw[d2];omega),d2]
  simp only[Lib.signless]
  rw[if_neg (by omega),show((v.toNat:Nat):Int)=v by omega]
theorem isDigits_f (l:List UInt8) (hl:l.length≤9223372036854775806) (k:Nat) (hk:2 ^ 64≤k):ZN.f k (bs l)=some (l.all dgB && decide (0<l.length)):=by
 have key:=Zat l.length (fun k i=>ZN.l0 k (bs l) (i:Int)=some ((l.drop i).all dgB && decide (0<l.length))) 0
  (fun k _=>by
   simp only[ZN.l0]
   rw[ZM,if_neg (by omega),List.drop_length,List.all_nil,Bool.true_and]
   exact congrArg some (decide_eq_decide.2 (by omega)))
  (fun k i _ hi ih=>by
   simp only[ZN.l0]
   rw[ZM,if_pos (by omega),if_pos (by omega),bt_bs,Zag hi 0,List.all_cons,Z9 hi (by omega),ih]
   generalize l.getD i 0=c
   by_cases h1:(c.toNat:Int)<48
   ·rw[if_pos h1,show dgB c=false by rw[Bool.eq_false_iff,Ne,ZaK];omega];rfl
   ·rw[if_neg h1]
    by_cases h2:(c.toNat:Int) > 57
    ·rw[if_pos h2,show dgB c=false by rw[Bool.eq_false_iff,Ne,ZaK];omega];rfl
    ·rw[if_neg h2,show dgB c=true by rw[ZaK];omega,Bool.true_and]) 0 k (Nat.zero_le _) (by omega)
 unfold ZN.f
 simpa using key
def finN (s:List UInt8) (neg:Bool) (n:Nat):Int×Bool:=
 if neg=true then(if Lib.itoa (-(n:Int))=s then(-(n:Int),true) else(0,false))
 else if n=9223372036854775808 then(0,false) else if Lib.itoa (n:Int)=s then((n:Int),true) else(0,false)
theorem parse_l0 (s:List UInt8) (neg:Bool) (l:List UInt8) (hd:l.all dgB=true) (hl:l.length≤1048576) (k:Nat) (hk:2 ^ 65≤k) :
  Zs.l0 k (bs s) neg (bs l) 0 0=some (if vl 0 l≤9223372036854775808 then finN s neg (vl 0 l) else(0,false)):=by
 have key:=Zat l.length (fun k i=>∀a:Nat,a≤9223372036854775808→Zs.l0 k (bs s) neg (bs l) (-(a:Int)) (i:Int)=some (if vl a (l.drop i)≤9223372036854775808 then finN s neg (vl a (l.drop i)) else(0,false))) (2 ^ 64)
  (fun k hk a ha=>by
   simp only[Zs.l0]
   rw[ZM,if_neg (by omega),List.drop_length,vl_nil,if_pos ha]
   unfold finN
   cases neg with
   | true=>
    rw[if_pos rfl,if_pos rfl,ZaN _ (by omega) (by omega) k hk,Zh,Zao,Zao]
    by_cases h:Lib.itoa (-(a:Int))=s
    ·rw[if_pos h,if_pos h]
    ·rw[if_neg h,if_neg h]
   | false=>
    simp only[Bool.false_eq_true,if_false]
    by_cases h0:a=9223372036854775808
    ·rw[if_pos (by omega),if_pos h0]
    ·rw[if_neg (by omega),if_neg h0,Z4 (by omega) (by omega),Int.neg_neg,ZaN _ (by omega) (by omega) k hk,Zh,Zao,Zao]
     by_cases h:Lib.itoa (a:Int)=s
     ·rw[if_pos h,if_pos h]
     ·rw[if_neg h,if_neg h])
  (fun k i hk hi ih a ha=>by
   simp only[Zs.l0]
   have hc:=List.all_eq_true.1 hd _ (Zba hi 0)
   rw[ZaK] at hc
   rw[ZM,if_pos (by omega),if_pos (by omega),bt_bs,Zag hi 0,ZbF,Z9 hi (by omega)]
   generalize l.getD i 0=c at hc ⊢
   obtain⟨d,hdg⟩:∃d:Nat,c.toNat=48+d:=⟨c.toNat - 48,by omega⟩
   obtain⟨m,hm⟩:∃m:Nat,m+d=9223372036854775808:=⟨9223372036854775808 - d,by omega⟩
   rw[hdg,show 48+d - 48=d by omega,Z4 (i:=((48+d:Nat):Int)) (by omega) (by omega),show((48+d:Nat):Int) - 48=(d:Int) by omega,Z4 (i:=(d:Int)) (by omega) (by omega),show(-9223372036854775808:Int)+(d:Int) = -(m:Int) by omega,Z4 (i:=-(m:Int)) (by omega) (by omega),show Int.tdiv (-(m:Int)) 10 = -((m / 10:Nat):Int) by rw[Int.neg_tdiv];rfl,Z4 (i:=-((m / 10:Nat):Int)) (by omega) (by omega)]
   by_cases hov:(-(a:Int)) < -((m / 10:Nat):Int)
   ·have:=vl_ge (l.drop (i+1)) (10 * a+d)
    rw[if_pos hov,if_neg (by omega)]
   ·rw[if_neg hov,Z4 (i:=-(a:Int) * 10) (by omega) (by omega),Z4 (i:=-(a:Int) * 10 - (d:Int)) (by omega) (by omega),show -(a:Int) * 10 - (d:Int) = -((10 * a+d:Nat):Int) by omega,ih (10 * a+d) (by omega)]) 0 k (Nat.zero_le _) (by omega)
 have:=key 0 (by omega)
 simpa using this
def bodyN (s:List UInt8):List UInt8:=if s.getD 0 0=45 then s.drop 1 else s
def numOk (s:List UInt8):Bool:=(bodyN s).all dgB && decide (0<(bodyN s).length) && decide ((bodyN s).length≤19) && decide (vl 0 (bodyN s)≤9223372036854775808)
def numN (s:List UInt8):Int×Bool:=if numOk s=true then finN s (decide (s.getD 0 0=45)) (vl 0 (bodyN s)) else(0,false)
theorem ZbX (s:List UInt8) (neg:Bool) (l:List UInt8) (hl:l.length≤1048576) (k:Nat) (hk:2 ^ 66≤k) :
  Zs.j1 k (bs s) neg (bs l)=some (if (l.all dgB && decide (0<l.length) && decide (l.length≤19) && decide (vl 0 l≤9223372036854775808))=true then finN s neg (vl 0 l) else(0,false)):=by
 obtain⟨k,rfl⟩:∃m,k=m+2:=⟨k - 2,by omega⟩
 simp only[Zs.j1]
 rw[isDigits_f l (by omega) (k+1) (by omega),Zh]
 cases h1:(l.all dgB && decide (0<l.length)) with
 | false=>
  rw[if_neg (by simp)]
  simp only[Zs.j2]
  simp
 | true=>
  rw[if_pos rfl,ZM]
  simp only[Zs.j2]
  by_cases h2:(l.length:Int) > 19
  ·rw[Zd h2,if_pos rfl,Ze (show ¬l.length≤19 by omega)];simp
  ·rw[Bool.and_eq_true] at h1
   rw[Ze h2,if_neg (by simp),Zd (show l.length≤19 by omega),parse_l0 s neg l h1.1 hl k (by omega)]
   simp
theorem Zb5 (s:List UInt8) (hs:s.length≤1048576) (k:Nat) (hk:2 ^ 67≤k):Zs.f k (bs s)=some (numN s):=by
 obtain⟨k,rfl⟩:∃m,k=m+1:=⟨k - 1,by omega⟩
 unfold Zs.f
 rw[ZM]
 simp only[Zs.j0,show bt (bs s) 0=((s.getD 0 0).toNat:Int) from bt_bs s 0,ZM]
 have e45:(((s.getD 0 0).toNat:Int) == 45)=decide (s.getD 0 0=45):=by
  rw[Bool.eq_iff_iff,beq_iff_eq,decide_eq_true_eq]
  constructor
  ·intro h;exact UInt8.toNat_inj.1 (by show _=45;omega)
  ·intro h;rw[h];rfl
 unfold numN numOk bodyN
 by_cases h0:(s.length:Int) > 0
 ·rw[if_pos h0,if_pos (by omega),e45]
  by_cases h:s.getD 0 0=45
  ·rw[Zd h,if_pos rfl,if_pos (by omega),if_pos h,ZaS,List.take_of_length_le (by rw[Zj];omega),ZbX s true _ (by rw[Zj];omega) k (by omega)]
  ·rw[Ze h,if_neg (by simp),if_neg h,ZbX s false s hs k (by omega)]
 ·have e:s=[]:=List.eq_nil_of_length_eq_zero (by omega)
  subst e
  rw[if_neg h0,if_neg (by simp),ZbX [] false [] (by simp) k (by omega)]
  rfl
theorem finN_ok {s:List UInt8} {neg:Bool} {n:Nat} (hn:n≤9223372036854775808) (h:¬∃v:Int,(-9223372036854775808≤v∧v≤9223372036854775807)∧Lib.itoa v=s):finN s neg n=(0,false):=by
 unfold finN
 cases neg with
 | true=>rw[if_pos rfl,if_neg (fun e=>h ⟨_,⟨by omega,by omega⟩,e⟩)]
 | false=>
  rw[if_neg (by simp)]
  by_cases h0:n=9223372036854775808
  ·rw[if_pos h0]
  ·rw[if_neg h0,if_neg (fun e=>h ⟨_,⟨by omega,by omega⟩,e⟩)]
theorem g_same (s:List UInt8):ZO.g (bs s)=numN s:=by
 unfold ZO.g
 rw[ZaF,Zao]
 by_cases h:∃v:Int,(-9223372036854775808≤v∧v≤9223372036854775807)∧Lib.itoa v=s
 ·obtain⟨v,⟨h0,h1⟩,rfl⟩:=h
  rw[atoi_itoa v h0 h1]
  simp only[beq_self_eq_true,if_true]
  unfold numN numOk bodyN finN
  by_cases c:v<0
  ·obtain⟨d1,d2,d3⟩:=Zbg v.natAbs
   have hl:=dec_len (show v.natAbs≤9223372036854775808 by omega)
   have hp:=List.length_pos_iff.2 d3
   have e:Lib.itoa v=45 :: Lib.decDigits v.natAbs:=by rw[Lib.itoa,if_pos c]
   rw[e]
   simp only[List.getD_cons_zero,if_true,List.drop_succ_cons,List.drop_zero,decide_true,d1,d2,Bool.true_and]
   rw[if_pos (by simp;omega),show -((v.natAbs:Nat):Int)=v by omega,if_pos e]
  ·obtain⟨d1,d2,d3⟩:=Zbg v.toNat
   have hl:=dec_len (show v.toNat≤9223372036854775808 by omega)
   have hp:=List.length_pos_iff.2 d3
   have e:Lib.itoa v=Lib.decDigits v.toNat:=by rw[Lib.itoa,if_neg c]
   rw[e]
   obtain⟨x,t,e2⟩:=List.exists_cons_of_ne_nil d3
   have hx:=d1
   rw[e2,List.all_cons,Bool.and_eq_true,ZaK] at hx
   have hne:(Lib.decDigits v.toNat).getD 0 0≠45:=by
    rw[e2,List.getD_cons_zero]
    intro h;rw[h] at hx;have:(45:UInt8).toNat=45:=rfl;omega
   rw[if_neg hne]
   simp only[d1,d2,Bool.true_and,Ze hne]
   rw[if_pos (by simp;omega),if_neg (by simp),if_neg (by omega),show((v.toNat:Nat):Int)=v by omega,if_pos e]
 ·have hg:numN s=(0,false):=by
   unfold numN
   by_cases hk:numOk s=true
   ·rw[if_pos hk]
    unfold numOk at hk
    simp only[Bool.and_eq_true,decide_eq_true_eq] at hk
    exact finN_ok hk.2 h
   ·rw[if_neg hk]
  rw[hg]
  split
  ·rename_i v he
   rw[if_neg]
   intro hh
   exact h ⟨v,Lib.atoiAll_bounds he,eq_of_beq hh⟩
  ·rfl
theorem Zcc (s:List UInt8) (hs:s.length≤1048576):ZO.f (bs s)=some (numN s):=by
 unfold ZO.f
 rw[if_pos (by rw[ZM];exact hs),g_same]
def pcs (c:UInt8) (l:List UInt8) (b i:Nat):Nat→List (List UInt8)
 | 0=>[l.drop b]
 | d+1=>if l.getD i 0=c then(l.drop b).take (i - b) :: pcs c l (i+1) (i+1) d else pcs c l b (i+1) d
theorem ZbH (c:UInt8) (l:List UInt8):∀(d b i:Nat),(pcs c l b i d).length≤d+1
 | 0,b,i=>by simp[pcs]
 | d+1,b,i=>by
  rw[pcs]
  split
  ·have:=ZbH c l d (i+1) (i+1);rw[List.length_cons];omega
  ·have:=ZbH c l d b (i+1);omega
theorem pcs_bd (c:UInt8) (l:List UInt8):∀(d b i:Nat),∀p∈pcs c l b i d,p.length≤l.length
 | 0,b,i,p,hp=>by
  rw[pcs,List.mem_singleton] at hp
  subst hp;rw[Zj];omega
 | d+1,b,i,p,hp=>by
  rw[pcs] at hp
  split at hp
  ·rcases List.mem_cons.1 hp with rfl|hp
   ·rw[Zi,Zj];omega
   ·exact pcs_bd c l d _ _ p hp
  ·exact pcs_bd c l d _ _ p hp
theorem ix_one (c x:UInt8):Lib.indexByte [c] x=if c=x then 0 else -1:=by
 unfold Lib.indexByte Lib.indexByte
 by_cases h:c=x
 ·rw[if_pos h,h];simp
 ·rw[if_neg h,if_neg (by simpa using h)];rfl
theorem impl_split (c:UInt8) (l:List UInt8) (hl:l.length≤1048576):∀(d i b:Nat) (acc:List (List UInt8)) (k:Nat),i+d=l.length→b≤i→acc.length≤i→d<k →
  ZI.l0 k (bs l) (bs [c]) (acc.map bs) (b:Int) (i:Int)=some ((acc ++ pcs c l b i d).map bs):=by
 intro d
 induction d with
 | zero=>
  intro i b acc k hi hb ha hk
  obtain⟨m,rfl⟩:∃m,k=m+1:=⟨k - 1,by omega⟩
  simp only[ZI.l0]
  rw[ZM,if_neg (by omega),if_pos (by omega),if_pos (by omega),if_pos (by simp;omega),ZaS,Int.toNat_natCast,List.take_of_length_le (by rw[Zj];omega),pcs,List.map_append]
  rfl
 | succ d ih=>
  intro i b acc k hi hb ha hk
  obtain⟨m,rfl⟩:∃m,k=m+1:=⟨k - 1,by omega⟩
  simp only[ZI.l0]
  rw[ZM,if_pos (by omega),if_pos (by omega),bt_bs]
  unfold strings_IndexByte.f
  rw[Zh,ZaF,Int.toNat_natCast,show(l.getD i 0).toNat.toUInt8=l.getD i 0 from UInt8.ofNat_toNat,ix_one,Z9 (n:=l.length) (by omega) (by omega),pcs]
  by_cases h:l.getD i 0=c
  ·rw[if_pos h.symm,if_pos (by omega),if_pos (by omega),if_pos (by omega),if_pos (by omega),if_pos (by simp;omega),if_pos h,ZaS,Int.toNat_natCast,Int.toNat_natCast]
   have:=ih (i+1) (i+1) (acc ++ [(l.drop b).take (i - b)]) m (by omega) (Nat.le_refl _) (by simp;omega) (by omega)
   rw[List.map_append,List.append_assoc] at this
   exact this
  ·have h':¬c=l.getD i 0:=fun e=>h e.symm
   rw[if_neg h',if_neg (by omega),if_neg h]
   exact ih (i+1) b acc m (by omega) (by omega) (by omega) (by omega)
theorem spec_split (c:UInt8) (l:List UInt8) (hl:l.length≤1048576):∀(d i b:Nat) (acc:List (List UInt8)) (k:Nat),i+d=l.length→b≤i→acc.length≤i→3 * d<k →
  ZB.l0 k (bs l) (bs [c]) (acc.map bs) (b:Int) (i:Int)=some ((acc ++ pcs c l b i d).map bs):=by
 intro d
 induction d with
 | zero=>
  intro i b acc k hi hb ha hk
  obtain⟨m,rfl⟩:∃m,k=m+1:=⟨k - 1,by omega⟩
  simp only[ZB.l0]
  rw[ZM,if_neg (by omega),if_pos (by omega),if_pos (by omega),if_pos (by simp;omega),ZaS,Int.toNat_natCast,List.take_of_length_le (by rw[Zj];omega),pcs,List.map_append]
  rfl
 | succ d ih=>
  intro i b acc k hi hb ha hk
  obtain⟨m,rfl⟩:∃m,k=m+1+1+1:=⟨k - 3,by omega⟩
  have e0:bt (bs [c]) 0=(c.toNat:Int):=bt_bs [c] 0
  have e1:(bs [c]).size=1:=by rw[ZM];rfl
  simp only[ZB.l0,ZB.l1]
  rw[e0,e1,ZM,bt_bs,if_pos (by omega),if_pos (by omega),if_pos (by omega),if_pos (by omega),if_pos (by omega),Z9 (n:=l.length) (by omega) (by omega),pcs]
  by_cases h:l.getD i 0=c
  ·rw[if_pos (by rw[h]),if_pos (by omega),if_pos (by omega),if_pos (by omega),if_pos (by simp;omega),if_pos h,ZaS,Int.toNat_natCast,Int.toNat_natCast]
   have:=ih (i+1) (i+1) (acc ++ [(l.drop b).take (i - b)]) (m+1) (by omega) (Nat.le_refl _) (by simp;omega) (by omega)
   rw[List.map_append,List.append_assoc] at this
   exact this
  ·rw[if_neg (fun e=>h (UInt8.toNat_inj.1 (by omega))),show wrap64 (0+1)=1 from(Z4 (by omega) (by omega)).trans (by omega),if_neg (by omega),if_neg h]
   exact ih (i+1) b acc m (by omega) (by omega) (by omega) (by omega)
def ZaC (c:UInt8) (l:List UInt8):List (List UInt8):=pcs c l 0 0 l.length
theorem Zcb (c:UInt8) (l:List UInt8) (hl:l.length≤1048576) (k:Nat) (hk:2 ^ 64≤k):ZI.f k (bs l) (bs [c])=some ((ZaC c l).map bs):=impl_split c l hl l.length 0 0 [] k (by omega) (Nat.le_refl _) (by simp) (by omega)
theorem Zb4 (c:UInt8) (l:List UInt8) (hl:l.length≤1048576) (k:Nat) (hk:2 ^ 64≤k):ZB.f k (bs l) (bs [c])=some ((ZaC c l).map bs):=spec_split c l hl l.length 0 0 [] k (by omega) (Nat.le_refl _) (by simp) (by omega)
end Go.Proofs.YthphnhmabieflaaDoor.Pr
namespace Go.Proofs.YthphnhmabieflaaDoor.Pr
open Go.RowKit Go.Proofs.YthphnhmabieflaaDoorW.PrintWords Go.Proofs.YthphnhmabieflaaDoorW.PrintMore Go.Proofs.YthphnhmabieflaaDoor.Ni
theorem ZbB {x:Int} (h:Zaq x=true):ZL.f x=some (prp x):=by
 have:=(Zaz x).1 h
 unfold ZL.f prp
 split
 ·rw[Z4 (by omega) (by omega)]
 ·rfl
theorem ZbW {x:Int} (h:Zaq x=true):ZZ.f x=some (prp x):=by
 have:=(Zaz x).1 h
 unfold ZZ.f prp mx
 rw[Z4 (by omega) (by omega)]
 congr 1
 split <;> split <;> omega
theorem Zbj (l:List Int) (hl:l.length≤9223372036854775807) (k:Nat) (hk:2 ^ 64≤k):Zz.f k l=some (labB l):=by
 have key:=Zat l.length (fun k i=>(0<i→Zaq (l.getD (i - 1) 0)=true)→Zz.l0 k l l l.length (i:Int)=some (Zax (if i=0 then 0 else prp (l.getD (i - 1) 0)) (l.drop i))) 0
  (fun k _ _=>by simp[Zz.l0,Zax])
  (fun k i _ hi ih hb=>by
   simp only[Zz.l0]
   rw[if_pos (by omega),if_pos (by omega),if_pos (by omega),ZaG,Z9 hi (by omega),Zag hi 0]
   unfold Zax
   have ih':=fun h=>ih (fun _=>h)
   simp only[Nat.add_sub_cancel,Nat.add_eq_zero_iff,Nat.one_ne_zero,and_false,if_false] at ih'
   by_cases h0:l.getD i 0=0
   ·rw[if_pos h0,h0];simp[Zaq]
   rw[if_neg h0]
   unfold Z3.f
   by_cases h1:l.getD i 0≥-3
   ·rw[if_pos h1,Zh]
    by_cases h2:l.getD i 0≤3
    ·have hok:Zaq (l.getD i 0)=true:=(Zaz _).2 ⟨h0,h1,h2⟩
     have hp:=Za3 hok
     rw[if_pos (by simpa using h2)]
     by_cases hi0:i=0
     ·subst hi0
      rw[if_neg (by omega),ih' hok,hok]
      simp only[Bool.true_and,if_true]
      rw[Zd (show(0:Int)<prp (l.getD 0 0) by omega)]
      rfl
     ·rw[if_pos (by omega),wrap_pred (by omega) (by omega),if_pos (by omega),if_pos (by omega),ZaG,ZbB (hb (by omega)),Zh,ZbB hok,Zh,if_neg hi0,hok]
      by_cases hlt:prp (l.getD (i - 1) 0)<prp (l.getD i 0)
      ·rw[if_neg (by omega),ih' hok,Zd hlt];rfl
      ·rw[if_pos (by omega),Ze hlt];rfl
    ·rw[if_neg (by simpa using h2)]
     rw[show Zaq (l.getD i 0)=false from Bool.eq_false_iff.2 fun h=>by have:=(Zaz _).1 h;omega];rfl
   ·rw[if_neg h1,Zh,if_neg (by decide)]
    rw[show Zaq (l.getD i 0)=false from Bool.eq_false_iff.2 fun h=>by have:=(Zaz _).1 h;omega];rfl) 0 k (Nat.zero_le _) (by omega)
 unfold Zz.f labB
 have:=key (fun h=>absurd h (by omega))
 simpa using this
theorem Zbn (l:List Int) (hl:l.length≤9223372036854775807) (k:Nat) (hk:2 ^ 64≤k):ZG.f k l=some (labB l):=by
 have key:=Zat l.length (fun k i=>(0<i→Zaq (l.getD (i - 1) 0)=true)→ZG.l0 k l l l.length (i:Int)=some (Zax (if i=0 then 0 else prp (l.getD (i - 1) 0)) (l.drop i))) 0
  (fun k _ _=>by simp[ZG.l0,Zax])
  (fun k i _ hi ih hb=>by
   simp only[ZG.l0]
   rw[if_pos (by omega),if_pos (by omega),if_pos (by omega),ZaG,Z9 hi (by omega),Zag hi 0]
   unfold Zax
   have ih':=fun h=>ih (fun _=>h)
   simp only[Nat.add_sub_cancel,Nat.add_eq_zero_iff,Nat.one_ne_zero,and_false,if_false] at ih'
   by_cases h0:l.getD i 0=0
   ·rw[if_pos h0,h0];simp[Zaq]
   rw[if_neg h0]
   by_cases h1:l.getD i 0≥-3
   ·rw[if_neg (by omega)]
    by_cases h2:l.getD i 0≤3
    ·have hok:Zaq (l.getD i 0)=true:=(Zaz _).2 ⟨h0,h1,h2⟩
     have hp:=Za3 hok
     rw[if_neg (by omega)]
     by_cases hi0:i=0
     ·subst hi0
      rw[if_neg (by omega),ih' hok,hok]
      simp only[Bool.true_and,if_true]
      rw[Zd (show(0:Int)<prp (l.getD 0 0) by omega)]
      rfl
     ·rw[if_pos (by omega),wrap_pred (by omega) (by omega),if_pos (by omega),if_pos (by omega),ZaG,ZbW (hb (by omega)),Zh,ZbW hok,Zh,if_neg hi0,hok]
      by_cases hlt:prp (l.getD (i - 1) 0)<prp (l.getD i 0)
      ·rw[if_neg (by omega),ih' hok,Zd hlt];rfl
      ·rw[if_pos (by omega),Ze hlt];rfl
    ·rw[if_pos (by omega)]
     rw[show Zaq (l.getD i 0)=false from Bool.eq_false_iff.2 fun h=>by have:=(Zaz _).1 h;omega];rfl
   ·rw[if_pos (by omega)]
    rw[show Zaq (l.getD i 0)=false from Bool.eq_false_iff.2 fun h=>by have:=(Zaz _).1 h;omega];rfl) 0 k (Nat.zero_le _) (by omega)
 unfold ZG.f labB
 have:=key (fun h=>absurd h (by omega))
 simpa using this
end Go.Proofs.YthphnhmabieflaaDoor.Pr
set_option linter.unusedSimpArgs false
set_option linter.unusedVariables false
namespace Go.Proofs.YthphnhmabieflaaDoor.Pr
open Go.RowKit Go.Proofs.YthphnhmabieflaaDoorW.PrintWords Go.Proofs.YthphnhmabieflaaDoor.Ni
def litT (x:Int):List UInt8:=if x<0 then 33 :: 112 :: Lib.itoa (prp x) else 112 :: Lib.itoa (prp x)
def labT (l:List Int):List UInt8:=if labB l=true then(if l=[] then[45] else Lib.join (l.map litT) [38]) else[]
theorem ZbS:∀(l:List Int) (p:Int),0≤p→Zax p l=true→(l.length:Int)+p≤3∨l=[]
 | [],_,_,_=>.inr rfl
 | x :: t,p,hp,h=>by
  left
  simp only[Zax,Bool.and_eq_true,decide_eq_true_eq] at h
  have h1:=Za3 h.1.1
  rw[List.length_cons]
  rcases ZbS t (prp x) (by omega) h.2 with h2|h2
  ·omega
  ·subst h2;simp only[List.length_nil];omega
theorem Za9 {l:List Int} (h:labB l=true):l.length≤3:=by
 rcases ZbS l 0 (by omega) h with h2|h2
 ·omega
 ·subst h2;simp
theorem litT_len {x:Int} (h:Zaq x=true):(litT x).length≤22:=by
 have h1:=Za3 h
 have h2:=ZbY (prp x) (by omega) (by omega)
 unfold litT
 split <;> simp only[List.length_cons] <;> omega
theorem joinT_len (s:List UInt8):∀(l:List (List UInt8)),(∀x∈l,x.length≤22)→(Lib.join l s).length≤(22+s.length) * l.length
 | [],_=>by simp[Lib.join]
 | x :: t,h=>by
  have h1:∀l:List (List UInt8),(∀x∈l,x.length≤22)→(Lib.joinTail s l).length≤(22+s.length) * l.length:=by
   intro l
   induction l with
   | nil=>intro _;simp[Lib.joinTail]
   | cons y r ih=>
    intro hy
    have h2:=ih (fun z hz=>hy z (by simp[hz]))
    have h3:=hy y (by simp)
    rw[Zbw,List.length_append,List.length_append,List.length_cons,Nat.mul_succ];omega
  have h2:=h1 t (fun z hz=>h z (by simp[hz]))
  have h3:=h x (by simp)
  rw[Lib.join_cons,List.length_append,List.length_cons,Nat.mul_succ];omega
theorem ZbA:∀(l:List Int) (p:Int),Zax p l=true→∀x∈l,Zaq x=true
 | [],_,_,x,hx=>by cases hx
 | y :: t,p,h,x,hx=>by
  simp only[Zax,Bool.and_eq_true] at h
  rcases List.mem_cons.1 hx with rfl|hx
  ·exact h.1.1
  ·exact ZbA t _ h.2 x hx
theorem labB_all' {l:List Int} (h:labB l=true):∀x∈l,Zaq x=true:=ZbA l 0 h
theorem bl_bs:∀(l:List (List UInt8)),bl (l.map bs)=l
 | []=>rfl
 | x :: t=>by
  show(bs x).data.toList :: bl (t.map bs)=_
  rw[ZaF,bl_bs t]
theorem ZbD (l:List Int) (hl:l.length≤1048576) (k:Nat) (hk:2 ^ 66≤k):Zx.f k l=some (bs (labT l)):=by
 unfold Zx.f labT
 rw[Zbn l (by omega) k (by omega),Zh]
 cases hb:labB l with
 | false=>rfl
 | true=>
  have hall:=labB_all' hb
  have h3:=Za9 hb
  rw[if_pos rfl,if_pos rfl]
  by_cases h0:l=[]
  ·subst h0;rfl
  ·rw[if_neg (by cases l with|nil=>exact absurd rfl h0|cons x t=>rw[List.length_cons];omega),if_neg h0]
   have key:=Zat l.length (fun k i=>∀acc:List (List UInt8),acc.length≤i→(∀x∈acc,x.length≤22)→Zx.l0 k (acc.map bs) l (l.length:Int) (i:Int)=some (bs (Lib.join (acc ++ (l.drop i).map litT) [38]))) (2 ^ 65)
    (fun k _ acc ha hx=>by
     simp only[Zx.l0]
     have hj:=joinT_len [38] acc hx
     rw[List.length_singleton] at hj
     rw[if_neg (by omega),List.drop_length,show(⟨#[38]⟩:ByteArray)=bs [38] from rfl,impl_Join_f _ _ (by simp;omega) (by rw[bl_bs,ZaF];omega),bl_bs,ZaF]
     simp)
    (fun k i hk hi ih acc ha hx=>by
     have hlit:=hall _ (Zba hi 0)
     have hp:=Za3 hlit
     have h2:=ZbY (prp (l.getD i 0)) (by omega) (by omega)
     simp only[Zx.l0]
     rw[if_pos (by omega),if_pos (by omega),if_pos (by omega),ZaG,ZbW hlit,Zh,ZbZ _ (by omega) (by omega),Zh,ZM,if_pos (by omega),Zag hi 0,show(⟨#[112]⟩:ByteArray)=bs [112] from rfl,ZaH,ZM,Z9 hi (by omega)]
     have hlt:=litT_len hlit
     have hn:=ih (acc ++ [litT (l.getD i 0)]) (by simp;omega) (fun x hx'=>by
      rcases List.mem_append.1 hx' with h|h
      ·exact hx x h
      ·rw[List.mem_singleton] at h;subst h;exact hlt)
     rw[List.append_assoc,List.map_append] at hn
     by_cases hneg:l.getD i 0<0
     ·rw[if_pos hneg,if_pos (by simp only[List.length_cons,List.length_append,List.length_nil];omega),if_pos (by simp;omega),show(⟨#[33]⟩:ByteArray)=bs [33] from rfl,ZaH]
      have e:[33] ++ ([112] ++ Lib.itoa (prp (l.getD i 0)))=litT (l.getD i 0):=by unfold litT;rw[if_pos hneg];rfl
      rw[e];exact hn
     ·rw[if_neg hneg,if_pos (by simp;omega)]
      have e:[112] ++ Lib.itoa (prp (l.getD i 0))=litT (l.getD i 0):=by unfold litT;rw[if_neg hneg];rfl
      rw[e];exact hn) 0 k (Nat.zero_le _) (by omega)
   have:=key [] (by simp) (fun x hx=>by cases hx)
   simpa using this
theorem Zby (l:List Int) (hl:l.length≤1048576) (k:Nat) (hk:2 ^ 66≤k):Zv.f k l=some (bs (labT l)):=by
 unfold Zv.f labT
 rw[Zbj l (by omega) k (by omega),Zh]
 cases hb:labB l with
 | false=>rfl
 | true=>
  have hall:=labB_all' hb
  have h3:=Za9 hb
  rw[if_pos rfl,if_pos rfl]
  by_cases h0:l=[]
  ·subst h0;rfl
  ·rw[if_neg (by cases l with|nil=>exact absurd rfl h0|cons x t=>rw[List.length_cons];omega),if_neg h0]
   have key:=Zat l.length (fun k i=>∀acc:List (List UInt8),acc.length≤i→(∀x∈acc,x.length≤22)→Zv.l0 k (acc.map bs) l (l.length:Int) (i:Int)=some (bs (Lib.join (acc ++ (l.drop i).map litT) [38]))) (2 ^ 65)
    (fun k hk acc ha hx=>by
     simp only[Zv.l0]
     have hj:=joinT_len [38] acc hx
     rw[List.length_singleton] at hj
     rw[if_neg (by omega),List.drop_length,show(⟨#[38]⟩:ByteArray)=bs [38] from rfl,spec_Join_f _ _ (by simp;omega) (by rw[bl_bs,ZaF];omega) k (by omega),bl_bs,ZaF]
     simp)
    (fun k i hk hi ih acc ha hx=>by
     have hlit:=hall _ (Zba hi 0)
     have hp:=Za3 hlit
     have h2:=ZbY (prp (l.getD i 0)) (by omega) (by omega)
     simp only[Zv.l0]
     rw[if_pos (by omega),if_pos (by omega),if_pos (by omega),ZaG,ZbB hlit,Zh,ZaN _ (by omega) (by omega) k (by omega),Zh,ZM,if_pos (by omega),Zag hi 0,show(⟨#[112]⟩:ByteArray)=bs [112] from rfl,ZaH,ZM,Z9 hi (by omega)]
     have hlt:=litT_len hlit
     have hn:=ih (acc ++ [litT (l.getD i 0)]) (by simp;omega) (fun x hx'=>by
      rcases List.mem_append.1 hx' with h|h
      ·exact hx x h
      ·rw[List.mem_singleton] at h;subst h;exact hlt)
     rw[List.append_assoc,List.map_append] at hn
     by_cases hneg:l.getD i 0<0
     ·rw[if_pos hneg,if_pos (by simp only[List.length_cons,List.length_append,List.length_nil];omega),if_pos (by simp;omega),show(⟨#[33]⟩:ByteArray)=bs [33] from rfl,ZaH]
      have e:[33] ++ ([112] ++ Lib.itoa (prp (l.getD i 0)))=litT (l.getD i 0):=by unfold litT;rw[if_pos hneg];rfl
      rw[e];exact hn
     ·rw[if_neg hneg,if_pos (by simp;omega)]
      have e:[112] ++ Lib.itoa (prp (l.getD i 0))=litT (l.getD i 0):=by unfold litT;rw[if_neg hneg];rfl
      rw[e];exact hn) 0 k (Nat.zero_le _) (by omega)
   have:=key [] (by simp) (fun x hx=>by cases hx)
   simpa using this
end Go.Proofs.YthphnhmabieflaaDoor.Pr
namespace Go.Proofs.YthphnhmabieflaaDoor.Pr
open Go.RowKit Go.Proofs.YthphnhmabieflaaDoorW.PrintWords Go.Proofs.YthphnhmabieflaaDoor.Ni
abbrev LNode:=S89
abbrev PNode:=S73
abbrev LTie:=S93
abbrev PTie:=S66
def cvN (x:LNode):PNode:=⟨x.f0,x.f1,x.f2⟩
def cvT (x:LTie):PTie:=⟨x.f0,x.f1,x.f2,x.f3,x.f4⟩
theorem rdN_nat (l:List PNode) (i:Nat):Zay l (i:Int)=l.getD i z73:=by unfold Zay;rw[Int.toNat_natCast]
theorem rdT_nat (l:List PTie) (i:Nat):Zan l (i:Int)=l.getD i z66:=by unfold Zan;rw[Int.toNat_natCast]
theorem rdLN_nat (l:List LNode) (i:Nat):ZaX l (i:Int)=l.getD i z89:=by unfold ZaX;rw[Int.toNat_natCast]
theorem rdLT_nat (l:List LTie) (i:Nat):Za7 l (i:Int)=l.getD i z93:=by unfold Za7;rw[Int.toNat_natCast]
theorem zN:cvN z89=z73:=rfl
theorem zT:cvT z93=z66:=rfl
theorem getD_map {α β:Type} (f:α→β) (l:List α) (i:Nat) (a:α) (b:β) (h:f a=b):(l.map f).getD i b=f (l.getD i a):=by
 subst h
 rw[List.getD_eq_getElem?_getD,List.getD_eq_getElem?_getD,List.getElem?_map]
 cases l[i]? <;> rfl
def SmallShow (ns:List LNode) (ts:List LTie):Prop:=ns.length≤1048576∧ts.length≤1048576∧∀n∈ns,n.f0.size≤1048576∧n.f1.length≤1048576
def SmallP (ns:List PNode) (ts:List PTie):Prop:=ns.length≤1048576∧ts.length≤1048576∧∀n∈ns,n.f0.size≤1048576∧n.f1.length≤1048576
theorem SmallShow.cv {ns:List LNode} {ts:List LTie} (h:SmallShow ns ts):SmallP (ns.map cvN) (ts.map cvT):=by
 refine⟨by simpa using h.1,by simpa using h.2.1,fun n hn=>?_⟩
 obtain⟨m,hm,rfl⟩:=List.mem_map.1 hn
 exact h.2.2 m hm
end Go.Proofs.YthphnhmabieflaaDoor.Pr
namespace Go.Proofs.YthphnhmabieflaaDoor.Pr
open Go.RowKit Go.Proofs.YthphnhmabieflaaDoorW.PrintWords Go.Proofs.YthphnhmabieflaaDoorW.PrintLast Go.Proofs.YthphnhmabieflaaDoorW.PrintMore
attribute [local go_sem] Zal Zaj Zas Zar Zaf Zae Zak Zai
set_option linter.unusedVariables false
set_option linter.unusedSimpArgs false
def ZK.l0:Nat→Int→List (S66)→Int→Int→Option (Int)
 | 0,_,_,_,_=>none
 | k+1,x1,x8,x9,x10=>if x10<x9 then(if 0≤x10 then(if x10<(x8.length:Int) then(if (Zan x8 x10).f4=true then(if ((Zan x8 x10).f1)=x1 then(some x10) else(ZK.l0 k x1 x8 x9 (wrap64 (x10+1)))) else(ZK.l0 k x1 x8 x9 (wrap64 (x10+1)))) else(none)) else(none)) else(some (-1))
def ZK.f (k:Nat) (l0_0:List (S73)) (l0_1:List (S66)) (a0_2:Int) (a1:Int):Option (Int):=ZK.l0 k a1 l0_1 (l0_1.length:Int) 0
set_option maxHeartbeats 8000000 in
set_option maxRecDepth 100000 in
theorem ZK.calls (k:Nat) (A0_0:Option Addr) (c0_0:Nat) (l0_0:List (S73)) (A0_1:Option Addr) (c0_1:Nat) (l0_1:List (S66)) (a0_2:Int) (a1:Int) (r:Int) (w:World) (hr0_0:Kd.C k73 w A0_0 l0_0.length l0_0) (hc0_0:l0_0.length≤c0_0) (hr0_1:Kd.C k66 w A0_1 l0_1.length l0_1) (hc0_1:l0_1.length≤c0_1) (h:ZK.f k l0_0 l0_1 a0_2 a1=some r) :
  Calls Tryd.prog 109 #[.agg #[.slice A0_0 l0_0.length c0_0,.slice A0_1 l0_1.length c0_1,.int .i64 a0_2],.int .i64 a1] w fun e w'=>e=.returned (.int .i64 r)∧Below w.heap.size w w':=by
 have hu36:=Tryd.underlying36
 have hu66:=Tryd.underlying66
 have HR0_0:=Za hr0_0;have HC0_0:=Za hc0_0;clear hr0_0 hc0_0;have HR0_1:=Za hr0_1;have HC0_1:=Za hc0_1;clear hr0_1 hc0_1
 have HB:=Za (Below.refl w.heap.size w)
 have H:(ZK.l0 k a1 l0_1 (l0_1.length:Int) 0)=some r:=h
 clear h
 have H':=Za H
 clear H
 go_enter Tryd.func109,Tryd.ntmps109
 go_wp2_with (first|((with_reducible refine Z5 (N:=2) rfl ?_);refine ZaI ?hg (N:=2) ?hd (cs:=#[.slice A0_0 l0_0.length c0_0,.slice A0_1 l0_1.length c0_1,.int .i64 a0_2]) (t:=36) ?hr ?_;(case hd=>rfl);(case hg=>rfl);(case hr=>first|(go_simp;done)|(go_simp;rfl));intro gb109001 hg w3 hbox hb;have BK109001:=Za (hbox);have GW109001:=Za ((by rw[hg];exact(Zy (by repeat(first|(with_reducible first|exact HB.out|apply Zm|apply Zl|apply Zn)|exact HB.out))):w.heap.size≤gb109001));have GE109001:=Za ((by rw[hg];exact(Zy (by repeat(first|(with_reducible first|exact HB.out|apply Zm|apply Zl|apply Zn)|exact HB.out))):w.heap.size≤gb109001));replace HB:=Za (Zu (by repeat(first|(with_reducible first|exact HB.out|apply Zm|apply Zl|apply Zn)|exact HB.out)) hb);clear hb hbox hg;have hcz4_0:w3.cell? ⟨gb109001,0,none⟩=some (.slice A0_0 l0_0.length c0_0):=(ZR BK109001.out 0).trans rfl;have hcz4_1:w3.cell? ⟨gb109001,1,none⟩=some (.slice A0_1 l0_1.length c0_1):=(ZR BK109001.out 1).trans rfl;have hcz4_2:w3.cell? ⟨gb109001,2,none⟩=some (.int .i64 a0_2):=(ZR BK109001.out 2).trans rfl;have hfz4_0:=ZF BK109001.out 0;have hfz4_1:=ZF BK109001.out 1;have hfz4_2:=ZF BK109001.out 2))
 go_loopg [10] k (fun kq v10 w'=>∃(x10_1:Int),v10=.int .i64 x10_1∧Aside0 (ZK.l0 kq a1 l0_1 (l0_1.length:Int) x10_1=some r)∧Aside0 (kq≤k)∧Aside0 (w'.heap[gb109001]? = some (.cells #[(.slice A0_0 l0_0.length c0_0),(.slice A0_1 l0_1.length c0_1),.int .i64 a0_2] 36 (0,0)))∧Aside0 (Below w.heap.size w w'))
 case atStart=>exact⟨(0),(by first|rfl|(simp;done)|(simp[*];done)),H',⟨Nat.le_refl _⟩,⟨by(with_reducible repeat(first|refine ZD ?_ _|refine ZJ ?_|refine ZE ?_ _));exact BK109001.out⟩,⟨by repeat(first|(with_reducible first|exact HB.out|apply Zm|apply Zl|apply Zn|refine ZH ?_ GE109001.out)|exact HB.out)⟩⟩
 case round=>
  clear H'
  try clear c1
  try clear p2
  try clear hcz4_0
  try clear hcz4_1
  try clear hcz4_2
  try clear hfz4_0
  try clear hfz4_1
  try clear hfz4_2
  obtain⟨x10_1,rfl,HA,HK1,BK109001,HB⟩:=hrel
  cases gk with
  | zero=>exact absurd HA.out (by simp[ZK.l0])
  | succ k1=>
   have H:=HA.out
   clear HA
   simp only[ZK.l0] at H
   by_cases c5:x10_1<(l0_1.length:Int)
   ·rw[if_pos c5] at H
    have c5b0:decide (x10_1<(l0_1.length:Int))=true:=Zd c5
    clear c5
    by_cases c6:0≤x10_1
    ·rw[if_pos c6] at H
     have c6b0:decide (0≤x10_1)=true:=Zd c6
     clear c6
     by_cases c7:x10_1<(l0_1.length:Int)
     ·rw[if_pos c7] at H
      have c7b0:decide (x10_1<(l0_1.length:Int))=true:=Zd c7
      clear c7
      obtain⟨bq8,hbq8⟩:∃b_:Bool,b_=((Zan l0_1 x10_1).f4):=⟨_,rfl⟩
      replace H:(if bq8=true then(if ((Zan l0_1 x10_1).f1)=a1 then(some x10_1) else(ZK.l0 k1 a1 l0_1 (l0_1.length:Int) (wrap64 (x10_1+1)))) else(ZK.l0 k1 a1 l0_1 (l0_1.length:Int) (wrap64 (x10_1+1))))=some r:=by rw[← hbq8] at H;exact H
      have Nbq8:=Za hbq8;clear hbq8
      by_cases c9:bq8=true
      ·subst c9
       have H1:(if ((Zan l0_1 x10_1).f1)=a1 then(some x10_1) else(ZK.l0 k1 a1 l0_1 (l0_1.length:Int) (wrap64 (x10_1+1))))=some r:=by rw[if_pos rfl] at H;exact H
       clear H
       have H:=H1
       clear H1
       by_cases c10:((Zan l0_1 x10_1).f1)=a1
       ·rw[if_pos c10] at H
        have c10b0:(((Zan l0_1 x10_1).f1) == a1)=true:=beq_iff_eq.mpr c10
        have c10b1:(((Zan l0_1 x10_1).f1) != a1)=false:=bne_eq_false_iff_eq.mpr c10
        clear c10
        obtain rfl:=Zf H
        have p109002:0≤(x10_1:Int):=Zc (by first|(with_reducible assumption)|assumption)
        have q109002:x10_1<(l0_1.length:Int):=Zc (by first|(with_reducible assumption)|assumption)
        obtain⟨ad109002,e109002,hx109002_0,hx109002_1,hx109002_2,hx109002_3,hx109002_4⟩:=at_T66 HR0_1.out x10_1 p109002 q109002
        (try rw[← Nbq8.out] at hx109002_4)
        cases e109002
        replace hx109002_0:=(HB.out.cell (Zb w _ hx109002_0)).trans hx109002_0
        replace hx109002_1:=(HB.out.cell (Zb w _ hx109002_1)).trans hx109002_1
        replace hx109002_2:=(HB.out.cell (Zb w _ hx109002_2)).trans hx109002_2
        replace hx109002_3:=(HB.out.cell (Zb w _ hx109002_3)).trans hx109002_3
        replace hx109002_4:=(HB.out.cell (Zb w _ hx109002_4)).trans hx109002_4
        replace p109002:=eq_true p109002
        replace q109002:=eq_true q109002
        go_wp2_with (first|((with_reducible refine Z5 (N:=6) rfl ?_);refine ZaI ?hg (N:=6) ?hd (cs:=#[.int .i64 0,.int .i64 0,.int .i64 0,.int .i64 0,.bool false]) (t:=66) ?hr ?_;(case hd=>rfl);(case hg=>rfl);(case hr=>first|(go_simp;done)|(go_simp;rfl));intro gb109003 hg w11 hbox hb;have BK109003:=Za (hbox);have GW109003:=Za ((by rw[hg];exact(Zy (by repeat(first|(with_reducible first|exact HB.out|apply Zm|apply Zl|apply Zn|refine ZH ?_ GE109001.out)|exact HB.out))):w.heap.size≤gb109003));have GE109003:=Za ((by rw[hg];exact(Zy (by repeat(first|(with_reducible first|exact HB.out|apply Zm|apply Zl|apply Zn|refine ZH ?_ GE109001.out)|exact HB.out))):w.heap.size≤gb109003));have NB109001_109003:=Za ((by rw[hg];exact Nat.ne_of_lt (Zap (g:=gb109001) (o:=.cells #[.slice A0_0 l0_0.length c0_0,.slice (some ad109002) l0_1.length c0_1,.int .i64 a0_2] 36 (0,0)) (by(with_reducible repeat(first|refine ZD ?_ _|refine ZJ ?_|refine ZE ?_ _));exact BK109001.out)):gb109001≠gb109003));have NB109003_109001:=Za ((by rw[hg];exact Nat.ne_of_gt (Zap (g:=gb109001) (o:=.cells #[.slice A0_0 l0_0.length c0_0,.slice (some ad109002) l0_1.length c0_1,.int .i64 a0_2] 36 (0,0)) (by(with_reducible repeat(first|refine ZD ?_ _|refine ZJ ?_|refine ZE ?_ _));exact BK109001.out)):gb109003≠gb109001));replace BK109001:=Za (ZaZ (g:=gb109001) (o:=.cells #[.slice A0_0 l0_0.length c0_0,.slice (some ad109002) l0_1.length c0_1,.int .i64 a0_2] 36 (0,0)) (by(with_reducible repeat(first|refine ZD ?_ _|refine ZJ ?_|refine ZE ?_ _));exact BK109001.out) hb);replace HB:=Za (Zu (by repeat(first|(with_reducible first|exact HB.out|apply Zm|apply Zl|apply Zn|refine ZH ?_ GE109001.out)|exact HB.out)) hb);clear hb hbox hg;have hnb12:=NB109003_109001.out;have hnc12:=NB109001_109003.out;have hcz13_0:w11.cell? ⟨gb109003,0,none⟩=some (.int .i64 0):=(ZR BK109003.out 0).trans rfl;have hcz13_1:w11.cell? ⟨gb109003,1,none⟩=some (.int .i64 0):=(ZR BK109003.out 1).trans rfl;have hcz13_2:w11.cell? ⟨gb109003,2,none⟩=some (.int .i64 0):=(ZR BK109003.out 2).trans rfl;have hcz13_3:w11.cell? ⟨gb109003,3,none⟩=some (.int .i64 0):=(ZR BK109003.out 3).trans rfl;have hcz13_4:w11.cell? ⟨gb109003,4,none⟩=some (.bool false):=(ZR BK109003.out 4).trans rfl;have hfz13_0:=ZF BK109003.out 0;have hfz13_1:=ZF BK109003.out 1;have hfz13_2:=ZF BK109003.out 2;have hfz13_3:=ZF BK109003.out 3;have hfz13_4:=ZF BK109003.out 4))
        go_ret
        exact⟨by first|rfl|(simp[Zr,Zq] <;> rfl)|(simp[*,Zr,Zq] <;> rfl),by repeat(first|(with_reducible first|exact HB.out|apply Zm|apply Zl|apply Zn|refine ZH ?_ GE109001.out|refine ZH ?_ GE109003.out)|exact HB.out)⟩
       ·rw[if_neg c10] at H
        have c10b0:(((Zan l0_1 x10_1).f1) == a1)=false:=beq_eq_false_iff_ne.mpr c10
        have c10b1:(((Zan l0_1 x10_1).f1) != a1)=true:=bne_iff_ne.mpr c10
        have H':=Za H
        clear H
        have p109002:0≤(x10_1:Int):=Zc (by first|(with_reducible assumption)|assumption)
        have q109002:x10_1<(l0_1.length:Int):=Zc (by first|(with_reducible assumption)|assumption)
        obtain⟨ad109002,e109002,hx109002_0,hx109002_1,hx109002_2,hx109002_3,hx109002_4⟩:=at_T66 HR0_1.out x10_1 p109002 q109002
        (try rw[← Nbq8.out] at hx109002_4)
        cases e109002
        replace hx109002_0:=(HB.out.cell (Zb w _ hx109002_0)).trans hx109002_0
        replace hx109002_1:=(HB.out.cell (Zb w _ hx109002_1)).trans hx109002_1
        replace hx109002_2:=(HB.out.cell (Zb w _ hx109002_2)).trans hx109002_2
        replace hx109002_3:=(HB.out.cell (Zb w _ hx109002_3)).trans hx109002_3
        replace hx109002_4:=(HB.out.cell (Zb w _ hx109002_4)).trans hx109002_4
        replace p109002:=eq_true p109002
        replace q109002:=eq_true q109002
        go_wp2_with (first|((with_reducible refine Z5 (N:=6) rfl ?_);refine ZaI ?hg (N:=6) ?hd (cs:=#[.int .i64 0,.int .i64 0,.int .i64 0,.int .i64 0,.bool false]) (t:=66) ?hr ?_;(case hd=>rfl);(case hg=>rfl);(case hr=>first|(go_simp;done)|(go_simp;rfl));intro gb109003 hg w14 hbox hb;have BK109003:=Za (hbox);have GW109003:=Za ((by rw[hg];exact(Zy (by repeat(first|(with_reducible first|exact HB.out|apply Zm|apply Zl|apply Zn|refine ZH ?_ GE109001.out)|exact HB.out))):w.heap.size≤gb109003));have GE109003:=Za ((by rw[hg];exact(Zy (by repeat(first|(with_reducible first|exact HB.out|apply Zm|apply Zl|apply Zn|refine ZH ?_ GE109001.out)|exact HB.out))):w.heap.size≤gb109003));have NB109001_109003:=Za ((by rw[hg];exact Nat.ne_of_lt (Zap (g:=gb109001) (o:=.cells #[.slice A0_0 l0_0.length c0_0,.slice (some ad109002) l0_1.length c0_1,.int .i64 a0_2] 36 (0,0)) (by(with_reducible repeat(first|refine ZD ?_ _|refine ZJ ?_|refine ZE ?_ _));exact BK109001.out)):gb109001≠gb109003));have NB109003_109001:=Za ((by rw[hg];exact Nat.ne_of_gt (Zap (g:=gb109001) (o:=.cells #[.slice A0_0 l0_0.length c0_0,.slice (some ad109002) l0_1.length c0_1,.int .i64 a0_2] 36 (0,0)) (by(with_reducible repeat(first|refine ZD ?_ _|refine ZJ ?_|refine ZE ?_ _));exact BK109001.out)):gb109003≠gb109001));replace BK109001:=Za (ZaZ (g:=gb109001) (o:=.cells #[.slice A0_0 l0_0.length c0_0,.slice (some ad109002) l0_1.length c0_1,.int .i64 a0_2] 36 (0,0)) (by(with_reducible repeat(first|refine ZD ?_ _|refine ZJ ?_|refine ZE ?_ _));exact BK109001.out) hb);replace HB:=Za (Zu (by repeat(first|(with_reducible first|exact HB.out|apply Zm|apply Zl|apply Zn|refine ZH ?_ GE109001.out)|exact HB.out)) hb);clear hb hbox hg;have hnb15:=NB109003_109001.out;have hnc15:=NB109001_109003.out;have hcz16_0:w14.cell? ⟨gb109003,0,none⟩=some (.int .i64 0):=(ZR BK109003.out 0).trans rfl;have hcz16_1:w14.cell? ⟨gb109003,1,none⟩=some (.int .i64 0):=(ZR BK109003.out 1).trans rfl;have hcz16_2:w14.cell? ⟨gb109003,2,none⟩=some (.int .i64 0):=(ZR BK109003.out 2).trans rfl;have hcz16_3:w14.cell? ⟨gb109003,3,none⟩=some (.int .i64 0):=(ZR BK109003.out 3).trans rfl;have hcz16_4:w14.cell? ⟨gb109003,4,none⟩=some (.bool false):=(ZR BK109003.out 4).trans rfl;have hfz16_0:=ZF BK109003.out 0;have hfz16_1:=ZF BK109003.out 1;have hfz16_2:=ZF BK109003.out 2;have hfz16_3:=ZF BK109003.out 3;have hfz16_4:=ZF BK109003.out 4))
        go_roundg k1
        case measure=>have:=HK1.out;omega
        case rel=>exact⟨(wrap64 (x10_1+1)),(by first|rfl|(simp;done)|(simp[*];done)),H',⟨by have:=HK1.out;omega⟩,⟨by(with_reducible repeat(first|refine ZD ?_ _|refine ZJ ?_|refine ZE ?_ _));refine Zau ?_ NB109001_109003.out _;(with_reducible repeat(first|refine ZD ?_ _|refine ZJ ?_|refine ZE ?_ _));refine Zau ?_ NB109001_109003.out _;(with_reducible repeat(first|refine ZD ?_ _|refine ZJ ?_|refine ZE ?_ _));refine Zau ?_ NB109001_109003.out _;(with_reducible repeat(first|refine ZD ?_ _|refine ZJ ?_|refine ZE ?_ _));refine Zau ?_ NB109001_109003.out _;(with_reducible repeat(first|refine ZD ?_ _|refine ZJ ?_|refine ZE ?_ _));refine Zau ?_ NB109001_109003.out _;(with_reducible repeat(first|refine ZD ?_ _|refine ZJ ?_|refine ZE ?_ _));exact BK109001.out⟩,⟨by repeat(first|(with_reducible first|exact HB.out|apply Zm|apply Zl|apply Zn|refine ZH ?_ GE109001.out|refine ZH ?_ GE109003.out)|exact HB.out)⟩⟩
      ·replace c9:=Bool.eq_false_iff.mpr c9
       subst c9
       have H1:(ZK.l0 k1 a1 l0_1 (l0_1.length:Int) (wrap64 (x10_1+1)))=some r:=by rw[if_neg (show ¬(false=true) by decide)] at H;exact H
       clear H
       have H:=H1
       clear H1
       have H':=Za H
       clear H
       have p109002:0≤(x10_1:Int):=Zc (by first|(with_reducible assumption)|assumption)
       have q109002:x10_1<(l0_1.length:Int):=Zc (by first|(with_reducible assumption)|assumption)
       obtain⟨ad109002,e109002,hx109002_0,hx109002_1,hx109002_2,hx109002_3,hx109002_4⟩:=at_T66 HR0_1.out x10_1 p109002 q109002
       (try rw[← Nbq8.out] at hx109002_4)
       cases e109002
       replace hx109002_0:=(HB.out.cell (Zb w _ hx109002_0)).trans hx109002_0
       replace hx109002_1:=(HB.out.cell (Zb w _ hx109002_1)).trans hx109002_1
       replace hx109002_2:=(HB.out.cell (Zb w _ hx109002_2)).trans hx109002_2
       replace hx109002_3:=(HB.out.cell (Zb w _ hx109002_3)).trans hx109002_3
       replace hx109002_4:=(HB.out.cell (Zb w _ hx109002_4)).trans hx109002_4
       replace p109002:=eq_true p109002
       replace q109002:=eq_true q109002
       go_wp2_with (first|((with_reducible refine Z5 (N:=6) rfl ?_);refine ZaI ?hg (N:=6) ?hd (cs:=#[.int .i64 0,.int .i64 0,.int .i64 0,.int .i64 0,.bool false]) (t:=66) ?hr ?_;(case hd=>rfl);(case hg=>rfl);(case hr=>first|(go_simp;done)|(go_simp;rfl));intro gb109003 hg w17 hbox hb;have BK109003:=Za (hbox);have GW109003:=Za ((by rw[hg];exact(Zy (by repeat(first|(with_reducible first|exact HB.out|apply Zm|apply Zl|apply Zn|refine ZH ?_ GE109001.out)|exact HB.out))):w.heap.size≤gb109003));have GE109003:=Za ((by rw[hg];exact(Zy (by repeat(first|(with_reducible first|exact HB.out|apply Zm|apply Zl|apply Zn|refine ZH ?_ GE109001.out)|exact HB.out))):w.heap.size≤gb109003));have NB109001_109003:=Za ((by rw[hg];exact Nat.ne_of_lt (Zap (g:=gb109001) (o:=.cells #[.slice A0_0 l0_0.length c0_0,.slice (some ad109002) l0_1.length c0_1,.int .i64 a0_2] 36 (0,0)) (by(with_reducible repeat(first|refine ZD ?_ _|refine ZJ ?_|refine ZE ?_ _));exact BK109001.out)):gb109001≠gb109003));have NB109003_109001:=Za ((by rw[hg];exact Nat.ne_of_gt (Zap (g:=gb109001) (o:=.cells #[.slice A0_0 l0_0.length c0_0,.slice (some ad109002) l0_1.length c0_1,.int .i64 a0_2] 36 (0,0)) (by(with_reducible repeat(first|refine ZD ?_ _|refine ZJ ?_|refine ZE ?_ _));exact BK109001.out)):gb109003≠gb109001));replace BK109001:=Za (ZaZ (g:=gb109001) (o:=.cells #[.slice A0_0 l0_0.length c0_0,.slice (some ad109002) l0_1.length c0_1,.int .i64 a0_2] 36 (0,0)) (by(with_reducible repeat(first|refine ZD ?_ _|refine ZJ ?_|refine ZE ?_ _));exact BK109001.out) hb);replace HB:=Za (Zu (by repeat(first|(with_reducible first|exact HB.out|apply Zm|apply Zl|apply Zn|refine ZH ?_ GE109001.out)|exact HB.out)) hb);clear hb hbox hg;have hnb18:=NB109003_109001.out;have hnc18:=NB109001_109003.out;have hcz19_0:w17.cell? ⟨gb109003,0,none⟩=some (.int .i64 0):=(ZR BK109003.out 0).trans rfl;have hcz19_1:w17.cell? ⟨gb109003,1,none⟩=some (.int .i64 0):=(ZR BK109003.out 1).trans rfl;have hcz19_2:w17.cell? ⟨gb109003,2,none⟩=some (.int .i64 0):=(ZR BK109003.out 2).trans rfl;have hcz19_3:w17.cell? ⟨gb109003,3,none⟩=some (.int .i64 0):=(ZR BK109003.out 3).trans rfl;have hcz19_4:w17.cell? ⟨gb109003,4,none⟩=some (.bool false):=(ZR BK109003.out 4).trans rfl;have hfz19_0:=ZF BK109003.out 0;have hfz19_1:=ZF BK109003.out 1;have hfz19_2:=ZF BK109003.out 2;have hfz19_3:=ZF BK109003.out 3;have hfz19_4:=ZF BK109003.out 4))
       go_roundg k1
       case measure=>have:=HK1.out;omega
       case rel=>exact⟨(wrap64 (x10_1+1)),(by first|rfl|(simp;done)|(simp[*];done)),H',⟨by have:=HK1.out;omega⟩,⟨by(with_reducible repeat(first|refine ZD ?_ _|refine ZJ ?_|refine ZE ?_ _));refine Zau ?_ NB109001_109003.out _;(with_reducible repeat(first|refine ZD ?_ _|refine ZJ ?_|refine ZE ?_ _));refine Zau ?_ NB109001_109003.out _;(with_reducible repeat(first|refine ZD ?_ _|refine ZJ ?_|refine ZE ?_ _));refine Zau ?_ NB109001_109003.out _;(with_reducible repeat(first|refine ZD ?_ _|refine ZJ ?_|refine ZE ?_ _));refine Zau ?_ NB109001_109003.out _;(with_reducible repeat(first|refine ZD ?_ _|refine ZJ ?_|refine ZE ?_ _));refine Zau ?_ NB109001_109003.out _;(with_reducible repeat(first|refine ZD ?_ _|refine ZJ ?_|refine ZE ?_ _));exact BK109001.out⟩,⟨by repeat(first|(with_reducible first|exact HB.out|apply Zm|apply Zl|apply Zn|refine ZH ?_ GE109001.out|refine ZH ?_ GE109003.out)|exact HB.out)⟩⟩
     ·rw[if_neg c7] at H
      exact absurd H (by simp)
    ·rw[if_neg c6] at H
     exact absurd H (by simp)
   ·rw[if_neg c5] at H
    have c5b0:decide (x10_1<(l0_1.length:Int))=false:=Ze c5
    clear c5
    obtain rfl:=Zf H
    go_wp2
    go_ret
    exact⟨by first|rfl|(simp[Zr,Zq] <;> rfl)|(simp[*,Zr,Zq] <;> rfl),by repeat(first|(with_reducible first|exact HB.out|apply Zm|apply Zl|apply Zn|refine ZH ?_ GE109001.out)|exact HB.out)⟩
def ZQ.l0:Nat→Int→List (S73)→Int→Int→Option (Int)
 | 0,_,_,_,_=>none
 | k+1,x1,x8,x9,x10=>if x10<x9 then(if 0≤x10 then(if x10<(x8.length:Int) then(if ((Zay x8 x10).f2)=x1 then(some x10) else(ZQ.l0 k x1 x8 x9 (wrap64 (x10+1)))) else(none)) else(none)) else(some (-1))
def ZQ.f (k:Nat) (l0_0:List (S73)) (l0_1:List (S66)) (a0_2:Int) (a1:Int):Option (Int):=ZQ.l0 k a1 l0_0 (l0_0.length:Int) 0
set_option maxHeartbeats 8000000 in
set_option maxRecDepth 100000 in
theorem ZQ.calls (k:Nat) (A0_0:Option Addr) (c0_0:Nat) (l0_0:List (S73)) (A0_1:Option Addr) (c0_1:Nat) (l0_1:List (S66)) (a0_2:Int) (a1:Int) (r:Int) (w:World) (hr0_0:Kd.C k73 w A0_0 l0_0.length l0_0) (hc0_0:l0_0.length≤c0_0) (hr0_1:Kd.C k66 w A0_1 l0_1.length l0_1) (hc0_1:l0_1.length≤c0_1) (h:ZQ.f k l0_0 l0_1 a0_2 a1=some r) :
  Calls Tryd.prog 105 #[.agg #[.slice A0_0 l0_0.length c0_0,.slice A0_1 l0_1.length c0_1,.int .i64 a0_2],.int .i64 a1] w fun e w'=>e=.returned (.int .i64 r)∧Below w.heap.size w w':=by
 have hu36:=Tryd.underlying36
 have hu73:=Tryd.underlying73
 have HR0_0:=Za hr0_0;have HC0_0:=Za hc0_0;clear hr0_0 hc0_0;have HR0_1:=Za hr0_1;have HC0_1:=Za hc0_1;clear hr0_1 hc0_1
 have HB:=Za (Below.refl w.heap.size w)
 have H:(ZQ.l0 k a1 l0_0 (l0_0.length:Int) 0)=some r:=h
 clear h
 have H':=Za H
 clear H
 go_enter Tryd.func105,Tryd.ntmps105
 go_wp2_with (first|((with_reducible refine Z5 (N:=2) rfl ?_);refine ZaI ?hg (N:=2) ?hd (cs:=#[.slice A0_0 l0_0.length c0_0,.slice A0_1 l0_1.length c0_1,.int .i64 a0_2]) (t:=36) ?hr ?_;(case hd=>rfl);(case hg=>rfl);(case hr=>first|(go_simp;done)|(go_simp;rfl));intro gb105001 hg w3 hbox hb;have BK105001:=Za (hbox);have GW105001:=Za ((by rw[hg];exact(Zy (by repeat(first|(with_reducible first|exact HB.out|apply Zm|apply Zl|apply Zn)|exact HB.out))):w.heap.size≤gb105001));have GE105001:=Za ((by rw[hg];exact(Zy (by repeat(first|(with_reducible first|exact HB.out|apply Zm|apply Zl|apply Zn)|exact HB.out))):w.heap.size≤gb105001));replace HB:=Za (Zu (by repeat(first|(with_reducible first|exact HB.out|apply Zm|apply Zl|apply Zn)|exact HB.out)) hb);clear hb hbox hg;have hcz4_0:w3.cell? ⟨gb105001,0,none⟩=some (.slice A0_0 l0_0.length c0_0):=(ZR BK105001.out 0).trans rfl;have hcz4_1:w3.cell? ⟨gb105001,1,none⟩=some (.slice A0_1 l0_1.length c0_1):=(ZR BK105001.out 1).trans rfl;have hcz4_2:w3.cell? ⟨gb105001,2,none⟩=some (.int .i64 a0_2):=(ZR BK105001.out 2).trans rfl;have hfz4_0:=ZF BK105001.out 0;have hfz4_1:=ZF BK105001.out 1;have hfz4_2:=ZF BK105001.out 2))
 go_loopg [10] k (fun kq v10 w'=>∃(x10_1:Int),v10=.int .i64 x10_1∧Aside0 (ZQ.l0 kq a1 l0_0 (l0_0.length:Int) x10_1=some r)∧Aside0 (kq≤k)∧Aside0 (w'.heap[gb105001]? = some (.cells #[(.slice A0_0 l0_0.length c0_0),(.slice A0_1 l0_1.length c0_1),.int .i64 a0_2] 36 (0,0)))∧Aside0 (Below w.heap.size w w'))
 case atStart=>exact⟨(0),(by first|rfl|(simp;done)|(simp[*];done)),H',⟨Nat.le_refl _⟩,⟨by(with_reducible repeat(first|refine ZD ?_ _|refine ZJ ?_|refine ZE ?_ _));exact BK105001.out⟩,⟨by repeat(first|(with_reducible first|exact HB.out|apply Zm|apply Zl|apply Zn|refine ZH ?_ GE105001.out)|exact HB.out)⟩⟩
 case round=>
  clear H'
  try clear c1
  try clear p2
  try clear hcz4_0
  try clear hcz4_1
  try clear hcz4_2
  try clear hfz4_0
  try clear hfz4_1
  try clear hfz4_2
  obtain⟨x10_1,rfl,HA,HK1,BK105001,HB⟩:=hrel
  cases gk with
  | zero=>exact absurd HA.out (by simp[ZQ.l0])
  | succ k1=>
   have H:=HA.out
   clear HA
   simp only[ZQ.l0] at H
   by_cases c5:x10_1<(l0_0.length:Int)
   ·rw[if_pos c5] at H
    have c5b0:decide (x10_1<(l0_0.length:Int))=true:=Zd c5
    clear c5
    by_cases c6:0≤x10_1
    ·rw[if_pos c6] at H
     have c6b0:decide (0≤x10_1)=true:=Zd c6
     clear c6
     by_cases c7:x10_1<(l0_0.length:Int)
     ·rw[if_pos c7] at H
      have c7b0:decide (x10_1<(l0_0.length:Int))=true:=Zd c7
      clear c7
      by_cases c8:((Zay l0_0 x10_1).f2)=a1
      ·rw[if_pos c8] at H
       have c8b0:(((Zay l0_0 x10_1).f2) == a1)=true:=beq_iff_eq.mpr c8
       have c8b1:(((Zay l0_0 x10_1).f2) != a1)=false:=bne_eq_false_iff_eq.mpr c8
       clear c8
       obtain rfl:=Zf H
       have p105002:0≤(x10_1:Int):=Zc (by first|(with_reducible assumption)|assumption)
       have q105002:x10_1<(l0_0.length:Int):=Zc (by first|(with_reducible assumption)|assumption)
       obtain⟨ad105002,A105002_1,c105002_1,e105002,hx105002_0,hx105002_1,hx105002_2,hl105002_1,hi105002_1⟩:=at_T73 HR0_0.out x10_1 p105002 q105002
       cases e105002
       replace hx105002_0:=(HB.out.cell (Zb w _ hx105002_0)).trans hx105002_0
       replace hx105002_1:=(HB.out.cell (Zb w _ hx105002_1)).trans hx105002_1
       replace hx105002_2:=(HB.out.cell (Zb w _ hx105002_2)).trans hx105002_2
       have HR105002_1:=Za hi105002_1;have HC105002_1:=Za hl105002_1;clear hi105002_1 hl105002_1
       replace p105002:=eq_true p105002
       replace q105002:=eq_true q105002
       go_wp2_with (first|((with_reducible refine Z5 (N:=6) rfl ?_);refine ZaI ?hg (N:=6) ?hd (cs:=#[.string (⟨#[]⟩:ByteArray),.slice none 0 0,.int .i64 0]) (t:=73) ?hr ?_;(case hd=>rfl);(case hg=>rfl);(case hr=>first|(go_simp;done)|(go_simp;rfl));intro gb105003 hg w9 hbox hb;have BK105003:=Za (hbox);have GW105003:=Za ((by rw[hg];exact(Zy (by repeat(first|(with_reducible first|exact HB.out|apply Zm|apply Zl|apply Zn|refine ZH ?_ GE105001.out)|exact HB.out))):w.heap.size≤gb105003));have GE105003:=Za ((by rw[hg];exact(Zy (by repeat(first|(with_reducible first|exact HB.out|apply Zm|apply Zl|apply Zn|refine ZH ?_ GE105001.out)|exact HB.out))):w.heap.size≤gb105003));have NB105001_105003:=Za ((by rw[hg];exact Nat.ne_of_lt (Zap (g:=gb105001) (o:=.cells #[.slice (some ad105002) l0_0.length c0_0,.slice A0_1 l0_1.length c0_1,.int .i64 a0_2] 36 (0,0)) (by(with_reducible repeat(first|refine ZD ?_ _|refine ZJ ?_|refine ZE ?_ _));exact BK105001.out)):gb105001≠gb105003));have NB105003_105001:=Za ((by rw[hg];exact Nat.ne_of_gt (Zap (g:=gb105001) (o:=.cells #[.slice (some ad105002) l0_0.length c0_0,.slice A0_1 l0_1.length c0_1,.int .i64 a0_2] 36 (0,0)) (by(with_reducible repeat(first|refine ZD ?_ _|refine ZJ ?_|refine ZE ?_ _));exact BK105001.out)):gb105003≠gb105001));replace BK105001:=Za (ZaZ (g:=gb105001) (o:=.cells #[.slice (some ad105002) l0_0.length c0_0,.slice A0_1 l0_1.length c0_1,.int .i64 a0_2] 36 (0,0)) (by(with_reducible repeat(first|refine ZD ?_ _|refine ZJ ?_|refine ZE ?_ _));exact BK105001.out) hb);replace HB:=Za (Zu (by repeat(first|(with_reducible first|exact HB.out|apply Zm|apply Zl|apply Zn|refine ZH ?_ GE105001.out)|exact HB.out)) hb);clear hb hbox hg;have hnb10:=NB105003_105001.out;have hnc10:=NB105001_105003.out;have hcz11_0:w9.cell? ⟨gb105003,0,none⟩=some (.string (⟨#[]⟩:ByteArray)):=(ZR BK105003.out 0).trans rfl;have hcz11_1:w9.cell? ⟨gb105003,1,none⟩=some (.slice none 0 0):=(ZR BK105003.out 1).trans rfl;have hcz11_2:w9.cell? ⟨gb105003,2,none⟩=some (.int .i64 0):=(ZR BK105003.out 2).trans rfl;have hfz11_0:=ZF BK105003.out 0;have hfz11_1:=ZF BK105003.out 1;have hfz11_2:=ZF BK105003.out 2))
       go_ret
       exact⟨by first|rfl|(simp[Zr,Zq] <;> rfl)|(simp[*,Zr,Zq] <;> rfl),by repeat(first|(with_reducible first|exact HB.out|apply Zm|apply Zl|apply Zn|refine ZH ?_ GE105001.out|refine ZH ?_ GE105003.out)|exact HB.out)⟩
      ·rw[if_neg c8] at H
       have c8b0:(((Zay l0_0 x10_1).f2) == a1)=false:=beq_eq_false_iff_ne.mpr c8
       have c8b1:(((Zay l0_0 x10_1).f2) != a1)=true:=bne_iff_ne.mpr c8
       have H':=Za H
       clear H
       have p105002:0≤(x10_1:Int):=Zc (by first|(with_reducible assumption)|assumption)
       have q105002:x10_1<(l0_0.length:Int):=Zc (by first|(with_reducible assumption)|assumption)
       obtain⟨ad105002,A105002_1,c105002_1,e105002,hx105002_0,hx105002_1,hx105002_2,hl105002_1,hi105002_1⟩:=at_T73 HR0_0.out x10_1 p105002 q105002
       cases e105002
       replace hx105002_0:=(HB.out.cell (Zb w _ hx105002_0)).trans hx105002_0
       replace hx105002_1:=(HB.out.cell (Zb w _ hx105002_1)).trans hx105002_1
       replace hx105002_2:=(HB.out.cell (Zb w _ hx105002_2)).trans hx105002_2
       have HR105002_1:=Za hi105002_1;have HC105002_1:=Za hl105002_1;clear hi105002_1 hl105002_1
       replace p105002:=eq_true p105002
       replace q105002:=eq_true q105002
       go_wp2_with (first|((with_reducible refine Z5 (N:=6) rfl ?_);refine ZaI ?hg (N:=6) ?hd (cs:=#[.string (⟨#[]⟩:ByteArray),.slice none 0 0,.int .i64 0]) (t:=73) ?hr ?_;(case hd=>rfl);(case hg=>rfl);(case hr=>first|(go_simp;done)|(go_simp;rfl));intro gb105003 hg w12 hbox hb;have BK105003:=Za (hbox);have GW105003:=Za ((by rw[hg];exact(Zy (by repeat(first|(with_reducible first|exact HB.out|apply Zm|apply Zl|apply Zn|refine ZH ?_ GE105001.out)|exact HB.out))):w.heap.size≤gb105003));have GE105003:=Za ((by rw[hg];exact(Zy (by repeat(first|(with_reducible first|exact HB.out|apply Zm|apply Zl|apply Zn|refine ZH ?_ GE105001.out)|exact HB.out))):w.heap.size≤gb105003));have NB105001_105003:=Za ((by rw[hg];exact Nat.ne_of_lt (Zap (g:=gb105001) (o:=.cells #[.slice (some ad105002) l0_0.length c0_0,.slice A0_1 l0_1.length c0_1,.int .i64 a0_2] 36 (0,0)) (by(with_reducible repeat(first|refine ZD ?_ _|refine ZJ ?_|refine ZE ?_ _));exact BK105001.out)):gb105001≠gb105003));have NB105003_105001:=Za ((by rw[hg];exact Nat.ne_of_gt (Zap (g:=gb105001) (o:=.cells #[.slice (some ad105002) l0_0.length c0_0,.slice A0_1 l0_1.length c0_1,.int .i64 a0_2] 36 (0,0)) (by(with_reducible repeat(first|refine ZD ?_ _|refine ZJ ?_|refine ZE ?_ _));exact BK105001.out)):gb105003≠gb105001));replace BK105001:=Za (ZaZ (g:=gb105001) (o:=.cells #[.slice (some ad105002) l0_0.length c0_0,.slice A0_1 l0_1.length c0_1,.int .i64 a0_2] 36 (0,0)) (by(with_reducible repeat(first|refine ZD ?_ _|refine ZJ ?_|refine ZE ?_ _));exact BK105001.out) hb);replace HB:=Za (Zu (by repeat(first|(with_reducible first|exact HB.out|apply Zm|apply Zl|apply Zn|refine ZH ?_ GE105001.out)|exact HB.out)) hb);clear hb hbox hg;have hnb13:=NB105003_105001.out;have hnc13:=NB105001_105003.out;have hcz14_0:w12.cell? ⟨gb105003,0,none⟩=some (.string (⟨#[]⟩:ByteArray)):=(ZR BK105003.out 0).trans rfl;have hcz14_1:w12.cell? ⟨gb105003,1,none⟩=some (.slice none 0 0):=(ZR BK105003.out 1).trans rfl;have hcz14_2:w12.cell? ⟨gb105003,2,none⟩=some (.int .i64 0):=(ZR BK105003.out 2).trans rfl;have hfz14_0:=ZF BK105003.out 0;have hfz14_1:=ZF BK105003.out 1;have hfz14_2:=ZF BK105003.out 2))
       go_roundg k1
       case measure=>have:=HK1.out;omega
       case rel=>exact⟨(wrap64 (x10_1+1)),(by first|rfl|(simp;done)|(simp[*];done)),H',⟨by have:=HK1.out;omega⟩,⟨by(with_reducible repeat(first|refine ZD ?_ _|refine ZJ ?_|refine ZE ?_ _));refine Zau ?_ NB105001_105003.out _;(with_reducible repeat(first|refine ZD ?_ _|refine ZJ ?_|refine ZE ?_ _));refine Zau ?_ NB105001_105003.out _;(with_reducible repeat(first|refine ZD ?_ _|refine ZJ ?_|refine ZE ?_ _));refine Zau ?_ NB105001_105003.out _;(with_reducible repeat(first|refine ZD ?_ _|refine ZJ ?_|refine ZE ?_ _));exact BK105001.out⟩,⟨by repeat(first|(with_reducible first|exact HB.out|apply Zm|apply Zl|apply Zn|refine ZH ?_ GE105001.out|refine ZH ?_ GE105003.out)|exact HB.out)⟩⟩
     ·rw[if_neg c7] at H
      exact absurd H (by simp)
    ·rw[if_neg c6] at H
     exact absurd H (by simp)
   ·rw[if_neg c5] at H
    have c5b0:decide (x10_1<(l0_0.length:Int))=false:=Ze c5
    clear c5
    obtain rfl:=Zf H
    go_wp2
    go_ret
    exact⟨by first|rfl|(simp[Zr,Zq] <;> rfl)|(simp[*,Zr,Zq] <;> rfl),by repeat(first|(with_reducible first|exact HB.out|apply Zm|apply Zl|apply Zn|refine ZH ?_ GE105001.out)|exact HB.out)⟩
end Go.Proofs.YthphnhmabieflaaDoor.Pr
namespace Go.Proofs.YthphnhmabieflaaDoor.Pr
open Go.RowKit Go.Proofs.YthphnhmabieflaaDoorW.PrintWords Go.Proofs.YthphnhmabieflaaDoor.Ni
def freeI (ts:List PTie) (node:Int):Int:=ZaR (fun t=>t.f4 && decide (t.f1=node)) ts
def watchI (ns:List PNode) (p:Int):Int:=ZaR (fun n=>decide (n.f2=p)) ns
def inB (a b c:Int):Bool:=decide (b≤a) && decide (a≤c)
theorem l01In_f (a b c:Int):Z3.f a b c=some (inB a b c):=by
 unfold Z3.f inB
 by_cases h:a≥b
 ·rw[if_pos h,Zd (show b≤a from h),Bool.true_and]
 ·rw[if_neg h,Ze (show ¬b≤a from h),Bool.false_and]
theorem l08Free_f (ns:List PNode) (ts:List PTie) (z:Int) (node:Int) (hl:ts.length≤9223372036854775807) (k:Nat) (hk:2 ^ 64≤k):ZK.f k ns ts z node=some (freeI ts node):=by
 have key:=Zat ts.length (fun k i=>(∀j y,j<i→ts[j]? = some y→(y.f4 && decide (y.f1=node))=false)→ZK.l0 k node ts ts.length (i:Int)=some (freeI ts node)) 0
  (fun k _ hb=>by
   simp only[ZK.l0]
   rw[if_neg (by omega),freeI,Zcd _ _ hb])
  (fun k i _ hi ih hb=>by
   simp only[ZK.l0]
   have next:((ts.getD i z66).f4 && decide ((ts.getD i z66).f1=node))=false→ZK.l0 k node ts ts.length ((i+1:Nat):Int)=some (freeI ts node):=fun h=>ih (by
    intro j y hj hy
    by_cases e:j=i
    ·subst e
     rw[getD_some hi z66] at hy
     cases hy
     exact h
    ·exact hb j y (by omega) hy)
   rw[if_pos (by omega),if_pos (by omega),if_pos (by omega),rdT_nat,Z9 hi (by omega)]
   by_cases h:(ts.getD i z66).f4=true
   ·rw[if_pos h]
    by_cases h2:(ts.getD i z66).f1=node
    ·rw[if_pos h2,freeI,idxOf_hit _ ts i _ (getD_some hi z66) (by rw[h,Zd h2];rfl) hb]
    ·rw[if_neg h2,next (by rw[Ze h2,Bool.and_false])]
   ·rw[if_neg h,next (by rw[Bool.eq_false_iff.2 h,Bool.false_and])]) 0 k (Nat.zero_le _) (by omega)
 unfold ZK.f
 exact key (fun j y hj=>absurd hj (by omega))
theorem l08Watcher_f (ns:List PNode) (ts:List PTie) (z:Int) (p:Int) (hl:ns.length≤9223372036854775807) (k:Nat) (hk:2 ^ 64≤k):ZQ.f k ns ts z p=some (watchI ns p):=by
 have key:=Zat ns.length (fun k i=>(∀j y,j<i→ns[j]? = some y→decide (y.f2=p)=false)→ZQ.l0 k p ns ns.length (i:Int)=some (watchI ns p)) 0
  (fun k _ hb=>by
   simp only[ZQ.l0]
   rw[if_neg (by omega),watchI,Zcd _ _ hb])
  (fun k i _ hi ih hb=>by
   simp only[ZQ.l0]
   rw[if_pos (by omega),if_pos (by omega),if_pos (by omega),rdN_nat,Z9 hi (by omega)]
   by_cases h:(ns.getD i z73).f2=p
   ·rw[if_pos h,watchI,idxOf_hit _ ns i _ (getD_some hi z73) (Zd h) hb]
   ·rw[if_neg h,ih]
    intro j y hj hy
    by_cases e:j=i
    ·subst e
     rw[getD_some hi z73] at hy
     cases hy
     exact Ze h
    ·exact hb j y (by omega) hy) 0 k (Nat.zero_le _) (by omega)
 unfold ZQ.f
 exact key (fun j y hj=>absurd hj (by omega))
end Go.Proofs.YthphnhmabieflaaDoor.Pr
set_option linter.unusedSimpArgs false
set_option linter.unusedVariables false
namespace Go.Proofs.YthphnhmabieflaaDoor.Pr
open Go.RowKit Go.Proofs.YthphnhmabieflaaDoorW.PrintWords Go.Proofs.YthphnhmabieflaaDoor.Ni
theorem Zca {l:List Int} (h:labB l=false):labT l=[]:=by unfold labT;rw[h];rfl
theorem ZbC (l:List Int) (hl:l.length≤9223372036854775806) (k:Nat) (hk:2 ^ 66≤k):Zx.f k l=some (bs (labT l)):=by
 cases hb:labB l with
 | true=>exact ZbD l (by have:=Za9 hb;omega) k hk
 | false=>
  unfold Zx.f
  rw[Zbn l (by omega) k (by omega),Zh,hb,Zca hb];rfl
def negP (p:List UInt8):Bool:=decide (p.getD 0 0=33)
def Zad (p:List UInt8):List UInt8:=if negP p=true then p.drop 1 else p
def litP (p:List UInt8):Option Int:=
 if (Zad p).length<2∨(Zad p).getD 0 0≠112 then none
 else if (numN ((Zad p).drop 1)).2=true∧1≤(numN ((Zad p).drop 1)).1∧(numN ((Zad p).drop 1)).1≤3 then some (if negP p=true then -(numN ((Zad p).drop 1)).1 else(numN ((Zad p).drop 1)).1) else none
def allP:List (List UInt8)→Option (List Int)
 | []=>some []
 | p :: t=>(litP p).bind fun x=>(allP t).map (x :: ·)
def endP (s:List UInt8) (xs:List Int):List Int×Bool:=if labB xs=true∧labT xs=s then(xs,true) else([],false)
def outP (s:List UInt8) (acc:List Int) (r:Option (List Int)):List Int×Bool:=match r with|none=>([],false)|some xs=>endP s (acc ++ xs)
theorem rdOf_bs (P:List (List UInt8)) (i:Nat) (h:i<P.length):rdOf ByteArray.empty (P.map bs) (i:Int)=bs (P.getD i []):=by
 unfold rdOf
 rw[Int.toNat_natCast,List.getD_eq_getElem?_getD,List.getElem?_map,List.getD_eq_getElem?_getD,Zk h];rfl
theorem ZbJ (p:List UInt8) (i:Nat) (n:Nat) (hn:n<256):((bt (bs p) (i:Int)) == (n:Int))=decide (p.getD i 0=UInt8.ofNat n):=by
 rw[bt_bs,Bool.eq_iff_iff,beq_iff_eq,decide_eq_true_eq]
 have e:(UInt8.ofNat n).toNat=n:=by rw[UInt8.toNat_ofNat'];omega
 constructor
 ·intro h;exact UInt8.toNat_inj.1 (by omega)
 ·intro h;rw[h,e]
theorem ZcH (s:List UInt8) (P:List (List UInt8)) (hP:P.length≤2000000) (hb:∀p∈P,p.length≤1048576):∀(d i:Nat) (acc:List Int) (k:Nat),i+d=P.length→acc.length≤i→2 ^ 68+5 * d<k→(s=[]→allP (P.drop i)=none) →
  Zo.l0 k (bs s) acc (P.map bs) (P.length:Int) (i:Int)=some (outP s acc (allP (P.drop i))):=by
 intro d
 induction d with
 | zero=>
  intro i acc k hi ha hk hs
  obtain⟨m,rfl⟩:∃m,k=m+1:=⟨k - 1,by omega⟩
  rw[List.drop_of_length_le (by omega)] at hs ⊢
  simp only[Zo.l0]
  rw[if_neg (by omega),ZbC acc (by omega) m (by omega),Zh,Zao,Zao]
  show _=some (endP s (acc ++ []))
  rw[List.append_nil]
  unfold endP
  cases hl:labB acc with
  | true=>
   by_cases h:labT acc=s
   ·rw[if_pos h,if_pos ⟨rfl,h⟩]
   ·rw[if_neg h,if_neg (fun e=>h e.2)]
  | false=>
   rw[if_neg,if_neg (fun e=>by cases e.1)]
   rw[Zca hl]
   intro e
   have:=hs e.symm
   cases this
 | succ d ih=>
  intro i acc k hi ha hk hs
  obtain⟨m,rfl⟩:∃m,k=m+1+1+1+1+1:=⟨k - 5,by omega⟩
  have hlt:i<P.length:=by omega
  have hpb:=hb _ (Zba hlt [])
  rw[Zag hlt []] at hs ⊢
  have e0:=ZbJ (P.getD i []) 0 33 (by omega)
  simp only[Zo.l0]
  rw[if_pos (by omega),if_pos (by omega),if_pos (by rw[List.length_map];omega),rdOf_bs P i hlt,ZM]
  generalize P.getD i []=p at *
  have ej:(if (p.length:Int) > 0 then(if 0<(p.length:Int) then Zo.j1 (m+1+1+1+1) (bs s) acc (bs p) ((bt (bs p) 0) == 33) (P.map bs) P.length i else none) else Zo.j1 (m+1+1+1+1) (bs s) acc (bs p) false (P.map bs) P.length i)=Zo.j1 (m+1+1+1+1) (bs s) acc (bs p) (negP p) (P.map bs) P.length i:=by
   by_cases h0:(p.length:Int) > 0
   ·rw[if_pos h0,if_pos (by omega)]
    unfold negP
    exact congrArg (fun x=>Zo.j1 (m+1+1+1+1) (bs s) acc (bs p) x (P.map bs) P.length i) e0
   ·rw[if_neg h0,List.eq_nil_of_length_eq_zero (show p.length=0 by omega)];rfl
  rw[ej]
  simp only[Zo.j1]
  have ej2:(if negP p=true then(if 1≤((bs p).size:Int) then Zo.j2 (m+1+1+1) (bs s) acc ((bs p).extract 1 (bs p).size) (negP p) (P.map bs) P.length i else none) else Zo.j2 (m+1+1+1) (bs s) acc (bs p) (negP p) (P.map bs) P.length i)=Zo.j2 (m+1+1+1) (bs s) acc (bs (Zad p)) (negP p) (P.map bs) P.length i:=by
   unfold Zad
   by_cases h:negP p=true
   ·have hp0:0<p.length:=by
     cases p with
     | nil=>cases h
     | cons x t=>simp
    rw[if_pos h,if_pos h,ZM,if_pos (by omega),ZaS,List.take_of_length_le (by rw[Zj];omega)]
   ·rw[if_neg h,if_neg h]
  rw[ej2]
  simp only[Zo.j2,Zo.j3,Zo.j4]
  have ht:(Zad p).length≤1048576:=by
   unfold Zad
   split
   ·rw[Zj];omega
   ·exact hpb
  rw[allP] at hs ⊢
  unfold litP at hs ⊢
  have e1:(bt (bs (Zad p)) 0 != 112)=decide ((Zad p).getD 0 0≠112):=by
   have:=ZbJ (Zad p) 0 112 (by omega)
   rw[bne,show(bt (bs (Zad p)) 0 == 112)=_ from this]
   simp
  generalize negP p=ng at *
  generalize Zad p=q at *
  rw[ZM,e1]
  by_cases h2:(q.length:Int)<2
  ·rw[if_pos h2,if_pos trivial,if_pos (.inl (by omega))];rfl
  rw[if_neg h2,if_pos (by omega)]
  by_cases h3:q.getD 0 0≠112
  ·rw[Zd h3,if_pos rfl,if_pos (.inr h3)];rfl
  rw[Ze h3,if_neg (by simp),if_pos (by omega),ZaS,List.take_of_length_le (by rw[Zj];omega),Zcc _ (by rw[Zj];omega),Zh]
  rw[if_neg (show ¬(q.length<2∨q.getD 0 0≠112) from fun h=>h.elim (fun h=>h2 (by omega)) h3)] at hs ⊢
  generalize numN (q.drop 1)=r at *
  obtain⟨x,f⟩:=r
  dsimp only at hs ⊢
  cases f with
  | false=>
   have h6:¬(false=true∧1≤x∧x≤3):=fun h=>by cases h.1
   rw[if_neg (by simp),if_pos trivial,if_neg h6];rfl
  | true=>
   rw[if_pos rfl]
   by_cases h4:x<1
   ·have h6:¬(true=true∧1≤x∧x≤3):=fun h=>by omega
    rw[if_pos h4,if_pos trivial,if_neg h6];rfl
   rw[if_neg h4]
   by_cases h5:x > 3
   ·have h6:¬(true=true∧1≤x∧x≤3):=fun h=>by omega
    rw[Zd h5,if_pos rfl,if_neg h6];rfl
   have h6:true=true∧1≤x∧x≤3:=⟨rfl,by omega,by omega⟩
   rw[if_pos h6] at hs ⊢
   rw[Ze h5,if_neg (by simp),Zh,Z4 (i:=-x) (by omega) (by omega),Z9 hlt (by omega)]
   rw[Zh] at hs
   have hs2:s=[]→allP (P.drop (i+1))=none:=fun e=>by
    have:=hs e
    cases h:allP (P.drop (i+1)) with
    | none=>rfl
    | some y=>rw[h] at this;cases this
   have hfin:∀y:Int,some (outP s (acc ++ [y]) (allP (P.drop (i+1))))=some (outP s acc ((allP (P.drop (i+1))).map (y :: ·))):=fun y=>by
    cases allP (P.drop (i+1)) with
    | none=>rfl
    | some ys=>
     show some (endP s ((acc ++ [y]) ++ ys))=some (endP s (acc ++ (y :: ys)))
     rw[List.append_assoc];rfl
   cases ng with
   | true=>
    rw[if_pos rfl,if_pos (by omega),ih (i+1) (acc ++ [-x]) _ (by omega) (by simp;omega) (by omega) hs2,hfin];rfl
   | false=>
    rw[if_neg (by simp),if_pos (by omega),ih (i+1) (acc ++ [x]) _ (by omega) (by simp;omega) (by omega) hs2,hfin];rfl
theorem ZcF (s:List UInt8) (P:List (List UInt8)) (hP:P.length≤2000000) (hb:∀p∈P,p.length≤1048576):∀(d i:Nat) (acc:List Int) (k:Nat),i+d=P.length→acc.length≤i→2 ^ 68+5 * d<k →
  Zp.l0 k (bs s) acc (P.map bs) (P.length:Int) (i:Int)=some (outP s acc (allP (P.drop i))):=by
 intro d
 induction d with
 | zero=>
  intro i acc k hi ha hk
  obtain⟨m,rfl⟩:∃m,k=m+1:=⟨k - 1,by omega⟩
  rw[List.drop_of_length_le (by omega)]
  simp only[Zp.l0]
  rw[if_neg (by omega),Zbj acc (by omega) m (by omega),Zh]
  show _=some (endP s (acc ++ []))
  rw[List.append_nil]
  unfold endP
  cases hl:labB acc with
  | true=>
   have h3:=Za9 hl
   rw[if_pos rfl,Zby acc (by omega) m (by omega),Zh,Zao,Zao]
   by_cases h:labT acc=s
   ·rw[if_pos h,if_pos ⟨rfl,h⟩]
   ·rw[if_neg h,if_neg (fun e=>h e.2)]
  | false=>rw[if_neg (by simp),if_neg (fun e=>by cases e.1)]
 | succ d ih=>
  intro i acc k hi ha hk
  obtain⟨m,rfl⟩:∃m,k=m+1+1+1+1:=⟨k - 4,by omega⟩
  have hlt:i<P.length:=by omega
  have hpb:=hb _ (Zba hlt [])
  rw[Zag hlt []]
  have e0:=ZbJ (P.getD i []) 0 33 (by omega)
  simp only[Zp.l0]
  rw[if_pos (by omega),if_pos (by omega),if_pos (by rw[List.length_map];omega),rdOf_bs P i hlt,ZM]
  generalize P.getD i []=p at *
  have ej:(if (p.length:Int) > 0 then(if 0<(p.length:Int) then Zp.j1 (m+1+1+1) (bs s) acc (bs p) 1 (P.map bs) P.length i ((bt (bs p) 0) == 33) else none) else Zp.j1 (m+1+1+1) (bs s) acc (bs p) 1 (P.map bs) P.length i false)=Zp.j1 (m+1+1+1) (bs s) acc (bs p) 1 (P.map bs) P.length i (negP p):=by
   by_cases h0:(p.length:Int) > 0
   ·rw[if_pos h0,if_pos (by omega)]
    unfold negP
    exact congrArg (fun x=>Zp.j1 (m+1+1+1) (bs s) acc (bs p) 1 (P.map bs) P.length i x) e0
   ·rw[if_neg h0,List.eq_nil_of_length_eq_zero (show p.length=0 by omega)];rfl
  rw[ej]
  simp only[Zp.j1]
  have ej2:(if negP p=true then(if 1≤((bs p).size:Int) then Zp.j2 (m+1+1) (bs s) acc ((bs p).extract 1 (bs p).size) (-1) (P.map bs) P.length i else none) else Zp.j2 (m+1+1) (bs s) acc (bs p) 1 (P.map bs) P.length i)=Zp.j2 (m+1+1) (bs s) acc (bs (Zad p)) (if negP p=true then -1 else 1) (P.map bs) P.length i:=by
   unfold Zad
   by_cases h:negP p=true
   ·have hp0:0<p.length:=by
     cases p with
     | nil=>cases h
     | cons x t=>simp
    rw[if_pos h,if_pos h,if_pos h,ZM,if_pos (by omega),ZaS,List.take_of_length_le (by rw[Zj];omega)]
   ·rw[if_neg h,if_neg h,if_neg h]
  rw[ej2]
  simp only[Zp.j2,Zp.j3]
  have ht:(Zad p).length≤1048576:=by
   unfold Zad
   split
   ·rw[Zj];omega
   ·exact hpb
  rw[allP]
  unfold litP
  have e1:(bt (bs (Zad p)) 0 != 112)=decide ((Zad p).getD 0 0≠112):=by
   have:=ZbJ (Zad p) 0 112 (by omega)
   rw[bne,show(bt (bs (Zad p)) 0 == 112)=_ from this]
   simp
  generalize negP p=ng at *
  generalize Zad p=q at *
  rw[ZM,e1]
  by_cases h2:(q.length:Int)<2
  ·rw[if_pos h2,if_pos trivial,if_pos (.inl (by omega))];rfl
  rw[if_neg h2,if_pos (by omega)]
  by_cases h3:q.getD 0 0≠112
  ·rw[Zd h3,if_pos rfl,if_pos (.inr h3)];rfl
  rw[Ze h3,if_neg (by simp),if_pos (by omega),ZaS,List.take_of_length_le (by rw[Zj];omega),Zb5 _ (by rw[Zj];omega) m (by omega),Zh]
  rw[if_neg (show ¬(q.length<2∨q.getD 0 0≠112) from fun h=>h.elim (fun h=>h2 (by omega)) h3)]
  generalize numN (q.drop 1)=r at *
  obtain⟨x,f⟩:=r
  dsimp only
  cases f with
  | false=>
   have h6:¬(false=true∧1≤x∧x≤3):=fun h=>by cases h.1
   rw[if_neg (by simp),if_neg h6];rfl
  | true=>
   rw[if_pos rfl,l01In_f,Zh]
   unfold inB
   by_cases h4:1≤x∧x≤3
   ·have h6:true=true∧1≤x∧x≤3:=⟨rfl,h4.1,h4.2⟩
    rw[Zd h4.1,Zd h4.2,if_pos (by rfl),if_pos h6,if_pos (by omega),Zh,Z9 hlt (by omega)]
    have hfin:∀y:Int,some (outP s (acc ++ [y]) (allP (P.drop (i+1))))=some (outP s acc ((allP (P.drop (i+1))).map (y :: ·))):=fun y=>by
     cases allP (P.drop (i+1)) with
     | none=>rfl
     | some ys=>
      show some (endP s ((acc ++ [y]) ++ ys))=some (endP s (acc ++ (y :: ys)))
      rw[List.append_assoc];rfl
    cases ng with
    | true=>
     simp only[if_true]
     rw[Z4 (i:=-1 * x) (by omega) (by omega),show -1 * x = -x by omega,ih (i+1) (acc ++ [-x]) _ (by omega) (by simp;omega) (by omega),hfin]
    | false=>
     simp only[Bool.false_eq_true,if_false]
     rw[Z4 (i:=1 * x) (by omega) (by omega),show 1 * x=x by omega,ih (i+1) (acc ++ [x]) _ (by omega) (by simp;omega) (by omega),hfin]
   ·have h6:¬(true=true∧1≤x∧x≤3):=fun h=>h4 h.2
    rw[if_neg (by simp;omega),if_neg h6];rfl
def Zbm (s:List UInt8):List Int×Bool:=if s=[45] then([],true) else outP s [] (allP (ZaC 38 s))
theorem ZbO (s:List UInt8) (hs:s.length≤1048576) (k:Nat) (hk:2 ^ 69≤k):Zo.f k (bs s)=some (Zbm s):=by
 unfold Zo.f Zbm
 rw[Zao]
 by_cases h:s=[45]
 ·rw[if_pos h,if_pos h]
 ·have hl:=ZbH 38 s s.length 0 0
  rw[if_neg h,if_neg h,show(⟨#[38]⟩:ByteArray)=bs [38] from rfl,Zcb 38 s hs k (by omega),Zh,List.length_map]
  exact ZcH s (ZaC 38 s) (by unfold ZaC;omega) (fun p hp=>Nat.le_trans (pcs_bd 38 s _ _ _ p hp) hs) (ZaC 38 s).length 0 [] k (by omega) (by simp) (by unfold ZaC;omega) (fun e=>by subst e;rfl)
theorem ZbN (s:List UInt8) (hs:s.length≤1048576) (k:Nat) (hk:2 ^ 69≤k):Zp.f k (bs s)=some (Zbm s):=by
 unfold Zp.f Zbm
 rw[Zao,Zh]
 by_cases h:s=[45]
 ·rw[if_pos h,if_pos h]
 ·have hl:=ZbH 38 s s.length 0 0
  rw[if_neg h,if_neg h,show(⟨#[38]⟩:ByteArray)=bs [38] from rfl,Zb4 38 s hs k (by omega),Zh,List.length_map]
  exact ZcF s (ZaC 38 s) (by unfold ZaC;omega) (fun p hp=>Nat.le_trans (pcs_bd 38 s _ _ _ p hp) hs) (ZaC 38 s).length 0 [] k (by omega) (by simp) (by unfold ZaC;omega)
theorem parseL_len (s:List UInt8):(Zbm s).1.length≤3:=by
 unfold Zbm
 split
 ·simp
 ·cases allP (ZaC 38 s) with
  | none=>simp[outP]
  | some xs=>
   show(endP s ([] ++ xs)).1.length≤3
   rw[List.nil_append]
   unfold endP
   split
   ·rename_i h;exact Za9 h.1
   ·simp
end Go.Proofs.YthphnhmabieflaaDoor.Pr
