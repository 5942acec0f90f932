/- The texts of one claim, put together by a program of this session. -/
import Derived.Test.YtodfnelilhjoeaaBSnc1x1
import Derived.Test.YtodfnelilhjoeaaBSnc1x10
import Derived.Test.YtodfnelilhjoeaaBSnc1x2
import Derived.Test.YtodfnelilhjoeaaBSnc1x3
import Derived.Test.YtodfnelilhjoeaaBSnc1x7
import Derived.Test.YtodfnelilhjoeaaBSnc1x8
import Derived.Test.YtodfnelilhjoeaaBSnc1x9
namespace Go.Proofs.Ytodfnelilhjoeaa.Pr
open Go.RowKit Go.Proofs.YtodfnelilhjoeaaW.PrintWords Go.Proofs.YtodfnelilhjoeaaW.PrintLast Go.Proofs.YtodfnelilhjoeaaW.PrintMore
attribute [local go_sem] Zac Zaa Zam Zal Z5 Z4 Zab Z9
set_option linter.unusedVariables false
set_option linter.unusedSimpArgs false
mutual
def Z2.j0:Nat→Bool→List (S116)→List (S90)→Int→Option (Bool)
 | 0,_,_,_,_=>none
 | k+1,x18,x66002000,x66002001,x66002002=>if x18=true then(some false) else(Z2.l0 k (x66002001.length:Int) 0 x66002000 x66002001 x66002002)
def Z2.l0:Nat→Int→Int→List (S116)→List (S90)→Int→Option (Bool)
 | 0,_,_,_,_,_=>none
 | k+1,x21,x22,x66002000,x66002001,x66002002=>if x22<x21 then((ZbK.f x66002000 x66002001 x66002002 x22).bind fun t66004=>(if t66004=true then(Z2.l0 k x21 (wrap64 (x22+1)) x66002000 x66002001 x66002002) else(some false))) else(some true)
end
def Z2.f (k:Nat) (l0_0:List (S116)) (l0_1:List (S90)) (a0_2:Int):Option (Bool):=(Za4.f l0_0 l0_1 a0_2).bind fun t66002=>(if t66002=true then(if (l0_1.length:Int) > 14 then(Z2.j0 k true l0_0 l0_1 a0_2) else((ZW.f a0_2 1 10).bind fun t66003=>(Z2.j0 k (!t66003) l0_0 l0_1 a0_2))) else(Z2.j0 k true l0_0 l0_1 a0_2))
set_option maxHeartbeats 8000000 in
set_option maxRecDepth 100000 in
theorem Z2.calls (k:Nat) (A0_0:Option Addr) (c0_0:Nat) (l0_0:List (S116)) (A0_1:Option Addr) (c0_1:Nat) (l0_1:List (S90)) (a0_2:Int) (r:Bool) (w:World) (hr0_0:Kd.C k116 w A0_0 l0_0.length l0_0) (hc0_0:l0_0.length≤c0_0) (hr0_1:Kd.C k90 w A0_1 l0_1.length l0_1) (hc0_1:l0_1.length≤c0_1) (h:Z2.f k l0_0 l0_1 a0_2=some r) :
  Calls Try.prog 66 #[.agg #[.slice A0_0 l0_0.length c0_0,.slice A0_1 l0_1.length c0_1,.int .i64 a0_2]] w fun e w'=>e=.returned (.bool r)∧Below w.heap.size w w':=by
 have hu35:=Try.underlying35
 have HR0_0:=Za hr0_0;have HC0_0:=Za hc0_0;clear hr0_0 hc0_0;have HR0_1:=Za hr0_1;have HC0_1:=Za hc0_1;clear hr0_1 hc0_1
 have HB:=Za (Below.refl w.heap.size w)
 have H:((Za4.f l0_0 l0_1 a0_2).bind fun t66002=>(if t66002=true then(if (l0_1.length:Int) > 14 then(Z2.j0 k true l0_0 l0_1 a0_2) else((ZW.f a0_2 1 10).bind fun t66003=>(Z2.j0 k (!t66003) l0_0 l0_1 a0_2))) else(Z2.j0 k true l0_0 l0_1 a0_2)))=some r:=h
 clear h;have HC2:=Za H;clear H
 go_enter Try.func66,Try.ntmps66
 go_upto_region 1 with (first|((with_reducible refine ZI (N:=1) rfl ?_);(try(refine Zbe (by rfl) ?_;dsimp only));refine ZH ?hg (N:=1) ?hd (cs:=#[.slice A0_0 l0_0.length c0_0,.slice A0_1 l0_1.length c0_1,.int .i64 a0_2]) (t:=35) ?hr ?_;(case hd=>rfl);(case hg=>rfl);(case hr=>first|(go_simp;done)|(go_simp;rfl));intro gb66001 hg w3 hbox hb;have BK66001:=Za (hbox);have GW66001:=Za ((by rw[hg];exact(Zx (by exact HB.out)):w.heap.size≤gb66001));have GE66001:=Za ((by rw[hg];exact(Zx (by exact HB.out)):w.heap.size≤gb66001));replace HB:=Za (Zw (by exact HB.out) hb);clear hb hbox hg))
 (try simp only[Act.put,List.setIfInBounds_toArray,List.set_cons_zero,List.set_cons_succ])
 go_cut [18] (fun v18 wc=>∃(kq:Nat) (x18_1:Bool),v18=.bool x18_1∧Aside0 (Z2.j0 kq x18_1 l0_0 l0_1 a0_2=some r)∧Aside0 (kq≤k)∧Aside0 (wc.heap[gb66001]? = some (.cells #[(.slice A0_0 l0_0.length c0_0),(.slice A0_1 l0_1.length c0_1),.int .i64 a0_2] 35 (0,0)))∧Aside0 (Below w.heap.size w wc))
 case first=>
  have H:=HC2.out
  clear HC2
  replace H:=Zh H
  obtain⟨t66002,A40,H⟩:=H;have A4:=Za A40;clear A40
  by_cases c5:t66002=true
  ·subst c5
   rw[if_pos rfl] at H
   by_cases c6:(l0_1.length:Int) > 14
   ·rw[if_pos c6] at H
    have c6b0:decide (14<(l0_1.length:Int))=true:=Ze c6
    clear c6
    have H':=Za H
    clear H
    have hcz7_0:w3.cell? ⟨gb66001,0,none⟩=some (.slice A0_0 l0_0.length c0_0):=(Zs BK66001.out 0).trans rfl
    have hcz7_1:w3.cell? ⟨gb66001,1,none⟩=some (.slice A0_1 l0_1.length c0_1):=(Zs BK66001.out 1).trans rfl
    have hcz7_2:w3.cell? ⟨gb66001,2,none⟩=some (.int .i64 a0_2):=(Zs BK66001.out 2).trans rfl
    go_wp2_with (first|((with_reducible refine ZG (f:=117) rfl ?_);refine ZQ (some 5) rfl rfl Try.func117 (by kernel_rfl) rfl #[.agg #[.slice A0_0 l0_0.length c0_0,.slice A0_1 l0_1.length c0_1,.int .i64 a0_2]] rfl (by(try simp only[List.map_toArray,List.map_cons,List.map_nil]);first|done|rfl|(simp only[Zk,Zj];rfl)) ?_;(with_reducible refine(Za4.calls _ _ l0_0 _ _ l0_1 a0_2 true _ ?side1 ?side2 ?side3 ?side4 A4.out).mono ?_);(case side1=>exact(Zb HR0_0.out HB.out));(case side2=>exact HC0_0.out);(case side3=>exact(Zb HR0_1.out HB.out));(case side4=>exact HC0_1.out);rintro e w8 ⟨rfl,hb⟩;refine⟨_,rfl,?_⟩;replace BK66001:=Za (Zy BK66001.out hb);replace HB:=Za (Zw (by exact HB.out) hb);have hcz9_0:w8.cell? ⟨gb66001,0,none⟩=some (.slice A0_0 l0_0.length c0_0):=(Zs BK66001.out 0).trans rfl;have hcz9_1:w8.cell? ⟨gb66001,1,none⟩=some (.slice A0_1 l0_1.length c0_1):=(Zs BK66001.out 1).trans rfl;have hcz9_2:w8.cell? ⟨gb66001,2,none⟩=some (.int .i64 a0_2):=(Zs BK66001.out 2).trans rfl))
    go_meet
    case rel=>exact⟨_,(true),(by first|rfl|(simp;done)|(simp[*];done)),H',⟨by first|omega|exact Nat.le_refl _⟩,⟨by(with_reducible repeat(first|refine Zp ?_ _|refine Zu ?_|refine Zo ?_ _));exact BK66001.out⟩,⟨by repeat(first|(with_reducible first|exact HB.out|apply Zn|apply Zm|apply Zt|refine Zq ?_ GE66001.out)|exact HB.out)⟩⟩
   ·rw[if_neg c6] at H
    have c6b0:decide (14<(l0_1.length:Int))=false:=Zf c6
    clear c6
    replace H:=Zh H
    obtain⟨t66003,A100,H⟩:=H;have A10:=Za A100;clear A100
    have H':=Za H
    clear H
    have hcz11_0:w3.cell? ⟨gb66001,0,none⟩=some (.slice A0_0 l0_0.length c0_0):=(Zs BK66001.out 0).trans rfl
    have hcz11_1:w3.cell? ⟨gb66001,1,none⟩=some (.slice A0_1 l0_1.length c0_1):=(Zs BK66001.out 1).trans rfl
    have hcz11_2:w3.cell? ⟨gb66001,2,none⟩=some (.int .i64 a0_2):=(Zs BK66001.out 2).trans rfl
    go_wp2_with (first|((with_reducible refine ZG (f:=117) rfl ?_);refine ZQ (some 5) rfl rfl Try.func117 (by kernel_rfl) rfl #[.agg #[.slice A0_0 l0_0.length c0_0,.slice A0_1 l0_1.length c0_1,.int .i64 a0_2]] rfl (by(try simp only[List.map_toArray,List.map_cons,List.map_nil]);first|done|rfl|(simp only[Zk,Zj];rfl)) ?_;(with_reducible refine(Za4.calls _ _ l0_0 _ _ l0_1 a0_2 true _ ?side1 ?side2 ?side3 ?side4 A4.out).mono ?_);(case side1=>exact(Zb HR0_0.out HB.out));(case side2=>exact HC0_0.out);(case side3=>exact(Zb HR0_1.out HB.out));(case side4=>exact HC0_1.out);rintro e w12 ⟨rfl,hb⟩;refine⟨_,rfl,?_⟩;replace BK66001:=Za (Zy BK66001.out hb);replace HB:=Za (Zw (by exact HB.out) hb);have hcz13_0:w12.cell? ⟨gb66001,0,none⟩=some (.slice A0_0 l0_0.length c0_0):=(Zs BK66001.out 0).trans rfl;have hcz13_1:w12.cell? ⟨gb66001,1,none⟩=some (.slice A0_1 l0_1.length c0_1):=(Zs BK66001.out 1).trans rfl;have hcz13_2:w12.cell? ⟨gb66001,2,none⟩=some (.int .i64 a0_2):=(Zs BK66001.out 2).trans rfl)|(go_at_call 68;(with_reducible refine(ZW.calls a0_2 1 10 t66003 _ A10.out).mono ?_);rintro e w' ⟨rfl,⟨nd,rfl⟩⟩))
    go_meet
    case rel=>exact⟨_,(!t66003),(by first|rfl|(simp;done)|(simp[*];done)),H',⟨by first|omega|exact Nat.le_refl _⟩,⟨by(with_reducible repeat(first|refine Zp ?_ _|refine Zu ?_|refine Zo ?_ _));exact BK66001.out⟩,⟨by repeat(first|(with_reducible first|exact HB.out|apply Zn|apply Zm|apply Zt|refine Zq ?_ GE66001.out)|exact HB.out)⟩⟩
  ·replace c5:=Bool.eq_false_iff.mpr c5
   subst c5
   have H1:(Z2.j0 k true l0_0 l0_1 a0_2)=some r:=by rw[if_neg (show ¬(false=true) by decide)] at H;exact H
   clear H
   have H:=H1
   clear H1
   have H':=Za H
   clear H
   have hcz14_0:w3.cell? ⟨gb66001,0,none⟩=some (.slice A0_0 l0_0.length c0_0):=(Zs BK66001.out 0).trans rfl
   have hcz14_1:w3.cell? ⟨gb66001,1,none⟩=some (.slice A0_1 l0_1.length c0_1):=(Zs BK66001.out 1).trans rfl
   have hcz14_2:w3.cell? ⟨gb66001,2,none⟩=some (.int .i64 a0_2):=(Zs BK66001.out 2).trans rfl
   go_wp2_with (first|((with_reducible refine ZG (f:=117) rfl ?_);refine ZQ (some 5) rfl rfl Try.func117 (by kernel_rfl) rfl #[.agg #[.slice A0_0 l0_0.length c0_0,.slice A0_1 l0_1.length c0_1,.int .i64 a0_2]] rfl (by(try simp only[List.map_toArray,List.map_cons,List.map_nil]);first|done|rfl|(simp only[Zk,Zj];rfl)) ?_;(with_reducible refine(Za4.calls _ _ l0_0 _ _ l0_1 a0_2 false _ ?side1 ?side2 ?side3 ?side4 A4.out).mono ?_);(case side1=>exact(Zb HR0_0.out HB.out));(case side2=>exact HC0_0.out);(case side3=>exact(Zb HR0_1.out HB.out));(case side4=>exact HC0_1.out);rintro e w15 ⟨rfl,hb⟩;refine⟨_,rfl,?_⟩;replace BK66001:=Za (Zy BK66001.out hb);replace HB:=Za (Zw (by exact HB.out) hb);(try clear hi)))
   go_meet
   case rel=>exact⟨_,(true),(by first|rfl|(simp;done)|(simp[*];done)),H',⟨by first|omega|exact Nat.le_refl _⟩,⟨by(with_reducible repeat(first|refine Zp ?_ _|refine Zu ?_|refine Zo ?_ _));exact BK66001.out⟩,⟨by repeat(first|(with_reducible first|exact HB.out|apply Zn|apply Zm|apply Zt|refine Zq ?_ GE66001.out)|exact HB.out)⟩⟩
 case rest=>
  clear HC2
  try clear c1
  try clear p2
  try clear c5
  try clear c6
  try clear c6b0
  try clear c6b1
  try clear c11
  obtain⟨kq,x18_1,rfl,HA,HJ1,BK66001,HB⟩:=hcut
  cases kq with
  | zero=>exact absurd HA.out (by simp[Z2.j0])
  | succ kj1=>
   have H:=HA.out
   clear HA
   simp only[Z2.j0] at H
   by_cases c16:x18_1=true
   ·subst c16
    rw[if_pos rfl] at H
    obtain rfl:=Zg H
    go_wp2
    go_ret
    exact⟨by first|rfl|(simp[ZB,ZA] <;> rfl)|(simp[*,ZB,ZA] <;> rfl),by repeat(first|(with_reducible first|exact HB.out|apply Zn|apply Zm|apply Zt|refine Zq ?_ GE66001.out)|exact HB.out)⟩
   ·replace c16:=Bool.eq_false_iff.mpr c16
    subst c16
    have H1:(Z2.l0 kj1 (l0_1.length:Int) 0 l0_0 l0_1 a0_2)=some r:=by rw[if_neg (show ¬(false=true) by decide)] at H;exact H
    clear H
    have H:=H1
    clear H1
    have H':=Za H
    clear H
    have hcz17_0:wc.cell? ⟨gb66001,0,none⟩=some (.slice A0_0 l0_0.length c0_0):=(Zs BK66001.out 0).trans rfl
    have hcz17_1:wc.cell? ⟨gb66001,1,none⟩=some (.slice A0_1 l0_1.length c0_1):=(Zs BK66001.out 1).trans rfl
    have hcz17_2:wc.cell? ⟨gb66001,2,none⟩=some (.int .i64 a0_2):=(Zs BK66001.out 2).trans rfl
    go_wp2
    go_loopg [22] kj1 (fun kq v22 w'=>∃(x22_2:Int),v22=.int .i64 x22_2∧Aside0 (Z2.l0 kq (l0_1.length:Int) x22_2 l0_0 l0_1 a0_2=some r)∧Aside0 (kq≤kj1)∧Aside0 (w'.heap[gb66001]? = some (.cells #[(.slice A0_0 l0_0.length c0_0),(.slice A0_1 l0_1.length c0_1),.int .i64 a0_2] 35 (0,0)))∧Aside0 (Below w.heap.size w w'))
    case atStart=>exact⟨(0),(by first|rfl|(simp;done)|(simp[*];done)),H',⟨Nat.le_refl _⟩,⟨by(with_reducible repeat(first|refine Zp ?_ _|refine Zu ?_|refine Zo ?_ _));exact BK66001.out⟩,⟨by repeat(first|(with_reducible first|exact HB.out|apply Zn|apply Zm|apply Zt|refine Zq ?_ GE66001.out)|exact HB.out)⟩⟩
    case round=>
     clear H'
     try clear c1
     try clear p2
     try clear c5
     try clear c6
     try clear c6b0
     try clear c6b1
     try clear c11
     try clear c16
     try clear p2
     obtain⟨x22_2,rfl,HA,HK2,BK66001,HB⟩:=hrel
     cases gk with
     | zero=>exact absurd HA.out (by simp[Z2.l0])
     | succ k2=>
      have H:=HA.out
      clear HA
      simp only[Z2.l0] at H
      by_cases c18:x22_2<(l0_1.length:Int)
      ·rw[if_pos c18] at H
       have c18b0:decide (x22_2<(l0_1.length:Int))=true:=Ze c18
       clear c18
       replace H:=Zh H
       obtain⟨t66004,A190,H⟩:=H;have A19:=Za A190;clear A190
       by_cases c20:t66004=true
       ·subst c20
        rw[if_pos rfl] at H
        have H':=Za H
        clear H
        have hcz21_0:wr.cell? ⟨gb66001,0,none⟩=some (.slice A0_0 l0_0.length c0_0):=(Zs BK66001.out 0).trans rfl
        have hcz21_1:wr.cell? ⟨gb66001,1,none⟩=some (.slice A0_1 l0_1.length c0_1):=(Zs BK66001.out 1).trans rfl
        have hcz21_2:wr.cell? ⟨gb66001,2,none⟩=some (.int .i64 a0_2):=(Zs BK66001.out 2).trans rfl
        go_wp2_with (first|((with_reducible refine ZG (f:=118) rfl ?_);refine ZQ (some 27) rfl rfl Try.func118 (by kernel_rfl) rfl #[.agg #[.slice A0_0 l0_0.length c0_0,.slice A0_1 l0_1.length c0_1,.int .i64 a0_2],.int .i64 x22_2] rfl (by(try simp only[List.map_toArray,List.map_cons,List.map_nil]);first|done|rfl|(simp only[Zk,Zj];rfl)) ?_;(with_reducible refine(ZbK.calls _ _ l0_0 _ _ l0_1 a0_2 x22_2 true _ ?side1 ?side2 ?side3 ?side4 A19.out).mono ?_);(case side1=>exact(Zb HR0_0.out HB.out));(case side2=>exact HC0_0.out);(case side3=>exact(Zb HR0_1.out HB.out));(case side4=>exact HC0_1.out);rintro e w22 ⟨rfl,hb⟩;refine⟨_,rfl,?_⟩;replace BK66001:=Za (Zy BK66001.out hb);replace HB:=Za (Zw (by exact HB.out) hb);(try clear hi)))
        go_roundg k2
        case measure=>have:=HJ1.out;have:=HK2.out;omega
        case rel=>exact⟨(wrap64 (x22_2+1)),(by first|rfl|(simp;done)|(simp[*];done)),H',⟨by have:=HJ1.out;have:=HK2.out;omega⟩,⟨by(with_reducible repeat(first|refine Zp ?_ _|refine Zu ?_|refine Zo ?_ _));exact BK66001.out⟩,⟨by repeat(first|(with_reducible first|exact HB.out|apply Zn|apply Zm|apply Zt|refine Zq ?_ GE66001.out)|exact HB.out)⟩⟩
       ·replace c20:=Bool.eq_false_iff.mpr c20
        subst c20
        have H1:(some false)=some r:=by rw[if_neg (show ¬(false=true) by decide)] at H;exact H
        clear H
        have H:=H1
        clear H1
        obtain rfl:=Zg H
        have hcz23_0:wr.cell? ⟨gb66001,0,none⟩=some (.slice A0_0 l0_0.length c0_0):=(Zs BK66001.out 0).trans rfl
        have hcz23_1:wr.cell? ⟨gb66001,1,none⟩=some (.slice A0_1 l0_1.length c0_1):=(Zs BK66001.out 1).trans rfl
        have hcz23_2:wr.cell? ⟨gb66001,2,none⟩=some (.int .i64 a0_2):=(Zs BK66001.out 2).trans rfl
        go_wp2_with (first|((with_reducible refine ZG (f:=118) rfl ?_);refine ZQ (some 27) rfl rfl Try.func118 (by kernel_rfl) rfl #[.agg #[.slice A0_0 l0_0.length c0_0,.slice A0_1 l0_1.length c0_1,.int .i64 a0_2],.int .i64 x22_2] rfl (by(try simp only[List.map_toArray,List.map_cons,List.map_nil]);first|done|rfl|(simp only[Zk,Zj];rfl)) ?_;(with_reducible refine(ZbK.calls _ _ l0_0 _ _ l0_1 a0_2 x22_2 false _ ?side1 ?side2 ?side3 ?side4 A19.out).mono ?_);(case side1=>exact(Zb HR0_0.out HB.out));(case side2=>exact HC0_0.out);(case side3=>exact(Zb HR0_1.out HB.out));(case side4=>exact HC0_1.out);rintro e w24 ⟨rfl,hb⟩;refine⟨_,rfl,?_⟩;replace BK66001:=Za (Zy BK66001.out hb);replace HB:=Za (Zw (by exact HB.out) hb);(try clear hi)))
        go_ret
        exact⟨by first|rfl|(simp[ZB,ZA] <;> rfl)|(simp[*,ZB,ZA] <;> rfl),by repeat(first|(with_reducible first|exact HB.out|apply Zn|apply Zm|apply Zt|refine Zq ?_ GE66001.out)|exact HB.out)⟩
      ·rw[if_neg c18] at H
       have c18b0:decide (x22_2<(l0_1.length:Int))=false:=Zf c18
       clear c18
       obtain rfl:=Zg H
       go_wp2
       go_ret
       exact⟨by first|rfl|(simp[ZB,ZA] <;> rfl)|(simp[*,ZB,ZA] <;> rfl),by repeat(first|(with_reducible first|exact HB.out|apply Zn|apply Zm|apply Zt|refine Zq ?_ GE66001.out)|exact HB.out)⟩
mutual
def ZC.j0:Nat→Bool→List (S116)→List (S90)→Int→Option (Int×(List (S112))×Bool)
 | 0,_,_,_,_=>none
 | k+1,x30,x59002000,x59002001,x59002002=>if x30=true then(some (0,([]:List (S112)),false)) else(ZC.l0 k (x59002000.length:Int) 0 x59002000 x59002001 x59002002 (x59002000.length:Int) ([]:List (S112)))
def ZC.l0:Nat→Int→Int→List (S116)→List (S90)→Int→Int→List (S112)→Option (Int×(List (S112))×Bool)
 | 0,_,_,_,_,_,_,_=>none
 | k+1,x38,x39,x59002000,x59002001,x59002002,x59006000,x59006001=>if x39<x38 then((ZT.f k x59002000 x59002001 x59002002 x39).bind fun bt59006=>(if x59006001.length<4398046511104 then(ZC.l0 k x38 (wrap64 (x39+1)) x59002000 x59002001 x59002002 x59006000 (x59006001 ++ [(⟨0,bt59006.1,(⟨wrap64 (-bt59006.2.1),wrap64 (x59002002 - bt59006.2.2.1)⟩:S110)⟩:S112)])) else(none))) else(ZC.l1 k x59002001 (x59002001.length:Int) 0 x59002000 x59002001 x59002002 x59006000 x59006001)
def ZC.l1:Nat→List (S90)→Int→Int→List (S116)→List (S90)→Int→Int→List (S112)→Option (Int×(List (S112))×Bool)
 | 0,_,_,_,_,_,_,_,_=>none
 | k+1,x66,x67,x68,x59002000,x59002001,x59002002,x59006000,x59006001=>if x68<x67 then(if 0≤x68 then(if x68<(x66.length:Int) then(if (Zv x66 x68).f4=true then(ZC.l1 k x66 x67 (wrap64 (x68+1)) x59002000 x59002001 x59002002 x59006000 x59006001) else((ZV.f k x59002000 x59002001 x59002002 ((Zv x66 x68).f0) ((Zv x66 x68).f1)).bind fun bt59015=>((ZT.f k x59002000 x59002001 x59002002 ((Zv x66 x68).f0)).bind fun bt59017=>((ZT.f k x59002000 x59002001 x59002002 ((Zv x66 x68).f1)).bind fun bt59021=>(if x59006001.length<4398046511104 then(ZC.l1 k x66 x67 (wrap64 (x68+1)) x59002000 x59002001 x59002002 x59006000 (x59006001 ++ [(⟨bt59017.1,bt59021.1,(⟨wrap64 (((Zv x66 x68).f2)+bt59015.2),wrap64 (((Zv x66 x68).f3)+bt59015.1)⟩:S110)⟩:S112)])) else(none)))))) else(none)) else(none)) else(ZC.l2 k (x59002000.length:Int) 0 x59002000 x59002001 x59002002 x59006000 x59006001)
def ZC.l2:Nat→Int→Int→List (S116)→List (S90)→Int→Int→List (S112)→Option (Int×(List (S112))×Bool)
 | 0,_,_,_,_,_,_,_=>none
 | k+1,x121,x122,x59002000,x59002001,x59002002,x59006000,x59006001=>if x122<x121 then((Z0.f k x59002000 x59002001 x59002002 x122).bind fun t59028=>(if t59028≥0 then(if x59006001.length<4398046511104 then(ZC.l2 k x121 (wrap64 (x122+1)) x59002000 x59002001 x59002002 x59006000 (x59006001 ++ [(⟨0,x122,(⟨0,0⟩:S110)⟩:S112)])) else(none)) else(ZC.l2 k x121 (wrap64 (x122+1)) x59002000 x59002001 x59002002 x59006000 x59006001))) else((ZS.f k x59006000 x59006001).bind fun t59032=>(if t59032=true then(some (x59006000,x59006001,true)) else(some (0,([]:List (S112)),false))))
end
def ZC.f (k:Nat) (l0_0:List (S116)) (l0_1:List (S90)) (a0_2:Int):Option (Int×(List (S112))×Bool):=(Z2.f k l0_0 l0_1 a0_2).bind fun t59003=>(if t59003=true then((Zaf.f k l0_0 l0_1 a0_2).bind fun t59004=>(ZC.j0 k (!t59004) l0_0 l0_1 a0_2)) else(ZC.j0 k true l0_0 l0_1 a0_2))
set_option maxHeartbeats 8000000 in
set_option maxRecDepth 100000 in
theorem ZC.calls (k:Nat) (A0_0:Option Addr) (c0_0:Nat) (l0_0:List (S116)) (A0_1:Option Addr) (c0_1:Nat) (l0_1:List (S90)) (a0_2:Int) (r1:Int) (r2:List (S112)) (r3:Bool) (w:World) (hr0_0:Kd.C k116 w A0_0 l0_0.length l0_0) (hc0_0:l0_0.length≤c0_0) (hr0_1:Kd.C k90 w A0_1 l0_1.length l0_1) (hc0_1:l0_1.length≤c0_1) (h:ZC.f k l0_0 l0_1 a0_2=some (r1,r2,r3)) :
  Calls Try.prog 59 #[.agg #[.slice A0_0 l0_0.length c0_0,.slice A0_1 l0_1.length c0_1,.int .i64 a0_2]] w fun e w'=>∃v1_:Value,e=.returned (.tuple #[.agg #[.int .i64 r1,v1_],.bool r3])∧Kd.R k112 112 w' w.heap.size (fun _=>True) v1_ r2∧Below w.heap.size w w':=by
 have hu35:=Try.underlying35
 have hu58:=Try.underlying58
 have hu110:=Try.underlying110
 have hu112:=Try.underlying112
 have hu90:=Try.underlying90
 have HR0_0:=Za hr0_0;have HC0_0:=Za hc0_0;clear hr0_0 hc0_0;have HR0_1:=Za hr0_1;have HC0_1:=Za hc0_1;clear hr0_1 hc0_1
 have HB:=Za (Below.refl w.heap.size w)
 have H:((Z2.f k l0_0 l0_1 a0_2).bind fun t59003=>(if t59003=true then((Zaf.f k l0_0 l0_1 a0_2).bind fun t59004=>(ZC.j0 k (!t59004) l0_0 l0_1 a0_2)) else(ZC.j0 k true l0_0 l0_1 a0_2)))=some (r1,r2,r3):=h
 clear h;have HC2:=Za H;clear H
 go_enter Try.func59,Try.ntmps59
 go_upto_region 1 with (first|((with_reducible refine ZI (N:=1) rfl ?_);refine ZH ?hg (N:=1) ?hd (cs:=#[.slice A0_0 l0_0.length c0_0,.slice A0_1 l0_1.length c0_1,.int .i64 a0_2]) (t:=35) ?hr ?_;(case hd=>rfl);(case hg=>rfl);(case hr=>first|(go_simp;done)|(go_simp;rfl));intro gb59001 hg w3 hbox hb;have BK59001:=Za (hbox);have GW59001:=Za ((by rw[hg];exact(Zx (by repeat(first|(with_reducible first|exact HB.out|apply Zn|apply Zm|apply Zt)|exact HB.out))):w.heap.size≤gb59001));have GE59001:=Za ((by rw[hg];exact(Zx (by repeat(first|(with_reducible first|exact HB.out|apply Zn|apply Zm|apply Zt)|exact HB.out))):w.heap.size≤gb59001));replace HB:=Za (Zw (by repeat(first|(with_reducible first|exact HB.out|apply Zn|apply Zm|apply Zt)|exact HB.out)) hb);clear hb hbox hg)|((with_reducible refine ZI (N:=2) rfl ?_);refine ZH ?hg (N:=2) ?hd (cs:=#[.int .i64 0,.slice none 0 0]) (t:=58) ?hr ?_;(case hd=>rfl);(case hg=>rfl);(case hr=>first|(go_simp;done)|(go_simp;rfl));intro gb59002 hg w4 hbox hb;have BK59002:=Za (hbox);have GW59002:=Za ((by rw[hg];exact(Zx (by repeat(first|(with_reducible first|exact HB.out|apply Zn|apply Zm|apply Zt|refine Zq ?_ GE59001.out)|exact HB.out))):w.heap.size≤gb59002));have GE59002:=Za ((by rw[hg];exact(Zx (by repeat(first|(with_reducible first|exact HB.out|apply Zn|apply Zm|apply Zt|refine Zq ?_ GE59001.out)|exact HB.out))):w.heap.size≤gb59002));have NB59001_59002:=Za ((by rw[hg];exact Nat.ne_of_lt (ZO (g:=gb59001) (o:=.cells #[.slice A0_0 l0_0.length c0_0,.slice A0_1 l0_1.length c0_1,.int .i64 a0_2] 35 (0,0)) (by(with_reducible repeat(first|refine Zp ?_ _|refine Zu ?_|refine Zo ?_ _));exact BK59001.out)):gb59001≠gb59002));have NB59002_59001:=Za ((by rw[hg];exact Nat.ne_of_gt (ZO (g:=gb59001) (o:=.cells #[.slice A0_0 l0_0.length c0_0,.slice A0_1 l0_1.length c0_1,.int .i64 a0_2] 35 (0,0)) (by(with_reducible repeat(first|refine Zp ?_ _|refine Zu ?_|refine Zo ?_ _));exact BK59001.out)):gb59002≠gb59001));replace BK59001:=Za (Zy (g:=gb59001) (o:=.cells #[.slice A0_0 l0_0.length c0_0,.slice A0_1 l0_1.length c0_1,.int .i64 a0_2] 35 (0,0)) (by(with_reducible repeat(first|refine Zp ?_ _|refine Zu ?_|refine Zo ?_ _));exact BK59001.out) hb);replace HB:=Za (Zw (by repeat(first|(with_reducible first|exact HB.out|apply Zn|apply Zm|apply Zt|refine Zq ?_ GE59001.out)|exact HB.out)) hb);clear hb hbox hg))
 (try simp only[Act.put,List.setIfInBounds_toArray,List.set_cons_zero,List.set_cons_succ])
 go_cut [30] (fun v30 wc=>∃(kq:Nat) (x30_1:Bool),v30=.bool x30_1∧Aside0 (ZC.j0 kq x30_1 l0_0 l0_1 a0_2=some (r1,r2,r3))∧Aside0 (kq≤k)∧Aside0 (wc.heap[gb59001]? = some (.cells #[(.slice A0_0 l0_0.length c0_0),(.slice A0_1 l0_1.length c0_1),.int .i64 a0_2] 35 (0,0)))∧Aside0 (wc.heap[gb59002]? = some (.cells #[.int .i64 0,(.slice none 0 0)] 58 (0,0)))∧Aside0 (Below w.heap.size w wc))
 case first=>
  have H:=HC2.out
  clear HC2
  replace H:=Zh H
  obtain⟨t59003,A50,H⟩:=H
  replace H:(if t59003=true then((Zaf.f k l0_0 l0_1 a0_2).bind fun t59004=>(ZC.j0 k (!t59004) l0_0 l0_1 a0_2)) else(ZC.j0 k true l0_0 l0_1 a0_2))=some (r1,r2,r3):=H
  have A5:=Za A50;clear A50
  by_cases c6:t59003=true
  ·subst c6
   have H1:((Zaf.f k l0_0 l0_1 a0_2).bind fun t59004=>(ZC.j0 k (!t59004) l0_0 l0_1 a0_2))=some (r1,r2,r3):=by rw[if_pos rfl] at H;exact H
   clear H
   have H:=H1
   clear H1
   replace H:=Zh H
   obtain⟨t59004,A70,H⟩:=H
   replace H:(ZC.j0 k (!t59004) l0_0 l0_1 a0_2)=some (r1,r2,r3):=H
   have A7:=Za A70;clear A70
   have H':=Za H
   clear H
   have hnb8:=NB59001_59002.out
   have hnc8:=NB59002_59001.out
   have hcz9_0:w4.cell? ⟨gb59001,0,none⟩=some (.slice A0_0 l0_0.length c0_0):=(Zs BK59001.out 0).trans rfl
   have hcz9_1:w4.cell? ⟨gb59001,1,none⟩=some (.slice A0_1 l0_1.length c0_1):=(Zs BK59001.out 1).trans rfl
   have hcz9_2:w4.cell? ⟨gb59001,2,none⟩=some (.int .i64 a0_2):=(Zs BK59001.out 2).trans rfl
   have hfz9_0:=Zr BK59001.out 0
   have hfz9_1:=Zr BK59001.out 1
   have hfz9_2:=Zr BK59001.out 2
   go_wp2_with (first|((with_reducible refine ZG (f:=66) rfl ?_);refine ZQ (some 24) rfl rfl Try.func66 (by kernel_rfl) rfl #[.agg #[.slice A0_0 l0_0.length c0_0,.slice A0_1 l0_1.length c0_1,.int .i64 a0_2]] rfl (by(try simp only[List.map_toArray,List.map_cons,List.map_nil]);first|done|rfl|(simp only[Zk,Zj];rfl)) ?_;(with_reducible refine(Z2.calls k _ _ l0_0 _ _ l0_1 a0_2 true _ ?side1 ?side2 ?side3 ?side4 A5.out).mono ?_);(case side1=>repeat(first|exact(Zb HR0_0.out HB.out)|(with_reducible refine Kd.C_alloc ?_ _)|(with_reducible refine Kd.C_drewN ?_ _)|(with_reducible refine Kd.C_drew ?_)));(case side2=>exact HC0_0.out);(case side3=>repeat(first|exact(Zb HR0_1.out HB.out)|(with_reducible refine Kd.C_alloc ?_ _)|(with_reducible refine Kd.C_drewN ?_ _)|(with_reducible refine Kd.C_drew ?_)));(case side4=>exact HC0_1.out);rintro e w10 ⟨rfl,hb⟩;refine⟨_,rfl,?_⟩;replace BK59001:=Za (Zy (g:=gb59001) (o:=.cells #[.slice A0_0 l0_0.length c0_0,.slice A0_1 l0_1.length c0_1,.int .i64 a0_2] 35 (0,0)) (by(with_reducible repeat(first|refine Zp ?_ _|refine Zu ?_|refine Zo ?_ _));exact BK59001.out) hb);replace BK59002:=Za (Zy (g:=gb59002) (o:=.cells #[.int .i64 0,.slice none 0 0] 58 (0,0)) (by(with_reducible repeat(first|refine Zp ?_ _|refine Zu ?_|refine Zo ?_ _));exact BK59002.out) hb);replace HB:=Za (Zw (by repeat(first|(with_reducible first|exact HB.out|apply Zn|apply Zm|apply Zt|refine Zq ?_ GE59001.out|refine Zq ?_ GE59002.out)|exact HB.out)) hb);(try clear hb);(try clear hb2);(try clear hk);(try clear hi);have hcz11_0:w10.cell? ⟨gb59001,0,none⟩=some (.slice A0_0 l0_0.length c0_0):=(Zs BK59001.out 0).trans rfl;have hcz11_1:w10.cell? ⟨gb59001,1,none⟩=some (.slice A0_1 l0_1.length c0_1):=(Zs BK59001.out 1).trans rfl;have hcz11_2:w10.cell? ⟨gb59001,2,none⟩=some (.int .i64 a0_2):=(Zs BK59001.out 2).trans rfl;have hfz11_0:=Zr BK59001.out 0;have hfz11_1:=Zr BK59001.out 1;have hfz11_2:=Zr BK59001.out 2)|(go_at_call 107;(with_reducible refine(Zaf.calls k _ _ l0_0 _ _ l0_1 a0_2 t59004 _ ?side1 ?side2 ?side3 ?side4 A7.out).mono ?_);(case side1=>repeat(first|exact(Zb HR0_0.out HB.out)|(with_reducible refine Kd.C_alloc ?_ _)|(with_reducible refine Kd.C_drewN ?_ _)|(with_reducible refine Kd.C_drew ?_)));(case side2=>exact HC0_0.out);(case side3=>repeat(first|exact(Zb HR0_1.out HB.out)|(with_reducible refine Kd.C_alloc ?_ _)|(with_reducible refine Kd.C_drewN ?_ _)|(with_reducible refine Kd.C_drew ?_)));(case side4=>exact HC0_1.out);rintro e w12 ⟨rfl,hb⟩;replace BK59001:=Za (Zy (g:=gb59001) (o:=.cells #[.slice A0_0 l0_0.length c0_0,.slice A0_1 l0_1.length c0_1,.int .i64 a0_2] 35 (0,0)) (by(with_reducible repeat(first|refine Zp ?_ _|refine Zu ?_|refine Zo ?_ _));exact BK59001.out) hb);replace BK59002:=Za (Zy (g:=gb59002) (o:=.cells #[.int .i64 0,.slice none 0 0] 58 (0,0)) (by(with_reducible repeat(first|refine Zp ?_ _|refine Zu ?_|refine Zo ?_ _));exact BK59002.out) hb);replace HB:=Za (Zw (by repeat(first|(with_reducible first|exact HB.out|apply Zn|apply Zm|apply Zt|refine Zq ?_ GE59001.out|refine Zq ?_ GE59002.out)|exact HB.out)) hb);(try clear hb);(try clear hb2);(try clear hk);(try clear hi)))
   go_meet
   case rel=>exact⟨_,(!t59004),(by first|rfl|(simp;done)|(simp[*];done)),H',⟨by first|omega|exact Nat.le_refl _⟩,⟨by(with_reducible repeat(first|refine Zp ?_ _|refine Zu ?_|refine Zo ?_ _));exact BK59001.out⟩,⟨by(with_reducible repeat(first|refine Zp ?_ _|refine Zu ?_|refine Zo ?_ _));exact BK59002.out⟩,⟨by repeat(first|(with_reducible first|exact HB.out|apply Zn|apply Zm|apply Zt|refine Zq ?_ GE59001.out|refine Zq ?_ GE59002.out)|exact HB.out)⟩⟩
  ·replace c6:=Bool.eq_false_iff.mpr c6
   subst c6
   have H1:(ZC.j0 k true l0_0 l0_1 a0_2)=some (r1,r2,r3):=by rw[if_neg (show ¬(false=true) by decide)] at H;exact H
   clear H
   have H:=H1
   clear H1
   have H':=Za H
   clear H
   have hnb13:=NB59001_59002.out
   have hnc13:=NB59002_59001.out
   have hcz14_0:w4.cell? ⟨gb59001,0,none⟩=some (.slice A0_0 l0_0.length c0_0):=(Zs BK59001.out 0).trans rfl
   have hcz14_1:w4.cell? ⟨gb59001,1,none⟩=some (.slice A0_1 l0_1.length c0_1):=(Zs BK59001.out 1).trans rfl
   have hcz14_2:w4.cell? ⟨gb59001,2,none⟩=some (.int .i64 a0_2):=(Zs BK59001.out 2).trans rfl
   have hfz14_0:=Zr BK59001.out 0
   have hfz14_1:=Zr BK59001.out 1
   have hfz14_2:=Zr BK59001.out 2
   go_wp2_with (first|((with_reducible refine ZG (f:=66) rfl ?_);refine ZQ (some 24) rfl rfl Try.func66 (by kernel_rfl) rfl #[.agg #[.slice A0_0 l0_0.length c0_0,.slice A0_1 l0_1.length c0_1,.int .i64 a0_2]] rfl (by(try simp only[List.map_toArray,List.map_cons,List.map_nil]);first|done|rfl|(simp only[Zk,Zj];rfl)) ?_;(with_reducible refine(Z2.calls k _ _ l0_0 _ _ l0_1 a0_2 false _ ?side1 ?side2 ?side3 ?side4 A5.out).mono ?_);(case side1=>repeat(first|exact(Zb HR0_0.out HB.out)|(with_reducible refine Kd.C_alloc ?_ _)|(with_reducible refine Kd.C_drewN ?_ _)|(with_reducible refine Kd.C_drew ?_)));(case side2=>exact HC0_0.out);(case side3=>repeat(first|exact(Zb HR0_1.out HB.out)|(with_reducible refine Kd.C_alloc ?_ _)|(with_reducible refine Kd.C_drewN ?_ _)|(with_reducible refine Kd.C_drew ?_)));(case side4=>exact HC0_1.out);rintro e w15 ⟨rfl,hb⟩;refine⟨_,rfl,?_⟩;replace BK59001:=Za (Zy (g:=gb59001) (o:=.cells #[.slice A0_0 l0_0.length c0_0,.slice A0_1 l0_1.length c0_1,.int .i64 a0_2] 35 (0,0)) (by(with_reducible repeat(first|refine Zp ?_ _|refine Zu ?_|refine Zo ?_ _));exact BK59001.out) hb);replace BK59002:=Za (Zy (g:=gb59002) (o:=.cells #[.int .i64 0,.slice none 0 0] 58 (0,0)) (by(with_reducible repeat(first|refine Zp ?_ _|refine Zu ?_|refine Zo ?_ _));exact BK59002.out) hb);replace HB:=Za (Zw (by repeat(first|(with_reducible first|exact HB.out|apply Zn|apply Zm|apply Zt|refine Zq ?_ GE59001.out|refine Zq ?_ GE59002.out)|exact HB.out)) hb);(try clear hb);(try clear hb2);(try clear hk);(try clear hi)))
   go_meet
   case rel=>exact⟨_,(true),(by first|rfl|(simp;done)|(simp[*];done)),H',⟨by first|omega|exact Nat.le_refl _⟩,⟨by(with_reducible repeat(first|refine Zp ?_ _|refine Zu ?_|refine Zo ?_ _));exact BK59001.out⟩,⟨by(with_reducible repeat(first|refine Zp ?_ _|refine Zu ?_|refine Zo ?_ _));exact BK59002.out⟩,⟨by repeat(first|(with_reducible first|exact HB.out|apply Zn|apply Zm|apply Zt|refine Zq ?_ GE59001.out|refine Zq ?_ GE59002.out)|exact HB.out)⟩⟩
 case rest=>
  clear HC2
  try clear c1
  try clear p2
  try clear c5
  try clear c6
  try clear c8
  try clear c13
  try clear hcz11_0
  try clear hcz11_1
  try clear hcz11_2
  try clear hcz14_0
  try clear hcz14_1
  try clear hcz14_2
  try clear hcz9_0
  try clear hcz9_1
  try clear hcz9_2
  try clear hfz11_0
  try clear hfz11_1
  try clear hfz11_2
  try clear hfz14_0
  try clear hfz14_1
  try clear hfz14_2
  try clear hfz9_0
  try clear hfz9_1
  try clear hfz9_2
  obtain⟨kq,x30_1,rfl,HA,HJ1,BK59001,BK59002,HB⟩:=hcut
  cases kq with
  | zero=>exact absurd HA.out (by simp[ZC.j0])
  | succ kj1=>
   have H:=HA.out
   clear HA
   simp only[ZC.j0] at H
   by_cases c16:x30_1=true
   ·subst c16
    have H1:(some (0,([]:List (S112)),false))=some (r1,r2,r3):=by rw[if_pos rfl] at H;exact H
    clear H
    have H:=H1
    clear H1
    simp only[Option.some.injEq,Prod.mk.injEq] at H
    obtain⟨rfl,rfl,rfl⟩:=H
    have hnb17:=NB59002_59001.out
    have hnc17:=NB59001_59002.out
    have hcz18_0:wc.cell? ⟨gb59002,0,none⟩=some (.int .i64 0):=(Zs BK59002.out 0).trans rfl
    have hcz18_1:wc.cell? ⟨gb59002,1,none⟩=some (.slice none 0 0):=(Zs BK59002.out 1).trans rfl
    have hfz18_0:=Zr BK59002.out 0
    have hfz18_1:=Zr BK59002.out 1
    go_wp2
    refine bodyPost_ret (Zb8 rfl _ _ gb59002 58 #[.int .i64 0,.slice none 0 0] (0,0) _ rfl (by(with_reducible repeat(first|refine Zp ?_ _|refine Zu ?_|refine Zo ?_ _));refine ZL (cs:=#[.int .i64 0,.slice none 0 0]) ?_ 1 _ rfl;(with_reducible repeat(first|refine Zp ?_ _|refine Zu ?_|refine Zo ?_ _));refine ZL (cs:=#[.int .i64 0,.slice none 0 0]) ?_ 0 _ rfl;(with_reducible repeat(first|refine Zp ?_ _|refine Zu ?_|refine Zo ?_ _));exact BK59002.out) Try.underlying58 rfl (by kernel_rfl)) rfl ?_
    exact⟨_,by first|rfl|(simp[ZB,ZA] <;> rfl)|(simp[*,ZB,ZA] <;> rfl),by first|exact Kd.R_nil _ _ _ _ _|exact Kd.N_nil _ _ _ _ _|exact Kd.V_nil _ _ _ _ _|exact Kd.Q_nil _ _ _ _ _|exact Kd.S_nil _ _ _ _ _,by repeat(first|(with_reducible first|exact HB.out|apply Zn|apply Zm|apply Zt|refine Zq ?_ GE59001.out|refine Zq ?_ GE59002.out)|exact HB.out)⟩
   ·replace c16:=Bool.eq_false_iff.mpr c16
    subst c16
    have H1:(ZC.l0 kj1 (l0_0.length:Int) 0 l0_0 l0_1 a0_2 (l0_0.length:Int) ([]:List (S112)))=some (r1,r2,r3):=by rw[if_neg (show ¬(false=true) by decide)] at H;exact H
    clear H
    have H:=H1
    clear H1
    have H':=Za H
    clear H
    have hnb19:=NB59001_59002.out
    have hnc19:=NB59002_59001.out
    have hcz20_0:wc.cell? ⟨gb59001,0,none⟩=some (.slice A0_0 l0_0.length c0_0):=(Zs BK59001.out 0).trans rfl
    have hcz20_1:wc.cell? ⟨gb59001,1,none⟩=some (.slice A0_1 l0_1.length c0_1):=(Zs BK59001.out 1).trans rfl
    have hcz20_2:wc.cell? ⟨gb59001,2,none⟩=some (.int .i64 a0_2):=(Zs BK59001.out 2).trans rfl
    have hfz20_0:=Zr BK59001.out 0
    have hfz20_1:=Zr BK59001.out 1
    have hfz20_2:=Zr BK59001.out 2
    go_wp2_with (first|((with_reducible refine ZI (N:=4) rfl ?_);refine ZH ?hg (N:=4) ?hd (cs:=#[.int .i64 0,.slice none 0 0]) (t:=58) ?hr ?_;(case hd=>rfl);(case hg=>rfl);(case hr=>first|(go_simp;done)|(go_simp;rfl));intro gb59005 hg w21 hbox hb;have BK59005:=Za (hbox);have GW59005:=Za ((by rw[hg];exact(Zx (by repeat(first|(with_reducible first|exact HB.out|apply Zn|apply Zm|apply Zt|refine Zq ?_ GE59001.out|refine Zq ?_ GE59002.out)|exact HB.out))):w.heap.size≤gb59005));have GE59005:=Za ((by rw[hg];exact(Zx (by repeat(first|(with_reducible first|exact HB.out|apply Zn|apply Zm|apply Zt|refine Zq ?_ GE59001.out|refine Zq ?_ GE59002.out)|exact HB.out))):w.heap.size≤gb59005));have NB59001_59005:=Za ((by rw[hg];exact Nat.ne_of_lt (ZO (g:=gb59001) (o:=.cells #[.slice A0_0 l0_0.length c0_0,.slice A0_1 l0_1.length c0_1,.int .i64 a0_2] 35 (0,0)) (by(with_reducible repeat(first|refine Zp ?_ _|refine Zu ?_|refine Zo ?_ _));exact BK59001.out)):gb59001≠gb59005));have NB59005_59001:=Za ((by rw[hg];exact Nat.ne_of_gt (ZO (g:=gb59001) (o:=.cells #[.slice A0_0 l0_0.length c0_0,.slice A0_1 l0_1.length c0_1,.int .i64 a0_2] 35 (0,0)) (by(with_reducible repeat(first|refine Zp ?_ _|refine Zu ?_|refine Zo ?_ _));exact BK59001.out)):gb59005≠gb59001));have NB59002_59005:=Za ((by rw[hg];exact Nat.ne_of_lt (ZO (g:=gb59002) (o:=.cells #[.int .i64 0,.slice none 0 0] 58 (0,0)) (by(with_reducible repeat(first|refine Zp ?_ _|refine Zu ?_|refine Zo ?_ _));exact BK59002.out)):gb59002≠gb59005));have NB59005_59002:=Za ((by rw[hg];exact Nat.ne_of_gt (ZO (g:=gb59002) (o:=.cells #[.int .i64 0,.slice none 0 0] 58 (0,0)) (by(with_reducible repeat(first|refine Zp ?_ _|refine Zu ?_|refine Zo ?_ _));exact BK59002.out)):gb59005≠gb59002));replace BK59001:=Za (Zy (g:=gb59001) (o:=.cells #[.slice A0_0 l0_0.length c0_0,.slice A0_1 l0_1.length c0_1,.int .i64 a0_2] 35 (0,0)) (by(with_reducible repeat(first|refine Zp ?_ _|refine Zu ?_|refine Zo ?_ _));exact BK59001.out) hb);replace BK59002:=Za (Zy (g:=gb59002) (o:=.cells #[.int .i64 0,.slice none 0 0] 58 (0,0)) (by(with_reducible repeat(first|refine Zp ?_ _|refine Zu ?_|refine Zo ?_ _));exact BK59002.out) hb);replace HB:=Za (Zw (by repeat(first|(with_reducible first|exact HB.out|apply Zn|apply Zm|apply Zt|refine Zq ?_ GE59001.out|refine Zq ?_ GE59002.out)|exact HB.out)) hb);clear hb hbox hg;have hnb22:=NB59005_59001.out;have hnc22:=NB59001_59005.out;have hnb23:=NB59005_59002.out;have hnc23:=NB59002_59005.out;have hcz24_0:w21.cell? ⟨gb59005,0,none⟩=some (.int .i64 0):=(Zs BK59005.out 0).trans rfl;have hcz24_1:w21.cell? ⟨gb59005,1,none⟩=some (.slice none 0 0):=(Zs BK59005.out 1).trans rfl;have hfz24_0:=Zr BK59005.out 0;have hfz24_1:=Zr BK59005.out 1;have hcz25_0:w21.cell? ⟨gb59001,0,none⟩=some (.slice A0_0 l0_0.length c0_0):=(Zs BK59001.out 0).trans rfl;have hcz25_1:w21.cell? ⟨gb59001,1,none⟩=some (.slice A0_1 l0_1.length c0_1):=(Zs BK59001.out 1).trans rfl;have hcz25_2:w21.cell? ⟨gb59001,2,none⟩=some (.int .i64 a0_2):=(Zs BK59001.out 2).trans rfl;have hfz25_0:=Zr BK59001.out 0;have hfz25_1:=Zr BK59001.out 1;have hfz25_2:=Zr BK59001.out 2))
    go_loopg [39] kj1 (fun kq v39 w'=>∃(x39_2:Int) (x59006001_2:List (S112)) (u59006001:Value),v39=.int .i64 x39_2∧Aside0 (ZC.l0 kq (l0_0.length:Int) x39_2 l0_0 l0_1 a0_2 (l0_0.length:Int) x59006001_2=some (r1,r2,r3))∧Aside0 (kq≤kj1)∧Aside0 (Kd.R k112 112 w' w.heap.size (fun _=>True) u59006001 x59006001_2)∧Aside0 (w'.heap[gb59001]? = some (.cells #[(.slice A0_0 l0_0.length c0_0),(.slice A0_1 l0_1.length c0_1),.int .i64 a0_2] 35 (0,0)))∧Aside0 (w'.heap[gb59002]? = some (.cells #[.int .i64 0,(.slice none 0 0)] 58 (0,0)))∧Aside0 (w'.heap[gb59005]? = some (.cells #[.int .i64 (l0_0.length:Int),u59006001] 58 (0,0)))∧Aside0 (Below w.heap.size w w'))
    case atStart=>exact⟨(0),(([]:List (S112))),(.slice none 0 0),(by first|rfl|(simp;done)|(simp[*];done)),H',⟨Nat.le_refl _⟩,⟨by first|exact Kd.R_nil _ _ _ _ _|exact Kd.N_nil _ _ _ _ _|exact Kd.V_nil _ _ _ _ _|exact Kd.Q_nil _ _ _ _ _|exact Kd.S_nil _ _ _ _ _⟩,⟨by(with_reducible repeat(first|refine Zp ?_ _|refine Zu ?_|refine Zo ?_ _));refine ZD ?_ NB59001_59005.out _;(with_reducible repeat(first|refine Zp ?_ _|refine Zu ?_|refine Zo ?_ _));refine ZD ?_ NB59001_59005.out _;(with_reducible repeat(first|refine Zp ?_ _|refine Zu ?_|refine Zo ?_ _));exact BK59001.out⟩,⟨by(with_reducible repeat(first|refine Zp ?_ _|refine Zu ?_|refine Zo ?_ _));refine ZD ?_ NB59002_59005.out _;(with_reducible repeat(first|refine Zp ?_ _|refine Zu ?_|refine Zo ?_ _));refine ZD ?_ NB59002_59005.out _;(with_reducible repeat(first|refine Zp ?_ _|refine Zu ?_|refine Zo ?_ _));exact BK59002.out⟩,⟨by(with_reducible repeat(first|refine Zp ?_ _|refine Zu ?_|refine Zo ?_ _));refine ZL (cs:=#[.int .i64 (l0_0.length:Int),.slice none 0 0]) ?_ 1 _ rfl;(with_reducible repeat(first|refine Zp ?_ _|refine Zu ?_|refine Zo ?_ _));refine ZL (cs:=#[.int .i64 0,.slice none 0 0]) ?_ 0 _ rfl;(with_reducible repeat(first|refine Zp ?_ _|refine Zu ?_|refine Zo ?_ _));exact BK59005.out⟩,⟨by repeat(first|(with_reducible first|exact HB.out|apply Zn|apply Zm|apply Zt|refine Zq ?_ GE59001.out|refine Zq ?_ GE59002.out|refine Zq ?_ GE59005.out)|exact HB.out)⟩⟩
    case round=>
     clear H'
     try clear c1
     try clear c2
     try clear p2
     try clear c5
     try clear c6
     try clear c8
     try clear c13
     try clear c16
     try clear c17
     try clear c19
     try clear c22
     try clear c23
     try clear hcz11_0
     try clear hcz11_1
     try clear hcz11_2
     try clear hcz14_0
     try clear hcz14_1
     try clear hcz14_2
     try clear hcz18_0
     try clear hcz18_1
     try clear hcz20_0
     try clear hcz20_1
     try clear hcz20_2
     try clear hcz24_0
     try clear hcz24_1
     try clear hcz25_0
     try clear hcz25_1
     try clear hcz25_2
     try clear hcz9_0
     try clear hcz9_1
     try clear hcz9_2
     try clear hfz11_0
     try clear hfz11_1
     try clear hfz11_2
     try clear hfz14_0
     try clear hfz14_1
     try clear hfz14_2
     try clear hfz18_0
     try clear hfz18_1
     try clear hfz20_0
     try clear hfz20_1
     try clear hfz20_2
     try clear hfz24_0
     try clear hfz24_1
     try clear hfz25_0
     try clear hfz25_1
     try clear hfz25_2
     try clear hfz9_0
     try clear hfz9_1
     try clear hfz9_2
     try clear p2
     obtain⟨x39_2,x59006001_2,u59006001,rfl,HA,HK2,HO_59006001,BK59001,BK59002,BK59005,HB⟩:=hrel
     cases gk with
     | zero=>exact absurd HA.out (by simp[ZC.l0])
     | succ k2=>
      have H:=HA.out
      clear HA
      simp only[ZC.l0] at H
      by_cases c26:x39_2<(l0_0.length:Int)
      ·rw[if_pos c26] at H
       have c26b0:decide (x39_2<(l0_0.length:Int))=true:=Ze c26
       clear c26
       replace H:=Zh H
       obtain⟨⟨t59006,t59007,t59008,t59009⟩,A270,H⟩:=H
       replace H:(if x59006001_2.length<4398046511104 then(ZC.l0 k2 (l0_0.length:Int) (wrap64 (x39_2+1)) l0_0 l0_1 a0_2 (l0_0.length:Int) (x59006001_2 ++ [(⟨0,t59006,(⟨wrap64 (-t59007),wrap64 (a0_2 - t59008)⟩:S110)⟩:S112)])) else(none))=some (r1,r2,r3):=H
       have A27:=Za A270;clear A270
       by_cases c28:x59006001_2.length<4398046511104
       ·rw[if_pos c28] at H
        have LMc28:=Za c28;clear c28
        obtain⟨y59010,hy59010⟩:∃y_:List (S112),y_=(x59006001_2 ++ [(⟨0,t59006,(⟨wrap64 (-t59007),wrap64 (a0_2 - t59008)⟩:S110)⟩:S112)]):=⟨_,rfl⟩
        replace H:(ZC.l0 k2 (l0_0.length:Int) (wrap64 (x39_2+1)) l0_0 l0_1 a0_2 (l0_0.length:Int) y59010)=some (r1,r2,r3):=by first|(rw[hy59010];with_reducible exact H)|(have H2_:=(Zi _ _).symm.trans H;rw[hy59010];with_reducible exact H2_)|(have H2_:=(Zi _ _).symm.trans H;with_reducible exact H2_)|with_reducible exact H|(rw[hy59010];exact H)|exact H
        have Ny59010:=Za hy59010;clear hy59010
        have H':=Za H
        clear H
        have hnb29:=NB59001_59002.out
        have hnc29:=NB59002_59001.out
        have hnb30:=NB59001_59005.out
        have hnc30:=NB59005_59001.out
        have hcz31_0:wr.cell? ⟨gb59001,0,none⟩=some (.slice A0_0 l0_0.length c0_0):=(Zs BK59001.out 0).trans rfl
        have hcz31_1:wr.cell? ⟨gb59001,1,none⟩=some (.slice A0_1 l0_1.length c0_1):=(Zs BK59001.out 1).trans rfl
        have hcz31_2:wr.cell? ⟨gb59001,2,none⟩=some (.int .i64 a0_2):=(Zs BK59001.out 2).trans rfl
        have hfz31_0:=Zr BK59001.out 0
        have hfz31_1:=Zr BK59001.out 1
        have hfz31_2:=Zr BK59001.out 2
        go_wp2_with (first|((with_reducible refine ZG (f:=108) rfl ?_);refine ZQ (some 45) rfl rfl Try.func108 (by kernel_rfl) rfl #[.agg #[.slice A0_0 l0_0.length c0_0,.slice A0_1 l0_1.length c0_1,.int .i64 a0_2],.int .i64 x39_2] rfl (by(try simp only[List.map_toArray,List.map_cons,List.map_nil]);first|done|rfl|(simp only[Zk,Zj];rfl)) ?_;(with_reducible refine(ZT.calls k2 _ _ l0_0 _ _ l0_1 a0_2 x39_2 t59006 t59007 t59008 t59009 _ ?side1 ?side2 ?side3 ?side4 A27.out).mono ?_);(case side1=>repeat(first|exact(Zb HR0_0.out HB.out)|(with_reducible refine Kd.C_alloc ?_ _)|(with_reducible refine Kd.C_drewN ?_ _)|(with_reducible refine Kd.C_drew ?_)));(case side2=>exact HC0_0.out);(case side3=>repeat(first|exact(Zb HR0_1.out HB.out)|(with_reducible refine Kd.C_alloc ?_ _)|(with_reducible refine Kd.C_drewN ?_ _)|(with_reducible refine Kd.C_drew ?_)));(case side4=>exact HC0_1.out);rintro e w32 ⟨rfl,hb⟩;refine⟨_,rfl,?_⟩;replace HO_59006001:=Za (Kd.R_below (by(with_reducible repeat(first|apply Kd.R_alloc|apply Kd.R_drewN|apply Kd.R_drew));exact HO_59006001.out) hb);replace BK59001:=Za (Zy (g:=gb59001) (o:=.cells #[.slice A0_0 l0_0.length c0_0,.slice A0_1 l0_1.length c0_1,.int .i64 a0_2] 35 (0,0)) (by(with_reducible repeat(first|refine Zp ?_ _|refine Zu ?_|refine Zo ?_ _));exact BK59001.out) hb);replace BK59002:=Za (Zy (g:=gb59002) (o:=.cells #[.int .i64 0,.slice none 0 0] 58 (0,0)) (by(with_reducible repeat(first|refine Zp ?_ _|refine Zu ?_|refine Zo ?_ _));exact BK59002.out) hb);replace BK59005:=Za (Zy (g:=gb59005) (o:=.cells #[.int .i64 (l0_0.length:Int),u59006001] 58 (0,0)) (by(with_reducible repeat(first|refine Zp ?_ _|refine Zu ?_|refine Zo ?_ _));exact BK59005.out) hb);replace HB:=Za (Zw (by repeat(first|(with_reducible first|exact HB.out|apply Zn|apply Zm|apply Zt|refine Zq ?_ GE59001.out|refine Zq ?_ GE59002.out|refine Zq ?_ GE59005.out)|exact HB.out)) hb);(try clear hb);(try clear hb2);(try clear hk);(try clear hi);have hnb33:=NB59005_59002.out;have hnc33:=NB59002_59005.out;have hcz34_0:w32.cell? ⟨gb59005,0,none⟩=some (.int .i64 (l0_0.length:Int)):=(Zs BK59005.out 0).trans rfl;have hcz34_1:w32.cell? ⟨gb59005,1,none⟩=some (u59006001):=(Zs BK59005.out 1).trans rfl;have hfz34_0:=Zr BK59005.out 0;have hfz34_1:=Zr BK59005.out 1;have hcz35_0:w32.cell? ⟨gb59001,0,none⟩=some (.slice A0_0 l0_0.length c0_0):=(Zs BK59001.out 0).trans rfl;have hcz35_1:w32.cell? ⟨gb59001,1,none⟩=some (.slice A0_1 l0_1.length c0_1):=(Zs BK59001.out 1).trans rfl;have hcz35_2:w32.cell? ⟨gb59001,2,none⟩=some (.int .i64 a0_2):=(Zs BK59001.out 2).trans rfl;have hfz35_0:=Zr BK59001.out 0;have hfz35_1:=Zr BK59001.out 1;have hfz35_2:=Zr BK59001.out 2)|((with_reducible refine Zbf (b:=.append) (xs:=#[.tmp 51,.tmp 61]) rfl ?_);at_builtin;refine Kd.R_append k112 (w0:=w) w.heap.size rfl (.tmp 51) (.tmp 61) 56 112 (.agg #[(.int .i64 0),(.int .i64 0),(.int .i64 0),(.int .i64 0)]) 32 rfl Try.underlying56 ZcB rfl (by decide) (by omega) u59006001 x59006001_2 (⟨0,t59006,(⟨wrap64 (-t59007),wrap64 (a0_2 - t59008)⟩:S110)⟩:S112) [.int .i64 0,.int .i64 t59006,.int .i64 (wrap64 (-t59007)),.int .i64 (wrap64 (a0_2 - t59008))] (fun _=>True) (fun _=>False) rfl rfl ?aP (fun _ hk=>hk.elim) ?aF ?aO ?aB ?aS ?aL ?_;(case aP=>exact Zcd _ _ _ (⟨0,t59006,(⟨wrap64 (-t59007),wrap64 (a0_2 - t59008)⟩:S110)⟩:S112));(case aB=>exact(by repeat(first|(with_reducible first|exact HB.out|apply Zn|apply Zm|apply Zt|refine Zq ?_ GE59001.out|refine Zq ?_ GE59002.out|refine Zq ?_ GE59005.out)|exact HB.out)));(case aF=>exact(fun _ _=>trivial));(case aO=>exact(by(with_reducible repeat(first|apply Kd.R_alloc|apply Kd.R_drewN|apply Kd.R_drew));exact HO_59006001.out));(case aS=>exact(Zx (by repeat(first|(with_reducible first|exact HB.out|apply Zn|apply Zm|apply Zt|refine Zq ?_ GE59001.out|refine Zq ?_ GE59002.out|refine Zq ?_ GE59005.out)|exact HB.out))));(case aL=>have:=LMc28.out;omega);intro v59011 w36 ho hb hg hat;rw[← Ny59010.out] at ho;have HO59012:=Za (ho);replace BK59001:=Za (Zar (g:=gb59001) (o:=.cells #[.slice A0_0 l0_0.length c0_0,.slice A0_1 l0_1.length c0_1,.int .i64 a0_2] 35 (0,0)) (by(with_reducible repeat(first|refine Zp ?_ _|refine Zu ?_|refine Zo ?_ _));exact BK59001.out) hg (Kd.R_ne HO_59006001.out BK59001.out (by decide)));replace BK59002:=Za (Zar (g:=gb59002) (o:=.cells #[.int .i64 0,.slice none 0 0] 58 (0,0)) (by(with_reducible repeat(first|refine Zp ?_ _|refine Zu ?_|refine Zo ?_ _));exact BK59002.out) hg (Kd.R_ne HO_59006001.out BK59002.out (by decide)));replace BK59005:=Za (Zar (g:=gb59005) (o:=.cells #[.int .i64 (l0_0.length:Int),u59006001] 58 (0,0)) (by(with_reducible repeat(first|refine Zp ?_ _|refine Zu ?_|refine Zo ?_ _));exact BK59005.out) hg (Kd.R_ne HO_59006001.out BK59005.out (by decide)));replace HB:=Za (hb);clear HO_59006001;clear ho hb hg hat;obtain⟨Ao37,co37,eo37⟩:=Kd.R_slice HO59012.out;subst eo37;have hcz38_0:w36.cell? ⟨gb59005,0,none⟩=some (.int .i64 (l0_0.length:Int)):=(Zs BK59005.out 0).trans rfl;have hcz38_1:w36.cell? ⟨gb59005,1,none⟩=some (u59006001):=(Zs BK59005.out 1).trans rfl;have hfz38_0:=Zr BK59005.out 0;have hfz38_1:=Zr BK59005.out 1))
        go_roundg k2
        case measure=>have:=HJ1.out;have:=HK2.out;omega
        case rel=>exact⟨(wrap64 (x39_2+1)),(y59010),(.slice Ao37 y59010.length co37),(by first|rfl|(simp;done)|(simp[*];done)),H',⟨by have:=HJ1.out;have:=HK2.out;omega⟩,⟨by(with_reducible repeat(first|apply Kd.R_alloc|apply Kd.R_drewN|apply Kd.R_drew));exact Kd.R_mono (Kd.R_far (p:=⟨gb59005,1,none⟩) (Kd.R_types HO59012.out BK59005.out (by decide)) (fun _ hk=>hk.2) (.slice Ao37 y59010.length co37)) (fun _ hk=>trivial)⟩,⟨by(with_reducible repeat(first|refine Zp ?_ _|refine Zu ?_|refine Zo ?_ _));refine ZD ?_ NB59001_59005.out _;(with_reducible repeat(first|refine Zp ?_ _|refine Zu ?_|refine Zo ?_ _));exact BK59001.out⟩,⟨by(with_reducible repeat(first|refine Zp ?_ _|refine Zu ?_|refine Zo ?_ _));refine ZD ?_ NB59002_59005.out _;(with_reducible repeat(first|refine Zp ?_ _|refine Zu ?_|refine Zo ?_ _));exact BK59002.out⟩,⟨by(with_reducible repeat(first|refine Zp ?_ _|refine Zu ?_|refine Zo ?_ _));refine ZL (cs:=#[.int .i64 (l0_0.length:Int),u59006001]) ?_ 1 _ rfl;(with_reducible repeat(first|refine Zp ?_ _|refine Zu ?_|refine Zo ?_ _));exact BK59005.out⟩,⟨by repeat(first|(with_reducible first|exact HB.out|apply Zn|apply Zm|apply Zt|refine Zq ?_ GE59001.out|refine Zq ?_ GE59002.out|refine Zq ?_ GE59005.out)|exact HB.out)⟩⟩
       ·rw[if_neg c28] at H
        exact absurd H (by simp)
      ·rw[if_neg c26] at H
       have c26b0:decide (x39_2<(l0_0.length:Int))=false:=Zf c26
       clear c26
       have H':=Za H
       clear H
       have hnb39:=NB59001_59002.out
       have hnc39:=NB59002_59001.out
       have hnb40:=NB59001_59005.out
       have hnc40:=NB59005_59001.out
       have hcz41_0:wr.cell? ⟨gb59001,0,none⟩=some (.slice A0_0 l0_0.length c0_0):=(Zs BK59001.out 0).trans rfl
       have hcz41_1:wr.cell? ⟨gb59001,1,none⟩=some (.slice A0_1 l0_1.length c0_1):=(Zs BK59001.out 1).trans rfl
       have hcz41_2:wr.cell? ⟨gb59001,2,none⟩=some (.int .i64 a0_2):=(Zs BK59001.out 2).trans rfl
       have hfz41_0:=Zr BK59001.out 0
       have hfz41_1:=Zr BK59001.out 1
       have hfz41_2:=Zr BK59001.out 2
       go_wp2
       go_loopg [68] k2 (fun kq v68 w'=>∃(x68_3:Int) (x59006001_3:List (S112)) (u59006001:Value),v68=.int .i64 x68_3∧Aside0 (ZC.l1 kq l0_1 (l0_1.length:Int) x68_3 l0_0 l0_1 a0_2 (l0_0.length:Int) x59006001_3=some (r1,r2,r3))∧Aside0 (kq≤k2)∧Aside0 (Kd.R k112 112 w' w.heap.size (fun _=>True) u59006001 x59006001_3)∧Aside0 (w'.heap[gb59001]? = some (.cells #[(.slice A0_0 l0_0.length c0_0),(.slice A0_1 l0_1.length c0_1),.int .i64 a0_2] 35 (0,0)))∧Aside0 (w'.heap[gb59002]? = some (.cells #[.int .i64 0,(.slice none 0 0)] 58 (0,0)))∧Aside0 (w'.heap[gb59005]? = some (.cells #[.int .i64 (l0_0.length:Int),u59006001] 58 (0,0)))∧Aside0 (Below w.heap.size w w'))
       case atStart=>exact⟨(0),(x59006001_2),(u59006001),(by first|rfl|(simp;done)|(simp[*];done)),H',⟨Nat.le_refl _⟩,⟨by(with_reducible repeat(first|apply Kd.R_alloc|apply Kd.R_drewN|apply Kd.R_drew));exact HO_59006001.out⟩,⟨by(with_reducible repeat(first|refine Zp ?_ _|refine Zu ?_|refine Zo ?_ _));exact BK59001.out⟩,⟨by(with_reducible repeat(first|refine Zp ?_ _|refine Zu ?_|refine Zo ?_ _));exact BK59002.out⟩,⟨by(with_reducible repeat(first|refine Zp ?_ _|refine Zu ?_|refine Zo ?_ _));exact BK59005.out⟩,⟨by repeat(first|(with_reducible first|exact HB.out|apply Zn|apply Zm|apply Zt|refine Zq ?_ GE59001.out|refine Zq ?_ GE59002.out|refine Zq ?_ GE59005.out)|exact HB.out)⟩⟩
       case round=>
        clear H'
        try clear c1
        try clear c2
        try clear p2
        try clear c3
        try clear c4
        try clear c5
        try clear c6
        try clear p6
        try clear c8
        try clear c10
        try clear c13
        try clear c16
        try clear c17
        try clear c19
        try clear c22
        try clear c23
        try clear c26
        try clear c26b0
        try clear c28
        try clear c29
        try clear c30
        try clear c33
        try clear c39
        try clear c40
        try clear hcz11_0
        try clear hcz11_1
        try clear hcz11_2
        try clear hcz14_0
        try clear hcz14_1
        try clear hcz14_2
        try clear hcz18_0
        try clear hcz18_1
        try clear hcz20_0
        try clear hcz20_1
        try clear hcz20_2
        try clear hcz24_0
        try clear hcz24_1
        try clear hcz25_0
        try clear hcz25_1
        try clear hcz25_2
        try clear hcz31_0
        try clear hcz31_1
        try clear hcz31_2
        try clear hcz34_0
        try clear hcz34_1
        try clear hcz35_0
        try clear hcz35_1
        try clear hcz35_2
        try clear hcz38_0
        try clear hcz38_1
        try clear hcz41_0
        try clear hcz41_1
        try clear hcz41_2
        try clear hcz9_0
        try clear hcz9_1
        try clear hcz9_2
        try clear hfz11_0
        try clear hfz11_1
        try clear hfz11_2
        try clear hfz14_0
        try clear hfz14_1
        try clear hfz14_2
        try clear hfz18_0
        try clear hfz18_1
        try clear hfz20_0
        try clear hfz20_1
        try clear hfz20_2
        try clear hfz24_0
        try clear hfz24_1
        try clear hfz25_0
        try clear hfz25_1
        try clear hfz25_2
        try clear hfz31_0
        try clear hfz31_1
        try clear hfz31_2
        try clear hfz34_0
        try clear hfz34_1
        try clear hfz35_0
        try clear hfz35_1
        try clear hfz35_2
        try clear hfz38_0
        try clear hfz38_1
        try clear hfz41_0
        try clear hfz41_1
        try clear hfz41_2
        try clear hfz9_0
        try clear hfz9_1
        try clear hfz9_2
        try clear p2
        obtain⟨x68_3,x59006001_3,u59006001,rfl,HA,HK3,HO_59006001,BK59001,BK59002,BK59005,HB⟩:=hrel
        cases gk with
        | zero=>exact absurd HA.out (by simp[ZC.l1])
        | succ k3=>
         have H:=HA.out
         clear HA
         simp only[ZC.l1] at H
         by_cases c42:x68_3<(l0_1.length:Int)
         ·rw[if_pos c42] at H
          have c42b0:decide (x68_3<(l0_1.length:Int))=true:=Ze c42
          clear c42
          by_cases c43:0≤x68_3
          ·rw[if_pos c43] at H
           have c43b0:decide (0≤x68_3)=true:=Ze c43
           clear c43
           by_cases c44:x68_3<(l0_1.length:Int)
           ·rw[if_pos c44] at H
            have c44b0:decide (x68_3<(l0_1.length:Int))=true:=Ze c44
            clear c44
            obtain⟨bq45,hbq45⟩:∃b_:Bool,b_=((Zv l0_1 x68_3).f4):=⟨_,rfl⟩
            replace H:(if bq45=true then(ZC.l1 k3 l0_1 (l0_1.length:Int) (wrap64 (x68_3+1)) l0_0 l0_1 a0_2 (l0_0.length:Int) x59006001_3) else((ZV.f k3 l0_0 l0_1 a0_2 ((Zv l0_1 x68_3).f0) ((Zv l0_1 x68_3).f1)).bind fun bt59015=>((ZT.f k3 l0_0 l0_1 a0_2 ((Zv l0_1 x68_3).f0)).bind fun bt59017=>((ZT.f k3 l0_0 l0_1 a0_2 ((Zv l0_1 x68_3).f1)).bind fun bt59021=>(if x59006001_3.length<4398046511104 then(ZC.l1 k3 l0_1 (l0_1.length:Int) (wrap64 (x68_3+1)) l0_0 l0_1 a0_2 (l0_0.length:Int) (x59006001_3 ++ [(⟨bt59017.1,bt59021.1,(⟨wrap64 (((Zv l0_1 x68_3).f2)+bt59015.2),wrap64 (((Zv l0_1 x68_3).f3)+bt59015.1)⟩:S110)⟩:S112)])) else(none))))))=some (r1,r2,r3):=by rw[← hbq45] at H;exact H
            have Nbq45:=Za hbq45;clear hbq45
            by_cases c46:bq45=true
            ·subst c46
             have H1:(ZC.l1 k3 l0_1 (l0_1.length:Int) (wrap64 (x68_3+1)) l0_0 l0_1 a0_2 (l0_0.length:Int) x59006001_3)=some (r1,r2,r3):=by rw[if_pos rfl] at H;exact H
             clear H
             have H:=H1
             clear H1
             have H':=Za H
             clear H
             have p59013:0≤(x68_3:Int):=Zd (by first|(with_reducible assumption)|assumption)
             have q59013:x68_3<(l0_1.length:Int):=Zd (by first|(with_reducible assumption)|assumption)
             obtain⟨ad59013,e59013,hx59013_0,hx59013_1,hx59013_2,hx59013_3,hx59013_4⟩:=ZaH HR0_1.out x68_3 p59013 q59013
             (try rw[← Nbq45.out] at hx59013_4)
             cases e59013
             replace hx59013_0:=(HB.out.cell (Zc w _ hx59013_0)).trans hx59013_0
             replace hx59013_1:=(HB.out.cell (Zc w _ hx59013_1)).trans hx59013_1
             replace hx59013_2:=(HB.out.cell (Zc w _ hx59013_2)).trans hx59013_2
             replace hx59013_3:=(HB.out.cell (Zc w _ hx59013_3)).trans hx59013_3
             replace hx59013_4:=(HB.out.cell (Zc w _ hx59013_4)).trans hx59013_4
             replace p59013:=eq_true p59013
             replace q59013:=eq_true q59013
             go_wp2_with (first|((with_reducible refine ZI (N:=11) rfl ?_);refine ZH ?hg (N:=11) ?hd (cs:=#[.int .i64 0,.int .i64 0,.int .i64 0,.int .i64 0,.bool false]) (t:=90) ?hr ?_;(case hd=>rfl);(case hg=>rfl);(case hr=>first|(go_simp;done)|(go_simp;rfl));intro gb59014 hg w47 hbox hb;have BK59014:=Za (hbox);have GW59014:=Za ((by rw[hg];exact(Zx (by repeat(first|(with_reducible first|exact HB.out|apply Zn|apply Zm|apply Zt|refine Zq ?_ GE59001.out|refine Zq ?_ GE59002.out|refine Zq ?_ GE59005.out)|exact HB.out))):w.heap.size≤gb59014));have GE59014:=Za ((by rw[hg];exact(Zx (by repeat(first|(with_reducible first|exact HB.out|apply Zn|apply Zm|apply Zt|refine Zq ?_ GE59001.out|refine Zq ?_ GE59002.out|refine Zq ?_ GE59005.out)|exact HB.out))):w.heap.size≤gb59014));have NB59001_59014:=Za ((by rw[hg];exact Nat.ne_of_lt (ZO (g:=gb59001) (o:=.cells #[.slice A0_0 l0_0.length c0_0,.slice (some ad59013) l0_1.length c0_1,.int .i64 a0_2] 35 (0,0)) (by(with_reducible repeat(first|refine Zp ?_ _|refine Zu ?_|refine Zo ?_ _));exact BK59001.out)):gb59001≠gb59014));have NB59014_59001:=Za ((by rw[hg];exact Nat.ne_of_gt (ZO (g:=gb59001) (o:=.cells #[.slice A0_0 l0_0.length c0_0,.slice (some ad59013) l0_1.length c0_1,.int .i64 a0_2] 35 (0,0)) (by(with_reducible repeat(first|refine Zp ?_ _|refine Zu ?_|refine Zo ?_ _));exact BK59001.out)):gb59014≠gb59001));have NB59002_59014:=Za ((by rw[hg];exact Nat.ne_of_lt (ZO (g:=gb59002) (o:=.cells #[.int .i64 0,.slice none 0 0] 58 (0,0)) (by(with_reducible repeat(first|refine Zp ?_ _|refine Zu ?_|refine Zo ?_ _));exact BK59002.out)):gb59002≠gb59014));have NB59014_59002:=Za ((by rw[hg];exact Nat.ne_of_gt (ZO (g:=gb59002) (o:=.cells #[.int .i64 0,.slice none 0 0] 58 (0,0)) (by(with_reducible repeat(first|refine Zp ?_ _|refine Zu ?_|refine Zo ?_ _));exact BK59002.out)):gb59014≠gb59002));have NB59005_59014:=Za ((by rw[hg];exact Nat.ne_of_lt (ZO (g:=gb59005) (o:=.cells #[.int .i64 (l0_0.length:Int),u59006001] 58 (0,0)) (by(with_reducible repeat(first|refine Zp ?_ _|refine Zu ?_|refine Zo ?_ _));exact BK59005.out)):gb59005≠gb59014));have NB59014_59005:=Za ((by rw[hg];exact Nat.ne_of_gt (ZO (g:=gb59005) (o:=.cells #[.int .i64 (l0_0.length:Int),u59006001] 58 (0,0)) (by(with_reducible repeat(first|refine Zp ?_ _|refine Zu ?_|refine Zo ?_ _));exact BK59005.out)):gb59014≠gb59005));replace HO_59006001:=Za (Kd.R_below (by(with_reducible repeat(first|apply Kd.R_alloc|apply Kd.R_drewN|apply Kd.R_drew));exact HO_59006001.out) hb);replace BK59001:=Za (Zy (g:=gb59001) (o:=.cells #[.slice A0_0 l0_0.length c0_0,.slice (some ad59013) l0_1.length c0_1,.int .i64 a0_2] 35 (0,0)) (by(with_reducible repeat(first|refine Zp ?_ _|refine Zu ?_|refine Zo ?_ _));exact BK59001.out) hb);replace BK59002:=Za (Zy (g:=gb59002) (o:=.cells #[.int .i64 0,.slice none 0 0] 58 (0,0)) (by(with_reducible repeat(first|refine Zp ?_ _|refine Zu ?_|refine Zo ?_ _));exact BK59002.out) hb);replace BK59005:=Za (Zy (g:=gb59005) (o:=.cells #[.int .i64 (l0_0.length:Int),u59006001] 58 (0,0)) (by(with_reducible repeat(first|refine Zp ?_ _|refine Zu ?_|refine Zo ?_ _));exact BK59005.out) hb);replace HB:=Za (Zw (by repeat(first|(with_reducible first|exact HB.out|apply Zn|apply Zm|apply Zt|refine Zq ?_ GE59001.out|refine Zq ?_ GE59002.out|refine Zq ?_ GE59005.out)|exact HB.out)) hb);clear hb hbox hg;have hnb48:=NB59014_59001.out;have hnc48:=NB59001_59014.out;have hnb49:=NB59014_59002.out;have hnc49:=NB59002_59014.out;have hnb50:=NB59014_59005.out;have hnc50:=NB59005_59014.out;have hcz51_0:w47.cell? ⟨gb59014,0,none⟩=some (.int .i64 0):=(Zs BK59014.out 0).trans rfl;have hcz51_1:w47.cell? ⟨gb59014,1,none⟩=some (.int .i64 0):=(Zs BK59014.out 1).trans rfl;have hcz51_2:w47.cell? ⟨gb59014,2,none⟩=some (.int .i64 0):=(Zs BK59014.out 2).trans rfl;have hcz51_3:w47.cell? ⟨gb59014,3,none⟩=some (.int .i64 0):=(Zs BK59014.out 3).trans rfl;have hcz51_4:w47.cell? ⟨gb59014,4,none⟩=some (.bool false):=(Zs BK59014.out 4).trans rfl;have hfz51_0:=Zr BK59014.out 0;have hfz51_1:=Zr BK59014.out 1;have hfz51_2:=Zr BK59014.out 2;have hfz51_3:=Zr BK59014.out 3;have hfz51_4:=Zr BK59014.out 4))
             go_roundg k3
             case measure=>have:=HJ1.out;have:=HK2.out;have:=HK3.out;omega
             case rel=>exact⟨(wrap64 (x68_3+1)),(x59006001_3),(u59006001),(by first|rfl|(simp;done)|(simp[*];done)),H',⟨by have:=HJ1.out;have:=HK2.out;have:=HK3.out;omega⟩,⟨by(with_reducible repeat(first|apply Kd.R_alloc|apply Kd.R_drewN|apply Kd.R_drew));exact Kd.R_mono (Kd.R_far (p:=⟨gb59014,4,none⟩) (Kd.R_far (p:=⟨gb59014,3,none⟩) (Kd.R_far (p:=⟨gb59014,2,none⟩) (Kd.R_far (p:=⟨gb59014,1,none⟩) (Kd.R_far (p:=⟨gb59014,0,none⟩) (Kd.R_types HO_59006001.out BK59014.out (by decide)) (fun _ hk=>hk.2) (.int .i64 ((Zv l0_1 x68_3).f0))) (fun _ hk=>hk.2) (.int .i64 ((Zv l0_1 x68_3).f1))) (fun _ hk=>hk.2) (.int .i64 ((Zv l0_1 x68_3).f2))) (fun _ hk=>hk.2) (.int .i64 ((Zv l0_1 x68_3).f3))) (fun _ hk=>hk.2) (.bool true)) (fun _ hk=>trivial)⟩,⟨by(with_reducible repeat(first|refine Zp ?_ _|refine Zu ?_|refine Zo ?_ _));refine ZD ?_ NB59001_59014.out _;(with_reducible repeat(first|refine Zp ?_ _|refine Zu ?_|refine Zo ?_ _));refine ZD ?_ NB59001_59014.out _;(with_reducible repeat(first|refine Zp ?_ _|refine Zu ?_|refine Zo ?_ _));refine ZD ?_ NB59001_59014.out _;(with_reducible repeat(first|refine Zp ?_ _|refine Zu ?_|refine Zo ?_ _));refine ZD ?_ NB59001_59014.out _;(with_reducible repeat(first|refine Zp ?_ _|refine Zu ?_|refine Zo ?_ _));refine ZD ?_ NB59001_59014.out _;(with_reducible repeat(first|refine Zp ?_ _|refine Zu ?_|refine Zo ?_ _));exact BK59001.out⟩,⟨by(with_reducible repeat(first|refine Zp ?_ _|refine Zu ?_|refine Zo ?_ _));refine ZD ?_ NB59002_59014.out _;(with_reducible repeat(first|refine Zp ?_ _|refine Zu ?_|refine Zo ?_ _));refine ZD ?_ NB59002_59014.out _;(with_reducible repeat(first|refine Zp ?_ _|refine Zu ?_|refine Zo ?_ _));refine ZD ?_ NB59002_59014.out _;(with_reducible repeat(first|refine Zp ?_ _|refine Zu ?_|refine Zo ?_ _));refine ZD ?_ NB59002_59014.out _;(with_reducible repeat(first|refine Zp ?_ _|refine Zu ?_|refine Zo ?_ _));refine ZD ?_ NB59002_59014.out _;(with_reducible repeat(first|refine Zp ?_ _|refine Zu ?_|refine Zo ?_ _));exact BK59002.out⟩,⟨by(with_reducible repeat(first|refine Zp ?_ _|refine Zu ?_|refine Zo ?_ _));refine ZD ?_ NB59005_59014.out _;(with_reducible repeat(first|refine Zp ?_ _|refine Zu ?_|refine Zo ?_ _));refine ZD ?_ NB59005_59014.out _;(with_reducible repeat(first|refine Zp ?_ _|refine Zu ?_|refine Zo ?_ _));refine ZD ?_ NB59005_59014.out _;(with_reducible repeat(first|refine Zp ?_ _|refine Zu ?_|refine Zo ?_ _));refine ZD ?_ NB59005_59014.out _;(with_reducible repeat(first|refine Zp ?_ _|refine Zu ?_|refine Zo ?_ _));refine ZD ?_ NB59005_59014.out _;(with_reducible repeat(first|refine Zp ?_ _|refine Zu ?_|refine Zo ?_ _));exact BK59005.out⟩,⟨by repeat(first|(with_reducible first|exact HB.out|apply Zn|apply Zm|apply Zt|refine Zq ?_ GE59001.out|refine Zq ?_ GE59002.out|refine Zq ?_ GE59005.out|refine Zq ?_ GE59014.out)|exact HB.out)⟩⟩
            ·replace c46:=Bool.eq_false_iff.mpr c46
             subst c46
             have H1:((ZV.f k3 l0_0 l0_1 a0_2 ((Zv l0_1 x68_3).f0) ((Zv l0_1 x68_3).f1)).bind fun bt59015=>((ZT.f k3 l0_0 l0_1 a0_2 ((Zv l0_1 x68_3).f0)).bind fun bt59017=>((ZT.f k3 l0_0 l0_1 a0_2 ((Zv l0_1 x68_3).f1)).bind fun bt59021=>(if x59006001_3.length<4398046511104 then(ZC.l1 k3 l0_1 (l0_1.length:Int) (wrap64 (x68_3+1)) l0_0 l0_1 a0_2 (l0_0.length:Int) (x59006001_3 ++ [(⟨bt59017.1,bt59021.1,(⟨wrap64 (((Zv l0_1 x68_3).f2)+bt59015.2),wrap64 (((Zv l0_1 x68_3).f3)+bt59015.1)⟩:S110)⟩:S112)])) else(none)))))=some (r1,r2,r3):=by rw[if_neg (show ¬(false=true) by decide)] at H;exact H
             clear H
             have H:=H1
             clear H1
             replace H:=Zh H
             obtain⟨⟨t59015,t59016⟩,A520,H⟩:=H
             replace H:((ZT.f k3 l0_0 l0_1 a0_2 ((Zv l0_1 x68_3).f0)).bind fun bt59017=>((ZT.f k3 l0_0 l0_1 a0_2 ((Zv l0_1 x68_3).f1)).bind fun bt59021=>(if x59006001_3.length<4398046511104 then(ZC.l1 k3 l0_1 (l0_1.length:Int) (wrap64 (x68_3+1)) l0_0 l0_1 a0_2 (l0_0.length:Int) (x59006001_3 ++ [(⟨bt59017.1,bt59021.1,(⟨wrap64 (((Zv l0_1 x68_3).f2)+t59016),wrap64 (((Zv l0_1 x68_3).f3)+t59015)⟩:S110)⟩:S112)])) else(none))))=some (r1,r2,r3):=H
             have A52:=Za A520;clear A520
             replace H:=Zh H
             obtain⟨⟨t59017,t59018,t59019,t59020⟩,A530,H⟩:=H
             replace H:((ZT.f k3 l0_0 l0_1 a0_2 ((Zv l0_1 x68_3).f1)).bind fun bt59021=>(if x59006001_3.length<4398046511104 then(ZC.l1 k3 l0_1 (l0_1.length:Int) (wrap64 (x68_3+1)) l0_0 l0_1 a0_2 (l0_0.length:Int) (x59006001_3 ++ [(⟨t59017,bt59021.1,(⟨wrap64 (((Zv l0_1 x68_3).f2)+t59016),wrap64 (((Zv l0_1 x68_3).f3)+t59015)⟩:S110)⟩:S112)])) else(none)))=some (r1,r2,r3):=H
             have A53:=Za A530;clear A530
             replace H:=Zh H
             obtain⟨⟨t59021,t59022,t59023,t59024⟩,A540,H⟩:=H
             replace H:(if x59006001_3.length<4398046511104 then(ZC.l1 k3 l0_1 (l0_1.length:Int) (wrap64 (x68_3+1)) l0_0 l0_1 a0_2 (l0_0.length:Int) (x59006001_3 ++ [(⟨t59017,t59021,(⟨wrap64 (((Zv l0_1 x68_3).f2)+t59016),wrap64 (((Zv l0_1 x68_3).f3)+t59015)⟩:S110)⟩:S112)])) else(none))=some (r1,r2,r3):=H
             have A54:=Za A540;clear A540
             by_cases c55:x59006001_3.length<4398046511104
             ·rw[if_pos c55] at H
              have LMc55:=Za c55;clear c55
              obtain⟨y59025,hy59025⟩:∃y_:List (S112),y_=(x59006001_3 ++ [(⟨t59017,t59021,(⟨wrap64 (((Zv l0_1 x68_3).f2)+t59016),wrap64 (((Zv l0_1 x68_3).f3)+t59015)⟩:S110)⟩:S112)]):=⟨_,rfl⟩
              replace H:(ZC.l1 k3 l0_1 (l0_1.length:Int) (wrap64 (x68_3+1)) l0_0 l0_1 a0_2 (l0_0.length:Int) y59025)=some (r1,r2,r3):=by first|(rw[hy59025];with_reducible exact H)|(have H2_:=(Zi _ _).symm.trans H;rw[hy59025];with_reducible exact H2_)|(have H2_:=(Zi _ _).symm.trans H;with_reducible exact H2_)|with_reducible exact H|(rw[hy59025];exact H)|exact H
              have Ny59025:=Za hy59025;clear hy59025
              have H':=Za H
              clear H
              have p59013:0≤(x68_3:Int):=Zd (by first|(with_reducible assumption)|assumption)
              have q59013:x68_3<(l0_1.length:Int):=Zd (by first|(with_reducible assumption)|assumption)
              obtain⟨ad59013,e59013,hx59013_0,hx59013_1,hx59013_2,hx59013_3,hx59013_4⟩:=ZaH HR0_1.out x68_3 p59013 q59013
              (try rw[← Nbq45.out] at hx59013_4)
              cases e59013
              replace hx59013_0:=(HB.out.cell (Zc w _ hx59013_0)).trans hx59013_0
              replace hx59013_1:=(HB.out.cell (Zc w _ hx59013_1)).trans hx59013_1
              replace hx59013_2:=(HB.out.cell (Zc w _ hx59013_2)).trans hx59013_2
              replace hx59013_3:=(HB.out.cell (Zc w _ hx59013_3)).trans hx59013_3
              replace hx59013_4:=(HB.out.cell (Zc w _ hx59013_4)).trans hx59013_4
              replace p59013:=eq_true p59013
              replace q59013:=eq_true q59013
              go_wp2_with (first|((with_reducible refine ZI (N:=11) rfl ?_);refine ZH ?hg (N:=11) ?hd (cs:=#[.int .i64 0,.int .i64 0,.int .i64 0,.int .i64 0,.bool false]) (t:=90) ?hr ?_;(case hd=>rfl);(case hg=>rfl);(case hr=>first|(go_simp;done)|(go_simp;rfl));intro gb59014 hg w56 hbox hb;have BK59014:=Za (hbox);have GW59014:=Za ((by rw[hg];exact(Zx (by repeat(first|(with_reducible first|exact HB.out|apply Zn|apply Zm|apply Zt|refine Zq ?_ GE59001.out|refine Zq ?_ GE59002.out|refine Zq ?_ GE59005.out)|exact HB.out))):w.heap.size≤gb59014));have GE59014:=Za ((by rw[hg];exact(Zx (by repeat(first|(with_reducible first|exact HB.out|apply Zn|apply Zm|apply Zt|refine Zq ?_ GE59001.out|refine Zq ?_ GE59002.out|refine Zq ?_ GE59005.out)|exact HB.out))):w.heap.size≤gb59014));have NB59001_59014:=Za ((by rw[hg];exact Nat.ne_of_lt (ZO (g:=gb59001) (o:=.cells #[.slice A0_0 l0_0.length c0_0,.slice (some ad59013) l0_1.length c0_1,.int .i64 a0_2] 35 (0,0)) (by(with_reducible repeat(first|refine Zp ?_ _|refine Zu ?_|refine Zo ?_ _));exact BK59001.out)):gb59001≠gb59014));have NB59014_59001:=Za ((by rw[hg];exact Nat.ne_of_gt (ZO (g:=gb59001) (o:=.cells #[.slice A0_0 l0_0.length c0_0,.slice (some ad59013) l0_1.length c0_1,.int .i64 a0_2] 35 (0,0)) (by(with_reducible repeat(first|refine Zp ?_ _|refine Zu ?_|refine Zo ?_ _));exact BK59001.out)):gb59014≠gb59001));have NB59002_59014:=Za ((by rw[hg];exact Nat.ne_of_lt (ZO (g:=gb59002) (o:=.cells #[.int .i64 0,.slice none 0 0] 58 (0,0)) (by(with_reducible repeat(first|refine Zp ?_ _|refine Zu ?_|refine Zo ?_ _));exact BK59002.out)):gb59002≠gb59014));have NB59014_59002:=Za ((by rw[hg];exact Nat.ne_of_gt (ZO (g:=gb59002) (o:=.cells #[.int .i64 0,.slice none 0 0] 58 (0,0)) (by(with_reducible repeat(first|refine Zp ?_ _|refine Zu ?_|refine Zo ?_ _));exact BK59002.out)):gb59014≠gb59002));have NB59005_59014:=Za ((by rw[hg];exact Nat.ne_of_lt (ZO (g:=gb59005) (o:=.cells #[.int .i64 (l0_0.length:Int),u59006001] 58 (0,0)) (by(with_reducible repeat(first|refine Zp ?_ _|refine Zu ?_|refine Zo ?_ _));exact BK59005.out)):gb59005≠gb59014));have NB59014_59005:=Za ((by rw[hg];exact Nat.ne_of_gt (ZO (g:=gb59005) (o:=.cells #[.int .i64 (l0_0.length:Int),u59006001] 58 (0,0)) (by(with_reducible repeat(first|refine Zp ?_ _|refine Zu ?_|refine Zo ?_ _));exact BK59005.out)):gb59014≠gb59005));replace HO_59006001:=Za (Kd.R_below (by(with_reducible repeat(first|apply Kd.R_alloc|apply Kd.R_drewN|apply Kd.R_drew));exact HO_59006001.out) hb);replace BK59001:=Za (Zy (g:=gb59001) (o:=.cells #[.slice A0_0 l0_0.length c0_0,.slice (some ad59013) l0_1.length c0_1,.int .i64 a0_2] 35 (0,0)) (by(with_reducible repeat(first|refine Zp ?_ _|refine Zu ?_|refine Zo ?_ _));exact BK59001.out) hb);replace BK59002:=Za (Zy (g:=gb59002) (o:=.cells #[.int .i64 0,.slice none 0 0] 58 (0,0)) (by(with_reducible repeat(first|refine Zp ?_ _|refine Zu ?_|refine Zo ?_ _));exact BK59002.out) hb);replace BK59005:=Za (Zy (g:=gb59005) (o:=.cells #[.int .i64 (l0_0.length:Int),u59006001] 58 (0,0)) (by(with_reducible repeat(first|refine Zp ?_ _|refine Zu ?_|refine Zo ?_ _));exact BK59005.out) hb);replace HB:=Za (Zw (by repeat(first|(with_reducible first|exact HB.out|apply Zn|apply Zm|apply Zt|refine Zq ?_ GE59001.out|refine Zq ?_ GE59002.out|refine Zq ?_ GE59005.out)|exact HB.out)) hb);clear hb hbox hg;have hnb57:=NB59014_59001.out;have hnc57:=NB59001_59014.out;have hnb58:=NB59014_59002.out;have hnc58:=NB59002_59014.out;have hnb59:=NB59014_59005.out;have hnc59:=NB59005_59014.out;have hcz60_0:w56.cell? ⟨gb59014,0,none⟩=some (.int .i64 0):=(Zs BK59014.out 0).trans rfl;have hcz60_1:w56.cell? ⟨gb59014,1,none⟩=some (.int .i64 0):=(Zs BK59014.out 1).trans rfl;have hcz60_2:w56.cell? ⟨gb59014,2,none⟩=some (.int .i64 0):=(Zs BK59014.out 2).trans rfl;have hcz60_3:w56.cell? ⟨gb59014,3,none⟩=some (.int .i64 0):=(Zs BK59014.out 3).trans rfl;have hcz60_4:w56.cell? ⟨gb59014,4,none⟩=some (.bool false):=(Zs BK59014.out 4).trans rfl;have hfz60_0:=Zr BK59014.out 0;have hfz60_1:=Zr BK59014.out 1;have hfz60_2:=Zr BK59014.out 2;have hfz60_3:=Zr BK59014.out 3;have hfz60_4:=Zr BK59014.out 4;have hnb61:=NB59001_59002.out;have hnc61:=NB59002_59001.out;have hnb62:=NB59001_59005.out;have hnc62:=NB59005_59001.out;have hcz63_0:w56.cell? ⟨gb59001,0,none⟩=some (.slice A0_0 l0_0.length c0_0):=(Zs BK59001.out 0).trans rfl;have hcz63_1:w56.cell? ⟨gb59001,1,none⟩=some (.slice (some ad59013) l0_1.length c0_1):=(Zs BK59001.out 1).trans rfl;have hcz63_2:w56.cell? ⟨gb59001,2,none⟩=some (.int .i64 a0_2):=(Zs BK59001.out 2).trans rfl;have hfz63_0:=Zr BK59001.out 0;have hfz63_1:=Zr BK59001.out 1;have hfz63_2:=Zr BK59001.out 2)|((with_reducible refine ZG (f:=111) rfl ?_);refine ZQ (some 80) rfl rfl Try.func111 (by kernel_rfl) rfl #[.agg #[.slice A0_0 l0_0.length c0_0,.slice (some ad59013) l0_1.length c0_1,.int .i64 a0_2],.int .i64 ((Zv l0_1 x68_3).f0),.int .i64 ((Zv l0_1 x68_3).f1)] rfl (by(try simp only[List.map_toArray,List.map_cons,List.map_nil]);first|done|rfl|(simp only[Zk,Zj];rfl)) ?_;(with_reducible refine(ZV.calls k3 _ _ l0_0 _ _ l0_1 a0_2 ((Zv l0_1 x68_3).f0) ((Zv l0_1 x68_3).f1) t59015 t59016 _ ?side1 ?side2 ?side3 ?side4 A52.out).mono ?_);(case side1=>exact Zb HR0_0.out (by repeat(first|(with_reducible first|exact HB.out|apply Zn|apply Zm|apply Zt|refine Zq ?_ GE59001.out|refine Zq ?_ GE59002.out|refine Zq ?_ GE59005.out|refine Zq ?_ GE59014.out)|exact HB.out)));(case side2=>exact HC0_0.out);(case side3=>exact Zb HR0_1.out (by repeat(first|(with_reducible first|exact HB.out|apply Zn|apply Zm|apply Zt|refine Zq ?_ GE59001.out|refine Zq ?_ GE59002.out|refine Zq ?_ GE59005.out|refine Zq ?_ GE59014.out)|exact HB.out)));(case side4=>exact HC0_1.out);rintro e w64 ⟨rfl,hb⟩;refine⟨_,rfl,?_⟩;replace HO_59006001:=Za (Kd.R_below (by(with_reducible repeat(first|apply Kd.R_alloc|apply Kd.R_drewN|apply Kd.R_drew));exact(Kd.R_mono (Kd.R_far (p:=⟨gb59014,4,none⟩) (Kd.R_far (p:=⟨gb59014,3,none⟩) (Kd.R_far (p:=⟨gb59014,2,none⟩) (Kd.R_far (p:=⟨gb59014,1,none⟩) (Kd.R_far (p:=⟨gb59014,0,none⟩) (Kd.R_types HO_59006001.out BK59014.out (by decide)) (fun _ hk=>hk.2) (.int .i64 ((Zv l0_1 x68_3).f0))) (fun _ hk=>hk.2) (.int .i64 ((Zv l0_1 x68_3).f1))) (fun _ hk=>hk.2) (.int .i64 ((Zv l0_1 x68_3).f2))) (fun _ hk=>hk.2) (.int .i64 ((Zv l0_1 x68_3).f3))) (fun _ hk=>hk.2) (.bool false)) (fun _ h_=>h_.1))) hb);replace BK59001:=Za (Zy (g:=gb59001) (o:=.cells #[.slice A0_0 l0_0.length c0_0,.slice (some ad59013) l0_1.length c0_1,.int .i64 a0_2] 35 (0,0)) (by(with_reducible repeat(first|refine Zp ?_ _|refine Zu ?_|refine Zo ?_ _));refine ZD ?_ NB59001_59014.out _;(with_reducible repeat(first|refine Zp ?_ _|refine Zu ?_|refine Zo ?_ _));refine ZD ?_ NB59001_59014.out _;(with_reducible repeat(first|refine Zp ?_ _|refine Zu ?_|refine Zo ?_ _));refine ZD ?_ NB59001_59014.out _;(with_reducible repeat(first|refine Zp ?_ _|refine Zu ?_|refine Zo ?_ _));refine ZD ?_ NB59001_59014.out _;(with_reducible repeat(first|refine Zp ?_ _|refine Zu ?_|refine Zo ?_ _));refine ZD ?_ NB59001_59014.out _;(with_reducible repeat(first|refine Zp ?_ _|refine Zu ?_|refine Zo ?_ _));exact BK59001.out) hb);replace BK59002:=Za (Zy (g:=gb59002) (o:=.cells #[.int .i64 0,.slice none 0 0] 58 (0,0)) (by(with_reducible repeat(first|refine Zp ?_ _|refine Zu ?_|refine Zo ?_ _));refine ZD ?_ NB59002_59014.out _;(with_reducible repeat(first|refine Zp ?_ _|refine Zu ?_|refine Zo ?_ _));refine ZD ?_ NB59002_59014.out _;(with_reducible repeat(first|refine Zp ?_ _|refine Zu ?_|refine Zo ?_ _));refine ZD ?_ NB59002_59014.out _;(with_reducible repeat(first|refine Zp ?_ _|refine Zu ?_|refine Zo ?_ _));refine ZD ?_ NB59002_59014.out _;(with_reducible repeat(first|refine Zp ?_ _|refine Zu ?_|refine Zo ?_ _));refine ZD ?_ NB59002_59014.out _;(with_reducible repeat(first|refine Zp ?_ _|refine Zu ?_|refine Zo ?_ _));exact BK59002.out) hb);replace BK59005:=Za (Zy (g:=gb59005) (o:=.cells #[.int .i64 (l0_0.length:Int),u59006001] 58 (0,0)) (by(with_reducible repeat(first|refine Zp ?_ _|refine Zu ?_|refine Zo ?_ _));refine ZD ?_ NB59005_59014.out _;(with_reducible repeat(first|refine Zp ?_ _|refine Zu ?_|refine Zo ?_ _));refine ZD ?_ NB59005_59014.out _;(with_reducible repeat(first|refine Zp ?_ _|refine Zu ?_|refine Zo ?_ _));refine ZD ?_ NB59005_59014.out _;(with_reducible repeat(first|refine Zp ?_ _|refine Zu ?_|refine Zo ?_ _));refine ZD ?_ NB59005_59014.out _;(with_reducible repeat(first|refine Zp ?_ _|refine Zu ?_|refine Zo ?_ _));refine ZD ?_ NB59005_59014.out _;(with_reducible repeat(first|refine Zp ?_ _|refine Zu ?_|refine Zo ?_ _));exact BK59005.out) hb);replace BK59014:=Za (Zy (g:=gb59014) (o:=.cells #[.int .i64 ((Zv l0_1 x68_3).f0),.int .i64 ((Zv l0_1 x68_3).f1),.int .i64 ((Zv l0_1 x68_3).f2),.int .i64 ((Zv l0_1 x68_3).f3),.bool false] 90 (0,0)) (by(with_reducible repeat(first|refine Zp ?_ _|refine Zu ?_|refine Zo ?_ _));refine ZL (cs:=#[.int .i64 ((Zv l0_1 x68_3).f0),.int .i64 ((Zv l0_1 x68_3).f1),.int .i64 ((Zv l0_1 x68_3).f2),.int .i64 ((Zv l0_1 x68_3).f3),.bool false]) ?_ 4 _ rfl;(with_reducible repeat(first|refine Zp ?_ _|refine Zu ?_|refine Zo ?_ _));refine ZL (cs:=#[.int .i64 ((Zv l0_1 x68_3).f0),.int .i64 ((Zv l0_1 x68_3).f1),.int .i64 ((Zv l0_1 x68_3).f2),.int .i64 0,.bool false]) ?_ 3 _ rfl;(with_reducible repeat(first|refine Zp ?_ _|refine Zu ?_|refine Zo ?_ _));refine ZL (cs:=#[.int .i64 ((Zv l0_1 x68_3).f0),.int .i64 ((Zv l0_1 x68_3).f1),.int .i64 0,.int .i64 0,.bool false]) ?_ 2 _ rfl;(with_reducible repeat(first|refine Zp ?_ _|refine Zu ?_|refine Zo ?_ _));refine ZL (cs:=#[.int .i64 ((Zv l0_1 x68_3).f0),.int .i64 0,.int .i64 0,.int .i64 0,.bool false]) ?_ 1 _ rfl;(with_reducible repeat(first|refine Zp ?_ _|refine Zu ?_|refine Zo ?_ _));refine ZL (cs:=#[.int .i64 0,.int .i64 0,.int .i64 0,.int .i64 0,.bool false]) ?_ 0 _ rfl;(with_reducible repeat(first|refine Zp ?_ _|refine Zu ?_|refine Zo ?_ _));exact BK59014.out) hb);replace HB:=Za (Zw (by repeat(first|(with_reducible first|exact HB.out|apply Zn|apply Zm|apply Zt|refine Zq ?_ GE59001.out|refine Zq ?_ GE59002.out|refine Zq ?_ GE59005.out|refine Zq ?_ GE59014.out)|exact HB.out)) hb);(try clear hb);(try clear hb2);(try clear hk);(try clear hi);have hcz65_0:w64.cell? ⟨gb59001,0,none⟩=some (.slice A0_0 l0_0.length c0_0):=(Zs BK59001.out 0).trans rfl;have hcz65_1:w64.cell? ⟨gb59001,1,none⟩=some (.slice (some ad59013) l0_1.length c0_1):=(Zs BK59001.out 1).trans rfl;have hcz65_2:w64.cell? ⟨gb59001,2,none⟩=some (.int .i64 a0_2):=(Zs BK59001.out 2).trans rfl;have hfz65_0:=Zr BK59001.out 0;have hfz65_1:=Zr BK59001.out 1;have hfz65_2:=Zr BK59001.out 2;have hcz66_0:w64.cell? ⟨gb59014,0,none⟩=some (.int .i64 ((Zv l0_1 x68_3).f0)):=(Zs BK59014.out 0).trans rfl;have hcz66_1:w64.cell? ⟨gb59014,1,none⟩=some (.int .i64 ((Zv l0_1 x68_3).f1)):=(Zs BK59014.out 1).trans rfl;have hcz66_2:w64.cell? ⟨gb59014,2,none⟩=some (.int .i64 ((Zv l0_1 x68_3).f2)):=(Zs BK59014.out 2).trans rfl;have hcz66_3:w64.cell? ⟨gb59014,3,none⟩=some (.int .i64 ((Zv l0_1 x68_3).f3)):=(Zs BK59014.out 3).trans rfl;have hcz66_4:w64.cell? ⟨gb59014,4,none⟩=some (.bool false):=(Zs BK59014.out 4).trans rfl;have hfz66_0:=Zr BK59014.out 0;have hfz66_1:=Zr BK59014.out 1;have hfz66_2:=Zr BK59014.out 2;have hfz66_3:=Zr BK59014.out 3;have hfz66_4:=Zr BK59014.out 4)|((with_reducible refine ZG (f:=108) rfl ?_);refine ZQ (some 87) rfl rfl Try.func108 (by kernel_rfl) rfl #[.agg #[.slice A0_0 l0_0.length c0_0,.slice (some ad59013) l0_1.length c0_1,.int .i64 a0_2],.int .i64 ((Zv l0_1 x68_3).f0)] rfl (by(try simp only[List.map_toArray,List.map_cons,List.map_nil]);first|done|rfl|(simp only[Zk,Zj];rfl)) ?_;(with_reducible refine(ZT.calls k3 _ _ l0_0 _ _ l0_1 a0_2 ((Zv l0_1 x68_3).f0) t59017 t59018 t59019 t59020 _ ?side1 ?side2 ?side3 ?side4 A53.out).mono ?_);(case side1=>repeat(first|exact(Zb HR0_0.out HB.out)|(with_reducible refine Kd.C_alloc ?_ _)|(with_reducible refine Kd.C_drewN ?_ _)|(with_reducible refine Kd.C_drew ?_)));(case side2=>exact HC0_0.out);(case side3=>repeat(first|exact(Zb HR0_1.out HB.out)|(with_reducible refine Kd.C_alloc ?_ _)|(with_reducible refine Kd.C_drewN ?_ _)|(with_reducible refine Kd.C_drew ?_)));(case side4=>exact HC0_1.out);rintro e w67 ⟨rfl,hb⟩;refine⟨_,rfl,?_⟩;replace HO_59006001:=Za (Kd.R_below (by(with_reducible repeat(first|apply Kd.R_alloc|apply Kd.R_drewN|apply Kd.R_drew));exact HO_59006001.out) hb);replace BK59001:=Za (Zy (g:=gb59001) (o:=.cells #[.slice A0_0 l0_0.length c0_0,.slice (some ad59013) l0_1.length c0_1,.int .i64 a0_2] 35 (0,0)) (by(with_reducible repeat(first|refine Zp ?_ _|refine Zu ?_|refine Zo ?_ _));exact BK59001.out) hb);replace BK59002:=Za (Zy (g:=gb59002) (o:=.cells #[.int .i64 0,.slice none 0 0] 58 (0,0)) (by(with_reducible repeat(first|refine Zp ?_ _|refine Zu ?_|refine Zo ?_ _));exact BK59002.out) hb);replace BK59005:=Za (Zy (g:=gb59005) (o:=.cells #[.int .i64 (l0_0.length:Int),u59006001] 58 (0,0)) (by(with_reducible repeat(first|refine Zp ?_ _|refine Zu ?_|refine Zo ?_ _));exact BK59005.out) hb);replace BK59014:=Za (Zy (g:=gb59014) (o:=.cells #[.int .i64 ((Zv l0_1 x68_3).f0),.int .i64 ((Zv l0_1 x68_3).f1),.int .i64 ((Zv l0_1 x68_3).f2),.int .i64 ((Zv l0_1 x68_3).f3),.bool false] 90 (0,0)) (by(with_reducible repeat(first|refine Zp ?_ _|refine Zu ?_|refine Zo ?_ _));exact BK59014.out) hb);replace HB:=Za (Zw (by repeat(first|(with_reducible first|exact HB.out|apply Zn|apply Zm|apply Zt|refine Zq ?_ GE59001.out|refine Zq ?_ GE59002.out|refine Zq ?_ GE59005.out|refine Zq ?_ GE59014.out)|exact HB.out)) hb);(try clear hb);(try clear hb2);(try clear hk);(try clear hi);have hcz68_0:w67.cell? ⟨gb59001,0,none⟩=some (.slice A0_0 l0_0.length c0_0):=(Zs BK59001.out 0).trans rfl;have hcz68_1:w67.cell? ⟨gb59001,1,none⟩=some (.slice (some ad59013) l0_1.length c0_1):=(Zs BK59001.out 1).trans rfl;have hcz68_2:w67.cell? ⟨gb59001,2,none⟩=some (.int .i64 a0_2):=(Zs BK59001.out 2).trans rfl;have hfz68_0:=Zr BK59001.out 0;have hfz68_1:=Zr BK59001.out 1;have hfz68_2:=Zr BK59001.out 2;have hcz69_0:w67.cell? ⟨gb59014,0,none⟩=some (.int .i64 ((Zv l0_1 x68_3).f0)):=(Zs BK59014.out 0).trans rfl;have hcz69_1:w67.cell? ⟨gb59014,1,none⟩=some (.int .i64 ((Zv l0_1 x68_3).f1)):=(Zs BK59014.out 1).trans rfl;have hcz69_2:w67.cell? ⟨gb59014,2,none⟩=some (.int .i64 ((Zv l0_1 x68_3).f2)):=(Zs BK59014.out 2).trans rfl;have hcz69_3:w67.cell? ⟨gb59014,3,none⟩=some (.int .i64 ((Zv l0_1 x68_3).f3)):=(Zs BK59014.out 3).trans rfl;have hcz69_4:w67.cell? ⟨gb59014,4,none⟩=some (.bool false):=(Zs BK59014.out 4).trans rfl;have hfz69_0:=Zr BK59014.out 0;have hfz69_1:=Zr BK59014.out 1;have hfz69_2:=Zr BK59014.out 2;have hfz69_3:=Zr BK59014.out 3;have hfz69_4:=Zr BK59014.out 4)|((with_reducible refine ZG (f:=108) rfl ?_);refine ZQ (some 96) rfl rfl Try.func108 (by kernel_rfl) rfl #[.agg #[.slice A0_0 l0_0.length c0_0,.slice (some ad59013) l0_1.length c0_1,.int .i64 a0_2],.int .i64 ((Zv l0_1 x68_3).f1)] rfl (by(try simp only[List.map_toArray,List.map_cons,List.map_nil]);first|done|rfl|(simp only[Zk,Zj];rfl)) ?_;(with_reducible refine(ZT.calls k3 _ _ l0_0 _ _ l0_1 a0_2 ((Zv l0_1 x68_3).f1) t59021 t59022 t59023 t59024 _ ?side1 ?side2 ?side3 ?side4 A54.out).mono ?_);(case side1=>repeat(first|exact(Zb HR0_0.out HB.out)|(with_reducible refine Kd.C_alloc ?_ _)|(with_reducible refine Kd.C_drewN ?_ _)|(with_reducible refine Kd.C_drew ?_)));(case side2=>exact HC0_0.out);(case side3=>repeat(first|exact(Zb HR0_1.out HB.out)|(with_reducible refine Kd.C_alloc ?_ _)|(with_reducible refine Kd.C_drewN ?_ _)|(with_reducible refine Kd.C_drew ?_)));(case side4=>exact HC0_1.out);rintro e w70 ⟨rfl,hb⟩;refine⟨_,rfl,?_⟩;replace HO_59006001:=Za (Kd.R_below (by(with_reducible repeat(first|apply Kd.R_alloc|apply Kd.R_drewN|apply Kd.R_drew));exact HO_59006001.out) hb);replace BK59001:=Za (Zy (g:=gb59001) (o:=.cells #[.slice A0_0 l0_0.length c0_0,.slice (some ad59013) l0_1.length c0_1,.int .i64 a0_2] 35 (0,0)) (by(with_reducible repeat(first|refine Zp ?_ _|refine Zu ?_|refine Zo ?_ _));exact BK59001.out) hb);replace BK59002:=Za (Zy (g:=gb59002) (o:=.cells #[.int .i64 0,.slice none 0 0] 58 (0,0)) (by(with_reducible repeat(first|refine Zp ?_ _|refine Zu ?_|refine Zo ?_ _));exact BK59002.out) hb);replace BK59005:=Za (Zy (g:=gb59005) (o:=.cells #[.int .i64 (l0_0.length:Int),u59006001] 58 (0,0)) (by(with_reducible repeat(first|refine Zp ?_ _|refine Zu ?_|refine Zo ?_ _));exact BK59005.out) hb);replace BK59014:=Za (Zy (g:=gb59014) (o:=.cells #[.int .i64 ((Zv l0_1 x68_3).f0),.int .i64 ((Zv l0_1 x68_3).f1),.int .i64 ((Zv l0_1 x68_3).f2),.int .i64 ((Zv l0_1 x68_3).f3),.bool false] 90 (0,0)) (by(with_reducible repeat(first|refine Zp ?_ _|refine Zu ?_|refine Zo ?_ _));exact BK59014.out) hb);replace HB:=Za (Zw (by repeat(first|(with_reducible first|exact HB.out|apply Zn|apply Zm|apply Zt|refine Zq ?_ GE59001.out|refine Zq ?_ GE59002.out|refine Zq ?_ GE59005.out|refine Zq ?_ GE59014.out)|exact HB.out)) hb);(try clear hb);(try clear hb2);(try clear hk);(try clear hi);have hnb71:=NB59005_59002.out;have hnc71:=NB59002_59005.out;have hcz72_0:w70.cell? ⟨gb59005,0,none⟩=some (.int .i64 (l0_0.length:Int)):=(Zs BK59005.out 0).trans rfl;have hcz72_1:w70.cell? ⟨gb59005,1,none⟩=some (u59006001):=(Zs BK59005.out 1).trans rfl;have hfz72_0:=Zr BK59005.out 0;have hfz72_1:=Zr BK59005.out 1;have hcz73_0:w70.cell? ⟨gb59014,0,none⟩=some (.int .i64 ((Zv l0_1 x68_3).f0)):=(Zs BK59014.out 0).trans rfl;have hcz73_1:w70.cell? ⟨gb59014,1,none⟩=some (.int .i64 ((Zv l0_1 x68_3).f1)):=(Zs BK59014.out 1).trans rfl;have hcz73_2:w70.cell? ⟨gb59014,2,none⟩=some (.int .i64 ((Zv l0_1 x68_3).f2)):=(Zs BK59014.out 2).trans rfl;have hcz73_3:w70.cell? ⟨gb59014,3,none⟩=some (.int .i64 ((Zv l0_1 x68_3).f3)):=(Zs BK59014.out 3).trans rfl;have hcz73_4:w70.cell? ⟨gb59014,4,none⟩=some (.bool false):=(Zs BK59014.out 4).trans rfl;have hfz73_0:=Zr BK59014.out 0;have hfz73_1:=Zr BK59014.out 1;have hfz73_2:=Zr BK59014.out 2;have hfz73_3:=Zr BK59014.out 3;have hfz73_4:=Zr BK59014.out 4)|((with_reducible refine Zbf (b:=.append) (xs:=#[.tmp 102,.tmp 115]) rfl ?_);at_builtin;refine Kd.R_append k112 (w0:=w) w.heap.size rfl (.tmp 102) (.tmp 115) 56 112 (.agg #[(.int .i64 0),(.int .i64 0),(.int .i64 0),(.int .i64 0)]) 32 rfl Try.underlying56 ZcB rfl (by decide) (by omega) u59006001 x59006001_3 (⟨t59017,t59021,(⟨wrap64 (((Zv l0_1 x68_3).f2)+t59016),wrap64 (((Zv l0_1 x68_3).f3)+t59015)⟩:S110)⟩:S112) [.int .i64 t59017,.int .i64 t59021,.int .i64 (wrap64 (((Zv l0_1 x68_3).f2)+t59016)),.int .i64 (wrap64 (((Zv l0_1 x68_3).f3)+t59015))] (fun _=>True) (fun _=>False) rfl rfl ?aP (fun _ hk=>hk.elim) ?aF ?aO ?aB ?aS ?aL ?_;(case aP=>exact Zcd _ _ _ (⟨t59017,t59021,(⟨wrap64 (((Zv l0_1 x68_3).f2)+t59016),wrap64 (((Zv l0_1 x68_3).f3)+t59015)⟩:S110)⟩:S112));(case aB=>exact(by repeat(first|(with_reducible first|exact HB.out|apply Zn|apply Zm|apply Zt|refine Zq ?_ GE59001.out|refine Zq ?_ GE59002.out|refine Zq ?_ GE59005.out|refine Zq ?_ GE59014.out)|exact HB.out)));(case aF=>exact(fun _ _=>trivial));(case aO=>exact(by(with_reducible repeat(first|apply Kd.R_alloc|apply Kd.R_drewN|apply Kd.R_drew));exact HO_59006001.out));(case aS=>exact(Zx (by repeat(first|(with_reducible first|exact HB.out|apply Zn|apply Zm|apply Zt|refine Zq ?_ GE59001.out|refine Zq ?_ GE59002.out|refine Zq ?_ GE59005.out|refine Zq ?_ GE59014.out)|exact HB.out))));(case aL=>have:=LMc55.out;omega);intro v59026 w74 ho hb hg hat;rw[← Ny59025.out] at ho;have HO59027:=Za (ho);replace BK59001:=Za (Zar (g:=gb59001) (o:=.cells #[.slice A0_0 l0_0.length c0_0,.slice (some ad59013) l0_1.length c0_1,.int .i64 a0_2] 35 (0,0)) (by(with_reducible repeat(first|refine Zp ?_ _|refine Zu ?_|refine Zo ?_ _));exact BK59001.out) hg (Kd.R_ne HO_59006001.out BK59001.out (by decide)));replace BK59002:=Za (Zar (g:=gb59002) (o:=.cells #[.int .i64 0,.slice none 0 0] 58 (0,0)) (by(with_reducible repeat(first|refine Zp ?_ _|refine Zu ?_|refine Zo ?_ _));exact BK59002.out) hg (Kd.R_ne HO_59006001.out BK59002.out (by decide)));replace BK59005:=Za (Zar (g:=gb59005) (o:=.cells #[.int .i64 (l0_0.length:Int),u59006001] 58 (0,0)) (by(with_reducible repeat(first|refine Zp ?_ _|refine Zu ?_|refine Zo ?_ _));exact BK59005.out) hg (Kd.R_ne HO_59006001.out BK59005.out (by decide)));replace BK59014:=Za (Zar (g:=gb59014) (o:=.cells #[.int .i64 ((Zv l0_1 x68_3).f0),.int .i64 ((Zv l0_1 x68_3).f1),.int .i64 ((Zv l0_1 x68_3).f2),.int .i64 ((Zv l0_1 x68_3).f3),.bool false] 90 (0,0)) (by(with_reducible repeat(first|refine Zp ?_ _|refine Zu ?_|refine Zo ?_ _));exact BK59014.out) hg (Kd.R_ne HO_59006001.out BK59014.out (by decide)));replace HB:=Za (hb);clear HO_59006001;clear ho hb hg hat;obtain⟨Ao75,co75,eo75⟩:=Kd.R_slice HO59027.out;subst eo75;have hcz76_0:w74.cell? ⟨gb59005,0,none⟩=some (.int .i64 (l0_0.length:Int)):=(Zs BK59005.out 0).trans rfl;have hcz76_1:w74.cell? ⟨gb59005,1,none⟩=some (u59006001):=(Zs BK59005.out 1).trans rfl;have hfz76_0:=Zr BK59005.out 0;have hfz76_1:=Zr BK59005.out 1))
              go_roundg k3
              case measure=>have:=HJ1.out;have:=HK2.out;have:=HK3.out;omega
              case rel=>exact⟨(wrap64 (x68_3+1)),(y59025),(.slice Ao75 y59025.length co75),(by first|rfl|(simp;done)|(simp[*];done)),H',⟨by have:=HJ1.out;have:=HK2.out;have:=HK3.out;omega⟩,⟨by(with_reducible repeat(first|apply Kd.R_alloc|apply Kd.R_drewN|apply Kd.R_drew));exact Kd.R_mono (Kd.R_far (p:=⟨gb59005,1,none⟩) (Kd.R_types HO59027.out BK59005.out (by decide)) (fun _ hk=>hk.2) (.slice Ao75 y59025.length co75)) (fun _ hk=>trivial)⟩,⟨by(with_reducible repeat(first|refine Zp ?_ _|refine Zu ?_|refine Zo ?_ _));refine ZD ?_ NB59001_59005.out _;(with_reducible repeat(first|refine Zp ?_ _|refine Zu ?_|refine Zo ?_ _));exact BK59001.out⟩,⟨by(with_reducible repeat(first|refine Zp ?_ _|refine Zu ?_|refine Zo ?_ _));refine ZD ?_ NB59002_59005.out _;(with_reducible repeat(first|refine Zp ?_ _|refine Zu ?_|refine Zo ?_ _));exact BK59002.out⟩,⟨by(with_reducible repeat(first|refine Zp ?_ _|refine Zu ?_|refine Zo ?_ _));refine ZL (cs:=#[.int .i64 (l0_0.length:Int),u59006001]) ?_ 1 _ rfl;(with_reducible repeat(first|refine Zp ?_ _|refine Zu ?_|refine Zo ?_ _));exact BK59005.out⟩,⟨by repeat(first|(with_reducible first|exact HB.out|apply Zn|apply Zm|apply Zt|refine Zq ?_ GE59001.out|refine Zq ?_ GE59002.out|refine Zq ?_ GE59005.out|refine Zq ?_ GE59014.out)|exact HB.out)⟩⟩
             ·rw[if_neg c55] at H
              exact absurd H (by simp)
           ·rw[if_neg c44] at H
            exact absurd H (by simp)
          ·rw[if_neg c43] at H
           exact absurd H (by simp)
         ·rw[if_neg c42] at H
          have c42b0:decide (x68_3<(l0_1.length:Int))=false:=Zf c42
          clear c42
          have H':=Za H
          clear H
          have hnb77:=NB59001_59002.out
          have hnc77:=NB59002_59001.out
          have hnb78:=NB59001_59005.out
          have hnc78:=NB59005_59001.out
          have hcz79_0:wr.cell? ⟨gb59001,0,none⟩=some (.slice A0_0 l0_0.length c0_0):=(Zs BK59001.out 0).trans rfl
          have hcz79_1:wr.cell? ⟨gb59001,1,none⟩=some (.slice A0_1 l0_1.length c0_1):=(Zs BK59001.out 1).trans rfl
          have hcz79_2:wr.cell? ⟨gb59001,2,none⟩=some (.int .i64 a0_2):=(Zs BK59001.out 2).trans rfl
          have hfz79_0:=Zr BK59001.out 0
          have hfz79_1:=Zr BK59001.out 1
          have hfz79_2:=Zr BK59001.out 2
          go_wp2
          go_loopg [122] k3 (fun kq v122 w'=>∃(x122_4:Int) (x59006001_4:List (S112)) (u59006001:Value),v122=.int .i64 x122_4∧Aside0 (ZC.l2 kq (l0_0.length:Int) x122_4 l0_0 l0_1 a0_2 (l0_0.length:Int) x59006001_4=some (r1,r2,r3))∧Aside0 (kq≤k3)∧Aside0 (Kd.R k112 112 w' w.heap.size (fun _=>True) u59006001 x59006001_4)∧Aside0 (w'.heap[gb59001]? = some (.cells #[(.slice A0_0 l0_0.length c0_0),(.slice A0_1 l0_1.length c0_1),.int .i64 a0_2] 35 (0,0)))∧Aside0 (w'.heap[gb59002]? = some (.cells #[.int .i64 0,(.slice none 0 0)] 58 (0,0)))∧Aside0 (w'.heap[gb59005]? = some (.cells #[.int .i64 (l0_0.length:Int),u59006001] 58 (0,0)))∧Aside0 (Below w.heap.size w w'))
          case atStart=>exact⟨(0),(x59006001_3),(u59006001),(by first|rfl|(simp;done)|(simp[*];done)),H',⟨Nat.le_refl _⟩,⟨by(with_reducible repeat(first|apply Kd.R_alloc|apply Kd.R_drewN|apply Kd.R_drew));exact HO_59006001.out⟩,⟨by(with_reducible repeat(first|refine Zp ?_ _|refine Zu ?_|refine Zo ?_ _));exact BK59001.out⟩,⟨by(with_reducible repeat(first|refine Zp ?_ _|refine Zu ?_|refine Zo ?_ _));exact BK59002.out⟩,⟨by(with_reducible repeat(first|refine Zp ?_ _|refine Zu ?_|refine Zo ?_ _));exact BK59005.out⟩,⟨by repeat(first|(with_reducible first|exact HB.out|apply Zn|apply Zm|apply Zt|refine Zq ?_ GE59001.out|refine Zq ?_ GE59002.out|refine Zq ?_ GE59005.out)|exact HB.out)⟩⟩
          case round=>
           clear H'
           try clear c1
           try clear c2
           try clear p2
           try clear c3
           try clear c4
           try clear q4
           try clear c5
           try clear p5
           try clear q5
           try clear hx5
           try clear c6
           try clear p6
           try clear c7
           try clear c8
           try clear c10
           try clear c11
           try clear c13
           try clear c16
           try clear c17
           try clear c19
           try clear c22
           try clear c23
           try clear c26
           try clear c26b0
           try clear c28
           try clear c29
           try clear c30
           try clear c33
           try clear c39
           try clear c40
           try clear c42
           try clear c42b0
           try clear c43
           try clear c43b0
           try clear c44
           try clear c44b0
           try clear q45
           try clear c46
           try clear c48
           try clear c49
           try clear c50
           try clear c55
           try clear c57
           try clear c58
           try clear c59
           try clear p59
           try clear q59
           try clear hx59
           try clear c61
           try clear c62
           try clear p64
           try clear c66
           try clear c71
           try clear c77
           try clear c78
           try clear hcz11_0
           try clear hcz11_1
           try clear hcz11_2
           try clear hcz14_0
           try clear hcz14_1
           try clear hcz14_2
           try clear hcz18_0
           try clear hcz18_1
           try clear hcz20_0
           try clear hcz20_1
           try clear hcz20_2
           try clear hcz24_0
           try clear hcz24_1
           try clear hcz25_0
           try clear hcz25_1
           try clear hcz25_2
           try clear hcz31_0
           try clear hcz31_1
           try clear hcz31_2
           try clear hcz34_0
           try clear hcz34_1
           try clear hcz35_0
           try clear hcz35_1
           try clear hcz35_2
           try clear hcz38_0
           try clear hcz38_1
           try clear hcz41_0
           try clear hcz41_1
           try clear hcz41_2
           try clear hcz51_0
           try clear hcz51_1
           try clear hcz51_2
           try clear hcz51_3
           try clear hcz51_4
           try clear hcz60_0
           try clear hcz60_1
           try clear hcz60_2
           try clear hcz60_3
           try clear hcz60_4
           try clear hcz63_0
           try clear hcz63_1
           try clear hcz63_2
           try clear hcz65_0
           try clear hcz65_1
           try clear hcz65_2
           try clear hcz66_0
           try clear hcz66_1
           try clear hcz66_2
           try clear hcz66_3
           try clear hcz66_4
           try clear hcz68_0
           try clear hcz68_1
           try clear hcz68_2
           try clear hcz69_0
           try clear hcz69_1
           try clear hcz69_2
           try clear hcz69_3
           try clear hcz69_4
           try clear hcz72_0
           try clear hcz72_1
           try clear hcz73_0
           try clear hcz73_1
           try clear hcz73_2
           try clear hcz73_3
           try clear hcz73_4
           try clear hcz76_0
           try clear hcz76_1
           try clear hcz79_0
           try clear hcz79_1
           try clear hcz79_2
           try clear hcz9_0
           try clear hcz9_1
           try clear hcz9_2
           try clear hfz11_0
           try clear hfz11_1
           try clear hfz11_2
           try clear hfz14_0
           try clear hfz14_1
           try clear hfz14_2
           try clear hfz18_0
           try clear hfz18_1
           try clear hfz20_0
           try clear hfz20_1
           try clear hfz20_2
           try clear hfz24_0
           try clear hfz24_1
           try clear hfz25_0
           try clear hfz25_1
           try clear hfz25_2
           try clear hfz31_0
           try clear hfz31_1
           try clear hfz31_2
           try clear hfz34_0
           try clear hfz34_1
           try clear hfz35_0
           try clear hfz35_1
           try clear hfz35_2
           try clear hfz38_0
           try clear hfz38_1
           try clear hfz41_0
           try clear hfz41_1
           try clear hfz41_2
           try clear hfz51_0
           try clear hfz51_1
           try clear hfz51_2
           try clear hfz51_3
           try clear hfz51_4
           try clear hfz60_0
           try clear hfz60_1
           try clear hfz60_2
           try clear hfz60_3
           try clear hfz60_4
           try clear hfz63_0
           try clear hfz63_1
           try clear hfz63_2
           try clear hfz65_0
           try clear hfz65_1
           try clear hfz65_2
           try clear hfz66_0
           try clear hfz66_1
           try clear hfz66_2
           try clear hfz66_3
           try clear hfz66_4
           try clear hfz68_0
           try clear hfz68_1
           try clear hfz68_2
           try clear hfz69_0
           try clear hfz69_1
           try clear hfz69_2
           try clear hfz69_3
           try clear hfz69_4
           try clear hfz72_0
           try clear hfz72_1
           try clear hfz73_0
           try clear hfz73_1
           try clear hfz73_2
           try clear hfz73_3
           try clear hfz73_4
           try clear hfz76_0
           try clear hfz76_1
           try clear hfz79_0
           try clear hfz79_1
           try clear hfz79_2
           try clear hfz9_0
           try clear hfz9_1
           try clear hfz9_2
           try clear hx59013_0
           try clear hx59013_1
           try clear hx59013_2
           try clear hx59013_3
           try clear hx59013_4
           try clear p2
           try clear p59013
           try clear p6
           try clear q59013
           obtain⟨x122_4,x59006001_4,u59006001,rfl,HA,HK4,HO_59006001,BK59001,BK59002,BK59005,HB⟩:=hrel
           cases gk with
           | zero=>exact absurd HA.out (by simp[ZC.l2])
           | succ k4=>
            have H:=HA.out
            clear HA
            simp only[ZC.l2] at H
            by_cases c80:x122_4<(l0_0.length:Int)
            ·rw[if_pos c80] at H
             have c80b0:decide (x122_4<(l0_0.length:Int))=true:=Ze c80
             clear c80
             replace H:=Zh H
             obtain⟨t59028,A810,H⟩:=H
             replace H:(if t59028≥0 then(if x59006001_4.length<4398046511104 then(ZC.l2 k4 (l0_0.length:Int) (wrap64 (x122_4+1)) l0_0 l0_1 a0_2 (l0_0.length:Int) (x59006001_4 ++ [(⟨0,x122_4,(⟨0,0⟩:S110)⟩:S112)])) else(none)) else(ZC.l2 k4 (l0_0.length:Int) (wrap64 (x122_4+1)) l0_0 l0_1 a0_2 (l0_0.length:Int) x59006001_4))=some (r1,r2,r3):=H
             have A81:=Za A810;clear A810
             by_cases c82:t59028≥0
             ·rw[if_pos c82] at H
              have c82b0:decide (0≤t59028)=true:=Ze c82
              clear c82
              by_cases c83:x59006001_4.length<4398046511104
              ·rw[if_pos c83] at H
               have LMc83:=Za c83;clear c83
               obtain⟨y59029,hy59029⟩:∃y_:List (S112),y_=(x59006001_4 ++ [(⟨0,x122_4,(⟨0,0⟩:S110)⟩:S112)]):=⟨_,rfl⟩
               replace H:(ZC.l2 k4 (l0_0.length:Int) (wrap64 (x122_4+1)) l0_0 l0_1 a0_2 (l0_0.length:Int) y59029)=some (r1,r2,r3):=by first|(rw[hy59029];with_reducible exact H)|(have H2_:=(Zi _ _).symm.trans H;rw[hy59029];with_reducible exact H2_)|(have H2_:=(Zi _ _).symm.trans H;with_reducible exact H2_)|with_reducible exact H|(rw[hy59029];exact H)|exact H
               have Ny59029:=Za hy59029;clear hy59029
               have H':=Za H
               clear H
               have hnb84:=NB59001_59002.out
               have hnc84:=NB59002_59001.out
               have hnb85:=NB59001_59005.out
               have hnc85:=NB59005_59001.out
               have hcz86_0:wr.cell? ⟨gb59001,0,none⟩=some (.slice A0_0 l0_0.length c0_0):=(Zs BK59001.out 0).trans rfl
               have hcz86_1:wr.cell? ⟨gb59001,1,none⟩=some (.slice A0_1 l0_1.length c0_1):=(Zs BK59001.out 1).trans rfl
               have hcz86_2:wr.cell? ⟨gb59001,2,none⟩=some (.int .i64 a0_2):=(Zs BK59001.out 2).trans rfl
               have hfz86_0:=Zr BK59001.out 0
               have hfz86_1:=Zr BK59001.out 1
               have hfz86_2:=Zr BK59001.out 2
               go_wp2_with (first|((with_reducible refine ZG (f:=76) rfl ?_);refine ZQ (some 127) rfl rfl Try.func76 (by kernel_rfl) rfl #[.agg #[.slice A0_0 l0_0.length c0_0,.slice A0_1 l0_1.length c0_1,.int .i64 a0_2],.int .i64 x122_4] rfl (by(try simp only[List.map_toArray,List.map_cons,List.map_nil]);first|done|rfl|(simp only[Zk,Zj];rfl)) ?_;(with_reducible refine(Z0.calls k4 _ _ l0_0 _ _ l0_1 a0_2 x122_4 t59028 _ ?side1 ?side2 ?side3 ?side4 A81.out).mono ?_);(case side1=>repeat(first|exact(Zb HR0_0.out HB.out)|(with_reducible refine Kd.C_alloc ?_ _)|(with_reducible refine Kd.C_drewN ?_ _)|(with_reducible refine Kd.C_drew ?_)));(case side2=>exact HC0_0.out);(case side3=>repeat(first|exact(Zb HR0_1.out HB.out)|(with_reducible refine Kd.C_alloc ?_ _)|(with_reducible refine Kd.C_drewN ?_ _)|(with_reducible refine Kd.C_drew ?_)));(case side4=>exact HC0_1.out);rintro e w87 ⟨rfl,hb⟩;refine⟨_,rfl,?_⟩;replace HO_59006001:=Za (Kd.R_below (by(with_reducible repeat(first|apply Kd.R_alloc|apply Kd.R_drewN|apply Kd.R_drew));exact HO_59006001.out) hb);replace BK59001:=Za (Zy (g:=gb59001) (o:=.cells #[.slice A0_0 l0_0.length c0_0,.slice A0_1 l0_1.length c0_1,.int .i64 a0_2] 35 (0,0)) (by(with_reducible repeat(first|refine Zp ?_ _|refine Zu ?_|refine Zo ?_ _));exact BK59001.out) hb);replace BK59002:=Za (Zy (g:=gb59002) (o:=.cells #[.int .i64 0,.slice none 0 0] 58 (0,0)) (by(with_reducible repeat(first|refine Zp ?_ _|refine Zu ?_|refine Zo ?_ _));exact BK59002.out) hb);replace BK59005:=Za (Zy (g:=gb59005) (o:=.cells #[.int .i64 (l0_0.length:Int),u59006001] 58 (0,0)) (by(with_reducible repeat(first|refine Zp ?_ _|refine Zu ?_|refine Zo ?_ _));exact BK59005.out) hb);replace HB:=Za (Zw (by repeat(first|(with_reducible first|exact HB.out|apply Zn|apply Zm|apply Zt|refine Zq ?_ GE59001.out|refine Zq ?_ GE59002.out|refine Zq ?_ GE59005.out)|exact HB.out)) hb);(try clear hb);(try clear hb2);(try clear hk);(try clear hi);have hnb88:=NB59005_59002.out;have hnc88:=NB59002_59005.out;have hcz89_0:w87.cell? ⟨gb59005,0,none⟩=some (.int .i64 (l0_0.length:Int)):=(Zs BK59005.out 0).trans rfl;have hcz89_1:w87.cell? ⟨gb59005,1,none⟩=some (u59006001):=(Zs BK59005.out 1).trans rfl;have hfz89_0:=Zr BK59005.out 0;have hfz89_1:=Zr BK59005.out 1)|((with_reducible refine Zbf (b:=.append) (xs:=#[.tmp 130,.tmp 133]) rfl ?_);at_builtin;refine Kd.R_append k112 (w0:=w) w.heap.size rfl (.tmp 130) (.tmp 133) 56 112 (.agg #[(.int .i64 0),(.int .i64 0),(.int .i64 0),(.int .i64 0)]) 32 rfl Try.underlying56 ZcB rfl (by decide) (by omega) u59006001 x59006001_4 (⟨0,x122_4,(⟨0,0⟩:S110)⟩:S112) [.int .i64 0,.int .i64 x122_4,.int .i64 0,.int .i64 0] (fun _=>True) (fun _=>False) rfl rfl ?aP (fun _ hk=>hk.elim) ?aF ?aO ?aB ?aS ?aL ?_;(case aP=>exact Zcd _ _ _ (⟨0,x122_4,(⟨0,0⟩:S110)⟩:S112));(case aB=>exact(by repeat(first|(with_reducible first|exact HB.out|apply Zn|apply Zm|apply Zt|refine Zq ?_ GE59001.out|refine Zq ?_ GE59002.out|refine Zq ?_ GE59005.out)|exact HB.out)));(case aF=>exact(fun _ _=>trivial));(case aO=>exact(by(with_reducible repeat(first|apply Kd.R_alloc|apply Kd.R_drewN|apply Kd.R_drew));exact HO_59006001.out));(case aS=>exact(Zx (by repeat(first|(with_reducible first|exact HB.out|apply Zn|apply Zm|apply Zt|refine Zq ?_ GE59001.out|refine Zq ?_ GE59002.out|refine Zq ?_ GE59005.out)|exact HB.out))));(case aL=>have:=LMc83.out;omega);intro v59030 w90 ho hb hg hat;rw[← Ny59029.out] at ho;have HO59031:=Za (ho);replace BK59001:=Za (Zar (g:=gb59001) (o:=.cells #[.slice A0_0 l0_0.length c0_0,.slice A0_1 l0_1.length c0_1,.int .i64 a0_2] 35 (0,0)) (by(with_reducible repeat(first|refine Zp ?_ _|refine Zu ?_|refine Zo ?_ _));exact BK59001.out) hg (Kd.R_ne HO_59006001.out BK59001.out (by decide)));replace BK59002:=Za (Zar (g:=gb59002) (o:=.cells #[.int .i64 0,.slice none 0 0] 58 (0,0)) (by(with_reducible repeat(first|refine Zp ?_ _|refine Zu ?_|refine Zo ?_ _));exact BK59002.out) hg (Kd.R_ne HO_59006001.out BK59002.out (by decide)));replace BK59005:=Za (Zar (g:=gb59005) (o:=.cells #[.int .i64 (l0_0.length:Int),u59006001] 58 (0,0)) (by(with_reducible repeat(first|refine Zp ?_ _|refine Zu ?_|refine Zo ?_ _));exact BK59005.out) hg (Kd.R_ne HO_59006001.out BK59005.out (by decide)));replace HB:=Za (hb);clear HO_59006001;clear ho hb hg hat;obtain⟨Ao91,co91,eo91⟩:=Kd.R_slice HO59031.out;subst eo91;have hcz92_0:w90.cell? ⟨gb59005,0,none⟩=some (.int .i64 (l0_0.length:Int)):=(Zs BK59005.out 0).trans rfl;have hcz92_1:w90.cell? ⟨gb59005,1,none⟩=some (u59006001):=(Zs BK59005.out 1).trans rfl;have hfz92_0:=Zr BK59005.out 0;have hfz92_1:=Zr BK59005.out 1))
               go_roundg k4
               case measure=>have:=HJ1.out;have:=HK2.out;have:=HK3.out;have:=HK4.out;omega
               case rel=>exact⟨(wrap64 (x122_4+1)),(y59029),(.slice Ao91 y59029.length co91),(by first|rfl|(simp;done)|(simp[*];done)),H',⟨by have:=HJ1.out;have:=HK2.out;have:=HK3.out;have:=HK4.out;omega⟩,⟨by(with_reducible repeat(first|apply Kd.R_alloc|apply Kd.R_drewN|apply Kd.R_drew));exact Kd.R_mono (Kd.R_far (p:=⟨gb59005,1,none⟩) (Kd.R_types HO59031.out BK59005.out (by decide)) (fun _ hk=>hk.2) (.slice Ao91 y59029.length co91)) (fun _ hk=>trivial)⟩,⟨by(with_reducible repeat(first|refine Zp ?_ _|refine Zu ?_|refine Zo ?_ _));refine ZD ?_ NB59001_59005.out _;(with_reducible repeat(first|refine Zp ?_ _|refine Zu ?_|refine Zo ?_ _));exact BK59001.out⟩,⟨by(with_reducible repeat(first|refine Zp ?_ _|refine Zu ?_|refine Zo ?_ _));refine ZD ?_ NB59002_59005.out _;(with_reducible repeat(first|refine Zp ?_ _|refine Zu ?_|refine Zo ?_ _));exact BK59002.out⟩,⟨by(with_reducible repeat(first|refine Zp ?_ _|refine Zu ?_|refine Zo ?_ _));refine ZL (cs:=#[.int .i64 (l0_0.length:Int),u59006001]) ?_ 1 _ rfl;(with_reducible repeat(first|refine Zp ?_ _|refine Zu ?_|refine Zo ?_ _));exact BK59005.out⟩,⟨by repeat(first|(with_reducible first|exact HB.out|apply Zn|apply Zm|apply Zt|refine Zq ?_ GE59001.out|refine Zq ?_ GE59002.out|refine Zq ?_ GE59005.out)|exact HB.out)⟩⟩
              ·rw[if_neg c83] at H
               exact absurd H (by simp)
             ·rw[if_neg c82] at H
              have c82b0:decide (0≤t59028)=false:=Zf c82
              clear c82
              have H':=Za H
              clear H
              have hnb93:=NB59001_59002.out
              have hnc93:=NB59002_59001.out
              have hnb94:=NB59001_59005.out
              have hnc94:=NB59005_59001.out
              have hcz95_0:wr.cell? ⟨gb59001,0,none⟩=some (.slice A0_0 l0_0.length c0_0):=(Zs BK59001.out 0).trans rfl
              have hcz95_1:wr.cell? ⟨gb59001,1,none⟩=some (.slice A0_1 l0_1.length c0_1):=(Zs BK59001.out 1).trans rfl
              have hcz95_2:wr.cell? ⟨gb59001,2,none⟩=some (.int .i64 a0_2):=(Zs BK59001.out 2).trans rfl
              have hfz95_0:=Zr BK59001.out 0
              have hfz95_1:=Zr BK59001.out 1
              have hfz95_2:=Zr BK59001.out 2
              go_wp2_with (first|((with_reducible refine ZG (f:=76) rfl ?_);refine ZQ (some 127) rfl rfl Try.func76 (by kernel_rfl) rfl #[.agg #[.slice A0_0 l0_0.length c0_0,.slice A0_1 l0_1.length c0_1,.int .i64 a0_2],.int .i64 x122_4] rfl (by(try simp only[List.map_toArray,List.map_cons,List.map_nil]);first|done|rfl|(simp only[Zk,Zj];rfl)) ?_;(with_reducible refine(Z0.calls k4 _ _ l0_0 _ _ l0_1 a0_2 x122_4 t59028 _ ?side1 ?side2 ?side3 ?side4 A81.out).mono ?_);(case side1=>repeat(first|exact(Zb HR0_0.out HB.out)|(with_reducible refine Kd.C_alloc ?_ _)|(with_reducible refine Kd.C_drewN ?_ _)|(with_reducible refine Kd.C_drew ?_)));(case side2=>exact HC0_0.out);(case side3=>repeat(first|exact(Zb HR0_1.out HB.out)|(with_reducible refine Kd.C_alloc ?_ _)|(with_reducible refine Kd.C_drewN ?_ _)|(with_reducible refine Kd.C_drew ?_)));(case side4=>exact HC0_1.out);rintro e w96 ⟨rfl,hb⟩;refine⟨_,rfl,?_⟩;replace HO_59006001:=Za (Kd.R_below (by(with_reducible repeat(first|apply Kd.R_alloc|apply Kd.R_drewN|apply Kd.R_drew));exact HO_59006001.out) hb);replace BK59001:=Za (Zy (g:=gb59001) (o:=.cells #[.slice A0_0 l0_0.length c0_0,.slice A0_1 l0_1.length c0_1,.int .i64 a0_2] 35 (0,0)) (by(with_reducible repeat(first|refine Zp ?_ _|refine Zu ?_|refine Zo ?_ _));exact BK59001.out) hb);replace BK59002:=Za (Zy (g:=gb59002) (o:=.cells #[.int .i64 0,.slice none 0 0] 58 (0,0)) (by(with_reducible repeat(first|refine Zp ?_ _|refine Zu ?_|refine Zo ?_ _));exact BK59002.out) hb);replace BK59005:=Za (Zy (g:=gb59005) (o:=.cells #[.int .i64 (l0_0.length:Int),u59006001] 58 (0,0)) (by(with_reducible repeat(first|refine Zp ?_ _|refine Zu ?_|refine Zo ?_ _));exact BK59005.out) hb);replace HB:=Za (Zw (by repeat(first|(with_reducible first|exact HB.out|apply Zn|apply Zm|apply Zt|refine Zq ?_ GE59001.out|refine Zq ?_ GE59002.out|refine Zq ?_ GE59005.out)|exact HB.out)) hb);(try clear hb);(try clear hb2);(try clear hk);(try clear hi)))
              go_roundg k4
              case measure=>have:=HJ1.out;have:=HK2.out;have:=HK3.out;have:=HK4.out;omega
              case rel=>exact⟨(wrap64 (x122_4+1)),(x59006001_4),(u59006001),(by first|rfl|(simp;done)|(simp[*];done)),H',⟨by have:=HJ1.out;have:=HK2.out;have:=HK3.out;have:=HK4.out;omega⟩,⟨by(with_reducible repeat(first|apply Kd.R_alloc|apply Kd.R_drewN|apply Kd.R_drew));exact HO_59006001.out⟩,⟨by(with_reducible repeat(first|refine Zp ?_ _|refine Zu ?_|refine Zo ?_ _));exact BK59001.out⟩,⟨by(with_reducible repeat(first|refine Zp ?_ _|refine Zu ?_|refine Zo ?_ _));exact BK59002.out⟩,⟨by(with_reducible repeat(first|refine Zp ?_ _|refine Zu ?_|refine Zo ?_ _));exact BK59005.out⟩,⟨by repeat(first|(with_reducible first|exact HB.out|apply Zn|apply Zm|apply Zt|refine Zq ?_ GE59001.out|refine Zq ?_ GE59002.out|refine Zq ?_ GE59005.out)|exact HB.out)⟩⟩
            ·rw[if_neg c80] at H
             have c80b0:decide (x122_4<(l0_0.length:Int))=false:=Zf c80
             clear c80
             replace H:=Zh H
             obtain⟨t59032,A970,H⟩:=H
             replace H:(if t59032=true then(some ((l0_0.length:Int),x59006001_4,true)) else(some (0,([]:List (S112)),false)))=some (r1,r2,r3):=H
             have A97:=Za A970;clear A970
             by_cases c98:t59032=true
             ·subst c98
              have H1:(some ((l0_0.length:Int),x59006001_4,true))=some (r1,r2,r3):=by rw[if_pos rfl] at H;exact H
              clear H
              have H:=H1
              clear H1
              simp only[Option.some.injEq,Prod.mk.injEq] at H
              obtain⟨rfl,rfl,rfl⟩:=H
              have hnb99:=NB59005_59001.out
              have hnc99:=NB59001_59005.out
              have hnb100:=NB59005_59002.out
              have hnc100:=NB59002_59005.out
              have hcz101_0:wr.cell? ⟨gb59005,0,none⟩=some (.int .i64 (l0_0.length:Int)):=(Zs BK59005.out 0).trans rfl
              have hcz101_1:wr.cell? ⟨gb59005,1,none⟩=some (u59006001):=(Zs BK59005.out 1).trans rfl
              have hfz101_0:=Zr BK59005.out 0
              have hfz101_1:=Zr BK59005.out 1
              obtain⟨Ao102,co102,eo102⟩:=Kd.R_slice HO_59006001.out
              subst eo102
              go_wp2_with (first|((with_reducible refine ZG (f:=112) rfl ?_);refine ZQ (some 138) rfl rfl Try.func112 (by kernel_rfl) rfl #[.agg #[.int .i64 (l0_0.length:Int),.slice Ao102 x59006001_4.length co102]] rfl (by(try simp only[List.map_toArray,List.map_cons,List.map_nil]);first|done|rfl|(simp only[Zk,Zj];rfl)) ?_;(with_reducible refine(ZS.calls k4 (l0_0.length:Int) _ _ x59006001_4 true _ ?side1 ?side2 A97.out).mono ?_);(case side1=>repeat(first|exact(Kd.R_reads' HO_59006001.out).2.2|(with_reducible refine Kd.C_alloc ?_ _)|(with_reducible refine Kd.C_drewN ?_ _)|(with_reducible refine Kd.C_drew ?_)));(case side2=>exact(Kd.R_reads' HO_59006001.out).2.1);rintro e w103 ⟨rfl,hb⟩;refine⟨_,rfl,?_⟩;replace HO_59006001:=Za (Kd.R_below (by(with_reducible repeat(first|apply Kd.R_alloc|apply Kd.R_drewN|apply Kd.R_drew));exact HO_59006001.out) hb);replace BK59001:=Za (Zy (g:=gb59001) (o:=.cells #[.slice A0_0 l0_0.length c0_0,.slice A0_1 l0_1.length c0_1,.int .i64 a0_2] 35 (0,0)) (by(with_reducible repeat(first|refine Zp ?_ _|refine Zu ?_|refine Zo ?_ _));exact BK59001.out) hb);replace BK59002:=Za (Zy (g:=gb59002) (o:=.cells #[.int .i64 0,.slice none 0 0] 58 (0,0)) (by(with_reducible repeat(first|refine Zp ?_ _|refine Zu ?_|refine Zo ?_ _));exact BK59002.out) hb);replace BK59005:=Za (Zy (g:=gb59005) (o:=.cells #[.int .i64 (l0_0.length:Int),.slice Ao102 x59006001_4.length co102] 58 (0,0)) (by(with_reducible repeat(first|refine Zp ?_ _|refine Zu ?_|refine Zo ?_ _));exact BK59005.out) hb);replace HB:=Za (Zw (by repeat(first|(with_reducible first|exact HB.out|apply Zn|apply Zm|apply Zt|refine Zq ?_ GE59001.out|refine Zq ?_ GE59002.out|refine Zq ?_ GE59005.out)|exact HB.out)) hb);(try clear hb);(try clear hb2);(try clear hk);(try clear hi);have hcz104_0:w103.cell? ⟨gb59005,0,none⟩=some (.int .i64 (l0_0.length:Int)):=(Zs BK59005.out 0).trans rfl;have hcz104_1:w103.cell? ⟨gb59005,1,none⟩=some (.slice Ao102 x59006001_4.length co102):=(Zs BK59005.out 1).trans rfl;have hfz104_0:=Zr BK59005.out 0;have hfz104_1:=Zr BK59005.out 1;have hnb105:=NB59002_59001.out;have hnc105:=NB59001_59002.out;have hcz106_0:w103.cell? ⟨gb59002,0,none⟩=some (.int .i64 0):=(Zs BK59002.out 0).trans rfl;have hcz106_1:w103.cell? ⟨gb59002,1,none⟩=some (.slice none 0 0):=(Zs BK59002.out 1).trans rfl;have hfz106_0:=Zr BK59002.out 0;have hfz106_1:=Zr BK59002.out 1))
              refine bodyPost_ret (Zb8 rfl _ _ gb59002 58 #[.int .i64 (l0_0.length:Int),.slice Ao102 x59006001_4.length co102] (0,0) _ rfl (by(with_reducible repeat(first|refine Zp ?_ _|refine Zu ?_|refine Zo ?_ _));refine ZL (cs:=#[.int .i64 (l0_0.length:Int),.slice none 0 0]) ?_ 1 _ rfl;(with_reducible repeat(first|refine Zp ?_ _|refine Zu ?_|refine Zo ?_ _));refine ZL (cs:=#[.int .i64 0,.slice none 0 0]) ?_ 0 _ rfl;(with_reducible repeat(first|refine Zp ?_ _|refine Zu ?_|refine Zo ?_ _));exact BK59002.out) Try.underlying58 rfl (by kernel_rfl)) rfl ?_
              exact⟨_,by first|rfl|(simp[ZB,ZA] <;> rfl)|(simp[*,ZB,ZA] <;> rfl),by(with_reducible repeat(first|apply Kd.R_alloc|apply Kd.R_drewN|apply Kd.R_drew));exact Kd.R_mono (Kd.R_far (p:=⟨gb59002,1,none⟩) (Kd.R_far (p:=⟨gb59002,0,none⟩) (Kd.R_types HO_59006001.out BK59002.out (by decide)) (fun _ hk=>hk.2) (.int .i64 (l0_0.length:Int))) (fun _ hk=>hk.2) (.slice Ao102 x59006001_4.length co102)) (fun _ hk=>trivial),by repeat(first|(with_reducible first|exact HB.out|apply Zn|apply Zm|apply Zt|refine Zq ?_ GE59001.out|refine Zq ?_ GE59002.out|refine Zq ?_ GE59005.out)|exact HB.out)⟩
             ·replace c98:=Bool.eq_false_iff.mpr c98
              subst c98
              have H1:(some (0,([]:List (S112)),false))=some (r1,r2,r3):=by rw[if_neg (show ¬(false=true) by decide)] at H;exact H
              clear H
              have H:=H1
              clear H1
              simp only[Option.some.injEq,Prod.mk.injEq] at H
              obtain⟨rfl,rfl,rfl⟩:=H
              have hnb107:=NB59005_59001.out
              have hnc107:=NB59001_59005.out
              have hnb108:=NB59005_59002.out
              have hnc108:=NB59002_59005.out
              have hcz109_0:wr.cell? ⟨gb59005,0,none⟩=some (.int .i64 (l0_0.length:Int)):=(Zs BK59005.out 0).trans rfl
              have hcz109_1:wr.cell? ⟨gb59005,1,none⟩=some (u59006001):=(Zs BK59005.out 1).trans rfl
              have hfz109_0:=Zr BK59005.out 0
              have hfz109_1:=Zr BK59005.out 1
              obtain⟨Ao110,co110,eo110⟩:=Kd.R_slice HO_59006001.out
              subst eo110
              go_wp2_with (first|((with_reducible refine ZG (f:=112) rfl ?_);refine ZQ (some 138) rfl rfl Try.func112 (by kernel_rfl) rfl #[.agg #[.int .i64 (l0_0.length:Int),.slice Ao110 x59006001_4.length co110]] rfl (by(try simp only[List.map_toArray,List.map_cons,List.map_nil]);first|done|rfl|(simp only[Zk,Zj];rfl)) ?_;(with_reducible refine(ZS.calls k4 (l0_0.length:Int) _ _ x59006001_4 false _ ?side1 ?side2 A97.out).mono ?_);(case side1=>repeat(first|exact(Kd.R_reads' HO_59006001.out).2.2|(with_reducible refine Kd.C_alloc ?_ _)|(with_reducible refine Kd.C_drewN ?_ _)|(with_reducible refine Kd.C_drew ?_)));(case side2=>exact(Kd.R_reads' HO_59006001.out).2.1);rintro e w111 ⟨rfl,hb⟩;refine⟨_,rfl,?_⟩;replace HO_59006001:=Za (Kd.R_below (by(with_reducible repeat(first|apply Kd.R_alloc|apply Kd.R_drewN|apply Kd.R_drew));exact HO_59006001.out) hb);replace BK59001:=Za (Zy (g:=gb59001) (o:=.cells #[.slice A0_0 l0_0.length c0_0,.slice A0_1 l0_1.length c0_1,.int .i64 a0_2] 35 (0,0)) (by(with_reducible repeat(first|refine Zp ?_ _|refine Zu ?_|refine Zo ?_ _));exact BK59001.out) hb);replace BK59002:=Za (Zy (g:=gb59002) (o:=.cells #[.int .i64 0,.slice none 0 0] 58 (0,0)) (by(with_reducible repeat(first|refine Zp ?_ _|refine Zu ?_|refine Zo ?_ _));exact BK59002.out) hb);replace BK59005:=Za (Zy (g:=gb59005) (o:=.cells #[.int .i64 (l0_0.length:Int),.slice Ao110 x59006001_4.length co110] 58 (0,0)) (by(with_reducible repeat(first|refine Zp ?_ _|refine Zu ?_|refine Zo ?_ _));exact BK59005.out) hb);replace HB:=Za (Zw (by repeat(first|(with_reducible first|exact HB.out|apply Zn|apply Zm|apply Zt|refine Zq ?_ GE59001.out|refine Zq ?_ GE59002.out|refine Zq ?_ GE59005.out)|exact HB.out)) hb);(try clear hb);(try clear hb2);(try clear hk);(try clear hi);have hnb112:=NB59002_59001.out;have hnc112:=NB59001_59002.out;have hcz113_0:w111.cell? ⟨gb59002,0,none⟩=some (.int .i64 0):=(Zs BK59002.out 0).trans rfl;have hcz113_1:w111.cell? ⟨gb59002,1,none⟩=some (.slice none 0 0):=(Zs BK59002.out 1).trans rfl;have hfz113_0:=Zr BK59002.out 0;have hfz113_1:=Zr BK59002.out 1))
              refine bodyPost_ret (Zb8 rfl _ _ gb59002 58 #[.int .i64 0,.slice none 0 0] (0,0) _ rfl (by(with_reducible repeat(first|refine Zp ?_ _|refine Zu ?_|refine Zo ?_ _));refine ZL (cs:=#[.int .i64 0,.slice none 0 0]) ?_ 1 _ rfl;(with_reducible repeat(first|refine Zp ?_ _|refine Zu ?_|refine Zo ?_ _));refine ZL (cs:=#[.int .i64 0,.slice none 0 0]) ?_ 0 _ rfl;(with_reducible repeat(first|refine Zp ?_ _|refine Zu ?_|refine Zo ?_ _));exact BK59002.out) Try.underlying58 rfl (by kernel_rfl)) rfl ?_
              exact⟨_,by first|rfl|(simp[ZB,ZA] <;> rfl)|(simp[*,ZB,ZA] <;> rfl),by first|exact Kd.R_nil _ _ _ _ _|exact Kd.N_nil _ _ _ _ _|exact Kd.V_nil _ _ _ _ _|exact Kd.Q_nil _ _ _ _ _|exact Kd.S_nil _ _ _ _ _,by repeat(first|(with_reducible first|exact HB.out|apply Zn|apply Zm|apply Zt|refine Zq ?_ GE59001.out|refine Zq ?_ GE59002.out|refine Zq ?_ GE59005.out)|exact HB.out)⟩
theorem ZC.c (k:Nat) (A0_0:Option Addr) (c0_0:Nat) (l0_0:List (S116)) (A0_1:Option Addr) (c0_1:Nat) (l0_1:List (S90)) (a0_2:Int) (r1:Int) (r2:List (S112)) (r3:Bool) (w:World) (hr0_0:Kd.C k116 w A0_0 l0_0.length l0_0) (hc0_0:l0_0.length≤c0_0) (hr0_1:Kd.C k90 w A0_1 l0_1.length l0_1) (hc0_1:l0_1.length≤c0_1) (h:ZC.f k l0_0 l0_1 a0_2=some (r1,r2,r3)) :
  Calls Try.prog 59 #[.agg #[.slice A0_0 l0_0.length c0_0,.slice A0_1 l0_1.length c0_1,.int .i64 a0_2]] w fun e w'=>∃A0_ c0_,e=.returned (.tuple #[.agg #[.int .i64 r1,.slice A0_ r2.length c0_],.bool r3])∧Aside0 (r2.length≤c0_∧Kd.C k112 w' A0_ r2.length r2)∧Below w.heap.size w w':=
 (ZC.calls k A0_0 c0_0 l0_0 A0_1 c0_1 l0_1 a0_2 r1 r2 r3 w hr0_0 hc0_0 hr0_1 hc0_1 h).mono fun e w' ⟨v1_,he,q0_,hb⟩=>by
  obtain⟨A0_,c0_,rfl,g0_⟩:=Kd.R_reads q0_
  exact⟨A0_,c0_,he,⟨g0_⟩,hb⟩
def Zby.f (l0:List Int) (a1:Int):Option (Int):=if (wrap64 (a1 - (l0.length:Int)))<0 then(some (-1)) else(some (wrap64 (a1 - (l0.length:Int))))
set_option maxHeartbeats 8000000 in
set_option maxRecDepth 100000 in
theorem Zby.calls (A0:Option Addr) (c0:Nat) (l0:List Int) (a1:Int) (r:Int) (w:World) (hr0:Kd.C (Kd.int .i64) w A0 l0.length l0) (hc0:l0.length≤c0) (h:Zby.f l0 a1=some r) :
  Calls Try.prog 65 #[.slice A0 l0.length c0,.int .i64 a1] w fun e w'=>e=.returned (.int .i64 r)∧ZE w w':=by
 have HR0:=Za hr0;have HC0:=Za hc0;clear hr0 hc0
 have H:(if (wrap64 (a1 - (l0.length:Int)))<0 then(some (-1)) else(some (wrap64 (a1 - (l0.length:Int)))))=some r:=h
 clear h
 by_cases c3:(wrap64 (a1 - (l0.length:Int)))<0
 ·rw[if_pos c3] at H
  have c3b0:decide ((wrap64 (a1 - (l0.length:Int)))<0)=true:=Ze c3
  clear c3
  obtain rfl:=Zg H
  go_enter Try.func65,Try.ntmps65
  go_wp2
  go_ret
  exact⟨by first|rfl|(simp;done)|(simp[*];done),by repeat(first|exact ZE.refl _|apply ZE.step)⟩
 ·rw[if_neg c3] at H
  have c3b0:decide ((wrap64 (a1 - (l0.length:Int)))<0)=false:=Zf c3
  clear c3
  obtain rfl:=Zg H
  go_enter Try.func65,Try.ntmps65
  go_wp2
  go_ret
  exact⟨by first|rfl|(simp;done)|(simp[*];done),by repeat(first|exact ZE.refl _|apply ZE.step)⟩
def ZbM.f (a0_0:ByteArray) (l0_1:List Int) (a0_2:Int) (a1:Int):Option (Int):=if (wrap64 (a1 - (a0_0.size:Int)))<0 then(some (-1)) else((Zby.f l0_1 (wrap64 (a1 - (a0_0.size:Int)))).bind fun t116002=>(if t116002<0 then(some (-1)) else(some t116002)))
set_option maxHeartbeats 8000000 in
set_option maxRecDepth 100000 in
theorem ZbM.calls (a0_0:ByteArray) (A0_1:Option Addr) (c0_1:Nat) (l0_1:List Int) (a0_2:Int) (a1:Int) (r:Int) (w:World) (hr0_1:Kd.C (Kd.int .i64) w A0_1 l0_1.length l0_1) (hc0_1:l0_1.length≤c0_1) (h:ZbM.f a0_0 l0_1 a0_2 a1=some r) :
  Calls Try.prog 116 #[.agg #[.string a0_0,.slice A0_1 l0_1.length c0_1,.int .i64 a0_2],.int .i64 a1] w fun e w'=>e=.returned (.int .i64 r)∧Below w.heap.size w w':=by
 have hu127:=Try.underlying127
 have HR0_1:=Za hr0_1;have HC0_1:=Za hc0_1;clear hr0_1 hc0_1
 have HB:=Za (Below.refl w.heap.size w)
 have H:(if (wrap64 (a1 - (a0_0.size:Int)))<0 then(some (-1)) else((Zby.f l0_1 (wrap64 (a1 - (a0_0.size:Int)))).bind fun t116002=>(if t116002<0 then(some (-1)) else(some t116002))))=some r:=h
 clear h
 by_cases c3:(wrap64 (a1 - (a0_0.size:Int)))<0
 ·rw[if_pos c3] at H
  have c3b0:decide ((wrap64 (a1 - (a0_0.size:Int)))<0)=true:=Ze c3
  clear c3
  obtain rfl:=Zg H
  go_enter Try.func116,Try.ntmps116
  go_wp2_with (first|((with_reducible refine ZI (N:=2) rfl ?_);refine ZH ?hg (N:=2) ?hd (cs:=#[.string a0_0,.slice A0_1 l0_1.length c0_1,.int .i64 a0_2]) (t:=127) ?hr ?_;(case hd=>rfl);(case hg=>rfl);(case hr=>first|(go_simp;done)|(go_simp;rfl));intro gb116001 hg w4 hbox hb;have BK116001:=Za (hbox);have GW116001:=Za ((by rw[hg];exact(Zx (by repeat(first|(with_reducible first|exact HB.out|apply Zn|apply Zm|apply Zt)|exact HB.out))):w.heap.size≤gb116001));have GE116001:=Za ((by rw[hg];exact(Zx (by repeat(first|(with_reducible first|exact HB.out|apply Zn|apply Zm|apply Zt)|exact HB.out))):w.heap.size≤gb116001));replace HB:=Za (Zw (by repeat(first|(with_reducible first|exact HB.out|apply Zn|apply Zm|apply Zt)|exact HB.out)) hb);clear hb hbox hg;have hcz5_0:w4.cell? ⟨gb116001,0,none⟩=some (.string a0_0):=(Zs BK116001.out 0).trans rfl;have hcz5_1:w4.cell? ⟨gb116001,1,none⟩=some (.slice A0_1 l0_1.length c0_1):=(Zs BK116001.out 1).trans rfl;have hcz5_2:w4.cell? ⟨gb116001,2,none⟩=some (.int .i64 a0_2):=(Zs BK116001.out 2).trans rfl;have hfz5_0:=Zr BK116001.out 0;have hfz5_1:=Zr BK116001.out 1;have hfz5_2:=Zr BK116001.out 2))
  go_ret
  exact⟨by first|rfl|(simp[ZB,ZA] <;> rfl)|(simp[*,ZB,ZA] <;> rfl),by repeat(first|(with_reducible first|exact HB.out|apply Zn|apply Zm|apply Zt|refine Zq ?_ GE116001.out)|exact HB.out)⟩
 ·rw[if_neg c3] at H
  have c3b0:decide ((wrap64 (a1 - (a0_0.size:Int)))<0)=false:=Zf c3
  clear c3
  replace H:=Zh H
  obtain⟨t116002,A60,H⟩:=H
  replace H:(if t116002<0 then(some (-1)) else(some t116002))=some r:=H
  have A6:=Za A60;clear A60
  by_cases c7:t116002<0
  ·rw[if_pos c7] at H
   have c7b0:decide (t116002<0)=true:=Ze c7
   clear c7
   obtain rfl:=Zg H
   go_enter Try.func116,Try.ntmps116
   go_wp2_with (first|((with_reducible refine ZI (N:=2) rfl ?_);refine ZH ?hg (N:=2) ?hd (cs:=#[.string a0_0,.slice A0_1 l0_1.length c0_1,.int .i64 a0_2]) (t:=127) ?hr ?_;(case hd=>rfl);(case hg=>rfl);(case hr=>first|(go_simp;done)|(go_simp;rfl));intro gb116001 hg w8 hbox hb;have BK116001:=Za (hbox);have GW116001:=Za ((by rw[hg];exact(Zx (by repeat(first|(with_reducible first|exact HB.out|apply Zn|apply Zm|apply Zt)|exact HB.out))):w.heap.size≤gb116001));have GE116001:=Za ((by rw[hg];exact(Zx (by repeat(first|(with_reducible first|exact HB.out|apply Zn|apply Zm|apply Zt)|exact HB.out))):w.heap.size≤gb116001));replace HB:=Za (Zw (by repeat(first|(with_reducible first|exact HB.out|apply Zn|apply Zm|apply Zt)|exact HB.out)) hb);clear hb hbox hg;have hcz9_0:w8.cell? ⟨gb116001,0,none⟩=some (.string a0_0):=(Zs BK116001.out 0).trans rfl;have hcz9_1:w8.cell? ⟨gb116001,1,none⟩=some (.slice A0_1 l0_1.length c0_1):=(Zs BK116001.out 1).trans rfl;have hcz9_2:w8.cell? ⟨gb116001,2,none⟩=some (.int .i64 a0_2):=(Zs BK116001.out 2).trans rfl;have hfz9_0:=Zr BK116001.out 0;have hfz9_1:=Zr BK116001.out 1;have hfz9_2:=Zr BK116001.out 2)|((with_reducible refine ZG (f:=65) rfl ?_);refine ZQ (some 15) rfl rfl Try.func65 (by kernel_rfl) rfl #[.slice A0_1 l0_1.length c0_1,.int .i64 (wrap64 (a1 - (a0_0.size:Int)))] rfl (by(try simp only[List.map_toArray,List.map_cons,List.map_nil]);first|done|rfl|(simp only[Zk,Zj];rfl)) ?_;(with_reducible refine(Zby.calls _ _ l0_1 (wrap64 (a1 - (a0_0.size:Int))) t116002 _ ?side1 ?side2 A6.out).mono ?_);(case side1=>repeat(first|exact(Zb HR0_1.out HB.out)|(with_reducible refine Kd.C_alloc ?_ _)|(with_reducible refine Kd.C_drewN ?_ _)|(with_reducible refine Kd.C_drew ?_)));(case side2=>exact HC0_1.out);rintro e w' ⟨rfl,⟨nd,rfl⟩⟩;refine⟨_,rfl,?_⟩))
   go_ret
   exact⟨by first|rfl|(simp[ZB,ZA] <;> rfl)|(simp[*,ZB,ZA] <;> rfl),by repeat(first|(with_reducible first|exact HB.out|apply Zn|apply Zm|apply Zt|refine Zq ?_ GE116001.out)|exact HB.out)⟩
  ·rw[if_neg c7] at H
   have c7b0:decide (t116002<0)=false:=Zf c7
   clear c7
   obtain rfl:=Zg H
   go_enter Try.func116,Try.ntmps116
   go_wp2_with (first|((with_reducible refine ZI (N:=2) rfl ?_);refine ZH ?hg (N:=2) ?hd (cs:=#[.string a0_0,.slice A0_1 l0_1.length c0_1,.int .i64 a0_2]) (t:=127) ?hr ?_;(case hd=>rfl);(case hg=>rfl);(case hr=>first|(go_simp;done)|(go_simp;rfl));intro gb116001 hg w10 hbox hb;have BK116001:=Za (hbox);have GW116001:=Za ((by rw[hg];exact(Zx (by repeat(first|(with_reducible first|exact HB.out|apply Zn|apply Zm|apply Zt)|exact HB.out))):w.heap.size≤gb116001));have GE116001:=Za ((by rw[hg];exact(Zx (by repeat(first|(with_reducible first|exact HB.out|apply Zn|apply Zm|apply Zt)|exact HB.out))):w.heap.size≤gb116001));replace HB:=Za (Zw (by repeat(first|(with_reducible first|exact HB.out|apply Zn|apply Zm|apply Zt)|exact HB.out)) hb);clear hb hbox hg;have hcz11_0:w10.cell? ⟨gb116001,0,none⟩=some (.string a0_0):=(Zs BK116001.out 0).trans rfl;have hcz11_1:w10.cell? ⟨gb116001,1,none⟩=some (.slice A0_1 l0_1.length c0_1):=(Zs BK116001.out 1).trans rfl;have hcz11_2:w10.cell? ⟨gb116001,2,none⟩=some (.int .i64 a0_2):=(Zs BK116001.out 2).trans rfl;have hfz11_0:=Zr BK116001.out 0;have hfz11_1:=Zr BK116001.out 1;have hfz11_2:=Zr BK116001.out 2)|((with_reducible refine ZG (f:=65) rfl ?_);refine ZQ (some 15) rfl rfl Try.func65 (by kernel_rfl) rfl #[.slice A0_1 l0_1.length c0_1,.int .i64 (wrap64 (a1 - (a0_0.size:Int)))] rfl (by(try simp only[List.map_toArray,List.map_cons,List.map_nil]);first|done|rfl|(simp only[Zk,Zj];rfl)) ?_;(with_reducible refine(Zby.calls _ _ l0_1 (wrap64 (a1 - (a0_0.size:Int))) t116002 _ ?side1 ?side2 A6.out).mono ?_);(case side1=>repeat(first|exact(Zb HR0_1.out HB.out)|(with_reducible refine Kd.C_alloc ?_ _)|(with_reducible refine Kd.C_drewN ?_ _)|(with_reducible refine Kd.C_drew ?_)));(case side2=>exact HC0_1.out);rintro e w' ⟨rfl,⟨nd,rfl⟩⟩;refine⟨_,rfl,?_⟩))
   go_ret
   exact⟨by first|rfl|(simp[ZB,ZA] <;> rfl)|(simp[*,ZB,ZA] <;> rfl),by repeat(first|(with_reducible first|exact HB.out|apply Zn|apply Zm|apply Zt|refine Zq ?_ GE116001.out)|exact HB.out)⟩
def Zap.l0:Nat→List (S127)→Int→Int→Option (Int)
 | 0,_,_,_=>none
 | k+1,x0,x1,x5=>if x5<(x0.length:Int) then(if 0≤x5 then((ZbM.f ((Zav x0 x5).f0) ((Zav x0 x5).f1) ((Zav x0 x5).f2) x1).bind fun t63002=>(if t63002<0 then(some (-1)) else(Zap.l0 k x0 t63002 (wrap64 (x5+1))))) else(none)) else(some x1)
def Zap.f (k:Nat) (l0:List (S127)) (a1:Int):Option (Int):=if (wrap64 (a1 - (l0.length:Int)))<0 then(some (-1)) else(Zap.l0 k l0 (wrap64 (a1 - (l0.length:Int))) 0)
set_option maxHeartbeats 8000000 in
set_option maxRecDepth 100000 in
theorem Zap.calls (k:Nat) (A0:Option Addr) (c0:Nat) (l0:List (S127)) (a1:Int) (r:Int) (w:World) (hr0:Kd.C k127 w A0 l0.length l0) (hc0:l0.length≤c0) (h:Zap.f k l0 a1=some r) :
  Calls Try.prog 63 #[.slice A0 l0.length c0,.int .i64 a1] w fun e w'=>e=.returned (.int .i64 r)∧Below w.heap.size w w':=by
 have hu127:=Try.underlying127
 have HR0:=Za hr0;have HC0:=Za hc0;clear hr0 hc0
 have HB:=Za (Below.refl w.heap.size w)
 have H:(if (wrap64 (a1 - (l0.length:Int)))<0 then(some (-1)) else(Zap.l0 k l0 (wrap64 (a1 - (l0.length:Int))) 0))=some r:=h
 clear h
 by_cases c3:(wrap64 (a1 - (l0.length:Int)))<0
 ·rw[if_pos c3] at H
  have c3b0:decide ((wrap64 (a1 - (l0.length:Int)))<0)=true:=Ze c3
  clear c3
  obtain rfl:=Zg H
  go_enter Try.func63,Try.ntmps63
  go_wp2
  go_ret
  exact⟨by first|rfl|(simp[ZB,ZA] <;> rfl)|(simp[*,ZB,ZA] <;> rfl),by repeat(first|(with_reducible first|exact HB.out|apply Zn|apply Zm|apply Zt)|exact HB.out)⟩
 ·rw[if_neg c3] at H
  have c3b0:decide ((wrap64 (a1 - (l0.length:Int)))<0)=false:=Zf c3
  clear c3
  have H':=Za H
  clear H
  go_enter Try.func63,Try.ntmps63
  go_wp2
  go_loopg [1,5] k (fun kq v1 v5 w'=>∃(x1_1:Int) (x5_1:Int),v1=.int .i64 x1_1∧v5=.int .i64 x5_1∧Aside0 (Zap.l0 kq l0 x1_1 x5_1=some r)∧Aside0 (kq≤k)∧Aside0 (Below w.heap.size w w'))
  case atStart=>exact⟨(wrap64 (a1 - (l0.length:Int))),(0),(by first|rfl|(simp;done)|(simp[*];done)),(by first|rfl|(simp;done)|(simp[*];done)),H',⟨Nat.le_refl _⟩,⟨by repeat(first|(with_reducible first|exact HB.out|apply Zn|apply Zm|apply Zt)|exact HB.out)⟩⟩
  case round=>
   clear H'
   try clear p2
   try clear c3
   try clear c3b0
   obtain⟨x1_1,x5_1,rfl,rfl,HA,HK1,HB⟩:=hrel
   cases gk with
   | zero=>exact absurd HA.out (by simp[Zap.l0])
   | succ k1=>
    have H:=HA.out
    clear HA
    simp only[Zap.l0] at H
    by_cases c4:x5_1<(l0.length:Int)
    ·rw[if_pos c4] at H
     have c4b0:decide (x5_1<(l0.length:Int))=true:=Ze c4
     clear c4
     by_cases c5:0≤x5_1
     ·rw[if_pos c5] at H
      have c5b0:decide (0≤x5_1)=true:=Ze c5
      clear c5
      replace H:=Zh H
      obtain⟨t63002,A60,H⟩:=H
      replace H:(if t63002<0 then(some (-1)) else(Zap.l0 k1 l0 t63002 (wrap64 (x5_1+1))))=some r:=H
      have A6:=Za A60;clear A60
      by_cases c7:t63002<0
      ·rw[if_pos c7] at H
       have c7b0:decide (t63002<0)=true:=Ze c7
       clear c7
       obtain rfl:=Zg H
       have p63001:0≤(x5_1:Int):=Zd (by first|(with_reducible assumption)|assumption)
       have q63001:x5_1<(l0.length:Int):=Zd (by first|(with_reducible assumption)|assumption)
       obtain⟨ad63001,A63001_1,c63001_1,e63001,hx63001_0,hx63001_1,hx63001_2,hl63001_1,hi63001_1⟩:=at_T127 HR0.out x5_1 p63001 q63001
       cases e63001
       replace hx63001_0:=(HB.out.cell (Zc w _ hx63001_0)).trans hx63001_0
       replace hx63001_1:=(HB.out.cell (Zc w _ hx63001_1)).trans hx63001_1
       replace hx63001_2:=(HB.out.cell (Zc w _ hx63001_2)).trans hx63001_2
       have HR63001_1:=Za hi63001_1;have HC63001_1:=Za hl63001_1;clear hi63001_1 hl63001_1
       replace p63001:=eq_true p63001
       replace q63001:=eq_true q63001
       go_wp2_with (first|((with_reducible refine ZG (f:=116) rfl ?_);refine ZQ (some 23) rfl rfl Try.func116 (by kernel_rfl) rfl #[.agg #[.string ((Zav l0 x5_1).f0),.slice A63001_1 ((Zav l0 x5_1).f1).length c63001_1,.int .i64 ((Zav l0 x5_1).f2)],.int .i64 x1_1] rfl (by(try simp only[List.map_toArray,List.map_cons,List.map_nil]);first|done|rfl|(simp only[Zk,Zj];rfl)) ?_;(with_reducible refine(ZbM.calls ((Zav l0 x5_1).f0) _ _ ((Zav l0 x5_1).f1) ((Zav l0 x5_1).f2) x1_1 t63002 _ ?side1 ?side2 A6.out).mono ?_);(case side1=>repeat(first|exact(Zb HR63001_1.out HB.out)|(with_reducible refine Kd.C_alloc ?_ _)|(with_reducible refine Kd.C_drewN ?_ _)|(with_reducible refine Kd.C_drew ?_)));(case side2=>exact HC63001_1.out);rintro e w8 ⟨rfl,hb⟩;refine⟨_,rfl,?_⟩;replace HB:=Za (Zw (by repeat(first|(with_reducible first|exact HB.out|apply Zn|apply Zm|apply Zt)|exact HB.out)) hb);(try clear hb);(try clear hb2);(try clear hk);(try clear hi)))
       go_ret
       exact⟨by first|rfl|(simp[ZB,ZA] <;> rfl)|(simp[*,ZB,ZA] <;> rfl),by repeat(first|(with_reducible first|exact HB.out|apply Zn|apply Zm|apply Zt)|exact HB.out)⟩
      ·rw[if_neg c7] at H
       have c7b0:decide (t63002<0)=false:=Zf c7
       clear c7
       have H':=Za H
       clear H
       have p63001:0≤(x5_1:Int):=Zd (by first|(with_reducible assumption)|assumption)
       have q63001:x5_1<(l0.length:Int):=Zd (by first|(with_reducible assumption)|assumption)
       obtain⟨ad63001,A63001_1,c63001_1,e63001,hx63001_0,hx63001_1,hx63001_2,hl63001_1,hi63001_1⟩:=at_T127 HR0.out x5_1 p63001 q63001
       cases e63001
       replace hx63001_0:=(HB.out.cell (Zc w _ hx63001_0)).trans hx63001_0
       replace hx63001_1:=(HB.out.cell (Zc w _ hx63001_1)).trans hx63001_1
       replace hx63001_2:=(HB.out.cell (Zc w _ hx63001_2)).trans hx63001_2
       have HR63001_1:=Za hi63001_1;have HC63001_1:=Za hl63001_1;clear hi63001_1 hl63001_1
       replace p63001:=eq_true p63001
       replace q63001:=eq_true q63001
       go_wp2_with (first|((with_reducible refine ZG (f:=116) rfl ?_);refine ZQ (some 23) rfl rfl Try.func116 (by kernel_rfl) rfl #[.agg #[.string ((Zav l0 x5_1).f0),.slice A63001_1 ((Zav l0 x5_1).f1).length c63001_1,.int .i64 ((Zav l0 x5_1).f2)],.int .i64 x1_1] rfl (by(try simp only[List.map_toArray,List.map_cons,List.map_nil]);first|done|rfl|(simp only[Zk,Zj];rfl)) ?_;(with_reducible refine(ZbM.calls ((Zav l0 x5_1).f0) _ _ ((Zav l0 x5_1).f1) ((Zav l0 x5_1).f2) x1_1 t63002 _ ?side1 ?side2 A6.out).mono ?_);(case side1=>repeat(first|exact(Zb HR63001_1.out HB.out)|(with_reducible refine Kd.C_alloc ?_ _)|(with_reducible refine Kd.C_drewN ?_ _)|(with_reducible refine Kd.C_drew ?_)));(case side2=>exact HC63001_1.out);rintro e w9 ⟨rfl,hb⟩;refine⟨_,rfl,?_⟩;replace HB:=Za (Zw (by repeat(first|(with_reducible first|exact HB.out|apply Zn|apply Zm|apply Zt)|exact HB.out)) hb);(try clear hb);(try clear hb2);(try clear hk);(try clear hi)))
       go_roundg k1
       case measure=>have:=HK1.out;omega
       case rel=>exact⟨(t63002),(wrap64 (x5_1+1)),(by first|rfl|(simp;done)|(simp[*];done)),(by first|rfl|(simp;done)|(simp[*];done)),H',⟨by have:=HK1.out;omega⟩,⟨by repeat(first|(with_reducible first|exact HB.out|apply Zn|apply Zm|apply Zt)|exact HB.out)⟩⟩
     ·rw[if_neg c5] at H
      exact absurd H (by simp)
    ·rw[if_neg c4] at H
     have c4b0:decide (x5_1<(l0.length:Int))=false:=Zf c4
     clear c4
     obtain rfl:=Zg H
     go_wp2
     go_ret
     exact⟨by first|rfl|(simp[ZB,ZA] <;> rfl)|(simp[*,ZB,ZA] <;> rfl),by repeat(first|(with_reducible first|exact HB.out|apply Zn|apply Zm|apply Zt)|exact HB.out)⟩
def Zbx.f (l0:List (S130)) (a1:Int):Option (Int):=if (wrap64 (a1 - (l0.length:Int)))<0 then(some (-1)) else(some (wrap64 (a1 - (l0.length:Int))))
set_option maxHeartbeats 8000000 in
set_option maxRecDepth 100000 in
theorem Zbx.calls (A0:Option Addr) (c0:Nat) (l0:List (S130)) (a1:Int) (r:Int) (w:World) (hr0:Kd.C k130 w A0 l0.length l0) (hc0:l0.length≤c0) (h:Zbx.f l0 a1=some r) :
  Calls Try.prog 64 #[.slice A0 l0.length c0,.int .i64 a1] w fun e w'=>e=.returned (.int .i64 r)∧ZE w w':=by
 have HR0:=Za hr0;have HC0:=Za hc0;clear hr0 hc0
 have H:(if (wrap64 (a1 - (l0.length:Int)))<0 then(some (-1)) else(some (wrap64 (a1 - (l0.length:Int)))))=some r:=h
 clear h
 by_cases c3:(wrap64 (a1 - (l0.length:Int)))<0
 ·rw[if_pos c3] at H
  have c3b0:decide ((wrap64 (a1 - (l0.length:Int)))<0)=true:=Ze c3
  clear c3
  obtain rfl:=Zg H
  go_enter Try.func64,Try.ntmps64
  go_wp2
  go_ret
  exact⟨by first|rfl|(simp;done)|(simp[*];done),by repeat(first|exact ZE.refl _|apply ZE.step)⟩
 ·rw[if_neg c3] at H
  have c3b0:decide ((wrap64 (a1 - (l0.length:Int)))<0)=false:=Zf c3
  clear c3
  obtain rfl:=Zg H
  go_enter Try.func64,Try.ntmps64
  go_wp2
  go_ret
  exact⟨by first|rfl|(simp;done)|(simp[*];done),by repeat(first|exact ZE.refl _|apply ZE.step)⟩
def ZbL.f (k:Nat) (l0_0:List (S127)) (l0_1:List (S130)) (a0_2:Int) (a1:Int):Option (Int):=(Zap.f k l0_0 a1).bind fun t15002=>(if t15002<0 then(some (-1)) else((Zbx.f l0_1 t15002).bind fun t15003=>(if t15003<0 then(some (-1)) else(some t15003))))
set_option maxHeartbeats 8000000 in
set_option maxRecDepth 100000 in
theorem ZbL.calls (k:Nat) (A0_0:Option Addr) (c0_0:Nat) (l0_0:List (S127)) (A0_1:Option Addr) (c0_1:Nat) (l0_1:List (S130)) (a0_2:Int) (a1:Int) (r:Int) (w:World) (hr0_0:Kd.C k127 w A0_0 l0_0.length l0_0) (hc0_0:l0_0.length≤c0_0) (hr0_1:Kd.C k130 w A0_1 l0_1.length l0_1) (hc0_1:l0_1.length≤c0_1) (h:ZbL.f k l0_0 l0_1 a0_2 a1=some r) :
  Calls Try.prog 15 #[.agg #[.slice A0_0 l0_0.length c0_0,.slice A0_1 l0_1.length c0_1,.int .i64 a0_2],.int .i64 a1] w fun e w'=>e=.returned (.int .i64 r)∧Below w.heap.size w w':=by
 have hu25:=Try.underlying25
 have HR0_0:=Za hr0_0;have HC0_0:=Za hc0_0;clear hr0_0 hc0_0;have HR0_1:=Za hr0_1;have HC0_1:=Za hc0_1;clear hr0_1 hc0_1
 have HB:=Za (Below.refl w.heap.size w)
 have H:((Zap.f k l0_0 a1).bind fun t15002=>(if t15002<0 then(some (-1)) else((Zbx.f l0_1 t15002).bind fun t15003=>(if t15003<0 then(some (-1)) else(some t15003)))))=some r:=h
 clear h
 replace H:=Zh H
 obtain⟨t15002,A30,H⟩:=H
 replace H:(if t15002<0 then(some (-1)) else((Zbx.f l0_1 t15002).bind fun t15003=>(if t15003<0 then(some (-1)) else(some t15003))))=some r:=H
 have A3:=Za A30;clear A30
 by_cases c4:t15002<0
 ·rw[if_pos c4] at H
  have c4b0:decide (t15002<0)=true:=Ze c4
  clear c4
  obtain rfl:=Zg H
  go_enter Try.func15,Try.ntmps15
  go_wp2_with (first|((with_reducible refine ZI (N:=2) rfl ?_);refine ZH ?hg (N:=2) ?hd (cs:=#[.slice A0_0 l0_0.length c0_0,.slice A0_1 l0_1.length c0_1,.int .i64 a0_2]) (t:=25) ?hr ?_;(case hd=>rfl);(case hg=>rfl);(case hr=>first|(go_simp;done)|(go_simp;rfl));intro gb15001 hg w5 hbox hb;have BK15001:=Za (hbox);have GW15001:=Za ((by rw[hg];exact(Zx (by repeat(first|(with_reducible first|exact HB.out|apply Zn|apply Zm|apply Zt)|exact HB.out))):w.heap.size≤gb15001));have GE15001:=Za ((by rw[hg];exact(Zx (by repeat(first|(with_reducible first|exact HB.out|apply Zn|apply Zm|apply Zt)|exact HB.out))):w.heap.size≤gb15001));replace HB:=Za (Zw (by repeat(first|(with_reducible first|exact HB.out|apply Zn|apply Zm|apply Zt)|exact HB.out)) hb);clear hb hbox hg;have hcz6_0:w5.cell? ⟨gb15001,0,none⟩=some (.slice A0_0 l0_0.length c0_0):=(Zs BK15001.out 0).trans rfl;have hcz6_1:w5.cell? ⟨gb15001,1,none⟩=some (.slice A0_1 l0_1.length c0_1):=(Zs BK15001.out 1).trans rfl;have hcz6_2:w5.cell? ⟨gb15001,2,none⟩=some (.int .i64 a0_2):=(Zs BK15001.out 2).trans rfl;have hfz6_0:=Zr BK15001.out 0;have hfz6_1:=Zr BK15001.out 1;have hfz6_2:=Zr BK15001.out 2)|((with_reducible refine ZG (f:=63) rfl ?_);refine ZQ (some 8) rfl rfl Try.func63 (by kernel_rfl) rfl #[.slice A0_0 l0_0.length c0_0,.int .i64 a1] rfl (by(try simp only[List.map_toArray,List.map_cons,List.map_nil]);first|done|rfl|(simp only[Zk,Zj];rfl)) ?_;(with_reducible refine(Zap.calls k _ _ l0_0 a1 t15002 _ ?side1 ?side2 A3.out).mono ?_);(case side1=>repeat(first|exact(Zb HR0_0.out HB.out)|(with_reducible refine Kd.C_alloc ?_ _)|(with_reducible refine Kd.C_drewN ?_ _)|(with_reducible refine Kd.C_drew ?_)));(case side2=>exact HC0_0.out);rintro e w7 ⟨rfl,hb⟩;refine⟨_,rfl,?_⟩;replace BK15001:=Za (Zy (g:=gb15001) (o:=.cells #[.slice A0_0 l0_0.length c0_0,.slice A0_1 l0_1.length c0_1,.int .i64 a0_2] 25 (0,0)) (by(with_reducible repeat(first|refine Zp ?_ _|refine Zu ?_|refine Zo ?_ _));exact BK15001.out) hb);replace HB:=Za (Zw (by repeat(first|(with_reducible first|exact HB.out|apply Zn|apply Zm|apply Zt|refine Zq ?_ GE15001.out)|exact HB.out)) hb);(try clear hb);(try clear hb2);(try clear hk);(try clear hi)))
  go_ret
  exact⟨by first|rfl|(simp[ZB,ZA] <;> rfl)|(simp[*,ZB,ZA] <;> rfl),by repeat(first|(with_reducible first|exact HB.out|apply Zn|apply Zm|apply Zt|refine Zq ?_ GE15001.out)|exact HB.out)⟩
 ·rw[if_neg c4] at H
  have c4b0:decide (t15002<0)=false:=Zf c4
  clear c4
  replace H:=Zh H
  obtain⟨t15003,A80,H⟩:=H
  replace H:(if t15003<0 then(some (-1)) else(some t15003))=some r:=H
  have A8:=Za A80;clear A80
  by_cases c9:t15003<0
  ·rw[if_pos c9] at H
   have c9b0:decide (t15003<0)=true:=Ze c9
   clear c9
   obtain rfl:=Zg H
   go_enter Try.func15,Try.ntmps15
   go_wp2_with (first|((with_reducible refine ZI (N:=2) rfl ?_);refine ZH ?hg (N:=2) ?hd (cs:=#[.slice A0_0 l0_0.length c0_0,.slice A0_1 l0_1.length c0_1,.int .i64 a0_2]) (t:=25) ?hr ?_;(case hd=>rfl);(case hg=>rfl);(case hr=>first|(go_simp;done)|(go_simp;rfl));intro gb15001 hg w10 hbox hb;have BK15001:=Za (hbox);have GW15001:=Za ((by rw[hg];exact(Zx (by repeat(first|(with_reducible first|exact HB.out|apply Zn|apply Zm|apply Zt)|exact HB.out))):w.heap.size≤gb15001));have GE15001:=Za ((by rw[hg];exact(Zx (by repeat(first|(with_reducible first|exact HB.out|apply Zn|apply Zm|apply Zt)|exact HB.out))):w.heap.size≤gb15001));replace HB:=Za (Zw (by repeat(first|(with_reducible first|exact HB.out|apply Zn|apply Zm|apply Zt)|exact HB.out)) hb);clear hb hbox hg;have hcz11_0:w10.cell? ⟨gb15001,0,none⟩=some (.slice A0_0 l0_0.length c0_0):=(Zs BK15001.out 0).trans rfl;have hcz11_1:w10.cell? ⟨gb15001,1,none⟩=some (.slice A0_1 l0_1.length c0_1):=(Zs BK15001.out 1).trans rfl;have hcz11_2:w10.cell? ⟨gb15001,2,none⟩=some (.int .i64 a0_2):=(Zs BK15001.out 2).trans rfl;have hfz11_0:=Zr BK15001.out 0;have hfz11_1:=Zr BK15001.out 1;have hfz11_2:=Zr BK15001.out 2)|((with_reducible refine ZG (f:=63) rfl ?_);refine ZQ (some 8) rfl rfl Try.func63 (by kernel_rfl) rfl #[.slice A0_0 l0_0.length c0_0,.int .i64 a1] rfl (by(try simp only[List.map_toArray,List.map_cons,List.map_nil]);first|done|rfl|(simp only[Zk,Zj];rfl)) ?_;(with_reducible refine(Zap.calls k _ _ l0_0 a1 t15002 _ ?side1 ?side2 A3.out).mono ?_);(case side1=>repeat(first|exact(Zb HR0_0.out HB.out)|(with_reducible refine Kd.C_alloc ?_ _)|(with_reducible refine Kd.C_drewN ?_ _)|(with_reducible refine Kd.C_drew ?_)));(case side2=>exact HC0_0.out);rintro e w12 ⟨rfl,hb⟩;refine⟨_,rfl,?_⟩;replace BK15001:=Za (Zy (g:=gb15001) (o:=.cells #[.slice A0_0 l0_0.length c0_0,.slice A0_1 l0_1.length c0_1,.int .i64 a0_2] 25 (0,0)) (by(with_reducible repeat(first|refine Zp ?_ _|refine Zu ?_|refine Zo ?_ _));exact BK15001.out) hb);replace HB:=Za (Zw (by repeat(first|(with_reducible first|exact HB.out|apply Zn|apply Zm|apply Zt|refine Zq ?_ GE15001.out)|exact HB.out)) hb);(try clear hb);(try clear hb2);(try clear hk);(try clear hi);have hcz13_0:w12.cell? ⟨gb15001,0,none⟩=some (.slice A0_0 l0_0.length c0_0):=(Zs BK15001.out 0).trans rfl;have hcz13_1:w12.cell? ⟨gb15001,1,none⟩=some (.slice A0_1 l0_1.length c0_1):=(Zs BK15001.out 1).trans rfl;have hcz13_2:w12.cell? ⟨gb15001,2,none⟩=some (.int .i64 a0_2):=(Zs BK15001.out 2).trans rfl;have hfz13_0:=Zr BK15001.out 0;have hfz13_1:=Zr BK15001.out 1;have hfz13_2:=Zr BK15001.out 2)|((with_reducible refine ZG (f:=64) rfl ?_);refine ZQ (some 14) rfl rfl Try.func64 (by kernel_rfl) rfl #[.slice A0_1 l0_1.length c0_1,.int .i64 t15002] rfl (by(try simp only[List.map_toArray,List.map_cons,List.map_nil]);first|done|rfl|(simp only[Zk,Zj];rfl)) ?_;(with_reducible refine(Zbx.calls _ _ l0_1 t15002 t15003 _ ?side1 ?side2 A8.out).mono ?_);(case side1=>repeat(first|exact(Zb HR0_1.out HB.out)|(with_reducible refine Kd.C_alloc ?_ _)|(with_reducible refine Kd.C_drewN ?_ _)|(with_reducible refine Kd.C_drew ?_)));(case side2=>exact HC0_1.out);rintro e w' ⟨rfl,⟨nd,rfl⟩⟩;refine⟨_,rfl,?_⟩))
   go_ret
   exact⟨by first|rfl|(simp[ZB,ZA] <;> rfl)|(simp[*,ZB,ZA] <;> rfl),by repeat(first|(with_reducible first|exact HB.out|apply Zn|apply Zm|apply Zt|refine Zq ?_ GE15001.out)|exact HB.out)⟩
  ·rw[if_neg c9] at H
   have c9b0:decide (t15003<0)=false:=Zf c9
   clear c9
   obtain rfl:=Zg H
   go_enter Try.func15,Try.ntmps15
   go_wp2_with (first|((with_reducible refine ZI (N:=2) rfl ?_);refine ZH ?hg (N:=2) ?hd (cs:=#[.slice A0_0 l0_0.length c0_0,.slice A0_1 l0_1.length c0_1,.int .i64 a0_2]) (t:=25) ?hr ?_;(case hd=>rfl);(case hg=>rfl);(case hr=>first|(go_simp;done)|(go_simp;rfl));intro gb15001 hg w14 hbox hb;have BK15001:=Za (hbox);have GW15001:=Za ((by rw[hg];exact(Zx (by repeat(first|(with_reducible first|exact HB.out|apply Zn|apply Zm|apply Zt)|exact HB.out))):w.heap.size≤gb15001));have GE15001:=Za ((by rw[hg];exact(Zx (by repeat(first|(with_reducible first|exact HB.out|apply Zn|apply Zm|apply Zt)|exact HB.out))):w.heap.size≤gb15001));replace HB:=Za (Zw (by repeat(first|(with_reducible first|exact HB.out|apply Zn|apply Zm|apply Zt)|exact HB.out)) hb);clear hb hbox hg;have hcz15_0:w14.cell? ⟨gb15001,0,none⟩=some (.slice A0_0 l0_0.length c0_0):=(Zs BK15001.out 0).trans rfl;have hcz15_1:w14.cell? ⟨gb15001,1,none⟩=some (.slice A0_1 l0_1.length c0_1):=(Zs BK15001.out 1).trans rfl;have hcz15_2:w14.cell? ⟨gb15001,2,none⟩=some (.int .i64 a0_2):=(Zs BK15001.out 2).trans rfl;have hfz15_0:=Zr BK15001.out 0;have hfz15_1:=Zr BK15001.out 1;have hfz15_2:=Zr BK15001.out 2)|((with_reducible refine ZG (f:=63) rfl ?_);refine ZQ (some 8) rfl rfl Try.func63 (by kernel_rfl) rfl #[.slice A0_0 l0_0.length c0_0,.int .i64 a1] rfl (by(try simp only[List.map_toArray,List.map_cons,List.map_nil]);first|done|rfl|(simp only[Zk,Zj];rfl)) ?_;(with_reducible refine(Zap.calls k _ _ l0_0 a1 t15002 _ ?side1 ?side2 A3.out).mono ?_);(case side1=>repeat(first|exact(Zb HR0_0.out HB.out)|(with_reducible refine Kd.C_alloc ?_ _)|(with_reducible refine Kd.C_drewN ?_ _)|(with_reducible refine Kd.C_drew ?_)));(case side2=>exact HC0_0.out);rintro e w16 ⟨rfl,hb⟩;refine⟨_,rfl,?_⟩;replace BK15001:=Za (Zy (g:=gb15001) (o:=.cells #[.slice A0_0 l0_0.length c0_0,.slice A0_1 l0_1.length c0_1,.int .i64 a0_2] 25 (0,0)) (by(with_reducible repeat(first|refine Zp ?_ _|refine Zu ?_|refine Zo ?_ _));exact BK15001.out) hb);replace HB:=Za (Zw (by repeat(first|(with_reducible first|exact HB.out|apply Zn|apply Zm|apply Zt|refine Zq ?_ GE15001.out)|exact HB.out)) hb);(try clear hb);(try clear hb2);(try clear hk);(try clear hi);have hcz17_0:w16.cell? ⟨gb15001,0,none⟩=some (.slice A0_0 l0_0.length c0_0):=(Zs BK15001.out 0).trans rfl;have hcz17_1:w16.cell? ⟨gb15001,1,none⟩=some (.slice A0_1 l0_1.length c0_1):=(Zs BK15001.out 1).trans rfl;have hcz17_2:w16.cell? ⟨gb15001,2,none⟩=some (.int .i64 a0_2):=(Zs BK15001.out 2).trans rfl;have hfz17_0:=Zr BK15001.out 0;have hfz17_1:=Zr BK15001.out 1;have hfz17_2:=Zr BK15001.out 2)|((with_reducible refine ZG (f:=64) rfl ?_);refine ZQ (some 14) rfl rfl Try.func64 (by kernel_rfl) rfl #[.slice A0_1 l0_1.length c0_1,.int .i64 t15002] rfl (by(try simp only[List.map_toArray,List.map_cons,List.map_nil]);first|done|rfl|(simp only[Zk,Zj];rfl)) ?_;(with_reducible refine(Zbx.calls _ _ l0_1 t15002 t15003 _ ?side1 ?side2 A8.out).mono ?_);(case side1=>repeat(first|exact(Zb HR0_1.out HB.out)|(with_reducible refine Kd.C_alloc ?_ _)|(with_reducible refine Kd.C_drewN ?_ _)|(with_reducible refine Kd.C_drew ?_)));(case side2=>exact HC0_1.out);rintro e w' ⟨rfl,⟨nd,rfl⟩⟩;refine⟨_,rfl,?_⟩))
   go_ret
   exact⟨by first|rfl|(simp[ZB,ZA] <;> rfl)|(simp[*,ZB,ZA] <;> rfl),by repeat(first|(with_reducible first|exact HB.out|apply Zn|apply Zm|apply Zt|refine Zq ?_ GE15001.out)|exact HB.out)⟩
end Go.Proofs.Ytodfnelilhjoeaa.Pr
