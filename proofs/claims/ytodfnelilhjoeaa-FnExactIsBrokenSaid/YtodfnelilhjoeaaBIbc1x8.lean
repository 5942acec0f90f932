/- The texts of one claim, put together by a program of this session. -/
import Derived.Deep.LoopGhost
import Derived.Shelf.Abstract
import Derived.Test.YtodfnelilhjoeaaBIbc1x1
import Derived.Test.YtodfnelilhjoeaaBIbc1x2
import Derived.Test.YtodfnelilhjoeaaBIbc1x3
import Derived.Test.YtodfnelilhjoeaaBIbc1x4
import Derived.Test.YtodfnelilhjoeaaBIbc1x5
import Derived.Test.YtodfnelilhjoeaaBIbc1x7
namespace Go.Proofs.Ytodfnelilhjoeaa.Pr
open Go.RowKit Go.Proofs.YtodfnelilhjoeaaW.PrintWords Go.Proofs.YtodfnelilhjoeaaW.PrintLast Go.Proofs.YtodfnelilhjoeaaW.PrintMore
attribute [local go_sem] Zaj Zah Zat Zas Zaa Z9 Zai Zag
set_option linter.unusedVariables false
set_option linter.unusedSimpArgs false
mutual
def Z6.j0:Nat→Bool→List (S116)→List (S90)→Int→Option (Bool)
 | 0,_,_,_,_=>none
 | k+1,x18,x66002000,x66002001,x66002002=>if x18=true then(some false) else(Z6.l0 k (x66002001.length:Int) 0 x66002000 x66002001 x66002002)
def Z6.l0:Nat→Int→Int→List (S116)→List (S90)→Int→Option (Bool)
 | 0,_,_,_,_,_=>none
 | k+1,x21,x22,x66002000,x66002001,x66002002=>if x22<x21 then((ZbH.f x66002000 x66002001 x66002002 x22).bind fun t66004=>(if t66004=true then(Z6.l0 k x21 (wrap64 (x22+1)) x66002000 x66002001 x66002002) else(some false))) else(some true)
end
def Z6.f (k:Nat) (l0_0:List (S116)) (l0_1:List (S90)) (a0_2:Int):Option (Bool):=(Za3.f l0_0 l0_1 a0_2).bind fun t66002=>(if t66002=true then(if (l0_1.length:Int) > 14 then(Z6.j0 k true l0_0 l0_1 a0_2) else((ZT.f a0_2 1 10).bind fun t66003=>(Z6.j0 k (!t66003) l0_0 l0_1 a0_2))) else(Z6.j0 k true l0_0 l0_1 a0_2))
set_option maxHeartbeats 8000000 in
set_option maxRecDepth 100000 in
theorem Z6.calls (k:Nat) (A0_0:Option Addr) (c0_0:Nat) (l0_0:List (S116)) (A0_1:Option Addr) (c0_1:Nat) (l0_1:List (S90)) (a0_2:Int) (r:Bool) (w:World) (hr0_0:Kd.C k116 w A0_0 l0_0.length l0_0) (hc0_0:l0_0.length≤c0_0) (hr0_1:Kd.C k90 w A0_1 l0_1.length l0_1) (hc0_1:l0_1.length≤c0_1) (h:Z6.f k l0_0 l0_1 a0_2=some r) :
  Calls Try.prog 66 #[.agg #[.slice A0_0 l0_0.length c0_0,.slice A0_1 l0_1.length c0_1,.int .i64 a0_2]] w fun e w'=>e=.returned (.bool r)∧Below w.heap.size w w':=by
 have hu35:=Try.underlying35
 have HR0_0:=Za hr0_0;have HC0_0:=Za hc0_0;clear hr0_0 hc0_0;have HR0_1:=Za hr0_1;have HC0_1:=Za hc0_1;clear hr0_1 hc0_1
 have HB:=Za (Below.refl w.heap.size w)
 have H:((Za3.f l0_0 l0_1 a0_2).bind fun t66002=>(if t66002=true then(if (l0_1.length:Int) > 14 then(Z6.j0 k true l0_0 l0_1 a0_2) else((ZT.f a0_2 1 10).bind fun t66003=>(Z6.j0 k (!t66003) l0_0 l0_1 a0_2))) else(Z6.j0 k true l0_0 l0_1 a0_2)))=some r:=h
 clear h;have HC2:=Za H;clear H
 go_enter Try.func66,Try.ntmps66
 go_upto_region 1 with (first|((with_reducible refine ZG (N:=1) rfl ?_);(try(refine ZaX (by rfl) ?_;dsimp only));refine ZE ?hg (N:=1) ?hd (cs:=#[.slice A0_0 l0_0.length c0_0,.slice A0_1 l0_1.length c0_1,.int .i64 a0_2]) (t:=35) ?hr ?_;(case hd=>rfl);(case hg=>rfl);(case hr=>first|(go_simp;done)|(go_simp;rfl));intro gb66001 hg w3 hbox hb;have n0_:=Za (Zv (by exact HB.out) hb);have n1_:=Za (hbox);have n2_:=Za ((by rw[hg];exact(Zz (by exact HB.out)):w.heap.size≤gb66001));have n3_:=n2_;clear HB;have HB:=n0_;have BK66001:=n1_;have GW66001:=n2_;have GE66001:=n3_;clear n0_ n1_ n2_ n3_;clear hb hbox hg))
 (try simp only[Act.put,List.setIfInBounds_toArray,List.set_cons_zero,List.set_cons_succ])
 go_cut [18] (fun v18 wc=>∃(kq:Nat) (x18_1:Bool),v18=.bool x18_1∧Aside0 (Z6.j0 kq x18_1 l0_0 l0_1 a0_2=some r)∧Aside0 (kq≤k)∧Aside0 (wc.heap[gb66001]? = some (.cells #[(.slice A0_0 l0_0.length c0_0),(.slice A0_1 l0_1.length c0_1),.int .i64 a0_2] 35 (0,0)))∧Aside0 (Below w.heap.size w wc))
 case first=>
  have H:=HC2.out
  clear HC2
  replace H:=Zh H
  obtain⟨t66002,A40,H⟩:=H;have A4:=Za A40;clear A40
  by_cases c5:t66002=true
  ·subst c5
   rw[if_pos rfl] at H
   by_cases c6:(l0_1.length:Int) > 14
   ·rw[if_pos c6] at H
    have c6b0:decide (14<(l0_1.length:Int))=true:=Ze c6
    clear c6
    have H':=Za H
    clear H
    have hcz7_0:w3.cell? ⟨gb66001,0,none⟩=some (.slice A0_0 l0_0.length c0_0):=(Zm BK66001.out 0).trans rfl
    have hcz7_1:w3.cell? ⟨gb66001,1,none⟩=some (.slice A0_1 l0_1.length c0_1):=(Zm BK66001.out 1).trans rfl
    have hcz7_2:w3.cell? ⟨gb66001,2,none⟩=some (.int .i64 a0_2):=(Zm BK66001.out 2).trans rfl
    go_wp2_with (first|((with_reducible refine ZH (f:=117) rfl ?_);refine ZW (some 5) rfl rfl Try.func117 (by kernel_rfl) rfl #[.agg #[.slice A0_0 l0_0.length c0_0,.slice A0_1 l0_1.length c0_1,.int .i64 a0_2]] rfl (by(try simp only[List.map_toArray,List.map_cons,List.map_nil]);first|done|rfl|(simp only[Zk,Zj];rfl)) ?_;(with_reducible refine(Za3.calls _ _ l0_0 _ _ l0_1 a0_2 true _ ?side1 ?side2 ?side3 ?side4 A4.out).mono ?_);(case side1=>exact(Zb HR0_0.out HB.out));(case side2=>exact HC0_0.out);(case side3=>exact(Zb HR0_1.out HB.out));(case side4=>exact HC0_1.out);rintro e w8 ⟨rfl,hb⟩;refine⟨_,rfl,?_⟩;have n0_:=Za (Zw BK66001.out hb);have n1_:=Za (Zv (by exact HB.out) hb);clear BK66001;clear HB;have BK66001:=n0_;have HB:=n1_;clear n0_ n1_;have hcz9_0:w8.cell? ⟨gb66001,0,none⟩=some (.slice A0_0 l0_0.length c0_0):=(Zm BK66001.out 0).trans rfl;have hcz9_1:w8.cell? ⟨gb66001,1,none⟩=some (.slice A0_1 l0_1.length c0_1):=(Zm BK66001.out 1).trans rfl;have hcz9_2:w8.cell? ⟨gb66001,2,none⟩=some (.int .i64 a0_2):=(Zm BK66001.out 2).trans rfl))
    go_meet
    case rel=>exact⟨_,(true),(by first|rfl|(simp;done)|(simp[*];done)),H',⟨by first|omega|exact Nat.le_refl _⟩,⟨by(with_reducible repeat(first|refine Zs ?_ _|refine Zu ?_|refine Zt ?_ _));exact BK66001.out⟩,⟨by repeat(first|(with_reducible first|exact HB.out|apply Zp|apply Zn|apply Zr|refine Zq ?_ GE66001.out)|exact HB.out)⟩⟩
   ·rw[if_neg c6] at H
    have c6b0:decide (14<(l0_1.length:Int))=false:=Zf c6
    clear c6
    replace H:=Zh H
    obtain⟨t66003,A100,H⟩:=H;have A10:=Za A100;clear A100
    have H':=Za H
    clear H
    have hcz11_0:w3.cell? ⟨gb66001,0,none⟩=some (.slice A0_0 l0_0.length c0_0):=(Zm BK66001.out 0).trans rfl
    have hcz11_1:w3.cell? ⟨gb66001,1,none⟩=some (.slice A0_1 l0_1.length c0_1):=(Zm BK66001.out 1).trans rfl
    have hcz11_2:w3.cell? ⟨gb66001,2,none⟩=some (.int .i64 a0_2):=(Zm BK66001.out 2).trans rfl
    go_wp2_with (first|((with_reducible refine ZH (f:=117) rfl ?_);refine ZW (some 5) rfl rfl Try.func117 (by kernel_rfl) rfl #[.agg #[.slice A0_0 l0_0.length c0_0,.slice A0_1 l0_1.length c0_1,.int .i64 a0_2]] rfl (by(try simp only[List.map_toArray,List.map_cons,List.map_nil]);first|done|rfl|(simp only[Zk,Zj];rfl)) ?_;(with_reducible refine(Za3.calls _ _ l0_0 _ _ l0_1 a0_2 true _ ?side1 ?side2 ?side3 ?side4 A4.out).mono ?_);(case side1=>exact(Zb HR0_0.out HB.out));(case side2=>exact HC0_0.out);(case side3=>exact(Zb HR0_1.out HB.out));(case side4=>exact HC0_1.out);rintro e w12 ⟨rfl,hb⟩;refine⟨_,rfl,?_⟩;have n0_:=Za (Zw BK66001.out hb);have n1_:=Za (Zv (by exact HB.out) hb);clear BK66001;clear HB;have BK66001:=n0_;have HB:=n1_;clear n0_ n1_;have hcz13_0:w12.cell? ⟨gb66001,0,none⟩=some (.slice A0_0 l0_0.length c0_0):=(Zm BK66001.out 0).trans rfl;have hcz13_1:w12.cell? ⟨gb66001,1,none⟩=some (.slice A0_1 l0_1.length c0_1):=(Zm BK66001.out 1).trans rfl;have hcz13_2:w12.cell? ⟨gb66001,2,none⟩=some (.int .i64 a0_2):=(Zm BK66001.out 2).trans rfl)|(go_at_call 68;(with_reducible refine(ZT.calls a0_2 1 10 t66003 _ A10.out).mono ?_);rintro e w' ⟨rfl,⟨nd,rfl⟩⟩))
    go_meet
    case rel=>exact⟨_,(!t66003),(by first|rfl|(simp;done)|(simp[*];done)),H',⟨by first|omega|exact Nat.le_refl _⟩,⟨by(with_reducible repeat(first|refine Zs ?_ _|refine Zu ?_|refine Zt ?_ _));exact BK66001.out⟩,⟨by repeat(first|(with_reducible first|exact HB.out|apply Zp|apply Zn|apply Zr|refine Zq ?_ GE66001.out)|exact HB.out)⟩⟩
  ·replace c5:=Bool.eq_false_iff.mpr c5
   subst c5
   have H1:(Z6.j0 k true l0_0 l0_1 a0_2)=some r:=by rw[if_neg (show ¬(false=true) by decide)] at H;exact H
   clear H
   have H:=H1
   clear H1
   have H':=Za H
   clear H
   have hcz14_0:w3.cell? ⟨gb66001,0,none⟩=some (.slice A0_0 l0_0.length c0_0):=(Zm BK66001.out 0).trans rfl
   have hcz14_1:w3.cell? ⟨gb66001,1,none⟩=some (.slice A0_1 l0_1.length c0_1):=(Zm BK66001.out 1).trans rfl
   have hcz14_2:w3.cell? ⟨gb66001,2,none⟩=some (.int .i64 a0_2):=(Zm BK66001.out 2).trans rfl
   go_wp2_with (first|((with_reducible refine ZH (f:=117) rfl ?_);refine ZW (some 5) rfl rfl Try.func117 (by kernel_rfl) rfl #[.agg #[.slice A0_0 l0_0.length c0_0,.slice A0_1 l0_1.length c0_1,.int .i64 a0_2]] rfl (by(try simp only[List.map_toArray,List.map_cons,List.map_nil]);first|done|rfl|(simp only[Zk,Zj];rfl)) ?_;(with_reducible refine(Za3.calls _ _ l0_0 _ _ l0_1 a0_2 false _ ?side1 ?side2 ?side3 ?side4 A4.out).mono ?_);(case side1=>exact(Zb HR0_0.out HB.out));(case side2=>exact HC0_0.out);(case side3=>exact(Zb HR0_1.out HB.out));(case side4=>exact HC0_1.out);rintro e w15 ⟨rfl,hb⟩;refine⟨_,rfl,?_⟩;have n0_:=Za (Zw BK66001.out hb);have n1_:=Za (Zv (by exact HB.out) hb);clear BK66001;clear HB;have BK66001:=n0_;have HB:=n1_;clear n0_ n1_;(try clear hi)))
   go_meet
   case rel=>exact⟨_,(true),(by first|rfl|(simp;done)|(simp[*];done)),H',⟨by first|omega|exact Nat.le_refl _⟩,⟨by(with_reducible repeat(first|refine Zs ?_ _|refine Zu ?_|refine Zt ?_ _));exact BK66001.out⟩,⟨by repeat(first|(with_reducible first|exact HB.out|apply Zp|apply Zn|apply Zr|refine Zq ?_ GE66001.out)|exact HB.out)⟩⟩
 case rest=>
  clear HC2
  try clear c1
  try clear p2
  try clear c5
  try clear c6
  try clear c6b0
  try clear c6b1
  try clear c11
  obtain⟨kq,x18_1,rfl,HA,HJ1,BK66001,HB⟩:=hcut
  cases kq with
  | zero=>exact absurd HA.out (by simp[Z6.j0])
  | succ kj1=>
   have H:=HA.out
   clear HA
   simp only[Z6.j0] at H
   by_cases c16:x18_1=true
   ·subst c16
    rw[if_pos rfl] at H
    obtain rfl:=Zg H
    go_wp2
    go_ret
    exact⟨by first|rfl|(simp[Zy,Zx] <;> rfl)|(simp[*,Zy,Zx] <;> rfl),by repeat(first|(with_reducible first|exact HB.out|apply Zp|apply Zn|apply Zr|refine Zq ?_ GE66001.out)|exact HB.out)⟩
   ·replace c16:=Bool.eq_false_iff.mpr c16
    subst c16
    have H1:(Z6.l0 kj1 (l0_1.length:Int) 0 l0_0 l0_1 a0_2)=some r:=by rw[if_neg (show ¬(false=true) by decide)] at H;exact H
    clear H
    have H:=H1
    clear H1
    have H':=Za H
    clear H
    have hcz17_0:wc.cell? ⟨gb66001,0,none⟩=some (.slice A0_0 l0_0.length c0_0):=(Zm BK66001.out 0).trans rfl
    have hcz17_1:wc.cell? ⟨gb66001,1,none⟩=some (.slice A0_1 l0_1.length c0_1):=(Zm BK66001.out 1).trans rfl
    have hcz17_2:wc.cell? ⟨gb66001,2,none⟩=some (.int .i64 a0_2):=(Zm BK66001.out 2).trans rfl
    go_wp2
    go_loopg [22] kj1 (fun kq v22 w'=>∃(x22_2:Int),v22=.int .i64 x22_2∧Aside0 (Z6.l0 kq (l0_1.length:Int) x22_2 l0_0 l0_1 a0_2=some r)∧Aside0 (kq≤kj1)∧Aside0 (w'.heap[gb66001]? = some (.cells #[(.slice A0_0 l0_0.length c0_0),(.slice A0_1 l0_1.length c0_1),.int .i64 a0_2] 35 (0,0)))∧Aside0 (Below w.heap.size w w'))
    case atStart=>exact⟨(0),(by first|rfl|(simp;done)|(simp[*];done)),H',⟨Nat.le_refl _⟩,⟨by(with_reducible repeat(first|refine Zs ?_ _|refine Zu ?_|refine Zt ?_ _));exact BK66001.out⟩,⟨by repeat(first|(with_reducible first|exact HB.out|apply Zp|apply Zn|apply Zr|refine Zq ?_ GE66001.out)|exact HB.out)⟩⟩
    case round=>
     clear H'
     try clear c1
     try clear p2
     try clear c5
     try clear c6
     try clear c6b0
     try clear c6b1
     try clear c11
     try clear c16
     try clear p2
     obtain⟨x22_2,rfl,HA,HK2,BK66001,HB⟩:=hrel
     cases gk with
     | zero=>exact absurd HA.out (by simp[Z6.l0])
     | succ k2=>
      have H:=HA.out
      clear HA
      simp only[Z6.l0] at H
      by_cases c18:x22_2<(l0_1.length:Int)
      ·rw[if_pos c18] at H
       have c18b0:decide (x22_2<(l0_1.length:Int))=true:=Ze c18
       clear c18
       replace H:=Zh H
       obtain⟨t66004,A190,H⟩:=H;have A19:=Za A190;clear A190
       by_cases c20:t66004=true
       ·subst c20
        rw[if_pos rfl] at H
        have H':=Za H
        clear H
        have hcz21_0:wr.cell? ⟨gb66001,0,none⟩=some (.slice A0_0 l0_0.length c0_0):=(Zm BK66001.out 0).trans rfl
        have hcz21_1:wr.cell? ⟨gb66001,1,none⟩=some (.slice A0_1 l0_1.length c0_1):=(Zm BK66001.out 1).trans rfl
        have hcz21_2:wr.cell? ⟨gb66001,2,none⟩=some (.int .i64 a0_2):=(Zm BK66001.out 2).trans rfl
        go_wp2_with (first|((with_reducible refine ZH (f:=118) rfl ?_);refine ZW (some 27) rfl rfl Try.func118 (by kernel_rfl) rfl #[.agg #[.slice A0_0 l0_0.length c0_0,.slice A0_1 l0_1.length c0_1,.int .i64 a0_2],.int .i64 x22_2] rfl (by(try simp only[List.map_toArray,List.map_cons,List.map_nil]);first|done|rfl|(simp only[Zk,Zj];rfl)) ?_;(with_reducible refine(ZbH.calls _ _ l0_0 _ _ l0_1 a0_2 x22_2 true _ ?side1 ?side2 ?side3 ?side4 A19.out).mono ?_);(case side1=>exact(Zb HR0_0.out HB.out));(case side2=>exact HC0_0.out);(case side3=>exact(Zb HR0_1.out HB.out));(case side4=>exact HC0_1.out);rintro e w22 ⟨rfl,hb⟩;refine⟨_,rfl,?_⟩;have n0_:=Za (Zw BK66001.out hb);have n1_:=Za (Zv (by exact HB.out) hb);clear BK66001;clear HB;have BK66001:=n0_;have HB:=n1_;clear n0_ n1_;(try clear hi)))
        go_roundg k2
        case measure=>have:=HJ1.out;have:=HK2.out;omega
        case rel=>exact⟨(wrap64 (x22_2+1)),(by first|rfl|(simp;done)|(simp[*];done)),H',⟨by have:=HJ1.out;have:=HK2.out;omega⟩,⟨by(with_reducible repeat(first|refine Zs ?_ _|refine Zu ?_|refine Zt ?_ _));exact BK66001.out⟩,⟨by repeat(first|(with_reducible first|exact HB.out|apply Zp|apply Zn|apply Zr|refine Zq ?_ GE66001.out)|exact HB.out)⟩⟩
       ·replace c20:=Bool.eq_false_iff.mpr c20
        subst c20
        have H1:(some false)=some r:=by rw[if_neg (show ¬(false=true) by decide)] at H;exact H
        clear H
        have H:=H1
        clear H1
        obtain rfl:=Zg H
        have hcz23_0:wr.cell? ⟨gb66001,0,none⟩=some (.slice A0_0 l0_0.length c0_0):=(Zm BK66001.out 0).trans rfl
        have hcz23_1:wr.cell? ⟨gb66001,1,none⟩=some (.slice A0_1 l0_1.length c0_1):=(Zm BK66001.out 1).trans rfl
        have hcz23_2:wr.cell? ⟨gb66001,2,none⟩=some (.int .i64 a0_2):=(Zm BK66001.out 2).trans rfl
        go_wp2_with (first|((with_reducible refine ZH (f:=118) rfl ?_);refine ZW (some 27) rfl rfl Try.func118 (by kernel_rfl) rfl #[.agg #[.slice A0_0 l0_0.length c0_0,.slice A0_1 l0_1.length c0_1,.int .i64 a0_2],.int .i64 x22_2] rfl (by(try simp only[List.map_toArray,List.map_cons,List.map_nil]);first|done|rfl|(simp only[Zk,Zj];rfl)) ?_;(with_reducible refine(ZbH.calls _ _ l0_0 _ _ l0_1 a0_2 x22_2 false _ ?side1 ?side2 ?side3 ?side4 A19.out).mono ?_);(case side1=>exact(Zb HR0_0.out HB.out));(case side2=>exact HC0_0.out);(case side3=>exact(Zb HR0_1.out HB.out));(case side4=>exact HC0_1.out);rintro e w24 ⟨rfl,hb⟩;refine⟨_,rfl,?_⟩;have n0_:=Za (Zw BK66001.out hb);have n1_:=Za (Zv (by exact HB.out) hb);clear BK66001;clear HB;have BK66001:=n0_;have HB:=n1_;clear n0_ n1_;(try clear hi)))
        go_ret
        exact⟨by first|rfl|(simp[Zy,Zx] <;> rfl)|(simp[*,Zy,Zx] <;> rfl),by repeat(first|(with_reducible first|exact HB.out|apply Zp|apply Zn|apply Zr|refine Zq ?_ GE66001.out)|exact HB.out)⟩
      ·rw[if_neg c18] at H
       have c18b0:decide (x22_2<(l0_1.length:Int))=false:=Zf c18
       clear c18
       obtain rfl:=Zg H
       go_wp2
       go_ret
       exact⟨by first|rfl|(simp[Zy,Zx] <;> rfl)|(simp[*,Zy,Zx] <;> rfl),by repeat(first|(with_reducible first|exact HB.out|apply Zp|apply Zn|apply Zr|refine Zq ?_ GE66001.out)|exact HB.out)⟩
mutual
def ZJ.j0:Nat→Bool→List (S116)→List (S90)→Int→Int→List Int→List Int→Option (Bool)
 | 0,_,_,_,_,_,_,_=>none
 | k+1,x42,x95002000,x95002001,x95002002,x95003000,x95003001,x95003002=>if x42=true then(some false) else(ZJ.l0 k x95003001 (x95003001.length:Int) 0 x95002000 x95002001 x95002002 x95003000 x95003001 x95003002)
def ZJ.l0:Nat→List Int→Int→Int→List (S116)→List (S90)→Int→Int→List Int→List Int→Option (Bool)
 | 0,_,_,_,_,_,_,_,_,_=>none
 | k+1,x44,x45,x46,x95002000,x95002001,x95002002,x95003000,x95003001,x95003002=>if x46<x45 then(if 0≤x46 then(if x46<(x44.length:Int) then(if x46 > 0 then((ZT.f (rd x44 x46) (-1) (wrap64 (x95003000 - 1))).bind fun t95008=>(if t95008=true then(ZJ.l0 k x44 x45 (wrap64 (x46+1)) x95002000 x95002001 x95002002 x95003000 x95003001 x95003002) else(some false))) else(ZJ.l0 k x44 x45 (wrap64 (x46+1)) x95002000 x95002001 x95002002 x95003000 x95003001 x95003002)) else(none)) else(none)) else(ZJ.l1 k 1 x95002000 x95002001 x95002002 x95003000 x95003001 x95003002)
def ZJ.l1:Nat→Int→List (S116)→List (S90)→Int→Int→List Int→List Int→Option (Bool)
 | 0,_,_,_,_,_,_,_=>none
 | k+1,x7,x95002000,x95002001,x95002002,x95003000,x95003001,x95003002=>if x7≤3 then((Z8.f k x95002000 x95002001 x95002002 x7).bind fun t95009=>(if 0≤(wrap64 (x7 - 1)) then(if (wrap64 (x7 - 1))<(x95003002.length:Int) then(if t95009≥0 then(if 0≤t95009 then(if t95009<(x95003001.length:Int) then(if (((rd x95003002 (wrap64 (x7 - 1))) != 0) != ((rd x95003001 t95009) != (-1)))=true then(some false) else(ZJ.l1 k (wrap64 (x7+1)) x95002000 x95002001 x95002002 x95003000 x95003001 x95003002)) else(none)) else(none)) else(if (((rd x95003002 (wrap64 (x7 - 1))) != 0) != false)=true then(some false) else(ZJ.l1 k (wrap64 (x7+1)) x95002000 x95002001 x95002002 x95003000 x95003001 x95003002))) else(none)) else(none))) else(some true)
end
def ZJ.f (k:Nat) (l0_0:List (S116)) (l0_1:List (S90)) (a0_2:Int) (a1_0:Int) (l1_1:List Int) (l1_2:List Int):Option (Bool):=(Z6.f k l0_0 l0_1 a0_2).bind fun t95003=>(if t95003=true then((ZT.f a1_0 0 (wrap64 (a0_2+1))).bind fun t95004=>(if t95004=true then(if (l1_1.length:Int)=(l0_0.length:Int) then(if 0<(l1_1.length:Int) then(if (rd l1_1 0)=0 then((Zap.f k l1_2).bind fun t95006=>(ZJ.j0 k (!t95006) l0_0 l0_1 a0_2 a1_0 l1_1 l1_2)) else(ZJ.j0 k true l0_0 l0_1 a0_2 a1_0 l1_1 l1_2)) else(none)) else(ZJ.j0 k true l0_0 l0_1 a0_2 a1_0 l1_1 l1_2)) else(ZJ.j0 k true l0_0 l0_1 a0_2 a1_0 l1_1 l1_2))) else(ZJ.j0 k true l0_0 l0_1 a0_2 a1_0 l1_1 l1_2))
set_option maxHeartbeats 8000000 in
set_option maxRecDepth 100000 in
theorem ZJ.calls (k:Nat) (A0_0:Option Addr) (c0_0:Nat) (l0_0:List (S116)) (A0_1:Option Addr) (c0_1:Nat) (l0_1:List (S90)) (a0_2:Int) (a1_0:Int) (A1_1:Option Addr) (c1_1:Nat) (l1_1:List Int) (A1_2:Option Addr) (c1_2:Nat) (l1_2:List Int) (r:Bool) (w:World) (hr0_0:Kd.C k116 w A0_0 l0_0.length l0_0) (hc0_0:l0_0.length≤c0_0) (hr0_1:Kd.C k90 w A0_1 l0_1.length l0_1) (hc0_1:l0_1.length≤c0_1) (hr1_1:Kd.C (Kd.int .i64) w A1_1 l1_1.length l1_1) (hc1_1:l1_1.length≤c1_1) (hr1_2:Kd.C (Kd.int .i64) w A1_2 l1_2.length l1_2) (hc1_2:l1_2.length≤c1_2) (h:ZJ.f k l0_0 l0_1 a0_2 a1_0 l1_1 l1_2=some r) :
  Calls Try.prog 95 #[.agg #[.slice A0_0 l0_0.length c0_0,.slice A0_1 l0_1.length c0_1,.int .i64 a0_2],.agg #[.int .i64 a1_0,.slice A1_1 l1_1.length c1_1,.slice A1_2 l1_2.length c1_2]] w fun e w'=>e=.returned (.bool r)∧Below w.heap.size w w':=by
 have hu35:=Try.underlying35
 have hu66:=Try.underlying66
 have HR0_0:=Za hr0_0;have HC0_0:=Za hc0_0;clear hr0_0 hc0_0;have HR0_1:=Za hr0_1;have HC0_1:=Za hc0_1;clear hr0_1 hc0_1;have HR1_1:=Za hr1_1;have HC1_1:=Za hc1_1;clear hr1_1 hc1_1;have HR1_2:=Za hr1_2;have HC1_2:=Za hc1_2;clear hr1_2 hc1_2
 have HB:=Za (Below.refl w.heap.size w)
 have H:((Z6.f k l0_0 l0_1 a0_2).bind fun t95003=>(if t95003=true then((ZT.f a1_0 0 (wrap64 (a0_2+1))).bind fun t95004=>(if t95004=true then(if (l1_1.length:Int)=(l0_0.length:Int) then(if 0<(l1_1.length:Int) then(if (rd l1_1 0)=0 then((Zap.f k l1_2).bind fun t95006=>(ZJ.j0 k (!t95006) l0_0 l0_1 a0_2 a1_0 l1_1 l1_2)) else(ZJ.j0 k true l0_0 l0_1 a0_2 a1_0 l1_1 l1_2)) else(none)) else(ZJ.j0 k true l0_0 l0_1 a0_2 a1_0 l1_1 l1_2)) else(ZJ.j0 k true l0_0 l0_1 a0_2 a1_0 l1_1 l1_2))) else(ZJ.j0 k true l0_0 l0_1 a0_2 a1_0 l1_1 l1_2)))=some r:=h
 clear h;have HC3:=Za H;clear H
 go_enter Try.func95,Try.ntmps95
 go_upto_region 1 with (first|((with_reducible refine ZG (N:=2) rfl ?_);refine ZE ?hg (N:=2) ?hd (cs:=#[.slice A0_0 l0_0.length c0_0,.slice A0_1 l0_1.length c0_1,.int .i64 a0_2]) (t:=35) ?hr ?_;(case hd=>rfl);(case hg=>rfl);(case hr=>first|(go_simp;done)|(go_simp;rfl));intro gb95001 hg w4 hbox hb;have n0_:=Za (Zv (by exact HB.out) hb);have n1_:=Za (hbox);have n2_:=Za ((by rw[hg];exact(Zz (by exact HB.out)):w.heap.size≤gb95001));have n3_:=n2_;clear HB;have HB:=n0_;have BK95001:=n1_;have GW95001:=n2_;have GE95001:=n3_;clear n0_ n1_ n2_ n3_;clear hb hbox hg)|((with_reducible refine ZG (N:=3) rfl ?_);refine ZE ?hg (N:=3) ?hd (cs:=#[.int .i64 a1_0,.slice A1_1 l1_1.length c1_1,.slice A1_2 l1_2.length c1_2]) (t:=66) ?hr ?_;(case hd=>rfl);(case hg=>rfl);(case hr=>first|(go_simp;done)|(go_simp;rfl));intro gb95002 hg w5 hbox hb;have n0_:=Za (Zw (g:=gb95001) (o:=.cells #[.slice A0_0 l0_0.length c0_0,.slice A0_1 l0_1.length c0_1,.int .i64 a0_2] 35 (0,0)) BK95001.out hb);have n1_:=Za (Zv (by exact HB.out) hb);have n2_:=Za (hbox);have n3_:=Za ((by rw[hg];exact(Zz (by exact HB.out)):w.heap.size≤gb95002));have n4_:=n3_;have n5_:=Za ((by rw[hg];exact Nat.ne_of_lt (ZK (g:=gb95001) (o:=.cells #[.slice A0_0 l0_0.length c0_0,.slice A0_1 l0_1.length c0_1,.int .i64 a0_2] 35 (0,0)) BK95001.out):gb95001≠gb95002));have n6_:=Za n5_.out.symm;clear BK95001;clear HB;have BK95001:=n0_;have HB:=n1_;have BK95002:=n2_;have GW95002:=n3_;have GE95002:=n4_;have NB95001_95002:=n5_;have NB95002_95001:=n6_;clear n0_ n1_ n2_ n3_ n4_ n5_ n6_;clear hb hbox hg))
 repeat(go_quiet (first|((with_reducible refine ZG (N:=2) rfl ?_);refine ZE ?hg (N:=2) ?hd (cs:=#[.slice A0_0 l0_0.length c0_0,.slice A0_1 l0_1.length c0_1,.int .i64 a0_2]) (t:=35) ?hr ?_;(case hd=>rfl);(case hg=>rfl);(case hr=>first|(go_simp;done)|(go_simp;rfl));intro gb95001 hg w4 hbox hb;have n0_:=Za (Zv (by exact HB.out) hb);have n1_:=Za (hbox);have n2_:=Za ((by rw[hg];exact(Zz (by exact HB.out)):w.heap.size≤gb95001));have n3_:=n2_;clear HB;have HB:=n0_;have BK95001:=n1_;have GW95001:=n2_;have GE95001:=n3_;clear n0_ n1_ n2_ n3_;clear hb hbox hg)|((with_reducible refine ZG (N:=3) rfl ?_);refine ZE ?hg (N:=3) ?hd (cs:=#[.int .i64 a1_0,.slice A1_1 l1_1.length c1_1,.slice A1_2 l1_2.length c1_2]) (t:=66) ?hr ?_;(case hd=>rfl);(case hg=>rfl);(case hr=>first|(go_simp;done)|(go_simp;rfl));intro gb95002 hg w5 hbox hb;have n0_:=Za (Zw (g:=gb95001) (o:=.cells #[.slice A0_0 l0_0.length c0_0,.slice A0_1 l0_1.length c0_1,.int .i64 a0_2] 35 (0,0)) BK95001.out hb);have n1_:=Za (Zv (by exact HB.out) hb);have n2_:=Za (hbox);have n3_:=Za ((by rw[hg];exact(Zz (by exact HB.out)):w.heap.size≤gb95002));have n4_:=n3_;have n5_:=Za ((by rw[hg];exact Nat.ne_of_lt (ZK (g:=gb95001) (o:=.cells #[.slice A0_0 l0_0.length c0_0,.slice A0_1 l0_1.length c0_1,.int .i64 a0_2] 35 (0,0)) BK95001.out):gb95001≠gb95002));have n6_:=Za n5_.out.symm;clear BK95001;clear HB;have BK95001:=n0_;have HB:=n1_;have BK95002:=n2_;have GW95002:=n3_;have GE95002:=n4_;have NB95001_95002:=n5_;have NB95002_95001:=n6_;clear n0_ n1_ n2_ n3_ n4_ n5_ n6_;clear hb hbox hg));go_upto_region 1 with (first|((with_reducible refine ZG (N:=2) rfl ?_);refine ZE ?hg (N:=2) ?hd (cs:=#[.slice A0_0 l0_0.length c0_0,.slice A0_1 l0_1.length c0_1,.int .i64 a0_2]) (t:=35) ?hr ?_;(case hd=>rfl);(case hg=>rfl);(case hr=>first|(go_simp;done)|(go_simp;rfl));intro gb95001 hg w4 hbox hb;have n0_:=Za (Zv (by exact HB.out) hb);have n1_:=Za (hbox);have n2_:=Za ((by rw[hg];exact(Zz (by exact HB.out)):w.heap.size≤gb95001));have n3_:=n2_;clear HB;have HB:=n0_;have BK95001:=n1_;have GW95001:=n2_;have GE95001:=n3_;clear n0_ n1_ n2_ n3_;clear hb hbox hg)|((with_reducible refine ZG (N:=3) rfl ?_);refine ZE ?hg (N:=3) ?hd (cs:=#[.int .i64 a1_0,.slice A1_1 l1_1.length c1_1,.slice A1_2 l1_2.length c1_2]) (t:=66) ?hr ?_;(case hd=>rfl);(case hg=>rfl);(case hr=>first|(go_simp;done)|(go_simp;rfl));intro gb95002 hg w5 hbox hb;have n0_:=Za (Zw (g:=gb95001) (o:=.cells #[.slice A0_0 l0_0.length c0_0,.slice A0_1 l0_1.length c0_1,.int .i64 a0_2] 35 (0,0)) BK95001.out hb);have n1_:=Za (Zv (by exact HB.out) hb);have n2_:=Za (hbox);have n3_:=Za ((by rw[hg];exact(Zz (by exact HB.out)):w.heap.size≤gb95002));have n4_:=n3_;have n5_:=Za ((by rw[hg];exact Nat.ne_of_lt (ZK (g:=gb95001) (o:=.cells #[.slice A0_0 l0_0.length c0_0,.slice A0_1 l0_1.length c0_1,.int .i64 a0_2] 35 (0,0)) BK95001.out):gb95001≠gb95002));have n6_:=Za n5_.out.symm;clear BK95001;clear HB;have BK95001:=n0_;have HB:=n1_;have BK95002:=n2_;have GW95002:=n3_;have GE95002:=n4_;have NB95001_95002:=n5_;have NB95002_95001:=n6_;clear n0_ n1_ n2_ n3_ n4_ n5_ n6_;clear hb hbox hg)))
 (try simp only[Act.put,List.setIfInBounds_toArray,List.set_cons_zero,List.set_cons_succ])
 go_cut [42] (fun v42 wc=>∃(kq:Nat) (x42_2:Bool),v42=.bool x42_2∧Aside0 (ZJ.j0 kq x42_2 l0_0 l0_1 a0_2 a1_0 l1_1 l1_2=some r)∧Aside0 (kq≤k)∧Aside0 (wc.heap[gb95001]? = some (.cells #[(.slice A0_0 l0_0.length c0_0),(.slice A0_1 l0_1.length c0_1),.int .i64 a0_2] 35 (0,0)))∧Aside0 (wc.heap[gb95002]? = some (.cells #[.int .i64 a1_0,(.slice A1_1 l1_1.length c1_1),(.slice A1_2 l1_2.length c1_2)] 66 (0,0)))∧Aside0 (Below w.heap.size w wc))
 case first=>
  have H:=HC3.out
  clear HC3
  replace H:=Zh H
  obtain⟨t95003,A60,H⟩:=H;have A6:=Za A60;clear A60
  by_cases c7:t95003=true
  ·subst c7
   rw[if_pos rfl] at H
   replace H:=Zh H
   obtain⟨t95004,A80,H⟩:=H;have A8:=Za A80;clear A80
   by_cases c9:t95004=true
   ·subst c9
    rw[if_pos rfl] at H
    by_cases c10:(l1_1.length:Int)=(l0_0.length:Int)
    ·rw[if_pos c10] at H
     have c10b0:((l1_1.length:Int) == (l0_0.length:Int))=true:=beq_iff_eq.mpr c10
     have c10b1:((l1_1.length:Int) != (l0_0.length:Int))=false:=bne_eq_false_iff_eq.mpr c10
     have c10b2:(l1_1.length == l0_0.length)=true:=by first|simpa using c10|(simp at c10 ⊢;omega)
     clear c10
     by_cases c11:0<(l1_1.length:Int)
     ·rw[if_pos c11] at H
      have c11b0:decide (0<(l1_1.length:Int))=true:=Ze c11
      have c11b1:decide (0<l1_1.length)=true:=Ze (by omega)
      clear c11
      by_cases c12:(rd l1_1 0)=0
      ·rw[if_pos c12] at H
       have c12b0:((rd l1_1 0) == 0)=true:=beq_iff_eq.mpr c12
       have c12b1:((rd l1_1 0) != 0)=false:=bne_eq_false_iff_eq.mpr c12
       clear c12
       replace H:=Zh H
       obtain⟨t95006,A130,H⟩:=H;have A13:=Za A130;clear A130
       have H':=Za H
       clear H
       have hcz15_0:w5.cell? ⟨gb95001,0,none⟩=some (.slice A0_0 l0_0.length c0_0):=(Zm BK95001.out 0).trans rfl
       have hcz15_1:w5.cell? ⟨gb95001,1,none⟩=some (.slice A0_1 l0_1.length c0_1):=(Zm BK95001.out 1).trans rfl
       have hcz15_2:w5.cell? ⟨gb95001,2,none⟩=some (.int .i64 a0_2):=(Zm BK95001.out 2).trans rfl
       have hfz15_0:=Zo BK95001.out 0
       have hfz15_1:=Zo BK95001.out 1
       have hfz15_2:=Zo BK95001.out 2
       go_wp2_with (first|(go_at_call 66;(with_reducible refine(Z6.calls k _ _ l0_0 _ _ l0_1 a0_2 true _ ?side1 ?side2 ?side3 ?side4 A6.out).mono ?_);(case side1=>exact(Zb HR0_0.out HB.out));(case side2=>exact HC0_0.out);(case side3=>exact(Zb HR0_1.out HB.out));(case side4=>exact HC0_1.out);rintro e w16 ⟨rfl,hb⟩;have n0_:=Za (Zw (g:=gb95001) (o:=.cells #[.slice A0_0 l0_0.length c0_0,.slice A0_1 l0_1.length c0_1,.int .i64 a0_2] 35 (0,0)) BK95001.out hb);have n1_:=Za (Zw (g:=gb95002) (o:=.cells #[.int .i64 a1_0,.slice A1_1 l1_1.length c1_1,.slice A1_2 l1_2.length c1_2] 66 (0,0)) BK95002.out hb);have n2_:=Za (Zv (by exact HB.out) hb);clear BK95001;clear BK95002;clear HB;have BK95001:=n0_;have BK95002:=n1_;have HB:=n2_;clear n0_ n1_ n2_;have hcz17_0:w16.cell? ⟨gb95002,0,none⟩=some (.int .i64 a1_0):=(Zm BK95002.out 0).trans rfl;have hcz17_1:w16.cell? ⟨gb95002,1,none⟩=some (.slice A1_1 l1_1.length c1_1):=(Zm BK95002.out 1).trans rfl;have hcz17_2:w16.cell? ⟨gb95002,2,none⟩=some (.slice A1_2 l1_2.length c1_2):=(Zm BK95002.out 2).trans rfl;have hfz17_0:=Zo BK95002.out 0;have hfz17_1:=Zo BK95002.out 1;have hfz17_2:=Zo BK95002.out 2;have hcz18_0:w16.cell? ⟨gb95001,0,none⟩=some (.slice A0_0 l0_0.length c0_0):=(Zm BK95001.out 0).trans rfl;have hcz18_1:w16.cell? ⟨gb95001,1,none⟩=some (.slice A0_1 l0_1.length c0_1):=(Zm BK95001.out 1).trans rfl;have hcz18_2:w16.cell? ⟨gb95001,2,none⟩=some (.int .i64 a0_2):=(Zm BK95001.out 2).trans rfl;have hfz18_0:=Zo BK95001.out 0;have hfz18_1:=Zo BK95001.out 1)|(go_at_call 68;(with_reducible refine(ZT.calls a1_0 0 (wrap64 (a0_2+1)) true _ A8.out).mono ?_);rintro e w' ⟨rfl,⟨nd,rfl⟩⟩;(try first|exact⟨rfl,_,World.drewN_drewN _ _ _⟩|exact⟨rfl,_,Eq.trans (World.drewN_drewN _ _ _) (congrArg (World.drewN _) (Nat.add_assoc _ _ _))⟩);have p95005:0≤(0:Int):=(by omega);have q95005:0<(l1_1.length:Int):=Zd (by with_reducible assumption);obtain⟨ad95005,e95005,hx95005_0⟩:=Kd.at_int HR1_1.out 0 p95005 q95005;cases e95005;have qi95005:(0<l1_1.length)=True:=eq_true (by omega);(try rw[show((0:Int)).toNat=0 from rfl] at hx95005_0);(try rw[Addr.add_zero'] at hx95005_0);replace hx95005_0:=(HB.out.cell (Zc w _ hx95005_0)).trans hx95005_0;replace p95005:=eq_true p95005;replace q95005:=eq_true q95005)|(go_at_call 140;(with_reducible refine(Zap.calls k _ _ l1_2 t95006 _ ?side1 ?side2 A13.out).mono ?_);(case side1=>exact(Zb HR1_2.out (by repeat(first|(with_reducible first|exact HB.out|apply Zp|apply Zn|apply Zr|refine Zq ?_ GE95001.out|refine Zq ?_ GE95002.out)|exact HB.out))));(case side2=>exact HC1_2.out);rintro e w' ⟨rfl,⟨nd,rfl⟩⟩;(try first|exact⟨rfl,_,World.drewN_drewN _ _ _⟩|exact⟨rfl,_,Eq.trans (World.drewN_drewN _ _ _) (congrArg (World.drewN _) (Nat.add_assoc _ _ _))⟩)))
       go_meet
       case rel=>exact⟨_,(!t95006),(by first|rfl|(simp;done)|(simp[*];done)),H',⟨by first|omega|exact Nat.le_refl _⟩,⟨by(with_reducible repeat(first|refine Zs ?_ _|refine Zu ?_|refine Zt ?_ _));exact BK95001.out⟩,⟨by(with_reducible repeat(first|refine Zs ?_ _|refine Zu ?_|refine Zt ?_ _));exact BK95002.out⟩,⟨by repeat(first|(with_reducible first|exact HB.out|apply Zp|apply Zn|apply Zr|refine Zq ?_ GE95001.out|refine Zq ?_ GE95002.out)|exact HB.out)⟩⟩
      ·rw[if_neg c12] at H
       have c12b0:((rd l1_1 0) == 0)=false:=beq_eq_false_iff_ne.mpr c12
       have c12b1:((rd l1_1 0) != 0)=true:=bne_iff_ne.mpr c12
       have H':=Za H
       clear H
       have hcz20_0:w5.cell? ⟨gb95001,0,none⟩=some (.slice A0_0 l0_0.length c0_0):=(Zm BK95001.out 0).trans rfl
       have hcz20_1:w5.cell? ⟨gb95001,1,none⟩=some (.slice A0_1 l0_1.length c0_1):=(Zm BK95001.out 1).trans rfl
       have hcz20_2:w5.cell? ⟨gb95001,2,none⟩=some (.int .i64 a0_2):=(Zm BK95001.out 2).trans rfl
       have hfz20_0:=Zo BK95001.out 0
       have hfz20_1:=Zo BK95001.out 1
       have hfz20_2:=Zo BK95001.out 2
       go_wp2_with (first|(go_at_call 66;(with_reducible refine(Z6.calls k _ _ l0_0 _ _ l0_1 a0_2 true _ ?side1 ?side2 ?side3 ?side4 A6.out).mono ?_);(case side1=>exact(Zb HR0_0.out HB.out));(case side2=>exact HC0_0.out);(case side3=>exact(Zb HR0_1.out HB.out));(case side4=>exact HC0_1.out);rintro e w21 ⟨rfl,hb⟩;have n0_:=Za (Zw (g:=gb95001) (o:=.cells #[.slice A0_0 l0_0.length c0_0,.slice A0_1 l0_1.length c0_1,.int .i64 a0_2] 35 (0,0)) BK95001.out hb);have n1_:=Za (Zw (g:=gb95002) (o:=.cells #[.int .i64 a1_0,.slice A1_1 l1_1.length c1_1,.slice A1_2 l1_2.length c1_2] 66 (0,0)) BK95002.out hb);have n2_:=Za (Zv (by exact HB.out) hb);clear BK95001;clear BK95002;clear HB;have BK95001:=n0_;have BK95002:=n1_;have HB:=n2_;clear n0_ n1_ n2_;have hcz22_0:w21.cell? ⟨gb95002,0,none⟩=some (.int .i64 a1_0):=(Zm BK95002.out 0).trans rfl;have hcz22_1:w21.cell? ⟨gb95002,1,none⟩=some (.slice A1_1 l1_1.length c1_1):=(Zm BK95002.out 1).trans rfl;have hcz22_2:w21.cell? ⟨gb95002,2,none⟩=some (.slice A1_2 l1_2.length c1_2):=(Zm BK95002.out 2).trans rfl;have hfz22_0:=Zo BK95002.out 0;have hfz22_1:=Zo BK95002.out 1;have hfz22_2:=Zo BK95002.out 2;have hcz23_0:w21.cell? ⟨gb95001,0,none⟩=some (.slice A0_0 l0_0.length c0_0):=(Zm BK95001.out 0).trans rfl;have hcz23_1:w21.cell? ⟨gb95001,1,none⟩=some (.slice A0_1 l0_1.length c0_1):=(Zm BK95001.out 1).trans rfl;have hcz23_2:w21.cell? ⟨gb95001,2,none⟩=some (.int .i64 a0_2):=(Zm BK95001.out 2).trans rfl;have hfz23_0:=Zo BK95001.out 0;have hfz23_1:=Zo BK95001.out 1)|(go_at_call 68;(with_reducible refine(ZT.calls a1_0 0 (wrap64 (a0_2+1)) true _ A8.out).mono ?_);rintro e w' ⟨rfl,⟨nd,rfl⟩⟩;(try first|exact⟨rfl,_,World.drewN_drewN _ _ _⟩|exact⟨rfl,_,Eq.trans (World.drewN_drewN _ _ _) (congrArg (World.drewN _) (Nat.add_assoc _ _ _))⟩);have p95005:0≤(0:Int):=(by omega);have q95005:0<(l1_1.length:Int):=Zd (by with_reducible assumption);obtain⟨ad95005,e95005,hx95005_0⟩:=Kd.at_int HR1_1.out 0 p95005 q95005;cases e95005;have qi95005:(0<l1_1.length)=True:=eq_true (by omega);(try rw[show((0:Int)).toNat=0 from rfl] at hx95005_0);(try rw[Addr.add_zero'] at hx95005_0);replace hx95005_0:=(HB.out.cell (Zc w _ hx95005_0)).trans hx95005_0;replace p95005:=eq_true p95005;replace q95005:=eq_true q95005))
       go_meet
       case rel=>exact⟨_,(true),(by first|rfl|(simp;done)|(simp[*];done)),H',⟨by first|omega|exact Nat.le_refl _⟩,⟨by(with_reducible repeat(first|refine Zs ?_ _|refine Zu ?_|refine Zt ?_ _));exact BK95001.out⟩,⟨by(with_reducible repeat(first|refine Zs ?_ _|refine Zu ?_|refine Zt ?_ _));exact BK95002.out⟩,⟨by repeat(first|(with_reducible first|exact HB.out|apply Zp|apply Zn|apply Zr|refine Zq ?_ GE95001.out|refine Zq ?_ GE95002.out)|exact HB.out)⟩⟩
     ·rw[if_neg c11] at H
      exact absurd H (by simp)
    ·rw[if_neg c10] at H
     have c10b0:((l1_1.length:Int) == (l0_0.length:Int))=false:=beq_eq_false_iff_ne.mpr c10
     have c10b1:((l1_1.length:Int) != (l0_0.length:Int))=true:=bne_iff_ne.mpr c10
     have c10b2:(l1_1.length == l0_0.length)=false:=by first|simpa using c10|(simp at c10 ⊢;omega)
     have H':=Za H
     clear H
     have hcz25_0:w5.cell? ⟨gb95001,0,none⟩=some (.slice A0_0 l0_0.length c0_0):=(Zm BK95001.out 0).trans rfl
     have hcz25_1:w5.cell? ⟨gb95001,1,none⟩=some (.slice A0_1 l0_1.length c0_1):=(Zm BK95001.out 1).trans rfl
     have hcz25_2:w5.cell? ⟨gb95001,2,none⟩=some (.int .i64 a0_2):=(Zm BK95001.out 2).trans rfl
     have hfz25_0:=Zo BK95001.out 0
     have hfz25_1:=Zo BK95001.out 1
     have hfz25_2:=Zo BK95001.out 2
     go_wp2_with (first|(go_at_call 66;(with_reducible refine(Z6.calls k _ _ l0_0 _ _ l0_1 a0_2 true _ ?side1 ?side2 ?side3 ?side4 A6.out).mono ?_);(case side1=>exact(Zb HR0_0.out HB.out));(case side2=>exact HC0_0.out);(case side3=>exact(Zb HR0_1.out HB.out));(case side4=>exact HC0_1.out);rintro e w26 ⟨rfl,hb⟩;have n0_:=Za (Zw (g:=gb95001) (o:=.cells #[.slice A0_0 l0_0.length c0_0,.slice A0_1 l0_1.length c0_1,.int .i64 a0_2] 35 (0,0)) BK95001.out hb);have n1_:=Za (Zw (g:=gb95002) (o:=.cells #[.int .i64 a1_0,.slice A1_1 l1_1.length c1_1,.slice A1_2 l1_2.length c1_2] 66 (0,0)) BK95002.out hb);have n2_:=Za (Zv (by exact HB.out) hb);clear BK95001;clear BK95002;clear HB;have BK95001:=n0_;have BK95002:=n1_;have HB:=n2_;clear n0_ n1_ n2_;have hcz27_0:w26.cell? ⟨gb95002,0,none⟩=some (.int .i64 a1_0):=(Zm BK95002.out 0).trans rfl;have hcz27_1:w26.cell? ⟨gb95002,1,none⟩=some (.slice A1_1 l1_1.length c1_1):=(Zm BK95002.out 1).trans rfl;have hcz27_2:w26.cell? ⟨gb95002,2,none⟩=some (.slice A1_2 l1_2.length c1_2):=(Zm BK95002.out 2).trans rfl;have hfz27_0:=Zo BK95002.out 0;have hfz27_1:=Zo BK95002.out 1;have hfz27_2:=Zo BK95002.out 2;have hcz28_0:w26.cell? ⟨gb95001,0,none⟩=some (.slice A0_0 l0_0.length c0_0):=(Zm BK95001.out 0).trans rfl;have hcz28_1:w26.cell? ⟨gb95001,1,none⟩=some (.slice A0_1 l0_1.length c0_1):=(Zm BK95001.out 1).trans rfl;have hcz28_2:w26.cell? ⟨gb95001,2,none⟩=some (.int .i64 a0_2):=(Zm BK95001.out 2).trans rfl;have hfz28_0:=Zo BK95001.out 0;have hfz28_1:=Zo BK95001.out 1)|(go_at_call 68;(with_reducible refine(ZT.calls a1_0 0 (wrap64 (a0_2+1)) true _ A8.out).mono ?_);rintro e w' ⟨rfl,⟨nd,rfl⟩⟩;(try first|exact⟨rfl,_,World.drewN_drewN _ _ _⟩|exact⟨rfl,_,Eq.trans (World.drewN_drewN _ _ _) (congrArg (World.drewN _) (Nat.add_assoc _ _ _))⟩)))
     go_meet
     case rel=>exact⟨_,(true),(by first|rfl|(simp;done)|(simp[*];done)),H',⟨by first|omega|exact Nat.le_refl _⟩,⟨by(with_reducible repeat(first|refine Zs ?_ _|refine Zu ?_|refine Zt ?_ _));exact BK95001.out⟩,⟨by(with_reducible repeat(first|refine Zs ?_ _|refine Zu ?_|refine Zt ?_ _));exact BK95002.out⟩,⟨by repeat(first|(with_reducible first|exact HB.out|apply Zp|apply Zn|apply Zr|refine Zq ?_ GE95001.out|refine Zq ?_ GE95002.out)|exact HB.out)⟩⟩
   ·replace c9:=Bool.eq_false_iff.mpr c9
    subst c9
    have H1:(ZJ.j0 k true l0_0 l0_1 a0_2 a1_0 l1_1 l1_2)=some r:=by rw[if_neg (show ¬(false=true) by decide)] at H;exact H
    clear H
    have H:=H1
    clear H1
    have H':=Za H
    clear H
    have hcz30_0:w5.cell? ⟨gb95001,0,none⟩=some (.slice A0_0 l0_0.length c0_0):=(Zm BK95001.out 0).trans rfl
    have hcz30_1:w5.cell? ⟨gb95001,1,none⟩=some (.slice A0_1 l0_1.length c0_1):=(Zm BK95001.out 1).trans rfl
    have hcz30_2:w5.cell? ⟨gb95001,2,none⟩=some (.int .i64 a0_2):=(Zm BK95001.out 2).trans rfl
    have hfz30_0:=Zo BK95001.out 0
    have hfz30_1:=Zo BK95001.out 1
    have hfz30_2:=Zo BK95001.out 2
    go_wp2_with (first|(go_at_call 66;(with_reducible refine(Z6.calls k _ _ l0_0 _ _ l0_1 a0_2 true _ ?side1 ?side2 ?side3 ?side4 A6.out).mono ?_);(case side1=>exact(Zb HR0_0.out HB.out));(case side2=>exact HC0_0.out);(case side3=>exact(Zb HR0_1.out HB.out));(case side4=>exact HC0_1.out);rintro e w31 ⟨rfl,hb⟩;have n0_:=Za (Zw (g:=gb95001) (o:=.cells #[.slice A0_0 l0_0.length c0_0,.slice A0_1 l0_1.length c0_1,.int .i64 a0_2] 35 (0,0)) BK95001.out hb);have n1_:=Za (Zw (g:=gb95002) (o:=.cells #[.int .i64 a1_0,.slice A1_1 l1_1.length c1_1,.slice A1_2 l1_2.length c1_2] 66 (0,0)) BK95002.out hb);have n2_:=Za (Zv (by exact HB.out) hb);clear BK95001;clear BK95002;clear HB;have BK95001:=n0_;have BK95002:=n1_;have HB:=n2_;clear n0_ n1_ n2_;have hcz32_0:w31.cell? ⟨gb95002,0,none⟩=some (.int .i64 a1_0):=(Zm BK95002.out 0).trans rfl;have hcz32_1:w31.cell? ⟨gb95002,1,none⟩=some (.slice A1_1 l1_1.length c1_1):=(Zm BK95002.out 1).trans rfl;have hcz32_2:w31.cell? ⟨gb95002,2,none⟩=some (.slice A1_2 l1_2.length c1_2):=(Zm BK95002.out 2).trans rfl;have hfz32_0:=Zo BK95002.out 0;have hfz32_1:=Zo BK95002.out 1;have hfz32_2:=Zo BK95002.out 2;have hcz33_0:w31.cell? ⟨gb95001,0,none⟩=some (.slice A0_0 l0_0.length c0_0):=(Zm BK95001.out 0).trans rfl;have hcz33_1:w31.cell? ⟨gb95001,1,none⟩=some (.slice A0_1 l0_1.length c0_1):=(Zm BK95001.out 1).trans rfl;have hcz33_2:w31.cell? ⟨gb95001,2,none⟩=some (.int .i64 a0_2):=(Zm BK95001.out 2).trans rfl;have hfz33_0:=Zo BK95001.out 0;have hfz33_1:=Zo BK95001.out 1)|(go_at_call 68;(with_reducible refine(ZT.calls a1_0 0 (wrap64 (a0_2+1)) false _ A8.out).mono ?_);rintro e w' ⟨rfl,⟨nd,rfl⟩⟩;(try first|exact⟨rfl,_,World.drewN_drewN _ _ _⟩|exact⟨rfl,_,Eq.trans (World.drewN_drewN _ _ _) (congrArg (World.drewN _) (Nat.add_assoc _ _ _))⟩)))
    go_meet
    case rel=>exact⟨_,(true),(by first|rfl|(simp;done)|(simp[*];done)),H',⟨by first|omega|exact Nat.le_refl _⟩,⟨by(with_reducible repeat(first|refine Zs ?_ _|refine Zu ?_|refine Zt ?_ _));exact BK95001.out⟩,⟨by(with_reducible repeat(first|refine Zs ?_ _|refine Zu ?_|refine Zt ?_ _));exact BK95002.out⟩,⟨by repeat(first|(with_reducible first|exact HB.out|apply Zp|apply Zn|apply Zr|refine Zq ?_ GE95001.out|refine Zq ?_ GE95002.out)|exact HB.out)⟩⟩
  ·replace c7:=Bool.eq_false_iff.mpr c7
   subst c7
   have H1:(ZJ.j0 k true l0_0 l0_1 a0_2 a1_0 l1_1 l1_2)=some r:=by rw[if_neg (show ¬(false=true) by decide)] at H;exact H
   clear H
   have H:=H1
   clear H1
   have H':=Za H
   clear H
   have hcz35_0:w5.cell? ⟨gb95001,0,none⟩=some (.slice A0_0 l0_0.length c0_0):=(Zm BK95001.out 0).trans rfl
   have hcz35_1:w5.cell? ⟨gb95001,1,none⟩=some (.slice A0_1 l0_1.length c0_1):=(Zm BK95001.out 1).trans rfl
   have hcz35_2:w5.cell? ⟨gb95001,2,none⟩=some (.int .i64 a0_2):=(Zm BK95001.out 2).trans rfl
   have hfz35_0:=Zo BK95001.out 0
   have hfz35_1:=Zo BK95001.out 1
   have hfz35_2:=Zo BK95001.out 2
   go_wp2_with (first|(go_at_call 66;(with_reducible refine(Z6.calls k _ _ l0_0 _ _ l0_1 a0_2 false _ ?side1 ?side2 ?side3 ?side4 A6.out).mono ?_);(case side1=>exact(Zb HR0_0.out HB.out));(case side2=>exact HC0_0.out);(case side3=>exact(Zb HR0_1.out HB.out));(case side4=>exact HC0_1.out);rintro e w36 ⟨rfl,hb⟩;have n0_:=Za (Zw (g:=gb95001) (o:=.cells #[.slice A0_0 l0_0.length c0_0,.slice A0_1 l0_1.length c0_1,.int .i64 a0_2] 35 (0,0)) BK95001.out hb);have n1_:=Za (Zw (g:=gb95002) (o:=.cells #[.int .i64 a1_0,.slice A1_1 l1_1.length c1_1,.slice A1_2 l1_2.length c1_2] 66 (0,0)) BK95002.out hb);have n2_:=Za (Zv (by exact HB.out) hb);clear BK95001;clear BK95002;clear HB;have BK95001:=n0_;have BK95002:=n1_;have HB:=n2_;clear n0_ n1_ n2_;(try clear hi)))
   go_meet
   case rel=>exact⟨_,(true),(by first|rfl|(simp;done)|(simp[*];done)),H',⟨by first|omega|exact Nat.le_refl _⟩,⟨by(with_reducible repeat(first|refine Zs ?_ _|refine Zu ?_|refine Zt ?_ _));exact BK95001.out⟩,⟨by(with_reducible repeat(first|refine Zs ?_ _|refine Zu ?_|refine Zt ?_ _));exact BK95002.out⟩,⟨by repeat(first|(with_reducible first|exact HB.out|apply Zp|apply Zn|apply Zr|refine Zq ?_ GE95001.out|refine Zq ?_ GE95002.out)|exact HB.out)⟩⟩
 case rest=>
  clear HC3
  try clear c1
  try clear c2
  try clear p2
  try clear c3
  try clear p6
  try clear c7
  try clear c9
  try clear p9
  try clear q9
  try clear qi9
  try clear c10
  try clear c10b0
  try clear c10b1
  try clear c10b2
  try clear c11
  try clear c11b0
  try clear c11b1
  try clear c12
  try clear c12b0
  try clear c12b1
  try clear c14
  try clear c19
  try clear c24
  try clear c29
  try clear c34
  try clear p95005
  try clear q95005
  obtain⟨kq,x42_2,rfl,HA,HJ2,BK95001,BK95002,HB⟩:=hcut
  cases kq with
  | zero=>exact absurd HA.out (by simp[ZJ.j0])
  | succ kj2=>
   have H:=HA.out
   clear HA
   simp only[ZJ.j0] at H
   by_cases c37:x42_2=true
   ·subst c37
    rw[if_pos rfl] at H
    obtain rfl:=Zg H
    go_wp2
    repeat(go_quiet (fail);try go_wp2)
    go_ret
    exact⟨by first|rfl|(simp[Zy,Zx] <;> rfl)|(simp[*,Zy,Zx] <;> rfl),by repeat(first|(with_reducible first|exact HB.out|apply Zp|apply Zn|apply Zr|refine Zq ?_ GE95001.out|refine Zq ?_ GE95002.out)|exact HB.out)⟩
   ·replace c37:=Bool.eq_false_iff.mpr c37
    subst c37
    have H1:(ZJ.l0 kj2 l1_1 (l1_1.length:Int) 0 l0_0 l0_1 a0_2 a1_0 l1_1 l1_2)=some r:=by rw[if_neg (show ¬(false=true) by decide)] at H;exact H
    clear H
    have H:=H1
    clear H1
    have H':=Za H
    clear H
    have hcz39_0:wc.cell? ⟨gb95002,0,none⟩=some (.int .i64 a1_0):=(Zm BK95002.out 0).trans rfl
    have hcz39_1:wc.cell? ⟨gb95002,1,none⟩=some (.slice A1_1 l1_1.length c1_1):=(Zm BK95002.out 1).trans rfl
    have hcz39_2:wc.cell? ⟨gb95002,2,none⟩=some (.slice A1_2 l1_2.length c1_2):=(Zm BK95002.out 2).trans rfl
    have hfz39_0:=Zo BK95002.out 0
    have hfz39_1:=Zo BK95002.out 1
    have hfz39_2:=Zo BK95002.out 2
    go_wp2
    repeat(go_quiet (fail);try go_wp2)
    go_loopg [46] kj2 (fun kq v46 w'=>∃(x46_2:Int),v46=.int .i64 x46_2∧Aside0 (ZJ.l0 kq l1_1 (l1_1.length:Int) x46_2 l0_0 l0_1 a0_2 a1_0 l1_1 l1_2=some r)∧Aside0 (kq≤kj2)∧Aside0 (w'.heap[gb95001]? = some (.cells #[(.slice A0_0 l0_0.length c0_0),(.slice A0_1 l0_1.length c0_1),.int .i64 a0_2] 35 (0,0)))∧Aside0 (w'.heap[gb95002]? = some (.cells #[.int .i64 a1_0,(.slice A1_1 l1_1.length c1_1),(.slice A1_2 l1_2.length c1_2)] 66 (0,0)))∧Aside0 (Below w.heap.size w w'))
    case atStart=>exact⟨(0),(by first|rfl|(simp;done)|(simp[*];done)),H',⟨Nat.le_refl _⟩,⟨by(with_reducible repeat(first|refine Zs ?_ _|refine Zu ?_|refine Zt ?_ _));exact BK95001.out⟩,⟨by(with_reducible repeat(first|refine Zs ?_ _|refine Zu ?_|refine Zt ?_ _));exact BK95002.out⟩,⟨by repeat(first|(with_reducible first|exact HB.out|apply Zp|apply Zn|apply Zr|refine Zq ?_ GE95001.out|refine Zq ?_ GE95002.out)|exact HB.out)⟩⟩
    case round=>
     clear H'
     try clear c1
     try clear c2
     try clear p2
     try clear c3
     try clear p6
     try clear c7
     try clear c9
     try clear p9
     try clear q9
     try clear qi9
     try clear c10
     try clear c10b0
     try clear c10b1
     try clear c10b2
     try clear c11
     try clear c11b0
     try clear c11b1
     try clear c12
     try clear c12b0
     try clear c12b1
     try clear c14
     try clear c19
     try clear c24
     try clear c29
     try clear c34
     try clear c37
     try clear c38
     try clear p2
     try clear p6
     try clear p9
     try clear p95005
     try clear q9
     try clear q95005
     obtain⟨x46_2,rfl,HA,HK2,BK95001,BK95002,HB⟩:=hrel
     cases gk with
     | zero=>exact absurd HA.out (by simp[ZJ.l0])
     | succ k2=>
      have H:=HA.out
      clear HA
      simp only[ZJ.l0] at H
      by_cases c40:x46_2<(l1_1.length:Int)
      ·rw[if_pos c40] at H
       have c40b0:decide (x46_2<(l1_1.length:Int))=true:=Ze c40
       clear c40
       by_cases c41:0≤x46_2
       ·rw[if_pos c41] at H
        have c41b0:decide (0≤x46_2)=true:=Ze c41
        clear c41
        by_cases c42:x46_2<(l1_1.length:Int)
        ·rw[if_pos c42] at H
         have c42b0:decide (x46_2<(l1_1.length:Int))=true:=Ze c42
         clear c42
         by_cases c43:x46_2 > 0
         ·rw[if_pos c43] at H
          have c43b0:decide (0<x46_2)=true:=Ze c43
          clear c43
          replace H:=Zh H
          obtain⟨t95008,A440,H⟩:=H;have A44:=Za A440;clear A440
          by_cases c45:t95008=true
          ·subst c45
           rw[if_pos rfl] at H
           have H':=Za H
           clear H
           have p95007:0≤(x46_2:Int):=Zd (by with_reducible assumption)
           have q95007:x46_2<(l1_1.length:Int):=Zd (by with_reducible assumption)
           obtain⟨ad95007,e95007,hx95007_0⟩:=Kd.at_int HR1_1.out x46_2 p95007 q95007
           cases e95007
           replace hx95007_0:=(HB.out.cell (Zc w _ hx95007_0)).trans hx95007_0
           replace p95007:=eq_true p95007
           replace q95007:=eq_true q95007
           have hcz47_0:wr.cell? ⟨gb95002,0,none⟩=some (.int .i64 a1_0):=(Zm BK95002.out 0).trans rfl
           have hcz47_1:wr.cell? ⟨gb95002,1,none⟩=some (.slice (some ad95007) l1_1.length c1_1):=(Zm BK95002.out 1).trans rfl
           have hcz47_2:wr.cell? ⟨gb95002,2,none⟩=some (.slice A1_2 l1_2.length c1_2):=(Zm BK95002.out 2).trans rfl
           have hfz47_0:=Zo BK95002.out 0
           have hfz47_1:=Zo BK95002.out 1
           have hfz47_2:=Zo BK95002.out 2
           go_wp2_with (first|(go_at_call 68;(with_reducible refine(ZT.calls (rd l1_1 x46_2) (-1) (wrap64 (a1_0 - 1)) true _ A44.out).mono ?_);rintro e w' ⟨rfl,⟨nd,rfl⟩⟩;(try first|exact⟨rfl,_,World.drewN_drewN _ _ _⟩|exact⟨rfl,_,Eq.trans (World.drewN_drewN _ _ _) (congrArg (World.drewN _) (Nat.add_assoc _ _ _))⟩)))
           go_roundg k2
           case measure=>have:=HJ2.out;have:=HK2.out;omega
           case rel=>exact⟨(wrap64 (x46_2+1)),(by first|rfl|(simp;done)|(simp[*];done)),H',⟨by have:=HJ2.out;have:=HK2.out;omega⟩,⟨by(with_reducible repeat(first|refine Zs ?_ _|refine Zu ?_|refine Zt ?_ _));exact BK95001.out⟩,⟨by(with_reducible repeat(first|refine Zs ?_ _|refine Zu ?_|refine Zt ?_ _));exact BK95002.out⟩,⟨by repeat(first|(with_reducible first|exact HB.out|apply Zp|apply Zn|apply Zr|refine Zq ?_ GE95001.out|refine Zq ?_ GE95002.out)|exact HB.out)⟩⟩
          ·replace c45:=Bool.eq_false_iff.mpr c45
           subst c45
           have H1:(some false)=some r:=by rw[if_neg (show ¬(false=true) by decide)] at H;exact H
           clear H
           have H:=H1
           clear H1
           obtain rfl:=Zg H
           have p95007:0≤(x46_2:Int):=Zd (by with_reducible assumption)
           have q95007:x46_2<(l1_1.length:Int):=Zd (by with_reducible assumption)
           obtain⟨ad95007,e95007,hx95007_0⟩:=Kd.at_int HR1_1.out x46_2 p95007 q95007
           cases e95007
           replace hx95007_0:=(HB.out.cell (Zc w _ hx95007_0)).trans hx95007_0
           replace p95007:=eq_true p95007
           replace q95007:=eq_true q95007
           have hcz49_0:wr.cell? ⟨gb95002,0,none⟩=some (.int .i64 a1_0):=(Zm BK95002.out 0).trans rfl
           have hcz49_1:wr.cell? ⟨gb95002,1,none⟩=some (.slice (some ad95007) l1_1.length c1_1):=(Zm BK95002.out 1).trans rfl
           have hcz49_2:wr.cell? ⟨gb95002,2,none⟩=some (.slice A1_2 l1_2.length c1_2):=(Zm BK95002.out 2).trans rfl
           have hfz49_0:=Zo BK95002.out 0
           have hfz49_1:=Zo BK95002.out 1
           have hfz49_2:=Zo BK95002.out 2
           go_wp2_with (first|(go_at_call 68;(with_reducible refine(ZT.calls (rd l1_1 x46_2) (-1) (wrap64 (a1_0 - 1)) false _ A44.out).mono ?_);rintro e w' ⟨rfl,⟨nd,rfl⟩⟩;(try first|exact⟨rfl,_,World.drewN_drewN _ _ _⟩|exact⟨rfl,_,Eq.trans (World.drewN_drewN _ _ _) (congrArg (World.drewN _) (Nat.add_assoc _ _ _))⟩)))
           go_ret
           exact⟨by first|rfl|(simp[Zy,Zx] <;> rfl)|(simp[*,Zy,Zx] <;> rfl),by repeat(first|(with_reducible first|exact HB.out|apply Zp|apply Zn|apply Zr|refine Zq ?_ GE95001.out|refine Zq ?_ GE95002.out)|exact HB.out)⟩
         ·rw[if_neg c43] at H
          have c43b0:decide (0<x46_2)=false:=Zf c43
          clear c43
          have H':=Za H
          clear H
          have p95007:0≤(x46_2:Int):=Zd (by with_reducible assumption)
          have q95007:x46_2<(l1_1.length:Int):=Zd (by with_reducible assumption)
          obtain⟨ad95007,e95007,hx95007_0⟩:=Kd.at_int HR1_1.out x46_2 p95007 q95007
          cases e95007
          replace hx95007_0:=(HB.out.cell (Zc w _ hx95007_0)).trans hx95007_0
          replace p95007:=eq_true p95007
          replace q95007:=eq_true q95007
          go_wp2
          repeat(go_quiet (fail);try go_wp2)
          go_roundg k2
          case measure=>have:=HJ2.out;have:=HK2.out;omega
          case rel=>exact⟨(wrap64 (x46_2+1)),(by first|rfl|(simp;done)|(simp[*];done)),H',⟨by have:=HJ2.out;have:=HK2.out;omega⟩,⟨by(with_reducible repeat(first|refine Zs ?_ _|refine Zu ?_|refine Zt ?_ _));exact BK95001.out⟩,⟨by(with_reducible repeat(first|refine Zs ?_ _|refine Zu ?_|refine Zt ?_ _));exact BK95002.out⟩,⟨by repeat(first|(with_reducible first|exact HB.out|apply Zp|apply Zn|apply Zr|refine Zq ?_ GE95001.out|refine Zq ?_ GE95002.out)|exact HB.out)⟩⟩
        ·rw[if_neg c42] at H
         exact absurd H (by simp)
       ·rw[if_neg c41] at H
        exact absurd H (by simp)
      ·rw[if_neg c40] at H
       have c40b0:decide (x46_2<(l1_1.length:Int))=false:=Zf c40
       clear c40
       have H':=Za H
       clear H
       go_wp2
       repeat(go_quiet (fail);try go_wp2)
       go_loopg [7] k2 (fun kq v7 w'=>∃(x7_3:Int),v7=.int .i64 x7_3∧Aside0 (ZJ.l1 kq x7_3 l0_0 l0_1 a0_2 a1_0 l1_1 l1_2=some r)∧Aside0 (kq≤k2)∧Aside0 (w'.heap[gb95001]? = some (.cells #[(.slice A0_0 l0_0.length c0_0),(.slice A0_1 l0_1.length c0_1),.int .i64 a0_2] 35 (0,0)))∧Aside0 (w'.heap[gb95002]? = some (.cells #[.int .i64 a1_0,(.slice A1_1 l1_1.length c1_1),(.slice A1_2 l1_2.length c1_2)] 66 (0,0)))∧Aside0 (Below w.heap.size w w'))
       case atStart=>exact⟨(1),(by first|rfl|(simp;done)|(simp[*];done)),H',⟨Nat.le_refl _⟩,⟨by(with_reducible repeat(first|refine Zs ?_ _|refine Zu ?_|refine Zt ?_ _));exact BK95001.out⟩,⟨by(with_reducible repeat(first|refine Zs ?_ _|refine Zu ?_|refine Zt ?_ _));exact BK95002.out⟩,⟨by repeat(first|(with_reducible first|exact HB.out|apply Zp|apply Zn|apply Zr|refine Zq ?_ GE95001.out|refine Zq ?_ GE95002.out)|exact HB.out)⟩⟩
       case round=>
        clear H'
        try clear c1
        try clear c2
        try clear p2
        try clear c3
        try clear c4
        try clear p6
        try clear c7
        try clear c9
        try clear p9
        try clear q9
        try clear qi9
        try clear c10
        try clear c10b0
        try clear c10b1
        try clear c10b2
        try clear c11
        try clear c11b0
        try clear c11b1
        try clear c12
        try clear c12b0
        try clear c12b1
        try clear c14
        try clear c19
        try clear c24
        try clear c29
        try clear c34
        try clear c37
        try clear c38
        try clear c40
        try clear c40b0
        try clear c41
        try clear c41b0
        try clear c42
        try clear c42b0
        try clear c43
        try clear c43b0
        try clear c45
        try clear c46
        try clear c48
        try clear p2
        try clear p6
        try clear p9
        try clear p95005
        try clear p95007
        try clear q9
        try clear q95005
        try clear q95007
        obtain⟨x7_3,rfl,HA,HK3,BK95001,BK95002,HB⟩:=hrel
        cases gk with
        | zero=>exact absurd HA.out (by simp[ZJ.l1])
        | succ k3=>
         have H:=HA.out
         clear HA
         simp only[ZJ.l1] at H
         by_cases c50:x7_3≤3
         ·rw[if_pos c50] at H
          have c50b0:decide (x7_3≤3)=true:=Ze c50
          clear c50
          replace H:=Zh H
          obtain⟨t95009,A510,H⟩:=H;have A51:=Za A510;clear A510
          obtain⟨ji52,hji52⟩:∃j_:Int,(wrap64 (x7_3 - 1))=j_:=⟨_,rfl⟩
          replace H:(if 0≤(ji52) then(if (ji52)<(l1_2.length:Int) then(if t95009≥0 then(if 0≤t95009 then(if t95009<(l1_1.length:Int) then(if (((rd l1_2 (ji52)) != 0) != ((rd l1_1 t95009) != (-1)))=true then(some false) else(ZJ.l1 k3 (wrap64 (x7_3+1)) l0_0 l0_1 a0_2 a1_0 l1_1 l1_2)) else(none)) else(none)) else(if (((rd l1_2 (ji52)) != 0) != false)=true then(some false) else(ZJ.l1 k3 (wrap64 (x7_3+1)) l0_0 l0_1 a0_2 a1_0 l1_1 l1_2))) else(none)) else(none))=some r:=by first|(rw[hji52] at H;exact H)|(simp only[hji52] at H ⊢;exact H)
          (try rw[hji52] at A51)
          have hji52w:(IntKind.i64.wrap (x7_3 - 1))=ji52:=(ZL _).trans hji52
          by_cases c53:0≤(ji52)
          ·rw[if_pos c53] at H
           have c53b0:decide (0≤(ji52))=true:=Ze c53
           clear c53
           by_cases c54:(ji52)<(l1_2.length:Int)
           ·rw[if_pos c54] at H
            have c54b0:decide ((ji52)<(l1_2.length:Int))=true:=Ze c54
            clear c54
            by_cases c55:t95009≥0
            ·rw[if_pos c55] at H
             have c55b0:decide (0≤t95009)=true:=Ze c55
             clear c55
             by_cases c56:0≤t95009
             ·rw[if_pos c56] at H
              have c56b0:decide (0≤t95009)=true:=Ze c56
              clear c56
              by_cases c57:t95009<(l1_1.length:Int)
              ·rw[if_pos c57] at H
               have c57b0:decide (t95009<(l1_1.length:Int))=true:=Ze c57
               clear c57
               by_cases c58:(((rd l1_2 (ji52)) != 0) != ((rd l1_1 t95009) != (-1)))=true
               ·rw[if_pos c58] at H
                have c58b0:(((rd l1_2 (ji52)) != 0) != ((rd l1_1 t95009) != (-1)))=true:=c58
                (try(have c58b1:decide (((rd l1_2 (ji52)) != 0)=((rd l1_1 t95009) != (-1)))=false:=by simpa using c58))
                (try(have c58b2:(((rd l1_2 (ji52)) != 0) == ((rd l1_1 t95009) != (-1)))=false:=by simpa using c58))
                (try(have c58b3:¬(((rd l1_2 (ji52)) != 0)=((rd l1_1 t95009) != (-1))):=by simpa using c58))
                clear c58
                obtain rfl:=Zg H
                have hcz60_0:wr.cell? ⟨gb95001,0,none⟩=some (.slice A0_0 l0_0.length c0_0):=(Zm BK95001.out 0).trans rfl
                have hcz60_1:wr.cell? ⟨gb95001,1,none⟩=some (.slice A0_1 l0_1.length c0_1):=(Zm BK95001.out 1).trans rfl
                have hcz60_2:wr.cell? ⟨gb95001,2,none⟩=some (.int .i64 a0_2):=(Zm BK95001.out 2).trans rfl
                have hfz60_0:=Zo BK95001.out 0
                have hfz60_1:=Zo BK95001.out 1
                have hfz60_2:=Zo BK95001.out 2
                go_wp2_with (first|(go_at_call 69;(with_reducible refine(Z8.calls k3 _ _ l0_0 _ _ l0_1 a0_2 x7_3 t95009 _ ?side1 ?side2 ?side3 ?side4 A51.out).mono ?_);(case side1=>exact(Zb HR0_0.out HB.out));(case side2=>exact HC0_0.out);(case side3=>exact(Zb HR0_1.out HB.out));(case side4=>exact HC0_1.out);rintro e w61 ⟨rfl,hb⟩;have n0_:=Za (Zw (g:=gb95001) (o:=.cells #[.slice A0_0 l0_0.length c0_0,.slice A0_1 l0_1.length c0_1,.int .i64 a0_2] 35 (0,0)) BK95001.out hb);have n1_:=Za (Zw (g:=gb95002) (o:=.cells #[.int .i64 a1_0,.slice A1_1 l1_1.length c1_1,.slice A1_2 l1_2.length c1_2] 66 (0,0)) BK95002.out hb);have n2_:=Za (Zv (by exact HB.out) hb);clear BK95001;clear BK95002;clear HB;have BK95001:=n0_;have BK95002:=n1_;have HB:=n2_;clear n0_ n1_ n2_;have hcz62_0:w61.cell? ⟨gb95002,0,none⟩=some (.int .i64 a1_0):=(Zm BK95002.out 0).trans rfl;have hcz62_1:w61.cell? ⟨gb95002,1,none⟩=some (.slice A1_1 l1_1.length c1_1):=(Zm BK95002.out 1).trans rfl;have hcz62_2:w61.cell? ⟨gb95002,2,none⟩=some (.slice A1_2 l1_2.length c1_2):=(Zm BK95002.out 2).trans rfl;have hfz62_0:=Zo BK95002.out 0;have hfz62_1:=Zo BK95002.out 1;have hfz62_2:=Zo BK95002.out 2;have p95010:0≤((ji52):Int):=Zd (by with_reducible assumption);have q95010:(ji52)<(l1_2.length:Int):=Zd (by with_reducible assumption);obtain⟨ad95010,e95010,hx95010_0⟩:=Kd.at_int HR1_2.out (ji52) p95010 q95010;cases e95010;replace hx95010_0:=(HB.out.cell (Zc w _ hx95010_0)).trans hx95010_0;replace p95010:=eq_true p95010;replace q95010:=eq_true q95010;have p95011:0≤(t95009:Int):=Zd (by with_reducible assumption);have q95011:t95009<(l1_1.length:Int):=Zd (by with_reducible assumption);obtain⟨ad95011,e95011,hx95011_0⟩:=Kd.at_int HR1_1.out t95009 p95011 q95011;cases e95011;replace hx95011_0:=(HB.out.cell (Zc w _ hx95011_0)).trans hx95011_0;replace p95011:=eq_true p95011;replace q95011:=eq_true q95011))
                repeat(go_quiet (first|fail);try go_wp2_with (first|fail))
                go_ret
                exact⟨by first|rfl|(simp[Zy,Zx] <;> rfl)|(simp only[← hji52];first|rfl|(simp[Zy,Zx] <;> rfl))|(simp[*,Zy,Zx] <;> rfl),by repeat(first|(with_reducible first|exact HB.out|apply Zp|apply Zn|apply Zr|refine Zq ?_ GE95001.out|refine Zq ?_ GE95002.out)|exact HB.out)⟩
               ·rw[if_neg c58] at H
                have c58b0:(((rd l1_2 (ji52)) != 0) != ((rd l1_1 t95009) != (-1)))=false:=by simpa using c58
                (try(have c58b1:decide (((rd l1_2 (ji52)) != 0)=((rd l1_1 t95009) != (-1)))=true:=by simpa using c58))
                (try(have c58b2:(((rd l1_2 (ji52)) != 0) == ((rd l1_1 t95009) != (-1)))=true:=by simpa using c58))
                clear c58
                have H':=Za H
                clear H
                have hcz64_0:wr.cell? ⟨gb95001,0,none⟩=some (.slice A0_0 l0_0.length c0_0):=(Zm BK95001.out 0).trans rfl
                have hcz64_1:wr.cell? ⟨gb95001,1,none⟩=some (.slice A0_1 l0_1.length c0_1):=(Zm BK95001.out 1).trans rfl
                have hcz64_2:wr.cell? ⟨gb95001,2,none⟩=some (.int .i64 a0_2):=(Zm BK95001.out 2).trans rfl
                have hfz64_0:=Zo BK95001.out 0
                have hfz64_1:=Zo BK95001.out 1
                have hfz64_2:=Zo BK95001.out 2
                go_wp2_with (first|(go_at_call 69;(with_reducible refine(Z8.calls k3 _ _ l0_0 _ _ l0_1 a0_2 x7_3 t95009 _ ?side1 ?side2 ?side3 ?side4 A51.out).mono ?_);(case side1=>exact(Zb HR0_0.out HB.out));(case side2=>exact HC0_0.out);(case side3=>exact(Zb HR0_1.out HB.out));(case side4=>exact HC0_1.out);rintro e w65 ⟨rfl,hb⟩;have n0_:=Za (Zw (g:=gb95001) (o:=.cells #[.slice A0_0 l0_0.length c0_0,.slice A0_1 l0_1.length c0_1,.int .i64 a0_2] 35 (0,0)) BK95001.out hb);have n1_:=Za (Zw (g:=gb95002) (o:=.cells #[.int .i64 a1_0,.slice A1_1 l1_1.length c1_1,.slice A1_2 l1_2.length c1_2] 66 (0,0)) BK95002.out hb);have n2_:=Za (Zv (by exact HB.out) hb);clear BK95001;clear BK95002;clear HB;have BK95001:=n0_;have BK95002:=n1_;have HB:=n2_;clear n0_ n1_ n2_;have hcz66_0:w65.cell? ⟨gb95002,0,none⟩=some (.int .i64 a1_0):=(Zm BK95002.out 0).trans rfl;have hcz66_1:w65.cell? ⟨gb95002,1,none⟩=some (.slice A1_1 l1_1.length c1_1):=(Zm BK95002.out 1).trans rfl;have hcz66_2:w65.cell? ⟨gb95002,2,none⟩=some (.slice A1_2 l1_2.length c1_2):=(Zm BK95002.out 2).trans rfl;have hfz66_0:=Zo BK95002.out 0;have hfz66_1:=Zo BK95002.out 1;have hfz66_2:=Zo BK95002.out 2;have p95010:0≤((ji52):Int):=Zd (by with_reducible assumption);have q95010:(ji52)<(l1_2.length:Int):=Zd (by with_reducible assumption);obtain⟨ad95010,e95010,hx95010_0⟩:=Kd.at_int HR1_2.out (ji52) p95010 q95010;cases e95010;replace hx95010_0:=(HB.out.cell (Zc w _ hx95010_0)).trans hx95010_0;replace p95010:=eq_true p95010;replace q95010:=eq_true q95010;have p95011:0≤(t95009:Int):=Zd (by with_reducible assumption);have q95011:t95009<(l1_1.length:Int):=Zd (by with_reducible assumption);obtain⟨ad95011,e95011,hx95011_0⟩:=Kd.at_int HR1_1.out t95009 p95011 q95011;cases e95011;replace hx95011_0:=(HB.out.cell (Zc w _ hx95011_0)).trans hx95011_0;replace p95011:=eq_true p95011;replace q95011:=eq_true q95011))
                repeat(go_quiet (first|fail);try go_wp2_with (first|fail))
                go_roundg k3
                case measure=>have:=HJ2.out;have:=HK2.out;have:=HK3.out;omega
                case rel=>exact⟨(wrap64 (x7_3+1)),(by first|rfl|(simp;done)|(simp[*];done)),H',⟨by have:=HJ2.out;have:=HK2.out;have:=HK3.out;omega⟩,⟨by(with_reducible repeat(first|refine Zs ?_ _|refine Zu ?_|refine Zt ?_ _));exact BK95001.out⟩,⟨by(with_reducible repeat(first|refine Zs ?_ _|refine Zu ?_|refine Zt ?_ _));exact BK95002.out⟩,⟨by repeat(first|(with_reducible first|exact HB.out|apply Zp|apply Zn|apply Zr|refine Zq ?_ GE95001.out|refine Zq ?_ GE95002.out)|exact HB.out)⟩⟩
              ·rw[if_neg c57] at H
               exact absurd H (by simp)
             ·rw[if_neg c56] at H
              exact absurd H (by simp)
            ·rw[if_neg c55] at H
             have c55b0:decide (0≤t95009)=false:=Zf c55
             clear c55
             by_cases c67:(((rd l1_2 (ji52)) != 0) != false)=true
             ·rw[if_pos c67] at H
              have c67b0:(((rd l1_2 (ji52)) != 0) != false)=true:=c67
              (try(have c67b1:decide (((rd l1_2 (ji52)) != 0)=false)=false:=by simpa using c67))
              (try(have c67b2:(((rd l1_2 (ji52)) != 0) == false)=false:=by simpa using c67))
              (try(have c67b3:¬(((rd l1_2 (ji52)) != 0)=false):=by simpa using c67))
              clear c67
              obtain rfl:=Zg H
              have hcz69_0:wr.cell? ⟨gb95001,0,none⟩=some (.slice A0_0 l0_0.length c0_0):=(Zm BK95001.out 0).trans rfl
              have hcz69_1:wr.cell? ⟨gb95001,1,none⟩=some (.slice A0_1 l0_1.length c0_1):=(Zm BK95001.out 1).trans rfl
              have hcz69_2:wr.cell? ⟨gb95001,2,none⟩=some (.int .i64 a0_2):=(Zm BK95001.out 2).trans rfl
              have hfz69_0:=Zo BK95001.out 0
              have hfz69_1:=Zo BK95001.out 1
              have hfz69_2:=Zo BK95001.out 2
              go_wp2_with (first|(go_at_call 69;(with_reducible refine(Z8.calls k3 _ _ l0_0 _ _ l0_1 a0_2 x7_3 t95009 _ ?side1 ?side2 ?side3 ?side4 A51.out).mono ?_);(case side1=>exact(Zb HR0_0.out HB.out));(case side2=>exact HC0_0.out);(case side3=>exact(Zb HR0_1.out HB.out));(case side4=>exact HC0_1.out);rintro e w70 ⟨rfl,hb⟩;have n0_:=Za (Zw (g:=gb95001) (o:=.cells #[.slice A0_0 l0_0.length c0_0,.slice A0_1 l0_1.length c0_1,.int .i64 a0_2] 35 (0,0)) BK95001.out hb);have n1_:=Za (Zw (g:=gb95002) (o:=.cells #[.int .i64 a1_0,.slice A1_1 l1_1.length c1_1,.slice A1_2 l1_2.length c1_2] 66 (0,0)) BK95002.out hb);have n2_:=Za (Zv (by exact HB.out) hb);clear BK95001;clear BK95002;clear HB;have BK95001:=n0_;have BK95002:=n1_;have HB:=n2_;clear n0_ n1_ n2_;have hcz71_0:w70.cell? ⟨gb95002,0,none⟩=some (.int .i64 a1_0):=(Zm BK95002.out 0).trans rfl;have hcz71_1:w70.cell? ⟨gb95002,1,none⟩=some (.slice A1_1 l1_1.length c1_1):=(Zm BK95002.out 1).trans rfl;have hcz71_2:w70.cell? ⟨gb95002,2,none⟩=some (.slice A1_2 l1_2.length c1_2):=(Zm BK95002.out 2).trans rfl;have hfz71_0:=Zo BK95002.out 0;have hfz71_1:=Zo BK95002.out 1;have hfz71_2:=Zo BK95002.out 2;have p95010:0≤((ji52):Int):=Zd (by with_reducible assumption);have q95010:(ji52)<(l1_2.length:Int):=Zd (by with_reducible assumption);obtain⟨ad95010,e95010,hx95010_0⟩:=Kd.at_int HR1_2.out (ji52) p95010 q95010;cases e95010;replace hx95010_0:=(HB.out.cell (Zc w _ hx95010_0)).trans hx95010_0;replace p95010:=eq_true p95010;replace q95010:=eq_true q95010))
              repeat(go_quiet (first|fail);try go_wp2_with (first|fail))
              go_ret
              exact⟨by first|rfl|(simp[Zy,Zx] <;> rfl)|(simp only[← hji52];first|rfl|(simp[Zy,Zx] <;> rfl))|(simp[*,Zy,Zx] <;> rfl),by repeat(first|(with_reducible first|exact HB.out|apply Zp|apply Zn|apply Zr|refine Zq ?_ GE95001.out|refine Zq ?_ GE95002.out)|exact HB.out)⟩
             ·rw[if_neg c67] at H
              have c67b0:(((rd l1_2 (ji52)) != 0) != false)=false:=by simpa using c67
              (try(have c67b1:decide (((rd l1_2 (ji52)) != 0)=false)=true:=by simpa using c67))
              (try(have c67b2:(((rd l1_2 (ji52)) != 0) == false)=true:=by simpa using c67))
              clear c67
              have H':=Za H
              clear H
              have hcz73_0:wr.cell? ⟨gb95001,0,none⟩=some (.slice A0_0 l0_0.length c0_0):=(Zm BK95001.out 0).trans rfl
              have hcz73_1:wr.cell? ⟨gb95001,1,none⟩=some (.slice A0_1 l0_1.length c0_1):=(Zm BK95001.out 1).trans rfl
              have hcz73_2:wr.cell? ⟨gb95001,2,none⟩=some (.int .i64 a0_2):=(Zm BK95001.out 2).trans rfl
              have hfz73_0:=Zo BK95001.out 0
              have hfz73_1:=Zo BK95001.out 1
              have hfz73_2:=Zo BK95001.out 2
              go_wp2_with (first|(go_at_call 69;(with_reducible refine(Z8.calls k3 _ _ l0_0 _ _ l0_1 a0_2 x7_3 t95009 _ ?side1 ?side2 ?side3 ?side4 A51.out).mono ?_);(case side1=>exact(Zb HR0_0.out HB.out));(case side2=>exact HC0_0.out);(case side3=>exact(Zb HR0_1.out HB.out));(case side4=>exact HC0_1.out);rintro e w74 ⟨rfl,hb⟩;have n0_:=Za (Zw (g:=gb95001) (o:=.cells #[.slice A0_0 l0_0.length c0_0,.slice A0_1 l0_1.length c0_1,.int .i64 a0_2] 35 (0,0)) BK95001.out hb);have n1_:=Za (Zw (g:=gb95002) (o:=.cells #[.int .i64 a1_0,.slice A1_1 l1_1.length c1_1,.slice A1_2 l1_2.length c1_2] 66 (0,0)) BK95002.out hb);have n2_:=Za (Zv (by exact HB.out) hb);clear BK95001;clear BK95002;clear HB;have BK95001:=n0_;have BK95002:=n1_;have HB:=n2_;clear n0_ n1_ n2_;have hcz75_0:w74.cell? ⟨gb95002,0,none⟩=some (.int .i64 a1_0):=(Zm BK95002.out 0).trans rfl;have hcz75_1:w74.cell? ⟨gb95002,1,none⟩=some (.slice A1_1 l1_1.length c1_1):=(Zm BK95002.out 1).trans rfl;have hcz75_2:w74.cell? ⟨gb95002,2,none⟩=some (.slice A1_2 l1_2.length c1_2):=(Zm BK95002.out 2).trans rfl;have hfz75_0:=Zo BK95002.out 0;have hfz75_1:=Zo BK95002.out 1;have hfz75_2:=Zo BK95002.out 2;have p95010:0≤((ji52):Int):=Zd (by with_reducible assumption);have q95010:(ji52)<(l1_2.length:Int):=Zd (by with_reducible assumption);obtain⟨ad95010,e95010,hx95010_0⟩:=Kd.at_int HR1_2.out (ji52) p95010 q95010;cases e95010;replace hx95010_0:=(HB.out.cell (Zc w _ hx95010_0)).trans hx95010_0;replace p95010:=eq_true p95010;replace q95010:=eq_true q95010))
              repeat(go_quiet (first|fail);try go_wp2_with (first|fail))
              go_roundg k3
              case measure=>have:=HJ2.out;have:=HK2.out;have:=HK3.out;omega
              case rel=>exact⟨(wrap64 (x7_3+1)),(by first|rfl|(simp;done)|(simp[*];done)),H',⟨by have:=HJ2.out;have:=HK2.out;have:=HK3.out;omega⟩,⟨by(with_reducible repeat(first|refine Zs ?_ _|refine Zu ?_|refine Zt ?_ _));exact BK95001.out⟩,⟨by(with_reducible repeat(first|refine Zs ?_ _|refine Zu ?_|refine Zt ?_ _));exact BK95002.out⟩,⟨by repeat(first|(with_reducible first|exact HB.out|apply Zp|apply Zn|apply Zr|refine Zq ?_ GE95001.out|refine Zq ?_ GE95002.out)|exact HB.out)⟩⟩
           ·rw[if_neg c54] at H
            exact absurd H (by simp)
          ·rw[if_neg c53] at H
           exact absurd H (by simp)
         ·rw[if_neg c50] at H
          have c50b0:decide (x7_3≤3)=false:=Zf c50
          clear c50
          obtain rfl:=Zg H
          go_wp2
          repeat(go_quiet (fail);try go_wp2)
          go_ret
          exact⟨by first|rfl|(simp[Zy,Zx] <;> rfl)|(simp[*,Zy,Zx] <;> rfl),by repeat(first|(with_reducible first|exact HB.out|apply Zp|apply Zn|apply Zr|refine Zq ?_ GE95001.out|refine Zq ?_ GE95002.out)|exact HB.out)⟩
def ZbA.f (k:Nat) (l0_0:List (S116)) (l0_1:List (S90)) (a0_2:Int) (a1_0:Int) (l1_1:List Int) (l1_2:List Int):Option (Bool):=(ZJ.f k l0_0 l0_1 a0_2 a1_0 l1_1 l1_2).bind fun t49003=>(if t49003=true then((ZS.f k l0_0 l0_1 a0_2 a1_0 l1_1 l1_2).bind fun t49004=>(some t49004)) else(some false))
set_option maxHeartbeats 8000000 in
set_option maxRecDepth 100000 in
theorem ZbA.calls (k:Nat) (A0_0:Option Addr) (c0_0:Nat) (l0_0:List (S116)) (A0_1:Option Addr) (c0_1:Nat) (l0_1:List (S90)) (a0_2:Int) (a1_0:Int) (A1_1:Option Addr) (c1_1:Nat) (l1_1:List Int) (A1_2:Option Addr) (c1_2:Nat) (l1_2:List Int) (r:Bool) (w:World) (hr0_0:Kd.C k116 w A0_0 l0_0.length l0_0) (hc0_0:l0_0.length≤c0_0) (hr0_1:Kd.C k90 w A0_1 l0_1.length l0_1) (hc0_1:l0_1.length≤c0_1) (hr1_1:Kd.C (Kd.int .i64) w A1_1 l1_1.length l1_1) (hc1_1:l1_1.length≤c1_1) (hr1_2:Kd.C (Kd.int .i64) w A1_2 l1_2.length l1_2) (hc1_2:l1_2.length≤c1_2) (h:ZbA.f k l0_0 l0_1 a0_2 a1_0 l1_1 l1_2=some r) :
  Calls Try.prog 49 #[.agg #[.slice A0_0 l0_0.length c0_0,.slice A0_1 l0_1.length c0_1,.int .i64 a0_2],.agg #[.int .i64 a1_0,.slice A1_1 l1_1.length c1_1,.slice A1_2 l1_2.length c1_2]] w fun e w'=>e=.returned (.bool r)∧Below w.heap.size w w':=by
 have hu35:=Try.underlying35
 have hu66:=Try.underlying66
 have HR0_0:=Za hr0_0;have HC0_0:=Za hc0_0;clear hr0_0 hc0_0;have HR0_1:=Za hr0_1;have HC0_1:=Za hc0_1;clear hr0_1 hc0_1;have HR1_1:=Za hr1_1;have HC1_1:=Za hc1_1;clear hr1_1 hc1_1;have HR1_2:=Za hr1_2;have HC1_2:=Za hc1_2;clear hr1_2 hc1_2
 have HB:=Za (Below.refl w.heap.size w)
 have H:((ZJ.f k l0_0 l0_1 a0_2 a1_0 l1_1 l1_2).bind fun t49003=>(if t49003=true then((ZS.f k l0_0 l0_1 a0_2 a1_0 l1_1 l1_2).bind fun t49004=>(some t49004)) else(some false)))=some r:=h
 clear h
 replace H:=Zh H
 obtain⟨t49003,A30,H⟩:=H
 replace H:(if t49003=true then((ZS.f k l0_0 l0_1 a0_2 a1_0 l1_1 l1_2).bind fun t49004=>(some t49004)) else(some false))=some r:=H
 have A3:=Za A30;clear A30
 by_cases c4:t49003=true
 ·subst c4
  have H1:((ZS.f k l0_0 l0_1 a0_2 a1_0 l1_1 l1_2).bind fun t49004=>(some t49004))=some r:=by rw[if_pos rfl] at H;exact H
  clear H
  have H:=H1
  clear H1
  replace H:=Zh H
  obtain⟨t49004,A50,H⟩:=H
  replace H:(some t49004)=some r:=H
  have A5:=Za A50;clear A50
  obtain rfl:=Zg H
  go_enter Try.func49,Try.ntmps49
  go_wp2_with (first|((with_reducible refine ZG (N:=2) rfl ?_);refine ZE ?hg (N:=2) ?hd (cs:=#[.slice A0_0 l0_0.length c0_0,.slice A0_1 l0_1.length c0_1,.int .i64 a0_2]) (t:=35) ?hr ?_;(case hd=>rfl);(case hg=>rfl);(case hr=>first|(go_simp;done)|(go_simp;rfl));intro gb49001 hg w6 hbox hb;have n0_:=Za (Zv (by exact HB.out) hb);have n1_:=Za (hbox);have n2_:=Za ((by rw[hg];exact(Zz (by exact HB.out)):w.heap.size≤gb49001));have n3_:=n2_;clear HB;have HB:=n0_;have BK49001:=n1_;have GW49001:=n2_;have GE49001:=n3_;clear n0_ n1_ n2_ n3_;clear hb hbox hg)|((with_reducible refine ZG (N:=3) rfl ?_);refine ZE ?hg (N:=3) ?hd (cs:=#[.int .i64 a1_0,.slice A1_1 l1_1.length c1_1,.slice A1_2 l1_2.length c1_2]) (t:=66) ?hr ?_;(case hd=>rfl);(case hg=>rfl);(case hr=>first|(go_simp;done)|(go_simp;rfl));intro gb49002 hg w7 hbox hb;have n0_:=Za (Zw (g:=gb49001) (o:=.cells #[.slice A0_0 l0_0.length c0_0,.slice A0_1 l0_1.length c0_1,.int .i64 a0_2] 35 (0,0)) BK49001.out hb);have n1_:=Za (Zv (by exact HB.out) hb);have n2_:=Za (hbox);have n3_:=Za ((by rw[hg];exact(Zz (by exact HB.out)):w.heap.size≤gb49002));have n4_:=n3_;have n5_:=Za ((by rw[hg];exact Nat.ne_of_lt (ZK (g:=gb49001) (o:=.cells #[.slice A0_0 l0_0.length c0_0,.slice A0_1 l0_1.length c0_1,.int .i64 a0_2] 35 (0,0)) BK49001.out):gb49001≠gb49002));have n6_:=Za n5_.out.symm;clear BK49001;clear HB;have BK49001:=n0_;have HB:=n1_;have BK49002:=n2_;have GW49002:=n3_;have GE49002:=n4_;have NB49001_49002:=n5_;have NB49002_49001:=n6_;clear n0_ n1_ n2_ n3_ n4_ n5_ n6_;clear hb hbox hg;have hnb8:=NB49001_49002.out;have hnc8:=NB49002_49001.out;have hcz9_0:w7.cell? ⟨gb49001,0,none⟩=some (.slice A0_0 l0_0.length c0_0):=(Zm BK49001.out 0).trans rfl;have hcz9_1:w7.cell? ⟨gb49001,1,none⟩=some (.slice A0_1 l0_1.length c0_1):=(Zm BK49001.out 1).trans rfl;have hcz9_2:w7.cell? ⟨gb49001,2,none⟩=some (.int .i64 a0_2):=(Zm BK49001.out 2).trans rfl;have hfz9_0:=Zo BK49001.out 0;have hfz9_1:=Zo BK49001.out 1;have hfz9_2:=Zo BK49001.out 2;have hcz10_0:w7.cell? ⟨gb49002,0,none⟩=some (.int .i64 a1_0):=(Zm BK49002.out 0).trans rfl;have hcz10_1:w7.cell? ⟨gb49002,1,none⟩=some (.slice A1_1 l1_1.length c1_1):=(Zm BK49002.out 1).trans rfl;have hcz10_2:w7.cell? ⟨gb49002,2,none⟩=some (.slice A1_2 l1_2.length c1_2):=(Zm BK49002.out 2).trans rfl;have hfz10_0:=Zo BK49002.out 0;have hfz10_1:=Zo BK49002.out 1;have hfz10_2:=Zo BK49002.out 2)|((with_reducible refine ZH (f:=95) rfl ?_);refine ZW (some 7) rfl rfl Try.func95 (by kernel_rfl) rfl #[.agg #[.slice A0_0 l0_0.length c0_0,.slice A0_1 l0_1.length c0_1,.int .i64 a0_2],.agg #[.int .i64 a1_0,.slice A1_1 l1_1.length c1_1,.slice A1_2 l1_2.length c1_2]] rfl (by(try simp only[List.map_toArray,List.map_cons,List.map_nil]);first|done|rfl|(simp only[Zk,Zj];rfl)) ?_;(with_reducible refine(ZJ.calls k _ _ l0_0 _ _ l0_1 a0_2 a1_0 _ _ l1_1 _ _ l1_2 true _ ?side1 ?side2 ?side3 ?side4 ?side5 ?side6 ?side7 ?side8 A3.out).mono ?_);(case side1=>exact(Zb HR0_0.out HB.out));(case side2=>exact HC0_0.out);(case side3=>exact(Zb HR0_1.out HB.out));(case side4=>exact HC0_1.out);(case side5=>exact(Zb HR1_1.out HB.out));(case side6=>exact HC1_1.out);(case side7=>exact(Zb HR1_2.out HB.out));(case side8=>exact HC1_2.out);rintro e w11 ⟨rfl,hb⟩;refine⟨_,rfl,?_⟩;have n0_:=Za (Zw (g:=gb49001) (o:=.cells #[.slice A0_0 l0_0.length c0_0,.slice A0_1 l0_1.length c0_1,.int .i64 a0_2] 35 (0,0)) BK49001.out hb);have n1_:=Za (Zw (g:=gb49002) (o:=.cells #[.int .i64 a1_0,.slice A1_1 l1_1.length c1_1,.slice A1_2 l1_2.length c1_2] 66 (0,0)) BK49002.out hb);have n2_:=Za (Zv (by exact HB.out) hb);clear BK49001;clear BK49002;clear HB;have BK49001:=n0_;have BK49002:=n1_;have HB:=n2_;clear n0_ n1_ n2_;(try clear hb);(try clear hb2);(try clear hk);(try clear hi);have hcz12_0:w11.cell? ⟨gb49001,0,none⟩=some (.slice A0_0 l0_0.length c0_0):=(Zm BK49001.out 0).trans rfl;have hcz12_1:w11.cell? ⟨gb49001,1,none⟩=some (.slice A0_1 l0_1.length c0_1):=(Zm BK49001.out 1).trans rfl;have hcz12_2:w11.cell? ⟨gb49001,2,none⟩=some (.int .i64 a0_2):=(Zm BK49001.out 2).trans rfl;have hfz12_0:=Zo BK49001.out 0;have hfz12_1:=Zo BK49001.out 1;have hfz12_2:=Zo BK49001.out 2;have hcz13_0:w11.cell? ⟨gb49002,0,none⟩=some (.int .i64 a1_0):=(Zm BK49002.out 0).trans rfl;have hcz13_1:w11.cell? ⟨gb49002,1,none⟩=some (.slice A1_1 l1_1.length c1_1):=(Zm BK49002.out 1).trans rfl;have hcz13_2:w11.cell? ⟨gb49002,2,none⟩=some (.slice A1_2 l1_2.length c1_2):=(Zm BK49002.out 2).trans rfl;have hfz13_0:=Zo BK49002.out 0;have hfz13_1:=Zo BK49002.out 1;have hfz13_2:=Zo BK49002.out 2)|(go_at_call 101;(with_reducible refine(ZS.calls k _ _ l0_0 _ _ l0_1 a0_2 a1_0 _ _ l1_1 _ _ l1_2 t49004 _ ?side1 ?side2 ?side3 ?side4 ?side5 ?side6 ?side7 ?side8 A5.out).mono ?_);(case side1=>exact(Zb HR0_0.out HB.out));(case side2=>exact HC0_0.out);(case side3=>exact(Zb HR0_1.out HB.out));(case side4=>exact HC0_1.out);(case side5=>exact(Zb HR1_1.out HB.out));(case side6=>exact HC1_1.out);(case side7=>exact(Zb HR1_2.out HB.out));(case side8=>exact HC1_2.out);rintro e w14 ⟨rfl,hb⟩;have n0_:=Za (Zw (g:=gb49001) (o:=.cells #[.slice A0_0 l0_0.length c0_0,.slice A0_1 l0_1.length c0_1,.int .i64 a0_2] 35 (0,0)) BK49001.out hb);have n1_:=Za (Zw (g:=gb49002) (o:=.cells #[.int .i64 a1_0,.slice A1_1 l1_1.length c1_1,.slice A1_2 l1_2.length c1_2] 66 (0,0)) BK49002.out hb);have n2_:=Za (Zv (by exact HB.out) hb);clear BK49001;clear BK49002;clear HB;have BK49001:=n0_;have BK49002:=n1_;have HB:=n2_;clear n0_ n1_ n2_;(try clear hb);(try clear hb2);(try clear hk);(try clear hi)))
  go_ret
  exact⟨by first|rfl|(simp[Zy,Zx] <;> rfl)|(simp[*,Zy,Zx] <;> rfl),by repeat(first|(with_reducible first|exact HB.out|apply Zp|apply Zn|apply Zr|refine Zq ?_ GE49001.out|refine Zq ?_ GE49002.out)|exact HB.out)⟩
 ·replace c4:=Bool.eq_false_iff.mpr c4
  subst c4
  have H1:(some false)=some r:=by rw[if_neg (show ¬(false=true) by decide)] at H;exact H
  clear H
  have H:=H1
  clear H1
  obtain rfl:=Zg H
  go_enter Try.func49,Try.ntmps49
  go_wp2_with (first|((with_reducible refine ZG (N:=2) rfl ?_);refine ZE ?hg (N:=2) ?hd (cs:=#[.slice A0_0 l0_0.length c0_0,.slice A0_1 l0_1.length c0_1,.int .i64 a0_2]) (t:=35) ?hr ?_;(case hd=>rfl);(case hg=>rfl);(case hr=>first|(go_simp;done)|(go_simp;rfl));intro gb49001 hg w15 hbox hb;have n0_:=Za (Zv (by exact HB.out) hb);have n1_:=Za (hbox);have n2_:=Za ((by rw[hg];exact(Zz (by exact HB.out)):w.heap.size≤gb49001));have n3_:=n2_;clear HB;have HB:=n0_;have BK49001:=n1_;have GW49001:=n2_;have GE49001:=n3_;clear n0_ n1_ n2_ n3_;clear hb hbox hg)|((with_reducible refine ZG (N:=3) rfl ?_);refine ZE ?hg (N:=3) ?hd (cs:=#[.int .i64 a1_0,.slice A1_1 l1_1.length c1_1,.slice A1_2 l1_2.length c1_2]) (t:=66) ?hr ?_;(case hd=>rfl);(case hg=>rfl);(case hr=>first|(go_simp;done)|(go_simp;rfl));intro gb49002 hg w16 hbox hb;have n0_:=Za (Zw (g:=gb49001) (o:=.cells #[.slice A0_0 l0_0.length c0_0,.slice A0_1 l0_1.length c0_1,.int .i64 a0_2] 35 (0,0)) BK49001.out hb);have n1_:=Za (Zv (by exact HB.out) hb);have n2_:=Za (hbox);have n3_:=Za ((by rw[hg];exact(Zz (by exact HB.out)):w.heap.size≤gb49002));have n4_:=n3_;have n5_:=Za ((by rw[hg];exact Nat.ne_of_lt (ZK (g:=gb49001) (o:=.cells #[.slice A0_0 l0_0.length c0_0,.slice A0_1 l0_1.length c0_1,.int .i64 a0_2] 35 (0,0)) BK49001.out):gb49001≠gb49002));have n6_:=Za n5_.out.symm;clear BK49001;clear HB;have BK49001:=n0_;have HB:=n1_;have BK49002:=n2_;have GW49002:=n3_;have GE49002:=n4_;have NB49001_49002:=n5_;have NB49002_49001:=n6_;clear n0_ n1_ n2_ n3_ n4_ n5_ n6_;clear hb hbox hg;have hnb17:=NB49001_49002.out;have hnc17:=NB49002_49001.out;have hcz18_0:w16.cell? ⟨gb49001,0,none⟩=some (.slice A0_0 l0_0.length c0_0):=(Zm BK49001.out 0).trans rfl;have hcz18_1:w16.cell? ⟨gb49001,1,none⟩=some (.slice A0_1 l0_1.length c0_1):=(Zm BK49001.out 1).trans rfl;have hcz18_2:w16.cell? ⟨gb49001,2,none⟩=some (.int .i64 a0_2):=(Zm BK49001.out 2).trans rfl;have hfz18_0:=Zo BK49001.out 0;have hfz18_1:=Zo BK49001.out 1;have hfz18_2:=Zo BK49001.out 2;have hcz19_0:w16.cell? ⟨gb49002,0,none⟩=some (.int .i64 a1_0):=(Zm BK49002.out 0).trans rfl;have hcz19_1:w16.cell? ⟨gb49002,1,none⟩=some (.slice A1_1 l1_1.length c1_1):=(Zm BK49002.out 1).trans rfl;have hcz19_2:w16.cell? ⟨gb49002,2,none⟩=some (.slice A1_2 l1_2.length c1_2):=(Zm BK49002.out 2).trans rfl;have hfz19_0:=Zo BK49002.out 0;have hfz19_1:=Zo BK49002.out 1;have hfz19_2:=Zo BK49002.out 2)|((with_reducible refine ZH (f:=95) rfl ?_);refine ZW (some 7) rfl rfl Try.func95 (by kernel_rfl) rfl #[.agg #[.slice A0_0 l0_0.length c0_0,.slice A0_1 l0_1.length c0_1,.int .i64 a0_2],.agg #[.int .i64 a1_0,.slice A1_1 l1_1.length c1_1,.slice A1_2 l1_2.length c1_2]] rfl (by(try simp only[List.map_toArray,List.map_cons,List.map_nil]);first|done|rfl|(simp only[Zk,Zj];rfl)) ?_;(with_reducible refine(ZJ.calls k _ _ l0_0 _ _ l0_1 a0_2 a1_0 _ _ l1_1 _ _ l1_2 false _ ?side1 ?side2 ?side3 ?side4 ?side5 ?side6 ?side7 ?side8 A3.out).mono ?_);(case side1=>exact(Zb HR0_0.out HB.out));(case side2=>exact HC0_0.out);(case side3=>exact(Zb HR0_1.out HB.out));(case side4=>exact HC0_1.out);(case side5=>exact(Zb HR1_1.out HB.out));(case side6=>exact HC1_1.out);(case side7=>exact(Zb HR1_2.out HB.out));(case side8=>exact HC1_2.out);rintro e w20 ⟨rfl,hb⟩;refine⟨_,rfl,?_⟩;have n0_:=Za (Zw (g:=gb49001) (o:=.cells #[.slice A0_0 l0_0.length c0_0,.slice A0_1 l0_1.length c0_1,.int .i64 a0_2] 35 (0,0)) BK49001.out hb);have n1_:=Za (Zw (g:=gb49002) (o:=.cells #[.int .i64 a1_0,.slice A1_1 l1_1.length c1_1,.slice A1_2 l1_2.length c1_2] 66 (0,0)) BK49002.out hb);have n2_:=Za (Zv (by exact HB.out) hb);clear BK49001;clear BK49002;clear HB;have BK49001:=n0_;have BK49002:=n1_;have HB:=n2_;clear n0_ n1_ n2_;(try clear hb);(try clear hb2);(try clear hk);(try clear hi)))
  go_ret
  exact⟨by first|rfl|(simp[Zy,Zx] <;> rfl)|(simp[*,Zy,Zx] <;> rfl),by repeat(first|(with_reducible first|exact HB.out|apply Zp|apply Zn|apply Zr|refine Zq ?_ GE49001.out|refine Zq ?_ GE49002.out)|exact HB.out)⟩
end Go.Proofs.Ytodfnelilhjoeaa.Pr
namespace Go.Proofs.Ytodfnelilhjoeaa.Pr
open Go.RowKit Go.Proofs.YtodfnelilhjoeaaW.PrintWords Go.Proofs.YtodfnelilhjoeaaW.PrintLast Go.Proofs.YtodfnelilhjoeaaW.PrintMore
attribute [local go_sem] Zaj Zah Zat Zas Zaa Z9 Zai Zag
set_option linter.unusedVariables false
set_option linter.unusedSimpArgs false
open Go.Proofs.Ytodfnelilhjoeaa.Ni
set_option maxHeartbeats 4000000 in
theorem impl_Tie_135.any (p:S90→Bool) (g:Nat) (lb:Array Value) (eg:∀args w,(callFunc g args).run Try.prog w=.ok (.enter g args) w) (A0:Option Addr) (c0:Nat) (l0:List S90) (w:World) (hr0:Kd.C k90 w A0 l0.length l0)
  (hp:∀(W:World) (x:S90),x∈l0→Below w.heap.size w W→Calls Try.prog g (#[.agg #[.int .i64 x.f0,.int .i64 x.f1,.int .i64 x.f2,.int .i64 x.f3,.bool x.f4]] ++ lb) W fun e w'=>e=.returned (.bool (p x))∧Below W.heap.size W w') :
  Calls Try.prog 135 #[.slice A0 l0.length c0,.func (.func g) #[] lb] w fun e w'=>e=.returned (.int .i64 (Zbo p l0))∧Below w.heap.size w w':=by
 have HR0:=Za hr0;have HP:=Za hp;clear hr0 hp
 have HL:l0.length≤9223372036854775807:=HR0.out.2.1
 go_enter Try.func135,Try.ntmps135
 go_wp2
 go_loopg [5,8] l0.length (fun gg _ s8 wr=>∃kk:Nat,Aside0 (kk≤l0.length)∧Aside0 (l0.length - kk≤gg)∧s8=.int .i64 kk∧Aside0 (Below w.heap.size w wr)∧Aside0 (∀j y,j<kk→l0[j]? = some y→p y=false))
 case atStart=>exact⟨0,⟨Nat.zero_le _⟩,⟨by omega⟩,rfl,⟨Below.refl _ _⟩,⟨fun j y hj=>absurd hj (Nat.not_lt_zero _)⟩⟩
 case round=>
  obtain⟨kk,HK,HG,rfl,HB,HN⟩:=hrel
  by_cases hlt:kk<l0.length
  ·have hltz:(kk:Int)<(l0.length:Int):=by omega
   obtain⟨ad,e1,hx0,hx1,hx2,hx3,hx4⟩:=Zbg HR0.out (kk:Int) (by omega) hltz
   cases e1
   replace hx0:=(HB.out.cell (Zc w _ hx0)).trans hx0
   rw[Int.toNat_natCast] at hx0
   replace hx1:=(HB.out.cell (Zc w _ hx1)).trans hx1
   rw[Int.toNat_natCast] at hx1
   replace hx2:=(HB.out.cell (Zc w _ hx2)).trans hx2
   rw[Int.toNat_natCast] at hx2
   replace hx3:=(HB.out.cell (Zc w _ hx3)).trans hx3
   rw[Int.toNat_natCast] at hx3
   replace hx4:=(HB.out.cell (Zc w _ hx4)).trans hx4
   rw[Int.toNat_natCast] at hx4
   have hxe:l0[kk]? = some (ZB l0 (kk:Int)):=by
    unfold ZB
    rw[Int.toNat_natCast,List.getD_eq_getElem?_getD,Zl hlt];rfl
   generalize ZB l0 (kk:Int)=y at hx0 hx1 hx2 hx3 hx4 hxe
   have HX:=Za hxe;clear hxe
   have hcall:=HP.out wr y (List.mem_of_getElem? HX.out) HB.out
   cases hq:p y with
   | true=>
    have HQ:=Za hq
    rw[hq] at hcall
    clear hq
    go_wp2_with (go_at_fn g;refine hcall.mono ?_;rintro e w' ⟨rfl,hb⟩)
    go_ret
    exact⟨by rw[ZbN p l0 kk y HX.out HQ.out HN.out];rfl,HB.out.trans (hb.mono HB.out.size)⟩
   | false=>
    have HQ:=Za hq
    rw[hq] at hcall
    clear hq
    go_wp2_with (go_at_fn g;refine hcall.mono ?_;rintro e w' ⟨rfl,hb⟩)
    go_roundg (l0.length - (kk+1))
    case measure=>have:=HG.out;omega
    case rel=>
     refine⟨kk+1,⟨by omega⟩,⟨by omega⟩,by go_num,⟨HB.out.trans (hb.mono HB.out.size)⟩,⟨fun j y' hj hy=>?_⟩⟩
     by_cases e:j=kk
     ·subst e
      rw[HX.out] at hy
      cases hy
      exact HQ.out
     ·exact HN.out j y' (by omega) hy
  ·have hltz:¬(kk:Int)<(l0.length:Int):=by omega
   have:kk=l0.length:=by have:=HK.out;omega
   subst this
   go_wp2
   go_ret
   exact⟨by rw[ZbF p l0 HN.out];rfl,HB.out⟩
set_option maxHeartbeats 4000000 in
theorem Zdw.any (p:S90→Bool) (g:Nat) (lb:Array Value) (eg:∀args w,(callFunc g args).run Try.prog w=.ok (.enter g args) w) (A0:Option Addr) (c0:Nat) (l0:List S90) (w:World) (hr0:Kd.C k90 w A0 l0.length l0)
  (hp:∀(W:World) (x:S90),x∈l0→Below w.heap.size w W→Calls Try.prog g (#[.agg #[.int .i64 x.f0,.int .i64 x.f1,.int .i64 x.f2,.int .i64 x.f3,.bool x.f4]] ++ lb) W fun e w'=>e=.returned (.bool (p x))∧Below W.heap.size W w') :
  Calls Try.prog 146 #[.slice A0 l0.length c0,.func (.func g) #[] lb] w fun e w'=>e=.returned (.bool (l0.any p))∧Below w.heap.size w w':=by
 have HI:=Za (impl_Tie_135.any p g lb eg A0 c0 l0 w hr0 hp)
 clear hr0 hp
 have HE:=Za (Zdx p l0)
 go_enter Try.func146,Try.ntmps146
 go_wp2_with (go_at_call 135;refine HI.out.mono ?_;rintro e w' ⟨rfl,hb⟩)
 go_ret
 exact⟨by rw[← HE.out];rfl,hb⟩
end Go.Proofs.Ytodfnelilhjoeaa.Pr
namespace Go.Proofs.Ytodfnelilhjoeaa.Pr
open Go.RowKit Go.Proofs.YtodfnelilhjoeaaW.PrintWords Go.Proofs.YtodfnelilhjoeaaW.PrintLast Go.Proofs.YtodfnelilhjoeaaW.PrintMore
attribute [local go_sem] Zaj Zah Zat Zas Zaa Z9 Zai Zag
set_option linter.unusedVariables false
set_option linter.unusedSimpArgs false
def ZbZ.f (a0:Int):Option (Bool):=if a0<(-1) then(some true) else(some (decide (a0 > 1)))
set_option maxHeartbeats 8000000 in
set_option maxRecDepth 100000 in
theorem ZbZ.calls (a0:Int) (r:Bool) (w:World) (h:ZbZ.f a0=some r) :
  Calls Try.prog 177 #[.int .i64 a0] w fun e w'=>e=.returned (.bool r)∧ZF w w':=by
 have H:(if a0<(-1) then(some true) else(some (decide (a0 > 1))))=some r:=h
 clear h
 by_cases c2:a0<(-1)
 ·rw[if_pos c2] at H
  have c2b0:decide (a0<(-1))=true:=Ze c2
  clear c2
  obtain rfl:=Zg H
  go_enter Try.func177,Try.ntmps177
  go_wp2
  go_ret
  exact⟨by first|rfl|(simp;done)|(simp[*];done),by repeat(first|exact ZF.refl _|apply ZF.step)⟩
 ·rw[if_neg c2] at H
  have c2b0:decide (a0<(-1))=false:=Zf c2
  clear c2
  obtain rfl:=Zg H
  go_enter Try.func177,Try.ntmps177
  go_wp2
  go_ret
  exact⟨by first|rfl|(simp;done)|(simp[*];done),by repeat(first|exact ZF.refl _|apply ZF.step)⟩
end Go.Proofs.Ytodfnelilhjoeaa.Pr
namespace Go.Proofs.Ytodfnelilhjoeaa.Pr
open Go.RowKit Go.Proofs.YtodfnelilhjoeaaW.PrintWords Go.Proofs.YtodfnelilhjoeaaW.PrintLast Go.Proofs.YtodfnelilhjoeaaW.PrintMore
attribute [local go_sem] Zaj Zah Zat Zas Zaa Z9 Zai Zag
set_option linter.unusedVariables false
set_option linter.unusedSimpArgs false
open Go.Proofs.Ytodfnelilhjoeaa.Ni
def ZaT.f (l0:List Int):Option Bool:=some (ZaY l0)
theorem ZaT.calls (A0:Option Addr) (c0:Nat) (l0:List Int) (r:Bool) (w:World) (hr0:Kd.C (Kd.int .i64) w A0 l0.length l0) (hc0:l0.length≤c0) (h:ZaT.f l0=some r) :
  Calls Try.prog 167 #[.slice A0 l0.length c0] w fun e w'=>e=.returned (.bool r)∧Below w.heap.size w w':=by
 obtain rfl:ZaY l0=r:=Zg h
 have hv:l0.length=3→(!(l0.any fun n=>decide (n < -1) || decide (n > 1)))=ZaY l0:=fun hl=>by
  unfold ZaY
  rw[Ze hl,Bool.true_and,List.not_any_eq_all_not]
  congr 1
  funext n
  rw[Bool.eq_iff_iff]
  simp
 have hn:¬l0.length=3→ZaY l0=false:=fun hl=>by simp[ZaY,hl]
 have HV:=Za hv;have HN:=Za hn
 have HC:=Za (Zbj.any (fun n=>decide (n < -1) || decide (n > 1)) 177 #[] (enters_of Try.func177 (by kernel_rfl) rfl) A0 c0 l0 w hr0
  (fun W x _ _=>(ZbZ.calls x (decide (x < -1) || decide (x > 1)) W (by
   unfold ZbZ.f
   by_cases h1:x < -1
   ·rw[if_pos h1,Ze h1];rfl
   ·rw[if_neg h1,Zf h1];rfl)).mono fun e w' ⟨he,hd⟩=>⟨he,hd.below⟩))
 clear hv hn h hr0 hc0
 by_cases hl:l0.length=3
 ·have h3:((l0.length:Int) == 3)=true:=by rw[beq_iff_eq];omega
  have HL:=Za hl;clear hl
  go_enter Try.func167,Try.ntmps167
  go_wp2_with (go_at_call 123;refine HC.out.mono ?_;rintro e w' ⟨rfl,hb⟩)
  go_ret
  exact⟨by rw[← HV.out HL.out];rfl,hb⟩
 ·have h3:((l0.length:Int) == 3)=false:=by rw[beq_eq_false_iff_ne];omega
  have HL:=Za hl;clear hl
  go_enter Try.func167,Try.ntmps167
  go_wp2
  go_ret
  exact⟨by rw[HN.out HL.out];rfl,Below.refl _ _⟩
end Go.Proofs.Ytodfnelilhjoeaa.Pr
namespace Go.Proofs.Ytodfnelilhjoeaa.Pr
open Go.RowKit Go.Proofs.YtodfnelilhjoeaaW.PrintWords Go.Proofs.YtodfnelilhjoeaaW.PrintLast Go.Proofs.YtodfnelilhjoeaaW.PrintMore
attribute [local go_sem] Zaj Zah Zat Zas Zaa Z9 Zai Zag
set_option linter.unusedVariables false
set_option linter.unusedSimpArgs false
def impl_holds.f (a0:Int) (l1:List Int):Option (Int):=(Zan.f a0).bind fun t169001=>(if 0≤(wrap64 (t169001 - 1)) then(if (wrap64 (t169001 - 1))<(l1.length:Int) then(if a0<0 then(some (wrap64 (-(rd l1 (wrap64 (t169001 - 1)))))) else(some (rd l1 (wrap64 (t169001 - 1))))) else(none)) else(none))
set_option maxHeartbeats 8000000 in
set_option maxRecDepth 100000 in
theorem impl_holds.calls (a0:Int) (A1:Option Addr) (c1:Nat) (l1:List Int) (r:Int) (w:World) (hr1:Kd.C (Kd.int .i64) w A1 l1.length l1) (hc1:l1.length≤c1) (h:impl_holds.f a0 l1=some r) :
  Calls Try.prog 169 #[.int .i64 a0,.slice A1 l1.length c1] w fun e w'=>e=.returned (.int .i64 r)∧Below w.heap.size w w':=by
 have HR1:=Za hr1;have HC1:=Za hc1;clear hr1 hc1
 have HB:=Za (Below.refl w.heap.size w)
 have H:((Zan.f a0).bind fun t169001=>(if 0≤(wrap64 (t169001 - 1)) then(if (wrap64 (t169001 - 1))<(l1.length:Int) then(if a0<0 then(some (wrap64 (-(rd l1 (wrap64 (t169001 - 1)))))) else(some (rd l1 (wrap64 (t169001 - 1))))) else(none)) else(none)))=some r:=h
 clear h
 replace H:=Zh H
 obtain⟨t169001,A30,H⟩:=H
 replace H:(if 0≤(wrap64 (t169001 - 1)) then(if (wrap64 (t169001 - 1))<(l1.length:Int) then(if a0<0 then(some (wrap64 (-(rd l1 (wrap64 (t169001 - 1)))))) else(some (rd l1 (wrap64 (t169001 - 1))))) else(none)) else(none))=some r:=H
 have A3:=Za A30;clear A30
 obtain⟨ji4,hji4⟩:∃j_:Int,(wrap64 (t169001 - 1))=j_:=⟨_,rfl⟩
 replace H:(if 0≤(ji4) then(if (ji4)<(l1.length:Int) then(if a0<0 then(some (wrap64 (-(rd l1 (ji4))))) else(some (rd l1 (ji4)))) else(none)) else(none))=some r:=by first|(rw[hji4] at H;exact H)|(simp only[hji4] at H ⊢;exact H)
 (try rw[hji4] at A3)
 have hji4w:(IntKind.i64.wrap (t169001 - 1))=ji4:=(ZL _).trans hji4
 by_cases c5:0≤(ji4)
 ·rw[if_pos c5] at H
  have c5b0:decide (0≤(ji4))=true:=Ze c5
  clear c5
  by_cases c6:(ji4)<(l1.length:Int)
  ·rw[if_pos c6] at H
   have c6b0:decide ((ji4)<(l1.length:Int))=true:=Ze c6
   clear c6
   by_cases c7:a0<0
   ·rw[if_pos c7] at H
    have c7b0:decide (a0<0)=true:=Ze c7
    clear c7
    obtain rfl:=Zg H
    go_enter Try.func169,Try.ntmps169
    go_wp2_with (first|((with_reducible refine ZH (f:=162) rfl ?_);refine ZW (some 8) rfl rfl Try.func162 (by kernel_rfl) rfl #[.int .i64 a0] rfl (by(try simp only[List.map_toArray,List.map_cons,List.map_nil]);first|done|rfl|(simp only[Zk,Zj];rfl)) ?_;(with_reducible refine(Zan.calls a0 t169001 _ A3.out).mono ?_);rintro e w8 ⟨rfl,hb⟩;refine⟨_,rfl,?_⟩;have n0_:=Za (Zv (by repeat(first|(with_reducible first|exact HB.out|apply Zp|apply Zn|apply Zr)|exact HB.out)) hb);clear HB;have HB:=n0_;clear n0_;(try clear hb);(try clear hb2);(try clear hk);(try clear hi);have p169002:0≤((ji4):Int):=Zd (by first|(with_reducible assumption)|assumption);have q169002:(ji4)<(l1.length:Int):=Zd (by first|(with_reducible assumption)|assumption);obtain⟨ad169002,e169002,hx169002_0⟩:=Kd.at_int HR1.out (ji4) p169002 q169002;cases e169002;replace hx169002_0:=(HB.out.cell (Zc w _ hx169002_0)).trans hx169002_0;replace p169002:=eq_true p169002;replace q169002:=eq_true q169002))
    go_ret
    exact⟨by first|rfl|(simp[Zy,Zx] <;> rfl)|(simp only[← hji4];first|rfl|(simp[Zy,Zx] <;> rfl))|(simp[*,Zy,Zx] <;> rfl),by repeat(first|(with_reducible first|exact HB.out|apply Zp|apply Zn|apply Zr)|exact HB.out)⟩
   ·rw[if_neg c7] at H
    have c7b0:decide (a0<0)=false:=Zf c7
    clear c7
    obtain rfl:=Zg H
    go_enter Try.func169,Try.ntmps169
    go_wp2_with (first|((with_reducible refine ZH (f:=162) rfl ?_);refine ZW (some 8) rfl rfl Try.func162 (by kernel_rfl) rfl #[.int .i64 a0] rfl (by(try simp only[List.map_toArray,List.map_cons,List.map_nil]);first|done|rfl|(simp only[Zk,Zj];rfl)) ?_;(with_reducible refine(Zan.calls a0 t169001 _ A3.out).mono ?_);rintro e w9 ⟨rfl,hb⟩;refine⟨_,rfl,?_⟩;have n0_:=Za (Zv (by repeat(first|(with_reducible first|exact HB.out|apply Zp|apply Zn|apply Zr)|exact HB.out)) hb);clear HB;have HB:=n0_;clear n0_;(try clear hb);(try clear hb2);(try clear hk);(try clear hi);have p169002:0≤((ji4):Int):=Zd (by first|(with_reducible assumption)|assumption);have q169002:(ji4)<(l1.length:Int):=Zd (by first|(with_reducible assumption)|assumption);obtain⟨ad169002,e169002,hx169002_0⟩:=Kd.at_int HR1.out (ji4) p169002 q169002;cases e169002;replace hx169002_0:=(HB.out.cell (Zc w _ hx169002_0)).trans hx169002_0;replace p169002:=eq_true p169002;replace q169002:=eq_true q169002))
    go_ret
    exact⟨by first|rfl|(simp[Zy,Zx] <;> rfl)|(simp only[← hji4];first|rfl|(simp[Zy,Zx] <;> rfl))|(simp[*,Zy,Zx] <;> rfl),by repeat(first|(with_reducible first|exact HB.out|apply Zp|apply Zn|apply Zr)|exact HB.out)⟩
  ·rw[if_neg c6] at H
   exact absurd H (by simp)
 ·rw[if_neg c5] at H
  exact absurd H (by simp)
mutual
def ZR.j0:Nat→List Int→List Int→Bool→Option (Int)
 | 0,_,_,_=>none
 | k+1,x0,x1,x15=>if x15=true then(some (-1)) else(ZR.l0 k x1 1 x0 (x0.length:Int) 0)
def ZR.l0:Nat→List Int→Int→List Int→Int→Int→Option (Int)
 | 0,_,_,_,_,_=>none
 | k+1,x1,x5,x16,x17,x18=>if x18<x17 then(if 0≤x18 then(if x18<(x16.length:Int) then((impl_holds.f (rd x16 x18) x1).bind fun t143004=>(ZR.l0 k x1 (mn x5 t143004) x16 x17 (wrap64 (x18+1)))) else(none)) else(none)) else(some x5)
end
def ZR.f (k:Nat) (l0:List Int) (l1:List Int):Option (Int):=(Z1.f k l0).bind fun t143001=>(if t143001=true then((ZaT.f l1).bind fun t143002=>(ZR.j0 k l0 l1 (!t143002))) else(ZR.j0 k l0 l1 true))
set_option maxHeartbeats 8000000 in
set_option maxRecDepth 100000 in
theorem ZR.calls (k:Nat) (A0:Option Addr) (c0:Nat) (l0:List Int) (A1:Option Addr) (c1:Nat) (l1:List Int) (r:Int) (w:World) (hr0:Kd.C (Kd.int .i64) w A0 l0.length l0) (hc0:l0.length≤c0) (hr1:Kd.C (Kd.int .i64) w A1 l1.length l1) (hc1:l1.length≤c1) (h:ZR.f k l0 l1=some r) :
  Calls Try.prog 143 #[.slice A0 l0.length c0,.slice A1 l1.length c1] w fun e w'=>e=.returned (.int .i64 r)∧Below w.heap.size w w':=by
 have HR0:=Za hr0;have HC0:=Za hc0;clear hr0 hc0;have HR1:=Za hr1;have HC1:=Za hc1;clear hr1 hc1
 have HB:=Za (Below.refl w.heap.size w)
 have H:((Z1.f k l0).bind fun t143001=>(if t143001=true then((ZaT.f l1).bind fun t143002=>(ZR.j0 k l0 l1 (!t143002))) else(ZR.j0 k l0 l1 true)))=some r:=h
 clear h;have HC3:=Za H;clear H
 go_enter Try.func143,Try.ntmps143
 go_upto_region 1 with (fail)
 go_cut [15] (fun v15 wc=>∃(kq:Nat) (x15_2:Bool),v15=.bool x15_2∧Aside0 (ZR.j0 kq l0 l1 x15_2=some r)∧Aside0 (kq≤k)∧Aside0 (Below w.heap.size w wc))
 case first=>
  have H:=HC3.out
  clear HC3
  replace H:=Zh H
  obtain⟨t143001,A40,H⟩:=H
  replace H:(if t143001=true then((ZaT.f l1).bind fun t143002=>(ZR.j0 k l0 l1 (!t143002))) else(ZR.j0 k l0 l1 true))=some r:=H
  have A4:=Za A40;clear A40
  by_cases c5:t143001=true
  ·subst c5
   have H1:((ZaT.f l1).bind fun t143002=>(ZR.j0 k l0 l1 (!t143002)))=some r:=by rw[if_pos rfl] at H;exact H
   clear H
   have H:=H1
   clear H1
   replace H:=Zh H
   obtain⟨t143002,A60,H⟩:=H
   replace H:(ZR.j0 k l0 l1 (!t143002))=some r:=H
   have A6:=Za A60;clear A60
   have H':=Za H
   clear H
   go_wp2_with (first|((with_reducible refine ZH (f:=168) rfl ?_);refine ZW (some 9) rfl rfl Try.func168 (by kernel_rfl) rfl #[.slice A0 l0.length c0] rfl (by(try simp only[List.map_toArray,List.map_cons,List.map_nil]);first|done|rfl|(simp only[Zk,Zj];rfl)) ?_;(with_reducible refine(Z1.calls k _ _ l0 true _ ?side1 ?side2 A4.out).mono ?_);(case side1=>repeat(first|exact(Zb HR0.out HB.out)|(with_reducible refine Kd.C_alloc ?_ _)|(with_reducible refine Kd.C_drewN ?_ _)|(with_reducible refine Kd.C_drew ?_)));(case side2=>exact HC0.out);rintro e w7 ⟨rfl,hb⟩;refine⟨_,rfl,?_⟩;have n0_:=Za (Zv (by repeat(first|(with_reducible first|exact HB.out|apply Zp|apply Zn|apply Zr)|exact HB.out)) hb);clear HB;have HB:=n0_;clear n0_;(try clear hb);(try clear hb2);(try clear hk);(try clear hi))|(go_at_call 167;(with_reducible refine(ZaT.calls _ _ l1 t143002 _ ?side1 ?side2 A6.out).mono ?_);(case side1=>repeat(first|exact(Zb HR1.out HB.out)|(with_reducible refine Kd.C_alloc ?_ _)|(with_reducible refine Kd.C_drewN ?_ _)|(with_reducible refine Kd.C_drew ?_)));(case side2=>exact HC1.out);rintro e w8 ⟨rfl,hb⟩;have n0_:=Za (Zv (by repeat(first|(with_reducible first|exact HB.out|apply Zp|apply Zn|apply Zr)|exact HB.out)) hb);clear HB;have HB:=n0_;clear n0_;(try clear hb);(try clear hb2);(try clear hk);(try clear hi)))
   go_meet
   case rel=>exact⟨_,(!t143002),(by first|rfl|(simp;done)|(simp[*];done)),H',⟨by first|omega|exact Nat.le_refl _⟩,⟨by repeat(first|(with_reducible first|exact HB.out|apply Zp|apply Zn|apply Zr)|exact HB.out)⟩⟩
  ·replace c5:=Bool.eq_false_iff.mpr c5
   subst c5
   have H1:(ZR.j0 k l0 l1 true)=some r:=by rw[if_neg (show ¬(false=true) by decide)] at H;exact H
   clear H
   have H:=H1
   clear H1
   have H':=Za H
   clear H
   go_wp2_with (first|((with_reducible refine ZH (f:=168) rfl ?_);refine ZW (some 9) rfl rfl Try.func168 (by kernel_rfl) rfl #[.slice A0 l0.length c0] rfl (by(try simp only[List.map_toArray,List.map_cons,List.map_nil]);first|done|rfl|(simp only[Zk,Zj];rfl)) ?_;(with_reducible refine(Z1.calls k _ _ l0 false _ ?side1 ?side2 A4.out).mono ?_);(case side1=>repeat(first|exact(Zb HR0.out HB.out)|(with_reducible refine Kd.C_alloc ?_ _)|(with_reducible refine Kd.C_drewN ?_ _)|(with_reducible refine Kd.C_drew ?_)));(case side2=>exact HC0.out);rintro e w9 ⟨rfl,hb⟩;refine⟨_,rfl,?_⟩;have n0_:=Za (Zv (by repeat(first|(with_reducible first|exact HB.out|apply Zp|apply Zn|apply Zr)|exact HB.out)) hb);clear HB;have HB:=n0_;clear n0_;(try clear hb);(try clear hb2);(try clear hk);(try clear hi)))
   go_meet
   case rel=>exact⟨_,(true),(by first|rfl|(simp;done)|(simp[*];done)),H',⟨by first|omega|exact Nat.le_refl _⟩,⟨by repeat(first|(with_reducible first|exact HB.out|apply Zp|apply Zn|apply Zr)|exact HB.out)⟩⟩
 case rest=>
  clear HC3
  try clear c1
  try clear p2
  try clear c5
  obtain⟨kq,x15_2,rfl,HA,HJ2,HB⟩:=hcut
  cases kq with
  | zero=>exact absurd HA.out (by simp[ZR.j0])
  | succ kj2=>
   have H:=HA.out
   clear HA
   simp only[ZR.j0] at H
   by_cases c10:x15_2=true
   ·subst c10
    have H1:(some (-1))=some r:=by rw[if_pos rfl] at H;exact H
    clear H
    have H:=H1
    clear H1
    obtain rfl:=Zg H
    go_wp2
    go_ret
    exact⟨by first|rfl|(simp[Zy,Zx] <;> rfl)|(simp[*,Zy,Zx] <;> rfl),by repeat(first|(with_reducible first|exact HB.out|apply Zp|apply Zn|apply Zr)|exact HB.out)⟩
   ·replace c10:=Bool.eq_false_iff.mpr c10
    subst c10
    have H1:(ZR.l0 kj2 l1 1 l0 (l0.length:Int) 0)=some r:=by rw[if_neg (show ¬(false=true) by decide)] at H;exact H
    clear H
    have H:=H1
    clear H1
    have H':=Za H
    clear H
    go_wp2
    go_loopg [5,18] kj2 (fun kq v5 v18 w'=>∃(x5_2:Int) (x18_2:Int),v5=.int .i64 x5_2∧v18=.int .i64 x18_2∧Aside0 (ZR.l0 kq l1 x5_2 l0 (l0.length:Int) x18_2=some r)∧Aside0 (kq≤kj2)∧Aside0 (Below w.heap.size w w'))
    case atStart=>exact⟨(1),(0),(by first|rfl|(simp;done)|(simp[*];done)),(by first|rfl|(simp;done)|(simp[*];done)),H',⟨Nat.le_refl _⟩,⟨by repeat(first|(with_reducible first|exact HB.out|apply Zp|apply Zn|apply Zr)|exact HB.out)⟩⟩
    case round=>
     clear H'
     try clear c1
     try clear p2
     try clear c5
     try clear c10
     try clear p2
     obtain⟨x5_2,x18_2,rfl,rfl,HA,HK2,HB⟩:=hrel
     cases gk with
     | zero=>exact absurd HA.out (by simp[ZR.l0])
     | succ k2=>
      have H:=HA.out
      clear HA
      simp only[ZR.l0] at H
      by_cases c11:x18_2<(l0.length:Int)
      ·rw[if_pos c11] at H
       have c11b0:decide (x18_2<(l0.length:Int))=true:=Ze c11
       clear c11
       by_cases c12:0≤x18_2
       ·rw[if_pos c12] at H
        have c12b0:decide (0≤x18_2)=true:=Ze c12
        clear c12
        by_cases c13:x18_2<(l0.length:Int)
        ·rw[if_pos c13] at H
         have c13b0:decide (x18_2<(l0.length:Int))=true:=Ze c13
         clear c13
         replace H:=Zh H
         obtain⟨t143004,A140,H⟩:=H
         replace H:(ZR.l0 k2 l1 (mn x5_2 t143004) l0 (l0.length:Int) (wrap64 (x18_2+1)))=some r:=H
         have A14:=Za A140;clear A140
         obtain⟨ji15,hji15⟩:∃j_:Int,(mn x5_2 t143004)=j_:=⟨_,rfl⟩
         replace H:(ZR.l0 k2 l1 ji15 l0 (l0.length:Int) (wrap64 (x18_2+1)))=some r:=by first|(rw[hji15] at H;exact H)|(simp only[hji15] at H ⊢;exact H)
         (try rw[hji15] at A14)
         have hji15_:(if t143004<x5_2 then t143004 else x5_2)=ji15:=hji15
         have H':=Za H
         clear H
         have p143003:0≤(x18_2:Int):=Zd (by first|(with_reducible assumption)|assumption)
         have q143003:x18_2<(l0.length:Int):=Zd (by first|(with_reducible assumption)|assumption)
         obtain⟨ad143003,e143003,hx143003_0⟩:=Kd.at_int HR0.out x18_2 p143003 q143003
         cases e143003
         replace hx143003_0:=(HB.out.cell (Zc w _ hx143003_0)).trans hx143003_0
         replace p143003:=eq_true p143003
         replace q143003:=eq_true q143003
         go_wp2_with (first|((with_reducible refine ZH (f:=169) rfl ?_);refine ZW (some 25) rfl rfl Try.func169 (by kernel_rfl) rfl #[.int .i64 (rd l0 x18_2),.slice A1 l1.length c1] rfl (by(try simp only[List.map_toArray,List.map_cons,List.map_nil]);first|done|rfl|(simp only[Zk,Zj];rfl)) ?_;(with_reducible refine(impl_holds.calls (rd l0 x18_2) _ _ l1 t143004 _ ?side1 ?side2 A14.out).mono ?_);(case side1=>repeat(first|exact(Zb HR1.out HB.out)|(with_reducible refine Kd.C_alloc ?_ _)|(with_reducible refine Kd.C_drewN ?_ _)|(with_reducible refine Kd.C_drew ?_)));(case side2=>exact HC1.out);rintro e w16 ⟨rfl,hb⟩;refine⟨_,rfl,?_⟩;have n0_:=Za (Zv (by repeat(first|(with_reducible first|exact HB.out|apply Zp|apply Zn|apply Zr)|exact HB.out)) hb);clear HB;have HB:=n0_;clear n0_;(try clear hb);(try clear hb2);(try clear hk);(try clear hi)))
         go_roundg k2
         case measure=>have:=HJ2.out;have:=HK2.out;omega
         case rel=>exact⟨(ji15),(wrap64 (x18_2+1)),(by first|rfl|(simp;done)|(simp only[← hji15] <;> (first|rfl|simp))|(simp[*];done)),(by first|rfl|(simp;done)|(simp[*];done)),H',⟨by have:=HJ2.out;have:=HK2.out;omega⟩,⟨by repeat(first|(with_reducible first|exact HB.out|apply Zp|apply Zn|apply Zr)|exact HB.out)⟩⟩
        ·rw[if_neg c13] at H
         exact absurd H (by simp)
       ·rw[if_neg c12] at H
        exact absurd H (by simp)
      ·rw[if_neg c11] at H
       have c11b0:decide (x18_2<(l0.length:Int))=false:=Zf c11
       clear c11
       obtain rfl:=Zg H
       go_wp2
       go_ret
       exact⟨by first|rfl|(simp[Zy,Zx] <;> rfl)|(simp[*,Zy,Zx] <;> rfl),by repeat(first|(with_reducible first|exact HB.out|apply Zp|apply Zn|apply Zr)|exact HB.out)⟩
def ZV.f (k:Nat) (l0_0:List (S116)) (l0_1:List (S90)) (a0_2:Int) (a1_0:Int) (l1_1:List Int) (l1_2:List Int) (a2:Int):Option (Int):=if 0≤a2 then(if a2<(l0_0.length:Int) then((ZR.f k ((ZA l0_0 a2).f1) l1_2).bind fun t98004=>(some t98004)) else(none)) else(none)
def ZV.T1:Bool×List (List Nat×List Nat):=(true,[([],[]),([0],[0]),([],[]),([1,2],[1,2]),([3],[3]),([4],[4]),([],[]),([6],[6]),([5,7],[5,7]),([8,8,0,1,2,3,4,5,6,7,8],[8])])
def ZV.B1:List Nat:=[0,1,0,7,15,31,0,64,255,511]
theorem ZV.tab1:rtab .any (opsOf Try.f98 1)=ZV.T1:=by kernel_rfl
theorem ZV.bits1:Zcg ZV.T1.2 ZV.B1=true:=by kernel_rfl
set_option maxHeartbeats 8000000 in
set_option maxRecDepth 100000 in
theorem ZV.calls (k:Nat) (A0_0:Option Addr) (c0_0:Nat) (l0_0:List (S116)) (A0_1:Option Addr) (c0_1:Nat) (l0_1:List (S90)) (a0_2:Int) (a1_0:Int) (A1_1:Option Addr) (c1_1:Nat) (l1_1:List Int) (A1_2:Option Addr) (c1_2:Nat) (l1_2:List Int) (a2:Int) (r:Int) (w:World) (hr0_0:Kd.C k116 w A0_0 l0_0.length l0_0) (hc0_0:l0_0.length≤c0_0) (hr0_1:Kd.C k90 w A0_1 l0_1.length l0_1) (hc0_1:l0_1.length≤c0_1) (hr1_1:Kd.C (Kd.int .i64) w A1_1 l1_1.length l1_1) (hc1_1:l1_1.length≤c1_1) (hr1_2:Kd.C (Kd.int .i64) w A1_2 l1_2.length l1_2) (hc1_2:l1_2.length≤c1_2) (h:ZV.f k l0_0 l0_1 a0_2 a1_0 l1_1 l1_2 a2=some r) :
  Calls Try.prog 98 #[.agg #[.slice A0_0 l0_0.length c0_0,.slice A0_1 l0_1.length c0_1,.int .i64 a0_2],.agg #[.int .i64 a1_0,.slice A1_1 l1_1.length c1_1,.slice A1_2 l1_2.length c1_2],.int .i64 a2] w fun e w'=>e=.returned (.int .i64 r)∧Below w.heap.size w w':=by
 have hu35:=Try.underlying35
 have hu66:=Try.underlying66
 have HR0_0:=Za hr0_0;have HC0_0:=Za hc0_0;clear hr0_0 hc0_0;have HR0_1:=Za hr0_1;have HC0_1:=Za hc0_1;clear hr0_1 hc0_1;have HR1_1:=Za hr1_1;have HC1_1:=Za hc1_1;clear hr1_1 hc1_1;have HR1_2:=Za hr1_2;have HC1_2:=Za hc1_2;clear hr1_2 hc1_2
 have HB:=Za (Below.refl w.heap.size w)
 have H:(if 0≤a2 then(if a2<(l0_0.length:Int) then((ZR.f k ((ZA l0_0 a2).f1) l1_2).bind fun t98004=>(some t98004)) else(none)) else(none))=some r:=h
 clear h
 by_cases c4:0≤a2
 ·rw[if_pos c4] at H
  have c4b0:decide (0≤a2)=true:=Ze c4
  clear c4
  by_cases c5:a2<(l0_0.length:Int)
  ·rw[if_pos c5] at H
   have c5b0:decide (a2<(l0_0.length:Int))=true:=Ze c5
   clear c5
   replace H:=Zh H
   obtain⟨t98004,A60,H⟩:=H
   replace H:(some t98004)=some r:=H
   have A6:=Za A60;clear A60
   obtain rfl:=Zg H
   go_enter Try.func98,Try.ntmps98
   try go_wp2_with (first|((with_reducible refine ZG (N:=3) rfl ?_);refine ZE ?hg (N:=3) ?hd (cs:=#[.slice A0_0 l0_0.length c0_0,.slice A0_1 l0_1.length c0_1,.int .i64 a0_2]) (t:=35) ?hr ?_;(case hd=>rfl);(case hg=>rfl);(case hr=>first|(go_simp;done)|(go_simp;rfl));intro gb98001 hg w7 hbox hb;have n0_:=Za (Zv (by exact HB.out) hb);have n1_:=Za (hbox);have n2_:=Za ((by rw[hg];exact(Zz (by exact HB.out)):w.heap.size≤gb98001));have n3_:=n2_;clear HB;have HB:=n0_;have BK98001:=n1_;have GW98001:=n2_;have GE98001:=n3_;clear n0_ n1_ n2_ n3_;clear hb hbox hg)|((with_reducible refine ZG (N:=4) rfl ?_);refine ZE ?hg (N:=4) ?hd (cs:=#[.int .i64 a1_0,.slice A1_1 l1_1.length c1_1,.slice A1_2 l1_2.length c1_2]) (t:=66) ?hr ?_;(case hd=>rfl);(case hg=>rfl);(case hr=>first|(go_simp;done)|(go_simp;rfl));intro gb98002 hg w8 hbox hb;have n0_:=Za (Zw (g:=gb98001) (o:=.cells #[.slice A0_0 l0_0.length c0_0,.slice A0_1 l0_1.length c0_1,.int .i64 a0_2] 35 (0,0)) BK98001.out hb);have n1_:=Za (Zv (by exact HB.out) hb);have n2_:=Za (hbox);have n3_:=Za ((by rw[hg];exact(Zz (by exact HB.out)):w.heap.size≤gb98002));have n4_:=n3_;have n5_:=Za ((by rw[hg];exact Nat.ne_of_lt (ZK (g:=gb98001) (o:=.cells #[.slice A0_0 l0_0.length c0_0,.slice A0_1 l0_1.length c0_1,.int .i64 a0_2] 35 (0,0)) BK98001.out):gb98001≠gb98002));have n6_:=Za n5_.out.symm;clear BK98001;clear HB;have BK98001:=n0_;have HB:=n1_;have BK98002:=n2_;have GW98002:=n3_;have GE98002:=n4_;have NB98001_98002:=n5_;have NB98002_98001:=n6_;clear n0_ n1_ n2_ n3_ n4_ n5_ n6_;clear hb hbox hg))
   have n0_:=Za (Zu BK98001.out)
   have n1_:=Za (Zu BK98002.out)
   have n2_:=Za (Zr HB.out)
   clear BK98001 BK98002 HB;have BK98001:=n0_;have BK98002:=n1_;have HB:=n2_;clear n0_ n1_ n2_
   have p98003:0≤(a2:Int):=Zd (by with_reducible assumption)
   have q98003:a2<(l0_0.length:Int):=Zd (by with_reducible assumption)
   obtain⟨ad98003,A98003_1,c98003_1,e98003,hx98003_0,hx98003_1,hx98003_2,hl98003_1,hi98003_1⟩:=Zak HR0_0.out a2 p98003 q98003
   have hw98003_2:=hx98003_2
   have hw98003_1:=hx98003_1
   have hw98003_0:=hx98003_0
   cases e98003
   replace hx98003_0:=(HB.out.cell (Zc w _ hx98003_0)).trans hx98003_0
   replace hx98003_1:=(HB.out.cell (Zc w _ hx98003_1)).trans hx98003_1
   replace hx98003_2:=(HB.out.cell (Zc w _ hx98003_2)).trans hx98003_2
   have HR98003_1:=Za hi98003_1;have HC98003_1:=Za hl98003_1;clear hi98003_1 hl98003_1
   replace p98003:=eq_true p98003
   replace q98003:=eq_true q98003
   refine Zb7 (n:=10) (S:=fun w'=>w'.cell? ⟨gb98001,0,none⟩=some (.slice (some ad98003) l0_0.length c0_0)∧w'.cell? ⟨gb98001,1,none⟩=some (.slice A0_1 l0_1.length c0_1)∧w'.cell? ⟨gb98001,2,none⟩=some (.int .i64 a0_2)∧w'.cell? ⟨gb98002,0,none⟩=some (.int .i64 a1_0)∧w'.cell? ⟨gb98002,1,none⟩=some (.slice A1_1 l1_1.length c1_1)∧w'.cell? ⟨gb98002,2,none⟩=some (.slice A1_2 l1_2.length c1_2)∧w'.cell? (ad98003.add ((a2).toNat * 3))=some (.string ((ZA l0_0 a2).f0))∧w'.cell? ⟨(ad98003.add ((a2).toNat * 3)).block,(ad98003.add ((a2).toNat * 3)).off+1,none⟩=some (.slice A98003_1 ((ZA l0_0 a2).f1).length c98003_1)∧w'.cell? ⟨(ad98003.add ((a2).toNat * 3)).block,(ad98003.add ((a2).toNat * 3)).off+2,none⟩=some (.int .i64 ((ZA l0_0 a2).f2))) (ds:=[]) #[false,false,false,false,false,false,false,false,false,false] (by kernel_rfl) rfl rfl ⟨(Zm BK98001.out 0).trans rfl,(Zm BK98001.out 1).trans rfl,(Zm BK98001.out 2).trans rfl,(Zm BK98002.out 0).trans rfl,(Zm BK98002.out 1).trans rfl,(Zm BK98002.out 2).trans rfl,((HB.out.cell (Zc w _ hw98003_0)).trans hw98003_0),((HB.out.cell (Zc w _ hw98003_1)).trans hw98003_1),((HB.out.cell (Zc w _ hw98003_2)).trans hw98003_2)⟩ (fun hHeld=>?_);refine Zcf ZV.tab1 ZV.bits1 (fun HT_ HW_=>?_)
   generalize w8.drew=w9 at BK98001 BK98002 HB HR98003_1 hx98003_0 hx98003_1 hx98003_2 hHeld ⊢
   refine Z2 (i:=0) (N:=some 7) (v:=?_) (a':=?_) #[true,false,false,false,false,false,false,false,false,false] rfl rfl (Z0 HT_.out (by kernel_rfl)) (fun _ _ _ h=>h) (Or.inl ⟨by rfl,?_⟩) ?_ ?_
   rotate_left
   ·intro w'
    go_simp
    with_reducible rfl
   rotate_left
   ·simp only[Act.put,List.setIfInBounds_toArray,List.set_cons_zero,List.set_cons_succ,ZL,ZM]
    rfl
   refine Z2 (i:=2) (N:=some 9) (v:=?_) (a':=?_) #[true,false,true,false,false,false,false,false,false,false] rfl rfl (Z0 HT_.out (by kernel_rfl)) (fun _ _ _ h=>h) (Or.inl ⟨by rfl,?_⟩) ?_ ?_
   rotate_left
   ·intro w'
    go_simp
    with_reducible rfl
   rotate_left
   ·simp only[Act.put,List.setIfInBounds_toArray,List.set_cons_zero,List.set_cons_succ,ZL,ZM]
    rfl
   refine Z2 (i:=6) (N:=some 13) (v:=?_) (a':=?_) #[true,false,true,false,false,false,true,false,false,false] rfl rfl (Z0 HT_.out (by kernel_rfl)) (fun _ _ _ h=>h) (Or.inl ⟨by rfl,?_⟩) ?_ ?_
   rotate_left
   ·intro w'
    go_simp
    with_reducible rfl
   rotate_left
   ·simp only[Act.put,List.setIfInBounds_toArray,List.set_cons_zero,List.set_cons_succ,ZL,ZM]
    rfl
   refine take_ (i:=1) (N:=some 8) (v:=?_) (a':=?_) #[true,true,true,false,false,false,true,false,false,false] rfl rfl (ZaF HT_.out HW_.out (by kernel_rfl)) (fun _ _ _ h=>h) (Or.inl ⟨by rfl,?_⟩) hHeld ?_ ?_
   rotate_left
   ·rintro w' ⟨s0,s1,s2,s3,s4,s5,s6,s7,s8⟩
    go_simp
    with_reducible rfl
   rotate_left
   ·simp only[Act.put,List.setIfInBounds_toArray,List.set_cons_zero,List.set_cons_succ,ZL,ZM]
    rfl
   refine Z2 (i:=3) (N:=some 10) (v:=?_) (a':=?_) #[true,true,true,true,false,false,true,false,false,false] rfl rfl (Z0 HT_.out (by kernel_rfl)) (fun _ _ _ h=>h) (Or.inl ⟨by rfl,?_⟩) ?_ ?_
   rotate_left
   ·intro w'
    go_simp
    with_reducible rfl
   rotate_left
   ·simp only[Act.put,List.setIfInBounds_toArray,List.set_cons_zero,List.set_cons_succ,ZL,ZM]
    rfl
   refine Z2 (i:=4) (N:=some 11) (v:=?_) (a':=?_) #[true,true,true,true,true,false,true,false,false,false] rfl rfl (Z0 HT_.out (by kernel_rfl)) (fun _ _ _ h=>h) (Or.inl ⟨by rfl,?_⟩) ?_ ?_
   rotate_left
   ·intro w'
    go_simp
    with_reducible rfl
   rotate_left
   ·simp only[Act.put,List.setIfInBounds_toArray,List.set_cons_zero,List.set_cons_succ,ZL,ZM]
    rfl
   refine take_ (i:=5) (N:=some 12) (v:=?_) (a':=?_) #[true,true,true,true,true,true,true,false,false,false] rfl rfl (ZaF HT_.out HW_.out (by kernel_rfl)) (fun _ _ _ h=>h) (Or.inl ⟨by rfl,?_⟩) hHeld ?_ ?_
   rotate_left
   ·rintro w' ⟨s0,s1,s2,s3,s4,s5,s6,s7,s8⟩
    go_simp
    with_reducible rfl
   rotate_left
   ·simp only[Act.put,List.setIfInBounds_toArray,List.set_cons_zero,List.set_cons_succ,ZL,ZM]
    rfl
   refine take_ (i:=7) (N:=some 14) (v:=?_) (a':=?_) #[true,true,true,true,true,true,true,true,false,false] rfl rfl (ZaF HT_.out HW_.out (by kernel_rfl)) (fun _ _ _ h=>h) (Or.inl ⟨by rfl,?_⟩) hHeld ?_ ?_
   rotate_left
   ·rintro w' ⟨s0,s1,s2,s3,s4,s5,s6,s7,s8⟩
    go_simp
    with_reducible rfl
   rotate_left
   ·simp only[Act.put,List.setIfInBounds_toArray,List.set_cons_zero,List.set_cons_succ,ZL,ZM]
    rfl
   refine one_ (i:=8) (N:=some 15) #[true,true,true,true,true,true,true,true,true,false] rfl rfl (Zc7 HT_.out (by kernel_rfl)) (by decide) (fun K hK=>?_)
   refine Zb1 Try.func143 (by kernel_rfl) rfl #[.slice A98003_1 ((ZA l0_0 a2).f1).length c98003_1,.slice A1_2 l1_2.length c1_2] (by rfl) rfl rfl (by(try simp only[List.map_toArray,List.map_cons,List.map_nil]);first|done|rfl|(simp only[Zk,Zj];rfl)) ?_
   with_reducible refine(ZR.calls k _ _ ((ZA l0_0 a2).f1) _ _ l1_2 t98004 _ ?side1 ?side2 ?side3 ?side4 A6.out).mono ?_
   (case side1=>exact(Zb HR98003_1.out HB.out))
   (case side2=>exact HC98003_1.out)
   (case side3=>exact(Zb HR1_2.out HB.out))
   (case side4=>exact HC1_2.out)
   rintro e w10 ⟨rfl,hb⟩
   refine⟨_,rfl,?_⟩
   have n0_:=Za (Zw (g:=gb98001) (o:=.cells #[.slice (some ad98003) l0_0.length c0_0,.slice A0_1 l0_1.length c0_1,.int .i64 a0_2] 35 (0,0)) BK98001.out hb)
   have n1_:=Za (Zw (g:=gb98002) (o:=.cells #[.int .i64 a1_0,.slice A1_1 l1_1.length c1_1,.slice A1_2 l1_2.length c1_2] 66 (0,0)) BK98002.out hb)
   have n2_:=Za (Zv (by exact HB.out) hb)
   clear BK98001 BK98002 HB;have BK98001:=n0_;have BK98002:=n1_;have HB:=n2_;clear n0_ n1_ n2_
   (try clear hb)
   (try clear hb2)
   (try clear hk)
   (try clear hi)
   refine hK.out _ _ ⟨(Zm BK98001.out 0).trans rfl,(Zm BK98001.out 1).trans rfl,(Zm BK98001.out 2).trans rfl,(Zm BK98002.out 0).trans rfl,(Zm BK98002.out 1).trans rfl,(Zm BK98002.out 2).trans rfl,((HB.out.cell (Zc w _ hw98003_0)).trans hw98003_0),((HB.out.cell (Zc w _ hw98003_1)).trans hw98003_1),((HB.out.cell (Zc w _ hw98003_2)).trans hw98003_2)⟩ (fun hHeld=>?_)
   clear hK K
   refine ZbX (a':=?_) ?_ ?_
   rotate_left
   ·show Act.put _ (some 15) _=_
    simp only[Act.put,List.setIfInBounds_toArray,List.set_cons_zero,List.set_cons_succ,ZL,ZM]
    rfl
   refine Z2 (i:=9) (N:=some 6) (v:=?_) (a':=?_) #[true,true,true,true,true,true,true,true,true,true] rfl rfl (Z0 HT_.out (by kernel_rfl)) (fun _ _ _ h=>h) (Or.inl ⟨by rfl,?_⟩) ?_ ?_
   rotate_left
   ·intro w'
    go_simp
    with_reducible rfl
   rotate_left
   ·simp only[Act.put,List.setIfInBounds_toArray,List.set_cons_zero,List.set_cons_succ,ZL,ZM]
    rfl
   refine Zct (ZcI HT_.out (by kernel_rfl)) ?_
   try go_wp2
   go_ret
   exact⟨by first|rfl|(simp[Zy,Zx] <;> rfl)|(simp[*,Zy,Zx] <;> rfl),by repeat(first|(with_reducible first|exact HB.out|apply Zp|apply Zn|apply Zr|refine Zq ?_ GE98001.out|refine Zq ?_ GE98002.out)|exact HB.out)⟩
  ·rw[if_neg c5] at H
   exact absurd H (by simp)
 ·rw[if_neg c4] at H
  exact absurd H (by simp)
end Go.Proofs.Ytodfnelilhjoeaa.Pr
