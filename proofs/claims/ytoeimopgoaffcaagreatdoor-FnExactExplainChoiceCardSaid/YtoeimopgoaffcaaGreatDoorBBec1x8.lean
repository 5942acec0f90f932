/- By a program of this session. -/
import Derived.Test.YtoeimopgoaffcaaGreatDoorBBec1x6
import Derived.Test.YtoeimopgoaffcaaGreatDoorBBec1x7
set_option maxHeartbeats 8000000
set_option maxRecDepth 100000
namespace Go.Proofs.YtoeimopgoaffcaaGreatDoor.Pr
open RowKit YtoeimopgoaffcaaGreatDoorW.PrintWords YtoeimopgoaffcaaGreatDoorW.PrintLast YtoeimopgoaffcaaGreatDoorW.PrintMore
attribute [local go_sem] Zau Zas ZaL ZaK Zaf Zae Zat Zar
set_option linter.unusedVariables false
set_option linter.unusedSimpArgs false
mutual
def Zaa.j0:Nat→Bool→List (S39)→List (S82)→Int→Option (Bool)
 | 0,_,_,_,_=>none
 | k+1,x18,x57002000,x57002001,x57002002=>if x18=true then(some false) else(Zaa.l0 k (x57002001.length:Int) 0 x57002000 x57002001 x57002002)
def Zaa.l0:Nat→Int→Int→List (S39)→List (S82)→Int→Option (Bool)
 | 0,_,_,_,_,_=>none
 | k+1,x21,x22,x57002000,x57002001,x57002002=>if x22<x21 then((Zcw.f x57002000 x57002001 x57002002 x22).bind fun t4=>(if t4=true then(Zaa.l0 k x21 (wrap64 (x22+1)) x57002000 x57002001 x57002002) else(some false))) else(some true)
end
def Zaa.f (k:Nat) (l0_0:List (S39)) (l0_1:List (S82)) (a0_2:Int):Option (Bool):=(Zbn.f l0_0 l0_1 a0_2).bind fun t2=>(if t2=true then(if (l0_1.length:Int) > 14 then(Zaa.j0 k true l0_0 l0_1 a0_2) else((ZU.f a0_2 1 10).bind fun t3=>(Zaa.j0 k (!t3) l0_0 l0_1 a0_2))) else(Zaa.j0 k true l0_0 l0_1 a0_2))
theorem Zaa.calls (k:Nat) (A0_0:Option Addr) (c0_0:Nat) (l0_0:List (S39)) (A0_1:Option Addr) (c0_1:Nat) (l0_1:List (S82)) (a0_2:Int) (r:Bool) (w:World) (hr0_0:Kd.C k39 w A0_0 l0_0.length l0_0) (hc0_0:l0_0.length≤c0_0) (hr0_1:Kd.C k82 w A0_1 l0_1.length l0_1) (hc0_1:l0_1.length≤c0_1) (h:Zaa.f k l0_0 l0_1 a0_2=some r) :
  Calls Tryz.prog 57 #[.agg #[.slice A0_0 l0_0.length c0_0,.slice A0_1 l0_1.length c0_1,.int .i64 a0_2]] w fun e w'=>e=.returned (.bool r)∧Below w.heap.size w w':=by
 have hu25:=Tryz.underlying25
 have HR0_0:=Za hr0_0;have HC0_0:=Za hc0_0;clear hr0_0 hc0_0;have HR0_1:=Za hr0_1;have HC0_1:=Za hc0_1;clear hr0_1 hc0_1
 have HB:=Za (Below.refl w.heap.size w)
 have H:((Zbn.f l0_0 l0_1 a0_2).bind fun t2=>(if t2=true then(if (l0_1.length:Int) > 14 then(Zaa.j0 k true l0_0 l0_1 a0_2) else((ZU.f a0_2 1 10).bind fun t3=>(Zaa.j0 k (!t3) l0_0 l0_1 a0_2))) else(Zaa.j0 k true l0_0 l0_1 a0_2)))=some r:=h
 clear h;have HC2:=Za H;clear H
 go_enter Tryz.func57,Tryz.ntmps57
 go_upto_region 1 with (first|((with_reducible refine ZG (N:=1) rfl ?_);refine ZH ?hg (N:=1) ?hd (cs:=#[.slice A0_0 l0_0.length c0_0,.slice A0_1 l0_1.length c0_1,.int .i64 a0_2]) (t:=25) ?hr ?_;(case hd=>rfl);(case hg=>rfl);(case hr=>first|(go_simp;done)|(go_simp;rfl));intro gb1 hg w3 hbox hb;have BK1:=Za (hbox);have GW1:=Za ((by rw[hg];exact(Zv (by exact HB.out)):w.heap.size≤gb1));have GE1:=Za ((by rw[hg];exact(Zv (by exact HB.out)):w.heap.size≤gb1));replace HB:=Za (Zq (by exact HB.out) hb);clear hb hbox hg))
 (try simp only[Act.put,List.setIfInBounds_toArray,List.set_cons_zero,List.set_cons_succ])
 go_cut [18] (fun v18 wc=>∃(kq:Nat) (x18_1:Bool),v18=.bool x18_1∧Aside0 (Zaa.j0 kq x18_1 l0_0 l0_1 a0_2=some r)∧Aside0 (kq≤k)∧Aside0 (wc.heap[gb1]? = some (.cells #[(.slice A0_0 l0_0.length c0_0),(.slice A0_1 l0_1.length c0_1),.int .i64 a0_2] 25 (0,0)))∧Aside0 (Below w.heap.size w wc))
 case first=>
  have H:=HC2.out
  clear HC2
  replace H:=Zh H
  obtain⟨t2,A40,H⟩:=H;have A4:=Za A40;clear A40
  by_cases c5:t2=true
  ·subst c5
   rw[if_pos rfl] at H
   by_cases c6:(l0_1.length:Int) > 14
   ·rw[if_pos c6] at H
    have c6b0:decide (14<(l0_1.length:Int))=true:=Ze c6
    clear c6
    have H':=Za H
    clear H
    have hcz7_0:w3.cell? ⟨gb1,0,none⟩=some (.slice A0_0 l0_0.length c0_0):=(Zn BK1.out 0).trans rfl
    have hcz7_1:w3.cell? ⟨gb1,1,none⟩=some (.slice A0_1 l0_1.length c0_1):=(Zn BK1.out 1).trans rfl
    have hcz7_2:w3.cell? ⟨gb1,2,none⟩=some (.int .i64 a0_2):=(Zn BK1.out 2).trans rfl
    go_wp2_with (first|((with_reducible refine ZJ (f:=126) rfl ?_);refine ZY (some 5) rfl rfl Tryz.func126 (by kernel_rfl) rfl #[.agg #[.slice A0_0 l0_0.length c0_0,.slice A0_1 l0_1.length c0_1,.int .i64 a0_2]] rfl (by(try simp only[List.map_toArray,List.map_cons,List.map_nil]);first|done|rfl|(simp only[Zk,Zj];rfl)) ?_;(with_reducible refine(Zbn.calls _ _ l0_0 _ _ l0_1 a0_2 true _ ?side1 ?side2 ?side3 ?side4 A4.out).mono ?_);(case side1=>exact(Zb HR0_0.out HB.out));(case side2=>exact HC0_0.out);(case side3=>exact(Zb HR0_1.out HB.out));(case side4=>exact HC0_1.out);rintro e w8 ⟨rfl,hb⟩;refine⟨_,rfl,?_⟩;replace BK1:=Za (Zw (g:=gb1) (o:=.cells #[.slice A0_0 l0_0.length c0_0,.slice A0_1 l0_1.length c0_1,.int .i64 a0_2] 25 (0,0)) (by exact BK1.out) hb);replace HB:=Za (Zq (by exact HB.out) hb);have hcz9_0:w8.cell? ⟨gb1,0,none⟩=some (.slice A0_0 l0_0.length c0_0):=(Zn BK1.out 0).trans rfl;have hcz9_1:w8.cell? ⟨gb1,1,none⟩=some (.slice A0_1 l0_1.length c0_1):=(Zn BK1.out 1).trans rfl;have hcz9_2:w8.cell? ⟨gb1,2,none⟩=some (.int .i64 a0_2):=(Zn BK1.out 2).trans rfl))
    go_meet
    case rel=>exact⟨_,(true),(by first|rfl|(simp;done)|(simp[*];done)),H',⟨by first|omega|exact Nat.le_refl _⟩,⟨by(with_reducible repeat(first|refine ZD ?_ _|refine ZE ?_|refine ZC ?_ _));exact BK1.out⟩,⟨by repeat(first|(with_reducible first|exact HB.out|apply Zo|apply Zm|apply Zp|refine Zs ?_ GE1.out)|exact HB.out)⟩⟩
   ·rw[if_neg c6] at H
    have c6b0:decide (14<(l0_1.length:Int))=false:=Zf c6
    clear c6
    replace H:=Zh H
    obtain⟨t3,A100,H⟩:=H;have A10:=Za A100;clear A100
    have H':=Za H
    clear H
    have hcz11_0:w3.cell? ⟨gb1,0,none⟩=some (.slice A0_0 l0_0.length c0_0):=(Zn BK1.out 0).trans rfl
    have hcz11_1:w3.cell? ⟨gb1,1,none⟩=some (.slice A0_1 l0_1.length c0_1):=(Zn BK1.out 1).trans rfl
    have hcz11_2:w3.cell? ⟨gb1,2,none⟩=some (.int .i64 a0_2):=(Zn BK1.out 2).trans rfl
    go_wp2_with (first|((with_reducible refine ZJ (f:=126) rfl ?_);refine ZY (some 5) rfl rfl Tryz.func126 (by kernel_rfl) rfl #[.agg #[.slice A0_0 l0_0.length c0_0,.slice A0_1 l0_1.length c0_1,.int .i64 a0_2]] rfl (by(try simp only[List.map_toArray,List.map_cons,List.map_nil]);first|done|rfl|(simp only[Zk,Zj];rfl)) ?_;(with_reducible refine(Zbn.calls _ _ l0_0 _ _ l0_1 a0_2 true _ ?side1 ?side2 ?side3 ?side4 A4.out).mono ?_);(case side1=>exact(Zb HR0_0.out HB.out));(case side2=>exact HC0_0.out);(case side3=>exact(Zb HR0_1.out HB.out));(case side4=>exact HC0_1.out);rintro e w12 ⟨rfl,hb⟩;refine⟨_,rfl,?_⟩;replace BK1:=Za (Zw (g:=gb1) (o:=.cells #[.slice A0_0 l0_0.length c0_0,.slice A0_1 l0_1.length c0_1,.int .i64 a0_2] 25 (0,0)) (by exact BK1.out) hb);replace HB:=Za (Zq (by exact HB.out) hb);have hcz13_0:w12.cell? ⟨gb1,0,none⟩=some (.slice A0_0 l0_0.length c0_0):=(Zn BK1.out 0).trans rfl;have hcz13_1:w12.cell? ⟨gb1,1,none⟩=some (.slice A0_1 l0_1.length c0_1):=(Zn BK1.out 1).trans rfl;have hcz13_2:w12.cell? ⟨gb1,2,none⟩=some (.int .i64 a0_2):=(Zn BK1.out 2).trans rfl)|(go_at_call 127;(with_reducible refine(ZU.calls a0_2 1 10 t3 _ A10.out).mono ?_);rintro e w' ⟨rfl,⟨nd,rfl⟩⟩))
    go_meet
    case rel=>exact⟨_,(!t3),(by first|rfl|(simp;done)|(simp[*];done)),H',⟨by first|omega|exact Nat.le_refl _⟩,⟨by(with_reducible repeat(first|refine ZD ?_ _|refine ZE ?_|refine ZC ?_ _));exact BK1.out⟩,⟨by repeat(first|(with_reducible first|exact HB.out|apply Zo|apply Zm|apply Zp|refine Zs ?_ GE1.out)|exact HB.out)⟩⟩
  ·replace c5:=Bool.eq_false_iff.mpr c5
   subst c5
   have H1:(Zaa.j0 k true l0_0 l0_1 a0_2)=some r:=by rw[if_neg (show ¬(false=true) by decide)] at H;exact H
   clear H
   have H:=H1
   clear H1
   have H':=Za H
   clear H
   have hcz14_0:w3.cell? ⟨gb1,0,none⟩=some (.slice A0_0 l0_0.length c0_0):=(Zn BK1.out 0).trans rfl
   have hcz14_1:w3.cell? ⟨gb1,1,none⟩=some (.slice A0_1 l0_1.length c0_1):=(Zn BK1.out 1).trans rfl
   have hcz14_2:w3.cell? ⟨gb1,2,none⟩=some (.int .i64 a0_2):=(Zn BK1.out 2).trans rfl
   go_wp2_with (first|((with_reducible refine ZJ (f:=126) rfl ?_);refine ZY (some 5) rfl rfl Tryz.func126 (by kernel_rfl) rfl #[.agg #[.slice A0_0 l0_0.length c0_0,.slice A0_1 l0_1.length c0_1,.int .i64 a0_2]] rfl (by(try simp only[List.map_toArray,List.map_cons,List.map_nil]);first|done|rfl|(simp only[Zk,Zj];rfl)) ?_;(with_reducible refine(Zbn.calls _ _ l0_0 _ _ l0_1 a0_2 false _ ?side1 ?side2 ?side3 ?side4 A4.out).mono ?_);(case side1=>exact(Zb HR0_0.out HB.out));(case side2=>exact HC0_0.out);(case side3=>exact(Zb HR0_1.out HB.out));(case side4=>exact HC0_1.out);rintro e w15 ⟨rfl,hb⟩;refine⟨_,rfl,?_⟩;replace BK1:=Za (Zw (g:=gb1) (o:=.cells #[.slice A0_0 l0_0.length c0_0,.slice A0_1 l0_1.length c0_1,.int .i64 a0_2] 25 (0,0)) (by exact BK1.out) hb);replace HB:=Za (Zq (by exact HB.out) hb);(try clear hi)))
   go_meet
   case rel=>exact⟨_,(true),(by first|rfl|(simp;done)|(simp[*];done)),H',⟨by first|omega|exact Nat.le_refl _⟩,⟨by(with_reducible repeat(first|refine ZD ?_ _|refine ZE ?_|refine ZC ?_ _));exact BK1.out⟩,⟨by repeat(first|(with_reducible first|exact HB.out|apply Zo|apply Zm|apply Zp|refine Zs ?_ GE1.out)|exact HB.out)⟩⟩
 case rest=>
  clear HC2
  try clear c1
  try clear p2
  try clear c5
  try clear c6
  try clear c6b0
  try clear c6b1
  try clear c12
  try clear hcz11_0
  try clear hcz11_1
  try clear hcz11_2
  try clear hcz13_0
  try clear hcz13_1
  try clear hcz13_2
  try clear hcz14_0
  try clear hcz14_1
  try clear hcz14_2
  try clear hcz7_0
  try clear hcz7_1
  try clear hcz7_2
  try clear hcz9_0
  try clear hcz9_1
  try clear hcz9_2
  try clear hfz11_0
  try clear hfz11_1
  try clear hfz11_2
  try clear hfz13_0
  try clear hfz13_1
  try clear hfz13_2
  try clear hfz14_0
  try clear hfz14_1
  try clear hfz14_2
  try clear hfz7_0
  try clear hfz7_1
  try clear hfz7_2
  try clear hfz9_0
  try clear hfz9_1
  try clear hfz9_2
  obtain⟨kq,x18_1,rfl,HA,HJ1,BK1,HB⟩:=hcut
  cases kq with
  | zero=>exact absurd HA.out (by simp[Zaa.j0])
  | succ kj1=>
   have H:=HA.out
   clear HA
   simp only[Zaa.j0] at H
   by_cases c16:x18_1=true
   ·subst c16
    rw[if_pos rfl] at H
    obtain rfl:=Zg H
    go_wp2
    go_ret
    exact⟨by first|rfl|(simp[ZB,ZA] <;> rfl)|(simp[*,ZB,ZA] <;> rfl),by repeat(first|(with_reducible first|exact HB.out|apply Zo|apply Zm|apply Zp|refine Zs ?_ GE1.out)|exact HB.out)⟩
   ·replace c16:=Bool.eq_false_iff.mpr c16
    subst c16
    have H1:(Zaa.l0 kj1 (l0_1.length:Int) 0 l0_0 l0_1 a0_2)=some r:=by rw[if_neg (show ¬(false=true) by decide)] at H;exact H
    clear H
    have H:=H1
    clear H1
    have H':=Za H
    clear H
    have hcz17_0:wc.cell? ⟨gb1,0,none⟩=some (.slice A0_0 l0_0.length c0_0):=(Zn BK1.out 0).trans rfl
    have hcz17_1:wc.cell? ⟨gb1,1,none⟩=some (.slice A0_1 l0_1.length c0_1):=(Zn BK1.out 1).trans rfl
    have hcz17_2:wc.cell? ⟨gb1,2,none⟩=some (.int .i64 a0_2):=(Zn BK1.out 2).trans rfl
    go_wp2
    go_loopg [22] kj1 (fun kq v22 w'=>∃(x22_2:Int),v22=.int .i64 x22_2∧Aside0 (Zaa.l0 kq (l0_1.length:Int) x22_2 l0_0 l0_1 a0_2=some r)∧Aside0 (kq≤kj1)∧Aside0 (w'.heap[gb1]? = some (.cells #[(.slice A0_0 l0_0.length c0_0),(.slice A0_1 l0_1.length c0_1),.int .i64 a0_2] 25 (0,0)))∧Aside0 (Below w.heap.size w w'))
    case atStart=>exact⟨(0),(by first|rfl|(simp;done)|(simp[*];done)),H',⟨Nat.le_refl _⟩,⟨by(with_reducible repeat(first|refine ZD ?_ _|refine ZE ?_|refine ZC ?_ _));exact BK1.out⟩,⟨by repeat(first|(with_reducible first|exact HB.out|apply Zo|apply Zm|apply Zp|refine Zs ?_ GE1.out)|exact HB.out)⟩⟩
    case round=>
     clear H'
     try clear c1
     try clear p2
     try clear c5
     try clear c6
     try clear c6b0
     try clear c6b1
     try clear c12
     try clear c16
     try clear hcz11_0
     try clear hcz11_1
     try clear hcz11_2
     try clear hcz13_0
     try clear hcz13_1
     try clear hcz13_2
     try clear hcz14_0
     try clear hcz14_1
     try clear hcz14_2
     try clear hcz17_0
     try clear hcz17_1
     try clear hcz17_2
     try clear hcz7_0
     try clear hcz7_1
     try clear hcz7_2
     try clear hcz9_0
     try clear hcz9_1
     try clear hcz9_2
     try clear hfz11_0
     try clear hfz11_1
     try clear hfz11_2
     try clear hfz13_0
     try clear hfz13_1
     try clear hfz13_2
     try clear hfz14_0
     try clear hfz14_1
     try clear hfz14_2
     try clear hfz17_0
     try clear hfz17_1
     try clear hfz17_2
     try clear hfz7_0
     try clear hfz7_1
     try clear hfz7_2
     try clear hfz9_0
     try clear hfz9_1
     try clear hfz9_2
     try clear p2
     obtain⟨x22_2,rfl,HA,HK2,BK1,HB⟩:=hrel
     cases gk with
     | zero=>exact absurd HA.out (by simp[Zaa.l0])
     | succ k2=>
      have H:=HA.out
      clear HA
      simp only[Zaa.l0] at H
      by_cases c18:x22_2<(l0_1.length:Int)
      ·rw[if_pos c18] at H
       have c18b0:decide (x22_2<(l0_1.length:Int))=true:=Ze c18
       clear c18
       replace H:=Zh H
       obtain⟨t4,A190,H⟩:=H;have A19:=Za A190;clear A190
       by_cases c20:t4=true
       ·subst c20
        rw[if_pos rfl] at H
        have H':=Za H
        clear H
        have hcz21_0:wr.cell? ⟨gb1,0,none⟩=some (.slice A0_0 l0_0.length c0_0):=(Zn BK1.out 0).trans rfl
        have hcz21_1:wr.cell? ⟨gb1,1,none⟩=some (.slice A0_1 l0_1.length c0_1):=(Zn BK1.out 1).trans rfl
        have hcz21_2:wr.cell? ⟨gb1,2,none⟩=some (.int .i64 a0_2):=(Zn BK1.out 2).trans rfl
        go_wp2_with (first|((with_reducible refine ZJ (f:=128) rfl ?_);refine ZY (some 27) rfl rfl Tryz.func128 (by kernel_rfl) rfl #[.agg #[.slice A0_0 l0_0.length c0_0,.slice A0_1 l0_1.length c0_1,.int .i64 a0_2],.int .i64 x22_2] rfl (by(try simp only[List.map_toArray,List.map_cons,List.map_nil]);first|done|rfl|(simp only[Zk,Zj];rfl)) ?_;(with_reducible refine(Zcw.calls _ _ l0_0 _ _ l0_1 a0_2 x22_2 true _ ?side1 ?side2 ?side3 ?side4 A19.out).mono ?_);(case side1=>exact(Zb HR0_0.out HB.out));(case side2=>exact HC0_0.out);(case side3=>exact(Zb HR0_1.out HB.out));(case side4=>exact HC0_1.out);rintro e w22 ⟨rfl,hb⟩;refine⟨_,rfl,?_⟩;replace BK1:=Za (Zw (g:=gb1) (o:=.cells #[.slice A0_0 l0_0.length c0_0,.slice A0_1 l0_1.length c0_1,.int .i64 a0_2] 25 (0,0)) (by exact BK1.out) hb);replace HB:=Za (Zq (by exact HB.out) hb);(try clear hi)))
        go_roundg k2
        case measure=>have:=HJ1.out;have:=HK2.out;omega
        case rel=>exact⟨(wrap64 (x22_2+1)),(by first|rfl|(simp;done)|(simp[*];done)),H',⟨by have:=HJ1.out;have:=HK2.out;omega⟩,⟨by(with_reducible repeat(first|refine ZD ?_ _|refine ZE ?_|refine ZC ?_ _));exact BK1.out⟩,⟨by repeat(first|(with_reducible first|exact HB.out|apply Zo|apply Zm|apply Zp|refine Zs ?_ GE1.out)|exact HB.out)⟩⟩
       ·replace c20:=Bool.eq_false_iff.mpr c20
        subst c20
        have H1:(some false)=some r:=by rw[if_neg (show ¬(false=true) by decide)] at H;exact H
        clear H
        have H:=H1
        clear H1
        obtain rfl:=Zg H
        have hcz23_0:wr.cell? ⟨gb1,0,none⟩=some (.slice A0_0 l0_0.length c0_0):=(Zn BK1.out 0).trans rfl
        have hcz23_1:wr.cell? ⟨gb1,1,none⟩=some (.slice A0_1 l0_1.length c0_1):=(Zn BK1.out 1).trans rfl
        have hcz23_2:wr.cell? ⟨gb1,2,none⟩=some (.int .i64 a0_2):=(Zn BK1.out 2).trans rfl
        go_wp2_with (first|((with_reducible refine ZJ (f:=128) rfl ?_);refine ZY (some 27) rfl rfl Tryz.func128 (by kernel_rfl) rfl #[.agg #[.slice A0_0 l0_0.length c0_0,.slice A0_1 l0_1.length c0_1,.int .i64 a0_2],.int .i64 x22_2] rfl (by(try simp only[List.map_toArray,List.map_cons,List.map_nil]);first|done|rfl|(simp only[Zk,Zj];rfl)) ?_;(with_reducible refine(Zcw.calls _ _ l0_0 _ _ l0_1 a0_2 x22_2 false _ ?side1 ?side2 ?side3 ?side4 A19.out).mono ?_);(case side1=>exact(Zb HR0_0.out HB.out));(case side2=>exact HC0_0.out);(case side3=>exact(Zb HR0_1.out HB.out));(case side4=>exact HC0_1.out);rintro e w24 ⟨rfl,hb⟩;refine⟨_,rfl,?_⟩;replace BK1:=Za (Zw (g:=gb1) (o:=.cells #[.slice A0_0 l0_0.length c0_0,.slice A0_1 l0_1.length c0_1,.int .i64 a0_2] 25 (0,0)) (by exact BK1.out) hb);replace HB:=Za (Zq (by exact HB.out) hb);(try clear hi)))
        go_ret
        exact⟨by first|rfl|(simp[ZB,ZA] <;> rfl)|(simp[*,ZB,ZA] <;> rfl),by repeat(first|(with_reducible first|exact HB.out|apply Zo|apply Zm|apply Zp|refine Zs ?_ GE1.out)|exact HB.out)⟩
      ·rw[if_neg c18] at H
       have c18b0:decide (x22_2<(l0_1.length:Int))=false:=Zf c18
       clear c18
       obtain rfl:=Zg H
       go_wp2
       go_ret
       exact⟨by first|rfl|(simp[ZB,ZA] <;> rfl)|(simp[*,ZB,ZA] <;> rfl),by repeat(first|(with_reducible first|exact HB.out|apply Zo|apply Zm|apply Zp|refine Zs ?_ GE1.out)|exact HB.out)⟩
open Ni
theorem idx_at {α:Type} (p:α→Bool) (l:List α) (i:Nat) (x:α) (h:l[i]? = some x) (hx:p x=true):decide (Za9 p l=(i:Int))=(l.take i).all (fun y=>!p y):=by
 have hi:i<l.length:=by
  rcases Nat.lt_or_ge i l.length with h'|h'
  ·exact h'
  ·rw[List.getElem?_eq_none h'] at h;exact absurd h (by simp)
 by_cases ha:(l.take i).all (fun y=>!p y)=true
 ·rw[ha,decide_eq_true_eq]
  refine Zb1 p l i x h hx fun j y hj hy=>?_
  have:=List.all_eq_true.1 ha y (List.mem_of_getElem? (i:=j) (by rw[List.getElem?_take_of_lt hj];exact hy))
  simpa using this
 ·rw[Bool.eq_false_iff.2 ha,decide_eq_false_iff_not]
  intro e
  apply ha
  rw[List.all_eq_true]
  intro y hy
  obtain⟨j,hj,rfl⟩:=List.mem_iff_getElem.1 hy
  have hj':j<i:=by rw[Zj] at hj;omega
  unfold Za9 at e
  cases hf:l.findIdx? p with
  | none=>rw[hf] at e;simp only at e;omega
  | some m=>
   rw[hf] at e
   have:m=i:=by simp only at e;omega
   subst this
   obtain⟨_,_,h3⟩:=List.findIdx?_eq_some_iff_getElem.1 hf
   have:=h3 j hj'
   rw[List.getElem_take]
   simpa using this
theorem all_pair {α:Type} (a b:α→Bool) (c:Bool) (l:List α):l.all (fun m=>a m && (c || b m))=(l.all a && (c || l.all b)):=by
 induction l with
 | nil=>simp
 | cons x l ih=>rw[List.all_cons,List.all_cons,List.all_cons,ih];cases a x <;> cases b x <;> cases c <;> simp
theorem Ze9 (a b:Int):(!(a != b))=decide (a=b):=by rw[Bool.eq_iff_iff];simp
theorem snodeC_at {ns:List ZM} {i:Nat} (h:i<ns.length):ZcE ns (ZI ns (i:Int)) i=Zc8 ns i:=by
 rw[Zcn]
 unfold ZcE Zc8
 have hs:=getD_some h z39
 generalize ns.getD i z39=y at hs
 rw[Ze9,Ze9,Ze9,Zd0,Zci,idx_at _ ns i y hs (Ze rfl),idx_at _ ns i y hs (Ze rfl),Bool.and_assoc,← all_pair]
 rfl
theorem Zfg {ns:List ZM}:∀(d i:Nat),i+d=ns.length→Zbg ns i d=ZbB ns i d
 | 0,_,_=>rfl
 | d+1,i,h=>by rw[Zbg,ZbB,snodeC_at (by omega),Zfg d (i+1) (by omega)]
theorem ZdI (ns:List ZM) {p:Int} (hp:0<p):ZbA ns p=Zci ns p:=by
 unfold ZbA Zci
 rw[Ze hp]
 simp only[Bool.true_and]
theorem ZeP (ns:List ZM) (lb:List Int) {x:Int} (hx:Zbp x=true):Zb7 ns lb x=ZcZ ns lb x:=by
 unfold Zb7 ZdR ZcZ ZdM hasB
 rw[ZdI ns (by have:=Zde hx;omega)]
 congr 3
 rw[Bool.eq_iff_iff];simp
theorem ZfF {ns:List ZM} {n:ZM} (h:∀x∈n.f1,Zbp x=true):ZcC ns n=Zcr ns n:=by
 unfold ZcC Zcr
 rw[Bool.eq_iff_iff,Bool.not_eq_true',List.any_eq_false,List.all_eq_true]
 constructor
 ·intro hh x hx
  have:=hh x hx
  rw[← ZeP ns _ (h x hx)];simpa using this
 ·intro hh x hx
  have:=hh x hx
  rw[← ZeP ns _ (h x hx)] at this;simpa using this
theorem nodes_same (ns:List ZM):ZbK ns=(ZV ns && ns.all (ZcC ns)):=by
 have e:ZbK ns=(ZV ns && ns.all (Zcr ns)):=by
  unfold ZbK ZV inB
  rw[Zfg ns.length 0 (by omega),Ze9,show ZI ns 0=ns.getD 0 z39 from Zcn ns 0]
  rw[show(decide ((1:Int)≤(ns.length:Int)) && decide ((ns.length:Int)≤7))=(decide (1≤ns.length) && decide (ns.length≤7)) by rw[Bool.eq_iff_iff];simp only[Bool.and_eq_true,decide_eq_true_eq];omega]
  rw[show(!(decide (((ns.getD 0 z39).f1.length:Int) > 0)))=decide ((ns.getD 0 z39).f1.length=0) by rw[Bool.eq_iff_iff];simp only[Bool.not_eq_true',decide_eq_true_eq,decide_eq_false_iff_not];omega]
 rw[e]
 cases h:ZV ns with
 | false=>rfl
 | true=>
  rw[Bool.true_and,Bool.true_and,Bool.eq_iff_iff,List.all_eq_true,List.all_eq_true]
  constructor
  ·intro hh n hn;rw[ZfF (ZdG h n hn)];exact hh n hn
  ·intro hh n hn;rw[← ZfF (ZdG h n hn)];exact hh n hn
def Zdz (ns:List ZM) (ts:List PTie) (i:Nat):Nat→Bool
 | 0=>true
 | d+1=>tieB ns ts i && Zdz ns ts (i+1) d
theorem in_same (n:Nat) (x:Int):inB x 0 ((n:Int) - 1)=Zcb n x:=by
 unfold inB Zcb
 rw[Bool.eq_iff_iff];simp;omega
theorem tie_same {ns:List ZM} {ts:List PTie} {i:Nat} (h:i<ts.length):tieB ns ts i=ptieB ns ts i:=by
 unfold tieB ptieB
 have hs:=getD_some h z82
 rw[Zem]
 generalize ts.getD i z82=t at hs
 obtain⟨tf,tt,tl,th,tb⟩:=t
 show tieC tf tt tl th tb ns ts i=Zb2 tf tt tl th tb ns ts i
 unfold tieC Zb2 spanB
 rw[in_same,in_same]
 cases tb with
 | false=>
  rw[Bool.eq_iff_iff]
  simp only[Bool.not_false,Bool.true_or,Bool.and_true,Bool.and_eq_true,Bool.not_eq_true',beq_eq_false_iff_ne,decide_eq_true_eq,decide_eq_false_iff_not]
  constructor
  ·rintro⟨⟨⟨⟨⟨a1,a2⟩,a3⟩,a4⟩,a5⟩,a6⟩
   exact⟨⟨⟨⟨⟨a1,a2⟩,a3⟩,by omega,by omega⟩,by omega,by omega⟩,a6⟩
  ·rintro⟨⟨⟨⟨⟨a1,a2⟩,a3⟩,a4,a5⟩,a6,a7⟩,a8⟩
   exact⟨⟨⟨⟨⟨a1,a2⟩,a3⟩,by omega⟩,by omega⟩,a8⟩
 | true=>
  have hf:(Zdb ts tt == (i:Int))=!((ts.take i).any fun u=>u.f4 && decide (u.f1=tt)):=by
   rw[show(Zdb ts tt == (i:Int))=decide (Zdb ts tt=(i:Int)) by rw[Bool.eq_iff_iff];simp,Zdb,idx_at _ ts i _ hs (by simp),Bool.eq_iff_iff]
   simp
   exact forall_congr' fun x=>forall_congr' fun _=>by cases x.f4 <;> simp
  rw[hf]
  rw[Bool.eq_iff_iff]
  simp only[Bool.not_true,Bool.false_or,Bool.and_eq_true,Bool.not_eq_true',beq_eq_false_iff_ne,decide_eq_true_eq,decide_eq_false_iff_not,beq_iff_eq,bne_eq_false_iff_eq]
  constructor
  ·rintro⟨⟨⟨⟨⟨⟨a1,a2⟩,a3⟩,a4⟩,a5⟩,a6⟩,⟨⟨⟨⟨b1,b2⟩,b3⟩,b4⟩,b5⟩⟩
   exact⟨⟨⟨⟨⟨⟨a1,a2⟩,a3⟩,by omega,by omega⟩,by omega,by omega⟩,a6⟩,⟨⟨⟨⟨by omega,b2⟩,b3⟩,b4.symm⟩,b5⟩⟩
  ·rintro⟨⟨⟨⟨⟨⟨a1,a2⟩,a3⟩,a4,a5⟩,a6,a7⟩,a8⟩,⟨⟨⟨⟨b1,b2⟩,b3⟩,b4⟩,b5⟩⟩
   exact⟨⟨⟨⟨⟨⟨a1,a2⟩,a3⟩,by omega⟩,by omega⟩,a8⟩,⟨⟨⟨⟨by omega,b2⟩,b3⟩,b4.symm⟩,b5⟩⟩
theorem ties_from {ns:List ZM} {ts:List PTie}:∀(d i:Nat),i+d=ts.length→Zdz ns ts i d=Zb8 ns ts i d
 | 0,_,_=>rfl
 | d+1,i,h=>by rw[Zdz,Zb8,tie_same (by omega),ties_from d (i+1) (by omega)]
theorem ZgC (ns:List ZM) (ts:List PTie) (z:Int) (ht:ts.length≤14):∀(d i k:Nat),i+d=ts.length→d<k→Zaa.l0 k ts.length (i:Int) ns ts z=some (Zdz ns ts i d):=by
 intro d
 induction d with
 | zero=>
  intro i k hi hk
  obtain⟨m,rfl⟩:∃m,k=m+1:=⟨k - 1,by omega⟩
  simp only[Zaa.l0]
  rw[if_neg (by omega)];rfl
 | succ d ih=>
  intro i k hi hk
  obtain⟨m,rfl⟩:∃m,k=m+1:=⟨k - 1,by omega⟩
  simp only[Zaa.l0]
  rw[if_pos (by omega),Zcw.f,if_pos (by omega),Zi,Zdz,ZL (n:=ts.length) (by omega) (by omega),ih (i+1) m (by omega) (by omega)]
  cases tieB ns ts i <;> rfl
theorem ZgD (ns:List ZM) (ts:List PTie) (z:Int) (hf:fitN ns=true) (k:Nat) (hk:2 ^ 64≤k):Zaa.f k ns ts z=some (Zal ns ts z):=by
 obtain⟨m,rfl⟩:∃m,k=m+1:=⟨k - 1,by omega⟩
 unfold Zaa.f Zbn.f Zal Zbz
 rw[if_pos hf,Zi,nodes_same]
 simp only[Zaa.j0,l01In_f,Zi,if_true]
 cases h1:ZV ns with
 | false=>rfl
 | true=>
  cases h2:ns.all (ZcC ns) with
  | false=>simp
  | true=>
   rw[Bool.and_true,if_pos rfl]
   by_cases h3:(ts.length:Int) > 14
   ·rw[if_pos h3,Zf (show ¬ts.length≤14 by omega)];simp
   ·rw[if_neg h3,Ze (show ts.length≤14 by omega)]
    have hl:=ZgC ns ts z (by omega) ts.length 0 m (by omega) (by omega)
    rw[show((0:Nat):Int)=0 from rfl] at hl
    rw[hl,ties_from _ _ (by omega)]
    by_cases h4:z<1
    ·rw[show inB z 1 10=false by unfold inB;rw[Zf (show ¬(1:Int)≤z by omega)];rfl,Ze h4];simp
    ·by_cases h5:10<z
     ·rw[show inB z 1 10=false by unfold inB;rw[Zf (show ¬z≤(10:Int) by omega)];simp,Ze h5];simp
     ·rw[show inB z 1 10=true by unfold inB;rw[Ze (show(1:Int)≤z by omega),Ze (show z≤(10:Int) by omega)];rfl,Zf h4,Zf h5];simp
theorem fitN_of {ns:List ZM} {ts:List PTie} (h:Zbm ns ts):fitN ns=true:=by
 unfold fitN
 rw[List.all_eq_true]
 intro n hn
 have:=h.2.2 n hn
 simp;omega
theorem ZgL {ns:List ZM} {ts:List PTie} {z:Int} (hf:fitN ns=true):ZbE.f ns ts z=some (Zal ns ts z):=by
 unfold ZbE.f
 rw[if_pos hf]
def Z6.l0:Nat→List Int→List (S82)→Int→Int→Option (List Int)
 | 0,_,_,_,_=>none
 | k+1,x3,x7,x8,x9=>if x9<x8 then(if 0≤x9 then(if x9<(x7.length:Int) then(if (Zu x7 x9).f4=true then(if x3.length<17592186044416 then(Z6.l0 k (x3 ++ [x9]) x7 x8 (wrap64 (x9+1))) else(none)) else(Z6.l0 k x3 x7 x8 (wrap64 (x9+1)))) else(none)) else(none)) else(some x3)
def Z6.f (k:Nat) (l0_0:List (S39)) (l0_1:List (S82)) (a0_2:Int):Option (List Int):=Z6.l0 k ([]:List Int) l0_1 (l0_1.length:Int) 0
theorem Z6.calls (k:Nat) (A0_0:Option Addr) (c0_0:Nat) (l0_0:List (S39)) (A0_1:Option Addr) (c0_1:Nat) (l0_1:List (S82)) (a0_2:Int) (r:List Int) (w:World) (hr0_0:Kd.C k39 w A0_0 l0_0.length l0_0) (hc0_0:l0_0.length≤c0_0) (hr0_1:Kd.C k82 w A0_1 l0_1.length l0_1) (hc0_1:l0_1.length≤c0_1) (h:Z6.f k l0_0 l0_1 a0_2=some r) :
  Calls Tryz.prog 90 #[.agg #[.slice A0_0 l0_0.length c0_0,.slice A0_1 l0_1.length c0_1,.int .i64 a0_2]] w fun e w'=>∃v0_:Value,e=.returned (v0_)∧Kd.R (Kd.int .i64) 3 w' w.heap.size (fun _=>True) v0_ r∧Below w.heap.size w w':=by
 have hu25:=Tryz.underlying25
 have hu82:=Tryz.underlying82
 have HR0_0:=Za hr0_0;have HC0_0:=Za hc0_0;clear hr0_0 hc0_0;have HR0_1:=Za hr0_1;have HC0_1:=Za hc0_1;clear hr0_1 hc0_1
 have HB:=Za (Below.refl w.heap.size w)
 have H:(Z6.l0 k ([]:List Int) l0_1 (l0_1.length:Int) 0)=some r:=h
 clear h
 have H':=Za H
 clear H
 go_enter Tryz.func90,Tryz.ntmps90
 go_wp2_with (first|((with_reducible refine ZG (N:=1) rfl ?_);refine ZH ?hg (N:=1) ?hd (cs:=#[.slice A0_0 l0_0.length c0_0,.slice A0_1 l0_1.length c0_1,.int .i64 a0_2]) (t:=25) ?hr ?_;(case hd=>rfl);(case hg=>rfl);(case hr=>first|(go_simp;done)|(go_simp;rfl));intro gb1 hg w2 hbox hb;have BK1:=Za (hbox);have GW1:=Za ((by rw[hg];exact(Zv (by repeat(first|(with_reducible first|exact HB.out|apply Zo|apply Zm|apply Zp)|exact HB.out))):w.heap.size≤gb1));have GE1:=Za ((by rw[hg];exact(Zv (by repeat(first|(with_reducible first|exact HB.out|apply Zo|apply Zm|apply Zp)|exact HB.out))):w.heap.size≤gb1));replace HB:=Za (Zq (by repeat(first|(with_reducible first|exact HB.out|apply Zo|apply Zm|apply Zp)|exact HB.out)) hb);clear hb hbox hg;have hcz3_0:w2.cell? ⟨gb1,0,none⟩=some (.slice A0_0 l0_0.length c0_0):=(Zn BK1.out 0).trans rfl;have hcz3_1:w2.cell? ⟨gb1,1,none⟩=some (.slice A0_1 l0_1.length c0_1):=(Zn BK1.out 1).trans rfl;have hcz3_2:w2.cell? ⟨gb1,2,none⟩=some (.int .i64 a0_2):=(Zn BK1.out 2).trans rfl;have hfz3_0:=Zt BK1.out 0;have hfz3_1:=Zt BK1.out 1;have hfz3_2:=Zt BK1.out 2))
 go_loopg [3,9] k (fun kq v3 v9 w'=>∃(x3_1:List Int) (x9_1:Int),v9=.int .i64 x9_1∧Aside0 (Z6.l0 kq x3_1 l0_1 (l0_1.length:Int) x9_1=some r)∧Aside0 (kq≤k)∧Aside0 (Kd.R (Kd.int .i64) 3 w' w.heap.size (fun _=>True) v3 x3_1)∧Aside0 (w'.heap[gb1]? = some (.cells #[(.slice A0_0 l0_0.length c0_0),(.slice A0_1 l0_1.length c0_1),.int .i64 a0_2] 25 (0,0)))∧Aside0 (Below w.heap.size w w'))
 case atStart=>exact⟨(([]:List Int)),(0),(by first|rfl|(simp;done)|(simp[*];done)),H',⟨Nat.le_refl _⟩,⟨by first|exact Kd.R_nil _ _ _ _ _|exact Kd.N_nil _ _ _ _ _|exact Kd.V_nil _ _ _ _ _|exact Kd.Q_nil _ _ _ _ _|exact Kd.S_nil _ _ _ _ _⟩,⟨by(with_reducible repeat(first|refine ZD ?_ _|refine ZE ?_|refine ZC ?_ _));exact BK1.out⟩,⟨by repeat(first|(with_reducible first|exact HB.out|apply Zo|apply Zm|apply Zp|refine Zs ?_ GE1.out)|exact HB.out)⟩⟩
 case round=>
  clear H'
  try clear p2
  try clear hcz3_0
  try clear hcz3_1
  try clear hcz3_2
  try clear hfz3_0
  try clear hfz3_1
  try clear hfz3_2
  obtain⟨x3_1,x9_1,rfl,HA,HK1,HO_3,BK1,HB⟩:=hrel
  cases gk with
  | zero=>exact absurd HA.out (by simp[Z6.l0])
  | succ k1=>
   have H:=HA.out
   clear HA
   simp only[Z6.l0] at H
   by_cases c4:x9_1<(l0_1.length:Int)
   ·rw[if_pos c4] at H
    have c4b0:decide (x9_1<(l0_1.length:Int))=true:=Ze c4
    clear c4
    by_cases c5:0≤x9_1
    ·rw[if_pos c5] at H
     have c5b0:decide (0≤x9_1)=true:=Ze c5
     clear c5
     by_cases c6:x9_1<(l0_1.length:Int)
     ·rw[if_pos c6] at H
      have c6b0:decide (x9_1<(l0_1.length:Int))=true:=Ze c6
      clear c6
      obtain⟨bq7,hbq7⟩:∃b_:Bool,b_=((Zu l0_1 x9_1).f4):=⟨_,rfl⟩
      replace H:(if bq7=true then(if x3_1.length<17592186044416 then(Z6.l0 k1 (x3_1 ++ [x9_1]) l0_1 (l0_1.length:Int) (wrap64 (x9_1+1))) else(none)) else(Z6.l0 k1 x3_1 l0_1 (l0_1.length:Int) (wrap64 (x9_1+1))))=some r:=by rw[← hbq7] at H;exact H
      have Nbq7:=Za hbq7;clear hbq7
      by_cases c8:bq7=true
      ·subst c8
       rw[if_pos rfl] at H
       by_cases c9:x3_1.length<17592186044416
       ·rw[if_pos c9] at H
        have LMc9:=Za c9;clear c9
        obtain⟨y4,hy4⟩:∃y_:List Int,y_=(x3_1 ++ [x9_1]):=⟨_,rfl⟩
        replace H:(Z6.l0 k1 y4 l0_1 (l0_1.length:Int) (wrap64 (x9_1+1)))=some r:=by first|(rw[hy4];with_reducible exact H)|(have H2_:=(Zi _ _).symm.trans H;rw[hy4];with_reducible exact H2_)|(have H2_:=(Zi _ _).symm.trans H;with_reducible exact H2_)|with_reducible exact H|(rw[hy4];exact H)|exact H
        have Ny4:=Za hy4;clear hy4
        have H':=Za H
        clear H
        have p90002:0≤(x9_1:Int):=Zd (by first|(with_reducible assumption)|assumption)
        have q2:x9_1<(l0_1.length:Int):=Zd (by first|(with_reducible assumption)|assumption)
        obtain⟨ad2,e2,hx2_0,hx2_1,hx2_2,hx2_3,hx2_4⟩:=ZbS HR0_1.out x9_1 p90002 q2
        (try rw[← Nbq7.out] at hx2_4)
        cases e2
        replace hx2_0:=(HB.out.cell (Zc w _ hx2_0)).trans hx2_0
        replace hx2_1:=(HB.out.cell (Zc w _ hx2_1)).trans hx2_1
        replace hx2_2:=(HB.out.cell (Zc w _ hx2_2)).trans hx2_2
        replace hx2_3:=(HB.out.cell (Zc w _ hx2_3)).trans hx2_3
        replace hx2_4:=(HB.out.cell (Zc w _ hx2_4)).trans hx2_4
        replace p90002:=eq_true p90002
        replace q2:=eq_true q2
        go_wp2_with (first|((with_reducible refine ZG (N:=5) rfl ?_);refine ZH ?hg (N:=5) ?hd (cs:=#[.int .i64 0,.int .i64 0,.int .i64 0,.int .i64 0,.bool false]) (t:=82) ?hr ?_;(case hd=>rfl);(case hg=>rfl);(case hr=>first|(go_simp;done)|(go_simp;rfl));intro gb3 hg w10 hbox hb;have BK3:=Za (hbox);have GW3:=Za ((by rw[hg];exact(Zv (by repeat(first|(with_reducible first|exact HB.out|apply Zo|apply Zm|apply Zp|refine Zs ?_ GE1.out)|exact HB.out))):w.heap.size≤gb3));have GE3:=Za ((by rw[hg];exact(Zv (by repeat(first|(with_reducible first|exact HB.out|apply Zo|apply Zm|apply Zp|refine Zs ?_ GE1.out)|exact HB.out))):w.heap.size≤gb3));have NB1_3:=Za ((by rw[hg];exact Nat.ne_of_lt (ZK (g:=gb1) (o:=.cells #[.slice A0_0 l0_0.length c0_0,.slice (some ad2) l0_1.length c0_1,.int .i64 a0_2] 25 (0,0)) (by(with_reducible repeat(first|refine ZD ?_ _|refine ZE ?_|refine ZC ?_ _));exact BK1.out)):gb1≠gb3));have NB3_1:=Za ((by rw[hg];exact Nat.ne_of_gt (ZK (g:=gb1) (o:=.cells #[.slice A0_0 l0_0.length c0_0,.slice (some ad2) l0_1.length c0_1,.int .i64 a0_2] 25 (0,0)) (by(with_reducible repeat(first|refine ZD ?_ _|refine ZE ?_|refine ZC ?_ _));exact BK1.out)):gb3≠gb1));replace HO_3:=Za (Kd.R_below (by(with_reducible repeat(first|apply Kd.R_alloc|apply Kd.R_drewN|apply Kd.R_drew));exact HO_3.out) hb);replace BK1:=Za (Zw (g:=gb1) (o:=.cells #[.slice A0_0 l0_0.length c0_0,.slice (some ad2) l0_1.length c0_1,.int .i64 a0_2] 25 (0,0)) (by(with_reducible repeat(first|refine ZD ?_ _|refine ZE ?_|refine ZC ?_ _));exact BK1.out) hb);replace HB:=Za (Zq (by repeat(first|(with_reducible first|exact HB.out|apply Zo|apply Zm|apply Zp|refine Zs ?_ GE1.out)|exact HB.out)) hb);clear hb hbox hg;have hnb11:=NB3_1.out;have hnc11:=NB1_3.out;have hcz12_0:w10.cell? ⟨gb3,0,none⟩=some (.int .i64 0):=(Zn BK3.out 0).trans rfl;have hcz12_1:w10.cell? ⟨gb3,1,none⟩=some (.int .i64 0):=(Zn BK3.out 1).trans rfl;have hcz12_2:w10.cell? ⟨gb3,2,none⟩=some (.int .i64 0):=(Zn BK3.out 2).trans rfl;have hcz12_3:w10.cell? ⟨gb3,3,none⟩=some (.int .i64 0):=(Zn BK3.out 3).trans rfl;have hcz12_4:w10.cell? ⟨gb3,4,none⟩=some (.bool false):=(Zn BK3.out 4).trans rfl;have hfz12_0:=Zt BK3.out 0;have hfz12_1:=Zt BK3.out 1;have hfz12_2:=Zt BK3.out 2;have hfz12_3:=Zt BK3.out 3;have hfz12_4:=Zt BK3.out 4)|((with_reducible refine ZT (b:=.append) (xs:=#[.tmp 16,.tmp 18]) rfl ?_);at_builtin;refine Kd.R_append (Kd.int .i64) (w0:=w) w.heap.size rfl (.tmp 16) (.tmp 18) 37 3 (.int .i64 0) 8 rfl Tryz.underlying37 ZbI rfl (by decide) (by omega) u3 x3_1 x9_1 [.int .i64 x9_1] (fun _=>True) (fun _=>False) rfl (by first|(go_simp;done)|(go_simp;rfl)) ?aP (fun _ hk=>hk.elim) ?aF ?aO ?aB ?aS ?aL ?_;(case aP=>exact rfl);(case aB=>exact(by repeat(first|(with_reducible first|exact HB.out|apply Zo|apply Zm|apply Zp|refine Zs ?_ GE1.out|refine Zs ?_ GE3.out)|exact HB.out)));(case aF=>exact(fun _ _=>trivial));(case aO=>exact(by(with_reducible repeat(first|apply Kd.R_alloc|apply Kd.R_drewN|apply Kd.R_drew));exact Kd.R_mono (Kd.R_far (p:=⟨gb3,4,none⟩) (Kd.R_far (p:=⟨gb3,3,none⟩) (Kd.R_far (p:=⟨gb3,2,none⟩) (Kd.R_far (p:=⟨gb3,1,none⟩) (Kd.R_far (p:=⟨gb3,0,none⟩) (Kd.R_types HO_3.out BK3.out (by decide)) (fun _ hk=>hk.2) (.int .i64 ((Zu l0_1 x9_1).f0))) (fun _ hk=>hk.2) (.int .i64 ((Zu l0_1 x9_1).f1))) (fun _ hk=>hk.2) (.int .i64 ((Zu l0_1 x9_1).f2))) (fun _ hk=>hk.2) (.int .i64 ((Zu l0_1 x9_1).f3))) (fun _ hk=>hk.2) (.bool true)) (fun _ hk=>trivial)));(case aS=>exact(Zv (by repeat(first|(with_reducible first|exact HB.out|apply Zo|apply Zm|apply Zp|refine Zs ?_ GE1.out|refine Zs ?_ GE3.out)|exact HB.out))));(case aL=>have:=LMc9.out;omega);intro v5 w13 ho hb hg hat;rw[← Ny4.out] at ho;have HO6:=Za (ho);replace BK1:=Za (Zak (g:=gb1) (o:=.cells #[.slice A0_0 l0_0.length c0_0,.slice (some ad2) l0_1.length c0_1,.int .i64 a0_2] 25 (0,0)) (by(with_reducible repeat(first|refine ZD ?_ _|refine ZE ?_|refine ZC ?_ _));refine ZP ?_ NB1_3.out _;(with_reducible repeat(first|refine ZD ?_ _|refine ZE ?_|refine ZC ?_ _));refine ZP ?_ NB1_3.out _;(with_reducible repeat(first|refine ZD ?_ _|refine ZE ?_|refine ZC ?_ _));refine ZP ?_ NB1_3.out _;(with_reducible repeat(first|refine ZD ?_ _|refine ZE ?_|refine ZC ?_ _));refine ZP ?_ NB1_3.out _;(with_reducible repeat(first|refine ZD ?_ _|refine ZE ?_|refine ZC ?_ _));refine ZP ?_ NB1_3.out _;(with_reducible repeat(first|refine ZD ?_ _|refine ZE ?_|refine ZC ?_ _));exact BK1.out) hg (Kd.R_ne HO_3.out BK1.out (by decide)));replace BK3:=Za (Zak (g:=gb3) (o:=.cells #[.int .i64 ((Zu l0_1 x9_1).f0),.int .i64 ((Zu l0_1 x9_1).f1),.int .i64 ((Zu l0_1 x9_1).f2),.int .i64 ((Zu l0_1 x9_1).f3),.bool true] 82 (0,0)) (by(with_reducible repeat(first|refine ZD ?_ _|refine ZE ?_|refine ZC ?_ _));refine ZW (cs:=#[.int .i64 ((Zu l0_1 x9_1).f0),.int .i64 ((Zu l0_1 x9_1).f1),.int .i64 ((Zu l0_1 x9_1).f2),.int .i64 ((Zu l0_1 x9_1).f3),.bool false]) ?_ 4 _ rfl;(with_reducible repeat(first|refine ZD ?_ _|refine ZE ?_|refine ZC ?_ _));refine ZW (cs:=#[.int .i64 ((Zu l0_1 x9_1).f0),.int .i64 ((Zu l0_1 x9_1).f1),.int .i64 ((Zu l0_1 x9_1).f2),.int .i64 0,.bool false]) ?_ 3 _ rfl;(with_reducible repeat(first|refine ZD ?_ _|refine ZE ?_|refine ZC ?_ _));refine ZW (cs:=#[.int .i64 ((Zu l0_1 x9_1).f0),.int .i64 ((Zu l0_1 x9_1).f1),.int .i64 0,.int .i64 0,.bool false]) ?_ 2 _ rfl;(with_reducible repeat(first|refine ZD ?_ _|refine ZE ?_|refine ZC ?_ _));refine ZW (cs:=#[.int .i64 ((Zu l0_1 x9_1).f0),.int .i64 0,.int .i64 0,.int .i64 0,.bool false]) ?_ 1 _ rfl;(with_reducible repeat(first|refine ZD ?_ _|refine ZE ?_|refine ZC ?_ _));refine ZW (cs:=#[.int .i64 0,.int .i64 0,.int .i64 0,.int .i64 0,.bool false]) ?_ 0 _ rfl;(with_reducible repeat(first|refine ZD ?_ _|refine ZE ?_|refine ZC ?_ _));exact BK3.out) hg (Kd.R_ne HO_3.out BK3.out (by decide)));replace HB:=Za (hb);clear HO_3;clear ho hb hg hat))
        go_roundg k1
        case measure=>have:=HK1.out;omega
        case rel=>exact⟨(y4),(wrap64 (x9_1+1)),(by first|rfl|(simp;done)|(simp[*];done)),H',⟨by have:=HK1.out;omega⟩,⟨by(with_reducible repeat(first|apply Kd.R_alloc|apply Kd.R_drewN|apply Kd.R_drew));exact HO6.out⟩,⟨by(with_reducible repeat(first|refine ZD ?_ _|refine ZE ?_|refine ZC ?_ _));exact BK1.out⟩,⟨by repeat(first|(with_reducible first|exact HB.out|apply Zo|apply Zm|apply Zp|refine Zs ?_ GE1.out|refine Zs ?_ GE3.out)|exact HB.out)⟩⟩
       ·rw[if_neg c9] at H
        exact absurd H (by simp)
      ·replace c8:=Bool.eq_false_iff.mpr c8
       subst c8
       have H1:(Z6.l0 k1 x3_1 l0_1 (l0_1.length:Int) (wrap64 (x9_1+1)))=some r:=by rw[if_neg (show ¬(false=true) by decide)] at H;exact H
       clear H
       have H:=H1
       clear H1
       have H':=Za H
       clear H
       have p90002:0≤(x9_1:Int):=Zd (by first|(with_reducible assumption)|assumption)
       have q2:x9_1<(l0_1.length:Int):=Zd (by first|(with_reducible assumption)|assumption)
       obtain⟨ad2,e2,hx2_0,hx2_1,hx2_2,hx2_3,hx2_4⟩:=ZbS HR0_1.out x9_1 p90002 q2
       (try rw[← Nbq7.out] at hx2_4)
       cases e2
       replace hx2_0:=(HB.out.cell (Zc w _ hx2_0)).trans hx2_0
       replace hx2_1:=(HB.out.cell (Zc w _ hx2_1)).trans hx2_1
       replace hx2_2:=(HB.out.cell (Zc w _ hx2_2)).trans hx2_2
       replace hx2_3:=(HB.out.cell (Zc w _ hx2_3)).trans hx2_3
       replace hx2_4:=(HB.out.cell (Zc w _ hx2_4)).trans hx2_4
       replace p90002:=eq_true p90002
       replace q2:=eq_true q2
       go_wp2_with (first|((with_reducible refine ZG (N:=5) rfl ?_);refine ZH ?hg (N:=5) ?hd (cs:=#[.int .i64 0,.int .i64 0,.int .i64 0,.int .i64 0,.bool false]) (t:=82) ?hr ?_;(case hd=>rfl);(case hg=>rfl);(case hr=>first|(go_simp;done)|(go_simp;rfl));intro gb3 hg w14 hbox hb;have BK3:=Za (hbox);have GW3:=Za ((by rw[hg];exact(Zv (by repeat(first|(with_reducible first|exact HB.out|apply Zo|apply Zm|apply Zp|refine Zs ?_ GE1.out)|exact HB.out))):w.heap.size≤gb3));have GE3:=Za ((by rw[hg];exact(Zv (by repeat(first|(with_reducible first|exact HB.out|apply Zo|apply Zm|apply Zp|refine Zs ?_ GE1.out)|exact HB.out))):w.heap.size≤gb3));have NB1_3:=Za ((by rw[hg];exact Nat.ne_of_lt (ZK (g:=gb1) (o:=.cells #[.slice A0_0 l0_0.length c0_0,.slice (some ad2) l0_1.length c0_1,.int .i64 a0_2] 25 (0,0)) (by(with_reducible repeat(first|refine ZD ?_ _|refine ZE ?_|refine ZC ?_ _));exact BK1.out)):gb1≠gb3));have NB3_1:=Za ((by rw[hg];exact Nat.ne_of_gt (ZK (g:=gb1) (o:=.cells #[.slice A0_0 l0_0.length c0_0,.slice (some ad2) l0_1.length c0_1,.int .i64 a0_2] 25 (0,0)) (by(with_reducible repeat(first|refine ZD ?_ _|refine ZE ?_|refine ZC ?_ _));exact BK1.out)):gb3≠gb1));replace HO_3:=Za (Kd.R_below (by(with_reducible repeat(first|apply Kd.R_alloc|apply Kd.R_drewN|apply Kd.R_drew));exact HO_3.out) hb);replace BK1:=Za (Zw (g:=gb1) (o:=.cells #[.slice A0_0 l0_0.length c0_0,.slice (some ad2) l0_1.length c0_1,.int .i64 a0_2] 25 (0,0)) (by(with_reducible repeat(first|refine ZD ?_ _|refine ZE ?_|refine ZC ?_ _));exact BK1.out) hb);replace HB:=Za (Zq (by repeat(first|(with_reducible first|exact HB.out|apply Zo|apply Zm|apply Zp|refine Zs ?_ GE1.out)|exact HB.out)) hb);clear hb hbox hg;have hnb15:=NB3_1.out;have hnc15:=NB1_3.out;have hcz16_0:w14.cell? ⟨gb3,0,none⟩=some (.int .i64 0):=(Zn BK3.out 0).trans rfl;have hcz16_1:w14.cell? ⟨gb3,1,none⟩=some (.int .i64 0):=(Zn BK3.out 1).trans rfl;have hcz16_2:w14.cell? ⟨gb3,2,none⟩=some (.int .i64 0):=(Zn BK3.out 2).trans rfl;have hcz16_3:w14.cell? ⟨gb3,3,none⟩=some (.int .i64 0):=(Zn BK3.out 3).trans rfl;have hcz16_4:w14.cell? ⟨gb3,4,none⟩=some (.bool false):=(Zn BK3.out 4).trans rfl;have hfz16_0:=Zt BK3.out 0;have hfz16_1:=Zt BK3.out 1;have hfz16_2:=Zt BK3.out 2;have hfz16_3:=Zt BK3.out 3;have hfz16_4:=Zt BK3.out 4))
       go_roundg k1
       case measure=>have:=HK1.out;omega
       case rel=>exact⟨(x3_1),(wrap64 (x9_1+1)),(by first|rfl|(simp;done)|(simp[*];done)),H',⟨by have:=HK1.out;omega⟩,⟨by(with_reducible repeat(first|apply Kd.R_alloc|apply Kd.R_drewN|apply Kd.R_drew));exact Kd.R_mono (Kd.R_far (p:=⟨gb3,4,none⟩) (Kd.R_far (p:=⟨gb3,3,none⟩) (Kd.R_far (p:=⟨gb3,2,none⟩) (Kd.R_far (p:=⟨gb3,1,none⟩) (Kd.R_far (p:=⟨gb3,0,none⟩) (Kd.R_types HO_3.out BK3.out (by decide)) (fun _ hk=>hk.2) (.int .i64 ((Zu l0_1 x9_1).f0))) (fun _ hk=>hk.2) (.int .i64 ((Zu l0_1 x9_1).f1))) (fun _ hk=>hk.2) (.int .i64 ((Zu l0_1 x9_1).f2))) (fun _ hk=>hk.2) (.int .i64 ((Zu l0_1 x9_1).f3))) (fun _ hk=>hk.2) (.bool false)) (fun _ hk=>trivial)⟩,⟨by(with_reducible repeat(first|refine ZD ?_ _|refine ZE ?_|refine ZC ?_ _));refine ZP ?_ NB1_3.out _;(with_reducible repeat(first|refine ZD ?_ _|refine ZE ?_|refine ZC ?_ _));refine ZP ?_ NB1_3.out _;(with_reducible repeat(first|refine ZD ?_ _|refine ZE ?_|refine ZC ?_ _));refine ZP ?_ NB1_3.out _;(with_reducible repeat(first|refine ZD ?_ _|refine ZE ?_|refine ZC ?_ _));refine ZP ?_ NB1_3.out _;(with_reducible repeat(first|refine ZD ?_ _|refine ZE ?_|refine ZC ?_ _));refine ZP ?_ NB1_3.out _;(with_reducible repeat(first|refine ZD ?_ _|refine ZE ?_|refine ZC ?_ _));exact BK1.out⟩,⟨by repeat(first|(with_reducible first|exact HB.out|apply Zo|apply Zm|apply Zp|refine Zs ?_ GE1.out|refine Zs ?_ GE3.out)|exact HB.out)⟩⟩
     ·rw[if_neg c6] at H
      exact absurd H (by simp)
    ·rw[if_neg c5] at H
     exact absurd H (by simp)
   ·rw[if_neg c4] at H
    have c4b0:decide (x9_1<(l0_1.length:Int))=false:=Zf c4
    clear c4
    obtain rfl:=Zg H
    go_wp2
    go_ret
    exact⟨_,by first|rfl|(simp[ZB,ZA] <;> rfl)|(simp[*,ZB,ZA] <;> rfl),by(with_reducible repeat(first|apply Kd.R_alloc|apply Kd.R_drewN|apply Kd.R_drew));exact HO_3.out,by repeat(first|(with_reducible first|exact HB.out|apply Zo|apply Zm|apply Zp|refine Zs ?_ GE1.out)|exact HB.out)⟩
end Go.Proofs.YtoeimopgoaffcaaGreatDoor.Pr
