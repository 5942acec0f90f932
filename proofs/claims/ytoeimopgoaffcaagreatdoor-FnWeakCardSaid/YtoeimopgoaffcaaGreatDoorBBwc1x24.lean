/- By a program of this session. -/
import Derived.Test.YtoeimopgoaffcaaGreatDoorBBwc1x22
import Derived.Test.YtoeimopgoaffcaaGreatDoorBBwc1x23
set_option maxHeartbeats 8000000
set_option maxRecDepth 100000
namespace Go.Proofs.YtoeimopgoaffcaaGreatDoor.Pr
open RowKit YtoeimopgoaffcaaGreatDoorW.PrintWords YtoeimopgoaffcaaGreatDoorW.PrintLast YtoeimopgoaffcaaGreatDoorW.PrintMore
attribute [local go_sem] Zak Zai Zax Zaw Zac Zab Zaj Zah
set_option linter.unusedVariables false
set_option linter.unusedSimpArgs false
mutual
def Zau.j0:Nat→Bool→List (S39)→List (S82)→Int→Option (Bool)
 | 0,_,_,_,_=>none
 | k+1,x18,x57002000,x57002001,x57002002=>if x18=true then(some false) else(Zau.l0 k (x57002001.length:Int) 0 x57002000 x57002001 x57002002)
def Zau.l0:Nat→Int→Int→List (S39)→List (S82)→Int→Option (Bool)
 | 0,_,_,_,_,_=>none
 | k+1,x21,x22,x57002000,x57002001,x57002002=>if x22<x21 then((ZcQ.f x57002000 x57002001 x57002002 x22).bind fun t4=>(if t4=true then(Zau.l0 k x21 (wrap64 (x22+1)) x57002000 x57002001 x57002002) else(some false))) else(some true)
end
def Zau.f (k:Nat) (l0_0:List (S39)) (l0_1:List (S82)) (a0_2:Int):Option (Bool):=(ZbC.f l0_0 l0_1 a0_2).bind fun t2=>(if t2=true then(if (l0_1.length:Int) > 14 then(Zau.j0 k true l0_0 l0_1 a0_2) else((ZX.f a0_2 1 10).bind fun t3=>(Zau.j0 k (!t3) l0_0 l0_1 a0_2))) else(Zau.j0 k true l0_0 l0_1 a0_2))
theorem Zau.calls (k:Nat) (A0_0:Option Addr) (c0_0:Nat) (l0_0:List (S39)) (A0_1:Option Addr) (c0_1:Nat) (l0_1:List (S82)) (a0_2:Int) (r:Bool) (w:World) (hr0_0:Kd.C k39 w A0_0 l0_0.length l0_0) (hc0_0:l0_0.length≤c0_0) (hr0_1:Kd.C k82 w A0_1 l0_1.length l0_1) (hc0_1:l0_1.length≤c0_1) (h:Zau.f k l0_0 l0_1 a0_2=some r) :
  Calls Tryz.prog 57 #[.agg #[.slice A0_0 l0_0.length c0_0,.slice A0_1 l0_1.length c0_1,.int .i64 a0_2]] w fun e w'=>e=.returned (.bool r)∧Below w.heap.size w w':=by
 have hu25:=Tryz.underlying25
 have HR0_0:=Za hr0_0;have HC0_0:=Za hc0_0;clear hr0_0 hc0_0;have HR0_1:=Za hr0_1;have HC0_1:=Za hc0_1;clear hr0_1 hc0_1
 have HB:=Za (Below.refl w.heap.size w)
 have H:((ZbC.f l0_0 l0_1 a0_2).bind fun t2=>(if t2=true then(if (l0_1.length:Int) > 14 then(Zau.j0 k true l0_0 l0_1 a0_2) else((ZX.f a0_2 1 10).bind fun t3=>(Zau.j0 k (!t3) l0_0 l0_1 a0_2))) else(Zau.j0 k true l0_0 l0_1 a0_2)))=some r:=h
 clear h;have HC2:=Za H;clear H
 go_enter Tryz.func57,Tryz.ntmps57
 go_upto_region 1 with (first|((with_reducible refine ZF (N:=1) rfl ?_);refine ZG ?hg (N:=1) ?hd (cs:=#[.slice A0_0 l0_0.length c0_0,.slice A0_1 l0_1.length c0_1,.int .i64 a0_2]) (t:=25) ?hr ?_;(case hd=>rfl);(case hg=>rfl);(case hr=>first|(go_simp;done)|(go_simp;rfl));intro gb1 hg w3 hbox hb;have BK1:=Za (hbox);have GW1:=Za ((by rw[hg];exact(Zv (by exact HB.out)):w.heap.size≤gb1));have GE1:=Za ((by rw[hg];exact(Zv (by exact HB.out)):w.heap.size≤gb1));replace HB:=Za (Zr (by exact HB.out) hb);clear hb hbox hg))
 (try simp only[Act.put,List.setIfInBounds_toArray,List.set_cons_zero,List.set_cons_succ])
 go_cut [18] (fun v18 wc=>∃(kq:Nat) (x18_1:Bool),v18=.bool x18_1∧Aside0 (Zau.j0 kq x18_1 l0_0 l0_1 a0_2=some r)∧Aside0 (kq≤k)∧Aside0 (wc.heap[gb1]? = some (.cells #[(.slice A0_0 l0_0.length c0_0),(.slice A0_1 l0_1.length c0_1),.int .i64 a0_2] 25 (0,0)))∧Aside0 (Below w.heap.size w wc))
 case first=>
  have H:=HC2.out
  clear HC2
  replace H:=Zh H
  obtain⟨t2,A40,H⟩:=H;have A4:=Za A40;clear A40
  by_cases c5:t2=true
  ·subst c5
   rw[if_pos rfl] at H
   by_cases c6:(l0_1.length:Int) > 14
   ·rw[if_pos c6] at H
    have c6b0:decide (14<(l0_1.length:Int))=true:=Ze c6
    clear c6
    have H':=Za H
    clear H
    have hcz7_0:w3.cell? ⟨gb1,0,none⟩=some (.slice A0_0 l0_0.length c0_0):=(Zm BK1.out 0).trans rfl
    have hcz7_1:w3.cell? ⟨gb1,1,none⟩=some (.slice A0_1 l0_1.length c0_1):=(Zm BK1.out 1).trans rfl
    have hcz7_2:w3.cell? ⟨gb1,2,none⟩=some (.int .i64 a0_2):=(Zm BK1.out 2).trans rfl
    go_wp2_with (first|((with_reducible refine ZM (f:=126) rfl ?_);refine Z7 (some 5) rfl rfl Tryz.func126 (by kernel_rfl) rfl #[.agg #[.slice A0_0 l0_0.length c0_0,.slice A0_1 l0_1.length c0_1,.int .i64 a0_2]] rfl (by(try simp only[List.map_toArray,List.map_cons,List.map_nil]);first|done|rfl|(simp only[Zk,Zj];rfl)) ?_;(with_reducible refine(ZbC.calls _ _ l0_0 _ _ l0_1 a0_2 true _ ?side1 ?side2 ?side3 ?side4 A4.out).mono ?_);(case side1=>exact(Zb HR0_0.out HB.out));(case side2=>exact HC0_0.out);(case side3=>exact(Zb HR0_1.out HB.out));(case side4=>exact HC0_1.out);rintro e w8 ⟨rfl,hb⟩;refine⟨_,rfl,?_⟩;replace BK1:=Za (Zs (g:=gb1) (o:=.cells #[.slice A0_0 l0_0.length c0_0,.slice A0_1 l0_1.length c0_1,.int .i64 a0_2] 25 (0,0)) (by exact BK1.out) hb);replace HB:=Za (Zr (by exact HB.out) hb);have hcz9_0:w8.cell? ⟨gb1,0,none⟩=some (.slice A0_0 l0_0.length c0_0):=(Zm BK1.out 0).trans rfl;have hcz9_1:w8.cell? ⟨gb1,1,none⟩=some (.slice A0_1 l0_1.length c0_1):=(Zm BK1.out 1).trans rfl;have hcz9_2:w8.cell? ⟨gb1,2,none⟩=some (.int .i64 a0_2):=(Zm BK1.out 2).trans rfl))
    go_meet
    case rel=>exact⟨_,(true),(by first|rfl|(simp;done)|(simp[*];done)),H',⟨by first|omega|exact Nat.le_refl _⟩,⟨by(with_reducible repeat(first|refine ZD ?_ _|refine Zz ?_|refine Zy ?_ _));exact BK1.out⟩,⟨by repeat(first|(with_reducible first|exact HB.out|apply Zo|apply Zn|apply Zp|refine Zt ?_ GE1.out)|exact HB.out)⟩⟩
   ·rw[if_neg c6] at H
    have c6b0:decide (14<(l0_1.length:Int))=false:=Zf c6
    clear c6
    replace H:=Zh H
    obtain⟨t3,A100,H⟩:=H;have A10:=Za A100;clear A100
    have H':=Za H
    clear H
    have hcz11_0:w3.cell? ⟨gb1,0,none⟩=some (.slice A0_0 l0_0.length c0_0):=(Zm BK1.out 0).trans rfl
    have hcz11_1:w3.cell? ⟨gb1,1,none⟩=some (.slice A0_1 l0_1.length c0_1):=(Zm BK1.out 1).trans rfl
    have hcz11_2:w3.cell? ⟨gb1,2,none⟩=some (.int .i64 a0_2):=(Zm BK1.out 2).trans rfl
    go_wp2_with (first|((with_reducible refine ZM (f:=126) rfl ?_);refine Z7 (some 5) rfl rfl Tryz.func126 (by kernel_rfl) rfl #[.agg #[.slice A0_0 l0_0.length c0_0,.slice A0_1 l0_1.length c0_1,.int .i64 a0_2]] rfl (by(try simp only[List.map_toArray,List.map_cons,List.map_nil]);first|done|rfl|(simp only[Zk,Zj];rfl)) ?_;(with_reducible refine(ZbC.calls _ _ l0_0 _ _ l0_1 a0_2 true _ ?side1 ?side2 ?side3 ?side4 A4.out).mono ?_);(case side1=>exact(Zb HR0_0.out HB.out));(case side2=>exact HC0_0.out);(case side3=>exact(Zb HR0_1.out HB.out));(case side4=>exact HC0_1.out);rintro e w12 ⟨rfl,hb⟩;refine⟨_,rfl,?_⟩;replace BK1:=Za (Zs (g:=gb1) (o:=.cells #[.slice A0_0 l0_0.length c0_0,.slice A0_1 l0_1.length c0_1,.int .i64 a0_2] 25 (0,0)) (by exact BK1.out) hb);replace HB:=Za (Zr (by exact HB.out) hb);have hcz13_0:w12.cell? ⟨gb1,0,none⟩=some (.slice A0_0 l0_0.length c0_0):=(Zm BK1.out 0).trans rfl;have hcz13_1:w12.cell? ⟨gb1,1,none⟩=some (.slice A0_1 l0_1.length c0_1):=(Zm BK1.out 1).trans rfl;have hcz13_2:w12.cell? ⟨gb1,2,none⟩=some (.int .i64 a0_2):=(Zm BK1.out 2).trans rfl)|(go_at_call 127;(with_reducible refine(ZX.calls a0_2 1 10 t3 _ A10.out).mono ?_);rintro e w' ⟨rfl,⟨nd,rfl⟩⟩))
    go_meet
    case rel=>exact⟨_,(!t3),(by first|rfl|(simp;done)|(simp[*];done)),H',⟨by first|omega|exact Nat.le_refl _⟩,⟨by(with_reducible repeat(first|refine ZD ?_ _|refine Zz ?_|refine Zy ?_ _));exact BK1.out⟩,⟨by repeat(first|(with_reducible first|exact HB.out|apply Zo|apply Zn|apply Zp|refine Zt ?_ GE1.out)|exact HB.out)⟩⟩
  ·replace c5:=Bool.eq_false_iff.mpr c5
   subst c5
   have H1:(Zau.j0 k true l0_0 l0_1 a0_2)=some r:=by rw[if_neg (show ¬(false=true) by decide)] at H;exact H
   clear H
   have H:=H1
   clear H1
   have H':=Za H
   clear H
   have hcz14_0:w3.cell? ⟨gb1,0,none⟩=some (.slice A0_0 l0_0.length c0_0):=(Zm BK1.out 0).trans rfl
   have hcz14_1:w3.cell? ⟨gb1,1,none⟩=some (.slice A0_1 l0_1.length c0_1):=(Zm BK1.out 1).trans rfl
   have hcz14_2:w3.cell? ⟨gb1,2,none⟩=some (.int .i64 a0_2):=(Zm BK1.out 2).trans rfl
   go_wp2_with (first|((with_reducible refine ZM (f:=126) rfl ?_);refine Z7 (some 5) rfl rfl Tryz.func126 (by kernel_rfl) rfl #[.agg #[.slice A0_0 l0_0.length c0_0,.slice A0_1 l0_1.length c0_1,.int .i64 a0_2]] rfl (by(try simp only[List.map_toArray,List.map_cons,List.map_nil]);first|done|rfl|(simp only[Zk,Zj];rfl)) ?_;(with_reducible refine(ZbC.calls _ _ l0_0 _ _ l0_1 a0_2 false _ ?side1 ?side2 ?side3 ?side4 A4.out).mono ?_);(case side1=>exact(Zb HR0_0.out HB.out));(case side2=>exact HC0_0.out);(case side3=>exact(Zb HR0_1.out HB.out));(case side4=>exact HC0_1.out);rintro e w15 ⟨rfl,hb⟩;refine⟨_,rfl,?_⟩;replace BK1:=Za (Zs (g:=gb1) (o:=.cells #[.slice A0_0 l0_0.length c0_0,.slice A0_1 l0_1.length c0_1,.int .i64 a0_2] 25 (0,0)) (by exact BK1.out) hb);replace HB:=Za (Zr (by exact HB.out) hb);(try clear hi)))
   go_meet
   case rel=>exact⟨_,(true),(by first|rfl|(simp;done)|(simp[*];done)),H',⟨by first|omega|exact Nat.le_refl _⟩,⟨by(with_reducible repeat(first|refine ZD ?_ _|refine Zz ?_|refine Zy ?_ _));exact BK1.out⟩,⟨by repeat(first|(with_reducible first|exact HB.out|apply Zo|apply Zn|apply Zp|refine Zt ?_ GE1.out)|exact HB.out)⟩⟩
 case rest=>
  clear HC2
  try clear c1
  try clear p2
  try clear c5
  try clear c6
  try clear c6b0
  try clear c6b1
  try clear c12
  try clear hcz11_0
  try clear hcz11_1
  try clear hcz11_2
  try clear hcz13_0
  try clear hcz13_1
  try clear hcz13_2
  try clear hcz14_0
  try clear hcz14_1
  try clear hcz14_2
  try clear hcz7_0
  try clear hcz7_1
  try clear hcz7_2
  try clear hcz9_0
  try clear hcz9_1
  try clear hcz9_2
  try clear hfz11_0
  try clear hfz11_1
  try clear hfz11_2
  try clear hfz13_0
  try clear hfz13_1
  try clear hfz13_2
  try clear hfz14_0
  try clear hfz14_1
  try clear hfz14_2
  try clear hfz7_0
  try clear hfz7_1
  try clear hfz7_2
  try clear hfz9_0
  try clear hfz9_1
  try clear hfz9_2
  obtain⟨kq,x18_1,rfl,HA,HJ1,BK1,HB⟩:=hcut
  cases kq with
  | zero=>exact absurd HA.out (by simp[Zau.j0])
  | succ kj1=>
   have H:=HA.out
   clear HA
   simp only[Zau.j0] at H
   by_cases c16:x18_1=true
   ·subst c16
    rw[if_pos rfl] at H
    obtain rfl:=Zg H
    go_wp2
    go_ret
    exact⟨by first|rfl|(simp[ZC,ZB] <;> rfl)|(simp[*,ZC,ZB] <;> rfl),by repeat(first|(with_reducible first|exact HB.out|apply Zo|apply Zn|apply Zp|refine Zt ?_ GE1.out)|exact HB.out)⟩
   ·replace c16:=Bool.eq_false_iff.mpr c16
    subst c16
    have H1:(Zau.l0 kj1 (l0_1.length:Int) 0 l0_0 l0_1 a0_2)=some r:=by rw[if_neg (show ¬(false=true) by decide)] at H;exact H
    clear H
    have H:=H1
    clear H1
    have H':=Za H
    clear H
    have hcz17_0:wc.cell? ⟨gb1,0,none⟩=some (.slice A0_0 l0_0.length c0_0):=(Zm BK1.out 0).trans rfl
    have hcz17_1:wc.cell? ⟨gb1,1,none⟩=some (.slice A0_1 l0_1.length c0_1):=(Zm BK1.out 1).trans rfl
    have hcz17_2:wc.cell? ⟨gb1,2,none⟩=some (.int .i64 a0_2):=(Zm BK1.out 2).trans rfl
    go_wp2
    go_loopg [22] kj1 (fun kq v22 w'=>∃(x22_2:Int),v22=.int .i64 x22_2∧Aside0 (Zau.l0 kq (l0_1.length:Int) x22_2 l0_0 l0_1 a0_2=some r)∧Aside0 (kq≤kj1)∧Aside0 (w'.heap[gb1]? = some (.cells #[(.slice A0_0 l0_0.length c0_0),(.slice A0_1 l0_1.length c0_1),.int .i64 a0_2] 25 (0,0)))∧Aside0 (Below w.heap.size w w'))
    case atStart=>exact⟨(0),(by first|rfl|(simp;done)|(simp[*];done)),H',⟨Nat.le_refl _⟩,⟨by(with_reducible repeat(first|refine ZD ?_ _|refine Zz ?_|refine Zy ?_ _));exact BK1.out⟩,⟨by repeat(first|(with_reducible first|exact HB.out|apply Zo|apply Zn|apply Zp|refine Zt ?_ GE1.out)|exact HB.out)⟩⟩
    case round=>
     clear H'
     try clear c1
     try clear p2
     try clear c5
     try clear c6
     try clear c6b0
     try clear c6b1
     try clear c12
     try clear c16
     try clear hcz11_0
     try clear hcz11_1
     try clear hcz11_2
     try clear hcz13_0
     try clear hcz13_1
     try clear hcz13_2
     try clear hcz14_0
     try clear hcz14_1
     try clear hcz14_2
     try clear hcz17_0
     try clear hcz17_1
     try clear hcz17_2
     try clear hcz7_0
     try clear hcz7_1
     try clear hcz7_2
     try clear hcz9_0
     try clear hcz9_1
     try clear hcz9_2
     try clear hfz11_0
     try clear hfz11_1
     try clear hfz11_2
     try clear hfz13_0
     try clear hfz13_1
     try clear hfz13_2
     try clear hfz14_0
     try clear hfz14_1
     try clear hfz14_2
     try clear hfz17_0
     try clear hfz17_1
     try clear hfz17_2
     try clear hfz7_0
     try clear hfz7_1
     try clear hfz7_2
     try clear hfz9_0
     try clear hfz9_1
     try clear hfz9_2
     try clear p2
     obtain⟨x22_2,rfl,HA,HK2,BK1,HB⟩:=hrel
     cases gk with
     | zero=>exact absurd HA.out (by simp[Zau.l0])
     | succ k2=>
      have H:=HA.out
      clear HA
      simp only[Zau.l0] at H
      by_cases c18:x22_2<(l0_1.length:Int)
      ·rw[if_pos c18] at H
       have c18b0:decide (x22_2<(l0_1.length:Int))=true:=Ze c18
       clear c18
       replace H:=Zh H
       obtain⟨t4,A190,H⟩:=H;have A19:=Za A190;clear A190
       by_cases c20:t4=true
       ·subst c20
        rw[if_pos rfl] at H
        have H':=Za H
        clear H
        have hcz21_0:wr.cell? ⟨gb1,0,none⟩=some (.slice A0_0 l0_0.length c0_0):=(Zm BK1.out 0).trans rfl
        have hcz21_1:wr.cell? ⟨gb1,1,none⟩=some (.slice A0_1 l0_1.length c0_1):=(Zm BK1.out 1).trans rfl
        have hcz21_2:wr.cell? ⟨gb1,2,none⟩=some (.int .i64 a0_2):=(Zm BK1.out 2).trans rfl
        go_wp2_with (first|((with_reducible refine ZM (f:=128) rfl ?_);refine Z7 (some 27) rfl rfl Tryz.func128 (by kernel_rfl) rfl #[.agg #[.slice A0_0 l0_0.length c0_0,.slice A0_1 l0_1.length c0_1,.int .i64 a0_2],.int .i64 x22_2] rfl (by(try simp only[List.map_toArray,List.map_cons,List.map_nil]);first|done|rfl|(simp only[Zk,Zj];rfl)) ?_;(with_reducible refine(ZcQ.calls _ _ l0_0 _ _ l0_1 a0_2 x22_2 true _ ?side1 ?side2 ?side3 ?side4 A19.out).mono ?_);(case side1=>exact(Zb HR0_0.out HB.out));(case side2=>exact HC0_0.out);(case side3=>exact(Zb HR0_1.out HB.out));(case side4=>exact HC0_1.out);rintro e w22 ⟨rfl,hb⟩;refine⟨_,rfl,?_⟩;replace BK1:=Za (Zs (g:=gb1) (o:=.cells #[.slice A0_0 l0_0.length c0_0,.slice A0_1 l0_1.length c0_1,.int .i64 a0_2] 25 (0,0)) (by exact BK1.out) hb);replace HB:=Za (Zr (by exact HB.out) hb);(try clear hi)))
        go_roundg k2
        case measure=>have:=HJ1.out;have:=HK2.out;omega
        case rel=>exact⟨(wrap64 (x22_2+1)),(by first|rfl|(simp;done)|(simp[*];done)),H',⟨by have:=HJ1.out;have:=HK2.out;omega⟩,⟨by(with_reducible repeat(first|refine ZD ?_ _|refine Zz ?_|refine Zy ?_ _));exact BK1.out⟩,⟨by repeat(first|(with_reducible first|exact HB.out|apply Zo|apply Zn|apply Zp|refine Zt ?_ GE1.out)|exact HB.out)⟩⟩
       ·replace c20:=Bool.eq_false_iff.mpr c20
        subst c20
        have H1:(some false)=some r:=by rw[if_neg (show ¬(false=true) by decide)] at H;exact H
        clear H
        have H:=H1
        clear H1
        obtain rfl:=Zg H
        have hcz23_0:wr.cell? ⟨gb1,0,none⟩=some (.slice A0_0 l0_0.length c0_0):=(Zm BK1.out 0).trans rfl
        have hcz23_1:wr.cell? ⟨gb1,1,none⟩=some (.slice A0_1 l0_1.length c0_1):=(Zm BK1.out 1).trans rfl
        have hcz23_2:wr.cell? ⟨gb1,2,none⟩=some (.int .i64 a0_2):=(Zm BK1.out 2).trans rfl
        go_wp2_with (first|((with_reducible refine ZM (f:=128) rfl ?_);refine Z7 (some 27) rfl rfl Tryz.func128 (by kernel_rfl) rfl #[.agg #[.slice A0_0 l0_0.length c0_0,.slice A0_1 l0_1.length c0_1,.int .i64 a0_2],.int .i64 x22_2] rfl (by(try simp only[List.map_toArray,List.map_cons,List.map_nil]);first|done|rfl|(simp only[Zk,Zj];rfl)) ?_;(with_reducible refine(ZcQ.calls _ _ l0_0 _ _ l0_1 a0_2 x22_2 false _ ?side1 ?side2 ?side3 ?side4 A19.out).mono ?_);(case side1=>exact(Zb HR0_0.out HB.out));(case side2=>exact HC0_0.out);(case side3=>exact(Zb HR0_1.out HB.out));(case side4=>exact HC0_1.out);rintro e w24 ⟨rfl,hb⟩;refine⟨_,rfl,?_⟩;replace BK1:=Za (Zs (g:=gb1) (o:=.cells #[.slice A0_0 l0_0.length c0_0,.slice A0_1 l0_1.length c0_1,.int .i64 a0_2] 25 (0,0)) (by exact BK1.out) hb);replace HB:=Za (Zr (by exact HB.out) hb);(try clear hi)))
        go_ret
        exact⟨by first|rfl|(simp[ZC,ZB] <;> rfl)|(simp[*,ZC,ZB] <;> rfl),by repeat(first|(with_reducible first|exact HB.out|apply Zo|apply Zn|apply Zp|refine Zt ?_ GE1.out)|exact HB.out)⟩
      ·rw[if_neg c18] at H
       have c18b0:decide (x22_2<(l0_1.length:Int))=false:=Zf c18
       clear c18
       obtain rfl:=Zg H
       go_wp2
       go_ret
       exact⟨by first|rfl|(simp[ZC,ZB] <;> rfl)|(simp[*,ZC,ZB] <;> rfl),by repeat(first|(with_reducible first|exact HB.out|apply Zo|apply Zn|apply Zp|refine Zt ?_ GE1.out)|exact HB.out)⟩
open Ni
theorem watch_same (ns:List ZK) {p:Int} (hp:0<p):Zas ns p=Zcr ns p:=by
 unfold Zas Zcr
 rw[Ze hp]
 simp only[Bool.true_and]
theorem Zek {ns:List ZK} {ts:List PTie} (h:Zck ns ts):fitN ns=true:=by
 unfold fitN
 rw[List.all_eq_true]
 intro n hn
 have:=h.2.2 n hn
 simp;omega
theorem ZdD {ns:List ZK} {ts:List PTie} {z:Int} (hf:fitN ns=true):Za7.f ns ts z=some (Zat ns ts z):=by
 unfold Za7.f
 rw[if_pos hf]
theorem ZbL {ns:List ZK} {ts:List PTie} {z:Int} (h:Zat ns ts z=true):Z2 ns=true:=by
 unfold Zat at h
 simp only[Bool.and_eq_true] at h
 exact h.1.1.1.1
theorem ZbZ {ns:List ZK} {ts:List PTie} {z:Int} (h:Zat ns ts z=true):ZaR ns ts=true:=by
 unfold Zat at h
 simp only[Bool.and_eq_true] at h
 exact h.1.1.1.2
def Zam.l0:Nat→List Int→List (S82)→Int→Int→Option (List Int)
 | 0,_,_,_,_=>none
 | k+1,x3,x8,x9,x10=>if x10<x9 then(if 0≤x10 then(if x10<(x8.length:Int) then(if (ZE x8 x10).f4=true then(if x3.length<17592186044416 then(Zam.l0 k (x3 ++ [x10]) x8 x9 (wrap64 (x10+1))) else(none)) else(Zam.l0 k x3 x8 x9 (wrap64 (x10+1)))) else(none)) else(none)) else(some x3)
def Zam.f (k:Nat) (l0_0:List (S39)) (l0_1:List (S82)) (a0_2:Int):Option (List Int):=Zam.l0 k (([]:List Int)) l0_1 (l0_1.length:Int) 0
theorem Zam.calls (k:Nat) (A0_0:Option Addr) (c0_0:Nat) (l0_0:List (S39)) (A0_1:Option Addr) (c0_1:Nat) (l0_1:List (S82)) (a0_2:Int) (r:List Int) (w:World) (hr0_0:Kd.C k39 w A0_0 l0_0.length l0_0) (hc0_0:l0_0.length≤c0_0) (hr0_1:Kd.C k82 w A0_1 l0_1.length l0_1) (hc0_1:l0_1.length≤c0_1) (h:Zam.f k l0_0 l0_1 a0_2=some r) :
  Calls Tryz.prog 156 #[.agg #[.slice A0_0 l0_0.length c0_0,.slice A0_1 l0_1.length c0_1,.int .i64 a0_2]] w fun e w'=>∃v0_:Value,e=.returned (v0_)∧Kd.R (Kd.int .i64) 3 w' w.heap.size (fun _=>True) v0_ r∧Below w.heap.size w w':=by
 have hu25:=Tryz.underlying25
 have hu82:=Tryz.underlying82
 have HR0_0:=Za hr0_0;have HC0_0:=Za hc0_0;clear hr0_0 hc0_0;have HR0_1:=Za hr0_1;have HC0_1:=Za hc0_1;clear hr0_1 hc0_1
 have HB:=Za (Below.refl w.heap.size w)
 have H:(Zam.l0 k (([]:List Int)) l0_1 (l0_1.length:Int) 0)=some r:=h
 clear h
 obtain⟨y2,hy2⟩:∃y_:List Int,y_=(([]:List Int)):=⟨_,rfl⟩
 replace H:(Zam.l0 k y2 l0_1 (l0_1.length:Int) 0)=some r:=by first|(rw[hy2];with_reducible exact H)|(have H2_:=(Zi _ _).symm.trans H;rw[hy2];with_reducible exact H2_)|(have H2_:=(Zi _ _).symm.trans H;with_reducible exact H2_)|with_reducible exact H|(rw[hy2];exact H)|exact H
 have Ny2:=Za hy2;clear hy2
 have H':=Za H
 clear H
 go_enter Tryz.func156,Tryz.ntmps156
 go_wp2_with (first|((with_reducible refine ZF (N:=1) rfl ?_);refine ZG ?hg (N:=1) ?hd (cs:=#[.slice A0_0 l0_0.length c0_0,.slice A0_1 l0_1.length c0_1,.int .i64 a0_2]) (t:=25) ?hr ?_;(case hd=>rfl);(case hg=>rfl);(case hr=>first|(go_simp;done)|(go_simp;rfl));intro gb1 hg w2 hbox hb;have BK1:=Za (hbox);have GW1:=Za ((by rw[hg];exact(Zv (by repeat(first|(with_reducible first|exact HB.out|apply Zo|apply Zn|apply Zp)|exact HB.out))):w.heap.size≤gb1));have GE1:=Za ((by rw[hg];exact(Zv (by repeat(first|(with_reducible first|exact HB.out|apply Zo|apply Zn|apply Zp)|exact HB.out))):w.heap.size≤gb1));replace HB:=Za (Zr (by repeat(first|(with_reducible first|exact HB.out|apply Zo|apply Zn|apply Zp)|exact HB.out)) hb);clear hb hbox hg)|((with_reducible refine ZF (N:=6) rfl ?_);refine Kd.R_lit (Kd.int .i64) _ 3 ?hg (N:=6) ?hd (xs:=([]:List Int)) (inner:=[]) (ok:=fun _=>True) (okp:=fun _=>True) ?hr ?hp (fun _ hk=>hk) trivial (Below.refl _ _) (Nat.le_refl _) (by simp) ?_;(case hd=>rfl);(case hg=>rfl);(case hr=>first|(go_simp;done)|(go_simp;rfl));(case hp=>exact(Reps.none _ _));intro v156003 w3 ho4 hb hg_ hnew_;clear hg_ hnew_;(first|rw[← Ny2.out] at ho4|(simp only[Int.reduceToNat] at ho4;rw[← Ny2.out] at ho4));have HO4:=Za (Kd.R_lower ho4 (Zv (by repeat(first|(with_reducible first|exact HB.out|apply Zo|apply Zn|apply Zp|refine Zt ?_ GE1.out)|exact HB.out))));replace BK1:=Za (Zs (g:=gb1) (o:=.cells #[.slice A0_0 l0_0.length c0_0,.slice A0_1 l0_1.length c0_1,.int .i64 a0_2] 25 (0,0)) (by(with_reducible repeat(first|refine ZD ?_ _|refine Zz ?_|refine Zy ?_ _));exact BK1.out) hb);replace HB:=Za (Zr (by repeat(first|(with_reducible first|exact HB.out|apply Zo|apply Zn|apply Zp|refine Zt ?_ GE1.out)|exact HB.out)) hb);clear hb ho4;have hcz5_0:w3.cell? ⟨gb1,0,none⟩=some (.slice A0_0 l0_0.length c0_0):=(Zm BK1.out 0).trans rfl;have hcz5_1:w3.cell? ⟨gb1,1,none⟩=some (.slice A0_1 l0_1.length c0_1):=(Zm BK1.out 1).trans rfl;have hcz5_2:w3.cell? ⟨gb1,2,none⟩=some (.int .i64 a0_2):=(Zm BK1.out 2).trans rfl;have hfz5_0:=Zq BK1.out 0;have hfz5_1:=Zq BK1.out 1;have hfz5_2:=Zq BK1.out 2))
 go_loopg [3,10] k (fun kq v3 v10 w'=>∃(x3_1:List Int) (x10_1:Int),v10=.int .i64 x10_1∧Aside0 (Zam.l0 kq x3_1 l0_1 (l0_1.length:Int) x10_1=some r)∧Aside0 (kq≤k)∧Aside0 (Kd.R (Kd.int .i64) 3 w' w.heap.size (fun _=>True) v3 x3_1)∧Aside0 (w'.heap[gb1]? = some (.cells #[(.slice A0_0 l0_0.length c0_0),(.slice A0_1 l0_1.length c0_1),.int .i64 a0_2] 25 (0,0)))∧Aside0 (Below w.heap.size w w'))
 case atStart=>exact⟨(y2),(0),(by first|rfl|(simp;done)|(simp[*];done)),H',⟨Nat.le_refl _⟩,⟨by(with_reducible repeat(first|apply Kd.R_alloc|apply Kd.R_drewN|apply Kd.R_drew));exact HO4.out⟩,⟨by(with_reducible repeat(first|refine ZD ?_ _|refine Zz ?_|refine Zy ?_ _));exact BK1.out⟩,⟨by repeat(first|(with_reducible first|exact HB.out|apply Zo|apply Zn|apply Zp|refine Zt ?_ GE1.out)|exact HB.out)⟩⟩
 case round=>
  clear H'
  try clear c1
  try clear p2
  try clear hcz5_0
  try clear hcz5_1
  try clear hcz5_2
  try clear hfz5_0
  try clear hfz5_1
  try clear hfz5_2
  obtain⟨x3_1,x10_1,rfl,HA,HK1,HO_3,BK1,HB⟩:=hrel
  cases gk with
  | zero=>exact absurd HA.out (by simp[Zam.l0])
  | succ k1=>
   have H:=HA.out
   clear HA
   simp only[Zam.l0] at H
   by_cases c6:x10_1<(l0_1.length:Int)
   ·rw[if_pos c6] at H
    have c6b0:decide (x10_1<(l0_1.length:Int))=true:=Ze c6
    clear c6
    by_cases c7:0≤x10_1
    ·rw[if_pos c7] at H
     have c7b0:decide (0≤x10_1)=true:=Ze c7
     clear c7
     by_cases c8:x10_1<(l0_1.length:Int)
     ·rw[if_pos c8] at H
      have c8b0:decide (x10_1<(l0_1.length:Int))=true:=Ze c8
      clear c8
      obtain⟨bq9,hbq9⟩:∃b_:Bool,b_=((ZE l0_1 x10_1).f4):=⟨_,rfl⟩
      replace H:(if bq9=true then(if x3_1.length<17592186044416 then(Zam.l0 k1 (x3_1 ++ [x10_1]) l0_1 (l0_1.length:Int) (wrap64 (x10_1+1))) else(none)) else(Zam.l0 k1 x3_1 l0_1 (l0_1.length:Int) (wrap64 (x10_1+1))))=some r:=by rw[← hbq9] at H;exact H
      have Nbq9:=Za hbq9;clear hbq9
      by_cases c10:bq9=true
      ·subst c10
       rw[if_pos rfl] at H
       by_cases c11:x3_1.length<17592186044416
       ·rw[if_pos c11] at H
        have LMc11:=Za c11;clear c11
        obtain⟨y7,hy7⟩:∃y_:List Int,y_=(x3_1 ++ [x10_1]):=⟨_,rfl⟩
        replace H:(Zam.l0 k1 y7 l0_1 (l0_1.length:Int) (wrap64 (x10_1+1)))=some r:=by first|(rw[hy7];with_reducible exact H)|(have H2_:=(Zi _ _).symm.trans H;rw[hy7];with_reducible exact H2_)|(have H2_:=(Zi _ _).symm.trans H;with_reducible exact H2_)|with_reducible exact H|(rw[hy7];exact H)|exact H
        have Ny7:=Za hy7;clear hy7
        have H':=Za H
        clear H
        have p5:0≤(x10_1:Int):=Zd (by first|(with_reducible assumption)|assumption)
        have q5:x10_1<(l0_1.length:Int):=Zd (by first|(with_reducible assumption)|assumption)
        obtain⟨ad5,e5,hx5_0,hx5_1,hx5_2,hx5_3,hx5_4⟩:=ZbG HR0_1.out x10_1 p5 q5
        (try rw[← Nbq9.out] at hx5_4)
        cases e5
        replace hx5_0:=(HB.out.cell (Zc w _ hx5_0)).trans hx5_0
        replace hx5_1:=(HB.out.cell (Zc w _ hx5_1)).trans hx5_1
        replace hx5_2:=(HB.out.cell (Zc w _ hx5_2)).trans hx5_2
        replace hx5_3:=(HB.out.cell (Zc w _ hx5_3)).trans hx5_3
        replace hx5_4:=(HB.out.cell (Zc w _ hx5_4)).trans hx5_4
        replace p5:=eq_true p5
        replace q5:=eq_true q5
        go_wp2_with (first|((with_reducible refine ZF (N:=5) rfl ?_);refine ZG ?hg (N:=5) ?hd (cs:=#[.int .i64 0,.int .i64 0,.int .i64 0,.int .i64 0,.bool false]) (t:=82) ?hr ?_;(case hd=>rfl);(case hg=>rfl);(case hr=>first|(go_simp;done)|(go_simp;rfl));intro gb6 hg w12 hbox hb;have BK6:=Za (hbox);have GW6:=Za ((by rw[hg];exact(Zv (by repeat(first|(with_reducible first|exact HB.out|apply Zo|apply Zn|apply Zp|refine Zt ?_ GE1.out)|exact HB.out))):w.heap.size≤gb6));have GE6:=Za ((by rw[hg];exact(Zv (by repeat(first|(with_reducible first|exact HB.out|apply Zo|apply Zn|apply Zp|refine Zt ?_ GE1.out)|exact HB.out))):w.heap.size≤gb6));have NB1_6:=Za ((by rw[hg];exact Nat.ne_of_lt (ZN (g:=gb1) (o:=.cells #[.slice A0_0 l0_0.length c0_0,.slice (some ad5) l0_1.length c0_1,.int .i64 a0_2] 25 (0,0)) (by(with_reducible repeat(first|refine ZD ?_ _|refine Zz ?_|refine Zy ?_ _));exact BK1.out)):gb1≠gb6));have NB6_1:=Za ((by rw[hg];exact Nat.ne_of_gt (ZN (g:=gb1) (o:=.cells #[.slice A0_0 l0_0.length c0_0,.slice (some ad5) l0_1.length c0_1,.int .i64 a0_2] 25 (0,0)) (by(with_reducible repeat(first|refine ZD ?_ _|refine Zz ?_|refine Zy ?_ _));exact BK1.out)):gb6≠gb1));replace HO_3:=Za (Kd.R_below (by(with_reducible repeat(first|apply Kd.R_alloc|apply Kd.R_drewN|apply Kd.R_drew));exact HO_3.out) hb);replace BK1:=Za (Zs (g:=gb1) (o:=.cells #[.slice A0_0 l0_0.length c0_0,.slice (some ad5) l0_1.length c0_1,.int .i64 a0_2] 25 (0,0)) (by(with_reducible repeat(first|refine ZD ?_ _|refine Zz ?_|refine Zy ?_ _));exact BK1.out) hb);replace HB:=Za (Zr (by repeat(first|(with_reducible first|exact HB.out|apply Zo|apply Zn|apply Zp|refine Zt ?_ GE1.out)|exact HB.out)) hb);clear hb hbox hg;have hnb13:=NB6_1.out;have hnc13:=NB1_6.out;have hcz14_0:w12.cell? ⟨gb6,0,none⟩=some (.int .i64 0):=(Zm BK6.out 0).trans rfl;have hcz14_1:w12.cell? ⟨gb6,1,none⟩=some (.int .i64 0):=(Zm BK6.out 1).trans rfl;have hcz14_2:w12.cell? ⟨gb6,2,none⟩=some (.int .i64 0):=(Zm BK6.out 2).trans rfl;have hcz14_3:w12.cell? ⟨gb6,3,none⟩=some (.int .i64 0):=(Zm BK6.out 3).trans rfl;have hcz14_4:w12.cell? ⟨gb6,4,none⟩=some (.bool false):=(Zm BK6.out 4).trans rfl;have hfz14_0:=Zq BK6.out 0;have hfz14_1:=Zq BK6.out 1;have hfz14_2:=Zq BK6.out 2;have hfz14_3:=Zq BK6.out 3;have hfz14_4:=Zq BK6.out 4)|((with_reducible refine ZU (b:=.append) (xs:=#[.tmp 17,.tmp 19]) rfl ?_);at_builtin;refine Kd.R_append (Kd.int .i64) (w0:=w) w.heap.size rfl (.tmp 17) (.tmp 19) 37 3 (.int .i64 0) 8 rfl Tryz.underlying37 Zbl rfl (by decide) (by omega) u3 x3_1 x10_1 [.int .i64 x10_1] (fun _=>True) (fun _=>False) rfl (by first|(go_simp;done)|(go_simp;rfl)) ?aP (fun _ hk=>hk.elim) ?aF ?aO ?aB ?aS ?aL ?_;(case aP=>exact rfl);(case aB=>exact(by repeat(first|(with_reducible first|exact HB.out|apply Zo|apply Zn|apply Zp|refine Zt ?_ GE1.out|refine Zt ?_ GE6.out)|exact HB.out)));(case aF=>exact(fun _ _=>trivial));(case aO=>exact(by(with_reducible repeat(first|apply Kd.R_alloc|apply Kd.R_drewN|apply Kd.R_drew));exact Kd.R_mono (Kd.R_far (p:=⟨gb6,4,none⟩) (Kd.R_far (p:=⟨gb6,3,none⟩) (Kd.R_far (p:=⟨gb6,2,none⟩) (Kd.R_far (p:=⟨gb6,1,none⟩) (Kd.R_far (p:=⟨gb6,0,none⟩) (Kd.R_types HO_3.out BK6.out (by decide)) (fun _ hk=>hk.2) (.int .i64 ((ZE l0_1 x10_1).f0))) (fun _ hk=>hk.2) (.int .i64 ((ZE l0_1 x10_1).f1))) (fun _ hk=>hk.2) (.int .i64 ((ZE l0_1 x10_1).f2))) (fun _ hk=>hk.2) (.int .i64 ((ZE l0_1 x10_1).f3))) (fun _ hk=>hk.2) (.bool true)) (fun _ hk=>trivial)));(case aS=>exact(Zv (by repeat(first|(with_reducible first|exact HB.out|apply Zo|apply Zn|apply Zp|refine Zt ?_ GE1.out|refine Zt ?_ GE6.out)|exact HB.out))));(case aL=>have:=LMc11.out;omega);intro v8 w15 ho hb hg hat;rw[← Ny7.out] at ho;have HO9:=Za (ho);replace BK1:=Za (Zad (g:=gb1) (o:=.cells #[.slice A0_0 l0_0.length c0_0,.slice (some ad5) l0_1.length c0_1,.int .i64 a0_2] 25 (0,0)) (by(with_reducible repeat(first|refine ZD ?_ _|refine Zz ?_|refine Zy ?_ _));refine ZL ?_ NB1_6.out _;(with_reducible repeat(first|refine ZD ?_ _|refine Zz ?_|refine Zy ?_ _));refine ZL ?_ NB1_6.out _;(with_reducible repeat(first|refine ZD ?_ _|refine Zz ?_|refine Zy ?_ _));refine ZL ?_ NB1_6.out _;(with_reducible repeat(first|refine ZD ?_ _|refine Zz ?_|refine Zy ?_ _));refine ZL ?_ NB1_6.out _;(with_reducible repeat(first|refine ZD ?_ _|refine Zz ?_|refine Zy ?_ _));refine ZL ?_ NB1_6.out _;(with_reducible repeat(first|refine ZD ?_ _|refine Zz ?_|refine Zy ?_ _));exact BK1.out) hg (Kd.R_ne HO_3.out BK1.out (by decide)));replace BK6:=Za (Zad (g:=gb6) (o:=.cells #[.int .i64 ((ZE l0_1 x10_1).f0),.int .i64 ((ZE l0_1 x10_1).f1),.int .i64 ((ZE l0_1 x10_1).f2),.int .i64 ((ZE l0_1 x10_1).f3),.bool true] 82 (0,0)) (by(with_reducible repeat(first|refine ZD ?_ _|refine Zz ?_|refine Zy ?_ _));refine ZR (cs:=#[.int .i64 ((ZE l0_1 x10_1).f0),.int .i64 ((ZE l0_1 x10_1).f1),.int .i64 ((ZE l0_1 x10_1).f2),.int .i64 ((ZE l0_1 x10_1).f3),.bool false]) ?_ 4 _ rfl;(with_reducible repeat(first|refine ZD ?_ _|refine Zz ?_|refine Zy ?_ _));refine ZR (cs:=#[.int .i64 ((ZE l0_1 x10_1).f0),.int .i64 ((ZE l0_1 x10_1).f1),.int .i64 ((ZE l0_1 x10_1).f2),.int .i64 0,.bool false]) ?_ 3 _ rfl;(with_reducible repeat(first|refine ZD ?_ _|refine Zz ?_|refine Zy ?_ _));refine ZR (cs:=#[.int .i64 ((ZE l0_1 x10_1).f0),.int .i64 ((ZE l0_1 x10_1).f1),.int .i64 0,.int .i64 0,.bool false]) ?_ 2 _ rfl;(with_reducible repeat(first|refine ZD ?_ _|refine Zz ?_|refine Zy ?_ _));refine ZR (cs:=#[.int .i64 ((ZE l0_1 x10_1).f0),.int .i64 0,.int .i64 0,.int .i64 0,.bool false]) ?_ 1 _ rfl;(with_reducible repeat(first|refine ZD ?_ _|refine Zz ?_|refine Zy ?_ _));refine ZR (cs:=#[.int .i64 0,.int .i64 0,.int .i64 0,.int .i64 0,.bool false]) ?_ 0 _ rfl;(with_reducible repeat(first|refine ZD ?_ _|refine Zz ?_|refine Zy ?_ _));exact BK6.out) hg (Kd.R_ne HO_3.out BK6.out (by decide)));replace HB:=Za (hb);clear HO_3;clear ho hb hg hat))
        go_roundg k1
        case measure=>have:=HK1.out;omega
        case rel=>exact⟨(y7),(wrap64 (x10_1+1)),(by first|rfl|(simp;done)|(simp[*];done)),H',⟨by have:=HK1.out;omega⟩,⟨by(with_reducible repeat(first|apply Kd.R_alloc|apply Kd.R_drewN|apply Kd.R_drew));exact HO9.out⟩,⟨by(with_reducible repeat(first|refine ZD ?_ _|refine Zz ?_|refine Zy ?_ _));exact BK1.out⟩,⟨by repeat(first|(with_reducible first|exact HB.out|apply Zo|apply Zn|apply Zp|refine Zt ?_ GE1.out|refine Zt ?_ GE6.out)|exact HB.out)⟩⟩
       ·rw[if_neg c11] at H
        exact absurd H (by simp)
      ·replace c10:=Bool.eq_false_iff.mpr c10
       subst c10
       have H1:(Zam.l0 k1 x3_1 l0_1 (l0_1.length:Int) (wrap64 (x10_1+1)))=some r:=by rw[if_neg (show ¬(false=true) by decide)] at H;exact H
       clear H
       have H:=H1
       clear H1
       have H':=Za H
       clear H
       have p5:0≤(x10_1:Int):=Zd (by first|(with_reducible assumption)|assumption)
       have q5:x10_1<(l0_1.length:Int):=Zd (by first|(with_reducible assumption)|assumption)
       obtain⟨ad5,e5,hx5_0,hx5_1,hx5_2,hx5_3,hx5_4⟩:=ZbG HR0_1.out x10_1 p5 q5
       (try rw[← Nbq9.out] at hx5_4)
       cases e5
       replace hx5_0:=(HB.out.cell (Zc w _ hx5_0)).trans hx5_0
       replace hx5_1:=(HB.out.cell (Zc w _ hx5_1)).trans hx5_1
       replace hx5_2:=(HB.out.cell (Zc w _ hx5_2)).trans hx5_2
       replace hx5_3:=(HB.out.cell (Zc w _ hx5_3)).trans hx5_3
       replace hx5_4:=(HB.out.cell (Zc w _ hx5_4)).trans hx5_4
       replace p5:=eq_true p5
       replace q5:=eq_true q5
       go_wp2_with (first|((with_reducible refine ZF (N:=5) rfl ?_);refine ZG ?hg (N:=5) ?hd (cs:=#[.int .i64 0,.int .i64 0,.int .i64 0,.int .i64 0,.bool false]) (t:=82) ?hr ?_;(case hd=>rfl);(case hg=>rfl);(case hr=>first|(go_simp;done)|(go_simp;rfl));intro gb6 hg w16 hbox hb;have BK6:=Za (hbox);have GW6:=Za ((by rw[hg];exact(Zv (by repeat(first|(with_reducible first|exact HB.out|apply Zo|apply Zn|apply Zp|refine Zt ?_ GE1.out)|exact HB.out))):w.heap.size≤gb6));have GE6:=Za ((by rw[hg];exact(Zv (by repeat(first|(with_reducible first|exact HB.out|apply Zo|apply Zn|apply Zp|refine Zt ?_ GE1.out)|exact HB.out))):w.heap.size≤gb6));have NB1_6:=Za ((by rw[hg];exact Nat.ne_of_lt (ZN (g:=gb1) (o:=.cells #[.slice A0_0 l0_0.length c0_0,.slice (some ad5) l0_1.length c0_1,.int .i64 a0_2] 25 (0,0)) (by(with_reducible repeat(first|refine ZD ?_ _|refine Zz ?_|refine Zy ?_ _));exact BK1.out)):gb1≠gb6));have NB6_1:=Za ((by rw[hg];exact Nat.ne_of_gt (ZN (g:=gb1) (o:=.cells #[.slice A0_0 l0_0.length c0_0,.slice (some ad5) l0_1.length c0_1,.int .i64 a0_2] 25 (0,0)) (by(with_reducible repeat(first|refine ZD ?_ _|refine Zz ?_|refine Zy ?_ _));exact BK1.out)):gb6≠gb1));replace HO_3:=Za (Kd.R_below (by(with_reducible repeat(first|apply Kd.R_alloc|apply Kd.R_drewN|apply Kd.R_drew));exact HO_3.out) hb);replace BK1:=Za (Zs (g:=gb1) (o:=.cells #[.slice A0_0 l0_0.length c0_0,.slice (some ad5) l0_1.length c0_1,.int .i64 a0_2] 25 (0,0)) (by(with_reducible repeat(first|refine ZD ?_ _|refine Zz ?_|refine Zy ?_ _));exact BK1.out) hb);replace HB:=Za (Zr (by repeat(first|(with_reducible first|exact HB.out|apply Zo|apply Zn|apply Zp|refine Zt ?_ GE1.out)|exact HB.out)) hb);clear hb hbox hg;have hnb17:=NB6_1.out;have hnc17:=NB1_6.out;have hcz18_0:w16.cell? ⟨gb6,0,none⟩=some (.int .i64 0):=(Zm BK6.out 0).trans rfl;have hcz18_1:w16.cell? ⟨gb6,1,none⟩=some (.int .i64 0):=(Zm BK6.out 1).trans rfl;have hcz18_2:w16.cell? ⟨gb6,2,none⟩=some (.int .i64 0):=(Zm BK6.out 2).trans rfl;have hcz18_3:w16.cell? ⟨gb6,3,none⟩=some (.int .i64 0):=(Zm BK6.out 3).trans rfl;have hcz18_4:w16.cell? ⟨gb6,4,none⟩=some (.bool false):=(Zm BK6.out 4).trans rfl;have hfz18_0:=Zq BK6.out 0;have hfz18_1:=Zq BK6.out 1;have hfz18_2:=Zq BK6.out 2;have hfz18_3:=Zq BK6.out 3;have hfz18_4:=Zq BK6.out 4))
       go_roundg k1
       case measure=>have:=HK1.out;omega
       case rel=>exact⟨(x3_1),(wrap64 (x10_1+1)),(by first|rfl|(simp;done)|(simp[*];done)),H',⟨by have:=HK1.out;omega⟩,⟨by(with_reducible repeat(first|apply Kd.R_alloc|apply Kd.R_drewN|apply Kd.R_drew));exact Kd.R_mono (Kd.R_far (p:=⟨gb6,4,none⟩) (Kd.R_far (p:=⟨gb6,3,none⟩) (Kd.R_far (p:=⟨gb6,2,none⟩) (Kd.R_far (p:=⟨gb6,1,none⟩) (Kd.R_far (p:=⟨gb6,0,none⟩) (Kd.R_types HO_3.out BK6.out (by decide)) (fun _ hk=>hk.2) (.int .i64 ((ZE l0_1 x10_1).f0))) (fun _ hk=>hk.2) (.int .i64 ((ZE l0_1 x10_1).f1))) (fun _ hk=>hk.2) (.int .i64 ((ZE l0_1 x10_1).f2))) (fun _ hk=>hk.2) (.int .i64 ((ZE l0_1 x10_1).f3))) (fun _ hk=>hk.2) (.bool false)) (fun _ hk=>trivial)⟩,⟨by(with_reducible repeat(first|refine ZD ?_ _|refine Zz ?_|refine Zy ?_ _));refine ZL ?_ NB1_6.out _;(with_reducible repeat(first|refine ZD ?_ _|refine Zz ?_|refine Zy ?_ _));refine ZL ?_ NB1_6.out _;(with_reducible repeat(first|refine ZD ?_ _|refine Zz ?_|refine Zy ?_ _));refine ZL ?_ NB1_6.out _;(with_reducible repeat(first|refine ZD ?_ _|refine Zz ?_|refine Zy ?_ _));refine ZL ?_ NB1_6.out _;(with_reducible repeat(first|refine ZD ?_ _|refine Zz ?_|refine Zy ?_ _));refine ZL ?_ NB1_6.out _;(with_reducible repeat(first|refine ZD ?_ _|refine Zz ?_|refine Zy ?_ _));exact BK1.out⟩,⟨by repeat(first|(with_reducible first|exact HB.out|apply Zo|apply Zn|apply Zp|refine Zt ?_ GE1.out|refine Zt ?_ GE6.out)|exact HB.out)⟩⟩
     ·rw[if_neg c8] at H
      exact absurd H (by simp)
    ·rw[if_neg c7] at H
     exact absurd H (by simp)
   ·rw[if_neg c6] at H
    have c6b0:decide (x10_1<(l0_1.length:Int))=false:=Zf c6
    clear c6
    obtain rfl:=Zg H
    go_wp2
    go_ret
    exact⟨_,by first|rfl|(simp[ZC,ZB] <;> rfl)|(simp[*,ZC,ZB] <;> rfl),by(with_reducible repeat(first|apply Kd.R_alloc|apply Kd.R_drewN|apply Kd.R_drew));exact HO_3.out,by repeat(first|(with_reducible first|exact HB.out|apply Zo|apply Zn|apply Zp|refine Zt ?_ GE1.out)|exact HB.out)⟩
def Zc4 (ts:List PTie) (n:Nat):List Int:=((List.range n).filter fun i=>(ts.getD i z82).f4).map fun i:Nat=>(i:Int)
def Zaa (ts:List PTie):List Int:=Zc4 ts ts.length
theorem freeTo_succ (ts:List PTie) (n:Nat):Zc4 ts (n+1)=if (ts.getD n z82).f4=true then Zc4 ts n ++ [(n:Int)] else Zc4 ts n:=by
 unfold Zc4
 rw[List.range_succ,List.filter_append,List.map_append]
 by_cases h:(ts.getD n z82).f4=true
 ·rw[if_pos h,List.filter_cons_of_pos (by simpa using h)];rfl
 ·rw[if_neg h,List.filter_cons_of_neg (by simpa using h)];simp
theorem ZfC (ts:List PTie) (n:Nat):(Zc4 ts n).length≤n:=by
 unfold Zc4
 rw[List.length_map]
 exact Nat.le_trans (List.length_filter_le _ _) (by simp)
theorem Zdj (ts:List PTie):(Zaa ts).length≤ts.length:=ZfC ts ts.length
theorem ZdB {ts:List PTie} {x:Int} (h:x∈Zaa ts):0≤x∧x<ts.length:=by
 unfold Zaa Zc4 at h
 obtain⟨i,hi,rfl⟩:=List.mem_map.1 h
 have:=List.mem_range.1 (List.mem_filter.1 hi).1
 omega
theorem Zdi (ns:List ZK) (ts:List PTie) (z:Int) (hl:ts.length≤1048576) (k:Nat) (hk:2 ^ 64≤k):Z6.f k ns ts z=some (Zaa ts):=by
 have key:=Zb7 ts.length (fun k i=>Z6.l0 k (Zc4 ts i) ts ts.length (i:Int)=some (Zaa ts)) 0
  (fun k _=>by
   simp only[Z6.l0]
   rw[if_neg (by omega)];rfl)
  (fun k i _ hi ih=>by
   simp only[Z6.l0]
   have:=ZfC ts i
   rw[freeTo_succ] at ih
   rw[if_pos (by omega),if_pos (by omega),if_pos (by omega),Zeg,ZO hi (by omega)]
   by_cases h:(ts.getD i z82).f4=true
   ·rw[if_pos h,if_pos (by omega)];rw[if_pos h] at ih;exact ih
   ·rw[if_neg h];rw[if_neg h] at ih;exact ih) 0 k (Nat.zero_le _) (by omega)
 unfold Z6.f
 exact key
def Zbv.f (k:Nat) (l0_0:List (S39)) (l0_1:List (S82)) (a0_2:Int):Option Int:=(Zau.f k l0_0 l0_1 a0_2).bind fun b=>if b=true then((Zam.f k l0_0 l0_1 a0_2).bind fun L=>if okI l0_1 L=true then(wq fun p=>(ZZ.f k l0_0 l0_1 a0_2 p)).bind fun q=>some (Zcj q 3 1 (L.foldl (ccS l0_1) 1)) else none) else some 0
theorem Zbv.calls (k:Nat) (A0_0:Option Addr) (c0_0:Nat) (l0_0:List (S39)) (A0_1:Option Addr) (c0_1:Nat) (l0_1:List (S82)) (a0_2:Int) (r:Int) (w:World) (hr0_0:Kd.C k39 w A0_0 l0_0.length l0_0) (hc0_0:l0_0.length≤c0_0) (hr0_1:Kd.C k82 w A0_1 l0_1.length l0_1) (hc0_1:l0_1.length≤c0_1) (h:Zbv.f k l0_0 l0_1 a0_2=some r) :
  Calls Tryz.prog 113 #[.agg #[.slice A0_0 l0_0.length c0_0,.slice A0_1 l0_1.length c0_1,.int .i64 a0_2]] w fun e w'=>e=.returned (.int .i64 r)∧Below w.heap.size w w':=by
 unfold Zbv.f at h
 obtain⟨b,hb_,h⟩:=Option.bind_eq_some_iff.1 h
 have HS:=Za fun (W:World) (hb:Below w.heap.size w W)=>Zau.calls k A0_0 c0_0 l0_0 A0_1 c0_1 l0_1 a0_2 b W (Zb hr0_0 hb) hc0_0 (Zb hr0_1 hb) hc0_1 hb_
 clear hb_
 cases b with
 | false=>
  obtain rfl:(0:Int)=r:=Zg ((if_neg (by simp)).symm.trans h)
  have HR1:=Za hr0_1
  have HB0:=Za (Zo (Below.refl w.heap.size w) (.cells #[.slice A0_0 l0_0.length c0_0,.slice A0_1 l0_1.length c0_1,.int .i64 a0_2] 25))
  have hu:=Tryz.underlying25
  have hu3:=Tryz.underlying82
  clear hr0_0 hc0_0 hr0_1 hc0_1 h
  go_enter Tryz.func113,Tryz.ntmps113
  go_wp2_with (go_at_call 57;refine(HS.out _ (by repeat(first|(with_reducible first|exact HB0.out|apply Zo|apply Zn|apply Zp)|exact HB0.out))).mono ?_;rintro e w4 ⟨rfl,hb⟩;have HB4:=Za (Zr (by repeat(first|(with_reducible first|exact HB0.out|apply Zo|apply Zn|apply Zp)|exact HB0.out)) hb);have kk0:w4.cell? ⟨w.heap.size,0,none⟩=some (.slice A0_0 l0_0.length c0_0):=Zx hb (by go_simp);have kk1:w4.cell? ⟨w.heap.size,1,none⟩=some (.slice A0_1 l0_1.length c0_1):=Zx hb (by go_simp);have kk2:w4.cell? ⟨w.heap.size,2,none⟩=some (.int .i64 a0_2):=Zx hb (by go_simp);clear hb)
  go_ret
  exact⟨rfl,HB4.out⟩
 | true=>
 rw[if_pos rfl] at h
 obtain⟨L,hL_,h⟩:=Option.bind_eq_some_iff.1 h
 by_cases hok:okI l0_1 L=true
 case neg=>rw[if_neg hok] at h;exact absurd h (by simp)
 rw[if_pos hok] at h
 obtain⟨q,hq_,h⟩:=Option.bind_eq_some_iff.1 h
 have OK:=Za (okI_iff hok)
 have HE0:=Za (show Zcj q 3 1 ((L.drop 0).foldl (ccS l0_1) 1)=r from Zg h)
 have HF:=Za fun (W:World) (hb:Below w.heap.size w W)=>Zam.calls k A0_0 c0_0 l0_0 A0_1 c0_1 l0_1 a0_2 L W (Zb hr0_0 hb) hc0_0 (Zb hr0_1 hb) hc0_1 hL_
 have HW:=Za fun (W:World) (p:Nat) (h1:1≤p) (h3:p≤3) (hb:Below w.heap.size w W)=>ZZ.calls k A0_0 c0_0 l0_0 A0_1 c0_1 l0_1 a0_2 (p:Int) (q (p:Int)) W (Zb hr0_0 hb) hc0_0 (Zb hr0_1 hb) hc0_1 (Ze1 hq_ p h1 h3)
 clear hL_ hq_ hok;have HR1:=Za hr0_1
 have HB0:=Za (Zo (Below.refl w.heap.size w) (.cells #[.slice A0_0 l0_0.length c0_0,.slice A0_1 l0_1.length c0_1,.int .i64 a0_2] 25))
 have hu:=Tryz.underlying25
 have hu3:=Tryz.underlying82
 clear hr0_0 hc0_0 hr0_1 hc0_1 h
 go_enter Tryz.func113,Tryz.ntmps113
 go_wp2_with (first|(go_at_call 57;refine(HS.out _ (by repeat(first|(with_reducible first|exact HB0.out|apply Zo|apply Zn|apply Zp)|exact HB0.out))).mono ?_;rintro e w4 ⟨rfl,hb⟩;have HB4:=Za (Zr (by repeat(first|(with_reducible first|exact HB0.out|apply Zo|apply Zn|apply Zp)|exact HB0.out)) hb);have kk0:w4.cell? ⟨w.heap.size,0,none⟩=some (.slice A0_0 l0_0.length c0_0):=Zx hb (by go_simp);have kk1:w4.cell? ⟨w.heap.size,1,none⟩=some (.slice A0_1 l0_1.length c0_1):=Zx hb (by go_simp);have kk2:w4.cell? ⟨w.heap.size,2,none⟩=some (.int .i64 a0_2):=Zx hb (by go_simp);clear hb)|(go_at_call 156;refine(HF.out _ HB4.out).mono ?_;rintro e w6 ⟨vF,rfl,ho,hb⟩;obtain⟨A_,c_,e_⟩:=Kd.R_slice ho;subst e_;have HRL:=Za (Kd.R_reads' ho).2.2;have HB6:=Za (Zr HB4.out hb);have K6:=Za (And.intro (Zx hb kk0) (And.intro (Zx hb kk1) (Zx hb kk2)));clear ho hb kk0 kk1 kk2))
 clear HS HF HB0 HB4
 go_loopg [3,13] L.length (fun gg s3 s13 wr=>∃(i:Nat) (x:Int),s3=.int .i64 x∧s13=.int .i64 (i:Int)∧Aside0 (i≤L.length)∧Aside0 (L.length - i≤gg)∧Aside0 (Zcj q 3 1 ((L.drop i).foldl (ccS l0_1) x)=r)∧Aside0 (Below w6.heap.size w6 wr))
 case atStart=>exact⟨0,1,rfl,rfl,⟨Nat.zero_le _⟩,⟨by omega⟩,HE0,⟨Below.refl _ _⟩⟩
 case round=>
 clear HE0
 obtain⟨i,n,rfl,rfl,HK,HG,HE,HBr⟩:=hrel
 have HBw:=Za (HB6.out.trans (HBr.out.mono HB6.out.size))
 by_cases hlt:i<L.length
 ·have hltz:(i:Int)<(L.length:Int):=by omega
  obtain⟨ad,q1,hx⟩:=Kd.at_int (Zb HRL.out HBr.out) (i:Int) (by omega) hltz
  cases q1
  have hm:=OK.out.2 _ (ZaJ hlt 0)
  have HD:=HE.out
  rw[Zal hlt 0,List.foldl_cons,ccS] at HD
  rw[Int.toNat_natCast,ZaW] at hx
  generalize L.getD i 0=x at hx hm HD
  unfold facI at HD
  obtain⟨ad3,q3,hz0,hz1,hz2,hz3,hz4⟩:=ZbG (Zb HR1.out HBw.out) x hm.1 hm.2
  cases q3
  generalize (ZE l0_1 x).f2=lo at hz2 HD
  generalize (ZE l0_1 x).f3=hi at hz3 HD
  have px:=eq_true hm.1
  have py:=eq_true hm.2
  have HD2:=Za HD
  have k1:=Zx HBr.out K6.out.2.1
  clear hz0 hz1 hz4 hm HD HE
  go_wp2
  go_quiet (fail)
  go_wp2
  go_roundg (L.length - (i+1))
  case measure=>have:=HG.out;omega
  case rel=>exact⟨i+1,_,rfl,by rw[ZO hlt (by have:=OK.out.1;omega)],⟨by omega⟩,⟨by omega⟩,HD2,⟨by repeat(first|(with_reducible first|exact HBr.out|apply Zo|apply Zn|apply Zp)|exact HBr.out)⟩⟩
 ·obtain rfl:i=L.length:=by have:=HK.out;omega
  have HQ:=Za (show Zcj q 3 1 n=r by
   have h:=HE.out
   rw[List.drop_length] at h
   exact h)
  clear HE HK HG hlt OK HRL
  go_wp2
  obtain⟨wo,hwo⟩:∃wo,wo=wr:=⟨_,rfl⟩
  subst hwo
  have K7:=Za (And.intro (Zx HBr.out K6.out.1) (And.intro (Zx HBr.out K6.out.2.1) (Zx HBr.out K6.out.2.2)))
  clear HBr K6
  go_loopg [3,6] 4 (fun gg s3 s6 wr=>∃(p:Nat) (x:Int),s3=.int .i64 x∧s6=.int .i64 (p:Int)∧Aside0 (1≤p∧p≤4)∧Aside0 (4 - p≤gg)∧Aside0 (Zcj q (4 - p) p x=r)∧Aside0 (Below wo.heap.size wo wr))
  case atStart=>exact⟨1,n,rfl,rfl,⟨by omega⟩,⟨by omega⟩,HQ,⟨Below.refl _ _⟩⟩
  case round=>
  clear HQ
  obtain⟨p,n,rfl,rfl,HP,HG,HE,HBr⟩:=hrel
  have k0:=Zx HBr.out K7.out.1
  have k1:=Zx HBr.out K7.out.2.1
  have k2:=Zx HBr.out K7.out.2.2
  have HBv:=Za (HBw.out.trans (HBr.out.mono HBw.out.size))
  by_cases hp:p≤3
  ·have hpz:decide ((p:Int)≤3)=true:=Ze (by omega)
   have HWp:=Za (HW.out wr p HP.out.1 hp HBv.out)
   have HD:=HE.out
   rw[show 4 - p=(4 - (p+1))+1 by omega,Zcj,ccQ] at HD
   have HS:=Za (show wrap64 ((p:Int)+1)=((p+1:Nat):Int) from ZO (n:=4) (by omega) (by omega))
   generalize q (p:Int)=qp at HWp HD
   clear HE
   cases b2:decide (0≤qp) with
   | true=>
    rw[if_pos (show qp≥0 from Zd b2)] at HD
    rw[Int.mul_comm n 2] at HD
    have HD2:=Za HD;clear HD
    go_wp2_with (go_at_call 97;refine HWp.out.mono ?_;rintro e w8 ⟨rfl,hb⟩;have HBn:=Za (HBr.out.trans (hb.mono HBr.out.size));clear hb k0 k1 k2)
    go_roundg (4 - (p+1))
    case measure=>have:=HG.out;omega
    case rel=>exact⟨p+1,_,rfl,by first|rfl|rw[HS.out],⟨by have:=HP.out;omega⟩,⟨by omega⟩,HD2,HBn⟩
   | false=>
    rw[if_neg (show ¬qp≥0 from of_decide_eq_false b2)] at HD
    have HD2:=Za HD;clear HD
    go_wp2_with (go_at_call 97;refine HWp.out.mono ?_;rintro e w8 ⟨rfl,hb⟩;have HBn:=Za (HBr.out.trans (hb.mono HBr.out.size));clear hb k0 k1 k2)
    go_roundg (4 - (p+1))
    case measure=>have:=HG.out;omega
    case rel=>exact⟨p+1,_,rfl,by first|rfl|rw[HS.out],⟨by have:=HP.out;omega⟩,⟨by omega⟩,HD2,HBn⟩
  ·obtain rfl:p=4:=by have:=HP.out;omega
   have hpz:decide (((4:Nat):Int)≤3)=false:=rfl
   obtain rfl:n=r:=HE.out
   go_wp2
   go_ret
   exact⟨rfl,HBv.out⟩
def ccW (ns:List ZK) (p x:Int):Int:=ccQ (Zas ns p) x
def ZaT (ns:List ZK) (ts:List PTie) (z:Int):Int:=if Zat ns ts z=true then ccW ns 3 (ccW ns 2 (ccW ns 1 ((Zaa ts).foldl (ccS ts) 1))) else 0
theorem okI_free {ts:List PTie} (ht:ts.length≤1048576):okI ts (Zaa ts)=true:=by
 unfold okI
 rw[Ze (Nat.le_trans (Zdj ts) ht),Bool.true_and,List.all_eq_true]
 intro x hx
 have:=ZdB hx
 rw[Ze this.1,Ze this.2];rfl
theorem wq_impl (ns:List ZK) (ts:List PTie) (z:Int):∀p:Nat,1≤p→p≤3→(fun p=>Za4.f ns ts z p) (p:Int)=some (Zas ns (p:Int)):=fun _ _ _=>rfl
theorem ZcS {ns:List ZK} {ts:List PTie} {z:Int} (hf:fitN ns=true) (ht:ts.length≤1048576) (k:Nat) (hk:2 ^ 65≤k):ZaE.f k ns ts z=some (ZaT ns ts z):=by
 unfold ZaE.f ZaT
 rw[ZdD hf,Zi,Zdi ns ts z ht k (by omega)]
 cases Zat ns ts z with
 | false=>rfl
 | true=>
  obtain⟨q,h1,_,h2⟩:=wq_of (wq_impl ns ts z)
  rw[if_pos rfl,if_pos rfl,Zi,if_pos (okI_free ht),h1,Zi,h2]
  rfl
def inR (a b c:Int):Bool:=decide (b≤a) && decide (a≤c)
theorem inR_f (a b c:Int):ZX.f a b c=some (inR a b c):=by
 unfold ZX.f inR
 by_cases h:a≥b
 ·rw[if_pos h,Ze (show b≤a from h),Bool.true_and]
 ·rw[if_neg h,Zf (show ¬b≤a from h),Bool.false_and]
theorem ZdH (a b c:Int) (w:World):Calls Tryz.prog 127 #[.int .i64 a,.int .i64 b,.int .i64 c] w fun e w'=>e=.returned (.bool (inR a b c))∧∃n,w'=w.drewN n:=
 (ZX.calls a b c _ w (inR_f a b c)).mono fun _ _ ⟨he,hd⟩=>⟨he,hd.out⟩
end Go.Proofs.YtoeimopgoaffcaaGreatDoor.Pr
