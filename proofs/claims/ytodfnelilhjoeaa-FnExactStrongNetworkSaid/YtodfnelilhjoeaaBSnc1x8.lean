/- The texts of one claim, put together by a program of this session. -/
import Derived.Test.YtodfnelilhjoeaaBSnc1x1
import Derived.Test.YtodfnelilhjoeaaBSnc1x2
import Derived.Test.YtodfnelilhjoeaaBSnc1x3
import Derived.Test.YtodfnelilhjoeaaBSnc1x7
namespace Go.Proofs.Ytodfnelilhjoeaa.Pr
open Go.RowKit Go.Proofs.YtodfnelilhjoeaaW.PrintWords Go.Proofs.YtodfnelilhjoeaaW.PrintLast Go.Proofs.YtodfnelilhjoeaaW.PrintMore
attribute [local go_sem] Zac Zaa Zam Zal Z5 Z4 Zab Z9
set_option linter.unusedVariables false
set_option linter.unusedSimpArgs false
mutual
def ZV.l0:Nat→List Int→List Int→Int→Int→List Int→Int→Int→List (S116)→List (S90)→Int→Option (Int×Int)
 | 0,_,_,_,_,_,_,_,_,_,_=>none
 | k+1,x8,x9,x10,x11,x22,x23,x24,x111002000,x111002001,x111002002=>if x24<x23 then(if 0≤x24 then(if x24<(x22.length:Int) then((Z8.f k x9 (rd x22 x24)).bind fun t111009=>(if t111009=true then(ZV.l0 k x8 x9 x10 x11 x22 x23 (wrap64 (x24+1)) x111002000 x111002001 x111002002) else(if 0≤(rd x22 x24) then(if (rd x22 x24)<(x111002001.length:Int) then(ZV.l0 k x8 x9 (wrap64 (x10+((Zv x111002001 (rd x22 x24)).f2))) (wrap64 (x11+((Zv x111002001 (rd x22 x24)).f3))) x22 x23 (wrap64 (x24+1)) x111002000 x111002001 x111002002) else(none)) else(none)))) else(none)) else(none)) else(ZV.l1 k x8 x10 x11 x9 (x9.length:Int) 0 x111002000 x111002001 x111002002)
def ZV.l1:Nat→List Int→Int→Int→List Int→Int→Int→List (S116)→List (S90)→Int→Option (Int×Int)
 | 0,_,_,_,_,_,_,_,_,_=>none
 | k+1,x8,x10,x11,x49,x50,x51,x111002000,x111002001,x111002002=>if x51<x50 then(if 0≤x51 then(if x51<(x49.length:Int) then((Z8.f k x8 (rd x49 x51)).bind fun t111013=>(if t111013=true then(ZV.l1 k x8 x10 x11 x49 x50 (wrap64 (x51+1)) x111002000 x111002001 x111002002) else(if 0≤(rd x49 x51) then(if (rd x49 x51)<(x111002001.length:Int) then(ZV.l1 k x8 (wrap64 (x10 - ((Zv x111002001 (rd x49 x51)).f3))) (wrap64 (x11 - ((Zv x111002001 (rd x49 x51)).f2))) x49 x50 (wrap64 (x51+1)) x111002000 x111002001 x111002002) else(none)) else(none)))) else(none)) else(none)) else(some (x10,x11))
end
def ZV.f (k:Nat) (l0_0:List (S116)) (l0_1:List (S90)) (a0_2:Int) (a1:Int) (a2:Int):Option (Int×Int):=(Z3.f k l0_0 l0_1 a0_2 a1).bind fun t111002=>((Z3.f k l0_0 l0_1 a0_2 a2).bind fun t111005=>(ZV.l0 k t111002 t111005 0 0 t111002 (t111002.length:Int) 0 l0_0 l0_1 a0_2))
set_option maxHeartbeats 8000000 in
set_option maxRecDepth 100000 in
theorem ZV.calls (k:Nat) (A0_0:Option Addr) (c0_0:Nat) (l0_0:List (S116)) (A0_1:Option Addr) (c0_1:Nat) (l0_1:List (S90)) (a0_2:Int) (a1:Int) (a2:Int) (r1:Int) (r2:Int) (w:World) (hr0_0:Kd.C k116 w A0_0 l0_0.length l0_0) (hc0_0:l0_0.length≤c0_0) (hr0_1:Kd.C k90 w A0_1 l0_1.length l0_1) (hc0_1:l0_1.length≤c0_1) (h:ZV.f k l0_0 l0_1 a0_2 a1 a2=some (r1,r2)) :
  Calls Try.prog 111 #[.agg #[.slice A0_0 l0_0.length c0_0,.slice A0_1 l0_1.length c0_1,.int .i64 a0_2],.int .i64 a1,.int .i64 a2] w fun e w'=>e=.returned (.tuple #[.int .i64 r1,.int .i64 r2])∧Below w.heap.size w w':=by
 have hu35:=Try.underlying35
 have HR0_0:=Za hr0_0;have HC0_0:=Za hc0_0;clear hr0_0 hc0_0;have HR0_1:=Za hr0_1;have HC0_1:=Za hc0_1;clear hr0_1 hc0_1
 have HB:=Za (Below.refl w.heap.size w)
 have H:((Z3.f k l0_0 l0_1 a0_2 a1).bind fun t111002=>((Z3.f k l0_0 l0_1 a0_2 a2).bind fun t111005=>(ZV.l0 k t111002 t111005 0 0 t111002 (t111002.length:Int) 0 l0_0 l0_1 a0_2)))=some (r1,r2):=h
 clear h
 replace H:=Zh H
 obtain⟨t111002,A40,H⟩:=H
 replace H:((Z3.f k l0_0 l0_1 a0_2 a2).bind fun t111005=>(ZV.l0 k t111002 t111005 0 0 t111002 (t111002.length:Int) 0 l0_0 l0_1 a0_2))=some (r1,r2):=H
 have A4:=Za A40;clear A40
 replace H:=Zh H
 obtain⟨t111005,A50,H⟩:=H
 replace H:(ZV.l0 k t111002 t111005 0 0 t111002 (t111002.length:Int) 0 l0_0 l0_1 a0_2)=some (r1,r2):=H
 have A5:=Za A50;clear A50
 have H':=Za H
 clear H
 go_enter Try.func111,Try.ntmps111
 go_wp2_with (first|((with_reducible refine ZI (N:=3) rfl ?_);refine ZH ?hg (N:=3) ?hd (cs:=#[.slice A0_0 l0_0.length c0_0,.slice A0_1 l0_1.length c0_1,.int .i64 a0_2]) (t:=35) ?hr ?_;(case hd=>rfl);(case hg=>rfl);(case hr=>first|(go_simp;done)|(go_simp;rfl));intro gb111001 hg w6 hbox hb;have BK111001:=Za (hbox);have GW111001:=Za ((by rw[hg];exact(Zx (by repeat(first|(with_reducible first|exact HB.out|apply Zn|apply Zm|apply Zt)|exact HB.out))):w.heap.size≤gb111001));have GE111001:=Za ((by rw[hg];exact(Zx (by repeat(first|(with_reducible first|exact HB.out|apply Zn|apply Zm|apply Zt)|exact HB.out))):w.heap.size≤gb111001));replace HB:=Za (Zw (by repeat(first|(with_reducible first|exact HB.out|apply Zn|apply Zm|apply Zt)|exact HB.out)) hb);clear hb hbox hg;have hcz7_0:w6.cell? ⟨gb111001,0,none⟩=some (.slice A0_0 l0_0.length c0_0):=(Zs BK111001.out 0).trans rfl;have hcz7_1:w6.cell? ⟨gb111001,1,none⟩=some (.slice A0_1 l0_1.length c0_1):=(Zs BK111001.out 1).trans rfl;have hcz7_2:w6.cell? ⟨gb111001,2,none⟩=some (.int .i64 a0_2):=(Zs BK111001.out 2).trans rfl;have hfz7_0:=Zr BK111001.out 0;have hfz7_1:=Zr BK111001.out 1;have hfz7_2:=Zr BK111001.out 2)|((with_reducible refine ZG (f:=109) rfl ?_);refine ZQ (some 18) rfl rfl Try.func109 (by kernel_rfl) rfl #[.agg #[.slice A0_0 l0_0.length c0_0,.slice A0_1 l0_1.length c0_1,.int .i64 a0_2],.int .i64 a1] rfl (by(try simp only[List.map_toArray,List.map_cons,List.map_nil]);first|done|rfl|(simp only[Zk,Zj];rfl)) ?_;(with_reducible refine(Z3.calls k _ _ l0_0 _ _ l0_1 a0_2 a1 t111002 _ ?side1 ?side2 ?side3 ?side4 A4.out).mono ?_);(case side1=>repeat(first|exact(Zb HR0_0.out HB.out)|(with_reducible refine Kd.C_alloc ?_ _)|(with_reducible refine Kd.C_drewN ?_ _)|(with_reducible refine Kd.C_drew ?_)));(case side2=>exact HC0_0.out);(case side3=>repeat(first|exact(Zb HR0_1.out HB.out)|(with_reducible refine Kd.C_alloc ?_ _)|(with_reducible refine Kd.C_drewN ?_ _)|(with_reducible refine Kd.C_drew ?_)));(case side4=>exact HC0_1.out);rintro e w8 ⟨v111003,rfl,ho0,hb⟩;refine⟨_,rfl,?_⟩;have HO111004:=Za (Kd.R_lower ho0 (Zx (by repeat(first|(with_reducible first|exact HB.out|apply Zn|apply Zm|apply Zt|refine Zq ?_ GE111001.out)|exact HB.out))));replace BK111001:=Za (Zy (g:=gb111001) (o:=.cells #[.slice A0_0 l0_0.length c0_0,.slice A0_1 l0_1.length c0_1,.int .i64 a0_2] 35 (0,0)) (by(with_reducible repeat(first|refine Zp ?_ _|refine Zu ?_|refine Zo ?_ _));exact BK111001.out) hb);replace HB:=Za (Zw (by repeat(first|(with_reducible first|exact HB.out|apply Zn|apply Zm|apply Zt|refine Zq ?_ GE111001.out)|exact HB.out)) hb);(try clear hb);(try clear hb2);(try clear hk);(try clear hi);(try clear ho0);have hcz9_0:w8.cell? ⟨gb111001,0,none⟩=some (.slice A0_0 l0_0.length c0_0):=(Zs BK111001.out 0).trans rfl;have hcz9_1:w8.cell? ⟨gb111001,1,none⟩=some (.slice A0_1 l0_1.length c0_1):=(Zs BK111001.out 1).trans rfl;have hcz9_2:w8.cell? ⟨gb111001,2,none⟩=some (.int .i64 a0_2):=(Zs BK111001.out 2).trans rfl;have hfz9_0:=Zr BK111001.out 0;have hfz9_1:=Zr BK111001.out 1;have hfz9_2:=Zr BK111001.out 2)|((with_reducible refine ZG (f:=109) rfl ?_);refine ZQ (some 21) rfl rfl Try.func109 (by kernel_rfl) rfl #[.agg #[.slice A0_0 l0_0.length c0_0,.slice A0_1 l0_1.length c0_1,.int .i64 a0_2],.int .i64 a2] rfl (by(try simp only[List.map_toArray,List.map_cons,List.map_nil]);first|done|rfl|(simp only[Zk,Zj];rfl)) ?_;(with_reducible refine(Z3.calls k _ _ l0_0 _ _ l0_1 a0_2 a2 t111005 _ ?side1 ?side2 ?side3 ?side4 A5.out).mono ?_);(case side1=>repeat(first|exact(Zb HR0_0.out HB.out)|(with_reducible refine Kd.C_alloc ?_ _)|(with_reducible refine Kd.C_drewN ?_ _)|(with_reducible refine Kd.C_drew ?_)));(case side2=>exact HC0_0.out);(case side3=>repeat(first|exact(Zb HR0_1.out HB.out)|(with_reducible refine Kd.C_alloc ?_ _)|(with_reducible refine Kd.C_drewN ?_ _)|(with_reducible refine Kd.C_drew ?_)));(case side4=>exact HC0_1.out);rintro e w10 ⟨v111006,rfl,ho0,hb⟩;refine⟨_,rfl,?_⟩;have HO111007:=Za (Kd.R_lower (Kd.R_new' ho0 (Kd.R_lt (by(with_reducible repeat(first|apply Kd.R_alloc|apply Kd.R_drewN|apply Kd.R_drew));exact HO111004.out))) (Zx (by repeat(first|(with_reducible first|exact HB.out|apply Zn|apply Zm|apply Zt|refine Zq ?_ GE111001.out)|exact HB.out))));replace HO111004:=Za (Kd.R_elder' (by(with_reducible repeat(first|apply Kd.R_alloc|apply Kd.R_drewN|apply Kd.R_drew));exact HO111004.out) (Kd.R_base ho0) hb);replace BK111001:=Za (Zy (g:=gb111001) (o:=.cells #[.slice A0_0 l0_0.length c0_0,.slice A0_1 l0_1.length c0_1,.int .i64 a0_2] 35 (0,0)) (by(with_reducible repeat(first|refine Zp ?_ _|refine Zu ?_|refine Zo ?_ _));exact BK111001.out) hb);replace HB:=Za (Zw (by repeat(first|(with_reducible first|exact HB.out|apply Zn|apply Zm|apply Zt|refine Zq ?_ GE111001.out)|exact HB.out)) hb);(try clear hb);(try clear hb2);(try clear hk);(try clear hi);(try clear ho0);obtain⟨Ao11,co11,eo11⟩:=Kd.R_slice HO111004.out;subst eo11))
 go_loopg [10,11,24] k (fun kq v10 v11 v24 w'=>∃(x10_1:Int) (x11_1:Int) (x24_1:Int),v10=.int .i64 x10_1∧v11=.int .i64 x11_1∧v24=.int .i64 x24_1∧Aside0 (ZV.l0 kq t111002 t111005 x10_1 x11_1 t111002 (t111002.length:Int) x24_1 l0_0 l0_1 a0_2=some (r1,r2))∧Aside0 (kq≤k)∧Aside0 (Kd.R (Kd.int .i64) 3 w' w.heap.size (fun k_=>some k_≠(v111006:Value).ownBlock) (.slice Ao11 t111002.length co11) t111002)∧Aside0 (Kd.R (Kd.int .i64) 3 w' w.heap.size (fun k_=>some k_≠((.slice Ao11 t111002.length co11):Value).ownBlock∧some k_≠((.slice Ao11 t111002.length co11):Value).ownBlock) v111006 t111005)∧Aside0 (Kd.R (Kd.int .i64) 3 w' w.heap.size (fun k_=>some k_≠(v111006:Value).ownBlock) (.slice Ao11 t111002.length co11) t111002)∧Aside0 (w'.heap[gb111001]? = some (.cells #[(.slice A0_0 l0_0.length c0_0),(.slice A0_1 l0_1.length c0_1),.int .i64 a0_2] 35 (0,0)))∧Aside0 (Below w.heap.size w w'))
 case atStart=>exact⟨(0),(0),(0),(by first|rfl|(simp;done)|(simp[*];done)),(by first|rfl|(simp;done)|(simp[*];done)),(by first|rfl|(simp;done)|(simp[*];done)),H',⟨Nat.le_refl _⟩,⟨by(with_reducible repeat(first|apply Kd.R_alloc|apply Kd.R_drewN|apply Kd.R_drew));exact Kd.R_mono HO111004.out (fun _ hk=>hk.2)⟩,⟨by(with_reducible repeat(first|apply Kd.R_alloc|apply Kd.R_drewN|apply Kd.R_drew));exact Kd.R_mono HO111007.out (fun _ hk=>⟨hk.2,hk.2⟩)⟩,⟨by(with_reducible repeat(first|apply Kd.R_alloc|apply Kd.R_drewN|apply Kd.R_drew));exact Kd.R_mono HO111004.out (fun _ hk=>hk.2)⟩,⟨by(with_reducible repeat(first|refine Zp ?_ _|refine Zu ?_|refine Zo ?_ _));exact BK111001.out⟩,⟨by repeat(first|(with_reducible first|exact HB.out|apply Zn|apply Zm|apply Zt|refine Zq ?_ GE111001.out)|exact HB.out)⟩⟩
 case round=>
  clear H'
  try clear c1
  try clear p2
  try clear c10
  try clear c11
  try clear hcz7_0
  try clear hcz7_1
  try clear hcz7_2
  try clear hcz9_0
  try clear hcz9_1
  try clear hcz9_2
  try clear hfz7_0
  try clear hfz7_1
  try clear hfz7_2
  try clear hfz9_0
  try clear hfz9_1
  try clear hfz9_2
  obtain⟨x10_1,x11_1,x24_1,rfl,rfl,rfl,HA,HK1,HO_8,HO_9,HO_22,BK111001,HB⟩:=hrel
  cases gk with
  | zero=>exact absurd HA.out (by simp[ZV.l0])
  | succ k1=>
   have H:=HA.out
   clear HA
   simp only[ZV.l0] at H
   by_cases c12:x24_1<(t111002.length:Int)
   ·rw[if_pos c12] at H
    have c12b0:decide (x24_1<(t111002.length:Int))=true:=Ze c12
    clear c12
    by_cases c13:0≤x24_1
    ·rw[if_pos c13] at H
     have c13b0:decide (0≤x24_1)=true:=Ze c13
     clear c13
     by_cases c14:x24_1<(t111002.length:Int)
     ·rw[if_pos c14] at H
      have c14b0:decide (x24_1<(t111002.length:Int))=true:=Ze c14
      clear c14
      replace H:=Zh H
      obtain⟨t111009,A150,H⟩:=H
      replace H:(if t111009=true then(ZV.l0 k1 t111002 t111005 x10_1 x11_1 t111002 (t111002.length:Int) (wrap64 (x24_1+1)) l0_0 l0_1 a0_2) else(if 0≤(rd t111002 x24_1) then(if (rd t111002 x24_1)<(l0_1.length:Int) then(ZV.l0 k1 t111002 t111005 (wrap64 (x10_1+((Zv l0_1 (rd t111002 x24_1)).f2))) (wrap64 (x11_1+((Zv l0_1 (rd t111002 x24_1)).f3))) t111002 (t111002.length:Int) (wrap64 (x24_1+1)) l0_0 l0_1 a0_2) else(none)) else(none)))=some (r1,r2):=H
      have A15:=Za A150;clear A150
      by_cases c16:t111009=true
      ·subst c16
       have H1:(ZV.l0 k1 t111002 t111005 x10_1 x11_1 t111002 (t111002.length:Int) (wrap64 (x24_1+1)) l0_0 l0_1 a0_2)=some (r1,r2):=by rw[if_pos rfl] at H;exact H
       clear H
       have H:=H1
       clear H1
       have H':=Za H
       clear H
       have p111008:0≤(x24_1:Int):=Zd (by first|(with_reducible assumption)|assumption)
       have q111008:x24_1<(t111002.length:Int):=Zd (by first|(with_reducible assumption)|assumption)
       obtain⟨ad111008,e111008,hx111008_0⟩:=Kd.at_int (Kd.R_reads' HO_22.out).2.2 x24_1 p111008 q111008
       cases e111008
       replace p111008:=eq_true p111008
       replace q111008:=eq_true q111008
       obtain⟨Ao17,co17,eo17⟩:=Kd.R_slice HO_9.out
       subst eo17
       go_wp2_with (first|((with_reducible refine ZG (f:=150) rfl ?_);refine ZQ (some 30) rfl rfl Try.func150 (by kernel_rfl) rfl #[.slice Ao17 t111005.length co17,.int .i64 (rd t111002 x24_1)] rfl (by(try simp only[List.map_toArray,List.map_cons,List.map_nil]);first|done|rfl|(simp only[Zk,Zj];rfl)) ?_;(with_reducible refine(Z8.calls k1 _ _ t111005 (rd t111002 x24_1) true _ ?side1 ?side2 A15.out).mono ?_);(case side1=>repeat(first|exact(Kd.R_reads' HO_9.out).2.2|(with_reducible refine Kd.C_alloc ?_ _)|(with_reducible refine Kd.C_drewN ?_ _)|(with_reducible refine Kd.C_drew ?_)));(case side2=>exact(Kd.R_reads' HO_9.out).2.1);rintro e w' ⟨rfl,⟨nd,rfl⟩⟩;refine⟨_,rfl,?_⟩))
       go_roundg k1
       case measure=>have:=HK1.out;omega
       case rel=>exact⟨(x10_1),(x11_1),(wrap64 (x24_1+1)),(by first|rfl|(simp;done)|(simp[*];done)),(by first|rfl|(simp;done)|(simp[*];done)),(by first|rfl|(simp;done)|(simp[*];done)),H',⟨by have:=HK1.out;omega⟩,⟨by(with_reducible repeat(first|apply Kd.R_alloc|apply Kd.R_drewN|apply Kd.R_drew));exact HO_8.out⟩,⟨by(with_reducible repeat(first|apply Kd.R_alloc|apply Kd.R_drewN|apply Kd.R_drew));exact HO_9.out⟩,⟨by(with_reducible repeat(first|apply Kd.R_alloc|apply Kd.R_drewN|apply Kd.R_drew));exact HO_22.out⟩,⟨by(with_reducible repeat(first|refine Zp ?_ _|refine Zu ?_|refine Zo ?_ _));exact BK111001.out⟩,⟨by repeat(first|(with_reducible first|exact HB.out|apply Zn|apply Zm|apply Zt|refine Zq ?_ GE111001.out)|exact HB.out)⟩⟩
      ·replace c16:=Bool.eq_false_iff.mpr c16
       subst c16
       have H1:(if 0≤(rd t111002 x24_1) then(if (rd t111002 x24_1)<(l0_1.length:Int) then(ZV.l0 k1 t111002 t111005 (wrap64 (x10_1+((Zv l0_1 (rd t111002 x24_1)).f2))) (wrap64 (x11_1+((Zv l0_1 (rd t111002 x24_1)).f3))) t111002 (t111002.length:Int) (wrap64 (x24_1+1)) l0_0 l0_1 a0_2) else(none)) else(none))=some (r1,r2):=by rw[if_neg (show ¬(false=true) by decide)] at H;exact H
       clear H
       have H:=H1
       clear H1
       by_cases c18:0≤(rd t111002 x24_1)
       ·rw[if_pos c18] at H
        have c18b0:decide (0≤(rd t111002 x24_1))=true:=Ze c18
        clear c18
        by_cases c19:(rd t111002 x24_1)<(l0_1.length:Int)
        ·rw[if_pos c19] at H
         have c19b0:decide ((rd t111002 x24_1)<(l0_1.length:Int))=true:=Ze c19
         clear c19
         have H':=Za H
         clear H
         have p111008:0≤(x24_1:Int):=Zd (by first|(with_reducible assumption)|assumption)
         have q111008:x24_1<(t111002.length:Int):=Zd (by first|(with_reducible assumption)|assumption)
         obtain⟨ad111008,e111008,hx111008_0⟩:=Kd.at_int (Kd.R_reads' HO_22.out).2.2 x24_1 p111008 q111008
         cases e111008
         replace p111008:=eq_true p111008
         replace q111008:=eq_true q111008
         obtain⟨Ao20,co20,eo20⟩:=Kd.R_slice HO_9.out
         subst eo20
         go_wp2_with (first|((with_reducible refine ZG (f:=150) rfl ?_);refine ZQ (some 30) rfl rfl Try.func150 (by kernel_rfl) rfl #[.slice Ao20 t111005.length co20,.int .i64 (rd t111002 x24_1)] rfl (by(try simp only[List.map_toArray,List.map_cons,List.map_nil]);first|done|rfl|(simp only[Zk,Zj];rfl)) ?_;(with_reducible refine(Z8.calls k1 _ _ t111005 (rd t111002 x24_1) false _ ?side1 ?side2 A15.out).mono ?_);(case side1=>repeat(first|exact(Kd.R_reads' HO_9.out).2.2|(with_reducible refine Kd.C_alloc ?_ _)|(with_reducible refine Kd.C_drewN ?_ _)|(with_reducible refine Kd.C_drew ?_)));(case side2=>exact(Kd.R_reads' HO_9.out).2.1);rintro e w' ⟨rfl,⟨nd,rfl⟩⟩;refine⟨_,rfl,?_⟩;have hcz21_0:wr.cell? ⟨gb111001,0,none⟩=some (.slice A0_0 l0_0.length c0_0):=(Zs BK111001.out 0).trans rfl;have hcz21_1:wr.cell? ⟨gb111001,1,none⟩=some (.slice A0_1 l0_1.length c0_1):=(Zs BK111001.out 1).trans rfl;have hcz21_2:wr.cell? ⟨gb111001,2,none⟩=some (.int .i64 a0_2):=(Zs BK111001.out 2).trans rfl;have hfz21_0:=Zr BK111001.out 0;have hfz21_1:=Zr BK111001.out 1;have hfz21_2:=Zr BK111001.out 2;have p111010:0≤((rd t111002 x24_1):Int):=Zd (by first|(with_reducible assumption)|assumption);have q111010:(rd t111002 x24_1)<(l0_1.length:Int):=Zd (by first|(with_reducible assumption)|assumption);obtain⟨ad111010,e111010,hx111010_0,hx111010_1,hx111010_2,hx111010_3,hx111010_4⟩:=ZaH HR0_1.out (rd t111002 x24_1) p111010 q111010;cases e111010;replace hx111010_0:=(HB.out.cell (Zc w _ hx111010_0)).trans hx111010_0;replace hx111010_1:=(HB.out.cell (Zc w _ hx111010_1)).trans hx111010_1;replace hx111010_2:=(HB.out.cell (Zc w _ hx111010_2)).trans hx111010_2;replace hx111010_3:=(HB.out.cell (Zc w _ hx111010_3)).trans hx111010_3;replace hx111010_4:=(HB.out.cell (Zc w _ hx111010_4)).trans hx111010_4;replace p111010:=eq_true p111010;replace q111010:=eq_true q111010;have p111011:0≤((rd t111002 x24_1):Int):=Zd (by first|(with_reducible assumption)|assumption);have q111011:(rd t111002 x24_1)<(l0_1.length:Int):=Zd (by first|(with_reducible assumption)|assumption);obtain⟨ad111011,e111011,hx111011_0,hx111011_1,hx111011_2,hx111011_3,hx111011_4⟩:=ZaH HR0_1.out (rd t111002 x24_1) p111011 q111011;obtain rfl:ad111010=ad111011:=(by injection e111011);replace hx111011_0:=(HB.out.cell (Zc w _ hx111011_0)).trans hx111011_0;replace hx111011_1:=(HB.out.cell (Zc w _ hx111011_1)).trans hx111011_1;replace hx111011_2:=(HB.out.cell (Zc w _ hx111011_2)).trans hx111011_2;replace hx111011_3:=(HB.out.cell (Zc w _ hx111011_3)).trans hx111011_3;replace hx111011_4:=(HB.out.cell (Zc w _ hx111011_4)).trans hx111011_4;replace p111011:=eq_true p111011;replace q111011:=eq_true q111011))
         go_roundg k1
         case measure=>have:=HK1.out;omega
         case rel=>exact⟨(wrap64 (x10_1+((Zv l0_1 (rd t111002 x24_1)).f2))),(wrap64 (x11_1+((Zv l0_1 (rd t111002 x24_1)).f3))),(wrap64 (x24_1+1)),(by first|rfl|(simp;done)|(simp[*];done)),(by first|rfl|(simp;done)|(simp[*];done)),(by first|rfl|(simp;done)|(simp[*];done)),H',⟨by have:=HK1.out;omega⟩,⟨by(with_reducible repeat(first|apply Kd.R_alloc|apply Kd.R_drewN|apply Kd.R_drew));exact HO_8.out⟩,⟨by(with_reducible repeat(first|apply Kd.R_alloc|apply Kd.R_drewN|apply Kd.R_drew));exact HO_9.out⟩,⟨by(with_reducible repeat(first|apply Kd.R_alloc|apply Kd.R_drewN|apply Kd.R_drew));exact HO_22.out⟩,⟨by(with_reducible repeat(first|refine Zp ?_ _|refine Zu ?_|refine Zo ?_ _));exact BK111001.out⟩,⟨by repeat(first|(with_reducible first|exact HB.out|apply Zn|apply Zm|apply Zt|refine Zq ?_ GE111001.out)|exact HB.out)⟩⟩
        ·rw[if_neg c19] at H
         exact absurd H (by simp)
       ·rw[if_neg c18] at H
        exact absurd H (by simp)
     ·rw[if_neg c14] at H
      exact absurd H (by simp)
    ·rw[if_neg c13] at H
     exact absurd H (by simp)
   ·rw[if_neg c12] at H
    have c12b0:decide (x24_1<(t111002.length:Int))=false:=Zf c12
    clear c12
    have H':=Za H
    clear H
    obtain⟨Ao22,co22,eo22⟩:=Kd.R_slice HO_9.out
    subst eo22
    go_wp2
    go_loopg [10,11,51] k1 (fun kq v10 v11 v51 w'=>∃(x10_2:Int) (x11_2:Int) (x51_2:Int),v10=.int .i64 x10_2∧v11=.int .i64 x11_2∧v51=.int .i64 x51_2∧Aside0 (ZV.l1 kq t111002 x10_2 x11_2 t111005 (t111005.length:Int) x51_2 l0_0 l0_1 a0_2=some (r1,r2))∧Aside0 (kq≤k1)∧Aside0 (Kd.R (Kd.int .i64) 3 w' w.heap.size (fun k_=>some k_≠((.slice Ao22 t111005.length co22):Value).ownBlock) (.slice Ao11 t111002.length co11) t111002)∧Aside0 (Kd.R (Kd.int .i64) 3 w' w.heap.size (fun k_=>some k_≠((.slice Ao11 t111002.length co11):Value).ownBlock) (.slice Ao22 t111005.length co22) t111005)∧Aside0 (w'.heap[gb111001]? = some (.cells #[(.slice A0_0 l0_0.length c0_0),(.slice A0_1 l0_1.length c0_1),.int .i64 a0_2] 35 (0,0)))∧Aside0 (Below w.heap.size w w'))
    case atStart=>exact⟨(x10_1),(x11_1),(0),(by first|rfl|(simp;done)|(simp[*];done)),(by first|rfl|(simp;done)|(simp[*];done)),(by first|rfl|(simp;done)|(simp[*];done)),H',⟨Nat.le_refl _⟩,⟨by(with_reducible repeat(first|apply Kd.R_alloc|apply Kd.R_drewN|apply Kd.R_drew));exact HO_8.out⟩,⟨by(with_reducible repeat(first|apply Kd.R_alloc|apply Kd.R_drewN|apply Kd.R_drew));exact Kd.R_mono HO_9.out (fun _ hk=>hk.1)⟩,⟨by(with_reducible repeat(first|refine Zp ?_ _|refine Zu ?_|refine Zo ?_ _));exact BK111001.out⟩,⟨by repeat(first|(with_reducible first|exact HB.out|apply Zn|apply Zm|apply Zt|refine Zq ?_ GE111001.out)|exact HB.out)⟩⟩
    case round=>
     clear H'
     try clear c1
     try clear p1
     try clear q1
     try clear hx1
     try clear p2
     try clear p6
     try clear c10
     try clear c11
     try clear p11
     try clear q11
     try clear hx11
     try clear c12
     try clear c12b0
     try clear c13
     try clear c13b0
     try clear c14
     try clear c14b0
     try clear c15
     try clear c16
     try clear c18
     try clear c18b0
     try clear c19
     try clear c19b0
     try clear hcz21_0
     try clear hcz21_1
     try clear hcz21_2
     try clear hcz7_0
     try clear hcz7_1
     try clear hcz7_2
     try clear hcz9_0
     try clear hcz9_1
     try clear hcz9_2
     try clear hfz21_0
     try clear hfz21_1
     try clear hfz21_2
     try clear hfz7_0
     try clear hfz7_1
     try clear hfz7_2
     try clear hfz9_0
     try clear hfz9_1
     try clear hfz9_2
     try clear hx111008_0
     try clear hx111010_0
     try clear hx111010_1
     try clear hx111010_2
     try clear hx111010_3
     try clear hx111010_4
     try clear hx111011_0
     try clear hx111011_1
     try clear hx111011_2
     try clear hx111011_3
     try clear hx111011_4
     try clear p111008
     try clear p111010
     try clear p111011
     try clear p2
     try clear q111008
     try clear q111010
     try clear q111011
     obtain⟨x10_2,x11_2,x51_2,rfl,rfl,rfl,HA,HK2,HO_8,HO_49,BK111001,HB⟩:=hrel
     cases gk with
     | zero=>exact absurd HA.out (by simp[ZV.l1])
     | succ k2=>
      have H:=HA.out
      clear HA
      simp only[ZV.l1] at H
      by_cases c23:x51_2<(t111005.length:Int)
      ·rw[if_pos c23] at H
       have c23b0:decide (x51_2<(t111005.length:Int))=true:=Ze c23
       clear c23
       by_cases c24:0≤x51_2
       ·rw[if_pos c24] at H
        have c24b0:decide (0≤x51_2)=true:=Ze c24
        clear c24
        by_cases c25:x51_2<(t111005.length:Int)
        ·rw[if_pos c25] at H
         have c25b0:decide (x51_2<(t111005.length:Int))=true:=Ze c25
         clear c25
         replace H:=Zh H
         obtain⟨t111013,A260,H⟩:=H
         replace H:(if t111013=true then(ZV.l1 k2 t111002 x10_2 x11_2 t111005 (t111005.length:Int) (wrap64 (x51_2+1)) l0_0 l0_1 a0_2) else(if 0≤(rd t111005 x51_2) then(if (rd t111005 x51_2)<(l0_1.length:Int) then(ZV.l1 k2 t111002 (wrap64 (x10_2 - ((Zv l0_1 (rd t111005 x51_2)).f3))) (wrap64 (x11_2 - ((Zv l0_1 (rd t111005 x51_2)).f2))) t111005 (t111005.length:Int) (wrap64 (x51_2+1)) l0_0 l0_1 a0_2) else(none)) else(none)))=some (r1,r2):=H
         have A26:=Za A260;clear A260
         by_cases c27:t111013=true
         ·subst c27
          have H1:(ZV.l1 k2 t111002 x10_2 x11_2 t111005 (t111005.length:Int) (wrap64 (x51_2+1)) l0_0 l0_1 a0_2)=some (r1,r2):=by rw[if_pos rfl] at H;exact H
          clear H
          have H:=H1
          clear H1
          have H':=Za H
          clear H
          have p111012:0≤(x51_2:Int):=Zd (by first|(with_reducible assumption)|assumption)
          have q111012:x51_2<(t111005.length:Int):=Zd (by first|(with_reducible assumption)|assumption)
          obtain⟨ad111012,e111012,hx111012_0⟩:=Kd.at_int (Kd.R_reads' HO_49.out).2.2 x51_2 p111012 q111012
          cases e111012
          replace p111012:=eq_true p111012
          replace q111012:=eq_true q111012
          go_wp2_with (first|((with_reducible refine ZG (f:=150) rfl ?_);refine ZQ (some 57) rfl rfl Try.func150 (by kernel_rfl) rfl #[.slice Ao11 t111002.length co11,.int .i64 (rd t111005 x51_2)] rfl (by(try simp only[List.map_toArray,List.map_cons,List.map_nil]);first|done|rfl|(simp only[Zk,Zj];rfl)) ?_;(with_reducible refine(Z8.calls k2 _ _ t111002 (rd t111005 x51_2) true _ ?side1 ?side2 A26.out).mono ?_);(case side1=>repeat(first|exact(Kd.R_reads' HO_8.out).2.2|(with_reducible refine Kd.C_alloc ?_ _)|(with_reducible refine Kd.C_drewN ?_ _)|(with_reducible refine Kd.C_drew ?_)));(case side2=>exact(Kd.R_reads' HO_8.out).2.1);rintro e w' ⟨rfl,⟨nd,rfl⟩⟩;refine⟨_,rfl,?_⟩))
          go_roundg k2
          case measure=>have:=HK1.out;have:=HK2.out;omega
          case rel=>exact⟨(x10_2),(x11_2),(wrap64 (x51_2+1)),(by first|rfl|(simp;done)|(simp[*];done)),(by first|rfl|(simp;done)|(simp[*];done)),(by first|rfl|(simp;done)|(simp[*];done)),H',⟨by have:=HK1.out;have:=HK2.out;omega⟩,⟨by(with_reducible repeat(first|apply Kd.R_alloc|apply Kd.R_drewN|apply Kd.R_drew));exact HO_8.out⟩,⟨by(with_reducible repeat(first|apply Kd.R_alloc|apply Kd.R_drewN|apply Kd.R_drew));exact HO_49.out⟩,⟨by(with_reducible repeat(first|refine Zp ?_ _|refine Zu ?_|refine Zo ?_ _));exact BK111001.out⟩,⟨by repeat(first|(with_reducible first|exact HB.out|apply Zn|apply Zm|apply Zt|refine Zq ?_ GE111001.out)|exact HB.out)⟩⟩
         ·replace c27:=Bool.eq_false_iff.mpr c27
          subst c27
          have H1:(if 0≤(rd t111005 x51_2) then(if (rd t111005 x51_2)<(l0_1.length:Int) then(ZV.l1 k2 t111002 (wrap64 (x10_2 - ((Zv l0_1 (rd t111005 x51_2)).f3))) (wrap64 (x11_2 - ((Zv l0_1 (rd t111005 x51_2)).f2))) t111005 (t111005.length:Int) (wrap64 (x51_2+1)) l0_0 l0_1 a0_2) else(none)) else(none))=some (r1,r2):=by rw[if_neg (show ¬(false=true) by decide)] at H;exact H
          clear H
          have H:=H1
          clear H1
          by_cases c28:0≤(rd t111005 x51_2)
          ·rw[if_pos c28] at H
           have c28b0:decide (0≤(rd t111005 x51_2))=true:=Ze c28
           clear c28
           by_cases c29:(rd t111005 x51_2)<(l0_1.length:Int)
           ·rw[if_pos c29] at H
            have c29b0:decide ((rd t111005 x51_2)<(l0_1.length:Int))=true:=Ze c29
            clear c29
            have H':=Za H
            clear H
            have p111012:0≤(x51_2:Int):=Zd (by first|(with_reducible assumption)|assumption)
            have q111012:x51_2<(t111005.length:Int):=Zd (by first|(with_reducible assumption)|assumption)
            obtain⟨ad111012,e111012,hx111012_0⟩:=Kd.at_int (Kd.R_reads' HO_49.out).2.2 x51_2 p111012 q111012
            cases e111012
            replace p111012:=eq_true p111012
            replace q111012:=eq_true q111012
            go_wp2_with (first|((with_reducible refine ZG (f:=150) rfl ?_);refine ZQ (some 57) rfl rfl Try.func150 (by kernel_rfl) rfl #[.slice Ao11 t111002.length co11,.int .i64 (rd t111005 x51_2)] rfl (by(try simp only[List.map_toArray,List.map_cons,List.map_nil]);first|done|rfl|(simp only[Zk,Zj];rfl)) ?_;(with_reducible refine(Z8.calls k2 _ _ t111002 (rd t111005 x51_2) false _ ?side1 ?side2 A26.out).mono ?_);(case side1=>repeat(first|exact(Kd.R_reads' HO_8.out).2.2|(with_reducible refine Kd.C_alloc ?_ _)|(with_reducible refine Kd.C_drewN ?_ _)|(with_reducible refine Kd.C_drew ?_)));(case side2=>exact(Kd.R_reads' HO_8.out).2.1);rintro e w' ⟨rfl,⟨nd,rfl⟩⟩;refine⟨_,rfl,?_⟩;have hcz30_0:wr.cell? ⟨gb111001,0,none⟩=some (.slice A0_0 l0_0.length c0_0):=(Zs BK111001.out 0).trans rfl;have hcz30_1:wr.cell? ⟨gb111001,1,none⟩=some (.slice A0_1 l0_1.length c0_1):=(Zs BK111001.out 1).trans rfl;have hcz30_2:wr.cell? ⟨gb111001,2,none⟩=some (.int .i64 a0_2):=(Zs BK111001.out 2).trans rfl;have hfz30_0:=Zr BK111001.out 0;have hfz30_1:=Zr BK111001.out 1;have hfz30_2:=Zr BK111001.out 2;have p111014:0≤((rd t111005 x51_2):Int):=Zd (by first|(with_reducible assumption)|assumption);have q111014:(rd t111005 x51_2)<(l0_1.length:Int):=Zd (by first|(with_reducible assumption)|assumption);obtain⟨ad111014,e111014,hx111014_0,hx111014_1,hx111014_2,hx111014_3,hx111014_4⟩:=ZaH HR0_1.out (rd t111005 x51_2) p111014 q111014;cases e111014;replace hx111014_0:=(HB.out.cell (Zc w _ hx111014_0)).trans hx111014_0;replace hx111014_1:=(HB.out.cell (Zc w _ hx111014_1)).trans hx111014_1;replace hx111014_2:=(HB.out.cell (Zc w _ hx111014_2)).trans hx111014_2;replace hx111014_3:=(HB.out.cell (Zc w _ hx111014_3)).trans hx111014_3;replace hx111014_4:=(HB.out.cell (Zc w _ hx111014_4)).trans hx111014_4;replace p111014:=eq_true p111014;replace q111014:=eq_true q111014;have p111015:0≤((rd t111005 x51_2):Int):=Zd (by first|(with_reducible assumption)|assumption);have q111015:(rd t111005 x51_2)<(l0_1.length:Int):=Zd (by first|(with_reducible assumption)|assumption);obtain⟨ad111015,e111015,hx111015_0,hx111015_1,hx111015_2,hx111015_3,hx111015_4⟩:=ZaH HR0_1.out (rd t111005 x51_2) p111015 q111015;obtain rfl:ad111014=ad111015:=(by injection e111015);replace hx111015_0:=(HB.out.cell (Zc w _ hx111015_0)).trans hx111015_0;replace hx111015_1:=(HB.out.cell (Zc w _ hx111015_1)).trans hx111015_1;replace hx111015_2:=(HB.out.cell (Zc w _ hx111015_2)).trans hx111015_2;replace hx111015_3:=(HB.out.cell (Zc w _ hx111015_3)).trans hx111015_3;replace hx111015_4:=(HB.out.cell (Zc w _ hx111015_4)).trans hx111015_4;replace p111015:=eq_true p111015;replace q111015:=eq_true q111015))
            go_roundg k2
            case measure=>have:=HK1.out;have:=HK2.out;omega
            case rel=>exact⟨(wrap64 (x10_2 - ((Zv l0_1 (rd t111005 x51_2)).f3))),(wrap64 (x11_2 - ((Zv l0_1 (rd t111005 x51_2)).f2))),(wrap64 (x51_2+1)),(by first|rfl|(simp;done)|(simp[*];done)),(by first|rfl|(simp;done)|(simp[*];done)),(by first|rfl|(simp;done)|(simp[*];done)),H',⟨by have:=HK1.out;have:=HK2.out;omega⟩,⟨by(with_reducible repeat(first|apply Kd.R_alloc|apply Kd.R_drewN|apply Kd.R_drew));exact HO_8.out⟩,⟨by(with_reducible repeat(first|apply Kd.R_alloc|apply Kd.R_drewN|apply Kd.R_drew));exact HO_49.out⟩,⟨by(with_reducible repeat(first|refine Zp ?_ _|refine Zu ?_|refine Zo ?_ _));exact BK111001.out⟩,⟨by repeat(first|(with_reducible first|exact HB.out|apply Zn|apply Zm|apply Zt|refine Zq ?_ GE111001.out)|exact HB.out)⟩⟩
           ·rw[if_neg c29] at H
            exact absurd H (by simp)
          ·rw[if_neg c28] at H
           exact absurd H (by simp)
        ·rw[if_neg c25] at H
         exact absurd H (by simp)
       ·rw[if_neg c24] at H
        exact absurd H (by simp)
      ·rw[if_neg c23] at H
       have c23b0:decide (x51_2<(t111005.length:Int))=false:=Zf c23
       clear c23
       simp only[Option.some.injEq,Prod.mk.injEq] at H
       obtain⟨rfl,rfl⟩:=H
       go_wp2
       go_ret2
       exact⟨by first|rfl|(simp[ZB,ZA] <;> rfl)|(simp[*,ZB,ZA] <;> rfl),by repeat(first|(with_reducible first|exact HB.out|apply Zn|apply Zm|apply Zt|refine Zq ?_ GE111001.out)|exact HB.out)⟩
def ZaU.f (a0_0:Int) (a0_1:Int):Option (Bool):=if a0_0≥(-1000000) then(if a0_0≤a0_1 then(if a0_1≤1000000 then(if a0_0=1000000 then(some false) else(some (a0_1 != (-1000000)))) else(some false)) else(some false)) else(some false)
set_option maxHeartbeats 8000000 in
set_option maxRecDepth 100000 in
theorem ZaU.calls (a0_0:Int) (a0_1:Int) (r:Bool) (w:World) (h:ZaU.f a0_0 a0_1=some r) :
  Calls Try.prog 151 #[.agg #[.int .i64 a0_0,.int .i64 a0_1]] w fun e w'=>e=.returned (.bool r)∧Below w.heap.size w w':=by
 have hu110:=Try.underlying110
 have HB:=Za (Below.refl w.heap.size w)
 have H:(if a0_0≥(-1000000) then(if a0_0≤a0_1 then(if a0_1≤1000000 then(if a0_0=1000000 then(some false) else(some (a0_1 != (-1000000)))) else(some false)) else(some false)) else(some false))=some r:=h
 clear h
 by_cases c2:a0_0≥(-1000000)
 ·rw[if_pos c2] at H
  have c2b0:decide ((-1000000)≤a0_0)=true:=Ze c2
  clear c2
  by_cases c3:a0_0≤a0_1
  ·rw[if_pos c3] at H
   have c3b0:decide (a0_0≤a0_1)=true:=Ze c3
   clear c3
   by_cases c4:a0_1≤1000000
   ·rw[if_pos c4] at H
    have c4b0:decide (a0_1≤1000000)=true:=Ze c4
    clear c4
    by_cases c5:a0_0=1000000
    ·rw[if_pos c5] at H
     have c5b0:(a0_0 == 1000000)=true:=beq_iff_eq.mpr c5
     have c5b1:(a0_0 != 1000000)=false:=bne_eq_false_iff_eq.mpr c5
     clear c5
     obtain rfl:=Zg H
     go_enter Try.func151,Try.ntmps151
     go_wp2_with (first|((with_reducible refine ZI (N:=1) rfl ?_);refine ZH ?hg (N:=1) ?hd (cs:=#[.int .i64 a0_0,.int .i64 a0_1]) (t:=110) ?hr ?_;(case hd=>rfl);(case hg=>rfl);(case hr=>first|(go_simp;done)|(go_simp;rfl));intro gb151001 hg w6 hbox hb;have BK151001:=Za (hbox);have GW151001:=Za ((by rw[hg];exact(Zx (by repeat(first|(with_reducible first|exact HB.out|apply Zn|apply Zm|apply Zt)|exact HB.out))):w.heap.size≤gb151001));have GE151001:=Za ((by rw[hg];exact(Zx (by repeat(first|(with_reducible first|exact HB.out|apply Zn|apply Zm|apply Zt)|exact HB.out))):w.heap.size≤gb151001));replace HB:=Za (Zw (by repeat(first|(with_reducible first|exact HB.out|apply Zn|apply Zm|apply Zt)|exact HB.out)) hb);clear hb hbox hg;have hcz7_0:w6.cell? ⟨gb151001,0,none⟩=some (.int .i64 a0_0):=(Zs BK151001.out 0).trans rfl;have hcz7_1:w6.cell? ⟨gb151001,1,none⟩=some (.int .i64 a0_1):=(Zs BK151001.out 1).trans rfl;have hfz7_0:=Zr BK151001.out 0;have hfz7_1:=Zr BK151001.out 1))
     go_ret
     exact⟨by first|rfl|(simp[ZB,ZA] <;> rfl)|(simp[*,ZB,ZA] <;> rfl),by repeat(first|(with_reducible first|exact HB.out|apply Zn|apply Zm|apply Zt|refine Zq ?_ GE151001.out)|exact HB.out)⟩
    ·rw[if_neg c5] at H
     have c5b0:(a0_0 == 1000000)=false:=beq_eq_false_iff_ne.mpr c5
     have c5b1:(a0_0 != 1000000)=true:=bne_iff_ne.mpr c5
     obtain rfl:=Zg H
     go_enter Try.func151,Try.ntmps151
     go_wp2_with (first|((with_reducible refine ZI (N:=1) rfl ?_);refine ZH ?hg (N:=1) ?hd (cs:=#[.int .i64 a0_0,.int .i64 a0_1]) (t:=110) ?hr ?_;(case hd=>rfl);(case hg=>rfl);(case hr=>first|(go_simp;done)|(go_simp;rfl));intro gb151001 hg w8 hbox hb;have BK151001:=Za (hbox);have GW151001:=Za ((by rw[hg];exact(Zx (by repeat(first|(with_reducible first|exact HB.out|apply Zn|apply Zm|apply Zt)|exact HB.out))):w.heap.size≤gb151001));have GE151001:=Za ((by rw[hg];exact(Zx (by repeat(first|(with_reducible first|exact HB.out|apply Zn|apply Zm|apply Zt)|exact HB.out))):w.heap.size≤gb151001));replace HB:=Za (Zw (by repeat(first|(with_reducible first|exact HB.out|apply Zn|apply Zm|apply Zt)|exact HB.out)) hb);clear hb hbox hg;have hcz9_0:w8.cell? ⟨gb151001,0,none⟩=some (.int .i64 a0_0):=(Zs BK151001.out 0).trans rfl;have hcz9_1:w8.cell? ⟨gb151001,1,none⟩=some (.int .i64 a0_1):=(Zs BK151001.out 1).trans rfl;have hfz9_0:=Zr BK151001.out 0;have hfz9_1:=Zr BK151001.out 1))
     go_ret
     exact⟨by first|rfl|(simp[ZB,ZA] <;> rfl)|(simp[*,ZB,ZA] <;> rfl),by repeat(first|(with_reducible first|exact HB.out|apply Zn|apply Zm|apply Zt|refine Zq ?_ GE151001.out)|exact HB.out)⟩
   ·rw[if_neg c4] at H
    have c4b0:decide (a0_1≤1000000)=false:=Zf c4
    clear c4
    obtain rfl:=Zg H
    go_enter Try.func151,Try.ntmps151
    go_wp2_with (first|((with_reducible refine ZI (N:=1) rfl ?_);refine ZH ?hg (N:=1) ?hd (cs:=#[.int .i64 a0_0,.int .i64 a0_1]) (t:=110) ?hr ?_;(case hd=>rfl);(case hg=>rfl);(case hr=>first|(go_simp;done)|(go_simp;rfl));intro gb151001 hg w10 hbox hb;have BK151001:=Za (hbox);have GW151001:=Za ((by rw[hg];exact(Zx (by repeat(first|(with_reducible first|exact HB.out|apply Zn|apply Zm|apply Zt)|exact HB.out))):w.heap.size≤gb151001));have GE151001:=Za ((by rw[hg];exact(Zx (by repeat(first|(with_reducible first|exact HB.out|apply Zn|apply Zm|apply Zt)|exact HB.out))):w.heap.size≤gb151001));replace HB:=Za (Zw (by repeat(first|(with_reducible first|exact HB.out|apply Zn|apply Zm|apply Zt)|exact HB.out)) hb);clear hb hbox hg;have hcz11_0:w10.cell? ⟨gb151001,0,none⟩=some (.int .i64 a0_0):=(Zs BK151001.out 0).trans rfl;have hcz11_1:w10.cell? ⟨gb151001,1,none⟩=some (.int .i64 a0_1):=(Zs BK151001.out 1).trans rfl;have hfz11_0:=Zr BK151001.out 0;have hfz11_1:=Zr BK151001.out 1))
    go_ret
    exact⟨by first|rfl|(simp[ZB,ZA] <;> rfl)|(simp[*,ZB,ZA] <;> rfl),by repeat(first|(with_reducible first|exact HB.out|apply Zn|apply Zm|apply Zt|refine Zq ?_ GE151001.out)|exact HB.out)⟩
  ·rw[if_neg c3] at H
   have c3b0:decide (a0_0≤a0_1)=false:=Zf c3
   clear c3
   obtain rfl:=Zg H
   go_enter Try.func151,Try.ntmps151
   go_wp2_with (first|((with_reducible refine ZI (N:=1) rfl ?_);refine ZH ?hg (N:=1) ?hd (cs:=#[.int .i64 a0_0,.int .i64 a0_1]) (t:=110) ?hr ?_;(case hd=>rfl);(case hg=>rfl);(case hr=>first|(go_simp;done)|(go_simp;rfl));intro gb151001 hg w12 hbox hb;have BK151001:=Za (hbox);have GW151001:=Za ((by rw[hg];exact(Zx (by repeat(first|(with_reducible first|exact HB.out|apply Zn|apply Zm|apply Zt)|exact HB.out))):w.heap.size≤gb151001));have GE151001:=Za ((by rw[hg];exact(Zx (by repeat(first|(with_reducible first|exact HB.out|apply Zn|apply Zm|apply Zt)|exact HB.out))):w.heap.size≤gb151001));replace HB:=Za (Zw (by repeat(first|(with_reducible first|exact HB.out|apply Zn|apply Zm|apply Zt)|exact HB.out)) hb);clear hb hbox hg;have hcz13_0:w12.cell? ⟨gb151001,0,none⟩=some (.int .i64 a0_0):=(Zs BK151001.out 0).trans rfl;have hcz13_1:w12.cell? ⟨gb151001,1,none⟩=some (.int .i64 a0_1):=(Zs BK151001.out 1).trans rfl;have hfz13_0:=Zr BK151001.out 0;have hfz13_1:=Zr BK151001.out 1))
   go_ret
   exact⟨by first|rfl|(simp[ZB,ZA] <;> rfl)|(simp[*,ZB,ZA] <;> rfl),by repeat(first|(with_reducible first|exact HB.out|apply Zn|apply Zm|apply Zt|refine Zq ?_ GE151001.out)|exact HB.out)⟩
 ·rw[if_neg c2] at H
  have c2b0:decide ((-1000000)≤a0_0)=false:=Zf c2
  clear c2
  obtain rfl:=Zg H
  go_enter Try.func151,Try.ntmps151
  go_wp2_with (first|((with_reducible refine ZI (N:=1) rfl ?_);refine ZH ?hg (N:=1) ?hd (cs:=#[.int .i64 a0_0,.int .i64 a0_1]) (t:=110) ?hr ?_;(case hd=>rfl);(case hg=>rfl);(case hr=>first|(go_simp;done)|(go_simp;rfl));intro gb151001 hg w14 hbox hb;have BK151001:=Za (hbox);have GW151001:=Za ((by rw[hg];exact(Zx (by repeat(first|(with_reducible first|exact HB.out|apply Zn|apply Zm|apply Zt)|exact HB.out))):w.heap.size≤gb151001));have GE151001:=Za ((by rw[hg];exact(Zx (by repeat(first|(with_reducible first|exact HB.out|apply Zn|apply Zm|apply Zt)|exact HB.out))):w.heap.size≤gb151001));replace HB:=Za (Zw (by repeat(first|(with_reducible first|exact HB.out|apply Zn|apply Zm|apply Zt)|exact HB.out)) hb);clear hb hbox hg;have hcz15_0:w14.cell? ⟨gb151001,0,none⟩=some (.int .i64 a0_0):=(Zs BK151001.out 0).trans rfl;have hcz15_1:w14.cell? ⟨gb151001,1,none⟩=some (.int .i64 a0_1):=(Zs BK151001.out 1).trans rfl;have hfz15_0:=Zr BK151001.out 0;have hfz15_1:=Zr BK151001.out 1))
  go_ret
  exact⟨by first|rfl|(simp[ZB,ZA] <;> rfl)|(simp[*,ZB,ZA] <;> rfl),by repeat(first|(with_reducible first|exact HB.out|apply Zn|apply Zm|apply Zt|refine Zq ?_ GE151001.out)|exact HB.out)⟩
mutual
def ZS.j0:Nat→Bool→Int→List (S112)→Option (Bool)
 | 0,_,_,_=>none
 | k+1,x14,x112002000,x112002001=>if x14=true then(some false) else(ZS.l0 k x112002001 (x112002001.length:Int) 0 x112002000 x112002001)
def ZS.l0:Nat→List (S112)→Int→Int→Int→List (S112)→Option (Bool)
 | 0,_,_,_,_,_=>none
 | k+1,x16,x17,x18,x112002000,x112002001=>if x18<x17 then(if 0≤x18 then(if x18<(x16.length:Int) then((ZW.f ((ZM x16 x18).f0) 0 (wrap64 (x112002000 - 1))).bind fun t112005=>(if t112005=true then((ZW.f ((ZM x16 x18).f1) 0 (wrap64 (x112002000 - 1))).bind fun t112006=>(if t112006=true then((ZaU.f ((ZM x16 x18).f2.f0) ((ZM x16 x18).f2.f1)).bind fun t112007=>(if t112007=true then(ZS.l0 k x16 x17 (wrap64 (x18+1)) x112002000 x112002001) else(some false))) else(some false))) else(some false))) else(none)) else(none)) else(some true)
end
def ZS.f (k:Nat) (a0_0:Int) (l0_1:List (S112)):Option (Bool):=(ZW.f a0_0 1 8).bind fun t112002=>(if t112002=true then(ZS.j0 k (decide ((l0_1.length:Int) > 40)) a0_0 l0_1) else(ZS.j0 k true a0_0 l0_1))
set_option maxHeartbeats 8000000 in
set_option maxRecDepth 100000 in
theorem ZS.calls (k:Nat) (a0_0:Int) (A0_1:Option Addr) (c0_1:Nat) (l0_1:List (S112)) (r:Bool) (w:World) (hr0_1:Kd.C k112 w A0_1 l0_1.length l0_1) (hc0_1:l0_1.length≤c0_1) (h:ZS.f k a0_0 l0_1=some r) :
  Calls Try.prog 112 #[.agg #[.int .i64 a0_0,.slice A0_1 l0_1.length c0_1]] w fun e w'=>e=.returned (.bool r)∧Below w.heap.size w w':=by
 have hu58:=Try.underlying58
 have hu112:=Try.underlying112
 have hu110:=Try.underlying110
 have HR0_1:=Za hr0_1;have HC0_1:=Za hc0_1;clear hr0_1 hc0_1
 have HB:=Za (Below.refl w.heap.size w)
 have H:((ZW.f a0_0 1 8).bind fun t112002=>(if t112002=true then(ZS.j0 k (decide ((l0_1.length:Int) > 40)) a0_0 l0_1) else(ZS.j0 k true a0_0 l0_1)))=some r:=h
 clear h;have HC2:=Za H;clear H
 go_enter Try.func112,Try.ntmps112
 go_upto_region 1 with (first|((with_reducible refine ZI (N:=1) rfl ?_);(try(refine Zbe (by rfl) ?_;dsimp only));refine ZH ?hg (N:=1) ?hd (cs:=#[.int .i64 a0_0,.slice A0_1 l0_1.length c0_1]) (t:=58) ?hr ?_;(case hd=>rfl);(case hg=>rfl);(case hr=>first|(go_simp;done)|(go_simp;rfl));intro gb112001 hg w3 hbox hb;have BK112001:=Za (hbox);have GW112001:=Za ((by rw[hg];exact(Zx (by repeat(first|(with_reducible first|exact HB.out|apply Zn|apply Zm|apply Zt)|exact HB.out))):w.heap.size≤gb112001));have GE112001:=Za ((by rw[hg];exact(Zx (by repeat(first|(with_reducible first|exact HB.out|apply Zn|apply Zm|apply Zt)|exact HB.out))):w.heap.size≤gb112001));replace HB:=Za (Zw (by repeat(first|(with_reducible first|exact HB.out|apply Zn|apply Zm|apply Zt)|exact HB.out)) hb);clear hb hbox hg))
 (try simp only[Act.put,List.setIfInBounds_toArray,List.set_cons_zero,List.set_cons_succ])
 go_cut [14] (fun v14 wc=>∃(kq:Nat) (x14_1:Bool),v14=.bool x14_1∧Aside0 (ZS.j0 kq x14_1 a0_0 l0_1=some r)∧Aside0 (kq≤k)∧Aside0 (wc.heap[gb112001]? = some (.cells #[.int .i64 a0_0,(.slice A0_1 l0_1.length c0_1)] 58 (0,0)))∧Aside0 (Below w.heap.size w wc))
 case first=>
  have H:=HC2.out
  clear HC2
  replace H:=Zh H
  obtain⟨t112002,A40,H⟩:=H
  replace H:(if t112002=true then(ZS.j0 k (decide ((l0_1.length:Int) > 40)) a0_0 l0_1) else(ZS.j0 k true a0_0 l0_1))=some r:=H
  have A4:=Za A40;clear A40
  by_cases c5:t112002=true
  ·subst c5
   have H1:(ZS.j0 k (decide ((l0_1.length:Int) > 40)) a0_0 l0_1)=some r:=by rw[if_pos rfl] at H;exact H
   clear H
   have H:=H1
   clear H1
   have H':=Za H
   clear H
   have hcz6_0:w3.cell? ⟨gb112001,0,none⟩=some (.int .i64 a0_0):=(Zs BK112001.out 0).trans rfl
   have hcz6_1:w3.cell? ⟨gb112001,1,none⟩=some (.slice A0_1 l0_1.length c0_1):=(Zs BK112001.out 1).trans rfl
   have hfz6_0:=Zr BK112001.out 0
   have hfz6_1:=Zr BK112001.out 1
   go_wp2_with (first|((with_reducible refine ZG (f:=68) rfl ?_);refine ZQ (some 7) rfl rfl Try.func68 (by kernel_rfl) rfl #[.int .i64 a0_0,.int .i64 1,.int .i64 8] rfl (by(try simp only[List.map_toArray,List.map_cons,List.map_nil]);first|done|rfl|(simp only[Zk,Zj];rfl)) ?_;(with_reducible refine(ZW.calls a0_0 1 8 true _ A4.out).mono ?_);rintro e w' ⟨rfl,⟨nd,rfl⟩⟩;refine⟨_,rfl,?_⟩))
   go_meet
   case rel=>exact⟨_,(decide ((l0_1.length:Int) > 40)),(by first|rfl|(simp;done)|(simp[*];done)),H',⟨by first|omega|exact Nat.le_refl _⟩,⟨by(with_reducible repeat(first|refine Zp ?_ _|refine Zu ?_|refine Zo ?_ _));exact BK112001.out⟩,⟨by repeat(first|(with_reducible first|exact HB.out|apply Zn|apply Zm|apply Zt|refine Zq ?_ GE112001.out)|exact HB.out)⟩⟩
  ·replace c5:=Bool.eq_false_iff.mpr c5
   subst c5
   have H1:(ZS.j0 k true a0_0 l0_1)=some r:=by rw[if_neg (show ¬(false=true) by decide)] at H;exact H
   clear H
   have H:=H1
   clear H1
   have H':=Za H
   clear H
   have hcz7_0:w3.cell? ⟨gb112001,0,none⟩=some (.int .i64 a0_0):=(Zs BK112001.out 0).trans rfl
   have hcz7_1:w3.cell? ⟨gb112001,1,none⟩=some (.slice A0_1 l0_1.length c0_1):=(Zs BK112001.out 1).trans rfl
   have hfz7_0:=Zr BK112001.out 0
   have hfz7_1:=Zr BK112001.out 1
   go_wp2_with (first|((with_reducible refine ZG (f:=68) rfl ?_);refine ZQ (some 7) rfl rfl Try.func68 (by kernel_rfl) rfl #[.int .i64 a0_0,.int .i64 1,.int .i64 8] rfl (by(try simp only[List.map_toArray,List.map_cons,List.map_nil]);first|done|rfl|(simp only[Zk,Zj];rfl)) ?_;(with_reducible refine(ZW.calls a0_0 1 8 false _ A4.out).mono ?_);rintro e w' ⟨rfl,⟨nd,rfl⟩⟩;refine⟨_,rfl,?_⟩))
   go_meet
   case rel=>exact⟨_,(true),(by first|rfl|(simp;done)|(simp[*];done)),H',⟨by first|omega|exact Nat.le_refl _⟩,⟨by(with_reducible repeat(first|refine Zp ?_ _|refine Zu ?_|refine Zo ?_ _));exact BK112001.out⟩,⟨by repeat(first|(with_reducible first|exact HB.out|apply Zn|apply Zm|apply Zt|refine Zq ?_ GE112001.out)|exact HB.out)⟩⟩
 case rest=>
  clear HC2
  try clear c1
  try clear p2
  try clear c5
  try clear c6
  try clear hcz6_0
  try clear hcz6_1
  try clear hcz7_0
  try clear hcz7_1
  try clear hfz6_0
  try clear hfz6_1
  try clear hfz7_0
  try clear hfz7_1
  obtain⟨kq,x14_1,rfl,HA,HJ1,BK112001,HB⟩:=hcut
  cases kq with
  | zero=>exact absurd HA.out (by simp[ZS.j0])
  | succ kj1=>
   have H:=HA.out
   clear HA
   simp only[ZS.j0] at H
   by_cases c8:x14_1=true
   ·subst c8
    have H1:(some false)=some r:=by rw[if_pos rfl] at H;exact H
    clear H
    have H:=H1
    clear H1
    obtain rfl:=Zg H
    go_wp2
    go_ret
    exact⟨by first|rfl|(simp[ZB,ZA] <;> rfl)|(simp[*,ZB,ZA] <;> rfl),by repeat(first|(with_reducible first|exact HB.out|apply Zn|apply Zm|apply Zt|refine Zq ?_ GE112001.out)|exact HB.out)⟩
   ·replace c8:=Bool.eq_false_iff.mpr c8
    subst c8
    have H1:(ZS.l0 kj1 l0_1 (l0_1.length:Int) 0 a0_0 l0_1)=some r:=by rw[if_neg (show ¬(false=true) by decide)] at H;exact H
    clear H
    have H:=H1
    clear H1
    have H':=Za H
    clear H
    have hcz9_0:wc.cell? ⟨gb112001,0,none⟩=some (.int .i64 a0_0):=(Zs BK112001.out 0).trans rfl
    have hcz9_1:wc.cell? ⟨gb112001,1,none⟩=some (.slice A0_1 l0_1.length c0_1):=(Zs BK112001.out 1).trans rfl
    have hfz9_0:=Zr BK112001.out 0
    have hfz9_1:=Zr BK112001.out 1
    go_wp2
    go_loopg [18] kj1 (fun kq v18 w'=>∃(x18_2:Int),v18=.int .i64 x18_2∧Aside0 (ZS.l0 kq l0_1 (l0_1.length:Int) x18_2 a0_0 l0_1=some r)∧Aside0 (kq≤kj1)∧Aside0 (w'.heap[gb112001]? = some (.cells #[.int .i64 a0_0,(.slice A0_1 l0_1.length c0_1)] 58 (0,0)))∧Aside0 (Below w.heap.size w w'))
    case atStart=>exact⟨(0),(by first|rfl|(simp;done)|(simp[*];done)),H',⟨Nat.le_refl _⟩,⟨by(with_reducible repeat(first|refine Zp ?_ _|refine Zu ?_|refine Zo ?_ _));exact BK112001.out⟩,⟨by repeat(first|(with_reducible first|exact HB.out|apply Zn|apply Zm|apply Zt|refine Zq ?_ GE112001.out)|exact HB.out)⟩⟩
    case round=>
     clear H'
     try clear c1
     try clear p2
     try clear c5
     try clear c6
     try clear c8
     try clear hcz6_0
     try clear hcz6_1
     try clear hcz7_0
     try clear hcz7_1
     try clear hcz9_0
     try clear hcz9_1
     try clear hfz6_0
     try clear hfz6_1
     try clear hfz7_0
     try clear hfz7_1
     try clear hfz9_0
     try clear hfz9_1
     try clear p2
     obtain⟨x18_2,rfl,HA,HK2,BK112001,HB⟩:=hrel
     cases gk with
     | zero=>exact absurd HA.out (by simp[ZS.l0])
     | succ k2=>
      have H:=HA.out
      clear HA
      simp only[ZS.l0] at H
      by_cases c10:x18_2<(l0_1.length:Int)
      ·rw[if_pos c10] at H
       have c10b0:decide (x18_2<(l0_1.length:Int))=true:=Ze c10
       clear c10
       by_cases c11:0≤x18_2
       ·rw[if_pos c11] at H
        have c11b0:decide (0≤x18_2)=true:=Ze c11
        clear c11
        by_cases c12:x18_2<(l0_1.length:Int)
        ·rw[if_pos c12] at H
         have c12b0:decide (x18_2<(l0_1.length:Int))=true:=Ze c12
         clear c12
         replace H:=Zh H
         obtain⟨t112005,A130,H⟩:=H
         replace H:(if t112005=true then((ZW.f ((ZM l0_1 x18_2).f1) 0 (wrap64 (a0_0 - 1))).bind fun t112006=>(if t112006=true then((ZaU.f ((ZM l0_1 x18_2).f2.f0) ((ZM l0_1 x18_2).f2.f1)).bind fun t112007=>(if t112007=true then(ZS.l0 k2 l0_1 (l0_1.length:Int) (wrap64 (x18_2+1)) a0_0 l0_1) else(some false))) else(some false))) else(some false))=some r:=H
         have A13:=Za A130;clear A130
         by_cases c14:t112005=true
         ·subst c14
          have H1:((ZW.f ((ZM l0_1 x18_2).f1) 0 (wrap64 (a0_0 - 1))).bind fun t112006=>(if t112006=true then((ZaU.f ((ZM l0_1 x18_2).f2.f0) ((ZM l0_1 x18_2).f2.f1)).bind fun t112007=>(if t112007=true then(ZS.l0 k2 l0_1 (l0_1.length:Int) (wrap64 (x18_2+1)) a0_0 l0_1) else(some false))) else(some false)))=some r:=by rw[if_pos rfl] at H;exact H
          clear H
          have H:=H1
          clear H1
          replace H:=Zh H
          obtain⟨t112006,A150,H⟩:=H
          replace H:(if t112006=true then((ZaU.f ((ZM l0_1 x18_2).f2.f0) ((ZM l0_1 x18_2).f2.f1)).bind fun t112007=>(if t112007=true then(ZS.l0 k2 l0_1 (l0_1.length:Int) (wrap64 (x18_2+1)) a0_0 l0_1) else(some false))) else(some false))=some r:=H
          have A15:=Za A150;clear A150
          by_cases c16:t112006=true
          ·subst c16
           have H1:((ZaU.f ((ZM l0_1 x18_2).f2.f0) ((ZM l0_1 x18_2).f2.f1)).bind fun t112007=>(if t112007=true then(ZS.l0 k2 l0_1 (l0_1.length:Int) (wrap64 (x18_2+1)) a0_0 l0_1) else(some false)))=some r:=by rw[if_pos rfl] at H;exact H
           clear H
           have H:=H1
           clear H1
           replace H:=Zh H
           obtain⟨t112007,A170,H⟩:=H
           replace H:(if t112007=true then(ZS.l0 k2 l0_1 (l0_1.length:Int) (wrap64 (x18_2+1)) a0_0 l0_1) else(some false))=some r:=H
           have A17:=Za A170;clear A170
           by_cases c18:t112007=true
           ·subst c18
            have H1:(ZS.l0 k2 l0_1 (l0_1.length:Int) (wrap64 (x18_2+1)) a0_0 l0_1)=some r:=by rw[if_pos rfl] at H;exact H
            clear H
            have H:=H1
            clear H1
            have H':=Za H
            clear H
            have p112003:0≤(x18_2:Int):=Zd (by first|(with_reducible assumption)|assumption)
            have q112003:x18_2<(l0_1.length:Int):=Zd (by first|(with_reducible assumption)|assumption)
            obtain⟨ad112003,e112003,hx112003_0,hx112003_1,hx112003_2,hx112003_3⟩:=ZaY HR0_1.out x18_2 p112003 q112003
            cases e112003
            replace hx112003_0:=(HB.out.cell (Zc w _ hx112003_0)).trans hx112003_0
            replace hx112003_1:=(HB.out.cell (Zc w _ hx112003_1)).trans hx112003_1
            replace hx112003_2:=(HB.out.cell (Zc w _ hx112003_2)).trans hx112003_2
            replace hx112003_3:=(HB.out.cell (Zc w _ hx112003_3)).trans hx112003_3
            replace p112003:=eq_true p112003
            replace q112003:=eq_true q112003
            go_wp2_with (first|((with_reducible refine ZI (N:=4) rfl ?_);(try(refine Zbe (by rfl) ?_;dsimp only));refine ZH ?hg (N:=4) ?hd (cs:=#[.int .i64 0,.int .i64 0,.int .i64 0,.int .i64 0]) (t:=112) ?hr ?_;(case hd=>rfl);(case hg=>rfl);(case hr=>first|(go_simp;done)|(go_simp;rfl));intro gb112004 hg w19 hbox hb;have BK112004:=Za (hbox);have GW112004:=Za ((by rw[hg];exact(Zx (by repeat(first|(with_reducible first|exact HB.out|apply Zn|apply Zm|apply Zt|refine Zq ?_ GE112001.out)|exact HB.out))):w.heap.size≤gb112004));have GE112004:=Za ((by rw[hg];exact(Zx (by repeat(first|(with_reducible first|exact HB.out|apply Zn|apply Zm|apply Zt|refine Zq ?_ GE112001.out)|exact HB.out))):w.heap.size≤gb112004));have NB112001_112004:=Za ((by rw[hg];exact Nat.ne_of_lt (ZO (g:=gb112001) (o:=.cells #[.int .i64 a0_0,.slice (some ad112003) l0_1.length c0_1] 58 (0,0)) (by(with_reducible repeat(first|refine Zp ?_ _|refine Zu ?_|refine Zo ?_ _));exact BK112001.out)):gb112001≠gb112004));have NB112004_112001:=Za ((by rw[hg];exact Nat.ne_of_gt (ZO (g:=gb112001) (o:=.cells #[.int .i64 a0_0,.slice (some ad112003) l0_1.length c0_1] 58 (0,0)) (by(with_reducible repeat(first|refine Zp ?_ _|refine Zu ?_|refine Zo ?_ _));exact BK112001.out)):gb112004≠gb112001));replace BK112001:=Za (Zy (g:=gb112001) (o:=.cells #[.int .i64 a0_0,.slice (some ad112003) l0_1.length c0_1] 58 (0,0)) (by(with_reducible repeat(first|refine Zp ?_ _|refine Zu ?_|refine Zo ?_ _));exact BK112001.out) hb);replace HB:=Za (Zw (by repeat(first|(with_reducible first|exact HB.out|apply Zn|apply Zm|apply Zt|refine Zq ?_ GE112001.out)|exact HB.out)) hb);clear hb hbox hg;have hnb20:=NB112004_112001.out;have hnc20:=NB112001_112004.out;have hcz21_0:w19.cell? ⟨gb112004,0,none⟩=some (.int .i64 0):=(Zs BK112004.out 0).trans rfl;have hcz21_1:w19.cell? ⟨gb112004,1,none⟩=some (.int .i64 0):=(Zs BK112004.out 1).trans rfl;have hcz21_2:w19.cell? ⟨gb112004,2,none⟩=some (.int .i64 0):=(Zs BK112004.out 2).trans rfl;have hcz21_3:w19.cell? ⟨gb112004,3,none⟩=some (.int .i64 0):=(Zs BK112004.out 3).trans rfl;have hfz21_0:=Zr BK112004.out 0;have hfz21_1:=Zr BK112004.out 1;have hfz21_2:=Zr BK112004.out 2;have hfz21_3:=Zr BK112004.out 3;have hcz22_0:w19.cell? ⟨gb112001,0,none⟩=some (.int .i64 a0_0):=(Zs BK112001.out 0).trans rfl;have hcz22_1:w19.cell? ⟨gb112001,1,none⟩=some (.slice (some ad112003) l0_1.length c0_1):=(Zs BK112001.out 1).trans rfl;have hfz22_0:=Zr BK112001.out 0;have hfz22_1:=Zr BK112001.out 1)|((with_reducible refine ZG (f:=68) rfl ?_);refine ZQ (some 27) rfl rfl Try.func68 (by kernel_rfl) rfl #[.int .i64 ((ZM l0_1 x18_2).f0),.int .i64 0,.int .i64 (wrap64 (a0_0 - 1))] rfl (by(try simp only[List.map_toArray,List.map_cons,List.map_nil]);first|done|rfl|(simp only[Zk,Zj];rfl)) ?_;(with_reducible refine(ZW.calls ((ZM l0_1 x18_2).f0) 0 (wrap64 (a0_0 - 1)) true _ A13.out).mono ?_);rintro e w' ⟨rfl,⟨nd,rfl⟩⟩;refine⟨_,rfl,?_⟩)|(go_at_call 68;(with_reducible refine(ZW.calls ((ZM l0_1 x18_2).f1) 0 (wrap64 (a0_0 - 1)) true _ A15.out).mono ?_);rintro e w' ⟨rfl,⟨nd,rfl⟩⟩)|(go_at_call 151;(with_reducible refine(ZaU.calls ((ZM l0_1 x18_2).f2.f0) ((ZM l0_1 x18_2).f2.f1) true _ A17.out).mono ?_);rintro e w23 ⟨rfl,hb⟩;replace BK112001:=Za (Zy (g:=gb112001) (o:=.cells #[.int .i64 a0_0,.slice (some ad112003) l0_1.length c0_1] 58 (0,0)) (by(with_reducible repeat(first|refine Zp ?_ _|refine Zu ?_|refine Zo ?_ _));refine ZD ?_ NB112001_112004.out _;(with_reducible repeat(first|refine Zp ?_ _|refine Zu ?_|refine Zo ?_ _));refine ZD ?_ NB112001_112004.out _;(with_reducible repeat(first|refine Zp ?_ _|refine Zu ?_|refine Zo ?_ _));refine ZD ?_ NB112001_112004.out _;(with_reducible repeat(first|refine Zp ?_ _|refine Zu ?_|refine Zo ?_ _));refine ZD ?_ NB112001_112004.out _;(with_reducible repeat(first|refine Zp ?_ _|refine Zu ?_|refine Zo ?_ _));exact BK112001.out) hb);replace BK112004:=Za (Zy (g:=gb112004) (o:=.cells #[.int .i64 ((ZM l0_1 x18_2).f0),.int .i64 ((ZM l0_1 x18_2).f1),.int .i64 ((ZM l0_1 x18_2).f2.f0),.int .i64 ((ZM l0_1 x18_2).f2.f1)] 112 (0,0)) (by(with_reducible repeat(first|refine Zp ?_ _|refine Zu ?_|refine Zo ?_ _));refine ZL (cs:=#[.int .i64 ((ZM l0_1 x18_2).f0),.int .i64 ((ZM l0_1 x18_2).f1),.int .i64 ((ZM l0_1 x18_2).f2.f0),.int .i64 0]) ?_ 3 _ rfl;(with_reducible repeat(first|refine Zp ?_ _|refine Zu ?_|refine Zo ?_ _));refine ZL (cs:=#[.int .i64 ((ZM l0_1 x18_2).f0),.int .i64 ((ZM l0_1 x18_2).f1),.int .i64 0,.int .i64 0]) ?_ 2 _ rfl;(with_reducible repeat(first|refine Zp ?_ _|refine Zu ?_|refine Zo ?_ _));refine ZL (cs:=#[.int .i64 ((ZM l0_1 x18_2).f0),.int .i64 0,.int .i64 0,.int .i64 0]) ?_ 1 _ rfl;(with_reducible repeat(first|refine Zp ?_ _|refine Zu ?_|refine Zo ?_ _));refine ZL (cs:=#[.int .i64 0,.int .i64 0,.int .i64 0,.int .i64 0]) ?_ 0 _ rfl;(with_reducible repeat(first|refine Zp ?_ _|refine Zu ?_|refine Zo ?_ _));exact BK112004.out) hb);replace HB:=Za (Zw (by repeat(first|(with_reducible first|exact HB.out|apply Zn|apply Zm|apply Zt|refine Zq ?_ GE112001.out|refine Zq ?_ GE112004.out)|exact HB.out)) hb);(try clear hb);(try clear hb2);(try clear hk);(try clear hi)))
            go_roundg k2
            case measure=>have:=HJ1.out;have:=HK2.out;omega
            case rel=>exact⟨(wrap64 (x18_2+1)),(by first|rfl|(simp;done)|(simp[*];done)),H',⟨by have:=HJ1.out;have:=HK2.out;omega⟩,⟨by(with_reducible repeat(first|refine Zp ?_ _|refine Zu ?_|refine Zo ?_ _));exact BK112001.out⟩,⟨by repeat(first|(with_reducible first|exact HB.out|apply Zn|apply Zm|apply Zt|refine Zq ?_ GE112001.out|refine Zq ?_ GE112004.out)|exact HB.out)⟩⟩
           ·replace c18:=Bool.eq_false_iff.mpr c18
            subst c18
            have H1:(some false)=some r:=by rw[if_neg (show ¬(false=true) by decide)] at H;exact H
            clear H
            have H:=H1
            clear H1
            obtain rfl:=Zg H
            have p112003:0≤(x18_2:Int):=Zd (by first|(with_reducible assumption)|assumption)
            have q112003:x18_2<(l0_1.length:Int):=Zd (by first|(with_reducible assumption)|assumption)
            obtain⟨ad112003,e112003,hx112003_0,hx112003_1,hx112003_2,hx112003_3⟩:=ZaY HR0_1.out x18_2 p112003 q112003
            cases e112003
            replace hx112003_0:=(HB.out.cell (Zc w _ hx112003_0)).trans hx112003_0
            replace hx112003_1:=(HB.out.cell (Zc w _ hx112003_1)).trans hx112003_1
            replace hx112003_2:=(HB.out.cell (Zc w _ hx112003_2)).trans hx112003_2
            replace hx112003_3:=(HB.out.cell (Zc w _ hx112003_3)).trans hx112003_3
            replace p112003:=eq_true p112003
            replace q112003:=eq_true q112003
            go_wp2_with (first|((with_reducible refine ZI (N:=4) rfl ?_);(try(refine Zbe (by rfl) ?_;dsimp only));refine ZH ?hg (N:=4) ?hd (cs:=#[.int .i64 0,.int .i64 0,.int .i64 0,.int .i64 0]) (t:=112) ?hr ?_;(case hd=>rfl);(case hg=>rfl);(case hr=>first|(go_simp;done)|(go_simp;rfl));intro gb112004 hg w24 hbox hb;have BK112004:=Za (hbox);have GW112004:=Za ((by rw[hg];exact(Zx (by repeat(first|(with_reducible first|exact HB.out|apply Zn|apply Zm|apply Zt|refine Zq ?_ GE112001.out)|exact HB.out))):w.heap.size≤gb112004));have GE112004:=Za ((by rw[hg];exact(Zx (by repeat(first|(with_reducible first|exact HB.out|apply Zn|apply Zm|apply Zt|refine Zq ?_ GE112001.out)|exact HB.out))):w.heap.size≤gb112004));have NB112001_112004:=Za ((by rw[hg];exact Nat.ne_of_lt (ZO (g:=gb112001) (o:=.cells #[.int .i64 a0_0,.slice (some ad112003) l0_1.length c0_1] 58 (0,0)) (by(with_reducible repeat(first|refine Zp ?_ _|refine Zu ?_|refine Zo ?_ _));exact BK112001.out)):gb112001≠gb112004));have NB112004_112001:=Za ((by rw[hg];exact Nat.ne_of_gt (ZO (g:=gb112001) (o:=.cells #[.int .i64 a0_0,.slice (some ad112003) l0_1.length c0_1] 58 (0,0)) (by(with_reducible repeat(first|refine Zp ?_ _|refine Zu ?_|refine Zo ?_ _));exact BK112001.out)):gb112004≠gb112001));replace BK112001:=Za (Zy (g:=gb112001) (o:=.cells #[.int .i64 a0_0,.slice (some ad112003) l0_1.length c0_1] 58 (0,0)) (by(with_reducible repeat(first|refine Zp ?_ _|refine Zu ?_|refine Zo ?_ _));exact BK112001.out) hb);replace HB:=Za (Zw (by repeat(first|(with_reducible first|exact HB.out|apply Zn|apply Zm|apply Zt|refine Zq ?_ GE112001.out)|exact HB.out)) hb);clear hb hbox hg;have hnb25:=NB112004_112001.out;have hnc25:=NB112001_112004.out;have hcz26_0:w24.cell? ⟨gb112004,0,none⟩=some (.int .i64 0):=(Zs BK112004.out 0).trans rfl;have hcz26_1:w24.cell? ⟨gb112004,1,none⟩=some (.int .i64 0):=(Zs BK112004.out 1).trans rfl;have hcz26_2:w24.cell? ⟨gb112004,2,none⟩=some (.int .i64 0):=(Zs BK112004.out 2).trans rfl;have hcz26_3:w24.cell? ⟨gb112004,3,none⟩=some (.int .i64 0):=(Zs BK112004.out 3).trans rfl;have hfz26_0:=Zr BK112004.out 0;have hfz26_1:=Zr BK112004.out 1;have hfz26_2:=Zr BK112004.out 2;have hfz26_3:=Zr BK112004.out 3;have hcz27_0:w24.cell? ⟨gb112001,0,none⟩=some (.int .i64 a0_0):=(Zs BK112001.out 0).trans rfl;have hcz27_1:w24.cell? ⟨gb112001,1,none⟩=some (.slice (some ad112003) l0_1.length c0_1):=(Zs BK112001.out 1).trans rfl;have hfz27_0:=Zr BK112001.out 0;have hfz27_1:=Zr BK112001.out 1)|((with_reducible refine ZG (f:=68) rfl ?_);refine ZQ (some 27) rfl rfl Try.func68 (by kernel_rfl) rfl #[.int .i64 ((ZM l0_1 x18_2).f0),.int .i64 0,.int .i64 (wrap64 (a0_0 - 1))] rfl (by(try simp only[List.map_toArray,List.map_cons,List.map_nil]);first|done|rfl|(simp only[Zk,Zj];rfl)) ?_;(with_reducible refine(ZW.calls ((ZM l0_1 x18_2).f0) 0 (wrap64 (a0_0 - 1)) true _ A13.out).mono ?_);rintro e w' ⟨rfl,⟨nd,rfl⟩⟩;refine⟨_,rfl,?_⟩)|(go_at_call 68;(with_reducible refine(ZW.calls ((ZM l0_1 x18_2).f1) 0 (wrap64 (a0_0 - 1)) true _ A15.out).mono ?_);rintro e w' ⟨rfl,⟨nd,rfl⟩⟩)|(go_at_call 151;(with_reducible refine(ZaU.calls ((ZM l0_1 x18_2).f2.f0) ((ZM l0_1 x18_2).f2.f1) false _ A17.out).mono ?_);rintro e w28 ⟨rfl,hb⟩;replace BK112001:=Za (Zy (g:=gb112001) (o:=.cells #[.int .i64 a0_0,.slice (some ad112003) l0_1.length c0_1] 58 (0,0)) (by(with_reducible repeat(first|refine Zp ?_ _|refine Zu ?_|refine Zo ?_ _));refine ZD ?_ NB112001_112004.out _;(with_reducible repeat(first|refine Zp ?_ _|refine Zu ?_|refine Zo ?_ _));refine ZD ?_ NB112001_112004.out _;(with_reducible repeat(first|refine Zp ?_ _|refine Zu ?_|refine Zo ?_ _));refine ZD ?_ NB112001_112004.out _;(with_reducible repeat(first|refine Zp ?_ _|refine Zu ?_|refine Zo ?_ _));refine ZD ?_ NB112001_112004.out _;(with_reducible repeat(first|refine Zp ?_ _|refine Zu ?_|refine Zo ?_ _));exact BK112001.out) hb);replace BK112004:=Za (Zy (g:=gb112004) (o:=.cells #[.int .i64 ((ZM l0_1 x18_2).f0),.int .i64 ((ZM l0_1 x18_2).f1),.int .i64 ((ZM l0_1 x18_2).f2.f0),.int .i64 ((ZM l0_1 x18_2).f2.f1)] 112 (0,0)) (by(with_reducible repeat(first|refine Zp ?_ _|refine Zu ?_|refine Zo ?_ _));refine ZL (cs:=#[.int .i64 ((ZM l0_1 x18_2).f0),.int .i64 ((ZM l0_1 x18_2).f1),.int .i64 ((ZM l0_1 x18_2).f2.f0),.int .i64 0]) ?_ 3 _ rfl;(with_reducible repeat(first|refine Zp ?_ _|refine Zu ?_|refine Zo ?_ _));refine ZL (cs:=#[.int .i64 ((ZM l0_1 x18_2).f0),.int .i64 ((ZM l0_1 x18_2).f1),.int .i64 0,.int .i64 0]) ?_ 2 _ rfl;(with_reducible repeat(first|refine Zp ?_ _|refine Zu ?_|refine Zo ?_ _));refine ZL (cs:=#[.int .i64 ((ZM l0_1 x18_2).f0),.int .i64 0,.int .i64 0,.int .i64 0]) ?_ 1 _ rfl;(with_reducible repeat(first|refine Zp ?_ _|refine Zu ?_|refine Zo ?_ _));refine ZL (cs:=#[.int .i64 0,.int .i64 0,.int .i64 0,.int .i64 0]) ?_ 0 _ rfl;(with_reducible repeat(first|refine Zp ?_ _|refine Zu ?_|refine Zo ?_ _));exact BK112004.out) hb);replace HB:=Za (Zw (by repeat(first|(with_reducible first|exact HB.out|apply Zn|apply Zm|apply Zt|refine Zq ?_ GE112001.out|refine Zq ?_ GE112004.out)|exact HB.out)) hb);(try clear hb);(try clear hb2);(try clear hk);(try clear hi)))
            go_ret
            exact⟨by first|rfl|(simp[ZB,ZA] <;> rfl)|(simp[*,ZB,ZA] <;> rfl),by repeat(first|(with_reducible first|exact HB.out|apply Zn|apply Zm|apply Zt|refine Zq ?_ GE112001.out|refine Zq ?_ GE112004.out)|exact HB.out)⟩
          ·replace c16:=Bool.eq_false_iff.mpr c16
           subst c16
           have H1:(some false)=some r:=by rw[if_neg (show ¬(false=true) by decide)] at H;exact H
           clear H
           have H:=H1
           clear H1
           obtain rfl:=Zg H
           have p112003:0≤(x18_2:Int):=Zd (by first|(with_reducible assumption)|assumption)
           have q112003:x18_2<(l0_1.length:Int):=Zd (by first|(with_reducible assumption)|assumption)
           obtain⟨ad112003,e112003,hx112003_0,hx112003_1,hx112003_2,hx112003_3⟩:=ZaY HR0_1.out x18_2 p112003 q112003
           cases e112003
           replace hx112003_0:=(HB.out.cell (Zc w _ hx112003_0)).trans hx112003_0
           replace hx112003_1:=(HB.out.cell (Zc w _ hx112003_1)).trans hx112003_1
           replace hx112003_2:=(HB.out.cell (Zc w _ hx112003_2)).trans hx112003_2
           replace hx112003_3:=(HB.out.cell (Zc w _ hx112003_3)).trans hx112003_3
           replace p112003:=eq_true p112003
           replace q112003:=eq_true q112003
           go_wp2_with (first|((with_reducible refine ZI (N:=4) rfl ?_);(try(refine Zbe (by rfl) ?_;dsimp only));refine ZH ?hg (N:=4) ?hd (cs:=#[.int .i64 0,.int .i64 0,.int .i64 0,.int .i64 0]) (t:=112) ?hr ?_;(case hd=>rfl);(case hg=>rfl);(case hr=>first|(go_simp;done)|(go_simp;rfl));intro gb112004 hg w29 hbox hb;have BK112004:=Za (hbox);have GW112004:=Za ((by rw[hg];exact(Zx (by repeat(first|(with_reducible first|exact HB.out|apply Zn|apply Zm|apply Zt|refine Zq ?_ GE112001.out)|exact HB.out))):w.heap.size≤gb112004));have GE112004:=Za ((by rw[hg];exact(Zx (by repeat(first|(with_reducible first|exact HB.out|apply Zn|apply Zm|apply Zt|refine Zq ?_ GE112001.out)|exact HB.out))):w.heap.size≤gb112004));have NB112001_112004:=Za ((by rw[hg];exact Nat.ne_of_lt (ZO (g:=gb112001) (o:=.cells #[.int .i64 a0_0,.slice (some ad112003) l0_1.length c0_1] 58 (0,0)) (by(with_reducible repeat(first|refine Zp ?_ _|refine Zu ?_|refine Zo ?_ _));exact BK112001.out)):gb112001≠gb112004));have NB112004_112001:=Za ((by rw[hg];exact Nat.ne_of_gt (ZO (g:=gb112001) (o:=.cells #[.int .i64 a0_0,.slice (some ad112003) l0_1.length c0_1] 58 (0,0)) (by(with_reducible repeat(first|refine Zp ?_ _|refine Zu ?_|refine Zo ?_ _));exact BK112001.out)):gb112004≠gb112001));replace BK112001:=Za (Zy (g:=gb112001) (o:=.cells #[.int .i64 a0_0,.slice (some ad112003) l0_1.length c0_1] 58 (0,0)) (by(with_reducible repeat(first|refine Zp ?_ _|refine Zu ?_|refine Zo ?_ _));exact BK112001.out) hb);replace HB:=Za (Zw (by repeat(first|(with_reducible first|exact HB.out|apply Zn|apply Zm|apply Zt|refine Zq ?_ GE112001.out)|exact HB.out)) hb);clear hb hbox hg;have hnb30:=NB112004_112001.out;have hnc30:=NB112001_112004.out;have hcz31_0:w29.cell? ⟨gb112004,0,none⟩=some (.int .i64 0):=(Zs BK112004.out 0).trans rfl;have hcz31_1:w29.cell? ⟨gb112004,1,none⟩=some (.int .i64 0):=(Zs BK112004.out 1).trans rfl;have hcz31_2:w29.cell? ⟨gb112004,2,none⟩=some (.int .i64 0):=(Zs BK112004.out 2).trans rfl;have hcz31_3:w29.cell? ⟨gb112004,3,none⟩=some (.int .i64 0):=(Zs BK112004.out 3).trans rfl;have hfz31_0:=Zr BK112004.out 0;have hfz31_1:=Zr BK112004.out 1;have hfz31_2:=Zr BK112004.out 2;have hfz31_3:=Zr BK112004.out 3;have hcz32_0:w29.cell? ⟨gb112001,0,none⟩=some (.int .i64 a0_0):=(Zs BK112001.out 0).trans rfl;have hcz32_1:w29.cell? ⟨gb112001,1,none⟩=some (.slice (some ad112003) l0_1.length c0_1):=(Zs BK112001.out 1).trans rfl;have hfz32_0:=Zr BK112001.out 0;have hfz32_1:=Zr BK112001.out 1)|((with_reducible refine ZG (f:=68) rfl ?_);refine ZQ (some 27) rfl rfl Try.func68 (by kernel_rfl) rfl #[.int .i64 ((ZM l0_1 x18_2).f0),.int .i64 0,.int .i64 (wrap64 (a0_0 - 1))] rfl (by(try simp only[List.map_toArray,List.map_cons,List.map_nil]);first|done|rfl|(simp only[Zk,Zj];rfl)) ?_;(with_reducible refine(ZW.calls ((ZM l0_1 x18_2).f0) 0 (wrap64 (a0_0 - 1)) true _ A13.out).mono ?_);rintro e w' ⟨rfl,⟨nd,rfl⟩⟩;refine⟨_,rfl,?_⟩)|(go_at_call 68;(with_reducible refine(ZW.calls ((ZM l0_1 x18_2).f1) 0 (wrap64 (a0_0 - 1)) false _ A15.out).mono ?_);rintro e w' ⟨rfl,⟨nd,rfl⟩⟩))
           go_ret
           exact⟨by first|rfl|(simp[ZB,ZA] <;> rfl)|(simp[*,ZB,ZA] <;> rfl),by repeat(first|(with_reducible first|exact HB.out|apply Zn|apply Zm|apply Zt|refine Zq ?_ GE112001.out|refine Zq ?_ GE112004.out)|exact HB.out)⟩
         ·replace c14:=Bool.eq_false_iff.mpr c14
          subst c14
          have H1:(some false)=some r:=by rw[if_neg (show ¬(false=true) by decide)] at H;exact H
          clear H
          have H:=H1
          clear H1
          obtain rfl:=Zg H
          have p112003:0≤(x18_2:Int):=Zd (by first|(with_reducible assumption)|assumption)
          have q112003:x18_2<(l0_1.length:Int):=Zd (by first|(with_reducible assumption)|assumption)
          obtain⟨ad112003,e112003,hx112003_0,hx112003_1,hx112003_2,hx112003_3⟩:=ZaY HR0_1.out x18_2 p112003 q112003
          cases e112003
          replace hx112003_0:=(HB.out.cell (Zc w _ hx112003_0)).trans hx112003_0
          replace hx112003_1:=(HB.out.cell (Zc w _ hx112003_1)).trans hx112003_1
          replace hx112003_2:=(HB.out.cell (Zc w _ hx112003_2)).trans hx112003_2
          replace hx112003_3:=(HB.out.cell (Zc w _ hx112003_3)).trans hx112003_3
          replace p112003:=eq_true p112003
          replace q112003:=eq_true q112003
          go_wp2_with (first|((with_reducible refine ZI (N:=4) rfl ?_);(try(refine Zbe (by rfl) ?_;dsimp only));refine ZH ?hg (N:=4) ?hd (cs:=#[.int .i64 0,.int .i64 0,.int .i64 0,.int .i64 0]) (t:=112) ?hr ?_;(case hd=>rfl);(case hg=>rfl);(case hr=>first|(go_simp;done)|(go_simp;rfl));intro gb112004 hg w33 hbox hb;have BK112004:=Za (hbox);have GW112004:=Za ((by rw[hg];exact(Zx (by repeat(first|(with_reducible first|exact HB.out|apply Zn|apply Zm|apply Zt|refine Zq ?_ GE112001.out)|exact HB.out))):w.heap.size≤gb112004));have GE112004:=Za ((by rw[hg];exact(Zx (by repeat(first|(with_reducible first|exact HB.out|apply Zn|apply Zm|apply Zt|refine Zq ?_ GE112001.out)|exact HB.out))):w.heap.size≤gb112004));have NB112001_112004:=Za ((by rw[hg];exact Nat.ne_of_lt (ZO (g:=gb112001) (o:=.cells #[.int .i64 a0_0,.slice (some ad112003) l0_1.length c0_1] 58 (0,0)) (by(with_reducible repeat(first|refine Zp ?_ _|refine Zu ?_|refine Zo ?_ _));exact BK112001.out)):gb112001≠gb112004));have NB112004_112001:=Za ((by rw[hg];exact Nat.ne_of_gt (ZO (g:=gb112001) (o:=.cells #[.int .i64 a0_0,.slice (some ad112003) l0_1.length c0_1] 58 (0,0)) (by(with_reducible repeat(first|refine Zp ?_ _|refine Zu ?_|refine Zo ?_ _));exact BK112001.out)):gb112004≠gb112001));replace BK112001:=Za (Zy (g:=gb112001) (o:=.cells #[.int .i64 a0_0,.slice (some ad112003) l0_1.length c0_1] 58 (0,0)) (by(with_reducible repeat(first|refine Zp ?_ _|refine Zu ?_|refine Zo ?_ _));exact BK112001.out) hb);replace HB:=Za (Zw (by repeat(first|(with_reducible first|exact HB.out|apply Zn|apply Zm|apply Zt|refine Zq ?_ GE112001.out)|exact HB.out)) hb);clear hb hbox hg;have hnb34:=NB112004_112001.out;have hnc34:=NB112001_112004.out;have hcz35_0:w33.cell? ⟨gb112004,0,none⟩=some (.int .i64 0):=(Zs BK112004.out 0).trans rfl;have hcz35_1:w33.cell? ⟨gb112004,1,none⟩=some (.int .i64 0):=(Zs BK112004.out 1).trans rfl;have hcz35_2:w33.cell? ⟨gb112004,2,none⟩=some (.int .i64 0):=(Zs BK112004.out 2).trans rfl;have hcz35_3:w33.cell? ⟨gb112004,3,none⟩=some (.int .i64 0):=(Zs BK112004.out 3).trans rfl;have hfz35_0:=Zr BK112004.out 0;have hfz35_1:=Zr BK112004.out 1;have hfz35_2:=Zr BK112004.out 2;have hfz35_3:=Zr BK112004.out 3;have hcz36_0:w33.cell? ⟨gb112001,0,none⟩=some (.int .i64 a0_0):=(Zs BK112001.out 0).trans rfl;have hcz36_1:w33.cell? ⟨gb112001,1,none⟩=some (.slice (some ad112003) l0_1.length c0_1):=(Zs BK112001.out 1).trans rfl;have hfz36_0:=Zr BK112001.out 0;have hfz36_1:=Zr BK112001.out 1)|((with_reducible refine ZG (f:=68) rfl ?_);refine ZQ (some 27) rfl rfl Try.func68 (by kernel_rfl) rfl #[.int .i64 ((ZM l0_1 x18_2).f0),.int .i64 0,.int .i64 (wrap64 (a0_0 - 1))] rfl (by(try simp only[List.map_toArray,List.map_cons,List.map_nil]);first|done|rfl|(simp only[Zk,Zj];rfl)) ?_;(with_reducible refine(ZW.calls ((ZM l0_1 x18_2).f0) 0 (wrap64 (a0_0 - 1)) false _ A13.out).mono ?_);rintro e w' ⟨rfl,⟨nd,rfl⟩⟩;refine⟨_,rfl,?_⟩))
          go_ret
          exact⟨by first|rfl|(simp[ZB,ZA] <;> rfl)|(simp[*,ZB,ZA] <;> rfl),by repeat(first|(with_reducible first|exact HB.out|apply Zn|apply Zm|apply Zt|refine Zq ?_ GE112001.out|refine Zq ?_ GE112004.out)|exact HB.out)⟩
        ·rw[if_neg c12] at H
         exact absurd H (by simp)
       ·rw[if_neg c11] at H
        exact absurd H (by simp)
      ·rw[if_neg c10] at H
       have c10b0:decide (x18_2<(l0_1.length:Int))=false:=Zf c10
       clear c10
       obtain rfl:=Zg H
       go_wp2
       go_ret
       exact⟨by first|rfl|(simp[ZB,ZA] <;> rfl)|(simp[*,ZB,ZA] <;> rfl),by repeat(first|(with_reducible first|exact HB.out|apply Zn|apply Zm|apply Zt|refine Zq ?_ GE112001.out)|exact HB.out)⟩
def Zax.l0:Nat→ByteArray→List (S116)→Int→Int→Option (Int)
 | 0,_,_,_,_=>none
 | k+1,x1,x8,x9,x10=>if x10<x9 then(if 0≤x10 then(if x10<(x8.length:Int) then(if ((Zz x8 x10).f0).toList=x1.toList then(some x10) else(Zax.l0 k x1 x8 x9 (wrap64 (x10+1)))) else(none)) else(none)) else(some (-1))
def Zax.f (k:Nat) (l0_0:List (S116)) (l0_1:List (S90)) (a0_2:Int) (a1:ByteArray):Option (Int):=Zax.l0 k a1 l0_0 (l0_0.length:Int) 0
set_option maxHeartbeats 8000000 in
set_option maxRecDepth 100000 in
theorem Zax.calls (k:Nat) (A0_0:Option Addr) (c0_0:Nat) (l0_0:List (S116)) (A0_1:Option Addr) (c0_1:Nat) (l0_1:List (S90)) (a0_2:Int) (a1:ByteArray) (r:Int) (w:World) (hr0_0:Kd.C k116 w A0_0 l0_0.length l0_0) (hc0_0:l0_0.length≤c0_0) (hr0_1:Kd.C k90 w A0_1 l0_1.length l0_1) (hc0_1:l0_1.length≤c0_1) (h:Zax.f k l0_0 l0_1 a0_2 a1=some r) :
  Calls Try.prog 154 #[.agg #[.slice A0_0 l0_0.length c0_0,.slice A0_1 l0_1.length c0_1,.int .i64 a0_2],.string a1] w fun e w'=>e=.returned (.int .i64 r)∧Below w.heap.size w w':=by
 have hu35:=Try.underlying35
 have hu116:=Try.underlying116
 have HR0_0:=Za hr0_0;have HC0_0:=Za hc0_0;clear hr0_0 hc0_0;have HR0_1:=Za hr0_1;have HC0_1:=Za hc0_1;clear hr0_1 hc0_1
 have HB:=Za (Below.refl w.heap.size w)
 have H:(Zax.l0 k a1 l0_0 (l0_0.length:Int) 0)=some r:=h
 clear h
 have H':=Za H
 clear H
 go_enter Try.func154,Try.ntmps154
 go_wp2_with (first|((with_reducible refine ZI (N:=2) rfl ?_);refine ZH ?hg (N:=2) ?hd (cs:=#[.slice A0_0 l0_0.length c0_0,.slice A0_1 l0_1.length c0_1,.int .i64 a0_2]) (t:=35) ?hr ?_;(case hd=>rfl);(case hg=>rfl);(case hr=>first|(go_simp;done)|(go_simp;rfl));intro gb154001 hg w3 hbox hb;have BK154001:=Za (hbox);have GW154001:=Za ((by rw[hg];exact(Zx (by exact HB.out)):w.heap.size≤gb154001));have GE154001:=Za ((by rw[hg];exact(Zx (by exact HB.out)):w.heap.size≤gb154001));replace HB:=Za (Zw (by exact HB.out) hb);clear hb hbox hg;have hcz4_0:w3.cell? ⟨gb154001,0,none⟩=some (.slice A0_0 l0_0.length c0_0):=(Zs BK154001.out 0).trans rfl;have hcz4_1:w3.cell? ⟨gb154001,1,none⟩=some (.slice A0_1 l0_1.length c0_1):=(Zs BK154001.out 1).trans rfl;have hcz4_2:w3.cell? ⟨gb154001,2,none⟩=some (.int .i64 a0_2):=(Zs BK154001.out 2).trans rfl;have hfz4_0:=Zr BK154001.out 0;have hfz4_1:=Zr BK154001.out 1;have hfz4_2:=Zr BK154001.out 2))
 go_loopg [10] k (fun kq v10 w'=>∃(x10_1:Int),v10=.int .i64 x10_1∧Aside0 (Zax.l0 kq a1 l0_0 (l0_0.length:Int) x10_1=some r)∧Aside0 (kq≤k)∧Aside0 (w'.heap[gb154001]? = some (.cells #[(.slice A0_0 l0_0.length c0_0),(.slice A0_1 l0_1.length c0_1),.int .i64 a0_2] 35 (0,0)))∧Aside0 (Below w.heap.size w w'))
 case atStart=>exact⟨(0),(by first|rfl|(simp;done)|(simp[*];done)),H',⟨Nat.le_refl _⟩,⟨by(with_reducible repeat(first|refine Zp ?_ _|refine Zu ?_|refine Zo ?_ _));exact BK154001.out⟩,⟨by repeat(first|(with_reducible first|exact HB.out|apply Zn|apply Zm|apply Zt|refine Zq ?_ GE154001.out)|exact HB.out)⟩⟩
 case round=>
  clear H'
  try clear c1
  try clear p2
  obtain⟨x10_1,rfl,HA,HK1,BK154001,HB⟩:=hrel
  cases gk with
  | zero=>exact absurd HA.out (by simp[Zax.l0])
  | succ k1=>
   have H:=HA.out
   clear HA
   simp only[Zax.l0] at H
   by_cases c5:x10_1<(l0_0.length:Int)
   ·rw[if_pos c5] at H
    have c5b0:decide (x10_1<(l0_0.length:Int))=true:=Ze c5
    clear c5
    by_cases c6:0≤x10_1
    ·rw[if_pos c6] at H
     have c6b0:decide (0≤x10_1)=true:=Ze c6
     clear c6
     by_cases c7:x10_1<(l0_0.length:Int)
     ·rw[if_pos c7] at H
      have c7b0:decide (x10_1<(l0_0.length:Int))=true:=Ze c7
      clear c7
      by_cases c8:((Zz l0_0 x10_1).f0).toList=a1.toList
      ·rw[if_pos c8] at H
       have c8b0:(((Zz l0_0 x10_1).f0).toList == a1.toList)=true:=beq_iff_eq.mpr c8
       have c8b1:(((Zz l0_0 x10_1).f0).toList != a1.toList)=false:=bne_eq_false_iff_eq.mpr c8
       clear c8
       obtain rfl:=Zg H
       have p154002:0≤(x10_1:Int):=Zd (by with_reducible assumption)
       have q154002:x10_1<(l0_0.length:Int):=Zd (by with_reducible assumption)
       obtain⟨ad154002,A154002_1,c154002_1,e154002,hx154002_0,hx154002_1,hx154002_2,hl154002_1,hi154002_1⟩:=Zaq HR0_0.out x10_1 p154002 q154002
       cases e154002
       replace hx154002_0:=(HB.out.cell (Zc w _ hx154002_0)).trans hx154002_0
       replace hx154002_1:=(HB.out.cell (Zc w _ hx154002_1)).trans hx154002_1
       replace hx154002_2:=(HB.out.cell (Zc w _ hx154002_2)).trans hx154002_2
       have HR154002_1:=Za hi154002_1;have HC154002_1:=Za hl154002_1;clear hi154002_1 hl154002_1
       replace p154002:=eq_true p154002
       replace q154002:=eq_true q154002
       go_wp2_with (first|((with_reducible refine ZI (N:=6) rfl ?_);refine ZH ?hg (N:=6) ?hd (cs:=#[.string (⟨#[]⟩:ByteArray),.slice none 0 0,.int .i64 0]) (t:=116) ?hr ?_;(case hd=>rfl);(case hg=>rfl);(case hr=>first|(go_simp;done)|(go_simp;rfl));intro gb154003 hg w9 hbox hb;have n0_:=Za (Zy BK154001.out hb);have n1_:=Za (Zw (by exact HB.out) hb);have n2_:=Za (hbox);have n3_:=Za ((by rw[hg];exact(Zx (by exact HB.out)):w.heap.size≤gb154003));have n4_:=n3_;have n5_:=Za ((by rw[hg];exact Nat.ne_of_lt (ZO BK154001.out):gb154001≠gb154003));have n6_:=Za n5_.out.symm;clear BK154001;clear HB;have BK154001:=n0_;have HB:=n1_;have BK154003:=n2_;have GW154003:=n3_;have GE154003:=n4_;have NB154001_154003:=n5_;have NB154003_154001:=n6_;clear n0_ n1_ n2_ n3_ n4_ n5_ n6_;clear hb hbox hg;have hnb10:=NB154003_154001.out;have hnc10:=NB154001_154003.out;have hcz11_0:w9.cell? ⟨gb154003,0,none⟩=some (.string (⟨#[]⟩:ByteArray)):=(Zs BK154003.out 0).trans rfl;have hcz11_1:w9.cell? ⟨gb154003,1,none⟩=some (.slice none 0 0):=(Zs BK154003.out 1).trans rfl;have hcz11_2:w9.cell? ⟨gb154003,2,none⟩=some (.int .i64 0):=(Zs BK154003.out 2).trans rfl;have hfz11_0:=Zr BK154003.out 0;have hfz11_1:=Zr BK154003.out 1;have hfz11_2:=Zr BK154003.out 2))
       go_ret
       exact⟨by first|rfl|(simp[ZB,ZA] <;> rfl)|(simp[*,ZB,ZA] <;> rfl),by repeat(first|(with_reducible first|exact HB.out|apply Zn|apply Zm|apply Zt|refine Zq ?_ GE154001.out|refine Zq ?_ GE154003.out)|exact HB.out)⟩
      ·rw[if_neg c8] at H
       have c8b0:(((Zz l0_0 x10_1).f0).toList == a1.toList)=false:=beq_eq_false_iff_ne.mpr c8
       have c8b1:(((Zz l0_0 x10_1).f0).toList != a1.toList)=true:=bne_iff_ne.mpr c8
       have H':=Za H
       clear H
       have p154002:0≤(x10_1:Int):=Zd (by with_reducible assumption)
       have q154002:x10_1<(l0_0.length:Int):=Zd (by with_reducible assumption)
       obtain⟨ad154002,A154002_1,c154002_1,e154002,hx154002_0,hx154002_1,hx154002_2,hl154002_1,hi154002_1⟩:=Zaq HR0_0.out x10_1 p154002 q154002
       cases e154002
       replace hx154002_0:=(HB.out.cell (Zc w _ hx154002_0)).trans hx154002_0
       replace hx154002_1:=(HB.out.cell (Zc w _ hx154002_1)).trans hx154002_1
       replace hx154002_2:=(HB.out.cell (Zc w _ hx154002_2)).trans hx154002_2
       have HR154002_1:=Za hi154002_1;have HC154002_1:=Za hl154002_1;clear hi154002_1 hl154002_1
       replace p154002:=eq_true p154002
       replace q154002:=eq_true q154002
       go_wp2_with (first|((with_reducible refine ZI (N:=6) rfl ?_);refine ZH ?hg (N:=6) ?hd (cs:=#[.string (⟨#[]⟩:ByteArray),.slice none 0 0,.int .i64 0]) (t:=116) ?hr ?_;(case hd=>rfl);(case hg=>rfl);(case hr=>first|(go_simp;done)|(go_simp;rfl));intro gb154003 hg w12 hbox hb;have n0_:=Za (Zy BK154001.out hb);have n1_:=Za (Zw (by exact HB.out) hb);have n2_:=Za (hbox);have n3_:=Za ((by rw[hg];exact(Zx (by exact HB.out)):w.heap.size≤gb154003));have n4_:=n3_;have n5_:=Za ((by rw[hg];exact Nat.ne_of_lt (ZO BK154001.out):gb154001≠gb154003));have n6_:=Za n5_.out.symm;clear BK154001;clear HB;have BK154001:=n0_;have HB:=n1_;have BK154003:=n2_;have GW154003:=n3_;have GE154003:=n4_;have NB154001_154003:=n5_;have NB154003_154001:=n6_;clear n0_ n1_ n2_ n3_ n4_ n5_ n6_;clear hb hbox hg;have hnb13:=NB154003_154001.out;have hnc13:=NB154001_154003.out;have hcz14_0:w12.cell? ⟨gb154003,0,none⟩=some (.string (⟨#[]⟩:ByteArray)):=(Zs BK154003.out 0).trans rfl;have hcz14_1:w12.cell? ⟨gb154003,1,none⟩=some (.slice none 0 0):=(Zs BK154003.out 1).trans rfl;have hcz14_2:w12.cell? ⟨gb154003,2,none⟩=some (.int .i64 0):=(Zs BK154003.out 2).trans rfl;have hfz14_0:=Zr BK154003.out 0;have hfz14_1:=Zr BK154003.out 1;have hfz14_2:=Zr BK154003.out 2))
       go_roundg k1
       case measure=>have:=HK1.out;omega
       case rel=>exact⟨(wrap64 (x10_1+1)),(by first|rfl|(simp;done)|(simp[*];done)),H',⟨by have:=HK1.out;omega⟩,⟨by(with_reducible repeat(first|refine Zp ?_ _|refine Zu ?_|refine Zo ?_ _));refine ZD ?_ NB154001_154003.out _;(with_reducible repeat(first|refine Zp ?_ _|refine Zu ?_|refine Zo ?_ _));refine ZD ?_ NB154001_154003.out _;(with_reducible repeat(first|refine Zp ?_ _|refine Zu ?_|refine Zo ?_ _));refine ZD ?_ NB154001_154003.out _;(with_reducible repeat(first|refine Zp ?_ _|refine Zu ?_|refine Zo ?_ _));exact BK154001.out⟩,⟨by repeat(first|(with_reducible first|exact HB.out|apply Zn|apply Zm|apply Zt|refine Zq ?_ GE154001.out|refine Zq ?_ GE154003.out)|exact HB.out)⟩⟩
     ·rw[if_neg c7] at H
      exact absurd H (by simp)
    ·rw[if_neg c6] at H
     exact absurd H (by simp)
   ·rw[if_neg c5] at H
    have c5b0:decide (x10_1<(l0_0.length:Int))=false:=Zf c5
    clear c5
    obtain rfl:=Zg H
    go_wp2
    go_ret
    exact⟨by first|rfl|(simp[ZB,ZA] <;> rfl)|(simp[*,ZB,ZA] <;> rfl),by repeat(first|(with_reducible first|exact HB.out|apply Zn|apply Zm|apply Zt|refine Zq ?_ GE154001.out)|exact HB.out)⟩
end Go.Proofs.Ytodfnelilhjoeaa.Pr
namespace Go.Proofs.Ytodfnelilhjoeaa.Pr
open Go.RowKit Go.Proofs.YtodfnelilhjoeaaW.PrintWords Go.Proofs.Ytodfnelilhjoeaa.Ni
def ZcH (ns:List ZZ) (s:ByteArray):Int:=Za8 (fun n=>decide (n.f0.toList=s.toList)) ns
theorem ZdF (ns:List ZZ) (ts:List PTie) (z:Int) (s:ByteArray) (hl:ns.length≤9223372036854775807) (k:Nat) (hk:2 ^ 64≤k):Zax.f k ns ts z s=some (ZcH ns s):=by
 have key:=ZaC ns.length (fun k i=>(∀j y,j<i→ns[j]? = some y→decide (y.f0.toList=s.toList)=false)→Zax.l0 k s ns ns.length (i:Int)=some (ZcH ns s)) 0
  (fun k _ hb=>by
   simp only[Zax.l0]
   rw[if_neg (by omega),ZcH,Zbu _ _ hb])
  (fun k i _ hi ih hb=>by
   simp only[Zax.l0]
   rw[if_pos (by omega),if_pos (by omega),if_pos (by omega),Zbz,Z6 hi (by omega)]
   by_cases h:(ns.getD i z116).f0.toList=s.toList
   ·rw[if_pos h,ZcH,ZbI _ ns i _ (getD_some hi z116) (Ze h) hb]
   ·rw[if_neg h,ih]
    intro j y hj hy
    by_cases e:j=i
    ·subst e
     rw[getD_some hi z116] at hy
     cases hy
     exact Zf h
    ·exact hb j y (by omega) hy) 0 k (Nat.zero_le _) (by omega)
 unfold Zax.f
 exact key (fun j y hj=>absurd hj (by omega))
end Go.Proofs.Ytodfnelilhjoeaa.Pr
