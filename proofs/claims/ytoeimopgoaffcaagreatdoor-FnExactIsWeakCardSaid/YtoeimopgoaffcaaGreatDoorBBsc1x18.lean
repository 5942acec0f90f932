/- The texts of one claim, put together by a program of this session. -/
import Derived.Test.YtoeimopgoaffcaaGreatDoorBBsc1x1
import Derived.Test.YtoeimopgoaffcaaGreatDoorBBsc1x2
namespace Go.Proofs.YtoeimopgoaffcaaGreatDoor.Pr
open Go.RowKit Go.Proofs.YtoeimopgoaffcaaGreatDoorW.PrintWords Go.Proofs.YtoeimopgoaffcaaGreatDoorW.PrintLast Go.Proofs.YtoeimopgoaffcaaGreatDoorW.PrintMore
attribute [local go_sem] ZU ZS ZW ZV ZO ZN ZT ZR
set_option linter.unusedVariables false
set_option linter.unusedSimpArgs false
def Zaj.l0:Nat→List Int→Int→List Int→Int→Int→Option (Int)
 | 0,_,_,_,_,_=>none
 | k+1,x1,x5,x9,x10,x11=>if x11<x10 then(if 0≤x11 then(if x11<(x9.length:Int) then((ZaE.f (rd x9 x11)).bind fun t95002=>(if 0≤(wrap64 (t95002 - 1)) then(if (wrap64 (t95002 - 1))<(x1.length:Int) then(if (rd x9 x11)<0 then(Zaj.l0 k x1 (mn x5 (wrap64 (-(rd x1 (wrap64 (t95002 - 1)))))) x9 x10 (wrap64 (x11+1))) else(Zaj.l0 k x1 (mn x5 (rd x1 (wrap64 (t95002 - 1)))) x9 x10 (wrap64 (x11+1)))) else(none)) else(none))) else(none)) else(none)) else(some x5)
def Zaj.f (k:Nat) (l0:List Int) (l1:List Int):Option (Int):=Zaj.l0 k l1 1 l0 (l0.length:Int) 0
set_option maxHeartbeats 8000000 in
set_option maxRecDepth 100000 in
theorem Zaj.calls (k:Nat) (A0:Option Addr) (c0:Nat) (l0:List Int) (A1:Option Addr) (c1:Nat) (l1:List Int) (r:Int) (w:World) (hr0:Kd.C (Kd.int .i64) w A0 l0.length l0) (hc0:l0.length≤c0) (hr1:Kd.C (Kd.int .i64) w A1 l1.length l1) (hc1:l1.length≤c1) (h:Zaj.f k l0 l1=some r) :
  Calls Tryz.prog 95 #[.slice A0 l0.length c0,.slice A1 l1.length c1] w fun e w'=>e=.returned (.int .i64 r)∧Below w.heap.size w w':=by
 have HR0:=Za hr0;have HC0:=Za hc0;clear hr0 hc0;have HR1:=Za hr1;have HC1:=Za hc1;clear hr1 hc1
 have HB:=Za (Below.refl w.heap.size w)
 have H:(Zaj.l0 k l1 1 l0 (l0.length:Int) 0)=some r:=h
 clear h
 have H':=Za H
 clear H
 go_enter Tryz.func95,Tryz.ntmps95
 go_wp2
 go_loopg [5,11] k (fun kq v5 v11 w'=>∃(x5_1:Int) (x11_1:Int),v5=.int .i64 x5_1∧v11=.int .i64 x11_1∧Aside0 (Zaj.l0 kq l1 x5_1 l0 (l0.length:Int) x11_1=some r)∧Aside0 (kq≤k)∧Aside0 (Below w.heap.size w w'))
 case atStart=>exact⟨(1),(0),(by first|rfl|(simp;done)|(simp[*];done)),(by first|rfl|(simp;done)|(simp[*];done)),H',⟨Nat.le_refl _⟩,⟨by repeat(first|(with_reducible first|exact HB.out|apply Zn|apply Zm|apply Zo)|exact HB.out)⟩⟩
 case round=>
  clear H'
  try clear c1
  try clear p2
  obtain⟨x5_1,x11_1,rfl,rfl,HA,HK1,HB⟩:=hrel
  cases gk with
  | zero=>exact absurd HA.out (by simp[Zaj.l0])
  | succ k1=>
   have H:=HA.out
   clear HA
   simp only[Zaj.l0] at H
   by_cases c3:x11_1<(l0.length:Int)
   ·rw[if_pos c3] at H
    have c3b0:decide (x11_1<(l0.length:Int))=true:=Ze c3
    clear c3
    by_cases c4:0≤x11_1
    ·rw[if_pos c4] at H
     have c4b0:decide (0≤x11_1)=true:=Ze c4
     clear c4
     by_cases c5:x11_1<(l0.length:Int)
     ·rw[if_pos c5] at H
      have c5b0:decide (x11_1<(l0.length:Int))=true:=Ze c5
      clear c5
      replace H:=Zh H
      obtain⟨t95002,A60,H⟩:=H;have A6:=Za A60;clear A60
      obtain⟨ji7,hji7⟩:∃j_:Int,(wrap64 (t95002 - 1))=j_:=⟨_,rfl⟩
      replace H:(if 0≤(ji7) then(if (ji7)<(l1.length:Int) then(if (rd l0 x11_1)<0 then(Zaj.l0 k1 l1 (mn x5_1 (wrap64 (-(rd l1 (ji7))))) l0 (l0.length:Int) (wrap64 (x11_1+1))) else(Zaj.l0 k1 l1 (mn x5_1 (rd l1 (ji7))) l0 (l0.length:Int) (wrap64 (x11_1+1)))) else(none)) else(none))=some r:=by first|(rw[hji7] at H;exact H)|(simp only[hji7] at H ⊢;exact H)
      (try rw[hji7] at A6)
      have hji7w:(IntKind.i64.wrap (t95002 - 1))=ji7:=(i64_w _).trans hji7
      by_cases c8:0≤(ji7)
      ·rw[if_pos c8] at H
       have c8b0:decide (0≤(ji7))=true:=Ze c8
       clear c8
       by_cases c9:(ji7)<(l1.length:Int)
       ·rw[if_pos c9] at H
        have c9b0:decide ((ji7)<(l1.length:Int))=true:=Ze c9
        clear c9
        by_cases c10:(rd l0 x11_1)<0
        ·rw[if_pos c10] at H
         have c10b0:decide ((rd l0 x11_1)<0)=true:=Ze c10
         clear c10
         obtain⟨ji11,hji11⟩:∃j_:Int,(mn x5_1 (wrap64 (-(rd l1 (ji7)))))=j_:=⟨_,rfl⟩
         replace H:(Zaj.l0 k1 l1 ji11 l0 (l0.length:Int) (wrap64 (x11_1+1)))=some r:=by first|(rw[hji11] at H;exact H)|(simp only[hji11] at H ⊢;exact H)
         (try rw[hji11] at A6)
         have hji11_:(if (wrap64 (-(rd l1 (ji7))))<x5_1 then(wrap64 (-(rd l1 (ji7)))) else x5_1)=ji11:=hji11
         have H':=Za H
         clear H
         have p95001:0≤(x11_1:Int):=Zd (by first|(with_reducible assumption)|assumption)
         have q95001:x11_1<(l0.length:Int):=Zd (by first|(with_reducible assumption)|assumption)
         obtain⟨ad95001,e95001,hx95001_0⟩:=Kd.at_int HR0.out x11_1 p95001 q95001
         cases e95001
         replace hx95001_0:=(HB.out.cell (Zc w _ hx95001_0)).trans hx95001_0
         replace p95001:=eq_true p95001
         replace q95001:=eq_true q95001
         go_wp2_with (first|((with_reducible refine ZJ (f:=98) rfl ?_);refine Zaa (some 17) rfl rfl Tryz.func98 (by kernel_rfl) rfl #[.int .i64 (rd l0 x11_1)] rfl (by(try simp only[List.map_toArray,List.map_cons,List.map_nil]);first|done|rfl|(simp only[Zk,Zj];rfl)) ?_;(with_reducible refine(ZaE.calls (rd l0 x11_1) t95002 _ A6.out).mono ?_);rintro e w' ⟨rfl,⟨nd,rfl⟩⟩;refine⟨_,rfl,?_⟩;have p95003:0≤((ji7):Int):=Zd (by first|(with_reducible assumption)|assumption);have q95003:(ji7)<(l1.length:Int):=Zd (by first|(with_reducible assumption)|assumption);obtain⟨ad95003,e95003,hx95003_0⟩:=Kd.at_int HR1.out (ji7) p95003 q95003;cases e95003;replace hx95003_0:=(HB.out.cell (Zc w _ hx95003_0)).trans hx95003_0;replace p95003:=eq_true p95003;replace q95003:=eq_true q95003))
         go_roundg k1
         case measure=>have:=HK1.out;omega
         case rel=>exact⟨(ji11),(wrap64 (x11_1+1)),(by first|rfl|(simp;done)|(simp only[← hji11] <;> (first|rfl|simp))|(simp[*];done)),(by first|rfl|(simp;done)|(simp[*];done)),H',⟨by have:=HK1.out;omega⟩,⟨by repeat(first|(with_reducible first|exact HB.out|apply Zn|apply Zm|apply Zo)|exact HB.out)⟩⟩
        ·rw[if_neg c10] at H
         have c10b0:decide ((rd l0 x11_1)<0)=false:=Zf c10
         clear c10
         obtain⟨ji12,hji12⟩:∃j_:Int,(mn x5_1 (rd l1 (ji7)))=j_:=⟨_,rfl⟩
         replace H:(Zaj.l0 k1 l1 ji12 l0 (l0.length:Int) (wrap64 (x11_1+1)))=some r:=by first|(rw[hji12] at H;exact H)|(simp only[hji12] at H ⊢;exact H)
         (try rw[hji12] at A6)
         have hji12_:(if (rd l1 (ji7))<x5_1 then(rd l1 (ji7)) else x5_1)=ji12:=hji12
         have H':=Za H
         clear H
         have p95001:0≤(x11_1:Int):=Zd (by first|(with_reducible assumption)|assumption)
         have q95001:x11_1<(l0.length:Int):=Zd (by first|(with_reducible assumption)|assumption)
         obtain⟨ad95001,e95001,hx95001_0⟩:=Kd.at_int HR0.out x11_1 p95001 q95001
         cases e95001
         replace hx95001_0:=(HB.out.cell (Zc w _ hx95001_0)).trans hx95001_0
         replace p95001:=eq_true p95001
         replace q95001:=eq_true q95001
         go_wp2_with (first|((with_reducible refine ZJ (f:=98) rfl ?_);refine Zaa (some 17) rfl rfl Tryz.func98 (by kernel_rfl) rfl #[.int .i64 (rd l0 x11_1)] rfl (by(try simp only[List.map_toArray,List.map_cons,List.map_nil]);first|done|rfl|(simp only[Zk,Zj];rfl)) ?_;(with_reducible refine(ZaE.calls (rd l0 x11_1) t95002 _ A6.out).mono ?_);rintro e w' ⟨rfl,⟨nd,rfl⟩⟩;refine⟨_,rfl,?_⟩;have p95003:0≤((ji7):Int):=Zd (by first|(with_reducible assumption)|assumption);have q95003:(ji7)<(l1.length:Int):=Zd (by first|(with_reducible assumption)|assumption);obtain⟨ad95003,e95003,hx95003_0⟩:=Kd.at_int HR1.out (ji7) p95003 q95003;cases e95003;replace hx95003_0:=(HB.out.cell (Zc w _ hx95003_0)).trans hx95003_0;replace p95003:=eq_true p95003;replace q95003:=eq_true q95003))
         go_roundg k1
         case measure=>have:=HK1.out;omega
         case rel=>exact⟨(ji12),(wrap64 (x11_1+1)),(by first|rfl|(simp;done)|(simp only[← hji12] <;> (first|rfl|simp))|(simp[*];done)),(by first|rfl|(simp;done)|(simp[*];done)),H',⟨by have:=HK1.out;omega⟩,⟨by repeat(first|(with_reducible first|exact HB.out|apply Zn|apply Zm|apply Zo)|exact HB.out)⟩⟩
       ·rw[if_neg c9] at H
        exact absurd H (by simp)
      ·rw[if_neg c8] at H
       exact absurd H (by simp)
     ·rw[if_neg c5] at H
      exact absurd H (by simp)
    ·rw[if_neg c4] at H
     exact absurd H (by simp)
   ·rw[if_neg c3] at H
    have c3b0:decide (x11_1<(l0.length:Int))=false:=Zf c3
    clear c3
    obtain rfl:=Zg H
    go_wp2
    go_ret
    exact⟨by first|rfl|(simp[ZC,ZB] <;> rfl)|(simp[*,ZC,ZB] <;> rfl),by repeat(first|(with_reducible first|exact HB.out|apply Zn|apply Zm|apply Zo)|exact HB.out)⟩
def Zal.l0:Nat→Int→List Int→Int→Int→List Int→List Int→Option (Int)
 | 0,_,_,_,_,_,_=>none
 | k+1,x2,x10,x11,x12,x96003000,x96003001=>if x12<x11 then(if 0≤x12 then(if x12<(x10.length:Int) then(if (rd x10 x12)=x2 then(if x12<(x96003000.length:Int) then(some (rd x96003000 x12)) else(none)) else(Zal.l0 k x2 x10 x11 (wrap64 (x12+1)) x96003000 x96003001)) else(none)) else(none)) else(some 0)
def Zal.f (k:Nat) (l0_0:List (S39)) (l0_1:List (S82)) (a0_2:Int) (l1_0:List Int) (l1_1:List Int) (a2:Int):Option (Int):=(Zab.f k l0_0 l0_1 a0_2).bind fun t96003=>(Zal.l0 k a2 t96003 (t96003.length:Int) 0 l1_0 l1_1)
set_option maxHeartbeats 8000000 in
set_option maxRecDepth 100000 in
theorem Zal.calls (k:Nat) (A0_0:Option Addr) (c0_0:Nat) (l0_0:List (S39)) (A0_1:Option Addr) (c0_1:Nat) (l0_1:List (S82)) (a0_2:Int) (A1_0:Option Addr) (c1_0:Nat) (l1_0:List Int) (A1_1:Option Addr) (c1_1:Nat) (l1_1:List Int) (a2:Int) (r:Int) (w:World) (hr0_0:Kd.C k39 w A0_0 l0_0.length l0_0) (hc0_0:l0_0.length≤c0_0) (hr0_1:Kd.C k82 w A0_1 l0_1.length l0_1) (hc0_1:l0_1.length≤c0_1) (hr1_0:Kd.C (Kd.int .i64) w A1_0 l1_0.length l1_0) (hc1_0:l1_0.length≤c1_0) (hr1_1:Kd.C (Kd.int .i64) w A1_1 l1_1.length l1_1) (hc1_1:l1_1.length≤c1_1) (h:Zal.f k l0_0 l0_1 a0_2 l1_0 l1_1 a2=some r) :
  Calls Tryz.prog 96 #[.agg #[.slice A0_0 l0_0.length c0_0,.slice A0_1 l0_1.length c0_1,.int .i64 a0_2],.agg #[.slice A1_0 l1_0.length c1_0,.slice A1_1 l1_1.length c1_1],.int .i64 a2] w fun e w'=>e=.returned (.int .i64 r)∧Below w.heap.size w w':=by
 have hu25:=Tryz.underlying25
 have hu58:=Tryz.underlying58
 have HR0_0:=Za hr0_0;have HC0_0:=Za hc0_0;clear hr0_0 hc0_0;have HR0_1:=Za hr0_1;have HC0_1:=Za hc0_1;clear hr0_1 hc0_1;have HR1_0:=Za hr1_0;have HC1_0:=Za hc1_0;clear hr1_0 hc1_0;have HR1_1:=Za hr1_1;have HC1_1:=Za hc1_1;clear hr1_1 hc1_1
 have HB:=Za (Below.refl w.heap.size w)
 have H:((Zab.f k l0_0 l0_1 a0_2).bind fun t96003=>(Zal.l0 k a2 t96003 (t96003.length:Int) 0 l1_0 l1_1))=some r:=h
 clear h
 replace H:=Zh H
 obtain⟨t96003,A40,H⟩:=H;have A4:=Za A40;clear A40
 have H':=Za H
 clear H
 go_enter Tryz.func96,Tryz.ntmps96
 go_wp2_with (first|((with_reducible refine ZF (N:=3) rfl ?_);refine ZG ?hg (N:=3) ?hd (cs:=#[.slice A0_0 l0_0.length c0_0,.slice A0_1 l0_1.length c0_1,.int .i64 a0_2]) (t:=25) ?hr ?_;(case hd=>rfl);(case hg=>rfl);(case hr=>first|(go_simp;done)|(go_simp;rfl));intro gb96001 hg w5 hbox hb;have BK96001:=Za (hbox);have GW96001:=Za ((by rw[hg];exact(Zy (by repeat(first|(with_reducible first|exact HB.out|apply Zn|apply Zm|apply Zo)|exact HB.out))):w.heap.size≤gb96001));have GE96001:=Za ((by rw[hg];exact(Zy (by repeat(first|(with_reducible first|exact HB.out|apply Zn|apply Zm|apply Zo)|exact HB.out))):w.heap.size≤gb96001));replace HB:=Za (Zw (by repeat(first|(with_reducible first|exact HB.out|apply Zn|apply Zm|apply Zo)|exact HB.out)) hb);clear hb hbox hg)|((with_reducible refine ZF (N:=4) rfl ?_);refine ZG ?hg (N:=4) ?hd (cs:=#[.slice A1_0 l1_0.length c1_0,.slice A1_1 l1_1.length c1_1]) (t:=58) ?hr ?_;(case hd=>rfl);(case hg=>rfl);(case hr=>first|(go_simp;done)|(go_simp;rfl));intro gb96002 hg w6 hbox hb;have BK96002:=Za (hbox);have GW96002:=Za ((by rw[hg];exact(Zy (by repeat(first|(with_reducible first|exact HB.out|apply Zn|apply Zm|apply Zo|refine Zq ?_ GE96001.out)|exact HB.out))):w.heap.size≤gb96002));have GE96002:=Za ((by rw[hg];exact(Zy (by repeat(first|(with_reducible first|exact HB.out|apply Zn|apply Zm|apply Zo|refine Zq ?_ GE96001.out)|exact HB.out))):w.heap.size≤gb96002));have NB96001_96002:=Za ((by rw[hg];exact Nat.ne_of_lt (ZM (g:=gb96001) (o:=.cells #[.slice A0_0 l0_0.length c0_0,.slice A0_1 l0_1.length c0_1,.int .i64 a0_2] 25 (0,0)) (by(with_reducible repeat(first|refine Zt ?_ _|refine Zv ?_|refine Zs ?_ _));exact BK96001.out)):gb96001≠gb96002));have NB96002_96001:=Za ((by rw[hg];exact Nat.ne_of_gt (ZM (g:=gb96001) (o:=.cells #[.slice A0_0 l0_0.length c0_0,.slice A0_1 l0_1.length c0_1,.int .i64 a0_2] 25 (0,0)) (by(with_reducible repeat(first|refine Zt ?_ _|refine Zv ?_|refine Zs ?_ _));exact BK96001.out)):gb96002≠gb96001));replace BK96001:=Za (ZA (g:=gb96001) (o:=.cells #[.slice A0_0 l0_0.length c0_0,.slice A0_1 l0_1.length c0_1,.int .i64 a0_2] 25 (0,0)) (by(with_reducible repeat(first|refine Zt ?_ _|refine Zv ?_|refine Zs ?_ _));exact BK96001.out) hb);replace HB:=Za (Zw (by repeat(first|(with_reducible first|exact HB.out|apply Zn|apply Zm|apply Zo|refine Zq ?_ GE96001.out)|exact HB.out)) hb);clear hb hbox hg;have hcz8_0:w6.cell? ⟨gb96001,0,none⟩=some (.slice A0_0 l0_0.length c0_0):=(Zp BK96001.out 0).trans rfl;have hcz8_1:w6.cell? ⟨gb96001,1,none⟩=some (.slice A0_1 l0_1.length c0_1):=(Zp BK96001.out 1).trans rfl;have hcz8_2:w6.cell? ⟨gb96001,2,none⟩=some (.int .i64 a0_2):=(Zp BK96001.out 2).trans rfl;have hfz8_0:=Zr BK96001.out 0;have hfz8_1:=Zr BK96001.out 1;have hfz8_2:=Zr BK96001.out 2)|((with_reducible refine ZJ (f:=156) rfl ?_);refine Zaa (some 10) rfl rfl Tryz.func156 (by kernel_rfl) rfl #[.agg #[.slice A0_0 l0_0.length c0_0,.slice A0_1 l0_1.length c0_1,.int .i64 a0_2]] rfl (by(try simp only[List.map_toArray,List.map_cons,List.map_nil]);first|done|rfl|(simp only[Zk,Zj];rfl)) ?_;(with_reducible refine(Zab.calls k _ _ l0_0 _ _ l0_1 a0_2 t96003 _ ?side1 ?side2 ?side3 ?side4 A4.out).mono ?_);(case side1=>repeat(first|exact(Zb HR0_0.out HB.out)|(with_reducible refine Kd.C_alloc ?_ _)|(with_reducible refine Kd.C_drewN ?_ _)|(with_reducible refine Kd.C_drew ?_)));(case side2=>exact HC0_0.out);(case side3=>repeat(first|exact(Zb HR0_1.out HB.out)|(with_reducible refine Kd.C_alloc ?_ _)|(with_reducible refine Kd.C_drewN ?_ _)|(with_reducible refine Kd.C_drew ?_)));(case side4=>exact HC0_1.out);rintro e w9 ⟨v96004,rfl,ho0,hb⟩;refine⟨_,rfl,?_⟩;have HO96005:=Za (Kd.R_lower ho0 (Zy (by repeat(first|(with_reducible first|exact HB.out|apply Zn|apply Zm|apply Zo|refine Zq ?_ GE96001.out|refine Zq ?_ GE96002.out)|exact HB.out))));replace BK96001:=Za (ZA (g:=gb96001) (o:=.cells #[.slice A0_0 l0_0.length c0_0,.slice A0_1 l0_1.length c0_1,.int .i64 a0_2] 25 (0,0)) (by(with_reducible repeat(first|refine Zt ?_ _|refine Zv ?_|refine Zs ?_ _));exact BK96001.out) hb);replace BK96002:=Za (ZA (g:=gb96002) (o:=.cells #[.slice A1_0 l1_0.length c1_0,.slice A1_1 l1_1.length c1_1] 58 (0,0)) (by(with_reducible repeat(first|refine Zt ?_ _|refine Zv ?_|refine Zs ?_ _));exact BK96002.out) hb);replace HB:=Za (Zw (by repeat(first|(with_reducible first|exact HB.out|apply Zn|apply Zm|apply Zo|refine Zq ?_ GE96001.out|refine Zq ?_ GE96002.out)|exact HB.out)) hb);(try clear hb);(try clear hb2);(try clear hk);(try clear hi);(try clear ho0);obtain⟨Ao10,co10,eo10⟩:=Kd.R_slice HO96005.out;subst eo10))
 go_loopg [12] k (fun kq v12 w'=>∃(x12_1:Int),v12=.int .i64 x12_1∧Aside0 (Zal.l0 kq a2 t96003 (t96003.length:Int) x12_1 l1_0 l1_1=some r)∧Aside0 (kq≤k)∧Aside0 (Kd.R (Kd.int .i64) 3 w' w.heap.size (fun _=>True) (.slice Ao10 t96003.length co10) t96003)∧Aside0 (w'.heap[gb96001]? = some (.cells #[(.slice A0_0 l0_0.length c0_0),(.slice A0_1 l0_1.length c0_1),.int .i64 a0_2] 25 (0,0)))∧Aside0 (w'.heap[gb96002]? = some (.cells #[(.slice A1_0 l1_0.length c1_0),(.slice A1_1 l1_1.length c1_1)] 58 (0,0)))∧Aside0 (Below w.heap.size w w'))
 case atStart=>exact⟨(0),(by first|rfl|(simp;done)|(simp[*];done)),H',⟨Nat.le_refl _⟩,⟨by(with_reducible repeat(first|apply Kd.R_alloc|apply Kd.R_drewN|apply Kd.R_drew));exact HO96005.out⟩,⟨by(with_reducible repeat(first|refine Zt ?_ _|refine Zv ?_|refine Zs ?_ _));exact BK96001.out⟩,⟨by(with_reducible repeat(first|refine Zt ?_ _|refine Zv ?_|refine Zs ?_ _));exact BK96002.out⟩,⟨by repeat(first|(with_reducible first|exact HB.out|apply Zn|apply Zm|apply Zo|refine Zq ?_ GE96001.out|refine Zq ?_ GE96002.out)|exact HB.out)⟩⟩
 case round=>
  clear H'
  try clear c1
  try clear p2
  try clear c7
  try clear c9
  try clear hcz8_0
  try clear hcz8_1
  try clear hcz8_2
  try clear hfz8_0
  try clear hfz8_1
  try clear hfz8_2
  obtain⟨x12_1,rfl,HA,HK1,HO_10,BK96001,BK96002,HB⟩:=hrel
  cases gk with
  | zero=>exact absurd HA.out (by simp[Zal.l0])
  | succ k1=>
   have H:=HA.out
   clear HA
   simp only[Zal.l0] at H
   by_cases c11:x12_1<(t96003.length:Int)
   ·rw[if_pos c11] at H
    have c11b0:decide (x12_1<(t96003.length:Int))=true:=Ze c11
    clear c11
    by_cases c12:0≤x12_1
    ·rw[if_pos c12] at H
     have c12b0:decide (0≤x12_1)=true:=Ze c12
     clear c12
     by_cases c13:x12_1<(t96003.length:Int)
     ·rw[if_pos c13] at H
      have c13b0:decide (x12_1<(t96003.length:Int))=true:=Ze c13
      clear c13
      by_cases c14:(rd t96003 x12_1)=a2
      ·rw[if_pos c14] at H
       have c14b0:((rd t96003 x12_1) == a2)=true:=beq_iff_eq.mpr c14
       clear c14
       by_cases c15:x12_1<(l1_0.length:Int)
       ·rw[if_pos c15] at H
        have c15b0:decide (x12_1<(l1_0.length:Int))=true:=Ze c15
        clear c15
        obtain rfl:=Zg H
        have p96006:0≤(x12_1:Int):=Zd (by first|(with_reducible assumption)|assumption)
        have q96006:x12_1<(t96003.length:Int):=Zd (by first|(with_reducible assumption)|assumption)
        obtain⟨ad96006,e96006,hx96006_0⟩:=Kd.at_int (Kd.R_reads' HO_10.out).2.2 x12_1 p96006 q96006
        cases e96006
        replace p96006:=eq_true p96006
        replace q96006:=eq_true q96006
        have hcz17_0:wr.cell? ⟨gb96002,0,none⟩=some (.slice A1_0 l1_0.length c1_0):=(Zp BK96002.out 0).trans rfl
        have hcz17_1:wr.cell? ⟨gb96002,1,none⟩=some (.slice A1_1 l1_1.length c1_1):=(Zp BK96002.out 1).trans rfl
        have hfz17_0:=Zr BK96002.out 0
        have hfz17_1:=Zr BK96002.out 1
        have p96007:0≤(x12_1:Int):=Zd (by first|(with_reducible assumption)|assumption)
        have q96007:x12_1<(l1_0.length:Int):=Zd (by first|(with_reducible assumption)|assumption)
        obtain⟨ad96007,e96007,hx96007_0⟩:=Kd.at_int HR1_0.out x12_1 p96007 q96007
        cases e96007
        replace hx96007_0:=(HB.out.cell (Zc w _ hx96007_0)).trans hx96007_0
        replace p96007:=eq_true p96007
        replace q96007:=eq_true q96007
        go_wp2
        go_ret
        exact⟨by first|rfl|(simp[ZC,ZB] <;> rfl)|(simp[*,ZC,ZB] <;> rfl),by repeat(first|(with_reducible first|exact HB.out|apply Zn|apply Zm|apply Zo|refine Zq ?_ GE96001.out|refine Zq ?_ GE96002.out)|exact HB.out)⟩
       ·rw[if_neg c15] at H
        exact absurd H (by simp)
      ·rw[if_neg c14] at H
       have c14b0:((rd t96003 x12_1) == a2)=false:=beq_eq_false_iff_ne.mpr c14
       have H':=Za H
       clear H
       have p96006:0≤(x12_1:Int):=Zd (by first|(with_reducible assumption)|assumption)
       have q96006:x12_1<(t96003.length:Int):=Zd (by first|(with_reducible assumption)|assumption)
       obtain⟨ad96006,e96006,hx96006_0⟩:=Kd.at_int (Kd.R_reads' HO_10.out).2.2 x12_1 p96006 q96006
       cases e96006
       replace p96006:=eq_true p96006
       replace q96006:=eq_true q96006
       go_wp2
       go_roundg k1
       case measure=>have:=HK1.out;omega
       case rel=>exact⟨(wrap64 (x12_1+1)),(by first|rfl|(simp;done)|(simp[*];done)),H',⟨by have:=HK1.out;omega⟩,⟨by(with_reducible repeat(first|apply Kd.R_alloc|apply Kd.R_drewN|apply Kd.R_drew));exact HO_10.out⟩,⟨by(with_reducible repeat(first|refine Zt ?_ _|refine Zv ?_|refine Zs ?_ _));exact BK96001.out⟩,⟨by(with_reducible repeat(first|refine Zt ?_ _|refine Zv ?_|refine Zs ?_ _));exact BK96002.out⟩,⟨by repeat(first|(with_reducible first|exact HB.out|apply Zn|apply Zm|apply Zo|refine Zq ?_ GE96001.out|refine Zq ?_ GE96002.out)|exact HB.out)⟩⟩
     ·rw[if_neg c13] at H
      exact absurd H (by simp)
    ·rw[if_neg c12] at H
     exact absurd H (by simp)
   ·rw[if_neg c11] at H
    have c11b0:decide (x12_1<(t96003.length:Int))=false:=Zf c11
    clear c11
    obtain rfl:=Zg H
    go_wp2
    go_ret
    exact⟨by first|rfl|(simp[ZC,ZB] <;> rfl)|(simp[*,ZC,ZB] <;> rfl),by repeat(first|(with_reducible first|exact HB.out|apply Zn|apply Zm|apply Zo|refine Zq ?_ GE96001.out|refine Zq ?_ GE96002.out)|exact HB.out)⟩
end Go.Proofs.YtoeimopgoaffcaaGreatDoor.Pr
