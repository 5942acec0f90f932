/- By a program of this session. -/
import Derived.Test.YtoeimopgoaffcaaGreatDoorBBwc1x30
import Derived.Test.YtoeimopgoaffcaaGreatDoorBBwc1x33
set_option maxHeartbeats 8000000
set_option maxRecDepth 100000
namespace Go.Proofs.YtoeimopgoaffcaaGreatDoor.Pr
open RowKit YtoeimopgoaffcaaGreatDoorW.PrintWords YtoeimopgoaffcaaGreatDoorW.PrintLast YtoeimopgoaffcaaGreatDoorW.PrintMore
attribute [local go_sem] Zak Zai Zax Zaw Zac Zab Zaj Zah
set_option linter.unusedVariables false
set_option linter.unusedSimpArgs false
def Zcy.f (k:Nat) (a0_0:Int) (l0_1:List (S112)):Option (Bool):=(Za1.f k a0_0 l0_1).bind fun t2=>(if t2=true then((ZbJ.f k a0_0 l0_1).bind fun bt3=>((ZaY.f k bt3.1 bt3.2).bind fun t7=>(some ((t7.length:Int) == 0)))) else(some false))
theorem Zcy.calls (k:Nat) (a0_0:Int) (A0_1:Option Addr) (c0_1:Nat) (l0_1:List (S112)) (r:Bool) (w:World) (hr0_1:Kd.C k112 w A0_1 l0_1.length l0_1) (hc0_1:l0_1.length≤c0_1) (h:Zcy.f k a0_0 l0_1=some r) :
  Calls Tryz.prog 111 #[.agg #[.int .i64 a0_0,.slice A0_1 l0_1.length c0_1]] w fun e w'=>e=.returned (.bool r)∧Below w.heap.size w w':=by
 have hu54:=Tryz.underlying54
 have HR0_1:=Za hr0_1;have HC0_1:=Za hc0_1;clear hr0_1 hc0_1
 have HB:=Za (Below.refl w.heap.size w)
 have H:((Za1.f k a0_0 l0_1).bind fun t2=>(if t2=true then((ZbJ.f k a0_0 l0_1).bind fun bt3=>((ZaY.f k bt3.1 bt3.2).bind fun t7=>(some ((t7.length:Int) == 0)))) else(some false)))=some r:=h
 clear h
 replace H:=Zh H
 obtain⟨t2,A20,H⟩:=H
 replace H:(if t2=true then((ZbJ.f k a0_0 l0_1).bind fun bt3=>((ZaY.f k bt3.1 bt3.2).bind fun t7=>(some ((t7.length:Int) == 0)))) else(some false))=some r:=H
 have A2:=Za A20;clear A20
 by_cases c3:t2=true
 ·subst c3
  have H1:((ZbJ.f k a0_0 l0_1).bind fun bt3=>((ZaY.f k bt3.1 bt3.2).bind fun t7=>(some ((t7.length:Int) == 0))))=some r:=by rw[if_pos rfl] at H;exact H
  clear H
  have H:=H1
  clear H1
  replace H:=Zh H
  obtain⟨⟨t3,t4⟩,A40,H⟩:=H
  replace H:((ZaY.f k t3 t4).bind fun t7=>(some ((t7.length:Int) == 0)))=some r:=H
  have A4:=Za A40;clear A40
  replace H:=Zh H
  obtain⟨t7,A50,H⟩:=H
  replace H:(some ((t7.length:Int) == 0))=some r:=H
  have A5:=Za A50;clear A50
  obtain rfl:=Zg H
  go_enter Tryz.func111,Tryz.ntmps111
  go_wp2_with (first|((with_reducible refine ZF (N:=1) rfl ?_);(try(refine ZfB (by rfl) ?_;dsimp only));refine ZG ?hg (N:=1) ?hd (cs:=#[.int .i64 a0_0,.slice A0_1 l0_1.length c0_1]) (t:=54) ?hr ?_;(case hd=>rfl);(case hg=>rfl);(case hr=>first|(go_simp;done)|(go_simp;rfl));intro gb1 hg w6 hbox hb;have BK1:=Za (hbox);have GW1:=Za ((by rw[hg];exact(Zv (by repeat(first|(with_reducible first|exact HB.out|apply Zo|apply Zn|apply Zp)|exact HB.out))):w.heap.size≤gb1));have GE1:=Za ((by rw[hg];exact(Zv (by repeat(first|(with_reducible first|exact HB.out|apply Zo|apply Zn|apply Zp)|exact HB.out))):w.heap.size≤gb1));replace HB:=Za (Zr (by repeat(first|(with_reducible first|exact HB.out|apply Zo|apply Zn|apply Zp)|exact HB.out)) hb);clear hb hbox hg;have hcz7_0:w6.cell? ⟨gb1,0,none⟩=some (.int .i64 a0_0):=(Zm BK1.out 0).trans rfl;have hcz7_1:w6.cell? ⟨gb1,1,none⟩=some (.slice A0_1 l0_1.length c0_1):=(Zm BK1.out 1).trans rfl;have hfz7_0:=Zq BK1.out 0;have hfz7_1:=Zq BK1.out 1)|((with_reducible refine ZM (f:=99) rfl ?_);refine Z7 (some 4) rfl rfl Tryz.func99 (by kernel_rfl) rfl #[.agg #[.int .i64 a0_0,.slice A0_1 l0_1.length c0_1]] rfl (by(try simp only[List.map_toArray,List.map_cons,List.map_nil]);first|done|rfl|(simp only[Zk,Zj];rfl)) ?_;(with_reducible refine(Za1.calls k a0_0 _ _ l0_1 true _ ?side1 ?side2 A2.out).mono ?_);(case side1=>repeat(first|exact(Zb HR0_1.out HB.out)|(with_reducible refine Kd.C_alloc ?_ _)|(with_reducible refine Kd.C_drewN ?_ _)|(with_reducible refine Kd.C_drew ?_)));(case side2=>exact HC0_1.out);rintro e w8 ⟨rfl,hb⟩;refine⟨_,rfl,?_⟩;replace BK1:=Za (Zs (g:=gb1) (o:=.cells #[.int .i64 a0_0,.slice A0_1 l0_1.length c0_1] 54 (0,0)) (by(with_reducible repeat(first|refine ZD ?_ _|refine Zz ?_|refine Zy ?_ _));exact BK1.out) hb);replace HB:=Za (Zr (by repeat(first|(with_reducible first|exact HB.out|apply Zo|apply Zn|apply Zp|refine Zt ?_ GE1.out)|exact HB.out)) hb);(try clear hb);(try clear hb2);(try clear hk);(try clear hi);have hcz9_0:w8.cell? ⟨gb1,0,none⟩=some (.int .i64 a0_0):=(Zm BK1.out 0).trans rfl;have hcz9_1:w8.cell? ⟨gb1,1,none⟩=some (.slice A0_1 l0_1.length c0_1):=(Zm BK1.out 1).trans rfl;have hfz9_0:=Zq BK1.out 0;have hfz9_1:=Zq BK1.out 1)|(go_at_call 169;(with_reducible refine(ZbJ.calls k a0_0 _ _ l0_1 t3 t4 _ ?side1 ?side2 A4.out).mono ?_);(case side1=>repeat(first|exact(Zb HR0_1.out HB.out)|(with_reducible refine Kd.C_alloc ?_ _)|(with_reducible refine Kd.C_drewN ?_ _)|(with_reducible refine Kd.C_drew ?_)));(case side2=>exact HC0_1.out);rintro e w10 ⟨v5,rfl,ho0,hb⟩;have HO6:=Za (Kd.R_lower ho0 (Zv (by repeat(first|(with_reducible first|exact HB.out|apply Zo|apply Zn|apply Zp|refine Zt ?_ GE1.out)|exact HB.out))));replace BK1:=Za (Zs (g:=gb1) (o:=.cells #[.int .i64 a0_0,.slice A0_1 l0_1.length c0_1] 54 (0,0)) (by(with_reducible repeat(first|refine ZD ?_ _|refine Zz ?_|refine Zy ?_ _));exact BK1.out) hb);replace HB:=Za (Zr (by repeat(first|(with_reducible first|exact HB.out|apply Zo|apply Zn|apply Zp|refine Zt ?_ GE1.out)|exact HB.out)) hb);(try clear hb);(try clear hb2);(try clear hk);(try clear hi);(try clear ho0);obtain⟨Ao11,co11,eo11⟩:=Kd.R_slice HO6.out;subst eo11)|(go_at_call 168;(with_reducible refine(ZaY.calls k t3 _ _ t4 t7 _ ?side1 ?side2 A5.out).mono ?_);(case side1=>repeat(first|exact(Kd.R_reads' HO6.out).2.2|(with_reducible refine Kd.C_alloc ?_ _)|(with_reducible refine Kd.C_drewN ?_ _)|(with_reducible refine Kd.C_drew ?_)));(case side2=>exact(Kd.R_reads' HO6.out).2.1);rintro e w12 ⟨v8,rfl,ho0,hb⟩;have HO9:=Za (Kd.R_lower ho0 (Zv (by repeat(first|(with_reducible first|exact HB.out|apply Zo|apply Zn|apply Zp|refine Zt ?_ GE1.out)|exact HB.out))));replace HO6:=Za (Kd.R_below (by(with_reducible repeat(first|apply Kd.R_alloc|apply Kd.R_drewN|apply Kd.R_drew));exact HO6.out) hb);replace BK1:=Za (Zs (g:=gb1) (o:=.cells #[.int .i64 a0_0,.slice A0_1 l0_1.length c0_1] 54 (0,0)) (by(with_reducible repeat(first|refine ZD ?_ _|refine Zz ?_|refine Zy ?_ _));exact BK1.out) hb);replace HB:=Za (Zr (by repeat(first|(with_reducible first|exact HB.out|apply Zo|apply Zn|apply Zp|refine Zt ?_ GE1.out)|exact HB.out)) hb);(try clear hb);(try clear hb2);(try clear hk);(try clear hi);(try clear ho0);obtain⟨Ao13,co13,eo13⟩:=Kd.R_slice HO9.out;subst eo13))
  go_ret
  exact⟨by first|rfl|(simp[ZC,ZB] <;> rfl)|(simp[*,ZC,ZB] <;> rfl),by repeat(first|(with_reducible first|exact HB.out|apply Zo|apply Zn|apply Zp|refine Zt ?_ GE1.out)|exact HB.out)⟩
 ·replace c3:=Bool.eq_false_iff.mpr c3
  subst c3
  have H1:(some false)=some r:=by rw[if_neg (show ¬(false=true) by decide)] at H;exact H
  clear H
  have H:=H1
  clear H1
  obtain rfl:=Zg H
  go_enter Tryz.func111,Tryz.ntmps111
  go_wp2_with (first|((with_reducible refine ZF (N:=1) rfl ?_);(try(refine ZfB (by rfl) ?_;dsimp only));refine ZG ?hg (N:=1) ?hd (cs:=#[.int .i64 a0_0,.slice A0_1 l0_1.length c0_1]) (t:=54) ?hr ?_;(case hd=>rfl);(case hg=>rfl);(case hr=>first|(go_simp;done)|(go_simp;rfl));intro gb1 hg w14 hbox hb;have BK1:=Za (hbox);have GW1:=Za ((by rw[hg];exact(Zv (by repeat(first|(with_reducible first|exact HB.out|apply Zo|apply Zn|apply Zp)|exact HB.out))):w.heap.size≤gb1));have GE1:=Za ((by rw[hg];exact(Zv (by repeat(first|(with_reducible first|exact HB.out|apply Zo|apply Zn|apply Zp)|exact HB.out))):w.heap.size≤gb1));replace HB:=Za (Zr (by repeat(first|(with_reducible first|exact HB.out|apply Zo|apply Zn|apply Zp)|exact HB.out)) hb);clear hb hbox hg;have hcz15_0:w14.cell? ⟨gb1,0,none⟩=some (.int .i64 a0_0):=(Zm BK1.out 0).trans rfl;have hcz15_1:w14.cell? ⟨gb1,1,none⟩=some (.slice A0_1 l0_1.length c0_1):=(Zm BK1.out 1).trans rfl;have hfz15_0:=Zq BK1.out 0;have hfz15_1:=Zq BK1.out 1)|((with_reducible refine ZM (f:=99) rfl ?_);refine Z7 (some 4) rfl rfl Tryz.func99 (by kernel_rfl) rfl #[.agg #[.int .i64 a0_0,.slice A0_1 l0_1.length c0_1]] rfl (by(try simp only[List.map_toArray,List.map_cons,List.map_nil]);first|done|rfl|(simp only[Zk,Zj];rfl)) ?_;(with_reducible refine(Za1.calls k a0_0 _ _ l0_1 false _ ?side1 ?side2 A2.out).mono ?_);(case side1=>repeat(first|exact(Zb HR0_1.out HB.out)|(with_reducible refine Kd.C_alloc ?_ _)|(with_reducible refine Kd.C_drewN ?_ _)|(with_reducible refine Kd.C_drew ?_)));(case side2=>exact HC0_1.out);rintro e w16 ⟨rfl,hb⟩;refine⟨_,rfl,?_⟩;replace BK1:=Za (Zs (g:=gb1) (o:=.cells #[.int .i64 a0_0,.slice A0_1 l0_1.length c0_1] 54 (0,0)) (by(with_reducible repeat(first|refine ZD ?_ _|refine Zz ?_|refine Zy ?_ _));exact BK1.out) hb);replace HB:=Za (Zr (by repeat(first|(with_reducible first|exact HB.out|apply Zo|apply Zn|apply Zp|refine Zt ?_ GE1.out)|exact HB.out)) hb);(try clear hb);(try clear hb2);(try clear hk);(try clear hi)))
  go_ret
  exact⟨by first|rfl|(simp[ZC,ZB] <;> rfl)|(simp[*,ZC,ZB] <;> rfl),by repeat(first|(with_reducible first|exact HB.out|apply Zo|apply Zn|apply Zp|refine Zt ?_ GE1.out)|exact HB.out)⟩
open Ni
def ZcC.f (k:Nat) (l0_0:List (S39)) (l0_1:List (S82)) (a0_2:Int) (l1_0:List Int) (l1_1:List Int):Option Bool:=(Zu.f k l0_0 l0_1 a0_2 l1_0 l1_1).bind fun b=>(if b.2.2=true then((Zcy.f k b.1 b.2.1).bind fun t=>(some t)) else(some false))
theorem ZcC.calls (k:Nat) (A0_0:Option Addr) (c0_0:Nat) (l0_0:List (S39)) (A0_1:Option Addr) (c0_1:Nat) (l0_1:List (S82)) (a0_2:Int) (A1_0:Option Addr) (c1_0:Nat) (l1_0:List Int) (A1_1:Option Addr) (c1_1:Nat) (l1_1:List Int) (r:Bool) (w:World) (hr0_0:Kd.C k39 w A0_0 l0_0.length l0_0) (hc0_0:l0_0.length≤c0_0) (hr0_1:Kd.C k82 w A0_1 l0_1.length l0_1) (hc0_1:l0_1.length≤c0_1) (hr1_0:Kd.C (Kd.int .i64) w A1_0 l1_0.length l1_0) (hc1_0:l1_0.length≤c1_0) (hr1_1:Kd.C (Kd.int .i64) w A1_1 l1_1.length l1_1) (hc1_1:l1_1.length≤c1_1) (h:ZcC.f k l0_0 l0_1 a0_2 l1_0 l1_1=some r) :
  Calls Tryz.prog 38 #[.agg #[.slice A0_0 l0_0.length c0_0,.slice A0_1 l0_1.length c0_1,.int .i64 a0_2],.agg #[.slice A1_0 l1_0.length c1_0,.slice A1_1 l1_1.length c1_1]] w fun e w'=>e=.returned (.bool r)∧Below w.heap.size w w':=by
 unfold ZcC.f at h
 obtain⟨⟨q1,q2,q3⟩,hP,h⟩:=Option.bind_eq_some_iff.1 h
 have HP:=Za fun (W:World) (hb:Below w.heap.size w W)=>Zu.calls k A0_0 c0_0 l0_0 A0_1 c0_1 l0_1 a0_2 A1_0 c1_0 l1_0 A1_1 c1_1 l1_1 q1 q2 q3 W (Zb hr0_0 hb) hc0_0 (Zb hr0_1 hb) hc0_1 (Zb hr1_0 hb) hc1_0 (Zb hr1_1 hb) hc1_1 hP
 have HB2:=Za (show Below w.heap.size w ((w.alloc (.cells #[.slice A0_0 l0_0.length c0_0,.slice A0_1 l0_1.length c0_1,.int .i64 a0_2] 25)).alloc (.cells #[.slice A1_0 l1_0.length c1_0,.slice A1_1 l1_1.length c1_1] 58)) from Zo (Zo (Below.refl w.heap.size w) _) _)
 have hu:=Tryz.underlying25
 have hu2:=Tryz.underlying58
 have hu3:=Tryz.underlying54
 dsimp only at h
 clear hr0_0 hc0_0 hr0_1 hc0_1 hr1_0 hc1_0 hr1_1 hc1_1 hP
 cases q3 with
 | false=>
  rw[if_neg (by simp)] at h
  obtain rfl:=Zg h
  clear h
  go_enter Tryz.func38,Tryz.ntmps38
  go_wp2_with (go_at_call 29;refine(HP.out _ HB2.out).mono ?_;rintro e w3 ⟨v1,rfl,ho,hb⟩;obtain⟨A3,c3,e3⟩:=Kd.R_slice ho;subst e3;have HB3:=Za (HB2.out.trans (hb.mono HB2.out.size));clear ho hb)
  go_ret
  exact⟨rfl,by repeat(first|exact HB3.out|apply Zo|apply Zn|apply Zp)⟩
 | true=>
  rw[if_pos rfl] at h
  obtain⟨t,hC,hr⟩:=Option.bind_eq_some_iff.1 h
  obtain rfl:=Zg hr
  have HC:=Za fun (W:World) (A:Option Addr) (c:Nat) (hc:q2.length≤c) (hr:Kd.C k112 W A q2.length q2)=>Zcy.calls k q1 A c q2 t W hr hc hC
  clear h hr hC
  go_enter Tryz.func38,Tryz.ntmps38
  go_wp2_with (first|(go_at_call 29;refine(HP.out _ HB2.out).mono ?_;rintro e w3 ⟨v1,rfl,ho,hb⟩;obtain⟨A3,c3,e3⟩:=Kd.R_slice ho;subst e3;have HO:=Za (Kd.R_reads' ho).2;have HB3:=Za (HB2.out.trans (hb.mono HB2.out.size));clear ho hb)|(go_at_call 111;refine(HC.out _ A3 c3 HO.out.1 (Zb HO.out.2 (Zo (Below.refl _ _) _))).mono ?_;rintro e w4 ⟨rfl,hb⟩;have HB4:=Za (Zr (Zo HB3.out _) hb);clear hb))
  go_ret
  exact⟨rfl,HB4.out⟩
def Zdv (ns:List ZK) (ts:List PTie) (z:Int) (ln vs:List Int):Bool:=(projB ns ts z ln vs).2.2 && consB (projB ns ts z ln vs).1 (projB ns ts z ln vs).2.1
theorem ZcK {ns:List ZK} {ts:List PTie} {z:Int} {ln vs:List Int} (hc:Zck ns ts) (hlv:vs.length≤1048576) (k:Nat) (hk:2 ^ 67≤k):Zao.f k ns ts z ln vs=some (Zdv ns ts z ln vs):=by
 unfold Zao.f Zdv
 rw[ZeT hc hlv k hk,Zi]
 cases h:(projB ns ts z ln vs).2.2 with
 | true=>rw[if_pos rfl,ZeE _ _ k (by omega)];rfl
 | false=>rw[if_neg (by simp)];rfl
def Zbe.l0:Nat→Int→List S39→List S82→Int→Option (Int)
 | 0,_,_,_,_=>none
 | k+1,n,a,b,z=>(Zbv.f k a b z).bind fun c=>(if n<c then((ZcL.f k a b z n).bind fun t=>((ZcC.f k a b z t.1 t.2.1).bind fun m=>(if m=true then(Zbe.l0 k (wrap64 (n+1)) a b z) else(some n)))) else(some (-1)))
def Zbe.f (k:Nat) (l0_0:List (S39)) (l0_1:List (S82)) (a0_2:Int):Option (Int):=Zbe.l0 k 0 l0_0 l0_1 a0_2
theorem Zbe.calls (k:Nat) (A0_0:Option Addr) (c0_0:Nat) (l0_0:List (S39)) (A0_1:Option Addr) (c0_1:Nat) (l0_1:List (S82)) (a0_2:Int) (r:Int) (w:World) (hr0_0:Kd.C k39 w A0_0 l0_0.length l0_0) (hc0_0:l0_0.length≤c0_0) (hr0_1:Kd.C k82 w A0_1 l0_1.length l0_1) (hc0_1:l0_1.length≤c0_1) (h:Zbe.f k l0_0 l0_1 a0_2=some r) :
  Calls Tryz.prog 40 #[.agg #[.slice A0_0 l0_0.length c0_0,.slice A0_1 l0_1.length c0_1,.int .i64 a0_2]] w fun e w'=>e=.returned (.int .i64 r)∧Below w.heap.size w w':=by
 have HR0:=Za hr0_0;have HR1:=Za hr0_1;have HC0:=Za hc0_0;have HC1:=Za hc0_1
 have HB0:=Za (Zo (Below.refl w.heap.size w) (.cells #[.slice A0_0 l0_0.length c0_0,.slice A0_1 l0_1.length c0_1,.int .i64 a0_2] 25))
 have hu:=Tryz.underlying25
 have hu2:=Tryz.underlying58
 unfold Zbe.f at h
 have H:=Za h;clear hr0_0 hc0_0 hr0_1 hc0_1 h
 go_enter Tryz.func40,Tryz.ntmps40
 go_wp2
 go_loopg [3] k (fun kq s3 wr=>∃n:Int,s3=.int .i64 n∧Aside0 (Zbe.l0 kq n l0_0 l0_1 a0_2=some r)∧Aside0 (kq≤k)∧Aside0 (Below w.heap.size w wr)∧Aside0 (wr.cell? ⟨w.heap.size,0,none⟩=some (.slice A0_0 l0_0.length c0_0)∧wr.cell? ⟨w.heap.size,1,none⟩=some (.slice A0_1 l0_1.length c0_1)∧wr.cell? ⟨w.heap.size,2,none⟩=some (.int .i64 a0_2)))
 case atStart=>exact⟨0,rfl,H,⟨Nat.le_refl _⟩,⟨by repeat(first|(with_reducible first|exact HB0.out|apply Zo|apply Zn|apply Zp)|exact HB0.out)⟩,⟨⟨by go_simp,by go_simp,by go_simp⟩⟩⟩
 case round=>
 clear H
 obtain⟨n,rfl,HA,HK,HB,K⟩:=hrel
 cases gk with
 | zero=>exact absurd HA.out (by simp[Zbe.l0])
 | succ k1=>
 have h:=HA.out
 clear HA
 simp only[Zbe.l0] at h
 obtain⟨c,hc_,h⟩:=Option.bind_eq_some_iff.1 h
 have HCC:=Za fun (W:World) (hb:Below w.heap.size w W)=>Zbv.calls k1 A0_0 c0_0 l0_0 A0_1 c0_1 l0_1 a0_2 c W (Zb HR0.out hb) HC0.out (Zb HR1.out hb) HC1.out hc_
 clear hc_
 obtain⟨k0,k1_,k2⟩:=K.out
 by_cases hc:n<c
 case neg=>
  rw[if_neg hc] at h
  obtain rfl:=Zg h
  have hcz:decide (n<c)=false:=Zf hc
  go_wp2_with (go_at_call 113;refine(HCC.out _ (by repeat(first|(with_reducible first|exact HB.out|apply Zo|apply Zn|apply Zp)|exact HB.out))).mono ?_;rintro e w2 ⟨rfl,hb⟩;have HB2:=Za (Zr HB.out hb);have K2:=Za (And.intro (Zx hb K.out.1) (And.intro (Zx hb K.out.2.1) (Zx hb K.out.2.2)));obtain⟨k3,k4,k5⟩:=K2.out;clear hb k0 k1_ k2)
  go_ret
  exact⟨rfl,HB2.out⟩
 rw[if_pos hc] at h
 have hcz:decide (n<c)=true:=Ze hc
 obtain⟨t,ht_,h⟩:=Option.bind_eq_some_iff.1 h
 obtain⟨m,hm_,h4⟩:=Option.bind_eq_some_iff.1 h
 clear h
 obtain⟨L1,L2,b3⟩:=t
 dsimp only at hm_
 have HCA:=Za fun (W:World) (hb:Below w.heap.size w W)=>ZcL.calls k1 A0_0 c0_0 l0_0 A0_1 c0_1 l0_1 a0_2 n L1 L2 b3 W (Zb HR0.out hb) HC0.out (Zb HR1.out hb) HC1.out ht_
 have HCM:=Za fun (W:World) (A1:Option Addr) (c1:Nat) (A2:Option Addr) (c2:Nat) (hb:Below w.heap.size w W) (g1:L1.length≤c1) (g2:Kd.C (Kd.int .i64) W A1 L1.length L1) (g3:L2.length≤c2) (g4:Kd.C (Kd.int .i64) W A2 L2.length L2)=>ZcC.calls k1 A0_0 c0_0 l0_0 A0_1 c0_1 l0_1 a0_2 A1 c1 L1 A2 c2 L2 m W (Zb HR0.out hb) HC0.out (Zb HR1.out hb) HC1.out g2 g1 g4 g3 hm_
 have H2:=Za h4;clear ht_ hm_ h4 hc
 go_wp2_with (first|(go_at_call 113;refine(HCC.out _ (by repeat(first|(with_reducible first|exact HB.out|apply Zo|apply Zn|apply Zp)|exact HB.out))).mono ?_;rintro e w2 ⟨rfl,hb⟩;have HB2:=Za (Zr HB.out hb);have K2:=Za (And.intro (Zx hb K.out.1) (And.intro (Zx hb K.out.2.1) (Zx hb K.out.2.2)));obtain⟨k3,k4,k5⟩:=K2.out;clear hb k0 k1_ k2)|(go_at_call 114;refine(HCA.out _ HB2.out).mono ?_;rintro e w3 ⟨v0,v1,rfl,q0,q1,hb⟩;obtain⟨A1,c1,rfl,g1⟩:=Kd.R_reads q0;obtain⟨A2,c2,rfl,g2⟩:=Kd.R_reads q1;have HB3:=Za (Zr HB2.out hb);have G:=Za (And.intro g1 g2);have K3:=Za (And.intro (Zx hb K2.out.1) (And.intro (Zx hb K2.out.2.1) (Zx hb K2.out.2.2)));obtain⟨k6,k7,k8⟩:=K3.out;have lt6:=Zc w3 _ k6;clear hb q0 q1 g1 g2 k3 k4 k5)|(go_at_call 38;refine(HCM.out _ _ _ _ _ ?s0 G.out.1.1 (Zb G.out.1.2 ?s1) G.out.2.1 (Zb G.out.2.2 ?s1)).mono ?_;(case s0=>exact(by repeat(first|(with_reducible first|exact HB3.out|apply Zo|apply Zn|apply Zp)|exact HB3.out)));(case s1=>exact(by repeat(first|(with_reducible first|exact(Below.refl _ _)|apply Zo|apply Zn|apply Zp)|exact(Below.refl _ _))));rintro e w4 ⟨rfl,hb⟩;have HB4:=Za (Zr (by repeat(first|(with_reducible first|exact HB3.out|apply Zo|apply Zn|apply Zp)|exact HB3.out)) hb);have K4:=Za (show w4.cell? ⟨w.heap.size,0,none⟩=some (.slice A0_0 l0_0.length c0_0)∧w4.cell? ⟨w.heap.size,1,none⟩=some (.slice A0_1 l0_1.length c0_1)∧w4.cell? ⟨w.heap.size,2,none⟩=some (.int .i64 a0_2) from⟨Zx hb (by go_simp),Zx hb (by go_simp),Zx hb (by go_simp)⟩);clear hb k6 k7 k8))
 ·rename_i hm
  obtain rfl:m=false:=by cases m with|true=>cases hm|false=>rfl
  obtain rfl:n=r:=Zg ((if_neg (by simp)).symm.trans H2.out)
  go_ret
  exact⟨rfl,HB4.out⟩
 ·rename_i hm
  obtain rfl:m=true:=by cases m with|true=>rfl|false=>cases hm
  have H3:=Za ((if_pos rfl).symm.trans H2.out)
  go_roundg k1
  case measure=>have:=HK.out;omega
  case rel=>exact⟨_,rfl,H3,⟨by have:=HK.out;omega⟩,HB4,K4⟩
def Zc1 (ns:List ZK) (ts:List PTie) (z n:Int):Bool:=Zdv ns ts z (ZaB ns ts z n).1 (ZaB ns ts z n).2.1
def Zcq (ns:List ZK) (ts:List PTie) (z:Int):Nat→Nat→Int
 | 0,_=>-1
 | d+1,n=>if Zc1 ns ts z (n:Int)=true then Zcq ns ts z d (n+1) else(n:Int)
def Zcx (ns:List ZK) (ts:List PTie) (z:Int):Int:=Zcq ns ts z (ZaT ns ts z).toNat 0
theorem choiceAt_f {ns:List ZK} {ts:List PTie} {z n:Int} (hc:Zck ns ts) (h0:0≤n) (h1:n<ZaT ns ts z) (k:Nat) (hk:2 ^ 66≤k):Zbf.f k ns ts z n=some ((ZaB ns ts z n).1,(ZaB ns ts z n).2.1):=by
 have ht:=ZfE h0 h1
 unfold Zbf.f ZaB
 obtain⟨q,e1,e2,_⟩:=wq_of (wq_impl ns ts z)
 rw[if_pos ⟨h0,h1⟩,Zdi ns ts z hc.2.1 k (by omega),Zi,if_pos (okF_free ht hc.2.1),e1,Zi]
 unfold Zdl
 rw[e2]
theorem impl_wk {ns:List ZK} {ts:List PTie} {z:Int} (hc:Zck ns ts):∀(d n k:Nat),(n:Int)+d=ZaT ns ts z→2 ^ 67+d<k→Z0.l0 k (n:Int) (ZaT ns ts z) ns ts z=some (Zcq ns ts z d n)
 | 0,n,k,hn,hk=>by
  obtain⟨m,rfl⟩:∃m,k=m+1:=⟨k - 1,by omega⟩
  simp only[Z0.l0,Zcq]
  rw[if_neg (by omega)]
 | d+1,n,k,hn,hk=>by
  obtain⟨m,rfl⟩:∃m,k=m+1:=⟨k - 1,by omega⟩
  have hne:=countB_ne ns ts z
  simp only[Z0.l0,Zcq]
  rw[if_pos (by omega),choiceAt_f hc (by omega) (by omega) m (by omega),Zi,ZcK hc (show(ZaB ns ts z (n:Int)).2.1.length≤1048576 from by have:=(ZeA ns ts z (n:Int)).2;omega) m (by omega),Zi,show Zdv ns ts z (ZaB ns ts z (n:Int)).1 (ZaB ns ts z (n:Int)).2.1=Zc1 ns ts z (n:Int) from rfl]
  by_cases h:Zc1 ns ts z (n:Int)=true
  ·rw[if_pos h,if_pos h,show wrap64 ((n:Int)+1)=((n+1:Nat):Int) by rw[Z9 (by omega) (by omega)];omega]
   exact impl_wk hc d (n+1) m (by omega) (by omega)
  ·rw[if_neg h,if_neg h]
theorem impl_wk_neg {ns:List ZK} {ts:List PTie} {z:Int} (h:ZaT ns ts z<0) (k:Nat):Z0.l0 (k+1) 0 (ZaT ns ts z) ns ts z=some (-1):=by
 simp only[Z0.l0]
 rw[if_neg (by omega)]
theorem ZdA {ns:List ZK} {ts:List PTie} {z:Int} (hc:Zck ns ts) (k:Nat) (hk:2 ^ 68≤k):Z0.f k ns ts z=some (Zcx ns ts z):=by
 have hne:=countB_ne ns ts z
 unfold Z0.f Zcx
 rw[ZcS (z:=z) (Zek hc) hc.2.1 k (by omega),Zi]
 by_cases h:ZaT ns ts z<0
 ·obtain⟨m,rfl⟩:∃m,k=m+1:=⟨k - 1,by omega⟩
  rw[impl_wk_neg h,show(ZaT ns ts z).toNat=0 by omega];rfl
 ·exact impl_wk hc (ZaT ns ts z).toNat 0 k (by omega) (by omega)
def hangs (E:List Zan) (I:Nat→Prop):Prop:=¬I 0∧∀e∈E,(I e.f1.toNat→e.f0=0∧e.f2=0)∧(I e.f0.toNat→e.f1=0∧e.f2=0)
structure AInv (E:List Zan) (N:Nat) (I:Nat→Prop) (s:BSt):Prop where
 ld:s.1.length=N
 ll:s.2.1.length=N
 W:∀v,wrap64 (s.1.getD v 0)=s.1.getD v 0
 D:∀v,I v→v<N→s.1.getD 0 0≤s.1.getD v 0
 L:∀j e,E[j]? = some e→s.2.1.getD 0 0=((j:Nat):Int)→¬I e.f0.toNat
theorem wrap_wrap (x:Int):wrap64 (wrap64 x)=wrap64 x:=by unfold wrap64;omega
theorem AInv.relax {E:List Zan} {N:Nat} {I:Nat→Prop} (hI:hangs E I) (hE:ZbO E N) {s:BSt} (h:AInv E N I s) {i:Nat} {e:Zan} (he:E[i]? = some e):AInv E N I (Pr.relax s i e):=by
 obtain⟨ld,ll,W,D,L⟩:=h
 have hm:=hI.2 e (List.mem_of_getElem? he)
 have hin:=hE e (List.mem_of_getElem? he)
 unfold Pr.relax
 split
 case isFalse=>exact⟨ld,ll,W,D,L⟩
 rename_i c
 have eu:rd s.1 e.f0=s.1.getD e.f0.toNat 0:=rfl
 have ev:rd s.1 e.f1=s.1.getD e.f1.toNat 0:=rfl
 rw[eu,ev] at c
 rw[eu]
 have hnf:¬I e.f0.toNat:=by
  intro hf
  obtain⟨h1,h2⟩:=hm.2 hf
  rw[h1,h2,Int.add_zero,W] at c
  have:=D _ hf (by omega)
  have c':s.1.getD e.f0.toNat 0<s.1.getD 0 0:=c
  omega
 refine⟨by simpa using ld,by simpa using ll,?_,?_,?_⟩
 ·intro v
  show wrap64 ((s.1.set e.f1.toNat (wrap64 (s.1.getD e.f0.toNat 0+e.f2))).getD v 0)=(s.1.set e.f1.toNat (wrap64 (s.1.getD e.f0.toNat 0+e.f2))).getD v 0
  by_cases hv:e.f1.toNat=v
  ·subst hv
   rw[Za8 (by omega),wrap_wrap]
  ·rw[Pr.getD_set_ne hv];exact W v
 ·intro v hv hvl
  show(s.1.set e.f1.toNat (wrap64 (s.1.getD e.f0.toNat 0+e.f2))).getD 0 0≤(s.1.set e.f1.toNat (wrap64 (s.1.getD e.f0.toNat 0+e.f2))).getD v 0
  have hv0:v≠0:=fun h=>hI.1 (h ▸ hv)
  by_cases h1:e.f1.toNat=0
  ·rw[h1,Za8 (by omega),Pr.getD_set_ne (by omega)]
   have:=D v hv hvl
   rw[h1] at c
   omega
  ·rw[Pr.getD_set_ne h1]
   by_cases h2:e.f1.toNat=v
   ·subst h2
    obtain⟨a,b⟩:=hm.1 hv
    rw[Za8 (by omega),a,b,Int.add_zero,show(0:Int).toNat=0 from rfl,W]
    exact Int.le_refl _
   ·rw[Pr.getD_set_ne h2];exact D v hv hvl
 ·intro j e' hj hl'
  have hl2:(s.2.1.set e.f1.toNat (i:Int)).getD 0 0=((j:Nat):Int):=hl'
  by_cases h1:e.f1.toNat=0
  ·rw[h1,Za8 (by omega)] at hl2
   obtain rfl:i=j:=by omega
   rw[he] at hj
   cases hj
   exact hnf
  ·rw[Pr.getD_set_ne h1] at hl2
   exact L j e' hj hl2
theorem AInv.rnd {E:List Zan} {N:Nat} {I:Nat→Prop} (hI:hangs E I) (hE:ZbO E N):∀(n i:Nat) (s:BSt),i+n=E.length→AInv E N I s→AInv E N I (Pr.rnd (E.drop i) i s):=by
 intro n
 induction n with
 | zero=>
  intro i s hn h
  obtain rfl:i=E.length:=by omega
  rw[List.drop_length];exact h
 | succ n ih=>
  intro i s hn h
  have hi:i<E.length:=by omega
  rw[List.drop_eq_getElem_cons hi]
  exact ih (i+1) _ (by omega) (h.relax hI hE (Zl hi))
theorem AInv.rounds {E:List Zan} {N:Nat} {I:Nat→Prop} (hI:hangs E I) (hE:ZbO E N):∀(n:Nat) (s:BSt),AInv E N I s→AInv E N I (Pr.rounds E n s)
 | 0,s,h=>h
 | n+1,s,h=>by
  have h1:AInv E N I (s.1,s.2.1,-1):=⟨h.ld,h.ll,h.W,h.D,h.L⟩
  exact AInv.rounds hI hE n _ (AInv.rnd hI hE E.length 0 _ (by omega) h1)
theorem Zel (n:Nat) (x d:Int) (v:Nat):(List.replicate n x).getD v d=if v<n then x else d:=by
 rw[List.getD_eq_getElem?_getD,List.getElem?_replicate]
 split <;> rfl
theorem AInv.start {E:List Zan} {N:Nat} {I:Nat→Prop} (hN:1≤N):AInv E N I (bst0 N):=by
 refine⟨by simp[bst0],by simp[bst0],?_,?_,?_⟩
 ·intro v
  show wrap64 ((List.replicate N 0).getD v 0)=(List.replicate N 0).getD v 0
  rw[Zel]
  split <;> exact w64_id (by omega) (by omega)
 ·intro v _ hv
  show(List.replicate N 0).getD 0 0≤(List.replicate N 0).getD v 0
  rw[Zel,Zel,if_pos hv,if_pos (by omega)]
  exact Int.le_refl _
 ·intro j e _ h
  have h2:(List.replicate N (-1)).getD 0 0=((j:Nat):Int):=h
  rw[Zel,if_pos (by omega)] at h2
  omega
theorem nc_avoid {E:List Zan} {N:Nat} {I:Nat→Prop} (hI:hangs E I) (hE:ZbO E N) (hN:1≤N) {c:Int} (hc:c∈ncB N E):0≤c∧∃e,E[c.toNat]? = some e∧¬I e.f0.toNat∧¬I e.f1.toNat:=by
 have hA:=AInv.rounds hI hE N _ (AInv.start (E:=E) (I:=I) hN)
 unfold ncB at hc
 dsimp only at hc
 split at hc
 case isTrue=>exact absurd hc (by simp)
 rename_i hch
 obtain⟨c0,e0,he0,hce,hlt,hg,hga,q0,hq1,hq2,hq3⟩:=bf_circle hE hN (by omega)
 obtain⟨s,hs⟩:∃s,s=rounds E N (bst0 N):=⟨_,rfl⟩
 rw[← hs] at hA hc hch hce hlt hg hga hq3
 have ha:backB E N s=bit E s.2.1 N e0.f1.toNat:=by
  unfold backB
  rw[hce,Int.toNat_natCast,List.getD_eq_getElem?_getD,he0];rfl
 rw[ha] at hc
 generalize bit E s.2.1 N e0.f1.toNat=a at hc hga hq3
 have per:∀m,bit E s.2.1 (m+q0) a=bit E s.2.1 m a:=fun m=>by rw[Zcg,hq3]
 have clean:∀m,¬I (bit E s.2.1 m a):=by
  intro m hm
  rw[← per m] at hm
  obtain⟨p,hp⟩:∃p,m+q0=p+1:=⟨m+q0 - 1,by omega⟩
  rw[hp] at hm
  obtain⟨_,j,e,hj,hl,hv⟩:=hga p
  rw[show bit E s.2.1 (p+1) a=bnxt E s.2.1 (bit E s.2.1 p a) from rfl,bnxt_at hj hl] at hm
  obtain⟨h1,_⟩:=(hI.2 e (List.mem_of_getElem? hj)).2 hm
  rw[h1] at hv
  rw[← hv] at hl
  exact hA.L j e hj hl hm
 rw[List.mem_reverse] at hc
 unfold cycB at hc
 obtain⟨i,_,rfl⟩:=List.mem_map.1 hc
 obtain⟨_,j,e,hj,hl,hv⟩:=hga i
 rw[hl]
 refine⟨by omega,e,by rw[Int.toNat_natCast];exact hj,?_,?_⟩
 ·have:=clean (i+1)
  rwa [show bit E s.2.1 (i+1) a=bnxt E s.2.1 (bit E s.2.1 i a) from rfl,bnxt_at hj hl] at this
 ·rw[hv];exact clean i
theorem Zc8 {α β:Type} {g:Nat→List α} {h:Nat→List β} (e:∀j,(g j).length=(h j).length):∀(d i:Nat),(cat g d i).length=(cat h d i).length
 | 0,_=>rfl
 | d+1,i=>by rw[cat,cat,List.length_append,List.length_append,e i,Zc8 e d]
section
variable {ns:List ZK} {ts:List PTie} {z:Int} {ln vs:List Int}
theorem ab_len:(cat (gA ns vs z) ns.length 0).length=(cat (rA ns vs) ns.length 0).length:=Zc8 (fun j=>by unfold gA rA;split <;> rfl) _ _
theorem bb_len:(cat (gB ns ts ln vs) ts.length 0).length=(cat (rB ns ts vs) ts.length 0).length:=Zc8 (fun j=>by unfold gB rB;split <;> rfl) _ _
theorem cb_len (t:Nat→ByteArray):(cat (gC ns vs) ns.length 0).length=(cat (rC ns vs t) ns.length 0).length:=Zc8 (fun j=>by unfold gC rC;split <;> rfl) _ _
theorem db_len:(cat (gD ns vs) ns.length 0).length=(cat (rD ns vs) ns.length 0).length:=Zc8 (fun j=>by unfold gD rD;exact Zc8 (fun i=>by unfold gE rE;split <;> rfl) _ _) _ _
theorem projR_len (t:Nat→ByteArray):(projR ns ts vs t).length=(Zb6 ns ts z ln vs).length:=by
 unfold projR Zb6
 simp only[List.length_append]
 rw[ab_len,bb_len,cb_len t,db_len]
end
def Zaz.f (k:Nat) (l0_0:List (S39)) (l0_1:List (S82)) (a0_2:Int) (l1_0:List Int) (l1_1:List Int) (a2:Int):Option (Bool):=(Zbo.f k l0_0 l0_1 a0_2 l1_0 l1_1).bind fun t3=>(if t3=true then((ZX.f a2 0 (wrap64 ((l0_0.length:Int) - 1))).bind fun t4=>(if t4=true then(if 0≤a2 then(if a2<(l0_0.length:Int) then((Zav.f k ((ZJ l0_0 a2).f1) l1_1).bind fun t6=>(some (t6 == 1))) else(none)) else(none)) else(some false))) else(some false))
def Zaz.T1:Bool×List (List Nat×List Nat):=(true,[([],[]),([],[]),([0,1],[0,1]),([2,2],[2]),([3],[3]),([3],[3]),([5,3],[3,5]),([6,3],[3,6]),([7,3],[3,7]),([4,8,3,3],[3,4,8]),([3,9],[3,9]),([10,9],[10]),([11],[11]),([12,11],[11,12]),([11],[11]),([13,14,11],[11,13,14]),([15,11],[11,15]),([16,11],[11,16]),([11],[11]),([18,11],[11,18]),([17,19,11,11],[11,17,19]),([20,11],[11,20]),([11,21],[11,21]),([22,20,0,1,2,3,4,5,6,7,8,9,10,11,12,13,14,15,16,17,18,19,20,21,22],[22])])
def Zaz.B1:List Nat:=[0,0,3,7,15,15,47,111,239,511,1023,2047,4095,8191,4095,32767,65535,131071,4095,266239,1048575,2097151,4194303,8388607]
theorem Zaz.tab1:rtab .any (opsOf Tryz.f172 1)=Zaz.T1:=by kernel_rfl
theorem Zaz.bits1:ZdJ Zaz.T1.2 Zaz.B1=true:=by kernel_rfl
theorem Zaz.calls (k:Nat) (A0_0:Option Addr) (c0_0:Nat) (l0_0:List (S39)) (A0_1:Option Addr) (c0_1:Nat) (l0_1:List (S82)) (a0_2:Int) (A1_0:Option Addr) (c1_0:Nat) (l1_0:List Int) (A1_1:Option Addr) (c1_1:Nat) (l1_1:List Int) (a2:Int) (r:Bool) (w:World) (hr0_0:Kd.C k39 w A0_0 l0_0.length l0_0) (hc0_0:l0_0.length≤c0_0) (hr0_1:Kd.C k82 w A0_1 l0_1.length l0_1) (hc0_1:l0_1.length≤c0_1) (hr1_0:Kd.C (Kd.int .i64) w A1_0 l1_0.length l1_0) (hc1_0:l1_0.length≤c1_0) (hr1_1:Kd.C (Kd.int .i64) w A1_1 l1_1.length l1_1) (hc1_1:l1_1.length≤c1_1) (h:Zaz.f k l0_0 l0_1 a0_2 l1_0 l1_1 a2=some r) :
  Calls Tryz.prog 172 #[.agg #[.slice A0_0 l0_0.length c0_0,.slice A0_1 l0_1.length c0_1,.int .i64 a0_2],.agg #[.slice A1_0 l1_0.length c1_0,.slice A1_1 l1_1.length c1_1],.int .i64 a2] w fun e w'=>e=.returned (.bool r)∧Below w.heap.size w w':=by
 have hu25:=Tryz.underlying25
 have hu58:=Tryz.underlying58
 have HR0_0:=Za hr0_0;have HC0_0:=Za hc0_0;clear hr0_0 hc0_0;have HR0_1:=Za hr0_1;have HC0_1:=Za hc0_1;clear hr0_1 hc0_1;have HR1_0:=Za hr1_0;have HC1_0:=Za hc1_0;clear hr1_0 hc1_0;have HR1_1:=Za hr1_1;have HC1_1:=Za hc1_1;clear hr1_1 hc1_1
 have HB:=Za (Below.refl w.heap.size w)
 have H:((Zbo.f k l0_0 l0_1 a0_2 l1_0 l1_1).bind fun t3=>(if t3=true then((ZX.f a2 0 (wrap64 ((l0_0.length:Int) - 1))).bind fun t4=>(if t4=true then(if 0≤a2 then(if a2<(l0_0.length:Int) then((Zav.f k ((ZJ l0_0 a2).f1) l1_1).bind fun t6=>(some (t6 == 1))) else(none)) else(none)) else(some false))) else(some false)))=some r:=h
 clear h
 replace H:=Zh H
 obtain⟨t3,A40,H⟩:=H;have A4:=Za A40;clear A40
 by_cases c5:t3=true
 ·subst c5
  rw[if_pos rfl] at H
  replace H:=Zh H
  obtain⟨t4,A60,H⟩:=H;have A6:=Za A60;clear A60
  by_cases c7:t4=true
  ·subst c7
   rw[if_pos rfl] at H
   by_cases c8:0≤a2
   ·rw[if_pos c8] at H
    have c8b0:decide (0≤a2)=true:=Ze c8
    clear c8
    by_cases c9:a2<(l0_0.length:Int)
    ·rw[if_pos c9] at H
     have c9b0:decide (a2<(l0_0.length:Int))=true:=Ze c9
     clear c9
     replace H:=Zh H
     obtain⟨t6,A100,H⟩:=H;have A10:=Za A100;clear A100
     obtain rfl:=Zg H
     go_enter Tryz.func172,Tryz.ntmps172
     try go_wp2_with (first|((with_reducible refine ZF (N:=3) rfl ?_);refine ZG ?hg (N:=3) ?hd (cs:=#[.slice A0_0 l0_0.length c0_0,.slice A0_1 l0_1.length c0_1,.int .i64 a0_2]) (t:=25) ?hr ?_;(case hd=>rfl);(case hg=>rfl);(case hr=>first|(go_simp;done)|(go_simp;rfl));intro gb1 hg w11 hbox hb;have BK1:=Za (hbox);have GW1:=Za ((by rw[hg];exact(Zv (by exact HB.out)):w.heap.size≤gb1));have GE1:=Za ((by rw[hg];exact(Zv (by exact HB.out)):w.heap.size≤gb1));replace HB:=Za (Zr (by exact HB.out) hb);clear hb hbox hg)|((with_reducible refine ZF (N:=4) rfl ?_);refine ZG ?hg (N:=4) ?hd (cs:=#[.slice A1_0 l1_0.length c1_0,.slice A1_1 l1_1.length c1_1]) (t:=58) ?hr ?_;(case hd=>rfl);(case hg=>rfl);(case hr=>first|(go_simp;done)|(go_simp;rfl));intro gb2 hg w12 hbox hb;have BK2:=Za (hbox);have GW2:=Za ((by rw[hg];exact(Zv (by exact HB.out)):w.heap.size≤gb2));have GE2:=Za ((by rw[hg];exact(Zv (by exact HB.out)):w.heap.size≤gb2));have NB1_2:=Za ((by rw[hg];exact Nat.ne_of_lt (ZN (g:=gb1) (o:=.cells #[.slice A0_0 l0_0.length c0_0,.slice A0_1 l0_1.length c0_1,.int .i64 a0_2] 25 (0,0)) (by exact BK1.out)):gb1≠gb2));have NB2_1:=Za ((by rw[hg];exact Nat.ne_of_gt (ZN (g:=gb1) (o:=.cells #[.slice A0_0 l0_0.length c0_0,.slice A0_1 l0_1.length c0_1,.int .i64 a0_2] 25 (0,0)) (by exact BK1.out)):gb2≠gb1));replace BK1:=Za (Zs (g:=gb1) (o:=.cells #[.slice A0_0 l0_0.length c0_0,.slice A0_1 l0_1.length c0_1,.int .i64 a0_2] 25 (0,0)) (by exact BK1.out) hb);replace HB:=Za (Zr (by exact HB.out) hb);clear hb hbox hg))
     replace BK1:=Za (Zz BK1.out);replace BK2:=Za (Zz BK2.out);replace HB:=Za (Zp HB.out)
     have p5:0≤(a2:Int):=Zd (by with_reducible assumption)
     have q5:a2<(l0_0.length:Int):=Zd (by with_reducible assumption)
     obtain⟨ad5,A5_1,c5_1,e5,hx5_0,hx5_1,hx5_2,hl5_1,hi5_1⟩:=ZaX HR0_0.out a2 p5 q5
     have hw5_2:=hx5_2
     have hw5_1:=hx5_1
     have hw5_0:=hx5_0
     cases e5
     replace hx5_0:=(HB.out.cell (Zc w _ hx5_0)).trans hx5_0
     replace hx5_1:=(HB.out.cell (Zc w _ hx5_1)).trans hx5_1
     replace hx5_2:=(HB.out.cell (Zc w _ hx5_2)).trans hx5_2
     have HR5_1:=Za hi5_1;have HC5_1:=Za hl5_1;clear hi5_1 hl5_1
     replace p5:=eq_true p5
     replace q5:=eq_true q5
     refine Zbd (n:=24) (S:=fun w'=>w'.cell? ⟨gb1,0,none⟩=some (.slice (some ad5) l0_0.length c0_0)∧w'.cell? ⟨gb1,1,none⟩=some (.slice A0_1 l0_1.length c0_1)∧w'.cell? ⟨gb1,2,none⟩=some (.int .i64 a0_2)∧w'.cell? ⟨gb2,0,none⟩=some (.slice A1_0 l1_0.length c1_0)∧w'.cell? ⟨gb2,1,none⟩=some (.slice A1_1 l1_1.length c1_1)∧w'.cell? (ad5.add ((a2).toNat * 3))=some (.string ((ZJ l0_0 a2).f0))∧w'.cell? ⟨(ad5.add ((a2).toNat * 3)).block,(ad5.add ((a2).toNat * 3)).off+1,none⟩=some (.slice A5_1 ((ZJ l0_0 a2).f1).length c5_1)∧w'.cell? ⟨(ad5.add ((a2).toNat * 3)).block,(ad5.add ((a2).toNat * 3)).off+2,none⟩=some (.int .i64 ((ZJ l0_0 a2).f2))) (ds:=[]) #[false,false,false,false,false,false,false,false,false,false,false,false,false,false,false,false,false,false,false,false,false,false,false,false] (by kernel_rfl) rfl rfl ⟨(Zm BK1.out 0).trans rfl,(Zm BK1.out 1).trans rfl,(Zm BK1.out 2).trans rfl,(Zm BK2.out 0).trans rfl,(Zm BK2.out 1).trans rfl,((HB.out.cell (Zc w _ hw5_0)).trans hw5_0),((HB.out.cell (Zc w _ hw5_1)).trans hw5_1),((HB.out.cell (Zc w _ hw5_2)).trans hw5_2)⟩ (fun hHeld=>?_);refine Zdd Zaz.tab1 Zaz.bits1 (fun HT_ HW_=>?_)
     generalize w12.drew=w13 at BK1 BK2 HB HR5_1 hx5_0 hx5_1 hx5_2 hHeld ⊢
     refine tk (N:=some 7) 0 hHeld ?_
     refine tk (N:=some 8) 1 hHeld ?_
     refine onl (N:=some 9) 2 (fun K hK=>?_)
     refine ZaU Tryz.func94 (by kernel_rfl) rfl #[.agg #[.slice (some ad5) l0_0.length c0_0,.slice A0_1 l0_1.length c0_1,.int .i64 a0_2],.agg #[.slice A1_0 l1_0.length c1_0,.slice A1_1 l1_1.length c1_1]] (by rfl) rfl rfl (by(try simp only[List.map_toArray,List.map_cons,List.map_nil]);first|done|rfl|(simp only[Zk,Zj];rfl)) ?_
     with_reducible refine(Zbo.calls k _ _ l0_0 _ _ l0_1 a0_2 _ _ l1_0 _ _ l1_1 true _ ?side1 ?side2 ?side3 ?side4 ?side5 ?side6 ?side7 ?side8 A4.out).mono ?_
     (case side1=>exact(Zb HR0_0.out HB.out))
     (case side2=>exact HC0_0.out)
     (case side3=>exact(Zb HR0_1.out HB.out))
     (case side4=>exact HC0_1.out)
     (case side5=>exact(Zb HR1_0.out HB.out))
     (case side6=>exact HC1_0.out)
     (case side7=>exact(Zb HR1_1.out HB.out))
     (case side8=>exact HC1_1.out)
     rintro e w14 ⟨rfl,hb⟩
     refine⟨_,rfl,?_⟩
     replace BK1:=Za (Zs (g:=gb1) (o:=.cells #[.slice (some ad5) l0_0.length c0_0,.slice A0_1 l0_1.length c0_1,.int .i64 a0_2] 25 (0,0)) (by exact BK1.out) hb);replace BK2:=Za (Zs (g:=gb2) (o:=.cells #[.slice A1_0 l1_0.length c1_0,.slice A1_1 l1_1.length c1_1] 58 (0,0)) (by exact BK2.out) hb);replace HB:=Za (Zr (by exact HB.out) hb)
     (try clear hb)
     (try clear hb2)
     (try clear hk)
     (try clear hi)
     refine hK.out _ _ ⟨(Zm BK1.out 0).trans rfl,(Zm BK1.out 1).trans rfl,(Zm BK1.out 2).trans rfl,(Zm BK2.out 0).trans rfl,(Zm BK2.out 1).trans rfl,((HB.out.cell (Zc w _ hw5_0)).trans hw5_0),((HB.out.cell (Zc w _ hw5_1)).trans hw5_1),((HB.out.cell (Zc w _ hw5_2)).trans hw5_2)⟩ (fun hHeld=>?_)
     clear hK K
     refine nrm (some 9) ?_
     refine pu (N:=some 10) 3 ?_
     refine pu (N:=some 11) 4 ?_
     refine pu (N:=some 12) 5 ?_
     refine tk (N:=some 13) 6 hHeld ?_
     refine pu (N:=some 14) 7 ?_
     refine pu (N:=some 15) 8 ?_
     refine onl (N:=some 16) 9 (fun K hK=>?_)
     refine ZaU Tryz.func127 (by kernel_rfl) rfl #[.int .i64 a2,.int .i64 0,.int .i64 (wrap64 ((l0_0.length:Int) - 1))] (by rfl) rfl rfl (by(try simp only[List.map_toArray,List.map_cons,List.map_nil]);first|done|rfl|(simp only[Zk,Zj];rfl)) ?_
     with_reducible refine(ZX.calls a2 0 (wrap64 ((l0_0.length:Int) - 1)) true _ A6.out).mono ?_
     rintro e w' ⟨rfl,⟨nd,rfl⟩⟩
     refine⟨_,rfl,?_⟩
     refine hK.out _ _ ⟨(Zm BK1.out 0).trans rfl,(Zm BK1.out 1).trans rfl,(Zm BK1.out 2).trans rfl,(Zm BK2.out 0).trans rfl,(Zm BK2.out 1).trans rfl,((HB.out.cell (Zc w _ hw5_0)).trans hw5_0),((HB.out.cell (Zc w _ hw5_1)).trans hw5_1),((HB.out.cell (Zc w _ hw5_2)).trans hw5_2)⟩ (fun hHeld=>?_)
     clear hK K
     refine nrm (some 16) ?_
     refine pu (N:=some 17) 10 ?_
     refine pu (N:=some 18) 11 ?_
     refine pu (N:=some 19) 12 ?_
     refine pu (N:=some 21) 14 ?_
     refine pu (N:=some 25) 18 ?_
     refine tk (N:=some 20) 13 hHeld ?_
     refine pu (N:=some 22) 15 ?_
     refine pu (N:=some 23) 16 ?_
     refine tk (N:=some 24) 17 hHeld ?_
     refine tk (N:=some 26) 19 hHeld ?_
     refine onl (N:=some 27) 20 (fun K hK=>?_)
     refine ZaU Tryz.func95 (by kernel_rfl) rfl #[.slice A5_1 ((ZJ l0_0 a2).f1).length c5_1,.slice A1_1 l1_1.length c1_1] (by rfl) rfl rfl (by(try simp only[List.map_toArray,List.map_cons,List.map_nil]);first|done|rfl|(simp only[Zk,Zj];rfl)) ?_
     with_reducible refine(Zav.calls k _ _ ((ZJ l0_0 a2).f1) _ _ l1_1 t6 _ ?side1 ?side2 ?side3 ?side4 A10.out).mono ?_
     (case side1=>exact(Zb HR5_1.out (by repeat(first|(with_reducible first|exact HB.out|apply Zo|apply Zn|apply Zp|refine Zt ?_ GE1.out|refine Zt ?_ GE2.out)|exact HB.out))))
     (case side2=>exact HC5_1.out)
     (case side3=>exact(Zb HR1_1.out (by repeat(first|(with_reducible first|exact HB.out|apply Zo|apply Zn|apply Zp|refine Zt ?_ GE1.out|refine Zt ?_ GE2.out)|exact HB.out))))
     (case side4=>exact HC1_1.out)
     rintro e w15 ⟨rfl,hb⟩
     refine⟨_,rfl,?_⟩
     replace BK1:=Za (Zs (g:=gb1) (o:=.cells #[.slice (some ad5) l0_0.length c0_0,.slice A0_1 l0_1.length c0_1,.int .i64 a0_2] 25 (0,0)) (by exact BK1.out) hb);replace BK2:=Za (Zs (g:=gb2) (o:=.cells #[.slice A1_0 l1_0.length c1_0,.slice A1_1 l1_1.length c1_1] 58 (0,0)) (by exact BK2.out) hb);replace HB:=Za (Zr (by repeat(first|(with_reducible first|exact HB.out|apply Zo|apply Zn|apply Zp|refine Zt ?_ GE1.out|refine Zt ?_ GE2.out)|exact HB.out)) hb)
     (try clear hb)
     (try clear hb2)
     (try clear hk)
     (try clear hi)
     refine hK.out _ _ ⟨(Zm BK1.out 0).trans rfl,(Zm BK1.out 1).trans rfl,(Zm BK1.out 2).trans rfl,(Zm BK2.out 0).trans rfl,(Zm BK2.out 1).trans rfl,((HB.out.cell (Zc w _ hw5_0)).trans hw5_0),((HB.out.cell (Zc w _ hw5_1)).trans hw5_1),((HB.out.cell (Zc w _ hw5_2)).trans hw5_2)⟩ (fun hHeld=>?_)
     clear hK K
     refine nrm (some 27) ?_
     refine pu (N:=some 28) 21 ?_
     refine pu (N:=some 29) 22 ?_
     refine pu (N:=some 6) 23 ?_
     refine Zbu (ZdO HT_.out (by kernel_rfl)) ?_
     try go_wp2
     go_ret
     exact⟨by first|rfl|(simp[ZC,ZB] <;> rfl)|(simp[*,ZC,ZB] <;> rfl),by repeat(first|(with_reducible first|exact HB.out|apply Zo|apply Zn|apply Zp|refine Zt ?_ GE1.out|refine Zt ?_ GE2.out)|exact HB.out)⟩
    ·rw[if_neg c9] at H
     exact absurd H (by simp)
   ·rw[if_neg c8] at H
    exact absurd H (by simp)
  ·replace c7:=Bool.eq_false_iff.mpr c7
   subst c7
   have H1:(some false)=some r:=by rw[if_neg (show ¬(false=true) by decide)] at H;exact H
   clear H
   have H:=H1
   clear H1
   obtain rfl:=Zg H
   go_enter Tryz.func172,Tryz.ntmps172
   try go_wp2_with (first|((with_reducible refine ZF (N:=3) rfl ?_);refine ZG ?hg (N:=3) ?hd (cs:=#[.slice A0_0 l0_0.length c0_0,.slice A0_1 l0_1.length c0_1,.int .i64 a0_2]) (t:=25) ?hr ?_;(case hd=>rfl);(case hg=>rfl);(case hr=>first|(go_simp;done)|(go_simp;rfl));intro gb1 hg w16 hbox hb;have BK1:=Za (hbox);have GW1:=Za ((by rw[hg];exact(Zv (by exact HB.out)):w.heap.size≤gb1));have GE1:=Za ((by rw[hg];exact(Zv (by exact HB.out)):w.heap.size≤gb1));replace HB:=Za (Zr (by exact HB.out) hb);clear hb hbox hg)|((with_reducible refine ZF (N:=4) rfl ?_);refine ZG ?hg (N:=4) ?hd (cs:=#[.slice A1_0 l1_0.length c1_0,.slice A1_1 l1_1.length c1_1]) (t:=58) ?hr ?_;(case hd=>rfl);(case hg=>rfl);(case hr=>first|(go_simp;done)|(go_simp;rfl));intro gb2 hg w17 hbox hb;have BK2:=Za (hbox);have GW2:=Za ((by rw[hg];exact(Zv (by exact HB.out)):w.heap.size≤gb2));have GE2:=Za ((by rw[hg];exact(Zv (by exact HB.out)):w.heap.size≤gb2));have NB1_2:=Za ((by rw[hg];exact Nat.ne_of_lt (ZN (g:=gb1) (o:=.cells #[.slice A0_0 l0_0.length c0_0,.slice A0_1 l0_1.length c0_1,.int .i64 a0_2] 25 (0,0)) (by exact BK1.out)):gb1≠gb2));have NB2_1:=Za ((by rw[hg];exact Nat.ne_of_gt (ZN (g:=gb1) (o:=.cells #[.slice A0_0 l0_0.length c0_0,.slice A0_1 l0_1.length c0_1,.int .i64 a0_2] 25 (0,0)) (by exact BK1.out)):gb2≠gb1));replace BK1:=Za (Zs (g:=gb1) (o:=.cells #[.slice A0_0 l0_0.length c0_0,.slice A0_1 l0_1.length c0_1,.int .i64 a0_2] 25 (0,0)) (by exact BK1.out) hb);replace HB:=Za (Zr (by exact HB.out) hb);clear hb hbox hg))
   replace BK1:=Za (Zz BK1.out);replace BK2:=Za (Zz BK2.out);replace HB:=Za (Zp HB.out)
   refine Zbd (n:=24) (S:=fun w'=>w'.cell? ⟨gb1,0,none⟩=some (.slice A0_0 l0_0.length c0_0)∧w'.cell? ⟨gb1,1,none⟩=some (.slice A0_1 l0_1.length c0_1)∧w'.cell? ⟨gb1,2,none⟩=some (.int .i64 a0_2)∧w'.cell? ⟨gb2,0,none⟩=some (.slice A1_0 l1_0.length c1_0)∧w'.cell? ⟨gb2,1,none⟩=some (.slice A1_1 l1_1.length c1_1)) (ds:=[]) #[false,false,false,false,false,false,false,false,false,false,false,false,false,false,false,false,false,false,false,false,false,false,false,false] (by kernel_rfl) rfl rfl ⟨(Zm BK1.out 0).trans rfl,(Zm BK1.out 1).trans rfl,(Zm BK1.out 2).trans rfl,(Zm BK2.out 0).trans rfl,(Zm BK2.out 1).trans rfl⟩ (fun hHeld=>?_);refine Zdd Zaz.tab1 Zaz.bits1 (fun HT_ HW_=>?_)
   generalize w17.drew=w18 at BK1 BK2 HB hHeld ⊢
   refine tk (N:=some 7) 0 hHeld ?_
   refine tk (N:=some 8) 1 hHeld ?_
   refine onl (N:=some 9) 2 (fun K hK=>?_)
   refine ZaU Tryz.func94 (by kernel_rfl) rfl #[.agg #[.slice A0_0 l0_0.length c0_0,.slice A0_1 l0_1.length c0_1,.int .i64 a0_2],.agg #[.slice A1_0 l1_0.length c1_0,.slice A1_1 l1_1.length c1_1]] (by rfl) rfl rfl (by(try simp only[List.map_toArray,List.map_cons,List.map_nil]);first|done|rfl|(simp only[Zk,Zj];rfl)) ?_
   with_reducible refine(Zbo.calls k _ _ l0_0 _ _ l0_1 a0_2 _ _ l1_0 _ _ l1_1 true _ ?side1 ?side2 ?side3 ?side4 ?side5 ?side6 ?side7 ?side8 A4.out).mono ?_
   (case side1=>exact(Zb HR0_0.out HB.out))
   (case side2=>exact HC0_0.out)
   (case side3=>exact(Zb HR0_1.out HB.out))
   (case side4=>exact HC0_1.out)
   (case side5=>exact(Zb HR1_0.out HB.out))
   (case side6=>exact HC1_0.out)
   (case side7=>exact(Zb HR1_1.out HB.out))
   (case side8=>exact HC1_1.out)
   rintro e w19 ⟨rfl,hb⟩
   refine⟨_,rfl,?_⟩
   replace BK1:=Za (Zs (g:=gb1) (o:=.cells #[.slice A0_0 l0_0.length c0_0,.slice A0_1 l0_1.length c0_1,.int .i64 a0_2] 25 (0,0)) (by exact BK1.out) hb);replace BK2:=Za (Zs (g:=gb2) (o:=.cells #[.slice A1_0 l1_0.length c1_0,.slice A1_1 l1_1.length c1_1] 58 (0,0)) (by exact BK2.out) hb);replace HB:=Za (Zr (by exact HB.out) hb)
   (try clear hb)
   (try clear hb2)
   (try clear hk)
   (try clear hi)
   refine hK.out _ _ ⟨(Zm BK1.out 0).trans rfl,(Zm BK1.out 1).trans rfl,(Zm BK1.out 2).trans rfl,(Zm BK2.out 0).trans rfl,(Zm BK2.out 1).trans rfl⟩ (fun hHeld=>?_)
   clear hK K
   refine nrm (some 9) ?_
   refine pu (N:=some 10) 3 ?_
   refine pu (N:=some 11) 4 ?_
   refine pu (N:=some 12) 5 ?_
   refine tk (N:=some 13) 6 hHeld ?_
   refine pu (N:=some 14) 7 ?_
   refine pu (N:=some 15) 8 ?_
   refine onl (N:=some 16) 9 (fun K hK=>?_)
   refine ZaU Tryz.func127 (by kernel_rfl) rfl #[.int .i64 a2,.int .i64 0,.int .i64 (wrap64 ((l0_0.length:Int) - 1))] (by rfl) rfl rfl (by(try simp only[List.map_toArray,List.map_cons,List.map_nil]);first|done|rfl|(simp only[Zk,Zj];rfl)) ?_
   with_reducible refine(ZX.calls a2 0 (wrap64 ((l0_0.length:Int) - 1)) false _ A6.out).mono ?_
   rintro e w' ⟨rfl,⟨nd,rfl⟩⟩
   refine⟨_,rfl,?_⟩
   refine hK.out _ _ ⟨(Zm BK1.out 0).trans rfl,(Zm BK1.out 1).trans rfl,(Zm BK1.out 2).trans rfl,(Zm BK2.out 0).trans rfl,(Zm BK2.out 1).trans rfl⟩ (fun hHeld=>?_)
   clear hK K
   refine nrm (some 16) ?_
   refine pu (N:=some 17) 10 ?_
   refine pu (N:=some 18) 11 ?_
   refine und (N:=some 19) 12 ?_
   refine und (N:=some 20) 13 ?_
   refine und (N:=some 21) 14 ?_
   refine und (N:=some 22) 15 ?_
   refine und (N:=some 23) 16 ?_
   refine und (N:=some 24) 17 ?_
   refine und (N:=some 25) 18 ?_
   refine und (N:=some 26) 19 ?_
   refine und (N:=some 27) 20 ?_
   refine und (N:=some 28) 21 ?_
   refine pu (N:=some 29) 22 ?_
   refine pu (N:=some 6) 23 ?_
   refine Zbu (ZdO HT_.out (by kernel_rfl)) ?_
   try go_wp2
   go_ret
   exact⟨by first|rfl|(simp[ZC,ZB] <;> rfl)|(simp[*,ZC,ZB] <;> rfl),by repeat(first|(with_reducible first|exact HB.out|apply Zo|apply Zn|apply Zp|refine Zt ?_ GE1.out|refine Zt ?_ GE2.out)|exact HB.out)⟩
 ·replace c5:=Bool.eq_false_iff.mpr c5
  subst c5
  have H1:(some false)=some r:=by rw[if_neg (show ¬(false=true) by decide)] at H;exact H
  clear H
  have H:=H1
  clear H1
  obtain rfl:=Zg H
  go_enter Tryz.func172,Tryz.ntmps172
  try go_wp2_with (first|((with_reducible refine ZF (N:=3) rfl ?_);refine ZG ?hg (N:=3) ?hd (cs:=#[.slice A0_0 l0_0.length c0_0,.slice A0_1 l0_1.length c0_1,.int .i64 a0_2]) (t:=25) ?hr ?_;(case hd=>rfl);(case hg=>rfl);(case hr=>first|(go_simp;done)|(go_simp;rfl));intro gb1 hg w20 hbox hb;have BK1:=Za (hbox);have GW1:=Za ((by rw[hg];exact(Zv (by exact HB.out)):w.heap.size≤gb1));have GE1:=Za ((by rw[hg];exact(Zv (by exact HB.out)):w.heap.size≤gb1));replace HB:=Za (Zr (by exact HB.out) hb);clear hb hbox hg)|((with_reducible refine ZF (N:=4) rfl ?_);refine ZG ?hg (N:=4) ?hd (cs:=#[.slice A1_0 l1_0.length c1_0,.slice A1_1 l1_1.length c1_1]) (t:=58) ?hr ?_;(case hd=>rfl);(case hg=>rfl);(case hr=>first|(go_simp;done)|(go_simp;rfl));intro gb2 hg w21 hbox hb;have BK2:=Za (hbox);have GW2:=Za ((by rw[hg];exact(Zv (by exact HB.out)):w.heap.size≤gb2));have GE2:=Za ((by rw[hg];exact(Zv (by exact HB.out)):w.heap.size≤gb2));have NB1_2:=Za ((by rw[hg];exact Nat.ne_of_lt (ZN (g:=gb1) (o:=.cells #[.slice A0_0 l0_0.length c0_0,.slice A0_1 l0_1.length c0_1,.int .i64 a0_2] 25 (0,0)) (by exact BK1.out)):gb1≠gb2));have NB2_1:=Za ((by rw[hg];exact Nat.ne_of_gt (ZN (g:=gb1) (o:=.cells #[.slice A0_0 l0_0.length c0_0,.slice A0_1 l0_1.length c0_1,.int .i64 a0_2] 25 (0,0)) (by exact BK1.out)):gb2≠gb1));replace BK1:=Za (Zs (g:=gb1) (o:=.cells #[.slice A0_0 l0_0.length c0_0,.slice A0_1 l0_1.length c0_1,.int .i64 a0_2] 25 (0,0)) (by exact BK1.out) hb);replace HB:=Za (Zr (by exact HB.out) hb);clear hb hbox hg))
  replace BK1:=Za (Zz BK1.out);replace BK2:=Za (Zz BK2.out);replace HB:=Za (Zp HB.out)
  refine Zbd (n:=24) (S:=fun w'=>w'.cell? ⟨gb1,0,none⟩=some (.slice A0_0 l0_0.length c0_0)∧w'.cell? ⟨gb1,1,none⟩=some (.slice A0_1 l0_1.length c0_1)∧w'.cell? ⟨gb1,2,none⟩=some (.int .i64 a0_2)∧w'.cell? ⟨gb2,0,none⟩=some (.slice A1_0 l1_0.length c1_0)∧w'.cell? ⟨gb2,1,none⟩=some (.slice A1_1 l1_1.length c1_1)) (ds:=[]) #[false,false,false,false,false,false,false,false,false,false,false,false,false,false,false,false,false,false,false,false,false,false,false,false] (by kernel_rfl) rfl rfl ⟨(Zm BK1.out 0).trans rfl,(Zm BK1.out 1).trans rfl,(Zm BK1.out 2).trans rfl,(Zm BK2.out 0).trans rfl,(Zm BK2.out 1).trans rfl⟩ (fun hHeld=>?_);refine Zdd Zaz.tab1 Zaz.bits1 (fun HT_ HW_=>?_)
  generalize w21.drew=w22 at BK1 BK2 HB hHeld ⊢
  refine tk (N:=some 7) 0 hHeld ?_
  refine tk (N:=some 8) 1 hHeld ?_
  refine onl (N:=some 9) 2 (fun K hK=>?_)
  refine ZaU Tryz.func94 (by kernel_rfl) rfl #[.agg #[.slice A0_0 l0_0.length c0_0,.slice A0_1 l0_1.length c0_1,.int .i64 a0_2],.agg #[.slice A1_0 l1_0.length c1_0,.slice A1_1 l1_1.length c1_1]] (by rfl) rfl rfl (by(try simp only[List.map_toArray,List.map_cons,List.map_nil]);first|done|rfl|(simp only[Zk,Zj];rfl)) ?_
  with_reducible refine(Zbo.calls k _ _ l0_0 _ _ l0_1 a0_2 _ _ l1_0 _ _ l1_1 false _ ?side1 ?side2 ?side3 ?side4 ?side5 ?side6 ?side7 ?side8 A4.out).mono ?_
  (case side1=>exact(Zb HR0_0.out HB.out))
  (case side2=>exact HC0_0.out)
  (case side3=>exact(Zb HR0_1.out HB.out))
  (case side4=>exact HC0_1.out)
  (case side5=>exact(Zb HR1_0.out HB.out))
  (case side6=>exact HC1_0.out)
  (case side7=>exact(Zb HR1_1.out HB.out))
  (case side8=>exact HC1_1.out)
  rintro e w23 ⟨rfl,hb⟩
  refine⟨_,rfl,?_⟩
  replace BK1:=Za (Zs (g:=gb1) (o:=.cells #[.slice A0_0 l0_0.length c0_0,.slice A0_1 l0_1.length c0_1,.int .i64 a0_2] 25 (0,0)) (by exact BK1.out) hb);replace BK2:=Za (Zs (g:=gb2) (o:=.cells #[.slice A1_0 l1_0.length c1_0,.slice A1_1 l1_1.length c1_1] 58 (0,0)) (by exact BK2.out) hb);replace HB:=Za (Zr (by exact HB.out) hb)
  (try clear hb)
  (try clear hb2)
  (try clear hk)
  (try clear hi)
  refine hK.out _ _ ⟨(Zm BK1.out 0).trans rfl,(Zm BK1.out 1).trans rfl,(Zm BK1.out 2).trans rfl,(Zm BK2.out 0).trans rfl,(Zm BK2.out 1).trans rfl⟩ (fun hHeld=>?_)
  clear hK K
  refine nrm (some 9) ?_
  refine pu (N:=some 10) 3 ?_
  refine und (N:=some 11) 4 ?_
  refine und (N:=some 12) 5 ?_
  refine und (N:=some 13) 6 ?_
  refine und (N:=some 14) 7 ?_
  refine und (N:=some 15) 8 ?_
  refine und (N:=some 16) 9 ?_
  refine pu (N:=some 17) 10 ?_
  refine pu (N:=some 18) 11 ?_
  refine und (N:=some 19) 12 ?_
  refine und (N:=some 20) 13 ?_
  refine und (N:=some 21) 14 ?_
  refine und (N:=some 22) 15 ?_
  refine und (N:=some 23) 16 ?_
  refine und (N:=some 24) 17 ?_
  refine und (N:=some 25) 18 ?_
  refine und (N:=some 26) 19 ?_
  refine und (N:=some 27) 20 ?_
  refine und (N:=some 28) 21 ?_
  refine pu (N:=some 29) 22 ?_
  refine pu (N:=some 6) 23 ?_
  refine Zbu (ZdO HT_.out (by kernel_rfl)) ?_
  try go_wp2
  go_ret
  exact⟨by first|rfl|(simp[ZC,ZB] <;> rfl)|(simp[*,ZC,ZB] <;> rfl),by repeat(first|(with_reducible first|exact HB.out|apply Zo|apply Zn|apply Zp|refine Zt ?_ GE1.out|refine Zt ?_ GE2.out)|exact HB.out)⟩
mutual
def Z3.l0:Nat→Int→ByteArray→Option (ByteArray)
 | 0,_,_=>none
 | k+1,x0,x3=>if x0 > 9 then((some (([(wrap64 (48+(Int.tmod x0 10))) % 256]:List Int):List Int)).bind fun y8=>(if (strOfNums y8).size+x3.size≤9223372036854775807 then(Z3.l0 k (wrap64 (Int.tdiv x0 10)) ((strOfNums y8) ++ x3)) else(none))) else((some (([(wrap64 (48+x0)) % 256]:List Int):List Int)).bind fun y11=>(if (strOfNums y11).size+x3.size≤9223372036854775807 then(some ((strOfNums y11) ++ x3)) else(none)))
def Z3.f:Nat→Int→Option (ByteArray)
 | 0,_=>none
 | k+1,a0=>if a0<0 then(if (wrap64 (Int.tdiv a0 10))=0 then((some (([(wrap64 (48 - a0)) % 256]:List Int):List Int)).bind fun y1=>(if 1+(strOfNums y1).size≤9223372036854775807 then(some ((⟨#[45]⟩:ByteArray) ++ (strOfNums y1))) else(none))) else((Z3.f k (wrap64 (Int.tdiv a0 10))).bind fun t4=>((some (([(wrap64 (48 - (Int.tmod a0 10))) % 256]:List Int):List Int)).bind fun y5=>(if t4.size+(strOfNums y5).size≤9223372036854775807 then(some (t4 ++ (strOfNums y5))) else(none))))) else(Z3.l0 k a0 (⟨#[]⟩:ByteArray))
end
def Z3.T4:Bool×List (List Nat×List Nat):=(true,[([],[]),([0],[0]),([1],[1]),([],[]),([3],[3]),([4],[4]),([5],[5]),([6],[6]),([7],[7]),([2,8],[2,8]),([9,2,0,1,2,3,4,5,6,7,8,9],[9])])
def Z3.B4:List Nat:=[0,1,3,0,8,24,56,120,248,511,1023]
theorem Z3.tab4:rtab .any (opsOf Tryz.f123 4)=Z3.T4:=by kernel_rfl
theorem Z3.bits4:ZdJ Z3.T4.2 Z3.B4=true:=by kernel_rfl
theorem Z3.calls (k:Nat):∀(a0:Int) (r:ByteArray) (w:World) (h:Z3.f k a0=some r),
  Calls Tryz.prog 123 #[.int .i64 a0] w fun e w'=>e=.returned (.string r)∧Below w.heap.size w w':=by
 induction k using Nat.strongRecOn with
 | _ k ih=>
 intro a0 r w h
 cases k with
 | zero=>exact absurd h (by simp[Z3.f])
 | succ k=>
 simp only[Z3.f] at h
 have HB:=Za (Below.refl w.heap.size w)
 have H:(if a0<0 then(if (wrap64 (Int.tdiv a0 10))=0 then((some (([(wrap64 (48 - a0)) % 256]:List Int):List Int)).bind fun y1=>(if 1+(strOfNums y1).size≤9223372036854775807 then(some ((⟨#[45]⟩:ByteArray) ++ (strOfNums y1))) else(none))) else((Z3.f k (wrap64 (Int.tdiv a0 10))).bind fun t4=>((some (([(wrap64 (48 - (Int.tmod a0 10))) % 256]:List Int):List Int)).bind fun y5=>(if t4.size+(strOfNums y5).size≤9223372036854775807 then(some (t4 ++ (strOfNums y5))) else(none))))) else(Z3.l0 k a0 (⟨#[]⟩:ByteArray)))=some r:=h
 clear h
 by_cases c2:a0<0
 ·rw[if_pos c2] at H
  have c2b0:decide (a0<0)=true:=Ze c2
  clear c2
  by_cases c3:(wrap64 (Int.tdiv a0 10))=0
  ·rw[if_pos c3] at H
   have c3b0:((wrap64 (Int.tdiv a0 10)) == 0)=true:=beq_iff_eq.mpr c3
   clear c3
   obtain⟨y1,hy1⟩:∃y_:List Int,y_=(([(wrap64 (48 - a0)) % 256]:List Int)):=⟨_,rfl⟩
   replace H:(if 1+(strOfNums y1).size≤9223372036854775807 then(some ((⟨#[45]⟩:ByteArray) ++ (strOfNums y1))) else(none))=some r:=by first|(rw[hy1];with_reducible exact H)|(have H2_:=(Zi _ _).symm.trans H;rw[hy1];with_reducible exact H2_)|(have H2_:=(Zi _ _).symm.trans H;with_reducible exact H2_)|with_reducible exact H|(rw[hy1];exact H)|exact H
   have Ny1:=Za hy1;clear hy1
   by_cases c4:1+(strOfNums y1).size≤9223372036854775807
   ·rw[if_pos c4] at H
    have c4b0:=eq_true c4
    try have c4b2:(9223372036854775807<1+(strOfNums y1).size)=False:=eq_false (Nat.not_lt.2 c4)
    obtain rfl:=Zg H
    go_enter Tryz.func123,Tryz.ntmps123
    go_wp2_with (first|((with_reducible refine ZF (N:=12) rfl ?_);refine Kd.R_lit (Kd.int .u8) _ 5 ?hg (N:=12) ?hd (xs:=([(wrap64 (48 - a0)) % 256]:List Int)) (inner:=[.int .u8 ((wrap64 (48 - a0)) % 256)]) (ok:=fun _=>True) (okp:=fun _=>True) ?hr ?hp (fun _ hk=>hk) trivial (Below.refl _ _) (Nat.le_refl _) (by simp) ?_;(case hd=>rfl);(case hg=>rfl);(case hr=>first|(go_simp;done)|(go_simp;rfl));(case hp=>exact(Reps.one (show Kd.M (Kd.int .u8) _ _ _ ((wrap64 (48 - a0)) % 256) [.int .u8 ((wrap64 (48 - a0)) % 256)] from rfl) (Reps.none _ _)));intro v2 w5 ho6 hb hg_ hnew_;clear hg_ hnew_;(first|rw[← Ny1.out] at ho6|(simp only[Int.reduceToNat] at ho6;rw[← Ny1.out] at ho6));have HO3:=Za (Kd.R_lower ho6 (Zv (by exact HB.out)));replace HB:=Za (Zr (by exact HB.out) hb);clear hb ho6;have hcv7:=Zc6 (P:=Tryz.prog) Tryz.underlying31 Tryz.underlying5 Tryz.underlying9 (Kd.own_of_R HO3.out)))
    go_ret
    exact⟨by first|rfl|(simp[ZC,ZB] <;> rfl)|(simp[*,ZC,ZB] <;> rfl),by repeat(first|(with_reducible first|exact HB.out|apply Zo|apply Zn|apply Zp)|exact HB.out)⟩
   ·rw[if_neg c4] at H
    exact absurd H (by simp)
  ·rw[if_neg c3] at H
   have c3b0:((wrap64 (Int.tdiv a0 10)) == 0)=false:=beq_eq_false_iff_ne.mpr c3
   replace H:=Zh H
   obtain⟨t4,A80,H⟩:=H;have A8:=Za A80;clear A80
   obtain⟨y5,hy5⟩:∃y_:List Int,y_=(([(wrap64 (48 - (Int.tmod a0 10))) % 256]:List Int)):=⟨_,rfl⟩
   replace H:(if t4.size+(strOfNums y5).size≤9223372036854775807 then(some (t4 ++ (strOfNums y5))) else(none))=some r:=by first|(rw[hy5];with_reducible exact H)|(have H2_:=(Zi _ _).symm.trans H;rw[hy5];with_reducible exact H2_)|(have H2_:=(Zi _ _).symm.trans H;with_reducible exact H2_)|with_reducible exact H|(rw[hy5];exact H)|exact H
   have Ny5:=Za hy5;clear hy5
   by_cases c9:t4.size+(strOfNums y5).size≤9223372036854775807
   ·rw[if_pos c9] at H
    have c9b0:=eq_true c9
    try have c9b2:(9223372036854775807<t4.size+(strOfNums y5).size)=False:=eq_false (Nat.not_lt.2 c9)
    obtain rfl:=Zg H
    go_enter Tryz.func123,Tryz.ntmps123
    try go_wp2
    replace HB:=Za (Zp HB.out)
    refine Zbd (n:=11) (S:=fun w'=>True) (ds:=[]) #[false,false,false,false,false,false,false,false,false,false,false] (by kernel_rfl) rfl rfl trivial (fun hHeld=>?_);refine Zdd Z3.tab4 Z3.bits4 (fun HT_ HW_=>?_)
    generalize w.drew=w10 at HB hHeld ⊢
    refine pu (N:=some 15) 0 ?_
    refine pu (N:=some 16) 1 ?_
    refine pu (N:=some 18) 3 ?_
    refine pu (N:=some 19) 4 ?_
    refine pu (N:=some 20) 5 ?_
    refine pu (N:=some 21) 6 ?_
    refine join_ (σ:=Value) 2 #[true,true,true,true,true,true,true,true,true,false,false] (fun s_=>[(17,.string t4),(22,s_),(23,.string (strOfNums y5))]) (fun s_ w'=>(Kd.R (Kd.int .u8) 5 w' w.heap.size (fun _=>True) s_ y5)∧(Below w.heap.size w w')) ?_ ?_
    rotate_left
    ·intro hCont
     refine two_ (i:=2) (j:=7) (Ni:=some 17) (Nj:=some 22) #[true,true,true,true,true,true,true,false,false,false,false] #[true,true,false,true,true,true,true,true,false,false,false] rfl rfl rfl rfl (two_of HT_.out (by kernel_rfl)) (by decide) (by decide) (fun K hK=>?_) (fun K hK=>?_)
     ·skip
      refine ZaU Tryz.func123 (by kernel_rfl) rfl #[.int .i64 (wrap64 (Int.tdiv a0 10))] (by rfl) rfl rfl (by(try simp only[List.map_toArray,List.map_cons,List.map_nil]);first|done|rfl|(simp only[Zk,Zj];rfl)) ?_
      with_reducible refine(ih k (by omega) (wrap64 (Int.tdiv a0 10)) t4 _ A8.out).mono ?_
      rintro e w11 ⟨rfl,hb⟩
      refine⟨_,rfl,?_⟩
      replace HB:=Za (Zr (by exact HB.out) hb)
      (try clear hb)
      (try clear hb2)
      (try clear hk)
      (try clear hi)
      refine hK.out _ _ trivial (fun hHeld=>?_)
      clear hK K
      refine nrm (some 17) ?_
      refine onl (N:=some 22) 7 (fun K hK=>?_)
      refine Kd.R_lit_step (Kd.int .u8) _ 5 ?hg (N:=22) ?hd (xs:=([(wrap64 (48 - (Int.tmod a0 10))) % 256]:List Int)) (inner:=[.int .u8 ((wrap64 (48 - (Int.tmod a0 10))) % 256)]) (ok:=fun _=>True) (okp:=fun _=>True) ?hr ?hp (fun _ hk=>hk) trivial (Below.refl _ _) (Nat.le_refl _) (by simp) ?_;(case hd=>rfl);(case hg=>rfl);(case hr=>first|(go_simp;done)|(go_simp;rfl));(case hp=>exact(Reps.one (show Kd.M (Kd.int .u8) _ _ _ ((wrap64 (48 - (Int.tmod a0 10))) % 256) [.int .u8 ((wrap64 (48 - (Int.tmod a0 10))) % 256)] from rfl) (Reps.none _ _)))
      intro v6 w12 ho13 hb hg_ hnew_
      clear hg_ hnew_
      (first|rw[← Ny5.out] at ho13|(simp only[Int.reduceToNat] at ho13;rw[← Ny5.out] at ho13))
      have HO7:=Za (Kd.R_lower ho13 (Zv (by exact HB.out)));replace HB:=Za (Zr (by exact HB.out) hb)
      clear hb ho13
      refine hK.out _ _ trivial (fun hHeld=>?_)
      clear hK K
      refine nrm (some 22) ?_
      refine onl (N:=some 23) 8 (fun K hK=>?_)
      have hcv14:=Zc6 (P:=Tryz.prog) Tryz.underlying31 Tryz.underlying5 Tryz.underlying9 (Kd.own_of_R HO7.out)
      refine Zcs (w1:=?_) (v:=?_) (by rfl) rfl ?_ ?_
      rotate_left 2
      ·go_simp
       constructor
       ·rfl
       ·rfl
      clear hcv14
      refine hK.out _ _ trivial (fun hHeld=>?_)
      clear hK K
      refine nrm (some 23) ?_
      exact ZdF (by simp only[ZcZ,Act.put,List.setIfInBounds_toArray,List.set_cons_zero,List.set_cons_succ]) (hCont (v6) _ ⟨(by exact HO7.out),(by exact HB.out)⟩)
     ·skip
      refine Kd.R_lit_step (Kd.int .u8) _ 5 ?hg (N:=22) ?hd (xs:=([(wrap64 (48 - (Int.tmod a0 10))) % 256]:List Int)) (inner:=[.int .u8 ((wrap64 (48 - (Int.tmod a0 10))) % 256)]) (ok:=fun _=>True) (okp:=fun _=>True) ?hr ?hp (fun _ hk=>hk) trivial (Below.refl _ _) (Nat.le_refl _) (by simp) ?_;(case hd=>rfl);(case hg=>rfl);(case hr=>first|(go_simp;done)|(go_simp;rfl));(case hp=>exact(Reps.one (show Kd.M (Kd.int .u8) _ _ _ ((wrap64 (48 - (Int.tmod a0 10))) % 256) [.int .u8 ((wrap64 (48 - (Int.tmod a0 10))) % 256)] from rfl) (Reps.none _ _)))
      intro v6 w11 ho12 hb hg_ hnew_
      clear hg_ hnew_
      (first|rw[← Ny5.out] at ho12|(simp only[Int.reduceToNat] at ho12;rw[← Ny5.out] at ho12))
      have HO7:=Za (Kd.R_lower ho12 (Zv (by exact HB.out)));replace HB:=Za (Zr (by exact HB.out) hb)
      clear hb ho12
      refine hK.out _ _ trivial (fun hHeld=>?_)
      clear hK K
      refine nrm (some 22) ?_
      refine two_ (i:=2) (j:=8) (Ni:=some 17) (Nj:=some 23) #[true,true,true,true,true,true,true,true,false,false,false] #[true,true,false,true,true,true,true,true,true,false,false] rfl rfl rfl rfl (two_of HT_.out (by kernel_rfl)) (by decide) (by decide) (fun K hK=>?_) (fun K hK=>?_)
      ·skip
       refine ZaU Tryz.func123 (by kernel_rfl) rfl #[.int .i64 (wrap64 (Int.tdiv a0 10))] (by rfl) rfl rfl (by(try simp only[List.map_toArray,List.map_cons,List.map_nil]);first|done|rfl|(simp only[Zk,Zj];rfl)) ?_
       with_reducible refine(ih k (by omega) (wrap64 (Int.tdiv a0 10)) t4 _ A8.out).mono ?_
       rintro e w13 ⟨rfl,hb⟩
       refine⟨_,rfl,?_⟩
       replace HO7:=Za (Kd.R_below (by exact HO7.out) hb);replace HB:=Za (Zr (by exact HB.out) hb)
       (try clear hb)
       (try clear hb2)
       (try clear hk)
       (try clear hi)
       refine hK.out _ _ trivial (fun hHeld=>?_)
       clear hK K
       refine nrm (some 17) ?_
       refine onl (N:=some 23) 8 (fun K hK=>?_)
       have hcv14:=Zc6 (P:=Tryz.prog) Tryz.underlying31 Tryz.underlying5 Tryz.underlying9 (Kd.own_of_R HO7.out)
       refine Zcs (w1:=?_) (v:=?_) (by rfl) rfl ?_ ?_
       rotate_left 2
       ·go_simp
        constructor
        ·rfl
        ·rfl
       clear hcv14
       refine hK.out _ _ trivial (fun hHeld=>?_)
       clear hK K
       refine nrm (some 23) ?_
       exact ZdF (by simp only[ZcZ,Act.put,List.setIfInBounds_toArray,List.set_cons_zero,List.set_cons_succ]) (hCont (v6) _ ⟨(by exact HO7.out),(by exact HB.out)⟩)
      ·skip
       have hcv13:=Zc6 (P:=Tryz.prog) Tryz.underlying31 Tryz.underlying5 Tryz.underlying9 (Kd.own_of_R HO7.out)
       refine Zcs (w1:=?_) (v:=?_) (by rfl) rfl ?_ ?_
       rotate_left 2
       ·go_simp
        constructor
        ·rfl
        ·rfl
       clear hcv13
       refine hK.out _ _ trivial (fun hHeld=>?_)
       clear hK K
       refine nrm (some 23) ?_
       refine onl (N:=some 17) 2 (fun K hK=>?_)
       refine ZaU Tryz.func123 (by kernel_rfl) rfl #[.int .i64 (wrap64 (Int.tdiv a0 10))] (by rfl) rfl rfl (by(try simp only[List.map_toArray,List.map_cons,List.map_nil]);first|done|rfl|(simp only[Zk,Zj];rfl)) ?_
       with_reducible refine(ih k (by omega) (wrap64 (Int.tdiv a0 10)) t4 _ A8.out).mono ?_
       rintro e w14 ⟨rfl,hb⟩
       refine⟨_,rfl,?_⟩
       replace HO7:=Za (Kd.R_below (by exact HO7.out) hb);replace HB:=Za (Zr (by exact HB.out) hb)
       (try clear hb)
       (try clear hb2)
       (try clear hk)
       (try clear hi)
       refine hK.out _ _ trivial (fun hHeld=>?_)
       clear hK K
       refine nrm (some 17) ?_
       exact ZdF (by simp only[ZcZ,Act.put,List.setIfInBounds_toArray,List.set_cons_zero,List.set_cons_succ]) (hCont (v6) _ ⟨(by exact HO7.out),(by exact HB.out)⟩)
    rintro v6 w15 ⟨h0_,h1_⟩
    have HO7:Aside0 (Kd.R (Kd.int .u8) 5 w15 w.heap.size (fun _=>True) v6 y5):=⟨h0_⟩;replace HB:Aside0 (Below w.heap.size w w15):=⟨h1_⟩;clear h0_ h1_
    have hHeld:=trivial
    refine ZdF (a':=?_) ?_ ?_
    rotate_left
    ·simp only[ZcZ,Act.put,List.setIfInBounds_toArray,List.set_cons_zero,List.set_cons_succ]
     rfl
    refine pu (N:=some 24) 9 ?_
    refine pu (N:=some 2) 10 ?_
    refine Zbu (ZdO HT_.out (by kernel_rfl)) ?_
    try go_wp2
    go_ret
    exact⟨by first|rfl|(simp[ZC,ZB] <;> rfl)|(simp[*,ZC,ZB] <;> rfl),by repeat(first|(with_reducible first|exact HB.out|apply Zo|apply Zn|apply Zp)|exact HB.out)⟩
   ·rw[if_neg c9] at H
    exact absurd H (by simp)
 ·rw[if_neg c2] at H
  have c2b0:decide (a0<0)=false:=Zf c2
  clear c2
  have H':=Za H
  clear H
  go_enter Tryz.func123,Tryz.ntmps123
  go_wp2
  go_loopg [0,3] k (fun kq v0 v3 w'=>∃(x0_1:Int) (x3_1:ByteArray),v0=.int .i64 x0_1∧v3=.string x3_1∧Aside0 (Z3.l0 kq x0_1 x3_1=some r)∧Aside0 (kq≤k)∧Aside0 (Below w.heap.size w w'))
  case atStart=>exact⟨(a0),((⟨#[]⟩:ByteArray)),(by first|rfl|(simp;done)|(simp[*];done)),(by first|rfl|(simp;done)|(simp[*];done)),H',⟨Nat.le_refl _⟩,⟨by repeat(first|(with_reducible first|exact HB.out|apply Zo|apply Zn|apply Zp)|exact HB.out)⟩⟩
  case round=>
   clear H'
   try clear c1
   try clear hcv1
   try clear c2
   try clear c2b0
   try clear p2
   try clear c3
   try clear c3b0
   try clear c3b1
   try clear c4
   try clear c4b0
   try clear c4b1
   try clear c4b2
   try clear p6
   try clear hcv7
   try clear c9
   try clear c9b0
   try clear c9b1
   try clear c9b2
   try clear c12
   try clear hcv13
   try clear hcv14
   obtain⟨x0_1,x3_1,rfl,rfl,HA,HK1,HB⟩:=hrel
   cases gk with
   | zero=>exact absurd HA.out (by simp[Z3.l0])
   | succ k1=>
    have H:=HA.out
    clear HA
    simp only[Z3.l0] at H
    by_cases c16:x0_1 > 9
    ·rw[if_pos c16] at H
     have c16b0:decide (9<x0_1)=true:=Ze c16
     clear c16
     obtain⟨y8,hy8⟩:∃y_:List Int,y_=(([(wrap64 (48+(Int.tmod x0_1 10))) % 256]:List Int)):=⟨_,rfl⟩
     replace H:(if (strOfNums y8).size+x3_1.size≤9223372036854775807 then(Z3.l0 k1 (wrap64 (Int.tdiv x0_1 10)) ((strOfNums y8) ++ x3_1)) else(none))=some r:=by first|(rw[hy8];with_reducible exact H)|(have H2_:=(Zi _ _).symm.trans H;rw[hy8];with_reducible exact H2_)|(have H2_:=(Zi _ _).symm.trans H;with_reducible exact H2_)|with_reducible exact H|(rw[hy8];exact H)|exact H
     have Ny8:=Za hy8;clear hy8
     by_cases c17:(strOfNums y8).size+x3_1.size≤9223372036854775807
     ·rw[if_pos c17] at H
      have c17b0:=eq_true c17
      try have c17b2:(9223372036854775807<(strOfNums y8).size+x3_1.size)=False:=eq_false (Nat.not_lt.2 c17)
      have H':=Za H
      clear H
      go_wp2_with (first|((with_reducible refine ZF (N:=31) rfl ?_);refine Kd.R_lit (Kd.int .u8) _ 5 ?hg (N:=31) ?hd (xs:=([(wrap64 (48+(Int.tmod x0_1 10))) % 256]:List Int)) (inner:=[.int .u8 ((wrap64 (48+(Int.tmod x0_1 10))) % 256)]) (ok:=fun _=>True) (okp:=fun _=>True) ?hr ?hp (fun _ hk=>hk) trivial (Below.refl _ _) (Nat.le_refl _) (by simp) ?_;(case hd=>rfl);(case hg=>rfl);(case hr=>first|(go_simp;done)|(go_simp;rfl));(case hp=>exact(Reps.one (show Kd.M (Kd.int .u8) _ _ _ ((wrap64 (48+(Int.tmod x0_1 10))) % 256) [.int .u8 ((wrap64 (48+(Int.tmod x0_1 10))) % 256)] from rfl) (Reps.none _ _)));intro v9 w18 ho19 hb hg_ hnew_;clear hg_ hnew_;(first|rw[← Ny8.out] at ho19|(simp only[Int.reduceToNat] at ho19;rw[← Ny8.out] at ho19));have HO10:=Za (Kd.R_lower ho19 (Zv (by exact HB.out)));replace HB:=Za (Zr (by exact HB.out) hb);clear hb ho19;have hcv20:=Zc6 (P:=Tryz.prog) Tryz.underlying31 Tryz.underlying5 Tryz.underlying9 (Kd.own_of_R HO10.out)))
      go_roundg k1
      case measure=>have:=HK1.out;omega
      case rel=>exact⟨(wrap64 (Int.tdiv x0_1 10)),((strOfNums y8) ++ x3_1),(by first|rfl|(simp;done)|(simp[*];done)),(by first|rfl|(simp;done)|(simp[*];done)),H',⟨by have:=HK1.out;omega⟩,⟨by repeat(first|(with_reducible first|exact HB.out|apply Zo|apply Zn|apply Zp)|exact HB.out)⟩⟩
     ·rw[if_neg c17] at H
      exact absurd H (by simp)
    ·rw[if_neg c16] at H
     have c16b0:decide (9<x0_1)=false:=Zf c16
     clear c16
     obtain⟨y11,hy11⟩:∃y_:List Int,y_=(([(wrap64 (48+x0_1)) % 256]:List Int)):=⟨_,rfl⟩
     replace H:(if (strOfNums y11).size+x3_1.size≤9223372036854775807 then(some ((strOfNums y11) ++ x3_1)) else(none))=some r:=by first|(rw[hy11];with_reducible exact H)|(have H2_:=(Zi _ _).symm.trans H;rw[hy11];with_reducible exact H2_)|(have H2_:=(Zi _ _).symm.trans H;with_reducible exact H2_)|with_reducible exact H|(rw[hy11];exact H)|exact H
     have Ny11:=Za hy11;clear hy11
     by_cases c21:(strOfNums y11).size+x3_1.size≤9223372036854775807
     ·rw[if_pos c21] at H
      have c21b0:=eq_true c21
      try have c21b2:(9223372036854775807<(strOfNums y11).size+x3_1.size)=False:=eq_false (Nat.not_lt.2 c21)
      obtain rfl:=Zg H
      go_wp2_with (first|((with_reducible refine ZF (N:=40) rfl ?_);refine Kd.R_lit (Kd.int .u8) _ 5 ?hg (N:=40) ?hd (xs:=([(wrap64 (48+x0_1)) % 256]:List Int)) (inner:=[.int .u8 ((wrap64 (48+x0_1)) % 256)]) (ok:=fun _=>True) (okp:=fun _=>True) ?hr ?hp (fun _ hk=>hk) trivial (Below.refl _ _) (Nat.le_refl _) (by simp) ?_;(case hd=>rfl);(case hg=>rfl);(case hr=>first|(go_simp;done)|(go_simp;rfl));(case hp=>exact(Reps.one (show Kd.M (Kd.int .u8) _ _ _ ((wrap64 (48+x0_1)) % 256) [.int .u8 ((wrap64 (48+x0_1)) % 256)] from rfl) (Reps.none _ _)));intro v12 w22 ho23 hb hg_ hnew_;clear hg_ hnew_;(first|rw[← Ny11.out] at ho23|(simp only[Int.reduceToNat] at ho23;rw[← Ny11.out] at ho23));have HO13:=Za (Kd.R_lower ho23 (Zv (by exact HB.out)));replace HB:=Za (Zr (by exact HB.out) hb);clear hb ho23;have hcv24:=Zc6 (P:=Tryz.prog) Tryz.underlying31 Tryz.underlying5 Tryz.underlying9 (Kd.own_of_R HO13.out)))
      go_ret
      exact⟨by first|rfl|(simp[ZC,ZB] <;> rfl)|(simp[*,ZC,ZB] <;> rfl),by repeat(first|(with_reducible first|exact HB.out|apply Zo|apply Zn|apply Zp)|exact HB.out)⟩
     ·rw[if_neg c21] at H
      exact absurd H (by simp)
def Zcb.l0:Nat→ByteArray→ByteArray→List ByteArray→Int→Int→Option (ByteArray)
 | 0,_,_,_,_,_=>none
 | k+1,x1,x5,x8,x9,x10=>if x10<x9 then(if 0≤x10 then(if x10<(x8.length:Int) then(if x10 > 0 then(if x5.size+x1.size≤9223372036854775807 then(if (x5 ++ x1).size+(rdOf ByteArray.empty x8 x10).size≤9223372036854775807 then(Zcb.l0 k x1 ((x5 ++ x1) ++ (rdOf ByteArray.empty x8 x10)) x8 x9 (wrap64 (x10+1))) else(none)) else(none)) else(if x5.size+(rdOf ByteArray.empty x8 x10).size≤9223372036854775807 then(Zcb.l0 k x1 (x5 ++ (rdOf ByteArray.empty x8 x10)) x8 x9 (wrap64 (x10+1))) else(none))) else(none)) else(none)) else(some x5)
def Zcb.f (k:Nat) (l0:List ByteArray) (a1:ByteArray):Option (ByteArray):=Zcb.l0 k a1 (⟨#[]⟩:ByteArray) l0 (l0.length:Int) 0
theorem Zcb.calls (k:Nat) (A0:Option Addr) (c0:Nat) (l0:List ByteArray) (a1:ByteArray) (r:ByteArray) (w:World) (hr0:Kd.C Kd.string w A0 l0.length l0) (hc0:l0.length≤c0) (h:Zcb.f k l0 a1=some r) :
  Calls Tryz.prog 181 #[.slice A0 l0.length c0,.string a1] w fun e w'=>e=.returned (.string r)∧ZH w w':=by
 have HR0:=Za hr0;have HC0:=Za hc0;clear hr0 hc0
 have H:(Zcb.l0 k a1 (⟨#[]⟩:ByteArray) l0 (l0.length:Int) 0)=some r:=h
 clear h
 have H':=Za H
 clear H
 go_enter Tryz.func181,Tryz.ntmps181
 go_wp2
 go_loopg [5,10] k (fun kq v5 v10 w'=>∃(x5_1:ByteArray) (x10_1:Int),v5=.string x5_1∧v10=.int .i64 x10_1∧Aside0 (Zcb.l0 kq a1 x5_1 l0 (l0.length:Int) x10_1=some r)∧Aside0 (kq≤k)∧ZH w w')
 case atStart=>exact⟨((⟨#[]⟩:ByteArray)),(0),(by first|rfl|(simp;done)|(simp[*];done)),(by first|rfl|(simp;done)|(simp[*];done)),H',⟨Nat.le_refl _⟩,by repeat(first|exact ZH.refl _|apply ZH.step)⟩
 case round=>
  clear H'
  try clear c1
  try clear p2
  obtain⟨x5_1,x10_1,rfl,rfl,HA,HK1,⟨m1,rfl⟩⟩:=hrel
  cases gk with
  | zero=>exact absurd HA.out (by simp[Zcb.l0])
  | succ k1=>
   have H:=HA.out
   clear HA
   simp only[Zcb.l0] at H
   by_cases c3:x10_1<(l0.length:Int)
   ·rw[if_pos c3] at H
    have c3b0:decide (x10_1<(l0.length:Int))=true:=Ze c3
    clear c3
    by_cases c4:0≤x10_1
    ·rw[if_pos c4] at H
     have c4b0:decide (0≤x10_1)=true:=Ze c4
     clear c4
     by_cases c5:x10_1<(l0.length:Int)
     ·rw[if_pos c5] at H
      have c5b0:decide (x10_1<(l0.length:Int))=true:=Ze c5
      clear c5
      by_cases c6:x10_1 > 0
      ·rw[if_pos c6] at H
       have c6b0:decide (0<x10_1)=true:=Ze c6
       clear c6
       by_cases c7:x5_1.size+a1.size≤9223372036854775807
       ·rw[if_pos c7] at H
        have c7b0:=eq_true c7
        have c7b1:decide (x5_1.size+a1.size≤9223372036854775807)=true:=Ze c7
        try have c7b2:(9223372036854775807<x5_1.size+a1.size)=False:=eq_false (Nat.not_lt.2 c7)
        by_cases c8:(x5_1 ++ a1).size+(rdOf ByteArray.empty l0 x10_1).size≤9223372036854775807
        ·rw[if_pos c8] at H
         have c8b0:=eq_true c8
         have c8b1:decide ((x5_1 ++ a1).size+(rdOf ByteArray.empty l0 x10_1).size≤9223372036854775807)=true:=Ze c8
         try have c8b2:(9223372036854775807<(x5_1 ++ a1).size+(rdOf ByteArray.empty l0 x10_1).size)=False:=eq_false (Nat.not_lt.2 c8)
         try have c8b4:(9223372036854775807<(x5_1.size+a1.size)+(rdOf ByteArray.empty l0 x10_1).size)=False:=eq_false (Nat.not_lt.2 (by have h_:=c8;simp only[ByteArray.size_append] at h_;exact h_))
         have H':=Za H
         clear H
         have p1:0≤(x10_1:Int):=Zd (by first|(with_reducible assumption)|assumption)
         have q1:x10_1<(l0.length:Int):=Zd (by first|(with_reducible assumption)|assumption)
         obtain⟨ad1,e1,hx1_0⟩:=Kd.at_string HR0.out x10_1 p1 q1
         cases e1
         replace p1:=eq_true p1
         replace q1:=eq_true q1
         go_wp2
         go_roundg k1
         case measure=>have:=HK1.out;omega
         case rel=>exact⟨((x5_1 ++ a1) ++ (rdOf ByteArray.empty l0 x10_1)),(wrap64 (x10_1+1)),(by first|rfl|(simp;done)|(simp[*];done)),(by first|rfl|(simp;done)|(simp[*];done)),H',⟨by have:=HK1.out;omega⟩,by repeat(first|exact ZH.refl _|apply ZH.step)⟩
        ·rw[if_neg c8] at H
         exact absurd H (by simp)
       ·rw[if_neg c7] at H
        exact absurd H (by simp)
      ·rw[if_neg c6] at H
       have c6b0:decide (0<x10_1)=false:=Zf c6
       clear c6
       by_cases c9:x5_1.size+(rdOf ByteArray.empty l0 x10_1).size≤9223372036854775807
       ·rw[if_pos c9] at H
        have c9b0:=eq_true c9
        have c9b1:decide (x5_1.size+(rdOf ByteArray.empty l0 x10_1).size≤9223372036854775807)=true:=Ze c9
        try have c9b2:(9223372036854775807<x5_1.size+(rdOf ByteArray.empty l0 x10_1).size)=False:=eq_false (Nat.not_lt.2 c9)
        have H':=Za H
        clear H
        have p1:0≤(x10_1:Int):=Zd (by first|(with_reducible assumption)|assumption)
        have q1:x10_1<(l0.length:Int):=Zd (by first|(with_reducible assumption)|assumption)
        obtain⟨ad1,e1,hx1_0⟩:=Kd.at_string HR0.out x10_1 p1 q1
        cases e1
        replace p1:=eq_true p1
        replace q1:=eq_true q1
        go_wp2
        go_roundg k1
        case measure=>have:=HK1.out;omega
        case rel=>exact⟨(x5_1 ++ (rdOf ByteArray.empty l0 x10_1)),(wrap64 (x10_1+1)),(by first|rfl|(simp;done)|(simp[*];done)),(by first|rfl|(simp;done)|(simp[*];done)),H',⟨by have:=HK1.out;omega⟩,by repeat(first|exact ZH.refl _|apply ZH.step)⟩
       ·rw[if_neg c9] at H
        exact absurd H (by simp)
     ·rw[if_neg c5] at H
      exact absurd H (by simp)
    ·rw[if_neg c4] at H
     exact absurd H (by simp)
   ·rw[if_neg c3] at H
    have c3b0:decide (x10_1<(l0.length:Int))=false:=Zf c3
    clear c3
    obtain rfl:=Zg H
    go_wp2
    go_ret
    exact⟨by first|rfl|(simp;done)|(simp[*];done),by repeat(first|exact ZH.refl _|apply ZH.step)⟩
def ZcP.f (k:Nat) (l0_0:List (S39)) (l0_1:List (S82)) (a0_2:Int) (a1_0:Int) (a1_1:Int) (a1_2:Int) (a1_3:Int) (a1_4:Bool):Option (ByteArray):=if 0≤a1_0∧a1_0<l0_0.length∧0≤a1_1∧a1_1<l0_0.length then(Z3.f k a1_2).bind fun s=>(Z3.f k a1_3).bind fun t=>if (ZJ l0_0 a1_0).f0.size+(ZJ l0_0 a1_1).f0.size+s.size+t.size≤1000000 then some ((if a1_4=true then(⟨#[102,114,101,101,32]⟩:ByteArray) else(⟨#[116,105,101,32]⟩:ByteArray)) ++ (ZJ l0_0 a1_0).f0 ++ (⟨#[32]⟩:ByteArray) ++ (ZJ l0_0 a1_1).f0 ++ (⟨#[32]⟩:ByteArray) ++ s ++ (⟨#[32]⟩:ByteArray) ++ t) else none else none
theorem ZcP.calls (k:Nat) (A0_0:Option Addr) (c0_0:Nat) (l0_0:List (S39)) (A0_1:Option Addr) (c0_1:Nat) (l0_1:List (S82)) (a0_2:Int) (a1_0:Int) (a1_1:Int) (a1_2:Int) (a1_3:Int) (a1_4:Bool) (r:ByteArray) (w:World) (hr0_0:Kd.C k39 w A0_0 l0_0.length l0_0) (hc0_0:l0_0.length≤c0_0) (hr0_1:Kd.C k82 w A0_1 l0_1.length l0_1) (hc0_1:l0_1.length≤c0_1) (h:ZcP.f k l0_0 l0_1 a0_2 a1_0 a1_1 a1_2 a1_3 a1_4=some r) :
  Calls Tryz.prog 130 #[.agg #[.slice A0_0 l0_0.length c0_0,.slice A0_1 l0_1.length c0_1,.int .i64 a0_2],.agg #[.int .i64 a1_0,.int .i64 a1_1,.int .i64 a1_2,.int .i64 a1_3,.bool a1_4]] w fun e w'=>e=.returned (.string r)∧Below w.heap.size w w':=by
 unfold ZcP.f at h
 split at h
 case isFalse=>exact absurd h (by simp)
 rename_i hc
 obtain⟨h0,h1,h2,h3⟩:=hc
 obtain⟨s1,hs1,h⟩:=Option.bind_eq_some_iff.1 h
 obtain⟨s2,hs2,h⟩:=Option.bind_eq_some_iff.1 h
 split at h
 case isFalse=>exact absurd h (by simp)
 rename_i hz
 obtain rfl:=Zg h
 obtain⟨ad0,Af,cf,e2,hf0,hf1,hf2,lf,gf⟩:=ZaX hr0_0 a1_0 h0 h1
 cases e2
 obtain⟨ad1,At,ct,e3,ht0,ht1,ht2,lt_,gt⟩:=ZaX hr0_0 a1_1 h2 h3
 cases e3
 generalize (ZJ l0_0 a1_0).f0=nf at *
 generalize (ZJ l0_0 a1_1).f0=nt at *
 have HS1:=Za hs1;have HS2:=Za hs2
 have HX:=Za (And.intro hf0 ht0)
 have z:∀n:Nat,n≤9223372036854775807→(9223372036854775807<n)=False:=fun n h=>eq_false (Nat.not_lt.2 h)
 have q50:=z (5+nf.size) (by omega)
 have q51:=z ((5+nf.size)+1) (by omega)
 have q52:=z (((5+nf.size)+1)+nt.size) (by omega)
 have q53:=z ((((5+nf.size)+1)+nt.size)+1) (by omega)
 have q54:=z (((((5+nf.size)+1)+nt.size)+1)+s1.size) (by omega)
 have q55:=z ((((((5+nf.size)+1)+nt.size)+1)+s1.size)+1) (by omega)
 have q56:=z (((((((5+nf.size)+1)+nt.size)+1)+s1.size)+1)+s2.size) (by omega)
 have q40:=z (4+nf.size) (by omega)
 have q41:=z ((4+nf.size)+1) (by omega)
 have q42:=z (((4+nf.size)+1)+nt.size) (by omega)
 have q43:=z ((((4+nf.size)+1)+nt.size)+1) (by omega)
 have q44:=z (((((4+nf.size)+1)+nt.size)+1)+s1.size) (by omega)
 have q45:=z ((((((4+nf.size)+1)+nt.size)+1)+s1.size)+1) (by omega)
 have q46:=z (((((((4+nf.size)+1)+nt.size)+1)+s1.size)+1)+s2.size) (by omega)
 have p2:=eq_true h0
 have p3:=eq_true h1
 have p4:=eq_true h2
 have p5:=eq_true h3
 have hu:=Tryz.underlying25
 have hu2:=Tryz.underlying82
 have hu3:=Tryz.underlying39
 have HB0:=Za (Below.refl w.heap.size w)
 clear hr0_0 hc0_0 hr0_1 hc0_1 hs1 hs2 h h0 h1 h2 h3 hf0 hf1 hf2 lf gf ht0 ht1 ht2 lt_ gt z hz
 cases a1_4
 all_goals
  go_enter Tryz.func130,Tryz.ntmps130
  go_wp2_with (first|((with_reducible refine ZF (N:=2) rfl ?_);refine ZG ?hg (N:=2) ?hd (cs:=#[.slice (some ad0) l0_0.length c0_0,.slice A0_1 l0_1.length c0_1,.int .i64 a0_2]) (t:=25) ?hr ?_;(case hd=>rfl);(case hg=>rfl);(case hr=>first|(go_simp;done)|(go_simp;rfl));intro g1 hg w1 hbox hb;have HB1:=Za (Zr HB0.out hb);have X1:=Za hbox;clear hg hb hbox)|((with_reducible refine ZF (N:=3) rfl ?_);refine ZG ?hg (N:=3) ?hd (cs:=#[.int .i64 a1_0,.int .i64 a1_1,.int .i64 a1_2,.int .i64 a1_3,.bool true]) (t:=82) ?hr ?_;(case hd=>rfl);(case hg=>rfl);(case hr=>first|(go_simp;done)|(go_simp;rfl));intro g2 hg w2 hbox hb;have X0:=X1;clear X1;have X1:=Za (Zs X0.out hb);clear X0;have HB2:=Za (Zr HB1.out hb);have X2:=Za hbox;have k4:w2.cell? ⟨g2,4,none⟩=some (.bool true):=(Zm X2.out 4).trans rfl;clear hg hb hbox)|((with_reducible refine ZF (N:=3) rfl ?_);refine ZG ?hg (N:=3) ?hd (cs:=#[.int .i64 a1_0,.int .i64 a1_1,.int .i64 a1_2,.int .i64 a1_3,.bool false]) (t:=82) ?hr ?_;(case hd=>rfl);(case hg=>rfl);(case hr=>first|(go_simp;done)|(go_simp;rfl));intro g2 hg w2 hbox hb;have X0:=X1;clear X1;have X1:=Za (Zs X0.out hb);clear X0;have HB2:=Za (Zr HB1.out hb);have X2:=Za hbox;have k4:w2.cell? ⟨g2,4,none⟩=some (.bool false):=(Zm X2.out 4).trans rfl;clear hg hb hbox))
  clear k4
  have HK:=Za fun (W:World) (hb:Below w2.heap.size w2 W)=>And.intro (Zx hb ((Zm X1.out 0).trans rfl)) (And.intro (Zx hb ((Zm X2.out 0).trans rfl)) (And.intro (Zx hb ((Zm X2.out 1).trans rfl)) (And.intro (Zx hb ((Zm X2.out 2).trans rfl)) (And.intro (Zx hb ((Zm X2.out 3).trans rfl)) (And.intro (Zx (HB2.out.trans (hb.mono HB2.out.size)) HX.out.1) (Zx (HB2.out.trans (hb.mono HB2.out.size)) HX.out.2))))))
  have HD:=Za (Zp (Below.refl w2.heap.size w2))
  refine Zbd (n:=29) (S:=fun w'=>w'.cell? ⟨g1,0,none⟩=some (.slice (some ad0) l0_0.length c0_0)∧w'.cell? ⟨g2,0,none⟩=some (.int .i64 a1_0)∧w'.cell? ⟨g2,1,none⟩=some (.int .i64 a1_1)∧w'.cell? ⟨g2,2,none⟩=some (.int .i64 a1_2)∧w'.cell? ⟨g2,3,none⟩=some (.int .i64 a1_3)∧w'.cell? (ad0.add (a1_0.toNat * 3))=some (.string nf)∧w'.cell? (ad0.add (a1_1.toNat * 3))=some (.string nt)) (ds:=[]) #[false,false,false,false,false,false,false,false,false,false,false,false,false,false,false,false,false,false,false,false,false,false,false,false,false,false,false,false,false] (by kernel_rfl) rfl rfl ⟨(HK.out _ HD.out).1,(HK.out _ HD.out).2.1,(HK.out _ HD.out).2.2.1,(HK.out _ HD.out).2.2.2.1,(HK.out _ HD.out).2.2.2.2.1,(HK.out _ HD.out).2.2.2.2.2.1,(HK.out _ HD.out).2.2.2.2.2.2⟩ (fun hHeld=>?_)
  generalize w2.drew=W3 at HD hHeld ⊢
  refine pu (N:=some 8) 0 ?_
  refine pu (N:=some 9) 1 ?_
  refine pu (N:=some 11) 3 ?_
  refine pu (N:=some 18) 10 ?_
  refine pu (N:=some 20) 12 ?_
  refine pu (N:=some 27) 19 ?_
  refine pu (N:=some 32) 24 ?_
  refine tk (N:=some 10) 2 hHeld ?_
  refine tk (N:=some 12) 4 hHeld ?_
  refine pu (N:=some 13) 5 ?_
  refine pu (N:=some 14) 6 ?_
  refine tk (N:=some 15) 7 hHeld ?_
  refine pu (N:=some 16) 8 ?_
  refine pu (N:=some 17) 9 ?_
  refine tk (N:=some 19) 11 hHeld ?_
  refine tk (N:=some 21) 13 hHeld ?_
  refine pu (N:=some 22) 14 ?_
  refine pu (N:=some 23) 15 ?_
  refine tk (N:=some 24) 16 hHeld ?_
  refine pu (N:=some 25) 17 ?_
  refine pu (N:=some 26) 18 ?_
  refine tk (N:=some 28) 20 hHeld ?_
  refine tk (N:=some 33) 25 hHeld ?_
  refine onl (N:=some 29) 21 (fun K hK=>?_)
  refine ZaU Tryz.func123 (by kernel_rfl) rfl #[.int .i64 a1_2] (by rfl) rfl rfl (by(try simp only[List.map_toArray,List.map_cons,List.map_nil]);first|done|rfl) ?_
  refine(Z3.calls k a1_2 s1 _ HS1.out).mono ?_
  rintro e w4 ⟨rfl,hb⟩
  refine⟨_,rfl,?_⟩
  have HD4:=Za (Zr HD.out hb)
  clear hb
  refine hK.out _ _ ⟨(HK.out _ HD4.out).1,(HK.out _ HD4.out).2.1,(HK.out _ HD4.out).2.2.1,(HK.out _ HD4.out).2.2.2.1,(HK.out _ HD4.out).2.2.2.2.1,(HK.out _ HD4.out).2.2.2.2.2.1,(HK.out _ HD4.out).2.2.2.2.2.2⟩ (fun hHeld=>?_)
  clear hK K
  refine nrm (some 29) ?_
  refine pu (N:=some 30) 22 ?_
  refine pu (N:=some 31) 23 ?_
  refine onl (N:=some 34) 26 (fun K hK=>?_)
  refine ZaU Tryz.func123 (by kernel_rfl) rfl #[.int .i64 a1_3] (by rfl) rfl rfl (by(try simp only[List.map_toArray,List.map_cons,List.map_nil]);first|done|rfl) ?_
  refine(Z3.calls k a1_3 s2 _ HS2.out).mono ?_
  rintro e w4 ⟨rfl,hb⟩
  refine⟨_,rfl,?_⟩
  have HD5:=Za (Zr HD4.out hb)
  clear hb
  refine hK.out _ _ ⟨(HK.out _ HD5.out).1,(HK.out _ HD5.out).2.1,(HK.out _ HD5.out).2.2.1,(HK.out _ HD5.out).2.2.2.1,(HK.out _ HD5.out).2.2.2.2.1,(HK.out _ HD5.out).2.2.2.2.2.1,(HK.out _ HD5.out).2.2.2.2.2.2⟩ (fun hHeld=>?_)
  clear hK K
  refine nrm (some 34) ?_
  refine pu (N:=some 35) 27 ?_
  refine pu (N:=some 4) 28 ?_
  refine Zbu (by kernel_rfl) ?_
  go_wp2
  go_ret
  exact⟨rfl,HB2.out.trans (HD5.out.mono HB2.out.size)⟩
end Go.Proofs.YtoeimopgoaffcaaGreatDoor.Pr
