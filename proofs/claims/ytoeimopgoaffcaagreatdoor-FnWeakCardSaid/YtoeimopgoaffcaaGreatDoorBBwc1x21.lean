/- By a program of this session. -/
import Derived.Test.YtoeimopgoaffcaaGreatDoorBBwc1x20
set_option maxHeartbeats 8000000
set_option maxRecDepth 100000
namespace Go.Proofs.YtoeimopgoaffcaaGreatDoor.Pr
open RowKit YtoeimopgoaffcaaGreatDoorW.PrintWords YtoeimopgoaffcaaGreatDoorW.PrintLast YtoeimopgoaffcaaGreatDoorW.PrintMore
attribute [local go_sem] Zak Zai Zax Zaw Zac Zab Zaj Zah
set_option linter.unusedVariables false
set_option linter.unusedSimpArgs false
open Ni
def ZaE.f (k:Nat) (l0_0:List (S39)) (l0_1:List (S82)) (a0_2:Int):Option Int:=(Za7.f l0_0 l0_1 a0_2).bind fun b=>if b=true then((Z6.f k l0_0 l0_1 a0_2).bind fun L=>if okI l0_1 L=true then(wq fun p=>(Za4.f l0_0 l0_1 a0_2 p)).bind fun q=>some (Zcj q 3 1 (L.foldl (ccS l0_1) 1)) else none) else some 0
theorem ZaE.calls (k:Nat) (A0_0:Option Addr) (c0_0:Nat) (l0_0:List (S39)) (A0_1:Option Addr) (c0_1:Nat) (l0_1:List (S82)) (a0_2:Int) (r:Int) (w:World) (hr0_0:Kd.C k39 w A0_0 l0_0.length l0_0) (hc0_0:l0_0.length≤c0_0) (hr0_1:Kd.C k82 w A0_1 l0_1.length l0_1) (hc0_1:l0_1.length≤c0_1) (h:ZaE.f k l0_0 l0_1 a0_2=some r) :
  Calls Tryz.prog 50 #[.agg #[.slice A0_0 l0_0.length c0_0,.slice A0_1 l0_1.length c0_1,.int .i64 a0_2]] w fun e w'=>e=.returned (.int .i64 r)∧Below w.heap.size w w':=by
 unfold ZaE.f at h
 obtain⟨b,hb_,h⟩:=Option.bind_eq_some_iff.1 h
 have HS:=Za fun (W:World) (hb:Below w.heap.size w W)=>Za7.calls A0_0 c0_0 l0_0 A0_1 c0_1 l0_1 a0_2 b W (Zb hr0_0 hb) hc0_0 (Zb hr0_1 hb) hc0_1 hb_
 clear hb_
 cases b with
 | false=>
  obtain rfl:(0:Int)=r:=Zg ((if_neg (by simp)).symm.trans h)
  have HR1:=Za hr0_1
  have HB0:=Za (Zo (Below.refl w.heap.size w) (.cells #[.slice A0_0 l0_0.length c0_0,.slice A0_1 l0_1.length c0_1,.int .i64 a0_2] 25))
  have hu:=Tryz.underlying25
  have hu3:=Tryz.underlying82
  clear hr0_0 hc0_0 hr0_1 hc0_1 h
  go_enter Tryz.func50,Tryz.ntmps50
  go_wp2_with (go_at_call 19;refine(HS.out _ (by repeat(first|(with_reducible first|exact HB0.out|apply Zo|apply Zn|apply Zp)|exact HB0.out))).mono ?_;rintro e w4 ⟨rfl,hb⟩;have HB4:=Za (Zr (by repeat(first|(with_reducible first|exact HB0.out|apply Zo|apply Zn|apply Zp)|exact HB0.out)) hb);have kk0:w4.cell? ⟨w.heap.size,0,none⟩=some (.slice A0_0 l0_0.length c0_0):=Zx hb (by go_simp);have kk1:w4.cell? ⟨w.heap.size,1,none⟩=some (.slice A0_1 l0_1.length c0_1):=Zx hb (by go_simp);have kk2:w4.cell? ⟨w.heap.size,2,none⟩=some (.int .i64 a0_2):=Zx hb (by go_simp);clear hb)
  go_ret
  exact⟨rfl,HB4.out⟩
 | true=>
 rw[if_pos rfl] at h
 obtain⟨L,hL_,h⟩:=Option.bind_eq_some_iff.1 h
 by_cases hok:okI l0_1 L=true
 case neg=>rw[if_neg hok] at h;exact absurd h (by simp)
 rw[if_pos hok] at h
 obtain⟨q,hq_,h⟩:=Option.bind_eq_some_iff.1 h
 have OK:=Za (okI_iff hok)
 have HE0:=Za (show Zcj q 3 1 ((L.drop 0).foldl (ccS l0_1) 1)=r from Zg h)
 have HF:=Za fun (W:World) (hb:Below w.heap.size w W)=>Z6.calls k A0_0 c0_0 l0_0 A0_1 c0_1 l0_1 a0_2 L W (Zb hr0_0 hb) hc0_0 (Zb hr0_1 hb) hc0_1 hL_
 have HW:=Za fun (W:World) (p:Nat) (h1:1≤p) (h3:p≤3) (hb:Below w.heap.size w W)=>Za4.calls A0_0 c0_0 l0_0 A0_1 c0_1 l0_1 a0_2 (p:Int) (q (p:Int)) W (Zb hr0_0 hb) hc0_0 (Zb hr0_1 hb) hc0_1 (Ze1 hq_ p h1 h3)
 clear hL_ hq_ hok;have HR1:=Za hr0_1
 have HB0:=Za (Zo (Below.refl w.heap.size w) (.cells #[.slice A0_0 l0_0.length c0_0,.slice A0_1 l0_1.length c0_1,.int .i64 a0_2] 25))
 have hu:=Tryz.underlying25
 have hu3:=Tryz.underlying82
 clear hr0_0 hc0_0 hr0_1 hc0_1 h
 go_enter Tryz.func50,Tryz.ntmps50
 go_wp2_with (first|(go_at_call 19;refine(HS.out _ (by repeat(first|(with_reducible first|exact HB0.out|apply Zo|apply Zn|apply Zp)|exact HB0.out))).mono ?_;rintro e w4 ⟨rfl,hb⟩;have HB4:=Za (Zr (by repeat(first|(with_reducible first|exact HB0.out|apply Zo|apply Zn|apply Zp)|exact HB0.out)) hb);have kk0:w4.cell? ⟨w.heap.size,0,none⟩=some (.slice A0_0 l0_0.length c0_0):=Zx hb (by go_simp);have kk1:w4.cell? ⟨w.heap.size,1,none⟩=some (.slice A0_1 l0_1.length c0_1):=Zx hb (by go_simp);have kk2:w4.cell? ⟨w.heap.size,2,none⟩=some (.int .i64 a0_2):=Zx hb (by go_simp);clear hb)|(go_at_call 90;refine(HF.out _ HB4.out).mono ?_;rintro e w6 ⟨vF,rfl,ho,hb⟩;obtain⟨A_,c_,e_⟩:=Kd.R_slice ho;subst e_;have HRL:=Za (Kd.R_reads' ho).2.2;have HB6:=Za (Zr HB4.out hb);have K6:=Za (And.intro (Zx hb kk0) (And.intro (Zx hb kk1) (Zx hb kk2)));clear ho hb kk0 kk1 kk2))
 clear HS HF HB0 HB4
 go_loopg [3,13] L.length (fun gg s3 s13 wr=>∃(i:Nat) (x:Int),s3=.int .i64 x∧s13=.int .i64 (i:Int)∧Aside0 (i≤L.length)∧Aside0 (L.length - i≤gg)∧Aside0 (Zcj q 3 1 ((L.drop i).foldl (ccS l0_1) x)=r)∧Aside0 (Below w6.heap.size w6 wr))
 case atStart=>exact⟨0,1,rfl,rfl,⟨Nat.zero_le _⟩,⟨by omega⟩,HE0,⟨Below.refl _ _⟩⟩
 case round=>
 clear HE0
 obtain⟨i,n,rfl,rfl,HK,HG,HE,HBr⟩:=hrel
 have HBw:=Za (HB6.out.trans (HBr.out.mono HB6.out.size))
 by_cases hlt:i<L.length
 ·have hltz:(i:Int)<(L.length:Int):=by omega
  obtain⟨ad,q1,hx⟩:=Kd.at_int (Zb HRL.out HBr.out) (i:Int) (by omega) hltz
  cases q1
  have hm:=OK.out.2 _ (ZaJ hlt 0)
  have HD:=HE.out
  rw[Zal hlt 0,List.foldl_cons,ccS] at HD
  rw[Int.toNat_natCast,ZaW] at hx
  generalize L.getD i 0=x at hx hm HD
  unfold facI at HD
  obtain⟨ad3,q3,hz0,hz1,hz2,hz3,hz4⟩:=ZbG (Zb HR1.out HBw.out) x hm.1 hm.2
  cases q3
  generalize (ZE l0_1 x).f2=lo at hz2 HD
  generalize (ZE l0_1 x).f3=hi at hz3 HD
  have px:=eq_true hm.1
  have py:=eq_true hm.2
  have HD2:=Za HD
  have k1:=Zx HBr.out K6.out.2.1
  clear hz0 hz1 hz4 hm HD HE
  go_wp2
  go_quiet (fail)
  go_wp2
  go_roundg (L.length - (i+1))
  case measure=>have:=HG.out;omega
  case rel=>exact⟨i+1,_,rfl,by rw[ZO hlt (by have:=OK.out.1;omega)],⟨by omega⟩,⟨by omega⟩,HD2,⟨by repeat(first|(with_reducible first|exact HBr.out|apply Zo|apply Zn|apply Zp)|exact HBr.out)⟩⟩
 ·obtain rfl:i=L.length:=by have:=HK.out;omega
  have HQ:=Za (show Zcj q 3 1 n=r by
   have h:=HE.out
   rw[List.drop_length] at h
   exact h)
  clear HE HK HG hlt OK HRL
  go_wp2
  obtain⟨wo,hwo⟩:∃wo,wo=wr:=⟨_,rfl⟩
  subst hwo
  have K7:=Za (And.intro (Zx HBr.out K6.out.1) (And.intro (Zx HBr.out K6.out.2.1) (Zx HBr.out K6.out.2.2)))
  clear HBr K6
  go_loopg [3,6] 4 (fun gg s3 s6 wr=>∃(p:Nat) (x:Int),s3=.int .i64 x∧s6=.int .i64 (p:Int)∧Aside0 (1≤p∧p≤4)∧Aside0 (4 - p≤gg)∧Aside0 (Zcj q (4 - p) p x=r)∧Aside0 (Below wo.heap.size wo wr))
  case atStart=>exact⟨1,n,rfl,rfl,⟨by omega⟩,⟨by omega⟩,HQ,⟨Below.refl _ _⟩⟩
  case round=>
  clear HQ
  obtain⟨p,n,rfl,rfl,HP,HG,HE,HBr⟩:=hrel
  have k0:=Zx HBr.out K7.out.1
  have k1:=Zx HBr.out K7.out.2.1
  have k2:=Zx HBr.out K7.out.2.2
  have HBv:=Za (HBw.out.trans (HBr.out.mono HBw.out.size))
  by_cases hp:p≤3
  ·have hpz:decide ((p:Int)≤3)=true:=Ze (by omega)
   have HWp:=Za (HW.out wr p HP.out.1 hp HBv.out)
   have HD:=HE.out
   rw[show 4 - p=(4 - (p+1))+1 by omega,Zcj,ccQ] at HD
   have HS:=Za (show wrap64 ((p:Int)+1)=((p+1:Nat):Int) from ZO (n:=4) (by omega) (by omega))
   generalize q (p:Int)=qp at HWp HD
   clear HE
   cases b2:decide (0≤qp) with
   | true=>
    rw[if_pos (show qp≥0 from Zd b2)] at HD
    have HD2:=Za HD;clear HD
    go_wp2_with (go_at_call 88;refine HWp.out.mono ?_;rintro e w8 ⟨rfl,hb⟩;have HBn:=Za (HBr.out.trans (hb.mono HBr.out.size));clear hb k0 k1 k2)
    go_roundg (4 - (p+1))
    case measure=>have:=HG.out;omega
    case rel=>exact⟨p+1,_,rfl,by first|rfl|rw[HS.out],⟨by have:=HP.out;omega⟩,⟨by omega⟩,HD2,HBn⟩
   | false=>
    rw[if_neg (show ¬qp≥0 from of_decide_eq_false b2)] at HD
    have HD2:=Za HD;clear HD
    go_wp2_with (go_at_call 88;refine HWp.out.mono ?_;rintro e w8 ⟨rfl,hb⟩;have HBn:=Za (HBr.out.trans (hb.mono HBr.out.size));clear hb k0 k1 k2)
    go_roundg (4 - (p+1))
    case measure=>have:=HG.out;omega
    case rel=>exact⟨p+1,_,rfl,by first|rfl|rw[HS.out],⟨by have:=HP.out;omega⟩,⟨by omega⟩,HD2,HBn⟩
  ·obtain rfl:p=4:=by have:=HP.out;omega
   have hpz:decide (((4:Nat):Int)≤3)=false:=rfl
   obtain rfl:n=r:=HE.out
   go_wp2
   go_ret
   exact⟨rfl,HBv.out⟩
def Z0.l0:Nat→Int→Int→List S39→List S82→Int→Option (Int)
 | 0,_,_,_,_,_=>none
 | k+1,n,c,a,b,z=>if n<c then((Zbf.f k a b z n).bind fun t=>((Zao.f k a b z t.1 t.2).bind fun m=>(if m=true then(Z0.l0 k (wrap64 (n+1)) c a b z) else(some n)))) else(some (-1))
def Z0.f (k:Nat) (l0_0:List (S39)) (l0_1:List (S82)) (a0_2:Int):Option (Int):=(ZaE.f k l0_0 l0_1 a0_2).bind fun c=>(Z0.l0 k 0 c l0_0 l0_1 a0_2)
theorem Z0.calls (k:Nat) (A0_0:Option Addr) (c0_0:Nat) (l0_0:List (S39)) (A0_1:Option Addr) (c0_1:Nat) (l0_1:List (S82)) (a0_2:Int) (r:Int) (w:World) (hr0_0:Kd.C k39 w A0_0 l0_0.length l0_0) (hc0_0:l0_0.length≤c0_0) (hr0_1:Kd.C k82 w A0_1 l0_1.length l0_1) (hc0_1:l0_1.length≤c0_1) (ht:TW w) (h:Z0.f k l0_0 l0_1 a0_2=some r) :
  Calls Tryz.prog 41 #[.agg #[.slice A0_0 l0_0.length c0_0,.slice A0_1 l0_1.length c0_1,.int .i64 a0_2]] w fun e w'=>e=.returned (.int .i64 r)∧Below w.heap.size w w':=by
 have HR0:=Za hr0_0;have HR1:=Za hr0_1;have HC0:=Za hc0_0;have HC1:=Za hc0_1;have HTW:=Za ht;clear ht
 have HB0:=Za (Zo (Below.refl w.heap.size w) (.cells #[.slice A0_0 l0_0.length c0_0,.slice A0_1 l0_1.length c0_1,.int .i64 a0_2] 25))
 have hu:=Tryz.underlying25
 have hu2:=Tryz.underlying58
 unfold Z0.f at h
 obtain⟨c,hc_,h⟩:=Option.bind_eq_some_iff.1 h
 have HCC:=Za fun (W:World) (hb:Below w.heap.size w W)=>ZaE.calls k A0_0 c0_0 l0_0 A0_1 c0_1 l0_1 a0_2 c W (Zb HR0.out hb) HC0.out (Zb HR1.out hb) HC1.out hc_
 have H:=Za h;clear hc_ hr0_0 hc0_0 hr0_1 hc0_1 h
 go_enter Tryz.func41,Tryz.ntmps41
 go_wp2_with (go_at_call 50;refine(HCC.out _ (by repeat(first|(with_reducible first|exact HB0.out|apply Zo|apply Zn|apply Zp)|exact HB0.out))).mono ?_;rintro e w2 ⟨rfl,hb⟩;have HB2:=Za (Zr (by repeat(first|(with_reducible first|exact HB0.out|apply Zo|apply Zn|apply Zp)|exact HB0.out)) hb);have K2:=Za (show w2.cell? ⟨w.heap.size,0,none⟩=some (.slice A0_0 l0_0.length c0_0)∧w2.cell? ⟨w.heap.size,1,none⟩=some (.slice A0_1 l0_1.length c0_1)∧w2.cell? ⟨w.heap.size,2,none⟩=some (.int .i64 a0_2) from⟨Zx hb (by go_simp),Zx hb (by go_simp),Zx hb (by go_simp)⟩);clear hb)
 go_loopg [3] k (fun kq s3 wr=>∃n:Int,s3=.int .i64 n∧Aside0 (Z0.l0 kq n c l0_0 l0_1 a0_2=some r)∧Aside0 (kq≤k)∧Aside0 (Below w.heap.size w wr)∧Aside0 (wr.cell? ⟨w.heap.size,0,none⟩=some (.slice A0_0 l0_0.length c0_0)∧wr.cell? ⟨w.heap.size,1,none⟩=some (.slice A0_1 l0_1.length c0_1)∧wr.cell? ⟨w.heap.size,2,none⟩=some (.int .i64 a0_2)))
 case atStart=>exact⟨0,rfl,H,⟨Nat.le_refl _⟩,HB2,K2⟩
 case round=>
 clear H
 obtain⟨n,rfl,HA,HK,HB,K⟩:=hrel
 cases gk with
 | zero=>exact absurd HA.out (by simp[Z0.l0])
 | succ k1=>
 have h:=HA.out
 clear HA
 simp only[Z0.l0] at h
 by_cases hc:n<c
 case neg=>
  rw[if_neg hc] at h
  obtain rfl:=Zg h
  have hcz:decide (n<c)=false:=Zf hc
  go_wp2
  go_ret
  exact⟨rfl,HB.out⟩
 rw[if_pos hc] at h
 have hcz:decide (n<c)=true:=Ze hc
 obtain⟨t,ht_,h⟩:=Option.bind_eq_some_iff.1 h
 obtain⟨m,hm_,h4⟩:=Option.bind_eq_some_iff.1 h
 clear h
 obtain⟨L1,L2⟩:=t
 dsimp only at hm_
 have HCA:=Za fun (W:World) (hb:Below w.heap.size w W)=>Zbf.calls k1 A0_0 c0_0 l0_0 A0_1 c0_1 l0_1 a0_2 n L1 L2 W (Zb HR0.out hb) HC0.out (Zb HR1.out hb) HC1.out ht_
 have HCM:=Za fun (W:World) (A1:Option Addr) (c1:Nat) (A2:Option Addr) (c2:Nat) (hb:Below w.heap.size w W) (g1:L1.length≤c1) (g2:Kd.C (Kd.int .i64) W A1 L1.length L1) (g3:L2.length≤c2) (g4:Kd.C (Kd.int .i64) W A2 L2.length L2)=>Zao.calls k1 A0_0 c0_0 l0_0 A0_1 c0_1 l0_1 a0_2 A1 c1 L1 A2 c2 L2 m W (Zb HR0.out hb) HC0.out (Zb HR1.out hb) HC1.out g2 g1 g4 g3 (TW.below HTW.out hb) hm_
 have H2:=Za h4;clear ht_ hm_ h4 hc
 obtain⟨k0,k1_,k2⟩:=K.out
 go_wp2
 clear k0 k1_ k2
 refine Zbd (n:=6) (S:=fun w'=>w'.cell? ⟨w.heap.size,0,none⟩=some (.slice A0_0 l0_0.length c0_0)∧w'.cell? ⟨w.heap.size,1,none⟩=some (.slice A0_1 l0_1.length c0_1)∧w'.cell? ⟨w.heap.size,2,none⟩=some (.int .i64 a0_2)) (ds:=[]) #[false,false,false,false,false,false] (by kernel_rfl) rfl rfl K.out (fun hHeld=>?_)
 have HB1:=Za (Zp HB.out)
 have K1:=Za hHeld
 generalize wr.drew=W1 at HB1 K1 hHeld ⊢
 refine pu (N:=some 14) 2 ?_
 refine tk (N:=some 12) 0 hHeld ?_
 refine tk (N:=some 13) 1 hHeld ?_
 refine one_ (i:=3) (N:=some 15) #[true,true,true,true,false,false] rfl rfl (by kernel_rfl) (by decide) (fun K_ hK=>?_)
 refine ZaU Tryz.func115 (by kernel_rfl) rfl #[.agg #[.slice A0_0 l0_0.length c0_0,.slice A0_1 l0_1.length c0_1,.int .i64 a0_2],.int .i64 n] (by rfl) rfl rfl (by(try simp only[List.map_toArray,List.map_cons,List.map_nil]);first|done|rfl) ?_
 refine(HCA.out _ HB1.out).mono ?_
 rintro e w3 ⟨v0,v1,rfl,q0,q1,hb⟩
 refine⟨_,rfl,?_⟩
 obtain⟨A1,c1,rfl,g1⟩:=Kd.R_reads q0
 obtain⟨A2,c2,rfl,g2⟩:=Kd.R_reads q1
 have HB3:=Za (Zr HB1.out hb)
 have K3:=Za (And.intro (Zx hb K1.out.1) (And.intro (Zx hb K1.out.2.1) (Zx hb K1.out.2.2)))
 clear hb q0 q1
 refine hK.out _ _ K3.out (fun hHeld=>?_)
 clear hK K_
 refine nrm (some 15) ?_
 refine one_ (i:=4) (N:=some 16) #[true,true,true,true,true,false] rfl rfl (by kernel_rfl) (by decide) (fun K_ hK=>?_)
 refine ZaU Tryz.func39 (by kernel_rfl) rfl #[.agg #[.slice A0_0 l0_0.length c0_0,.slice A0_1 l0_1.length c0_1,.int .i64 a0_2],.agg #[.slice A1 L1.length c1,.slice A2 L2.length c2]] (by rfl) rfl rfl (by(try simp only[List.map_toArray,List.map_cons,List.map_nil]);first|done|rfl) ?_
 refine(HCM.out _ _ _ _ _ HB3.out g1.1 g1.2 g2.1 g2.2).mono ?_
 rintro e w4 ⟨rfl,hb⟩
 refine⟨_,rfl,?_⟩
 have HB4:=Za (Zr HB3.out hb)
 have K4:=Za (And.intro (Zx hb K3.out.1) (And.intro (Zx hb K3.out.2.1) (Zx hb K3.out.2.2)))
 clear hb
 refine hK.out _ _ K4.out (fun hHeld=>?_)
 clear hK K_
 refine nrm (some 16) ?_
 refine pu (N:=some 17) 5 ?_
 refine Zbu (by kernel_rfl) ?_
 clear HCA HCM g1 g2
 cases m with
 | true=>
  have H3:=Za ((if_pos rfl).symm.trans H2.out)
  go_wp2
  go_roundg k1
  case measure=>have:=HK.out;omega
  case rel=>exact⟨_,rfl,H3,⟨by have:=HK.out;omega⟩,HB4,K4⟩
 | false=>
  obtain rfl:n=r:=Zg ((if_neg (by simp)).symm.trans H2.out)
  go_wp2
  go_ret
  exact⟨rfl,HB4.out⟩
def Zcc.f (k:Nat) (l0_0:List (S39)) (l0_1:List (S82)) (a0_2:Int):Option (Bool):=(Za7.f l0_0 l0_1 a0_2).bind fun t2=>(if t2=true then((Z0.f k l0_0 l0_1 a0_2).bind fun t3=>(some (decide (t3<0)))) else(some false))
theorem Zcc.calls (k:Nat) (A0_0:Option Addr) (c0_0:Nat) (l0_0:List (S39)) (A0_1:Option Addr) (c0_1:Nat) (l0_1:List (S82)) (a0_2:Int) (r:Bool) (w:World) (hr0_0:Kd.C k39 w A0_0 l0_0.length l0_0) (hc0_0:l0_0.length≤c0_0) (hr0_1:Kd.C k82 w A0_1 l0_1.length l0_1) (hc0_1:l0_1.length≤c0_1) (ht:TW w) (h:Zcc.f k l0_0 l0_1 a0_2=some r) :
  Calls Tryz.prog 43 #[.agg #[.slice A0_0 l0_0.length c0_0,.slice A0_1 l0_1.length c0_1,.int .i64 a0_2]] w fun e w'=>e=.returned (.bool r)∧Below w.heap.size w w':=by
 have HTW:=Za ht;clear ht
 have hu25:=Tryz.underlying25
 have HR0_0:=Za hr0_0;have HC0_0:=Za hc0_0;clear hr0_0 hc0_0;have HR0_1:=Za hr0_1;have HC0_1:=Za hc0_1;clear hr0_1 hc0_1
 have HB:=Za (Below.refl w.heap.size w)
 have H:((Za7.f l0_0 l0_1 a0_2).bind fun t2=>(if t2=true then((Z0.f k l0_0 l0_1 a0_2).bind fun t3=>(some (decide (t3<0)))) else(some false)))=some r:=h
 clear h
 replace H:=Zh H
 obtain⟨t2,A20,H⟩:=H
 replace H:(if t2=true then((Z0.f k l0_0 l0_1 a0_2).bind fun t3=>(some (decide (t3<0)))) else(some false))=some r:=H
 have A2:=Za A20;clear A20
 by_cases c3:t2=true
 ·subst c3
  have H1:((Z0.f k l0_0 l0_1 a0_2).bind fun t3=>(some (decide (t3<0))))=some r:=by rw[if_pos rfl] at H;exact H
  clear H
  have H:=H1
  clear H1
  replace H:=Zh H
  obtain⟨t3,A40,H⟩:=H
  replace H:(some (decide (t3<0)))=some r:=H
  have A4:=Za A40;clear A40
  obtain rfl:=Zg H
  go_enter Tryz.func43,Tryz.ntmps43
  go_wp2_with (first|((with_reducible refine ZF (N:=1) rfl ?_);refine ZG ?hg (N:=1) ?hd (cs:=#[.slice A0_0 l0_0.length c0_0,.slice A0_1 l0_1.length c0_1,.int .i64 a0_2]) (t:=25) ?hr ?_;(case hd=>rfl);(case hg=>rfl);(case hr=>first|(go_simp;done)|(go_simp;rfl));intro gb1 hg w5 hbox hb;have BK1:=Za (hbox);have GW1:=Za ((by rw[hg];exact(Zv (by repeat(first|(with_reducible first|exact HB.out|apply Zo|apply Zn|apply Zp)|exact HB.out))):w.heap.size≤gb1));have GE1:=Za ((by rw[hg];exact(Zv (by repeat(first|(with_reducible first|exact HB.out|apply Zo|apply Zn|apply Zp)|exact HB.out))):w.heap.size≤gb1));replace HB:=Za (Zr (by repeat(first|(with_reducible first|exact HB.out|apply Zo|apply Zn|apply Zp)|exact HB.out)) hb);clear hb hbox hg;have hcz6_0:w5.cell? ⟨gb1,0,none⟩=some (.slice A0_0 l0_0.length c0_0):=(Zm BK1.out 0).trans rfl;have hcz6_1:w5.cell? ⟨gb1,1,none⟩=some (.slice A0_1 l0_1.length c0_1):=(Zm BK1.out 1).trans rfl;have hcz6_2:w5.cell? ⟨gb1,2,none⟩=some (.int .i64 a0_2):=(Zm BK1.out 2).trans rfl;have hfz6_0:=Zq BK1.out 0;have hfz6_1:=Zq BK1.out 1;have hfz6_2:=Zq BK1.out 2)|((with_reducible refine ZM (f:=19) rfl ?_);refine Z7 (some 4) rfl rfl Tryz.func19 (by kernel_rfl) rfl #[.agg #[.slice A0_0 l0_0.length c0_0,.slice A0_1 l0_1.length c0_1,.int .i64 a0_2]] rfl (by(try simp only[List.map_toArray,List.map_cons,List.map_nil]);first|done|rfl|(simp only[Zk,Zj];rfl)) ?_;(with_reducible refine(Za7.calls _ _ l0_0 _ _ l0_1 a0_2 true _ ?side1 ?side2 ?side3 ?side4 A2.out).mono ?_);(case side1=>repeat(first|exact(Zb HR0_0.out HB.out)|(with_reducible refine Kd.C_alloc ?_ _)|(with_reducible refine Kd.C_drewN ?_ _)|(with_reducible refine Kd.C_drew ?_)));(case side2=>exact HC0_0.out);(case side3=>repeat(first|exact(Zb HR0_1.out HB.out)|(with_reducible refine Kd.C_alloc ?_ _)|(with_reducible refine Kd.C_drewN ?_ _)|(with_reducible refine Kd.C_drew ?_)));(case side4=>exact HC0_1.out);rintro e w7 ⟨rfl,hb⟩;refine⟨_,rfl,?_⟩;replace BK1:=Za (Zs (g:=gb1) (o:=.cells #[.slice A0_0 l0_0.length c0_0,.slice A0_1 l0_1.length c0_1,.int .i64 a0_2] 25 (0,0)) (by(with_reducible repeat(first|refine ZD ?_ _|refine Zz ?_|refine Zy ?_ _));exact BK1.out) hb);replace HB:=Za (Zr (by repeat(first|(with_reducible first|exact HB.out|apply Zo|apply Zn|apply Zp|refine Zt ?_ GE1.out)|exact HB.out)) hb);(try clear hb);(try clear hb2);(try clear hk);(try clear hi);have hcz8_0:w7.cell? ⟨gb1,0,none⟩=some (.slice A0_0 l0_0.length c0_0):=(Zm BK1.out 0).trans rfl;have hcz8_1:w7.cell? ⟨gb1,1,none⟩=some (.slice A0_1 l0_1.length c0_1):=(Zm BK1.out 1).trans rfl;have hcz8_2:w7.cell? ⟨gb1,2,none⟩=some (.int .i64 a0_2):=(Zm BK1.out 2).trans rfl;have hfz8_0:=Zq BK1.out 0;have hfz8_1:=Zq BK1.out 1;have hfz8_2:=Zq BK1.out 2)|(go_at_call 41;(with_reducible refine(Z0.calls k _ _ l0_0 _ _ l0_1 a0_2 t3 _ ?side1 ?side2 ?side3 ?side4 ?sideT A4.out).mono ?_);(case sideT=>exact TW.below HTW.out (by repeat(first|(with_reducible first|exact HB.out|apply Zo|apply Zn|apply Zp|refine Zt ?_ GE1.out)|exact HB.out)));(case side1=>repeat(first|exact(Zb HR0_0.out HB.out)|(with_reducible refine Kd.C_alloc ?_ _)|(with_reducible refine Kd.C_drewN ?_ _)|(with_reducible refine Kd.C_drew ?_)));(case side2=>exact HC0_0.out);(case side3=>repeat(first|exact(Zb HR0_1.out HB.out)|(with_reducible refine Kd.C_alloc ?_ _)|(with_reducible refine Kd.C_drewN ?_ _)|(with_reducible refine Kd.C_drew ?_)));(case side4=>exact HC0_1.out);rintro e w9 ⟨rfl,hb⟩;replace BK1:=Za (Zs (g:=gb1) (o:=.cells #[.slice A0_0 l0_0.length c0_0,.slice A0_1 l0_1.length c0_1,.int .i64 a0_2] 25 (0,0)) (by(with_reducible repeat(first|refine ZD ?_ _|refine Zz ?_|refine Zy ?_ _));exact BK1.out) hb);replace HB:=Za (Zr (by repeat(first|(with_reducible first|exact HB.out|apply Zo|apply Zn|apply Zp|refine Zt ?_ GE1.out)|exact HB.out)) hb);(try clear hb);(try clear hb2);(try clear hk);(try clear hi)))
  go_ret
  exact⟨by first|rfl|(simp[ZC,ZB] <;> rfl)|(simp[*,ZC,ZB] <;> rfl),by repeat(first|(with_reducible first|exact HB.out|apply Zo|apply Zn|apply Zp|refine Zt ?_ GE1.out)|exact HB.out)⟩
 ·replace c3:=Bool.eq_false_iff.mpr c3
  subst c3
  have H1:(some false)=some r:=by rw[if_neg (show ¬(false=true) by decide)] at H;exact H
  clear H
  have H:=H1
  clear H1
  obtain rfl:=Zg H
  go_enter Tryz.func43,Tryz.ntmps43
  go_wp2_with (first|((with_reducible refine ZF (N:=1) rfl ?_);refine ZG ?hg (N:=1) ?hd (cs:=#[.slice A0_0 l0_0.length c0_0,.slice A0_1 l0_1.length c0_1,.int .i64 a0_2]) (t:=25) ?hr ?_;(case hd=>rfl);(case hg=>rfl);(case hr=>first|(go_simp;done)|(go_simp;rfl));intro gb1 hg w10 hbox hb;have BK1:=Za (hbox);have GW1:=Za ((by rw[hg];exact(Zv (by repeat(first|(with_reducible first|exact HB.out|apply Zo|apply Zn|apply Zp)|exact HB.out))):w.heap.size≤gb1));have GE1:=Za ((by rw[hg];exact(Zv (by repeat(first|(with_reducible first|exact HB.out|apply Zo|apply Zn|apply Zp)|exact HB.out))):w.heap.size≤gb1));replace HB:=Za (Zr (by repeat(first|(with_reducible first|exact HB.out|apply Zo|apply Zn|apply Zp)|exact HB.out)) hb);clear hb hbox hg;have hcz11_0:w10.cell? ⟨gb1,0,none⟩=some (.slice A0_0 l0_0.length c0_0):=(Zm BK1.out 0).trans rfl;have hcz11_1:w10.cell? ⟨gb1,1,none⟩=some (.slice A0_1 l0_1.length c0_1):=(Zm BK1.out 1).trans rfl;have hcz11_2:w10.cell? ⟨gb1,2,none⟩=some (.int .i64 a0_2):=(Zm BK1.out 2).trans rfl;have hfz11_0:=Zq BK1.out 0;have hfz11_1:=Zq BK1.out 1;have hfz11_2:=Zq BK1.out 2)|((with_reducible refine ZM (f:=19) rfl ?_);refine Z7 (some 4) rfl rfl Tryz.func19 (by kernel_rfl) rfl #[.agg #[.slice A0_0 l0_0.length c0_0,.slice A0_1 l0_1.length c0_1,.int .i64 a0_2]] rfl (by(try simp only[List.map_toArray,List.map_cons,List.map_nil]);first|done|rfl|(simp only[Zk,Zj];rfl)) ?_;(with_reducible refine(Za7.calls _ _ l0_0 _ _ l0_1 a0_2 false _ ?side1 ?side2 ?side3 ?side4 A2.out).mono ?_);(case side1=>repeat(first|exact(Zb HR0_0.out HB.out)|(with_reducible refine Kd.C_alloc ?_ _)|(with_reducible refine Kd.C_drewN ?_ _)|(with_reducible refine Kd.C_drew ?_)));(case side2=>exact HC0_0.out);(case side3=>repeat(first|exact(Zb HR0_1.out HB.out)|(with_reducible refine Kd.C_alloc ?_ _)|(with_reducible refine Kd.C_drewN ?_ _)|(with_reducible refine Kd.C_drew ?_)));(case side4=>exact HC0_1.out);rintro e w12 ⟨rfl,hb⟩;refine⟨_,rfl,?_⟩;replace BK1:=Za (Zs (g:=gb1) (o:=.cells #[.slice A0_0 l0_0.length c0_0,.slice A0_1 l0_1.length c0_1,.int .i64 a0_2] 25 (0,0)) (by(with_reducible repeat(first|refine ZD ?_ _|refine Zz ?_|refine Zy ?_ _));exact BK1.out) hb);replace HB:=Za (Zr (by repeat(first|(with_reducible first|exact HB.out|apply Zo|apply Zn|apply Zp|refine Zt ?_ GE1.out)|exact HB.out)) hb);(try clear hb);(try clear hb2);(try clear hk);(try clear hi)))
  go_ret
  exact⟨by first|rfl|(simp[ZC,ZB] <;> rfl)|(simp[*,ZC,ZB] <;> rfl),by repeat(first|(with_reducible first|exact HB.out|apply Zo|apply Zn|apply Zp|refine Zt ?_ GE1.out)|exact HB.out)⟩
def gath {α:Type} (d:α) (S:List α) (I:List Int):Option (List α):=if I.length≤1048576∧(I.all fun x=>decide (0≤x) && decide (x<S.length))=true then some (I.map fun x=>S.getD x.toNat d) else none
theorem Zd9 {α:Type} {d:α} {S:List α} {I:List Int} {r:List α} (h:gath d S I=some r):I.length≤1048576∧(∀x∈I,0≤x∧x<S.length)∧(I.drop 0).map (fun x=>S.getD x.toNat d)=r:=by
 unfold gath at h
 split at h
 ·rename_i hc
  refine⟨hc.1,fun x hx=>?_,Zg h⟩
  have:=List.all_eq_true.1 hc.2 x hx
  simpa using this
 ·cases h
theorem gath_of {α:Type} (d:α) {S:List α} {I:List Int} (h1:I.length≤1048576) (h2:∀x∈I,0≤x∧x<S.length):gath d S I=some (I.map fun x=>S.getD x.toNat d):=by
 unfold gath
 rw[if_pos ⟨h1,List.all_eq_true.2 fun x hx=>by simpa using h2 x hx⟩]
structure Gat {α:Type} (kd:Kd α) (e:Nat) (w W:World) (uS uI uO:Value) (S:List α) (I:List Int) (O:List α):Prop where
 rs:kd.R e W w.heap.size (fun k=>some k≠uO.ownBlock) uS S
 ri:Kd.R (Kd.int .i64) 3 W w.heap.size (fun k=>some k≠uO.ownBlock) uI I
 ro:kd.R e W w.heap.size (fun k=>some k≠uS.ownBlock∧some k≠uI.ownBlock) uO O
 hb:Below w.heap.size w W
section
variable {α:Type} {kd:Kd α} {e:Nat} {w W w1:World} {uS uI uO v1:Value} {S:List α} {I:List Int} {O O1:List α}
theorem Gat.nil {b b':Nat} (hs:kd.R e W b (fun _=>True) uS S) (hi:Kd.R (Kd.int .i64) 3 W b' (fun _=>True) uI I) (h1:w.heap.size≤b) (h2:w.heap.size≤b') (hb:Below w.heap.size w W):Gat kd e w W uS uI (.slice none 0 0) S I []:=
 ⟨Kd.R_mono (Kd.R_lower hs h1) (fun _ _=>by simp[Value.ownBlock]),Kd.R_mono (Kd.R_lower hi h2) (fun _ _=>by simp[Value.ownBlock]),Kd.R_nil _ _ _ _ _,hb⟩
theorem Gat.lit {m n:Nat} (hE:kd.E=[]) (hs:kd.R e W w.heap.size (fun _=>True) uS S) (hi:Kd.R (Kd.int .i64) 3 W n (fun _=>True) uI I) (ho:kd.R e W m (fun _=>True) uO O) (hs2:∀k,uS.ownBlock=some k→k<m) (ho2:∀k,uO.ownBlock=some k→k<n) (hm:w.heap.size≤m) (hn:w.heap.size≤n) (hb:Below w.heap.size w W):Gat kd e w W uS uI uO S I O:=by
 have bo:∀k,uO.ownBlock=some k→m≤k:=(Kd.R_bound ho).1 |> fun h k hk=>(h k hk).2.1
 have bi:∀k,uI.ownBlock=some k→n≤k:=(Kd.R_bound hi).1 |> fun h k hk=>(h k hk).2.1
 exact⟨Kd.R_reok hE hs (fun k hk q=>by have:=hs2 k hk;have:=bo k q.symm;omega),Kd.R_reok rfl (Kd.R_lower hi hn) (fun k hk q=>by have:=bi k hk;have:=ho2 k q.symm;omega),Kd.R_reok hE (Kd.R_lower ho hm) (fun k hk=>⟨fun q=>by have:=bo k hk;have:=hs2 k q.symm;omega,fun q=>by have:=ho2 k hk;have:=bi k q.symm;omega⟩),hb⟩
theorem Gat.grow (h:Gat kd e w W uS uI uO S I O) (ho:kd.R e w1 w.heap.size (fun k=>some k≠uS.ownBlock∧some k≠uI.ownBlock) v1 O1) (hb:Below w.heap.size w w1) (hg:W.grownBy w1 uO.ownBlock) (hat:v1.ownBlock=uO.ownBlock∨∃b,v1.ownBlock=some b∧W.heap.size≤b):Gat kd e w w1 uS uI v1 S I O1:=
 ⟨Kd.R_mono (Kd.R_after (ok:=fun _=>True) (Kd.R_mono h.rs (fun _ hk=>⟨trivial,hk⟩)) hg hat) (fun _ hk=>hk.2),Kd.R_mono (Kd.R_after (ok:=fun _=>True) (Kd.R_mono h.ri (fun _ hk=>⟨trivial,hk⟩)) hg hat) (fun _ hk=>hk.2),ho,hb⟩
end
def ZbM.f (k:Nat) (a0_0:Int) (l0_1:List (S112)):Option (List Int):=(ZaN.f a0_0 l0_1).bind fun b=>if b=true then((Z1.f k a0_0 l0_1).bind fun t=>(Zaq.f t.1 t.2.1).bind fun I=>gath 0 t.2.2 I) else some []
theorem ZbM.calls (k:Nat) (a0_0:Int) (A0_1:Option Addr) (c0_1:Nat) (l0_1:List (S112)) (r:List Int) (w:World) (hr0_1:Kd.C k112 w A0_1 l0_1.length l0_1) (hc0_1:l0_1.length≤c0_1) (h:ZbM.f k a0_0 l0_1=some r) :
  Calls Tryz.prog 118 #[.agg #[.int .i64 a0_0,.slice A0_1 l0_1.length c0_1]] w fun e w'=>∃v0_:Value,e=.returned (v0_)∧Kd.R (Kd.int .i64) 3 w' w.heap.size (fun _=>True) v0_ r∧Below w.heap.size w w':=by
 unfold ZbM.f at h
 obtain⟨b,hb_,h⟩:=Option.bind_eq_some_iff.1 h
 have HO:=Za fun (W:World) (hb:Below w.heap.size w W)=>ZaN.calls a0_0 A0_1 c0_1 l0_1 b W (Zb hr0_1 hb) hc0_1 hb_
 clear hb_
 cases b with
 | false=>
  obtain rfl:[]=r:=Zg ((if_neg (by simp)).symm.trans h)
  clear h
  have hu0:=Tryz.underlying54
  have hu1:=Tryz.underlying156
  clear hr0_1 hc0_1
  go_enter Tryz.func118,Tryz.ntmps118
  go_wp2_with (first|((with_reducible refine ZF (N:=1) rfl ?_);refine ZG ?hg (N:=1) ?hd (cs:=#[.int .i64 a0_0,.slice A0_1 l0_1.length c0_1]) (t:=54) ?hr ?_;(case hd=>rfl);(case hg=>rfl);(case hr=>first|(go_simp;done)|(go_simp;rfl));intro gs hg w1 hbox hb;have BS:=Za hbox;have HB:=Za hb;have s0:w1.cell? ⟨gs,0,none⟩=some (.int .i64 a0_0):=(Zm BS.out 0).trans rfl;have s1:w1.cell? ⟨gs,1,none⟩=some (.slice A0_1 l0_1.length c0_1):=(Zm BS.out 1).trans rfl;clear hbox hb hg)|(go_at_call 105;refine(HO.out _ HB.out).mono ?_;rintro e w3 ⟨rfl,hb⟩;replace BS:=Za (Zs BS.out hb);replace HB:=Za (Zr HB.out hb);clear s0 s1;have s0:w3.cell? ⟨gs,0,none⟩=some (.int .i64 a0_0):=(Zm BS.out 0).trans rfl;have s1:w3.cell? ⟨gs,1,none⟩=some (.slice A0_1 l0_1.length c0_1):=(Zm BS.out 1).trans rfl;clear hb))
  go_ret
  exact⟨_,rfl,Kd.R_nil _ _ _ _ _,HB.out⟩
 | true=>
 rw[if_pos rfl] at h
 obtain⟨t,ht_,h⟩:=Option.bind_eq_some_iff.1 h
 obtain⟨n1,E1,S⟩:=t
 dsimp only at h
 obtain⟨I,hI_,h⟩:=Option.bind_eq_some_iff.1 h
 have HG_:=Za fun (W:World) (hb:Below w.heap.size w W)=>Z1.calls k a0_0 A0_1 c0_1 l0_1 n1 E1 S W (Zb hr0_1 hb) hc0_1 ht_
 have HN:=Za fun (W:World) (A1:Option Addr) (c1:Nat) (g1:E1.length≤c1) (g2:Kd.C k184 W A1 E1.length E1)=>Zaq.calls n1 A1 c1 E1 I W g2 g1 hI_
 clear ht_ hI_
 have OK:=Za (Zd9 h)
 clear h
 have hu0:=Tryz.underlying54
 have hu1:=Tryz.underlying156
 clear hr0_1 hc0_1
 go_enter Tryz.func118,Tryz.ntmps118
 go_wp2_with (first|((with_reducible refine ZF (N:=1) rfl ?_);refine ZG ?hg (N:=1) ?hd (cs:=#[.int .i64 a0_0,.slice A0_1 l0_1.length c0_1]) (t:=54) ?hr ?_;(case hd=>rfl);(case hg=>rfl);(case hr=>first|(go_simp;done)|(go_simp;rfl));intro gs hg w1 hbox hb;have BS:=Za hbox;have HB:=Za hb;have s0:w1.cell? ⟨gs,0,none⟩=some (.int .i64 a0_0):=(Zm BS.out 0).trans rfl;have s1:w1.cell? ⟨gs,1,none⟩=some (.slice A0_1 l0_1.length c0_1):=(Zm BS.out 1).trans rfl;clear hbox hb hg)|(go_at_call 105;refine(HO.out _ HB.out).mono ?_;rintro e w3 ⟨rfl,hb⟩;replace BS:=Za (Zs BS.out hb);replace HB:=Za (Zr HB.out hb);clear s0 s1;have s0:w3.cell? ⟨gs,0,none⟩=some (.int .i64 a0_0):=(Zm BS.out 0).trans rfl;have s1:w3.cell? ⟨gs,1,none⟩=some (.slice A0_1 l0_1.length c0_1):=(Zm BS.out 1).trans rfl;clear hb)|(go_at_call 174;have HBp:=HB;refine(HG_.out _ HB.out).mono ?_;rintro e w4 ⟨vE,vS,rfl,q0,qS,hb⟩;replace BS:=Za (Zs BS.out hb);replace HB:=Za (Zr HB.out hb);clear s0 s1;have s0:w4.cell? ⟨gs,0,none⟩=some (.int .i64 a0_0):=(Zm BS.out 0).trans rfl;have s1:w4.cell? ⟨gs,1,none⟩=some (.slice A0_1 l0_1.length c0_1):=(Zm BS.out 1).trans rfl;obtain⟨AE,cE,rfl,gE_⟩:=Kd.R_reads q0;have GE:=Za gE_;obtain⟨AS,cS,eS⟩:=Kd.R_slice qS;subst eS;have QS:=Za (Kd.R_lower qS HBp.out.size);clear q0 gE_ qS;clear hb)|(go_at_call 170;refine(HN.out _ _ _ GE.out.1 (Zb GE.out.2 (by repeat(first|(with_reducible first|exact(Below.refl _ _)|apply Zo|apply Zn|apply Zp)|exact(Below.refl _ _))))).mono ?_;rintro e w9 ⟨vI,rfl,qI,hb⟩;have I0:=Za (Gat.nil (kd:=(Kd.int .i64)) (e:=3) (Kd.R_below QS.out (Zr (by repeat(first|(with_reducible first|exact(Below.refl _ _)|apply Zo|apply Zn|apply Zp)|exact(Below.refl _ _))) hb)) qI (Nat.le_refl _) (Zv (by repeat(first|(with_reducible first|exact HB.out|apply Zo|apply Zn|apply Zp)|exact HB.out))) (Zr (by repeat(first|(with_reducible first|exact HB.out|apply Zo|apply Zn|apply Zp)|exact HB.out)) hb));obtain⟨AI,cI,eI⟩:=Kd.R_slice qI;subst eI;clear qI hb s0 s1))
 clear HG_ HN
 go_loopg [5,19] I.length (fun gg s5 s19 wr=>∃(i:Nat) (O:List Int),s19=.int .i64 (i:Int)∧Aside0 (i≤I.length)∧Aside0 (I.length - i≤gg)∧Aside0 (O.length≤i∧O ++ (I.drop i).map (fun x=>S.getD x.toNat 0)=r)∧Aside0 (Gat (Kd.int .i64) 3 w wr (.slice AS S.length cS) (.slice AI I.length cI) s5 S I O))
 case atStart=>exact⟨0,[],rfl,⟨Nat.zero_le _⟩,⟨by omega⟩,⟨Nat.le_refl _,OK.out.2.2⟩,I0⟩
 case round=>
 clear I0
 obtain⟨i,O,rfl,HK,HG,HE,HI⟩:=hrel
 by_cases hlt:i<I.length
 ·have hltz:(i:Int)<(I.length:Int):=by omega
  obtain⟨ad,q1,hx⟩:=Kd.at_int (Kd.R_reads' HI.out.ri).2.2 (i:Int) (by omega) hltz
  cases q1
  have hm:=OK.out.2.1 _ (ZaJ hlt 0)
  have HD:=HE.out.2
  rw[Zal hlt 0,List.map_cons] at HD
  rw[Int.toNat_natCast,ZaW] at hx
  generalize I.getD i 0=x at hx hm HD
  obtain⟨ad2,q2,hy⟩:=Kd.at_int (Kd.R_reads' HI.out.rs).2.2 x hm.1 hm.2
  cases q2
  have px:=eq_true hm.1
  have py:=eq_true hm.2
  obtain⟨O1,hO1⟩:∃O1,O1=O ++ [rd S x]:=⟨_,rfl⟩
  have NO:=Za hO1
  have HD2:=Za (show O1.length≤i+1∧O1 ++ (I.drop (i+1)).map (fun x=>S.getD x.toNat 0)=r from⟨by rw[hO1,List.length_append,List.length_singleton];have:=HE.out.1;omega,by rw[hO1,List.append_assoc];exact HD⟩)
  clear hm hO1 HD
  go_wp2_with ((with_reducible refine ZU (b:=.append) (xs:=#[.tmp 23,.tmp 28]) rfl ?_);at_builtin;refine Kd.R_append (Kd.int .i64) (w0:=w) w.heap.size rfl (.tmp 23) (.tmp 28) 37 3 (.int .i64 0) 8 rfl Tryz.underlying37 Zbl rfl (by decide) (by omega) u5 O (rd S x) [.int .i64 (rd S x)] (fun k=>some k≠(Value.slice (some ad2) S.length cS).ownBlock∧some k≠(Value.slice (some ad) I.length cI).ownBlock) (fun _=>False) rfl rfl ?aP (fun _ hk=>hk.elim) ?aF ?aO ?aB ?aS ?aL ?_;(case aP=>exact rfl);(case aB=>exact HI.out.hb);(case aF=>exact fun k hk=>⟨Kd.fresh' (Kd.R_lt HI.out.rs) k hk,Kd.fresh' (Kd.R_lt HI.out.ri) k hk⟩);(case aO=>exact HI.out.ro);(case aS=>exact HI.out.hb.size);(case aL=>have:=HE.out.1;have:=HK.out;have:=OK.out.1;omega);intro v1 w8 ho hb hg hat;rw[← NO.out] at ho;have J:=Za (HI.out.grow ho hb hg hat);clear ho hb hg hat)
  go_roundg (I.length - (i+1))
  case measure=>have:=HG.out;omega
  case rel=>exact⟨i+1,O1,by rw[ZO hlt (by have:=OK.out.1;omega)],⟨by omega⟩,⟨by omega⟩,HD2,J⟩
 ·obtain rfl:i=I.length:=by have:=HK.out;omega
  obtain rfl:O=r:=by
   have h:=HE.out.2
   rw[List.drop_length,List.map_nil,List.append_nil] at h
   exact h
  clear HE hlt
  go_wp2
  go_ret
  exact⟨_,rfl,Kd.R_mono HI.out.ro (fun _ _=>trivial),HI.out.hb⟩
def Zar.f (k:Nat) (l0_0:List (S39)) (l0_1:List (S82)) (a0_2:Int) (l1_0:List Int) (l1_1:List Int):Option (List ByteArray):=(ZbT.f k l0_0 l0_1 a0_2 l1_0 l1_1).bind fun b=>if b=true then((Zw.f k l0_0 l0_1 a0_2 l1_0 l1_1).bind fun t=>(ZbM.f k t.1 t.2.1).bind fun I=>gath ByteArray.empty t.2.2 I) else some []
theorem Zar.calls (k:Nat) (A0_0:Option Addr) (c0_0:Nat) (l0_0:List (S39)) (A0_1:Option Addr) (c0_1:Nat) (l0_1:List (S82)) (a0_2:Int) (A1_0:Option Addr) (c1_0:Nat) (l1_0:List Int) (A1_1:Option Addr) (c1_1:Nat) (l1_1:List Int) (r:List ByteArray) (w:World) (hr0_0:Kd.C k39 w A0_0 l0_0.length l0_0) (hc0_0:l0_0.length≤c0_0) (hr0_1:Kd.C k82 w A0_1 l0_1.length l0_1) (hc0_1:l0_1.length≤c0_1) (hr1_0:Kd.C (Kd.int .i64) w A1_0 l1_0.length l1_0) (hc1_0:l1_0.length≤c1_0) (hr1_1:Kd.C (Kd.int .i64) w A1_1 l1_1.length l1_1) (hc1_1:l1_1.length≤c1_1) (ht:TW w) (h:Zar.f k l0_0 l0_1 a0_2 l1_0 l1_1=some r) :
  Calls Tryz.prog 45 #[.agg #[.slice A0_0 l0_0.length c0_0,.slice A0_1 l0_1.length c0_1,.int .i64 a0_2],.agg #[.slice A1_0 l1_0.length c1_0,.slice A1_1 l1_1.length c1_1]] w fun e w'=>∃v0_:Value,e=.returned (v0_)∧Kd.R Kd.string 9 w' w.heap.size (fun _=>True) v0_ r∧Below w.heap.size w w':=by
 unfold Zar.f at h
 obtain⟨b,hb_,h⟩:=Option.bind_eq_some_iff.1 h
 have HO:=Za fun (W:World) (hb:Below w.heap.size w W)=>ZbT.calls k A0_0 c0_0 l0_0 A0_1 c0_1 l0_1 a0_2 A1_0 c1_0 l1_0 A1_1 c1_1 l1_1 b W (Zb hr0_0 hb) hc0_0 (Zb hr0_1 hb) hc0_1 (Zb hr1_0 hb) hc1_0 (Zb hr1_1 hb) hc1_1 hb_
 clear hb_;have HTW:=Za ht
 cases b with
 | false=>
  obtain rfl:[]=r:=Zg ((if_neg (by simp)).symm.trans h)
  clear h
  have hu0:=Tryz.underlying25
  have hu1:=Tryz.underlying58
  have hu2:=Tryz.underlying54
  clear hr0_0 hc0_0 hr0_1 hc0_1 hr1_0 hc1_0 hr1_1 hc1_1 ht
  go_enter Tryz.func45,Tryz.ntmps45
  go_wp2_with (first|((with_reducible refine ZF (N:=2) rfl ?_);refine ZG ?hg (N:=2) ?hd (cs:=#[.slice A0_0 l0_0.length c0_0,.slice A0_1 l0_1.length c0_1,.int .i64 a0_2]) (t:=25) ?hr ?_;(case hd=>rfl);(case hg=>rfl);(case hr=>first|(go_simp;done)|(go_simp;rfl));intro gs hg w1 hbox hb;have BS:=Za hbox;have HB:=Za hb;clear hbox hb hg)|((with_reducible refine ZF (N:=3) rfl ?_);refine ZG ?hg (N:=3) ?hd (cs:=#[.slice A1_0 l1_0.length c1_0,.slice A1_1 l1_1.length c1_1]) (t:=58) ?hr ?_;(case hd=>rfl);(case hg=>rfl);(case hr=>first|(go_simp;done)|(go_simp;rfl));intro gc hg w2 hbox hb;have BC:=Za hbox;replace BS:=Za (Zs BS.out hb);replace HB:=Za (Zr HB.out hb);have s0:w2.cell? ⟨gs,0,none⟩=some (.slice A0_0 l0_0.length c0_0):=(Zm BS.out 0).trans rfl;have s1:w2.cell? ⟨gs,1,none⟩=some (.slice A0_1 l0_1.length c0_1):=(Zm BS.out 1).trans rfl;have s2:w2.cell? ⟨gs,2,none⟩=some (.int .i64 a0_2):=(Zm BS.out 2).trans rfl;have s3:w2.cell? ⟨gc,0,none⟩=some (.slice A1_0 l1_0.length c1_0):=(Zm BC.out 0).trans rfl;have s4:w2.cell? ⟨gc,1,none⟩=some (.slice A1_1 l1_1.length c1_1):=(Zm BC.out 1).trans rfl;clear hbox hb hg)|(go_at_call 103;refine(HO.out _ HB.out).mono ?_;rintro e w3 ⟨rfl,hb⟩;replace BS:=Za (Zs BS.out hb);replace BC:=Za (Zs BC.out hb);replace HB:=Za (Zr HB.out hb);clear s0 s1 s2 s3 s4;have s0:w3.cell? ⟨gs,0,none⟩=some (.slice A0_0 l0_0.length c0_0):=(Zm BS.out 0).trans rfl;have s1:w3.cell? ⟨gs,1,none⟩=some (.slice A0_1 l0_1.length c0_1):=(Zm BS.out 1).trans rfl;have s2:w3.cell? ⟨gs,2,none⟩=some (.int .i64 a0_2):=(Zm BS.out 2).trans rfl;have s3:w3.cell? ⟨gc,0,none⟩=some (.slice A1_0 l1_0.length c1_0):=(Zm BC.out 0).trans rfl;have s4:w3.cell? ⟨gc,1,none⟩=some (.slice A1_1 l1_1.length c1_1):=(Zm BC.out 1).trans rfl;clear hb))
  go_ret
  exact⟨_,rfl,Kd.R_nil _ _ _ _ _,HB.out⟩
 | true=>
 rw[if_pos rfl] at h
 obtain⟨t,ht_,h⟩:=Option.bind_eq_some_iff.1 h
 obtain⟨n1,L1,S⟩:=t
 dsimp only at h
 obtain⟨I,hI_,h⟩:=Option.bind_eq_some_iff.1 h
 have HG_:=Za fun (W:World) (hb:Below w.heap.size w W)=>Zw.calls k A0_0 c0_0 l0_0 A0_1 c0_1 l0_1 a0_2 A1_0 c1_0 l1_0 A1_1 c1_1 l1_1 n1 L1 S W (Zb hr0_0 hb) hc0_0 (Zb hr0_1 hb) hc0_1 (Zb hr1_0 hb) hc1_0 (Zb hr1_1 hb) hc1_1 (TW.below HTW.out hb) ht_
 have HN:=Za fun (W:World) (A1:Option Addr) (c1:Nat) (g1:L1.length≤c1) (g2:Kd.C k112 W A1 L1.length L1)=>ZbM.calls k n1 A1 c1 L1 I W g2 g1 hI_
 clear ht_ hI_
 have OK:=Za (Zd9 h)
 clear h
 have hu0:=Tryz.underlying25
 have hu1:=Tryz.underlying58
 have hu2:=Tryz.underlying54
 clear hr0_0 hc0_0 hr0_1 hc0_1 hr1_0 hc1_0 hr1_1 hc1_1 ht
 go_enter Tryz.func45,Tryz.ntmps45
 go_wp2_with (first|((with_reducible refine ZF (N:=2) rfl ?_);refine ZG ?hg (N:=2) ?hd (cs:=#[.slice A0_0 l0_0.length c0_0,.slice A0_1 l0_1.length c0_1,.int .i64 a0_2]) (t:=25) ?hr ?_;(case hd=>rfl);(case hg=>rfl);(case hr=>first|(go_simp;done)|(go_simp;rfl));intro gs hg w1 hbox hb;have BS:=Za hbox;have HB:=Za hb;clear hbox hb hg)|((with_reducible refine ZF (N:=3) rfl ?_);refine ZG ?hg (N:=3) ?hd (cs:=#[.slice A1_0 l1_0.length c1_0,.slice A1_1 l1_1.length c1_1]) (t:=58) ?hr ?_;(case hd=>rfl);(case hg=>rfl);(case hr=>first|(go_simp;done)|(go_simp;rfl));intro gc hg w2 hbox hb;have BC:=Za hbox;replace BS:=Za (Zs BS.out hb);replace HB:=Za (Zr HB.out hb);have s0:w2.cell? ⟨gs,0,none⟩=some (.slice A0_0 l0_0.length c0_0):=(Zm BS.out 0).trans rfl;have s1:w2.cell? ⟨gs,1,none⟩=some (.slice A0_1 l0_1.length c0_1):=(Zm BS.out 1).trans rfl;have s2:w2.cell? ⟨gs,2,none⟩=some (.int .i64 a0_2):=(Zm BS.out 2).trans rfl;have s3:w2.cell? ⟨gc,0,none⟩=some (.slice A1_0 l1_0.length c1_0):=(Zm BC.out 0).trans rfl;have s4:w2.cell? ⟨gc,1,none⟩=some (.slice A1_1 l1_1.length c1_1):=(Zm BC.out 1).trans rfl;clear hbox hb hg)|(go_at_call 103;refine(HO.out _ HB.out).mono ?_;rintro e w3 ⟨rfl,hb⟩;replace BS:=Za (Zs BS.out hb);replace BC:=Za (Zs BC.out hb);replace HB:=Za (Zr HB.out hb);clear s0 s1 s2 s3 s4;have s0:w3.cell? ⟨gs,0,none⟩=some (.slice A0_0 l0_0.length c0_0):=(Zm BS.out 0).trans rfl;have s1:w3.cell? ⟨gs,1,none⟩=some (.slice A0_1 l0_1.length c0_1):=(Zm BS.out 1).trans rfl;have s2:w3.cell? ⟨gs,2,none⟩=some (.int .i64 a0_2):=(Zm BS.out 2).trans rfl;have s3:w3.cell? ⟨gc,0,none⟩=some (.slice A1_0 l1_0.length c1_0):=(Zm BC.out 0).trans rfl;have s4:w3.cell? ⟨gc,1,none⟩=some (.slice A1_1 l1_1.length c1_1):=(Zm BC.out 1).trans rfl;clear hb)|(go_at_call 104;have HBp:=HB;refine(HG_.out _ HB.out).mono ?_;rintro e w4 ⟨vE,vS,rfl,q0,qS,hb⟩;replace BS:=Za (Zs BS.out hb);replace BC:=Za (Zs BC.out hb);replace HB:=Za (Zr HB.out hb);clear s0 s1 s2 s3 s4;have s0:w4.cell? ⟨gs,0,none⟩=some (.slice A0_0 l0_0.length c0_0):=(Zm BS.out 0).trans rfl;have s1:w4.cell? ⟨gs,1,none⟩=some (.slice A0_1 l0_1.length c0_1):=(Zm BS.out 1).trans rfl;have s2:w4.cell? ⟨gs,2,none⟩=some (.int .i64 a0_2):=(Zm BS.out 2).trans rfl;have s3:w4.cell? ⟨gc,0,none⟩=some (.slice A1_0 l1_0.length c1_0):=(Zm BC.out 0).trans rfl;have s4:w4.cell? ⟨gc,1,none⟩=some (.slice A1_1 l1_1.length c1_1):=(Zm BC.out 1).trans rfl;obtain⟨AE,cE,rfl,gE_⟩:=Kd.R_reads q0;have GE:=Za gE_;obtain⟨AS,cS,eS⟩:=Kd.R_slice qS;subst eS;have QS:=Za (Kd.R_lower qS HBp.out.size);clear q0 gE_ qS;clear hb)|(go_at_call 118;refine(HN.out _ _ _ GE.out.1 (Zb GE.out.2 (by repeat(first|(with_reducible first|exact(Below.refl _ _)|apply Zo|apply Zn|apply Zp)|exact(Below.refl _ _))))).mono ?_;rintro e w9 ⟨vI,rfl,qI,hb⟩;have I0:=Za (Gat.nil (kd:=Kd.string) (e:=9) (Kd.R_below QS.out (Zr (by repeat(first|(with_reducible first|exact(Below.refl _ _)|apply Zo|apply Zn|apply Zp)|exact(Below.refl _ _))) hb)) qI (Nat.le_refl _) (Zv (by repeat(first|(with_reducible first|exact HB.out|apply Zo|apply Zn|apply Zp)|exact HB.out))) (Zr (by repeat(first|(with_reducible first|exact HB.out|apply Zo|apply Zn|apply Zp)|exact HB.out)) hb));obtain⟨AI,cI,eI⟩:=Kd.R_slice qI;subst eI;clear qI hb s0 s1 s2 s3 s4))
 clear HG_ HN
 go_loopg [7,23] I.length (fun gg s7 s23 wr=>∃(i:Nat) (O:List ByteArray),s23=.int .i64 (i:Int)∧Aside0 (i≤I.length)∧Aside0 (I.length - i≤gg)∧Aside0 (O.length≤i∧O ++ (I.drop i).map (fun x=>S.getD x.toNat ByteArray.empty)=r)∧Aside0 (Gat Kd.string 9 w wr (.slice AS S.length cS) (.slice AI I.length cI) s7 S I O))
 case atStart=>exact⟨0,[],rfl,⟨Nat.zero_le _⟩,⟨by omega⟩,⟨Nat.le_refl _,OK.out.2.2⟩,I0⟩
 case round=>
 clear I0
 obtain⟨i,O,rfl,HK,HG,HE,HI⟩:=hrel
 by_cases hlt:i<I.length
 ·have hltz:(i:Int)<(I.length:Int):=by omega
  obtain⟨ad,q1,hx⟩:=Kd.at_int (Kd.R_reads' HI.out.ri).2.2 (i:Int) (by omega) hltz
  cases q1
  have hm:=OK.out.2.1 _ (ZaJ hlt 0)
  have HD:=HE.out.2
  rw[Zal hlt 0,List.map_cons] at HD
  rw[Int.toNat_natCast,ZaW] at hx
  generalize I.getD i 0=x at hx hm HD
  obtain⟨ad2,q2,hy⟩:=Kd.at_string (Kd.R_reads' HI.out.rs).2.2 x hm.1 hm.2
  cases q2
  have px:=eq_true hm.1
  have py:=eq_true hm.2
  obtain⟨O1,hO1⟩:∃O1,O1=O ++ [rdOf ByteArray.empty S x]:=⟨_,rfl⟩
  have NO:=Za hO1
  have HD2:=Za (show O1.length≤i+1∧O1 ++ (I.drop (i+1)).map (fun x=>S.getD x.toNat ByteArray.empty)=r from⟨by rw[hO1,List.length_append,List.length_singleton];have:=HE.out.1;omega,by rw[hO1,List.append_assoc];exact HD⟩)
  clear hm hO1 HD
  go_wp2_with ((with_reducible refine ZU (b:=.append) (xs:=#[.tmp 27,.tmp 32]) rfl ?_);at_builtin;refine Kd.R_append Kd.string (w0:=w) w.heap.size rfl (.tmp 27) (.tmp 32) 68 9 (.string ⟨#[]⟩) 16 rfl Tryz.underlying68 info9 rfl (by decide) (by omega) u7 O (rdOf ByteArray.empty S x) [.string (rdOf ByteArray.empty S x)] (fun k=>some k≠(Value.slice (some ad2) S.length cS).ownBlock∧some k≠(Value.slice (some ad) I.length cI).ownBlock) (fun _=>False) rfl rfl ?aP (fun _ hk=>hk.elim) ?aF ?aO ?aB ?aS ?aL ?_;(case aP=>exact rfl);(case aB=>exact HI.out.hb);(case aF=>exact fun k hk=>⟨Kd.fresh' (Kd.R_lt HI.out.rs) k hk,Kd.fresh' (Kd.R_lt HI.out.ri) k hk⟩);(case aO=>exact HI.out.ro);(case aS=>exact HI.out.hb.size);(case aL=>have:=HE.out.1;have:=HK.out;have:=OK.out.1;omega);intro v1 w8 ho hb hg hat;rw[← NO.out] at ho;have J:=Za (HI.out.grow ho hb hg hat);clear ho hb hg hat)
  go_roundg (I.length - (i+1))
  case measure=>have:=HG.out;omega
  case rel=>exact⟨i+1,O1,by rw[ZO hlt (by have:=OK.out.1;omega)],⟨by omega⟩,⟨by omega⟩,HD2,J⟩
 ·obtain rfl:i=I.length:=by have:=HK.out;omega
  obtain rfl:O=r:=by
   have h:=HE.out.2
   rw[List.drop_length,List.map_nil,List.append_nil] at h
   exact h
  clear HE hlt
  go_wp2
  go_ret
  exact⟨_,rfl,Kd.R_mono HI.out.ro (fun _ _=>trivial),HI.out.hb⟩
theorem ZgI {w0 w w':World} {g:Nat} (h0:Below w0.heap.size w0 w) (h1:Below w0.heap.size w0 w') (hk:ZS w w' g none) (hg:w.heap.size≤g):Below w.heap.size w w':=
 ⟨h1.os.trans h0.os.symm,h1.tape.trans h0.tape.symm,h1.output.trans h0.output.symm,hk.1,fun k hlt=>hk.2 k hlt (by omega) (by simp)⟩
theorem keepW {w w1 w2:World} {g:Nat} (h:Below w.heap.size w w1) (k:ZS w1 w2 g none) (hg:w.heap.size≤g):ZS w w2 g none:=
 ⟨Nat.le_trans h.size k.1,fun i hi hne hn=>(k.2 i (Nat.lt_of_lt_of_le hi h.size) hne hn).trans (h.block i hi)⟩
def Zbi.go:Nat→List Int→Int→Int→Option (List Int×Int×Int)
 | 0,b,i,h=>some (b,i,h)
 | m+1,b,i,h=>(Z5.f b i h).bind fun r=>Zbi.go m b r.2.1 r.2.2
def Zbi.f (k:Nat) (l0:List Int) (a1:Int):Option (List Int×Int×Int):=if a1≤1048576 then(ZaL.f k l0).bind fun r=>Zbi.go a1.toNat r.1 r.2.1 r.2.2 else none
theorem Zbi.calls (k:Nat) (A0:Option Addr) (c0:Nat) (l0:List Int) (a1:Int) (r1:List Int) (r2:Int) (r3:Int) (w0 w:World) (hB:Below w0.heap.size w0 w) (hr0:Kd.C (Kd.int .u8) w0 A0 l0.length l0) (hc0:l0.length≤c0) (h:Zbi.f k l0 a1=some (r1,r2,r3)) :
  Calls Tryz.prog 120 #[.slice A0 l0.length c0,.int .i64 a1] w fun e w'=>∃g_:Nat,e=.returned (.pointer (some ⟨g_,0,none⟩))∧ZI w0 w' g_ r1 r2 r3∧Below w0.heap.size w0 w'∧Below w.heap.size w w':=by
 unfold Zbi.f at h
 by_cases ha:a1≤1048576
 case neg=>rw[if_neg ha] at h;exact absurd h (by simp)
 rw[if_pos ha] at h
 obtain⟨⟨b,i0,x0⟩,h1,h2⟩:=Option.bind_eq_some_iff.1 h
 dsimp only at h2
 have HN:=Za (ZaL.newc k A0 c0 l0 b i0 x0 w0 w hB hr0 hc0 h1)
 have HH:=Za h2;have HA:=Za ha;have HB0:=Za hB;clear hr0 hc0 h h1 h2 hB ha
 go_enter Tryz.func120,Tryz.ntmps120
 go_wp2_with (go_at_call 69;refine HN.out.mono ?_;rintro e w1 ⟨g,rfl,hI,hB1,hb1,hg1⟩;have HGG:=Za hg1;have HB1:=Za hB1;have HI:=Za hI;have HB:=Za hB1;have HW:=Za hb1;clear hI hB1 hb1 hg1)
 go_loopg [6] a1.toNat (fun gg s6 wr=>∃(j:Int) (i h:Int),s6=.int .i64 j∧Aside0 (0≤j∧j≤1048576)∧Aside0 ((a1 - j).toNat≤gg)∧Aside0 (Zbi.go (a1 - j).toNat b i h=some (r1,r2,r3))∧Aside0 (ZI w0 wr g b i h)∧Aside0 (Below w0.heap.size w0 wr)∧Aside0 (ZS w1 wr g none))
 case atStart=>exact⟨0,i0,x0,rfl,⟨by omega⟩,⟨by simp⟩,⟨by simpa using HH.out⟩,HI,HB,⟨ZS.refl _ _ _⟩⟩
 case round=>
  obtain⟨j,i,x,rfl,HJ,HG2,HR,HIr,HBr,HKr⟩:=hrel
  by_cases hj:j<a1
  ·have HR2:=HR.out
   rw[show(a1 - j).toNat=(a1 - (j+1)).toNat+1 by have:=HJ.out;omega] at HR2
   obtain⟨⟨y1,y2,y3⟩,hy,hrest⟩:=Option.bind_eq_some_iff.1 HR2
   dsimp only at hrest
   have HY:=Za (Z5.calls g b i x y1 y2 y3 w0 wr HIr.out HBr.out hy)
   have HRR:=Za hrest
   have hw:wrap64 (j+1)=j+1:=by have:=HJ.out;have:=HA.out;unfold wrap64;omega
   clear HR2 hy hrest
   go_wp2_with (go_at_call 121;refine HY.out.mono ?_;rintro e w2 ⟨rfl,hI2,hB2,hK2⟩)
   go_roundg ((a1 - (j+1)).toNat)
   case measure=>have:=HG2.out;have:=HJ.out;omega
   case rel=>exact⟨j+1,y2,y3,by first|rw[hw]|rfl,⟨by have:=HJ.out;have:=HA.out;omega⟩,⟨by omega⟩,HRR,⟨hI2⟩,⟨hB2⟩,⟨HKr.out.trans hK2 (.inl rfl)⟩⟩
  ·have HR2:=HR.out
   rw[show(a1 - j).toNat=0 by omega] at HR2
   obtain⟨e1,e2⟩:=Prod.mk.inj (Zg HR2)
   obtain⟨e2,e3⟩:=Prod.mk.inj e2
   subst e1;subst e2;subst e3;clear HR2
   go_wp2
   go_ret
   exact⟨g,rfl,HIr.out,HBr.out,ZgI (HB0.out) HBr.out (keepW HW.out HKr.out HGG.out) HGG.out⟩
def Zci.f (k:Nat) (l0:List Int) (a1:Int):Option (Int):=(Zbi.f k l0 a1).bind fun bt1=>((Z5.f bt1.1 bt1.2.1 bt1.2.2).bind fun bt5=>((Z5.f bt1.1 bt5.2.1 bt5.2.2).bind fun bt8=>(some (wrap64 ((wrap64 (bt5.1 * 256))+bt8.1)))))
theorem Zci.calls (k:Nat) (A0:Option Addr) (c0:Nat) (l0:List Int) (a1:Int) (r:Int) (w:World) (hr0:Kd.C (Kd.int .u8) w A0 l0.length l0) (hc0:l0.length≤c0) (h:Zci.f k l0 a1=some r) :
  Calls Tryz.prog 49 #[.slice A0 l0.length c0,.int .i64 a1] w fun e w'=>e=.returned (.int .i64 r)∧Below w.heap.size w w':=by
 have HR0:=Za hr0;have HC0:=Za hc0;clear hr0 hc0
 have HB:=Za (Below.refl w.heap.size w)
 have H:((Zbi.f k l0 a1).bind fun bt1=>((Z5.f bt1.1 bt1.2.1 bt1.2.2).bind fun bt5=>((Z5.f bt1.1 bt5.2.1 bt5.2.2).bind fun bt8=>(some (wrap64 ((wrap64 (bt5.1 * 256))+bt8.1))))))=some r:=h
 clear h
 replace H:=Zh H
 obtain⟨⟨t1,t2,t3⟩,A30,H⟩:=H
 replace H:((Z5.f t1 t2 t3).bind fun bt5=>((Z5.f t1 bt5.2.1 bt5.2.2).bind fun bt8=>(some (wrap64 ((wrap64 (bt5.1 * 256))+bt8.1)))))=some r:=H
 have A3:=Za A30;clear A30
 replace H:=Zh H
 obtain⟨⟨t5,t6,t7⟩,A40,H⟩:=H
 replace H:((Z5.f t1 t6 t7).bind fun bt8=>(some (wrap64 ((wrap64 (t5 * 256))+bt8.1))))=some r:=H
 have A4:=Za A40;clear A40
 replace H:=Zh H
 obtain⟨⟨t8,t9,t10⟩,A50,H⟩:=H
 replace H:(some (wrap64 ((wrap64 (t5 * 256))+t8)))=some r:=H
 have A5:=Za A50;clear A50
 obtain rfl:=Zg H
 go_enter Tryz.func49,Tryz.ntmps49
 go_wp2_with (first|((with_reducible refine ZM (f:=120) rfl ?_);refine Z7 (some 8) rfl rfl Tryz.func120 (by kernel_rfl) rfl #[.slice A0 l0.length c0,.int .i64 a1] rfl (by(try simp only[List.map_toArray,List.map_cons,List.map_nil]);first|done|rfl|(simp only[Zk,Zj];rfl)) ?_;(with_reducible refine(Zbi.calls k _ _ l0 a1 t1 t2 t3 w _ ?side1 ?side2 ?side3 A3.out).mono ?_);(case side1=>repeat(first|(with_reducible first|exact HB.out|apply Zo|apply Zn|apply Zp)|exact HB.out));(case side2=>exact HR0.out);(case side3=>exact HC0.out);rintro e w6 ⟨g4,rfl,hi,hb,hb2⟩;refine⟨_,rfl,?_⟩;have HI4:=Za (hi);replace HB:=Za (hb);(try clear hb);(try clear hb2);(try clear hk);(try clear hi))|((with_reducible refine ZM (f:=121) rfl ?_);refine Z7 (some 10) rfl rfl Tryz.func121 (by kernel_rfl) rfl #[.pointer (some ⟨g4,0,none⟩)] rfl (by(try simp only[List.map_toArray,List.map_cons,List.map_nil]);first|done|rfl|(simp only[Zk,Zj];rfl)) ?_;(with_reducible refine(Z5.calls g4 t1 t2 t3 t5 t6 t7 w _ ?side1 ?side2 A4.out).mono ?_);(case side1=>repeat(first|(with_reducible first|exact HI4.out|apply ZI.alloc|apply ZI.drewN|apply ZI.drew|apply ZI.set_1|apply ZI.set_2)|exact HI4.out));(case side2=>repeat(first|(with_reducible first|exact HB.out|apply Zo|apply Zn|apply Zp|refine Zt ?_ (ZI.ge HI4.out))|exact HB.out));rintro e w7 ⟨rfl,hi,hb,hk⟩;refine⟨_,rfl,?_⟩;replace HB:=Za (hb);replace HI4:=Za (hi);(try clear hb);(try clear hb2);(try clear hk);(try clear hi))|((with_reducible refine ZM (f:=121) rfl ?_);refine Z7 (some 13) rfl rfl Tryz.func121 (by kernel_rfl) rfl #[.pointer (some ⟨g4,0,none⟩)] rfl (by(try simp only[List.map_toArray,List.map_cons,List.map_nil]);first|done|rfl|(simp only[Zk,Zj];rfl)) ?_;(with_reducible refine(Z5.calls g4 t1 t6 t7 t8 t9 t10 w _ ?side1 ?side2 A5.out).mono ?_);(case side1=>repeat(first|(with_reducible first|exact HI4.out|apply ZI.alloc|apply ZI.drewN|apply ZI.drew|apply ZI.set_1|apply ZI.set_2)|exact HI4.out));(case side2=>repeat(first|(with_reducible first|exact HB.out|apply Zo|apply Zn|apply Zp|refine Zt ?_ (ZI.ge HI4.out))|exact HB.out));rintro e w8 ⟨rfl,hi,hb,hk⟩;refine⟨_,rfl,?_⟩;replace HB:=Za (hb);replace HI4:=Za (hi);(try clear hb);(try clear hb2);(try clear hk);(try clear hi)))
 go_ret
 exact⟨by first|rfl|(simp[ZC,ZB] <;> rfl)|(simp[*,ZC,ZB] <;> rfl),by repeat(first|(with_reducible first|exact HB.out|apply Zo|apply Zn|apply Zp|refine Zt ?_ (ZI.ge HI4.out))|exact HB.out)⟩
def Zbg.f (k:Nat) (l0_0:List (S39)) (l0_1:List (S82)) (a0_2:Int) (a1:Int):Option (List Int×List Int×Bool):=if a1<0 then(some (([]:List Int),([]:List Int),false)) else((ZaE.f k l0_0 l0_1 a0_2).bind fun t3=>(if a1≥t3 then(some (([]:List Int),([]:List Int),false)) else((Zbf.f k l0_0 l0_1 a0_2 a1).bind fun bt4=>(some (bt4.1,bt4.2,true)))))
theorem Zbg.calls (k:Nat) (A0_0:Option Addr) (c0_0:Nat) (l0_0:List (S39)) (A0_1:Option Addr) (c0_1:Nat) (l0_1:List (S82)) (a0_2:Int) (a1:Int) (r1:List Int) (r2:List Int) (r3:Bool) (w:World) (hr0_0:Kd.C k39 w A0_0 l0_0.length l0_0) (hc0_0:l0_0.length≤c0_0) (hr0_1:Kd.C k82 w A0_1 l0_1.length l0_1) (hc0_1:l0_1.length≤c0_1) (h:Zbg.f k l0_0 l0_1 a0_2 a1=some (r1,r2,r3)) :
  Calls Tryz.prog 51 #[.agg #[.slice A0_0 l0_0.length c0_0,.slice A0_1 l0_1.length c0_1,.int .i64 a0_2],.int .i64 a1] w fun e w'=>∃v0_ v1_:Value,e=.returned (.tuple #[.agg #[v0_,v1_],.bool r3])∧Kd.R (Kd.int .i64) 3 w' w.heap.size (fun k_=>some k_≠(v1_:Value).ownBlock) v0_ r1∧Kd.R (Kd.int .i64) 3 w' w.heap.size (fun k_=>some k_≠(v0_:Value).ownBlock) v1_ r2∧Below w.heap.size w w':=by
 have hu25:=Tryz.underlying25
 have hu58:=Tryz.underlying58
 have HR0_0:=Za hr0_0;have HC0_0:=Za hc0_0;clear hr0_0 hc0_0;have HR0_1:=Za hr0_1;have HC0_1:=Za hc0_1;clear hr0_1 hc0_1
 have HB:=Za (Below.refl w.heap.size w)
 have H:(if a1<0 then(some (([]:List Int),([]:List Int),false)) else((ZaE.f k l0_0 l0_1 a0_2).bind fun t3=>(if a1≥t3 then(some (([]:List Int),([]:List Int),false)) else((Zbf.f k l0_0 l0_1 a0_2 a1).bind fun bt4=>(some (bt4.1,bt4.2,true))))))=some (r1,r2,r3):=h
 clear h
 by_cases c3:a1<0
 ·rw[if_pos c3] at H
  have c3b0:decide (a1<0)=true:=Ze c3
  clear c3
  simp only[Option.some.injEq,Prod.mk.injEq] at H
  obtain⟨rfl,rfl,rfl⟩:=H
  go_enter Tryz.func51,Tryz.ntmps51
  go_wp2_with (first|((with_reducible refine ZF (N:=2) rfl ?_);refine ZG ?hg (N:=2) ?hd (cs:=#[.slice A0_0 l0_0.length c0_0,.slice A0_1 l0_1.length c0_1,.int .i64 a0_2]) (t:=25) ?hr ?_;(case hd=>rfl);(case hg=>rfl);(case hr=>first|(go_simp;done)|(go_simp;rfl));intro gb1 hg w4 hbox hb;have BK1:=Za (hbox);have GW1:=Za ((by rw[hg];exact(Zv (by exact HB.out)):w.heap.size≤gb1));have GE1:=Za ((by rw[hg];exact(Zv (by exact HB.out)):w.heap.size≤gb1));replace HB:=Za (Zr (by exact HB.out) hb);clear hb hbox hg)|((with_reducible refine ZF (N:=4) rfl ?_);refine ZG ?hg (N:=4) ?hd (cs:=#[.slice none 0 0,.slice none 0 0]) (t:=58) ?hr ?_;(case hd=>rfl);(case hg=>rfl);(case hr=>first|(go_simp;done)|(go_simp;rfl));intro gb2 hg w5 hbox hb;have n0_:=Za (Zs (g:=gb1) (o:=.cells #[.slice A0_0 l0_0.length c0_0,.slice A0_1 l0_1.length c0_1,.int .i64 a0_2] 25 (0,0)) BK1.out hb);have n1_:=Za (Zr (by exact HB.out) hb);have n2_:=Za (hbox);have n3_:=Za ((by rw[hg];exact(Zv (by exact HB.out)):w.heap.size≤gb2));have n4_:=n3_;have n5_:=Za ((by rw[hg];exact Nat.ne_of_lt (ZN (g:=gb1) (o:=.cells #[.slice A0_0 l0_0.length c0_0,.slice A0_1 l0_1.length c0_1,.int .i64 a0_2] 25 (0,0)) BK1.out):gb1≠gb2));have n6_:=Za n5_.out.symm;clear BK1;clear HB;have BK1:=n0_;have HB:=n1_;have BK2:=n2_;have GW2:=n3_;have GE2:=n4_;have NB1_2:=n5_;have NB2_1:=n6_;clear n0_ n1_ n2_ n3_ n4_ n5_ n6_;clear hb hbox hg;have hcz7_0:w5.cell? ⟨gb2,0,none⟩=some (.slice none 0 0):=(Zm BK2.out 0).trans rfl;have hcz7_1:w5.cell? ⟨gb2,1,none⟩=some (.slice none 0 0):=(Zm BK2.out 1).trans rfl;have hfz7_0:=Zq BK2.out 0;have hfz7_1:=Zq BK2.out 1))
  refine bodyPost_ret (Zbq rfl _ _ gb2 58 #[.slice none 0 0,.slice none 0 0] (0,0) _ rfl (by(with_reducible repeat(first|refine ZD ?_ _|refine Zz ?_|refine Zy ?_ _));refine ZR (cs:=#[.slice none 0 0,.slice none 0 0]) ?_ 1 _ rfl;(with_reducible repeat(first|refine ZD ?_ _|refine Zz ?_|refine Zy ?_ _));refine ZR (cs:=#[.slice none 0 0,.slice none 0 0]) ?_ 0 _ rfl;(with_reducible repeat(first|refine ZD ?_ _|refine Zz ?_|refine Zy ?_ _));exact BK2.out) Tryz.underlying58 rfl (by kernel_rfl)) rfl ?_
  exact⟨_,_,by first|rfl|(simp[ZC,ZB] <;> rfl)|(simp[*,ZC,ZB] <;> rfl),by first|exact Kd.R_nil _ _ _ _ _|exact Kd.N_nil _ _ _ _ _|exact Kd.V_nil _ _ _ _ _|exact Kd.Q_nil _ _ _ _ _|exact Kd.S_nil _ _ _ _ _,by first|exact Kd.R_nil _ _ _ _ _|exact Kd.N_nil _ _ _ _ _|exact Kd.V_nil _ _ _ _ _|exact Kd.Q_nil _ _ _ _ _|exact Kd.S_nil _ _ _ _ _,by repeat(first|(with_reducible first|exact HB.out|apply Zo|apply Zn|apply Zp|refine Zt ?_ GE1.out|refine Zt ?_ GE2.out)|exact HB.out)⟩
 ·rw[if_neg c3] at H
  have c3b0:decide (a1<0)=false:=Zf c3
  clear c3
  replace H:=Zh H
  obtain⟨t3,A80,H⟩:=H;have A8:=Za A80;clear A80
  by_cases c9:a1≥t3
  ·rw[if_pos c9] at H
   have c9b0:decide (t3≤a1)=true:=Ze c9
   clear c9
   simp only[Option.some.injEq,Prod.mk.injEq] at H
   obtain⟨rfl,rfl,rfl⟩:=H
   go_enter Tryz.func51,Tryz.ntmps51
   go_wp2_with (first|((with_reducible refine ZF (N:=2) rfl ?_);refine ZG ?hg (N:=2) ?hd (cs:=#[.slice A0_0 l0_0.length c0_0,.slice A0_1 l0_1.length c0_1,.int .i64 a0_2]) (t:=25) ?hr ?_;(case hd=>rfl);(case hg=>rfl);(case hr=>first|(go_simp;done)|(go_simp;rfl));intro gb1 hg w10 hbox hb;have BK1:=Za (hbox);have GW1:=Za ((by rw[hg];exact(Zv (by exact HB.out)):w.heap.size≤gb1));have GE1:=Za ((by rw[hg];exact(Zv (by exact HB.out)):w.heap.size≤gb1));replace HB:=Za (Zr (by exact HB.out) hb);clear hb hbox hg)|((with_reducible refine ZF (N:=4) rfl ?_);refine ZG ?hg (N:=4) ?hd (cs:=#[.slice none 0 0,.slice none 0 0]) (t:=58) ?hr ?_;(case hd=>rfl);(case hg=>rfl);(case hr=>first|(go_simp;done)|(go_simp;rfl));intro gb2 hg w11 hbox hb;have n0_:=Za (Zs (g:=gb1) (o:=.cells #[.slice A0_0 l0_0.length c0_0,.slice A0_1 l0_1.length c0_1,.int .i64 a0_2] 25 (0,0)) BK1.out hb);have n1_:=Za (Zr (by exact HB.out) hb);have n2_:=Za (hbox);have n3_:=Za ((by rw[hg];exact(Zv (by exact HB.out)):w.heap.size≤gb2));have n4_:=n3_;have n5_:=Za ((by rw[hg];exact Nat.ne_of_lt (ZN (g:=gb1) (o:=.cells #[.slice A0_0 l0_0.length c0_0,.slice A0_1 l0_1.length c0_1,.int .i64 a0_2] 25 (0,0)) BK1.out):gb1≠gb2));have n6_:=Za n5_.out.symm;clear BK1;clear HB;have BK1:=n0_;have HB:=n1_;have BK2:=n2_;have GW2:=n3_;have GE2:=n4_;have NB1_2:=n5_;have NB2_1:=n6_;clear n0_ n1_ n2_ n3_ n4_ n5_ n6_;clear hb hbox hg;have hcz13_0:w11.cell? ⟨gb1,0,none⟩=some (.slice A0_0 l0_0.length c0_0):=(Zm BK1.out 0).trans rfl;have hcz13_1:w11.cell? ⟨gb1,1,none⟩=some (.slice A0_1 l0_1.length c0_1):=(Zm BK1.out 1).trans rfl;have hcz13_2:w11.cell? ⟨gb1,2,none⟩=some (.int .i64 a0_2):=(Zm BK1.out 2).trans rfl;have hfz13_0:=Zq BK1.out 0;have hfz13_1:=Zq BK1.out 1;have hfz13_2:=Zq BK1.out 2)|(go_at_call 50;(with_reducible refine(ZaE.calls k _ _ l0_0 _ _ l0_1 a0_2 t3 _ ?side1 ?side2 ?side3 ?side4 A8.out).mono ?_);(case side1=>exact(Zb HR0_0.out HB.out));(case side2=>exact HC0_0.out);(case side3=>exact(Zb HR0_1.out HB.out));(case side4=>exact HC0_1.out);rintro e w14 ⟨rfl,hb⟩;replace BK1:=Za (Zs (g:=gb1) (o:=.cells #[.slice A0_0 l0_0.length c0_0,.slice A0_1 l0_1.length c0_1,.int .i64 a0_2] 25 (0,0)) BK1.out hb);replace BK2:=Za (Zs (g:=gb2) (o:=.cells #[.slice none 0 0,.slice none 0 0] 58 (0,0)) BK2.out hb);replace HB:=Za (Zr (by exact HB.out) hb);have hcz15_0:w14.cell? ⟨gb2,0,none⟩=some (.slice none 0 0):=(Zm BK2.out 0).trans rfl;have hcz15_1:w14.cell? ⟨gb2,1,none⟩=some (.slice none 0 0):=(Zm BK2.out 1).trans rfl;have hfz15_0:=Zq BK2.out 0;have hfz15_1:=Zq BK2.out 1))
   refine bodyPost_ret (Zbq rfl _ _ gb2 58 #[.slice none 0 0,.slice none 0 0] (0,0) _ rfl (by(with_reducible repeat(first|refine ZD ?_ _|refine Zz ?_|refine Zy ?_ _));refine ZR (cs:=#[.slice none 0 0,.slice none 0 0]) ?_ 1 _ rfl;(with_reducible repeat(first|refine ZD ?_ _|refine Zz ?_|refine Zy ?_ _));refine ZR (cs:=#[.slice none 0 0,.slice none 0 0]) ?_ 0 _ rfl;(with_reducible repeat(first|refine ZD ?_ _|refine Zz ?_|refine Zy ?_ _));exact BK2.out) Tryz.underlying58 rfl (by kernel_rfl)) rfl ?_
   exact⟨_,_,by first|rfl|(simp[ZC,ZB] <;> rfl)|(simp[*,ZC,ZB] <;> rfl),by first|exact Kd.R_nil _ _ _ _ _|exact Kd.N_nil _ _ _ _ _|exact Kd.V_nil _ _ _ _ _|exact Kd.Q_nil _ _ _ _ _|exact Kd.S_nil _ _ _ _ _,by first|exact Kd.R_nil _ _ _ _ _|exact Kd.N_nil _ _ _ _ _|exact Kd.V_nil _ _ _ _ _|exact Kd.Q_nil _ _ _ _ _|exact Kd.S_nil _ _ _ _ _,by repeat(first|(with_reducible first|exact HB.out|apply Zo|apply Zn|apply Zp|refine Zt ?_ GE1.out|refine Zt ?_ GE2.out)|exact HB.out)⟩
  ·rw[if_neg c9] at H
   have c9b0:decide (t3≤a1)=false:=Zf c9
   clear c9
   replace H:=Zh H
   obtain⟨⟨t4,t7⟩,A160,H⟩:=H;have A16:=Za A160;clear A160
   simp only[Option.some.injEq,Prod.mk.injEq] at H
   obtain⟨rfl,rfl,rfl⟩:=H
   go_enter Tryz.func51,Tryz.ntmps51
   go_wp2_with (first|((with_reducible refine ZF (N:=2) rfl ?_);refine ZG ?hg (N:=2) ?hd (cs:=#[.slice A0_0 l0_0.length c0_0,.slice A0_1 l0_1.length c0_1,.int .i64 a0_2]) (t:=25) ?hr ?_;(case hd=>rfl);(case hg=>rfl);(case hr=>first|(go_simp;done)|(go_simp;rfl));intro gb1 hg w17 hbox hb;have BK1:=Za (hbox);have GW1:=Za ((by rw[hg];exact(Zv (by exact HB.out)):w.heap.size≤gb1));have GE1:=Za ((by rw[hg];exact(Zv (by exact HB.out)):w.heap.size≤gb1));replace HB:=Za (Zr (by exact HB.out) hb);clear hb hbox hg)|((with_reducible refine ZF (N:=4) rfl ?_);refine ZG ?hg (N:=4) ?hd (cs:=#[.slice none 0 0,.slice none 0 0]) (t:=58) ?hr ?_;(case hd=>rfl);(case hg=>rfl);(case hr=>first|(go_simp;done)|(go_simp;rfl));intro gb2 hg w18 hbox hb;have n0_:=Za (Zs (g:=gb1) (o:=.cells #[.slice A0_0 l0_0.length c0_0,.slice A0_1 l0_1.length c0_1,.int .i64 a0_2] 25 (0,0)) BK1.out hb);have n1_:=Za (Zr (by exact HB.out) hb);have n2_:=Za (hbox);have n3_:=Za ((by rw[hg];exact(Zv (by exact HB.out)):w.heap.size≤gb2));have n4_:=n3_;have n5_:=Za ((by rw[hg];exact Nat.ne_of_lt (ZN (g:=gb1) (o:=.cells #[.slice A0_0 l0_0.length c0_0,.slice A0_1 l0_1.length c0_1,.int .i64 a0_2] 25 (0,0)) BK1.out):gb1≠gb2));have n6_:=Za n5_.out.symm;clear BK1;clear HB;have BK1:=n0_;have HB:=n1_;have BK2:=n2_;have GW2:=n3_;have GE2:=n4_;have NB1_2:=n5_;have NB2_1:=n6_;clear n0_ n1_ n2_ n3_ n4_ n5_ n6_;clear hb hbox hg;have hcz20_0:w18.cell? ⟨gb1,0,none⟩=some (.slice A0_0 l0_0.length c0_0):=(Zm BK1.out 0).trans rfl;have hcz20_1:w18.cell? ⟨gb1,1,none⟩=some (.slice A0_1 l0_1.length c0_1):=(Zm BK1.out 1).trans rfl;have hcz20_2:w18.cell? ⟨gb1,2,none⟩=some (.int .i64 a0_2):=(Zm BK1.out 2).trans rfl;have hfz20_0:=Zq BK1.out 0;have hfz20_1:=Zq BK1.out 1;have hfz20_2:=Zq BK1.out 2)|(go_at_call 50;(with_reducible refine(ZaE.calls k _ _ l0_0 _ _ l0_1 a0_2 t3 _ ?side1 ?side2 ?side3 ?side4 A8.out).mono ?_);(case side1=>exact(Zb HR0_0.out HB.out));(case side2=>exact HC0_0.out);(case side3=>exact(Zb HR0_1.out HB.out));(case side4=>exact HC0_1.out);rintro e w21 ⟨rfl,hb⟩;replace BK1:=Za (Zs (g:=gb1) (o:=.cells #[.slice A0_0 l0_0.length c0_0,.slice A0_1 l0_1.length c0_1,.int .i64 a0_2] 25 (0,0)) BK1.out hb);replace BK2:=Za (Zs (g:=gb2) (o:=.cells #[.slice none 0 0,.slice none 0 0] 58 (0,0)) BK2.out hb);replace HB:=Za (Zr (by exact HB.out) hb);have hcz22_0:w21.cell? ⟨gb1,0,none⟩=some (.slice A0_0 l0_0.length c0_0):=(Zm BK1.out 0).trans rfl;have hcz22_1:w21.cell? ⟨gb1,1,none⟩=some (.slice A0_1 l0_1.length c0_1):=(Zm BK1.out 1).trans rfl;have hcz22_2:w21.cell? ⟨gb1,2,none⟩=some (.int .i64 a0_2):=(Zm BK1.out 2).trans rfl;have hfz22_0:=Zq BK1.out 0;have hfz22_1:=Zq BK1.out 1;have hfz22_2:=Zq BK1.out 2)|((with_reducible refine ZM (f:=115) rfl ?_);refine Z7 (some 17) rfl rfl Tryz.func115 (by kernel_rfl) rfl #[.agg #[.slice A0_0 l0_0.length c0_0,.slice A0_1 l0_1.length c0_1,.int .i64 a0_2],.int .i64 a1] rfl (by(try simp only[List.map_toArray,List.map_cons,List.map_nil]);first|done|rfl|(simp only[Zk,Zj];rfl)) ?_;(with_reducible refine(Zbf.calls k _ _ l0_0 _ _ l0_1 a0_2 a1 t4 t7 _ ?side1 ?side2 ?side3 ?side4 A16.out).mono ?_);(case side1=>exact(Zb HR0_0.out HB.out));(case side2=>exact HC0_0.out);(case side3=>exact(Zb HR0_1.out HB.out));(case side4=>exact HC0_1.out);rintro e w23 ⟨v5,v8,rfl,ho0,ho1,hb⟩;refine⟨_,rfl,?_⟩;have HO6:=Za (Kd.R_lower ho0 (Zv (by exact HB.out)));have HO9:=Za (Kd.R_lower ho1 (Zv (by exact HB.out)));replace BK1:=Za (Zs (g:=gb1) (o:=.cells #[.slice A0_0 l0_0.length c0_0,.slice A0_1 l0_1.length c0_1,.int .i64 a0_2] 25 (0,0)) BK1.out hb);replace BK2:=Za (Zs (g:=gb2) (o:=.cells #[.slice none 0 0,.slice none 0 0] 58 (0,0)) BK2.out hb);replace HB:=Za (Zr (by exact HB.out) hb);obtain⟨Ao24,co24,eo24⟩:=Kd.R_slice HO6.out;subst eo24;have hcz25_0:w23.cell? ⟨gb2,0,none⟩=some (.slice none 0 0):=(Zm BK2.out 0).trans rfl;have hcz25_1:w23.cell? ⟨gb2,1,none⟩=some (.slice none 0 0):=(Zm BK2.out 1).trans rfl;have hfz25_0:=Zq BK2.out 0;have hfz25_1:=Zq BK2.out 1;obtain⟨Ao26,co26,eo26⟩:=Kd.R_slice HO9.out;subst eo26))
   refine bodyPost_ret (Zbq rfl _ _ gb2 58 #[.slice Ao24 t4.length co24,.slice Ao26 t7.length co26] (0,0) _ rfl (by(with_reducible repeat(first|refine ZD ?_ _|refine Zz ?_|refine Zy ?_ _));refine ZR (cs:=#[.slice Ao24 t4.length co24,.slice none 0 0]) ?_ 1 _ rfl;(with_reducible repeat(first|refine ZD ?_ _|refine Zz ?_|refine Zy ?_ _));refine ZR (cs:=#[.slice none 0 0,.slice none 0 0]) ?_ 0 _ rfl;(with_reducible repeat(first|refine ZD ?_ _|refine Zz ?_|refine Zy ?_ _));exact BK2.out) Tryz.underlying58 rfl (by kernel_rfl)) rfl ?_
   exact⟨_,_,by first|rfl|(simp[ZC,ZB] <;> rfl)|(simp[*,ZC,ZB] <;> rfl),by(with_reducible repeat(first|apply Kd.R_alloc|apply Kd.R_drewN|apply Kd.R_drew));exact Kd.R_mono (Kd.R_far (p:=⟨gb2,1,none⟩) (Kd.R_far (p:=⟨gb2,0,none⟩) (Kd.R_types HO6.out BK2.out (by decide)) (fun _ hk=>hk.2) (.slice Ao24 t4.length co24)) (fun _ hk=>hk.2) (.slice Ao26 t7.length co26)) (fun _ hk=>hk.1),by(with_reducible repeat(first|apply Kd.R_alloc|apply Kd.R_drewN|apply Kd.R_drew));exact Kd.R_mono (Kd.R_far (p:=⟨gb2,1,none⟩) (Kd.R_far (p:=⟨gb2,0,none⟩) (Kd.R_types HO9.out BK2.out (by decide)) (fun _ hk=>hk.2) (.slice Ao24 t4.length co24)) (fun _ hk=>hk.2) (.slice Ao26 t7.length co26)) (fun _ hk=>hk.1),by repeat(first|(with_reducible first|exact HB.out|apply Zo|apply Zn|apply Zp|refine Zt ?_ GE1.out|refine Zt ?_ GE2.out)|exact HB.out)⟩
theorem and255 (n:Int):bits .and .i64 n 255=n % 256:=by
 have h255:(BitVec.ofInt 64 255).toNat=2 ^ 8 - 1:=by decide
 have key:(BitVec.ofInt 64 n &&& BitVec.ofInt 64 255).toNat=(n % ((2 ^ 64:Nat):Int)).toNat % 2 ^ 8:=by
  rw[BitVec.toNat_and,BitVec.toNat_ofInt,h255,Nat.and_two_pow_sub_one_eq_mod]
 show IntKind.i64.wrap ((BitVec.ofInt 64 n &&& BitVec.ofInt 64 255).toNat:Nat)=n % 256
 rw[key,IntKind.wrap_i64]
 omega
def Cur (b:List Int) (i:Int):Prop:=b.length≤1048576∧0≤i∧i≤b.length
theorem byte_f {b:List Int} {i h:Int} (hc:Cur b i):∃x i' h',Z5.f b i h=some (x,i',h')∧0≤x∧x≤255∧Cur b i':=by
 obtain⟨hb,h0,hi⟩:=hc
 unfold Z5.f
 simp only[and255]
 by_cases c:i<(b.length:Int)
 ·rw[if_pos c,if_pos h0]
  refine⟨_,_,_,rfl,by omega,by omega,hb,?_,?_⟩
  ·rw[Z9 (by omega) (by omega)];omega
  ·rw[Z9 (by omega) (by omega)];omega
 ·rw[if_neg c]
  exact⟨_,_,_,rfl,by omega,by omega,hb,h0,hi⟩
theorem Zbj {b:List Int} {i h n:Int} (hc:Cur b i) (h1:1≤n) (h2:n≤256):∃x i' h',ZQ.f b i h n=some (x,i',h')∧0≤x∧x<n∧Cur b i':=by
 obtain⟨x,i',h',e,x0,x1,hc'⟩:=byte_f (h:=h) hc
 unfold ZQ.f
 rw[if_neg (by omega),if_pos h2,e,Zi,if_neg (by omega)]
 refine⟨_,_,_,rfl,?_,?_,hc'⟩
 ·exact Int.tmod_nonneg _ x0
 ·simp only;rw[Int.tmod_eq_emod_of_nonneg x0];exact Int.emod_lt_of_pos _ (by omega)
theorem new_l {b:List Int}:∀(d:Nat) (i h:Int) (k:Nat),0≤i→i≤4000→4000 - i≤d→d<k→∃r3,ZaL.l0 k b h i=some (b,0,r3)
 | 0,i,h,k,h0,h4,hd,hk=>by
  obtain⟨m,rfl⟩:∃m,k=m+1:=⟨k - 1,by omega⟩
  simp only[ZaL.l0]
  by_cases c:i<(b.length:Int)
  ·rw[if_pos c,if_neg (by omega)];exact⟨_,rfl⟩
  ·rw[if_neg c];exact⟨_,rfl⟩
 | d+1,i,h,k,h0,h4,hd,hk=>by
  obtain⟨m,rfl⟩:∃m,k=m+1:=⟨k - 1,by omega⟩
  simp only[ZaL.l0]
  by_cases c:i<(b.length:Int)
  ·rw[if_pos c]
   by_cases c2:i<4000
   ·rw[if_pos c2,if_pos h0,Z9 (i:=i+1) (by omega) (by omega)]
    exact new_l d (i+1) _ m (by omega) (by omega) (by omega) (by omega)
   ·rw[if_neg c2];exact⟨_,rfl⟩
  ·rw[if_neg c];exact⟨_,rfl⟩
theorem new_f {b:List Int} (hb:b.length≤1048576) (k:Nat) (hk:2 ^ 64≤k):∃h,ZaL.f k b=some (b,0,h)∧Cur b 0:=by
 unfold ZaL.f
 obtain⟨h,e⟩:=new_l (b:=b) 4000 0 (wrap64 (1974+(b.length:Int))) k (by omega) (by omega) (by omega) (by omega)
 exact⟨h,e,hb,by omega,by omega⟩
theorem go_f {b:List Int}:∀(m:Nat) (i h:Int),Cur b i→∃i' h',Zbi.go m b i h=some (b,i',h')∧Cur b i'
 | 0,i,h,hc=>⟨i,h,rfl,hc⟩
 | m+1,i,h,hc=>by
  obtain⟨x,i',h',e,_,_,hc'⟩:=byte_f (h:=h) hc
  obtain⟨i2,h2,e2,hc2⟩:=go_f m i' h' hc'
  refine⟨i2,h2,?_,hc2⟩
  show(Z5.f b i h).bind _=_
  rw[e,Zi];exact e2
theorem l29New_f {b:List Int} (hb:b.length≤1048576) (n:Int) (hn:n≤1048576) (k:Nat) (hk:2 ^ 64≤k):∃i h,Zbi.f k b n=some (b,i,h)∧Cur b i:=by
 obtain⟨h0,e0,hc⟩:=new_f hb k hk
 obtain⟨i,h,e,hc2⟩:=go_f n.toNat 0 h0 hc
 refine⟨i,h,?_,hc2⟩
 unfold Zbi.f
 rw[if_pos hn,e0,Zi];exact e
theorem num_f {b:List Int} (hb:b.length≤1048576) (n:Int) (hn:n≤1048576) (k:Nat) (hk:2 ^ 64≤k):∃x,Zci.f k b n=some x∧0≤x∧x≤65535:=by
 obtain⟨i,h,e,hc⟩:=l29New_f hb n hn k hk
 obtain⟨x,i1,h1,e1,a0,a1,hc1⟩:=byte_f (h:=h) hc
 obtain⟨y,i2,h2,e2,b0,b1,hc2⟩:=byte_f (h:=h1) hc1
 unfold Zci.f
 rw[e,Zi]
 simp only
 rw[e1,Zi]
 simp only
 rw[e2,Zi]
 refine⟨_,rfl,?_,?_⟩
 ·simp only;rw[Z9 (i:=x * 256) (by omega) (by omega),Z9 (by omega) (by omega)];omega
 ·simp only;rw[Z9 (i:=x * 256) (by omega) (by omega),Z9 (by omega) (by omega)];omega
def names8:List ByteArray:=[⟨#[103,111]⟩,⟨#[97]⟩,⟨#[98]⟩,⟨#[99]⟩,⟨#[100]⟩,⟨#[101]⟩,⟨#[102]⟩,⟨#[103]⟩]
theorem name_f {n:Nat} (h:n<8):Zb1.f (n:Int)=some (names8.getD n ByteArray.empty):=by
 unfold Zb1.f
 rw[Zi,if_pos (by omega),if_pos (by simp only[List.length_cons,List.length_nil];omega)]
 unfold rdOf
 rw[Int.toNat_natCast];rfl
def plN (n:Nat):ZK:=⟨names8.getD n ByteArray.empty,[],0⟩
def plNs (n:Nat):List ZK:=(List.range n).map plN
theorem Zdp (n:Nat):(plNs n).length=n:=by simp[plNs]
theorem ZeN (n:Nat):plNs (n+1)=plNs n ++ [⟨names8.getD n ByteArray.empty,[],0⟩]:=by simp[plNs,List.range_succ,plN]
theorem plNs_at {n i:Nat} (h:i<n):(plNs n).getD i z39=plN i:=by
 rw[List.getD_eq_getElem?_getD,plNs,List.getElem?_map,List.getElem?_range h];rfl
def TOk (n:Nat) (t:PTie):Prop:=0≤t.f0∧t.f0<n∧0≤t.f1∧t.f1<n∧t.f0≠t.f1∧-20≤t.f2∧t.f2≤t.f3∧t.f3≤20∧(t.f4=true→1≤t.f2∧t.f1≠0)
structure PInv (n:Nat) (ts:List PTie):Prop where
 ok:∀t∈ts,TOk n t
 un:∀i j:Nat,i<j→j<ts.length→(ts.getD i z82).f4=true→(ts.getD j z82).f4=true→(ts.getD i z82).f1≠(ts.getD j z82).f1
 ba:∀s∈ts,∀t∈ts,s.f4=true→t.f4=true→s.f0≠t.f1
theorem PInv.nil (n:Nat):PInv n []:=⟨(fun _ h=>by cases h),(fun _ _ _ h=>by simp at h),(fun _ h=>by cases h)⟩
theorem ZdY {ts:List PTie} {t:PTie} {i:Nat} (h:i<ts.length):(ts ++ [t]).getD i z82=ts.getD i z82:=by
 rw[List.getD_eq_getElem?_getD,List.getD_eq_getElem?_getD,List.getElem?_append_left h]
theorem getD_last {ts:List PTie} {t:PTie}:(ts ++ [t]).getD ts.length z82=t:=by
 rw[List.getD_eq_getElem?_getD,List.getElem?_append_right (Nat.le_refl _),Nat.sub_self];rfl
theorem TOk.mono {n m:Nat} (h:n≤m) {t:PTie} (ht:TOk n t):TOk m t:=by
 exact⟨ht.1,by have:=ht.2.1;omega,ht.2.2.1,by have:=ht.2.2.2.1;omega,ht.2.2.2.2⟩
theorem PInv.tie {n m:Nat} {ts:List PTie} (hI:PInv n ts) (hm:n≤m) {t:PTie} (ht:TOk m t) (hf:t.f4=false):PInv m (ts ++ [t]):=by
 refine⟨fun s hs=>?_,fun i j hij hj fi fj=>?_,fun s hs u hu fs fu=>?_⟩
 ·rcases List.mem_append.1 hs with hs|hs
  ·exact(hI.ok s hs).mono hm
  ·rw[List.mem_singleton] at hs;subst hs;exact ht
 ·rw[List.length_append,List.length_singleton] at hj
  by_cases h:j<ts.length
  ·rw[ZdY h] at fj ⊢
   rw[ZdY (by omega)] at fi ⊢
   exact hI.un i j hij h fi fj
  ·obtain rfl:j=ts.length:=by omega
   rw[getD_last,hf] at fj;cases fj
 ·rcases List.mem_append.1 hs with hs|hs
  ·rcases List.mem_append.1 hu with hu|hu
   ·exact hI.ba s hs u hu fs fu
   ·rw[List.mem_singleton] at hu;subst hu;rw[hf] at fu;cases fu
  ·rw[List.mem_singleton] at hs;subst hs;rw[hf] at fs;cases fs
theorem PInv.free {n m:Nat} {ts:List PTie} (hI:PInv n ts) (hm:n≤m) {t:PTie} (ht:TOk m t) (hn:(n:Int)≤t.f1) (hb:∀s∈ts,s.f4=true→s.f1≠t.f0):PInv m (ts ++ [t]):=by
 refine⟨fun s hs=>?_,fun i j hij hj fi fj=>?_,fun s hs u hu fs fu=>?_⟩
 ·rcases List.mem_append.1 hs with hs|hs
  ·exact(hI.ok s hs).mono hm
  ·rw[List.mem_singleton] at hs;subst hs;exact ht
 ·rw[List.length_append,List.length_singleton] at hj
  by_cases h:j<ts.length
  ·rw[ZdY h] at fj ⊢
   rw[ZdY (by omega)] at fi ⊢
   exact hI.un i j hij h fi fj
  ·obtain rfl:j=ts.length:=by omega
   rw[getD_last]
   rw[ZdY (by omega)]
   have:=hI.ok _ (ZaJ (show i<ts.length by omega) z82)
   unfold TOk at this
   omega
 ·rcases List.mem_append.1 hs with hs'|hs
  ·rcases List.mem_append.1 hu with hu|hu
   ·exact hI.ba s hs' u hu fs fu
   ·rw[List.mem_singleton] at hu
    have:=hI.ok s hs'
    unfold TOk at this
    rw[hu]
    omega
  ·rw[List.mem_singleton] at hs;subst hs
   rcases List.mem_append.1 hu with hu|hu
   ·exact fun e=>hb u hu fu e.symm
   ·rw[List.mem_singleton] at hu;subst hu
    have:=ht
    unfold TOk at this
    exact this.2.2.2.2.1
theorem ZeJ {ns:List ZK} {ts:List PTie}:∀(d i:Nat),(∀j,i≤j→j<i+d→Zdc ns ts j=true)→ZbI ns ts i d=true
 | 0,_,_=>rfl
 | d+1,i,h=>by rw[ZbI,h i (Nat.le_refl _) (by omega),ZeJ d (i+1) (fun j h1 h2=>h j (by omega) (by omega))];rfl
theorem ZfM {ns:List ZK} {ts:List PTie} (hI:PInv ns.length ts) (hl:ts.length≤14) (hf:∀t∈ts,t.f4=true→(ZJ ns t.f1).f2=0∧(ZJ ns t.f1).f1=(ZJ ns t.f0).f1):ZaR ns ts=true:=by
 unfold ZaR
 rw[ZeJ ts.length 0 (fun j _ hj=>?_),Ze hl];· rfl
 rw[Nat.zero_add] at hj
 unfold Zdc
 rw[Zeg]
 have hm:=ZaJ hj z82
 have hk:=hI.ok _ hm
 have hff:=hf _ hm
 have hu:(ts.getD j z82).f4=true→(ts.take j).any (fun u=>u.f4 && decide (u.f1=(ts.getD j z82).f1))=false:=fun h4=>by
  rw[List.any_eq_false]
  intro u hu
  obtain⟨i,hi,rfl⟩:=List.mem_iff_getElem.1 hu
  rw[Zj] at hi
  have e:(ts.take j)[i]'(by rw[Zj];omega)=ts.getD i z82:=by
   rw[List.getElem_take,List.getD_eq_getElem?_getD,Zl (by omega)];rfl
  rw[e]
  have:=hI.un i j (by omega) hj
  simp only[Bool.and_eq_true,decide_eq_true_eq]
  exact fun h=>this h.1 h4 h.2
 generalize ts.getD j z82=t at hk hff hu
 obtain⟨t0,t1,t2,t3,t4⟩:=t
 unfold TOk at hk
 unfold ZbU Zc0 Zdt
 dsimp only at hk hff hu ⊢
 cases t4 with
 | false=>
  simp only[Bool.not_false,Bool.true_or,Bool.and_true,Bool.and_eq_true,decide_eq_true_eq,Bool.not_eq_true',beq_eq_false_iff_ne,decide_eq_false_iff_not]
  omega
 | true=>
  rw[hu rfl]
  obtain⟨g1,g2⟩:=hff rfl
  rw[g1,g2]
  have:=hk.2.2.2.2.2.2.2.2 rfl
  simp only[Bool.not_true,Bool.false_or,Bool.and_true,Bool.and_eq_true,decide_eq_true_eq,Bool.not_eq_true',beq_eq_false_iff_ne,decide_eq_false_iff_not,bne_self_eq_false,Bool.not_false]
  obtain⟨a1,a2,a3,a4,a5,a6,a7,a8,_⟩:=hk
  exact⟨by omega,by omega,trivial⟩
theorem once_f {b:List Int} {i o n:Int} (hc:Cur b i) (h1:1≤n) (h2:n≤256):∃u i' o',Zbb.f b i o n=some (u,i',o')∧Cur b i':=by
 obtain⟨x,i',o',e,_,_,hc'⟩:=Zbj (h:=o) hc h1 h2
 unfold Zbb.f
 rw[e,Zi]
 exact⟨_,_,_,rfl,hc'⟩
theorem more_l {b:List Int} {m:Nat} (h2:2≤m) (h6:m≤6):∀(d:Nat) (ts:List PTie) (i o:Int) (k:Nat),PInv m ts→ts.length+d≤100→Cur b i→d<k→d≤9 →
  ∃ts' i' o',ZaV.l0 k b i o (m:Int) (d:Int) ts=some (ts',i',o')∧PInv m ts'∧ts'.length≤ts.length+d∧Cur b i'∧(∀t∈ts',t∈ts∨t.f4=false)
 | 0,ts,i,o,k,hI,hl,hc,hk,h9=>by
  obtain⟨q,rfl⟩:∃q,k=q+1:=⟨k - 1,by omega⟩
  simp only[ZaV.l0]
  rw[if_neg (by omega)]
  exact⟨_,_,_,rfl,hI,by omega,hc,fun t ht=>.inl ht⟩
 | d+1,ts,i,o,k,hI,hl,hc,hk,h9=>by
  obtain⟨q,rfl⟩:∃q,k=q+1:=⟨k - 1,by omega⟩
  obtain⟨p,i1,o1,e1,p0,p1,c1⟩:=Zbj (n:=(m:Int)) (h:=o) hc (by omega) (by omega)
  obtain⟨y,i2,o2,e2,y0,y1,c2⟩:=Zbj (n:=6) (h:=o1) c1 (by omega) (by omega)
  obtain⟨r,i3,o3,e3,r0,r1,c3⟩:=Zbj (n:=(m:Int) - 1) (h:=o2) c2 (by omega) (by omega)
  obtain⟨s,i4,o4,e4,s0,s1,c4⟩:=Zbj (n:=6) (h:=o3) c3 (by omega) (by omega)
  simp only[ZaV.l0]
  rw[if_pos (by omega),e1,Zi]
  dsimp only
  rw[e2,Zi]
  dsimp only
  rw[Z9 (i:=(m:Int) - 1) (by omega) (by omega),e3,Zi]
  dsimp only
  rw[e4,Zi]
  dsimp only
  rw[if_neg (by omega),if_pos (by omega),Z9 (i:=p+1) (by omega) (by omega),Z9 (i:=p+1+r) (by omega) (by omega),Z9 (i:=y - 3) (by omega) (by omega),Z9 (i:=y - 3+1) (by omega) (by omega),Z9 (i:=y - 3+1+s) (by omega) (by omega),show wrap64 (((d+1:Nat):Int) - 1)=(d:Int) by rw[Z9 (by omega) (by omega)];omega]
  have hmod:0≤Int.tmod (p+1+r) (m:Int)∧Int.tmod (p+1+r) (m:Int)<m∧p≠Int.tmod (p+1+r) (m:Int):=by
   rw[Int.tmod_eq_emod_of_nonneg (by omega)]
   have hm:m=2∨m=3∨m=4∨m=5∨m=6:=by omega
   rcases hm with rfl|rfl|rfl|rfl|rfl <;> omega
  obtain⟨ts',i',o',e,hI',hl',hc',hn'⟩:=more_l h2 h6 d (ts ++ [⟨p,Int.tmod (p+1+r) (m:Int),y - 3,y - 3+1+s,false⟩]) i4 o4 q (hI.tie (Nat.le_refl _) (by unfold TOk;dsimp only;exact⟨p0,p1,hmod.1,hmod.2.1,hmod.2.2,by omega,by omega,by omega,fun h=>by cases h⟩) rfl) (by rw[List.length_append,List.length_singleton];omega) c4 (by omega) (by omega)
  refine⟨ts',i',o',e,hI',by rw[List.length_append,List.length_singleton] at hl';omega,hc',fun t ht=>?_⟩
  rcases hn' t ht with h|h
  ·rcases List.mem_append.1 h with h|h
   ·exact .inl h
   ·rw[List.mem_singleton] at h;subst h;exact .inr rfl
  ·exact .inr h
theorem more_f {b:List Int} {ns:List ZK} (h2:2≤ns.length) (h6:ns.length≤6) {ts:List PTie} {i o:Int} {k:Nat} (hI:PInv ns.length ts) (hl:ts.length≤90) (hc:Cur b i) (hk:10<k) :
  ∃ts' i' o',ZaV.f k b i o ns ts=some (ts',i',o')∧PInv ns.length ts'∧ts'.length≤ts.length+2∧Cur b i'∧(∀t∈ts',t∈ts∨t.f4=false):=by
 obtain⟨x,i1,o1,e1,x0,x1,c1⟩:=Zbj (n:=3) (h:=o) hc (by omega) (by omega)
 obtain⟨d,rfl⟩:=Int.eq_ofNat_of_zero_le x0
 obtain⟨ts',i',o',e,hI',hl',hc',hn'⟩:=more_l (b:=b) h2 h6 d ts i1 o1 k hI (by omega) c1 (by omega) (by omega)
 refine⟨ts',i',o',?_,hI',by omega,hc',hn'⟩
 unfold ZaV.f
 rw[e1,Zi];exact e
theorem plain_l {b:List Int} {z:Int}:∀(d n:Nat) (ts:List PTie) (i o:Int) (k:Nat),d≤3→1≤n→n+2 * d≤7→n≤6→(2≤n∨1≤d)→ts.length+2 * d≤6→PInv n ts→Cur b i→100+d<k →
  ∃m ts' i' o',ZaC.l0 k b i o z (d:Int) (plNs n) ts=some (plNs m,ts',z,i',o')∧2≤m∧m≤6∧PInv m ts'∧ts'.length≤8∧Cur b i'
 | 0,n,ts,i,o,k,_,h1,_,h6,h2,hl,hI,hc,hk=>by
  obtain⟨q,rfl⟩:∃q,k=q+1:=⟨k - 1,by omega⟩
  simp only[ZaC.l0]
  rw[if_neg (by omega)]
  obtain⟨ts',i',o',e,hI',hl',hc',_⟩:=more_f (b:=b) (ns:=plNs n) (ts:=ts) (o:=o) (k:=q) (by rw[Zdp];omega) (by rw[Zdp];omega) (by rw[Zdp];exact hI) (by omega) hc (by omega)
  rw[Zdp] at hI'
  rw[e,Zi]
  exact⟨n,ts',i',o',rfl,by omega,h6,hI',by omega,hc'⟩
 | d+1,n,ts,i,o,k,hd,h1,h7,h6,h2,hl,hI,hc,hk=>by
  obtain⟨q,rfl⟩:∃q,k=q+1:=⟨k - 1,by omega⟩
  obtain⟨p,i1,o1,e1,p0,p1,c1⟩:=Zbj (n:=3) (h:=o) hc (by omega) (by omega)
  obtain⟨y,i2,o2,e2,y0,y1,c2⟩:=Zbj (n:=(n:Int)) (h:=o1) c1 (by omega) (by omega)
  obtain⟨r,i3,o3,e3,r0,r1,c3⟩:=Zbj (n:=3) (h:=o2) c2 (by omega) (by omega)
  obtain⟨u,i4,o4,e4,c4⟩:=once_f (n:=2) (o:=o3) c3 (by omega) (by omega)
  simp only[ZaC.l0]
  rw[if_pos (by omega),e1,Zi]
  dsimp only
  rw[Zdp,name_f (show n<8 by omega),Zi,if_pos (by omega),e2,Zi]
  dsimp only
  rw[e3,Zi]
  dsimp only
  rw[if_pos (by omega),e4,Zi]
  dsimp only
  rw[Z9 (i:=p+r) (by omega) (by omega),show wrap64 (((d+1:Nat):Int) - 1)=(d:Int) by rw[Z9 (by omega) (by omega)];omega,show wrap64 ((n:Int)+1)=((n+1:Nat):Int) by rw[Z9 (by omega) (by omega)];omega]
  have hI1:PInv (n+1) (ts ++ [⟨y,(n:Int),p,p+r,false⟩]):=hI.tie (by omega) (by unfold TOk;dsimp only;exact⟨by omega,by omega,by omega,by omega,by omega,by omega,by omega,by omega,fun h=>by cases h⟩) rfl
  have one:=plain_l (b:=b) (z:=z) d (n+1) (ts ++ [⟨y,(n:Int),p,p+r,false⟩]) i4 o4 q (by omega) (by omega) (by omega) (by omega) (by omega) (by rw[List.length_append,List.length_singleton];omega) hI1 c4 (by omega)
  rw[ZeN] at one
  by_cases hu:u=true
  ·rw[if_pos hu]
   by_cases h5:((n+1:Nat):Int)<5
   ·rw[if_pos h5]
    obtain⟨v,i5,o5,e5,v0,v1,c5⟩:=Zbj (n:=2) (h:=o4) c4 (by omega) (by omega)
    obtain⟨x,i6,o6,e6,x0,x1,c6⟩:=Zbj (n:=3) (h:=o5) c5 (by omega) (by omega)
    rw[e5,Zi]
    dsimp only
    rw[name_f (show n+1<8 by omega),Zi,e6,Zi]
    dsimp only
    rw[Z9 (i:=1+v) (by omega) (by omega),Z9 (i:=1+v+x) (by omega) (by omega)]
    have two:=plain_l (b:=b) (z:=z) d (n+1+1) ((ts ++ [⟨y,(n:Int),p,p+r,false⟩]) ++ [⟨(n:Int),((n+1:Nat):Int),1+v,1+v+x,true⟩]) i6 o6 q (by omega) (by omega) (by omega) (by omega) (by omega) (by rw[List.length_append,List.length_append,List.length_singleton,List.length_singleton];omega)
     (hI1.free (by omega) (by unfold TOk;dsimp only;exact⟨by omega,by omega,by omega,by omega,by omega,by omega,by omega,by omega,fun _=>by omega⟩) (by dsimp only;omega) (fun s hs fs=>by
      rcases List.mem_append.1 hs with hs|hs
      ·have:=hI.ok s hs
       unfold TOk at this
       dsimp only
       omega
      ·rw[List.mem_singleton] at hs;subst hs;cases fs)) c6 (by omega)
    rw[ZeN,ZeN] at two
    exact two
   ·rw[if_neg h5];exact one
  ·rw[if_neg hu];exact one
theorem plain_f {b:List Int} {i o:Int} (hc:Cur b i) (k:Nat) (hk:200<k):∃m ts z i' o',ZaC.f k b i o=some (plNs m,ts,z,i',o')∧2≤m∧m≤6∧PInv m ts∧ts.length≤8∧4≤z∧z≤7∧Cur b i':=by
 obtain⟨z,i1,o1,e1,z0,z1,c1⟩:=Zbj (n:=4) (h:=o) hc (by omega) (by omega)
 obtain⟨v,i2,o2,e2,v0,v1,c2⟩:=Zbj (n:=3) (h:=o1) c1 (by omega) (by omega)
 obtain⟨d,hd⟩:∃d:Nat,wrap64 (1+v)=(d:Int)∧1≤d∧d≤3:=⟨(1+v).toNat,by rw[Z9 (by omega) (by omega)];omega,by omega,by omega⟩
 obtain⟨m,ts,i',o',e,h2,h6,hI,hl,hc'⟩:=plain_l (b:=b) (z:=wrap64 (4+z)) d 1 [] i2 o2 k (by omega) (by omega) (by omega) (by omega) (by omega) (by simp;omega) (PInv.nil 1) c2 (by omega)
 refine⟨m,ts,wrap64 (4+z),i',o',?_,h2,h6,hI,hl,by rw[Z9 (by omega) (by omega)];omega,by rw[Z9 (by omega) (by omega)];omega,hc'⟩
 unfold ZaC.f
 rw[e1,Zi]
 dsimp only
 rw[e2,Zi]
 dsimp only
 rw[hd.1];exact e
theorem plain_nodes {m:Nat} (h2:2≤m) (h6:m≤6):Z2 (plNs m)=true∧(plNs m).all (Zcz (plNs m))=true:=by
 have hm:m=2∨m=3∨m=4∨m=5∨m=6:=by omega
 rcases hm with rfl|rfl|rfl|rfl|rfl <;> exact⟨by kernel_rfl,by kernel_rfl⟩
theorem show_of {ns:List ZK} {ts:List PTie} {z:Int} (h1:Z2 ns=true) (h2:ns.all (Zcz ns)=true) (h3:ZaR ns ts=true) (h4:1≤z) (h5:z≤10):Zat ns ts z=true:=by
 unfold Zat
 rw[h1,h2,h3,Zf (show ¬z<1 by omega),Zf (show ¬(10:Int)<z by omega)];rfl
theorem plain_show {m:Nat} {ts:List PTie} {z:Int} (h2:2≤m) (h6:m≤6) (hI:PInv m ts) (hl:ts.length≤8) (h4:4≤z) (h7:z≤7):Zat (plNs m) ts z=true:=by
 obtain⟨n1,n2⟩:=plain_nodes h2 h6
 refine show_of n1 n2 (ZfM (by rw[Zdp];exact hI) (by omega) fun t ht _=>?_) (by omega) (by omega)
 have:=hI.ok t ht
 unfold TOk at this
 obtain⟨a,ha⟩:=Int.eq_ofNat_of_zero_le this.1
 obtain⟨c,hc⟩:=Int.eq_ofNat_of_zero_le this.2.2.1
 rw[ha,hc,Zcm,Zcm,plNs_at (by omega),plNs_at (by omega)]
 exact⟨rfl,rfl⟩
def bNs:List ZK:=[⟨⟨#[103,111]⟩,[],0⟩,⟨⟨#[97]⟩,[],1⟩,⟨⟨#[98]⟩,[1],0⟩,⟨⟨#[99]⟩,[-1],0⟩]
def bNd:List ZK:=bNs ++ [⟨⟨#[100]⟩,[1],0⟩]
def BOk (ns:List ZK) (ts:List PTie):Prop:=(ns=bNs∨ns=bNd)∧PInv ns.length ts∧ts.length≤4∧∀t∈ts,t.f4=true→ns=bNd∧t.f0=2∧t.f1=4
theorem branch_l {b:List Int} {z:Int}:∀(d n:Nat) (ts:List PTie) (i o:Int) (k:Nat),n+d=4→2≤n→ts.length+d≤3→PInv 4 ts→(∀t∈ts,t.f4=false)→Cur b i→10+d<k →
  ∃ns' ts' i' o',Zay.l0 k (n:Int) b i o bNs ts z=some (ns',ts',z,i',o')∧BOk ns' ts'∧Cur b i'
 | 0,n,ts,i,o,k,hn,h2,hl,hI,hf,hc,hk=>by
  obtain⟨q,rfl⟩:∃q,k=q+1:=⟨k - 1,by omega⟩
  obtain⟨u,i1,o1,e1,c1⟩:=once_f (n:=2) (o:=o) hc (by omega) (by omega)
  simp only[Zay.l0]
  rw[if_neg (by omega),e1,Zi]
  dsimp only
  by_cases hu:u=true
  ·rw[if_pos hu]
   obtain⟨y,i2,o2,e2,y0,y1,c2⟩:=Zbj (n:=2) (h:=o1) c1 (by omega) (by omega)
   obtain⟨x,i3,o3,e3,x0,x1,c3⟩:=Zbj (n:=2) (h:=o2) c2 (by omega) (by omega)
   rw[e2,Zi]
   dsimp only
   rw[if_pos (show bNs.length<2932031007402 by decide),e3,Zi]
   dsimp only
   rw[if_pos (by omega),Z9 (i:=1+y) (by omega) (by omega),Z9 (i:=1+y+x) (by omega) (by omega)]
   refine⟨_,_,_,_,rfl,⟨.inr rfl,?_,by rw[List.length_append,List.length_singleton];omega,fun t ht h4=>?_⟩,c3⟩
   ·exact hI.free (n:=4) (m:=5) (by omega) (by unfold TOk;dsimp only;exact⟨by omega,by omega,by omega,by omega,by omega,by omega,by omega,by omega,fun _=>by omega⟩) (by dsimp only;omega) (fun s hs fs=>by rw[hf s hs] at fs;cases fs)
   ·rcases List.mem_append.1 ht with ht|ht
    ·rw[hf t ht] at h4;cases h4
    ·rw[List.mem_singleton] at ht;subst ht;exact⟨rfl,rfl,rfl⟩
  ·rw[if_neg hu]
   exact⟨_,_,_,_,rfl,⟨.inl rfl,hI,by omega,fun t ht h4=>by rw[hf t ht] at h4;cases h4⟩,c1⟩
 | d+1,n,ts,i,o,k,hn,h2,hl,hI,hf,hc,hk=>by
  obtain⟨q,rfl⟩:∃q,k=q+1:=⟨k - 1,by omega⟩
  obtain⟨p,i1,o1,e1,p0,p1,c1⟩:=Zbj (n:=3) (h:=o) hc (by omega) (by omega)
  obtain⟨y,i2,o2,e2,y0,y1,c2⟩:=Zbj (n:=2) (h:=o1) c1 (by omega) (by omega)
  obtain⟨x,i3,o3,e3,x0,x1,c3⟩:=Zbj (n:=3) (h:=o2) c2 (by omega) (by omega)
  simp only[Zay.l0]
  rw[if_pos (by omega),e1,Zi]
  dsimp only
  rw[e2,Zi]
  dsimp only
  rw[e3,Zi]
  dsimp only
  rw[if_pos (by omega),Z9 (i:=p+1) (by omega) (by omega),Z9 (i:=p+1+x) (by omega) (by omega),show wrap64 ((n:Int)+1)=((n+1:Nat):Int) by rw[Z9 (by omega) (by omega)];omega]
  exact branch_l d (n+1) _ i3 o3 q (by omega) (by omega) (by rw[List.length_append,List.length_singleton];omega) (hI.tie (Nat.le_refl _) (by unfold TOk;dsimp only;exact⟨by omega,by omega,by omega,by omega,by omega,by omega,by omega,by omega,fun h=>by cases h⟩) rfl) (fun t ht=>by
   rcases List.mem_append.1 ht with ht|ht
   ·exact hf t ht
   ·rw[List.mem_singleton] at ht;subst ht;rfl) c3 (by omega)
theorem branch_f {b:List Int} {i o:Int} (hc:Cur b i) (k:Nat) (hk:200<k):∃ns ts z i' o',Zay.f k b i o=some (ns,ts,z,i',o')∧BOk ns ts∧4≤z∧z≤6∧Cur b i':=by
 obtain⟨z,i1,o1,e1,z0,z1,c1⟩:=Zbj (n:=3) (h:=o) hc (by omega) (by omega)
 obtain⟨p,i2,o2,e2,p0,p1,c2⟩:=Zbj (n:=2) (h:=o1) c1 (by omega) (by omega)
 obtain⟨x,i3,o3,e3,x0,x1,c3⟩:=Zbj (n:=3) (h:=o2) c2 (by omega) (by omega)
 obtain⟨ns,ts,i',o',e,h,hc'⟩:=branch_l (b:=b) (z:=wrap64 (4+z)) 2 2 [⟨0,1,p,p+x,false⟩] i3 o3 k (by omega) (by omega) (by simp) ((PInv.nil 4).tie (Nat.le_refl _) (by unfold TOk;dsimp only;exact⟨by omega,by omega,by omega,by omega,by omega,by omega,by omega,by omega,fun h=>by cases h⟩) rfl) (fun t ht=>by rw[List.mem_singleton] at ht;subst ht;rfl) c3 (by omega)
 refine⟨ns,ts,wrap64 (4+z),i',o',?_,h,by rw[Z9 (by omega) (by omega)];omega,by rw[Z9 (by omega) (by omega)];omega,hc'⟩
 unfold Zay.f
 rw[e1,Zi]
 dsimp only
 rw[e2,Zi]
 dsimp only
 rw[e3,Zi]
 dsimp only
 rw[Z9 (i:=p+x) (by omega) (by omega)]
 exact e
theorem bNs_ok:Z2 bNs=true∧bNs.all (Zcz bNs)=true:=⟨by kernel_rfl,by kernel_rfl⟩
theorem bNd_ok:Z2 bNd=true∧bNd.all (Zcz bNd)=true:=⟨by kernel_rfl,by kernel_rfl⟩
theorem branch_show {ns:List ZK} {ts:List PTie} {z:Int} (h:BOk ns ts) (h4:4≤z) (h6:z≤6):Zat ns ts z=true:=by
 obtain⟨hn,hI,hl,hf⟩:=h
 have h1:Z2 ns=true∧ns.all (Zcz ns)=true:=by
  rcases hn with rfl|rfl
  ·exact bNs_ok
  ·exact bNd_ok
 refine show_of h1.1 h1.2 (ZfM hI (by omega) fun t ht h4=>?_) (by omega) (by omega)
 obtain⟨rfl,e0,e1⟩:=hf t ht h4
 rw[e0,e1]
 exact⟨rfl,rfl⟩
structure DShow (ns:List ZK) (ts:List PTie) (z:Int):Prop where
 ok:Zat ns ts z=true
 lab:∀n∈ns,n.f1.length≤1
 len:ts.length≤8
 go:(ns.getD 0 z39).f0=⟨#[103,111]⟩
theorem show_f {b:List Int} (hb:b.length≤1048576) (k:Nat) (hk:2 ^ 64≤k):∃ns ts z,ZbR.f k b=some (ns,ts,z)∧DShow ns ts z:=by
 obtain⟨o,e0,c0⟩:=new_f hb k hk
 obtain⟨u,i1,o1,e1,c1⟩:=once_f (n:=3) (o:=o) c0 (by omega) (by omega)
 unfold ZbR.f ZcB.f
 rw[e0,Zi]
 dsimp only
 rw[e1,Zi]
 dsimp only
 by_cases hu:u=true
 ·rw[if_pos hu]
  obtain⟨ns,ts,z,i',o',e,h,z4,z6,_⟩:=branch_f (o:=o1) c1 k (by omega)
  rw[e,Zi]
  refine⟨ns,ts,z,rfl,branch_show h z4 z6,?_,by have:=h.2.2.1;omega,?_⟩
  ·rcases h.1 with rfl|rfl
   ·intro n hn;revert n;decide
   ·intro n hn;revert n;decide
  ·rcases h.1 with rfl|rfl <;> rfl
 ·rw[if_neg hu]
  obtain⟨m,ts,z,i',o',e,m2,m6,hI,hl,z4,z7,_⟩:=plain_f (o:=o1) c1 k (by omega)
  rw[e,Zi]
  refine⟨plNs m,ts,z,rfl,plain_show m2 m6 hI hl z4 z7,fun n hn=>?_,hl,?_⟩
  ·unfold plNs at hn
   obtain⟨j,_,rfl⟩:=List.mem_map.1 hn
   exact Nat.zero_le _
  ·rw[plNs_at (by omega)];rfl
def ZaQ.l0:Nat→ByteArray→List (S39)→Int→Int→Option (Int)
 | 0,_,_,_,_=>none
 | k+1,x1,x8,x9,x10=>if x10<x9 then(if 0≤x10 then(if x10<(x8.length:Int) then(if ((ZJ x8 x10).f0).toList=x1.toList then(some x10) else(ZaQ.l0 k x1 x8 x9 (wrap64 (x10+1)))) else(none)) else(none)) else(some (-1))
def ZaQ.f (k:Nat) (l0_0:List (S39)) (l0_1:List (S82)) (a0_2:Int) (a1:ByteArray):Option (Int):=ZaQ.l0 k a1 l0_0 (l0_0.length:Int) 0
theorem ZaQ.calls (k:Nat) (A0_0:Option Addr) (c0_0:Nat) (l0_0:List (S39)) (A0_1:Option Addr) (c0_1:Nat) (l0_1:List (S82)) (a0_2:Int) (a1:ByteArray) (r:Int) (w:World) (hr0_0:Kd.C k39 w A0_0 l0_0.length l0_0) (hc0_0:l0_0.length≤c0_0) (hr0_1:Kd.C k82 w A0_1 l0_1.length l0_1) (hc0_1:l0_1.length≤c0_1) (h:ZaQ.f k l0_0 l0_1 a0_2 a1=some r) :
  Calls Tryz.prog 125 #[.agg #[.slice A0_0 l0_0.length c0_0,.slice A0_1 l0_1.length c0_1,.int .i64 a0_2],.string a1] w fun e w'=>e=.returned (.int .i64 r)∧Below w.heap.size w w':=by
 have hu25:=Tryz.underlying25
 have hu39:=Tryz.underlying39
 have HR0_0:=Za hr0_0;have HC0_0:=Za hc0_0;clear hr0_0 hc0_0;have HR0_1:=Za hr0_1;have HC0_1:=Za hc0_1;clear hr0_1 hc0_1
 have HB:=Za (Below.refl w.heap.size w)
 have H:(ZaQ.l0 k a1 l0_0 (l0_0.length:Int) 0)=some r:=h
 clear h
 have H':=Za H
 clear H
 go_enter Tryz.func125,Tryz.ntmps125
 go_wp2_with (first|((with_reducible refine ZF (N:=2) rfl ?_);refine ZG ?hg (N:=2) ?hd (cs:=#[.slice A0_0 l0_0.length c0_0,.slice A0_1 l0_1.length c0_1,.int .i64 a0_2]) (t:=25) ?hr ?_;(case hd=>rfl);(case hg=>rfl);(case hr=>first|(go_simp;done)|(go_simp;rfl));intro gb1 hg w3 hbox hb;have BK1:=Za (hbox);have GW1:=Za ((by rw[hg];exact(Zv (by exact HB.out)):w.heap.size≤gb1));have GE1:=Za ((by rw[hg];exact(Zv (by exact HB.out)):w.heap.size≤gb1));replace HB:=Za (Zr (by exact HB.out) hb);clear hb hbox hg;have hcz4_0:w3.cell? ⟨gb1,0,none⟩=some (.slice A0_0 l0_0.length c0_0):=(Zm BK1.out 0).trans rfl;have hcz4_1:w3.cell? ⟨gb1,1,none⟩=some (.slice A0_1 l0_1.length c0_1):=(Zm BK1.out 1).trans rfl;have hcz4_2:w3.cell? ⟨gb1,2,none⟩=some (.int .i64 a0_2):=(Zm BK1.out 2).trans rfl;have hfz4_0:=Zq BK1.out 0;have hfz4_1:=Zq BK1.out 1;have hfz4_2:=Zq BK1.out 2))
 go_loopg [10] k (fun kq v10 w'=>∃(x10_1:Int),v10=.int .i64 x10_1∧Aside0 (ZaQ.l0 kq a1 l0_0 (l0_0.length:Int) x10_1=some r)∧Aside0 (kq≤k)∧Aside0 (w'.heap[gb1]? = some (.cells #[(.slice A0_0 l0_0.length c0_0),(.slice A0_1 l0_1.length c0_1),.int .i64 a0_2] 25 (0,0)))∧Aside0 (Below w.heap.size w w'))
 case atStart=>exact⟨(0),(by first|rfl|(simp;done)|(simp[*];done)),H',⟨Nat.le_refl _⟩,⟨by(with_reducible repeat(first|refine ZD ?_ _|refine Zz ?_|refine Zy ?_ _));exact BK1.out⟩,⟨by repeat(first|(with_reducible first|exact HB.out|apply Zo|apply Zn|apply Zp|refine Zt ?_ GE1.out)|exact HB.out)⟩⟩
 case round=>
  clear H'
  try clear c1
  try clear p2
  try clear hcz4_0
  try clear hcz4_1
  try clear hcz4_2
  try clear hfz4_0
  try clear hfz4_1
  try clear hfz4_2
  obtain⟨x10_1,rfl,HA,HK1,BK1,HB⟩:=hrel
  cases gk with
  | zero=>exact absurd HA.out (by simp[ZaQ.l0])
  | succ k1=>
   have H:=HA.out
   clear HA
   simp only[ZaQ.l0] at H
   by_cases c5:x10_1<(l0_0.length:Int)
   ·rw[if_pos c5] at H
    have c5b0:decide (x10_1<(l0_0.length:Int))=true:=Ze c5
    clear c5
    by_cases c6:0≤x10_1
    ·rw[if_pos c6] at H
     have c6b0:decide (0≤x10_1)=true:=Ze c6
     clear c6
     by_cases c7:x10_1<(l0_0.length:Int)
     ·rw[if_pos c7] at H
      have c7b0:decide (x10_1<(l0_0.length:Int))=true:=Ze c7
      clear c7
      by_cases c8:((ZJ l0_0 x10_1).f0).toList=a1.toList
      ·rw[if_pos c8] at H
       have c8b0:(((ZJ l0_0 x10_1).f0).toList == a1.toList)=true:=beq_iff_eq.mpr c8
       clear c8
       obtain rfl:=Zg H
       have p125002:0≤(x10_1:Int):=Zd (by with_reducible assumption)
       have q2:x10_1<(l0_0.length:Int):=Zd (by with_reducible assumption)
       obtain⟨ad2,A2_1,c2_1,e2,hx2_0,hx2_1,hx2_2,hl2_1,hi2_1⟩:=ZaX HR0_0.out x10_1 p125002 q2
       cases e2
       replace hx2_0:=(HB.out.cell (Zc w _ hx2_0)).trans hx2_0
       replace hx2_1:=(HB.out.cell (Zc w _ hx2_1)).trans hx2_1
       replace hx2_2:=(HB.out.cell (Zc w _ hx2_2)).trans hx2_2
       have HR2_1:=Za hi2_1;have HC2_1:=Za hl2_1;clear hi2_1 hl2_1
       replace p125002:=eq_true p125002
       replace q2:=eq_true q2
       go_wp2_with (first|((with_reducible refine ZF (N:=6) rfl ?_);refine ZG ?hg (N:=6) ?hd (cs:=#[.string (⟨#[]⟩:ByteArray),.slice none 0 0,.int .i64 0]) (t:=39) ?hr ?_;(case hd=>rfl);(case hg=>rfl);(case hr=>first|(go_simp;done)|(go_simp;rfl));intro gb3 hg w9 hbox hb;have BK3:=Za (hbox);have GW3:=Za ((by rw[hg];exact(Zv (by exact HB.out)):w.heap.size≤gb3));have GE3:=Za ((by rw[hg];exact(Zv (by exact HB.out)):w.heap.size≤gb3));have NB1_3:=Za ((by rw[hg];exact Nat.ne_of_lt (ZN (g:=gb1) (o:=.cells #[.slice (some ad2) l0_0.length c0_0,.slice A0_1 l0_1.length c0_1,.int .i64 a0_2] 25 (0,0)) (by exact BK1.out)):gb1≠gb3));have NB3_1:=Za ((by rw[hg];exact Nat.ne_of_gt (ZN (g:=gb1) (o:=.cells #[.slice (some ad2) l0_0.length c0_0,.slice A0_1 l0_1.length c0_1,.int .i64 a0_2] 25 (0,0)) (by exact BK1.out)):gb3≠gb1));replace BK1:=Za (Zs (g:=gb1) (o:=.cells #[.slice (some ad2) l0_0.length c0_0,.slice A0_1 l0_1.length c0_1,.int .i64 a0_2] 25 (0,0)) (by exact BK1.out) hb);replace HB:=Za (Zr (by exact HB.out) hb);clear hb hbox hg;have hcz11_0:w9.cell? ⟨gb3,0,none⟩=some (.string (⟨#[]⟩:ByteArray)):=(Zm BK3.out 0).trans rfl;have hcz11_1:w9.cell? ⟨gb3,1,none⟩=some (.slice none 0 0):=(Zm BK3.out 1).trans rfl;have hcz11_2:w9.cell? ⟨gb3,2,none⟩=some (.int .i64 0):=(Zm BK3.out 2).trans rfl;have hfz11_0:=Zq BK3.out 0;have hfz11_1:=Zq BK3.out 1;have hfz11_2:=Zq BK3.out 2))
       go_ret
       exact⟨by first|rfl|(simp[ZC,ZB] <;> rfl)|(simp[*,ZC,ZB] <;> rfl),by repeat(first|(with_reducible first|exact HB.out|apply Zo|apply Zn|apply Zp|refine Zt ?_ GE1.out|refine Zt ?_ GE3.out)|exact HB.out)⟩
      ·rw[if_neg c8] at H
       have c8b0:(((ZJ l0_0 x10_1).f0).toList == a1.toList)=false:=beq_eq_false_iff_ne.mpr c8
       have H':=Za H
       clear H
       have p125002:0≤(x10_1:Int):=Zd (by with_reducible assumption)
       have q2:x10_1<(l0_0.length:Int):=Zd (by with_reducible assumption)
       obtain⟨ad2,A2_1,c2_1,e2,hx2_0,hx2_1,hx2_2,hl2_1,hi2_1⟩:=ZaX HR0_0.out x10_1 p125002 q2
       cases e2
       replace hx2_0:=(HB.out.cell (Zc w _ hx2_0)).trans hx2_0
       replace hx2_1:=(HB.out.cell (Zc w _ hx2_1)).trans hx2_1
       replace hx2_2:=(HB.out.cell (Zc w _ hx2_2)).trans hx2_2
       have HR2_1:=Za hi2_1;have HC2_1:=Za hl2_1;clear hi2_1 hl2_1
       replace p125002:=eq_true p125002
       replace q2:=eq_true q2
       go_wp2_with (first|((with_reducible refine ZF (N:=6) rfl ?_);refine ZG ?hg (N:=6) ?hd (cs:=#[.string (⟨#[]⟩:ByteArray),.slice none 0 0,.int .i64 0]) (t:=39) ?hr ?_;(case hd=>rfl);(case hg=>rfl);(case hr=>first|(go_simp;done)|(go_simp;rfl));intro gb3 hg w12 hbox hb;have BK3:=Za (hbox);have GW3:=Za ((by rw[hg];exact(Zv (by exact HB.out)):w.heap.size≤gb3));have GE3:=Za ((by rw[hg];exact(Zv (by exact HB.out)):w.heap.size≤gb3));have NB1_3:=Za ((by rw[hg];exact Nat.ne_of_lt (ZN (g:=gb1) (o:=.cells #[.slice (some ad2) l0_0.length c0_0,.slice A0_1 l0_1.length c0_1,.int .i64 a0_2] 25 (0,0)) (by exact BK1.out)):gb1≠gb3));have NB3_1:=Za ((by rw[hg];exact Nat.ne_of_gt (ZN (g:=gb1) (o:=.cells #[.slice (some ad2) l0_0.length c0_0,.slice A0_1 l0_1.length c0_1,.int .i64 a0_2] 25 (0,0)) (by exact BK1.out)):gb3≠gb1));replace BK1:=Za (Zs (g:=gb1) (o:=.cells #[.slice (some ad2) l0_0.length c0_0,.slice A0_1 l0_1.length c0_1,.int .i64 a0_2] 25 (0,0)) (by exact BK1.out) hb);replace HB:=Za (Zr (by exact HB.out) hb);clear hb hbox hg;have hcz14_0:w12.cell? ⟨gb3,0,none⟩=some (.string (⟨#[]⟩:ByteArray)):=(Zm BK3.out 0).trans rfl;have hcz14_1:w12.cell? ⟨gb3,1,none⟩=some (.slice none 0 0):=(Zm BK3.out 1).trans rfl;have hcz14_2:w12.cell? ⟨gb3,2,none⟩=some (.int .i64 0):=(Zm BK3.out 2).trans rfl;have hfz14_0:=Zq BK3.out 0;have hfz14_1:=Zq BK3.out 1;have hfz14_2:=Zq BK3.out 2))
       go_roundg k1
       case measure=>have:=HK1.out;omega
       case rel=>exact⟨(wrap64 (x10_1+1)),(by first|rfl|(simp;done)|(simp[*];done)),H',⟨by have:=HK1.out;omega⟩,⟨by(with_reducible repeat(first|refine ZD ?_ _|refine Zz ?_|refine Zy ?_ _));refine ZL ?_ NB1_3.out _;(with_reducible repeat(first|refine ZD ?_ _|refine Zz ?_|refine Zy ?_ _));refine ZL ?_ NB1_3.out _;(with_reducible repeat(first|refine ZD ?_ _|refine Zz ?_|refine Zy ?_ _));refine ZL ?_ NB1_3.out _;(with_reducible repeat(first|refine ZD ?_ _|refine Zz ?_|refine Zy ?_ _));exact BK1.out⟩,⟨by repeat(first|(with_reducible first|exact HB.out|apply Zo|apply Zn|apply Zp|refine Zt ?_ GE1.out|refine Zt ?_ GE3.out)|exact HB.out)⟩⟩
     ·rw[if_neg c7] at H
      exact absurd H (by simp)
    ·rw[if_neg c6] at H
     exact absurd H (by simp)
   ·rw[if_neg c5] at H
    have c5b0:decide (x10_1<(l0_0.length:Int))=false:=Zf c5
    clear c5
    obtain rfl:=Zg H
    go_wp2
    go_ret
    exact⟨by first|rfl|(simp[ZC,ZB] <;> rfl)|(simp[*,ZC,ZB] <;> rfl),by repeat(first|(with_reducible first|exact HB.out|apply Zo|apply Zn|apply Zp|refine Zt ?_ GE1.out)|exact HB.out)⟩
def Zeh (ns:List ZK) (s:ByteArray):Int:=Zbc (fun n=>decide (n.f0.toList=s.toList)) ns
theorem Zfj (ns:List ZK) (ts:List PTie) (z:Int) (s:ByteArray) (hl:ns.length≤9223372036854775807) (k:Nat) (hk:2 ^ 64≤k):ZaQ.f k ns ts z s=some (Zeh ns s):=by
 have key:=Zb7 ns.length (fun k i=>(∀j y,j<i→ns[j]? = some y→decide (y.f0.toList=s.toList)=false)→ZaQ.l0 k s ns ns.length (i:Int)=some (Zeh ns s)) 0
  (fun k _ hb=>by
   simp only[ZaQ.l0]
   rw[if_neg (by omega),Zeh,Zb0 _ _ hb])
  (fun k i _ hi ih hb=>by
   simp only[ZaQ.l0]
   rw[if_pos (by omega),if_pos (by omega),if_pos (by omega),Zcm,ZO hi (by omega)]
   by_cases h:(ns.getD i z39).f0.toList=s.toList
   ·rw[if_pos h,Zeh,Zcd _ ns i _ (getD_some hi z39) (Ze h) hb]
   ·rw[if_neg h,ih]
    intro j y hj hy
    by_cases e:j=i
    ·subst e
     rw[getD_some hi z39] at hy
     cases hy
     exact Zf h
    ·exact hb j y (by omega) hy) 0 k (Nat.zero_le _) (by omega)
 unfold ZaQ.f
 exact key (fun j y hj=>absurd hj (by omega))
end Go.Proofs.YtoeimopgoaffcaaGreatDoor.Pr
