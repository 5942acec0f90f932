/- By a program of this session. -/
import Derived.Test.YtoeimopgoaffcaaGreatDoorBBwc1x18
set_option maxHeartbeats 8000000
set_option maxRecDepth 100000
namespace Go.Proofs.YtoeimopgoaffcaaGreatDoor.Pr
open RowKit YtoeimopgoaffcaaGreatDoorW.PrintWords YtoeimopgoaffcaaGreatDoorW.PrintLast YtoeimopgoaffcaaGreatDoorW.PrintMore
attribute [local go_sem] Zak Zai Zax Zaw Zac Zab Zaj Zah
set_option linter.unusedVariables false
set_option linter.unusedSimpArgs false
open Ni
def ZbE.f (k:Nat) (l0_0:List (S39)) (l0_1:List (S82)) (a0_2:Int) (l1_0:List Int) (l1_1:List Int):Option (Int×List S112×Bool):=(ZbT.f k l0_0 l0_1 a0_2 l1_0 l1_1).bind fun t=>(if t=true then((Zw.f k l0_0 l0_1 a0_2 l1_0 l1_1).bind fun b=>((ZaN.f b.1 b.2.1).bind fun t=>(if t=true then(some (b.1,b.2.1,true)) else(some (0,([]:List S112),false))))) else(some (0,([]:List S112),false)))
theorem ZbE.calls (k:Nat) (A0_0:Option Addr) (c0_0:Nat) (l0_0:List (S39)) (A0_1:Option Addr) (c0_1:Nat) (l0_1:List (S82)) (a0_2:Int) (A1_0:Option Addr) (c1_0:Nat) (l1_0:List Int) (A1_1:Option Addr) (c1_1:Nat) (l1_1:List Int) (r1:Int) (r2:List S112) (r3:Bool) (w:World) (hr0_0:Kd.C k39 w A0_0 l0_0.length l0_0) (hc0_0:l0_0.length≤c0_0) (hr0_1:Kd.C k82 w A0_1 l0_1.length l0_1) (hc0_1:l0_1.length≤c0_1) (hr1_0:Kd.C (Kd.int .i64) w A1_0 l1_0.length l1_0) (hc1_0:l1_0.length≤c1_0) (hr1_1:Kd.C (Kd.int .i64) w A1_1 l1_1.length l1_1) (hc1_1:l1_1.length≤c1_1) (ht:TW w) (h:ZbE.f k l0_0 l0_1 a0_2 l1_0 l1_1=some (r1,r2,r3)) :
  Calls Tryz.prog 32 #[.agg #[.slice A0_0 l0_0.length c0_0,.slice A0_1 l0_1.length c0_1,.int .i64 a0_2],.agg #[.slice A1_0 l1_0.length c1_0,.slice A1_1 l1_1.length c1_1]] w fun e w'=>∃v1_:Value,e=.returned (.tuple #[.agg #[.int .i64 r1,v1_],.bool r3])∧Kd.R k112 112 w' w.heap.size (fun _=>True) v1_ r2∧Below w.heap.size w w':=by
 unfold ZbE.f at h
 obtain⟨b,hb_,h⟩:=Option.bind_eq_some_iff.1 h
 have HCO:=Za fun (W:World) (hb:Below w.heap.size w W)=>ZbT.calls k A0_0 c0_0 l0_0 A0_1 c0_1 l0_1 a0_2 A1_0 c1_0 l1_0 A1_1 c1_1 l1_1 b W (Zb hr0_0 hb) hc0_0 (Zb hr0_1 hb) hc0_1 (Zb hr1_0 hb) hc1_0 (Zb hr1_1 hb) hc1_1 hb_
 have HP:=Za fun (W:World) (q1:Int) (q2:List S112) (q3:List ByteArray) (hb:Below w.heap.size w W) (hP:Zw.f k l0_0 l0_1 a0_2 l1_0 l1_1=some (q1,q2,q3))=>Zw.calls k A0_0 c0_0 l0_0 A0_1 c0_1 l0_1 a0_2 A1_0 c1_0 l1_0 A1_1 c1_1 l1_1 q1 q2 q3 W (Zb hr0_0 hb) hc0_0 (Zb hr0_1 hb) hc0_1 (Zb hr1_0 hb) hc1_0 (Zb hr1_1 hb) hc1_1 (TW.below ht hb) hP
 have HB3:=Za (show Below w.heap.size w (((w.alloc (.cells #[.slice A0_0 l0_0.length c0_0,.slice A0_1 l0_1.length c0_1,.int .i64 a0_2] 25)).alloc (.cells #[.slice A1_0 l1_0.length c1_0,.slice A1_1 l1_1.length c1_1] 58)).alloc (.cells #[.int .i64 0,.slice none 0 0] 54)) from Zo (Zo (Zo (Below.refl w.heap.size w) _) _) _)
 have K:=Za (show(((w.alloc (.cells #[.slice A0_0 l0_0.length c0_0,.slice A0_1 l0_1.length c0_1,.int .i64 a0_2] 25)).alloc (.cells #[.slice A1_0 l1_0.length c1_0,.slice A1_1 l1_1.length c1_1] 58)).alloc (.cells #[.int .i64 0,.slice none 0 0] 54)).cell? ⟨w.heap.size,0,none⟩=some (.slice A0_0 l0_0.length c0_0)∧(((w.alloc (.cells #[.slice A0_0 l0_0.length c0_0,.slice A0_1 l0_1.length c0_1,.int .i64 a0_2] 25)).alloc (.cells #[.slice A1_0 l1_0.length c1_0,.slice A1_1 l1_1.length c1_1] 58)).alloc (.cells #[.int .i64 0,.slice none 0 0] 54)).cell? ⟨w.heap.size,1,none⟩=some (.slice A0_1 l0_1.length c0_1)∧(((w.alloc (.cells #[.slice A0_0 l0_0.length c0_0,.slice A0_1 l0_1.length c0_1,.int .i64 a0_2] 25)).alloc (.cells #[.slice A1_0 l1_0.length c1_0,.slice A1_1 l1_1.length c1_1] 58)).alloc (.cells #[.int .i64 0,.slice none 0 0] 54)).cell? ⟨w.heap.size,2,none⟩=some (.int .i64 a0_2)∧(((w.alloc (.cells #[.slice A0_0 l0_0.length c0_0,.slice A0_1 l0_1.length c0_1,.int .i64 a0_2] 25)).alloc (.cells #[.slice A1_0 l1_0.length c1_0,.slice A1_1 l1_1.length c1_1] 58)).alloc (.cells #[.int .i64 0,.slice none 0 0] 54)).cell? ⟨w.heap.size+1,0,none⟩=some (.slice A1_0 l1_0.length c1_0)∧(((w.alloc (.cells #[.slice A0_0 l0_0.length c0_0,.slice A0_1 l0_1.length c0_1,.int .i64 a0_2] 25)).alloc (.cells #[.slice A1_0 l1_0.length c1_0,.slice A1_1 l1_1.length c1_1] 58)).alloc (.cells #[.int .i64 0,.slice none 0 0] 54)).cell? ⟨w.heap.size+1,1,none⟩=some (.slice A1_1 l1_1.length c1_1) from⟨by go_simp,by go_simp,by go_simp,by go_simp,by go_simp⟩)
 have B0:=Za (show(((w.alloc (.cells #[.slice A0_0 l0_0.length c0_0,.slice A0_1 l0_1.length c0_1,.int .i64 a0_2] 25)).alloc (.cells #[.slice A1_0 l1_0.length c1_0,.slice A1_1 l1_1.length c1_1] 58)).alloc (.cells #[.int .i64 0,.slice none 0 0] 54)).heap[w.heap.size+2]? = some (Obj.cells #[.int .i64 0,.slice none 0 0] 54 (0,0)) by
  have h_:=Zcp ((w.alloc (.cells #[.slice A0_0 l0_0.length c0_0,.slice A0_1 l0_1.length c0_1,.int .i64 a0_2] 25)).alloc (.cells #[.slice A1_0 l1_0.length c1_0,.slice A1_1 l1_1.length c1_1] 58)) (.cells #[.int .i64 0,.slice none 0 0] 54)
  simpa using h_)
 have HN:=Za (Nat.le_add_right w.heap.size 2)
 have hu:=Tryz.underlying25
 have hu2:=Tryz.underlying58
 have hu3:=Tryz.underlying54
 clear hr0_0 hc0_0 hr0_1 hc0_1 hr1_0 hc1_0 hr1_1 hc1_1 hb_ ht
 cases b with
 | false=>
  obtain⟨e1,e2,e3⟩:(0:Int)=r1∧[]=r2∧false=r3:=by
   have h_:=Zg ((if_neg (by simp)).symm.trans h)
   exact⟨congrArg Prod.fst h_,congrArg (fun z=>z.2.1) h_,congrArg (fun z=>z.2.2) h_⟩
  subst e1;subst e2;subst e3;clear h HP
  go_enter Tryz.func32,Tryz.ntmps32
  go_wp2_with (go_at_call 103;refine(HCO.out _ HB3.out).mono ?_;rintro e w4 ⟨rfl,hb⟩;have k0:=Zx hb K.out.1;have k1:=Zx hb K.out.2.1;have k2:=Zx hb K.out.2.2.1;have m0:=Zx hb K.out.2.2.2.1;have m1:=Zx hb K.out.2.2.2.2;have B4:=Za (Zs B0.out hb);have z0:w4.cell? ⟨w.heap.size+2,0,none⟩=some (.int .i64 0):=(Zm B4.out 0).trans rfl;have z1:w4.cell? ⟨w.heap.size+2,1,none⟩=some (.slice none 0 0):=(Zm B4.out 1).trans rfl;have fz0:=Zq B4.out 0;have fz1:=Zq B4.out 1;have HB4:=Za (HB3.out.trans (hb.mono HB3.out.size));clear hb)
  refine bodyPost_ret (Zbq rfl _ _ (w.heap.size+2) 54 #[.int .i64 0,.slice none 0 0] (0,0) _ rfl (ZR (cs:=#[.int .i64 0,.slice none 0 0]) (ZR (cs:=#[.int .i64 0,.slice none 0 0]) B4.out 0 _ rfl) 1 _ rfl) Tryz.underlying54 rfl (by kernel_rfl)) rfl ?_
  exact⟨_,rfl,Kd.R_nil _ _ _ _ _,Zt (Zt HB4.out HN.out) HN.out⟩
 | true=>
  replace h:=(if_pos rfl).symm.trans h
  obtain⟨⟨q1,q2,q3⟩,hP,h⟩:=Option.bind_eq_some_iff.1 h
  dsimp only at h
  obtain⟨c,hC,h⟩:=Option.bind_eq_some_iff.1 h
  have HPJ:=Za fun (W:World) (hb:Below w.heap.size w W)=>HP.out W q1 q2 q3 hb hP
  have HS:=Za fun (W:World) (A:Option Addr) (c_:Nat) (hc:q2.length≤c_) (hr:Kd.C k112 W A q2.length q2)=>ZaN.calls q1 A c_ q2 c W hr hc hC
  clear hP hC HP
  cases c with
  | false=>
   obtain⟨e1,e2,e3⟩:(0:Int)=r1∧[]=r2∧false=r3:=by
    have h_:=Zg ((if_neg (by simp)).symm.trans h)
    exact⟨congrArg Prod.fst h_,congrArg (fun z=>z.2.1) h_,congrArg (fun z=>z.2.2) h_⟩
   subst e1;subst e2;subst e3;clear h
   go_enter Tryz.func32,Tryz.ntmps32
   go_wp2_with (first|(go_at_call 103;refine(HCO.out _ HB3.out).mono ?_;rintro e w4 ⟨rfl,hb⟩;have k0:=Zx hb K.out.1;have k1:=Zx hb K.out.2.1;have k2:=Zx hb K.out.2.2.1;have m0:=Zx hb K.out.2.2.2.1;have m1:=Zx hb K.out.2.2.2.2;have B4:=Za (Zs B0.out hb);have z0:w4.cell? ⟨w.heap.size+2,0,none⟩=some (.int .i64 0):=(Zm B4.out 0).trans rfl;have z1:w4.cell? ⟨w.heap.size+2,1,none⟩=some (.slice none 0 0):=(Zm B4.out 1).trans rfl;have fz0:=Zq B4.out 0;have fz1:=Zq B4.out 1;have HB4:=Za (HB3.out.trans (hb.mono HB3.out.size));clear hb)|(go_at_call 104;refine(HPJ.out _ HB4.out).mono ?_;rintro e w5 ⟨v1,v2,rfl,ho,ho2,hb⟩;obtain⟨A5,c5,e5⟩:=Kd.R_slice ho;subst e5;obtain⟨A6,c6,e6⟩:=Kd.R_slice ho2;subst e6;have HO:=Za (Kd.R_lower ho HB4.out.size);have B5:=Za (Zs B4.out hb);have HB5:=Za (HB4.out.trans (hb.mono HB4.out.size));clear ho ho2 hb k0 k1 k2 m0 m1 z0 z1 fz0 fz1)|(go_at_call 105;refine(HS.out _ A5 c5 (Kd.R_reads' HO.out).2.1 (Zb (Kd.R_reads' HO.out).2.2 (Zo (Below.refl _ _) _))).mono ?_;rintro e w6 ⟨rfl,hb⟩;have B6:=Za (Zs (Zy B5.out _) hb);have B7:=Za (Zs (Zcp w5 (.cells #[.int .i64 q1,.slice A5 q2.length c5] 54)) hb);have HO6:=Za (Kd.R_below (Kd.R_alloc HO.out _) hb);have HB6:=Za (Zr (Zo HB5.out _) hb);have y0:w6.cell? ⟨w5.heap.size,0,none⟩=some (.int .i64 q1):=(Zm B7.out 0).trans rfl;have y1:w6.cell? ⟨w5.heap.size,1,none⟩=some (.slice A5 q2.length c5):=(Zm B7.out 1).trans rfl;have z0:w6.cell? ⟨w.heap.size+2,0,none⟩=some (.int .i64 0):=(Zm B6.out 0).trans rfl;have z1:w6.cell? ⟨w.heap.size+2,1,none⟩=some (.slice none 0 0):=(Zm B6.out 1).trans rfl;have fz0:=Zq B6.out 0;have fz1:=Zq B6.out 1;clear hb))
   refine bodyPost_ret (Zbq rfl _ _ (w.heap.size+2) 54 #[.int .i64 0,.slice none 0 0] (0,0) _ rfl (ZR (cs:=#[.int .i64 0,.slice none 0 0]) (ZR (cs:=#[.int .i64 0,.slice none 0 0]) B6.out 0 _ rfl) 1 _ rfl) Tryz.underlying54 rfl (by kernel_rfl)) rfl ?_
   exact⟨_,rfl,Kd.R_nil _ _ _ _ _,Zt (Zt HB6.out HN.out) HN.out⟩
  | true=>
   obtain⟨e1,e2,e3⟩:q1=r1∧q2=r2∧true=r3:=by
    have h_:=Zg ((if_pos rfl).symm.trans h)
    exact⟨congrArg Prod.fst h_,congrArg (fun z=>z.2.1) h_,congrArg (fun z=>z.2.2) h_⟩
   subst e1;subst e2;subst e3;clear h
   go_enter Tryz.func32,Tryz.ntmps32
   go_wp2_with (first|(go_at_call 103;refine(HCO.out _ HB3.out).mono ?_;rintro e w4 ⟨rfl,hb⟩;have k0:=Zx hb K.out.1;have k1:=Zx hb K.out.2.1;have k2:=Zx hb K.out.2.2.1;have m0:=Zx hb K.out.2.2.2.1;have m1:=Zx hb K.out.2.2.2.2;have B4:=Za (Zs B0.out hb);have z0:w4.cell? ⟨w.heap.size+2,0,none⟩=some (.int .i64 0):=(Zm B4.out 0).trans rfl;have z1:w4.cell? ⟨w.heap.size+2,1,none⟩=some (.slice none 0 0):=(Zm B4.out 1).trans rfl;have fz0:=Zq B4.out 0;have fz1:=Zq B4.out 1;have HB4:=Za (HB3.out.trans (hb.mono HB3.out.size));clear hb)|(go_at_call 104;refine(HPJ.out _ HB4.out).mono ?_;rintro e w5 ⟨v1,v2,rfl,ho,ho2,hb⟩;obtain⟨A5,c5,e5⟩:=Kd.R_slice ho;subst e5;obtain⟨A6,c6,e6⟩:=Kd.R_slice ho2;subst e6;have HO:=Za (Kd.R_lower ho HB4.out.size);have B5:=Za (Zs B4.out hb);have HB5:=Za (HB4.out.trans (hb.mono HB4.out.size));clear ho ho2 hb k0 k1 k2 m0 m1 z0 z1 fz0 fz1)|(go_at_call 105;refine(HS.out _ A5 c5 (Kd.R_reads' HO.out).2.1 (Zb (Kd.R_reads' HO.out).2.2 (Zo (Below.refl _ _) _))).mono ?_;rintro e w6 ⟨rfl,hb⟩;have B6:=Za (Zs (Zy B5.out _) hb);have B7:=Za (Zs (Zcp w5 (.cells #[.int .i64 q1,.slice A5 q2.length c5] 54)) hb);have HO6:=Za (Kd.R_below (Kd.R_alloc HO.out _) hb);have HB6:=Za (Zr (Zo HB5.out _) hb);have y0:w6.cell? ⟨w5.heap.size,0,none⟩=some (.int .i64 q1):=(Zm B7.out 0).trans rfl;have y1:w6.cell? ⟨w5.heap.size,1,none⟩=some (.slice A5 q2.length c5):=(Zm B7.out 1).trans rfl;have z0:w6.cell? ⟨w.heap.size+2,0,none⟩=some (.int .i64 0):=(Zm B6.out 0).trans rfl;have z1:w6.cell? ⟨w.heap.size+2,1,none⟩=some (.slice none 0 0):=(Zm B6.out 1).trans rfl;have fz0:=Zq B6.out 0;have fz1:=Zq B6.out 1;clear hb))
   refine bodyPost_ret (Zbq rfl _ _ (w.heap.size+2) 54 #[.int .i64 q1,.slice A5 q2.length c5] (0,0) _ rfl (ZR (cs:=#[.int .i64 q1,.slice none 0 0]) (ZR (cs:=#[.int .i64 0,.slice none 0 0]) B6.out 0 _ rfl) 1 _ rfl) Tryz.underlying54 rfl (by kernel_rfl)) rfl ?_
   exact⟨_,rfl,Kd.R_mono (Kd.R_far (p:=⟨w.heap.size+2,1,none⟩) (Kd.R_far (p:=⟨w.heap.size+2,0,none⟩) (Kd.R_types HO6.out B6.out (by decide)) (fun _ hk=>hk.2) _) (fun _ hk=>hk.2) _) (fun _ _=>trivial),Zt (Zt HB6.out HN.out) HN.out⟩
def Zao.f (k:Nat) (l0_0:List (S39)) (l0_1:List (S82)) (a0_2:Int) (l1_0:List Int) (l1_1:List Int):Option Bool:=(ZbE.f k l0_0 l0_1 a0_2 l1_0 l1_1).bind fun b=>(if b.2.2=true then((Zbw.f k b.1 b.2.1).bind fun t=>(some t)) else(some false))
theorem Zao.calls (k:Nat) (A0_0:Option Addr) (c0_0:Nat) (l0_0:List (S39)) (A0_1:Option Addr) (c0_1:Nat) (l0_1:List (S82)) (a0_2:Int) (A1_0:Option Addr) (c1_0:Nat) (l1_0:List Int) (A1_1:Option Addr) (c1_1:Nat) (l1_1:List Int) (r:Bool) (w:World) (hr0_0:Kd.C k39 w A0_0 l0_0.length l0_0) (hc0_0:l0_0.length≤c0_0) (hr0_1:Kd.C k82 w A0_1 l0_1.length l0_1) (hc0_1:l0_1.length≤c0_1) (hr1_0:Kd.C (Kd.int .i64) w A1_0 l1_0.length l1_0) (hc1_0:l1_0.length≤c1_0) (hr1_1:Kd.C (Kd.int .i64) w A1_1 l1_1.length l1_1) (hc1_1:l1_1.length≤c1_1) (ht:TW w) (h:Zao.f k l0_0 l0_1 a0_2 l1_0 l1_1=some r) :
  Calls Tryz.prog 39 #[.agg #[.slice A0_0 l0_0.length c0_0,.slice A0_1 l0_1.length c0_1,.int .i64 a0_2],.agg #[.slice A1_0 l1_0.length c1_0,.slice A1_1 l1_1.length c1_1]] w fun e w'=>e=.returned (.bool r)∧Below w.heap.size w w':=by
 unfold Zao.f at h
 obtain⟨⟨q1,q2,q3⟩,hP,h⟩:=Option.bind_eq_some_iff.1 h
 have HP:=Za fun (W:World) (hb:Below w.heap.size w W)=>ZbE.calls k A0_0 c0_0 l0_0 A0_1 c0_1 l0_1 a0_2 A1_0 c1_0 l1_0 A1_1 c1_1 l1_1 q1 q2 q3 W (Zb hr0_0 hb) hc0_0 (Zb hr0_1 hb) hc0_1 (Zb hr1_0 hb) hc1_0 (Zb hr1_1 hb) hc1_1 (TW.below ht hb) hP
 have HB2:=Za (show Below w.heap.size w ((w.alloc (.cells #[.slice A0_0 l0_0.length c0_0,.slice A0_1 l0_1.length c0_1,.int .i64 a0_2] 25)).alloc (.cells #[.slice A1_0 l1_0.length c1_0,.slice A1_1 l1_1.length c1_1] 58)) from Zo (Zo (Below.refl w.heap.size w) _) _)
 have hu:=Tryz.underlying25
 have hu2:=Tryz.underlying58
 have hu3:=Tryz.underlying54
 dsimp only at h
 clear hr0_0 hc0_0 hr0_1 hc0_1 hr1_0 hc1_0 hr1_1 hc1_1 hP ht
 cases q3 with
 | false=>
  rw[if_neg (by simp)] at h
  obtain rfl:=Zg h
  clear h
  go_enter Tryz.func39,Tryz.ntmps39
  go_wp2_with (go_at_call 32;refine(HP.out _ HB2.out).mono ?_;rintro e w3 ⟨v1,rfl,ho,hb⟩;obtain⟨A3,c3,e3⟩:=Kd.R_slice ho;subst e3;have HB3:=Za (HB2.out.trans (hb.mono HB2.out.size));clear ho hb)
  go_ret
  exact⟨rfl,by repeat(first|exact HB3.out|apply Zo|apply Zn|apply Zp)⟩
 | true=>
  rw[if_pos rfl] at h
  obtain⟨t,hC,hr⟩:=Option.bind_eq_some_iff.1 h
  obtain rfl:=Zg hr
  have HC:=Za fun (W:World) (A:Option Addr) (c:Nat) (hc:q2.length≤c) (hr:Kd.C k112 W A q2.length q2)=>Zbw.calls k q1 A c q2 t W hr hc hC
  clear h hr hC
  go_enter Tryz.func39,Tryz.ntmps39
  go_wp2_with (first|(go_at_call 32;refine(HP.out _ HB2.out).mono ?_;rintro e w3 ⟨v1,rfl,ho,hb⟩;obtain⟨A3,c3,e3⟩:=Kd.R_slice ho;subst e3;have HO:=Za (Kd.R_reads' ho).2;have HB3:=Za (HB2.out.trans (hb.mono HB2.out.size));clear ho hb)|(go_at_call 112;refine(HC.out _ A3 c3 HO.out.1 (Zb HO.out.2 (Zo (Below.refl _ _) _))).mono ?_;rintro e w4 ⟨rfl,hb⟩;have HB4:=Za (Zr (Zo HB3.out _) hb);clear hb))
  go_ret
  exact⟨rfl,HB4.out⟩
def facI (ts:List S82) (i:Int):Int:=wrap64 (wrap64 ((ZE ts i).f3 - (ZE ts i).f2)+1)
def atS (ts:List S82) (s:Int×List Int) (i:Int):Int×List Int:=(wrap64 (Int.tdiv s.1 (facI ts i)),s.2 ++ [wrap64 ((ZE ts i).f2+Int.tmod s.1 (facI ts i))])
def atQ (q:Int) (s:Int×List Int):Int×List Int:=if q≥0 then(wrap64 (Int.tdiv s.1 2),s.2 ++ [wrap64 (1 - wrap64 (Int.tmod s.1 2 * 2))]) else(s.1,s.2 ++ [1])
def ZbB (q:Int→Int):Nat→Nat→Int×List Int→Int×List Int
 | 0,_,s=>s
 | d+1,p,s=>ZbB q d (p+1) (atQ (q (p:Int)) s)
def Zdl (ts:List S82) (q:Int→Int) (L:List Int) (n:Int):List Int×List Int:=((L.foldl (atS ts) (n,[])).2,(ZbB q 3 1 ((L.foldl (atS ts) (n,[])).1,[])).2)
def okF (ts:List S82) (L:List Int):Bool:=decide (L.length≤1048576) && L.all fun x=>decide (0≤x) && (decide (x<ts.length) && !(facI ts x == 0))
theorem okF_iff {ts:List S82} {L:List Int} (h:okF ts L=true):L.length≤1048576∧∀x∈L,0≤x∧x<ts.length∧facI ts x≠0:=by
 unfold okF at h
 simp only[Bool.and_eq_true,decide_eq_true_eq,List.all_eq_true,Bool.not_eq_true',beq_eq_false_iff_ne] at h
 exact h
def ccS (ts:List S82) (a i:Int):Int:=wrap64 (a * facI ts i)
def ccQ (q x:Int):Int:=if q≥0 then wrap64 (x * 2) else x
def Zcj (q:Int→Int):Nat→Nat→Int→Int
 | 0,_,x=>x
 | d+1,p,x=>Zcj q d (p+1) (ccQ (q (p:Int)) x)
def okI (ts:List S82) (L:List Int):Bool:=decide (L.length≤1048576) && L.all fun x=>decide (0≤x) && decide (x<ts.length)
theorem okI_iff {ts:List S82} {L:List Int} (h:okI ts L=true):L.length≤1048576∧∀x∈L,0≤x∧x<ts.length:=by
 unfold okI at h
 simp only[Bool.and_eq_true,decide_eq_true_eq,List.all_eq_true] at h
 exact h
def wq (f:Int→Option Int):Option (Int→Int):=(f 1).bind fun a=>(f 2).bind fun b=>(f 3).bind fun c=>some (fun p=>if p=1 then a else if p=2 then b else c)
theorem Ze1 {f:Int→Option Int} {q:Int→Int} (h:wq f=some q):∀p:Nat,1≤p→p≤3→f (p:Int)=some (q (p:Int)):=by
 unfold wq at h
 obtain⟨a,ha,h⟩:=Option.bind_eq_some_iff.1 h
 obtain⟨b,hb,h⟩:=Option.bind_eq_some_iff.1 h
 obtain⟨c,hc,h⟩:=Option.bind_eq_some_iff.1 h
 obtain rfl:=Zg h
 intro p h1 h3
 have:p=1∨p=2∨p=3:=by omega
 rcases this with rfl|rfl|rfl
 ·exact ha
 ·exact hb
 ·exact hc
theorem wq_of {f:Int→Option Int} {q:Int→Int} (h:∀p:Nat,1≤p→p≤3→f (p:Int)=some (q (p:Int))):∃q',wq f=some q'∧(∀s,ZbB q' 3 1 s=ZbB q 3 1 s)∧∀s,Zcj q' 3 1 s=Zcj q 3 1 s:=by
 have h1:=h 1 (by omega) (by omega)
 have h2:=h 2 (by omega) (by omega)
 have h3:=h 3 (by omega) (by omega)
 refine⟨_,by unfold wq;rw[show f 1=_ from h1,Zi,show f 2=_ from h2,Zi,show f 3=_ from h3,Zi],fun s=>?_,fun s=>?_⟩
 ·rfl
 ·rfl
structure Two (w W:World) (gs g4 g5:Nat) (vs cs:Array Value) (uG uK:Value) (G K:List Int):Prop where
 rg:Kd.R (Kd.int .i64) 3 W w.heap.size (fun k=>some k≠uK.ownBlock) uG G
 rk:Kd.R (Kd.int .i64) 3 W w.heap.size (fun k=>some k≠uG.ownBlock) uK K
 hb:Below w.heap.size w W
 bs:W.heap[gs]? = some (Obj.cells vs 25 (0,0))
 b4:W.heap[g4]? = some (Obj.cells #[.slice none 0 0,.slice none 0 0] 58 (0,0))
 b5:W.heap[g5]? = some (Obj.cells cs 58 (0,0))
 n45:g4≠g5
 g4b:w.heap.size≤g4
 g5b:w.heap.size≤g5
section
variable {w W w1:World} {gs g4 g5:Nat} {vs cs cs':Array Value} {uG uK v1:Value} {G G1 K:List Int}
theorem Two.below (h:Two w W gs g4 g5 vs cs uG uK G K) (hb:Below W.heap.size W w1):Two w w1 gs g4 g5 vs cs uG uK G K:=
 ⟨Kd.R_below h.rg hb,Kd.R_below h.rk hb,Zr h.hb hb,Zs h.bs hb,Zs h.b4 hb,Zs h.b5 hb,h.n45,h.g4b,h.g5b⟩
theorem Two.grow {j:Nat} (h:Two w W gs g4 g5 vs cs uG uK G K) (ho:Kd.R (Kd.int .i64) 3 w1 w.heap.size (fun k=>some k≠uK.ownBlock) v1 G1) (hb:Below w.heap.size w w1) (hg:W.grownBy w1 uG.ownBlock) (hat:v1.ownBlock=uG.ownBlock∨∃b,v1.ownBlock=some b∧W.heap.size≤b) (e:cs.setIfInBounds j v1=cs') :
  Two w (w1.setCell ⟨g5,j,none⟩ v1) gs g4 g5 vs cs' v1 uK G1 K∧(w1.heap[g5]? = some (Obj.cells cs 58 (0,0))∧w1.heap[gs]? = some (Obj.cells vs 25 (0,0)))∧∃A c,v1=.slice A G1.length c:=by
 have HR1:=Kd.R_after (ok:=fun _=>True) (Kd.R_mono h.rk (fun _ hk=>⟨trivial,hk⟩)) hg hat
 have c4:=Zad h.b4 hg (Kd.R_ne h.rg h.b4 (by decide))
 have c5:=Zad h.b5 hg (Kd.R_ne h.rg h.b5 (by decide))
 have ss:=Zad h.bs hg (Kd.R_ne h.rg h.bs (by decide))
 exact⟨⟨Kd.R_mono (Kd.R_far (p:=⟨g5,j,none⟩) (Kd.R_types ho c5 (by decide)) (fun _ hk=>hk.2) v1) (fun _ hk=>hk.1),Kd.R_mono (Kd.R_far (p:=⟨g5,j,none⟩) (Kd.R_types HR1 c5 (by decide)) (fun _ hk=>hk.2) v1) (fun _ hk=>hk.1.2),Zt hb h.g5b,ZL ss (p:=⟨g5,j,none⟩) (ZbF ss c5 (by decide)) v1,ZL c4 (p:=⟨g5,j,none⟩) h.n45 v1,ZR c5 j v1 e,h.n45,h.g4b,h.g5b⟩,⟨c5,ss⟩,Kd.R_slice ho⟩
theorem Two.turn (h:Two w W gs g4 g5 vs #[uG,.slice none 0 0] uG uK G K):Two w W gs g4 g5 vs #[uG,.slice none 0 0] (.slice none 0 0) uG [] G:=
 ⟨Kd.R_nil _ _ _ _ _,Kd.R_mono h.rg (fun _ _=>by simp[Value.ownBlock]),h.hb,h.bs,h.b4,h.b5,h.n45,h.g4b,h.g5b⟩
theorem Two.done (h:Two w W gs g4 g5 vs cs uG uK G K) {a b:Value}:Kd.R (Kd.int .i64) 3 ((W.setCell ⟨g4,0,none⟩ a).setCell ⟨g4,1,none⟩ b) w.heap.size (fun k=>some k≠uG.ownBlock) uK K∧Kd.R (Kd.int .i64) 3 ((W.setCell ⟨g4,0,none⟩ a).setCell ⟨g4,1,none⟩ b) w.heap.size (fun k=>some k≠uK.ownBlock) uG G∧Below w.heap.size w ((W.setCell ⟨g4,0,none⟩ a).setCell ⟨g4,1,none⟩ b)∧((W.setCell ⟨g4,0,none⟩ a).setCell ⟨g4,1,none⟩ b).heap[g4]? = some (Obj.cells #[a,b] 58 (0,0)):=
 ⟨Kd.R_mono (Kd.R_far (p:=⟨g4,1,none⟩) (Kd.R_far (p:=⟨g4,0,none⟩) (Kd.R_types h.rk h.b4 (by decide)) (fun _ hk=>hk.2) a) (fun _ hk=>hk.2) b) (fun _ hk=>hk.1),Kd.R_mono (Kd.R_far (p:=⟨g4,1,none⟩) (Kd.R_far (p:=⟨g4,0,none⟩) (Kd.R_types h.rg h.b4 (by decide)) (fun _ hk=>hk.2) a) (fun _ hk=>hk.2) b) (fun _ hk=>hk.1),Zt (Zt h.hb h.g4b) h.g4b,ZR (cs:=#[a,.slice none 0 0]) (ZR (cs:=#[.slice none 0 0,.slice none 0 0]) h.b4 0 a rfl) 1 b rfl⟩
end
end Go.Proofs.YtoeimopgoaffcaaGreatDoor.Pr
