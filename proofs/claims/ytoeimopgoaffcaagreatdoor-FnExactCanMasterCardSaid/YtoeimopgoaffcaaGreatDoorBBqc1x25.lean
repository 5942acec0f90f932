/- The texts of one claim, put together by a program of this session. -/
import Derived.Deep.LoopGhost
import Derived.Deep.RegionHeld3
import Derived.Lib.ItoaNum
import Derived.Lib.Join
import Derived.Test.YtoeimopgoaffcaaGreatDoorBBqc1x1
import Derived.Test.YtoeimopgoaffcaaGreatDoorBBqc1x12
import Derived.Test.YtoeimopgoaffcaaGreatDoorBBqc1x13
import Derived.Test.YtoeimopgoaffcaaGreatDoorBBqc1x14
import Derived.Test.YtoeimopgoaffcaaGreatDoorBBqc1x15
import Derived.Test.YtoeimopgoaffcaaGreatDoorBBqc1x16
import Derived.Test.YtoeimopgoaffcaaGreatDoorBBqc1x17
import Derived.Test.YtoeimopgoaffcaaGreatDoorBBqc1x18
import Derived.Test.YtoeimopgoaffcaaGreatDoorBBqc1x2
import Derived.Test.YtoeimopgoaffcaaGreatDoorBBqc1x20
import Derived.Test.YtoeimopgoaffcaaGreatDoorBBqc1x22
import Derived.Test.YtoeimopgoaffcaaGreatDoorBBqc1x23
import Derived.Test.YtoeimopgoaffcaaGreatDoorBBqc1x24
import Derived.Test.YtoeimopgoaffcaaGreatDoorBBqc1x3
import Derived.Test.YtoeimopgoaffcaaGreatDoorBBqc1x4
import Derived.Test.YtoeimopgoaffcaaGreatDoorBBqc1x6
import Derived.Test.YtoeimopgoaffcaaGreatDoorBBqc1x7
namespace Go.Proofs.YtoeimopgoaffcaaGreatDoor.Pr
open Go.RowKit Go.Proofs.YtoeimopgoaffcaaGreatDoorW.PrintWords Go.Proofs.YtoeimopgoaffcaaGreatDoorW.PrintLast Go.Proofs.YtoeimopgoaffcaaGreatDoorW.PrintMore
attribute [local go_sem] ZW ZU ZZ ZY ZP ZO ZV ZT
set_option linter.unusedVariables false
set_option linter.unusedSimpArgs false
open Go.Proofs.YtoeimopgoaffcaaGreatDoor.Ni
def Zbk.f (k:Nat) (l0_0:List (S39)) (l0_1:List (S82)) (a0_2:Int) (l1_0:List Int) (l1_1:List Int):Option (Int×List S112×Bool):=(Zb5.f k l0_0 l0_1 a0_2 l1_0 l1_1).bind fun t=>(if t=true then((Zy.f k l0_0 l0_1 a0_2 l1_0 l1_1).bind fun b=>((ZaL.f b.1 b.2.1).bind fun t=>(if t=true then(some (b.1,b.2.1,true)) else(some (0,([]:List S112),false))))) else(some (0,([]:List S112),false)))
set_option maxHeartbeats 8000000 in
set_option maxRecDepth 100000 in
theorem Zbk.calls (k:Nat) (A0_0:Option Addr) (c0_0:Nat) (l0_0:List (S39)) (A0_1:Option Addr) (c0_1:Nat) (l0_1:List (S82)) (a0_2:Int) (A1_0:Option Addr) (c1_0:Nat) (l1_0:List Int) (A1_1:Option Addr) (c1_1:Nat) (l1_1:List Int) (r1:Int) (r2:List S112) (r3:Bool) (w:World) (hr0_0:Kd.C k39 w A0_0 l0_0.length l0_0) (hc0_0:l0_0.length≤c0_0) (hr0_1:Kd.C k82 w A0_1 l0_1.length l0_1) (hc0_1:l0_1.length≤c0_1) (hr1_0:Kd.C (Kd.int .i64) w A1_0 l1_0.length l1_0) (hc1_0:l1_0.length≤c1_0) (hr1_1:Kd.C (Kd.int .i64) w A1_1 l1_1.length l1_1) (hc1_1:l1_1.length≤c1_1) (ht:TW w) (h:Zbk.f k l0_0 l0_1 a0_2 l1_0 l1_1=some (r1,r2,r3)) :
  Calls Tryz.prog 32 #[.agg #[.slice A0_0 l0_0.length c0_0,.slice A0_1 l0_1.length c0_1,.int .i64 a0_2],.agg #[.slice A1_0 l1_0.length c1_0,.slice A1_1 l1_1.length c1_1]] w fun e w'=>∃v1_:Value,e=.returned (.tuple #[.agg #[.int .i64 r1,v1_],.bool r3])∧Kd.R k112 112 w' w.heap.size (fun _=>True) v1_ r2∧Below w.heap.size w w':=by
 unfold Zbk.f at h
 obtain⟨b,hb_,h⟩:=Option.bind_eq_some_iff.1 h
 have HCO:=Za fun (W:World) (hb:Below w.heap.size w W)=>Zb5.calls k A0_0 c0_0 l0_0 A0_1 c0_1 l0_1 a0_2 A1_0 c1_0 l1_0 A1_1 c1_1 l1_1 b W (Zb hr0_0 hb) hc0_0 (Zb hr0_1 hb) hc0_1 (Zb hr1_0 hb) hc1_0 (Zb hr1_1 hb) hc1_1 hb_
 have HP:=Za fun (W:World) (q1:Int) (q2:List S112) (q3:List ByteArray) (hb:Below w.heap.size w W) (hP:Zy.f k l0_0 l0_1 a0_2 l1_0 l1_1=some (q1,q2,q3))=>Zy.calls k A0_0 c0_0 l0_0 A0_1 c0_1 l0_1 a0_2 A1_0 c1_0 l1_0 A1_1 c1_1 l1_1 q1 q2 q3 W (Zb hr0_0 hb) hc0_0 (Zb hr0_1 hb) hc0_1 (Zb hr1_0 hb) hc1_0 (Zb hr1_1 hb) hc1_1 (TW.below ht hb) hP
 have HB3:=Za (show Below w.heap.size w (((w.alloc (.cells #[.slice A0_0 l0_0.length c0_0,.slice A0_1 l0_1.length c0_1,.int .i64 a0_2] 25)).alloc (.cells #[.slice A1_0 l1_0.length c1_0,.slice A1_1 l1_1.length c1_1] 58)).alloc (.cells #[.int .i64 0,.slice none 0 0] 54)) from Zn (Zn (Zn (Below.refl w.heap.size w) _) _) _)
 have K:=Za (show(((w.alloc (.cells #[.slice A0_0 l0_0.length c0_0,.slice A0_1 l0_1.length c0_1,.int .i64 a0_2] 25)).alloc (.cells #[.slice A1_0 l1_0.length c1_0,.slice A1_1 l1_1.length c1_1] 58)).alloc (.cells #[.int .i64 0,.slice none 0 0] 54)).cell? ⟨w.heap.size,0,none⟩=some (.slice A0_0 l0_0.length c0_0)∧(((w.alloc (.cells #[.slice A0_0 l0_0.length c0_0,.slice A0_1 l0_1.length c0_1,.int .i64 a0_2] 25)).alloc (.cells #[.slice A1_0 l1_0.length c1_0,.slice A1_1 l1_1.length c1_1] 58)).alloc (.cells #[.int .i64 0,.slice none 0 0] 54)).cell? ⟨w.heap.size,1,none⟩=some (.slice A0_1 l0_1.length c0_1)∧(((w.alloc (.cells #[.slice A0_0 l0_0.length c0_0,.slice A0_1 l0_1.length c0_1,.int .i64 a0_2] 25)).alloc (.cells #[.slice A1_0 l1_0.length c1_0,.slice A1_1 l1_1.length c1_1] 58)).alloc (.cells #[.int .i64 0,.slice none 0 0] 54)).cell? ⟨w.heap.size,2,none⟩=some (.int .i64 a0_2)∧(((w.alloc (.cells #[.slice A0_0 l0_0.length c0_0,.slice A0_1 l0_1.length c0_1,.int .i64 a0_2] 25)).alloc (.cells #[.slice A1_0 l1_0.length c1_0,.slice A1_1 l1_1.length c1_1] 58)).alloc (.cells #[.int .i64 0,.slice none 0 0] 54)).cell? ⟨w.heap.size+1,0,none⟩=some (.slice A1_0 l1_0.length c1_0)∧(((w.alloc (.cells #[.slice A0_0 l0_0.length c0_0,.slice A0_1 l0_1.length c0_1,.int .i64 a0_2] 25)).alloc (.cells #[.slice A1_0 l1_0.length c1_0,.slice A1_1 l1_1.length c1_1] 58)).alloc (.cells #[.int .i64 0,.slice none 0 0] 54)).cell? ⟨w.heap.size+1,1,none⟩=some (.slice A1_1 l1_1.length c1_1) from⟨by go_simp,by go_simp,by go_simp,by go_simp,by go_simp⟩)
 have B0:=Za (show(((w.alloc (.cells #[.slice A0_0 l0_0.length c0_0,.slice A0_1 l0_1.length c0_1,.int .i64 a0_2] 25)).alloc (.cells #[.slice A1_0 l1_0.length c1_0,.slice A1_1 l1_1.length c1_1] 58)).alloc (.cells #[.int .i64 0,.slice none 0 0] 54)).heap[w.heap.size+2]? = some (Obj.cells #[.int .i64 0,.slice none 0 0] 54 (0,0)) by
  have h_:=Zcs ((w.alloc (.cells #[.slice A0_0 l0_0.length c0_0,.slice A0_1 l0_1.length c0_1,.int .i64 a0_2] 25)).alloc (.cells #[.slice A1_0 l1_0.length c1_0,.slice A1_1 l1_1.length c1_1] 58)) (.cells #[.int .i64 0,.slice none 0 0] 54)
  simpa using h_)
 have HN:=Za (Nat.le_add_right w.heap.size 2)
 have hu:=Tryz.underlying25
 have hu2:=Tryz.underlying58
 have hu3:=Tryz.underlying54
 clear hr0_0 hc0_0 hr0_1 hc0_1 hr1_0 hc1_0 hr1_1 hc1_1 hb_ ht
 cases b with
 | false=>
  obtain⟨e1,e2,e3⟩:(0:Int)=r1∧[]=r2∧false=r3:=by
   have h_:=Zg ((if_neg (by simp)).symm.trans h)
   exact⟨congrArg Prod.fst h_,congrArg (fun z=>z.2.1) h_,congrArg (fun z=>z.2.2) h_⟩
  subst e1;subst e2;subst e3;clear h HP
  go_enter Tryz.func32,Tryz.ntmps32
  go_wp2_with (go_at_call 103;refine(HCO.out _ HB3.out).mono ?_;rintro e w4 ⟨rfl,hb⟩;have k0:=Zz hb K.out.1;have k1:=Zz hb K.out.2.1;have k2:=Zz hb K.out.2.2.1;have m0:=Zz hb K.out.2.2.2.1;have m1:=Zz hb K.out.2.2.2.2;have B4:=Za (ZA B0.out hb);have z0:w4.cell? ⟨w.heap.size+2,0,none⟩=some (.int .i64 0):=(Zp B4.out 0).trans rfl;have z1:w4.cell? ⟨w.heap.size+2,1,none⟩=some (.slice none 0 0):=(Zp B4.out 1).trans rfl;have fz0:=Zv B4.out 0;have fz1:=Zv B4.out 1;have HB4:=Za (HB3.out.trans (hb.mono HB3.out.size));clear hb)
  refine bodyPost_ret (Zb8 rfl _ _ (w.heap.size+2) 54 #[.int .i64 0,.slice none 0 0] (0,0) _ rfl (Z1 (cs:=#[.int .i64 0,.slice none 0 0]) (Z1 (cs:=#[.int .i64 0,.slice none 0 0]) B4.out 0 _ rfl) 1 _ rfl) Tryz.underlying54 rfl (by kernel_rfl)) rfl ?_
  exact⟨_,rfl,Kd.R_nil _ _ _ _ _,Zq (Zq HB4.out HN.out) HN.out⟩
 | true=>
  replace h:=(if_pos rfl).symm.trans h
  obtain⟨⟨q1,q2,q3⟩,hP,h⟩:=Option.bind_eq_some_iff.1 h
  dsimp only at h
  obtain⟨c,hC,h⟩:=Option.bind_eq_some_iff.1 h
  have HPJ:=Za fun (W:World) (hb:Below w.heap.size w W)=>HP.out W q1 q2 q3 hb hP
  have HS:=Za fun (W:World) (A:Option Addr) (c_:Nat) (hc:q2.length≤c_) (hr:Kd.C k112 W A q2.length q2)=>ZaL.calls q1 A c_ q2 c W hr hc hC
  clear hP hC HP
  cases c with
  | false=>
   obtain⟨e1,e2,e3⟩:(0:Int)=r1∧[]=r2∧false=r3:=by
    have h_:=Zg ((if_neg (by simp)).symm.trans h)
    exact⟨congrArg Prod.fst h_,congrArg (fun z=>z.2.1) h_,congrArg (fun z=>z.2.2) h_⟩
   subst e1;subst e2;subst e3;clear h
   go_enter Tryz.func32,Tryz.ntmps32
   go_wp2_with (first|(go_at_call 103;refine(HCO.out _ HB3.out).mono ?_;rintro e w4 ⟨rfl,hb⟩;have k0:=Zz hb K.out.1;have k1:=Zz hb K.out.2.1;have k2:=Zz hb K.out.2.2.1;have m0:=Zz hb K.out.2.2.2.1;have m1:=Zz hb K.out.2.2.2.2;have B4:=Za (ZA B0.out hb);have z0:w4.cell? ⟨w.heap.size+2,0,none⟩=some (.int .i64 0):=(Zp B4.out 0).trans rfl;have z1:w4.cell? ⟨w.heap.size+2,1,none⟩=some (.slice none 0 0):=(Zp B4.out 1).trans rfl;have fz0:=Zv B4.out 0;have fz1:=Zv B4.out 1;have HB4:=Za (HB3.out.trans (hb.mono HB3.out.size));clear hb)|(go_at_call 104;refine(HPJ.out _ HB4.out).mono ?_;rintro e w5 ⟨v1,v2,rfl,ho,ho2,hb⟩;obtain⟨A5,c5,e5⟩:=Kd.R_slice ho;subst e5;obtain⟨A6,c6,e6⟩:=Kd.R_slice ho2;subst e6;have HO:=Za (Kd.R_lower ho HB4.out.size);have B5:=Za (ZA B4.out hb);have HB5:=Za (HB4.out.trans (hb.mono HB4.out.size));clear ho ho2 hb k0 k1 k2 m0 m1 z0 z1 fz0 fz1)|(go_at_call 105;refine(HS.out _ A5 c5 (Kd.R_reads' HO.out).2.1 (Zb (Kd.R_reads' HO.out).2.2 (Zn (Below.refl _ _) _))).mono ?_;rintro e w6 ⟨rfl,hb⟩;have B6:=Za (ZA (Zr B5.out _) hb);have B7:=Za (ZA (Zcs w5 (.cells #[.int .i64 q1,.slice A5 q2.length c5] 54)) hb);have HO6:=Za (Kd.R_below (Kd.R_alloc HO.out _) hb);have HB6:=Za (Zw (Zn HB5.out _) hb);have y0:w6.cell? ⟨w5.heap.size,0,none⟩=some (.int .i64 q1):=(Zp B7.out 0).trans rfl;have y1:w6.cell? ⟨w5.heap.size,1,none⟩=some (.slice A5 q2.length c5):=(Zp B7.out 1).trans rfl;have z0:w6.cell? ⟨w.heap.size+2,0,none⟩=some (.int .i64 0):=(Zp B6.out 0).trans rfl;have z1:w6.cell? ⟨w.heap.size+2,1,none⟩=some (.slice none 0 0):=(Zp B6.out 1).trans rfl;have fz0:=Zv B6.out 0;have fz1:=Zv B6.out 1;clear hb))
   refine bodyPost_ret (Zb8 rfl _ _ (w.heap.size+2) 54 #[.int .i64 0,.slice none 0 0] (0,0) _ rfl (Z1 (cs:=#[.int .i64 0,.slice none 0 0]) (Z1 (cs:=#[.int .i64 0,.slice none 0 0]) B6.out 0 _ rfl) 1 _ rfl) Tryz.underlying54 rfl (by kernel_rfl)) rfl ?_
   exact⟨_,rfl,Kd.R_nil _ _ _ _ _,Zq (Zq HB6.out HN.out) HN.out⟩
  | true=>
   obtain⟨e1,e2,e3⟩:q1=r1∧q2=r2∧true=r3:=by
    have h_:=Zg ((if_pos rfl).symm.trans h)
    exact⟨congrArg Prod.fst h_,congrArg (fun z=>z.2.1) h_,congrArg (fun z=>z.2.2) h_⟩
   subst e1;subst e2;subst e3;clear h
   go_enter Tryz.func32,Tryz.ntmps32
   go_wp2_with (first|(go_at_call 103;refine(HCO.out _ HB3.out).mono ?_;rintro e w4 ⟨rfl,hb⟩;have k0:=Zz hb K.out.1;have k1:=Zz hb K.out.2.1;have k2:=Zz hb K.out.2.2.1;have m0:=Zz hb K.out.2.2.2.1;have m1:=Zz hb K.out.2.2.2.2;have B4:=Za (ZA B0.out hb);have z0:w4.cell? ⟨w.heap.size+2,0,none⟩=some (.int .i64 0):=(Zp B4.out 0).trans rfl;have z1:w4.cell? ⟨w.heap.size+2,1,none⟩=some (.slice none 0 0):=(Zp B4.out 1).trans rfl;have fz0:=Zv B4.out 0;have fz1:=Zv B4.out 1;have HB4:=Za (HB3.out.trans (hb.mono HB3.out.size));clear hb)|(go_at_call 104;refine(HPJ.out _ HB4.out).mono ?_;rintro e w5 ⟨v1,v2,rfl,ho,ho2,hb⟩;obtain⟨A5,c5,e5⟩:=Kd.R_slice ho;subst e5;obtain⟨A6,c6,e6⟩:=Kd.R_slice ho2;subst e6;have HO:=Za (Kd.R_lower ho HB4.out.size);have B5:=Za (ZA B4.out hb);have HB5:=Za (HB4.out.trans (hb.mono HB4.out.size));clear ho ho2 hb k0 k1 k2 m0 m1 z0 z1 fz0 fz1)|(go_at_call 105;refine(HS.out _ A5 c5 (Kd.R_reads' HO.out).2.1 (Zb (Kd.R_reads' HO.out).2.2 (Zn (Below.refl _ _) _))).mono ?_;rintro e w6 ⟨rfl,hb⟩;have B6:=Za (ZA (Zr B5.out _) hb);have B7:=Za (ZA (Zcs w5 (.cells #[.int .i64 q1,.slice A5 q2.length c5] 54)) hb);have HO6:=Za (Kd.R_below (Kd.R_alloc HO.out _) hb);have HB6:=Za (Zw (Zn HB5.out _) hb);have y0:w6.cell? ⟨w5.heap.size,0,none⟩=some (.int .i64 q1):=(Zp B7.out 0).trans rfl;have y1:w6.cell? ⟨w5.heap.size,1,none⟩=some (.slice A5 q2.length c5):=(Zp B7.out 1).trans rfl;have z0:w6.cell? ⟨w.heap.size+2,0,none⟩=some (.int .i64 0):=(Zp B6.out 0).trans rfl;have z1:w6.cell? ⟨w.heap.size+2,1,none⟩=some (.slice none 0 0):=(Zp B6.out 1).trans rfl;have fz0:=Zv B6.out 0;have fz1:=Zv B6.out 1;clear hb))
   refine bodyPost_ret (Zb8 rfl _ _ (w.heap.size+2) 54 #[.int .i64 q1,.slice A5 q2.length c5] (0,0) _ rfl (Z1 (cs:=#[.int .i64 q1,.slice none 0 0]) (Z1 (cs:=#[.int .i64 0,.slice none 0 0]) B6.out 0 _ rfl) 1 _ rfl) Tryz.underlying54 rfl (by kernel_rfl)) rfl ?_
   exact⟨_,rfl,Kd.R_mono (Kd.R_far (p:=⟨w.heap.size+2,1,none⟩) (Kd.R_far (p:=⟨w.heap.size+2,0,none⟩) (Kd.R_types HO6.out B6.out (by decide)) (fun _ hk=>hk.2) _) (fun _ hk=>hk.2) _) (fun _ _=>trivial),Zq (Zq HB6.out HN.out) HN.out⟩
def ZbF.f (k:Nat) (l0_0:List (S39)) (l0_1:List (S82)) (a0_2:Int) (l1_0:List Int) (l1_1:List Int):Option Bool:=(Zbk.f k l0_0 l0_1 a0_2 l1_0 l1_1).bind fun b=>(if b.2.2=true then((Zbd.f k b.1 b.2.1).bind fun t=>(some t)) else(some false))
set_option maxHeartbeats 8000000 in
set_option maxRecDepth 100000 in
theorem ZbF.calls (k:Nat) (A0_0:Option Addr) (c0_0:Nat) (l0_0:List (S39)) (A0_1:Option Addr) (c0_1:Nat) (l0_1:List (S82)) (a0_2:Int) (A1_0:Option Addr) (c1_0:Nat) (l1_0:List Int) (A1_1:Option Addr) (c1_1:Nat) (l1_1:List Int) (r:Bool) (w:World) (hr0_0:Kd.C k39 w A0_0 l0_0.length l0_0) (hc0_0:l0_0.length≤c0_0) (hr0_1:Kd.C k82 w A0_1 l0_1.length l0_1) (hc0_1:l0_1.length≤c0_1) (hr1_0:Kd.C (Kd.int .i64) w A1_0 l1_0.length l1_0) (hc1_0:l1_0.length≤c1_0) (hr1_1:Kd.C (Kd.int .i64) w A1_1 l1_1.length l1_1) (hc1_1:l1_1.length≤c1_1) (ht:TW w) (h:ZbF.f k l0_0 l0_1 a0_2 l1_0 l1_1=some r) :
  Calls Tryz.prog 39 #[.agg #[.slice A0_0 l0_0.length c0_0,.slice A0_1 l0_1.length c0_1,.int .i64 a0_2],.agg #[.slice A1_0 l1_0.length c1_0,.slice A1_1 l1_1.length c1_1]] w fun e w'=>e=.returned (.bool r)∧Below w.heap.size w w':=by
 unfold ZbF.f at h
 obtain⟨⟨q1,q2,q3⟩,hP,h⟩:=Option.bind_eq_some_iff.1 h
 have HP:=Za fun (W:World) (hb:Below w.heap.size w W)=>Zbk.calls k A0_0 c0_0 l0_0 A0_1 c0_1 l0_1 a0_2 A1_0 c1_0 l1_0 A1_1 c1_1 l1_1 q1 q2 q3 W (Zb hr0_0 hb) hc0_0 (Zb hr0_1 hb) hc0_1 (Zb hr1_0 hb) hc1_0 (Zb hr1_1 hb) hc1_1 (TW.below ht hb) hP
 have HB2:=Za (show Below w.heap.size w ((w.alloc (.cells #[.slice A0_0 l0_0.length c0_0,.slice A0_1 l0_1.length c0_1,.int .i64 a0_2] 25)).alloc (.cells #[.slice A1_0 l1_0.length c1_0,.slice A1_1 l1_1.length c1_1] 58)) from Zn (Zn (Below.refl w.heap.size w) _) _)
 have hu:=Tryz.underlying25
 have hu2:=Tryz.underlying58
 have hu3:=Tryz.underlying54
 dsimp only at h
 clear hr0_0 hc0_0 hr0_1 hc0_1 hr1_0 hc1_0 hr1_1 hc1_1 hP ht
 cases q3 with
 | false=>
  rw[if_neg (by simp)] at h
  obtain rfl:=Zg h
  clear h
  go_enter Tryz.func39,Tryz.ntmps39
  go_wp2_with (go_at_call 32;refine(HP.out _ HB2.out).mono ?_;rintro e w3 ⟨v1,rfl,ho,hb⟩;obtain⟨A3,c3,e3⟩:=Kd.R_slice ho;subst e3;have HB3:=Za (HB2.out.trans (hb.mono HB2.out.size));clear ho hb)
  go_ret
  exact⟨rfl,by repeat(first|exact HB3.out|apply Zn|apply Zm|apply Zo)⟩
 | true=>
  rw[if_pos rfl] at h
  obtain⟨t,hC,hr⟩:=Option.bind_eq_some_iff.1 h
  obtain rfl:=Zg hr
  have HC:=Za fun (W:World) (A:Option Addr) (c:Nat) (hc:q2.length≤c) (hr:Kd.C k112 W A q2.length q2)=>Zbd.calls k q1 A c q2 t W hr hc hC
  clear h hr hC
  go_enter Tryz.func39,Tryz.ntmps39
  go_wp2_with (first|(go_at_call 32;refine(HP.out _ HB2.out).mono ?_;rintro e w3 ⟨v1,rfl,ho,hb⟩;obtain⟨A3,c3,e3⟩:=Kd.R_slice ho;subst e3;have HO:=Za (Kd.R_reads' ho).2;have HB3:=Za (HB2.out.trans (hb.mono HB2.out.size));clear ho hb)|(go_at_call 112;refine(HC.out _ A3 c3 HO.out.1 (Zb HO.out.2 (Zn (Below.refl _ _) _))).mono ?_;rintro e w4 ⟨rfl,hb⟩;have HB4:=Za (Zw (Zn HB3.out _) hb);clear hb))
  go_ret
  exact⟨rfl,HB4.out⟩
set_option maxHeartbeats 4000000 in
set_option maxRecDepth 100000 in
theorem laws_eqNode.same (a0:ByteArray) (A1:Option Addr) (c1:Nat) (A1':Option Addr) (c1':Nat) (l1:List Int) (a2:Int) (w:World) (hr1:Kd.C (Kd.int .i64) w A1 l1.length l1) (hc1:l1.length≤c1) (hr1':Kd.C (Kd.int .i64) w A1' l1.length l1) (hc1':l1.length≤c1') :
  Calls Tryz.prog 137 #[.agg #[.string a0,.slice A1 l1.length c1,.int .i64 a2],.agg #[.string a0,.slice A1' l1.length c1',.int .i64 a2]] w fun e w'=>e=.returned (.bool true)∧Below w.heap.size w w':=by
 have hu:=Tryz.underlying39
 have H1:=Za fun (W:World) (hb:Below w.heap.size w W)=>(ZaI.calls (2 ^ 64) A1 c1 l1 A1' c1' l1 true W (Zb hr1 hb) hc1 (Zb hr1' hb) hc1' (ZdO l1 hr1.2.1 (2 ^ 64) (Nat.le_refl _))).mono fun e w' ⟨he,hd⟩=>(And.intro he hd.below:e=Ending.returned (.bool true)∧Below W.heap.size W w')
 clear hr1 hc1 hr1' hc1'
 have HB0:=Za (Zn (Zn (Below.refl w.heap.size w) (.cells #[.string a0,.slice A1 l1.length c1,.int .i64 a2] 39)) (.cells #[.string a0,.slice A1' l1.length c1',.int .i64 a2] 39))
 go_enter Tryz.func137,Tryz.ntmps137
 go_wp2_with fail
 refine(H1.out _ HB0.out).mono ?_
 rintro e w1 ⟨rfl,hb⟩
 have HB1:=Za (HB0.out.trans (hb.mono HB0.out.size))
 have s2:w1.cell? ⟨w.heap.size,2,none⟩=some (.int .i64 a2):=Zz hb (by go_simp)
 have t2:w1.cell? ⟨w.heap.size+1,2,none⟩=some (.int .i64 a2):=Zz hb (by go_simp)
 clear hb
 go_wp2
 go_ret
 exact⟨rfl,HB1.out⟩
set_option maxHeartbeats 4000000 in
set_option maxRecDepth 100000 in
theorem laws_eqNodeS.same (A0:Option Addr) (c0:Nat) (A0':Option Addr) (c0':Nat) (l0:List (S39)) (w:World) (hr0:Kd.C k39 w A0 l0.length l0) (hc0:l0.length≤c0) (hr0':Kd.C k39 w A0' l0.length l0) (hc0':l0.length≤c0') :
  Calls Tryz.prog 62 #[.slice A0 l0.length c0,.slice A0' l0.length c0'] w fun e w'=>e=.returned (.bool true)∧Below w.heap.size w w':=by
 have hL:l0.length≤9223372036854775807:=hr0.2.1
 have HR:=Za hr0
 have HS:=Za hr0'
 clear hr0 hr0'
 go_enter Tryz.func62,Tryz.ntmps62
 go_wp2
 go_loopg [5] l0.length (fun gg s5 wr=>∃kk:Nat,Aside0 (kk≤l0.length)∧Aside0 (l0.length - kk≤gg)∧s5=.int .i64 kk∧Aside0 (Below w.heap.size w wr))
 case atStart=>exact⟨0,⟨Nat.zero_le _⟩,⟨by omega⟩,rfl,⟨Below.refl _ _⟩⟩
 case round=>
  obtain⟨kk,HK,HG,rfl,HBr⟩:=hrel
  by_cases hlt:kk<l0.length
  ·have hltz:(kk:Int)<(l0.length:Int):=by omega
   obtain⟨adx,A1x,c1x,ex,hx0,hx1,hx2,l1x,g1x⟩:=ZaV HR.out (kk:Int) (by omega) hltz
   obtain⟨ady,A1y,c1y,ey,hy0,hy1,hy2,l1y,g1y⟩:=ZaV HS.out (kk:Int) (by omega) hltz
   cases ex
   cases ey
   rw[Int.toNat_natCast] at hx0 hx1 hx2 hy0 hy1 hy2
   generalize ZH l0 (kk:Int)=y at hx0 hx1 hx2 l1x g1x hy0 hy1 hy2 l1y g1y
   replace hx0:=Zz HBr.out hx0
   replace hx1:=Zz HBr.out hx1
   replace hx2:=Zz HBr.out hx2
   replace hy0:=Zz HBr.out hy0
   replace hy1:=Zz HBr.out hy1
   replace hy2:=Zz HBr.out hy2
   have hltx:=Zc wr _ hx0
   have hlty:=Zc wr _ hy0
   have G1x:=Za g1x;have G1y:=Za g1y;clear g1x g1y
   go_wp2_with fail
   go_region_held3 (fun w'=>Below wr.heap.size wr w'∧w'.cell? (adx.add (kk * 3))=some (.string y.f0)∧w'.cell? ⟨(adx.add (kk * 3)).block,(adx.add (kk * 3)).off+1,none⟩=some (.slice A1x y.f1.length c1x)∧w'.cell? ⟨(adx.add (kk * 3)).block,(adx.add (kk * 3)).off+2,none⟩=some (.int .i64 y.f2)∧w'.cell? (ady.add (kk * 3))=some (.string y.f0)∧w'.cell? ⟨(ady.add (kk * 3)).block,(ady.add (kk * 3)).off+1,none⟩=some (.slice A1y y.f1.length c1y)∧w'.cell? ⟨(ady.add (kk * 3)).block,(ady.add (kk * 3)).off+2,none⟩=some (.int .i64 y.f2))
    (first|(refine⟨by repeat(first|(with_reducible first|exact Below.refl _ _|apply Zn|apply Zm|apply Zo|exact(‹Below wr.heap.size wr _∧_› : Below wr.heap.size wr _∧_).1)|exact Below.refl _ _),?_⟩;go_simp;done)|(have HQ_:=Zw (‹Below wr.heap.size wr _∧_› : Below wr.heap.size wr _∧_).1 hb;exact⟨HQ_,Zz HQ_ hx0,Zz HQ_ hx1,Zz HQ_ hx2,Zz HQ_ hy0,Zz HQ_ hy1,Zz HQ_ hy2⟩))
    (first|(go_at_call 137;(refine(laws_eqNode.same y.f0 A1x c1x A1y c1y y.f1 y.f2 _ ?p0 l1x ?p1 l1y).mono ?_);(case p0=>exact(Zb (Zb G1x.out HBr.out) (‹Below wr.heap.size wr _∧_› : Below wr.heap.size wr _∧_).1));(case p1=>exact(Zb (Zb G1y.out HBr.out) (‹Below wr.heap.size wr _∧_› : Below wr.heap.size wr _∧_).1));rintro e w3 ⟨rfl,hb⟩))
   have HB3:=Za (‹Below wr.heap.size wr w3∧_› : Below wr.heap.size wr w3∧_).1
   go_wp2
   go_roundg (l0.length - (kk+1))
   case measure=>have:=HG.out;omega
   case rel=>exact⟨kk+1,⟨by omega⟩,⟨by omega⟩,by go_num,⟨HBr.out.trans (HB3.out.mono HBr.out.size)⟩⟩
  ·have hltz:¬(kk:Int)<(l0.length:Int):=by omega
   have:kk=l0.length:=by have:=HK.out;omega
   subst this
   go_wp2
   go_ret
   exact⟨rfl,HBr.out⟩
set_option maxHeartbeats 4000000 in
set_option maxRecDepth 100000 in
theorem laws_eqTie.same (a0:Int) (a1:Int) (a2:Int) (a3:Int) (a4:Bool) (w:World)  :
  Calls Tryz.prog 138 #[.agg #[.int .i64 a0,.int .i64 a1,.int .i64 a2,.int .i64 a3,.bool a4],.agg #[.int .i64 a0,.int .i64 a1,.int .i64 a2,.int .i64 a3,.bool a4]] w fun e w'=>e=.returned (.bool true)∧Below w.heap.size w w':=by
 have hu:=Tryz.underlying82
 have HB0:=Za (Zn (Zn (Below.refl w.heap.size w) (.cells #[.int .i64 a0,.int .i64 a1,.int .i64 a2,.int .i64 a3,.bool a4] 82)) (.cells #[.int .i64 a0,.int .i64 a1,.int .i64 a2,.int .i64 a3,.bool a4] 82))
 go_enter Tryz.func138,Tryz.ntmps138
 go_wp2
 go_ret
 exact⟨rfl,by repeat(first|exact Below.refl _ _|apply Zn|apply Zm|apply Zax)⟩
set_option maxHeartbeats 4000000 in
set_option maxRecDepth 100000 in
theorem laws_eqTieS.same (A0:Option Addr) (c0:Nat) (A0':Option Addr) (c0':Nat) (l0:List (S82)) (w:World) (hr0:Kd.C k82 w A0 l0.length l0) (hc0:l0.length≤c0) (hr0':Kd.C k82 w A0' l0.length l0) (hc0':l0.length≤c0') :
  Calls Tryz.prog 63 #[.slice A0 l0.length c0,.slice A0' l0.length c0'] w fun e w'=>e=.returned (.bool true)∧Below w.heap.size w w':=by
 have hL:l0.length≤9223372036854775807:=hr0.2.1
 have HR:=Za hr0
 have HS:=Za hr0'
 clear hr0 hr0'
 go_enter Tryz.func63,Tryz.ntmps63
 go_wp2
 go_loopg [5] l0.length (fun gg s5 wr=>∃kk:Nat,Aside0 (kk≤l0.length)∧Aside0 (l0.length - kk≤gg)∧s5=.int .i64 kk∧Aside0 (Below w.heap.size w wr))
 case atStart=>exact⟨0,⟨Nat.zero_le _⟩,⟨by omega⟩,rfl,⟨Below.refl _ _⟩⟩
 case round=>
  obtain⟨kk,HK,HG,rfl,HBr⟩:=hrel
  by_cases hlt:kk<l0.length
  ·have hltz:(kk:Int)<(l0.length:Int):=by omega
   obtain⟨adx,ex,hx0,hx1,hx2,hx3,hx4⟩:=ZbN HR.out (kk:Int) (by omega) hltz
   obtain⟨ady,ey,hy0,hy1,hy2,hy3,hy4⟩:=ZbN HS.out (kk:Int) (by omega) hltz
   cases ex
   cases ey
   rw[Int.toNat_natCast] at hx0 hx1 hx2 hx3 hx4 hy0 hy1 hy2 hy3 hy4
   generalize ZD l0 (kk:Int)=y at hx0 hx1 hx2 hx3 hx4 hy0 hy1 hy2 hy3 hy4
   replace hx0:=Zz HBr.out hx0
   replace hx1:=Zz HBr.out hx1
   replace hx2:=Zz HBr.out hx2
   replace hx3:=Zz HBr.out hx3
   replace hx4:=Zz HBr.out hx4
   replace hy0:=Zz HBr.out hy0
   replace hy1:=Zz HBr.out hy1
   replace hy2:=Zz HBr.out hy2
   replace hy3:=Zz HBr.out hy3
   replace hy4:=Zz HBr.out hy4
   have hltx:=Zc wr _ hx0
   have hlty:=Zc wr _ hy0
   go_wp2_with fail
   go_region_held3 (fun w'=>Below wr.heap.size wr w'∧w'.cell? (adx.add (kk * 5))=some (.int .i64 y.f0)∧w'.cell? ⟨(adx.add (kk * 5)).block,(adx.add (kk * 5)).off+1,none⟩=some (.int .i64 y.f1)∧w'.cell? ⟨(adx.add (kk * 5)).block,(adx.add (kk * 5)).off+2,none⟩=some (.int .i64 y.f2)∧w'.cell? ⟨(adx.add (kk * 5)).block,(adx.add (kk * 5)).off+3,none⟩=some (.int .i64 y.f3)∧w'.cell? ⟨(adx.add (kk * 5)).block,(adx.add (kk * 5)).off+4,none⟩=some (.bool y.f4)∧w'.cell? (ady.add (kk * 5))=some (.int .i64 y.f0)∧w'.cell? ⟨(ady.add (kk * 5)).block,(ady.add (kk * 5)).off+1,none⟩=some (.int .i64 y.f1)∧w'.cell? ⟨(ady.add (kk * 5)).block,(ady.add (kk * 5)).off+2,none⟩=some (.int .i64 y.f2)∧w'.cell? ⟨(ady.add (kk * 5)).block,(ady.add (kk * 5)).off+3,none⟩=some (.int .i64 y.f3)∧w'.cell? ⟨(ady.add (kk * 5)).block,(ady.add (kk * 5)).off+4,none⟩=some (.bool y.f4))
    (first|(refine⟨by repeat(first|(with_reducible first|exact Below.refl _ _|apply Zn|apply Zm|apply Zo|exact(‹Below wr.heap.size wr _∧_› : Below wr.heap.size wr _∧_).1)|exact Below.refl _ _),?_⟩;go_simp;done)|(have HQ_:=Zw (‹Below wr.heap.size wr _∧_› : Below wr.heap.size wr _∧_).1 hb;exact⟨HQ_,Zz HQ_ hx0,Zz HQ_ hx1,Zz HQ_ hx2,Zz HQ_ hx3,Zz HQ_ hx4,Zz HQ_ hy0,Zz HQ_ hy1,Zz HQ_ hy2,Zz HQ_ hy3,Zz HQ_ hy4⟩))
    (first|(go_at_call 138;(refine(laws_eqTie.same y.f0 y.f1 y.f2 y.f3 y.f4 _ ).mono ?_);rintro e w3 ⟨rfl,hb⟩))
   have HB3:=Za (‹Below wr.heap.size wr w3∧_› : Below wr.heap.size wr w3∧_).1
   go_wp2
   go_roundg (l0.length - (kk+1))
   case measure=>have:=HG.out;omega
   case rel=>exact⟨kk+1,⟨by omega⟩,⟨by omega⟩,by go_num,⟨HBr.out.trans (HB3.out.mono HBr.out.size)⟩⟩
  ·have hltz:¬(kk:Int)<(l0.length:Int):=by omega
   have:kk=l0.length:=by have:=HK.out;omega
   subst this
   go_wp2
   go_ret
   exact⟨rfl,HBr.out⟩
set_option maxHeartbeats 4000000 in
set_option maxRecDepth 100000 in
theorem laws_eqShow.same (A0:Option Addr) (c0:Nat) (A0':Option Addr) (c0':Nat) (l0:List (S39)) (A1:Option Addr) (c1:Nat) (A1':Option Addr) (c1':Nat) (l1:List (S82)) (a2:Int) (w:World) (hr0:Kd.C k39 w A0 l0.length l0) (hc0:l0.length≤c0) (hr0':Kd.C k39 w A0' l0.length l0) (hc0':l0.length≤c0') (hr1:Kd.C k82 w A1 l1.length l1) (hc1:l1.length≤c1) (hr1':Kd.C k82 w A1' l1.length l1) (hc1':l1.length≤c1') :
  Calls Tryz.prog 13 #[.agg #[.slice A0 l0.length c0,.slice A1 l1.length c1,.int .i64 a2],.agg #[.slice A0' l0.length c0',.slice A1' l1.length c1',.int .i64 a2]] w fun e w'=>e=.returned (.bool true)∧Below w.heap.size w w':=by
 have hu:=Tryz.underlying25
 have H0:=Za fun (W:World) (hb:Below w.heap.size w W)=>laws_eqNodeS.same A0 c0 A0' c0' l0 W (Zb hr0 hb) hc0 (Zb hr0' hb) hc0'
 have H1:=Za fun (W:World) (hb:Below w.heap.size w W)=>laws_eqTieS.same A1 c1 A1' c1' l1 W (Zb hr1 hb) hc1 (Zb hr1' hb) hc1'
 clear hr0 hc0 hr0' hc0' hr1 hc1 hr1' hc1'
 have HB0:=Za (Zn (Zn (Below.refl w.heap.size w) (.cells #[.slice A0 l0.length c0,.slice A1 l1.length c1,.int .i64 a2] 25)) (.cells #[.slice A0' l0.length c0',.slice A1' l1.length c1',.int .i64 a2] 25))
 go_enter Tryz.func13,Tryz.ntmps13
 go_wp2_with fail
 refine(H0.out _ HB0.out).mono ?_
 rintro e w1 ⟨rfl,hb⟩
 have HB1:=Za (HB0.out.trans (hb.mono HB0.out.size))
 have s1:w1.cell? ⟨w.heap.size,1,none⟩=some (.slice A1 l1.length c1):=Zz hb (by go_simp)
 have t1:w1.cell? ⟨w.heap.size+1,1,none⟩=some (.slice A1' l1.length c1'):=Zz hb (by go_simp)
 have s2:w1.cell? ⟨w.heap.size,2,none⟩=some (.int .i64 a2):=Zz hb (by go_simp)
 have t2:w1.cell? ⟨w.heap.size+1,2,none⟩=some (.int .i64 a2):=Zz hb (by go_simp)
 clear hb
 go_wp2_with fail
 refine(H1.out _ HB1.out).mono ?_
 rintro e w2 ⟨rfl,hb⟩
 have HB2:=Za (HB1.out.trans (hb.mono HB1.out.size))
 replace s2:=Zz hb s2
 replace t2:=Zz hb t2
 clear hb s1 t1
 go_wp2
 go_ret
 exact⟨rfl,HB2.out⟩
set_option maxHeartbeats 4000000 in
set_option maxRecDepth 100000 in
theorem Zf8.same (A0:Option Addr) (c0:Nat) (A0':Option Addr) (c0':Nat) (l0:List Int) (A1:Option Addr) (c1:Nat) (A1':Option Addr) (c1':Nat) (l1:List Int) (w:World) (hr0:Kd.C (Kd.int .i64) w A0 l0.length l0) (hc0:l0.length≤c0) (hr0':Kd.C (Kd.int .i64) w A0' l0.length l0) (hc0':l0.length≤c0') (hr1:Kd.C (Kd.int .i64) w A1 l1.length l1) (hc1:l1.length≤c1) (hr1':Kd.C (Kd.int .i64) w A1' l1.length l1) (hc1':l1.length≤c1') :
  Calls Tryz.prog 34 #[.agg #[.slice A0 l0.length c0,.slice A1 l1.length c1],.agg #[.slice A0' l0.length c0',.slice A1' l1.length c1']] w fun e w'=>e=.returned (.bool true)∧Below w.heap.size w w':=by
 have hu:=Tryz.underlying58
 have H0:=Za fun (W:World) (hb:Below w.heap.size w W)=>(ZaI.calls (2 ^ 64) A0 c0 l0 A0' c0' l0 true W (Zb hr0 hb) hc0 (Zb hr0' hb) hc0' (ZdO l0 hr0.2.1 (2 ^ 64) (Nat.le_refl _))).mono fun e w' ⟨he,hd⟩=>(And.intro he hd.below:e=Ending.returned (.bool true)∧Below W.heap.size W w')
 have H1:=Za fun (W:World) (hb:Below w.heap.size w W)=>(ZaI.calls (2 ^ 64) A1 c1 l1 A1' c1' l1 true W (Zb hr1 hb) hc1 (Zb hr1' hb) hc1' (ZdO l1 hr1.2.1 (2 ^ 64) (Nat.le_refl _))).mono fun e w' ⟨he,hd⟩=>(And.intro he hd.below:e=Ending.returned (.bool true)∧Below W.heap.size W w')
 clear hr0 hc0 hr0' hc0' hr1 hc1 hr1' hc1'
 have HB0:=Za (Zn (Zn (Below.refl w.heap.size w) (.cells #[.slice A0 l0.length c0,.slice A1 l1.length c1] 58)) (.cells #[.slice A0' l0.length c0',.slice A1' l1.length c1'] 58))
 go_enter Tryz.func34,Tryz.ntmps34
 go_wp2_with fail
 refine(H0.out _ HB0.out).mono ?_
 rintro e w1 ⟨rfl,hb⟩
 have HB1:=Za (HB0.out.trans (hb.mono HB0.out.size))
 have s1:w1.cell? ⟨w.heap.size,1,none⟩=some (.slice A1 l1.length c1):=Zz hb (by go_simp)
 have t1:w1.cell? ⟨w.heap.size+1,1,none⟩=some (.slice A1' l1.length c1'):=Zz hb (by go_simp)
 clear hb
 go_wp2_with fail
 refine(H1.out _ HB1.out).mono ?_
 rintro e w2 ⟨rfl,hb⟩
 have HB2:=Za (HB1.out.trans (hb.mono HB1.out.size))
 clear hb s1 t1
 go_wp2
 go_ret
 exact⟨rfl,HB2.out⟩
end Go.Proofs.YtoeimopgoaffcaaGreatDoor.Pr
namespace Go.Proofs.YtoeimopgoaffcaaGreatDoor.Pr
open Go.RowKit Go.Proofs.YtoeimopgoaffcaaGreatDoorW.PrintWords Go.Proofs.YtoeimopgoaffcaaGreatDoor.Ni
theorem ZeS (l:List Int) (hl:l.length≤9223372036854775807) (a:Int) (h0:0≤a) (h1:a≤1048576):ZaJ.f l a=some (if a - l.length<0 then -1 else a - l.length):=by
 unfold ZaJ.f
 rw[Zbt (by omega) (by omega)]
 split <;> rfl
theorem szNode_f (s:ByteArray) (l:List Int) (n:Int) (hs:s.size≤9223372036854775807) (hl:l.length≤9223372036854775807) (a:Int) (h0:0≤a) (h1:a≤1048576) :
  ∃r,Zcf.f s l n a=some r∧(r<0∨(0≤r∧r≤a∧s.size≤1048576∧l.length≤1048576)):=by
 unfold Zcf.f
 rw[Zbt (by omega) (by omega)]
 by_cases h:a - (s.size:Int)<0
 ·rw[if_pos h];exact⟨_,rfl,.inl (by omega)⟩
 ·rw[if_neg h,ZeS l hl _ (by omega) (by omega),Zi]
  by_cases h2:a - (s.size:Int) - l.length<0
  ·rw[if_pos h2,if_pos (by omega)];exact⟨_,rfl,.inl (by omega)⟩
  ·rw[if_neg h2,if_neg h2];exact⟨_,rfl,.inr ⟨by omega,by omega,by omega,by omega⟩⟩
theorem toNode_f (s:ByteArray) (l:List Int) (n:Int) (hl:l.length≤35184372088832) (k:Nat) (hk:2 ^ 64≤k):Zcr.f k s l n=some (s,l,n):=by
 unfold Zcr.f
 rw[ZeR l hl k hk];rfl
theorem szNodeS_l (l:List LNode) (hl:l.length≤9223372036854775807) (hb:∀n∈l,n.f0.size≤9223372036854775807∧n.f1.length≤9223372036854775807) (k:Nat) (hk:2 ^ 64≤k) :
  ∀a:Int,0≤a→a≤1048576→∃r,Zaw.l0 k l a 0=some r∧(r<0∨(0≤r∧r≤a∧∀n∈l,n.f0.size≤1048576∧n.f1.length≤1048576)):=by
 have key:=Za3 l.length (fun k i=>∀a:Int,0≤a→a≤1048576→∃r,Zaw.l0 k l a (i:Int)=some r∧(r<0∨(0≤r∧r≤a∧∀n∈l.drop i,n.f0.size≤1048576∧n.f1.length≤1048576))) 0
  (fun k _ a h0 h1=>⟨a,by simp[Zaw.l0],.inr ⟨h0,Int.le_refl _,by simp⟩⟩)
  (fun k i _ hi ih a h0 h1=>by
   simp only[Zaw.l0]
   rw[if_pos (by omega),if_pos (by omega),rdLN_nat,ZR hi (by omega)]
   have hm:=hb _ (ZaQ hi z143)
   obtain⟨r,hr,h⟩:=szNode_f (l.getD i z143).f0 (l.getD i z143).f1 (l.getD i z143).f2 hm.1 hm.2 a h0 h1
   rw[hr,Zi]
   rcases h with h|⟨h2,h3,h4,h5⟩
   ·rw[if_pos h];exact⟨_,rfl,.inl (by omega)⟩
   ·rw[if_neg (by omega)]
    obtain⟨q,hq,h⟩:=ih r h2 (by omega)
    refine⟨q,hq,?_⟩
    rcases h with h|⟨h6,h7,h8⟩
    ·exact .inl h
    ·refine .inr ⟨h6,by omega,?_⟩
     rw[Zam hi z143]
     intro n hn
     rcases List.mem_cons.1 hn with rfl|hn
     ·exact⟨h4,h5⟩
     ·exact h8 n hn) 0 k (Nat.zero_le _) (by omega)
 intro a h0 h1
 simpa using key a h0 h1
theorem szShow_f (ns:List LNode) (ts:List LTie) (z:Int) (hn:ns.length≤9223372036854775807) (hb:∀n∈ns,n.f0.size≤9223372036854775807∧n.f1.length≤9223372036854775807) (ht:ts.length≤9223372036854775807) (k:Nat) (hk:2 ^ 64≤k) (a:Int) (h0:0≤a) (h1:a≤1048576) :
  ∃r,ZbW.f k ns ts z a=some r∧(r<0∨(0≤r∧r≤a∧ZdK ns ts)):=by
 unfold ZbW.f Zaw.f
 rw[Zbt (by omega) (by omega)]
 by_cases h:a - (ns.length:Int)<0
 ·rw[if_pos h,Zi,if_pos (by omega)];exact⟨_,rfl,.inl (by omega)⟩
 ·rw[if_neg h]
  obtain⟨r,hr,h⟩:=szNodeS_l ns hn hb k hk (a - ns.length) (by omega) (by omega)
  rw[hr,Zi]
  rcases h with h|⟨h2,h3,h4⟩
  ·rw[if_pos h];exact⟨_,rfl,.inl (by omega)⟩
  ·rw[if_neg (by omega)]
   unfold Zce.f
   rw[Zbt (by omega) (by omega)]
   by_cases h5:r - (ts.length:Int)<0
   ·rw[if_pos h5,Zi,if_pos (by omega)];exact⟨_,rfl,.inl (by omega)⟩
   ·rw[if_neg h5,Zi,if_neg h5];exact⟨_,rfl,.inr ⟨by omega,by omega,by omega,by omega,h4⟩⟩
theorem toNodeS_f (l:List LNode) (hl:l.length≤1048576) (hb:∀n∈l,n.f0.size≤1048576∧n.f1.length≤1048576) (k:Nat) (hk:2 ^ 65≤k):Zav.f k l=some (l.map cvN):=by
 have key:=Za3 l.length (fun k i=>Zav.l0 k l ((l.map cvN).take i ++ List.replicate ((l.map cvN).length - i) z39) (i:Int)=some (l.map cvN)) (2 ^ 64)
  (fun k _=>by simp[Zav.l0];rw[List.take_of_length_le (by simp)])
  (fun k i hk hi ih=>by
   simp only[Zav.l0]
   have hm:=hb _ (ZaQ hi z143)
   rw[if_pos (by omega),if_pos (by omega),rdLN_nat,toNode_f _ _ _ (by omega) k hk,Zi,if_pos (by simp;omega),ZR hi (by omega),Int.toNat_natCast,Zdu (l.map cvN) _ z39 i (by simpa using hi) _ (by rw[getD_map cvN l i z143 z39 zN];rfl)]
   exact ih) 0 k (Nat.zero_le _) (by omega)
 unfold Zav.f
 rw[if_pos (by omega),if_pos (by omega),Int.toNat_natCast]
 simpa using key
theorem toTieS_f (l:List LTie) (hl:l.length≤1048576) (k:Nat) (hk:2 ^ 64≤k):ZaH.f k l=some (l.map cvT):=by
 have key:=Za3 l.length (fun k i=>ZaH.l0 k l ((l.map cvT).take i ++ List.replicate ((l.map cvT).length - i) z82) (i:Int)=some (l.map cvT)) 0
  (fun k _=>by simp[ZaH.l0];rw[List.take_of_length_le (by simp)])
  (fun k i hk hi ih=>by
   simp only[ZaH.l0,ZcU.f]
   rw[if_pos (by omega),if_pos (by omega),rdLT_nat,Zi,if_pos (by simp;omega),ZR hi (by omega),Int.toNat_natCast,Zdu (l.map cvT) _ z82 i (by simpa using hi) _ (by rw[getD_map cvT l i z147 z82 zT];rfl)]
   exact ih) 0 k (Nat.zero_le _) (by omega)
 unfold ZaH.f
 rw[if_pos (by omega),if_pos (by omega),Int.toNat_natCast]
 simpa using key
theorem toShow_f (ns:List LNode) (ts:List LTie) (z:Int) (h:ZdK ns ts) (k:Nat) (hk:2 ^ 65≤k):Zbi.f k ns ts z=some (ns.map cvN,ts.map cvT,z):=by
 unfold Zbi.f
 rw[toNodeS_f ns h.1 h.2.2 k hk,Zi,toTieS_f ts h.2.1 k (by omega)];rfl
theorem szChoice_f (t v:List Int) (ht:t.length≤9223372036854775807) (hv:v.length≤9223372036854775807) (a:Int) (h0:0≤a) (h1:a≤1048576) :
  ∃r,ZbV.f t v a=some r∧(r<0∨(0≤r∧r≤a∧t.length≤1048576∧v.length≤1048576)):=by
 unfold ZbV.f
 rw[ZeS t ht a h0 h1,Zi]
 by_cases h:a - (t.length:Int)<0
 ·rw[if_pos h,if_pos (by omega)];exact⟨_,rfl,.inl (by omega)⟩
 ·rw[if_neg h,if_neg h,ZeS v hv _ (by omega) (by omega),Zi]
  by_cases h2:a - (t.length:Int) - v.length<0
  ·rw[if_pos h2,if_pos (by omega)];exact⟨_,rfl,.inl (by omega)⟩
  ·rw[if_neg h2,if_neg h2];exact⟨_,rfl,.inr ⟨by omega,by omega,by omega,by omega⟩⟩
theorem toChoice_f (t v:List Int) (ht:t.length≤35184372088832) (hv:v.length≤35184372088832) (k:Nat) (hk:2 ^ 64≤k):Za2.f k t v=some (t,v):=by
 unfold Za2.f
 rw[ZeR t ht k hk,Zi,ZeR v hv k hk];rfl
theorem ZbK {ns:List ZN} {ts:List PTie} {z:Int} (h:ZaG ns ts z=true):Z2 ns=true:=by
 unfold ZaG at h
 simp only[Bool.and_eq_true] at h
 exact h.1.1.1.1
theorem ZcJ {ns:List ZN} {ts:List PTie} {z:Int} (h:ZaG ns ts z=true):Zbl ns ts=true:=by
 unfold ZaG at h
 simp only[Bool.and_eq_true] at h
 exact h.1.1.1.2
theorem nodes_watch {ns:List ZN} (h:Z2 ns=true):∀n∈ns,0≤n.f2∧n.f2≤3:=by
 intro n hn
 obtain⟨j,hj,rfl⟩:=List.mem_iff_getElem.1 hn
 have:=ZcX h j hj
 unfold Zcx Zcv at this
 rw[show ns.getD j z39=ns[j] by rw[List.getD_eq_getElem?_getD,Zl hj];rfl] at this
 simp only[Bool.and_eq_true,decide_eq_true_eq] at this
 exact this.1.2
theorem pwatch_out {ns:List ZN} (h:Z2 ns=true) {p:Int} (hp:¬(1≤p∧p≤3)):Zbh ns p=-1:=by
 unfold Zbh
 refine Zbq _ _ fun j y _ hy=>?_
 have:=nodes_watch h y (List.mem_of_getElem? hy)
 rw[Bool.eq_false_iff]
 intro hh
 simp only[Bool.and_eq_true,decide_eq_true_eq] at hh
 omega
theorem isNode_f (n x:Int):ZbI.f n x=some (Zb9 n x):=by
 unfold ZbI.f Zb9
 by_cases h:x≥0
 ·rw[if_pos h,Ze (show(0:Int)≤x from h),Bool.true_and]
 ·rw[if_neg h,Zf (show ¬(0:Int)≤x from h),Bool.false_and]
theorem areNodesB_one {ns:List ZN} (h:Z2 ns=true):1≤ns.length:=by
 unfold Z2 at h
 simp only[Bool.and_eq_true,decide_eq_true_eq] at h
 exact h.1.1.1.1
def Zcz (ts:List PTie) (n:Nat):List Int:=((List.range n).filter fun i=>(ts.getD i z82).f4).map fun i:Nat=>(i:Int)
def Za6 (ts:List PTie):List Int:=Zcz ts ts.length
theorem ZeO (ts:List PTie) (n:Nat):Zcz ts (n+1)=if (ts.getD n z82).f4=true then Zcz ts n ++ [(n:Int)] else Zcz ts n:=by
 unfold Zcz
 rw[List.range_succ,List.filter_append,List.map_append]
 by_cases h:(ts.getD n z82).f4=true
 ·rw[if_pos h,List.filter_cons_of_pos (by simpa using h)];rfl
 ·rw[if_neg h,List.filter_cons_of_neg (by simpa using h)];simp
theorem Zd9 (ts:List PTie) (n:Nat):(Zcz ts n).length≤n:=by
 unfold Zcz
 rw[List.length_map]
 exact Nat.le_trans (List.length_filter_le _ _) (by simp)
theorem freeIx_len (ts:List PTie):(Za6 ts).length≤ts.length:=Zd9 ts ts.length
theorem freeIx_in {ts:List PTie} {x:Int} (h:x∈Za6 ts):0≤x∧x<ts.length:=by
 unfold Za6 Zcz at h
 obtain⟨i,hi,rfl⟩:=List.mem_map.1 h
 have:=List.mem_range.1 (List.mem_filter.1 hi).1
 omega
theorem Zfd (ns:List ZN) (ts:List PTie) (z:Int) (hl:ts.length≤1048576) (k:Nat) (hk:2 ^ 64≤k):Zac.f k ns ts z=some (Za6 ts):=by
 have key:=Za3 ts.length (fun k i=>Zac.l0 k (Zcz ts i) ts ts.length (i:Int)=some (Za6 ts)) 0
  (fun k _=>by
   simp only[Zac.l0]
   rw[if_neg (by omega)];rfl)
  (fun k i _ hi ih=>by
   simp only[Zac.l0]
   have:=Zd9 ts i
   rw[ZeO] at ih
   rw[if_pos (by omega),if_pos (by omega),if_pos (by omega),ZdT,ZR hi (by omega)]
   by_cases h:(ts.getD i z82).f4=true
   ·rw[if_pos h,if_pos (by omega)];rw[if_pos h] at ih;exact ih
   ·rw[if_neg h];rw[if_neg h] at ih;exact ih) 0 k (Nat.zero_le _) (by omega)
 unfold Zac.f
 exact key
theorem l10Free_f (ns:List ZN) (ts:List PTie) (z:Int) (hl:ts.length≤1048576) (k:Nat) (hk:2 ^ 64≤k):Zai.f k ns ts z=some (Za6 ts):=by
 have key:=Za3 ts.length (fun k i=>Zai.l0 k (Zcz ts i) ts ts.length (i:Int)=some (Za6 ts)) 0
  (fun k _=>by
   simp only[Zai.l0]
   rw[if_neg (by omega)];rfl)
  (fun k i _ hi ih=>by
   simp only[Zai.l0]
   have:=Zd9 ts i
   rw[ZeO] at ih
   rw[if_pos (by omega),if_pos (by omega),if_pos (by omega),ZdT,ZR hi (by omega)]
   by_cases h:(ts.getD i z82).f4=true
   ·rw[if_pos h,if_pos (by omega)];rw[if_pos h] at ih;exact ih
   ·rw[if_neg h];rw[if_neg h] at ih;exact ih) 0 k (Nat.zero_le _) (by omega)
 unfold Zai.f
 exact key
def Zca (ns:List ZN) (ts:List PTie) (ln vs:List Int):Bool:=decide (ln.length=(Za6 ts).length) && (decide (vs.length=3) && (Zb0 ts (Za6 ts) ln && ZaZ ns 0 vs))
def ZcG (ns:List ZN) (ts:List PTie) (z:Int) (ln vs:List Int):Bool:=ZaG ns ts z && Zca ns ts ln vs
theorem Ze9 {ns:List ZN} {ts:List PTie} (z:Int) (ln vs:List Int) (hc:ZbA ns ts) (hl:vs.length≤1048576) (k:Nat) (hk:2 ^ 66≤k):Zbw.f k ns ts z ln vs=some (Zca ns ts ln vs):=by
 unfold Zbw.f Zca
 rw[Zfd ns ts z hc.2.1 _ (by omega),Zi,if_pos (List.all_eq_true.2 fun x hx=>by have:=freeIx_in hx;simpa using this)]
theorem Zfb {ns:List ZN} {ts:List PTie} {z:Int} (ln vs:List Int) (hc:ZbA ns ts) (hl:vs.length≤1048576) (k:Nat) (hk:2 ^ 66≤k):Zb5.f k ns ts z ln vs=some (ZcG ns ts z ln vs):=by
 unfold Zb5.f ZcG
 rw[Zf9 (fitN_of hc),Zi]
 cases hs:ZaG ns ts z with
 | false=>rfl
 | true=>rw[if_pos rfl,Bool.true_and,Ze9 z ln vs hc hl k hk];rfl
theorem Ze2 {ns:List ZN} {ts:List PTie} {z:Int} (ln vs:List Int) (hc:ZbA ns ts) (hl:vs.length≤1048576) (k:Nat) (hk:2 ^ 67≤k):ZbU.f k ns ts z ln vs=some (ZcG ns ts z ln vs):=by
 unfold ZbU.f ZcG
 rw[Zf4 ns ts z (fitN_of hc) _ (by omega),Zi]
 cases hs:ZaG ns ts z with
 | false=>rfl
 | true=>
  rw[if_pos rfl,Bool.true_and,l10Free_f ns ts z hc.2.1 _ (by omega),Zi,if_pos (List.all_eq_true.2 fun x hx=>by have:=freeIx_in hx;simpa using this)]
  rfl
theorem Zen {ns:List ZN}:∀(l:List Int) (i:Nat),ZaZ ns i l=true→∀n∈l,-1≤n∧n≤1
 | [],_,_,n,hn=>by simp at hn
 | v :: t,i,h,n,hn=>by
  rw[ZaZ,Bool.and_eq_true] at h
  rcases List.mem_cons.1 hn with rfl|hn
  ·have h1:=h.1
   unfold valAt at h1
   simp only[Bool.or_eq_true,Bool.and_eq_true,decide_eq_true_eq] at h1
   omega
  ·exact Zen t _ h.2 n hn
theorem Zef {ns:List ZN} {ts:List PTie} {ln vs:List Int} (h:Zca ns ts ln vs=true):Zb2 vs=true:=by
 unfold Zca at h
 simp only[Bool.and_eq_true,decide_eq_true_eq] at h
 unfold Zb2
 rw[Ze h.2.1,Bool.true_and,List.all_eq_true]
 intro n hn
 have:=Zen vs 0 h.2.2.2 n hn
 simp;omega
end Go.Proofs.YtoeimopgoaffcaaGreatDoor.Pr
namespace Go.Proofs.YtoeimopgoaffcaaGreatDoor.Pr
open Go.RowKit Go.Proofs.YtoeimopgoaffcaaGreatDoorW.PrintWords Go.Proofs.YtoeimopgoaffcaaGreatDoorW.PrintMore Go.Proofs.YtoeimopgoaffcaaGreatDoor.Ni
theorem labFrom_all:∀(l:List Int) (p:Int),ZbP p l=true→∀x∈l,Za9 x=true:=by
 intro l
 induction l with
 | nil=>intro p _ x hx;simp at hx
 | cons y t ih=>
  intro p h x hx
  simp only[ZbP,Bool.and_eq_true] at h
  rcases List.mem_cons.1 hx with rfl|hx
  ·exact h.1.1
  ·exact ih _ h.2 x hx
theorem Zd3 {l:List Int} (h:labB l=true):∀x∈l,Za9 x=true:=labFrom_all l 0 h
theorem valsB_at {v:List Int} (h:Zb2 v=true):v.length=3∧∀i,-1≤v.getD i 0∧v.getD i 0≤1:=by
 simp only[Zb2,Bool.and_eq_true,decide_eq_true_eq,List.all_eq_true] at h
 refine⟨h.1,fun i=>?_⟩
 by_cases hi:i<v.length
 ·exact h.2 _ (ZaQ hi 0)
 ·rw[List.getD_eq_getElem?_getD,List.getElem?_eq_none (by omega)];simp
theorem mn_min (a b:Int):mn a b=min a b:=by unfold mn;split <;> omega
theorem holds_f {x:Int} {v:List Int} (hx:Za9 x=true) (hv:Zb2 v=true):impl_holds.f x v=some (if x<0 then -(v.getD (prp x - 1).toNat 0) else v.getD (prp x - 1).toNat 0):=by
 have hp:=Zc0 hx
 obtain⟨h3,hb⟩:=valsB_at hv
 have hb':=hb (prp x - 1).toNat
 unfold impl_holds.f
 rw[Zdz hx,Zi,Zbt (i:=prp x - 1) (by omega) (by omega),if_pos (by omega),if_pos (by omega)]
 have e:rd v (prp x - 1)=v.getD (prp x - 1).toNat 0:=rfl
 rw[e,Zbt (by omega) (by omega)]
 split <;> rfl
theorem l07State_f (l v:List Int) (hl:l.length≤9223372036854775807) (h1:∀x∈l,Za9 x=true) (hv:Zb2 v=true) (k:Nat) (hk:2 ^ 64≤k):Zaj.f k l v=some (stB l v):=by
 obtain⟨h3,hb⟩:=valsB_at hv
 have key:=Za3 l.length (fun k i=>∀a:Int,Zaj.l0 k v a l l.length (i:Int)=some (Zds v a (l.drop i))) 0
  (fun k _ a=>by simp[Zaj.l0,Zds])
  (fun k i _ hi ih a=>by
   simp only[Zaj.l0]
   have hx:=h1 _ (ZaQ hi 0)
   have hp:=Zc0 hx
   have hb':=hb (prp (l.getD i 0) - 1).toNat
   have e:rd v (prp (l.getD i 0) - 1)=v.getD (prp (l.getD i 0) - 1).toNat 0:=rfl
   rw[if_pos (by omega),if_pos (by omega),if_pos (by omega),ZaN,ZR hi (by omega),Zam hi 0,Zde hx,Zi,Zbt (i:=prp (l.getD i 0) - 1) (by omega) (by omega),if_pos (by omega),if_pos (by omega),e,Zbt (by omega) (by omega),ih,ih,mn_min,mn_min]
   simp only[Zds]
   split <;> rfl) 0 k (Nat.zero_le _) (by omega)
 unfold Zaj.f stB
 simpa using key 1
def labStB (l v:List Int):Int:=if labB l && Zb2 v then stB l v else -1
theorem ZeI (l v:List Int) (hl:l.length≤9223372036854775807) (k:Nat) (hk:2 ^ 65≤k):Z0.f k l v=some (labStB l v):=by
 unfold Z0.f labStB
 obtain⟨m,rfl⟩:∃m,k=m+1:=⟨k - 1,by omega⟩
 rw[ZcE l hl _ (by omega),Zi]
 cases h:labB l
 ·rfl
 ·rw[if_pos rfl]
  unfold Zb4.f
  rw[Zi]
  cases h2:Zb2 v
  ·rfl
  ·simp only[Z0.j0,Bool.not_true,Bool.false_eq_true,if_false]
   have key:=Za3 l.length (fun k i=>∀a:Int,Z0.l0 k v a l l.length (i:Int)=some (Zds v a (l.drop i))) 0
    (fun k _ a=>by simp[Z0.l0,Zds])
    (fun k i _ hi ih a=>by
     simp only[Z0.l0]
     have hx:=Zd3 h _ (ZaQ hi 0)
     rw[if_pos (by omega),if_pos (by omega),if_pos (by omega),ZaN,ZR hi (by omega),Zam hi 0,holds_f hx h2,Zi,ih,mn_min]
     rfl) 0 m (Nat.zero_le _) (by omega)
   have:=key 1
   rw[List.drop_zero] at this
   rw[show((0:Nat):Int)=0 from rfl] at this
   rw[this];rfl
end Go.Proofs.YtoeimopgoaffcaaGreatDoor.Pr
namespace Go.Proofs.YtoeimopgoaffcaaGreatDoor.Pr
open Go.RowKit Go.Proofs.YtoeimopgoaffcaaGreatDoorW.PrintWords Go.Proofs.YtoeimopgoaffcaaGreatDoor.Ni
theorem Zer {ns:List ZN} (h:Z2 ns=true):∀n∈ns,labB n.f1=true:=by
 intro n hn
 obtain⟨j,hj,rfl⟩:=List.mem_iff_getElem.1 hn
 have:=ZcX h j hj
 unfold Zcx Zcv at this
 rw[show ns.getD j z39=ns[j] by rw[List.getD_eq_getElem?_getD,Zl hj];rfl] at this
 simp only[Bool.and_eq_true] at this
 exact this.1.1.2
def hapB (ns:List ZN) (vs:List Int) (i:Int):Bool:=stB (ZH ns i).f1 vs == 1
theorem Zez {ns:List ZN} {i:Int} (h0:0≤i) (h1:i<ns.length):ZH ns i∈ns:=by
 obtain⟨m,rfl⟩:=Int.eq_ofNat_of_zero_le h0
 rw[show ZH ns ((m:Nat):Int)=ns.getD m z39 from Zcj ns m]
 exact ZaQ (by omega) _
theorem Zfw {ns:List ZN} {ts:List PTie} (z:Int) (ln vs:List Int) (i:Int) (hc:ZbA ns ts) (hn:Z2 ns=true) (hv:Zb2 vs=true) (h0:0≤i) (h1:i<ns.length) (k:Nat) (hk:2 ^ 65≤k):ZaO.f k ns ts z ln vs i=some (hapB ns vs i):=by
 have hm:=Zez h0 h1
 have hs:=(hc.2.2 _ hm).2
 unfold ZaO.f hapB
 rw[if_pos h0,if_pos h1,ZeI _ vs (by omega) k hk,Zi]
 unfold labStB
 rw[Zer hn _ hm,hv];rfl
theorem spec_hap_f {ns:List ZN} {ts:List PTie} (vs:List Int) (i:Int) (hc:ZbA ns ts) (hn:Z2 ns=true) (hv:Zb2 vs=true) (h0:0≤i) (h1:i<ns.length) (k:Nat) (hk:2 ^ 64≤k):Zaj.f k (ZH ns i).f1 vs=some (stB (ZH ns i).f1 vs):=by
 have hm:=Zez h0 h1
 have hs:=(hc.2.2 _ hm).2
 exact l07State_f _ vs (by omega) (Zd3 (Zer hn _ hm)) hv k hk
theorem nodeIn_iff {n x:Int} (h:Zb9 n x=true):0≤x∧x<n:=by
 unfold Zb9 at h
 rw[Bool.and_eq_true,decide_eq_true_eq,decide_eq_true_eq] at h
 exact h
theorem ZdP {ns:List ZN} {ts:List PTie} {z:Int} {ln vs:List Int} (h:ZcG ns ts z ln vs=true):ZaG ns ts z=true∧Zca ns ts ln vs=true:=by
 unfold ZcG at h
 rw[Bool.and_eq_true] at h
 exact h
end Go.Proofs.YtoeimopgoaffcaaGreatDoor.Pr
set_option linter.unusedSimpArgs false
set_option linter.unusedVariables false
namespace Go.Proofs.YtoeimopgoaffcaaGreatDoor.Pr
open Go.RowKit Go.Proofs.YtoeimopgoaffcaaGreatDoorW.PrintWords Go.Proofs.YtoeimopgoaffcaaGreatDoor.Ni
def bs (l:List UInt8):ByteArray:=⟨l.toArray⟩
theorem bs_of (a:ByteArray):bs a.data.toList=a:=by unfold bs;simp
theorem bs_list (l:List UInt8):(bs l).data.toList=l:=by unfold bs;simp
theorem bs_app (a b:List UInt8):bs a ++ bs b=bs (a ++ b):=by
 unfold bs
 ext1
 rw[ByteArray.data_append];simp
theorem bs_size (l:List UInt8):(bs l).size=l.length:=by unfold bs;simp[ByteArray.size]
theorem ba_size (a:ByteArray):a.size=a.data.toList.length:=by show a.data.size=_;rw[Array.length_toList]
theorem Zcn (n:Int) (h0 : -9223372036854775808≤n) (h1:n≤9223372036854775807):Zas.f n=some (bs (Lib.itoa n)):=by
 unfold Zas.f
 rw[if_pos ⟨h0,h1⟩];rfl
theorem dec_len:∀(d m:Nat),m<10 ^ (d+1)→(Lib.decDigits m).length≤d+1
 | d,m,hm=>by
  by_cases c:m<10
  ·rw[Lib.decDigits,dif_pos c];simp only[List.length_singleton];omega
  ·cases d with
   | zero=>simp at hm;omega
   | succ d=>
    have h:=dec_len d (m / 10) (by rw[Nat.pow_succ] at hm;omega)
    rw[Lib.decDigits,dif_neg c,List.length_append,List.length_singleton];omega
theorem itoa_len (n:Int) (h0 : -9223372036854775808≤n) (h1:n≤9223372036854775807):(Lib.itoa n).length≤20:=by
 by_cases c:n<0
 ·have:=dec_len 18 n.natAbs (by omega)
  rw[Lib.itoa,if_pos c,List.length_cons];omega
 ·rw[Lib.itoa,if_neg c]
  have:=dec_len 18 n.toNat (by omega)
  omega
abbrev bl (l:List ByteArray):List (List UInt8):=l.map (·.data.toList)
theorem joinTail_cons (s x:List UInt8) (r:List (List UInt8)):Lib.joinTail s (x :: r)=s ++ x ++ Lib.joinTail s r:=by simp[Lib.joinTail]
theorem rdOf_nat (l:List ByteArray) (i:Nat):rdOf ByteArray.empty l (i:Int)=l.getD i ByteArray.empty:=by unfold rdOf;rw[Int.toNat_natCast]
theorem impl_Join_f (l:List ByteArray) (sep:ByteArray) (hl:l.length≤1048576) (hb:(Lib.join (bl l) sep.data.toList).length≤140737488355328):Zbg.f l sep=some (bs (Lib.join (bl l) sep.data.toList)):=by
 unfold Zbg.f
 rw[if_pos ⟨hl,hb⟩];rfl
theorem Zeo {ns:List ZN} {ts:List PTie}:∀(d i:Nat),ZbR ns ts i d=true→∀j,i≤j→j<i+d→ptieB ns ts j=true
 | 0,i,_,j,h1,h2=>by omega
 | d+1,i,h,j,h1,h2=>by
  rw[ZbR,Bool.and_eq_true] at h
  by_cases e:j=i
  ·rw[e];exact h.1
  ·exact Zeo d (i+1) h.2 j (by omega) (by omega)
theorem tie_bd {ns:List ZN} {ts:List PTie} (h:Zbl ns ts=true) {j:Int} (h0:0≤j) (h1:j<ts.length) :
  (0≤(ZD ts j).f0∧(ZD ts j).f0<ns.length)∧(0≤(ZD ts j).f1∧(ZD ts j).f1<ns.length)∧(-20≤(ZD ts j).f2∧(ZD ts j).f2≤20)∧(-20≤(ZD ts j).f3∧(ZD ts j).f3≤20):=by
 obtain⟨m,rfl⟩:=Int.eq_ofNat_of_zero_le h0
 unfold Zbl at h
 rw[Bool.and_eq_true] at h
 have:=Zeo _ _ h.1 m (Nat.zero_le _) (by omega)
 unfold ptieB ZbO at this
 simp only[Zb9,spanB,Bool.and_eq_true,decide_eq_true_eq] at this
 obtain⟨⟨⟨⟨⟨⟨a,b⟩,_⟩,c⟩,d⟩,_⟩,_⟩:=this
 omega
theorem Zdi {ns:List ZN} {ts:List PTie} (h:Zbl ns ts=true):ts.length≤14:=by
 unfold Zbl at h
 rw[Bool.and_eq_true,decide_eq_true_eq] at h
 exact h.2
theorem Zc4 {ns:List ZN} (h:Z2 ns=true):ns.length≤7:=by
 unfold Z2 at h
 simp only[Bool.and_eq_true,decide_eq_true_eq] at h
 exact h.1.1.1.2
theorem Ze5 {ns:List ZN} (h:Z2 ns=true) {j:Int} (h0:0≤j) (h1:j<ns.length):(ZH ns j).f0.size≤8∧labB (ZH ns j).f1=true∧0≤(ZH ns j).f2∧(ZH ns j).f2≤3:=by
 obtain⟨m,rfl⟩:=Int.eq_ofNat_of_zero_le h0
 have:=ZcX h m (by omega)
 rw[Zcj]
 unfold Zcx Zcv nameB at this
 simp only[Bool.and_eq_true,decide_eq_true_eq] at this
 obtain⟨⟨⟨⟨_,_,a⟩,b⟩,c,d⟩,_⟩:=this
 exact⟨a,b,c,d⟩
def nmL (ns:List ZN) (i:Int):List UInt8:=(ZH ns i).f0.data.toList
theorem nm_bs (ns:List ZN) (i:Int):(ZH ns i).f0=bs (nmL ns i):=(bs_of _).symm
theorem nm_len {ns:List ZN} (h:Z2 ns=true) {j:Int} (h0:0≤j) (h1:j<ns.length):(nmL ns j).length≤8:=by
 have:=(Ze5 h h0 h1).1
 rw[nm_bs,bs_size] at this
 exact this
def tieW (b:Bool):List UInt8:=if b=true then[102,114,101,101] else[116,105,101]
def tieT (ns:List ZN) (t:PTie):List UInt8:=tieW t.f4 ++ [32] ++ nmL ns t.f0 ++ [32] ++ nmL ns t.f1 ++ [32] ++ Lib.itoa t.f2 ++ [32] ++ Lib.itoa t.f3
theorem tieT_join (ns:List ZN) (t:PTie):Lib.join [tieW t.f4,nmL ns t.f0,nmL ns t.f1,Lib.itoa t.f2,Lib.itoa t.f3] [32]=tieT ns t:=by
 simp[Lib.join,Lib.joinTail,tieT]
theorem tieT_len {ns:List ZN} {ts:List PTie} (hn:Z2 ns=true) (h:Zbl ns ts=true) {j:Int} (h0:0≤j) (h1:j<ts.length):(tieT ns (ZD ts j)).length≤80:=by
 obtain⟨a,b,c,d⟩:=tie_bd h h0 h1
 have e1:=nm_len hn a.1 a.2
 have e2:=nm_len hn b.1 b.2
 have e3:=itoa_len _ (show -9223372036854775808≤(ZD ts j).f2 by omega) (by omega)
 have e4:=itoa_len _ (show -9223372036854775808≤(ZD ts j).f3 by omega) (by omega)
 have e5:(tieW (ZD ts j).f4).length≤4:=by unfold tieW;split <;> simp
 unfold tieT
 simp only[List.length_append,List.length_cons,List.length_nil]
 omega
theorem Zfu {ns:List ZN} {ts:List PTie} (z:Int) (hn:Z2 ns=true) (h:Zbl ns ts=true) {j:Int} (h0:0≤j) (h1:j<ts.length):Za5.f ns ts z j=some (bs (tieT ns (ZD ts j))):=by
 obtain⟨a,b,c,d⟩:=tie_bd h h0 h1
 have hl:=tieT_len hn h h0 h1
 unfold Za5.f
 rw[if_pos h0,if_pos h1]
 have hj:∀w:ByteArray,w=bs (tieW (ZD ts j).f4)→Zbg.f [w,(ZH ns (ZD ts j).f0).f0,(ZH ns (ZD ts j).f1).f0,bs (Lib.itoa (ZD ts j).f2),bs (Lib.itoa (ZD ts j).f3)] ⟨#[32]⟩=some (bs (tieT ns (ZD ts j))):=by
  rintro w rfl
  rw[nm_bs,nm_bs,show(⟨#[32]⟩:ByteArray)=bs [32] from rfl]
  have e:bl [bs (tieW (ZD ts j).f4),bs (nmL ns (ZD ts j).f0),bs (nmL ns (ZD ts j).f1),bs (Lib.itoa (ZD ts j).f2),bs (Lib.itoa (ZD ts j).f3)]=[tieW (ZD ts j).f4,nmL ns (ZD ts j).f0,nmL ns (ZD ts j).f1,Lib.itoa (ZD ts j).f2,Lib.itoa (ZD ts j).f3]:=by simp only[bl,List.map_cons,List.map_nil,bs_list]
  rw[impl_Join_f _ _ (by simp) (by rw[e,bs_list,tieT_join];omega),e,bs_list,tieT_join]
 by_cases hb:(ZD ts j).f4=true
 ·rw[if_pos hb,if_pos a.1,if_pos a.2,if_pos b.1,if_pos b.2,Zcn _ (by omega) (by omega),Zi,Zcn _ (by omega) (by omega),Zi,hj _ (by unfold tieW;rw[if_pos hb];rfl),Zi]
 ·rw[if_neg hb,if_pos a.1,if_pos a.2,if_pos b.1,if_pos b.2,Zcn _ (by omega) (by omega),Zi,Zcn _ (by omega) (by omega),Zi,hj _ (by unfold tieW;rw[if_neg hb];rfl),Zi]
end Go.Proofs.YtoeimopgoaffcaaGreatDoor.Pr
namespace Go.Proofs.YtoeimopgoaffcaaGreatDoor.Pr
open Go.RowKit Go.Proofs.YtoeimopgoaffcaaGreatDoorW.PrintWords Go.Proofs.YtoeimopgoaffcaaGreatDoor.Ni
def cat {α:Type} (g:Nat→List α):Nat→Nat→List α
 | 0,_=>[]
 | d+1,i=>g i ++ cat g d (i+1)
theorem Zbc {α:Type} {g:Nat→List α} {m:Nat}:∀(d i:Nat),(∀j,i≤j→j<i+d→(g j).length≤m)→(cat g d i).length≤d * m
 | 0,_,_=>by simp[cat]
 | d+1,i,h=>by
  have h1:=h i (Nat.le_refl _) (by omega)
  have h2:=Zbc (g:=g) d (i+1) (fun j a b=>h j (by omega) (by omega))
  rw[cat,List.length_append,Nat.succ_mul]
  omega
theorem Zdn {α β:Type} {step:Nat→List α×List β→Option (List α×List β)} {g:Nat→List α} {h:Nat→List β} {n B:Nat}
  (hs:∀i x y,i<n→x.length+(g i).length≤B→y.length+(h i).length≤B→step i (x,y)=some (x ++ g i,y ++ h i)):∀(d i:Nat) (x:List α) (y:List β),i+d=n→x.length+(cat g d i).length≤B→y.length+(cat h d i).length≤B→run step d i (x,y)=some (x ++ cat g d i,y ++ cat h d i)
 | 0,i,x,y,_,_,_=>by simp[run,cat]
 | d+1,i,x,y,hi,hx,hy=>by
  rw[cat,List.length_append] at hx hy
  rw[run,hs i x y (by omega) (by omega) (by omega),Zi,Zdn hs d (i+1) _ _ (by omega) (by rw[List.length_append];omega) (by rw[List.length_append];omega),cat,cat,List.append_assoc,List.append_assoc]
abbrev PLk:=S112
def lkH (z:Int) (i:Nat):PLk:=⟨0,(i:Int),⟨0,z⟩⟩
def lenAt (ts:List PTie) (ln:List Int) (i:Nat):Int:=rd ln (ZaU (fun y=>decide ((i:Int)=y)) (Za6 ts))
def lkT (ts:List PTie) (ln:List Int) (i:Nat):PLk:=⟨(ZD ts (i:Int)).f0,(ZD ts (i:Int)).f1,if (ZD ts (i:Int)).f4=true then⟨lenAt ts ln i,lenAt ts ln i⟩ else⟨(ZD ts (i:Int)).f2,(ZD ts (i:Int)).f3⟩⟩
def lkW (ns:List ZN) (i:Nat) (x:Int):PLk:=⟨Zbh ns (prp x),(i:Int),⟨1,1000000⟩⟩
def lbL (ns:List ZN) (i:Nat):List Int:=(ZH ns (i:Int)).f1
def tieH (ns:List ZN) (ts:List PTie) (vs:List Int) (i:Nat):Bool:=hapB ns vs (ZD ts (i:Int)).f0 && hapB ns vs (ZD ts (i:Int)).f1
def gA (ns:List ZN) (vs:List Int) (z:Int) (i:Nat):List PLk:=if hapB ns vs (i:Int)=true then[lkH z i] else[]
def gB (ns:List ZN) (ts:List PTie) (ln vs:List Int) (i:Nat):List PLk:=if tieH ns ts vs i=true then[lkT ts ln i] else[]
def gC (ns:List ZN) (vs:List Int) (i:Nat):List PLk:=if hapB ns vs (i:Int)=true then[] else[lkH 0 i]
def gE (ns:List ZN) (vs:List Int) (i:Nat) (j:Nat):List PLk:=if hapB ns vs (i:Int)=true then[lkW ns i (rd (lbL ns i) (j:Int))] else[]
def gD (ns:List ZN) (vs:List Int) (i:Nat):List PLk:=cat (gE ns vs i) (lbL ns i).length 0
def hor (ns:List ZN) (i:Nat):ByteArray:=(⟨#[104,111,114,105,122,111,110,32]⟩:ByteArray) ++ (ZH ns (i:Int)).f0
def rA (ns:List ZN) (vs:List Int) (i:Nat):List ByteArray:=if hapB ns vs (i:Int)=true then[hor ns i] else[]
def rB (ns:List ZN) (ts:List PTie) (vs:List Int) (i:Nat):List ByteArray:=if tieH ns ts vs i=true then[bs (tieT ns (ZD ts (i:Int)))] else[]
def rC (ns:List ZN) (vs:List Int) (t:Nat→ByteArray) (i:Nat):List ByteArray:=if hapB ns vs (i:Int)=true then[] else[t i]
def aft (ns:List ZN) (i:Nat) (x:Int):ByteArray:=Zy.after (ZH ns (Zbh ns (prp x))).f0 (ZH ns (i:Int)).f0
def rE (ns:List ZN) (vs:List Int) (i:Nat) (j:Nat):List ByteArray:=if hapB ns vs (i:Int)=true then[aft ns i (rd (lbL ns i) (j:Int))] else[]
def rD (ns:List ZN) (vs:List Int) (i:Nat):List ByteArray:=cat (rE ns vs i) (lbL ns i).length 0
def Zdk (ns:List ZN) (ts:List PTie) (z:Int) (ln vs:List Int):List PLk:=cat (gA ns vs z) ns.length 0 ++ cat (gB ns ts ln vs) ts.length 0 ++ cat (gC ns vs) ns.length 0 ++ cat (gD ns vs) ns.length 0
def projR (ns:List ZN) (ts:List PTie) (vs:List Int) (t:Nat→ByteArray):List ByteArray:=cat (rA ns vs) ns.length 0 ++ cat (rB ns ts vs) ts.length 0 ++ cat (rC ns vs t) ns.length 0 ++ cat (rD ns vs) ns.length 0
theorem Zdp {α:Type} (b:Bool) (x:α):(if b=true then[x] else[]).length≤1:=by cases b <;> simp
theorem ite_len' {α:Type} (b:Bool) (x:α):(if b=true then[] else[x]).length≤1:=by cases b <;> simp
theorem gA_len (ns:List ZN) (vs:List Int) (z:Int) (i:Nat):(gA ns vs z i).length≤1:=Zdp _ _
theorem gB_len (ns:List ZN) (ts:List PTie) (ln vs:List Int) (i:Nat):(gB ns ts ln vs i).length≤1:=Zdp _ _
theorem gC_len (ns:List ZN) (vs:List Int) (i:Nat):(gC ns vs i).length≤1:=ite_len' _ _
theorem gE_len (ns:List ZN) (vs:List Int) (i j:Nat):(gE ns vs i j).length≤1:=Zdp _ _
theorem rA_len (ns:List ZN) (vs:List Int) (i:Nat):(rA ns vs i).length≤1:=Zdp _ _
theorem rB_len (ns:List ZN) (ts:List PTie) (vs:List Int) (i:Nat):(rB ns ts vs i).length≤1:=Zdp _ _
theorem rC_len (ns:List ZN) (vs:List Int) (t:Nat→ByteArray) (i:Nat):(rC ns vs t i).length≤1:=ite_len' _ _
theorem rE_len (ns:List ZN) (vs:List Int) (i j:Nat):(rE ns vs i j).length≤1:=Zdp _ _
theorem ZeM:∀(l:List Int) (p:Int),0≤p→p≤3→ZbP p l=true→(l.length:Int)+p≤3
 | [],p,_,h,_=>by simp;omega
 | x :: t,p,h0,h1,h=>by
  rw[ZbP,Bool.and_eq_true,Bool.and_eq_true,decide_eq_true_eq] at h
  have h3:=Zc0 h.1.1
  have:=ZeM t (prp x) (by omega) (by omega) h.2
  rw[List.length_cons];omega
theorem labB_len {l:List Int} (h:labB l=true):l.length≤3:=by
 have:=ZeM l 0 (by omega) (by omega) h
 omega
theorem lbL_ok {ns:List ZN} (h:Z2 ns=true) {i:Nat} (hi:i<ns.length):labB (lbL ns i)=true:=Zer h _ (Zez (by omega) (by omega))
theorem gD_len {ns:List ZN} (h:Z2 ns=true) (vs:List Int) {i:Nat} (hi:i<ns.length):(gD ns vs i).length≤3:=by
 have h1:=Zbc (m:=1) (g:=gE ns vs i) (lbL ns i).length 0 (fun j _ _=>gE_len ns vs i j)
 have h2:=labB_len (lbL_ok h hi)
 unfold gD
 omega
theorem rD_len {ns:List ZN} (h:Z2 ns=true) (vs:List Int) {i:Nat} (hi:i<ns.length):(rD ns vs i).length≤3:=by
 have h1:=Zbc (m:=1) (g:=rE ns vs i) (lbL ns i).length 0 (fun j _ _=>rE_len ns vs i j)
 have h2:=labB_len (lbL_ok h hi)
 unfold rD
 omega
theorem watch_in {ns:List ZN} {ts:List PTie} {z:Int} (h:ZaG ns ts z=true) {i:Nat} (hi:i<ns.length) {x:Int} (hx:x∈lbL ns i):0≤Zbh ns (prp x)∧Zbh ns (prp x)<ns.length:=by
 unfold ZaG at h
 rw[Bool.and_eq_true] at h
 have h1:=List.all_eq_true.1 h.2 _ (Zez (ns:=ns) (i:=(i:Int)) (by omega) (by omega))
 unfold Zcm at h1
 rw[Bool.not_eq_true',List.any_eq_false] at h1
 have h2:=h1 x hx
 rw[Bool.not_eq_true',Bool.not_eq_false] at h2
 unfold ZbY ZdV at h2
 simp only[Bool.and_eq_true,decide_eq_true_eq] at h2
 exact⟨h2.1.1.1,(Zd6 _ ns).2⟩
theorem free_idx {ts:List PTie} {i:Nat} (hi:i<ts.length) (hf:(ZD ts (i:Int)).f4=true):0≤ZaU (fun y=>decide ((i:Int)=y)) (Za6 ts)∧ZaU (fun y=>decide ((i:Int)=y)) (Za6 ts)<(Za6 ts).length:=by
 refine⟨?_,(Zd6 _ _).2⟩
 have h:(Za6 ts).any (fun y=>decide ((i:Int)=y))=true:=by
  refine List.any_eq_true.2 ⟨(i:Int),?_,Ze rfl⟩
  unfold Za6 Zcz
  refine List.mem_map.2 ⟨i,List.mem_filter.2 ⟨List.mem_range.2 hi,?_⟩,rfl⟩
  rw[← ZdT]
  exact hf
 rw[← ZcP] at h
 exact Zd h
theorem addB {a:Zy.Acc} {x:PLk} {s:ByteArray} (h1:a.1.length<4398046511104) (h2:a.2.length<4398046511104) (h3:s.size≤9223372036854775807):Zy.add a x s=some (a.1 ++ [x],a.2 ++ [s]):=if_pos ⟨h1,h2,h3⟩
theorem hap_f {ns:List ZN} {ts:List PTie} {z:Int} {ln vs:List Int} (hc:ZbA ns ts) (hs:ZaG ns ts z=true) (hv:Zb2 vs=true) (k:Nat) (hk:2 ^ 65≤k) (i:Int) (h0:0≤i) (h1:i<ns.length):Zy.hap k ns ts z ln vs i=some (hapB ns vs i):=
 Zfw z ln vs i hc (ZbK hs) hv h0 h1 k hk
theorem Zet {ns:List ZN} (h:Z2 ns=true) {i:Int} (h0:0≤i) (h1:i<ns.length):(ZH ns i).f0.size≤8:=(Ze5 h h0 h1).1
theorem stA_f {ns:List ZN} {ts:List PTie} {z:Int} {vs:List Int} {hp:Int→Option Bool} (hn:Z2 ns=true) (hh:∀i:Int,0≤i→i<ns.length→hp i=some (hapB ns vs i)) (i:Nat) (x:List PLk) (y:List ByteArray) (hi:i<ns.length) (hx:x.length+(gA ns vs z i).length≤4194304) (hy:y.length+(rA ns vs i).length≤4194304) :
  Zy.stA hp ns ts z i (x,y)=some (x ++ gA ns vs z i,y ++ rA ns vs i):=by
 unfold Zy.stA
 rw[hh i (by omega) (by omega),Zi]
 unfold gA at hx ⊢
 unfold rA at hy ⊢
 generalize hapB ns vs (i:Int)=b at hx hy ⊢
 cases b with
 | false=>simp only[Bool.false_eq_true,if_false,List.append_nil]
 | true=>
  simp only[if_true] at hx hy ⊢
  have:=Zet hn (i:=(i:Int)) (by omega) (by omega)
  rw[addB (by show x.length<_;simp only[List.length_cons,List.length_nil] at hx;omega) (by show y.length<_;simp only[List.length_cons,List.length_nil] at hy;omega) (by rw[ByteArray.size_append];show 8+_≤_;omega)]
  rfl
theorem stC_f {ns:List ZN} {vs:List Int} {hp:Int→Option Bool} (hh:∀i:Int,0≤i→i<ns.length→hp i=some (hapB ns vs i)) (i:Nat) (x:List PLk) (y:List ByteArray) (hi:i<ns.length) (hx:x.length+(gC ns vs i).length≤4194304) (hy:y.length+(rC ns vs (fun _=>⟨#[]⟩) i).length≤4194304) :
  Zy.stC hp i (x,y)=some (x ++ gC ns vs i,y ++ rC ns vs (fun _=>⟨#[]⟩) i):=by
 unfold Zy.stC
 rw[hh i (by omega) (by omega),Zi]
 unfold gC at hx ⊢
 unfold rC at hy ⊢
 generalize hapB ns vs (i:Int)=b at hx hy ⊢
 cases b with
 | true=>simp only[if_true,List.append_nil]
 | false=>
  simp only[Bool.false_eq_true,if_false] at hx hy ⊢
  rw[addB (by show x.length<_;simp only[List.length_cons,List.length_nil] at hx;omega) (by show y.length<_;simp only[List.length_cons,List.length_nil] at hy;omega) (by show(0:Nat)≤_;omega)]
  rfl
theorem stE_f {ns:List ZN} {ts:List PTie} {z:Int} {vs:List Int} {hp:Int→Option Bool} (hs:ZaG ns ts z=true) (hh:∀i:Int,0≤i→i<ns.length→hp i=some (hapB ns vs i)) (i:Nat) (hi:i<ns.length) (j:Nat) (x:List PLk) (y:List ByteArray) (hj:j<(lbL ns i).length) (hx:x.length+(gE ns vs i j).length≤4194304) (hy:y.length+(rE ns vs i j).length≤4194304) :
  Zy.stE hp ns ts z i (lbL ns i) j (x,y)=some (x ++ gE ns vs i j,y ++ rE ns vs i j):=by
 have hn:=ZbK hs
 have hm:rd (lbL ns i) (j:Int)∈lbL ns i:=by rw[ZaN];exact ZaQ hj 0
 have hlit:=Zd3 (lbL_ok hn hi) _ hm
 have hw:=watch_in hs hi hm
 unfold Zy.stE
 rw[hh i (by omega) (by omega),Zi]
 unfold gE at hx ⊢
 unfold rE at hy ⊢
 generalize hapB ns vs (i:Int)=b at hx hy ⊢
 cases b with
 | false=>simp only[Bool.false_eq_true,if_false,List.append_nil]
 | true=>
  simp only[if_true] at hx hy ⊢
  rw[Zdz hlit,Zi,Zbj.f,Zi,if_pos hw]
  have h1:=Zet hn (i:=(i:Int)) (by omega) (by omega)
  have h2:=Zet hn hw.1 hw.2
  rw[addB (by show x.length<_;simp only[List.length_cons,List.length_nil] at hx;omega) (by show y.length<_;simp only[List.length_cons,List.length_nil] at hy;omega) (by unfold Zy.after;rw[ByteArray.size_append,ByteArray.size_append,ByteArray.size_append];show 6+_+1+_≤_;omega)]
  rfl
theorem stD_f {ns:List ZN} {ts:List PTie} {z:Int} {vs:List Int} {hp:Int→Option Bool} (hs:ZaG ns ts z=true) (hh:∀i:Int,0≤i→i<ns.length→hp i=some (hapB ns vs i)) (i:Nat) (x:List PLk) (y:List ByteArray) (hi:i<ns.length) (hx:x.length+(gD ns vs i).length≤4194304) (hy:y.length+(rD ns vs i).length≤4194304) :
  Zy.stD hp ns ts z i (x,y)=some (x ++ gD ns vs i,y ++ rD ns vs i):=by
 unfold gD at hx ⊢
 unfold rD at hy ⊢
 show run (Zy.stE hp ns ts z i (lbL ns i)) (lbL ns i).length 0 (x,y)=_
 exact Zdn (n:=(lbL ns i).length) (B:=4194304) (fun j x y hj h1 h2=>stE_f hs hh i hi j x y hj h1 h2) _ 0 x y (by omega) hx hy
theorem stB_f {ns:List ZN} {ts:List PTie} {z:Int} {ln vs:List Int} {hp:Int→Option Bool} (hs:ZaG ns ts z=true) (hl:ln.length=(Za6 ts).length) (hh:∀i:Int,0≤i→i<ns.length→hp i=some (hapB ns vs i)) (i:Nat) (x:List PLk) (y:List ByteArray) (hi:i<ts.length) (hx:x.length+(gB ns ts ln vs i).length≤4194304) (hy:y.length+(rB ns ts vs i).length≤4194304) :
  Zy.stB hp ns ts z ln (Za6 ts) i (x,y)=some (x ++ gB ns ts ln vs i,y ++ rB ns ts vs i):=by
 have hn:=ZbK hs
 have ht:=ZcJ hs
 obtain⟨⟨f0,f1⟩,⟨g0,g1⟩,_⟩:=tie_bd ht (j:=(i:Int)) (by omega) (by omega)
 unfold Zy.stB
 rw[hh _ f0 f1,Zi]
 unfold gB tieH at hx ⊢
 unfold rB tieH at hy ⊢
 cases h1:hapB ns vs (ZD ts (i:Int)).f0 with
 | false=>simp only[Bool.false_and,Bool.false_eq_true,if_false,List.append_nil]
 | true=>
  rw[if_pos rfl,hh _ g0 g1,Zi]
  rw[h1,Bool.true_and] at hx hy
  rw[Bool.true_and]
  cases h2:hapB ns vs (ZD ts (i:Int)).f1 with
  | false=>simp only[Bool.false_eq_true,if_false,List.append_nil]
  | true=>
   rw[h2] at hx hy
   simp only[if_true] at hx hy ⊢
   have hspan:Zy.span (Za6 ts) ln i (ZD ts (i:Int))=some ((lkT ts ln i).f2.f0,(lkT ts ln i).f2.f1):=by
    unfold Zy.span lkT lenAt
    cases h4:(ZD ts (i:Int)).f4 with
    | false=>rfl
    | true=>
     have hq:=free_idx hi h4
     rw[if_pos rfl,if_pos ⟨hq.1,by rw[hl];exact hq.2⟩];rfl
   have hsz:=tieT_len hn ht (j:=(i:Int)) (by omega) (by omega)
   rw[hspan,Zi,Zfu z hn ht (by omega) (by omega),Zi,addB (by show x.length<_;simp only[List.length_cons,List.length_nil] at hx;omega) (by show y.length<_;simp only[List.length_cons,List.length_nil] at hy;omega) (by rw[bs_size];omega)]
   unfold lkT
   rfl
theorem Zfv {ns:List ZN} {ts:List PTie} {z:Int} {ln vs:List Int} (hc:ZbA ns ts) (hs:ZaG ns ts z=true) (hch:Zca ns ts ln vs=true) (k:Nat) (hk:2 ^ 65≤k):Zy.f k ns ts z ln vs=some ((ns.length:Int),Zdk ns ts z ln vs,projR ns ts vs (fun _=>⟨#[]⟩)):=by
 have hn:=ZbK hs
 have ht:=ZcJ hs
 have n7:=Zc4 hn
 have t14:=Zdi ht
 have hl:ln.length=(Za6 ts).length:=by
  unfold Zca at hch
  simp only[Bool.and_eq_true,decide_eq_true_eq] at hch
  exact hch.1
 have hh:∀i:Int,0≤i→i<ns.length→Zy.hap k ns ts z ln vs i=some (hapB ns vs i):=fun i h0 h1=>hap_f hc hs (Zef hch) k hk i h0 h1
 have a1:=Zbc (m:=1) (g:=gA ns vs z) ns.length 0 (fun j _ _=>gA_len ns vs z j)
 have a2:=Zbc (m:=1) (g:=rA ns vs) ns.length 0 (fun j _ _=>rA_len ns vs j)
 have b1:=Zbc (m:=1) (g:=gB ns ts ln vs) ts.length 0 (fun j _ _=>gB_len ns ts ln vs j)
 have b2:=Zbc (m:=1) (g:=rB ns ts vs) ts.length 0 (fun j _ _=>rB_len ns ts vs j)
 have c1:=Zbc (m:=1) (g:=gC ns vs) ns.length 0 (fun j _ _=>gC_len ns vs j)
 have c2:=Zbc (m:=1) (g:=rC ns vs (fun _=>⟨#[]⟩)) ns.length 0 (fun j _ _=>rC_len ns vs _ j)
 have d1:=Zbc (m:=3) (g:=gD ns vs) ns.length 0 (fun j _ h=>gD_len hn vs (by omega))
 have d2:=Zbc (m:=3) (g:=rD ns vs) ns.length 0 (fun j _ h=>rD_len hn vs (by omega))
 unfold Zy.f
 rw[Zdn (g:=gA ns vs z) (h:=rA ns vs) (n:=ns.length) (B:=4194304) (fun i x y hi h1 h2=>stA_f (ts:=ts) hn hh i x y hi h1 h2) _ 0 [] [] (by omega) (by simp only[List.length_nil];omega) (by simp only[List.length_nil];omega),Zi,List.nil_append,List.nil_append]
 unfold Zy.f1
 rw[Zfd ns ts z hc.2.1 k (by omega),Zi]
 rw[Zdn (g:=gB ns ts ln vs) (h:=rB ns ts vs) (n:=ts.length) (B:=4194304) (fun i x y hi h1 h2=>stB_f hs hl hh i x y hi h1 h2) _ 0 _ _ (by omega) (by omega) (by omega),Zi]
 unfold Zy.f2
 rw[Zdn (g:=gC ns vs) (h:=rC ns vs (fun _=>⟨#[]⟩)) (n:=ns.length) (B:=4194304) (fun i x y hi h1 h2=>stC_f hh i x y hi h1 h2) _ 0 _ _ (by omega) (by rw[List.length_append];omega) (by rw[List.length_append];omega),Zi]
 unfold Zy.f3
 rw[Zdn (g:=gD ns vs) (h:=rD ns vs) (n:=ns.length) (B:=4194304) (fun i x y hi h1 h2=>stD_f hs hh i x y hi h1 h2) _ 0 _ _ (by omega) (by simp only[List.length_append];omega) (by simp only[List.length_append];omega),Zi]
 rfl
abbrev ZcY:=S112
theorem rdK_nat (l:List ZcY) (i:Nat):ZbC l (i:Int)=l.getD i z112:=by unfold ZbC;rw[Int.toNat_natCast]
theorem Ze4 {n:Int} {L:List ZcY} (h:Zay n L=true):1≤n∧n≤8∧L.length≤40∧∀x∈L,ZbD n x=true:=by
 unfold Zay at h
 simp only[Bool.and_eq_true,Bool.not_eq_true',decide_eq_false_iff_not] at h
 obtain⟨h1,h2,h3,h4⟩:=h
 refine⟨by omega,by omega,by omega,fun x hx=>?_⟩
 have:=List.any_eq_false.1 h4 x hx
 simpa using this
theorem ZcR (n:Int) (L:List ZcY) (k:Nat) (_:2 ^ 66≤k):ZaS.f k n L=some (Zay n L):=rfl
def fin2 (e:Int) (L:List PLk):Int×List PLk×Bool:=if Zay e L=true then(e,L,true) else(0,[],false)
def hbs (ns:List ZN) (vs:List Int) (n:Nat):List Bool:=(List.range n).map fun i:Nat=>hapB ns vs (i:Int)
theorem hbs_len (ns:List ZN) (vs:List Int) (n:Nat):(hbs ns vs n).length=n:=by unfold hbs;simp
theorem hbs_succ (ns:List ZN) (vs:List Int) (n:Nat):hbs ns vs (n+1)=hbs ns vs n ++ [hapB ns vs (n:Int)]:=by unfold hbs;rw[List.range_succ,List.map_append];rfl
theorem hbs_at (ns:List ZN) (vs:List Int) {n:Nat} {i:Int} (h0:0≤i) (h1:i<n):rdOf false (hbs ns vs n) i=hapB ns vs i:=by
 obtain⟨m,rfl⟩:=Int.eq_ofNat_of_zero_le h0
 unfold rdOf hbs
 rw[Int.toNat_natCast,List.getD_eq_getElem?_getD,List.getElem?_map,List.getElem?_range (by omega)]
 rfl
theorem Zdx {α:Type} {step:Nat→List α→Option (List α)} {g:Nat→List α} {n B:Nat}
  (hs:∀i x,i<n→x.length+(g i).length≤B→step i x=some (x ++ g i)):∀(d i:Nat) (x:List α),i+d=n→x.length+(cat g d i).length≤B→run step d i x=some (x ++ cat g d i)
 | 0,i,x,_,_=>by simp[run,cat]
 | d+1,i,x,hi,hx=>by
  rw[cat,List.length_append] at hx
  rw[run,hs i x (by omega) (by omega),Zi,Zdx hs d (i+1) _ (by omega) (by rw[List.length_append];omega),cat,List.append_assoc]
section
variable {ns:List ZN} {ts:List PTie} {z:Int} {ln vs:List Int}
theorem addLB {L:Zt.Ls} {x:PLk} (h:L.length<4398046511104):Zt.addL L x=some (L ++ [x]):=if_pos h
theorem at_hbs (ns:List ZN) (vs:List Int) {n:Nat} {i:Int} (h0:0≤i) (h1:i<n):Zt.at_ (hbs ns vs n) i=some (hapB ns vs i):=by
 unfold Zt.at_
 rw[if_pos ⟨h0,by rw[hbs_len];exact h1⟩,hbs_at ns vs h0 h1]
theorem sp_stE (hs:ZaG ns ts z=true) (hc:ZbA ns ts) {k:Nat} (hk:2 ^ 64≤k) (i:Nat) (hi:i<ns.length) (j:Nat) (x:List PLk) (hj:j<(lbL ns i).length) (hx:x.length+(gE ns vs i j).length≤4194304):Zt.stE k ns ts z (hbs ns vs ns.length) i (lbL ns i) j x=some (x ++ gE ns vs i j):=by
 have hn:=ZbK hs
 have hN:=hc.1
 have hm:rd (lbL ns i) (j:Int)∈lbL ns i:=by rw[ZaN];exact ZaQ hj 0
 have hlit:=Zd3 (lbL_ok hn hi) _ hm
 have hp:=Zc0 hlit
 unfold Zt.stE
 rw[at_hbs ns vs (by omega) (by omega),Zi]
 unfold gE at hx ⊢
 generalize hapB ns vs (i:Int)=b at hx ⊢
 cases b with
 | false=>simp only[Bool.false_eq_true,if_false,List.append_nil]
 | true=>
  simp only[if_true] at hx ⊢
  rw[Zde hlit,Zi,ZcV ns ts z _ (by omega) k hk,Zi,addLB (by simp only[List.length_cons,List.length_nil] at hx;omega),← ZdW ns (by omega)]
  rfl
theorem sp_stD (hs:ZaG ns ts z=true) (hc:ZbA ns ts) {k:Nat} (hk:2 ^ 64≤k) (i:Nat) (x:List PLk) (hi:i<ns.length) (hx:x.length+(gD ns vs i).length≤4194304):Zt.stD k ns ts z (hbs ns vs ns.length) i x=some (x ++ gD ns vs i):=by
 unfold Zt.stD
 unfold gD at hx ⊢
 show run (Zt.stE k ns ts z (hbs ns vs ns.length) i (lbL ns i)) (lbL ns i).length 0 x=_
 exact Zdx (n:=(lbL ns i).length) (B:=4194304) (fun j x hj h1=>sp_stE hs hc hk i hi j x hj h1) _ 0 x (by omega) hx
theorem sp_stC (i:Nat) (x:List PLk) (hi:i<ns.length) (hx:x.length+(gC ns vs i).length≤4194304):Zt.stC (hbs ns vs ns.length) i x=some (x ++ gC ns vs i):=by
 unfold Zt.stC
 rw[at_hbs ns vs (by omega) (by omega),Zi]
 unfold gC at hx ⊢
 generalize hapB ns vs (i:Int)=b at hx ⊢
 cases b with
 | true=>simp only[if_true,List.append_nil]
 | false=>
  simp only[Bool.false_eq_true,if_false] at hx ⊢
  rw[addLB (by simp only[List.length_cons,List.length_nil] at hx;omega)]
  rfl
theorem l10Length_f (hc:ZbA ns ts) (hl:ln.length=(Za6 ts).length) {i:Nat} (hi:i<ts.length) (hf:(ZD ts (i:Int)).f4=true) (k:Nat) (hk:2 ^ 64≤k):Zan.f k ns ts z ln vs (i:Int)=some (lenAt ts ln i):=by
 have hN:=hc.2.1
 have hF:=freeIx_len ts
 have hq:=free_idx hi hf
 unfold Zan.f
 rw[l10Free_f ns ts z hc.2.1 k (by omega),Zi]
 unfold lenAt
 generalize hL:Za6 ts=L at *
 obtain⟨p,hp⟩:∃p:Nat,(p:Int)=ZaU (fun y=>decide ((i:Int)=y)) L:=⟨(ZaU (fun y=>decide ((i:Int)=y)) L).toNat,by omega⟩
 rw[← hp] at hq ⊢
 have hfind:L.findIdx? (fun y=>decide ((i:Int)=y))=some p:=by
  unfold ZaU at hp
  cases h:L.findIdx? (fun y=>decide ((i:Int)=y)) with
  | none=>rw[h] at hp;simp only at hp;omega
  | some m=>rw[h] at hp;simp only at hp;congr 1;omega
 obtain⟨hpl,hpt,hpb⟩:=List.findIdx?_eq_some_iff_getElem.1 hfind
 have go:∀(d j k:Nat),j+d=p→d<k→Zan.l0 k (i:Int) L (L.length:Int) (j:Int) ln vs=some (rd ln (p:Int)):=by
  intro d
  induction d with
  | zero=>
   intro j k hj hk
   obtain⟨m,rfl⟩:∃m,k=m+1:=⟨k - 1,by omega⟩
   obtain rfl:j=p:=by omega
   simp only[Zan.l0]
   have:rd L (j:Int)=(i:Int):=by
    rw[ZaN,List.getD_eq_getElem?_getD,Zl hpl]
    have:=Zd hpt
    exact this.symm
   rw[if_pos (by omega),if_pos (by omega),if_pos (by omega),if_pos this,if_pos (by omega)]
  | succ d ih=>
   intro j k hj hk
   obtain⟨m,rfl⟩:∃m,k=m+1:=⟨k - 1,by omega⟩
   simp only[Zan.l0]
   have hne:¬rd L (j:Int)=(i:Int):=by
    have h:=hpb j (by omega)
    rw[ZaN,List.getD_eq_getElem?_getD,Zl (by omega)]
    intro he
    apply h
    exact Ze he.symm
   rw[if_pos (by omega),if_pos (by omega),if_pos (by omega),if_neg hne,ZR (n:=L.length) (by omega) (by omega)]
   exact ih (j+1) m (by omega) (by omega)
 exact go p 0 k (by omega) (by omega)
theorem sp_stB (hs:ZaG ns ts z=true) (hc:ZbA ns ts) (hl:ln.length=(Za6 ts).length) {k:Nat} (hk:2 ^ 64≤k) (i:Nat) (x:List PLk) (hi:i<ts.length) (hx:x.length+(gB ns ts ln vs i).length≤4194304):Zt.stB k ns ts z ln vs (hbs ns vs ns.length) i x=some (x ++ gB ns ts ln vs i):=by
 have ht:=ZcJ hs
 obtain⟨⟨f0,f1⟩,⟨g0,g1⟩,_⟩:=tie_bd ht (j:=(i:Int)) (by omega) (by omega)
 unfold Zt.stB
 rw[at_hbs ns vs f0 f1,Zi]
 unfold gB tieH at hx ⊢
 cases h1:hapB ns vs (ZD ts (i:Int)).f0 with
 | false=>simp only[Bool.false_and,Bool.false_eq_true,if_false,List.append_nil]
 | true=>
  rw[if_pos rfl,at_hbs ns vs g0 g1,Zi]
  rw[h1,Bool.true_and] at hx
  rw[Bool.true_and]
  cases h2:hapB ns vs (ZD ts (i:Int)).f1 with
  | false=>simp only[Bool.false_eq_true,if_false,List.append_nil]
  | true=>
   rw[h2] at hx
   simp only[if_true] at hx ⊢
   have hspan:Zt.span k ns ts z ln vs i (ZD ts (i:Int))=some ((lkT ts ln i).f2.f0,(lkT ts ln i).f2.f1):=by
    unfold Zt.span
    cases h4:(ZD ts (i:Int)).f4 with
    | false=>rw[if_neg (by simp)];unfold lkT;rw[h4];rfl
    | true=>rw[if_pos rfl,l10Length_f hc hl hi h4 k hk,Zi];unfold lkT;rw[h4];rfl
   rw[hspan,Zi,addLB (by simp only[List.length_cons,List.length_nil] at hx;omega)]
   rfl
theorem sp_stA (hs:ZaG ns ts z=true) (hc:ZbA ns ts) (hv:Zb2 vs=true) {k:Nat} (hk:2 ^ 64≤k):∀(d i:Nat) (x:List PLk),i+d=ns.length→x.length+(cat (gA ns vs z) d i).length≤4194304→run (Zt.stA k ns ts z vs) d i (hbs ns vs i,x)=some (hbs ns vs ns.length,x ++ cat (gA ns vs z) d i)
 | 0,i,x,hi,_=>by
  obtain rfl:i=ns.length:=by omega
  simp[run,cat]
 | d+1,i,x,hi,hx=>by
  have hN:=hc.1
  have hn:=ZbK hs
  rw[cat,List.length_append] at hx
  have hstep:Zt.stA k ns ts z vs i (hbs ns vs i,x)=some (hbs ns vs (i+1),x ++ gA ns vs z i):=by
   unfold Zt.stA
   rw[spec_hap_f vs (i:Int) hc hn hv (by omega) (by omega) k (by omega),Zi,if_pos (by rw[hbs_len];omega)]
   rw[show(stB (ZH ns (i:Int)).f1 vs == 1)=hapB ns vs (i:Int) from rfl,← hbs_succ,at_hbs ns vs (by omega) (by omega),Zi]
   have h2:x.length+(gA ns vs z i).length≤4194304:=by omega
   unfold gA at h2 ⊢
   generalize hapB ns vs (i:Int)=b at h2 ⊢
   cases b with
   | false=>simp only[Bool.false_eq_true,if_false,List.append_nil]
   | true=>
    simp only[if_true] at h2 ⊢
    rw[addLB (by simp only[List.length_cons,List.length_nil] at h2;omega)]
    rfl
  rw[run,hstep,Zi,sp_stA hs hc hv hk d (i+1) _ (by omega) (by rw[List.length_append];omega),cat,List.append_assoc]
def ZcS (ns:List ZN) (ts:List PTie) (z:Int) (ln vs:List Int):Int×List PLk×Bool:=if ZcG ns ts z ln vs=true then fin2 (ns.length:Int) (Zdk ns ts z ln vs) else(0,[],false)
theorem Zep (hc:ZbA ns ts) (hlv:vs.length≤1048576) (k:Nat) (hk:2 ^ 67≤k):Zt.f k ns ts z ln vs=some (ZcS ns ts z ln vs):=by
 unfold Zt.f ZcS
 rw[Ze2 ln vs hc hlv k hk,Zi]
 by_cases h:ZcG ns ts z ln vs=true
 ·rw[if_pos h,if_pos h]
  obtain⟨hs,hch⟩:=ZdP h
  have hn:=ZbK hs
  have n7:=Zc4 hn
  have t14:=Zdi (ZcJ hs)
  have hl:ln.length=(Za6 ts).length:=by
   unfold Zca at hch
   simp only[Bool.and_eq_true,decide_eq_true_eq] at hch
   exact hch.1
  have a1:=Zbc (m:=1) (g:=gA ns vs z) ns.length 0 (fun j _ _=>gA_len ns vs z j)
  have b1:=Zbc (m:=1) (g:=gB ns ts ln vs) ts.length 0 (fun j _ _=>gB_len ns ts ln vs j)
  have c1:=Zbc (m:=1) (g:=gC ns vs) ns.length 0 (fun j _ _=>gC_len ns vs j)
  have d1:=Zbc (m:=3) (g:=gD ns vs) ns.length 0 (fun j _ h=>gD_len hn vs (by omega))
  have hA:=sp_stA (z:=z) (vs:=vs) hs hc (Zef hch) (k:=k) (by omega) ns.length 0 [] (by omega) (by simp only[List.length_nil];omega)
  rw[List.nil_append] at hA
  rw[show(([],[]):List Bool×Zt.Ls)=(hbs ns vs 0,[]) from rfl,hA,Zi]
  unfold Zt.f1
  rw[Zdx (g:=gB ns ts ln vs) (n:=ts.length) (B:=4194304) (fun i x hi h1=>sp_stB hs hc hl (by omega) i x hi h1) _ 0 _ (by omega) (by dsimp only;omega),Zi]
  unfold Zt.f2
  rw[Zdx (g:=gC ns vs) (n:=ns.length) (B:=4194304) (fun i x hi h1=>sp_stC i x hi h1) _ 0 _ (by omega) (by simp only[List.length_append];omega),Zi]
  unfold Zt.f3
  rw[Zdx (g:=gD ns vs) (n:=ns.length) (B:=4194304) (fun i x hi h1=>sp_stD hs hc (by omega) i x hi h1) _ 0 _ (by omega) (by simp only[List.length_append];omega),Zi]
  unfold Zt.f4
  rw[ZcR _ _ k (by omega),Zi]
  unfold fin2 Zdk
  split <;> rfl
 ·rw[if_neg h,if_neg h]
end
theorem Zev {ns:List ZN} {ts:List PTie} {z:Int} {ln vs:List Int} (hc:ZbA ns ts) (hlv:vs.length≤1048576) (k:Nat) (hk:2 ^ 67≤k):Zbk.f k ns ts z ln vs=some (ZcS ns ts z ln vs):=by
 unfold Zbk.f ZcS
 rw[Zfb ln vs hc hlv k (by omega),Zi]
 by_cases h:ZcG ns ts z ln vs=true
 ·obtain⟨hs,hch⟩:=ZdP h
  rw[if_pos h,if_pos h,Zfv hc hs hch k (by omega),Zi]
  show((ZaL.f (ns.length:Int) (Zdk ns ts z ln vs)).bind _)=_
  rw[show ZaL.f (ns.length:Int) (Zdk ns ts z ln vs)=some (Zay (ns.length:Int) (Zdk ns ts z ln vs)) from rfl,Zi,fin2]
  split <;> rfl
 ·rw[if_neg h,if_neg h]
theorem projL_len {ns:List ZN} {ts:List PTie} {z:Int} {ln vs:List Int} (hs:ZaG ns ts z=true):(Zdk ns ts z ln vs).length≤49:=by
 have hn:=ZbK hs
 have n7:=Zc4 hn
 have t14:=Zdi (ZcJ hs)
 have a1:=Zbc (m:=1) (g:=gA ns vs z) ns.length 0 (fun j _ _=>gA_len ns vs z j)
 have b1:=Zbc (m:=1) (g:=gB ns ts ln vs) ts.length 0 (fun j _ _=>gB_len ns ts ln vs j)
 have c1:=Zbc (m:=1) (g:=gC ns vs) ns.length 0 (fun j _ _=>gC_len ns vs j)
 have d1:=Zbc (m:=3) (g:=gD ns vs) ns.length 0 (fun j _ h=>gD_len hn vs (by omega))
 unfold Zdk
 simp only[List.length_append]
 omega
theorem projB_len (ns:List ZN) (ts:List PTie) (z:Int) (ln vs:List Int):(ZcS ns ts z ln vs).2.1.length≤1048576:=by
 unfold ZcS
 split
 ·rename_i h
  have:=projL_len (ln:=ln) (vs:=vs) (ZdP h).1
  unfold fin2
  split
  ·show(Zdk ns ts z ln vs).length≤_;omega
  ·exact Nat.zero_le _
 ·exact Nat.zero_le _
theorem edgesL_len (x:ZcY):(edgesL x).length≤2:=by unfold edgesL;split <;> split <;> simp
theorem edgesB_len:∀L:List ZcY,(Zbr L).length≤2 * L.length
 | []=>Nat.le_refl _
 | x :: t=>by have:=edgesB_len t;have:=edgesL_len x;rw[Zbr,List.length_append,List.length_cons];omega
def gofB (n:Int) (L:List ZcY):Int×List Zah:=if Zay n L=true then(n,Zbr L) else(0,[])
theorem Zfz (n:Int) (L:List ZcY) (k:Nat) (hk:2 ^ 64≤k):Zck.f k n L=some (gofB n L):=by
 unfold Zck.f gofB ZaL.f
 rw[Zi]
 by_cases h:Zay n L=true
 ·rw[if_pos h,if_pos h,Z7.f,if_pos (show L.length≤1048576 by have:=Ze4 h;omega)];rfl
 ·rw[if_neg h,if_neg h]
def ncF (n:Int) (E:List Zah):List Int:=if Zby n E=true then ncB n.toNat E else[]
def consB (n:Int) (L:List ZcY):Bool:=Zay n L && (ncF n (Zbr L)).isEmpty
theorem Zej (n:Int) (L:List ZcY) (k:Nat) (hk:2 ^ 64≤k):Zbd.f k n L=some (consB n L):=by
 unfold Zbd.f consB ZaL.f
 rw[Zi]
 by_cases h:Zay n L=true
 ·rw[if_pos h,Zfz n L k hk,Zi,gofB,if_pos h,h,Zaz.f,Zi];rfl
 ·rw[if_neg h,Bool.eq_false_iff.2 h];rfl
theorem Zfp (n:Int) (L:List ZcY) (k:Nat) (hk:2 ^ 66≤k):Zbo.f k n L=some (gofB n L):=by
 unfold Zbo.f gofB
 rw[ZcR n L k hk,Zi]
 by_cases h:Zay n L=true
 ·rw[if_pos h,if_pos h,ZbS.f,if_pos (show L.length≤1048576 by have:=Ze4 h;omega)];rfl
 ·rw[if_neg h,if_neg h]
theorem Zeg (n:Int) (L:List ZcY) (k:Nat) (hk:2 ^ 66≤k):Zbu.f k n L=some (consB n L):=by
 unfold Zbu.f consB
 rw[ZcR n L k hk,Zi]
 by_cases h:Zay n L=true
 ·rw[if_pos h,Zfp n L k hk,Zi,gofB,if_pos h,h,ZaT.f,Zi,Bool.true_and]
  show some (((ncF n (Zbr L)).length:Int) == 0)=some (ncF n (Zbr L)).isEmpty
  cases ncF n (Zbr L) with
  | nil=>rfl
  | cons x t=>
   have:((((x :: t).length:Nat):Int) == 0)=false:=by rw[beq_eq_false_iff_ne,List.length_cons];omega
   rw[this];rfl
 ·rw[if_neg h,Bool.eq_false_iff.2 h];rfl
def mastB (ns:List ZN) (ts:List PTie) (z:Int) (ln vs:List Int):Bool:=(ZcS ns ts z ln vs).2.2 && consB (ZcS ns ts z ln vs).1 (ZcS ns ts z ln vs).2.1
theorem ZeU {ns:List ZN} {ts:List PTie} {z:Int} {ln vs:List Int} (hc:ZbA ns ts) (hlv:vs.length≤1048576) (k:Nat) (hk:2 ^ 67≤k):ZbB.f k ns ts z ln vs=some (mastB ns ts z ln vs):=by
 unfold ZbB.f mastB
 rw[Zep hc hlv k hk,Zi]
 cases h:(ZcS ns ts z ln vs).2.2 with
 | true=>rw[if_pos rfl,Zeg _ _ k (by omega)];rfl
 | false=>rw[if_neg (by simp)];rfl
theorem ZeV {ns:List ZN} {ts:List PTie} {z:Int} {ln vs:List Int} (hc:ZbA ns ts) (hlv:vs.length≤1048576) (k:Nat) (hk:2 ^ 67≤k):ZbF.f k ns ts z ln vs=some (mastB ns ts z ln vs):=by
 unfold ZbF.f mastB
 rw[Zev hc hlv k hk,Zi]
 cases h:(ZcS ns ts z ln vs).2.2 with
 | true=>rw[if_pos rfl,Zej _ _ k (by omega)];rfl
 | false=>rw[if_neg (by simp)];rfl
end Go.Proofs.YtoeimopgoaffcaaGreatDoor.Pr
