/- The texts of one claim, put together by a program of this session. -/
import Derived.Deep.LoopGhost
import Derived.BigQuiet
import Derived.Deep.RegionHeld3
import Derived.Lib.ItoaNum
import Derived.Lib.Join
import Derived.Test.YtoeimopgoaffcaaGreatDoorBBsc1x1
import Derived.Test.YtoeimopgoaffcaaGreatDoorBBsc1x10
import Derived.Test.YtoeimopgoaffcaaGreatDoorBBsc1x11
import Derived.Test.YtoeimopgoaffcaaGreatDoorBBsc1x13
import Derived.Test.YtoeimopgoaffcaaGreatDoorBBsc1x15
import Derived.Test.YtoeimopgoaffcaaGreatDoorBBsc1x16
import Derived.Test.YtoeimopgoaffcaaGreatDoorBBsc1x17
import Derived.Test.YtoeimopgoaffcaaGreatDoorBBsc1x18
import Derived.Test.YtoeimopgoaffcaaGreatDoorBBsc1x19
import Derived.Test.YtoeimopgoaffcaaGreatDoorBBsc1x2
import Derived.Test.YtoeimopgoaffcaaGreatDoorBBsc1x20
import Derived.Test.YtoeimopgoaffcaaGreatDoorBBsc1x21
import Derived.Test.YtoeimopgoaffcaaGreatDoorBBsc1x24
import Derived.Test.YtoeimopgoaffcaaGreatDoorBBsc1x26
import Derived.Test.YtoeimopgoaffcaaGreatDoorBBsc1x27
import Derived.Test.YtoeimopgoaffcaaGreatDoorBBsc1x28
import Derived.Test.YtoeimopgoaffcaaGreatDoorBBsc1x7
import Derived.Test.YtoeimopgoaffcaaGreatDoorBBsc1x8
import Derived.Test.YtoeimopgoaffcaaGreatDoorBBsc1x9
namespace Go.Proofs.YtoeimopgoaffcaaGreatDoor.Pr
open Go.RowKit Go.Proofs.YtoeimopgoaffcaaGreatDoorW.PrintWords Go.Proofs.YtoeimopgoaffcaaGreatDoorW.PrintLast Go.Proofs.YtoeimopgoaffcaaGreatDoorW.PrintMore
attribute [local go_sem] ZU ZS ZW ZV ZO ZN ZT ZR
set_option linter.unusedVariables false
set_option linter.unusedSimpArgs false
open Go.Proofs.YtoeimopgoaffcaaGreatDoor.Ni
def Zbq.f (k:Nat) (l0_0:List (S39)) (l0_1:List (S82)) (a0_2:Int) (l1_0:List Int) (l1_1:List Int):Option (Int×List S112×Bool):=(Zcc.f k l0_0 l0_1 a0_2 l1_0 l1_1).bind fun t=>(if t=true then((Zz.f k l0_0 l0_1 a0_2 l1_0 l1_1).bind fun b=>((ZaL.f b.1 b.2.1).bind fun t=>(if t=true then(some (b.1,b.2.1,true)) else(some (0,([]:List S112),false))))) else(some (0,([]:List S112),false)))
set_option maxHeartbeats 8000000 in
set_option maxRecDepth 100000 in
theorem Zbq.calls (k:Nat) (A0_0:Option Addr) (c0_0:Nat) (l0_0:List (S39)) (A0_1:Option Addr) (c0_1:Nat) (l0_1:List (S82)) (a0_2:Int) (A1_0:Option Addr) (c1_0:Nat) (l1_0:List Int) (A1_1:Option Addr) (c1_1:Nat) (l1_1:List Int) (r1:Int) (r2:List S112) (r3:Bool) (w:World) (hr0_0:Kd.C k39 w A0_0 l0_0.length l0_0) (hc0_0:l0_0.length≤c0_0) (hr0_1:Kd.C k82 w A0_1 l0_1.length l0_1) (hc0_1:l0_1.length≤c0_1) (hr1_0:Kd.C (Kd.int .i64) w A1_0 l1_0.length l1_0) (hc1_0:l1_0.length≤c1_0) (hr1_1:Kd.C (Kd.int .i64) w A1_1 l1_1.length l1_1) (hc1_1:l1_1.length≤c1_1) (ht:TW w) (h:Zbq.f k l0_0 l0_1 a0_2 l1_0 l1_1=some (r1,r2,r3)) :
  Calls Tryz.prog 32 #[.agg #[.slice A0_0 l0_0.length c0_0,.slice A0_1 l0_1.length c0_1,.int .i64 a0_2],.agg #[.slice A1_0 l1_0.length c1_0,.slice A1_1 l1_1.length c1_1]] w fun e w'=>∃v1_:Value,e=.returned (.tuple #[.agg #[.int .i64 r1,v1_],.bool r3])∧Kd.R k112 112 w' w.heap.size (fun _=>True) v1_ r2∧Below w.heap.size w w':=by
 unfold Zbq.f at h
 obtain⟨b,hb_,h⟩:=Option.bind_eq_some_iff.1 h
 have HCO:=Za fun (W:World) (hb:Below w.heap.size w W)=>Zcc.calls k A0_0 c0_0 l0_0 A0_1 c0_1 l0_1 a0_2 A1_0 c1_0 l1_0 A1_1 c1_1 l1_1 b W (Zb hr0_0 hb) hc0_0 (Zb hr0_1 hb) hc0_1 (Zb hr1_0 hb) hc1_0 (Zb hr1_1 hb) hc1_1 hb_
 have HP:=Za fun (W:World) (q1:Int) (q2:List S112) (q3:List ByteArray) (hb:Below w.heap.size w W) (hP:Zz.f k l0_0 l0_1 a0_2 l1_0 l1_1=some (q1,q2,q3))=>Zz.calls k A0_0 c0_0 l0_0 A0_1 c0_1 l0_1 a0_2 A1_0 c1_0 l1_0 A1_1 c1_1 l1_1 q1 q2 q3 W (Zb hr0_0 hb) hc0_0 (Zb hr0_1 hb) hc0_1 (Zb hr1_0 hb) hc1_0 (Zb hr1_1 hb) hc1_1 (TW.below ht hb) hP
 have HB3:=Za (show Below w.heap.size w (((w.alloc (.cells #[.slice A0_0 l0_0.length c0_0,.slice A0_1 l0_1.length c0_1,.int .i64 a0_2] 25)).alloc (.cells #[.slice A1_0 l1_0.length c1_0,.slice A1_1 l1_1.length c1_1] 58)).alloc (.cells #[.int .i64 0,.slice none 0 0] 54)) from Zn (Zn (Zn (Below.refl w.heap.size w) _) _) _)
 have K:=Za (show(((w.alloc (.cells #[.slice A0_0 l0_0.length c0_0,.slice A0_1 l0_1.length c0_1,.int .i64 a0_2] 25)).alloc (.cells #[.slice A1_0 l1_0.length c1_0,.slice A1_1 l1_1.length c1_1] 58)).alloc (.cells #[.int .i64 0,.slice none 0 0] 54)).cell? ⟨w.heap.size,0,none⟩=some (.slice A0_0 l0_0.length c0_0)∧(((w.alloc (.cells #[.slice A0_0 l0_0.length c0_0,.slice A0_1 l0_1.length c0_1,.int .i64 a0_2] 25)).alloc (.cells #[.slice A1_0 l1_0.length c1_0,.slice A1_1 l1_1.length c1_1] 58)).alloc (.cells #[.int .i64 0,.slice none 0 0] 54)).cell? ⟨w.heap.size,1,none⟩=some (.slice A0_1 l0_1.length c0_1)∧(((w.alloc (.cells #[.slice A0_0 l0_0.length c0_0,.slice A0_1 l0_1.length c0_1,.int .i64 a0_2] 25)).alloc (.cells #[.slice A1_0 l1_0.length c1_0,.slice A1_1 l1_1.length c1_1] 58)).alloc (.cells #[.int .i64 0,.slice none 0 0] 54)).cell? ⟨w.heap.size,2,none⟩=some (.int .i64 a0_2)∧(((w.alloc (.cells #[.slice A0_0 l0_0.length c0_0,.slice A0_1 l0_1.length c0_1,.int .i64 a0_2] 25)).alloc (.cells #[.slice A1_0 l1_0.length c1_0,.slice A1_1 l1_1.length c1_1] 58)).alloc (.cells #[.int .i64 0,.slice none 0 0] 54)).cell? ⟨w.heap.size+1,0,none⟩=some (.slice A1_0 l1_0.length c1_0)∧(((w.alloc (.cells #[.slice A0_0 l0_0.length c0_0,.slice A0_1 l0_1.length c0_1,.int .i64 a0_2] 25)).alloc (.cells #[.slice A1_0 l1_0.length c1_0,.slice A1_1 l1_1.length c1_1] 58)).alloc (.cells #[.int .i64 0,.slice none 0 0] 54)).cell? ⟨w.heap.size+1,1,none⟩=some (.slice A1_1 l1_1.length c1_1) from⟨by go_simp,by go_simp,by go_simp,by go_simp,by go_simp⟩)
 have B0:=Za (show(((w.alloc (.cells #[.slice A0_0 l0_0.length c0_0,.slice A0_1 l0_1.length c0_1,.int .i64 a0_2] 25)).alloc (.cells #[.slice A1_0 l1_0.length c1_0,.slice A1_1 l1_1.length c1_1] 58)).alloc (.cells #[.int .i64 0,.slice none 0 0] 54)).heap[w.heap.size+2]? = some (Obj.cells #[.int .i64 0,.slice none 0 0] 54 (0,0)) by
  have h_:=ZcD ((w.alloc (.cells #[.slice A0_0 l0_0.length c0_0,.slice A0_1 l0_1.length c0_1,.int .i64 a0_2] 25)).alloc (.cells #[.slice A1_0 l1_0.length c1_0,.slice A1_1 l1_1.length c1_1] 58)) (.cells #[.int .i64 0,.slice none 0 0] 54)
  simpa using h_)
 have HN:=Za (Nat.le_add_right w.heap.size 2)
 have hu:=Tryz.underlying25
 have hu2:=Tryz.underlying58
 have hu3:=Tryz.underlying54
 clear hr0_0 hc0_0 hr0_1 hc0_1 hr1_0 hc1_0 hr1_1 hc1_1 hb_ ht
 cases b with
 | false=>
  obtain⟨e1,e2,e3⟩:(0:Int)=r1∧[]=r2∧false=r3:=by
   have h_:=Zg ((if_neg (by simp)).symm.trans h)
   exact⟨congrArg Prod.fst h_,congrArg (fun z=>z.2.1) h_,congrArg (fun z=>z.2.2) h_⟩
  subst e1;subst e2;subst e3;clear h HP
  go_enter Tryz.func32,Tryz.ntmps32
  go_wp2_with (go_at_call 103;refine(HCO.out _ HB3.out).mono ?_;rintro e w4 ⟨rfl,hb⟩;have k0:=Zx hb K.out.1;have k1:=Zx hb K.out.2.1;have k2:=Zx hb K.out.2.2.1;have m0:=Zx hb K.out.2.2.2.1;have m1:=Zx hb K.out.2.2.2.2;have B4:=Za (ZA B0.out hb);have z0:w4.cell? ⟨w.heap.size+2,0,none⟩=some (.int .i64 0):=(Zp B4.out 0).trans rfl;have z1:w4.cell? ⟨w.heap.size+2,1,none⟩=some (.slice none 0 0):=(Zp B4.out 1).trans rfl;have fz0:=Zr B4.out 0;have fz1:=Zr B4.out 1;have HB4:=Za (HB3.out.trans (hb.mono HB3.out.size));clear hb)
  refine bodyPost_ret (ZbL rfl _ _ (w.heap.size+2) 54 #[.int .i64 0,.slice none 0 0] (0,0) _ rfl (ZZ (cs:=#[.int .i64 0,.slice none 0 0]) (ZZ (cs:=#[.int .i64 0,.slice none 0 0]) B4.out 0 _ rfl) 1 _ rfl) Tryz.underlying54 rfl (by kernel_rfl)) rfl ?_
  exact⟨_,rfl,Kd.R_nil _ _ _ _ _,Zq (Zq HB4.out HN.out) HN.out⟩
 | true=>
  replace h:=(if_pos rfl).symm.trans h
  obtain⟨⟨q1,q2,q3⟩,hP,h⟩:=Option.bind_eq_some_iff.1 h
  dsimp only at h
  obtain⟨c,hC,h⟩:=Option.bind_eq_some_iff.1 h
  have HPJ:=Za fun (W:World) (hb:Below w.heap.size w W)=>HP.out W q1 q2 q3 hb hP
  have HS:=Za fun (W:World) (A:Option Addr) (c_:Nat) (hc:q2.length≤c_) (hr:Kd.C k112 W A q2.length q2)=>ZaL.calls q1 A c_ q2 c W hr hc hC
  clear hP hC HP
  cases c with
  | false=>
   obtain⟨e1,e2,e3⟩:(0:Int)=r1∧[]=r2∧false=r3:=by
    have h_:=Zg ((if_neg (by simp)).symm.trans h)
    exact⟨congrArg Prod.fst h_,congrArg (fun z=>z.2.1) h_,congrArg (fun z=>z.2.2) h_⟩
   subst e1;subst e2;subst e3;clear h
   go_enter Tryz.func32,Tryz.ntmps32
   go_wp2_with (first|(go_at_call 103;refine(HCO.out _ HB3.out).mono ?_;rintro e w4 ⟨rfl,hb⟩;have k0:=Zx hb K.out.1;have k1:=Zx hb K.out.2.1;have k2:=Zx hb K.out.2.2.1;have m0:=Zx hb K.out.2.2.2.1;have m1:=Zx hb K.out.2.2.2.2;have B4:=Za (ZA B0.out hb);have z0:w4.cell? ⟨w.heap.size+2,0,none⟩=some (.int .i64 0):=(Zp B4.out 0).trans rfl;have z1:w4.cell? ⟨w.heap.size+2,1,none⟩=some (.slice none 0 0):=(Zp B4.out 1).trans rfl;have fz0:=Zr B4.out 0;have fz1:=Zr B4.out 1;have HB4:=Za (HB3.out.trans (hb.mono HB3.out.size));clear hb)|(go_at_call 104;refine(HPJ.out _ HB4.out).mono ?_;rintro e w5 ⟨v1,v2,rfl,ho,ho2,hb⟩;obtain⟨A5,c5,e5⟩:=Kd.R_slice ho;subst e5;obtain⟨A6,c6,e6⟩:=Kd.R_slice ho2;subst e6;have HO:=Za (Kd.R_lower ho HB4.out.size);have B5:=Za (ZA B4.out hb);have HB5:=Za (HB4.out.trans (hb.mono HB4.out.size));clear ho ho2 hb k0 k1 k2 m0 m1 z0 z1 fz0 fz1)|(go_at_call 105;refine(HS.out _ A5 c5 (Kd.R_reads' HO.out).2.1 (Zb (Kd.R_reads' HO.out).2.2 (Zn (Below.refl _ _) _))).mono ?_;rintro e w6 ⟨rfl,hb⟩;have B6:=Za (ZA (Zs B5.out _) hb);have B7:=Za (ZA (ZcD w5 (.cells #[.int .i64 q1,.slice A5 q2.length c5] 54)) hb);have HO6:=Za (Kd.R_below (Kd.R_alloc HO.out _) hb);have HB6:=Za (Zw (Zn HB5.out _) hb);have y0:w6.cell? ⟨w5.heap.size,0,none⟩=some (.int .i64 q1):=(Zp B7.out 0).trans rfl;have y1:w6.cell? ⟨w5.heap.size,1,none⟩=some (.slice A5 q2.length c5):=(Zp B7.out 1).trans rfl;have z0:w6.cell? ⟨w.heap.size+2,0,none⟩=some (.int .i64 0):=(Zp B6.out 0).trans rfl;have z1:w6.cell? ⟨w.heap.size+2,1,none⟩=some (.slice none 0 0):=(Zp B6.out 1).trans rfl;have fz0:=Zr B6.out 0;have fz1:=Zr B6.out 1;clear hb))
   refine bodyPost_ret (ZbL rfl _ _ (w.heap.size+2) 54 #[.int .i64 0,.slice none 0 0] (0,0) _ rfl (ZZ (cs:=#[.int .i64 0,.slice none 0 0]) (ZZ (cs:=#[.int .i64 0,.slice none 0 0]) B6.out 0 _ rfl) 1 _ rfl) Tryz.underlying54 rfl (by kernel_rfl)) rfl ?_
   exact⟨_,rfl,Kd.R_nil _ _ _ _ _,Zq (Zq HB6.out HN.out) HN.out⟩
  | true=>
   obtain⟨e1,e2,e3⟩:q1=r1∧q2=r2∧true=r3:=by
    have h_:=Zg ((if_pos rfl).symm.trans h)
    exact⟨congrArg Prod.fst h_,congrArg (fun z=>z.2.1) h_,congrArg (fun z=>z.2.2) h_⟩
   subst e1;subst e2;subst e3;clear h
   go_enter Tryz.func32,Tryz.ntmps32
   go_wp2_with (first|(go_at_call 103;refine(HCO.out _ HB3.out).mono ?_;rintro e w4 ⟨rfl,hb⟩;have k0:=Zx hb K.out.1;have k1:=Zx hb K.out.2.1;have k2:=Zx hb K.out.2.2.1;have m0:=Zx hb K.out.2.2.2.1;have m1:=Zx hb K.out.2.2.2.2;have B4:=Za (ZA B0.out hb);have z0:w4.cell? ⟨w.heap.size+2,0,none⟩=some (.int .i64 0):=(Zp B4.out 0).trans rfl;have z1:w4.cell? ⟨w.heap.size+2,1,none⟩=some (.slice none 0 0):=(Zp B4.out 1).trans rfl;have fz0:=Zr B4.out 0;have fz1:=Zr B4.out 1;have HB4:=Za (HB3.out.trans (hb.mono HB3.out.size));clear hb)|(go_at_call 104;refine(HPJ.out _ HB4.out).mono ?_;rintro e w5 ⟨v1,v2,rfl,ho,ho2,hb⟩;obtain⟨A5,c5,e5⟩:=Kd.R_slice ho;subst e5;obtain⟨A6,c6,e6⟩:=Kd.R_slice ho2;subst e6;have HO:=Za (Kd.R_lower ho HB4.out.size);have B5:=Za (ZA B4.out hb);have HB5:=Za (HB4.out.trans (hb.mono HB4.out.size));clear ho ho2 hb k0 k1 k2 m0 m1 z0 z1 fz0 fz1)|(go_at_call 105;refine(HS.out _ A5 c5 (Kd.R_reads' HO.out).2.1 (Zb (Kd.R_reads' HO.out).2.2 (Zn (Below.refl _ _) _))).mono ?_;rintro e w6 ⟨rfl,hb⟩;have B6:=Za (ZA (Zs B5.out _) hb);have B7:=Za (ZA (ZcD w5 (.cells #[.int .i64 q1,.slice A5 q2.length c5] 54)) hb);have HO6:=Za (Kd.R_below (Kd.R_alloc HO.out _) hb);have HB6:=Za (Zw (Zn HB5.out _) hb);have y0:w6.cell? ⟨w5.heap.size,0,none⟩=some (.int .i64 q1):=(Zp B7.out 0).trans rfl;have y1:w6.cell? ⟨w5.heap.size,1,none⟩=some (.slice A5 q2.length c5):=(Zp B7.out 1).trans rfl;have z0:w6.cell? ⟨w.heap.size+2,0,none⟩=some (.int .i64 0):=(Zp B6.out 0).trans rfl;have z1:w6.cell? ⟨w.heap.size+2,1,none⟩=some (.slice none 0 0):=(Zp B6.out 1).trans rfl;have fz0:=Zr B6.out 0;have fz1:=Zr B6.out 1;clear hb))
   refine bodyPost_ret (ZbL rfl _ _ (w.heap.size+2) 54 #[.int .i64 q1,.slice A5 q2.length c5] (0,0) _ rfl (ZZ (cs:=#[.int .i64 q1,.slice none 0 0]) (ZZ (cs:=#[.int .i64 0,.slice none 0 0]) B6.out 0 _ rfl) 1 _ rfl) Tryz.underlying54 rfl (by kernel_rfl)) rfl ?_
   exact⟨_,rfl,Kd.R_mono (Kd.R_far (p:=⟨w.heap.size+2,1,none⟩) (Kd.R_far (p:=⟨w.heap.size+2,0,none⟩) (Kd.R_types HO6.out B6.out (by decide)) (fun _ hk=>hk.2) _) (fun _ hk=>hk.2) _) (fun _ _=>trivial),Zq (Zq HB6.out HN.out) HN.out⟩
def ZbJ.f (k:Nat) (l0_0:List (S39)) (l0_1:List (S82)) (a0_2:Int) (l1_0:List Int) (l1_1:List Int):Option Bool:=(Zbq.f k l0_0 l0_1 a0_2 l1_0 l1_1).bind fun b=>(if b.2.2=true then((Zbk.f k b.1 b.2.1).bind fun t=>(some t)) else(some false))
set_option maxHeartbeats 8000000 in
set_option maxRecDepth 100000 in
theorem ZbJ.calls (k:Nat) (A0_0:Option Addr) (c0_0:Nat) (l0_0:List (S39)) (A0_1:Option Addr) (c0_1:Nat) (l0_1:List (S82)) (a0_2:Int) (A1_0:Option Addr) (c1_0:Nat) (l1_0:List Int) (A1_1:Option Addr) (c1_1:Nat) (l1_1:List Int) (r:Bool) (w:World) (hr0_0:Kd.C k39 w A0_0 l0_0.length l0_0) (hc0_0:l0_0.length≤c0_0) (hr0_1:Kd.C k82 w A0_1 l0_1.length l0_1) (hc0_1:l0_1.length≤c0_1) (hr1_0:Kd.C (Kd.int .i64) w A1_0 l1_0.length l1_0) (hc1_0:l1_0.length≤c1_0) (hr1_1:Kd.C (Kd.int .i64) w A1_1 l1_1.length l1_1) (hc1_1:l1_1.length≤c1_1) (ht:TW w) (h:ZbJ.f k l0_0 l0_1 a0_2 l1_0 l1_1=some r) :
  Calls Tryz.prog 39 #[.agg #[.slice A0_0 l0_0.length c0_0,.slice A0_1 l0_1.length c0_1,.int .i64 a0_2],.agg #[.slice A1_0 l1_0.length c1_0,.slice A1_1 l1_1.length c1_1]] w fun e w'=>e=.returned (.bool r)∧Below w.heap.size w w':=by
 unfold ZbJ.f at h
 obtain⟨⟨q1,q2,q3⟩,hP,h⟩:=Option.bind_eq_some_iff.1 h
 have HP:=Za fun (W:World) (hb:Below w.heap.size w W)=>Zbq.calls k A0_0 c0_0 l0_0 A0_1 c0_1 l0_1 a0_2 A1_0 c1_0 l1_0 A1_1 c1_1 l1_1 q1 q2 q3 W (Zb hr0_0 hb) hc0_0 (Zb hr0_1 hb) hc0_1 (Zb hr1_0 hb) hc1_0 (Zb hr1_1 hb) hc1_1 (TW.below ht hb) hP
 have HB2:=Za (show Below w.heap.size w ((w.alloc (.cells #[.slice A0_0 l0_0.length c0_0,.slice A0_1 l0_1.length c0_1,.int .i64 a0_2] 25)).alloc (.cells #[.slice A1_0 l1_0.length c1_0,.slice A1_1 l1_1.length c1_1] 58)) from Zn (Zn (Below.refl w.heap.size w) _) _)
 have hu:=Tryz.underlying25
 have hu2:=Tryz.underlying58
 have hu3:=Tryz.underlying54
 dsimp only at h
 clear hr0_0 hc0_0 hr0_1 hc0_1 hr1_0 hc1_0 hr1_1 hc1_1 hP ht
 cases q3 with
 | false=>
  rw[if_neg (by simp)] at h
  obtain rfl:=Zg h
  clear h
  go_enter Tryz.func39,Tryz.ntmps39
  go_wp2_with (go_at_call 32;refine(HP.out _ HB2.out).mono ?_;rintro e w3 ⟨v1,rfl,ho,hb⟩;obtain⟨A3,c3,e3⟩:=Kd.R_slice ho;subst e3;have HB3:=Za (HB2.out.trans (hb.mono HB2.out.size));clear ho hb)
  go_ret
  exact⟨rfl,by repeat(first|exact HB3.out|apply Zn|apply Zm|apply Zo)⟩
 | true=>
  rw[if_pos rfl] at h
  obtain⟨t,hC,hr⟩:=Option.bind_eq_some_iff.1 h
  obtain rfl:=Zg hr
  have HC:=Za fun (W:World) (A:Option Addr) (c:Nat) (hc:q2.length≤c) (hr:Kd.C k112 W A q2.length q2)=>Zbk.calls k q1 A c q2 t W hr hc hC
  clear h hr hC
  go_enter Tryz.func39,Tryz.ntmps39
  go_wp2_with (first|(go_at_call 32;refine(HP.out _ HB2.out).mono ?_;rintro e w3 ⟨v1,rfl,ho,hb⟩;obtain⟨A3,c3,e3⟩:=Kd.R_slice ho;subst e3;have HO:=Za (Kd.R_reads' ho).2;have HB3:=Za (HB2.out.trans (hb.mono HB2.out.size));clear ho hb)|(go_at_call 112;refine(HC.out _ A3 c3 HO.out.1 (Zb HO.out.2 (Zn (Below.refl _ _) _))).mono ?_;rintro e w4 ⟨rfl,hb⟩;have HB4:=Za (Zw (Zn HB3.out _) hb);clear hb))
  go_ret
  exact⟨rfl,HB4.out⟩
def Zbm.f (k:Nat) (l0_0:List (S39)) (l0_1:List (S82)) (a0_2:Int):Option Int:=(ZaR.f l0_0 l0_1 a0_2).bind fun b=>if b=true then((Z8.f k l0_0 l0_1 a0_2).bind fun L=>if okI l0_1 L=true then(wq fun p=>(ZaN.f l0_0 l0_1 a0_2 p)).bind fun q=>some (Zb6 q 3 1 (L.foldl (ccS l0_1) 1)) else none) else some 0
set_option maxHeartbeats 8000000 in
set_option maxRecDepth 100000 in
theorem Zbm.calls (k:Nat) (A0_0:Option Addr) (c0_0:Nat) (l0_0:List (S39)) (A0_1:Option Addr) (c0_1:Nat) (l0_1:List (S82)) (a0_2:Int) (r:Int) (w:World) (hr0_0:Kd.C k39 w A0_0 l0_0.length l0_0) (hc0_0:l0_0.length≤c0_0) (hr0_1:Kd.C k82 w A0_1 l0_1.length l0_1) (hc0_1:l0_1.length≤c0_1) (h:Zbm.f k l0_0 l0_1 a0_2=some r) :
  Calls Tryz.prog 50 #[.agg #[.slice A0_0 l0_0.length c0_0,.slice A0_1 l0_1.length c0_1,.int .i64 a0_2]] w fun e w'=>e=.returned (.int .i64 r)∧Below w.heap.size w w':=by
 unfold Zbm.f at h
 obtain⟨b,hb_,h⟩:=Option.bind_eq_some_iff.1 h
 have HS:=Za fun (W:World) (hb:Below w.heap.size w W)=>ZaR.calls A0_0 c0_0 l0_0 A0_1 c0_1 l0_1 a0_2 b W (Zb hr0_0 hb) hc0_0 (Zb hr0_1 hb) hc0_1 hb_
 clear hb_
 cases b with
 | false=>
  obtain rfl:(0:Int)=r:=Zg ((if_neg (by simp)).symm.trans h)
  have HR1:=Za hr0_1
  have HB0:=Za (Zn (Below.refl w.heap.size w) (.cells #[.slice A0_0 l0_0.length c0_0,.slice A0_1 l0_1.length c0_1,.int .i64 a0_2] 25))
  have hu:=Tryz.underlying25
  have hu3:=Tryz.underlying82
  clear hr0_0 hc0_0 hr0_1 hc0_1 h
  go_enter Tryz.func50,Tryz.ntmps50
  go_wp2_with (go_at_call 19;refine(HS.out _ (by repeat(first|(with_reducible first|exact HB0.out|apply Zn|apply Zm|apply Zo)|exact HB0.out))).mono ?_;rintro e w4 ⟨rfl,hb⟩;have HB4:=Za (Zw (by repeat(first|(with_reducible first|exact HB0.out|apply Zn|apply Zm|apply Zo)|exact HB0.out)) hb);have kk0:w4.cell? ⟨w.heap.size,0,none⟩=some (.slice A0_0 l0_0.length c0_0):=Zx hb (by go_simp);have kk1:w4.cell? ⟨w.heap.size,1,none⟩=some (.slice A0_1 l0_1.length c0_1):=Zx hb (by go_simp);have kk2:w4.cell? ⟨w.heap.size,2,none⟩=some (.int .i64 a0_2):=Zx hb (by go_simp);clear hb)
  go_ret
  exact⟨rfl,HB4.out⟩
 | true=>
 rw[if_pos rfl] at h
 obtain⟨L,hL_,h⟩:=Option.bind_eq_some_iff.1 h
 by_cases hok:okI l0_1 L=true
 case neg=>rw[if_neg hok] at h;exact absurd h (by simp)
 rw[if_pos hok] at h
 obtain⟨q,hq_,h⟩:=Option.bind_eq_some_iff.1 h
 have OK:=Za (okI_iff hok)
 have HE0:=Za (show Zb6 q 3 1 ((L.drop 0).foldl (ccS l0_1) 1)=r from Zg h)
 have HF:=Za fun (W:World) (hb:Below w.heap.size w W)=>Z8.calls k A0_0 c0_0 l0_0 A0_1 c0_1 l0_1 a0_2 L W (Zb hr0_0 hb) hc0_0 (Zb hr0_1 hb) hc0_1 hL_
 have HW:=Za fun (W:World) (p:Nat) (h1:1≤p) (h3:p≤3) (hb:Below w.heap.size w W)=>ZaN.calls A0_0 c0_0 l0_0 A0_1 c0_1 l0_1 a0_2 (p:Int) (q (p:Int)) W (Zb hr0_0 hb) hc0_0 (Zb hr0_1 hb) hc0_1 (ZeO hq_ p h1 h3)
 clear hL_ hq_ hok;have HR1:=Za hr0_1
 have HB0:=Za (Zn (Below.refl w.heap.size w) (.cells #[.slice A0_0 l0_0.length c0_0,.slice A0_1 l0_1.length c0_1,.int .i64 a0_2] 25))
 have hu:=Tryz.underlying25
 have hu3:=Tryz.underlying82
 clear hr0_0 hc0_0 hr0_1 hc0_1 h
 go_enter Tryz.func50,Tryz.ntmps50
 go_wp2_with (first|(go_at_call 19;refine(HS.out _ (by repeat(first|(with_reducible first|exact HB0.out|apply Zn|apply Zm|apply Zo)|exact HB0.out))).mono ?_;rintro e w4 ⟨rfl,hb⟩;have HB4:=Za (Zw (by repeat(first|(with_reducible first|exact HB0.out|apply Zn|apply Zm|apply Zo)|exact HB0.out)) hb);have kk0:w4.cell? ⟨w.heap.size,0,none⟩=some (.slice A0_0 l0_0.length c0_0):=Zx hb (by go_simp);have kk1:w4.cell? ⟨w.heap.size,1,none⟩=some (.slice A0_1 l0_1.length c0_1):=Zx hb (by go_simp);have kk2:w4.cell? ⟨w.heap.size,2,none⟩=some (.int .i64 a0_2):=Zx hb (by go_simp);clear hb)|(go_at_call 90;refine(HF.out _ HB4.out).mono ?_;rintro e w6 ⟨vF,rfl,ho,hb⟩;obtain⟨A_,c_,e_⟩:=Kd.R_slice ho;subst e_;have HRL:=Za (Kd.R_reads' ho).2.2;have HB6:=Za (Zw HB4.out hb);have K6:=Za (And.intro (Zx hb kk0) (And.intro (Zx hb kk1) (Zx hb kk2)));clear ho hb kk0 kk1 kk2))
 clear HS HF HB0 HB4
 go_loopg [3,13] L.length (fun gg s3 s13 wr=>∃(i:Nat) (x:Int),s3=.int .i64 x∧s13=.int .i64 (i:Int)∧Aside0 (i≤L.length)∧Aside0 (L.length - i≤gg)∧Aside0 (Zb6 q 3 1 ((L.drop i).foldl (ccS l0_1) x)=r)∧Aside0 (Below w6.heap.size w6 wr))
 case atStart=>exact⟨0,1,rfl,rfl,⟨Nat.zero_le _⟩,⟨by omega⟩,HE0,⟨Below.refl _ _⟩⟩
 case round=>
 clear HE0
 obtain⟨i,n,rfl,rfl,HK,HG,HE,HBr⟩:=hrel
 have HBw:=Za (HB6.out.trans (HBr.out.mono HB6.out.size))
 by_cases hlt:i<L.length
 ·have hltz:(i:Int)<(L.length:Int):=by omega
  obtain⟨ad,q1,hx⟩:=Kd.at_int (Zb HRL.out HBr.out) (i:Int) (by omega) hltz
  cases q1
  have hm:=OK.out.2 _ (ZaJ hlt 0)
  have HD:=HE.out
  rw[Zah hlt 0,List.foldl_cons,ccS] at HD
  rw[Int.toNat_natCast,ZaI] at hx
  generalize L.getD i 0=x at hx hm HD
  unfold facI at HD
  obtain⟨ad3,q3,hz0,hz1,hz2,hz3,hz4⟩:=Zbp (Zb HR1.out HBw.out) x hm.1 hm.2
  cases q3
  generalize (ZD l0_1 x).f2=lo at hz2 HD
  generalize (ZD l0_1 x).f3=hi at hz3 HD
  have px:=eq_true hm.1
  have py:=eq_true hm.2
  have HD2:=Za HD
  have k1:=Zx HBr.out K6.out.2.1
  clear hz0 hz1 hz4 hm HD HE
  go_wp2
  go_quiet (fail)
  go_wp2
  go_roundg (L.length - (i+1))
  case measure=>have:=HG.out;omega
  case rel=>exact⟨i+1,_,rfl,by rw[ZL hlt (by have:=OK.out.1;omega)],⟨by omega⟩,⟨by omega⟩,HD2,⟨by repeat(first|(with_reducible first|exact HBr.out|apply Zn|apply Zm|apply Zo)|exact HBr.out)⟩⟩
 ·obtain rfl:i=L.length:=by have:=HK.out;omega
  have HQ:=Za (show Zb6 q 3 1 n=r by
   have h:=HE.out
   rw[List.drop_length] at h
   exact h)
  clear HE HK HG hlt OK HRL
  go_wp2
  obtain⟨wo,hwo⟩:∃wo,wo=wr:=⟨_,rfl⟩
  subst hwo
  have K7:=Za (And.intro (Zx HBr.out K6.out.1) (And.intro (Zx HBr.out K6.out.2.1) (Zx HBr.out K6.out.2.2)))
  clear HBr K6
  go_loopg [3,6] 4 (fun gg s3 s6 wr=>∃(p:Nat) (x:Int),s3=.int .i64 x∧s6=.int .i64 (p:Int)∧Aside0 (1≤p∧p≤4)∧Aside0 (4 - p≤gg)∧Aside0 (Zb6 q (4 - p) p x=r)∧Aside0 (Below wo.heap.size wo wr))
  case atStart=>exact⟨1,n,rfl,rfl,⟨by omega⟩,⟨by omega⟩,HQ,⟨Below.refl _ _⟩⟩
  case round=>
  clear HQ
  obtain⟨p,n,rfl,rfl,HP,HG,HE,HBr⟩:=hrel
  have k0:=Zx HBr.out K7.out.1
  have k1:=Zx HBr.out K7.out.2.1
  have k2:=Zx HBr.out K7.out.2.2
  have HBv:=Za (HBw.out.trans (HBr.out.mono HBw.out.size))
  by_cases hp:p≤3
  ·have hpz:decide ((p:Int)≤3)=true:=Ze (by omega)
   have HWp:=Za (HW.out wr p HP.out.1 hp HBv.out)
   have HD:=HE.out
   rw[show 4 - p=(4 - (p+1))+1 by omega,Zb6,ccQ] at HD
   have HS:=Za (show wrap64 ((p:Int)+1)=((p+1:Nat):Int) from ZL (n:=4) (by omega) (by omega))
   generalize q (p:Int)=qp at HWp HD
   clear HE
   cases b2:decide (0≤qp) with
   | true=>
    rw[if_pos (show qp≥0 from Zd b2)] at HD
    have HD2:=Za HD;clear HD
    go_wp2_with (go_at_call 88;refine HWp.out.mono ?_;rintro e w8 ⟨rfl,hb⟩;have HBn:=Za (HBr.out.trans (hb.mono HBr.out.size));clear hb k0 k1 k2)
    go_roundg (4 - (p+1))
    case measure=>have:=HG.out;omega
    case rel=>exact⟨p+1,_,rfl,by first|rfl|rw[HS.out],⟨by have:=HP.out;omega⟩,⟨by omega⟩,HD2,HBn⟩
   | false=>
    rw[if_neg (show ¬qp≥0 from of_decide_eq_false b2)] at HD
    have HD2:=Za HD;clear HD
    go_wp2_with (go_at_call 88;refine HWp.out.mono ?_;rintro e w8 ⟨rfl,hb⟩;have HBn:=Za (HBr.out.trans (hb.mono HBr.out.size));clear hb k0 k1 k2)
    go_roundg (4 - (p+1))
    case measure=>have:=HG.out;omega
    case rel=>exact⟨p+1,_,rfl,by first|rfl|rw[HS.out],⟨by have:=HP.out;omega⟩,⟨by omega⟩,HD2,HBn⟩
  ·obtain rfl:p=4:=by have:=HP.out;omega
   have hpz:decide (((4:Nat):Int)≤3)=false:=rfl
   obtain rfl:n=r:=HE.out
   go_wp2
   go_ret
   exact⟨rfl,HBv.out⟩
def Z7.l0:Nat→Int→Int→List S39→List S82→Int→Option (Int)
 | 0,_,_,_,_,_=>none
 | k+1,n,c,a,b,z=>if n<c then((ZbY.f k a b z n).bind fun t=>((ZbJ.f k a b z t.1 t.2).bind fun m=>(if m=true then(Z7.l0 k (wrap64 (n+1)) c a b z) else(some n)))) else(some (-1))
def Z7.f (k:Nat) (l0_0:List (S39)) (l0_1:List (S82)) (a0_2:Int):Option (Int):=(Zbm.f k l0_0 l0_1 a0_2).bind fun c=>(Z7.l0 k 0 c l0_0 l0_1 a0_2)
set_option maxHeartbeats 8000000 in
set_option maxRecDepth 100000 in
theorem Z7.calls (k:Nat) (A0_0:Option Addr) (c0_0:Nat) (l0_0:List (S39)) (A0_1:Option Addr) (c0_1:Nat) (l0_1:List (S82)) (a0_2:Int) (r:Int) (w:World) (hr0_0:Kd.C k39 w A0_0 l0_0.length l0_0) (hc0_0:l0_0.length≤c0_0) (hr0_1:Kd.C k82 w A0_1 l0_1.length l0_1) (hc0_1:l0_1.length≤c0_1) (ht:TW w) (h:Z7.f k l0_0 l0_1 a0_2=some r) :
  Calls Tryz.prog 41 #[.agg #[.slice A0_0 l0_0.length c0_0,.slice A0_1 l0_1.length c0_1,.int .i64 a0_2]] w fun e w'=>e=.returned (.int .i64 r)∧Below w.heap.size w w':=by
 have HR0:=Za hr0_0;have HR1:=Za hr0_1;have HC0:=Za hc0_0;have HC1:=Za hc0_1;have HTW:=Za ht;clear ht
 have HB0:=Za (Zn (Below.refl w.heap.size w) (.cells #[.slice A0_0 l0_0.length c0_0,.slice A0_1 l0_1.length c0_1,.int .i64 a0_2] 25))
 have hu:=Tryz.underlying25
 have hu2:=Tryz.underlying58
 unfold Z7.f at h
 obtain⟨c,hc_,h⟩:=Option.bind_eq_some_iff.1 h
 have HCC:=Za fun (W:World) (hb:Below w.heap.size w W)=>Zbm.calls k A0_0 c0_0 l0_0 A0_1 c0_1 l0_1 a0_2 c W (Zb HR0.out hb) HC0.out (Zb HR1.out hb) HC1.out hc_
 have H:=Za h;clear hc_ hr0_0 hc0_0 hr0_1 hc0_1 h
 go_enter Tryz.func41,Tryz.ntmps41
 go_wp2_with (go_at_call 50;refine(HCC.out _ (by repeat(first|(with_reducible first|exact HB0.out|apply Zn|apply Zm|apply Zo)|exact HB0.out))).mono ?_;rintro e w2 ⟨rfl,hb⟩;have HB2:=Za (Zw (by repeat(first|(with_reducible first|exact HB0.out|apply Zn|apply Zm|apply Zo)|exact HB0.out)) hb);have K2:=Za (show w2.cell? ⟨w.heap.size,0,none⟩=some (.slice A0_0 l0_0.length c0_0)∧w2.cell? ⟨w.heap.size,1,none⟩=some (.slice A0_1 l0_1.length c0_1)∧w2.cell? ⟨w.heap.size,2,none⟩=some (.int .i64 a0_2) from⟨Zx hb (by go_simp),Zx hb (by go_simp),Zx hb (by go_simp)⟩);clear hb)
 go_loopg [3] k (fun kq s3 wr=>∃n:Int,s3=.int .i64 n∧Aside0 (Z7.l0 kq n c l0_0 l0_1 a0_2=some r)∧Aside0 (kq≤k)∧Aside0 (Below w.heap.size w wr)∧Aside0 (wr.cell? ⟨w.heap.size,0,none⟩=some (.slice A0_0 l0_0.length c0_0)∧wr.cell? ⟨w.heap.size,1,none⟩=some (.slice A0_1 l0_1.length c0_1)∧wr.cell? ⟨w.heap.size,2,none⟩=some (.int .i64 a0_2)))
 case atStart=>exact⟨0,rfl,H,⟨Nat.le_refl _⟩,HB2,K2⟩
 case round=>
 clear H
 obtain⟨n,rfl,HA,HK,HB,K⟩:=hrel
 cases gk with
 | zero=>exact absurd HA.out (by simp[Z7.l0])
 | succ k1=>
 have h:=HA.out
 clear HA
 simp only[Z7.l0] at h
 by_cases hc:n<c
 case neg=>
  rw[if_neg hc] at h
  obtain rfl:=Zg h
  have hcz:decide (n<c)=false:=Zf hc
  go_wp2
  go_ret
  exact⟨rfl,HB.out⟩
 rw[if_pos hc] at h
 have hcz:decide (n<c)=true:=Ze hc
 obtain⟨t,ht_,h⟩:=Option.bind_eq_some_iff.1 h
 obtain⟨m,hm_,h4⟩:=Option.bind_eq_some_iff.1 h
 clear h
 obtain⟨L1,L2⟩:=t
 dsimp only at hm_
 have HCA:=Za fun (W:World) (hb:Below w.heap.size w W)=>ZbY.calls k1 A0_0 c0_0 l0_0 A0_1 c0_1 l0_1 a0_2 n L1 L2 W (Zb HR0.out hb) HC0.out (Zb HR1.out hb) HC1.out ht_
 have HCM:=Za fun (W:World) (A1:Option Addr) (c1:Nat) (A2:Option Addr) (c2:Nat) (hb:Below w.heap.size w W) (g1:L1.length≤c1) (g2:Kd.C (Kd.int .i64) W A1 L1.length L1) (g3:L2.length≤c2) (g4:Kd.C (Kd.int .i64) W A2 L2.length L2)=>ZbJ.calls k1 A0_0 c0_0 l0_0 A0_1 c0_1 l0_1 a0_2 A1 c1 L1 A2 c2 L2 m W (Zb HR0.out hb) HC0.out (Zb HR1.out hb) HC1.out g2 g1 g4 g3 (TW.below HTW.out hb) hm_
 have H2:=Za h4;clear ht_ hm_ h4 hc
 obtain⟨k0,k1_,k2⟩:=K.out
 go_wp2
 clear k0 k1_ k2
 refine Zcn (n:=6) (S:=fun w'=>w'.cell? ⟨w.heap.size,0,none⟩=some (.slice A0_0 l0_0.length c0_0)∧w'.cell? ⟨w.heap.size,1,none⟩=some (.slice A0_1 l0_1.length c0_1)∧w'.cell? ⟨w.heap.size,2,none⟩=some (.int .i64 a0_2)) (ds:=[]) #[false,false,false,false,false,false] (by kernel_rfl) rfl rfl K.out (fun hHeld=>?_)
 have HB1:=Za (Zo HB.out)
 have K1:=Za hHeld
 generalize wr.drew=W1 at HB1 K1 hHeld ⊢
 refine pu (N:=some 14) 2 ?_
 refine tk (N:=some 12) 0 hHeld ?_
 refine tk (N:=some 13) 1 hHeld ?_
 refine one_ (i:=3) (N:=some 15) #[true,true,true,true,false,false] rfl rfl (by kernel_rfl) (by decide) (fun K_ hK=>?_)
 refine Zcw Tryz.func115 (by kernel_rfl) rfl #[.agg #[.slice A0_0 l0_0.length c0_0,.slice A0_1 l0_1.length c0_1,.int .i64 a0_2],.int .i64 n] (by rfl) rfl rfl (by(try simp only[List.map_toArray,List.map_cons,List.map_nil]);first|done|rfl) ?_
 refine(HCA.out _ HB1.out).mono ?_
 rintro e w3 ⟨v0,v1,rfl,q0,q1,hb⟩
 refine⟨_,rfl,?_⟩
 obtain⟨A1,c1,rfl,g1⟩:=Kd.R_reads q0
 obtain⟨A2,c2,rfl,g2⟩:=Kd.R_reads q1
 have HB3:=Za (Zw HB1.out hb)
 have K3:=Za (And.intro (Zx hb K1.out.1) (And.intro (Zx hb K1.out.2.1) (Zx hb K1.out.2.2)))
 clear hb q0 q1
 refine hK.out _ _ K3.out (fun hHeld=>?_)
 clear hK K_
 refine nrm (some 15) ?_
 refine one_ (i:=4) (N:=some 16) #[true,true,true,true,true,false] rfl rfl (by kernel_rfl) (by decide) (fun K_ hK=>?_)
 refine Zcw Tryz.func39 (by kernel_rfl) rfl #[.agg #[.slice A0_0 l0_0.length c0_0,.slice A0_1 l0_1.length c0_1,.int .i64 a0_2],.agg #[.slice A1 L1.length c1,.slice A2 L2.length c2]] (by rfl) rfl rfl (by(try simp only[List.map_toArray,List.map_cons,List.map_nil]);first|done|rfl) ?_
 refine(HCM.out _ _ _ _ _ HB3.out g1.1 g1.2 g2.1 g2.2).mono ?_
 rintro e w4 ⟨rfl,hb⟩
 refine⟨_,rfl,?_⟩
 have HB4:=Za (Zw HB3.out hb)
 have K4:=Za (And.intro (Zx hb K3.out.1) (And.intro (Zx hb K3.out.2.1) (Zx hb K3.out.2.2)))
 clear hb
 refine hK.out _ _ K4.out (fun hHeld=>?_)
 clear hK K_
 refine nrm (some 16) ?_
 refine pu (N:=some 17) 5 ?_
 refine ZcR (by kernel_rfl) ?_
 clear HCA HCM g1 g2
 cases m with
 | true=>
  have H3:=Za ((if_pos rfl).symm.trans H2.out)
  go_wp2
  go_roundg k1
  case measure=>have:=HK.out;omega
  case rel=>exact⟨_,rfl,H3,⟨by have:=HK.out;omega⟩,HB4,K4⟩
 | false=>
  obtain rfl:n=r:=Zg ((if_neg (by simp)).symm.trans H2.out)
  go_wp2
  go_ret
  exact⟨rfl,HB4.out⟩
set_option maxHeartbeats 4000000 in
set_option maxRecDepth 100000 in
theorem laws_eqNode.same (a0:ByteArray) (A1:Option Addr) (c1:Nat) (A1':Option Addr) (c1':Nat) (l1:List Int) (a2:Int) (w:World) (hr1:Kd.C (Kd.int .i64) w A1 l1.length l1) (hc1:l1.length≤c1) (hr1':Kd.C (Kd.int .i64) w A1' l1.length l1) (hc1':l1.length≤c1') :
  Calls Tryz.prog 137 #[.agg #[.string a0,.slice A1 l1.length c1,.int .i64 a2],.agg #[.string a0,.slice A1' l1.length c1',.int .i64 a2]] w fun e w'=>e=.returned (.bool true)∧Below w.heap.size w w':=by
 have hu:=Tryz.underlying39
 have H1:=Za fun (W:World) (hb:Below w.heap.size w W)=>(ZaQ.calls (2 ^ 64) A1 c1 l1 A1' c1' l1 true W (Zb hr1 hb) hc1 (Zb hr1' hb) hc1' (eqIntS_refl l1 hr1.2.1 (2 ^ 64) (Nat.le_refl _))).mono fun e w' ⟨he,hd⟩=>(And.intro he hd.below:e=Ending.returned (.bool true)∧Below W.heap.size W w')
 clear hr1 hc1 hr1' hc1'
 have HB0:=Za (Zn (Zn (Below.refl w.heap.size w) (.cells #[.string a0,.slice A1 l1.length c1,.int .i64 a2] 39)) (.cells #[.string a0,.slice A1' l1.length c1',.int .i64 a2] 39))
 go_enter Tryz.func137,Tryz.ntmps137
 go_wp2_with fail
 refine(H1.out _ HB0.out).mono ?_
 rintro e w1 ⟨rfl,hb⟩
 have HB1:=Za (HB0.out.trans (hb.mono HB0.out.size))
 have s2:w1.cell? ⟨w.heap.size,2,none⟩=some (.int .i64 a2):=Zx hb (by go_simp)
 have t2:w1.cell? ⟨w.heap.size+1,2,none⟩=some (.int .i64 a2):=Zx hb (by go_simp)
 clear hb
 go_wp2
 go_ret
 exact⟨rfl,HB1.out⟩
set_option maxHeartbeats 4000000 in
set_option maxRecDepth 100000 in
theorem laws_eqNodeS.same (A0:Option Addr) (c0:Nat) (A0':Option Addr) (c0':Nat) (l0:List (S39)) (w:World) (hr0:Kd.C k39 w A0 l0.length l0) (hc0:l0.length≤c0) (hr0':Kd.C k39 w A0' l0.length l0) (hc0':l0.length≤c0') :
  Calls Tryz.prog 62 #[.slice A0 l0.length c0,.slice A0' l0.length c0'] w fun e w'=>e=.returned (.bool true)∧Below w.heap.size w w':=by
 have hL:l0.length≤9223372036854775807:=hr0.2.1
 have HR:=Za hr0
 have HS:=Za hr0'
 clear hr0 hr0'
 go_enter Tryz.func62,Tryz.ntmps62
 go_wp2
 go_loopg [5] l0.length (fun gg s5 wr=>∃kk:Nat,Aside0 (kk≤l0.length)∧Aside0 (l0.length - kk≤gg)∧s5=.int .i64 kk∧Aside0 (Below w.heap.size w wr))
 case atStart=>exact⟨0,⟨Nat.zero_le _⟩,⟨by omega⟩,rfl,⟨Below.refl _ _⟩⟩
 case round=>
  obtain⟨kk,HK,HG,rfl,HBr⟩:=hrel
  by_cases hlt:kk<l0.length
  ·have hltz:(kk:Int)<(l0.length:Int):=by omega
   obtain⟨adx,A1x,c1x,ex,hx0,hx1,hx2,l1x,g1x⟩:=Za0 HR.out (kk:Int) (by omega) hltz
   obtain⟨ady,A1y,c1y,ey,hy0,hy1,hy2,l1y,g1y⟩:=Za0 HS.out (kk:Int) (by omega) hltz
   cases ex
   cases ey
   rw[Int.toNat_natCast] at hx0 hx1 hx2 hy0 hy1 hy2
   generalize ZH l0 (kk:Int)=y at hx0 hx1 hx2 l1x g1x hy0 hy1 hy2 l1y g1y
   replace hx0:=Zx HBr.out hx0
   replace hx1:=Zx HBr.out hx1
   replace hx2:=Zx HBr.out hx2
   replace hy0:=Zx HBr.out hy0
   replace hy1:=Zx HBr.out hy1
   replace hy2:=Zx HBr.out hy2
   have hltx:=Zc wr _ hx0
   have hlty:=Zc wr _ hy0
   have G1x:=Za g1x;have G1y:=Za g1y;clear g1x g1y
   go_wp2_with fail
   go_region_held3 (fun w'=>Below wr.heap.size wr w'∧w'.cell? (adx.add (kk * 3))=some (.string y.f0)∧w'.cell? ⟨(adx.add (kk * 3)).block,(adx.add (kk * 3)).off+1,none⟩=some (.slice A1x y.f1.length c1x)∧w'.cell? ⟨(adx.add (kk * 3)).block,(adx.add (kk * 3)).off+2,none⟩=some (.int .i64 y.f2)∧w'.cell? (ady.add (kk * 3))=some (.string y.f0)∧w'.cell? ⟨(ady.add (kk * 3)).block,(ady.add (kk * 3)).off+1,none⟩=some (.slice A1y y.f1.length c1y)∧w'.cell? ⟨(ady.add (kk * 3)).block,(ady.add (kk * 3)).off+2,none⟩=some (.int .i64 y.f2))
    (first|(refine⟨by repeat(first|(with_reducible first|exact Below.refl _ _|apply Zn|apply Zm|apply Zo|exact(‹Below wr.heap.size wr _∧_› : Below wr.heap.size wr _∧_).1)|exact Below.refl _ _),?_⟩;go_simp;done)|(have HQ_:=Zw (‹Below wr.heap.size wr _∧_› : Below wr.heap.size wr _∧_).1 hb;exact⟨HQ_,Zx HQ_ hx0,Zx HQ_ hx1,Zx HQ_ hx2,Zx HQ_ hy0,Zx HQ_ hy1,Zx HQ_ hy2⟩))
    (first|(go_at_call 137;(refine(laws_eqNode.same y.f0 A1x c1x A1y c1y y.f1 y.f2 _ ?p0 l1x ?p1 l1y).mono ?_);(case p0=>exact(Zb (Zb G1x.out HBr.out) (‹Below wr.heap.size wr _∧_› : Below wr.heap.size wr _∧_).1));(case p1=>exact(Zb (Zb G1y.out HBr.out) (‹Below wr.heap.size wr _∧_› : Below wr.heap.size wr _∧_).1));rintro e w3 ⟨rfl,hb⟩))
   have HB3:=Za (‹Below wr.heap.size wr w3∧_› : Below wr.heap.size wr w3∧_).1
   go_wp2
   go_roundg (l0.length - (kk+1))
   case measure=>have:=HG.out;omega
   case rel=>exact⟨kk+1,⟨by omega⟩,⟨by omega⟩,by go_num,⟨HBr.out.trans (HB3.out.mono HBr.out.size)⟩⟩
  ·have hltz:¬(kk:Int)<(l0.length:Int):=by omega
   have:kk=l0.length:=by have:=HK.out;omega
   subst this
   go_wp2
   go_ret
   exact⟨rfl,HBr.out⟩
set_option maxHeartbeats 4000000 in
set_option maxRecDepth 100000 in
theorem laws_eqTie.same (a0:Int) (a1:Int) (a2:Int) (a3:Int) (a4:Bool) (w:World)  :
  Calls Tryz.prog 138 #[.agg #[.int .i64 a0,.int .i64 a1,.int .i64 a2,.int .i64 a3,.bool a4],.agg #[.int .i64 a0,.int .i64 a1,.int .i64 a2,.int .i64 a3,.bool a4]] w fun e w'=>e=.returned (.bool true)∧Below w.heap.size w w':=by
 have hu:=Tryz.underlying82
 have HB0:=Za (Zn (Zn (Below.refl w.heap.size w) (.cells #[.int .i64 a0,.int .i64 a1,.int .i64 a2,.int .i64 a3,.bool a4] 82)) (.cells #[.int .i64 a0,.int .i64 a1,.int .i64 a2,.int .i64 a3,.bool a4] 82))
 go_enter Tryz.func138,Tryz.ntmps138
 go_wp2
 go_ret
 exact⟨rfl,by repeat(first|exact Below.refl _ _|apply Zn|apply Zm|apply Zax)⟩
set_option maxHeartbeats 4000000 in
set_option maxRecDepth 100000 in
theorem laws_eqTieS.same (A0:Option Addr) (c0:Nat) (A0':Option Addr) (c0':Nat) (l0:List (S82)) (w:World) (hr0:Kd.C k82 w A0 l0.length l0) (hc0:l0.length≤c0) (hr0':Kd.C k82 w A0' l0.length l0) (hc0':l0.length≤c0') :
  Calls Tryz.prog 63 #[.slice A0 l0.length c0,.slice A0' l0.length c0'] w fun e w'=>e=.returned (.bool true)∧Below w.heap.size w w':=by
 have hL:l0.length≤9223372036854775807:=hr0.2.1
 have HR:=Za hr0
 have HS:=Za hr0'
 clear hr0 hr0'
 go_enter Tryz.func63,Tryz.ntmps63
 go_wp2
 go_loopg [5] l0.length (fun gg s5 wr=>∃kk:Nat,Aside0 (kk≤l0.length)∧Aside0 (l0.length - kk≤gg)∧s5=.int .i64 kk∧Aside0 (Below w.heap.size w wr))
 case atStart=>exact⟨0,⟨Nat.zero_le _⟩,⟨by omega⟩,rfl,⟨Below.refl _ _⟩⟩
 case round=>
  obtain⟨kk,HK,HG,rfl,HBr⟩:=hrel
  by_cases hlt:kk<l0.length
  ·have hltz:(kk:Int)<(l0.length:Int):=by omega
   obtain⟨adx,ex,hx0,hx1,hx2,hx3,hx4⟩:=Zbp HR.out (kk:Int) (by omega) hltz
   obtain⟨ady,ey,hy0,hy1,hy2,hy3,hy4⟩:=Zbp HS.out (kk:Int) (by omega) hltz
   cases ex
   cases ey
   rw[Int.toNat_natCast] at hx0 hx1 hx2 hx3 hx4 hy0 hy1 hy2 hy3 hy4
   generalize ZD l0 (kk:Int)=y at hx0 hx1 hx2 hx3 hx4 hy0 hy1 hy2 hy3 hy4
   replace hx0:=Zx HBr.out hx0
   replace hx1:=Zx HBr.out hx1
   replace hx2:=Zx HBr.out hx2
   replace hx3:=Zx HBr.out hx3
   replace hx4:=Zx HBr.out hx4
   replace hy0:=Zx HBr.out hy0
   replace hy1:=Zx HBr.out hy1
   replace hy2:=Zx HBr.out hy2
   replace hy3:=Zx HBr.out hy3
   replace hy4:=Zx HBr.out hy4
   have hltx:=Zc wr _ hx0
   have hlty:=Zc wr _ hy0
   go_wp2_with fail
   go_region_held3 (fun w'=>Below wr.heap.size wr w'∧w'.cell? (adx.add (kk * 5))=some (.int .i64 y.f0)∧w'.cell? ⟨(adx.add (kk * 5)).block,(adx.add (kk * 5)).off+1,none⟩=some (.int .i64 y.f1)∧w'.cell? ⟨(adx.add (kk * 5)).block,(adx.add (kk * 5)).off+2,none⟩=some (.int .i64 y.f2)∧w'.cell? ⟨(adx.add (kk * 5)).block,(adx.add (kk * 5)).off+3,none⟩=some (.int .i64 y.f3)∧w'.cell? ⟨(adx.add (kk * 5)).block,(adx.add (kk * 5)).off+4,none⟩=some (.bool y.f4)∧w'.cell? (ady.add (kk * 5))=some (.int .i64 y.f0)∧w'.cell? ⟨(ady.add (kk * 5)).block,(ady.add (kk * 5)).off+1,none⟩=some (.int .i64 y.f1)∧w'.cell? ⟨(ady.add (kk * 5)).block,(ady.add (kk * 5)).off+2,none⟩=some (.int .i64 y.f2)∧w'.cell? ⟨(ady.add (kk * 5)).block,(ady.add (kk * 5)).off+3,none⟩=some (.int .i64 y.f3)∧w'.cell? ⟨(ady.add (kk * 5)).block,(ady.add (kk * 5)).off+4,none⟩=some (.bool y.f4))
    (first|(refine⟨by repeat(first|(with_reducible first|exact Below.refl _ _|apply Zn|apply Zm|apply Zo|exact(‹Below wr.heap.size wr _∧_› : Below wr.heap.size wr _∧_).1)|exact Below.refl _ _),?_⟩;go_simp;done)|(have HQ_:=Zw (‹Below wr.heap.size wr _∧_› : Below wr.heap.size wr _∧_).1 hb;exact⟨HQ_,Zx HQ_ hx0,Zx HQ_ hx1,Zx HQ_ hx2,Zx HQ_ hx3,Zx HQ_ hx4,Zx HQ_ hy0,Zx HQ_ hy1,Zx HQ_ hy2,Zx HQ_ hy3,Zx HQ_ hy4⟩))
    (first|(go_at_call 138;(refine(laws_eqTie.same y.f0 y.f1 y.f2 y.f3 y.f4 _ ).mono ?_);rintro e w3 ⟨rfl,hb⟩))
   have HB3:=Za (‹Below wr.heap.size wr w3∧_› : Below wr.heap.size wr w3∧_).1
   go_wp2
   go_roundg (l0.length - (kk+1))
   case measure=>have:=HG.out;omega
   case rel=>exact⟨kk+1,⟨by omega⟩,⟨by omega⟩,by go_num,⟨HBr.out.trans (HB3.out.mono HBr.out.size)⟩⟩
  ·have hltz:¬(kk:Int)<(l0.length:Int):=by omega
   have:kk=l0.length:=by have:=HK.out;omega
   subst this
   go_wp2
   go_ret
   exact⟨rfl,HBr.out⟩
set_option maxHeartbeats 4000000 in
set_option maxRecDepth 100000 in
theorem Ze4.same (A0:Option Addr) (c0:Nat) (A0':Option Addr) (c0':Nat) (l0:List (S39)) (A1:Option Addr) (c1:Nat) (A1':Option Addr) (c1':Nat) (l1:List (S82)) (a2:Int) (w:World) (hr0:Kd.C k39 w A0 l0.length l0) (hc0:l0.length≤c0) (hr0':Kd.C k39 w A0' l0.length l0) (hc0':l0.length≤c0') (hr1:Kd.C k82 w A1 l1.length l1) (hc1:l1.length≤c1) (hr1':Kd.C k82 w A1' l1.length l1) (hc1':l1.length≤c1') :
  Calls Tryz.prog 13 #[.agg #[.slice A0 l0.length c0,.slice A1 l1.length c1,.int .i64 a2],.agg #[.slice A0' l0.length c0',.slice A1' l1.length c1',.int .i64 a2]] w fun e w'=>e=.returned (.bool true)∧Below w.heap.size w w':=by
 have hu:=Tryz.underlying25
 have H0:=Za fun (W:World) (hb:Below w.heap.size w W)=>laws_eqNodeS.same A0 c0 A0' c0' l0 W (Zb hr0 hb) hc0 (Zb hr0' hb) hc0'
 have H1:=Za fun (W:World) (hb:Below w.heap.size w W)=>laws_eqTieS.same A1 c1 A1' c1' l1 W (Zb hr1 hb) hc1 (Zb hr1' hb) hc1'
 clear hr0 hc0 hr0' hc0' hr1 hc1 hr1' hc1'
 have HB0:=Za (Zn (Zn (Below.refl w.heap.size w) (.cells #[.slice A0 l0.length c0,.slice A1 l1.length c1,.int .i64 a2] 25)) (.cells #[.slice A0' l0.length c0',.slice A1' l1.length c1',.int .i64 a2] 25))
 go_enter Tryz.func13,Tryz.ntmps13
 go_wp2_with fail
 refine(H0.out _ HB0.out).mono ?_
 rintro e w1 ⟨rfl,hb⟩
 have HB1:=Za (HB0.out.trans (hb.mono HB0.out.size))
 have s1:w1.cell? ⟨w.heap.size,1,none⟩=some (.slice A1 l1.length c1):=Zx hb (by go_simp)
 have t1:w1.cell? ⟨w.heap.size+1,1,none⟩=some (.slice A1' l1.length c1'):=Zx hb (by go_simp)
 have s2:w1.cell? ⟨w.heap.size,2,none⟩=some (.int .i64 a2):=Zx hb (by go_simp)
 have t2:w1.cell? ⟨w.heap.size+1,2,none⟩=some (.int .i64 a2):=Zx hb (by go_simp)
 clear hb
 go_wp2_with fail
 refine(H1.out _ HB1.out).mono ?_
 rintro e w2 ⟨rfl,hb⟩
 have HB2:=Za (HB1.out.trans (hb.mono HB1.out.size))
 replace s2:=Zx hb s2
 replace t2:=Zx hb t2
 clear hb s1 t1
 go_wp2
 go_ret
 exact⟨rfl,HB2.out⟩
end Go.Proofs.YtoeimopgoaffcaaGreatDoor.Pr
namespace Go.Proofs.YtoeimopgoaffcaaGreatDoor.Pr
open Go.RowKit Go.Proofs.YtoeimopgoaffcaaGreatDoorW.PrintWords Go.Proofs.YtoeimopgoaffcaaGreatDoor.Ni
theorem szIntS_f (l:List Int) (hl:l.length≤9223372036854775807) (a:Int) (h0:0≤a) (h1:a≤1048576):ZbZ.f l a=some (if a - l.length<0 then -1 else a - l.length):=by
 unfold ZbZ.f
 rw[Za8 (by omega) (by omega)]
 split <;> rfl
theorem szNode_f (s:ByteArray) (l:List Int) (n:Int) (hs:s.size≤9223372036854775807) (hl:l.length≤9223372036854775807) (a:Int) (h0:0≤a) (h1:a≤1048576) :
  ∃r,Zcl.f s l n a=some r∧(r<0∨(0≤r∧r≤a∧s.size≤1048576∧l.length≤1048576)):=by
 unfold Zcl.f
 rw[Za8 (by omega) (by omega)]
 by_cases h:a - (s.size:Int)<0
 ·rw[if_pos h];exact⟨_,rfl,.inl (by omega)⟩
 ·rw[if_neg h,szIntS_f l hl _ (by omega) (by omega),Zi]
  by_cases h2:a - (s.size:Int) - l.length<0
  ·rw[if_pos h2,if_pos (by omega)];exact⟨_,rfl,.inl (by omega)⟩
  ·rw[if_neg h2,if_neg h2];exact⟨_,rfl,.inr ⟨by omega,by omega,by omega,by omega⟩⟩
theorem toNode_f (s:ByteArray) (l:List Int) (n:Int) (hl:l.length≤35184372088832) (k:Nat) (hk:2 ^ 64≤k):ZcC.f k s l n=some (s,l,n):=by
 unfold ZcC.f
 rw[toIntS_f l hl k hk];rfl
theorem szNodeS_l (l:List LNode) (hl:l.length≤9223372036854775807) (hb:∀n∈l,n.f0.size≤9223372036854775807∧n.f1.length≤9223372036854775807) (k:Nat) (hk:2 ^ 64≤k) :
  ∀a:Int,0≤a→a≤1048576→∃r,Zaw.l0 k l a 0=some r∧(r<0∨(0≤r∧r≤a∧∀n∈l,n.f0.size≤1048576∧n.f1.length≤1048576)):=by
 have key:=Za9 l.length (fun k i=>∀a:Int,0≤a→a≤1048576→∃r,Zaw.l0 k l a (i:Int)=some r∧(r<0∨(0≤r∧r≤a∧∀n∈l.drop i,n.f0.size≤1048576∧n.f1.length≤1048576))) 0
  (fun k _ a h0 h1=>⟨a,by simp[Zaw.l0],.inr ⟨h0,Int.le_refl _,by simp⟩⟩)
  (fun k i _ hi ih a h0 h1=>by
   simp only[Zaw.l0]
   rw[if_pos (by omega),if_pos (by omega),rdLN_nat,ZL hi (by omega)]
   have hm:=hb _ (ZaJ hi z143)
   obtain⟨r,hr,h⟩:=szNode_f (l.getD i z143).f0 (l.getD i z143).f1 (l.getD i z143).f2 hm.1 hm.2 a h0 h1
   rw[hr,Zi]
   rcases h with h|⟨h2,h3,h4,h5⟩
   ·rw[if_pos h];exact⟨_,rfl,.inl (by omega)⟩
   ·rw[if_neg (by omega)]
    obtain⟨q,hq,h⟩:=ih r h2 (by omega)
    refine⟨q,hq,?_⟩
    rcases h with h|⟨h6,h7,h8⟩
    ·exact .inl h
    ·refine .inr ⟨h6,by omega,?_⟩
     rw[Zah hi z143]
     intro n hn
     rcases List.mem_cons.1 hn with rfl|hn
     ·exact⟨h4,h5⟩
     ·exact h8 n hn) 0 k (Nat.zero_le _) (by omega)
 intro a h0 h1
 simpa using key a h0 h1
theorem szShow_f (ns:List LNode) (ts:List LTie) (z:Int) (hn:ns.length≤9223372036854775807) (hb:∀n∈ns,n.f0.size≤9223372036854775807∧n.f1.length≤9223372036854775807) (ht:ts.length≤9223372036854775807) (k:Nat) (hk:2 ^ 64≤k) (a:Int) (h0:0≤a) (h1:a≤1048576) :
  ∃r,Zbt.f k ns ts z a=some r∧(r<0∨(0≤r∧r≤a∧Zd4 ns ts)):=by
 unfold Zbt.f Zaw.f
 rw[Za8 (by omega) (by omega)]
 by_cases h:a - (ns.length:Int)<0
 ·rw[if_pos h,Zi,if_pos (by omega)];exact⟨_,rfl,.inl (by omega)⟩
 ·rw[if_neg h]
  obtain⟨r,hr,h⟩:=szNodeS_l ns hn hb k hk (a - ns.length) (by omega) (by omega)
  rw[hr,Zi]
  rcases h with h|⟨h2,h3,h4⟩
  ·rw[if_pos h];exact⟨_,rfl,.inl (by omega)⟩
  ·rw[if_neg (by omega)]
   unfold Zck.f
   rw[Za8 (by omega) (by omega)]
   by_cases h5:r - (ts.length:Int)<0
   ·rw[if_pos h5,Zi,if_pos (by omega)];exact⟨_,rfl,.inl (by omega)⟩
   ·rw[if_neg h5,Zi,if_neg h5];exact⟨_,rfl,.inr ⟨by omega,by omega,by omega,by omega,h4⟩⟩
theorem toNodeS_f (l:List LNode) (hl:l.length≤1048576) (hb:∀n∈l,n.f0.size≤1048576∧n.f1.length≤1048576) (k:Nat) (hk:2 ^ 65≤k):Zav.f k l=some (l.map cvN):=by
 have key:=Za9 l.length (fun k i=>Zav.l0 k l ((l.map cvN).take i ++ List.replicate ((l.map cvN).length - i) z39) (i:Int)=some (l.map cvN)) (2 ^ 64)
  (fun k _=>by simp[Zav.l0];rw[List.take_of_length_le (by simp)])
  (fun k i hk hi ih=>by
   simp only[Zav.l0]
   have hm:=hb _ (ZaJ hi z143)
   rw[if_pos (by omega),if_pos (by omega),rdLN_nat,toNode_f _ _ _ (by omega) k hk,Zi,if_pos (by simp;omega),ZL hi (by omega),Int.toNat_natCast,ZdO (l.map cvN) _ z39 i (by simpa using hi) _ (by rw[getD_map cvN l i z143 z39 zN];rfl)]
   exact ih) 0 k (Nat.zero_le _) (by omega)
 unfold Zav.f
 rw[if_pos (by omega),if_pos (by omega),Int.toNat_natCast]
 simpa using key
theorem toTieS_f (l:List LTie) (hl:l.length≤1048576) (k:Nat) (hk:2 ^ 64≤k):ZaG.f k l=some (l.map cvT):=by
 have key:=Za9 l.length (fun k i=>ZaG.l0 k l ((l.map cvT).take i ++ List.replicate ((l.map cvT).length - i) z82) (i:Int)=some (l.map cvT)) 0
  (fun k _=>by simp[ZaG.l0];rw[List.take_of_length_le (by simp)])
  (fun k i hk hi ih=>by
   simp only[ZaG.l0,Zc5.f]
   rw[if_pos (by omega),if_pos (by omega),rdLT_nat,Zi,if_pos (by simp;omega),ZL hi (by omega),Int.toNat_natCast,ZdO (l.map cvT) _ z82 i (by simpa using hi) _ (by rw[getD_map cvT l i z147 z82 zT];rfl)]
   exact ih) 0 k (Nat.zero_le _) (by omega)
 unfold ZaG.f
 rw[if_pos (by omega),if_pos (by omega),Int.toNat_natCast]
 simpa using key
theorem toShow_f (ns:List LNode) (ts:List LTie) (z:Int) (h:Zd4 ns ts) (k:Nat) (hk:2 ^ 65≤k):ZaX.f k ns ts z=some (ns.map cvN,ts.map cvT,z):=by
 unfold ZaX.f
 rw[toNodeS_f ns h.1 h.2.2 k hk,Zi,toTieS_f ts h.2.1 k (by omega)];rfl
theorem ZbP {ns:List ZI} {ts:List PTie} {z:Int} (h:Zaq ns ts z=true):Z1 ns=true:=by
 unfold Zaq at h
 simp only[Bool.and_eq_true] at h
 exact h.1.1.1.1
theorem Zcj {ns:List ZI} {ts:List PTie} {z:Int} (h:Zaq ns ts z=true):ZaT ns ts=true:=by
 unfold Zaq at h
 simp only[Bool.and_eq_true] at h
 exact h.1.1.1.2
theorem nodes_watch {ns:List ZI} (h:Z1 ns=true):∀n∈ns,0≤n.f2∧n.f2≤3:=by
 intro n hn
 obtain⟨j,hj,rfl⟩:=List.mem_iff_getElem.1 hn
 have:=Zc8 h j hj
 unfold ZcI ZcG at this
 rw[show ns.getD j z39=ns[j] by rw[List.getD_eq_getElem?_getD,Zl hj];rfl] at this
 simp only[Bool.and_eq_true,decide_eq_true_eq] at this
 exact this.1.2
theorem pwatch_out {ns:List ZI} (h:Z1 ns=true) {p:Int} (hp:¬(1≤p∧p≤3)):Za2 ns p=-1:=by
 unfold Za2
 refine Zbx _ _ fun j y _ hy=>?_
 have:=nodes_watch h y (List.mem_of_getElem? hy)
 rw[Bool.eq_false_iff]
 intro hh
 simp only[Bool.and_eq_true,decide_eq_true_eq] at hh
 omega
theorem isNode_f (n x:Int):ZbN.f n x=some (Zb4 n x):=by
 unfold ZbN.f Zb4
 by_cases h:x≥0
 ·rw[if_pos h,Ze (show(0:Int)≤x from h),Bool.true_and]
 ·rw[if_neg h,Zf (show ¬(0:Int)≤x from h),Bool.false_and]
theorem areNodesB_one {ns:List ZI} (h:Z1 ns=true):1≤ns.length:=by
 unfold Z1 at h
 simp only[Bool.and_eq_true,decide_eq_true_eq] at h
 exact h.1.1.1.1
def Zcy (ts:List PTie) (n:Nat):List Int:=((List.range n).filter fun i=>(ts.getD i z82).f4).map fun i:Nat=>(i:Int)
def ZaA (ts:List PTie):List Int:=Zcy ts ts.length
theorem Ze7 (ts:List PTie) (n:Nat):Zcy ts (n+1)=if (ts.getD n z82).f4=true then Zcy ts n ++ [(n:Int)] else Zcy ts n:=by
 unfold Zcy
 rw[List.range_succ,List.filter_append,List.map_append]
 by_cases h:(ts.getD n z82).f4=true
 ·rw[if_pos h,List.filter_cons_of_pos (by simpa using h)];rfl
 ·rw[if_neg h,List.filter_cons_of_neg (by simpa using h)];simp
theorem Zek (ts:List PTie) (n:Nat):(Zcy ts n).length≤n:=by
 unfold Zcy
 rw[List.length_map]
 exact Nat.le_trans (List.length_filter_le _ _) (by simp)
theorem Zc6 (ts:List PTie):(ZaA ts).length≤ts.length:=Zek ts ts.length
theorem Zds {ts:List PTie} {x:Int} (h:x∈ZaA ts):0≤x∧x<ts.length:=by
 unfold ZaA Zcy at h
 obtain⟨i,hi,rfl⟩:=List.mem_map.1 h
 have:=List.mem_range.1 (List.mem_filter.1 hi).1
 omega
theorem ZdF (ns:List ZI) (ts:List PTie) (z:Int) (hl:ts.length≤1048576) (k:Nat) (hk:2 ^ 64≤k):Z8.f k ns ts z=some (ZaA ts):=by
 have key:=Za9 ts.length (fun k i=>Z8.l0 k (Zcy ts i) ts ts.length (i:Int)=some (ZaA ts)) 0
  (fun k _=>by
   simp only[Z8.l0]
   rw[if_neg (by omega)];rfl)
  (fun k i _ hi ih=>by
   simp only[Z8.l0]
   have:=Zek ts i
   rw[Ze7] at ih
   rw[if_pos (by omega),if_pos (by omega),if_pos (by omega),ZdJ,ZL hi (by omega)]
   by_cases h:(ts.getD i z82).f4=true
   ·rw[if_pos h,if_pos (by omega)];rw[if_pos h] at ih;exact ih
   ·rw[if_neg h];rw[if_neg h] at ih;exact ih) 0 k (Nat.zero_le _) (by omega)
 unfold Z8.f
 exact key
theorem Zd1 (ns:List ZI) (ts:List PTie) (z:Int) (hl:ts.length≤1048576) (k:Nat) (hk:2 ^ 64≤k):Zab.f k ns ts z=some (ZaA ts):=by
 have key:=Za9 ts.length (fun k i=>Zab.l0 k (Zcy ts i) ts ts.length (i:Int)=some (ZaA ts)) 0
  (fun k _=>by
   simp only[Zab.l0]
   rw[if_neg (by omega)];rfl)
  (fun k i _ hi ih=>by
   simp only[Zab.l0]
   have:=Zek ts i
   rw[Ze7] at ih
   rw[if_pos (by omega),if_pos (by omega),if_pos (by omega),ZdJ,ZL hi (by omega)]
   by_cases h:(ts.getD i z82).f4=true
   ·rw[if_pos h,if_pos (by omega)];rw[if_pos h] at ih;exact ih
   ·rw[if_neg h];rw[if_neg h] at ih;exact ih) 0 k (Nat.zero_le _) (by omega)
 unfold Zab.f
 exact key
def Zcf (ns:List ZI) (ts:List PTie) (ln vs:List Int):Bool:=decide (ln.length=(ZaA ts).length) && (decide (vs.length=3) && (Zb5 ts (ZaA ts) ln && Za5 ns 0 vs))
def ZcS (ns:List ZI) (ts:List PTie) (z:Int) (ln vs:List Int):Bool:=Zaq ns ts z && Zcf ns ts ln vs
theorem Zft {ns:List ZI} {ts:List PTie} (z:Int) (ln vs:List Int) (hc:Zba ns ts) (_hl:vs.length≤1048576) (k:Nat) (hk:2 ^ 66≤k):ZbB.f k ns ts z ln vs=some (Zcf ns ts ln vs):=by
 unfold ZbB.f Zcf
 rw[ZdF ns ts z hc.2.1 _ (by omega),Zi,if_pos (List.all_eq_true.2 fun x hx=>by have:=Zds hx;simpa using this)]
theorem Zfv {ns:List ZI} {ts:List PTie} {z:Int} (ln vs:List Int) (hc:Zba ns ts) (hl:vs.length≤1048576) (k:Nat) (hk:2 ^ 66≤k):Zcc.f k ns ts z ln vs=some (ZcS ns ts z ln vs):=by
 unfold Zcc.f ZcS
 rw[ZcW (Zc0 hc),Zi]
 cases hs:Zaq ns ts z with
 | false=>rfl
 | true=>rw[if_pos rfl,Bool.true_and,Zft z ln vs hc hl k hk];rfl
theorem Zfk {ns:List ZI} {ts:List PTie} {z:Int} (ln vs:List Int) (hc:Zba ns ts) (_hl:vs.length≤1048576) (k:Nat) (hk:2 ^ 67≤k):ZbW.f k ns ts z ln vs=some (ZcS ns ts z ln vs):=by
 unfold ZbW.f ZcS
 rw[Zdv ns ts z (Zc0 hc) _ (by omega),Zi]
 cases hs:Zaq ns ts z with
 | false=>rfl
 | true=>
  rw[if_pos rfl,Bool.true_and,Zd1 ns ts z hc.2.1 _ (by omega),Zi,if_pos (List.all_eq_true.2 fun x hx=>by have:=Zds hx;simpa using this)]
  rfl
theorem ZeA {ns:List ZI}:∀(l:List Int) (i:Nat),Za5 ns i l=true→∀n∈l,-1≤n∧n≤1
 | [],_,_,n,hn=>by simp at hn
 | v :: t,i,h,n,hn=>by
  rw[Za5,Bool.and_eq_true] at h
  rcases List.mem_cons.1 hn with rfl|hn
  ·have h1:=h.1
   unfold valAt at h1
   simp only[Bool.or_eq_true,Bool.and_eq_true,decide_eq_true_eq] at h1
   omega
  ·exact ZeA t _ h.2 n hn
theorem Zeq {ns:List ZI} {ts:List PTie} {ln vs:List Int} (h:Zcf ns ts ln vs=true):Zb8 vs=true:=by
 unfold Zcf at h
 simp only[Bool.and_eq_true,decide_eq_true_eq] at h
 unfold Zb8
 rw[Ze h.2.1,Bool.true_and,List.all_eq_true]
 intro n hn
 have:=ZeA vs 0 h.2.2.2 n hn
 simp;omega
end Go.Proofs.YtoeimopgoaffcaaGreatDoor.Pr
namespace Go.Proofs.YtoeimopgoaffcaaGreatDoor.Pr
open Go.RowKit Go.Proofs.YtoeimopgoaffcaaGreatDoorW.PrintWords Go.Proofs.YtoeimopgoaffcaaGreatDoorW.PrintMore Go.Proofs.YtoeimopgoaffcaaGreatDoor.Ni
theorem labFrom_all:∀(l:List Int) (p:Int),ZbS p l=true→∀x∈l,Zbf x=true:=by
 intro l
 induction l with
 | nil=>intro p _ x hx;simp at hx
 | cons y t ih=>
  intro p h x hx
  simp only[ZbS,Bool.and_eq_true] at h
  rcases List.mem_cons.1 hx with rfl|hx
  ·exact h.1.1
  ·exact ih _ h.2 x hx
theorem Zef {l:List Int} (h:labB l=true):∀x∈l,Zbf x=true:=labFrom_all l 0 h
theorem valsB_at {v:List Int} (h:Zb8 v=true):v.length=3∧∀i,-1≤v.getD i 0∧v.getD i 0≤1:=by
 simp only[Zb8,Bool.and_eq_true,decide_eq_true_eq,List.all_eq_true] at h
 refine⟨h.1,fun i=>?_⟩
 by_cases hi:i<v.length
 ·exact h.2 _ (ZaJ hi 0)
 ·rw[List.getD_eq_getElem?_getD,List.getElem?_eq_none (by omega)];simp
theorem mn_min (a b:Int):mn a b=min a b:=by unfold mn;split <;> omega
theorem holds_f {x:Int} {v:List Int} (hx:Zbf x=true) (hv:Zb8 v=true):impl_holds.f x v=some (if x<0 then -(v.getD (prp x - 1).toNat 0) else v.getD (prp x - 1).toNat 0):=by
 have hp:=Zdb hx
 obtain⟨h3,hb⟩:=valsB_at hv
 have hb':=hb (prp x - 1).toNat
 unfold impl_holds.f
 rw[ZdU hx,Zi,Za8 (i:=prp x - 1) (by omega) (by omega),if_pos (by omega),if_pos (by omega)]
 have e:rd v (prp x - 1)=v.getD (prp x - 1).toNat 0:=rfl
 rw[e,Za8 (by omega) (by omega)]
 split <;> rfl
theorem l07State_f (l v:List Int) (hl:l.length≤9223372036854775807) (h1:∀x∈l,Zbf x=true) (hv:Zb8 v=true) (k:Nat) (hk:2 ^ 64≤k):Zaj.f k l v=some (stB l v):=by
 obtain⟨h3,hb⟩:=valsB_at hv
 have key:=Za9 l.length (fun k i=>∀a:Int,Zaj.l0 k v a l l.length (i:Int)=some (ZdM v a (l.drop i))) 0
  (fun k _ a=>by simp[Zaj.l0,ZdM])
  (fun k i _ hi ih a=>by
   simp only[Zaj.l0]
   have hx:=h1 _ (ZaJ hi 0)
   have hp:=Zdb hx
   have hb':=hb (prp (l.getD i 0) - 1).toNat
   have e:rd v (prp (l.getD i 0) - 1)=v.getD (prp (l.getD i 0) - 1).toNat 0:=rfl
   rw[if_pos (by omega),if_pos (by omega),if_pos (by omega),ZaI,ZL hi (by omega),Zah hi 0,Zdr hx,Zi,Za8 (i:=prp (l.getD i 0) - 1) (by omega) (by omega),if_pos (by omega),if_pos (by omega),e,Za8 (by omega) (by omega),ih,ih,mn_min,mn_min]
   simp only[ZdM]
   split <;> rfl) 0 k (Nat.zero_le _) (by omega)
 unfold Zaj.f stB
 simpa using key 1
def labStB (l v:List Int):Int:=if labB l && Zb8 v then stB l v else -1
theorem Ze0 (l v:List Int) (hl:l.length≤9223372036854775807) (k:Nat) (hk:2 ^ 65≤k):Z0.f k l v=some (labStB l v):=by
 unfold Z0.f labStB
 obtain⟨m,rfl⟩:∃m,k=m+1:=⟨k - 1,by omega⟩
 rw[ZcQ l hl _ (by omega),Zi]
 cases h:labB l
 ·rfl
 ·rw[if_pos rfl]
  unfold Zcb.f
  rw[Zi]
  cases h2:Zb8 v
  ·rfl
  ·simp only[Z0.j0,Bool.not_true,Bool.false_eq_true,if_false]
   have key:=Za9 l.length (fun k i=>∀a:Int,Z0.l0 k v a l l.length (i:Int)=some (ZdM v a (l.drop i))) 0
    (fun k _ a=>by simp[Z0.l0,ZdM])
    (fun k i _ hi ih a=>by
     simp only[Z0.l0]
     have hx:=Zef h _ (ZaJ hi 0)
     rw[if_pos (by omega),if_pos (by omega),if_pos (by omega),ZaI,ZL hi (by omega),Zah hi 0,holds_f hx h2,Zi,ih,mn_min]
     rfl) 0 m (Nat.zero_le _) (by omega)
   have:=key 1
   rw[List.drop_zero] at this
   rw[show((0:Nat):Int)=0 from rfl] at this
   rw[this];rfl
end Go.Proofs.YtoeimopgoaffcaaGreatDoor.Pr
namespace Go.Proofs.YtoeimopgoaffcaaGreatDoor.Pr
open Go.RowKit Go.Proofs.YtoeimopgoaffcaaGreatDoorW.PrintWords Go.Proofs.YtoeimopgoaffcaaGreatDoor.Ni
theorem ZeF {ns:List ZI} (h:Z1 ns=true):∀n∈ns,labB n.f1=true:=by
 intro n hn
 obtain⟨j,hj,rfl⟩:=List.mem_iff_getElem.1 hn
 have:=Zc8 h j hj
 unfold ZcI ZcG at this
 rw[show ns.getD j z39=ns[j] by rw[List.getD_eq_getElem?_getD,Zl hj];rfl] at this
 simp only[Bool.and_eq_true] at this
 exact this.1.1.2
def hapB (ns:List ZI) (vs:List Int) (i:Int):Bool:=stB (ZH ns i).f1 vs == 1
theorem ZeR {ns:List ZI} {i:Int} (h0:0≤i) (h1:i<ns.length):ZH ns i∈ns:=by
 obtain⟨m,rfl⟩:=Int.eq_ofNat_of_zero_le h0
 rw[show ZH ns ((m:Nat):Int)=ns.getD m z39 from Zcq ns m]
 exact ZaJ (by omega) _
theorem ZfR {ns:List ZI} {ts:List PTie} (z:Int) (ln vs:List Int) (i:Int) (hc:Zba ns ts) (hn:Z1 ns=true) (hv:Zb8 vs=true) (h0:0≤i) (h1:i<ns.length) (k:Nat) (hk:2 ^ 65≤k):ZaO.f k ns ts z ln vs i=some (hapB ns vs i):=by
 have hm:=ZeR h0 h1
 have hs:=(hc.2.2 _ hm).2
 unfold ZaO.f hapB
 rw[if_pos h0,if_pos h1,Ze0 _ vs (by omega) k hk,Zi]
 unfold labStB
 rw[ZeF hn _ hm,hv];rfl
theorem spec_hap_f {ns:List ZI} {ts:List PTie} (vs:List Int) (i:Int) (hc:Zba ns ts) (hn:Z1 ns=true) (hv:Zb8 vs=true) (h0:0≤i) (h1:i<ns.length) (k:Nat) (hk:2 ^ 64≤k):Zaj.f k (ZH ns i).f1 vs=some (stB (ZH ns i).f1 vs):=by
 have hm:=ZeR h0 h1
 have hs:=(hc.2.2 _ hm).2
 exact l07State_f _ vs (by omega) (Zef (ZeF hn _ hm)) hv k hk
theorem nodeIn_iff {n x:Int} (h:Zb4 n x=true):0≤x∧x<n:=by
 unfold Zb4 at h
 rw[Bool.and_eq_true,decide_eq_true_eq,decide_eq_true_eq] at h
 exact h
theorem Zd8 {ns:List ZI} {ts:List PTie} {z:Int} {ln vs:List Int} (h:ZcS ns ts z ln vs=true):Zaq ns ts z=true∧Zcf ns ts ln vs=true:=by
 unfold ZcS at h
 rw[Bool.and_eq_true] at h
 exact h
end Go.Proofs.YtoeimopgoaffcaaGreatDoor.Pr
set_option linter.unusedSimpArgs false
set_option linter.unusedVariables false
namespace Go.Proofs.YtoeimopgoaffcaaGreatDoor.Pr
open Go.RowKit Go.Proofs.YtoeimopgoaffcaaGreatDoorW.PrintWords Go.Proofs.YtoeimopgoaffcaaGreatDoor.Ni
def bs (l:List UInt8):ByteArray:=⟨l.toArray⟩
theorem bs_of (a:ByteArray):bs a.data.toList=a:=by unfold bs;simp
theorem bs_list (l:List UInt8):(bs l).data.toList=l:=by unfold bs;simp
theorem bs_app (a b:List UInt8):bs a ++ bs b=bs (a ++ b):=by
 unfold bs
 ext1
 rw[ByteArray.data_append];simp
theorem bs_size (l:List UInt8):(bs l).size=l.length:=by unfold bs;simp[ByteArray.size]
theorem ba_size (a:ByteArray):a.size=a.data.toList.length:=by show a.data.size=_;rw[Array.length_toList]
theorem Zcv (n:Int) (h0 : -9223372036854775808≤n) (h1:n≤9223372036854775807):Zar.f n=some (bs (Lib.itoa n)):=by
 unfold Zar.f
 rw[if_pos ⟨h0,h1⟩];rfl
theorem dec_len:∀(d m:Nat),m<10 ^ (d+1)→(Lib.decDigits m).length≤d+1
 | d,m,hm=>by
  by_cases c:m<10
  ·rw[Lib.decDigits,dif_pos c];simp only[List.length_singleton];omega
  ·cases d with
   | zero=>simp at hm;omega
   | succ d=>
    have h:=dec_len d (m / 10) (by rw[Nat.pow_succ] at hm;omega)
    rw[Lib.decDigits,dif_neg c,List.length_append,List.length_singleton];omega
theorem itoa_len (n:Int) (h0 : -9223372036854775808≤n) (h1:n≤9223372036854775807):(Lib.itoa n).length≤20:=by
 by_cases c:n<0
 ·have:=dec_len 18 n.natAbs (by omega)
  rw[Lib.itoa,if_pos c,List.length_cons];omega
 ·rw[Lib.itoa,if_neg c]
  have:=dec_len 18 n.toNat (by omega)
  omega
abbrev bl (l:List ByteArray):List (List UInt8):=l.map (·.data.toList)
theorem joinTail_cons (s x:List UInt8) (r:List (List UInt8)):Lib.joinTail s (x :: r)=s ++ x ++ Lib.joinTail s r:=by simp[Lib.joinTail]
theorem rdOf_nat (l:List ByteArray) (i:Nat):rdOf ByteArray.empty l (i:Int)=l.getD i ByteArray.empty:=by unfold rdOf;rw[Int.toNat_natCast]
theorem impl_Join_f (l:List ByteArray) (sep:ByteArray) (hl:l.length≤1048576) (hb:(Lib.join (bl l) sep.data.toList).length≤140737488355328):Zbo.f l sep=some (bs (Lib.join (bl l) sep.data.toList)):=by
 unfold Zbo.f
 rw[if_pos ⟨hl,hb⟩];rfl
theorem ZeB {ns:List ZI} {ts:List PTie}:∀(d i:Nat),Zbu ns ts i d=true→∀j,i≤j→j<i+d→Zdg ns ts j=true
 | 0,i,_,j,h1,h2=>by omega
 | d+1,i,h,j,h1,h2=>by
  rw[Zbu,Bool.and_eq_true] at h
  by_cases e:j=i
  ·rw[e];exact h.1
  ·exact ZeB d (i+1) h.2 j (by omega) (by omega)
theorem tie_bd {ns:List ZI} {ts:List PTie} (h:ZaT ns ts=true) {j:Int} (h0:0≤j) (h1:j<ts.length) :
  (0≤(ZD ts j).f0∧(ZD ts j).f0<ns.length)∧(0≤(ZD ts j).f1∧(ZD ts j).f1<ns.length)∧(-20≤(ZD ts j).f2∧(ZD ts j).f2≤20)∧(-20≤(ZD ts j).f3∧(ZD ts j).f3≤20):=by
 obtain⟨m,rfl⟩:=Int.eq_ofNat_of_zero_le h0
 unfold ZaT at h
 rw[Bool.and_eq_true] at h
 have:=ZeB _ _ h.1 m (Nat.zero_le _) (by omega)
 unfold Zdg ZbM at this
 simp only[Zb4,ZdB,Bool.and_eq_true,decide_eq_true_eq] at this
 obtain⟨⟨⟨⟨⟨⟨a,b⟩,_⟩,c⟩,d⟩,_⟩,_⟩:=this
 omega
theorem Zdy {ns:List ZI} {ts:List PTie} (h:ZaT ns ts=true):ts.length≤14:=by
 unfold ZaT at h
 rw[Bool.and_eq_true,decide_eq_true_eq] at h
 exact h.2
theorem Zdf {ns:List ZI} (h:Z1 ns=true):ns.length≤7:=by
 unfold Z1 at h
 simp only[Bool.and_eq_true,decide_eq_true_eq] at h
 exact h.1.1.1.2
theorem Zfp {ns:List ZI} (h:Z1 ns=true) {j:Int} (h0:0≤j) (h1:j<ns.length):(ZH ns j).f0.size≤8∧labB (ZH ns j).f1=true∧0≤(ZH ns j).f2∧(ZH ns j).f2≤3:=by
 obtain⟨m,rfl⟩:=Int.eq_ofNat_of_zero_le h0
 have:=Zc8 h m (by omega)
 rw[Zcq]
 unfold ZcI ZcG nameB at this
 simp only[Bool.and_eq_true,decide_eq_true_eq] at this
 obtain⟨⟨⟨⟨_,_,a⟩,b⟩,c,d⟩,_⟩:=this
 exact⟨a,b,c,d⟩
def nmL (ns:List ZI) (i:Int):List UInt8:=(ZH ns i).f0.data.toList
theorem nm_bs (ns:List ZI) (i:Int):(ZH ns i).f0=bs (nmL ns i):=(bs_of _).symm
theorem nm_len {ns:List ZI} (h:Z1 ns=true) {j:Int} (h0:0≤j) (h1:j<ns.length):(nmL ns j).length≤8:=by
 have:=(Zfp h h0 h1).1
 rw[nm_bs,bs_size] at this
 exact this
def tieW (b:Bool):List UInt8:=if b=true then[102,114,101,101] else[116,105,101]
def tieT (ns:List ZI) (t:PTie):List UInt8:=tieW t.f4 ++ [32] ++ nmL ns t.f0 ++ [32] ++ nmL ns t.f1 ++ [32] ++ Lib.itoa t.f2 ++ [32] ++ Lib.itoa t.f3
theorem tieT_join (ns:List ZI) (t:PTie):Lib.join [tieW t.f4,nmL ns t.f0,nmL ns t.f1,Lib.itoa t.f2,Lib.itoa t.f3] [32]=tieT ns t:=by
 simp[Lib.join,Lib.joinTail,tieT]
theorem tieT_len {ns:List ZI} {ts:List PTie} (hn:Z1 ns=true) (h:ZaT ns ts=true) {j:Int} (h0:0≤j) (h1:j<ts.length):(tieT ns (ZD ts j)).length≤80:=by
 obtain⟨a,b,c,d⟩:=tie_bd h h0 h1
 have e1:=nm_len hn a.1 a.2
 have e2:=nm_len hn b.1 b.2
 have e3:=itoa_len _ (show -9223372036854775808≤(ZD ts j).f2 by omega) (by omega)
 have e4:=itoa_len _ (show -9223372036854775808≤(ZD ts j).f3 by omega) (by omega)
 have e5:(tieW (ZD ts j).f4).length≤4:=by unfold tieW;split <;> simp
 unfold tieT
 simp only[List.length_append,List.length_cons,List.length_nil]
 omega
theorem ZfP {ns:List ZI} {ts:List PTie} (z:Int) (hn:Z1 ns=true) (h:ZaT ns ts=true) {j:Int} (h0:0≤j) (h1:j<ts.length):Zbb.f ns ts z j=some (bs (tieT ns (ZD ts j))):=by
 obtain⟨a,b,c,d⟩:=tie_bd h h0 h1
 have hl:=tieT_len hn h h0 h1
 unfold Zbb.f
 rw[if_pos h0,if_pos h1]
 have hj:∀w:ByteArray,w=bs (tieW (ZD ts j).f4)→Zbo.f [w,(ZH ns (ZD ts j).f0).f0,(ZH ns (ZD ts j).f1).f0,bs (Lib.itoa (ZD ts j).f2),bs (Lib.itoa (ZD ts j).f3)] ⟨#[32]⟩=some (bs (tieT ns (ZD ts j))):=by
  rintro w rfl
  rw[nm_bs,nm_bs,show(⟨#[32]⟩:ByteArray)=bs [32] from rfl]
  have e:bl [bs (tieW (ZD ts j).f4),bs (nmL ns (ZD ts j).f0),bs (nmL ns (ZD ts j).f1),bs (Lib.itoa (ZD ts j).f2),bs (Lib.itoa (ZD ts j).f3)]=[tieW (ZD ts j).f4,nmL ns (ZD ts j).f0,nmL ns (ZD ts j).f1,Lib.itoa (ZD ts j).f2,Lib.itoa (ZD ts j).f3]:=by simp only[bl,List.map_cons,List.map_nil,bs_list]
  rw[impl_Join_f _ _ (by simp) (by rw[e,bs_list,tieT_join];omega),e,bs_list,tieT_join]
 by_cases hb:(ZD ts j).f4=true
 ·rw[if_pos hb,if_pos a.1,if_pos a.2,if_pos b.1,if_pos b.2,Zcv _ (by omega) (by omega),Zi,Zcv _ (by omega) (by omega),Zi,hj _ (by unfold tieW;rw[if_pos hb];rfl),Zi]
 ·rw[if_neg hb,if_pos a.1,if_pos a.2,if_pos b.1,if_pos b.2,Zcv _ (by omega) (by omega),Zi,Zcv _ (by omega) (by omega),Zi,hj _ (by unfold tieW;rw[if_neg hb];rfl),Zi]
end Go.Proofs.YtoeimopgoaffcaaGreatDoor.Pr
namespace Go.Proofs.YtoeimopgoaffcaaGreatDoor.Pr
open Go.RowKit Go.Proofs.YtoeimopgoaffcaaGreatDoorW.PrintWords Go.Proofs.YtoeimopgoaffcaaGreatDoor.Ni
def cat {α:Type} (g:Nat→List α):Nat→Nat→List α
 | 0,_=>[]
 | d+1,i=>g i ++ cat g d (i+1)
theorem Zbj {α:Type} {g:Nat→List α} {m:Nat}:∀(d i:Nat),(∀j,i≤j→j<i+d→(g j).length≤m)→(cat g d i).length≤d * m
 | 0,_,_=>by simp[cat]
 | d+1,i,h=>by
  have h1:=h i (Nat.le_refl _) (by omega)
  have h2:=Zbj (g:=g) d (i+1) (fun j a b=>h j (by omega) (by omega))
  rw[cat,List.length_append,Nat.succ_mul]
  omega
theorem ZdH {α β:Type} {step:Nat→List α×List β→Option (List α×List β)} {g:Nat→List α} {h:Nat→List β} {n B:Nat}
  (hs:∀i x y,i<n→x.length+(g i).length≤B→y.length+(h i).length≤B→step i (x,y)=some (x ++ g i,y ++ h i)):∀(d i:Nat) (x:List α) (y:List β),i+d=n→x.length+(cat g d i).length≤B→y.length+(cat h d i).length≤B→run step d i (x,y)=some (x ++ cat g d i,y ++ cat h d i)
 | 0,i,x,y,_,_,_=>by simp[run,cat]
 | d+1,i,x,y,hi,hx,hy=>by
  rw[cat,List.length_append] at hx hy
  rw[run,hs i x y (by omega) (by omega) (by omega),Zi,ZdH hs d (i+1) _ _ (by omega) (by rw[List.length_append];omega) (by rw[List.length_append];omega),cat,cat,List.append_assoc,List.append_assoc]
abbrev PLk:=S112
def lkH (z:Int) (i:Nat):PLk:=⟨0,(i:Int),⟨0,z⟩⟩
def lenAt (ts:List PTie) (ln:List Int) (i:Nat):Int:=rd ln (ZaY (fun y=>decide ((i:Int)=y)) (ZaA ts))
def lkT (ts:List PTie) (ln:List Int) (i:Nat):PLk:=⟨(ZD ts (i:Int)).f0,(ZD ts (i:Int)).f1,if (ZD ts (i:Int)).f4=true then⟨lenAt ts ln i,lenAt ts ln i⟩ else⟨(ZD ts (i:Int)).f2,(ZD ts (i:Int)).f3⟩⟩
def lkW (ns:List ZI) (i:Nat) (x:Int):PLk:=⟨Za2 ns (prp x),(i:Int),⟨1,1000000⟩⟩
def lbL (ns:List ZI) (i:Nat):List Int:=(ZH ns (i:Int)).f1
def tieH (ns:List ZI) (ts:List PTie) (vs:List Int) (i:Nat):Bool:=hapB ns vs (ZD ts (i:Int)).f0 && hapB ns vs (ZD ts (i:Int)).f1
def gA (ns:List ZI) (vs:List Int) (z:Int) (i:Nat):List PLk:=if hapB ns vs (i:Int)=true then[lkH z i] else[]
def gB (ns:List ZI) (ts:List PTie) (ln vs:List Int) (i:Nat):List PLk:=if tieH ns ts vs i=true then[lkT ts ln i] else[]
def gC (ns:List ZI) (vs:List Int) (i:Nat):List PLk:=if hapB ns vs (i:Int)=true then[] else[lkH 0 i]
def gE (ns:List ZI) (vs:List Int) (i:Nat) (j:Nat):List PLk:=if hapB ns vs (i:Int)=true then[lkW ns i (rd (lbL ns i) (j:Int))] else[]
def gD (ns:List ZI) (vs:List Int) (i:Nat):List PLk:=cat (gE ns vs i) (lbL ns i).length 0
def hor (ns:List ZI) (i:Nat):ByteArray:=(⟨#[104,111,114,105,122,111,110,32]⟩:ByteArray) ++ (ZH ns (i:Int)).f0
def rA (ns:List ZI) (vs:List Int) (i:Nat):List ByteArray:=if hapB ns vs (i:Int)=true then[hor ns i] else[]
def rB (ns:List ZI) (ts:List PTie) (vs:List Int) (i:Nat):List ByteArray:=if tieH ns ts vs i=true then[bs (tieT ns (ZD ts (i:Int)))] else[]
def rC (ns:List ZI) (vs:List Int) (t:Nat→ByteArray) (i:Nat):List ByteArray:=if hapB ns vs (i:Int)=true then[] else[t i]
def aft (ns:List ZI) (i:Nat) (x:Int):ByteArray:=Zz.after (ZH ns (Za2 ns (prp x))).f0 (ZH ns (i:Int)).f0
def rE (ns:List ZI) (vs:List Int) (i:Nat) (j:Nat):List ByteArray:=if hapB ns vs (i:Int)=true then[aft ns i (rd (lbL ns i) (j:Int))] else[]
def rD (ns:List ZI) (vs:List Int) (i:Nat):List ByteArray:=cat (rE ns vs i) (lbL ns i).length 0
def ZdC (ns:List ZI) (ts:List PTie) (z:Int) (ln vs:List Int):List PLk:=cat (gA ns vs z) ns.length 0 ++ cat (gB ns ts ln vs) ts.length 0 ++ cat (gC ns vs) ns.length 0 ++ cat (gD ns vs) ns.length 0
def projR (ns:List ZI) (ts:List PTie) (vs:List Int) (t:Nat→ByteArray):List ByteArray:=cat (rA ns vs) ns.length 0 ++ cat (rB ns ts vs) ts.length 0 ++ cat (rC ns vs t) ns.length 0 ++ cat (rD ns vs) ns.length 0
theorem ZdK {α:Type} (b:Bool) (x:α):(if b=true then[x] else[]).length≤1:=by cases b <;> simp
theorem ite_len' {α:Type} (b:Bool) (x:α):(if b=true then[] else[x]).length≤1:=by cases b <;> simp
theorem gA_len (ns:List ZI) (vs:List Int) (z:Int) (i:Nat):(gA ns vs z i).length≤1:=ZdK _ _
theorem gB_len (ns:List ZI) (ts:List PTie) (ln vs:List Int) (i:Nat):(gB ns ts ln vs i).length≤1:=ZdK _ _
theorem gC_len (ns:List ZI) (vs:List Int) (i:Nat):(gC ns vs i).length≤1:=ite_len' _ _
theorem gE_len (ns:List ZI) (vs:List Int) (i j:Nat):(gE ns vs i j).length≤1:=ZdK _ _
theorem rA_len (ns:List ZI) (vs:List Int) (i:Nat):(rA ns vs i).length≤1:=ZdK _ _
theorem rB_len (ns:List ZI) (ts:List PTie) (vs:List Int) (i:Nat):(rB ns ts vs i).length≤1:=ZdK _ _
theorem rC_len (ns:List ZI) (vs:List Int) (t:Nat→ByteArray) (i:Nat):(rC ns vs t i).length≤1:=ite_len' _ _
theorem rE_len (ns:List ZI) (vs:List Int) (i j:Nat):(rE ns vs i j).length≤1:=ZdK _ _
theorem Ze5:∀(l:List Int) (p:Int),0≤p→p≤3→ZbS p l=true→(l.length:Int)+p≤3
 | [],p,_,h,_=>by simp;omega
 | x :: t,p,h0,h1,h=>by
  rw[ZbS,Bool.and_eq_true,Bool.and_eq_true,decide_eq_true_eq] at h
  have h3:=Zdb h.1.1
  have:=Ze5 t (prp x) (by omega) (by omega) h.2
  rw[List.length_cons];omega
theorem labB_len {l:List Int} (h:labB l=true):l.length≤3:=by
 have:=Ze5 l 0 (by omega) (by omega) h
 omega
theorem lbL_ok {ns:List ZI} (h:Z1 ns=true) {i:Nat} (hi:i<ns.length):labB (lbL ns i)=true:=ZeF h _ (ZeR (by omega) (by omega))
theorem gD_len {ns:List ZI} (h:Z1 ns=true) (vs:List Int) {i:Nat} (hi:i<ns.length):(gD ns vs i).length≤3:=by
 have h1:=Zbj (m:=1) (g:=gE ns vs i) (lbL ns i).length 0 (fun j _ _=>gE_len ns vs i j)
 have h2:=labB_len (lbL_ok h hi)
 unfold gD
 omega
theorem rD_len {ns:List ZI} (h:Z1 ns=true) (vs:List Int) {i:Nat} (hi:i<ns.length):(rD ns vs i).length≤3:=by
 have h1:=Zbj (m:=1) (g:=rE ns vs i) (lbL ns i).length 0 (fun j _ _=>rE_len ns vs i j)
 have h2:=labB_len (lbL_ok h hi)
 unfold rD
 omega
theorem watch_in {ns:List ZI} {ts:List PTie} {z:Int} (h:Zaq ns ts z=true) {i:Nat} (hi:i<ns.length) {x:Int} (hx:x∈lbL ns i):0≤Za2 ns (prp x)∧Za2 ns (prp x)<ns.length:=by
 unfold Zaq at h
 rw[Bool.and_eq_true] at h
 have h1:=List.all_eq_true.1 h.2 _ (ZeR (ns:=ns) (i:=(i:Int)) (by omega) (by omega))
 unfold Zcu at h1
 rw[Bool.not_eq_true',List.any_eq_false] at h1
 have h2:=h1 x hx
 rw[Bool.not_eq_true',Bool.not_eq_false] at h2
 unfold Zb2 Zea at h2
 simp only[Bool.and_eq_true,decide_eq_true_eq] at h2
 exact⟨h2.1.1.1,(Zeh _ ns).2⟩
theorem free_idx {ts:List PTie} {i:Nat} (hi:i<ts.length) (hf:(ZD ts (i:Int)).f4=true):0≤ZaY (fun y=>decide ((i:Int)=y)) (ZaA ts)∧ZaY (fun y=>decide ((i:Int)=y)) (ZaA ts)<(ZaA ts).length:=by
 refine⟨?_,(Zeh _ _).2⟩
 have h:(ZaA ts).any (fun y=>decide ((i:Int)=y))=true:=by
  refine List.any_eq_true.2 ⟨(i:Int),?_,Ze rfl⟩
  unfold ZaA Zcy
  refine List.mem_map.2 ⟨i,List.mem_filter.2 ⟨List.mem_range.2 hi,?_⟩,rfl⟩
  rw[← ZdJ]
  exact hf
 rw[← ZcZ] at h
 exact Zd h
theorem addB {a:Zz.Acc} {x:PLk} {s:ByteArray} (h1:a.1.length<4398046511104) (h2:a.2.length<4398046511104) (h3:s.size≤9223372036854775807):Zz.add a x s=some (a.1 ++ [x],a.2 ++ [s]):=if_pos ⟨h1,h2,h3⟩
theorem hap_f {ns:List ZI} {ts:List PTie} {z:Int} {ln vs:List Int} (hc:Zba ns ts) (hs:Zaq ns ts z=true) (hv:Zb8 vs=true) (k:Nat) (hk:2 ^ 65≤k) (i:Int) (h0:0≤i) (h1:i<ns.length):Zz.hap k ns ts z ln vs i=some (hapB ns vs i):=
 ZfR z ln vs i hc (ZbP hs) hv h0 h1 k hk
theorem ZeH {ns:List ZI} (h:Z1 ns=true) {i:Int} (h0:0≤i) (h1:i<ns.length):(ZH ns i).f0.size≤8:=(Zfp h h0 h1).1
theorem stA_f {ns:List ZI} {ts:List PTie} {z:Int} {vs:List Int} {hp:Int→Option Bool} (hn:Z1 ns=true) (hh:∀i:Int,0≤i→i<ns.length→hp i=some (hapB ns vs i)) (i:Nat) (x:List PLk) (y:List ByteArray) (hi:i<ns.length) (hx:x.length+(gA ns vs z i).length≤4194304) (hy:y.length+(rA ns vs i).length≤4194304) :
  Zz.stA hp ns ts z i (x,y)=some (x ++ gA ns vs z i,y ++ rA ns vs i):=by
 unfold Zz.stA
 rw[hh i (by omega) (by omega),Zi]
 unfold gA at hx ⊢
 unfold rA at hy ⊢
 generalize hapB ns vs (i:Int)=b at hx hy ⊢
 cases b with
 | false=>simp only[Bool.false_eq_true,if_false,List.append_nil]
 | true=>
  simp only[if_true] at hx hy ⊢
  have:=ZeH hn (i:=(i:Int)) (by omega) (by omega)
  rw[addB (by show x.length<_;simp only[List.length_cons,List.length_nil] at hx;omega) (by show y.length<_;simp only[List.length_cons,List.length_nil] at hy;omega) (by rw[ByteArray.size_append];show 8+_≤_;omega)]
  rfl
theorem stC_f {ns:List ZI} {vs:List Int} {hp:Int→Option Bool} (hh:∀i:Int,0≤i→i<ns.length→hp i=some (hapB ns vs i)) (i:Nat) (x:List PLk) (y:List ByteArray) (hi:i<ns.length) (hx:x.length+(gC ns vs i).length≤4194304) (hy:y.length+(rC ns vs (fun _=>⟨#[]⟩) i).length≤4194304) :
  Zz.stC hp i (x,y)=some (x ++ gC ns vs i,y ++ rC ns vs (fun _=>⟨#[]⟩) i):=by
 unfold Zz.stC
 rw[hh i (by omega) (by omega),Zi]
 unfold gC at hx ⊢
 unfold rC at hy ⊢
 generalize hapB ns vs (i:Int)=b at hx hy ⊢
 cases b with
 | true=>simp only[if_true,List.append_nil]
 | false=>
  simp only[Bool.false_eq_true,if_false] at hx hy ⊢
  rw[addB (by show x.length<_;simp only[List.length_cons,List.length_nil] at hx;omega) (by show y.length<_;simp only[List.length_cons,List.length_nil] at hy;omega) (by show(0:Nat)≤_;omega)]
  rfl
theorem stE_f {ns:List ZI} {ts:List PTie} {z:Int} {vs:List Int} {hp:Int→Option Bool} (hs:Zaq ns ts z=true) (hh:∀i:Int,0≤i→i<ns.length→hp i=some (hapB ns vs i)) (i:Nat) (hi:i<ns.length) (j:Nat) (x:List PLk) (y:List ByteArray) (hj:j<(lbL ns i).length) (hx:x.length+(gE ns vs i j).length≤4194304) (hy:y.length+(rE ns vs i j).length≤4194304) :
  Zz.stE hp ns ts z i (lbL ns i) j (x,y)=some (x ++ gE ns vs i j,y ++ rE ns vs i j):=by
 have hn:=ZbP hs
 have hm:rd (lbL ns i) (j:Int)∈lbL ns i:=by rw[ZaI];exact ZaJ hj 0
 have hlit:=Zef (lbL_ok hn hi) _ hm
 have hw:=watch_in hs hi hm
 unfold Zz.stE
 rw[hh i (by omega) (by omega),Zi]
 unfold gE at hx ⊢
 unfold rE at hy ⊢
 generalize hapB ns vs (i:Int)=b at hx hy ⊢
 cases b with
 | false=>simp only[Bool.false_eq_true,if_false,List.append_nil]
 | true=>
  simp only[if_true] at hx hy ⊢
  rw[ZdU hlit,Zi,ZaN.f,Zi,if_pos hw]
  have h1:=ZeH hn (i:=(i:Int)) (by omega) (by omega)
  have h2:=ZeH hn hw.1 hw.2
  rw[addB (by show x.length<_;simp only[List.length_cons,List.length_nil] at hx;omega) (by show y.length<_;simp only[List.length_cons,List.length_nil] at hy;omega) (by unfold Zz.after;rw[ByteArray.size_append,ByteArray.size_append,ByteArray.size_append];show 6+_+1+_≤_;omega)]
  rfl
theorem stD_f {ns:List ZI} {ts:List PTie} {z:Int} {vs:List Int} {hp:Int→Option Bool} (hs:Zaq ns ts z=true) (hh:∀i:Int,0≤i→i<ns.length→hp i=some (hapB ns vs i)) (i:Nat) (x:List PLk) (y:List ByteArray) (hi:i<ns.length) (hx:x.length+(gD ns vs i).length≤4194304) (hy:y.length+(rD ns vs i).length≤4194304) :
  Zz.stD hp ns ts z i (x,y)=some (x ++ gD ns vs i,y ++ rD ns vs i):=by
 unfold gD at hx ⊢
 unfold rD at hy ⊢
 show run (Zz.stE hp ns ts z i (lbL ns i)) (lbL ns i).length 0 (x,y)=_
 exact ZdH (n:=(lbL ns i).length) (B:=4194304) (fun j x y hj h1 h2=>stE_f hs hh i hi j x y hj h1 h2) _ 0 x y (by omega) hx hy
theorem stB_f {ns:List ZI} {ts:List PTie} {z:Int} {ln vs:List Int} {hp:Int→Option Bool} (hs:Zaq ns ts z=true) (hl:ln.length=(ZaA ts).length) (hh:∀i:Int,0≤i→i<ns.length→hp i=some (hapB ns vs i)) (i:Nat) (x:List PLk) (y:List ByteArray) (hi:i<ts.length) (hx:x.length+(gB ns ts ln vs i).length≤4194304) (hy:y.length+(rB ns ts vs i).length≤4194304) :
  Zz.stB hp ns ts z ln (ZaA ts) i (x,y)=some (x ++ gB ns ts ln vs i,y ++ rB ns ts vs i):=by
 have hn:=ZbP hs
 have ht:=Zcj hs
 obtain⟨⟨f0,f1⟩,⟨g0,g1⟩,_⟩:=tie_bd ht (j:=(i:Int)) (by omega) (by omega)
 unfold Zz.stB
 rw[hh _ f0 f1,Zi]
 unfold gB tieH at hx ⊢
 unfold rB tieH at hy ⊢
 cases h1:hapB ns vs (ZD ts (i:Int)).f0 with
 | false=>simp only[Bool.false_and,Bool.false_eq_true,if_false,List.append_nil]
 | true=>
  rw[if_pos rfl,hh _ g0 g1,Zi]
  rw[h1,Bool.true_and] at hx hy
  rw[Bool.true_and]
  cases h2:hapB ns vs (ZD ts (i:Int)).f1 with
  | false=>simp only[Bool.false_eq_true,if_false,List.append_nil]
  | true=>
   rw[h2] at hx hy
   simp only[if_true] at hx hy ⊢
   have hspan:Zz.span (ZaA ts) ln i (ZD ts (i:Int))=some ((lkT ts ln i).f2.f0,(lkT ts ln i).f2.f1):=by
    unfold Zz.span lkT lenAt
    cases h4:(ZD ts (i:Int)).f4 with
    | false=>rfl
    | true=>
     have hq:=free_idx hi h4
     rw[if_pos rfl,if_pos ⟨hq.1,by rw[hl];exact hq.2⟩];rfl
   have hsz:=tieT_len hn ht (j:=(i:Int)) (by omega) (by omega)
   rw[hspan,Zi,ZfP z hn ht (by omega) (by omega),Zi,addB (by show x.length<_;simp only[List.length_cons,List.length_nil] at hx;omega) (by show y.length<_;simp only[List.length_cons,List.length_nil] at hy;omega) (by rw[bs_size];omega)]
   unfold lkT
   rfl
theorem ZfQ {ns:List ZI} {ts:List PTie} {z:Int} {ln vs:List Int} (hc:Zba ns ts) (hs:Zaq ns ts z=true) (hch:Zcf ns ts ln vs=true) (k:Nat) (hk:2 ^ 65≤k):Zz.f k ns ts z ln vs=some ((ns.length:Int),ZdC ns ts z ln vs,projR ns ts vs (fun _=>⟨#[]⟩)):=by
 have hn:=ZbP hs
 have ht:=Zcj hs
 have n7:=Zdf hn
 have t14:=Zdy ht
 have hl:ln.length=(ZaA ts).length:=by
  unfold Zcf at hch
  simp only[Bool.and_eq_true,decide_eq_true_eq] at hch
  exact hch.1
 have hh:∀i:Int,0≤i→i<ns.length→Zz.hap k ns ts z ln vs i=some (hapB ns vs i):=fun i h0 h1=>hap_f hc hs (Zeq hch) k hk i h0 h1
 have a1:=Zbj (m:=1) (g:=gA ns vs z) ns.length 0 (fun j _ _=>gA_len ns vs z j)
 have a2:=Zbj (m:=1) (g:=rA ns vs) ns.length 0 (fun j _ _=>rA_len ns vs j)
 have b1:=Zbj (m:=1) (g:=gB ns ts ln vs) ts.length 0 (fun j _ _=>gB_len ns ts ln vs j)
 have b2:=Zbj (m:=1) (g:=rB ns ts vs) ts.length 0 (fun j _ _=>rB_len ns ts vs j)
 have c1:=Zbj (m:=1) (g:=gC ns vs) ns.length 0 (fun j _ _=>gC_len ns vs j)
 have c2:=Zbj (m:=1) (g:=rC ns vs (fun _=>⟨#[]⟩)) ns.length 0 (fun j _ _=>rC_len ns vs _ j)
 have d1:=Zbj (m:=3) (g:=gD ns vs) ns.length 0 (fun j _ h=>gD_len hn vs (by omega))
 have d2:=Zbj (m:=3) (g:=rD ns vs) ns.length 0 (fun j _ h=>rD_len hn vs (by omega))
 unfold Zz.f
 rw[ZdH (g:=gA ns vs z) (h:=rA ns vs) (n:=ns.length) (B:=4194304) (fun i x y hi h1 h2=>stA_f (ts:=ts) hn hh i x y hi h1 h2) _ 0 [] [] (by omega) (by simp only[List.length_nil];omega) (by simp only[List.length_nil];omega),Zi,List.nil_append,List.nil_append]
 unfold Zz.f1
 rw[ZdF ns ts z hc.2.1 k (by omega),Zi]
 rw[ZdH (g:=gB ns ts ln vs) (h:=rB ns ts vs) (n:=ts.length) (B:=4194304) (fun i x y hi h1 h2=>stB_f hs hl hh i x y hi h1 h2) _ 0 _ _ (by omega) (by omega) (by omega),Zi]
 unfold Zz.f2
 rw[ZdH (g:=gC ns vs) (h:=rC ns vs (fun _=>⟨#[]⟩)) (n:=ns.length) (B:=4194304) (fun i x y hi h1 h2=>stC_f hh i x y hi h1 h2) _ 0 _ _ (by omega) (by rw[List.length_append];omega) (by rw[List.length_append];omega),Zi]
 unfold Zz.f3
 rw[ZdH (g:=gD ns vs) (h:=rD ns vs) (n:=ns.length) (B:=4194304) (fun i x y hi h1 h2=>stD_f hs hh i x y hi h1 h2) _ 0 _ _ (by omega) (by simp only[List.length_append];omega) (by simp only[List.length_append];omega),Zi]
 rfl
abbrev Zc9:=S112
theorem rdK_nat (l:List Zc9) (i:Nat):ZbG l (i:Int)=l.getD i z112:=by unfold ZbG;rw[Int.toNat_natCast]
theorem Zfn {n:Int} {L:List Zc9} (h:Zay n L=true):1≤n∧n≤8∧L.length≤40∧∀x∈L,ZbH n x=true:=by
 unfold Zay at h
 simp only[Bool.and_eq_true,Bool.not_eq_true',decide_eq_false_iff_not] at h
 obtain⟨h1,h2,h3,h4⟩:=h
 refine⟨by omega,by omega,by omega,fun x hx=>?_⟩
 have:=List.any_eq_false.1 h4 x hx
 simpa using this
theorem Zc2 (n:Int) (L:List Zc9) (k:Nat) (_:2 ^ 66≤k):ZaV.f k n L=some (Zay n L):=rfl
def fin2 (e:Int) (L:List PLk):Int×List PLk×Bool:=if Zay e L=true then(e,L,true) else(0,[],false)
def hbs (ns:List ZI) (vs:List Int) (n:Nat):List Bool:=(List.range n).map fun i:Nat=>hapB ns vs (i:Int)
theorem hbs_len (ns:List ZI) (vs:List Int) (n:Nat):(hbs ns vs n).length=n:=by unfold hbs;simp
theorem hbs_succ (ns:List ZI) (vs:List Int) (n:Nat):hbs ns vs (n+1)=hbs ns vs n ++ [hapB ns vs (n:Int)]:=by unfold hbs;rw[List.range_succ,List.map_append];rfl
theorem hbs_at (ns:List ZI) (vs:List Int) {n:Nat} {i:Int} (h0:0≤i) (h1:i<n):rdOf false (hbs ns vs n) i=hapB ns vs i:=by
 obtain⟨m,rfl⟩:=Int.eq_ofNat_of_zero_le h0
 unfold rdOf hbs
 rw[Int.toNat_natCast,List.getD_eq_getElem?_getD,List.getElem?_map,List.getElem?_range (by omega)]
 rfl
theorem ZdR {α:Type} {step:Nat→List α→Option (List α)} {g:Nat→List α} {n B:Nat}
  (hs:∀i x,i<n→x.length+(g i).length≤B→step i x=some (x ++ g i)):∀(d i:Nat) (x:List α),i+d=n→x.length+(cat g d i).length≤B→run step d i x=some (x ++ cat g d i)
 | 0,i,x,_,_=>by simp[run,cat]
 | d+1,i,x,hi,hx=>by
  rw[cat,List.length_append] at hx
  rw[run,hs i x (by omega) (by omega),Zi,ZdR hs d (i+1) _ (by omega) (by rw[List.length_append];omega),cat,List.append_assoc]
section
variable {ns:List ZI} {ts:List PTie} {z:Int} {ln vs:List Int}
theorem addLB {L:Zu.Ls} {x:PLk} (h:L.length<4398046511104):Zu.addL L x=some (L ++ [x]):=if_pos h
theorem at_hbs (ns:List ZI) (vs:List Int) {n:Nat} {i:Int} (h0:0≤i) (h1:i<n):Zu.at_ (hbs ns vs n) i=some (hapB ns vs i):=by
 unfold Zu.at_
 rw[if_pos ⟨h0,by rw[hbs_len];exact h1⟩,hbs_at ns vs h0 h1]
theorem sp_stE (hs:Zaq ns ts z=true) (hc:Zba ns ts) {k:Nat} (hk:2 ^ 64≤k) (i:Nat) (hi:i<ns.length) (j:Nat) (x:List PLk) (hj:j<(lbL ns i).length) (hx:x.length+(gE ns vs i j).length≤4194304):Zu.stE k ns ts z (hbs ns vs ns.length) i (lbL ns i) j x=some (x ++ gE ns vs i j):=by
 have hn:=ZbP hs
 have hN:=hc.1
 have hm:rd (lbL ns i) (j:Int)∈lbL ns i:=by rw[ZaI];exact ZaJ hj 0
 have hlit:=Zef (lbL_ok hn hi) _ hm
 have hp:=Zdb hlit
 unfold Zu.stE
 rw[at_hbs ns vs (by omega) (by omega),Zi]
 unfold gE at hx ⊢
 generalize hapB ns vs (i:Int)=b at hx ⊢
 cases b with
 | false=>simp only[Bool.false_eq_true,if_false,List.append_nil]
 | true=>
  simp only[if_true] at hx ⊢
  rw[Zdr hlit,Zi,ZcJ ns ts z _ (by omega) k hk,Zi,addLB (by simp only[List.length_cons,List.length_nil] at hx;omega),← ZdA ns (by omega)]
  rfl
theorem sp_stD (hs:Zaq ns ts z=true) (hc:Zba ns ts) {k:Nat} (hk:2 ^ 64≤k) (i:Nat) (x:List PLk) (hi:i<ns.length) (hx:x.length+(gD ns vs i).length≤4194304):Zu.stD k ns ts z (hbs ns vs ns.length) i x=some (x ++ gD ns vs i):=by
 unfold Zu.stD
 unfold gD at hx ⊢
 show run (Zu.stE k ns ts z (hbs ns vs ns.length) i (lbL ns i)) (lbL ns i).length 0 x=_
 exact ZdR (n:=(lbL ns i).length) (B:=4194304) (fun j x hj h1=>sp_stE hs hc hk i hi j x hj h1) _ 0 x (by omega) hx
theorem sp_stC (i:Nat) (x:List PLk) (hi:i<ns.length) (hx:x.length+(gC ns vs i).length≤4194304):Zu.stC (hbs ns vs ns.length) i x=some (x ++ gC ns vs i):=by
 unfold Zu.stC
 rw[at_hbs ns vs (by omega) (by omega),Zi]
 unfold gC at hx ⊢
 generalize hapB ns vs (i:Int)=b at hx ⊢
 cases b with
 | true=>simp only[if_true,List.append_nil]
 | false=>
  simp only[Bool.false_eq_true,if_false] at hx ⊢
  rw[addLB (by simp only[List.length_cons,List.length_nil] at hx;omega)]
  rfl
theorem l10Length_f (hc:Zba ns ts) (hl:ln.length=(ZaA ts).length) {i:Nat} (hi:i<ts.length) (hf:(ZD ts (i:Int)).f4=true) (k:Nat) (hk:2 ^ 64≤k):Zal.f k ns ts z ln vs (i:Int)=some (lenAt ts ln i):=by
 have hN:=hc.2.1
 have hF:=Zc6 ts
 have hq:=free_idx hi hf
 unfold Zal.f
 rw[Zd1 ns ts z hc.2.1 k (by omega),Zi]
 unfold lenAt
 generalize hL:ZaA ts=L at *
 obtain⟨p,hp⟩:∃p:Nat,(p:Int)=ZaY (fun y=>decide ((i:Int)=y)) L:=⟨(ZaY (fun y=>decide ((i:Int)=y)) L).toNat,by omega⟩
 rw[← hp] at hq ⊢
 have hfind:L.findIdx? (fun y=>decide ((i:Int)=y))=some p:=by
  unfold ZaY at hp
  cases h:L.findIdx? (fun y=>decide ((i:Int)=y)) with
  | none=>rw[h] at hp;simp only at hp;omega
  | some m=>rw[h] at hp;simp only at hp;congr 1;omega
 obtain⟨hpl,hpt,hpb⟩:=List.findIdx?_eq_some_iff_getElem.1 hfind
 have go:∀(d j k:Nat),j+d=p→d<k→Zal.l0 k (i:Int) L (L.length:Int) (j:Int) ln vs=some (rd ln (p:Int)):=by
  intro d
  induction d with
  | zero=>
   intro j k hj hk
   obtain⟨m,rfl⟩:∃m,k=m+1:=⟨k - 1,by omega⟩
   obtain rfl:j=p:=by omega
   simp only[Zal.l0]
   have:rd L (j:Int)=(i:Int):=by
    rw[ZaI,List.getD_eq_getElem?_getD,Zl hpl]
    have:=Zd hpt
    exact this.symm
   rw[if_pos (by omega),if_pos (by omega),if_pos (by omega),if_pos this,if_pos (by omega)]
  | succ d ih=>
   intro j k hj hk
   obtain⟨m,rfl⟩:∃m,k=m+1:=⟨k - 1,by omega⟩
   simp only[Zal.l0]
   have hne:¬rd L (j:Int)=(i:Int):=by
    have h:=hpb j (by omega)
    rw[ZaI,List.getD_eq_getElem?_getD,Zl (by omega)]
    intro he
    apply h
    exact Ze he.symm
   rw[if_pos (by omega),if_pos (by omega),if_pos (by omega),if_neg hne,ZL (n:=L.length) (by omega) (by omega)]
   exact ih (j+1) m (by omega) (by omega)
 exact go p 0 k (by omega) (by omega)
theorem sp_stB (hs:Zaq ns ts z=true) (hc:Zba ns ts) (hl:ln.length=(ZaA ts).length) {k:Nat} (hk:2 ^ 64≤k) (i:Nat) (x:List PLk) (hi:i<ts.length) (hx:x.length+(gB ns ts ln vs i).length≤4194304):Zu.stB k ns ts z ln vs (hbs ns vs ns.length) i x=some (x ++ gB ns ts ln vs i):=by
 have ht:=Zcj hs
 obtain⟨⟨f0,f1⟩,⟨g0,g1⟩,_⟩:=tie_bd ht (j:=(i:Int)) (by omega) (by omega)
 unfold Zu.stB
 rw[at_hbs ns vs f0 f1,Zi]
 unfold gB tieH at hx ⊢
 cases h1:hapB ns vs (ZD ts (i:Int)).f0 with
 | false=>simp only[Bool.false_and,Bool.false_eq_true,if_false,List.append_nil]
 | true=>
  rw[if_pos rfl,at_hbs ns vs g0 g1,Zi]
  rw[h1,Bool.true_and] at hx
  rw[Bool.true_and]
  cases h2:hapB ns vs (ZD ts (i:Int)).f1 with
  | false=>simp only[Bool.false_eq_true,if_false,List.append_nil]
  | true=>
   rw[h2] at hx
   simp only[if_true] at hx ⊢
   have hspan:Zu.span k ns ts z ln vs i (ZD ts (i:Int))=some ((lkT ts ln i).f2.f0,(lkT ts ln i).f2.f1):=by
    unfold Zu.span
    cases h4:(ZD ts (i:Int)).f4 with
    | false=>rw[if_neg (by simp)];unfold lkT;rw[h4];rfl
    | true=>rw[if_pos rfl,l10Length_f hc hl hi h4 k hk,Zi];unfold lkT;rw[h4];rfl
   rw[hspan,Zi,addLB (by simp only[List.length_cons,List.length_nil] at hx;omega)]
   rfl
theorem sp_stA (hs:Zaq ns ts z=true) (hc:Zba ns ts) (hv:Zb8 vs=true) {k:Nat} (hk:2 ^ 64≤k):∀(d i:Nat) (x:List PLk),i+d=ns.length→x.length+(cat (gA ns vs z) d i).length≤4194304→run (Zu.stA k ns ts z vs) d i (hbs ns vs i,x)=some (hbs ns vs ns.length,x ++ cat (gA ns vs z) d i)
 | 0,i,x,hi,_=>by
  obtain rfl:i=ns.length:=by omega
  simp[run,cat]
 | d+1,i,x,hi,hx=>by
  have hN:=hc.1
  have hn:=ZbP hs
  rw[cat,List.length_append] at hx
  have hstep:Zu.stA k ns ts z vs i (hbs ns vs i,x)=some (hbs ns vs (i+1),x ++ gA ns vs z i):=by
   unfold Zu.stA
   rw[spec_hap_f vs (i:Int) hc hn hv (by omega) (by omega) k (by omega),Zi,if_pos (by rw[hbs_len];omega)]
   rw[show(stB (ZH ns (i:Int)).f1 vs == 1)=hapB ns vs (i:Int) from rfl,← hbs_succ,at_hbs ns vs (by omega) (by omega),Zi]
   have h2:x.length+(gA ns vs z i).length≤4194304:=by omega
   unfold gA at h2 ⊢
   generalize hapB ns vs (i:Int)=b at h2 ⊢
   cases b with
   | false=>simp only[Bool.false_eq_true,if_false,List.append_nil]
   | true=>
    simp only[if_true] at h2 ⊢
    rw[addLB (by simp only[List.length_cons,List.length_nil] at h2;omega)]
    rfl
  rw[run,hstep,Zi,sp_stA hs hc hv hk d (i+1) _ (by omega) (by rw[List.length_append];omega),cat,List.append_assoc]
def Zc3 (ns:List ZI) (ts:List PTie) (z:Int) (ln vs:List Int):Int×List PLk×Bool:=if ZcS ns ts z ln vs=true then fin2 (ns.length:Int) (ZdC ns ts z ln vs) else(0,[],false)
theorem ZeD (hc:Zba ns ts) (hlv:vs.length≤1048576) (k:Nat) (hk:2 ^ 67≤k):Zu.f k ns ts z ln vs=some (Zc3 ns ts z ln vs):=by
 unfold Zu.f Zc3
 rw[Zfk ln vs hc hlv k hk,Zi]
 by_cases h:ZcS ns ts z ln vs=true
 ·rw[if_pos h,if_pos h]
  obtain⟨hs,hch⟩:=Zd8 h
  have hn:=ZbP hs
  have n7:=Zdf hn
  have t14:=Zdy (Zcj hs)
  have hl:ln.length=(ZaA ts).length:=by
   unfold Zcf at hch
   simp only[Bool.and_eq_true,decide_eq_true_eq] at hch
   exact hch.1
  have a1:=Zbj (m:=1) (g:=gA ns vs z) ns.length 0 (fun j _ _=>gA_len ns vs z j)
  have b1:=Zbj (m:=1) (g:=gB ns ts ln vs) ts.length 0 (fun j _ _=>gB_len ns ts ln vs j)
  have c1:=Zbj (m:=1) (g:=gC ns vs) ns.length 0 (fun j _ _=>gC_len ns vs j)
  have d1:=Zbj (m:=3) (g:=gD ns vs) ns.length 0 (fun j _ h=>gD_len hn vs (by omega))
  have hA:=sp_stA (z:=z) (vs:=vs) hs hc (Zeq hch) (k:=k) (by omega) ns.length 0 [] (by omega) (by simp only[List.length_nil];omega)
  rw[List.nil_append] at hA
  rw[show(([],[]):List Bool×Zu.Ls)=(hbs ns vs 0,[]) from rfl,hA,Zi]
  unfold Zu.f1
  rw[ZdR (g:=gB ns ts ln vs) (n:=ts.length) (B:=4194304) (fun i x hi h1=>sp_stB hs hc hl (by omega) i x hi h1) _ 0 _ (by omega) (by dsimp only;omega),Zi]
  unfold Zu.f2
  rw[ZdR (g:=gC ns vs) (n:=ns.length) (B:=4194304) (fun i x hi h1=>sp_stC i x hi h1) _ 0 _ (by omega) (by simp only[List.length_append];omega),Zi]
  unfold Zu.f3
  rw[ZdR (g:=gD ns vs) (n:=ns.length) (B:=4194304) (fun i x hi h1=>sp_stD hs hc (by omega) i x hi h1) _ 0 _ (by omega) (by simp only[List.length_append];omega),Zi]
  unfold Zu.f4
  rw[Zc2 _ _ k (by omega),Zi]
  unfold fin2 ZdC
  split <;> rfl
 ·rw[if_neg h,if_neg h]
end
theorem ZeK {ns:List ZI} {ts:List PTie} {z:Int} {ln vs:List Int} (hc:Zba ns ts) (hlv:vs.length≤1048576) (k:Nat) (hk:2 ^ 67≤k):Zbq.f k ns ts z ln vs=some (Zc3 ns ts z ln vs):=by
 unfold Zbq.f Zc3
 rw[Zfv ln vs hc hlv k (by omega),Zi]
 by_cases h:ZcS ns ts z ln vs=true
 ·obtain⟨hs,hch⟩:=Zd8 h
  rw[if_pos h,if_pos h,ZfQ hc hs hch k (by omega),Zi]
  show((ZaL.f (ns.length:Int) (ZdC ns ts z ln vs)).bind _)=_
  rw[show ZaL.f (ns.length:Int) (ZdC ns ts z ln vs)=some (Zay (ns.length:Int) (ZdC ns ts z ln vs)) from rfl,Zi,fin2]
  split <;> rfl
 ·rw[if_neg h,if_neg h]
theorem projL_len {ns:List ZI} {ts:List PTie} {z:Int} {ln vs:List Int} (hs:Zaq ns ts z=true):(ZdC ns ts z ln vs).length≤49:=by
 have hn:=ZbP hs
 have n7:=Zdf hn
 have t14:=Zdy (Zcj hs)
 have a1:=Zbj (m:=1) (g:=gA ns vs z) ns.length 0 (fun j _ _=>gA_len ns vs z j)
 have b1:=Zbj (m:=1) (g:=gB ns ts ln vs) ts.length 0 (fun j _ _=>gB_len ns ts ln vs j)
 have c1:=Zbj (m:=1) (g:=gC ns vs) ns.length 0 (fun j _ _=>gC_len ns vs j)
 have d1:=Zbj (m:=3) (g:=gD ns vs) ns.length 0 (fun j _ h=>gD_len hn vs (by omega))
 unfold ZdC
 simp only[List.length_append]
 omega
theorem projB_len (ns:List ZI) (ts:List PTie) (z:Int) (ln vs:List Int):(Zc3 ns ts z ln vs).2.1.length≤1048576:=by
 unfold Zc3
 split
 ·rename_i h
  have:=projL_len (ln:=ln) (vs:=vs) (Zd8 h).1
  unfold fin2
  split
  ·show(ZdC ns ts z ln vs).length≤_;omega
  ·exact Nat.zero_le _
 ·exact Nat.zero_le _
theorem edgesL_len (x:Zc9):(edgesL x).length≤2:=by unfold edgesL;split <;> split <;> simp
theorem edgesB_len:∀L:List Zc9,(Zby L).length≤2 * L.length
 | []=>Nat.le_refl _
 | x :: t=>by have:=edgesB_len t;have:=edgesL_len x;rw[Zby,List.length_append,List.length_cons];omega
def gofB (n:Int) (L:List Zc9):Int×List Zai:=if Zay n L=true then(n,Zby L) else(0,[])
theorem ZfU (n:Int) (L:List Zc9) (k:Nat) (_hk:2 ^ 64≤k):Zcr.f k n L=some (gofB n L):=by
 unfold Zcr.f gofB ZaL.f
 rw[Zi]
 by_cases h:Zay n L=true
 ·rw[if_pos h,if_pos h,Zac.f,if_pos (show L.length≤1048576 by have:=Zfn h;omega)];rfl
 ·rw[if_neg h,if_neg h]
def ncF (n:Int) (E:List Zai):List Int:=if ZbD n E=true then ncB n.toNat E else[]
def consB (n:Int) (L:List Zc9):Bool:=Zay n L && (ncF n (Zby L)).isEmpty
theorem Zev (n:Int) (L:List Zc9) (k:Nat) (hk:2 ^ 64≤k):Zbk.f k n L=some (consB n L):=by
 unfold Zbk.f consB ZaL.f
 rw[Zi]
 by_cases h:Zay n L=true
 ·rw[if_pos h,ZfU n L k hk,Zi,gofB,if_pos h,h,Zaz.f,Zi];rfl
 ·rw[if_neg h,Bool.eq_false_iff.2 h];rfl
theorem ZfJ (n:Int) (L:List Zc9) (k:Nat) (hk:2 ^ 66≤k):Zbv.f k n L=some (gofB n L):=by
 unfold Zbv.f gofB
 rw[Zc2 n L k hk,Zi]
 by_cases h:Zay n L=true
 ·rw[if_pos h,if_pos h,ZbU.f,if_pos (show L.length≤1048576 by have:=Zfn h;omega)];rfl
 ·rw[if_neg h,if_neg h]
theorem Zes (n:Int) (L:List Zc9) (k:Nat) (hk:2 ^ 66≤k):Zbz.f k n L=some (consB n L):=by
 unfold Zbz.f consB
 rw[Zc2 n L k hk,Zi]
 by_cases h:Zay n L=true
 ·rw[if_pos h,ZfJ n L k hk,Zi,gofB,if_pos h,h,ZaW.f,Zi,Bool.true_and]
  show some (((ncF n (Zby L)).length:Int) == 0)=some (ncF n (Zby L)).isEmpty
  cases ncF n (Zby L) with
  | nil=>rfl
  | cons x t=>
   have:((((x :: t).length:Nat):Int) == 0)=false:=by rw[beq_eq_false_iff_ne,List.length_cons];omega
   rw[this];rfl
 ·rw[if_neg h,Bool.eq_false_iff.2 h];rfl
def mastB (ns:List ZI) (ts:List PTie) (z:Int) (ln vs:List Int):Bool:=(Zc3 ns ts z ln vs).2.2 && consB (Zc3 ns ts z ln vs).1 (Zc3 ns ts z ln vs).2.1
theorem Zfb {ns:List ZI} {ts:List PTie} {z:Int} {ln vs:List Int} (hc:Zba ns ts) (hlv:vs.length≤1048576) (k:Nat) (hk:2 ^ 67≤k):ZbF.f k ns ts z ln vs=some (mastB ns ts z ln vs):=by
 unfold ZbF.f mastB
 rw[ZeD hc hlv k hk,Zi]
 cases h:(Zc3 ns ts z ln vs).2.2 with
 | true=>rw[if_pos rfl,Zes _ _ k (by omega)];rfl
 | false=>rw[if_neg (by simp)];rfl
theorem Zfd {ns:List ZI} {ts:List PTie} {z:Int} {ln vs:List Int} (hc:Zba ns ts) (hlv:vs.length≤1048576) (k:Nat) (hk:2 ^ 67≤k):ZbJ.f k ns ts z ln vs=some (mastB ns ts z ln vs):=by
 unfold ZbJ.f mastB
 rw[ZeK hc hlv k hk,Zi]
 cases h:(Zc3 ns ts z ln vs).2.2 with
 | true=>rw[if_pos rfl,Zev _ _ k (by omega)];rfl
 | false=>rw[if_neg (by simp)];rfl
def ccW (ns:List ZI) (p x:Int):Int:=ccQ (Za2 ns p) x
def ZaZ (ns:List ZI) (ts:List PTie) (z:Int):Int:=if Zaq ns ts z=true then ccW ns 3 (ccW ns 2 (ccW ns 1 ((ZaA ts).foldl (ccS ts) 1))) else 0
theorem okI_free {ts:List PTie} (ht:ts.length≤1048576):okI ts (ZaA ts)=true:=by
 unfold okI
 rw[Ze (Nat.le_trans (Zc6 ts) ht),Bool.true_and,List.all_eq_true]
 intro x hx
 have:=Zds hx
 rw[Ze this.1,Ze this.2];rfl
theorem wq_spec (ns:List ZI) (ts:List PTie) (z:Int) (hl:ns.length≤9223372036854775807) (k:Nat) (hk:2 ^ 64≤k):∀p:Nat,1≤p→p≤3→(fun p=>Z3.f k ns ts z p) (p:Int)=some (Za2 ns (p:Int)):=fun p h1 _=>by
 show Z3.f k ns ts z (p:Int)=_
 rw[ZcJ ns ts z p hl k hk,← ZdA ns (by omega)]
theorem wq_impl (ns:List ZI) (ts:List PTie) (z:Int):∀p:Nat,1≤p→p≤3→(fun p=>ZaN.f ns ts z p) (p:Int)=some (Za2 ns (p:Int)):=fun _ _ _=>rfl
theorem Zey {ns:List ZI} {ts:List PTie} {z:Int} (hf:fitN ns=true) (ht:ts.length≤1048576) (k:Nat) (hk:2 ^ 65≤k):Zbm.f k ns ts z=some (ZaZ ns ts z):=by
 unfold Zbm.f ZaZ
 rw[ZcW hf,Zi,ZdF ns ts z ht k (by omega)]
 cases Zaq ns ts z with
 | false=>rfl
 | true=>
  obtain⟨q,h1,_,h2⟩:=wq_of (wq_impl ns ts z)
  rw[if_pos rfl,if_pos rfl,Zi,if_pos (okI_free ht),h1,Zi,h2]
  rfl
theorem Zb9 {ns:List ZI} {ts:List PTie} {z:Int} (hf:fitN ns=true) (hl:ns.length≤9223372036854775807) (ht:ts.length≤1048576) (k:Nat) (hk:2 ^ 65≤k):Za1.f k ns ts z=some (ZaZ ns ts z):=by
 unfold Za1.f ZaZ
 rw[Zdv ns ts z hf k (by omega),Zi,Zd1 ns ts z ht k (by omega)]
 cases Zaq ns ts z with
 | false=>rfl
 | true=>
  obtain⟨q,h1,_,h2⟩:=wq_of (wq_spec ns ts z hl k (by omega))
  rw[if_pos rfl,if_pos rfl,Zi,if_pos (okI_free ht),h1,Zi,h2]
  rfl
end Go.Proofs.YtoeimopgoaffcaaGreatDoor.Pr
set_option linter.unusedVariables false
namespace Go.Proofs.YtoeimopgoaffcaaGreatDoor.Pr
open Go.RowKit Go.Proofs.YtoeimopgoaffcaaGreatDoorW.PrintWords Go.Proofs.YtoeimopgoaffcaaGreatDoor.Ni
theorem freeIx_is {ts:List PTie} {x:Int} (h:x∈ZaA ts):(ZD ts x).f4=true:=by
 unfold ZaA Zcy at h
 obtain⟨i,hi,rfl⟩:=List.mem_map.1 h
 rw[ZdJ]
 exact(List.mem_filter.1 hi).2
theorem ZeC {ns:List ZI} {ts:List PTie}:∀(d i:Nat),Zbu ns ts i d=true→∀j,i≤j→j<i+d→Zdg ns ts j=true
 | 0,i,_,j,h1,h2=>by omega
 | d+1,i,h,j,h1,h2=>by
  rw[Zbu,Bool.and_eq_true] at h
  by_cases e:j=i
  ·rw[e];exact h.1
  ·exact ZeC d (i+1) h.2 j (by omega) (by omega)
theorem areTiesB_at2 {ns:List ZI} {ts:List PTie} (h:ZaT ns ts=true):∀j,j<ts.length→Zdg ns ts j=true:=by
 unfold ZaT at h
 rw[Bool.and_eq_true] at h
 exact fun j hj=>ZeC _ _ h.1 j (Nat.zero_le _) (by omega)
theorem free_fac {ns:List ZI} {ts:List PTie} (h:ZaT ns ts=true) {j:Int} (hj:j∈ZaA ts):1≤facI ts j∧facI ts j≤20:=by
 have hf:=freeIx_is hj
 obtain⟨h0,h1⟩:=Zds hj
 unfold facI
 obtain⟨m,rfl⟩:=Int.eq_ofNat_of_zero_le h0
 have:=areTiesB_at2 h m (by omega)
 unfold Zdg ZbM at this
 rw[hf] at this
 simp only[Zb4,ZdB,Bool.and_eq_true,Bool.not_true,Bool.false_or,decide_eq_true_eq,Bool.not_eq_true',beq_eq_false_iff_ne,decide_eq_false_iff_not] at this
 obtain⟨⟨⟨⟨⟨⟨_,_⟩,_⟩,a⟩,b⟩,c⟩,⟨⟨⟨⟨d,_⟩,_⟩,_⟩,_⟩⟩:=this
 unfold wrap64
 omega
def Zct (ts:List PTie):List Int→Nat
 | []=>1
 | i :: L=>(facI ts i).toNat * Zct ts L
theorem prodF_run (ts:List PTie):∀(L:List Int) (a n:Nat),(∀x∈L,1≤facI ts x∧facI ts x≤20)→L.length≤n→a * 20 ^ n≤20 ^ 14→L.foldl (ccS ts) (a:Int)=((a * Zct ts L:Nat):Int):=by
 intro L
 induction L with
 | nil=>intro a n _ _ _;simp[Zct]
 | cons i L ih=>
  intro a n h hn ha
  obtain⟨m,rfl⟩:∃m,n=m+1:=⟨n - 1,by simp at hn;omega⟩
  have hi:=h i (by simp)
  obtain⟨f,hf⟩:=Int.eq_ofNat_of_zero_le (show 0≤facI ts i by omega)
  have h1:a * f * 20 ^ m≤a * 20 ^ (m+1):=by
   rw[Nat.pow_succ,Nat.mul_comm (20 ^ m) 20,← Nat.mul_assoc]
   exact Nat.mul_le_mul_right _ (Nat.mul_le_mul_left _ (by omega))
  have h2:a * f≤20 ^ 14:=Nat.le_trans (Nat.le_mul_of_pos_right _ (Nat.pow_pos (by omega))) (Nat.le_trans h1 ha)
  have e:ccS ts (a:Int) i=((a * f:Nat):Int):=by
   show wrap64 ((a:Int) * facI ts i)=_
   rw[hf,← Int.natCast_mul]
   have h14:(20:Nat) ^ 14≤9223372036854775807:=by decide
   exact Za8 (by omega) (by omega)
  rw[List.foldl_cons,e,ih (a * f) m (fun x hx=>h x (by simp[hx])) (by simp at hn;omega) (Nat.le_trans h1 ha),Zct,hf,Int.toNat_natCast,Nat.mul_assoc]
theorem prodF_pos (ts:List PTie):∀(L:List Int),(∀x∈L,1≤facI ts x∧facI ts x≤20)→1≤Zct ts L∧Zct ts L≤20 ^ L.length:=by
 intro L
 induction L with
 | nil=>intro _;simp[Zct]
 | cons i L ih=>
  intro h
  have h1:=ih (fun x hx=>h x (by simp[hx]))
  have hi:=h i (by simp)
  have h2:=Nat.mul_le_mul (show 1≤(facI ts i).toNat by omega) h1.1
  have h3:=Nat.mul_le_mul (show(facI ts i).toNat≤20 by omega) h1.2
  rw[Zct,List.length_cons,Nat.pow_succ,Nat.mul_comm (20 ^ _) 20]
  exact⟨by omega,h3⟩
theorem prodF_two (ts:List PTie):∀(L:List Int),(∀x∈L,1≤facI ts x∧facI ts x≤20)→Zct ts L ∣ 2 ^ 60→Zct ts L≤16 ^ L.length:=by
 intro L
 induction L with
 | nil=>intro _ _;simp[Zct]
 | cons i L ih=>
  intro h hd
  rw[Zct] at hd ⊢
  have h1:=ih (fun x hx=>h x (by simp[hx])) (Nat.dvd_trans (Nat.dvd_mul_left _ _) hd)
  have hi:=h i (by simp)
  have h2:=Nat.dvd_trans (Nat.dvd_mul_right _ _) hd
  have h3:(facI ts i).toNat≤16:=by
   have hb:(facI ts i).toNat≤20:=by omega
   generalize (facI ts i).toNat=f at h2 hb
   have c17:¬(17 ∣ 2 ^ 60):=by decide
   have c18:¬(18 ∣ 2 ^ 60):=by decide
   have c19:¬(19 ∣ 2 ^ 60):=by decide
   have c20:¬(20 ∣ 2 ^ 60):=by decide
   apply Classical.byContradiction
   intro hc
   have:f=17∨f=18∨f=19∨f=20:=by omega
   rcases this with rfl|rfl|rfl|rfl
   ·exact c17 h2
   ·exact c18 h2
   ·exact c19 h2
   ·exact c20 h2
  rw[List.length_cons,Nat.pow_succ,Nat.mul_comm (16 ^ _) 16]
  exact Nat.mul_le_mul h3 h1
theorem areTiesB_len {ns:List ZI} {ts:List PTie} (h:ZaT ns ts=true):ts.length≤14:=by
 unfold ZaT at h
 simp only[Bool.and_eq_true,decide_eq_true_eq] at h
 exact h.2
theorem ccW_small (ns:List ZI) (p:Int) {x:Int} (h0:0<x) (h:x≤4611686018427387903):ccW ns p x=x∨ccW ns p x=x * 2:=by
 unfold ccW ccQ
 split
 ·exact .inr (Za8 (by omega) (by omega))
 ·exact .inl rfl
theorem wrap_ne {y:Int} (h0:0≤y) (h:y<18446744073709551616) (hn:y≠9223372036854775808) : -9223372036854775808<wrap64 y∧wrap64 y≤9223372036854775807:=by
 unfold wrap64
 omega
theorem Zdt (ns:List ZI) (ts:List PTie) (z:Int) : -9223372036854775808<ZaZ ns ts z∧ZaZ ns ts z≤9223372036854775807:=by
 unfold ZaZ
 by_cases hs:Zaq ns ts z=true
 ·rw[if_pos hs]
  have ht:=Zcj hs
  have hL:∀x∈ZaA ts,1≤facI ts x∧facI ts x≤20:=fun x hx=>free_fac ht hx
  have hn:(ZaA ts).length≤14:=Nat.le_trans (Zc6 ts) (areTiesB_len ht)
  have e:=prodF_run ts (ZaA ts) 1 14 hL hn (by decide)
  rw[Nat.one_mul] at e
  rw[show((1:Nat):Int)=1 from rfl] at e
  rw[e]
  have hp:=prodF_pos ts _ hL
  have h20:Zct ts (ZaA ts)≤1638400000000000000:=Nat.le_trans hp.2 (Nat.le_trans (Nat.pow_le_pow_right (by omega) hn) (by decide))
  have h60:Zct ts (ZaA ts)≠1152921504606846976:=by
   intro hc
   have:=prodF_two ts _ hL (by rw[hc];decide)
   have h2:=Nat.le_trans this (Nat.pow_le_pow_right (by omega) hn)
   rw[hc] at h2
   exact absurd h2 (by decide)
  have hp1:=hp.1
  generalize Zct ts (ZaA ts)=P at hp1 h20 h60
  obtain⟨x1,e1,d1⟩:∃x,ccW ns 1 (P:Int)=x∧(x=(P:Int)∨x=(P:Int) * 2):=⟨_,rfl,ccW_small ns 1 (by omega) (by omega)⟩
  rw[e1]
  obtain⟨x2,e2,d2⟩:∃x,ccW ns 2 x1=x∧(x=x1∨x=x1 * 2):=⟨_,rfl,ccW_small ns 2 (by omega) (by omega)⟩
  rw[e2]
  clear e e1 e2
  unfold ccW ccQ
  split
  ·obtain⟨y,hy⟩:∃y,x2 * 2=y:=⟨_,rfl⟩
   have hy2:y=(P:Int) * 2∨y=(P:Int) * 4∨y=(P:Int) * 8:=by omega
   rw[hy]
   exact wrap_ne (by omega) (by omega) (by omega)
  ·omega
 ·rw[if_neg hs];omega
theorem atQ_len (q:Int) (s:Int×List Int):(atQ q s).2.length=s.2.length+1:=by
 unfold atQ
 split <;> simp
theorem ZfB (q:Int→Int):∀(d p:Nat) (s:Int×List Int),(ZbE q d p s).2.length=s.2.length+d
 | 0,_,_=>rfl
 | d+1,p,s=>by rw[ZbE,ZfB q d,atQ_len];omega
theorem atS_len (ts:List PTie):∀(L:List Int) (s:Int×List Int),(L.foldl (atS ts) s).2.length=s.2.length+L.length
 | [],s=>by simp
 | i :: L,s=>by rw[List.foldl_cons,atS_len ts L];simp[atS];omega
theorem okF_free {ns:List ZI} {ts:List PTie} (ha:ZaT ns ts=true) (ht:ts.length≤1048576):okF ts (ZaA ts)=true:=by
 unfold okF
 rw[Ze (Nat.le_trans (Zc6 ts) ht),Bool.true_and,List.all_eq_true]
 intro x hx
 have h1:=Zds hx
 have h2:=(free_fac ha hx).1
 rw[Ze h1.1,Ze h1.2,beq_eq_false_iff_ne.2 (show facI ts x≠0 by omega)];rfl
def Zbc (ns:List ZI) (ts:List PTie) (z n:Int):List Int×List Int×Bool:=if 0≤n∧n<ZaZ ns ts z then((Zdj ts (Za2 ns) (ZaA ts) n).1,(Zdj ts (Za2 ns) (ZaA ts) n).2,true) else([],[],false)
theorem Zer (ns:List ZI) (ts:List PTie) (z n:Int):(Zbc ns ts z n).1.length≤ts.length∧(Zbc ns ts z n).2.1.length≤3:=by
 unfold Zbc
 split
 ·have:=atS_len ts (ZaA ts) (n,[])
  have h2:=Zc6 ts
  simp only[Zdj,ZfB]
  simp only[List.length_nil] at this ⊢
  omega
 ·simp
theorem Zfz {ns:List ZI} {ts:List PTie} {z n:Int} (h0:0≤n) (h:n<ZaZ ns ts z):ZaT ns ts=true:=by
 unfold ZaZ at h
 split at h
 ·rename_i hs;exact Zcj hs
 ·omega
theorem Zfl {ns:List ZI} {ts:List PTie} {z:Int} (n:Int) (hc:Zba ns ts) (k:Nat) (hk:2 ^ 66≤k):ZbX.f k ns ts z n=some (Zbc ns ts z n):=by
 unfold ZbX.f Zbc
 have hl:ns.length≤9223372036854775807:=by have:=hc.1;omega
 have hne:=Zdt ns ts z
 rw[Zb9 (z:=z) (Zc0 hc) hl hc.2.1 k (by omega),Zi]
 have e:inR n 0 (wrap64 (ZaZ ns ts z - 1))=decide (0≤n∧n<ZaZ ns ts z):=by
  rw[Za8 (by omega) (by omega)]
  unfold inR
  rw[Bool.eq_iff_iff]
  simp
  omega
 rw[e]
 by_cases h:0≤n∧n<ZaZ ns ts z
 ·have ht:=Zfz h.1 h.2
  rw[Ze h,if_pos rfl,if_pos h,Zd1 ns ts z hc.2.1 k (by omega),Zi,if_pos (okF_free ht hc.2.1)]
  obtain⟨q,h1,h2,_⟩:=wq_of (wq_spec ns ts z hl k (by omega))
  rw[h1,Zi]
  unfold Zdj
  rw[h2]
 ·rw[Zf h,if_neg (by simp),if_neg h]
end Go.Proofs.YtoeimopgoaffcaaGreatDoor.Pr
namespace Go.Proofs.YtoeimopgoaffcaaGreatDoor.Pr
open Go.RowKit Go.Proofs.YtoeimopgoaffcaaGreatDoorW.PrintWords Go.Proofs.YtoeimopgoaffcaaGreatDoor.Ni
def mastAt (ns:List ZI) (ts:List PTie) (z n:Int):Bool:=mastB ns ts z (Zbc ns ts z n).1 (Zbc ns ts z n).2.1
def Zdl (ns:List ZI) (ts:List PTie) (z:Int):Nat→Nat→Int
 | 0,_=>-1
 | d+1,n=>if mastAt ns ts z (n:Int)=true then Zdl ns ts z d (n+1) else(n:Int)
def weakB (ns:List ZI) (ts:List PTie) (z:Int):Int:=Zdl ns ts z (ZaZ ns ts z).toNat 0
theorem choiceAt_f {ns:List ZI} {ts:List PTie} {z n:Int} (hc:Zba ns ts) (h0:0≤n) (h1:n<ZaZ ns ts z) (k:Nat) (hk:2 ^ 66≤k):ZbY.f k ns ts z n=some ((Zbc ns ts z n).1,(Zbc ns ts z n).2.1):=by
 have ht:=Zfz h0 h1
 unfold ZbY.f Zbc
 obtain⟨q,e1,e2,_⟩:=wq_of (wq_impl ns ts z)
 rw[if_pos ⟨h0,h1⟩,ZdF ns ts z hc.2.1 k (by omega),Zi,if_pos (okF_free ht hc.2.1),e1,Zi]
 unfold Zdj
 rw[e2]
theorem impl_wk {ns:List ZI} {ts:List PTie} {z:Int} (hc:Zba ns ts):∀(d n k:Nat),(n:Int)+d=ZaZ ns ts z→2 ^ 67+d<k→Z7.l0 k (n:Int) (ZaZ ns ts z) ns ts z=some (Zdl ns ts z d n)
 | 0,n,k,hn,hk=>by
  obtain⟨m,rfl⟩:∃m,k=m+1:=⟨k - 1,by omega⟩
  simp only[Z7.l0,Zdl]
  rw[if_neg (by omega)]
 | d+1,n,k,hn,hk=>by
  obtain⟨m,rfl⟩:∃m,k=m+1:=⟨k - 1,by omega⟩
  have hne:=Zdt ns ts z
  simp only[Z7.l0,Zdl]
  rw[if_pos (by omega),choiceAt_f hc (by omega) (by omega) m (by omega),Zi,Zfd hc (show(Zbc ns ts z (n:Int)).2.1.length≤1048576 from by have:=(Zer ns ts z (n:Int)).2;omega) m (by omega),Zi,show mastB ns ts z (Zbc ns ts z (n:Int)).1 (Zbc ns ts z (n:Int)).2.1=mastAt ns ts z (n:Int) from rfl]
  by_cases h:mastAt ns ts z (n:Int)=true
  ·rw[if_pos h,if_pos h,show wrap64 ((n:Int)+1)=((n+1:Nat):Int) by rw[Za8 (by omega) (by omega)];omega]
   exact impl_wk hc d (n+1) m (by omega) (by omega)
  ·rw[if_neg h,if_neg h]
theorem spec_wk {ns:List ZI} {ts:List PTie} {z:Int} (hc:Zba ns ts):∀(d n k:Nat),(n:Int)+d=ZaZ ns ts z→2 ^ 67+d<k→Z9.l0 k (n:Int) ns ts z=some (Zdl ns ts z d n)
 | 0,n,k,hn,hk=>by
  obtain⟨m,rfl⟩:∃m,k=m+1:=⟨k - 1,by omega⟩
  have hl:ns.length≤9223372036854775807:=by have:=hc.1;omega
  simp only[Z9.l0,Zdl]
  rw[Zb9 (z:=z) (Zc0 hc) hl hc.2.1 m (by omega),Zi,if_neg (by omega)]
 | d+1,n,k,hn,hk=>by
  obtain⟨m,rfl⟩:∃m,k=m+1:=⟨k - 1,by omega⟩
  have hl:ns.length≤9223372036854775807:=by have:=hc.1;omega
  have hne:=Zdt ns ts z
  simp only[Z9.l0,Zdl]
  rw[Zb9 (z:=z) (Zc0 hc) hl hc.2.1 m (by omega),Zi,if_pos (by omega),Zfl (z:=z) (n:Int) hc m (by omega),Zi,Zfb hc (by have:=(Zer ns ts z (n:Int)).2;omega) m (by omega),Zi,show mastB ns ts z (Zbc ns ts z (n:Int)).1 (Zbc ns ts z (n:Int)).2.1=mastAt ns ts z (n:Int) from rfl]
  by_cases h:mastAt ns ts z (n:Int)=true
  ·rw[if_pos h,if_pos h,show wrap64 ((n:Int)+1)=((n+1:Nat):Int) by rw[Za8 (by omega) (by omega)];omega]
   exact spec_wk hc d (n+1) m (by omega) (by omega)
  ·rw[if_neg h,if_neg h]
theorem count_pos (ns:List ZI) (ts:List PTie) (z:Int) (h:ZaZ ns ts z<0):Zaq ns ts z=true:=by
 unfold ZaZ at h
 split at h
 ·assumption
 ·omega
theorem impl_wk_neg {ns:List ZI} {ts:List PTie} {z:Int} (h:ZaZ ns ts z<0) (k:Nat):Z7.l0 (k+1) 0 (ZaZ ns ts z) ns ts z=some (-1):=by
 simp only[Z7.l0]
 rw[if_neg (by omega)]
theorem ZcL {ns:List ZI} {ts:List PTie} {z:Int} (hc:Zba ns ts) (k:Nat) (hk:2 ^ 68≤k):Z7.f k ns ts z=some (weakB ns ts z):=by
 have hne:=Zdt ns ts z
 unfold Z7.f weakB
 rw[Zey (z:=z) (Zc0 hc) hc.2.1 k (by omega),Zi]
 by_cases h:ZaZ ns ts z<0
 ·obtain⟨m,rfl⟩:∃m,k=m+1:=⟨k - 1,by omega⟩
  rw[impl_wk_neg h,show(ZaZ ns ts z).toNat=0 by omega];rfl
 ·exact impl_wk hc (ZaZ ns ts z).toNat 0 k (by omega) (by omega)
theorem Zdo {ns:List ZI} {ts:List PTie} {z:Int} (hc:Zba ns ts) (k:Nat) (hk:2 ^ 68≤k):Z9.f k ns ts z=some (weakB ns ts z):=by
 have hne:=Zdt ns ts z
 have hl:ns.length≤9223372036854775807:=by have:=hc.1;omega
 unfold Z9.f weakB
 by_cases h:ZaZ ns ts z<0
 ·obtain⟨m,rfl⟩:∃m,k=m+1:=⟨k - 1,by omega⟩
  simp only[Z9.l0]
  rw[Zb9 (z:=z) (Zc0 hc) hl hc.2.1 m (by omega),Zi,if_neg (by omega),show(ZaZ ns ts z).toNat=0 by omega];rfl
 ·exact spec_wk hc (ZaZ ns ts z).toNat 0 k (by omega) (by omega)
end Go.Proofs.YtoeimopgoaffcaaGreatDoor.Pr
