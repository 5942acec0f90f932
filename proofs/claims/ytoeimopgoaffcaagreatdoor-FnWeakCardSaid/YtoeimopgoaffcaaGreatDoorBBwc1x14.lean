/- By a program of this session. -/
import Derived.Test.YtoeimopgoaffcaaGreatDoorBBwc1x11
import Derived.Test.YtoeimopgoaffcaaGreatDoorBBwc1x13
set_option maxHeartbeats 8000000
set_option maxRecDepth 100000
namespace Go.Proofs.YtoeimopgoaffcaaGreatDoor.Pr
open RowKit YtoeimopgoaffcaaGreatDoorW.PrintWords YtoeimopgoaffcaaGreatDoorW.PrintLast YtoeimopgoaffcaaGreatDoorW.PrintMore
attribute [local go_sem] Zak Zai Zax Zaw Zac Zab Zaj Zah
set_option linter.unusedVariables false
set_option linter.unusedSimpArgs false
open Ni
def Zbx.f (k:Nat) (l0 l1:List Int):Option Bool:=(Z8.f k l0).bind fun a=>if a=true then(Z8.f k l1).bind fun b=>if b=true then some (l1.all fun x=>l0.any fun y=>decide (x=y)) else some false else some false
theorem ZeG.clo (B:Nat) (A0:Option Addr) (c0:Nat) (l0:List Int) (x:Int) (W:World) (hB:W.cell? ⟨B,0,none⟩=some (.slice A0 l0.length c0)) (hr0:Kd.C (Kd.int .i64) W A0 l0.length l0) (hc0:l0.length≤c0) :
  Calls Tryz.prog 196 #[.int .i64 x,.pointer (some ⟨B,0,none⟩)] W fun e w'=>e=.returned (.bool (!(l0.any fun y=>decide (x=y))))∧Below W.heap.size W w':=by
 have HC:=Za ((ZaF.hand A0 c0 l0 x W hr0 hc0))
 clear hr0 hc0
 go_enter Tryz.func196,Tryz.ntmps196
 go_wp2_with (go_at_call 151;refine HC.out.mono ?_;rintro e w' ⟨rfl,hb⟩)
 go_ret
 exact⟨rfl,hb⟩
theorem Zbx.calls (k:Nat) (A0:Option Addr) (c0:Nat) (l0:List Int) (A1:Option Addr) (c1:Nat) (l1:List Int) (r:Bool) (w:World) (hr0:Kd.C (Kd.int .i64) w A0 l0.length l0) (hc0:l0.length≤c0) (hr1:Kd.C (Kd.int .i64) w A1 l1.length l1) (hc1:l1.length≤c1) (h:Zbx.f k l0 l1=some r) :
  Calls Tryz.prog 152 #[.slice A0 l0.length c0,.slice A1 l1.length c1] w fun e w'=>e=.returned (.bool r)∧Below w.heap.size w w':=by
 unfold Zbx.f at h
 obtain⟨a,ha,h⟩:=Option.bind_eq_some_iff.1 h
 have LA:=Za fun (W:World) (hb:Below w.heap.size w W)=>(Z8.calls k A0 c0 l0 a W (Zb hr0 hb) hc0 ha).mono fun e w' ⟨he,hd⟩=>(⟨he,by first|exact hd|exact hd.below⟩:e=Ending.returned (.bool a)∧Below W.heap.size W w')
 have B0:=Za ((Below.refl w.heap.size w).alloc (Nat.le_refl _) (.cells #[.slice A0 l0.length c0] 37))
 cases a with
 | false=>
  rw[if_neg (by decide)] at h
  obtain rfl:=Zg h
  clear hr0 hr1 ha h hc0 hc1
  go_enter Tryz.func152,Tryz.ntmps152
  go_wp2_with fail
  refine(LA.out _ B0.out).mono ?_
  rintro e w1 ⟨rfl,hb1⟩
  have B1:=Za (B0.out.trans (hb1.mono B0.out.size))
  clear hb1
  go_wp2
  go_ret
  exact⟨rfl,B1.out⟩
 | true=>
  rw[if_pos rfl] at h
  obtain⟨b,hb_,h⟩:=Option.bind_eq_some_iff.1 h
  have LB:=Za fun (W:World) (hb:Below w.heap.size w W)=>(Z8.calls k A1 c1 l1 b W (Zb hr1 hb) hc1 hb_).mono fun e w' ⟨he,hd⟩=>(⟨he,by first|exact hd|exact hd.below⟩:e=Ending.returned (.bool b)∧Below W.heap.size W w')
  cases b with
  | false=>
   rw[if_neg (by decide)] at h
   obtain rfl:=Zg h
   clear hr0 hr1 ha h hc0 hc1 hb_
   go_enter Tryz.func152,Tryz.ntmps152
   go_wp2_with fail
   refine(LA.out _ B0.out).mono ?_
   rintro e w1 ⟨rfl,hb1⟩
   have B1:=Za (B0.out.trans (hb1.mono B0.out.size))
   clear hb1
   go_wp2_with fail
   refine(LB.out _ B1.out).mono ?_
   rintro e w2 ⟨rfl,hb2⟩
   have B2:=Za (B1.out.trans (hb2.mono B1.out.size))
   clear hb2
   go_wp2
   go_ret
   exact⟨rfl,B2.out⟩
  | true=>
   rw[if_pos rfl] at h
   obtain rfl:=Zg h
   have HC:=Za fun (W:World) (hb:Below w.heap.size w W) (hcell:W.cell? ⟨w.heap.size,0,none⟩=some (.slice A0 l0.length c0))=>Zb2.any (fun x=>!(l0.any fun y=>decide (x=y))) 196 #[.pointer (some ⟨w.heap.size,0,none⟩)] (enters_of Tryz.func196 (by kernel_rfl) rfl) A1 c1 l1 W (Zb hr1 hb)
    (fun W' x _ hb'=>ZeG.clo w.heap.size A0 c0 l0 x W' ((hb'.cell (Zc W _ hcell)).trans hcell) (Zb hr0 (hb.trans (hb'.mono hb.size))) hc0)
   have HV:=Za (show(!(l1.any fun x=>!(l0.any fun y=>decide (x=y))))=l1.all fun x=>l0.any fun y=>decide (x=y) by rw[List.not_any_eq_all_not];simp)
   have C0:=Za (show(w.alloc (.cells #[.slice A0 l0.length c0] 37)).cell? ⟨w.heap.size,0,none⟩=some (.slice A0 l0.length c0) by go_simp)
   clear hr0 hr1 ha h hc0 hc1 hb_
   go_enter Tryz.func152,Tryz.ntmps152
   go_wp2_with fail
   refine(LA.out _ B0.out).mono ?_
   rintro e w1 ⟨rfl,hb1⟩
   have B1:=Za (B0.out.trans (hb1.mono B0.out.size))
   have C1:=Za ((hb1.cell (Zc _ _ C0.out)).trans C0.out)
   clear hb1
   go_wp2_with fail
   refine(LB.out _ B1.out).mono ?_
   rintro e w2 ⟨rfl,hb2⟩
   have B2:=Za (B1.out.trans (hb2.mono B1.out.size))
   have C2:=Za ((hb2.cell (Zc _ _ C1.out)).trans C1.out)
   clear hb2
   go_wp2_with fail
   refine(HC.out _ B2.out C2.out).mono ?_
   rintro e w3 ⟨rfl,hb3⟩
   go_wp2
   go_ret
   exact⟨by rw[← HV.out];rfl,B2.out.trans (hb3.mono B2.out.size)⟩
theorem Zeq (l:List Int) (x:Int) (hl:l.length≤9223372036854775807) (k:Nat) (hk:2 ^ 64≤k):ZaO.f k l x=some (l.any fun y=>decide (x=y)):=by
 have key:=Zb7 l.length (fun k i=>ZaO.l0 k x l l.length (i:Int)=some ((l.drop i).any fun y=>decide (x=y))) 0
  (fun k _=>by simp[ZaO.l0])
  (fun k i _ hi ih=>by
   simp only[ZaO.l0]
   rw[if_pos (by omega),if_pos (by omega),if_pos (by omega),ZaW,ZO hi (by omega),Zal hi 0,List.any_cons]
   by_cases h:l.getD i 0=x
   ·rw[if_pos h,Ze h.symm];rfl
   ·rw[if_neg h,ih,Zf (fun e=>h e.symm)];rfl) 0 k (Nat.zero_le _) (by omega)
 unfold ZaO.f
 simpa using key
def impB (a b:List Int):Bool:=labB a && labB b && b.all fun x=>a.any fun y=>decide (x=y)
theorem ZeC (a b:List Int) (ha:a.length≤9223372036854775807) (hb:b.length≤9223372036854775807) (k:Nat) (hk:2 ^ 65≤k):ZW.f k a b=some (impB a b):=by
 have key:∀k,2 ^ 64+b.length<k→ZW.l0 k a b b.length 0=some (b.all fun x=>a.any fun y=>decide (x=y)):=by
  intro k hk
  have:=Zb7 b.length (fun k i=>ZW.l0 k a b b.length (i:Int)=some ((b.drop i).all fun x=>a.any fun y=>decide (x=y))) (2 ^ 64)
   (fun k _=>by simp[ZW.l0])
   (fun k i hk hi ih=>by
    simp only[ZW.l0]
    rw[if_pos (by omega),if_pos (by omega),if_pos (by omega),ZaW,ZO hi (by omega),Zal hi 0,List.all_cons,Zeq a _ ha k hk,Zi]
    cases h:a.any fun y=>decide (b.getD i 0=y)
    ·rfl
    ·rw[if_pos rfl,ih];rfl) 0 k (Nat.zero_le _) (by omega)
  simpa using this
 unfold ZW.f impB
 obtain⟨m,rfl⟩:∃m,k=m+1:=⟨k - 1,by omega⟩
 rw[Zdo a ha _ (by omega),Zi,Zdo b hb _ (by omega)]
 cases labB a
 ·rfl
 ·rw[if_pos rfl,Zi]
  cases labB b
  ·rfl
  ·simp only[ZW.j0,Bool.not_true,Bool.false_eq_true,if_false]
   rw[key m (by omega)];rfl
theorem ZeF (a b:List Int) (ha:a.length≤9223372036854775807) (hb:b.length≤9223372036854775807) (k:Nat) (hk:2 ^ 64≤k):Zbx.f k a b=some (impB a b):=by
 unfold Zbx.f impB
 rw[Zc7 a ha k hk,Zi,Zc7 b hb k hk]
 cases labB a
 ·rfl
 ·rw[if_pos rfl,Zi]
  cases labB b <;> rfl
def ZbY.f (k:Nat) (l0_0:List (S39)) (l0_1:List (S82)) (a0_2:Int) (l1:List Int) (a2:Int):Option Bool:=(ZaP.f a2).bind fun p=>((Za4.f l0_0 l0_1 a0_2 p).bind fun q=>(if q<0 then(some false) else(if 0≤q then(if q<(l0_0.length:Int) then((ZaF.f ((ZJ l0_0 q).f1) a2).bind fun s=>(if s=true then(some false) else((ZaF.f ((ZJ l0_0 q).f1) (wrap64 (-a2))).bind fun t=>(if t=true then(some false) else((Zbx.f k l1 ((ZJ l0_0 q).f1)).bind fun u=>(some u)))))) else(none)) else(none))))
theorem ZbY.calls (k:Nat) (A0_0:Option Addr) (c0_0:Nat) (l0_0:List (S39)) (A0_1:Option Addr) (c0_1:Nat) (l0_1:List (S82)) (a0_2:Int) (A1:Option Addr) (c1:Nat) (l1:List Int) (a2:Int) (r:Bool) (w:World) (hr0_0:Kd.C k39 w A0_0 l0_0.length l0_0) (hc0_0:l0_0.length≤c0_0) (hr0_1:Kd.C k82 w A0_1 l0_1.length l0_1) (hc0_1:l0_1.length≤c0_1) (hr1:Kd.C (Kd.int .i64) w A1 l1.length l1) (hc1:l1.length≤c1) (h:ZbY.f k l0_0 l0_1 a0_2 l1 a2=some r) :
  Calls Tryz.prog 81 #[.agg #[.slice A0_0 l0_0.length c0_0,.slice A0_1 l0_1.length c0_1,.int .i64 a0_2],.slice A1 l1.length c1,.int .i64 a2] w fun e w'=>e=.returned (.bool r)∧Below w.heap.size w w':=by
 unfold ZbY.f at h
 obtain⟨p,hp,h⟩:=Option.bind_eq_some_iff.1 h
 obtain⟨q,hq,h⟩:=Option.bind_eq_some_iff.1 h
 have HP:=Za fun (W:World)=>ZaP.calls a2 p W hp
 have HW:=Za fun (W:World) (hb:Below w.heap.size w W)=>Za4.calls A0_0 c0_0 l0_0 A0_1 c0_1 l0_1 a0_2 p q W (Zb hr0_0 hb) hc0_0 (Zb hr0_1 hb) hc0_1 hq
 have HR0:=Za hr0_0;have HR1:=Za hr1;have HC1:=Za hc1;have HH:=Za h
 have hu:=Tryz.underlying25
 have hu2:=Tryz.underlying39
 clear hr0_0 hc0_0 hr0_1 hc0_1 hr1 hc1 hp hq h
 go_enter Tryz.func81,Tryz.ntmps81
 go_wp2
 go_region_held3 (fun w'=>Below w.heap.size w w'∧w'.cell? ⟨w.heap.size,0,none⟩=some (.slice A0_0 l0_0.length c0_0)∧w'.cell? ⟨w.heap.size,1,none⟩=some (.slice A0_1 l0_1.length c0_1)∧w'.cell? ⟨w.heap.size,2,none⟩=some (.int .i64 a0_2))
  (first|(refine⟨by repeat(first|(with_reducible first|exact Below.refl _ _|apply Zo|apply Zn|apply Zp|assumption)|exact Below.refl _ _),?_⟩;go_simp;done)|(refine⟨Zr (by repeat(first|(with_reducible first|exact Below.refl _ _|apply Zo|apply Zn|apply Zp|assumption)|exact Below.refl _ _)) hb,Zx hb ?_,Zx hb ?_,Zx hb ?_⟩ <;> (go_simp;done)))
  (first|(go_at_call 144;refine(HP.out _).mono ?_;rintro e w' ⟨rfl,hb⟩;have hbw:Below w.heap.size w _:=Zr (by repeat(first|(with_reducible first|exact Below.refl _ _|apply Zo|apply Zn|apply Zp|assumption)|exact Below.refl _ _)) hb)|(go_at_call 88;(refine(HW.out _ ?s1).mono ?_);(case s1=>exact(by repeat(first|(with_reducible first|exact Below.refl _ _|apply Zo|apply Zn|apply Zp|assumption)|exact Below.refl _ _)));rintro e w' ⟨rfl,hb⟩))
 rename_i hHeld
 obtain⟨hbA,k0,k1,k2⟩:=hHeld
 have HA:=Za hbA
 have hk0:=Zc _ _ k0
 clear hbA HP HW
 cases d1:decide (q<0) with
 | true=>
  have HE:=Za (show false=r from Zg ((if_pos (Zd d1)).symm.trans HH.out))
  go_wp2
  go_ret
  exact⟨by rw[← HE.out];rfl,HA.out⟩
 | false=>
 have h:=HH.out
 rw[if_neg (of_decide_eq_false d1)] at h
 split at h
 case isFalse=>exact absurd h (by simp)
 rename_i h0
 split at h
 case isFalse=>exact absurd h (by simp)
 rename_i h1
 obtain⟨ad,A3,c3,e3,hx0,hx1,hx2,l3,g3⟩:=ZaX (Zb HR0.out HA.out) q h0 h1
 cases e3
 have hlta:=Zc _ _ hx1
 revert hx1 l3 g3 h
 generalize (ZJ l0_0 q).f1=lb
 intro h hx1 l3 g3
 have p0:=eq_true h0
 have p1:=eq_true h1
 obtain⟨s,hs,h⟩:=Option.bind_eq_some_iff.1 h
 have HS:=Za fun (W:World) (g:Kd.C (Kd.int .i64) W A3 lb.length lb)=>ZaF.calls A3 c3 lb a2 s W g l3 hs
 have G3:=Za g3;have L3:=Za l3;clear hx0 hx2 h0 h1 hs HH g3 l3
 cases s with
 | true=>
  have HE:=Za (show false=r from Zg ((if_pos rfl).symm.trans h))
  clear h
  go_wp2_with (go_at_call 151;refine(HS.out _ G3.out).mono ?_;rintro e w5 ⟨rfl,hb⟩)
  go_ret
  exact⟨by rw[← HE.out];rfl,HA.out.trans (hb.mono HA.out.size)⟩
 | false=>
 rw[if_neg (by simp)] at h
 obtain⟨t,ht,h⟩:=Option.bind_eq_some_iff.1 h
 have HT:=Za fun (W:World) (g:Kd.C (Kd.int .i64) W A3 lb.length lb)=>ZaF.calls A3 c3 lb (wrap64 (-a2)) t W g L3.out ht
 clear ht
 cases t with
 | true=>
  have HE:=Za (show false=r from Zg ((if_pos rfl).symm.trans h))
  clear h
  go_wp2_with (first|(go_at_call 151;with_reducible refine(HS.out _ G3.out).mono ?_;rintro e w5 ⟨rfl,hb⟩;have HB5:=Za (HA.out.trans (hb.mono HA.out.size));have G5:=Za (Zb G3.out hb);clear hb)|(go_at_call 151;with_reducible refine(HT.out _ G5.out).mono ?_;rintro e w6 ⟨rfl,hb⟩;have HB6:=Za (HB5.out.trans (hb.mono HB5.out.size));clear hb))
  go_ret
  exact⟨by rw[← HE.out];rfl,HB6.out⟩
 | false=>
 rw[if_neg (by simp)] at h
 obtain⟨u,hu_,h⟩:=Option.bind_eq_some_iff.1 h
 obtain rfl:=Zg h
 have HI:=Za fun (W:World) (g:Kd.C (Kd.int .i64) W A1 l1.length l1) (g2:Kd.C (Kd.int .i64) W A3 lb.length lb)=>Zbx.calls k A1 c1 l1 A3 c3 lb u W g HC1.out g2 L3.out hu_
 clear hu_ h
 go_wp2_with (first|(go_at_call 151;with_reducible refine(HS.out _ G3.out).mono ?_;rintro e w5 ⟨rfl,hb⟩;have HB5:=Za (HA.out.trans (hb.mono HA.out.size));have G5:=Za (Zb G3.out hb);clear hb)|(go_at_call 151;with_reducible refine(HT.out _ G5.out).mono ?_;rintro e w6 ⟨rfl,hb⟩;have HB6:=Za (HB5.out.trans (hb.mono HB5.out.size));have G6:=Za (Zb G5.out hb);clear hb)|(go_at_call 152;refine(HI.out _ (Zb HR1.out HB6.out) G6.out).mono ?_;rintro e w7 ⟨rfl,hb⟩;have HB7:=Za (HB6.out.trans (hb.mono HB6.out.size));clear hb))
 go_ret
 exact⟨rfl,HB7.out⟩
def Zfh (ns:List ZK) (lb:List Int) (x w:Int):Bool:=
 decide (0≤w) && !((ZJ ns w).f1.any fun y=>decide (x=y)) && !((ZJ ns w).f1.any fun y=>decide (-x=y)) && impB lb (ZJ ns w).f1
def ZcF (ns:List ZK) (lb:List Int) (x:Int):Bool:=Zfh ns lb x (Zas ns (prp x))
theorem isWatched_f (ns:List ZK) (ts:List PTie) (z:Int) (lb:List Int) (x:Int) (hb:∀n∈ns,n.f1.length≤9223372036854775807) (hl:lb.length≤9223372036854775807) (hx:ZbH x=true) (k:Nat) (hk:2 ^ 64≤k) :
  ZbY.f k ns ts z lb x=some (ZcF ns lb x):=by
 have hx3:=(Zb4 x).1 hx
 have hbd:=Zet (fun n:ZK=>decide (0<prp x) && decide (n.f2=prp x)) ns
 unfold ZbY.f
 rw[ZdT hx,Zi]
 unfold Za4.f ZcF Zfh
 rw[Zi]
 have hbd' : -1≤Zas ns (prp x)∧Zas ns (prp x)<ns.length:=hbd
 generalize Zas ns (prp x)=w at hbd' ⊢
 by_cases h:w<0
 ·rw[if_pos h,Zf (show ¬0≤w by omega)];rfl
 ·rw[if_neg h,if_pos (by omega),if_pos (by omega),Ze (show 0≤w by omega)]
  have hm:(ZJ ns w).f1.length≤9223372036854775807:=by
   obtain⟨n,rfl⟩:=Int.eq_ofNat_of_zero_le (show 0≤w by omega)
   rw[show ZJ ns (n:Int)=ns.getD n z39 from Zcm ns n]
   exact hb _ (ZaJ (by omega) _)
  unfold ZaF.f
  rw[Zi,Z9 (i:=-x) (by omega) (by omega),ZeF lb _ hl hm k hk]
  simp only[Zi,Bool.true_and]
  cases (ZJ ns w).f1.any fun y=>decide (x=y)
  ·cases (ZJ ns w).f1.any fun y=>decide (-x=y)
   ·simp
   ·rfl
  ·rfl
def Za3.l0:Nat→List Int→List Int→Int→Int→Option (Bool)
 | 0,_,_,_,_=>none
 | k+1,x1,x12,x13,x14=>if x14<x13 then(if 0≤x14 then(if x14<(x12.length:Int) then(if x14<(x1.length:Int) then(if (rd x12 x14)=(rd x1 x14) then(Za3.l0 k x1 x12 x13 (wrap64 (x14+1))) else(some false)) else(none)) else(none)) else(none)) else(some true)
def Za3.f (k:Nat) (l0:List Int) (l1:List Int):Option (Bool):=if (l0.length:Int)=(l1.length:Int) then(Za3.l0 k l1 l0 (l0.length:Int) 0) else(some false)
theorem Za3.calls (k:Nat) (A0:Option Addr) (c0:Nat) (l0:List Int) (A1:Option Addr) (c1:Nat) (l1:List Int) (r:Bool) (w:World) (hr0:Kd.C (Kd.int .i64) w A0 l0.length l0) (hc0:l0.length≤c0) (hr1:Kd.C (Kd.int .i64) w A1 l1.length l1) (hc1:l1.length≤c1) (h:Za3.f k l0 l1=some r) :
  Calls Tryz.prog 179 #[.slice A0 l0.length c0,.slice A1 l1.length c1] w fun e w'=>e=.returned (.bool r)∧ZH w w':=by
 have HR0:=Za hr0;have HC0:=Za hc0;clear hr0 hc0;have HR1:=Za hr1;have HC1:=Za hc1;clear hr1 hc1
 have H:(if (l0.length:Int)=(l1.length:Int) then(Za3.l0 k l1 l0 (l0.length:Int) 0) else(some false))=some r:=h
 clear h
 by_cases c3:(l0.length:Int)=(l1.length:Int)
 ·rw[if_pos c3] at H
  have c3b0:((l0.length:Int) == (l1.length:Int))=true:=beq_iff_eq.mpr c3
  clear c3
  have H':=Za H
  clear H
  go_enter Tryz.func179,Tryz.ntmps179
  go_wp2
  go_loopg [14] k (fun kq v14 w'=>∃(x14_1:Int),v14=.int .i64 x14_1∧Aside0 (Za3.l0 kq l1 l0 (l0.length:Int) x14_1=some r)∧Aside0 (kq≤k)∧ZH w w')
  case atStart=>exact⟨(0),(by first|rfl|(simp;done)|(simp[*];done)),H',⟨Nat.le_refl _⟩,by repeat(first|exact ZH.refl _|apply ZH.step)⟩
  case round=>
   clear H'
   try clear c1
   try clear p2
   try clear c3
   try clear c3b0
   try clear c3b1
   try clear c3b2
   obtain⟨x14_1,rfl,HA,HK1,⟨m1,rfl⟩⟩:=hrel
   cases gk with
   | zero=>exact absurd HA.out (by simp[Za3.l0])
   | succ k1=>
    have H:=HA.out
    clear HA
    simp only[Za3.l0] at H
    by_cases c4:x14_1<(l0.length:Int)
    ·rw[if_pos c4] at H
     have c4b0:decide (x14_1<(l0.length:Int))=true:=Ze c4
     clear c4
     by_cases c5:0≤x14_1
     ·rw[if_pos c5] at H
      have c5b0:decide (0≤x14_1)=true:=Ze c5
      clear c5
      by_cases c6:x14_1<(l0.length:Int)
      ·rw[if_pos c6] at H
       have c6b0:decide (x14_1<(l0.length:Int))=true:=Ze c6
       clear c6
       by_cases c7:x14_1<(l1.length:Int)
       ·rw[if_pos c7] at H
        have c7b0:decide (x14_1<(l1.length:Int))=true:=Ze c7
        clear c7
        by_cases c8:(rd l0 x14_1)=(rd l1 x14_1)
        ·rw[if_pos c8] at H
         have c8b0:((rd l0 x14_1) == (rd l1 x14_1))=true:=beq_iff_eq.mpr c8
         clear c8
         have H':=Za H
         clear H
         have p1:0≤(x14_1:Int):=Zd (by first|(with_reducible assumption)|assumption)
         have q1:x14_1<(l0.length:Int):=Zd (by first|(with_reducible assumption)|assumption)
         obtain⟨ad1,e1,hx1_0⟩:=Kd.at_int HR0.out x14_1 p1 q1
         cases e1
         replace p1:=eq_true p1
         replace q1:=eq_true q1
         have p179002:0≤(x14_1:Int):=Zd (by first|(with_reducible assumption)|assumption)
         have q2:x14_1<(l1.length:Int):=Zd (by first|(with_reducible assumption)|assumption)
         obtain⟨ad2,e2,hx2_0⟩:=Kd.at_int HR1.out x14_1 p179002 q2
         cases e2
         replace p179002:=eq_true p179002
         replace q2:=eq_true q2
         go_wp2
         go_roundg k1
         case measure=>have:=HK1.out;omega
         case rel=>exact⟨(wrap64 (x14_1+1)),(by first|rfl|(simp;done)|(simp[*];done)),H',⟨by have:=HK1.out;omega⟩,by repeat(first|exact ZH.refl _|apply ZH.step)⟩
        ·rw[if_neg c8] at H
         have c8b0:((rd l0 x14_1) == (rd l1 x14_1))=false:=beq_eq_false_iff_ne.mpr c8
         obtain rfl:=Zg H
         have p1:0≤(x14_1:Int):=Zd (by first|(with_reducible assumption)|assumption)
         have q1:x14_1<(l0.length:Int):=Zd (by first|(with_reducible assumption)|assumption)
         obtain⟨ad1,e1,hx1_0⟩:=Kd.at_int HR0.out x14_1 p1 q1
         cases e1
         replace p1:=eq_true p1
         replace q1:=eq_true q1
         have p179002:0≤(x14_1:Int):=Zd (by first|(with_reducible assumption)|assumption)
         have q2:x14_1<(l1.length:Int):=Zd (by first|(with_reducible assumption)|assumption)
         obtain⟨ad2,e2,hx2_0⟩:=Kd.at_int HR1.out x14_1 p179002 q2
         cases e2
         replace p179002:=eq_true p179002
         replace q2:=eq_true q2
         go_wp2
         go_ret
         exact⟨by first|rfl|(simp;done)|(simp[*];done),by repeat(first|exact ZH.refl _|apply ZH.step)⟩
       ·rw[if_neg c7] at H
        exact absurd H (by simp)
      ·rw[if_neg c6] at H
       exact absurd H (by simp)
     ·rw[if_neg c5] at H
      exact absurd H (by simp)
    ·rw[if_neg c4] at H
     have c4b0:decide (x14_1<(l0.length:Int))=false:=Zf c4
     clear c4
     obtain rfl:=Zg H
     go_wp2
     go_ret
     exact⟨by first|rfl|(simp;done)|(simp[*];done),by repeat(first|exact ZH.refl _|apply ZH.step)⟩
 ·rw[if_neg c3] at H
  have c3b0:((l0.length:Int) == (l1.length:Int))=false:=beq_eq_false_iff_ne.mpr c3
  obtain rfl:=Zg H
  go_enter Tryz.func179,Tryz.ntmps179
  go_wp2
  go_ret
  exact⟨by first|rfl|(simp;done)|(simp[*];done),by repeat(first|exact ZH.refl _|apply ZH.step)⟩
def Zag.l0:Nat→List Int→List Int→Int→Int→Option (Bool)
 | 0,_,_,_,_=>none
 | k+1,x0,x1,x12,x13=>if x13<x12 then(if 0≤x13 then(if x13<(x0.length:Int) then(if x13<(x1.length:Int) then(if (rd x0 x13)=(rd x1 x13) then(Zag.l0 k x0 x1 x12 (wrap64 (x13+1))) else(some false)) else(none)) else(none)) else(none)) else(some true)
def Zag.f (k:Nat) (l0:List Int) (l1:List Int):Option (Bool):=if (l0.length:Int)=(l1.length:Int) then(Zag.l0 k l0 l1 (l0.length:Int) 0) else(some false)
theorem Zag.calls (k:Nat) (A0:Option Addr) (c0:Nat) (l0:List Int) (A1:Option Addr) (c1:Nat) (l1:List Int) (r:Bool) (w:World) (hr0:Kd.C (Kd.int .i64) w A0 l0.length l0) (hc0:l0.length≤c0) (hr1:Kd.C (Kd.int .i64) w A1 l1.length l1) (hc1:l1.length≤c1) (h:Zag.f k l0 l1=some r) :
  Calls Tryz.prog 146 #[.slice A0 l0.length c0,.slice A1 l1.length c1] w fun e w'=>e=.returned (.bool r)∧ZH w w':=by
 have HR0:=Za hr0;have HC0:=Za hc0;clear hr0 hc0;have HR1:=Za hr1;have HC1:=Za hc1;clear hr1 hc1
 have H:(if (l0.length:Int)=(l1.length:Int) then(Zag.l0 k l0 l1 (l0.length:Int) 0) else(some false))=some r:=h
 clear h
 by_cases c3:(l0.length:Int)=(l1.length:Int)
 ·rw[if_pos c3] at H
  have c3b0:((l0.length:Int) == (l1.length:Int))=true:=beq_iff_eq.mpr c3
  clear c3
  have H':=Za H
  clear H
  go_enter Tryz.func146,Tryz.ntmps146
  go_wp2
  repeat(go_quiet (fail);try go_wp2)
  go_loopg [13] k (fun kq v13 w'=>∃(x13_1:Int),v13=.int .i64 x13_1∧Aside0 (Zag.l0 kq l0 l1 (l0.length:Int) x13_1=some r)∧Aside0 (kq≤k)∧ZH w w')
  case atStart=>exact⟨(0),(by first|rfl|(simp;done)|(simp[*];done)),H',⟨Nat.le_refl _⟩,by repeat(first|exact ZH.refl _|apply ZH.step)⟩
  case round=>
   clear H'
   try clear c1
   try clear p2
   try clear c3
   try clear c3b0
   try clear c3b1
   try clear c3b2
   obtain⟨x13_1,rfl,HA,HK1,⟨m1,rfl⟩⟩:=hrel
   cases gk with
   | zero=>exact absurd HA.out (by simp[Zag.l0])
   | succ k1=>
    have H:=HA.out
    clear HA
    simp only[Zag.l0] at H
    by_cases c4:x13_1<(l0.length:Int)
    ·rw[if_pos c4] at H
     have c4b0:decide (x13_1<(l0.length:Int))=true:=Ze c4
     clear c4
     by_cases c5:0≤x13_1
     ·rw[if_pos c5] at H
      have c5b0:decide (0≤x13_1)=true:=Ze c5
      clear c5
      by_cases c6:x13_1<(l0.length:Int)
      ·rw[if_pos c6] at H
       have c6b0:decide (x13_1<(l0.length:Int))=true:=Ze c6
       clear c6
       by_cases c7:x13_1<(l1.length:Int)
       ·rw[if_pos c7] at H
        have c7b0:decide (x13_1<(l1.length:Int))=true:=Ze c7
        clear c7
        by_cases c8:(rd l0 x13_1)=(rd l1 x13_1)
        ·rw[if_pos c8] at H
         have c8b0:((rd l0 x13_1) == (rd l1 x13_1))=true:=beq_iff_eq.mpr c8
         clear c8
         have H':=Za H
         clear H
         have p1:0≤(x13_1:Int):=Zd (by first|(with_reducible assumption)|assumption)
         have q1:x13_1<(l0.length:Int):=Zd (by first|(with_reducible assumption)|assumption)
         obtain⟨ad1,e1,hx1_0⟩:=Kd.at_int HR0.out x13_1 p1 q1
         cases e1
         replace p1:=eq_true p1
         replace q1:=eq_true q1
         have p146002:0≤(x13_1:Int):=Zd (by first|(with_reducible assumption)|assumption)
         have q2:x13_1<(l1.length:Int):=Zd (by first|(with_reducible assumption)|assumption)
         obtain⟨ad2,e2,hx2_0⟩:=Kd.at_int HR1.out x13_1 p146002 q2
         cases e2
         replace p146002:=eq_true p146002
         replace q2:=eq_true q2
         go_wp2
         repeat(go_quiet (fail);try go_wp2)
         go_roundg k1
         case measure=>have:=HK1.out;omega
         case rel=>exact⟨(wrap64 (x13_1+1)),(by first|rfl|(simp;done)|(simp[*];done)),H',⟨by have:=HK1.out;omega⟩,by repeat(first|exact ZH.refl _|apply ZH.step)⟩
        ·rw[if_neg c8] at H
         have c8b0:((rd l0 x13_1) == (rd l1 x13_1))=false:=beq_eq_false_iff_ne.mpr c8
         obtain rfl:=Zg H
         have p1:0≤(x13_1:Int):=Zd (by first|(with_reducible assumption)|assumption)
         have q1:x13_1<(l0.length:Int):=Zd (by first|(with_reducible assumption)|assumption)
         obtain⟨ad1,e1,hx1_0⟩:=Kd.at_int HR0.out x13_1 p1 q1
         cases e1
         replace p1:=eq_true p1
         replace q1:=eq_true q1
         have p146002:0≤(x13_1:Int):=Zd (by first|(with_reducible assumption)|assumption)
         have q2:x13_1<(l1.length:Int):=Zd (by first|(with_reducible assumption)|assumption)
         obtain⟨ad2,e2,hx2_0⟩:=Kd.at_int HR1.out x13_1 p146002 q2
         cases e2
         replace p146002:=eq_true p146002
         replace q2:=eq_true q2
         go_wp2
         repeat(go_quiet (fail);try go_wp2)
         go_ret
         exact⟨by first|rfl|(simp;done)|(simp[*];done),by repeat(first|exact ZH.refl _|apply ZH.step)⟩
       ·rw[if_neg c7] at H
        exact absurd H (by simp)
      ·rw[if_neg c6] at H
       exact absurd H (by simp)
     ·rw[if_neg c5] at H
      exact absurd H (by simp)
    ·rw[if_neg c4] at H
     have c4b0:decide (x13_1<(l0.length:Int))=false:=Zf c4
     clear c4
     obtain rfl:=Zg H
     go_wp2
     repeat(go_quiet (fail);try go_wp2)
     go_ret
     exact⟨by first|rfl|(simp;done)|(simp[*];done),by repeat(first|exact ZH.refl _|apply ZH.step)⟩
 ·rw[if_neg c3] at H
  have c3b0:((l0.length:Int) == (l1.length:Int))=false:=beq_eq_false_iff_ne.mpr c3
  obtain rfl:=Zg H
  go_enter Tryz.func146,Tryz.ntmps146
  go_wp2
  repeat(go_quiet (fail);try go_wp2)
  go_ret
  exact⟨by first|rfl|(simp;done)|(simp[*];done),by repeat(first|exact ZH.refl _|apply ZH.step)⟩
theorem l08Same_f (l m:List Int) (hl:l.length≤9223372036854775807) (k:Nat) (hk:2 ^ 64≤k):Za3.f k l m=some (decide (l=m)):=by
 unfold Za3.f
 by_cases e:l.length=m.length
 ·rw[if_pos (by omega)]
  have key:=Zb7 l.length (fun k i=>Za3.l0 k m l l.length (i:Int)=some (decide (l.drop i=m.drop i))) 0
   (fun k _=>by
    simp only[Za3.l0]
    rw[if_neg (by omega),List.drop_of_length_le (Nat.le_refl _),List.drop_of_length_le (by omega)]
    simp)
   (fun k i _ hi ih=>by
    simp only[Za3.l0]
    rw[if_pos (by omega),if_pos (by omega),if_pos (by omega),if_pos (by omega),ZaW,ZaW,ZO hi (by omega),Zal hi 0,Zal (show i<m.length by omega) 0]
    by_cases h:l.getD i 0=m.getD i 0
    ·rw[if_pos h,ih,h];simp
    ·rw[if_neg h]
     simp only[List.cons.injEq,h,false_and,decide_false]) 0 k (Nat.zero_le _) (by omega)
  simpa using key
 ·rw[if_neg (by omega)]
  have:l≠m:=fun h=>e (by rw[h])
  simp[this]
theorem sEqual_f (l m:List Int) (hl:l.length≤9223372036854775807) (k:Nat) (hk:2 ^ 64≤k):Zag.f k l m=some (decide (l=m)):=by
 unfold Zag.f
 by_cases e:l.length=m.length
 ·rw[if_pos (by omega)]
  have key:=Zb7 l.length (fun k i=>Zag.l0 k l m l.length (i:Int)=some (decide (l.drop i=m.drop i))) 0
   (fun k _=>by
    simp only[Zag.l0]
    rw[if_neg (by omega),List.drop_of_length_le (Nat.le_refl _),List.drop_of_length_le (by omega)]
    simp)
   (fun k i _ hi ih=>by
    simp only[Zag.l0]
    rw[if_pos (by omega),if_pos (by omega),if_pos (by omega),if_pos (by omega),ZaW,ZaW,ZO hi (by omega),Zal hi 0,Zal (show i<m.length by omega) 0]
    by_cases h:l.getD i 0=m.getD i 0
    ·rw[if_pos h,ih,h];simp
    ·rw[if_neg h]
     simp only[List.cons.injEq,h,false_and,decide_false]) 0 k (Nat.zero_le _) (by omega)
  simpa using key
 ·rw[if_neg (by omega)]
  have:l≠m:=fun h=>e (by rw[h])
  simp[this]
def Zdw.f (a0:Int):Option (Bool):=if a0≥(-20) then(some (decide (a0≤20))) else(some false)
theorem Zdw.calls (a0:Int) (r:Bool) (w:World) (h:Zdw.f a0=some r) :
  Calls Tryz.prog 147 #[.int .i64 a0] w fun e w'=>e=.returned (.bool r)∧ZH w w':=by
 have H:(if a0≥(-20) then(some (decide (a0≤20))) else(some false))=some r:=h
 clear h
 by_cases c2:a0≥(-20)
 ·rw[if_pos c2] at H
  have c2b0:decide ((-20)≤a0)=true:=Ze c2
  clear c2
  obtain rfl:=Zg H
  go_enter Tryz.func147,Tryz.ntmps147
  go_wp2
  go_ret
  exact⟨by first|rfl|(simp;done)|(simp[*];done),by repeat(first|exact ZH.refl _|apply ZH.step)⟩
 ·rw[if_neg c2] at H
  have c2b0:decide ((-20)≤a0)=false:=Zf c2
  clear c2
  obtain rfl:=Zg H
  go_enter Tryz.func147,Tryz.ntmps147
  go_wp2
  go_ret
  exact⟨by first|rfl|(simp;done)|(simp[*];done),by repeat(first|exact ZH.refl _|apply ZH.step)⟩
theorem impl_Tie_195.any (p:S82→Bool) (g:Nat) (lb:Array Value) (eg:∀args w,(callFunc g args).run Tryz.prog w=.ok (.enter g args) w) (A0:Option Addr) (c0:Nat) (l0:List S82) (w:World) (hr0:Kd.C k82 w A0 l0.length l0)
  (hp:∀(W:World) (x:S82),x∈l0→Below w.heap.size w W→Calls Tryz.prog g (#[.agg #[.int .i64 x.f0,.int .i64 x.f1,.int .i64 x.f2,.int .i64 x.f3,.bool x.f4]] ++ lb) W fun e w'=>e=.returned (.bool (p x))∧Below W.heap.size W w') :
  Calls Tryz.prog 195 #[.slice A0 l0.length c0,.func (.func g) #[] lb] w fun e w'=>e=.returned (.int .i64 (Zbc p l0))∧Below w.heap.size w w':=by
 have HR0:=Za hr0;have HP:=Za hp;clear hr0 hp
 have HL:l0.length≤9223372036854775807:=HR0.out.2.1
 go_enter Tryz.func195,Tryz.ntmps195
 go_wp2
 go_loopg [5,8] l0.length (fun gg _ s8 wr=>∃kk:Nat,Aside0 (kk≤l0.length)∧Aside0 (l0.length - kk≤gg)∧s8=.int .i64 kk∧Aside0 (Below w.heap.size w wr)∧Aside0 (∀j y,j<kk→l0[j]? = some y→p y=false))
 case atStart=>exact⟨0,⟨Nat.zero_le _⟩,⟨by omega⟩,rfl,⟨Below.refl _ _⟩,⟨fun j y hj=>absurd hj (Nat.not_lt_zero _)⟩⟩
 case round=>
  obtain⟨kk,HK,HG,rfl,HB,HN⟩:=hrel
  by_cases hlt:kk<l0.length
  ·have hltz:(kk:Int)<(l0.length:Int):=by omega
   obtain⟨ad,e1,hx0,hx1,hx2,hx3,hx4⟩:=ZbG HR0.out (kk:Int) (by omega) hltz
   cases e1
   replace hx0:=(HB.out.cell (Zc w _ hx0)).trans hx0
   rw[Int.toNat_natCast] at hx0
   replace hx1:=(HB.out.cell (Zc w _ hx1)).trans hx1
   rw[Int.toNat_natCast] at hx1
   replace hx2:=(HB.out.cell (Zc w _ hx2)).trans hx2
   rw[Int.toNat_natCast] at hx2
   replace hx3:=(HB.out.cell (Zc w _ hx3)).trans hx3
   rw[Int.toNat_natCast] at hx3
   replace hx4:=(HB.out.cell (Zc w _ hx4)).trans hx4
   rw[Int.toNat_natCast] at hx4
   have hxe:l0[kk]? = some (ZE l0 (kk:Int)):=by
    unfold ZE
    rw[Int.toNat_natCast,List.getD_eq_getElem?_getD,Zl hlt];rfl
   generalize ZE l0 (kk:Int)=y at hx0 hx1 hx2 hx3 hx4 hxe
   have HX:=Za hxe;clear hxe
   have hcall:=HP.out wr y (List.mem_of_getElem? HX.out) HB.out
   cases hq:p y with
   | true=>
    have HQ:=Za hq
    rw[hq] at hcall
    clear hq
    go_wp2_with (go_at_fn g;refine hcall.mono ?_;rintro e w' ⟨rfl,hb⟩)
    go_ret
    exact⟨by rw[Zcd p l0 kk y HX.out HQ.out HN.out];rfl,HB.out.trans (hb.mono HB.out.size)⟩
   | false=>
    have HQ:=Za hq
    rw[hq] at hcall
    clear hq
    go_wp2_with (go_at_fn g;refine hcall.mono ?_;rintro e w' ⟨rfl,hb⟩)
    go_roundg (l0.length - (kk+1))
    case measure=>have:=HG.out;omega
    case rel=>
     refine⟨kk+1,⟨by omega⟩,⟨by omega⟩,by go_num,⟨HB.out.trans (hb.mono HB.out.size)⟩,⟨fun j y' hj hy=>?_⟩⟩
     by_cases e:j=kk
     ·subst e
      rw[HX.out] at hy
      cases hy
      exact HQ.out
     ·exact HN.out j y' (by omega) hy
  ·have hltz:¬(kk:Int)<(l0.length:Int):=by omega
   have:kk=l0.length:=by have:=HK.out;omega
   subst this
   go_wp2
   go_ret
   exact⟨by rw[Zb0 p l0 HN.out];rfl,HB.out⟩
theorem impl_Tie_148.any (p:S82→Bool) (g:Nat) (lb:Array Value) (eg:∀args w,(callFunc g args).run Tryz.prog w=.ok (.enter g args) w) (A0:Option Addr) (c0:Nat) (l0:List S82) (w:World) (hr0:Kd.C k82 w A0 l0.length l0)
  (hp:∀(W:World) (x:S82),x∈l0→Below w.heap.size w W→Calls Tryz.prog g (#[.agg #[.int .i64 x.f0,.int .i64 x.f1,.int .i64 x.f2,.int .i64 x.f3,.bool x.f4]] ++ lb) W fun e w'=>e=.returned (.bool (p x))∧Below W.heap.size W w') :
  Calls Tryz.prog 148 #[.slice A0 l0.length c0,.func (.func g) #[] lb] w fun e w'=>e=.returned (.bool (l0.any p))∧Below w.heap.size w w':=by
 have HI:=Za (impl_Tie_195.any p g lb eg A0 c0 l0 w hr0 hp)
 clear hr0 hp
 have HE:=Za (Zdg p l0)
 go_enter Tryz.func148,Tryz.ntmps148
 go_wp2_with (go_at_call 195;refine HI.out.mono ?_;rintro e w' ⟨rfl,hb⟩)
 go_ret
 exact⟨by rw[← HE.out];rfl,hb⟩
end Go.Proofs.YtoeimopgoaffcaaGreatDoor.Pr
