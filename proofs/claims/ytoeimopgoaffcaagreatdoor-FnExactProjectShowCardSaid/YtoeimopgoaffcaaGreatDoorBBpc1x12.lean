/- The texts of one claim, put together by a program of this session. -/
import Derived.Deep.LoopGhost
import Derived.Shelf.Abstract
import Derived.Test.YtoeimopgoaffcaaGreatDoorBBpc1x1
import Derived.Test.YtoeimopgoaffcaaGreatDoorBBpc1x10
import Derived.Test.YtoeimopgoaffcaaGreatDoorBBpc1x3
import Derived.Test.YtoeimopgoaffcaaGreatDoorBBpc1x4
namespace Go.Proofs.YtoeimopgoaffcaaGreatDoor.Pr
open Go.RowKit Go.Proofs.YtoeimopgoaffcaaGreatDoorW.PrintWords Go.Proofs.YtoeimopgoaffcaaGreatDoorW.PrintLast Go.Proofs.YtoeimopgoaffcaaGreatDoorW.PrintMore
attribute [local go_sem] Z2 Z0 Zac Zab ZU ZT Z1 ZZ
set_option linter.unusedVariables false
set_option linter.unusedSimpArgs false
def ZbR.f (k:Nat) (l0_0:List (S39)) (l0_1:List (S82)) (a0_2:Int) (l1:List Int) (a2:Int):Option (Bool):=(Zan.f a2).bind fun t81002=>((ZaX.f l0_0 l0_1 a0_2 t81002).bind fun t81003=>(if t81003<0 then(some false) else(if 0≤t81003 then(if t81003<(l0_0.length:Int) then((Z4.f ((ZD l0_0 t81003).f1) a2).bind fun t81005=>(if t81005=true then(some false) else((Z4.f ((ZD l0_0 t81003).f1) (wrap64 (-a2))).bind fun t81006=>(if t81006=true then(some false) else((ZaU.f k l1 ((ZD l0_0 t81003).f1)).bind fun t81007=>(some t81007)))))) else(none)) else(none))))
set_option maxHeartbeats 8000000 in
set_option maxRecDepth 100000 in
theorem ZbR.calls (k:Nat) (A0_0:Option Addr) (c0_0:Nat) (l0_0:List (S39)) (A0_1:Option Addr) (c0_1:Nat) (l0_1:List (S82)) (a0_2:Int) (A1:Option Addr) (c1:Nat) (l1:List Int) (a2:Int) (r:Bool) (w:World) (hr0_0:Kd.C k39 w A0_0 l0_0.length l0_0) (hc0_0:l0_0.length≤c0_0) (hr0_1:Kd.C k82 w A0_1 l0_1.length l0_1) (hc0_1:l0_1.length≤c0_1) (hr1:Kd.C (Kd.int .i64) w A1 l1.length l1) (hc1:l1.length≤c1) (h:ZbR.f k l0_0 l0_1 a0_2 l1 a2=some r) :
  Calls Tryz.prog 81 #[.agg #[.slice A0_0 l0_0.length c0_0,.slice A0_1 l0_1.length c0_1,.int .i64 a0_2],.slice A1 l1.length c1,.int .i64 a2] w fun e w'=>e=.returned (.bool r)∧Below w.heap.size w w':=by
 have hu25:=Tryz.underlying25
 have HR0_0:=Za hr0_0;have HC0_0:=Za hc0_0;clear hr0_0 hc0_0;have HR0_1:=Za hr0_1;have HC0_1:=Za hc0_1;clear hr0_1 hc0_1;have HR1:=Za hr1;have HC1:=Za hc1;clear hr1 hc1
 have HB:=Za (Below.refl w.heap.size w)
 have H:((Zan.f a2).bind fun t81002=>((ZaX.f l0_0 l0_1 a0_2 t81002).bind fun t81003=>(if t81003<0 then(some false) else(if 0≤t81003 then(if t81003<(l0_0.length:Int) then((Z4.f ((ZD l0_0 t81003).f1) a2).bind fun t81005=>(if t81005=true then(some false) else((Z4.f ((ZD l0_0 t81003).f1) (wrap64 (-a2))).bind fun t81006=>(if t81006=true then(some false) else((ZaU.f k l1 ((ZD l0_0 t81003).f1)).bind fun t81007=>(some t81007)))))) else(none)) else(none)))))=some r:=h
 clear h
 replace H:=Zh H
 obtain⟨t81002,A40,H⟩:=H;have A4:=Za A40;clear A40
 replace H:=Zh H
 obtain⟨t81003,A50,H⟩:=H;have A5:=Za A50;clear A50
 by_cases c6:t81003<0
 ·rw[if_pos c6] at H
  have c6b0:decide (t81003<0)=true:=Ze c6
  clear c6
  obtain rfl:=Zg H
  go_enter Tryz.func81,Tryz.ntmps81
  try go_wp2_with (first|((with_reducible refine ZI (N:=3) rfl ?_);refine ZG ?hg (N:=3) ?hd (cs:=#[.slice A0_0 l0_0.length c0_0,.slice A0_1 l0_1.length c0_1,.int .i64 a0_2]) (t:=25) ?hr ?_;(case hd=>rfl);(case hg=>rfl);(case hr=>first|(go_simp;done)|(go_simp;rfl));intro gb81001 hg w7 hbox hb;have BK81001:=Za (hbox);have GW81001:=Za ((by rw[hg];exact(ZC (by repeat(first|(with_reducible first|exact HB.out|apply Zn|apply Zm|apply Zo)|exact HB.out))):w.heap.size≤gb81001));have GE81001:=Za ((by rw[hg];exact(ZC (by repeat(first|(with_reducible first|exact HB.out|apply Zn|apply Zm|apply Zo)|exact HB.out))):w.heap.size≤gb81001));replace HB:=Za (Zt (by repeat(first|(with_reducible first|exact HB.out|apply Zn|apply Zm|apply Zo)|exact HB.out)) hb);clear hb hbox hg))
  replace BK81001:=Za (ZB BK81001.out);replace HB:=Za (Zo HB.out)
  refine Zb0 (n:=5) (S:=fun w'=>w'.cell? ⟨gb81001,0,none⟩=some (.slice A0_0 l0_0.length c0_0)∧w'.cell? ⟨gb81001,1,none⟩=some (.slice A0_1 l0_1.length c0_1)∧w'.cell? ⟨gb81001,2,none⟩=some (.int .i64 a0_2)) (ds:=[]) #[false,false,false,false,false] (by kernel_rfl) rfl rfl ⟨(Zp BK81001.out 0).trans rfl,(Zp BK81001.out 1).trans rfl,(Zp BK81001.out 2).trans rfl⟩ (fun hHeld=>?_)
  generalize w7.drew=w8 at BK81001 HB hHeld ⊢
  refine ZX (i:=1) (N:=some 10) (v:=?_) (a':=?_) #[false,true,false,false,false] rfl rfl (by kernel_rfl) (fun _ _ _ h=>h) (Or.inl ⟨by rfl,?_⟩) ?_ ?_
  rotate_left
  ·intro w'
   go_simp
   with_reducible rfl
  rotate_left
  ·simp only[Act.put,List.setIfInBounds_toArray,List.set_cons_zero,List.set_cons_succ,ZH,ZJ]
   rfl
  refine take_ (i:=0) (N:=some 9) (v:=?_) (a':=?_) #[true,true,false,false,false] rfl rfl (by kernel_rfl) (fun _ _ _ h=>h) (Or.inl ⟨by rfl,?_⟩) hHeld ?_ ?_
  rotate_left
  ·rintro w' ⟨s0,s1,s2⟩
   go_simp
   with_reducible rfl
  rotate_left
  ·simp only[Act.put,List.setIfInBounds_toArray,List.set_cons_zero,List.set_cons_succ,ZH,ZJ]
   rfl
  refine one_ (i:=2) (N:=some 11) #[true,true,true,false,false] rfl rfl (by kernel_rfl) (by decide) (fun K hK=>?_)
  refine ZaV Tryz.func144 (by kernel_rfl) rfl #[.int .i64 a2] (by rfl) rfl rfl (by(try simp only[List.map_toArray,List.map_cons,List.map_nil]);first|done|rfl|(simp only[Zk,Zj];rfl)) ?_
  with_reducible refine(Zan.calls a2 t81002 _ A4.out).mono ?_
  rintro e w9 ⟨rfl,hb⟩
  refine⟨_,rfl,?_⟩
  replace BK81001:=Za (Zx (g:=gb81001) (o:=.cells #[.slice A0_0 l0_0.length c0_0,.slice A0_1 l0_1.length c0_1,.int .i64 a0_2] 25 (0,0)) BK81001.out hb);replace HB:=Za (Zt (by repeat(first|(with_reducible first|exact HB.out|apply Zn|apply Zm|apply Zo|refine Zq ?_ GE81001.out)|exact HB.out)) hb)
  (try clear hb)
  (try clear hb2)
  (try clear hk)
  (try clear hi)
  refine hK.out _ _ ⟨(Zp BK81001.out 0).trans rfl,(Zp BK81001.out 1).trans rfl,(Zp BK81001.out 2).trans rfl⟩ (fun hHeld=>?_)
  clear hK K
  refine Zaj (a':=?_) ?_ ?_
  rotate_left
  ·show Act.put _ (some 11) _=_
   simp only[Act.put,List.setIfInBounds_toArray,List.set_cons_zero,List.set_cons_succ,ZH,ZJ]
   rfl
  refine one_ (i:=3) (N:=some 12) #[true,true,true,true,false] rfl rfl (by kernel_rfl) (by decide) (fun K hK=>?_)
  refine ZaV Tryz.func88 (by kernel_rfl) rfl #[.agg #[.slice A0_0 l0_0.length c0_0,.slice A0_1 l0_1.length c0_1,.int .i64 a0_2],.int .i64 t81002] (by rfl) rfl rfl (by(try simp only[List.map_toArray,List.map_cons,List.map_nil]);first|done|rfl|(simp only[Zk,Zj];rfl)) ?_
  with_reducible refine(ZaX.calls _ _ l0_0 _ _ l0_1 a0_2 t81002 t81003 _ ?side1 ?side2 ?side3 ?side4 A5.out).mono ?_
  (case side1=>repeat(first|exact(Zb HR0_0.out HB.out)|(with_reducible refine Kd.C_alloc ?_ _)|(with_reducible refine Kd.C_drewN ?_ _)|(with_reducible refine Kd.C_drew ?_)))
  (case side2=>exact HC0_0.out)
  (case side3=>repeat(first|exact(Zb HR0_1.out HB.out)|(with_reducible refine Kd.C_alloc ?_ _)|(with_reducible refine Kd.C_drewN ?_ _)|(with_reducible refine Kd.C_drew ?_)))
  (case side4=>exact HC0_1.out)
  rintro e w10 ⟨rfl,hb⟩
  refine⟨_,rfl,?_⟩
  replace BK81001:=Za (Zx (g:=gb81001) (o:=.cells #[.slice A0_0 l0_0.length c0_0,.slice A0_1 l0_1.length c0_1,.int .i64 a0_2] 25 (0,0)) BK81001.out hb);replace HB:=Za (Zt (by repeat(first|(with_reducible first|exact HB.out|apply Zn|apply Zm|apply Zo|refine Zq ?_ GE81001.out)|exact HB.out)) hb)
  (try clear hb)
  (try clear hb2)
  (try clear hk)
  (try clear hi)
  refine hK.out _ _ ⟨(Zp BK81001.out 0).trans rfl,(Zp BK81001.out 1).trans rfl,(Zp BK81001.out 2).trans rfl⟩ (fun hHeld=>?_)
  clear hK K
  refine Zaj (a':=?_) ?_ ?_
  rotate_left
  ·show Act.put _ (some 12) _=_
   simp only[Act.put,List.setIfInBounds_toArray,List.set_cons_zero,List.set_cons_succ,ZH,ZJ]
   rfl
  refine ZX (i:=4) (N:=some 7) (v:=?_) (a':=?_) #[true,true,true,true,true] rfl rfl (by kernel_rfl) (fun _ _ _ h=>h) (Or.inl ⟨by rfl,?_⟩) ?_ ?_
  rotate_left
  ·intro w'
   go_simp
   with_reducible rfl
  rotate_left
  ·simp only[Act.put,List.setIfInBounds_toArray,List.set_cons_zero,List.set_cons_succ,ZH,ZJ]
   rfl
  refine Zcp (by kernel_rfl) ?_
  try go_wp2
  go_ret
  exact⟨by first|rfl|(simp[ZA,Zz] <;> rfl)|(simp[*,ZA,Zz] <;> rfl),by repeat(first|(with_reducible first|exact HB.out|apply Zn|apply Zm|apply Zo|refine Zq ?_ GE81001.out)|exact HB.out)⟩
 ·rw[if_neg c6] at H
  have c6b0:decide (t81003<0)=false:=Zf c6
  clear c6
  by_cases c11:0≤t81003
  ·rw[if_pos c11] at H
   have c11b0:decide (0≤t81003)=true:=Ze c11
   clear c11
   by_cases c12:t81003<(l0_0.length:Int)
   ·rw[if_pos c12] at H
    have c12b0:decide (t81003<(l0_0.length:Int))=true:=Ze c12
    clear c12
    replace H:=Zh H
    obtain⟨t81005,A130,H⟩:=H;have A13:=Za A130;clear A130
    by_cases c14:t81005=true
    ·subst c14
     rw[if_pos rfl] at H
     obtain rfl:=Zg H
     go_enter Tryz.func81,Tryz.ntmps81
     try go_wp2_with (first|((with_reducible refine ZI (N:=3) rfl ?_);refine ZG ?hg (N:=3) ?hd (cs:=#[.slice A0_0 l0_0.length c0_0,.slice A0_1 l0_1.length c0_1,.int .i64 a0_2]) (t:=25) ?hr ?_;(case hd=>rfl);(case hg=>rfl);(case hr=>first|(go_simp;done)|(go_simp;rfl));intro gb81001 hg w15 hbox hb;have BK81001:=Za (hbox);have GW81001:=Za ((by rw[hg];exact(ZC (by repeat(first|(with_reducible first|exact HB.out|apply Zn|apply Zm|apply Zo)|exact HB.out))):w.heap.size≤gb81001));have GE81001:=Za ((by rw[hg];exact(ZC (by repeat(first|(with_reducible first|exact HB.out|apply Zn|apply Zm|apply Zo)|exact HB.out))):w.heap.size≤gb81001));replace HB:=Za (Zt (by repeat(first|(with_reducible first|exact HB.out|apply Zn|apply Zm|apply Zo)|exact HB.out)) hb);clear hb hbox hg))
     replace BK81001:=Za (ZB BK81001.out);replace HB:=Za (Zo HB.out)
     refine Zb0 (n:=5) (S:=fun w'=>w'.cell? ⟨gb81001,0,none⟩=some (.slice A0_0 l0_0.length c0_0)∧w'.cell? ⟨gb81001,1,none⟩=some (.slice A0_1 l0_1.length c0_1)∧w'.cell? ⟨gb81001,2,none⟩=some (.int .i64 a0_2)) (ds:=[]) #[false,false,false,false,false] (by kernel_rfl) rfl rfl ⟨(Zp BK81001.out 0).trans rfl,(Zp BK81001.out 1).trans rfl,(Zp BK81001.out 2).trans rfl⟩ (fun hHeld=>?_)
     generalize w15.drew=w16 at BK81001 HB hHeld ⊢
     refine ZX (i:=1) (N:=some 10) (v:=?_) (a':=?_) #[false,true,false,false,false] rfl rfl (by kernel_rfl) (fun _ _ _ h=>h) (Or.inl ⟨by rfl,?_⟩) ?_ ?_
     rotate_left
     ·intro w'
      go_simp
      with_reducible rfl
     rotate_left
     ·simp only[Act.put,List.setIfInBounds_toArray,List.set_cons_zero,List.set_cons_succ,ZH,ZJ]
      rfl
     refine take_ (i:=0) (N:=some 9) (v:=?_) (a':=?_) #[true,true,false,false,false] rfl rfl (by kernel_rfl) (fun _ _ _ h=>h) (Or.inl ⟨by rfl,?_⟩) hHeld ?_ ?_
     rotate_left
     ·rintro w' ⟨s0,s1,s2⟩
      go_simp
      with_reducible rfl
     rotate_left
     ·simp only[Act.put,List.setIfInBounds_toArray,List.set_cons_zero,List.set_cons_succ,ZH,ZJ]
      rfl
     refine one_ (i:=2) (N:=some 11) #[true,true,true,false,false] rfl rfl (by kernel_rfl) (by decide) (fun K hK=>?_)
     refine ZaV Tryz.func144 (by kernel_rfl) rfl #[.int .i64 a2] (by rfl) rfl rfl (by(try simp only[List.map_toArray,List.map_cons,List.map_nil]);first|done|rfl|(simp only[Zk,Zj];rfl)) ?_
     with_reducible refine(Zan.calls a2 t81002 _ A4.out).mono ?_
     rintro e w17 ⟨rfl,hb⟩
     refine⟨_,rfl,?_⟩
     replace BK81001:=Za (Zx (g:=gb81001) (o:=.cells #[.slice A0_0 l0_0.length c0_0,.slice A0_1 l0_1.length c0_1,.int .i64 a0_2] 25 (0,0)) BK81001.out hb);replace HB:=Za (Zt (by repeat(first|(with_reducible first|exact HB.out|apply Zn|apply Zm|apply Zo|refine Zq ?_ GE81001.out)|exact HB.out)) hb)
     (try clear hb)
     (try clear hb2)
     (try clear hk)
     (try clear hi)
     refine hK.out _ _ ⟨(Zp BK81001.out 0).trans rfl,(Zp BK81001.out 1).trans rfl,(Zp BK81001.out 2).trans rfl⟩ (fun hHeld=>?_)
     clear hK K
     refine Zaj (a':=?_) ?_ ?_
     rotate_left
     ·show Act.put _ (some 11) _=_
      simp only[Act.put,List.setIfInBounds_toArray,List.set_cons_zero,List.set_cons_succ,ZH,ZJ]
      rfl
     refine one_ (i:=3) (N:=some 12) #[true,true,true,true,false] rfl rfl (by kernel_rfl) (by decide) (fun K hK=>?_)
     refine ZaV Tryz.func88 (by kernel_rfl) rfl #[.agg #[.slice A0_0 l0_0.length c0_0,.slice A0_1 l0_1.length c0_1,.int .i64 a0_2],.int .i64 t81002] (by rfl) rfl rfl (by(try simp only[List.map_toArray,List.map_cons,List.map_nil]);first|done|rfl|(simp only[Zk,Zj];rfl)) ?_
     with_reducible refine(ZaX.calls _ _ l0_0 _ _ l0_1 a0_2 t81002 t81003 _ ?side1 ?side2 ?side3 ?side4 A5.out).mono ?_
     (case side1=>repeat(first|exact(Zb HR0_0.out HB.out)|(with_reducible refine Kd.C_alloc ?_ _)|(with_reducible refine Kd.C_drewN ?_ _)|(with_reducible refine Kd.C_drew ?_)))
     (case side2=>exact HC0_0.out)
     (case side3=>repeat(first|exact(Zb HR0_1.out HB.out)|(with_reducible refine Kd.C_alloc ?_ _)|(with_reducible refine Kd.C_drewN ?_ _)|(with_reducible refine Kd.C_drew ?_)))
     (case side4=>exact HC0_1.out)
     rintro e w18 ⟨rfl,hb⟩
     refine⟨_,rfl,?_⟩
     replace BK81001:=Za (Zx (g:=gb81001) (o:=.cells #[.slice A0_0 l0_0.length c0_0,.slice A0_1 l0_1.length c0_1,.int .i64 a0_2] 25 (0,0)) BK81001.out hb);replace HB:=Za (Zt (by repeat(first|(with_reducible first|exact HB.out|apply Zn|apply Zm|apply Zo|refine Zq ?_ GE81001.out)|exact HB.out)) hb)
     (try clear hb)
     (try clear hb2)
     (try clear hk)
     (try clear hi)
     refine hK.out _ _ ⟨(Zp BK81001.out 0).trans rfl,(Zp BK81001.out 1).trans rfl,(Zp BK81001.out 2).trans rfl⟩ (fun hHeld=>?_)
     clear hK K
     refine Zaj (a':=?_) ?_ ?_
     rotate_left
     ·show Act.put _ (some 12) _=_
      simp only[Act.put,List.setIfInBounds_toArray,List.set_cons_zero,List.set_cons_succ,ZH,ZJ]
      rfl
     refine ZX (i:=4) (N:=some 7) (v:=?_) (a':=?_) #[true,true,true,true,true] rfl rfl (by kernel_rfl) (fun _ _ _ h=>h) (Or.inl ⟨by rfl,?_⟩) ?_ ?_
     rotate_left
     ·intro w'
      go_simp
      with_reducible rfl
     rotate_left
     ·simp only[Act.put,List.setIfInBounds_toArray,List.set_cons_zero,List.set_cons_succ,ZH,ZJ]
      rfl
     refine Zcp (by kernel_rfl) ?_
     have hcz19_0:w18.cell? ⟨gb81001,0,none⟩=some (.slice A0_0 l0_0.length c0_0):=(Zp BK81001.out 0).trans rfl
     have hcz19_1:w18.cell? ⟨gb81001,1,none⟩=some (.slice A0_1 l0_1.length c0_1):=(Zp BK81001.out 1).trans rfl
     have hcz19_2:w18.cell? ⟨gb81001,2,none⟩=some (.int .i64 a0_2):=(Zp BK81001.out 2).trans rfl
     have p81004:0≤(t81003:Int):=Zd (by first|(with_reducible assumption)|assumption)
     have q81004:t81003<(l0_0.length:Int):=Zd (by first|(with_reducible assumption)|assumption)
     obtain⟨ad81004,A81004_1,c81004_1,e81004,hx81004_0,hx81004_1,hx81004_2,hl81004_1,hi81004_1⟩:=ZaG HR0_0.out t81003 p81004 q81004
     cases e81004
     replace hx81004_0:=(HB.out.cell (Zc w _ hx81004_0)).trans hx81004_0
     replace hx81004_1:=(HB.out.cell (Zc w _ hx81004_1)).trans hx81004_1
     replace hx81004_2:=(HB.out.cell (Zc w _ hx81004_2)).trans hx81004_2
     have HR81004_1:=Za hi81004_1;have HC81004_1:=Za hl81004_1;clear hi81004_1 hl81004_1
     replace p81004:=eq_true p81004
     replace q81004:=eq_true q81004
     try go_wp2_with (first|((with_reducible refine ZK (f:=151) rfl ?_);refine Z6 (some 23) rfl rfl Tryz.func151 (by kernel_rfl) rfl #[.slice A81004_1 ((ZD l0_0 t81003).f1).length c81004_1,.int .i64 a2] rfl (by(try simp only[List.map_toArray,List.map_cons,List.map_nil]);first|done|rfl|(simp only[Zk,Zj];rfl)) ?_;(with_reducible refine(Z4.calls _ _ ((ZD l0_0 t81003).f1) a2 true _ ?side1 ?side2 A13.out).mono ?_);(case side1=>repeat(first|exact(Zb HR81004_1.out HB.out)|(with_reducible refine Kd.C_alloc ?_ _)|(with_reducible refine Kd.C_drewN ?_ _)|(with_reducible refine Kd.C_drew ?_)));(case side2=>exact HC81004_1.out);rintro e w20 ⟨rfl,hb⟩;refine⟨_,rfl,?_⟩;replace BK81001:=Za (Zx (g:=gb81001) (o:=.cells #[.slice (some ad81004) l0_0.length c0_0,.slice A0_1 l0_1.length c0_1,.int .i64 a0_2] 25 (0,0)) BK81001.out hb);replace HB:=Za (Zt (by repeat(first|(with_reducible first|exact HB.out|apply Zn|apply Zm|apply Zo|refine Zq ?_ GE81001.out)|exact HB.out)) hb);(try clear hi)))
     go_ret
     exact⟨by first|rfl|(simp[ZA,Zz] <;> rfl)|(simp[*,ZA,Zz] <;> rfl),by repeat(first|(with_reducible first|exact HB.out|apply Zn|apply Zm|apply Zo|refine Zq ?_ GE81001.out)|exact HB.out)⟩
    ·replace c14:=Bool.eq_false_iff.mpr c14
     subst c14
     have H1:((Z4.f ((ZD l0_0 t81003).f1) (wrap64 (-a2))).bind fun t81006=>(if t81006=true then(some false) else((ZaU.f k l1 ((ZD l0_0 t81003).f1)).bind fun t81007=>(some t81007))))=some r:=by rw[if_neg (show ¬(false=true) by decide)] at H;exact H
     clear H
     have H:=H1
     clear H1
     replace H:=Zh H
     obtain⟨t81006,A210,H⟩:=H;have A21:=Za A210;clear A210
     by_cases c22:t81006=true
     ·subst c22
      rw[if_pos rfl] at H
      obtain rfl:=Zg H
      go_enter Tryz.func81,Tryz.ntmps81
      try go_wp2_with (first|((with_reducible refine ZI (N:=3) rfl ?_);refine ZG ?hg (N:=3) ?hd (cs:=#[.slice A0_0 l0_0.length c0_0,.slice A0_1 l0_1.length c0_1,.int .i64 a0_2]) (t:=25) ?hr ?_;(case hd=>rfl);(case hg=>rfl);(case hr=>first|(go_simp;done)|(go_simp;rfl));intro gb81001 hg w23 hbox hb;have BK81001:=Za (hbox);have GW81001:=Za ((by rw[hg];exact(ZC (by repeat(first|(with_reducible first|exact HB.out|apply Zn|apply Zm|apply Zo)|exact HB.out))):w.heap.size≤gb81001));have GE81001:=Za ((by rw[hg];exact(ZC (by repeat(first|(with_reducible first|exact HB.out|apply Zn|apply Zm|apply Zo)|exact HB.out))):w.heap.size≤gb81001));replace HB:=Za (Zt (by repeat(first|(with_reducible first|exact HB.out|apply Zn|apply Zm|apply Zo)|exact HB.out)) hb);clear hb hbox hg))
      replace BK81001:=Za (ZB BK81001.out);replace HB:=Za (Zo HB.out)
      refine Zb0 (n:=5) (S:=fun w'=>w'.cell? ⟨gb81001,0,none⟩=some (.slice A0_0 l0_0.length c0_0)∧w'.cell? ⟨gb81001,1,none⟩=some (.slice A0_1 l0_1.length c0_1)∧w'.cell? ⟨gb81001,2,none⟩=some (.int .i64 a0_2)) (ds:=[]) #[false,false,false,false,false] (by kernel_rfl) rfl rfl ⟨(Zp BK81001.out 0).trans rfl,(Zp BK81001.out 1).trans rfl,(Zp BK81001.out 2).trans rfl⟩ (fun hHeld=>?_)
      generalize w23.drew=w24 at BK81001 HB hHeld ⊢
      refine ZX (i:=1) (N:=some 10) (v:=?_) (a':=?_) #[false,true,false,false,false] rfl rfl (by kernel_rfl) (fun _ _ _ h=>h) (Or.inl ⟨by rfl,?_⟩) ?_ ?_
      rotate_left
      ·intro w'
       go_simp
       with_reducible rfl
      rotate_left
      ·simp only[Act.put,List.setIfInBounds_toArray,List.set_cons_zero,List.set_cons_succ,ZH,ZJ]
       rfl
      refine take_ (i:=0) (N:=some 9) (v:=?_) (a':=?_) #[true,true,false,false,false] rfl rfl (by kernel_rfl) (fun _ _ _ h=>h) (Or.inl ⟨by rfl,?_⟩) hHeld ?_ ?_
      rotate_left
      ·rintro w' ⟨s0,s1,s2⟩
       go_simp
       with_reducible rfl
      rotate_left
      ·simp only[Act.put,List.setIfInBounds_toArray,List.set_cons_zero,List.set_cons_succ,ZH,ZJ]
       rfl
      refine one_ (i:=2) (N:=some 11) #[true,true,true,false,false] rfl rfl (by kernel_rfl) (by decide) (fun K hK=>?_)
      refine ZaV Tryz.func144 (by kernel_rfl) rfl #[.int .i64 a2] (by rfl) rfl rfl (by(try simp only[List.map_toArray,List.map_cons,List.map_nil]);first|done|rfl|(simp only[Zk,Zj];rfl)) ?_
      with_reducible refine(Zan.calls a2 t81002 _ A4.out).mono ?_
      rintro e w25 ⟨rfl,hb⟩
      refine⟨_,rfl,?_⟩
      replace BK81001:=Za (Zx (g:=gb81001) (o:=.cells #[.slice A0_0 l0_0.length c0_0,.slice A0_1 l0_1.length c0_1,.int .i64 a0_2] 25 (0,0)) BK81001.out hb);replace HB:=Za (Zt (by repeat(first|(with_reducible first|exact HB.out|apply Zn|apply Zm|apply Zo|refine Zq ?_ GE81001.out)|exact HB.out)) hb)
      (try clear hb)
      (try clear hb2)
      (try clear hk)
      (try clear hi)
      refine hK.out _ _ ⟨(Zp BK81001.out 0).trans rfl,(Zp BK81001.out 1).trans rfl,(Zp BK81001.out 2).trans rfl⟩ (fun hHeld=>?_)
      clear hK K
      refine Zaj (a':=?_) ?_ ?_
      rotate_left
      ·show Act.put _ (some 11) _=_
       simp only[Act.put,List.setIfInBounds_toArray,List.set_cons_zero,List.set_cons_succ,ZH,ZJ]
       rfl
      refine one_ (i:=3) (N:=some 12) #[true,true,true,true,false] rfl rfl (by kernel_rfl) (by decide) (fun K hK=>?_)
      refine ZaV Tryz.func88 (by kernel_rfl) rfl #[.agg #[.slice A0_0 l0_0.length c0_0,.slice A0_1 l0_1.length c0_1,.int .i64 a0_2],.int .i64 t81002] (by rfl) rfl rfl (by(try simp only[List.map_toArray,List.map_cons,List.map_nil]);first|done|rfl|(simp only[Zk,Zj];rfl)) ?_
      with_reducible refine(ZaX.calls _ _ l0_0 _ _ l0_1 a0_2 t81002 t81003 _ ?side1 ?side2 ?side3 ?side4 A5.out).mono ?_
      (case side1=>repeat(first|exact(Zb HR0_0.out HB.out)|(with_reducible refine Kd.C_alloc ?_ _)|(with_reducible refine Kd.C_drewN ?_ _)|(with_reducible refine Kd.C_drew ?_)))
      (case side2=>exact HC0_0.out)
      (case side3=>repeat(first|exact(Zb HR0_1.out HB.out)|(with_reducible refine Kd.C_alloc ?_ _)|(with_reducible refine Kd.C_drewN ?_ _)|(with_reducible refine Kd.C_drew ?_)))
      (case side4=>exact HC0_1.out)
      rintro e w26 ⟨rfl,hb⟩
      refine⟨_,rfl,?_⟩
      replace BK81001:=Za (Zx (g:=gb81001) (o:=.cells #[.slice A0_0 l0_0.length c0_0,.slice A0_1 l0_1.length c0_1,.int .i64 a0_2] 25 (0,0)) BK81001.out hb);replace HB:=Za (Zt (by repeat(first|(with_reducible first|exact HB.out|apply Zn|apply Zm|apply Zo|refine Zq ?_ GE81001.out)|exact HB.out)) hb)
      (try clear hb)
      (try clear hb2)
      (try clear hk)
      (try clear hi)
      refine hK.out _ _ ⟨(Zp BK81001.out 0).trans rfl,(Zp BK81001.out 1).trans rfl,(Zp BK81001.out 2).trans rfl⟩ (fun hHeld=>?_)
      clear hK K
      refine Zaj (a':=?_) ?_ ?_
      rotate_left
      ·show Act.put _ (some 12) _=_
       simp only[Act.put,List.setIfInBounds_toArray,List.set_cons_zero,List.set_cons_succ,ZH,ZJ]
       rfl
      refine ZX (i:=4) (N:=some 7) (v:=?_) (a':=?_) #[true,true,true,true,true] rfl rfl (by kernel_rfl) (fun _ _ _ h=>h) (Or.inl ⟨by rfl,?_⟩) ?_ ?_
      rotate_left
      ·intro w'
       go_simp
       with_reducible rfl
      rotate_left
      ·simp only[Act.put,List.setIfInBounds_toArray,List.set_cons_zero,List.set_cons_succ,ZH,ZJ]
       rfl
      refine Zcp (by kernel_rfl) ?_
      have hcz27_0:w26.cell? ⟨gb81001,0,none⟩=some (.slice A0_0 l0_0.length c0_0):=(Zp BK81001.out 0).trans rfl
      have hcz27_1:w26.cell? ⟨gb81001,1,none⟩=some (.slice A0_1 l0_1.length c0_1):=(Zp BK81001.out 1).trans rfl
      have hcz27_2:w26.cell? ⟨gb81001,2,none⟩=some (.int .i64 a0_2):=(Zp BK81001.out 2).trans rfl
      have p81004:0≤(t81003:Int):=Zd (by first|(with_reducible assumption)|assumption)
      have q81004:t81003<(l0_0.length:Int):=Zd (by first|(with_reducible assumption)|assumption)
      obtain⟨ad81004,A81004_1,c81004_1,e81004,hx81004_0,hx81004_1,hx81004_2,hl81004_1,hi81004_1⟩:=ZaG HR0_0.out t81003 p81004 q81004
      cases e81004
      replace hx81004_0:=(HB.out.cell (Zc w _ hx81004_0)).trans hx81004_0
      replace hx81004_1:=(HB.out.cell (Zc w _ hx81004_1)).trans hx81004_1
      replace hx81004_2:=(HB.out.cell (Zc w _ hx81004_2)).trans hx81004_2
      have HR81004_1:=Za hi81004_1;have HC81004_1:=Za hl81004_1;clear hi81004_1 hl81004_1
      replace p81004:=eq_true p81004
      replace q81004:=eq_true q81004
      try go_wp2_with (first|((with_reducible refine ZK (f:=151) rfl ?_);refine Z6 (some 23) rfl rfl Tryz.func151 (by kernel_rfl) rfl #[.slice A81004_1 ((ZD l0_0 t81003).f1).length c81004_1,.int .i64 a2] rfl (by(try simp only[List.map_toArray,List.map_cons,List.map_nil]);first|done|rfl|(simp only[Zk,Zj];rfl)) ?_;(with_reducible refine(Z4.calls _ _ ((ZD l0_0 t81003).f1) a2 false _ ?side1 ?side2 A13.out).mono ?_);(case side1=>repeat(first|exact(Zb HR81004_1.out HB.out)|(with_reducible refine Kd.C_alloc ?_ _)|(with_reducible refine Kd.C_drewN ?_ _)|(with_reducible refine Kd.C_drew ?_)));(case side2=>exact HC81004_1.out);rintro e w28 ⟨rfl,hb⟩;refine⟨_,rfl,?_⟩;replace BK81001:=Za (Zx (g:=gb81001) (o:=.cells #[.slice (some ad81004) l0_0.length c0_0,.slice A0_1 l0_1.length c0_1,.int .i64 a0_2] 25 (0,0)) BK81001.out hb);replace HB:=Za (Zt (by repeat(first|(with_reducible first|exact HB.out|apply Zn|apply Zm|apply Zo|refine Zq ?_ GE81001.out)|exact HB.out)) hb);(try clear hi))|(go_at_call 151;(with_reducible refine(Z4.calls _ _ ((ZD l0_0 t81003).f1) (wrap64 (-a2)) true _ ?side1 ?side2 A21.out).mono ?_);(case side1=>repeat(first|exact(Zb HR81004_1.out HB.out)|(with_reducible refine Kd.C_alloc ?_ _)|(with_reducible refine Kd.C_drewN ?_ _)|(with_reducible refine Kd.C_drew ?_)));(case side2=>exact HC81004_1.out);rintro e w29 ⟨rfl,hb⟩;replace BK81001:=Za (Zx (g:=gb81001) (o:=.cells #[.slice (some ad81004) l0_0.length c0_0,.slice A0_1 l0_1.length c0_1,.int .i64 a0_2] 25 (0,0)) BK81001.out hb);replace HB:=Za (Zt (by repeat(first|(with_reducible first|exact HB.out|apply Zn|apply Zm|apply Zo|refine Zq ?_ GE81001.out)|exact HB.out)) hb);(try clear hi)))
      go_ret
      exact⟨by first|rfl|(simp[ZA,Zz] <;> rfl)|(simp[*,ZA,Zz] <;> rfl),by repeat(first|(with_reducible first|exact HB.out|apply Zn|apply Zm|apply Zo|refine Zq ?_ GE81001.out)|exact HB.out)⟩
     ·replace c22:=Bool.eq_false_iff.mpr c22
      subst c22
      have H1:((ZaU.f k l1 ((ZD l0_0 t81003).f1)).bind fun t81007=>(some t81007))=some r:=by rw[if_neg (show ¬(false=true) by decide)] at H;exact H
      clear H
      have H:=H1
      clear H1
      replace H:=Zh H
      obtain⟨t81007,A300,H⟩:=H;have A30:=Za A300;clear A300
      obtain rfl:=Zg H
      go_enter Tryz.func81,Tryz.ntmps81
      try go_wp2_with (first|((with_reducible refine ZI (N:=3) rfl ?_);refine ZG ?hg (N:=3) ?hd (cs:=#[.slice A0_0 l0_0.length c0_0,.slice A0_1 l0_1.length c0_1,.int .i64 a0_2]) (t:=25) ?hr ?_;(case hd=>rfl);(case hg=>rfl);(case hr=>first|(go_simp;done)|(go_simp;rfl));intro gb81001 hg w31 hbox hb;have BK81001:=Za (hbox);have GW81001:=Za ((by rw[hg];exact(ZC (by repeat(first|(with_reducible first|exact HB.out|apply Zn|apply Zm|apply Zo)|exact HB.out))):w.heap.size≤gb81001));have GE81001:=Za ((by rw[hg];exact(ZC (by repeat(first|(with_reducible first|exact HB.out|apply Zn|apply Zm|apply Zo)|exact HB.out))):w.heap.size≤gb81001));replace HB:=Za (Zt (by repeat(first|(with_reducible first|exact HB.out|apply Zn|apply Zm|apply Zo)|exact HB.out)) hb);clear hb hbox hg))
      replace BK81001:=Za (ZB BK81001.out);replace HB:=Za (Zo HB.out)
      refine Zb0 (n:=5) (S:=fun w'=>w'.cell? ⟨gb81001,0,none⟩=some (.slice A0_0 l0_0.length c0_0)∧w'.cell? ⟨gb81001,1,none⟩=some (.slice A0_1 l0_1.length c0_1)∧w'.cell? ⟨gb81001,2,none⟩=some (.int .i64 a0_2)) (ds:=[]) #[false,false,false,false,false] (by kernel_rfl) rfl rfl ⟨(Zp BK81001.out 0).trans rfl,(Zp BK81001.out 1).trans rfl,(Zp BK81001.out 2).trans rfl⟩ (fun hHeld=>?_)
      generalize w31.drew=w32 at BK81001 HB hHeld ⊢
      refine ZX (i:=1) (N:=some 10) (v:=?_) (a':=?_) #[false,true,false,false,false] rfl rfl (by kernel_rfl) (fun _ _ _ h=>h) (Or.inl ⟨by rfl,?_⟩) ?_ ?_
      rotate_left
      ·intro w'
       go_simp
       with_reducible rfl
      rotate_left
      ·simp only[Act.put,List.setIfInBounds_toArray,List.set_cons_zero,List.set_cons_succ,ZH,ZJ]
       rfl
      refine take_ (i:=0) (N:=some 9) (v:=?_) (a':=?_) #[true,true,false,false,false] rfl rfl (by kernel_rfl) (fun _ _ _ h=>h) (Or.inl ⟨by rfl,?_⟩) hHeld ?_ ?_
      rotate_left
      ·rintro w' ⟨s0,s1,s2⟩
       go_simp
       with_reducible rfl
      rotate_left
      ·simp only[Act.put,List.setIfInBounds_toArray,List.set_cons_zero,List.set_cons_succ,ZH,ZJ]
       rfl
      refine one_ (i:=2) (N:=some 11) #[true,true,true,false,false] rfl rfl (by kernel_rfl) (by decide) (fun K hK=>?_)
      refine ZaV Tryz.func144 (by kernel_rfl) rfl #[.int .i64 a2] (by rfl) rfl rfl (by(try simp only[List.map_toArray,List.map_cons,List.map_nil]);first|done|rfl|(simp only[Zk,Zj];rfl)) ?_
      with_reducible refine(Zan.calls a2 t81002 _ A4.out).mono ?_
      rintro e w33 ⟨rfl,hb⟩
      refine⟨_,rfl,?_⟩
      replace BK81001:=Za (Zx (g:=gb81001) (o:=.cells #[.slice A0_0 l0_0.length c0_0,.slice A0_1 l0_1.length c0_1,.int .i64 a0_2] 25 (0,0)) BK81001.out hb);replace HB:=Za (Zt (by repeat(first|(with_reducible first|exact HB.out|apply Zn|apply Zm|apply Zo|refine Zq ?_ GE81001.out)|exact HB.out)) hb)
      (try clear hb)
      (try clear hb2)
      (try clear hk)
      (try clear hi)
      refine hK.out _ _ ⟨(Zp BK81001.out 0).trans rfl,(Zp BK81001.out 1).trans rfl,(Zp BK81001.out 2).trans rfl⟩ (fun hHeld=>?_)
      clear hK K
      refine Zaj (a':=?_) ?_ ?_
      rotate_left
      ·show Act.put _ (some 11) _=_
       simp only[Act.put,List.setIfInBounds_toArray,List.set_cons_zero,List.set_cons_succ,ZH,ZJ]
       rfl
      refine one_ (i:=3) (N:=some 12) #[true,true,true,true,false] rfl rfl (by kernel_rfl) (by decide) (fun K hK=>?_)
      refine ZaV Tryz.func88 (by kernel_rfl) rfl #[.agg #[.slice A0_0 l0_0.length c0_0,.slice A0_1 l0_1.length c0_1,.int .i64 a0_2],.int .i64 t81002] (by rfl) rfl rfl (by(try simp only[List.map_toArray,List.map_cons,List.map_nil]);first|done|rfl|(simp only[Zk,Zj];rfl)) ?_
      with_reducible refine(ZaX.calls _ _ l0_0 _ _ l0_1 a0_2 t81002 t81003 _ ?side1 ?side2 ?side3 ?side4 A5.out).mono ?_
      (case side1=>repeat(first|exact(Zb HR0_0.out HB.out)|(with_reducible refine Kd.C_alloc ?_ _)|(with_reducible refine Kd.C_drewN ?_ _)|(with_reducible refine Kd.C_drew ?_)))
      (case side2=>exact HC0_0.out)
      (case side3=>repeat(first|exact(Zb HR0_1.out HB.out)|(with_reducible refine Kd.C_alloc ?_ _)|(with_reducible refine Kd.C_drewN ?_ _)|(with_reducible refine Kd.C_drew ?_)))
      (case side4=>exact HC0_1.out)
      rintro e w34 ⟨rfl,hb⟩
      refine⟨_,rfl,?_⟩
      replace BK81001:=Za (Zx (g:=gb81001) (o:=.cells #[.slice A0_0 l0_0.length c0_0,.slice A0_1 l0_1.length c0_1,.int .i64 a0_2] 25 (0,0)) BK81001.out hb);replace HB:=Za (Zt (by repeat(first|(with_reducible first|exact HB.out|apply Zn|apply Zm|apply Zo|refine Zq ?_ GE81001.out)|exact HB.out)) hb)
      (try clear hb)
      (try clear hb2)
      (try clear hk)
      (try clear hi)
      refine hK.out _ _ ⟨(Zp BK81001.out 0).trans rfl,(Zp BK81001.out 1).trans rfl,(Zp BK81001.out 2).trans rfl⟩ (fun hHeld=>?_)
      clear hK K
      refine Zaj (a':=?_) ?_ ?_
      rotate_left
      ·show Act.put _ (some 12) _=_
       simp only[Act.put,List.setIfInBounds_toArray,List.set_cons_zero,List.set_cons_succ,ZH,ZJ]
       rfl
      refine ZX (i:=4) (N:=some 7) (v:=?_) (a':=?_) #[true,true,true,true,true] rfl rfl (by kernel_rfl) (fun _ _ _ h=>h) (Or.inl ⟨by rfl,?_⟩) ?_ ?_
      rotate_left
      ·intro w'
       go_simp
       with_reducible rfl
      rotate_left
      ·simp only[Act.put,List.setIfInBounds_toArray,List.set_cons_zero,List.set_cons_succ,ZH,ZJ]
       rfl
      refine Zcp (by kernel_rfl) ?_
      have hcz35_0:w34.cell? ⟨gb81001,0,none⟩=some (.slice A0_0 l0_0.length c0_0):=(Zp BK81001.out 0).trans rfl
      have hcz35_1:w34.cell? ⟨gb81001,1,none⟩=some (.slice A0_1 l0_1.length c0_1):=(Zp BK81001.out 1).trans rfl
      have hcz35_2:w34.cell? ⟨gb81001,2,none⟩=some (.int .i64 a0_2):=(Zp BK81001.out 2).trans rfl
      have p81004:0≤(t81003:Int):=Zd (by first|(with_reducible assumption)|assumption)
      have q81004:t81003<(l0_0.length:Int):=Zd (by first|(with_reducible assumption)|assumption)
      obtain⟨ad81004,A81004_1,c81004_1,e81004,hx81004_0,hx81004_1,hx81004_2,hl81004_1,hi81004_1⟩:=ZaG HR0_0.out t81003 p81004 q81004
      cases e81004
      replace hx81004_0:=(HB.out.cell (Zc w _ hx81004_0)).trans hx81004_0
      replace hx81004_1:=(HB.out.cell (Zc w _ hx81004_1)).trans hx81004_1
      replace hx81004_2:=(HB.out.cell (Zc w _ hx81004_2)).trans hx81004_2
      have HR81004_1:=Za hi81004_1;have HC81004_1:=Za hl81004_1;clear hi81004_1 hl81004_1
      replace p81004:=eq_true p81004
      replace q81004:=eq_true q81004
      try go_wp2_with (first|((with_reducible refine ZK (f:=151) rfl ?_);refine Z6 (some 23) rfl rfl Tryz.func151 (by kernel_rfl) rfl #[.slice A81004_1 ((ZD l0_0 t81003).f1).length c81004_1,.int .i64 a2] rfl (by(try simp only[List.map_toArray,List.map_cons,List.map_nil]);first|done|rfl|(simp only[Zk,Zj];rfl)) ?_;(with_reducible refine(Z4.calls _ _ ((ZD l0_0 t81003).f1) a2 false _ ?side1 ?side2 A13.out).mono ?_);(case side1=>repeat(first|exact(Zb HR81004_1.out HB.out)|(with_reducible refine Kd.C_alloc ?_ _)|(with_reducible refine Kd.C_drewN ?_ _)|(with_reducible refine Kd.C_drew ?_)));(case side2=>exact HC81004_1.out);rintro e w36 ⟨rfl,hb⟩;refine⟨_,rfl,?_⟩;replace BK81001:=Za (Zx (g:=gb81001) (o:=.cells #[.slice (some ad81004) l0_0.length c0_0,.slice A0_1 l0_1.length c0_1,.int .i64 a0_2] 25 (0,0)) BK81001.out hb);replace HB:=Za (Zt (by repeat(first|(with_reducible first|exact HB.out|apply Zn|apply Zm|apply Zo|refine Zq ?_ GE81001.out)|exact HB.out)) hb);(try clear hi))|(go_at_call 151;(with_reducible refine(Z4.calls _ _ ((ZD l0_0 t81003).f1) (wrap64 (-a2)) false _ ?side1 ?side2 A21.out).mono ?_);(case side1=>repeat(first|exact(Zb HR81004_1.out HB.out)|(with_reducible refine Kd.C_alloc ?_ _)|(with_reducible refine Kd.C_drewN ?_ _)|(with_reducible refine Kd.C_drew ?_)));(case side2=>exact HC81004_1.out);rintro e w37 ⟨rfl,hb⟩;replace BK81001:=Za (Zx (g:=gb81001) (o:=.cells #[.slice (some ad81004) l0_0.length c0_0,.slice A0_1 l0_1.length c0_1,.int .i64 a0_2] 25 (0,0)) BK81001.out hb);replace HB:=Za (Zt (by repeat(first|(with_reducible first|exact HB.out|apply Zn|apply Zm|apply Zo|refine Zq ?_ GE81001.out)|exact HB.out)) hb);(try clear hi))|(go_at_call 152;(with_reducible refine(ZaU.calls k _ _ l1 _ _ ((ZD l0_0 t81003).f1) t81007 _ ?side1 ?side2 ?side3 ?side4 A30.out).mono ?_);(case side1=>repeat(first|exact(Zb HR1.out HB.out)|(with_reducible refine Kd.C_alloc ?_ _)|(with_reducible refine Kd.C_drewN ?_ _)|(with_reducible refine Kd.C_drew ?_)));(case side2=>exact HC1.out);(case side3=>repeat(first|exact(Zb HR81004_1.out HB.out)|(with_reducible refine Kd.C_alloc ?_ _)|(with_reducible refine Kd.C_drewN ?_ _)|(with_reducible refine Kd.C_drew ?_)));(case side4=>exact HC81004_1.out);rintro e w38 ⟨rfl,hb⟩;replace BK81001:=Za (Zx (g:=gb81001) (o:=.cells #[.slice (some ad81004) l0_0.length c0_0,.slice A0_1 l0_1.length c0_1,.int .i64 a0_2] 25 (0,0)) BK81001.out hb);replace HB:=Za (Zt (by repeat(first|(with_reducible first|exact HB.out|apply Zn|apply Zm|apply Zo|refine Zq ?_ GE81001.out)|exact HB.out)) hb);(try clear hi)))
      go_ret
      exact⟨by first|rfl|(simp[ZA,Zz] <;> rfl)|(simp[*,ZA,Zz] <;> rfl),by repeat(first|(with_reducible first|exact HB.out|apply Zn|apply Zm|apply Zo|refine Zq ?_ GE81001.out)|exact HB.out)⟩
   ·rw[if_neg c12] at H
    exact absurd H (by simp)
  ·rw[if_neg c11] at H
   exact absurd H (by simp)
end Go.Proofs.YtoeimopgoaffcaaGreatDoor.Pr
namespace Go.Proofs.YtoeimopgoaffcaaGreatDoor.Pr
open Go.RowKit Go.Proofs.YtoeimopgoaffcaaGreatDoorW.PrintWords Go.Proofs.YtoeimopgoaffcaaGreatDoor.Ni
def Zdw (ns:List ZM) (lb:List Int) (x w:Int):Bool:=
 decide (0≤w) && !((ZD ns w).f1.any fun y=>decide (x=y)) && !((ZD ns w).f1.any fun y=>decide (-x=y)) && impB lb (ZD ns w).f1
def ZbS (ns:List ZM) (lb:List Int) (x:Int):Bool:=Zdw ns lb x (Zbm ns (prp x))
theorem isWatched_f (ns:List ZM) (ts:List PTie) (z:Int) (lb:List Int) (x:Int) (hb:∀n∈ns,n.f1.length≤9223372036854775807) (hl:lb.length≤9223372036854775807) (hx:Zbb x=true) (k:Nat) (hk:2 ^ 64≤k) :
  ZbR.f k ns ts z lb x=some (ZbS ns lb x):=by
 have hx3:=(ZbD x).1 hx
 have hbd:=ZdE (fun n:ZM=>decide (0<prp x) && decide (n.f2=prp x)) ns
 unfold ZbR.f
 rw[Zdb hx,Zi]
 unfold ZaX.f ZbS Zdw
 rw[Zi]
 have hbd' : -1≤Zbm ns (prp x)∧Zbm ns (prp x)<ns.length:=hbd
 generalize Zbm ns (prp x)=w at hbd' ⊢
 by_cases h:w<0
 ·rw[if_pos h,Zf (show ¬0≤w by omega)];rfl
 ·rw[if_neg h,if_pos (by omega),if_pos (by omega),Ze (show 0≤w by omega)]
  have hm:(ZD ns w).f1.length≤9223372036854775807:=by
   obtain⟨n,rfl⟩:=Int.eq_ofNat_of_zero_le (show 0≤w by omega)
   rw[show ZD ns (n:Int)=ns.getD n z39 from ZbQ ns n]
   exact hb _ (Za9 (by omega) _)
  unfold Z4.f
  rw[Zi,ZaJ (i:=-x) (by omega) (by omega),ZdM lb _ hl hm k hk]
  simp only[Zi,Bool.true_and]
  cases (ZD ns w).f1.any fun y=>decide (x=y)
  ·cases (ZD ns w).f1.any fun y=>decide (-x=y)
   ·simp
   ·rfl
  ·rfl
end Go.Proofs.YtoeimopgoaffcaaGreatDoor.Pr
namespace Go.Proofs.YtoeimopgoaffcaaGreatDoor.Pr
open Go.RowKit Go.Proofs.YtoeimopgoaffcaaGreatDoorW.PrintWords Go.Proofs.YtoeimopgoaffcaaGreatDoorW.PrintLast Go.Proofs.YtoeimopgoaffcaaGreatDoorW.PrintMore
attribute [local go_sem] Z2 Z0 Zac Zab ZU ZT Z1 ZZ
set_option linter.unusedVariables false
set_option linter.unusedSimpArgs false
def ZcN.f (a0:Int):Option (Bool):=if a0≥(-20) then(some (decide (a0≤20))) else(some false)
set_option maxHeartbeats 8000000 in
set_option maxRecDepth 100000 in
theorem ZcN.calls (a0:Int) (r:Bool) (w:World) (h:ZcN.f a0=some r) :
  Calls Tryz.prog 147 #[.int .i64 a0] w fun e w'=>e=.returned (.bool r)∧ZF w w':=by
 have H:(if a0≥(-20) then(some (decide (a0≤20))) else(some false))=some r:=h
 clear h
 by_cases c2:a0≥(-20)
 ·rw[if_pos c2] at H
  have c2b0:decide ((-20)≤a0)=true:=Ze c2
  clear c2
  obtain rfl:=Zg H
  go_enter Tryz.func147,Tryz.ntmps147
  go_wp2
  go_ret
  exact⟨by first|rfl|(simp;done)|(simp[*];done),by repeat(first|exact ZF.refl _|apply ZF.step)⟩
 ·rw[if_neg c2] at H
  have c2b0:decide ((-20)≤a0)=false:=Zf c2
  clear c2
  obtain rfl:=Zg H
  go_enter Tryz.func147,Tryz.ntmps147
  go_wp2
  go_ret
  exact⟨by first|rfl|(simp;done)|(simp[*];done),by repeat(first|exact ZF.refl _|apply ZF.step)⟩
end Go.Proofs.YtoeimopgoaffcaaGreatDoor.Pr
namespace Go.Proofs.YtoeimopgoaffcaaGreatDoor.Pr
open Go.RowKit Go.Proofs.YtoeimopgoaffcaaGreatDoorW.PrintWords Go.Proofs.YtoeimopgoaffcaaGreatDoorW.PrintLast Go.Proofs.YtoeimopgoaffcaaGreatDoorW.PrintMore
attribute [local go_sem] Z2 Z0 Zac Zab ZU ZT Z1 ZZ
set_option linter.unusedVariables false
set_option linter.unusedSimpArgs false
open Go.Proofs.YtoeimopgoaffcaaGreatDoor.Ni
set_option maxHeartbeats 4000000 in
theorem impl_Tie_195.any (p:S82→Bool) (g:Nat) (lb:Array Value) (eg:∀args w,(callFunc g args).run Tryz.prog w=.ok (.enter g args) w) (A0:Option Addr) (c0:Nat) (l0:List S82) (w:World) (hr0:Kd.C k82 w A0 l0.length l0)
  (hp:∀(W:World) (x:S82),x∈l0→Below w.heap.size w W→Calls Tryz.prog g (#[.agg #[.int .i64 x.f0,.int .i64 x.f1,.int .i64 x.f2,.int .i64 x.f3,.bool x.f4]] ++ lb) W fun e w'=>e=.returned (.bool (p x))∧Below W.heap.size W w') :
  Calls Tryz.prog 195 #[.slice A0 l0.length c0,.func (.func g) #[] lb] w fun e w'=>e=.returned (.int .i64 (ZaZ p l0))∧Below w.heap.size w w':=by
 have HR0:=Za hr0;have HP:=Za hp;clear hr0 hp
 have HL:l0.length≤9223372036854775807:=HR0.out.2.1
 go_enter Tryz.func195,Tryz.ntmps195
 go_wp2
 go_loopg [5,8] l0.length (fun gg _ s8 wr=>∃kk:Nat,Aside0 (kk≤l0.length)∧Aside0 (l0.length - kk≤gg)∧s8=.int .i64 kk∧Aside0 (Below w.heap.size w wr)∧Aside0 (∀j y,j<kk→l0[j]? = some y→p y=false))
 case atStart=>exact⟨0,⟨Nat.zero_le _⟩,⟨by omega⟩,rfl,⟨Below.refl _ _⟩,⟨fun j y hj=>absurd hj (Nat.not_lt_zero _)⟩⟩
 case round=>
  obtain⟨kk,HK,HG,rfl,HB,HN⟩:=hrel
  by_cases hlt:kk<l0.length
  ·have hltz:(kk:Int)<(l0.length:Int):=by omega
   obtain⟨ad,e1,hx0,hx1,hx2,hx3,hx4⟩:=Zbp HR0.out (kk:Int) (by omega) hltz
   cases e1
   replace hx0:=(HB.out.cell (Zc w _ hx0)).trans hx0
   rw[Int.toNat_natCast] at hx0
   replace hx1:=(HB.out.cell (Zc w _ hx1)).trans hx1
   rw[Int.toNat_natCast] at hx1
   replace hx2:=(HB.out.cell (Zc w _ hx2)).trans hx2
   rw[Int.toNat_natCast] at hx2
   replace hx3:=(HB.out.cell (Zc w _ hx3)).trans hx3
   rw[Int.toNat_natCast] at hx3
   replace hx4:=(HB.out.cell (Zc w _ hx4)).trans hx4
   rw[Int.toNat_natCast] at hx4
   have hxe:l0[kk]? = some (Zu l0 (kk:Int)):=by
    unfold Zu
    rw[Int.toNat_natCast,List.getD_eq_getElem?_getD,Zl hlt];rfl
   generalize Zu l0 (kk:Int)=y at hx0 hx1 hx2 hx3 hx4 hxe
   have HX:=Za hxe;clear hxe
   have hcall:=HP.out wr y (List.mem_of_getElem? HX.out) HB.out
   cases hq:p y with
   | true=>
    have HQ:=Za hq
    rw[hq] at hcall
    clear hq
    go_wp2_with (go_at_fn g;refine hcall.mono ?_;rintro e w' ⟨rfl,hb⟩)
    go_ret
    exact⟨by rw[ZbP p l0 kk y HX.out HQ.out HN.out];rfl,HB.out.trans (hb.mono HB.out.size)⟩
   | false=>
    have HQ:=Za hq
    rw[hq] at hcall
    clear hq
    go_wp2_with (go_at_fn g;refine hcall.mono ?_;rintro e w' ⟨rfl,hb⟩)
    go_roundg (l0.length - (kk+1))
    case measure=>have:=HG.out;omega
    case rel=>
     refine⟨kk+1,⟨by omega⟩,⟨by omega⟩,by go_num,⟨HB.out.trans (hb.mono HB.out.size)⟩,⟨fun j y' hj hy=>?_⟩⟩
     by_cases e:j=kk
     ·subst e
      rw[HX.out] at hy
      cases hy
      exact HQ.out
     ·exact HN.out j y' (by omega) hy
  ·have hltz:¬(kk:Int)<(l0.length:Int):=by omega
   have:kk=l0.length:=by have:=HK.out;omega
   subst this
   go_wp2
   go_ret
   exact⟨by rw[Zbz p l0 HN.out];rfl,HB.out⟩
set_option maxHeartbeats 4000000 in
theorem impl_Tie_148.any (p:S82→Bool) (g:Nat) (lb:Array Value) (eg:∀args w,(callFunc g args).run Tryz.prog w=.ok (.enter g args) w) (A0:Option Addr) (c0:Nat) (l0:List S82) (w:World) (hr0:Kd.C k82 w A0 l0.length l0)
  (hp:∀(W:World) (x:S82),x∈l0→Below w.heap.size w W→Calls Tryz.prog g (#[.agg #[.int .i64 x.f0,.int .i64 x.f1,.int .i64 x.f2,.int .i64 x.f3,.bool x.f4]] ++ lb) W fun e w'=>e=.returned (.bool (p x))∧Below W.heap.size W w') :
  Calls Tryz.prog 148 #[.slice A0 l0.length c0,.func (.func g) #[] lb] w fun e w'=>e=.returned (.bool (l0.any p))∧Below w.heap.size w w':=by
 have HI:=Za (impl_Tie_195.any p g lb eg A0 c0 l0 w hr0 hp)
 clear hr0 hp
 have HE:=Za (ZcS p l0)
 go_enter Tryz.func148,Tryz.ntmps148
 go_wp2_with (go_at_call 195;refine HI.out.mono ?_;rintro e w' ⟨rfl,hb⟩)
 go_ret
 exact⟨by rw[← HE.out];rfl,hb⟩
end Go.Proofs.YtoeimopgoaffcaaGreatDoor.Pr
namespace Go.Proofs.YtoeimopgoaffcaaGreatDoor.Pr
open Go.RowKit Go.Proofs.YtoeimopgoaffcaaGreatDoorW.PrintWords Go.Proofs.YtoeimopgoaffcaaGreatDoorW.PrintLast Go.Proofs.YtoeimopgoaffcaaGreatDoorW.PrintMore
attribute [local go_sem] Z2 Z0 Zac Zab ZU ZT Z1 ZZ
set_option linter.unusedVariables false
set_option linter.unusedSimpArgs false
def Zby.f (a0:Int) (a1:Int):Option (Bool):=if a1≥0 then(some (decide (a1<a0))) else(some false)
set_option maxHeartbeats 8000000 in
set_option maxRecDepth 100000 in
theorem Zby.calls (a0:Int) (a1:Int) (r:Bool) (w:World) (h:Zby.f a0 a1=some r) :
  Calls Tryz.prog 84 #[.int .i64 a0,.int .i64 a1] w fun e w'=>e=.returned (.bool r)∧ZF w w':=by
 have H:(if a1≥0 then(some (decide (a1<a0))) else(some false))=some r:=h
 clear h
 by_cases c3:a1≥0
 ·rw[if_pos c3] at H
  have c3b0:decide (0≤a1)=true:=Ze c3
  clear c3
  obtain rfl:=Zg H
  go_enter Tryz.func84,Tryz.ntmps84
  go_wp2
  go_ret
  exact⟨by first|rfl|(simp;done)|(simp[*];done),by repeat(first|exact ZF.refl _|apply ZF.step)⟩
 ·rw[if_neg c3] at H
  have c3b0:decide (0≤a1)=false:=Zf c3
  clear c3
  obtain rfl:=Zg H
  go_enter Tryz.func84,Tryz.ntmps84
  go_wp2
  go_ret
  exact⟨by first|rfl|(simp;done)|(simp[*];done),by repeat(first|exact ZF.refl _|apply ZF.step)⟩
end Go.Proofs.YtoeimopgoaffcaaGreatDoor.Pr
