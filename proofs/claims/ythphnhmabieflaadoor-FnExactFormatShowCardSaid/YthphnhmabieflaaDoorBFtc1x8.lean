/- The texts of one claim, put together by a program of this session. -/
import Derived.Deep.LoopGhost
import Derived.Shelf.Abstract
import Derived.Test.YthphnhmabieflaaDoorBFtc1x1
import Derived.Test.YthphnhmabieflaaDoorBFtc1x2
import Derived.Test.YthphnhmabieflaaDoorBFtc1x3
namespace Go.Proofs.YthphnhmabieflaaDoor.Pr
open Go.RowKit Go.Proofs.YthphnhmabieflaaDoorW.PrintWords Go.Proofs.YthphnhmabieflaaDoorW.PrintLast Go.Proofs.YthphnhmabieflaaDoorW.PrintMore
attribute [local go_sem] Zah Zaf Zas Zar Z8 Z7 Zag Zae
set_option linter.unusedVariables false
set_option linter.unusedSimpArgs false
open Go.Proofs.YthphnhmabieflaaDoor.Ni
set_option maxHeartbeats 4000000 in
theorem impl_Node.any (p:S73→Bool) (g:Nat) (lb:Array Value) (eg:∀args w,(callFunc g args).run Tryd.prog w=.ok (.enter g args) w) (A0:Option Addr) (c0:Nat) (l0:List S73) (w:World) (hr0:Kd.C k73 w A0 l0.length l0)
  (hp:∀(W:World) (x:S73) (A1_:Option Addr) (c1_:Nat),x∈l0→Below w.heap.size w W→x.f1.length≤c1_→Kd.C (Kd.int .i64) W A1_ x.f1.length x.f1→Calls Tryd.prog g (#[.agg #[.string x.f0,.slice A1_ x.f1.length c1_,.int .i64 x.f2]] ++ lb) W fun e w'=>e=.returned (.bool (p x))∧Below W.heap.size W w') :
  Calls Tryd.prog 135 #[.slice A0 l0.length c0,.func (.func g) #[] lb] w fun e w'=>e=.returned (.int .i64 (Zbn p l0))∧Below w.heap.size w w':=by
 have HR0:=Za hr0;have HP:=Za hp;clear hr0 hp
 have HL:l0.length≤9223372036854775807:=HR0.out.2.1
 go_enter Tryd.func135,Tryd.ntmps135
 go_wp2
 go_loopg [5,8] l0.length (fun gg _ s8 wr=>∃kk:Nat,Aside0 (kk≤l0.length)∧Aside0 (l0.length - kk≤gg)∧s8=.int .i64 kk∧Aside0 (Below w.heap.size w wr)∧Aside0 (∀j y,j<kk→l0[j]? = some y→p y=false))
 case atStart=>exact⟨0,⟨Nat.zero_le _⟩,⟨by omega⟩,rfl,⟨Below.refl _ _⟩,⟨fun j y hj=>absurd hj (Nat.not_lt_zero _)⟩⟩
 case round=>
  obtain⟨kk,HK,HG,rfl,HB,HN⟩:=hrel
  by_cases hlt:kk<l0.length
  ·have hltz:(kk:Int)<(l0.length:Int):=by omega
   obtain⟨ad,A1_,c1_,e1,hx0,hx1,hx2,l1_,g1_⟩:=Zan HR0.out (kk:Int) (by omega) hltz
   cases e1
   replace hx0:=(HB.out.cell (Zc w _ hx0)).trans hx0
   rw[Int.toNat_natCast] at hx0
   replace hx1:=(HB.out.cell (Zc w _ hx1)).trans hx1
   rw[Int.toNat_natCast] at hx1
   replace hx2:=(HB.out.cell (Zc w _ hx2)).trans hx2
   rw[Int.toNat_natCast] at hx2
   have hxe:l0[kk]? = some (Zp l0 (kk:Int)):=by
    unfold Zp
    rw[Int.toNat_natCast,List.getD_eq_getElem?_getD,Zl hlt];rfl
   generalize Zp l0 (kk:Int)=y at hx0 hx1 hx2 l1_ g1_ hxe
   have HX:=Za hxe;clear hxe
   have hcall:=HP.out wr y A1_ c1_ (List.mem_of_getElem? HX.out) HB.out l1_ (Zb g1_ HB.out)
   clear g1_ l1_
   cases hq:p y with
   | true=>
    have HQ:=Za hq
    rw[hq] at hcall
    clear hq
    go_wp2_with (go_at_fn g;refine hcall.mono ?_;rintro e w' ⟨rfl,hb⟩)
    go_ret
    exact⟨by rw[ZbO p l0 kk y HX.out HQ.out HN.out];rfl,HB.out.trans (hb.mono HB.out.size)⟩
   | false=>
    have HQ:=Za hq
    rw[hq] at hcall
    clear hq
    go_wp2_with (go_at_fn g;refine hcall.mono ?_;rintro e w' ⟨rfl,hb⟩)
    go_roundg (l0.length - (kk+1))
    case measure=>have:=HG.out;omega
    case rel=>
     refine⟨kk+1,⟨by omega⟩,⟨by omega⟩,by go_num,⟨HB.out.trans (hb.mono HB.out.size)⟩,⟨fun j y' hj hy=>?_⟩⟩
     by_cases e:j=kk
     ·subst e
      rw[HX.out] at hy
      cases hy
      exact HQ.out
     ·exact HN.out j y' (by omega) hy
  ·have hltz:¬(kk:Int)<(l0.length:Int):=by omega
   have:kk=l0.length:=by have:=HK.out;omega
   subst this
   go_wp2
   go_ret
   exact⟨by rw[ZbD p l0 HN.out];rfl,HB.out⟩
def Zb1 (ns:List S73) (p:Int):Int:=Zbn (fun n=>decide (0<p) && decide (n.f2=p)) ns
def Za8.f (l0_0:List (S73)) (l0_1:List (S66)) (a0_2:Int) (a1:Int):Option Int:=some (Zb1 l0_0 a1)
theorem Zek.clo (B:Nat) (p:Int) (W:World) (hB:W.cell? ⟨B,0,none⟩=some (.int .i64 p)) (x:S73) (A1_:Option Addr) (c1_:Nat) :
  Calls Tryd.prog 136 #[.agg #[.string x.f0,.slice A1_ x.f1.length c1_,.int .i64 x.f2],.pointer (some ⟨B,0,none⟩)] W fun e w'=>e=.returned (.bool (decide (0<p) && decide (x.f2=p)))∧Below W.heap.size W w':=by
 have hlt:B<W.heap.size:=Zc W _ hB
 have HE:=Za (show(x.f2 == p)=decide (x.f2=p) by rw[Bool.eq_iff_iff];simp)
 cases hp:decide (0<p) with
 | false=>
  go_enter Tryd.func136,Tryd.ntmps136
  go_wp2
  go_ret
  exact⟨rfl,(Below.refl _ _).alloc (Nat.le_refl _) _⟩
 | true=>
  go_enter Tryd.func136,Tryd.ntmps136
  go_wp2
  go_ret
  exact⟨by rw[← HE.out];rfl,(Below.refl _ _).alloc (Nat.le_refl _) _⟩
set_option maxHeartbeats 4000000 in
theorem Za8.calls (A0_0:Option Addr) (c0_0:Nat) (l0_0:List (S73)) (A0_1:Option Addr) (c0_1:Nat) (l0_1:List (S66)) (a0_2:Int) (a1:Int) (r:Int) (w:World) (hr0_0:Kd.C k73 w A0_0 l0_0.length l0_0) (hc0_0:l0_0.length≤c0_0) (hr0_1:Kd.C k66 w A0_1 l0_1.length l0_1) (hc0_1:l0_1.length≤c0_1) (h:Za8.f l0_0 l0_1 a0_2 a1=some r) :
  Calls Tryd.prog 115 #[.agg #[.slice A0_0 l0_0.length c0_0,.slice A0_1 l0_1.length c0_1,.int .i64 a0_2],.int .i64 a1] w fun e w'=>e=.returned (.int .i64 r)∧Below w.heap.size w w':=by
 obtain rfl:=Zg h
 have HC':=Za fun (W:World) (B:Nat) (hb:Below w.heap.size w W) (hcell:W.cell? ⟨B,0,none⟩=some (.int .i64 a1))=>impl_Node.any (fun n=>decide (0<a1) && decide (n.f2=a1)) 136 #[.pointer (some ⟨B,0,none⟩)] (enters_of Tryd.func136 (by kernel_rfl) rfl) A0_0 c0_0 l0_0 W (Zb hr0_0 hb)
    (fun W' x A1_ c1_ _ hb' _ _=>Zek.clo B a1 W' ((hb'.cell (Zc W _ hcell)).trans hcell) x A1_ c1_)
 clear hr0_0 hr0_1 h
 have HB2:=Za (((Below.refl w.heap.size w).alloc (Nat.le_refl _) (.cells #[.slice A0_0 l0_0.length c0_0,.slice A0_1 l0_1.length c0_1,.int .i64 a0_2] 36)).alloc (by simp) (.cells #[.int .i64 a1] 3))
 have hu:=Tryd.underlying36
 go_enter Tryd.func115,Tryd.ntmps115
 go_wp2_with fail
 refine(HC'.out _ _ HB2.out (by go_simp)).mono ?_
 rintro e w' ⟨rfl,hb⟩
 go_wp2
 go_ret
 exact⟨rfl,HB2.out.trans (hb.mono HB2.out.size)⟩
end Go.Proofs.YthphnhmabieflaaDoor.Pr
namespace Go.Proofs.YthphnhmabieflaaDoor.Pr
open Go.RowKit Go.Proofs.YthphnhmabieflaaDoorW.PrintWords Go.Proofs.YthphnhmabieflaaDoorW.PrintLast Go.Proofs.YthphnhmabieflaaDoorW.PrintMore
attribute [local go_sem] Zah Zaf Zas Zar Z8 Z7 Zag Zae
set_option linter.unusedVariables false
set_option linter.unusedSimpArgs false
def Zbu.f (k:Nat) (l0_0:List (S73)) (l0_1:List (S66)) (a0_2:Int) (l1:List Int) (a2:Int):Option (Bool):=(Zaq.f a2).bind fun t83002=>((Za8.f l0_0 l0_1 a0_2 t83002).bind fun t83003=>(if t83003<0 then(some false) else(if 0≤t83003 then(if t83003<(l0_0.length:Int) then((ZW.f ((Zp l0_0 t83003).f1) a2).bind fun t83005=>(if t83005=true then(some false) else((ZW.f ((Zp l0_0 t83003).f1) (wrap64 (-a2))).bind fun t83006=>(if t83006=true then(some false) else((Zap.f k l1 ((Zp l0_0 t83003).f1)).bind fun t83007=>(some t83007)))))) else(none)) else(none))))
set_option maxHeartbeats 8000000 in
set_option maxRecDepth 100000 in
theorem Zbu.calls (k:Nat) (A0_0:Option Addr) (c0_0:Nat) (l0_0:List (S73)) (A0_1:Option Addr) (c0_1:Nat) (l0_1:List (S66)) (a0_2:Int) (A1:Option Addr) (c1:Nat) (l1:List Int) (a2:Int) (r:Bool) (w:World) (hr0_0:Kd.C k73 w A0_0 l0_0.length l0_0) (hc0_0:l0_0.length≤c0_0) (hr0_1:Kd.C k66 w A0_1 l0_1.length l0_1) (hc0_1:l0_1.length≤c0_1) (hr1:Kd.C (Kd.int .i64) w A1 l1.length l1) (hc1:l1.length≤c1) (h:Zbu.f k l0_0 l0_1 a0_2 l1 a2=some r) :
  Calls Tryd.prog 83 #[.agg #[.slice A0_0 l0_0.length c0_0,.slice A0_1 l0_1.length c0_1,.int .i64 a0_2],.slice A1 l1.length c1,.int .i64 a2] w fun e w'=>e=.returned (.bool r)∧Below w.heap.size w w':=by
 have hu36:=Tryd.underlying36
 have HR0_0:=Za hr0_0;have HC0_0:=Za hc0_0;clear hr0_0 hc0_0;have HR0_1:=Za hr0_1;have HC0_1:=Za hc0_1;clear hr0_1 hc0_1;have HR1:=Za hr1;have HC1:=Za hc1;clear hr1 hc1
 have HB:=Za (Below.refl w.heap.size w)
 have H:((Zaq.f a2).bind fun t83002=>((Za8.f l0_0 l0_1 a0_2 t83002).bind fun t83003=>(if t83003<0 then(some false) else(if 0≤t83003 then(if t83003<(l0_0.length:Int) then((ZW.f ((Zp l0_0 t83003).f1) a2).bind fun t83005=>(if t83005=true then(some false) else((ZW.f ((Zp l0_0 t83003).f1) (wrap64 (-a2))).bind fun t83006=>(if t83006=true then(some false) else((Zap.f k l1 ((Zp l0_0 t83003).f1)).bind fun t83007=>(some t83007)))))) else(none)) else(none)))))=some r:=h
 clear h
 replace H:=Zh H
 obtain⟨t83002,A40,H⟩:=H
 replace H:((Za8.f l0_0 l0_1 a0_2 t83002).bind fun t83003=>(if t83003<0 then(some false) else(if 0≤t83003 then(if t83003<(l0_0.length:Int) then((ZW.f ((Zp l0_0 t83003).f1) a2).bind fun t83005=>(if t83005=true then(some false) else((ZW.f ((Zp l0_0 t83003).f1) (wrap64 (-a2))).bind fun t83006=>(if t83006=true then(some false) else((Zap.f k l1 ((Zp l0_0 t83003).f1)).bind fun t83007=>(some t83007)))))) else(none)) else(none))))=some r:=H
 have A4:=Za A40;clear A40
 replace H:=Zh H
 obtain⟨t83003,A50,H⟩:=H
 replace H:(if t83003<0 then(some false) else(if 0≤t83003 then(if t83003<(l0_0.length:Int) then((ZW.f ((Zp l0_0 t83003).f1) a2).bind fun t83005=>(if t83005=true then(some false) else((ZW.f ((Zp l0_0 t83003).f1) (wrap64 (-a2))).bind fun t83006=>(if t83006=true then(some false) else((Zap.f k l1 ((Zp l0_0 t83003).f1)).bind fun t83007=>(some t83007)))))) else(none)) else(none)))=some r:=H
 have A5:=Za A50;clear A50
 by_cases c6:t83003<0
 ·rw[if_pos c6] at H
  have c6b0:decide (t83003<0)=true:=Ze c6
  clear c6
  obtain rfl:=Zg H
  go_enter Tryd.func83,Tryd.ntmps83
  try go_wp2_with (first|((with_reducible refine ZN (N:=3) rfl ?_);refine ZP ?hg (N:=3) ?hd (cs:=#[.slice A0_0 l0_0.length c0_0,.slice A0_1 l0_1.length c0_1,.int .i64 a0_2]) (t:=36) ?hr ?_;(case hd=>rfl);(case hg=>rfl);(case hr=>first|(go_simp;done)|(go_simp;rfl));intro gb83001 hg w7 hbox hb;have BK83001:=Za (hbox);have GW83001:=Za ((by rw[hg];exact(Zy (by repeat(first|(with_reducible first|exact HB.out|apply Zn|apply Zm|apply Zo)|exact HB.out))):w.heap.size≤gb83001));have GE83001:=Za ((by rw[hg];exact(Zy (by repeat(first|(with_reducible first|exact HB.out|apply Zn|apply Zm|apply Zo)|exact HB.out))):w.heap.size≤gb83001));replace HB:=Za (Zx (by repeat(first|(with_reducible first|exact HB.out|apply Zn|apply Zm|apply Zo)|exact HB.out)) hb);clear hb hbox hg))
  replace BK83001:=Za (Zv BK83001.out);replace HB:=Za (Zo HB.out)
  refine Zbq (n:=5) (S:=fun w'=>w'.cell? ⟨gb83001,0,none⟩=some (.slice A0_0 l0_0.length c0_0)∧w'.cell? ⟨gb83001,1,none⟩=some (.slice A0_1 l0_1.length c0_1)∧w'.cell? ⟨gb83001,2,none⟩=some (.int .i64 a0_2)) (ds:=[]) #[false,false,false,false,false] (by kernel_rfl) rfl rfl ⟨(Zq BK83001.out 0).trans rfl,(Zq BK83001.out 1).trans rfl,(Zq BK83001.out 2).trans rfl⟩ (fun hHeld=>?_)
  generalize w7.drew=w8 at BK83001 HB hHeld ⊢
  refine ZO (i:=1) (N:=some 10) (v:=?_) (a':=?_) #[false,true,false,false,false] rfl rfl (by kernel_rfl) (fun _ _ _ h=>h) (Or.inl ⟨by rfl,?_⟩) ?_ ?_
  rotate_left
  ·intro w'
   go_simp
   with_reducible rfl
  rotate_left
  ·simp only[Act.put,List.setIfInBounds_toArray,List.set_cons_zero,List.set_cons_succ,ZC,ZD]
   rfl
  refine take_ (i:=0) (N:=some 9) (v:=?_) (a':=?_) #[true,true,false,false,false] rfl rfl (by kernel_rfl) (fun _ _ _ h=>h) (Or.inl ⟨by rfl,?_⟩) hHeld ?_ ?_
  rotate_left
  ·rintro w' ⟨s0,s1,s2⟩
   go_simp
   with_reducible rfl
  rotate_left
  ·simp only[Act.put,List.setIfInBounds_toArray,List.set_cons_zero,List.set_cons_succ,ZC,ZD]
   rfl
  refine one_ (i:=2) (N:=some 11) #[true,true,true,false,false] rfl rfl (by kernel_rfl) (by decide) (fun K hK=>?_)
  refine ZaX Tryd.func39 (by kernel_rfl) rfl #[.int .i64 a2] (by rfl) rfl rfl (by(try simp only[List.map_toArray,List.map_cons,List.map_nil]);first|done|rfl|(simp only[Zk,Zj];rfl)) ?_
  with_reducible refine(Zaq.calls a2 t83002 _ A4.out).mono ?_
  rintro e w9 ⟨rfl,hb⟩
  refine⟨_,rfl,?_⟩
  replace BK83001:=Za (ZB (g:=gb83001) (o:=.cells #[.slice A0_0 l0_0.length c0_0,.slice A0_1 l0_1.length c0_1,.int .i64 a0_2] 36 (0,0)) (by(with_reducible repeat(first|refine Zu ?_ _|refine Zv ?_|refine Zs ?_ _));exact BK83001.out) hb);replace HB:=Za (Zx (by repeat(first|(with_reducible first|exact HB.out|apply Zn|apply Zm|apply Zo|refine Zr ?_ GE83001.out)|exact HB.out)) hb)
  (try clear hb)
  (try clear hb2)
  (try clear hk)
  (try clear hi)
  refine hK.out _ _ ⟨(Zq BK83001.out 0).trans rfl,(Zq BK83001.out 1).trans rfl,(Zq BK83001.out 2).trans rfl⟩ (fun hHeld=>?_)
  clear hK K
  refine ZaE (a':=?_) ?_ ?_
  rotate_left
  ·show Act.put _ (some 11) _=_
   simp only[Act.put,List.setIfInBounds_toArray,List.set_cons_zero,List.set_cons_succ,ZC,ZD]
   rfl
  refine one_ (i:=3) (N:=some 12) #[true,true,true,true,false] rfl rfl (by kernel_rfl) (by decide) (fun K hK=>?_)
  refine ZaX Tryd.func115 (by kernel_rfl) rfl #[.agg #[.slice A0_0 l0_0.length c0_0,.slice A0_1 l0_1.length c0_1,.int .i64 a0_2],.int .i64 t83002] (by rfl) rfl rfl (by(try simp only[List.map_toArray,List.map_cons,List.map_nil]);first|done|rfl|(simp only[Zk,Zj];rfl)) ?_
  with_reducible refine(Za8.calls _ _ l0_0 _ _ l0_1 a0_2 t83002 t83003 _ ?side1 ?side2 ?side3 ?side4 A5.out).mono ?_
  (case side1=>repeat(first|exact(Zb HR0_0.out HB.out)|(with_reducible refine Kd.C_alloc ?_ _)|(with_reducible refine Kd.C_drewN ?_ _)|(with_reducible refine Kd.C_drew ?_)))
  (case side2=>exact HC0_0.out)
  (case side3=>repeat(first|exact(Zb HR0_1.out HB.out)|(with_reducible refine Kd.C_alloc ?_ _)|(with_reducible refine Kd.C_drewN ?_ _)|(with_reducible refine Kd.C_drew ?_)))
  (case side4=>exact HC0_1.out)
  rintro e w10 ⟨rfl,hb⟩
  refine⟨_,rfl,?_⟩
  replace BK83001:=Za (ZB (g:=gb83001) (o:=.cells #[.slice A0_0 l0_0.length c0_0,.slice A0_1 l0_1.length c0_1,.int .i64 a0_2] 36 (0,0)) (by(with_reducible repeat(first|refine Zu ?_ _|refine Zv ?_|refine Zs ?_ _));exact BK83001.out) hb);replace HB:=Za (Zx (by repeat(first|(with_reducible first|exact HB.out|apply Zn|apply Zm|apply Zo|refine Zr ?_ GE83001.out)|exact HB.out)) hb)
  (try clear hb)
  (try clear hb2)
  (try clear hk)
  (try clear hi)
  refine hK.out _ _ ⟨(Zq BK83001.out 0).trans rfl,(Zq BK83001.out 1).trans rfl,(Zq BK83001.out 2).trans rfl⟩ (fun hHeld=>?_)
  clear hK K
  refine ZaE (a':=?_) ?_ ?_
  rotate_left
  ·show Act.put _ (some 12) _=_
   simp only[Act.put,List.setIfInBounds_toArray,List.set_cons_zero,List.set_cons_succ,ZC,ZD]
   rfl
  refine ZO (i:=4) (N:=some 7) (v:=?_) (a':=?_) #[true,true,true,true,true] rfl rfl (by kernel_rfl) (fun _ _ _ h=>h) (Or.inl ⟨by rfl,?_⟩) ?_ ?_
  rotate_left
  ·intro w'
   go_simp
   with_reducible rfl
  rotate_left
  ·simp only[Act.put,List.setIfInBounds_toArray,List.set_cons_zero,List.set_cons_succ,ZC,ZD]
   rfl
  refine ZbJ (by kernel_rfl) ?_
  try go_wp2
  go_ret
  exact⟨by first|rfl|(simp[ZA,Zz] <;> rfl)|(simp[*,ZA,Zz] <;> rfl),by repeat(first|(with_reducible first|exact HB.out|apply Zn|apply Zm|apply Zo|refine Zr ?_ GE83001.out)|exact HB.out)⟩
 ·rw[if_neg c6] at H
  have c6b0:decide (t83003<0)=false:=Zf c6
  clear c6
  by_cases c11:0≤t83003
  ·rw[if_pos c11] at H
   have c11b0:decide (0≤t83003)=true:=Ze c11
   clear c11
   by_cases c12:t83003<(l0_0.length:Int)
   ·rw[if_pos c12] at H
    have c12b0:decide (t83003<(l0_0.length:Int))=true:=Ze c12
    clear c12
    replace H:=Zh H
    obtain⟨t83005,A130,H⟩:=H
    replace H:(if t83005=true then(some false) else((ZW.f ((Zp l0_0 t83003).f1) (wrap64 (-a2))).bind fun t83006=>(if t83006=true then(some false) else((Zap.f k l1 ((Zp l0_0 t83003).f1)).bind fun t83007=>(some t83007)))))=some r:=H
    have A13:=Za A130;clear A130
    by_cases c14:t83005=true
    ·subst c14
     have H1:(some false)=some r:=by rw[if_pos rfl] at H;exact H
     clear H
     have H:=H1
     clear H1
     obtain rfl:=Zg H
     go_enter Tryd.func83,Tryd.ntmps83
     try go_wp2_with (first|((with_reducible refine ZN (N:=3) rfl ?_);refine ZP ?hg (N:=3) ?hd (cs:=#[.slice A0_0 l0_0.length c0_0,.slice A0_1 l0_1.length c0_1,.int .i64 a0_2]) (t:=36) ?hr ?_;(case hd=>rfl);(case hg=>rfl);(case hr=>first|(go_simp;done)|(go_simp;rfl));intro gb83001 hg w15 hbox hb;have BK83001:=Za (hbox);have GW83001:=Za ((by rw[hg];exact(Zy (by repeat(first|(with_reducible first|exact HB.out|apply Zn|apply Zm|apply Zo)|exact HB.out))):w.heap.size≤gb83001));have GE83001:=Za ((by rw[hg];exact(Zy (by repeat(first|(with_reducible first|exact HB.out|apply Zn|apply Zm|apply Zo)|exact HB.out))):w.heap.size≤gb83001));replace HB:=Za (Zx (by repeat(first|(with_reducible first|exact HB.out|apply Zn|apply Zm|apply Zo)|exact HB.out)) hb);clear hb hbox hg))
     replace BK83001:=Za (Zv BK83001.out);replace HB:=Za (Zo HB.out)
     refine Zbq (n:=5) (S:=fun w'=>w'.cell? ⟨gb83001,0,none⟩=some (.slice A0_0 l0_0.length c0_0)∧w'.cell? ⟨gb83001,1,none⟩=some (.slice A0_1 l0_1.length c0_1)∧w'.cell? ⟨gb83001,2,none⟩=some (.int .i64 a0_2)) (ds:=[]) #[false,false,false,false,false] (by kernel_rfl) rfl rfl ⟨(Zq BK83001.out 0).trans rfl,(Zq BK83001.out 1).trans rfl,(Zq BK83001.out 2).trans rfl⟩ (fun hHeld=>?_)
     generalize w15.drew=w16 at BK83001 HB hHeld ⊢
     refine ZO (i:=1) (N:=some 10) (v:=?_) (a':=?_) #[false,true,false,false,false] rfl rfl (by kernel_rfl) (fun _ _ _ h=>h) (Or.inl ⟨by rfl,?_⟩) ?_ ?_
     rotate_left
     ·intro w'
      go_simp
      with_reducible rfl
     rotate_left
     ·simp only[Act.put,List.setIfInBounds_toArray,List.set_cons_zero,List.set_cons_succ,ZC,ZD]
      rfl
     refine take_ (i:=0) (N:=some 9) (v:=?_) (a':=?_) #[true,true,false,false,false] rfl rfl (by kernel_rfl) (fun _ _ _ h=>h) (Or.inl ⟨by rfl,?_⟩) hHeld ?_ ?_
     rotate_left
     ·rintro w' ⟨s0,s1,s2⟩
      go_simp
      with_reducible rfl
     rotate_left
     ·simp only[Act.put,List.setIfInBounds_toArray,List.set_cons_zero,List.set_cons_succ,ZC,ZD]
      rfl
     refine one_ (i:=2) (N:=some 11) #[true,true,true,false,false] rfl rfl (by kernel_rfl) (by decide) (fun K hK=>?_)
     refine ZaX Tryd.func39 (by kernel_rfl) rfl #[.int .i64 a2] (by rfl) rfl rfl (by(try simp only[List.map_toArray,List.map_cons,List.map_nil]);first|done|rfl|(simp only[Zk,Zj];rfl)) ?_
     with_reducible refine(Zaq.calls a2 t83002 _ A4.out).mono ?_
     rintro e w17 ⟨rfl,hb⟩
     refine⟨_,rfl,?_⟩
     replace BK83001:=Za (ZB (g:=gb83001) (o:=.cells #[.slice A0_0 l0_0.length c0_0,.slice A0_1 l0_1.length c0_1,.int .i64 a0_2] 36 (0,0)) (by(with_reducible repeat(first|refine Zu ?_ _|refine Zv ?_|refine Zs ?_ _));exact BK83001.out) hb);replace HB:=Za (Zx (by repeat(first|(with_reducible first|exact HB.out|apply Zn|apply Zm|apply Zo|refine Zr ?_ GE83001.out)|exact HB.out)) hb)
     (try clear hb)
     (try clear hb2)
     (try clear hk)
     (try clear hi)
     refine hK.out _ _ ⟨(Zq BK83001.out 0).trans rfl,(Zq BK83001.out 1).trans rfl,(Zq BK83001.out 2).trans rfl⟩ (fun hHeld=>?_)
     clear hK K
     refine ZaE (a':=?_) ?_ ?_
     rotate_left
     ·show Act.put _ (some 11) _=_
      simp only[Act.put,List.setIfInBounds_toArray,List.set_cons_zero,List.set_cons_succ,ZC,ZD]
      rfl
     refine one_ (i:=3) (N:=some 12) #[true,true,true,true,false] rfl rfl (by kernel_rfl) (by decide) (fun K hK=>?_)
     refine ZaX Tryd.func115 (by kernel_rfl) rfl #[.agg #[.slice A0_0 l0_0.length c0_0,.slice A0_1 l0_1.length c0_1,.int .i64 a0_2],.int .i64 t83002] (by rfl) rfl rfl (by(try simp only[List.map_toArray,List.map_cons,List.map_nil]);first|done|rfl|(simp only[Zk,Zj];rfl)) ?_
     with_reducible refine(Za8.calls _ _ l0_0 _ _ l0_1 a0_2 t83002 t83003 _ ?side1 ?side2 ?side3 ?side4 A5.out).mono ?_
     (case side1=>repeat(first|exact(Zb HR0_0.out HB.out)|(with_reducible refine Kd.C_alloc ?_ _)|(with_reducible refine Kd.C_drewN ?_ _)|(with_reducible refine Kd.C_drew ?_)))
     (case side2=>exact HC0_0.out)
     (case side3=>repeat(first|exact(Zb HR0_1.out HB.out)|(with_reducible refine Kd.C_alloc ?_ _)|(with_reducible refine Kd.C_drewN ?_ _)|(with_reducible refine Kd.C_drew ?_)))
     (case side4=>exact HC0_1.out)
     rintro e w18 ⟨rfl,hb⟩
     refine⟨_,rfl,?_⟩
     replace BK83001:=Za (ZB (g:=gb83001) (o:=.cells #[.slice A0_0 l0_0.length c0_0,.slice A0_1 l0_1.length c0_1,.int .i64 a0_2] 36 (0,0)) (by(with_reducible repeat(first|refine Zu ?_ _|refine Zv ?_|refine Zs ?_ _));exact BK83001.out) hb);replace HB:=Za (Zx (by repeat(first|(with_reducible first|exact HB.out|apply Zn|apply Zm|apply Zo|refine Zr ?_ GE83001.out)|exact HB.out)) hb)
     (try clear hb)
     (try clear hb2)
     (try clear hk)
     (try clear hi)
     refine hK.out _ _ ⟨(Zq BK83001.out 0).trans rfl,(Zq BK83001.out 1).trans rfl,(Zq BK83001.out 2).trans rfl⟩ (fun hHeld=>?_)
     clear hK K
     refine ZaE (a':=?_) ?_ ?_
     rotate_left
     ·show Act.put _ (some 12) _=_
      simp only[Act.put,List.setIfInBounds_toArray,List.set_cons_zero,List.set_cons_succ,ZC,ZD]
      rfl
     refine ZO (i:=4) (N:=some 7) (v:=?_) (a':=?_) #[true,true,true,true,true] rfl rfl (by kernel_rfl) (fun _ _ _ h=>h) (Or.inl ⟨by rfl,?_⟩) ?_ ?_
     rotate_left
     ·intro w'
      go_simp
      with_reducible rfl
     rotate_left
     ·simp only[Act.put,List.setIfInBounds_toArray,List.set_cons_zero,List.set_cons_succ,ZC,ZD]
      rfl
     refine ZbJ (by kernel_rfl) ?_
     have hcz19_0:w18.cell? ⟨gb83001,0,none⟩=some (.slice A0_0 l0_0.length c0_0):=(Zq BK83001.out 0).trans rfl
     have hcz19_1:w18.cell? ⟨gb83001,1,none⟩=some (.slice A0_1 l0_1.length c0_1):=(Zq BK83001.out 1).trans rfl
     have hcz19_2:w18.cell? ⟨gb83001,2,none⟩=some (.int .i64 a0_2):=(Zq BK83001.out 2).trans rfl
     have hfz19_0:=Zt BK83001.out 0
     have hfz19_1:=Zt BK83001.out 1
     have hfz19_2:=Zt BK83001.out 2
     have p83004:0≤(t83003:Int):=Zd (by first|(with_reducible assumption)|assumption)
     have q83004:t83003<(l0_0.length:Int):=Zd (by first|(with_reducible assumption)|assumption)
     obtain⟨ad83004,A83004_1,c83004_1,e83004,hx83004_0,hx83004_1,hx83004_2,hl83004_1,hi83004_1⟩:=Zan HR0_0.out t83003 p83004 q83004
     cases e83004
     replace hx83004_0:=(HB.out.cell (Zc w _ hx83004_0)).trans hx83004_0
     replace hx83004_1:=(HB.out.cell (Zc w _ hx83004_1)).trans hx83004_1
     replace hx83004_2:=(HB.out.cell (Zc w _ hx83004_2)).trans hx83004_2
     have HR83004_1:=Za hi83004_1;have HC83004_1:=Za hl83004_1;clear hi83004_1 hl83004_1
     replace p83004:=eq_true p83004
     replace q83004:=eq_true q83004
     try go_wp2_with (first|((with_reducible refine ZG (f:=62) rfl ?_);refine ZX (some 23) rfl rfl Tryd.func62 (by kernel_rfl) rfl #[.slice A83004_1 ((Zp l0_0 t83003).f1).length c83004_1,.int .i64 a2] rfl (by(try simp only[List.map_toArray,List.map_cons,List.map_nil]);first|done|rfl|(simp only[Zk,Zj];rfl)) ?_;(with_reducible refine(ZW.calls _ _ ((Zp l0_0 t83003).f1) a2 true _ ?side1 ?side2 A13.out).mono ?_);(case side1=>repeat(first|exact(Zb HR83004_1.out HB.out)|(with_reducible refine Kd.C_alloc ?_ _)|(with_reducible refine Kd.C_drewN ?_ _)|(with_reducible refine Kd.C_drew ?_)));(case side2=>exact HC83004_1.out);rintro e w20 ⟨rfl,hb⟩;refine⟨_,rfl,?_⟩;replace BK83001:=Za (ZB (g:=gb83001) (o:=.cells #[.slice (some ad83004) l0_0.length c0_0,.slice A0_1 l0_1.length c0_1,.int .i64 a0_2] 36 (0,0)) (by(with_reducible repeat(first|refine Zu ?_ _|refine Zv ?_|refine Zs ?_ _));exact BK83001.out) hb);replace HB:=Za (Zx (by repeat(first|(with_reducible first|exact HB.out|apply Zn|apply Zm|apply Zo|refine Zr ?_ GE83001.out)|exact HB.out)) hb);(try clear hb);(try clear hb2);(try clear hk);(try clear hi)))
     go_ret
     exact⟨by first|rfl|(simp[ZA,Zz] <;> rfl)|(simp[*,ZA,Zz] <;> rfl),by repeat(first|(with_reducible first|exact HB.out|apply Zn|apply Zm|apply Zo|refine Zr ?_ GE83001.out)|exact HB.out)⟩
    ·replace c14:=Bool.eq_false_iff.mpr c14
     subst c14
     have H1:((ZW.f ((Zp l0_0 t83003).f1) (wrap64 (-a2))).bind fun t83006=>(if t83006=true then(some false) else((Zap.f k l1 ((Zp l0_0 t83003).f1)).bind fun t83007=>(some t83007))))=some r:=by rw[if_neg (show ¬(false=true) by decide)] at H;exact H
     clear H
     have H:=H1
     clear H1
     replace H:=Zh H
     obtain⟨t83006,A210,H⟩:=H
     replace H:(if t83006=true then(some false) else((Zap.f k l1 ((Zp l0_0 t83003).f1)).bind fun t83007=>(some t83007)))=some r:=H
     have A21:=Za A210;clear A210
     by_cases c22:t83006=true
     ·subst c22
      have H1:(some false)=some r:=by rw[if_pos rfl] at H;exact H
      clear H
      have H:=H1
      clear H1
      obtain rfl:=Zg H
      go_enter Tryd.func83,Tryd.ntmps83
      try go_wp2_with (first|((with_reducible refine ZN (N:=3) rfl ?_);refine ZP ?hg (N:=3) ?hd (cs:=#[.slice A0_0 l0_0.length c0_0,.slice A0_1 l0_1.length c0_1,.int .i64 a0_2]) (t:=36) ?hr ?_;(case hd=>rfl);(case hg=>rfl);(case hr=>first|(go_simp;done)|(go_simp;rfl));intro gb83001 hg w23 hbox hb;have BK83001:=Za (hbox);have GW83001:=Za ((by rw[hg];exact(Zy (by repeat(first|(with_reducible first|exact HB.out|apply Zn|apply Zm|apply Zo)|exact HB.out))):w.heap.size≤gb83001));have GE83001:=Za ((by rw[hg];exact(Zy (by repeat(first|(with_reducible first|exact HB.out|apply Zn|apply Zm|apply Zo)|exact HB.out))):w.heap.size≤gb83001));replace HB:=Za (Zx (by repeat(first|(with_reducible first|exact HB.out|apply Zn|apply Zm|apply Zo)|exact HB.out)) hb);clear hb hbox hg))
      replace BK83001:=Za (Zv BK83001.out);replace HB:=Za (Zo HB.out)
      refine Zbq (n:=5) (S:=fun w'=>w'.cell? ⟨gb83001,0,none⟩=some (.slice A0_0 l0_0.length c0_0)∧w'.cell? ⟨gb83001,1,none⟩=some (.slice A0_1 l0_1.length c0_1)∧w'.cell? ⟨gb83001,2,none⟩=some (.int .i64 a0_2)) (ds:=[]) #[false,false,false,false,false] (by kernel_rfl) rfl rfl ⟨(Zq BK83001.out 0).trans rfl,(Zq BK83001.out 1).trans rfl,(Zq BK83001.out 2).trans rfl⟩ (fun hHeld=>?_)
      generalize w23.drew=w24 at BK83001 HB hHeld ⊢
      refine ZO (i:=1) (N:=some 10) (v:=?_) (a':=?_) #[false,true,false,false,false] rfl rfl (by kernel_rfl) (fun _ _ _ h=>h) (Or.inl ⟨by rfl,?_⟩) ?_ ?_
      rotate_left
      ·intro w'
       go_simp
       with_reducible rfl
      rotate_left
      ·simp only[Act.put,List.setIfInBounds_toArray,List.set_cons_zero,List.set_cons_succ,ZC,ZD]
       rfl
      refine take_ (i:=0) (N:=some 9) (v:=?_) (a':=?_) #[true,true,false,false,false] rfl rfl (by kernel_rfl) (fun _ _ _ h=>h) (Or.inl ⟨by rfl,?_⟩) hHeld ?_ ?_
      rotate_left
      ·rintro w' ⟨s0,s1,s2⟩
       go_simp
       with_reducible rfl
      rotate_left
      ·simp only[Act.put,List.setIfInBounds_toArray,List.set_cons_zero,List.set_cons_succ,ZC,ZD]
       rfl
      refine one_ (i:=2) (N:=some 11) #[true,true,true,false,false] rfl rfl (by kernel_rfl) (by decide) (fun K hK=>?_)
      refine ZaX Tryd.func39 (by kernel_rfl) rfl #[.int .i64 a2] (by rfl) rfl rfl (by(try simp only[List.map_toArray,List.map_cons,List.map_nil]);first|done|rfl|(simp only[Zk,Zj];rfl)) ?_
      with_reducible refine(Zaq.calls a2 t83002 _ A4.out).mono ?_
      rintro e w25 ⟨rfl,hb⟩
      refine⟨_,rfl,?_⟩
      replace BK83001:=Za (ZB (g:=gb83001) (o:=.cells #[.slice A0_0 l0_0.length c0_0,.slice A0_1 l0_1.length c0_1,.int .i64 a0_2] 36 (0,0)) (by(with_reducible repeat(first|refine Zu ?_ _|refine Zv ?_|refine Zs ?_ _));exact BK83001.out) hb);replace HB:=Za (Zx (by repeat(first|(with_reducible first|exact HB.out|apply Zn|apply Zm|apply Zo|refine Zr ?_ GE83001.out)|exact HB.out)) hb)
      (try clear hb)
      (try clear hb2)
      (try clear hk)
      (try clear hi)
      refine hK.out _ _ ⟨(Zq BK83001.out 0).trans rfl,(Zq BK83001.out 1).trans rfl,(Zq BK83001.out 2).trans rfl⟩ (fun hHeld=>?_)
      clear hK K
      refine ZaE (a':=?_) ?_ ?_
      rotate_left
      ·show Act.put _ (some 11) _=_
       simp only[Act.put,List.setIfInBounds_toArray,List.set_cons_zero,List.set_cons_succ,ZC,ZD]
       rfl
      refine one_ (i:=3) (N:=some 12) #[true,true,true,true,false] rfl rfl (by kernel_rfl) (by decide) (fun K hK=>?_)
      refine ZaX Tryd.func115 (by kernel_rfl) rfl #[.agg #[.slice A0_0 l0_0.length c0_0,.slice A0_1 l0_1.length c0_1,.int .i64 a0_2],.int .i64 t83002] (by rfl) rfl rfl (by(try simp only[List.map_toArray,List.map_cons,List.map_nil]);first|done|rfl|(simp only[Zk,Zj];rfl)) ?_
      with_reducible refine(Za8.calls _ _ l0_0 _ _ l0_1 a0_2 t83002 t83003 _ ?side1 ?side2 ?side3 ?side4 A5.out).mono ?_
      (case side1=>repeat(first|exact(Zb HR0_0.out HB.out)|(with_reducible refine Kd.C_alloc ?_ _)|(with_reducible refine Kd.C_drewN ?_ _)|(with_reducible refine Kd.C_drew ?_)))
      (case side2=>exact HC0_0.out)
      (case side3=>repeat(first|exact(Zb HR0_1.out HB.out)|(with_reducible refine Kd.C_alloc ?_ _)|(with_reducible refine Kd.C_drewN ?_ _)|(with_reducible refine Kd.C_drew ?_)))
      (case side4=>exact HC0_1.out)
      rintro e w26 ⟨rfl,hb⟩
      refine⟨_,rfl,?_⟩
      replace BK83001:=Za (ZB (g:=gb83001) (o:=.cells #[.slice A0_0 l0_0.length c0_0,.slice A0_1 l0_1.length c0_1,.int .i64 a0_2] 36 (0,0)) (by(with_reducible repeat(first|refine Zu ?_ _|refine Zv ?_|refine Zs ?_ _));exact BK83001.out) hb);replace HB:=Za (Zx (by repeat(first|(with_reducible first|exact HB.out|apply Zn|apply Zm|apply Zo|refine Zr ?_ GE83001.out)|exact HB.out)) hb)
      (try clear hb)
      (try clear hb2)
      (try clear hk)
      (try clear hi)
      refine hK.out _ _ ⟨(Zq BK83001.out 0).trans rfl,(Zq BK83001.out 1).trans rfl,(Zq BK83001.out 2).trans rfl⟩ (fun hHeld=>?_)
      clear hK K
      refine ZaE (a':=?_) ?_ ?_
      rotate_left
      ·show Act.put _ (some 12) _=_
       simp only[Act.put,List.setIfInBounds_toArray,List.set_cons_zero,List.set_cons_succ,ZC,ZD]
       rfl
      refine ZO (i:=4) (N:=some 7) (v:=?_) (a':=?_) #[true,true,true,true,true] rfl rfl (by kernel_rfl) (fun _ _ _ h=>h) (Or.inl ⟨by rfl,?_⟩) ?_ ?_
      rotate_left
      ·intro w'
       go_simp
       with_reducible rfl
      rotate_left
      ·simp only[Act.put,List.setIfInBounds_toArray,List.set_cons_zero,List.set_cons_succ,ZC,ZD]
       rfl
      refine ZbJ (by kernel_rfl) ?_
      have hcz27_0:w26.cell? ⟨gb83001,0,none⟩=some (.slice A0_0 l0_0.length c0_0):=(Zq BK83001.out 0).trans rfl
      have hcz27_1:w26.cell? ⟨gb83001,1,none⟩=some (.slice A0_1 l0_1.length c0_1):=(Zq BK83001.out 1).trans rfl
      have hcz27_2:w26.cell? ⟨gb83001,2,none⟩=some (.int .i64 a0_2):=(Zq BK83001.out 2).trans rfl
      have hfz27_0:=Zt BK83001.out 0
      have hfz27_1:=Zt BK83001.out 1
      have hfz27_2:=Zt BK83001.out 2
      have p83004:0≤(t83003:Int):=Zd (by first|(with_reducible assumption)|assumption)
      have q83004:t83003<(l0_0.length:Int):=Zd (by first|(with_reducible assumption)|assumption)
      obtain⟨ad83004,A83004_1,c83004_1,e83004,hx83004_0,hx83004_1,hx83004_2,hl83004_1,hi83004_1⟩:=Zan HR0_0.out t83003 p83004 q83004
      cases e83004
      replace hx83004_0:=(HB.out.cell (Zc w _ hx83004_0)).trans hx83004_0
      replace hx83004_1:=(HB.out.cell (Zc w _ hx83004_1)).trans hx83004_1
      replace hx83004_2:=(HB.out.cell (Zc w _ hx83004_2)).trans hx83004_2
      have HR83004_1:=Za hi83004_1;have HC83004_1:=Za hl83004_1;clear hi83004_1 hl83004_1
      replace p83004:=eq_true p83004
      replace q83004:=eq_true q83004
      try go_wp2_with (first|((with_reducible refine ZG (f:=62) rfl ?_);refine ZX (some 23) rfl rfl Tryd.func62 (by kernel_rfl) rfl #[.slice A83004_1 ((Zp l0_0 t83003).f1).length c83004_1,.int .i64 a2] rfl (by(try simp only[List.map_toArray,List.map_cons,List.map_nil]);first|done|rfl|(simp only[Zk,Zj];rfl)) ?_;(with_reducible refine(ZW.calls _ _ ((Zp l0_0 t83003).f1) a2 false _ ?side1 ?side2 A13.out).mono ?_);(case side1=>repeat(first|exact(Zb HR83004_1.out HB.out)|(with_reducible refine Kd.C_alloc ?_ _)|(with_reducible refine Kd.C_drewN ?_ _)|(with_reducible refine Kd.C_drew ?_)));(case side2=>exact HC83004_1.out);rintro e w28 ⟨rfl,hb⟩;refine⟨_,rfl,?_⟩;replace BK83001:=Za (ZB (g:=gb83001) (o:=.cells #[.slice (some ad83004) l0_0.length c0_0,.slice A0_1 l0_1.length c0_1,.int .i64 a0_2] 36 (0,0)) (by(with_reducible repeat(first|refine Zu ?_ _|refine Zv ?_|refine Zs ?_ _));exact BK83001.out) hb);replace HB:=Za (Zx (by repeat(first|(with_reducible first|exact HB.out|apply Zn|apply Zm|apply Zo|refine Zr ?_ GE83001.out)|exact HB.out)) hb);(try clear hb);(try clear hb2);(try clear hk);(try clear hi))|(go_at_call 62;(with_reducible refine(ZW.calls _ _ ((Zp l0_0 t83003).f1) (wrap64 (-a2)) true _ ?side1 ?side2 A21.out).mono ?_);(case side1=>repeat(first|exact(Zb HR83004_1.out HB.out)|(with_reducible refine Kd.C_alloc ?_ _)|(with_reducible refine Kd.C_drewN ?_ _)|(with_reducible refine Kd.C_drew ?_)));(case side2=>exact HC83004_1.out);rintro e w29 ⟨rfl,hb⟩;replace BK83001:=Za (ZB (g:=gb83001) (o:=.cells #[.slice (some ad83004) l0_0.length c0_0,.slice A0_1 l0_1.length c0_1,.int .i64 a0_2] 36 (0,0)) (by(with_reducible repeat(first|refine Zu ?_ _|refine Zv ?_|refine Zs ?_ _));exact BK83001.out) hb);replace HB:=Za (Zx (by repeat(first|(with_reducible first|exact HB.out|apply Zn|apply Zm|apply Zo|refine Zr ?_ GE83001.out)|exact HB.out)) hb);(try clear hb);(try clear hb2);(try clear hk);(try clear hi)))
      go_ret
      exact⟨by first|rfl|(simp[ZA,Zz] <;> rfl)|(simp[*,ZA,Zz] <;> rfl),by repeat(first|(with_reducible first|exact HB.out|apply Zn|apply Zm|apply Zo|refine Zr ?_ GE83001.out)|exact HB.out)⟩
     ·replace c22:=Bool.eq_false_iff.mpr c22
      subst c22
      have H1:((Zap.f k l1 ((Zp l0_0 t83003).f1)).bind fun t83007=>(some t83007))=some r:=by rw[if_neg (show ¬(false=true) by decide)] at H;exact H
      clear H
      have H:=H1
      clear H1
      replace H:=Zh H
      obtain⟨t83007,A300,H⟩:=H
      replace H:(some t83007)=some r:=H
      have A30:=Za A300;clear A300
      obtain rfl:=Zg H
      go_enter Tryd.func83,Tryd.ntmps83
      try go_wp2_with (first|((with_reducible refine ZN (N:=3) rfl ?_);refine ZP ?hg (N:=3) ?hd (cs:=#[.slice A0_0 l0_0.length c0_0,.slice A0_1 l0_1.length c0_1,.int .i64 a0_2]) (t:=36) ?hr ?_;(case hd=>rfl);(case hg=>rfl);(case hr=>first|(go_simp;done)|(go_simp;rfl));intro gb83001 hg w31 hbox hb;have BK83001:=Za (hbox);have GW83001:=Za ((by rw[hg];exact(Zy (by repeat(first|(with_reducible first|exact HB.out|apply Zn|apply Zm|apply Zo)|exact HB.out))):w.heap.size≤gb83001));have GE83001:=Za ((by rw[hg];exact(Zy (by repeat(first|(with_reducible first|exact HB.out|apply Zn|apply Zm|apply Zo)|exact HB.out))):w.heap.size≤gb83001));replace HB:=Za (Zx (by repeat(first|(with_reducible first|exact HB.out|apply Zn|apply Zm|apply Zo)|exact HB.out)) hb);clear hb hbox hg))
      replace BK83001:=Za (Zv BK83001.out);replace HB:=Za (Zo HB.out)
      refine Zbq (n:=5) (S:=fun w'=>w'.cell? ⟨gb83001,0,none⟩=some (.slice A0_0 l0_0.length c0_0)∧w'.cell? ⟨gb83001,1,none⟩=some (.slice A0_1 l0_1.length c0_1)∧w'.cell? ⟨gb83001,2,none⟩=some (.int .i64 a0_2)) (ds:=[]) #[false,false,false,false,false] (by kernel_rfl) rfl rfl ⟨(Zq BK83001.out 0).trans rfl,(Zq BK83001.out 1).trans rfl,(Zq BK83001.out 2).trans rfl⟩ (fun hHeld=>?_)
      generalize w31.drew=w32 at BK83001 HB hHeld ⊢
      refine ZO (i:=1) (N:=some 10) (v:=?_) (a':=?_) #[false,true,false,false,false] rfl rfl (by kernel_rfl) (fun _ _ _ h=>h) (Or.inl ⟨by rfl,?_⟩) ?_ ?_
      rotate_left
      ·intro w'
       go_simp
       with_reducible rfl
      rotate_left
      ·simp only[Act.put,List.setIfInBounds_toArray,List.set_cons_zero,List.set_cons_succ,ZC,ZD]
       rfl
      refine take_ (i:=0) (N:=some 9) (v:=?_) (a':=?_) #[true,true,false,false,false] rfl rfl (by kernel_rfl) (fun _ _ _ h=>h) (Or.inl ⟨by rfl,?_⟩) hHeld ?_ ?_
      rotate_left
      ·rintro w' ⟨s0,s1,s2⟩
       go_simp
       with_reducible rfl
      rotate_left
      ·simp only[Act.put,List.setIfInBounds_toArray,List.set_cons_zero,List.set_cons_succ,ZC,ZD]
       rfl
      refine one_ (i:=2) (N:=some 11) #[true,true,true,false,false] rfl rfl (by kernel_rfl) (by decide) (fun K hK=>?_)
      refine ZaX Tryd.func39 (by kernel_rfl) rfl #[.int .i64 a2] (by rfl) rfl rfl (by(try simp only[List.map_toArray,List.map_cons,List.map_nil]);first|done|rfl|(simp only[Zk,Zj];rfl)) ?_
      with_reducible refine(Zaq.calls a2 t83002 _ A4.out).mono ?_
      rintro e w33 ⟨rfl,hb⟩
      refine⟨_,rfl,?_⟩
      replace BK83001:=Za (ZB (g:=gb83001) (o:=.cells #[.slice A0_0 l0_0.length c0_0,.slice A0_1 l0_1.length c0_1,.int .i64 a0_2] 36 (0,0)) (by(with_reducible repeat(first|refine Zu ?_ _|refine Zv ?_|refine Zs ?_ _));exact BK83001.out) hb);replace HB:=Za (Zx (by repeat(first|(with_reducible first|exact HB.out|apply Zn|apply Zm|apply Zo|refine Zr ?_ GE83001.out)|exact HB.out)) hb)
      (try clear hb)
      (try clear hb2)
      (try clear hk)
      (try clear hi)
      refine hK.out _ _ ⟨(Zq BK83001.out 0).trans rfl,(Zq BK83001.out 1).trans rfl,(Zq BK83001.out 2).trans rfl⟩ (fun hHeld=>?_)
      clear hK K
      refine ZaE (a':=?_) ?_ ?_
      rotate_left
      ·show Act.put _ (some 11) _=_
       simp only[Act.put,List.setIfInBounds_toArray,List.set_cons_zero,List.set_cons_succ,ZC,ZD]
       rfl
      refine one_ (i:=3) (N:=some 12) #[true,true,true,true,false] rfl rfl (by kernel_rfl) (by decide) (fun K hK=>?_)
      refine ZaX Tryd.func115 (by kernel_rfl) rfl #[.agg #[.slice A0_0 l0_0.length c0_0,.slice A0_1 l0_1.length c0_1,.int .i64 a0_2],.int .i64 t83002] (by rfl) rfl rfl (by(try simp only[List.map_toArray,List.map_cons,List.map_nil]);first|done|rfl|(simp only[Zk,Zj];rfl)) ?_
      with_reducible refine(Za8.calls _ _ l0_0 _ _ l0_1 a0_2 t83002 t83003 _ ?side1 ?side2 ?side3 ?side4 A5.out).mono ?_
      (case side1=>repeat(first|exact(Zb HR0_0.out HB.out)|(with_reducible refine Kd.C_alloc ?_ _)|(with_reducible refine Kd.C_drewN ?_ _)|(with_reducible refine Kd.C_drew ?_)))
      (case side2=>exact HC0_0.out)
      (case side3=>repeat(first|exact(Zb HR0_1.out HB.out)|(with_reducible refine Kd.C_alloc ?_ _)|(with_reducible refine Kd.C_drewN ?_ _)|(with_reducible refine Kd.C_drew ?_)))
      (case side4=>exact HC0_1.out)
      rintro e w34 ⟨rfl,hb⟩
      refine⟨_,rfl,?_⟩
      replace BK83001:=Za (ZB (g:=gb83001) (o:=.cells #[.slice A0_0 l0_0.length c0_0,.slice A0_1 l0_1.length c0_1,.int .i64 a0_2] 36 (0,0)) (by(with_reducible repeat(first|refine Zu ?_ _|refine Zv ?_|refine Zs ?_ _));exact BK83001.out) hb);replace HB:=Za (Zx (by repeat(first|(with_reducible first|exact HB.out|apply Zn|apply Zm|apply Zo|refine Zr ?_ GE83001.out)|exact HB.out)) hb)
      (try clear hb)
      (try clear hb2)
      (try clear hk)
      (try clear hi)
      refine hK.out _ _ ⟨(Zq BK83001.out 0).trans rfl,(Zq BK83001.out 1).trans rfl,(Zq BK83001.out 2).trans rfl⟩ (fun hHeld=>?_)
      clear hK K
      refine ZaE (a':=?_) ?_ ?_
      rotate_left
      ·show Act.put _ (some 12) _=_
       simp only[Act.put,List.setIfInBounds_toArray,List.set_cons_zero,List.set_cons_succ,ZC,ZD]
       rfl
      refine ZO (i:=4) (N:=some 7) (v:=?_) (a':=?_) #[true,true,true,true,true] rfl rfl (by kernel_rfl) (fun _ _ _ h=>h) (Or.inl ⟨by rfl,?_⟩) ?_ ?_
      rotate_left
      ·intro w'
       go_simp
       with_reducible rfl
      rotate_left
      ·simp only[Act.put,List.setIfInBounds_toArray,List.set_cons_zero,List.set_cons_succ,ZC,ZD]
       rfl
      refine ZbJ (by kernel_rfl) ?_
      have hcz35_0:w34.cell? ⟨gb83001,0,none⟩=some (.slice A0_0 l0_0.length c0_0):=(Zq BK83001.out 0).trans rfl
      have hcz35_1:w34.cell? ⟨gb83001,1,none⟩=some (.slice A0_1 l0_1.length c0_1):=(Zq BK83001.out 1).trans rfl
      have hcz35_2:w34.cell? ⟨gb83001,2,none⟩=some (.int .i64 a0_2):=(Zq BK83001.out 2).trans rfl
      have hfz35_0:=Zt BK83001.out 0
      have hfz35_1:=Zt BK83001.out 1
      have hfz35_2:=Zt BK83001.out 2
      have p83004:0≤(t83003:Int):=Zd (by first|(with_reducible assumption)|assumption)
      have q83004:t83003<(l0_0.length:Int):=Zd (by first|(with_reducible assumption)|assumption)
      obtain⟨ad83004,A83004_1,c83004_1,e83004,hx83004_0,hx83004_1,hx83004_2,hl83004_1,hi83004_1⟩:=Zan HR0_0.out t83003 p83004 q83004
      cases e83004
      replace hx83004_0:=(HB.out.cell (Zc w _ hx83004_0)).trans hx83004_0
      replace hx83004_1:=(HB.out.cell (Zc w _ hx83004_1)).trans hx83004_1
      replace hx83004_2:=(HB.out.cell (Zc w _ hx83004_2)).trans hx83004_2
      have HR83004_1:=Za hi83004_1;have HC83004_1:=Za hl83004_1;clear hi83004_1 hl83004_1
      replace p83004:=eq_true p83004
      replace q83004:=eq_true q83004
      try go_wp2_with (first|((with_reducible refine ZG (f:=62) rfl ?_);refine ZX (some 23) rfl rfl Tryd.func62 (by kernel_rfl) rfl #[.slice A83004_1 ((Zp l0_0 t83003).f1).length c83004_1,.int .i64 a2] rfl (by(try simp only[List.map_toArray,List.map_cons,List.map_nil]);first|done|rfl|(simp only[Zk,Zj];rfl)) ?_;(with_reducible refine(ZW.calls _ _ ((Zp l0_0 t83003).f1) a2 false _ ?side1 ?side2 A13.out).mono ?_);(case side1=>repeat(first|exact(Zb HR83004_1.out HB.out)|(with_reducible refine Kd.C_alloc ?_ _)|(with_reducible refine Kd.C_drewN ?_ _)|(with_reducible refine Kd.C_drew ?_)));(case side2=>exact HC83004_1.out);rintro e w36 ⟨rfl,hb⟩;refine⟨_,rfl,?_⟩;replace BK83001:=Za (ZB (g:=gb83001) (o:=.cells #[.slice (some ad83004) l0_0.length c0_0,.slice A0_1 l0_1.length c0_1,.int .i64 a0_2] 36 (0,0)) (by(with_reducible repeat(first|refine Zu ?_ _|refine Zv ?_|refine Zs ?_ _));exact BK83001.out) hb);replace HB:=Za (Zx (by repeat(first|(with_reducible first|exact HB.out|apply Zn|apply Zm|apply Zo|refine Zr ?_ GE83001.out)|exact HB.out)) hb);(try clear hb);(try clear hb2);(try clear hk);(try clear hi))|(go_at_call 62;(with_reducible refine(ZW.calls _ _ ((Zp l0_0 t83003).f1) (wrap64 (-a2)) false _ ?side1 ?side2 A21.out).mono ?_);(case side1=>repeat(first|exact(Zb HR83004_1.out HB.out)|(with_reducible refine Kd.C_alloc ?_ _)|(with_reducible refine Kd.C_drewN ?_ _)|(with_reducible refine Kd.C_drew ?_)));(case side2=>exact HC83004_1.out);rintro e w37 ⟨rfl,hb⟩;replace BK83001:=Za (ZB (g:=gb83001) (o:=.cells #[.slice (some ad83004) l0_0.length c0_0,.slice A0_1 l0_1.length c0_1,.int .i64 a0_2] 36 (0,0)) (by(with_reducible repeat(first|refine Zu ?_ _|refine Zv ?_|refine Zs ?_ _));exact BK83001.out) hb);replace HB:=Za (Zx (by repeat(first|(with_reducible first|exact HB.out|apply Zn|apply Zm|apply Zo|refine Zr ?_ GE83001.out)|exact HB.out)) hb);(try clear hb);(try clear hb2);(try clear hk);(try clear hi))|(go_at_call 28;(with_reducible refine(Zap.calls k _ _ l1 _ _ ((Zp l0_0 t83003).f1) t83007 _ ?side1 ?side2 ?side3 ?side4 A30.out).mono ?_);(case side1=>repeat(first|exact(Zb HR1.out HB.out)|(with_reducible refine Kd.C_alloc ?_ _)|(with_reducible refine Kd.C_drewN ?_ _)|(with_reducible refine Kd.C_drew ?_)));(case side2=>exact HC1.out);(case side3=>repeat(first|exact(Zb HR83004_1.out HB.out)|(with_reducible refine Kd.C_alloc ?_ _)|(with_reducible refine Kd.C_drewN ?_ _)|(with_reducible refine Kd.C_drew ?_)));(case side4=>exact HC83004_1.out);rintro e w38 ⟨rfl,hb⟩;replace BK83001:=Za (ZB (g:=gb83001) (o:=.cells #[.slice (some ad83004) l0_0.length c0_0,.slice A0_1 l0_1.length c0_1,.int .i64 a0_2] 36 (0,0)) (by(with_reducible repeat(first|refine Zu ?_ _|refine Zv ?_|refine Zs ?_ _));exact BK83001.out) hb);replace HB:=Za (Zx (by repeat(first|(with_reducible first|exact HB.out|apply Zn|apply Zm|apply Zo|refine Zr ?_ GE83001.out)|exact HB.out)) hb);(try clear hb);(try clear hb2);(try clear hk);(try clear hi)))
      go_ret
      exact⟨by first|rfl|(simp[ZA,Zz] <;> rfl)|(simp[*,ZA,Zz] <;> rfl),by repeat(first|(with_reducible first|exact HB.out|apply Zn|apply Zm|apply Zo|refine Zr ?_ GE83001.out)|exact HB.out)⟩
   ·rw[if_neg c12] at H
    exact absurd H (by simp)
  ·rw[if_neg c11] at H
   exact absurd H (by simp)
end Go.Proofs.YthphnhmabieflaaDoor.Pr
namespace Go.Proofs.YthphnhmabieflaaDoor.Pr
open Go.RowKit Go.Proofs.YthphnhmabieflaaDoorW.PrintWords Go.Proofs.YthphnhmabieflaaDoor.Ni
def ZdP (ns:List Z2) (lb:List Int) (x w:Int):Bool:=
 decide (0≤w) && !((Zp ns w).f1.any fun y=>decide (x=y)) && !((Zp ns w).f1.any fun y=>decide (-x=y)) && impB lb (Zp ns w).f1
def ZbE (ns:List Z2) (lb:List Int) (x:Int):Bool:=ZdP ns lb x (Zb1 ns (prp x))
theorem isWatched_f (ns:List Z2) (ts:List PTie) (z:Int) (lb:List Int) (x:Int) (hb:∀n∈ns,n.f1.length≤9223372036854775807) (hl:lb.length≤9223372036854775807) (hx:Za7 x=true) (k:Nat) (hk:2 ^ 64≤k) :
  Zbu.f k ns ts z lb x=some (ZbE ns lb x):=by
 have hx3:=(Zbk x).1 hx
 have hbd:=idxOf_bd (fun n:Z2=>decide (0<prp x) && decide (n.f2=prp x)) ns
 unfold Zbu.f
 rw[Zc4 hx,Zi]
 unfold Za8.f ZbE ZdP
 rw[Zi]
 have hbd' : -1≤Zb1 ns (prp x)∧Zb1 ns (prp x)<ns.length:=hbd
 generalize Zb1 ns (prp x)=w at hbd' ⊢
 by_cases h:w<0
 ·rw[if_pos h,Zf (show ¬0≤w by omega)];rfl
 ·rw[if_neg h,if_pos (by omega),if_pos (by omega),Ze (show 0≤w by omega)]
  have hm:(Zp ns w).f1.length≤9223372036854775807:=by
   obtain⟨n,rfl⟩:=Int.eq_ofNat_of_zero_le (show 0≤w by omega)
   rw[show Zp ns (n:Int)=ns.getD n z73 from Zbi ns n]
   exact hb _ (Zbp (by omega) _)
  unfold ZW.f
  rw[Zi,Zbb (i:=-x) (by omega) (by omega),Zde lb _ hl hm k hk]
  simp only[Zi,Bool.true_and]
  cases (Zp ns w).f1.any fun y=>decide (x=y)
  ·cases (Zp ns w).f1.any fun y=>decide (-x=y)
   ·simp
   ·rfl
  ·rfl
end Go.Proofs.YthphnhmabieflaaDoor.Pr
namespace Go.Proofs.YthphnhmabieflaaDoor.Pr
open Go.RowKit Go.Proofs.YthphnhmabieflaaDoorW.PrintWords Go.Proofs.YthphnhmabieflaaDoorW.PrintLast Go.Proofs.YthphnhmabieflaaDoorW.PrintMore
attribute [local go_sem] Zah Zaf Zas Zar Z8 Z7 Zag Zae
set_option linter.unusedVariables false
set_option linter.unusedSimpArgs false
def Zck.f (a0:Int):Option (Bool):=if a0≥(-20) then(some (decide (a0≤20))) else(some false)
set_option maxHeartbeats 8000000 in
set_option maxRecDepth 100000 in
theorem Zck.calls (a0:Int) (r:Bool) (w:World) (h:Zck.f a0=some r) :
  Calls Tryd.prog 111 #[.int .i64 a0] w fun e w'=>e=.returned (.bool r)∧ZE w w':=by
 have H:(if a0≥(-20) then(some (decide (a0≤20))) else(some false))=some r:=h
 clear h
 by_cases c2:a0≥(-20)
 ·rw[if_pos c2] at H
  have c2b0:decide ((-20)≤a0)=true:=Ze c2
  clear c2
  obtain rfl:=Zg H
  go_enter Tryd.func111,Tryd.ntmps111
  go_wp2
  go_ret
  exact⟨by first|rfl|(simp;done)|(simp[*];done),by repeat(first|exact ZE.refl _|apply ZE.step)⟩
 ·rw[if_neg c2] at H
  have c2b0:decide ((-20)≤a0)=false:=Zf c2
  clear c2
  obtain rfl:=Zg H
  go_enter Tryd.func111,Tryd.ntmps111
  go_wp2
  go_ret
  exact⟨by first|rfl|(simp;done)|(simp[*];done),by repeat(first|exact ZE.refl _|apply ZE.step)⟩
end Go.Proofs.YthphnhmabieflaaDoor.Pr
namespace Go.Proofs.YthphnhmabieflaaDoor.Pr
open Go.RowKit Go.Proofs.YthphnhmabieflaaDoorW.PrintWords Go.Proofs.YthphnhmabieflaaDoorW.PrintLast Go.Proofs.YthphnhmabieflaaDoorW.PrintMore
attribute [local go_sem] Zah Zaf Zas Zar Z8 Z7 Zag Zae
set_option linter.unusedVariables false
set_option linter.unusedSimpArgs false
open Go.Proofs.YthphnhmabieflaaDoor.Ni
set_option maxHeartbeats 4000000 in
theorem impl_Tie_134.any (p:S66→Bool) (g:Nat) (lb:Array Value) (eg:∀args w,(callFunc g args).run Tryd.prog w=.ok (.enter g args) w) (A0:Option Addr) (c0:Nat) (l0:List S66) (w:World) (hr0:Kd.C k66 w A0 l0.length l0)
  (hp:∀(W:World) (x:S66),x∈l0→Below w.heap.size w W→Calls Tryd.prog g (#[.agg #[.int .i64 x.f0,.int .i64 x.f1,.int .i64 x.f2,.int .i64 x.f3,.bool x.f4]] ++ lb) W fun e w'=>e=.returned (.bool (p x))∧Below W.heap.size W w') :
  Calls Tryd.prog 134 #[.slice A0 l0.length c0,.func (.func g) #[] lb] w fun e w'=>e=.returned (.int .i64 (Zbn p l0))∧Below w.heap.size w w':=by
 have HR0:=Za hr0;have HP:=Za hp;clear hr0 hp
 have HL:l0.length≤9223372036854775807:=HR0.out.2.1
 go_enter Tryd.func134,Tryd.ntmps134
 go_wp2
 go_loopg [5,8] l0.length (fun gg _ s8 wr=>∃kk:Nat,Aside0 (kk≤l0.length)∧Aside0 (l0.length - kk≤gg)∧s8=.int .i64 kk∧Aside0 (Below w.heap.size w wr)∧Aside0 (∀j y,j<kk→l0[j]? = some y→p y=false))
 case atStart=>exact⟨0,⟨Nat.zero_le _⟩,⟨by omega⟩,rfl,⟨Below.refl _ _⟩,⟨fun j y hj=>absurd hj (Nat.not_lt_zero _)⟩⟩
 case round=>
  obtain⟨kk,HK,HG,rfl,HB,HN⟩:=hrel
  by_cases hlt:kk<l0.length
  ·have hltz:(kk:Int)<(l0.length:Int):=by omega
   obtain⟨ad,e1,hx0,hx1,hx2,hx3,hx4⟩:=ZbT HR0.out (kk:Int) (by omega) hltz
   cases e1
   replace hx0:=(HB.out.cell (Zc w _ hx0)).trans hx0
   rw[Int.toNat_natCast] at hx0
   replace hx1:=(HB.out.cell (Zc w _ hx1)).trans hx1
   rw[Int.toNat_natCast] at hx1
   replace hx2:=(HB.out.cell (Zc w _ hx2)).trans hx2
   rw[Int.toNat_natCast] at hx2
   replace hx3:=(HB.out.cell (Zc w _ hx3)).trans hx3
   rw[Int.toNat_natCast] at hx3
   replace hx4:=(HB.out.cell (Zc w _ hx4)).trans hx4
   rw[Int.toNat_natCast] at hx4
   have hxe:l0[kk]? = some (Zw l0 (kk:Int)):=by
    unfold Zw
    rw[Int.toNat_natCast,List.getD_eq_getElem?_getD,Zl hlt];rfl
   generalize Zw l0 (kk:Int)=y at hx0 hx1 hx2 hx3 hx4 hxe
   have HX:=Za hxe;clear hxe
   have hcall:=HP.out wr y (List.mem_of_getElem? HX.out) HB.out
   cases hq:p y with
   | true=>
    have HQ:=Za hq
    rw[hq] at hcall
    clear hq
    go_wp2_with (go_at_fn g;refine hcall.mono ?_;rintro e w' ⟨rfl,hb⟩)
    go_ret
    exact⟨by rw[ZbO p l0 kk y HX.out HQ.out HN.out];rfl,HB.out.trans (hb.mono HB.out.size)⟩
   | false=>
    have HQ:=Za hq
    rw[hq] at hcall
    clear hq
    go_wp2_with (go_at_fn g;refine hcall.mono ?_;rintro e w' ⟨rfl,hb⟩)
    go_roundg (l0.length - (kk+1))
    case measure=>have:=HG.out;omega
    case rel=>
     refine⟨kk+1,⟨by omega⟩,⟨by omega⟩,by go_num,⟨HB.out.trans (hb.mono HB.out.size)⟩,⟨fun j y' hj hy=>?_⟩⟩
     by_cases e:j=kk
     ·subst e
      rw[HX.out] at hy
      cases hy
      exact HQ.out
     ·exact HN.out j y' (by omega) hy
  ·have hltz:¬(kk:Int)<(l0.length:Int):=by omega
   have:kk=l0.length:=by have:=HK.out;omega
   subst this
   go_wp2
   go_ret
   exact⟨by rw[ZbD p l0 HN.out];rfl,HB.out⟩
set_option maxHeartbeats 4000000 in
theorem impl_Tie_113.any (p:S66→Bool) (g:Nat) (lb:Array Value) (eg:∀args w,(callFunc g args).run Tryd.prog w=.ok (.enter g args) w) (A0:Option Addr) (c0:Nat) (l0:List S66) (w:World) (hr0:Kd.C k66 w A0 l0.length l0)
  (hp:∀(W:World) (x:S66),x∈l0→Below w.heap.size w W→Calls Tryd.prog g (#[.agg #[.int .i64 x.f0,.int .i64 x.f1,.int .i64 x.f2,.int .i64 x.f3,.bool x.f4]] ++ lb) W fun e w'=>e=.returned (.bool (p x))∧Below W.heap.size W w') :
  Calls Tryd.prog 113 #[.slice A0 l0.length c0,.func (.func g) #[] lb] w fun e w'=>e=.returned (.bool (l0.any p))∧Below w.heap.size w w':=by
 have HI:=Za (impl_Tie_134.any p g lb eg A0 c0 l0 w hr0 hp)
 clear hr0 hp
 have HE:=Za (Zdv p l0)
 go_enter Tryd.func113,Tryd.ntmps113
 go_wp2_with (go_at_call 134;refine HI.out.mono ?_;rintro e w' ⟨rfl,hb⟩)
 go_ret
 exact⟨by rw[← HE.out];rfl,hb⟩
end Go.Proofs.YthphnhmabieflaaDoor.Pr
namespace Go.Proofs.YthphnhmabieflaaDoor.Pr
open Go.RowKit Go.Proofs.YthphnhmabieflaaDoorW.PrintWords Go.Proofs.YthphnhmabieflaaDoorW.PrintLast Go.Proofs.YthphnhmabieflaaDoorW.PrintMore
attribute [local go_sem] Zah Zaf Zas Zar Z8 Z7 Zag Zae
set_option linter.unusedVariables false
set_option linter.unusedSimpArgs false
def Za2.f (a0:Int) (a1:Int):Option (Bool):=if a1≥0 then(some (decide (a1<a0))) else(some false)
set_option maxHeartbeats 8000000 in
set_option maxRecDepth 100000 in
theorem Za2.calls (a0:Int) (a1:Int) (r:Bool) (w:World) (h:Za2.f a0 a1=some r) :
  Calls Tryd.prog 49 #[.int .i64 a0,.int .i64 a1] w fun e w'=>e=.returned (.bool r)∧ZE w w':=by
 have H:(if a1≥0 then(some (decide (a1<a0))) else(some false))=some r:=h
 clear h
 by_cases c3:a1≥0
 ·rw[if_pos c3] at H
  have c3b0:decide (0≤a1)=true:=Ze c3
  clear c3
  obtain rfl:=Zg H
  go_enter Tryd.func49,Tryd.ntmps49
  go_wp2
  go_ret
  exact⟨by first|rfl|(simp;done)|(simp[*];done),by repeat(first|exact ZE.refl _|apply ZE.step)⟩
 ·rw[if_neg c3] at H
  have c3b0:decide (0≤a1)=false:=Zf c3
  clear c3
  obtain rfl:=Zg H
  go_enter Tryd.func49,Tryd.ntmps49
  go_wp2
  go_ret
  exact⟨by first|rfl|(simp;done)|(simp[*];done),by repeat(first|exact ZE.refl _|apply ZE.step)⟩
end Go.Proofs.YthphnhmabieflaaDoor.Pr
